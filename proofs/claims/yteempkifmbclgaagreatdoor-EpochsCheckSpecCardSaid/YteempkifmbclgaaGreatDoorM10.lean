/-
  The engine, the plain laws and the walks that the rows need, part 10. Conditions: none.
-/
import Derived.Test.YteempkifmbclgaaGreatDoorM9
import Derived.ProofKit
import Derived.Deep.Slices
import Derived.LaidMore
import Derived.OpenShut
import Derived.Lib.AppendZerosOnto
set_option linter.unusedVariables false
set_option linter.unusedSimpArgs false
set_option maxHeartbeats 1000000
set_option maxRecDepth 10000
-- AbsL
namespace Go.Abs
open Go Go.Eng
inductive D where
  |int (k:IntKind)|bool|str|sl (e:D)|arr (n:Nat) (e:D)|st (fs:List D)
  deriving Inhabited
mutual
def D.cells:D→Nat
  | .int _=>1| .bool=>1| .str=>1| .sl _=>1
  | .arr n e=>n*e.cells
  | .st fs=>D.bJ fs
def D.bJ:List D→Nat
  | []=>0
  |d::ds=>d.cells+D.bJ ds
end
mutual
def Den:D→List A→Prop
  | .int k,aS=>∃n,(Lit.int k n).wf=true∧aS= [.i k n]
  | .bool,aS=>∃b,aS= [.b b]
  | .str,aS=>∃l:List UInt8,l.length≤maxLen∧aS= [.s l]
  | .sl e,aS=>∃ls:List (List A),(∀x∈ls,Den e x)∧ls.length≤maxLen∧aS= [.fz ls.length ls.flatten]
  | .arr n e,aS=>∃ls:List (List A),(∀x∈ls,Den e x)∧ls.length=n∧aS=ls.flatten
  | .st fs,aS=>jH fs aS
def jH:List D→List A→Prop
  | [],aS=>aS= []
  |d::ds,aS=>∃x y,Den d x∧jH ds y∧aS=x++y
end
def isInt (k:IntKind):Option TypeDesc→Bool
  |some (.int j)=>Nat.beq (gW j) (gW k)
  |_=>false
def isBool:Option TypeDesc→Bool
  |some .bool=>true
  |_=>false
def isStr:Option TypeDesc→Bool
  |some .string=>true
  |_=>false
mutual
def jR (P:Program):D→TypeId→Bool
  | .int k,t=>isInt k (P.underlying t)
  | .bool,t=>isBool (P.underlying t)
  | .str,t=>isStr (P.underlying t)
  | .sl e,t=>match P.underlying t with|some (.slice u)=>jR P e u&&Nat.beq (P.cellsOf u) e.cells&&Nat.blt 0 e.cells|_=>false
  | .arr n e,t=>match P.underlying t with|some (.array m u)=>Nat.beq m n&&jR P e u&&Nat.beq (P.cellsOf u) e.cells&&Nat.beq (P.cellsOf t) (n*e.cells)|_=>false
  | .st ds,t=>match P.underlying t with|some (.struct fs)=>lY P ds fs.toList 0&&Nat.beq (P.cellsOf t) (D.bJ ds)|_=>false
def lY (P:Program):List D→List Field→Nat→Bool
  | [], [],_=>true
  |d::ds,f::fs,o=>Nat.beq f.offset o&&Nat.beq (P.cellsOf f.type) d.cells&&jR P d f.type&&lY P ds fs (o+d.cells)
  |_,_,_=>false
end
theorem FH {w:World} {a:Addr} {v:Value} (h:w.cell? a=some v):a.spot=none:=by
  unfold World.cell? at h
  split at h
  · split at h
    · cases h
    · rename_i hs;simpa using hs
  · cases h
theorem yw {a:Addr} (h:(a.add 0).spot=none):a.spot=none:=by
  simpa [Addr.add]using h
theorem add_plain {a:Addr} (h:a.spot=none) (i:Nat):a.add i=⟨a.block,a.off+i,none⟩:=by
  unfold Addr.add
  cases a
  simp at h
  subst h
  simp
def XW (w:World):Xs:=fun b o=>∃v,w.cell? ⟨b,o,none⟩=some v
theorem ED {w:World}:∀b o,XW w b o→b<w.heap.size:=by
  rintro b o ⟨v,h⟩
  unfold World.cell? at h
  split at h
  · rename_i c e q hb
    obtain⟨hlt,_⟩:=Array.getElem?_eq_some_iff.1 hb
    exact hlt
  · cases h
section
variable {H:Type} {enc:TypeId×Value→H} {P:Program} {w:World} {base:Nat} {held:Bool}
theorem yh {X:Xs}:∀ {cs ds:List A} {b o:Nat},VM X w cs b o→VM X w ds b (o+cs.length)→VM X w (cs++ds) b o
  | [],ds,b,o,_,h=>by simpa using h
  | c :: cs, ds, b, o, h, h' => by
    simp only [VM,List.cons_append]at h ⊢
    refine⟨h.1,h.2.1,yh h.2.2 ?_⟩
    rw [show o+1+cs.length=o+(c::cs).length by simp;omega]
    exact h'
theorem Eu {aS:List A} {cs:List Value} {b o:Nat} (hv:VS (XW w) w no aS cs) (h1:∀x∈cs,x.oneCell'=true) (hc:∀i,i<cs.length→w.cell? ⟨b,o+i,none⟩=cs[i]?):VM (XW w) w aS b o:=by
  refine ku fun j c hj=>?_
  obtain⟨u,hu,hvu⟩:=fx hv hj
  have hlt:=(List.getElem?_eq_some_iff.1 hu).1
  have hcell:=hc j hlt
  rw [hu]at hcell
  exact⟨⟨u,hcell⟩,u,hcell,hvu,h1 _ (List.mem_of_getElem? hu)⟩
theorem yj {sz : Nat} {b : Nat} {W : Nat → List A} (hl : ∀ i, (W i).length = sz ∨ True) : ∀ (n o : Nat), (∀ i, i < n → (W i).length = sz ∧ VM (XW w) w (W i) b (o + i * sz)) → VM (XW w) w ((List.range n).map W).flatten b o
  |0,o,_=>by simp [VM]
  | n + 1, o, h => by
    rw [List.range_succ,List.map_append,List.flatten_append]
    refine yh (yj hl n o fun i hi=>h i (by omega)) ?_
    have e:((List.range n).map W).flatten.length=n*sz:=by
      have:∀m,m≤n→((List.range m).map W).flatten.length=m*sz:=by
        intro m
        induction m with
        |zero=>intro _;simp
        | succ m ih =>
          intro hm
          rw [List.range_succ,List.map_append,List.flatten_append,List.length_append,ih (by omega)]
          simp only [List.map_cons,List.map_nil,List.flatten_cons,List.flatten_nil,List.append_nil]
          rw [(h m (by omega)).1,Nat.succ_mul]
      exact this n (Nat.le_refl _)
    rw [e]
    simpa using (h n (by omega)).2
theorem Be {k:IntKind} {x:Option TypeDesc} (h:isInt k x=true):x=some (.int k):=by
  unfold isInt at h
  split at h
  · rename_i j
    have:gW j=gW k:=Nat.eq_of_beq_eq_true h
    have:j=k:=by cases j<;>cases k<;>first|rfl|(simp [gW]at this)
    rw [this]
  · cases h
theorem Bd {x:Option TypeDesc} (h:isBool x=true):x=some .bool:=by
  unfold isBool at h;split at h
  · rfl
  · cases h
theorem Bf {x:Option TypeDesc} (h:isStr x=true):x=some .string:=by
  unfold isStr at h;split at h
  · rfl
  · cases h
theorem yl {X:Xs} {β:Bm}:∀ {ls:List (List A)} {us:List (List Value)},ls.length=us.length→(∀(i:Nat) (l:List A) (u:List Value),ls[i]? =some l→us[i]? =some u→VS X w β l u)→VS X w β ls.flatten us.flatten
  | [], [],_,_=>dt
  |l::ls,u::us,hl,h=>eG (h 0 l u rfl rfl) (yl (by simpa using hl) fun i l u h1 h2=>h (i+1) l u (by simpa using h1) (by simpa using h2))
theorem v7 {α:Type} {sz:Nat}:∀(n:Nat) (l:List α),l.length=n*sz→((List.range n).map fun i=>(l.drop (i*sz)).take sz).flatten=l
  | 0, l, h => by
    have:l= []:=List.eq_nil_of_length_eq_zero (by simpa using h)
    subst this;rfl
  | n + 1, l, h => by
    have hs:(n+1)*sz=n*sz+sz:=Nat.succ_mul n sz
    rw [List.range_succ,List.map_append,List.flatten_append]
    have e:((List.range n).map fun i=>(l.drop (i*sz)).take sz)=(List.range n).map fun i=>((l.take (n*sz)).drop (i*sz)).take sz:=by
      refine List.map_congr_left fun i hi=>?_
      have hi':i<n:=by simpa using hi
      rw [List.drop_take,List.take_take]
      congr 1
      have:i*sz+sz≤n*sz:=by rw [←Nat.succ_mul];exact Nat.mul_le_mul_right sz hi'
      omega
    rw [e,v7 n (l.take (n*sz)) (by rw [List.length_take,h];omega)]
    simp only [List.map_cons,List.map_nil,List.flatten_cons,List.flatten_nil,List.append_nil]
    rw [List.take_of_length_le (l:=l.drop (n*sz)) (by rw [List.length_drop,h];omega)]
    exact List.take_append_drop _ _
mutual
theorem qV : ∀ (d : D) (aS : List A), Den d aS → aS.length = d.cells
  | .int k,aS,h=>by simp only [Den]at h;obtain⟨n,_,rfl⟩:=h;rfl
  | .bool,aS,h=>by simp only [Den]at h;obtain⟨n,rfl⟩:=h;rfl
  | .str,aS,h=>by simp only [Den]at h;obtain⟨n,_,rfl⟩:=h;rfl
  | .sl e,aS,h=>by simp only [Den]at h;obtain⟨n,_,_,rfl⟩:=h;rfl
  | .arr n e, aS, h => by
    simp only [Den]at h
    obtain⟨ls,h1,h2,rfl⟩:=h
    subst h2
    have:∀ls:List (List A),(∀x∈ls,Den e x)→ls.flatten.length=ls.length*e.cells:=by
      intro ls
      induction ls with
      |nil=>intro _;simp
      | cons l ls ih =>
        intro h
        rw [List.flatten_cons,List.length_append,qV e l (h l (.head _)),ih fun x hx=>h x (.tail _ hx),List.length_cons,Nat.succ_mul];omega
    exact this ls h1
  | .st fs,aS,h=>by simp only [Den]at h;exact x9 fs aS h
theorem x9:∀(ds:List D) (aS:List A),jH ds aS→aS.length=D.bJ ds
  | [],aS,h=>by simp only [jH]at h;subst h;rfl
  | d :: ds, aS, h => by
    simp only [jH]at h
    obtain⟨x,y,h1,h2,rfl⟩:=h
    rw [List.length_append,qV d x h1,x9 ds y h2];rfl
end
mutual
theorem tq : ∀ (d : D) (t : TypeId) (fuel : Nat) (cs : List Value) (x : DataW H × List MemPlace), jR P d t = true → DataW.trod enc P w base (fun _ => true) held fuel t cs = some x → ∃ aS, Den d aS ∧ VS (XW w) w no aS cs ∧ ∀ u ∈ cs, u.oneCell' = true
  | .int k, t, fuel, cs, x, hf, h => by
    obtain⟨n,rfl,_,hw⟩:=DataW.trod_int (Be hf) h
    exact⟨[.i k n],⟨n,hw,rfl⟩,cW (by simp [V]) dt,by simp [Value.oneCell']⟩
  | .bool, t, fuel, cs, x, hf, h => by
    obtain⟨b,rfl,_⟩:=DataW.trod_bool (Bd hf) h
    exact⟨[.b b],⟨b,rfl⟩,cW (by simp [V]) dt,by simp [Value.oneCell']⟩
  | .str, t, fuel, cs, x, hf, h => by
    obtain⟨s,rfl,_,hs⟩:=DataW.trod_string (Bf hf) h
    exact⟨[.s s.data.toList],⟨_,by simpa using hs,rfl⟩,cW (by simp [V]) dt,by simp [Value.oneCell']⟩
  | .sl e, t, fuel, cs, x, hf, h => by
    simp only [jR]at hf
    split at hf
    · rename_i u ht
      simp only [Bool.and_eq_true]at hf
      obtain⟨⟨hf1,hf2⟩,hf3⟩:=hf
      have hsz:P.cellsOf u=e.cells:=Nat.eq_of_beq_eq_true hf2
      have hpos:0<e.cells:=Nat.lt_of_succ_le (by simpa [Nat.blt]using hf3)
      rcases Deep.open_slice ht h with ⟨rfl,_⟩|⟨a,len,cap,m,n,DD,Pl,rfl,_,hl,hm,hmm,_,hx⟩
      · refine ⟨[.fz 0 []], ⟨[], (fun x hx => by cases hx), Nat.zero_le _, rfl⟩, cW ?_ dt, by simp [Value.oneCell']⟩
        simp only [V]
        exact⟨none,0,rfl,Nat.le_refl _,Nat.zero_le _,fun _=>rfl,(fun h=>absurd h (Nat.lt_irrefl _)),by simp [VM]⟩
      · simp only [if_true] at hmm
        subst hmm
        have hV:∀i,i<m→∃q:List A×List Value,(Den e q.1∧VS (XW w) w no q.1 q.2∧∀u∈q.2,u.oneCell'=true)∧w.cells? base (a.add (i*P.cellsOf u)) (P.cellsOf u)=some q.2:=fun i hi=>by
          obtain⟨cs',h1,h2⟩:=hx i hi
          obtain⟨aS,g1,g2,g3⟩:=tq e u n cs' _ hf1 h2
          exact⟨(aS,cs'),⟨g1,g2,g3⟩,h1⟩
        obtain⟨W,hW⟩:=Deep.choose_lt (α:=List A×List Value) (p:=fun i q=>(Den e q.1∧VS (XW w) w no q.1 q.2∧∀u∈q.2,u.oneCell'=true)∧w.cells? base (a.add (i*P.cellsOf u)) (P.cellsOf u)=some q.2) hV
        rw [hsz]at hW
        have hspot:0<m→a.spot=none:=fun h0=>by
          obtain⟨_,_,hc⟩:=World.cells?_some (hW 0 h0).2
          have hln:(W 0).2.length=e.cells:=by rw [cL (hW 0 h0).1.2.1,qV e _ (hW 0 h0).1.1]
          have:=hc 0 (by omega)
          rw [List.getElem?_eq_getElem (by omega)]at this
          have h1:=FH this
          rw [Nat.zero_mul]at h1
          exact yw (yw h1)
        refine⟨[.fz len ((List.range len).map fun i=>(W i).1).flatten],⟨(List.range len).map fun i=>(W i).1,?_,by simp;omega,by simp⟩,cW ?_ dt,by simp [Value.oneCell']⟩
        · intro x hx
          obtain⟨i,hi,rfl⟩:=List.mem_map.1 hx
          exact(hW i (by have:=List.mem_range.1 hi;omega)).1.1
        · simp only [V]
          refine⟨some a,m,rfl,hl,hm,(fun h=>by cases h),(fun h0 x hx=>by cases hx;exact hspot h0),?_⟩
          refine yj (sz:=e.cells) (W:=fun i=>(W i).1) (fun _=> .inr trivial) len _ fun i hi=>?_
          obtain⟨⟨g1,g2,g3⟩,g4⟩:=hW i (by omega)
          obtain⟨_,hlen,hc⟩:=World.cells?_some g4
          refine⟨qV e _ g1,Eu g2 g3 fun k hk=>?_⟩
          have h2:=hc k (by omega)
          have hs:=hspot (by omega)
          rw [add_plain hs,add_plain rfl]at h2
          exact h2
    · cases hf
  | .arr k e, t, fuel, cs, x, hf, h => by
    simp only [jR]at hf
    split at hf
    · rename_i m u ht
      simp only [Bool.and_eq_true]at hf
      obtain⟨⟨⟨hm,hf1⟩,hf2⟩,hf3⟩:=hf
      have hmk:m=k:=Nat.eq_of_beq_eq_true hm
      subst hmk
      have hsz:P.cellsOf u=e.cells:=Nat.eq_of_beq_eq_true hf2
      have hst:P.cellsOf t=m*e.cells:=Nat.eq_of_beq_eq_true hf3
      obtain⟨xs,n,_,_,hl,hxl,hx⟩:=DataW.trod_array ht h
      rw [hsz]at hx
      rw [hst]at hl
      have hV:∀i,i<m→∃aS:List A,Den e aS∧VS (XW w) w no aS ((cs.drop (i*e.cells)).take e.cells)∧∀u∈(cs.drop (i*e.cells)).take e.cells,u.oneCell'=true:=fun i hi=>by
        have:=hx i hi
        rw [List.getElem?_eq_getElem (by omega)]at this
        exact tq e u n _ _ hf1 this
      obtain⟨W,hW⟩:=Deep.choose_lt (α:=List A) (p:=fun i aS=>Den e aS∧VS (XW w) w no aS ((cs.drop (i*e.cells)).take e.cells)∧∀u∈(cs.drop (i*e.cells)).take e.cells,u.oneCell'=true) hV
      refine⟨((List.range m).map W).flatten,⟨(List.range m).map W,?_,by simp,rfl⟩,?_,?_⟩
      · intro x hx
        obtain⟨i,hi,rfl⟩:=List.mem_map.1 hx
        exact(hW i (List.mem_range.1 hi)).1
      · have e1 := v7 m cs hl
        rw [←e1]
        refine yl (by simp) fun i l u h1 h2=>?_
        rw [List.getElem?_map]at h1 h2
        obtain⟨j,hj,rfl⟩:=Option.map_eq_some_iff.1 h1
        rw [hj]at h2
        simp only [Option.map_some,Option.some.injEq]at h2
        subst h2
        exact(hW j (by have:=List.mem_range.1 (List.mem_of_getElem? hj);omega)).2.1
      · intro u hu
        rw [←v7 m cs hl]at hu
        obtain⟨l,hl',hu⟩:=List.mem_flatten.1 hu
        obtain⟨i,hi,rfl⟩:=List.mem_map.1 hl'
        exact(hW i (List.mem_range.1 hi)).2.2 u hu
    · cases hf
  | .st ds, t, fuel, cs, x, hf, h => by
    simp only [jR]at hf
    split at hf
    · rename_i fs ht
      simp only [Bool.and_eq_true]at hf
      have hst:P.cellsOf t=D.bJ ds:=Nat.eq_of_beq_eq_true hf.2
      obtain⟨xs,n,_,_,hl,hxl,hx⟩:=DataW.trod_struct ht h
      obtain⟨aS,g1,g2,g3⟩:=Cz ds fs.toList 0 n cs hf.1 (by rw [hl,hst]) (fun i f hi=>by
        have hi':fs[i]? =some f:=by simpa using hi
        have:=hx i f hi'
        have hlt:i<xs.length:=by rw [hxl];exact(Array.getElem?_eq_some_iff.1 hi').1
        rw [List.getElem?_eq_getElem hlt]at this
        exact⟨_,by rw [Nat.sub_zero];exact this⟩)
      exact⟨aS,g1,g2,g3⟩
    · cases hf
theorem Cz:∀(ds:List D) (fs:List Field) (o n:Nat) (cs:List Value),lY P ds fs o=true→cs.length=D.bJ ds→(∀(i:Nat) (f:Field),fs[i]? =some f→∃y:DataW H×List MemPlace,DataW.trod enc P w base (fun _=>true) held n f.type ((cs.drop (f.offset - o)).take (P.cellsOf f.type))=some y)→∃aS,jH ds aS∧VS (XW w) w no aS cs∧∀u∈cs,u.oneCell'=true
  | [], fs, o, n, cs, hf, hl, _ => by
    have:cs= []:=List.eq_nil_of_length_eq_zero hl
    subst this
    exact⟨[],rfl,dt,(fun u h=>by cases h)⟩
  |d::ds, [],o,n,cs,hf,hl,_=>by simp [lY]at hf
  | d :: ds, f :: fs, o, n, cs, hf, hl, h => by
    simp only [lY,Bool.and_eq_true]at hf
    obtain⟨⟨⟨h1,h2⟩,h3⟩,h4⟩:=hf
    have e1:f.offset=o:=Nat.eq_of_beq_eq_true h1
    have e2:P.cellsOf f.type=d.cells:=Nat.eq_of_beq_eq_true h2
    have hl':cs.length=d.cells+D.bJ ds:=hl
    obtain⟨y,hy⟩:=h 0 f rfl
    rw [e1,e2,Nat.sub_self,List.drop_zero]at hy
    obtain⟨aS,g1,g2,g3⟩:=tq d f.type n _ y h3 hy
    have hfo:=AP ds fs (o+d.cells) h4
    obtain⟨bs,k1,k2,k3⟩:=Cz ds fs (o+d.cells) n (cs.drop d.cells) h4 (by rw [List.length_drop];omega) (fun i f' hi=>by
      obtain⟨y,hy⟩:=h (i+1) f' (by simpa using hi)
      have hoff:=hfo f' (List.mem_of_getElem? hi)
      refine⟨y,?_⟩
      rw [List.drop_drop,show d.cells+(f'.offset - (o+d.cells))=f'.offset - o by omega]
      exact hy)
    refine⟨aS++bs,⟨aS,bs,g1,k1,rfl⟩,?_,?_⟩
    · have := eG g2 k2
      rwa [List.take_append_drop]at this
    · intro u hu
      rw [←List.take_append_drop d.cells cs]at hu
      exact(List.mem_append.1 hu).elim (g3 u) (k3 u)
theorem AP:∀(ds:List D) (fs:List Field) (o:Nat),lY P ds fs o=true→∀f∈fs,o≤f.offset
  | [], [],o,_,f,hm=>by cases hm
  | [],_::_,o,h,f,hm=>by simp [lY]at h
  |_::_, [],o,h,f,hm=>by cases hm
  | d :: ds, f' :: fs, o, h, f, hm => by
    simp only [lY,Bool.and_eq_true]at h
    have e1:f'.offset=o:=Nat.eq_of_beq_eq_true h.1.1.1
    rcases List.mem_cons.1 hm with rfl|hm
    · omega
    · have:=AP ds fs (o+d.cells) h.2 f hm;omega
end
def ES:D→List A→A
  | .arr _ _,aS=> .ag aS
  | .st _,aS=> .ag aS
  |_,aS=>aS.getD 0 un
theorem oN {t:TypeId} {r:Reach} {b0:Nat} {v:Value} {x:DataW H} {ps:List MemPlace} (d:D) (hf:jR P d t=true) (hval:Value.okWide P w r b0 t v) (h:DataW.Trod enc P w base (fun _=>true) held t v x ps):∃aS,Den d aS∧V (XW w) w no (ES d aS) v:=by
  obtain⟨fuel,hfu⟩:=h
  obtain⟨aS,g1,g2,g3⟩:=tq d t fuel _ _ hf hfu
  refine⟨aS,g1,?_⟩
  have agg:∀cs:Array Value,v= .agg cs→V (XW w) w no (.ag aS) v:=by
    rintro cs rfl
    simp only [V]
    exact⟨cs.toList,by simp,g2,g3⟩
  have scal:∀a,aS= [a]→v.cells= #[v]→V (XW w) w no (aS.getD 0 un) v:=by
    rintro a rfl hv
    rw [hv]at g2
    simp only [VS]at g2
    obtain⟨u,r,hu,hvu,rfl⟩:=g2
    simp only [List.cons.injEq,and_true]at hu
    subst hu
    exact hvu
  cases d with
  | int k =>
    obtain⟨n,rfl⟩:=WideShapes.okWide_int (Be hf) hval
    simp only [Den]at g1
    obtain⟨m,_,rfl⟩:=g1
    exact scal _ rfl rfl
  | bool =>
    obtain⟨n,rfl⟩:=WideShapes.okWide_bool (Bd hf) hval
    simp only [Den]at g1
    obtain⟨m,rfl⟩:=g1
    exact scal _ rfl rfl
  | str =>
    obtain⟨n,rfl⟩:=WideShapes.okWide_string (Bf hf) hval
    simp only [Den]at g1
    obtain⟨m,_,rfl⟩:=g1
    exact scal _ rfl rfl
  | sl e =>
    simp only [jR]at hf
    split at hf
    · rename_i u ht
      obtain⟨a,len,cap,rfl⟩:=WideShapes.okWide_slice ht hval
      simp only [Den]at g1
      obtain⟨m,_,_,rfl⟩:=g1
      exact scal _ rfl rfl
    · cases hf
  | arr n e =>
    simp only [jR]at hf
    split at hf
    · rename_i m u ht
      unfold Value.okWide at hval
      simp only [ht]at hval
      obtain⟨cs,rfl,_,_⟩:=hval
      exact agg cs rfl
    · cases hf
  | st ds =>
    simp only [jR]at hf
    split at hf
    · rename_i fs ht
      unfold Value.okWide at hval
      simp only [ht]at hval
      obtain⟨cs,rfl,_,_⟩:=hval
      exact agg cs rfl
    · cases hf
theorem uT (hl:laidOutB P=true) {W W':World} (hb:RowKit.Below W.heap.size W W'):∀(ts:List TypeId) (vs:List Value) (ds:List (DataW H)) (p:List MemPlace),(ts.all fun t=>P.readableRec t&&decide (t<P.types.size))=true→
    DataW.TrodAll enc P W 0 (fun _=>true) true ts vs ds p→(∀x∈p,x.block<W.heap.size)→DataW.TrodAll enc P W' 0 (fun b=>decide (b<W.heap.size)) true ts vs ds p
  | [], vs, ds, p, _, h, _ => by
    obtain⟨rfl,rfl,rfl⟩:=ChangeShapes.trodAll_nil h
    rfl
  | t :: ts, vs, ds, p, hall, h, hlt => by
    simp only [List.all_cons,Bool.and_eq_true,decide_eq_true_eq]at hall
    obtain⟨v,vs',d,ds',a,b,rfl,rfl,rfl,h1,h2⟩:=ChangeShapes.trodAll_cons h
    exact⟨a,b,RowKit.Below.trod hl hall.1.1 hall.1.2 h1 hb (fun x hx=>hlt x (by simp [hx])),uT hl hb ts vs' ds' b hall.2 h2 (fun x hx=>hlt x (by simp [hx])),rfl⟩
theorem zO {f:FuncId} {aS:List A} {us:List Value} {W:World} (hc:aA P f aS (aN (.b true))) (hg:GL (XW W) W) (hv:VS (XW W) W no aS us):
    Calls P f us.toArray W fun e W'=>e= .returned (.bool true)∧RowKit.Below W.heap.size W W':=by
  have h:=hc W (XW W) no us (fun _ _=>rfl) ED hg (fun id cs h=>by cases h) (fun i j ci cj b M N _ h=>by cases h) hv
  refine h.calls.mono fun e W' he=>?_
  obtain⟨v,rfl,r,β',X',st',hr,_,_,hm,hV⟩:=he
  have:r= .b true:=hr
  subst this
  simp only [V]at hV
  subst hV
  have kb:=hm.below
  refine⟨rfl,kb.os,kb.tape,kb.output,kb.size,fun k hk=>kb.block k hk ?_⟩
  rintro⟨id,cs,h,_⟩
  cases h
theorem ET {t e:TypeId} {n:Nat} {k:IntKind} {fuel:Nat} {cs:List Value} {l:List Int} {p:List MemPlace} {sp:Nat→Bool} {enc:TypeId×Value→Unit} (ht:P.underlying t=some (.array n e)) (he:P.underlying e=some (.int k)) (hc:P.cellsOf e=1) (hct:P.cellsOf t=n)
    (h:DataW.trod enc P w base sp held fuel t cs=some (.agg (l.map fun i=> .lit (.int k i)),p)):cs=l.map (.int k):=by
  obtain⟨xs,m,_,hx,hl,hxl,hel⟩:=DataW.trod_array ht h
  simp only [Prod.mk.injEq,DataW.agg.injEq]at hx
  have hll:l.length=n:=by have:=congrArg List.length hx.1;simp at this;omega
  rw [hct]at hl
  refine List.ext_getElem (by simp;omega) fun i h1 h2=>?_
  have hi:i<n:=by omega
  have:=hel i hi
  rw [hc,Nat.mul_one,List.drop_eq_getElem_cons h1,List.take_succ_cons,List.take_zero,List.getElem?_eq_getElem (by omega)]at this
  obtain⟨q,e1,e2,_⟩:=DataW.trod_int he this
  simp only [List.cons.injEq,and_true]at e1
  rw [List.getElem_map,e1]
  have h3:=congrArg (fun z:List (DataW Unit)=>z[i]?) hx.1
  simp only [List.getElem?_map]at h3
  rw [List.getElem?_eq_getElem (by simpa using h2),List.getElem?_eq_getElem (by omega),Option.map_some,Option.map_some,e2]at h3
  simp only [Option.some.injEq,DataW.lit.injEq,Lit.int.injEq,true_and]at h3
  rw [h3]
theorem pI {α:Type} {e:D} {f:α→List A} {p:α→Prop} (h:∀x,Den e x→∃y,x=f y∧p y):∀ls:List (List A),(∀x∈ls,Den e x)→∃ys:List α,ls=ys.map f∧∀y∈ys,p y
  | [],_=>⟨[],rfl,fun y hy=>by cases hy⟩
  | x :: ls, hx => by
    obtain⟨y,rfl,hy⟩:=h x (hx x (.head _))
    obtain⟨ys,rfl,hys⟩:=pI h ls fun z hz=>hx z (.tail _ hz)
    exact⟨y::ys,rfl,fun z hz=>(List.mem_cons.1 hz).elim (fun e=>e ▸ hy) (hys z)⟩
theorem Hi {α:Type} (f:α→A) (l:List α):(l.map fun x=> [f x]).flatten=l.map f:=by
  induction l with
  |nil=>rfl
  |cons x l ih=>simp [ih]
theorem Gq (aS:List A) (h:Den (.int .u8) aS):∃b:UInt8,aS= [u8 b]∧True:=by
  simp only [Den]at h
  obtain⟨n,hw,rfl⟩:=h
  refine⟨UInt8.ofNat n.toNat,?_,trivial⟩
  simp only [Lit.wf,Bool.and_eq_true,decide_eq_true_eq]at hw
  have h1:IntKind.u8.min=0:=rfl
  have h2:IntKind.u8.max=255:=rfl
  rw [h1,h2]at hw
  have:((UInt8.ofNat n.toNat).toNat:Int)=n:=by
    rw [UInt8.toNat_ofNat',Nat.mod_eq_of_lt (by omega)];omega
  rw [u8,this]
theorem ll (aS:List A) (h:Den (.int .i64) aS):∃n:Int,aS= [.i .i64 n]∧(-9223372036854775808≤n∧n≤9223372036854775807):=by
  simp only [Den]at h
  obtain⟨n,hw,rfl⟩:=h
  simp only [Lit.wf,Bool.and_eq_true,decide_eq_true_eq]at hw
  have h1:IntKind.i64.min= -9223372036854775808:=rfl
  have h2:IntKind.i64.max=9223372036854775807:=rfl
  rw [h1,h2]at hw
  exact⟨n,rfl,hw⟩
theorem rS {n:Nat} (aS:List A) (h:Den (.arr n (.int .u8)) aS):∃d:List UInt8,aS=d.map u8∧d.length=n:=by
  simp only [Den]at h
  obtain⟨ls,h1,h2,rfl⟩:=h
  obtain⟨ys,rfl,_⟩:=pI Gq ls h1
  exact⟨ys,Hi _ _,by simpa using h2⟩
theorem zU {n:Nat} (aS:List A) (h:Den (.sl (.arr n (.int .u8))) aS):∃L:List (List UInt8),aS= [.fz L.length (L.flatten.map u8)]∧L.length≤maxLen∧∀x∈L,x.length=n:=by
  simp only [Den]at h
  obtain⟨ls,h1,h2,rfl⟩:=h
  obtain⟨ys,rfl,h3⟩:=pI (f:=fun d:List UInt8=>d.map u8) rS ls (fun x hx=>by simp only [Den];exact h1 x hx)
  exact⟨ys,by rw [List.length_map,List.map_flatten],by simpa using h2,h3⟩
end
end Go.Abs
-- K6Q
namespace Go.Abs.D2
open Go Go.Eng Go.Abs
theorem Mo {x:List UInt8} {k i:Nat} (m:List UInt8) (hk:cn (k:Int)) (hi:i<k):dU (dL x k) k m i (iW (fD x i) m) (path (dw x k) i)=true:=by
  have h1:=F1 (L:=dw x k) (H2 hi) (by rw [len_kpubs];unfold cn at hk;omega)
  rw [len_kpubs]at h1
  have h2:=Kk (fD x i) m
  refine xU hk (by unfold eU;omega) h2.2 ?_
  rw [h2.1,tN hk,h1.1,h1.2]
  simp
structure Lf where
  a:Int
  S:List (List UInt8)
  P:List (List UInt8)
theorem Gp (aS:List A) (h:Den (.st [.int .i64,.sl (.arr 32 (.int .u8)),.sl (.arr 32 (.int .u8))]) aS):∃f:Lf,aS= [.i .i64 f.a,bq f.S,bq f.P]∧aK f.S∧aK f.P:=by
  simp only [Den,jH]at h
  obtain⟨a,r,h1,⟨b,r2,h2,⟨c,r3,h3,rfl,rfl⟩,rfl⟩,rfl⟩:=h
  obtain⟨n,rfl,_⟩:=ll a (by simpa only [Den]using h1)
  obtain⟨S,rfl,_,hS⟩:=zU b (by simpa only [Den]using h2)
  obtain⟨P,rfl,_,hP⟩:=zU c (by simpa only [Den]using h3)
  exact⟨⟨n,S,P⟩,rfl,hS,hP⟩
end Go.Abs.D2
-- F3A
namespace Go.Abs.D2
open Go Go.Eng Go.Abs
inductive Part where
  |d (x:List UInt8)|b (x:UInt8)|w (x:BitVec 32)
def Part.a (tD tB tW:TypeId):Part→A
  | .d x=> .ic tD (.ag (x.map u8))
  | .b x=> .ic tB (u8 x)
  | .w x=> .ic tW (aJ x)
def iq (x:BitVec 32):List UInt8:= [UInt8.ofNat (x>>>24).toNat,UInt8.ofNat (x>>>16).toNat,UInt8.ofNat (x>>>8).toNat,UInt8.ofNat x.toNat]
def Part.bs:Part→List UInt8
  | .d x=>x
  | .b x=> [x]
  | .w x=>iq x
def Part.ok:Part→Prop
  | .d x=>x.length=32
  |_=>True
def ir (ps:List Part):List UInt8:=(ps.map Part.bs).flatten
theorem rJ {ps:List Part} {i:Nat} {p:Part} (h:ps[i]? =some p):ir (ps.take i)++p.bs=ir (ps.take (i+1)):=by
  unfold ir
  rw [List.take_add_one,h];simp
theorem Il {p:Part} (h:p.ok):p.bs.length≤32:=by
  cases p with
  |d x=>exact Nat.le_of_eq h
  |b x=>simp [Part.bs]
  |w x=>simp [Part.bs,iq]
theorem Bv:∀ {ps:List Part},(∀p∈ps,p.ok)→(ir ps).length≤32*ps.length
  | [],_=>by simp [ir]
  | p :: ps, h => by
    have h1:=Il (h p (.head _))
    have h2:=Bv (ps:=ps) fun q hq=>h q (.tail _ hq)
    unfold ir at*
    simp only [List.map_cons,List.flatten_cons,List.length_append,List.length_cons]
    omega
theorem Hz {tD tB tW:TypeId} {ps:List Part} {i:Nat} {p:Part} (h:ps[i]? =some p):((ps.map (Part.a tD tB tW)).drop (i*1))[0]? =some (p.a tD tB tW):=by
  rw [List.getElem?_drop,show i*1+0=i by omega,List.getElem?_map,h];rfl
theorem vc {ps:List Part} {i:Nat} {p:Part} {r:List A} (h:ps[i]? =some p) (hr:r=p.bs.map u8):(ir (ps.take i)).map u8++r=(ir (ps.take (i+1))).map u8:=by
  rw [←rJ h,hr,List.map_append]
def j3 (d:List UInt8) (o:Nat):Nat→Nat
  |0=>0
  |j+1=>j3 d o j*256+(d.getD (o+j) 0).toNat
theorem Cb (d:List UInt8) (o:Nat):∀j,j3 d o j<256 ^ j
  |0=>by simp [j3]
  | j + 1 => by
    have h1:=Cb d o j
    have h2:=(d.getD (o+j) 0).toNat_lt
    rw [j3,Nat.pow_succ]
    omega
theorem JF (n:Nat) (b:UInt8) (h:n<16777216):kE .or .i64 ((n*256:Nat):Int) (b.toNat:Int)=((n*256+b.toNat:Nat):Int):=by
  have hb:=b.toNat_lt
  have e:(BitVec.ofInt 64 ((n*256:Nat):Int)|||BitVec.ofInt 64 (b.toNat:Int)).toNat=(n*256|||b.toNat) % 2 ^ 64:=by
    rw [BitVec.toNat_or]
    simp only [BitVec.ofInt_natCast,BitVec.toNat_ofNat]
    rw [Nat.or_mod_two_pow]
  have e2:n*256|||b.toNat=n*256+b.toNat:=by
    rw [Nat.mul_comm,show(256:Nat)=2 ^ 8 from rfl,Nat.two_pow_add_eq_or_of_lt hb]
  show IntKind.i64.wrap ((BitVec.ofInt 64 ((n*256:Nat):Int)|||BitVec.ofInt 64 (b.toNat:Int)).toNat:Int)=_
  have e3:(n*256+b.toNat) % 2 ^ 64=n*256+b.toNat:=Nat.mod_eq_of_lt (by omega)
  rw [e,e2,e3]
  exact lM _ (by omega) (by omega)
theorem LA (n:Nat) (h:n<16777216):IntKind.i64.wrap ((n:Int)*2 ^ min ((8:Int).toNat) IntKind.i64.bits)=((n*256:Nat):Int):=by
  show IntKind.i64.wrap ((n:Int)*256)=_
  rw [lM _ (by omega) (by omega)]
  omega
@[irreducible] def ix (x:List UInt8) (lv id:Nat):List UInt8:=tagged [102,105,108,116,101,114] (x++UInt8.ofNat lv::iq (BitVec.ofNat 32 id))
theorem AH (x:List UInt8) (lv id:Nat):ix x lv id=tagged [102,105,108,116,101,114] (x++UInt8.ofNat lv::iq (BitVec.ofNat 32 id)):=by unfold ix;rfl
@[simp] theorem M0 (x:List UInt8) (lv id:Nat):(ix x lv id).length=32:=by rw [AH];simp
def gR (x:List UInt8) (lv nb id i:Nat):List Nat:=(List.range i).map fun j=>j3 (ix x lv id) (4*j) 4 % nb
theorem Fj (x:List UInt8) (lv nb id i:Nat):gR x lv nb id (i+1)=gR x lv nb id i++ [j3 (ix x lv id) (4*i) 4 % nb]:=by simp [gR,List.range_succ]
@[simp] theorem len_bitL (x:List UInt8) (lv nb id i:Nat):(gR x lv nb id i).length=i:=by simp [gR]
abbrev nJ (n:Nat):A:= .i .i64 (n:Int)
theorem Hx {m:List UInt8} {o:Nat} (k:Nat) (hi:o+k<m.length) {cs:List A} (hc:cs=(m.map u8).drop (0+o*1+k*1)):cs[0]? =some (u8 (m.getD (o+k) 0)):=by
  subst hc
  rw [List.getElem?_drop,show 0+o*1+k*1+0=o+k by omega]
  simp [hi]
theorem F8 (b:UInt8):A.i .i64 (IntKind.i64.wrap (b.toNat:Int))=nJ b.toNat:=by
  have:=b.toNat_lt
  exact congrArg (A.i .i64) (lM _ (by omega) (by omega))
def fb (a b:Int):Prop:=0≤a∧a<16∧8≤b∧b≤4096
instance (a b:Int):Decidable (fb a b):=by unfold fb;infer_instance
end Go.Abs.D2
-- F3P
namespace Go.Abs.D2
open Go Go.Eng Go.Abs
theorem uP {p:Nat→Prop} {i:Nat} (h:∀t,t<i→p t) (hp:p i):∀t,t<i+1→p t:=fun t ht=>(Nat.lt_or_ge t i).elim (h t) fun hg=>(Nat.le_antisymm (Nat.le_of_lt_succ ht) hg) ▸ hp
theorem MX (k:Nat):List.replicate k (a6 (Value.int .u8 0))=(List.replicate k (0:UInt8)).map u8:=(List.map_replicate (f:=u8) (n:=k) (a:=0)).symm
theorem tf (b:Bool):b=false∨b=true:=by cases b<;>simp
theorem Fi {r:Nat} (h:r<8):(je r).toNat=2 ^ r:=by
  unfold je
  rw [UInt8.toNat_ofNat']
  exact Nat.mod_eq_of_lt (Nat.pow_lt_pow_right (by omega) h)
theorem Fl (b r:Nat):Nat.testBit b r=(b / 2 ^ r % 2==1):=by
  rw [Nat.testBit_eq_decide_div_mod_eq];rfl
def fR (l:List UInt8) (k:Nat):Bool:=(l.getD (k / 8) 0).toNat.testBit (k % 8)
def mq (l:List UInt8) (k:Nat):List UInt8:=l.set (k / 8) (l.getD (k / 8) 0|||je (k % 8))
@[simp] theorem len_setA (l:List UInt8) (k:Nat):(mq l k).length=l.length:=by simp [mq]
theorem yS {l:List UInt8} {k:Nat} (h:k / 8<l.length) (j:Nat):fR (mq l k) j=(fR l j||j==k):=by
  unfold fR mq
  by_cases hj:j / 8=k / 8
  · rw [hj]
    have e:(l.set (k / 8) (l.getD (k / 8) 0|||je (k % 8))).getD (k / 8) 0=l.getD (k / 8) 0|||je (k % 8):=by simp [List.getD,h]
    rw [e,UInt8.toNat_or,Nat.testBit_or,Fi (by omega),Nat.testBit_two_pow]
    congr 1
    by_cases hm:j=k
    · subst hm;simp
    · rw [beq_eq_false_iff_ne.2 hm];exact decide_eq_false (by omega)
  · have e : (l.set (k / 8) (l.getD (k / 8) 0 ||| je (k % 8))).getD (j / 8) 0 = l.getD (j / 8) 0 := by
      simp only [List.getD,List.getElem?_set];rw [if_neg (fun h=>hj h.symm)]
    rw [e,beq_eq_false_iff_ne.2 (by rintro rfl;exact hj rfl),Bool.or_false]
def qK (n:Nat) (D:List UInt8):Prop:=∀k,n≤k→k<8*D.length→fR D k=false
theorem L7 {n : Nat} {D : List UInt8} (hl : D.length = (n + 7) / 8) (hn : 8 ≤ n) : (n % 8 = 0 ∨ (D.getD (D.length - 1) 0).toNat / 2 ^ (n % 8) = 0) ↔ qK n D := by
  by_cases h0:n % 8=0
  · refine⟨fun _ k h1 h2=>absurd h2 (by omega),fun _=> .inl h0⟩
  · have hd : D.length - 1 = n / 8 := by omega
    rw [hd]
    constructor
    · rintro (h | h) k h1 h2
      · exact absurd h h0
      · unfold fR
        rw [show k / 8=n / 8 by omega]
        have h3:(D.getD (n / 8) 0).toNat<2 ^ (n % 8):=by
          rcases Nat.lt_or_ge (D.getD (n / 8) 0).toNat (2 ^ (n % 8))with h'|h'
          · exact h'
          · have:=Nat.div_pos h' (Nat.two_pow_pos _);omega
        exact Nat.testBit_lt_two_pow (Nat.lt_of_lt_of_le h3 (Nat.pow_le_pow_right (by omega) (by omega)))
    · intro h
      right
      apply Nat.div_eq_of_lt
      apply Nat.lt_pow_two_of_testBit
      intro i hi
      by_cases h8:i<8
      · have := h (8 * (n / 8) + i) (by omega) (by omega)
        unfold fR at this
        rwa [show(8*(n / 8)+i) / 8=n / 8 by omega,show(8*(n / 8)+i) % 8=i by omega]at this
      · exact Nat.testBit_lt_two_pow (Nat.lt_of_lt_of_le (UInt8.toNat_lt _) (Nat.pow_le_pow_right (by omega) (by omega:8≤i)))
@[irreducible] def cM (lv nb:Int) (D:List UInt8):Bool:=decide (fb lv nb)&&(D.length==(nb.toNat+7) / 8)&&(nb.toNat % 8==0||(D.getD (D.length - 1) 0).toNat / 2 ^ (nb.toNat % 8)==0)
theorem xD {lv nb:Int} (h:fb lv nb):∃l n:Nat,lv=(l:Int)∧nb=(n:Int)∧l<16∧8≤n∧n≤4096:=⟨lv.toNat,nb.toNat,by unfold fb at h;omega,by unfold fb at h;omega,by unfold fb at h;omega,by unfold fb at h;omega,by unfold fb at h;omega⟩
theorem sW {l n:Nat} (h1:l<16) (h2:8≤n) (h3:n≤4096):fb (l:Int) (n:Int):=by unfold fb;omega
theorem zB {lv nb:Int} {D:List UInt8} (h:¬fb lv nb):cM lv nb D=false:=by unfold cM;simp [h]
theorem zA {l n:Nat} {D:List UInt8} (h:D.length≠(n+7) / 8):cM l n D=false:=by unfold cM;simp [h]
theorem zC {l n:Nat} {D:List UInt8} (h1:l<16) (h2:8≤n) (h3:n≤4096) (hl:D.length=(n+7) / 8):cM l n D=(n % 8==0||(D.getD (D.length - 1) 0).toNat / 2 ^ (n % 8)==0):=by
  have:=sW h1 h2 h3
  unfold cM
  simp only [this,decide_true,Bool.true_and,Int.toNat_natCast]
  rw [beq_iff_eq.2 hl,Bool.true_and]
theorem zE {l n:Nat} {D:List UInt8} (h1:l<16) (h2:8≤n) (h3:n≤4096) (hl:D.length=(n+7) / 8):cM l n D=true↔qK n D:=by
  rw [zC h1 h2 h3 hl, ←L7 hl h2];simp
theorem vk {lv nb:Int} {D:List UInt8} (h:cM lv nb D=true):∃l n:Nat,lv=(l:Int)∧nb=(n:Int)∧l<16∧8≤n∧n≤4096∧D.length=(n+7) / 8∧qK n D:=by
  by_cases hs:fb lv nb
  · obtain ⟨l, n, rfl, rfl, h1, h2, h3⟩ := xD hs
    by_cases hl:D.length=(n+7) / 8
    · exact⟨l,n,rfl,rfl,h1,h2,h3,hl,(zE h1 h2 h3 hl).1 h⟩
    · rw [zA hl]at h;cases h
  · rw [zB hs]at h;cases h
theorem wP {l n:Nat} {D:List UInt8} (h1:l<16) (h2:8≤n) (h3:n≤4096) (hl:D.length=(n+7) / 8) (ht:qK n D):cM l n D=true:=(zE h1 h2 h3 hl).2 ht
def oa (b:Bool):Int:=if b then 0 else 330
@[irreducible] def bN (x:List UInt8) (lv nb id i:Nat):Nat:=j3 (ix x lv id) (4*i) 4 % nb
theorem yM (x:List UInt8) (lv nb id i:Nat):bN x lv nb id i=j3 (ix x lv id) (4*i) 4 % nb:=by unfold bN;rfl
theorem nU {x:List UInt8} {lv nb id:Nat} (h:0<nb) (i:Nat):bN x lv nb id i<nb:=by rw [yM];exact Nat.mod_lt _ h
theorem yR (x:List UInt8) (lv nb id i:Nat) (h:i<2):(((gR x lv nb id 2).map nJ).drop (i*1))[0]? =some (nJ (bN x lv nb id i)):=by
  rw [List.getElem?_drop,show i*1+0=i by omega,yM]
  simp [gR,h]
@[irreducible] def okB (lv nb:Int) (D:List UInt8) (id:Int):Bool:=cM lv nb D&&decide (0≤id∧id<1024)
theorem Jq {lv nb id:Int} {D:List UInt8} (h:cM lv nb D=false):okB lv nb D id=false:=by unfold okB;simp [h]
theorem Jr {lv nb id:Int} {D:List UInt8} (h:¬(0≤id∧id<1024)):okB lv nb D id=false:=by unfold okB;simp only [h,decide_false,Bool.and_false]
theorem Cx {lv nb id:Int} {D:List UInt8} (h:cM lv nb D=true) (h':0≤id∧id<1024):okB lv nb D id=true:=by unfold okB;simp only [h,h'];rfl
theorem s9 {lv nb id:Int} {D:List UInt8} (h:okB lv nb D id=true):∃l n j:Nat,lv=(l:Int)∧nb=(n:Int)∧id=(j:Int)∧l<16∧8≤n∧n≤4096∧j<1024∧D.length=(n+7) / 8∧qK n D:=by
  unfold okB at h
  simp only [Bool.and_eq_true,decide_eq_true_eq]at h
  obtain⟨h,h5,h6⟩:=h
  obtain⟨l,n,rfl,rfl,h1,h2,h3,h4,ht⟩:=vk h
  exact⟨l,n,id.toNat,rfl,rfl,by omega,h1,h2,h3,by omega,h4,ht⟩
@[irreducible] def bitsA (x:List UInt8) (lv nb:Int) (D:List UInt8) (id:Int):A:=if okB lv nb D id then .tu [.fz 2 ((gR x lv.toNat nb.toNat id.toNat 2).map nJ),.i .i64 0]else .tu [.nl,.i .i64 330]
theorem rH {x:List UInt8} {lv nb id:Int} {D:List UInt8} (h:okB lv nb D id=false):bitsA x lv nb D id= .tu [.nl,.i .i64 330]:=by unfold bitsA;rw [h];rfl
theorem u4 {x:List UInt8} {l n j:Nat} {D:List UInt8} (h:okB l n D j=true):bitsA x l n D j= .tu [.fz 2 ((gR x l n j 2).map nJ),.i .i64 0]:=by unfold bitsA;rw [h];rfl
def mW (x:List UInt8) (l n j:Nat) (D:List UInt8):Bool:=fR D (bN x l n j 0)&&fR D (bN x l n j 1)
def oS (x:List UInt8) (l n j:Nat) (D:List UInt8):Nat→List UInt8
  |0=>D
  |i+1=>mq (oS x l n j D i) (bN x l n j i)
@[simp] theorem wK (x : List UInt8) (l n j : Nat) (D : List UInt8) : ∀ i, (oS x l n j D i).length = D.length
  |0=>rfl
  |i+1=>by simp [oS,wK x l n j D i]
abbrev nN (x:List UInt8) (l n j:Nat) (D:List UInt8):List UInt8:=oS x l n j D 2
abbrev jo (lv nb:Int) (D:List UInt8):A:= .ag [.i .i64 lv,.i .i64 nb,dz D]
@[irreducible] def hasA (x:List UInt8) (lv nb:Int) (D:List UInt8) (id:Int):A:=if okB lv nb D id then .tu [.b (mW x lv.toNat nb.toNat id.toNat D),.i .i64 0]else .tu [.b false,.i .i64 330]
theorem HN {x:List UInt8} {lv nb id:Int} {D:List UInt8} (h:okB lv nb D id=false):hasA x lv nb D id= .tu [.b false,.i .i64 330]:=by unfold hasA;rw [h];rfl
theorem Ba {x:List UInt8} {l n j:Nat} {D:List UInt8} (h:okB l n D j=true):hasA x l n D j= .tu [.b (mW x l n j D),.i .i64 0]:=by unfold hasA;rw [h];rfl
@[irreducible] def addA (x:List UInt8) (lv nb:Int) (D:List UInt8) (id:Int):A:=if okB lv nb D id then .tu [jo lv nb (nN x lv.toNat nb.toNat id.toNat D),.i .i64 0]else .tu [jo 0 0 [],.i .i64 330]
theorem EG {x:List UInt8} {lv nb id:Int} {D:List UInt8} (h:okB lv nb D id=false):addA x lv nb D id= .tu [jo 0 0 [],.i .i64 330]:=by unfold addA;rw [h];rfl
theorem EH {x:List UInt8} {l n j:Nat} {D:List UInt8} (h:okB l n D j=true):addA x l n D j= .tu [jo l n (nN x l n j D),.i .i64 0]:=by unfold addA;rw [h];rfl
@[irreducible] def newA (lv nb:Int):A:=if fb lv nb then .tu [jo lv nb (List.replicate ((nb.toNat+7) / 8) 0),.i .i64 0]else .tu [jo 0 0 [],.i .i64 330]
theorem IZ {lv nb:Int} (h:¬fb lv nb):newA lv nb= .tu [jo 0 0 [],.i .i64 330]:=by unfold newA;rw [if_neg h]
theorem B3 {l n:Nat} (h:fb (l:Int) (n:Int)):newA l n= .tu [jo l n (List.replicate ((n+7) / 8) 0),.i .i64 0]:=by unfold newA;rw [if_pos h];rfl
theorem HL (b:UInt8) (r:Nat):(((UInt8.ofNat (b.toNat / 2 ^ r)&&& 1).toNat:Int)==0)= !(b.toNat.testBit r):=by
  have hb:=b.toNat_lt
  have h1:b.toNat / 2 ^ r≤b.toNat:=Nat.div_le_self _ _
  rw [UInt8.toNat_and,UInt8.toNat_ofNat',Nat.mod_eq_of_lt (by omega),show(1:UInt8).toNat=1 from rfl,Nat.and_one_is_mod,Fl]
  have h2:=Nat.mod_two_eq_zero_or_one (b.toNat / 2 ^ r)
  rcases h2 with h|h<;>rw [h]<;>rfl
theorem LD (b:UInt8) (r:Nat):(((UInt8.ofNat (b.toNat / 2 ^ r)).toNat:Int) !=0)= !(b.toNat / 2 ^ r==0):=by
  have hb:=b.toNat_lt
  have h1:b.toNat / 2 ^ r≤b.toNat:=Nat.div_le_self _ _
  rw [UInt8.toNat_ofNat',Nat.mod_eq_of_lt (by omega),bne]
  congr 1
  generalize b.toNat / 2 ^ r=q
  rw [Bool.eq_iff_iff]
  simp
theorem A1 {m:List UInt8} {i:Nat} (hi:i<m.length):((m.map u8).drop (i*1))[0]? =some (u8 (m.getD i 0)):=by
  rw [List.getElem?_drop,show i*1+0=i by omega]
  simp [hi]
theorem Hy {m:List UInt8} {i:Nat} (hi:i<m.length):((m.map u8).drop (0+i*1))[0]? =some (u8 (m.getD i 0)):=by
  rw [List.getElem?_drop,show 0+i*1+0=i by omega]
  simp [hi]
theorem Lg {m:List UInt8} {k:Nat}:((m.map u8).set (k / 8) (u8 (m.getD (k / 8) 0|||je (k % 8))))=(mq m k).map u8:=by
  unfold mq;rw [List.map_set]
theorem HJ {x:List UInt8} {l n j i:Nat} {D:List UInt8} (h:i<2) (hb:fR D (bN x l n j i)=false):mW x l n j D=false:=by
  unfold mW
  have:i=0∨i=1:=by omega
  rcases this with rfl|rfl<;>simp [hb]
theorem HK {x:List UInt8} {l n j:Nat} {D:List UInt8} (h:∀t,t<2→fR D (bN x l n j t)=true):mW x l n j D=true:=by
  unfold mW;rw [h 0 (by omega),h 1 (by omega)];rfl
theorem Lh (m:List UInt8) (k:Nat):(m.map u8).set (0+k / 8*1) (u8 (m.getD (k / 8) 0|||je (k % 8)))=(mq m k).map u8:=by
  rw [show 0+k / 8*1=k / 8 by omega];exact Lg
end Go.Abs.D2
-- F3Q
namespace Go.Abs.D2
open Go Go.Eng Go.Abs
abbrev u16 (x:UInt16):A:= .i .u16 (x.toNat:Int)
def mX (x:List UInt8) (lv nb:Int) (D:List UInt8) (id:Int):Bool:=okB lv nb D id&&mW x lv.toNat nb.toNat id.toNat D
theorem HM (x:List UInt8) (lv nb:Int) (D:List UInt8) (id:Int):hasA x lv nb D id= .tu [.b (mX x lv nb D id),.i .i64 (oa (okB lv nb D id))]:=by
  unfold hasA mX
  cases okB lv nb D id<;>rfl
theorem Fk {x:List UInt8} {l n j:Nat} {D:List UInt8} (hn:0<n) (hl:D.length=(n+7) / 8) (k:Nat):fR (nN x l n j D) k=(fR D k||(k==bN x l n j 0||k==bN x l n j 1)):=by
  have h0:=nU (x:=x) (lv:=l) (id:=j) hn 0
  have h1:=nU (x:=x) (lv:=l) (id:=j) hn 1
  simp only [nN,oS]
  rw [yS (by simp;omega),yS (by omega),Bool.or_assoc]
theorem FU {x:List UInt8} {l n j:Nat} {D:List UInt8} (h:cM l n D=true):cM l n (nN x l n j D)=true:=by
  obtain⟨l',n',e1,e2,h1,h2,h3,h4,h5⟩:=vk h
  obtain rfl:l=l':=by omega
  obtain rfl:n=n':=by omega
  have h0:=nU (x:=x) (lv:=l) (id:=j) (show 0<n by omega) 0
  have h1':=nU (x:=x) (lv:=l) (id:=j) (show 0<n by omega) 1
  refine wP h1 h2 h3 (by simp [h4]) fun k hk hk2=>?_
  rw [Fk (by omega) h4,h5 k hk (by simpa using hk2),beq_eq_false_iff_ne.2 (by omega),beq_eq_false_iff_ne.2 (by omega)];rfl
def nu (x:List UInt8) (lv nb:Int) (D:List UInt8) (id:Int):List UInt8:=if okB lv nb D id then nN x lv.toNat nb.toNat id.toNat D else D
theorem EI {x:List UInt8} {lv nb id:Int} {D:List UInt8} (h:okB lv nb D id=true):addA x lv nb D id= .tu [jo lv nb (nu x lv nb D id),.i .i64 0]:=by unfold addA nu;rw [h];rfl
theorem FW (x:List UInt8) (lv nb:Int) (D:List UInt8) (id:Int):cM lv nb (nu x lv nb D id)=cM lv nb D:=by
  unfold nu
  split
  · rename_i h
    obtain⟨l,n,j,rfl,rfl,rfl,h1,h2,h3,h4,h5,h6⟩:=s9 h
    have hc:=wP h1 h2 h3 h5 h6
    rw [hc];exact FU hc
  · rfl
theorem Jl {l n j:Nat} {D:List UInt8} (h:cM l n D=true) (hj:j<1024):okB l n D j=true:=Cx h (by omega)
theorem Fm (m k:Nat):fR (List.replicate m 0) k=false:=by
  unfold fR
  have:(List.replicate m (0:UInt8)).getD (k / 8) 0=0:=by
    rw [List.getD]
    cases h:(List.replicate m (0:UInt8))[k / 8]? with
    |none=>rfl
    |some v=>exact List.eq_of_mem_replicate (List.mem_of_getElem? h)
  rw [this]
  exact Nat.zero_testBit _
theorem zG {l n:Nat} (h:fb (l:Int) (n:Int)):cM l n (List.replicate ((n+7) / 8) 0)=true:=by
  unfold fb at h
  exact wP (by omega) (by omega) (by omega) (by simp) fun k _ _=>Fm _ _
structure da where
  lv:Int
  nb:Int
  D:List UInt8
end Go.Abs.D2
-- C4P
namespace Go.Abs.D2
open Go Go.Eng Go.Abs
def dW (last:Int):List Int→Bool
  | []=>true
  |n::l=>decide (last<n∧n<1024)&&dW n l
def cP (l:List Int):Bool:=dW (-1) l
def fL (l:List Int) (i:Nat):Int:=if i=0 then -1 else l.getD (i - 1) 0
theorem yD {last n:Int} {l:List Int} {i:Nat} (h:l[i]? =some n):dW last (l.drop i)=(decide (last<n∧n<1024)&&dW n (l.drop (i+1))):=by
  have hi:=(List.getElem?_eq_some_iff.1 h).1
  rw [List.drop_eq_getElem_cons hi,(List.getElem?_eq_some_iff.1 h).2]
  rfl
theorem wE {n:Int} {l:List Int} {i:Nat} (h:l[i]? =some n):fL l (i+1)=n:=by
  unfold fL
  rw [if_neg (by omega),List.getD,Nat.add_sub_cancel,h];rfl
theorem uU {n:Int} {l:List Int} {i:Nat} (h0:cP l=dW (fL l i) (l.drop i)) (h:l[i]? =some n) (h1:fL l i<n∧n<1024):cP l=dW (fL l (i+1)) (l.drop (i+1)):=by
  rw [h0,yD h,decide_eq_true h1,Bool.true_and,wE h]
theorem yH {n:Int} {l:List Int} {i:Nat} (h0:cP l=dW (fL l i) (l.drop i)) (h:l[i]? =some n) (h1:¬(fL l i<n∧n<1024)):cP l=false:=by
  rw [h0,yD h,decide_eq_false h1,Bool.false_and]
theorem yE {l:List Int} (h0:cP l=dW (fL l l.length) (l.drop l.length)):cP l=true:=by
  rw [h0,List.drop_length];rfl
theorem yI (l:List Int):cP l=dW (fL l 0) (l.drop 0):=rfl
theorem yG:∀ {l:List Int} {last:Int},dW last l=true→∀n∈l,last<n∧n<1024
  | [],_,_,n,hn=>by cases hn
  | a :: l, last, h, n, hn => by
    simp only [dW,Bool.and_eq_true,decide_eq_true_eq]at h
    rcases List.mem_cons.1 hn with rfl|hn
    · exact h.1
    · have := yG h.2 n hn
      omega
theorem sK {l:List Int} (h:cP l=true):∀n∈l,0≤n∧n<1024:=fun n hn=>by
  have:=yG h n hn
  omega
structure cD where
  x:List UInt8
  F:List da
  E:List Int
abbrev gD (f:da):List A:= [.i .i64 f.lv,.i .i64 f.nb,dz f.D]
abbrev pT (F:List da):A:= .fz F.length (F.flatMap gD)
abbrev jV (E:List Int):A:= .fz E.length (E.map (A.i .i64))
abbrev eL (c:cD):List A:=c.x.map u8++ [pT c.F,jV c.E]
def eO:Nat→List da→Bool
  |_, []=>true
  |i,f::F=>decide (f.lv=i)&&cM f.lv f.nb f.D&&eO (i+1) F
def dP (c:cD):Bool:=decide (c.F.length≤16)&&cP c.E&&eO 0 c.F
def vS (b:Bool):Int:=if b then 0 else 340
theorem BG {F:List da} {f:da} {i:Nat} (h:F[i]? =some f):eO i (F.drop i)=(decide (f.lv=i)&&cM f.lv f.nb f.D&&eO (i+1) (F.drop (i+1))):=by
  have hi:=(List.getElem?_eq_some_iff.1 h).1
  rw [List.drop_eq_getElem_cons hi,(List.getElem?_eq_some_iff.1 h).2]
  rfl
theorem IB {F:List da} {f:da} {i:Nat} (h0:eO 0 F=eO i (F.drop i)) (h:F[i]? =some f) (h1:f.lv=i) (h2:cM f.lv f.nb f.D=true):eO 0 F=eO (i+1) (F.drop (i+1)):=by
  rw [h0,BG h,decide_eq_true h1,h2,Bool.true_and,Bool.true_and]
theorem BI {F:List da} {f:da} {i:Nat} (h0:eO 0 F=eO i (F.drop i)) (h:F[i]? =some f) (h1:¬(f.lv=i∧cM f.lv f.nb f.D=true)):eO 0 F=false:=by
  rw [h0,BG h]
  by_cases h2:f.lv=i
  · have : cM f.lv f.nb f.D = false := by rw [Bool.eq_false_iff]; exact fun e => h1 ⟨h2, e⟩
    rw [this];simp
  · rw [decide_eq_false h2];simp
theorem IA {F:List da} (h0:eO 0 F=eO F.length (F.drop F.length)):eO 0 F=true:=by
  rw [h0,List.drop_length];rfl
theorem AQ {F:List da} {f:da} {i:Nat} (h:F[i]? =some f):((F.flatMap gD).drop (i*3)).take 3=gD f:=by
  induction F generalizing i with
  |nil=>simp at h
  | cons g F ih =>
    cases i with
    |zero=>simp at h;subst h;simp
    | succ i =>
      have e:(i+1)*3=i*3+3:=by omega
      rw [List.getElem?_cons_succ]at h
      rw [e,List.flatMap_cons,Nat.add_comm, ←List.drop_drop]
      simpa using ih h
end Go.Abs.D2
namespace Go.Abs.D2
open Go Go.Eng Go.Abs
theorem FA {c:cD} (hx:c.x.length=32):(eL c).take 32=c.x.map u8:=by
  rw [List.take_left' (by rw [List.length_map,hx])]
theorem vf {c:cD} (hx:c.x.length=32):((eL c).drop 32)[0]? =some (pT c.F):=by
  rw [List.drop_left' (by rw [List.length_map,hx])];rfl
theorem yU {c:cD} (hx:c.x.length=32):((eL c).drop 33)[0]? =some (jV c.E):=by
  rw [show 33=32+1 from rfl, ←List.drop_drop,List.drop_left' (by rw [List.length_map,hx])];rfl
theorem oq {l:List Int} {i:Nat} {n:Int} (h:l[i]? =some n):((l.map (A.i .i64)).drop (i*1))[0]? =some (A.i .i64 n):=by
  rw [List.getElem?_drop,show i*1+0=i by omega,List.getElem?_map,h];rfl
theorem FR {c:cD} (h:¬c.F.length≤16):dP c=false:=by unfold dP;rw [decide_eq_false h];simp
theorem FT {c:cD} (h:cP c.E=false):dP c=false:=by unfold dP;rw [h];simp
theorem zo {c:cD} (h:eO 0 c.F=false):dP c=false:=by unfold dP;rw [h];simp
theorem zq {c:cD} (h1:c.F.length≤16) (h2:cP c.E=true) (h3:eO 0 c.F=true):dP c=true:=by unfold dP;rw [decide_eq_true h1,h2,h3];rfl
theorem kf (b:Bool):b=false∨b=true:=by cases b<;>simp
end Go.Abs.D2
-- V6P
namespace Go.Abs.V6
open Go Go.Eng Go.Abs
def FX (l:List UInt8) (k:Nat):Bool:=UInt8.ofNat ((l.getD (k / 8) 0).toNat / 2 ^ (k % 8))&&& 1==1
def change (l:List UInt8) (k:Nat):List UInt8:=l.set (k / 8) (l.getD (k / 8) 0 ^^^ je (k % 8))
def cut (many:Nat) (l:List UInt8):List UInt8:=if many % 8=0 then l else l.set (many / 8) (l.getD (many / 8) 0&&& (je (many % 8) - 1))
def sized (many:Int) (n:Nat):Bool:=decide (1≤many∧many≤1024∧(n:Int)=(many+7) / 8)
def masked (many:Int) (l:List UInt8):Bool:=sized many l.length&&l==cut many.toNat l
def MF (a b:List UInt8):List UInt8:=List.zipWith (· ^^^ ·) a b
def MT:List UInt8:=List.replicate 16 0
def answer (db:List (List UInt8)) (m:List UInt8):List UInt8:=(List.range db.length).foldl (fun s n=>if FX m n then MF s (db.getD n [])else s) MT
def Gk (db:List (List UInt8)):Bool:=db.all (fun b=>b.length==16)&&decide (1≤db.length∧db.length≤1024)
def answers (db ms:List (List UInt8)):List (List UInt8)×Int:=
  if Gk db&&decide (ms.length≤132)&&ms.all (masked db.length)then (ms.map (answer db),0)else([],360)
def gT (ls:List (List UInt8)) (most:Int):Bool:=ls.all (fun l=>decide (l.length≤130))&&decide ((ls.length:Int)≤most)
def blk (b:UInt8):List UInt8:=b::List.replicate 15 0
def want (at':List Int) (k:Nat):Int:=if k<at'.length then at'.getD k 0 else 0
end Go.Abs.V6
-- AbsR
namespace Go.Abs
open Go Go.Eng
section
variable {P:Program} {w0:Bw} {X0:Xs} {n:Nat} {E:Ev} {st:St} {K:Act→World→Prop} {Q:Exit→Act→World→Prop}
theorem MU (z:Value) (k:Nat):(Builtin.zeroCells #[z] k).toList=List.replicate k z:=by
  apply List.ext_getElem
  · simp [Builtin.zeroCells]
  · intro i h1 h2
    simp [Builtin.zeroCells,Nat.mod_one]
end
end Go.Abs
-- V6Q
namespace Go.Abs.D2
end Go.Abs.D2
namespace Go.Abs.V6
open Go Go.Eng Go.Abs
end Go.Abs.V6
namespace Go.Abs.D2
open Go Go.Eng Go.Abs
end Go.Abs.D2
namespace Go.Abs.V6
open Go Go.Eng Go.Abs Go.Abs.D2
end Go.Abs.V6
namespace Go.Abs.D2
open Go Go.Eng Go.Abs
end Go.Abs.D2
-- V6R
namespace Go.Abs.D2
open Go Go.Eng Go.Abs
end Go.Abs.D2
-- AbsS
namespace Go.Abs
open Go Go.Eng
section
variable {P:Program} {w0:Bw} {X0:Xs} {n:Nat} {E:Ev} {st:St} {K:Act→World→Prop} {Q:Exit→Act→World→Prop}
theorem IM {d : Nat} (nx : Nat) (hfr : st.free nx = true) (s0 : St) (ow : Bool) {f : FuncId} {xs : List Operand} {vs vs' ds : List A} {s m : Nat} {ats : Array TypeId} {ty : TypeId} {pos aft' g} (hxs : c5 E xs = some vs) (hS : gi st s0 ow s0.os) (hv : a8 st s0 ow vs vs')
    (hc:cH P f vs' s0 (dq s m ds)) (hp:bO ds) (hf:ow=false∨dH ds) (hd:Nat.ble (d+1) n=true) (h:At w0 X0 n ((d,.sl nx s 0 m)::E) ((aG s0 st []).put nx ds) K):
    At w0 X0 n E st (fun a w=>(⟨some d,.call {callee:= .value (.func f),args:=xs.toArray,argTypes:=ats},ty,pos,aft',g⟩:Oper).wp P a w K Q):=by
  rintro a w ⟨β,X,hr⟩
  have hss:∀id cs,s0.get id=some cs→st.get id=some cs:=fun id cs h=>(iZ hS h).1
  refine lV (fs:= []) (cs:= []) hr rfl hxs hS (by simpa using hv) hc fun v w' ⟨r,β',X',st',hR,hsup,hsub,hm,hvv⟩=>?_
  obtain⟨id,rfl,hg⟩:=hR
  obtain⟨m1,m2,m3,m4,m6⟩:=hm.after hr hss hsub hsup (upds:= []) (fun p hp=>by cases hp)
  have hnx:=hr.mem.dom nx hfr
  have hfa:∀k,(aG s0 st []).free k=true→st.free k=true:=fun k=>(kz (s0:=s0) (st:=st) (upds:= [])).2
  have hga:∀k ck,(aG s0 st []).get k=some ck→s0.free k=true∧st.get k=some ck:=fun k ck hk=>by
    rcases(kz (s0:=s0) (st:=st) (upds:= [])).1 ck hk with h|h
    · cases h
    · exact h
  have ho:=hm.obj id ds hg
  unfold OB at ho
  simp only [V]at hvv
  rcases hvv with ⟨hβ,rfl,_,rfl⟩|⟨b,N,cap,hβ,rfl,c1,c2,c3⟩
  · rw [hβ] at ho
    have ho:ds= []:=ho
    subst ho
    have m5 : Mem w0 (b6 β nx .ph) (fun b o => X b o ∨ (X' b o ∧ (bw w (cq s0 β) s0 c8).own b)) ((aG s0 st []).put nx []) w' := by
      refine .of (m1.below) (fun k y h=>(cl hnx) k y (m1.b0 k y h)) (m1.xlt) (fun k h=>?_) (fun k es hk=>?_) (fun i j ci cj q M N' hij hi hj hbi hbj=>?_)
      · rw [St.en] at h
        split at h
        · cases h
        · rename_i hne
          rw [b7 (fun e=>hne e.symm)]
          exact hr.mem.dom k (hfa k h)
      · rw [St.cg] at hk
        split at hk
        · rename_i e; subst e
          simp only [Option.some.injEq]at hk
          subst hk
          unfold OB
          rw [bH]
        · refine (m1.obj k es hk).later (fun _ _ h => ⟨h, rfl⟩) (cl hnx) (fun q M hq => ⟨rfl, ?_⟩) fun q hq => ⟨rfl, ((m1.obj k es hk).dZ hq).2.2.1⟩
          have hk':=m1.obj k es hk
          unfold OB at hk'
          rw [hq]at hk'
          exact hk'.2.1
      · rw [St.cg] at hi hj
        by_cases ei:nx=i
        · subst ei;rw [bH]at hbi;cases hbi
        · rw [if_neg ei] at hi
          rw [b7 (by omega)]at hbi
          by_cases ej:nx=j
          · subst ej;rw [bH]at hbj;cases hbj
          · rw [if_neg ej] at hj
            rw [b7 (by omega)]at hbj
            exact m1.inj i j ci cj q M N' hij hi hj hbi hbj
    exact h _ _ ⟨_,_,hr.gF hd m2 m3 (cl hnx) m5 (by simp only [V];exact .inl ⟨bH,by simp⟩)⟩
  · rw [hβ] at ho
    obtain⟨o1,o2,us,rest,ety,o3,o4,o5,o6⟩:=ho
    have hown:w0.own b∧∀k ck q M,(aG s0 st []).get k=some ck→β k=some (.bk q M)→q≠b:=by
      rcases o1 with h|⟨id',cs',h1,y',h2,h2'⟩
      · have h : w.heap.size ≤ b := h
        refine⟨Bw.j4 hr.mem.below h,fun k ck q M hk hq=>?_⟩
        have:=m6 q M k ck (hga k ck hk).2 hq
        omega
      · obtain ⟨g3, g4⟩ := j9 h2
        refine⟨((hr.mem.obj id' cs' (hss id' cs' h1)).kI g4 h2').2.1,fun k ck q M hk hq e=>?_⟩
        subst e
        obtain⟨k1,k2⟩:=hga k ck hk
        refine hr.mem.apart (fun e=>?_) k2 (hss id' cs' h1) hq g4 rfl h2'
        subst e;rw [k1]at g3;cases g3
    have hnX:∀o,¬(X b o∨(X' b o∧(bw w (cq s0 β) s0 c8).own b)):=fun o h=>by
      rcases h with h|⟨h,_⟩
      · exact o2 o (hsup b o (.inl h))
      · exact o2 o h
    have hvs:VS (fun b o=>X b o∨(X' b o∧(bw w (cq s0 β) s0 c8).own b)) w' (b6 β nx (.bk b N)) ds us:=by
      rcases hf with hf|hf
      · exact eH (m4 hf) _ _ _ _ (bM.refl _) (jI _ _ hp o5)
      · exact k6 _ _ hf o5
    have m5 : Mem w0 (b6 β nx (.bk b N)) (fun b o => X b o ∨ (X' b o ∧ (bw w (cq s0 β) s0 c8).own b)) ((aG s0 st []).put nx ds) w' := by
      refine .of (m1.below) (fun k y h=>(cl hnx) k y (m1.b0 k y h)) (m1.xlt) (fun k h=>?_) (fun k es hk=>?_) (fun i j ci cj q M N' hij hi hj hbi hbj=>?_)
      · rw [St.en] at h
        split at h
        · cases h
        · rename_i hne
          rw [b7 (fun e=>hne e.symm)]
          exact hr.mem.dom k (hfa k h)
      · rw [St.cg] at hk
        split at hk
        · rename_i e; subst e
          simp only [Option.some.injEq]at hk
          subst hk
          unfold OB
          rw [bH]
          exact⟨hown.1,hnX,us,rest,ety,o3,o4,hvs,o6⟩
        · refine (m1.obj k es hk).later (fun _ _ h => ⟨h, rfl⟩) (cl hnx) (fun q M hq => ⟨rfl, ?_⟩) fun q hq => ⟨rfl, ((m1.obj k es hk).dZ hq).2.2.1⟩
          have hk':=m1.obj k es hk
          unfold OB at hk'
          rw [hq]at hk'
          exact hk'.2.1
      · rw [St.cg] at hi hj
        by_cases ei:nx=i
        · by_cases ej : nx = j
          · omega
          · rw [if_neg ej] at hj
            rw [←ei,bH]at hbi
            rw [b7 (by omega)]at hbj
            simp only [Option.some.injEq,BL.bk.injEq]at hbi
            exact hown.2 j cj q N' hj hbj (by omega)
        · rw [if_neg ei] at hi
          rw [b7 (by omega)]at hbi
          by_cases ej:nx=j
          · rw [← ej, bH] at hbj
            simp only [Option.some.injEq,BL.bk.injEq]at hbj
            exact hown.2 i ci q M hi hbi (by omega)
          · rw [if_neg ej] at hj
            rw [b7 (by omega)]at hbj
            exact m1.inj i j ci cj q M N' hij hi hj hbi hbj
    exact h _ _ ⟨_,_,hr.gF hd m2 m3 (cl hnx) m5 (by simp only [V];exact .inr ⟨b,N,cap,bH,rfl,c1,c2,c3⟩)⟩
end
end Go.Abs
namespace Go.Eng
end Go.Eng
namespace Go.Abs
open Go Go.Eng
end Go.Abs
namespace Go.Abs
open Go Go.Eng
section
variable {P:Program} {n:Nat}
def u7 (w:World) (β:Bm) (s0:St):Bw:=⟨w,fun b=>∃id cs,s0.get id=some cs∧∃y,β id=some y∧y.on b,fun _=>none, [],fun id x h=>(by cases h), []⟩
theorem we:∀os:List (Nat×Option (List A)),∃N,∀K,N≤K→fresh os K=true
  | []=>⟨0,fun _ _=>rfl⟩
  | p :: os => by
    obtain⟨N,h⟩:=we os
    refine⟨N+p.1+1,fun K hK=>?_⟩
    rw [l3,if_neg (by omega)]
    exact h K (by omega)
theorem wg:∀(os:List (Nat×Option (List A))) (K:Nat),fresh ((os.map fun p=>(p.1,(none:Option (List A))))++ []) K=fresh os K
  | [],_=>rfl
  | p :: os, K => by
    rw [List.map_cons,List.cons_append,l3,l3,wg os K]
theorem JR {w : World} {X : Xs} {β : Bm} {s0 : St} {hd : ∀ id, s0.free id = true → β id = none} {s m : Nat} {ds : List A} {v : Value} {w' : World} (hp : bO ds) (h : Post (u7 w β s0) X (dq s m ds) v w') : Post (bw w β s0 hd) X (dq s m ds) v w' := by
  obtain⟨r,β',X',st',⟨id,rfl,hg⟩,h1,h2,hm,hv⟩:=h
  obtain⟨N0,hN⟩:=we s0.os
  have hK:s0.free N0=true:=hN N0 (Nat.le_refl _)
  have hnx:=hd N0 hK
  have hbel:KB (bw w β s0 hd) w':=⟨hm.below.os,hm.below.tape,hm.below.output,hm.below.size,hm.below.block,fun s hs=>by cases hs⟩
  have hfa:∀k,(aG s0 ⟨[]⟩ []).free k=true→s0.free k=true:=fun k hk=>by
    have:=wg s0.os k
    unfold aG St.free at hk
    unfold St.free
    rw [←this];exact hk
  have hga:∀k ck,(aG s0 ⟨[]⟩ []).get k=some ck→False:=fun k ck hk=>by
    rcases(kz (s0:=s0) (st:=⟨[]⟩) (upds:= [])).1 ck hk with h|⟨_,h⟩
    · cases h
    · cases h
  have ho:=hm.obj id ds hg
  unfold OB at ho
  have key:∀y:BL,OB (b6 β N0 y) X' w' (bw w β s0 hd) N0 ds→Mem (bw w β s0 hd) (b6 β N0 y) X' ((aG s0 ⟨[]⟩ []).put N0 ds) w':=fun y hy=>by
    refine .of hbel (cl hnx) hm.xlt (fun k h=>?_) (fun k es hk=>?_) (fun i j ci cj q M N' hij hi hj hbi hbj=>?_)
    · rw [St.en] at h
      split at h
      · cases h
      · rename_i hne
        rw [b7 (fun e=>hne e.symm)]
        exact hd k (hfa k h)
    · rw [St.cg] at hk
      split at hk
      · rename_i e; subst e
        simp only [Option.some.injEq]at hk
        subst hk
        exact hy
      · exact absurd hk (fun h=>hga k es h)
    · rw [St.cg] at hi hj
      by_cases ei:N0=i
      · rw [if_neg (by omega)] at hj
        exact absurd hj (fun h=>hga j cj h)
      · rw [if_neg ei] at hi
        exact absurd hi (fun h=>hga i ci h)
  simp only [V]at hv
  rcases hv with ⟨hβ,rfl,e2,rfl⟩|⟨b,N,cap,hβ,rfl,c1,c2,c3⟩
  · rw [hβ] at ho
    refine⟨.sl N0 s 0 0,b6 β N0 .ph,X',_,⟨N0,rfl,by rw [St.cg,if_pos rfl]⟩,h1,h2,key .ph (by unfold OB;rw [bH];exact ho),?_⟩
    simp only [V];exact .inl ⟨bH,by simp⟩
  · rw [hβ] at ho
    obtain⟨o1,o2,us,rest,ety,o3,o4,o5,o6⟩:=ho
    refine⟨.sl N0 s 0 m,b6 β N0 (.bk b N),X',_,⟨N0,rfl,by rw [St.cg,if_pos rfl]⟩,h1,h2,key (.bk b N) (by unfold OB;rw [bH];exact⟨o1,o2,us,rest,ety,o3,o4,jI _ _ hp o5,o6⟩),?_⟩
    simp only [V];exact .inr ⟨b,N,cap,bH,rfl,c1,c2,c3⟩
end
end Go.Abs
-- S7P
namespace Go.Abs.D2
open Go Go.Eng Go.Abs
@[irreducible] def Fo (c : cD) (id i k : Nat) : Nat := match c.F[i]? with
  |some f=>bN c.x i f.nb.toNat id k
  |none=>0
def kL (c:cD) (id j:Nat):Int:=((32*(j / 2)+Fo c id (j / 2) (j % 2) / 128:Nat):Int)
def JQ (c:cD) (id n:Nat):List Int:=(List.range n).map (kL c id)
def DZ (c:cD) (id:Nat):List Int:=JQ c id 32++ [((512+id / 128:Nat):Int)]
@[simp] theorem len_whereL (c:cD) (id:Nat):(DZ c id).length=33:=by simp [DZ]
abbrev iA:Int→A:= .i .i64
theorem gq {c:cD} (hx:c.x.length=32):(eL c).length=34:=by simp [eL,hx]
theorem yV {c:cD} (hx:c.x.length=32):(eL c).take 34=eL c:=List.take_of_length_le (by rw [gq hx];omega)
def kJ (p:Nat→Bool):Nat→Nat
  |0=>0
  |n+1=>if kJ p n=n∧p n=true then n+1 else kJ p n
theorem CC (p:Nat→Bool):∀n,kJ p n≤n
  |0=>Nat.le_refl _
  | n + 1 => by
    unfold kJ;split
    · omega
    · have:=CC p n;omega
theorem xb {p:Nat→Bool}:∀ {n:Nat},(∀t,t<n→p t=true)→kJ p n=n
  |0,_=>rfl
  |n+1,h=>by unfold kJ;rw [if_pos ⟨xb fun t ht=>h t (by omega),h n (by omega)⟩]
theorem CD {p:Nat→Bool} {i:Nat}:∀ {n:Nat},i<n→(∀t,t<i→p t=true)→p i=false→kJ p n=i
  |0,h,_,_=>by omega
  | n + 1, h, h1, h2 => by
    unfold kJ
    by_cases hi:i=n
    · subst hi;rw [if_neg (by rw [h2];simp),xb h1]
    · have := CD (n := n) (by omega) h1 h2
      rw [if_neg (by rw [this];omega),this]
def qw (M:List UInt8) (o:Nat) (D:List UInt8):Nat→List UInt8
  |0=>M
  |k+1=>(qw M o D k).set (o+k) (D.getD k 0)
end Go.Abs.D2
-- S7Q
namespace Go.Abs.D2
open Go Go.Eng Go.Abs
structure qX where
  a:Int
  b:Int
  d:Int
  r:List A
def zT (l:List qX):List Int:=l.map qX.d
@[simp] theorem len_daysE (l:List qX):(zT l).length=l.length:=by simp [zT]
def M8 (l:List qX):Prop:=∀e∈l,e.r.length=68
theorem BH:∀ {F:List da} {j i:Nat} {f:da},eO j F=true→F[i]? =some f→f.lv=(j+i:Nat)∧cM f.lv f.nb f.D=true
  | [],_,_,_,_,h=>by simp at h
  | g :: F, j, i, f, h0, h => by
    simp only [eO,Bool.and_eq_true,decide_eq_true_eq]at h0
    cases i with
    |zero=>simp at h;subst h;exact h0.1
    | succ i =>
      have:=BH h0.2 (by simpa using h)
      rw [show j+(i+1)=j+1+i by omega];exact this
theorem rM {c:cD} (h:dP c=true):c.F.length≤16∧cP c.E=true∧eO 0 c.F=true:=by
  unfold dP at h
  simp only [Bool.and_eq_true,decide_eq_true_eq]at h
  exact⟨h.1.1,h.1.2,h.2⟩
theorem FQ {c:cD} (h:dP c=true) {i:Nat} {f:da} (hf:c.F[i]? =some f):f.lv=(i:Nat)∧∃n:Nat,f.nb=(n:Int)∧8≤n∧n≤4096∧f.D.length=(n+7) / 8∧cM (i:Nat) (n:Nat) f.D=true:=by
  have:=BH (rM h).2.2 hf
  obtain⟨l,n,e1,e2,_,h2,h3,h4,_⟩:=vk this.2
  refine⟨by rw [this.1];simp,n,e2,h2,h3,h4,?_⟩
  have e3:=this.2
  rw [this.1,e2]at e3
  simpa using e3
end Go.Abs.D2
-- S7R
namespace Go.Abs.D2
open Go Go.Eng Go.Abs
abbrev ky:List UInt8:=List.replicate 32 0
abbrev Fx:cD:=⟨ky, [], []⟩
theorem D4:∀l:List A,iJ (l++ [.nl,.nl]) (l++ [.fz 0 [],.fz 0 []])
  | []=> .cons .nl (.cons .nl .nil)
  |_::l=> .cons (.eq rfl) (D4 l)
theorem xV:iJ (ky.map u8++ [.nl,.nl]) (eL Fx):=D4 _
end Go.Abs.D2
-- S7T
namespace Go.Abs.D2
open Go Go.Eng Go.Abs
theorem tX {x:List UInt8} (hx:x.length=32) (l:List A):((x.map u8++l).drop 32)=l:=List.drop_left' (by rw [List.length_map,hx])
theorem xL {x:List UInt8} (hx:x.length=32) (v a b:A):(x.map u8++ [a,b]).set 32 v=x.map u8++ [v,b]:=by
  rw [List.set_append_right _ _ (by simp [hx]),List.length_map,hx];rfl
theorem vY (F:List da):(F.flatMap gD).length=F.length*3:=by
  induction F with
  |nil=>rfl
  |cons f F ih=>rw [List.flatMap_cons,List.length_append,ih,List.length_cons];simp;omega
end Go.Abs.D2
-- S7U
namespace Go.Abs.D2
open Go Go.Eng Go.Abs
end Go.Abs.D2
-- C4Q
namespace Go.Abs.D2
open Go Go.Eng Go.Abs
end Go.Abs.D2
-- MapE
namespace Go.Eng
open Go Go.MapKept
section
variable {P:Program} {n:Nat} {E:Env} {S:List World} {H:List (Nat×Obj)} {Q:Exit→Act→World→Prop}
theorem wO {d:Nat} {t ty:TypeId} {pos aG g} {K:Act→World→Prop} (hd:Nat.ble (d+1) n=true)
    (h:∀b,l7 S b→l9 H b→At n ((d,.map (some b))::E) S ((b,.map #[] 0)::H) K):
    At n E S H (fun a w=>(⟨some d,.makeMap t none,ty,pos,aG,g⟩:Oper).wp P a w K Q):=by
  intro a w hR hG
  have hf:=hG.fresh
  show Oper.wp P _ a w K Q
  unfold Oper.wp
  have:(execOp a.eval ⟨some d,.makeMap t none,ty,pos,aG,g⟩).run P w= .ok (.value (.map (some w.heap.size))) {w with heap:=w.heap.push (.map #[] 0)}:=by
    simp [execOp,Instr.makeMap]
  rw [this]
  exact h w.heap.size hf.1 hf.2 _ _ (hR.put hd _) (hG.alloc _)
theorem sV {t kt et ty:TypeId} {pos aG g} {x y z:Operand} {b clk:Nat} {es:Array MapEntry} {f:Int→Option Value} {k:Int} {v:Value} {K:Act→World→Prop} (i:Nat) (hm:P.underlying t=some (.map kt et)) (hk:P.underlying kt=some (.int .i64))
    (hx:ev E x=some (.map (some b))) (hy:ev E y=some (.int .i64 k)) (hz:ev E z=some v) (hi:H[i]? =some (b,.map es clk)) (hF:dh es clk f)
    (h:∀es' clk',dh es' clk' (gM f k v)→At n E S (H.set i (b,.map es' clk')) K):
    At n E S H (fun a w=>(⟨none,.mapUpdate t x y z,ty,pos,aG,g⟩:Oper).wp P a w K Q):=by
  intro a w hR hG
  have hb:=hG.own _ (List.mem_of_getElem? hi)
  simp only at hb
  have hkk:IsKey (.int .i64) (Value.int .i64 k):=rfl
  show Oper.wp P _ a w K Q
  unfold Oper.wp
  rcases findNow_spec hkk es.toList 0 hF.keys with ⟨h1,h2⟩|⟨j,e,h1,h2,h3⟩
  · have : (execOp a.eval ⟨none, .mapUpdate t x y z, ty, pos, aG, g⟩).run P w = .ok .skip { w with heap := w.heap.setIfInBounds b (.map (es.push { key := .int .i64 k, val := v, born := clk }) (clk + 1)) } := by
      simp [execOp,hR.ev hx,hR.ev hy,hR.ev hz,Instr.mapUpdate,run_underlying hm,MapKept.run_getObj_map hb,MapKept.run_checkKey hk hkk,MapKept.run_findKey hk h1,MapKept.run_setObj_map _ hb,Result.andThen]
    rw [this]
    exact h _ _ (hF.push h2) _ _ hR (hG.set i hi rfl rfl rfl (by simp) (heap_set hb).1 (fun q hq=>(heap_set hb).2 q hq))
  · have hj : es[j]? = some e := by simpa using h2
    have:(execOp a.eval ⟨none,.mapUpdate t x y z,ty,pos,aG,g⟩).run P w= .ok .skip {w with heap:=w.heap.setIfInBounds b (.map (es.modify j fun e=> {e with key:= .int .i64 k,val:=v}) clk)}:=by
      simp [execOp,hR.ev hx,hR.ev hy,hR.ev hz,Instr.mapUpdate,run_underlying hm,MapKept.run_getObj_map hb,MapKept.run_checkKey hk hkk,MapKept.run_findKey hk h1,hj,h3,MapKept.run_keyThatStays hkk,MapKept.run_setObj_map _ hb,Result.andThen]
    rw [this]
    exact h _ _ (hF.modify hj h3) _ _ hR (hG.set i hi rfl rfl rfl (by simp) (heap_set hb).1 (fun q hq=>(heap_set hb).2 q hq))
theorem nD {t kt et ty:TypeId} {x y:Operand} {b clk:Nat} {es:Array MapEntry} {f:Int→Option Value} {k:Int} {zv:Value} (i:Nat) (hm:P.underlying t=some (.map kt et)) (hk:P.underlying kt=some (.int .i64)) (hz0:∀w,(zeroValue et).run P w= .ok zv w)
    (hx:ev E x=some (.map (some b))) (hy:ev E y=some (.int .i64 k)) (hi:H[i]? =some (b,.map es clk)) (hF:dh es clk f):YO P n E S H (.lookup t x y false) ty ((f k).getD zv):=by
  intro d pos aG g a w hR hG
  have hb:=hG.own _ (List.mem_of_getElem? hi)
  simp only at hb
  have hkk:IsKey (.int .i64) (Value.int .i64 k):=rfl
  have hz:=hz0 w
  rcases findNow_spec hkk es.toList 0 hF.keys with ⟨h1,h2⟩|⟨j,e,h1,h2,h3⟩
  · have hn : f k = none := by
      cases hf:f k with
      |none=>rfl
      |some v=>obtain⟨q,hq,e⟩:=hF.has k v hf;exact absurd e (h2 q hq)
    rw [hn]
    simp [execOp,hR.ev hx,hR.ev hy,Instr.lookup,run_underlying hm,MapKept.run_getObj_map hb,MapKept.run_checkKey hk hkk,MapKept.run_findKey hk h1,hz,Result.andThen]
  · obtain ⟨q, e1, e2⟩ := hF.ent e (List.mem_of_getElem? h2)
    rw [h3]at e1
    simp only [Value.int.injEq,true_and]at e1
    subst e1
    rw [e2]
    simp [execOp,hR.ev hx,hR.ev hy,Instr.lookup,run_underlying hm,MapKept.run_getObj_map hb,MapKept.run_checkKey hk hkk,MapKept.run_findKey hk h1,Result.andThen]
end
def RI (w:World) (a:Option Addr) (l:List Int):Prop:=∀i v,l[i]? =some v→a=some ⟨ab a,ao a,none⟩∧w.cell? ⟨ab a,ao a+i,none⟩=some (.int .i64 v)
def oR (L:List Int):Int→Option Value:=fun k=>if k∈L then some (.bool true)else none
theorem Lj {L:List Int} {i:Nat} {q:Int} (h:L[i]? =some q):gM (oR (L.take i)) q (.bool true)=oR (L.take (i+1)):=by
  funext k
  unfold gM oR
  rw [List.take_add_one,h]
  by_cases e:k=q
  · subst e;simp
  · simp [e]
theorem Li (L:List Int) (k:Int):(oR L k).getD (.bool false)= .bool (decide (k∈L)):=by
  unfold oR
  by_cases h:k∈L
  · rw [if_pos h,decide_eq_true h];rfl
  · rw [if_neg h,decide_eq_false h];rfl
def jP (a b:List Int):Bool:=b.all fun n=>!decide (n∈a)
theorem GA {a b:List Int} {j:Nat} {q:Int} (h:b[j]? =some q) (hq:q∈a):jP a b=false:=by
  unfold jP
  rw [List.all_eq_false]
  exact⟨q,List.mem_of_getElem? h,by simp [hq]⟩
theorem EK {p:Int→Bool} {b:List Int} {j:Nat} {q:Int} (h:b[j]? =some q) (h0:(b.take j).all p=true) (hq:p q=true):(b.take (j+1)).all p=true:=by
  rw [List.take_add_one,h];simp [h0,hq]
end Go.Eng
namespace Go.Eng
open Go
section
variable {P:Program} {n:Nat} {E:Env} {S:List World} {H:List (Nat×Obj)}
theorem MM {x y:Operand} {a b:Int} {ats:Array TypeId} {ty:TypeId} (hx:ev E x=some (.int .i64 a)) (hy:ev E y=some (.int .i64 b)):YO P n E S H (.call {callee:= .builtin .max,args:= #[x,y],argTypes:=ats}) ty (.int .i64 (max a b)):=by
  intro d pos aG g a' w hR hG
  have e:(if b>a then b else a)=max a b:=by omega
  simp [execOp,resolve,invoke,builtin,hR.ev hx,hR.ev hy,Builtin.max_,Builtin.max2]
  omega
theorem MN {x y:Operand} {a b:Int} {ats:Array TypeId} {ty:TypeId} (hx:ev E x=some (.int .i64 a)) (hy:ev E y=some (.int .i64 b)):YO P n E S H (.call {callee:= .builtin .min,args:= #[x,y],argTypes:=ats}) ty (.int .i64 (min a b)):=by
  intro d pos aG g a' w hR hG
  simp [execOp,resolve,invoke,builtin,hR.ev hx,hR.ev hy,Builtin.min_,Builtin.min2]
  omega
end
end Go.Eng
namespace Go.Abs
open Go Go.Eng
section
variable {P:Program} {E:Ev} {st:St}
theorem x6 {x y:Operand} {a b c:Nat} {ats:Array TypeId} {ty:TypeId} (hx:ev E x=some (.i .i64 (a:Int))) (hy:ev E y=some (.i .i64 (b:Int))) (hc:max a b=c):YO P E st (.call {callee:= .builtin .max,args:= #[x,y],argTypes:=ats}) ty (.i .i64 (c:Int)):=by
  intro w0 X0 n β X w1 w hr
  subst hc
  obtain⟨g1,g2⟩:=hr.bB hx
  obtain⟨g3,g4⟩:=hr.bB hy
  rw [ff]at g2 g4
  rw [g2]at g1;rw [g4]at g3
  exact⟨.int .i64 ((max a b:Nat):Int),by rw [ff],hr.old fun w' _=>by have:=Eng.MM (P:=P) (n:=w1.tmps.size) (S:= [w']) (H:= []) (ats:=ats) (ty:=ty) g1 g3;rwa [show max (a:Int) (b:Int)=((max a b:Nat):Int) by omega]at this⟩
theorem MO {x y:Operand} {a b c:Nat} {ats:Array TypeId} {ty:TypeId} (hx:ev E x=some (.i .i64 (a:Int))) (hy:ev E y=some (.i .i64 (b:Int))) (hc:min a b=c):YO P E st (.call {callee:= .builtin .min,args:= #[x,y],argTypes:=ats}) ty (.i .i64 (c:Int)):=by
  intro w0 X0 n β X w1 w hr
  subst hc
  obtain⟨g1,g2⟩:=hr.bB hx
  obtain⟨g3,g4⟩:=hr.bB hy
  rw [ff]at g2 g4
  rw [g2]at g1;rw [g4]at g3
  exact⟨.int .i64 ((min a b:Nat):Int),by rw [ff],hr.old fun w' _=>by have:=Eng.MN (P:=P) (n:=w1.tmps.size) (S:= [w']) (H:= []) (ats:=ats) (ty:=ty) g1 g3;rwa [show min (a:Int) (b:Int)=((min a b:Nat):Int) by omega]at this⟩
end
end Go.Abs
-- C4R
namespace Go.Abs.D2
open Go Go.Eng Go.Abs
def jb (x:List UInt8) (lv nb:Int) (D:List UInt8) (l:List Int):List UInt8:=l.foldl (fun D id=>nu x lv nb D id) D
theorem EJ {x:List UInt8} {lv nb:Int} {D:List UInt8} {l:List Int} {i:Nat} {q:Int} (h:l[i]? =some q):nu x lv nb (jb x lv nb D (l.take i)) q=jb x lv nb D (l.take (i+1)):=by
  unfold jb;rw [List.take_add_one,h];simp
theorem zy (x:List UInt8) (lv nb:Int) (l:List Int):∀D,cM lv nb (jb x lv nb D l)=cM lv nb D:=by
  induction l with
  |nil=>intro D;rfl
  |cons a l ih=>intro D;show cM lv nb (jb x lv nb (nu x lv nb D a) l)=_;rw [ih,FW]
def ec (l:List Int):Nat:=min (max (4*l.length) 8) 4096
theorem qj (l:List Int):8≤ec l∧ec l≤4096:=by unfold ec;omega
def nG (n:Nat):List UInt8:=List.replicate ((n+7) / 8) 0
def lX (x:List UInt8) (i:Nat) (a:List Int):da:=⟨(i:Nat),(ec a:Nat),jb x (i:Nat) (ec a:Nat) (nG (ec a)) a⟩
def iI (x:List UInt8) (f:da) (b:List Int):List Int:=b.filter fun n=>mX x f.lv f.nb f.D n
def bS (x:List UInt8) (p q:List Int):Nat→List da×List Int×List Int
  |0=>([],p,q)
  |n+1=>((bS x p q n).1++ [lX x n (bS x p q n).2.1],iI x (lX x n (bS x p q n).2.1) (bS x p q n).2.2,(bS x p q n).2.1)
theorem jq (x:List UInt8) (p q:List Int):∀n,(bS x p q n).1.length=n
  |0=>rfl
  |n+1=>by rw [bS,List.length_append,jq x p q n];rfl
def jU (x:List UInt8) (p q:List Int) (n:Nat):Bool:=!(bS x p q n).2.1.isEmpty
theorem HG {x:List UInt8} {p q:List Int} {n:Nat} (h:0<(bS x p q n).2.1.length):jU x p q n=true:=by
  unfold jU
  cases hl:(bS x p q n).2.1 with
  |nil=>rw [hl]at h;simp at h
  |cons=>rfl
@[irreducible] def gC (x:List UInt8) (p q:List Int):Nat:=kJ (jU x p q) 16
theorem vO (x:List UInt8) (p q:List Int):gC x p q=kJ (jU x p q) 16:=by unfold gC;rfl
def fy (x:List UInt8) (p q:List Int):cD:=⟨x,(bS x p q (gC x p q)).1,(bS x p q (gC x p q)).2.1⟩
def iC (p q:List Int):Bool:=cP p&&cP q&&jP p q
theorem rG (x:List UInt8) (p q:List Int):∀n,(∀v∈(bS x p q n).2.1,v∈p∨v∈q)∧∀v∈(bS x p q n).2.2,v∈p∨v∈q
  |0=>⟨fun _ h=> .inl h,fun _ h=> .inr h⟩
  |n+1=>⟨fun v h=>(rG x p q n).2 v ((List.mem_filter.1 h).1),fun v h=>(rG x p q n).1 v h⟩
theorem Fe {x:List UInt8} {p q:List Int} (h:iC p q=true) (n:Nat):(∀v∈(bS x p q n).2.1,0≤v∧v<1024)∧∀v∈(bS x p q n).2.2,0≤v∧v<1024:=by
  unfold iC at h
  simp only [Bool.and_eq_true]at h
  have h1:=sK h.1.1
  have h2:=sK h.1.2
  obtain⟨g1,g2⟩:=rG x p q n
  exact⟨fun v hv=>(g1 v hv).elim (h1 v) (h2 v),fun v hv=>(g2 v hv).elim (h1 v) (h2 v)⟩
theorem FV (x:List UInt8) (i:Nat) (a:List Int) (hi:i<16):cM (i:Nat) (ec a:Nat) (jb x (i:Nat) (ec a:Nat) (nG (ec a)) a)=true:=by
  rw [zy]
  exact zG (sW hi (qj a).1 (qj a).2)
theorem yN (x:List UInt8) (p q:List Int):∀n i,i<n→(bS x p q n).1[i]? =some (lX x i (bS x p q i).2.1)
  |0,i,h=>by omega
  | n + 1, i, h => by
    rw [bS]
    rcases Nat.lt_or_ge i n with h2|h2
    · rw [List.getElem?_append_left (by rw [jq];exact h2)];exact yN x p q n i h2
    · have : i = n := by omega
      subst this
      rw [List.getElem?_append_right (by rw [jq];omega),jq];simp
theorem Ap (x:List UInt8) (p q:List Int):gC x p q≤16:=by rw [vO];exact CC _ _
@[irreducible] def buildA (x:List UInt8) (p q:List Int):A:=if iC p q then .tu [.ag (eL (fy x p q)),.i .i64 0]else .tu [.ag (eL ⟨List.replicate 32 0, [], []⟩),.i .i64 340]
theorem u6 {x:List UInt8} {p q:List Int} (h:iC p q=false):buildA x p q= .tu [.ag (eL ⟨List.replicate 32 0, [], []⟩),.i .i64 340]:=by unfold buildA;rw [h];rfl
theorem rI {x:List UInt8} {p q:List Int} (h:iC p q=true):buildA x p q= .tu [.ag (eL (fy x p q)),.i .i64 0]:=by unfold buildA;rw [h];rfl
theorem Jj (p q:List Int):(cP p=false∧iC p q=false)∨(cP p=true∧cP q=false∧iC p q=false)∨(cP p=true∧cP q=true∧jP p q=false∧iC p q=false)∨(cP p=true∧cP q=true∧jP p q=true∧iC p q=true):=by
  unfold iC
  cases cP p<;>cases cP q<;>cases jP p q<;>simp
theorem Hb {l:List Int} {p:Int→Bool} {i:Nat} {q:Int} (h:l[i]? =some q) (hp:p q=true):((l.take i).filter p).map iA++ [.i .i64 q]=((l.take (i+1)).filter p).map iA:=by
  rw [List.take_add_one,h];simp [hp]
theorem Ha {l:List Int} {p:Int→Bool} {i:Nat} {q:Int} (h:l[i]? =some q) (hp:p q=false):(l.take i).filter p=(l.take (i+1)).filter p:=by
  rw [List.take_add_one,h];simp [hp]
theorem Fc (x:List UInt8) (p q:List Int) (n:Nat):((bS x p q n).1).flatMap gD++gD (lX x n (bS x p q n).2.1)=((bS x p q (n+1)).1).flatMap gD:=by
  rw [bS];simp
theorem rE {x:List UInt8} {p q:List Int} (hp:p.length≤100) (hq:q.length≤100):∀n,(bS x p q n).2.1.length≤100∧(bS x p q n).2.2.length≤100
  |0=>⟨hp,hq⟩
  |n+1=>⟨Nat.le_trans (List.length_filter_le _ _) (rE hp hq n).2,(rE hp hq n).1⟩
theorem EE {x:List UInt8} {i:Nat} {a:List Int} {k:Nat} {q:Int} (hi:i<16) (hq:a[k]? =some q) (h0:0≤q∧q<1024):addA x (i:Nat) (ec a:Nat) (jb x (i:Nat) (ec a:Nat) (nG (ec a)) (a.take k)) q= .tu [jo (i:Nat) (ec a:Nat) (jb x (i:Nat) (ec a:Nat) (nG (ec a)) (a.take (k+1))),.i .i64 0]:=by
  obtain⟨j,rfl⟩:∃j:Nat,q=(j:Int):=⟨q.toNat,by omega⟩
  have hc:cM (i:Nat) (ec a:Nat) (jb x (i:Nat) (ec a:Nat) (nG (ec a)) (a.take k))=true:=by
    rw [zy];exact zG (sW hi (qj a).1 (qj a).2)
  rw [EI (Jl hc (by omega)),EJ hq]
theorem GP {x:List UInt8} {p q:List Int} {n:Nat} (h:n<16) (h1:∀t,t<n→jU x p q t=true) (h2:jU x p q n=false):gC x p q=n:=by rw [vO];exact CD h h1 h2
theorem Ao {x:List UInt8} {p q:List Int} (h1:∀t,t<16→jU x p q t=true):gC x p q=16:=by rw [vO];exact xb h1
theorem Fz {x:List UInt8} {p q:List Int} {n:Nat} (h:gC x p q=n):fy x p q=⟨x,(bS x p q n).1,(bS x p q n).2.1⟩:=by subst h;rfl
theorem D9 {x:List UInt8} {f:da} {l:List Int} {i:Nat} {q:Int} (h:l[i]? =some q) (hp:mX x f.lv f.nb f.D q=true):(iI x f (l.take i)).map iA++ [.i .i64 q]=(iI x f (l.take (i+1))).map iA:=Hb h hp
theorem MD {x:List UInt8} {f:da} {l:List Int} {i:Nat} {q:Int} (h:l[i]? =some q) (hp:mX x f.lv f.nb f.D q=false):iI x f (l.take i)=iI x f (l.take (i+1)):=Ha h hp
theorem Iy (x:List UInt8) (f:da) (l:List Int):(iI x f l).length≤l.length:=List.length_filter_le _ _
theorem MC {x:List UInt8} {f:da} {l:List Int} {i:Nat} {q:Int} (h:l[i]? =some q) (hp:mX x f.lv f.nb f.D q=true):(iI x f (l.take i)).length+1=(iI x f (l.take (i+1))).length:=by
  have:=congrArg List.length (D9 h hp)
  simpa using this
theorem HF {x:List UInt8} {p q:List Int} {n:Nat} (h:¬0<(bS x p q n).2.1.length):jU x p q n=false:=by
  unfold jU
  have:(bS x p q n).2.1= []:=List.length_eq_zero_iff.1 (by omega)
  rw [this];rfl
theorem GO {x:List UInt8} {p q:List Int} {n:Nat} (hn:n≤16) (h1:∀t,t<n→jU x p q t=true) (h:¬0<(bS x p q n).2.1.length):gC x p q=n:=by
  rcases Nat.lt_or_ge n 16 with h2|h2
  · exact GP h2 h1 (HF h)
  · have : n = 16 := by omega
    subst this;exact Ao h1
theorem LR {x:List UInt8}:(ky.map u8++ [A.nl,A.nl]).take 0++aY (.ag (x.map u8))++(ky.map u8++ [A.nl,A.nl]).drop (0+32)=x.map u8++ [.nl,.nl]:=by
  show []++x.map u8++ [A.nl,A.nl]=_
  rfl
theorem DL {x:List UInt8} (hx:x.length=32) (a b:A):((x.map u8++ [a,b]).drop 33)= [b]:=by
  rw [show 33=32+1 from rfl, ←List.drop_drop,tX hx];rfl
theorem tY {x:List UInt8} (hx:x.length=32) (v a b:A):(x.map u8++ [a,b]).set 33 v=x.map u8++ [a,v]:=by
  rw [List.set_append_right _ _ (by simp [hx]),List.length_map,hx];rfl
theorem yW {x:List UInt8} {p q:List Int} {n:Nat} (h:gC x p q=n):x.map u8++ [.fz n ((bS x p q n).1.flatMap gD),.fz (bS x p q n).2.1.length ((bS x p q n).2.1.map iA)]=eL (fy x p q):=by
  rw [Fz h,eL,pT,jV,jq]
end Go.Abs.D2
-- AbsT
namespace Go.Abs
open Go Go.Eng
def gh (s m:Nat) (cs:List A) (upds:List (Nat×List A)):A→St→Prop:=fun r st=>∃id,r= .sl id s 0 m∧st.get id=some cs∧∀p∈upds,st.get p.1=some p.2∧p.1≠id
section
variable {P:Program} {w0:Bw} {X0:Xs} {n:Nat} {E:Ev} {st:St} {K:Act→World→Prop} {Q:Exit→Act→World→Prop}
theorem BY {d : Nat} (nx : Nat) (hfr : st.free nx = true) (s0 : St) (upds : List (Nat × List A)) (ow : Bool) {f : FuncId} {x : Operand} {xs : List Operand} {fs cs vs vs' ds : List A} {s m : Nat} {ats : Array TypeId} {ty : TypeId} {pos aft' g} (hx : ev E x = some (.fn (.func f) fs cs)) (hxs : c5 E xs = some vs) (hS : gi st s0 ow s0.os) (hv : a8 st s0 ow (fs ++ vs ++ cs) vs')
    (hc:cH P f vs' s0 (gh s m ds upds)) (hp:bO ds) (hf:ow=false∨dH ds) (hu:∀p∈upds,(∃cs,s0.get p.1=some cs)∧lR s0 ow p.2) (hd:Nat.ble (d+1) n=true) (h:At w0 X0 n ((d,.sl nx s 0 m)::E) ((aG s0 st upds).put nx ds) K):
    At w0 X0 n E st (fun a w=>(⟨some d,.call {callee:= .value x,args:=xs.toArray,argTypes:=ats},ty,pos,aft',g⟩:Oper).wp P a w K Q):=by
  rintro a w ⟨β,X,hr⟩
  have hss:∀id cs,s0.get id=some cs→st.get id=some cs:=fun id cs h=>(iZ hS h).1
  refine lV hr hx hxs hS hv hc fun v w' ⟨r,β',X',st',hR,hsup,hsub,hm,hvv⟩=>?_
  obtain⟨id,rfl,hg,hup⟩:=hR
  obtain⟨m1,m2,m3,m4,m6⟩:=hm.yx hr hss hsub hsup (upds:=upds) (fun p hp=>⟨(hup p hp).1,(hu p hp).1,(hu p hp).2⟩)
  have hnx:=hr.mem.dom nx hfr
  have hfa:∀k,(aG s0 st upds).free k=true→st.free k=true:=fun k=>(kz (s0:=s0) (st:=st) (upds:=upds)).2
  have hga:∀k ck,(aG s0 st upds).get k=some ck→(k,ck)∈upds∨(s0.free k=true∧st.get k=some ck):=fun k ck hk=>(kz (s0:=s0) (st:=st) (upds:=upds)).1 ck hk
  have ho:=hm.obj id ds hg
  unfold OB at ho
  have key:∀y:BL,OB (b6 β nx y) (fun b o=>X b o∨(X' b o∧(bw w (cq s0 β) s0 c8).own b)) w' w0 nx ds→(∀k ck q M N',(aG s0 st upds).get k=some ck→β k=some (.bk q M)→y= .bk q N'→False)→Mem w0 (b6 β nx y) (fun b o=>X b o∨(X' b o∧(bw w (cq s0 β) s0 c8).own b)) ((aG s0 st upds).put nx ds) w':=fun y hy hfresh=>by
    refine .of (m1.below) (fun k y h=>(cl hnx) k y (m1.b0 k y h)) (m1.xlt) (fun k h=>?_) (fun k es hk=>?_) (fun i j ci cj q M N' hij hi hj hbi hbj=>?_)
    · rw [St.en] at h
      split at h
      · cases h
      · rename_i hne
        rw [b7 (fun e=>hne e.symm)]
        exact hr.mem.dom k (hfa k h)
    · rw [St.cg] at hk
      split at hk
      · rename_i e; subst e
        simp only [Option.some.injEq]at hk
        subst hk
        exact hy
      · refine (m1.obj k es hk).later (fun _ _ h => ⟨h, rfl⟩) (cl hnx) (fun q M hq => ⟨rfl, ?_⟩) fun q hq => ⟨rfl, ((m1.obj k es hk).dZ hq).2.2.1⟩
        have hk':=m1.obj k es hk
        unfold OB at hk'
        rw [hq]at hk'
        exact hk'.2.1
    · rw [St.cg] at hi hj
      by_cases ei:nx=i
      · by_cases ej : nx = j
        · omega
        · rw [if_neg ej] at hj
          rw [←ei,bH]at hbi
          rw [b7 (by omega)]at hbj
          exact hfresh j cj q N' M hj hbj (Option.some.inj hbi)
      · rw [if_neg ei] at hi
        rw [b7 (by omega)]at hbi
        by_cases ej:nx=j
        · rw [← ej, bH] at hbj
          exact hfresh i ci q M N' hi hbi (Option.some.inj hbj)
        · rw [if_neg ej] at hj
          rw [b7 (by omega)]at hbj
          exact m1.inj i j ci cj q M N' hij hi hj hbi hbj
  simp only [V]at hvv
  rcases hvv with ⟨hβ,rfl,_,rfl⟩|⟨b,N,cap,hβ,rfl,c1,c2,c3⟩
  · rw [hβ] at ho
    have ho:ds= []:=ho
    subst ho
    exact h _ _ ⟨_,_,hr.gF hd m2 m3 (cl hnx) (key .ph (by unfold OB;rw [bH]) (fun _ _ _ _ _ _ _ e=>by cases e)) (by simp only [V];exact .inl ⟨bH,by simp⟩)⟩
  · rw [hβ] at ho
    obtain⟨o1,o2,us,rest,ety,o3,o4,o5,o6⟩:=ho
    have hown:w0.own b∧∀k ck q M N',(aG s0 st upds).get k=some ck→β k=some (.bk q M)→BL.bk b N= .bk q N'→False:=by
      have hsame:∀k ck q M,(k,ck)∈upds→β k=some (.bk q M)→q≠b:=fun k ck q M hk hq e=>by
        obtain⟨g1,g2⟩:=hup _ hk
        obtain⟨⟨c0,g3⟩,_⟩:=hu _ hk
        have g4:β' k=some (.bk q M):=hm.b0 k _ (by show cq s0 β k=_;rw [jC (mU g3)];exact hq)
        subst e
        exact hm.inj k id ck ds q M N g2 g1 hg g4 hβ
      rcases o1 with h|⟨id',cs',h1,y',h2,h2'⟩
      · have h : w.heap.size ≤ b := h
        refine⟨Bw.j4 hr.mem.below h,fun k ck q M N' hk hq e=>?_⟩
        simp only [BL.bk.injEq]at e
        rcases hga k ck hk with hk|⟨_,hk⟩
        · exact hsame k ck q M hk hq e.1.symm
        · have := m6 q M k ck hk hq
          omega
      · obtain ⟨g3, g4⟩ := j9 h2
        refine⟨((hr.mem.obj id' cs' (hss id' cs' h1)).kI g4 h2').2.1,fun k ck q M N2 hk hq e=>?_⟩
        simp only [BL.bk.injEq]at e
        rcases hga k ck hk with hk|⟨k1,k2⟩
        · exact hsame k ck q M hk hq e.1.symm
        · obtain ⟨rfl, _⟩ := e
          refine hr.mem.apart (fun e=>?_) k2 (hss id' cs' h1) hq g4 rfl h2'
          subst e;rw [k1]at g3;cases g3
    have hnX:∀o,¬(X b o∨(X' b o∧(bw w (cq s0 β) s0 c8).own b)):=fun o h=>by
      rcases h with h|⟨h,_⟩
      · exact o2 o (hsup b o (.inl h))
      · exact o2 o h
    have hvs:VS (fun b o=>X b o∨(X' b o∧(bw w (cq s0 β) s0 c8).own b)) w' (b6 β nx (.bk b N)) ds us:=by
      rcases hf with hf|hf
      · exact eH (m4 hf) _ _ _ _ (bM.refl _) (jI _ _ hp o5)
      · exact k6 _ _ hf o5
    exact h _ _ ⟨_,_,hr.gF hd m2 m3 (cl hnx) (key (.bk b N) (by unfold OB;rw [bH];exact⟨hown.1,hnX,us,rest,ety,o3,o4,hvs,o6⟩) hown.2) (by simp only [V];exact .inr ⟨b,N,cap,bH,rfl,c1,c2,c3⟩)⟩
end
end Go.Abs
namespace Go.Abs
open Go Go.Eng
section
variable {P:Program} {n:Nat}
def u9 (w:World) (β:Bm) (s0:St) (T:List Nat):Bw:=⟨w,fun b=>∃id cs,s0.get id=some cs∧∃y,β id=some y∧y.on b,fun id=>if id∈T then β id else none,T,(fun id x h=>by
  by_cases hi:id∈T
  · exact hi
  · rw [if_neg hi]at h;cases h), []⟩
def qZ (T:List Nat) (upds:List (Nat×List A)):Prop:=∀p∈upds,∀(X:Xs) (w:World) (β1 β2:Bm) (us:List Value),(∀t∈T,β2 t=β1 t)→VS X w β1 p.2 us→VS X w β2 p.2 us
theorem JS {w : World} {X : Xs} {β : Bm} {s0 : St} {hd : ∀ id, s0.free id = true → β id = none} {T : List Nat} {s m : Nat} {ds : List A} {upds : List (Nat × List A)} {v : Value} {w' : World} (hp : bO ds) (hT : ∀ t ∈ T, ∃ x, β t = some x) (hU : ∀ p ∈ upds, p.1 ∈ T) (hO : qZ T upds)
    (h:Post (u9 w β s0 T) X (gh s m ds upds) v w'):Post (bw w β s0 hd) X (gh s m ds upds) v w':=by
  obtain⟨r,β',X',st',⟨id,rfl,hg,hup⟩,h1,h2,hm,hv⟩:=h
  obtain⟨N0,hN⟩:=we s0.os
  have hK:s0.free N0=true:=hN N0 (Nat.le_refl _)
  have hnx:=hd N0 hK
  have hNT:N0∉T:=fun hn=>by obtain⟨x,e⟩:=hT N0 hn;rw [hnx]at e;cases e
  have hsame:∀t∈T,β' t=β t:=fun t ht=>by
    obtain⟨x,e⟩:=hT t ht
    rw [e]
    exact hm.b0 t x (by show(if t∈T then β t else none)=some x;rw [if_pos ht];exact e)
  have hbel:KB (bw w β s0 hd) w':=⟨hm.below.os,hm.below.tape,hm.below.output,hm.below.size,hm.below.block,fun s hs=>by cases hs⟩
  have hfa:∀k,(aG s0 ⟨[]⟩ upds).free k=true→s0.free k=true:=fun k hk=>by
    have key:∀(l:List (Nat×List A)) os,fresh ((l.map fun p=>(p.1,some p.2))++os) k=true→fresh os k=true:=by
      intro l os
      induction l with
      |nil=>exact fun h=>h
      | cons p l ih =>
        simp only [List.map_cons,List.cons_append]
        rw [l3]
        intro h
        split at h
        · cases h
        · exact ih h
    unfold aG St.free at hk
    rw [List.append_assoc]at hk
    have:=key _ _ hk
    rw [wg]at this
    exact this
  have hga:∀k ck,(aG s0 ⟨[]⟩ upds).get k=some ck→(k,ck)∈upds:=fun k ck hk=>by
    rcases(kz (s0:=s0) (st:=⟨[]⟩) (upds:=upds)).1 ck hk with h|⟨_,h⟩
    · exact h
    · cases h
  have ho:=hm.obj id ds hg
  unfold OB at ho
  have hb2:∀y,∀t∈T,(b6 β N0 y) t=β' t:=fun y t ht=>by
    rw [b7 (show t≠N0 by rintro rfl;exact hNT ht),hsame t ht]
  have key:∀y:BL,OB (b6 β N0 y) X' w' (bw w β s0 hd) N0 ds→(∀k ck q M N',(k,ck)∈upds→β k=some (.bk q M)→y= .bk q N'→False)→Mem (bw w β s0 hd) (b6 β N0 y) X' ((aG s0 ⟨[]⟩ upds).put N0 ds) w':=fun y hy hfresh=>by
    refine .of hbel (cl hnx) hm.xlt (fun k h=>?_) (fun k es hk=>?_) (fun i j ci cj q M N' hij hi hj hbi hbj=>?_)
    · rw [St.en] at h
      split at h
      · cases h
      · rename_i hne
        rw [b7 (fun e=>hne e.symm)]
        exact hd k (hfa k h)
    · rw [St.cg] at hk
      split at hk
      · rename_i e; subst e
        simp only [Option.some.injEq]at hk
        subst hk
        exact hy
      · have hu := hga k es hk
        have hkT:=hU _ hu
        have hob:=hm.obj k es (hup _ hu).1
        have e1:=hb2 y k hkT
        unfold OB at hob ⊢
        rw [e1]
        split
        · rename_i h';rw [h']at hob;exact hob
        · rename_i h';rw [h']at hob;exact hob
        · rename_i b N h'
          rw [h']at hob
          obtain⟨q1,q2,us,rest,ty,q3,q4,q5,q6⟩:=hob
          exact⟨q1,q2,us,rest,ty,q3,q4,hO _ hu X' w' β' _ us (hb2 y) q5,q6⟩
        · rename_i b h'
          rw [h']at hob
          exact hob
    · rw [St.cg] at hi hj
      by_cases ei:N0=i
      · rw [if_neg (by omega)] at hj
        have hu:=hga j cj hj
        rw [←ei,bH]at hbi
        rw [b7 (by omega)]at hbj
        exact hfresh j cj q N' M hu hbj (Option.some.inj hbi)
      · rw [if_neg ei] at hi
        have hui:=hga i ci hi
        rw [b7 (fun e=>ei e.symm)]at hbi
        by_cases ej:N0=j
        · rw [← ej, bH] at hbj
          exact hfresh i ci q M N' hui hbi (Option.some.inj hbj)
        · rw [if_neg ej] at hj
          have huj:=hga j cj hj
          rw [b7 (fun e=>ej e.symm)]at hbj
          exact hm.inj i j ci cj q M N' hij (hup _ hui).1 (hup _ huj).1 ((hsame i (hU _ hui)).trans hbi) ((hsame j (hU _ huj)).trans hbj)
  have hget:∀p∈upds,((aG s0 ⟨[]⟩ upds).put N0 ds).get p.1=some p.2∧p.1≠N0:=fun p hp'=>by
    have hne:p.1≠N0:=fun e=>hNT (by rw [←e];exact hU p hp')
    refine⟨?_,hne⟩
    rw [St.cg,if_neg (fun e=>hne e.symm)]
    have key2:∀(l:List (Nat×List A)) os,(∀q∈l,st'.get q.1=some q.2)→p∈l→look ((l.map fun q=>(q.1,some q.2))++os) p.1=some p.2:=by
      intro l os
      induction l with
      |nil=>intro _ h;cases h
      | cons q l ih =>
        intro hq hpl
        simp only [List.map_cons,List.cons_append]
        rw [oy]
        split
        · rename_i e
          have e1:=hq q (.head _)
          rw [e,(hup p hp').1]at e1
          exact e1.symm
        · rename_i e
          rcases List.mem_cons.1 hpl with rfl|hpl
          · exact absurd rfl e
          · exact ih (fun q hq'=>hq q (.tail _ hq')) hpl
    show look _ _=_
    unfold aG
    dsimp only
    rw [List.append_assoc]
    exact key2 upds _ (fun q hq=>(hup q hq).1) hp'
  simp only [V]at hv
  rcases hv with ⟨hβ,rfl,e2,rfl⟩|⟨b,N,cap,hβ,rfl,c1,c2,c3⟩
  · rw [hβ] at ho
    have ho:ds= []:=ho
    subst ho
    refine⟨.sl N0 s 0 0,b6 β N0 .ph,X',_,⟨N0,rfl,by rw [St.cg,if_pos rfl],hget⟩,h1,h2,key .ph (by unfold OB;rw [bH]) (fun _ _ _ _ _ _ _ e=>by cases e),?_⟩
    simp only [V];exact .inl ⟨bH,by simp⟩
  · rw [hβ] at ho
    obtain⟨o1,o2,us,rest,ety,o3,o4,o5,o6⟩:=ho
    refine⟨.sl N0 s 0 m,b6 β N0 (.bk b N),X',_,⟨N0,rfl,by rw [St.cg,if_pos rfl],hget⟩,h1,h2,key (.bk b N) (by unfold OB;rw [bH];exact⟨o1,o2,us,rest,ety,o3,o4,jI _ _ hp o5,o6⟩) (fun k ck q M N' hu hk e=>?_),?_⟩
    · simp only [BL.bk.injEq] at e
      obtain⟨rfl,_⟩:=e
      exact hm.inj k id ck ds b M N (hup _ hu).2 (hup _ hu).1 hg ((hsame k (hU _ hu)).trans hk) hβ
    · simp only [V];exact .inr ⟨b,N,cap,bH,rfl,c1,c2,c3⟩
theorem vP {f:FuncId} {fn:Func} {c:Code} {args:List A} {s0:St} {s m:Nat} {ds:List A} {upds:List (Nat×List A)} (T:List Nat) (hp:bO ds) (hU:∀p∈upds,p.1∈T) (hTs:∀t∈T,∃cs,s0.get t=some cs) (hO:qZ T upds) (hf:P.funcs[f]? =some fn) (hb:fn.body=some c)
    (hn:fn.ntmps=n) (hname:(fn.name== "runtime.NumGoroutine")=false) (ha:args.length≤n)
    (h:∀w0 X0,w0.ids=T→At w0 X0 n (gm args 0) s0 (Pw [] (c.wpIn (rF none) 0 P (bodyPost P fn fun e w'=>∃v,e= .returned v∧Post w0 X0 (gh s m ds upds) v w')))):cH P f args s0 (gh s m ds upds):=by
  intro w X β us hd hX hgl ho hi hv
  have hl:=cL hv
  have hT:∀t∈T,∃x,β t=some x:=fun t ht=>by
    obtain⟨cs,e⟩:=hTs t ht
    have:=ho t cs e
    unfold OB at this
    cases hb':β t with
    |none=>rw [hb']at this;exact this.elim
    |some x=>exact⟨x,rfl⟩
  refine Eng.Fn.mono (R:=Post (u9 w β s0 T) X (gh s m ds upds)) ⟨⟨fn,hf,by simp [hb],hname⟩,calls_of_wp hf hb (wpIn_wide.1 (kg (h (u9 w β s0 T) X rfl _ w ⟨β,X,.of (fun _ _ h=>h) (fun _ _ h=> .inl h) (.of ⟨rfl,rfl,rfl,Nat.le_refl _,fun _ _ _=>rfl,fun s hs=>by cases hs⟩ (fun id x h=>?_) hX hd ho hi) hgl ?_ rfl (fun s hs=>by cases hs) (fun t v ht=>?_)⟩)))⟩ (fun _ _ h=>JS hp hT hU hO h)
  · have h : (if id ∈ T then β id else none) = some x := h
    split at h
    · exact h
    · cases h
  · simp [hn];omega
  · obtain ⟨_, h2⟩ := k7 _ _ _ _ ht
    simp only [Nat.sub_zero]at h2
    obtain⟨u,g1,g2⟩:=fx hv h2
    have hlt:=(List.getElem?_eq_some_iff.1 g1).1
    refine⟨u,?_,g2⟩
    rw [Array.getElem?_append,if_pos (by simpa using hlt)]
    simpa using g1
end
end Go.Abs
namespace Go.Abs
open Go Go.Eng
def uC (mk:Nat→A) (mkc:Nat→List A):A→St→Prop:=fun r st=>∃id,r=mk id∧st.get id=some (mkc id)
def qW (mk:Nat→A):Prop:=∀X w β i u,V X w β (mk i) u→∀X' w' β' j,β' j=β i→V X' w' β' (mk j) u
def k5 (mkc:Nat→List A):Prop:=∀X w β i us,VS X w β (mkc i) us→∀X' w' β' j,β' j=β i→VS X' w' β' (mkc j) us
theorem vw {v:A} (h:Flat v):qW (fun _=>v):=fun _ _ _ _ _ hv _ _ _ _ _=>pg _ _ h hv
theorem Gv {f:Fn}:qW (fun i=> .fn f [] [.p i 0]):=fun _ _ _ _ _ hv _ _ _ _ hj=>(td _ _ _ _ _ hv).2 _ _ _ _ hj
theorem Gr:k5 (fun _=> []):=fun _ _ _ _ us h _ _ _ _ _=>by simp only [VS]at h ⊢;exact h
theorem rT {a:Nat→A} {l:Nat→List A} (h1:qW a) (h2:k5 l):k5 (fun i=>a i::l i):=fun _ _ _ _ us h _ _ _ _ hj=>by
  simp only [VS]at h ⊢
  obtain⟨u,r,rfl,g1,g2⟩:=h
  exact⟨u,r,rfl,h1 _ _ _ _ _ g1 _ _ _ _ hj,h2 _ _ _ _ _ g2 _ _ _ _ hj⟩
theorem Gs {l:Nat→List A} (h:k5 l):qW (fun i=> .ag (l i)):=fun _ _ _ _ _ hv _ _ _ _ hj=>by
  simp only [V]at hv ⊢
  obtain⟨us,e1,e2,e3⟩:=hv
  exact⟨us,e1,h _ _ _ _ _ e2 _ _ _ _ hj,e3⟩
theorem Jt {l:Nat→List A} {f:Fn} (k:Nat) (h:k5 l) (hk:∀i,(l i)[k]? =some (.fn f [] [.p i 0])):nK (fun i=> .ag (l i)):=by
  intro X w β i u hv
  refine⟨?_,fun X' w' β' j hj=>Gs h _ _ _ _ _ hv _ _ _ _ hj⟩
  simp only [V]at hv
  obtain⟨us,_,e2,_⟩:=hv
  obtain⟨u',_,g⟩:=fx e2 (hk i)
  exact(td _ _ _ _ _ g).1
section
variable {P:Program} {w0:Bw} {X0:Xs} {n:Nat} {E:Ev} {st:St} {Q:Exit→Act→World→Prop}
theorem IS {K : Act → World → Prop} {mk : Nat → A} {mkc : Nat → List A} (hmk : nK mk) (hmc : k5 mkc) {d : Nat} (nx : Nat) (hfr : st.free nx = true) {f : FuncId} {x : Operand} {xs : List Operand} {fs cs vs vs' : List A} {ats : Array TypeId} {ty : TypeId} {pos aft' g} (ow : Bool) (hx : ev E x = some (.fn (.func f) fs cs)) (hxs : c5 E xs = some vs) (hv : a8 st ⟨[]⟩ ow (fs ++ vs ++ cs) vs')
    (hc:aA P f vs' (uC mk mkc)) (hd:Nat.ble (d+1) n=true) (h:At w0 X0 n ((d,mk nx)::E) (st.put nx (mkc nx)) K):
    At w0 X0 n E st (fun a w=>(⟨some d,.call {callee:= .value x,args:=xs.toArray,argTypes:=ats},ty,pos,aft',g⟩:Oper).wp P a w K Q):=by
  rintro a w ⟨β,X,hr⟩
  refine lV hr hx hxs (s0:=⟨[]⟩) trivial hv hc fun v w' ⟨r,β',X',st',hR,hsup,hsub,hm,hvv⟩=>?_
  obtain⟨id,rfl,hg⟩:=hR
  obtain⟨m1,m2,m3,m4,m6⟩:=hm.after hr (fun id cs h=>by cases h) hsub hsup (upds:= []) (fun p hp=>by cases hp)
  rw [pq]at m1
  have hnx:=hr.mem.dom nx hfr
  have ho:=hm.obj id (mkc id) hg
  unfold OB at ho
  obtain⟨⟨b,N,hβ⟩,hV⟩:=hmk _ _ _ _ _ hvv
  rw [hβ]at ho
  obtain⟨o1,o2,us,rest,ety,o3,o4,o5,o6⟩:=ho
  have o1:w.heap.size≤b:=by
    rcases o1 with h|⟨id',cs',h,_⟩
    · exact h
    · cases h
  have hnX:∀o,¬(X b o∨(X' b o∧(bw w (cq ⟨[]⟩ β) ⟨[]⟩ c8).own b)):=fun o h=>by
    rcases h with h|⟨h,_⟩
    · exact o2 o (hsup b o (.inl h))
    · exact o2 o h
  have hvs:VS (fun b o=>X b o∨(X' b o∧(bw w (cq ⟨[]⟩ β) ⟨[]⟩ c8).own b)) w' (b6 β nx (.bk b N)) (mkc nx) us:=hmc _ _ _ _ _ o5 _ _ _ _ (bH.trans hβ.symm)
  have hfresh:∀k ck q M,st.get k=some ck→β k=some (.bk q M)→q≠b:=fun k ck q M hk hq=>by
    have:=m6 q M k ck hk hq
    omega
  have m5 : Mem w0 (b6 β nx (.bk b N)) (fun b o => X b o ∨ (X' b o ∧ (bw w (cq ⟨[]⟩ β) ⟨[]⟩ c8).own b)) (st.put nx (mkc nx)) w' := by
    refine .of (m1.below) (fun k y h=>(cl hnx) k y (m1.b0 k y h)) (m1.xlt) (fun k h=>?_) (fun k es hk=>?_) (fun i j ci cj q M N' hij hi hj hbi hbj=>?_)
    · rw [St.en] at h
      split at h
      · cases h
      · rename_i hne
        rw [b7 (fun e=>hne e.symm)]
        exact hr.mem.dom k h
    · rw [St.cg] at hk
      split at hk
      · rename_i e; subst e
        simp only [Option.some.injEq]at hk
        subst hk
        unfold OB
        rw [bH]
        exact⟨Bw.j4 hr.mem.below o1,hnX,us,rest,ety,o3,o4,hvs,o6⟩
      · refine (m1.obj k es hk).later (fun _ _ h => ⟨h, rfl⟩) (cl hnx) (fun q M hq => ⟨rfl, ?_⟩) fun q hq => ⟨rfl, ((m1.obj k es hk).dZ hq).2.2.1⟩
        have hk':=m1.obj k es hk
        unfold OB at hk'
        rw [hq]at hk'
        exact hk'.2.1
    · rw [St.cg] at hi hj
      by_cases ei:nx=i
      · by_cases ej : nx = j
        · omega
        · rw [if_neg ej] at hj
          rw [←ei,bH]at hbi
          rw [b7 (by omega)]at hbj
          simp only [Option.some.injEq,BL.bk.injEq]at hbi
          exact hfresh j cj q N' hj hbj (by omega)
      · rw [if_neg ei] at hi
        rw [b7 (by omega)]at hbi
        by_cases ej:nx=j
        · rw [← ej, bH] at hbj
          simp only [Option.some.injEq,BL.bk.injEq]at hbj
          exact hfresh i ci q M hi hbi (by omega)
        · rw [if_neg ej] at hj
          rw [b7 (by omega)]at hbj
          exact hr.mem.inj i j ci cj q M N' hij hi hj hbi hbj
  exact h _ _ ⟨_,_,hr.gF hd m2 m3 (cl hnx) m5 (hV _ _ _ _ (bH.trans hβ.symm))⟩
theorem IN {K:Act→World→Prop} {mk:Nat→A} {mkc:Nat→List A} (hmk:nK mk) (hmc:k5 mkc) {d:Nat} (nx:Nat) (hfr:st.free nx=true) {f:FuncId} {xs:List Operand} {vs vs':List A} {ats:Array TypeId} {ty:TypeId} {pos aft' g} (ow:Bool) (hxs:c5 E xs=some vs) (hv:a8 st ⟨[]⟩ ow vs vs')
    (hc:aA P f vs' (uC mk mkc)) (hd:Nat.ble (d+1) n=true) (h:At w0 X0 n ((d,mk nx)::E) (st.put nx (mkc nx)) K):
    At w0 X0 n E st (fun a w=>(⟨some d,.call {callee:= .value (.func f),args:=xs.toArray,argTypes:=ats},ty,pos,aft',g⟩:Oper).wp P a w K Q):=
  IS hmk hmc nx hfr (fs:= []) (cs:= []) ow rfl hxs (by simpa using hv) hc hd h
end
theorem Jy {T0:Nat} {mkc:Nat→List A} (h:k5 mkc):qZ [T0] [(T0,mkc T0)]:=fun p hp X w β1 β2 us hβ hv=>by
  rw [List.mem_singleton.1 hp]at hv ⊢
  exact h X w β1 T0 us hv X w β2 T0 (hβ T0 (.head _))
theorem Jv {T0:Nat} {c:List A}:∀p∈ [(T0,c)],p.1∈ [T0]:=fun p hp=>by rw [List.mem_singleton.1 hp];exact .head _
end Go.Abs
-- C1P
namespace Go.Abs.D2
open Go Go.Eng Go.Abs
inductive CV where
  |mk (k n:Int) (s:List UInt8) (l:List CV)
mutual
def CV.cells:CV→List A
  | .mk k n s l=> [.i .i64 k,.i .i64 n,.s s,.fz l.length (CV.bJ l)]
def CV.bJ:List CV→List A
  | []=> []
  |v::l=>v.cells++CV.bJ l
end
mutual
def CV.size:CV→Nat
  | .mk _ _ _ l=>CV.ew l+1
def CV.ew:List CV→Nat
  | []=>0
  |v::l=>v.size+CV.ew l+1
end
theorem CV.Du:∀ {l:List CV} {v:CV},v∈l→v.size<CV.ew l
  | [],_,h=>by cases h
  | u :: l, v, h => by
    rcases List.mem_cons.1 h with rfl|h
    · simp only [CV.ew];omega
    · have := CV.Du h
      simp only [CV.ew];omega
mutual
def CV.okB:CV→Bool
  | .mk k n s l=>if k=1 then s.isEmpty&&l.isEmpty else if k=2 then decide (n=0)&&l.isEmpty else if k=3 then decide (n=0)&&s.isEmpty&&CV.jw l else false
def CV.jw:List CV→Bool
  | []=>true
  |v::l=>v.okB&&CV.jw l
end
mutual
def CV.depth:CV→Nat
  | .mk k _ _ l=>if k=3 then CV.ek l+1 else 0
def CV.ek:List CV→Nat
  | []=>0
  |v::l=>max v.depth (CV.ek l)
end
def bG (u:Nat):List UInt8:=if _h:u<128 then [UInt8.ofNat u]else UInt8.ofNat (u % 128+128)::bG (u / 128)
theorem qn {u:Nat} (h:u<128):bG u= [UInt8.ofNat u]:=by rw [bG,dif_pos h]
theorem qm {u:Nat} (h:¬u<128):bG u=UInt8.ofNat (u % 128+128)::bG (u / 128):=by rw [bG,dif_neg h]
def eS (n:Int):Nat:=if 0≤n then 2*n.toNat else 2*(-(n+1)).toNat+1
mutual
def CV.enc:CV→List UInt8
  | .mk k n s l=>if k=1 then 1::bG (eS n)else if k=2 then 2::(bG s.length++s)else 3::(bG l.length++CV.cc l)
def CV.cc:List CV→List UInt8
  | []=> []
  |v::l=>v.enc++CV.cc l
end
@[simp] theorem CV.len_cells (v:CV):v.cells.length=4:=by cases v;simp [CV.cells]
theorem CV.nX:∀l:List CV,CV.bJ l=l.flatMap CV.cells
  | []=>rfl
  |v::l=>by rw [CV.bJ,CV.nX l,List.flatMap_cons]
theorem CV.get:∀ {l:List CV} {i:Nat} {v:CV},l[i]? =some v→((CV.bJ l).drop (i*4)).take 4=v.cells
  | [],_,_,h=>by simp at h
  | u :: l, i, v, h => by
    rw [CV.bJ]
    cases i with
    |zero=>simp at h;subst h;rw [Nat.zero_mul,List.drop_zero,List.take_left' (CV.len_cells u)]
    | succ i =>
      rw [show(i+1)*4=4+i*4 by omega, ←List.drop_drop,List.drop_left' (CV.len_cells u)]
      exact CV.get (by simpa using h)
theorem CV.na:∀(l:List CV),CV.jw l=l.all CV.okB
  | []=>rfl
  |v::l=>by rw [CV.jw,CV.na l,List.all_cons]
theorem CV.pN:∀(l:List CV),CV.cc l=l.flatMap CV.enc
  | []=>rfl
  |v::l=>by rw [CV.cc,CV.pN l,List.flatMap_cons]
theorem CV.pO {l:List CV} {i:Nat} {v:CV} (h:l[i]? =some v):CV.cc (l.take i)++v.enc=CV.cc (l.take (i+1)):=by
  rw [CV.pN,CV.pN,List.take_add_one,h];simp
theorem CV.zY {l:List CV} {i:Nat} {v:CV} (h:l[i]? =some v):max (CV.ek (l.take i)) v.depth=CV.ek (l.take (i+1)):=by
  have key:∀(m:List CV) (u:CV),CV.ek (m++ [u])=max (CV.ek m) u.depth:=by
    intro m u
    induction m with
    |nil=>simp [CV.ek]
    |cons a m ih=>simp only [List.cons_append,CV.ek,ih];omega
  rw [List.take_add_one,h]
  exact(key _ _).symm
theorem CV.zZ : ∀ (n : Nat) (v : CV), v.size ≤ n → v.depth ≤ v.size
  |0,v,h=>by cases v;simp only [CV.size]at h;omega
  | n + 1, .mk k m s l, h => by
    simp only [CV.size]at h
    have hl:CV.ek l≤CV.ew l:=by
      have key:∀(q:List CV),CV.ew q≤n→CV.ek q≤CV.ew q:=by
        intro q
        induction q with
        |nil=>intro _;exact Nat.le_refl _
        | cons a q ih =>
          intro hq
          simp only [CV.ew]at hq
          have h1:=CV.zZ n a (by omega)
          have h2:=ih (by omega)
          simp only [CV.ek,CV.ew];omega
      exact key l (by omega)
    simp only [CV.depth,CV.size]
    split<;>omega
@[irreducible] def fk (v:CV):Int:=if v.okB then (if v.depth≤16 then 0 else 2)else 1
@[irreducible] def encA (v:CV):A:=if fk v=0 then .tu [.fz v.enc.length (v.enc.map u8),.i .i64 0]else .tu [.nl,.i .i64 (fk v)]
def iB (u k:Nat):List UInt8:=(List.range k).map fun i=>UInt8.ofNat (u / 128 ^ i % 128+128)
@[simp] theorem len_numP (u k:Nat):(iB u k).length=k:=by simp [iB]
theorem Ce (u k:Nat):iB u k++ [UInt8.ofNat (u / 128 ^ k % 128+128)]=iB u (k+1):=by simp [iB,List.range_succ]
theorem Cc (u:Nat):∀k,(∀i,i<k→128≤u / 128 ^ i)→bG u=iB u k++bG (u / 128 ^ k)
  |0,_=>by simp [iB]
  | k + 1, h => by
    rw [Cc u k fun i hi=>h i (by omega),qm (by have:=h k (by omega);omega), ←Ce,List.append_assoc,Nat.div_div_eq_div_mul, ←Nat.pow_succ]
    rfl
theorem Cd {u k:Nat} (h:∀i,i<k→128≤u / 128 ^ i) (h2:u / 128 ^ k<128):iB u k++ [UInt8.ofNat (u / 128 ^ k)]=bG u:=by
  rw [Cc u k h,qn h2]
theorem EL (w:BitVec 64):(w&&& 127#64).toNat=w.toNat % 128:=by
  rw [BitVec.toNat_and]
  exact Nat.and_two_pow_sub_one_eq_mod _ 7
theorem JD:∀x,x<128→UInt8.ofNat x|||128=UInt8.ofNat (x+128):=by decide+kernel
theorem ny {n:Int} (h0: -9223372036854775808≤n) (h1:n≤9223372036854775807):eS n<2 ^ 64:=by
  unfold eS;split<;>omega
theorem JU {u k:Nat} (h:u<2 ^ 64) (hk:10≤k):u / 128 ^ k=0:=by
  apply Nat.div_eq_of_lt
  have:128 ^ 10≤128 ^ k:=Nat.pow_le_pow_right (by omega) hk
  have h2:(2:Nat) ^ 64<128 ^ 10:=by decide
  omega
theorem qb {u : Nat} (h : u < 2 ^ 64) : (bG u).length ≤ 11 := by
  have key:∀(k u:Nat),u<128 ^ (k+1)→(bG u).length≤k+1:=by
    intro k
    induction k with
    |zero=>intro u hu;rw [qn (by omega)];exact Nat.le_refl _
    | succ k ih =>
      intro u hu
      by_cases hs:u<128
      · rw [qn hs];simp
      · rw [qm hs, List.length_cons]
        have:=ih (u / 128) (by rw [Nat.div_lt_iff_lt_mul (by omega)];rw [Nat.pow_succ]at hu;exact hu)
        omega
  exact key 10 u (by have h2 : (2 : Nat) ^ 64 < 128 ^ 11 := by decide
                     omega)
theorem JT (k:Nat):2 ^ (7*k)=128 ^ k:=by rw [Nat.pow_mul]
theorem xA (u:BitVec 64) (k:Nat):(u>>>(7*k)).toNat=u.toNat / 128 ^ k:=by rw [BitVec.toNat_ushiftRight,Nat.shiftRight_eq_div_pow,JT]
theorem Ja (u:BitVec 64) (k:Nat):decide (((u>>>(7*k)).toNat:Int)≥128)=decide (128≤u.toNat / 128 ^ k):=by
  rw [xA];exact decide_eq_decide.2 (by omega)
theorem I9 (u:BitVec 64) (k:Nat):UInt8.ofNat (((u>>>(7*k))&&& ba 127)).toNat|||128=UInt8.ofNat (u.toNat / 128 ^ k % 128+128):=by
  rw [EL,xA];exact JD _ (Nat.mod_lt _ (by omega))
theorem I8 (B:List UInt8) (u:BitVec 64) (k:Nat):(B++iB u.toNat k).map u8++ [u8 (UInt8.ofNat (u.toNat / 128 ^ k % 128+128))]=(B++iB u.toNat (k+1)).map u8:=by
  rw [←Ce];simp
theorem LC (u:BitVec 64) (k:Nat):(u>>>(7*k))>>>7=u>>>(7*(k+1)):=by
  apply BitVec.eq_of_toNat_eq
  rw [BitVec.toNat_ushiftRight,BitVec.toNat_ushiftRight,BitVec.toNat_ushiftRight, ←Nat.shiftRight_add]
  rfl
theorem Jb (B:List UInt8) {u:BitVec 64} {k:Nat} (h:∀i,i<k→128≤u.toNat / 128 ^ i) (h2:u.toNat / 128 ^ k<128):(B++iB u.toNat k).map u8++ [u8 (UInt8.ofNat (u.toNat / 128 ^ k))]=(B++bG u.toNat).map u8:=by
  rw [←Cd h h2];simp
theorem Jc (B:List UInt8) {u:BitVec 64} {k:Nat} (h:∀i,i<k→128≤u.toNat / 128 ^ i) (h2:u.toNat / 128 ^ k<128):B.length+k+1=(B++bG u.toNat).length:=by
  rw [←Cd h h2];simp;omega
theorem xT (n:Int):IntKind.u64.wrap n=((BitVec.ofInt 64 n).toNat:Int):=by
  simp only [IntKind.wrap,IntKind.bits,IntKind.signed,BitVec.toNat_ofInt]
  simp
  omega
theorem Mg {n:Int} (h0: -9223372036854775808≤n) (h1:n≤9223372036854775807):n.fdiv (2 ^ min (63:Int).toNat IntKind.i64.bits)=if 0≤n then 0 else -1:=by
  rw [show(2:Int) ^ min (63:Int).toNat IntKind.i64.bits=9223372036854775808 from by decide]
  rw [Int.fdiv_eq_ediv_of_nonneg _ (by omega)]
  split<;>omega
theorem Md (n:Int):IntKind.u64.wrap (if 0≤n then 0 else -1)=((if 0≤n then (0:BitVec 64)else BitVec.allOnes 64).toNat:Int):=by
  split<;>rfl
theorem Mh {n:Int} (h0: -9223372036854775808≤n) (h1:n≤9223372036854775807):(BitVec.ofInt 64 n<<<1) ^^^ (if 0≤n then (0:BitVec 64)else BitVec.allOnes 64)=ba (eS n):=by
  apply BitVec.eq_of_toNat_eq
  have hc:(ba (eS n)).toNat=eS n:=by
    rw [ba,BitVec.toNat_ofNat,Nat.mod_eq_of_lt (ny h0 h1)]
  rw [hc]
  unfold eS
  split
  · rename_i h
    rw [show(BitVec.ofInt 64 n<<<1) ^^^ (0:BitVec 64)=BitVec.ofInt 64 n<<<1 from BitVec.xor_zero,BitVec.toNat_shiftLeft,Nat.shiftLeft_eq,BitVec.toNat_ofInt]
    omega
  · rename_i h
    rw [BitVec.xor_allOnes,BitVec.toNat_not,BitVec.toNat_shiftLeft,Nat.shiftLeft_eq,BitVec.toNat_ofInt]
    omega
theorem yy {l:List CV} {i:Nat} {v:CV} {p:CV→Bool} (hv:l[i]? =some v) (h:(l.take i).all p=true) (h2:p v=true):(l.take (i+1)).all p=true:=by
  rw [List.take_add_one,hv];simp [h,h2]
theorem BD (l:List CV):((l.length:Int)==0)=l.isEmpty:=by
  cases l with
  |nil=>rfl
  | cons v l =>
    have h:(((v::l).length:Int)==0)=false:=by
      rw [beq_eq_false_iff_ne,List.length_cons];omega
    rw [h];rfl
theorem Cu {k n:Int} {s:List UInt8} {l:List CV} (h:k=1):(s.isEmpty&&((l.length:Int)==0))=CV.okB (.mk k n s l):=by
  rw [CV.okB,if_pos h,BD]
theorem Cv {k n:Int} {s:List UInt8} {l:List CV} (h:k=2):((n==0)&&((l.length:Int)==0))=CV.okB (.mk k n s l):=by
  rw [CV.okB,if_neg (by omega),if_pos h,BD];rfl
theorem Jo {k n:Int} {s:List UInt8} {l:List CV} (h:k=3) (h2:(n !=0|| !s.isEmpty)=true):false=CV.okB (.mk k n s l):=by
  rw [CV.okB,if_neg (by omega),if_neg (by omega),if_pos h]
  cases s<;>simp_all
theorem Cw {k n:Int} {s:List UInt8} {l:List CV} (h:k=3) {i:Nat} {v:CV} (hv:l[i]? =some v) (h2:v.okB=false):false=CV.okB (.mk k n s l):=by
  rw [CV.okB,if_neg (by omega),if_neg (by omega),if_pos h,CV.na]
  have:l.all CV.okB=false:=by
    rw [List.all_eq_false];exact⟨v,List.mem_of_getElem? hv,by simp [h2]⟩
  rw [this];simp
theorem Jn {k n:Int} {s:List UInt8} {l:List CV} (h:k=3) (hn:(n !=0|| !s.isEmpty)=false) (h2:(l.take l.length).all CV.okB=true):true=CV.okB (.mk k n s l):=by
  rw [List.take_length]at h2
  rw [CV.okB,if_neg (by omega),if_neg (by omega),if_pos h,CV.na,h2]
  cases s<;>simp_all
theorem Ct {k n:Int} {s:List UInt8} {l:List CV} (h1:k≠1) (h2:k≠2) (h3:k≠3):false=CV.okB (.mk k n s l):=by
  rw [CV.okB,if_neg h1,if_neg h2,if_neg h3]
theorem CV.oK {p:CV→Prop} (N:Nat) (h:∀k n s l,CV.ew l<N→(∀v∈l,p v)→p (.mk k n s l)):∀v:CV,v.size≤N→p v:=by
  have key:∀(q:Nat) (v:CV),v.size≤q→q≤N→p v:=by
    intro q
    induction q with
    |zero=>intro v hv;cases v;simp only [CV.size]at hv;omega
    | succ q ih =>
      intro v hv hq
      obtain⟨k,n,s,l⟩:=v
      simp only [CV.size]at hv
      exact h k n s l (by omega) fun u hu=>ih u (by have:=CV.Du hu;omega) (by omega)
  exact fun v hv=>key N v hv (Nat.le_refl _)
theorem CV.qc:∀l:List CV,l.length≤CV.ew l
  | []=>Nat.le_refl _
  |v::l=>by simp only [List.length_cons,CV.ew];have:=CV.qc l;omega
theorem CV.vB:∀l:List CV,CV.ek l≤CV.ew l
  | []=>Nat.le_refl _
  |v::l=>by simp only [CV.ek,CV.ew];have:=CV.vB l;have:=CV.zZ v.size v (Nat.le_refl _);omega
theorem CV.CK (v:CV):bO v.cells:=by
  obtain⟨k,n,s,l⟩:=v
  exact⟨trivial,trivial,trivial,trivial,trivial⟩
instance (v:CV):dE v.cells:=⟨v.CK⟩
theorem CV.Hu {l:List CV} {i:Nat} {k n:Int} {s:List UInt8} {q:List CV} (h:l[i]? =some (.mk k n s q)):((CV.bJ l).drop (i*4)).take 4= [.i .i64 k,.i .i64 n,.s s,.fz q.length (CV.bJ q)]:=CV.get h
theorem s8 {k n:Int} {s:List UInt8} {l:List CV} (h:CV.okB (.mk k n s l)=true):k=1∨k=2∨(k=3∧CV.jw l=true):=by
  rw [CV.okB]at h
  split at h
  · exact .inl (by assumption)
  · split at h
    · exact .inr (.inl (by assumption))
    · split at h
      · simp only [Bool.and_eq_true]at h;exact .inr (.inr ⟨by assumption,h.2⟩)
      · cases h
mutual
def CV.eR:CV→Bool
  | .mk _ n _ l=>decide (-9223372036854775808≤n)&&decide (n≤9223372036854775807)&&CV.kM l
def CV.kM:List CV→Bool
  | []=>true
  |v::l=>v.eR&&CV.kM l
end
theorem CV.tL:∀(l:List CV),CV.kM l=l.all CV.eR
  | []=>rfl
  |v::l=>by rw [CV.kM,CV.tL l,List.all_cons]
theorem CV.Ip (v:CV):0<v.enc.length:=by
  obtain⟨k,n,s,l⟩:=v
  rw [CV.enc]
  split
  · simp
  · split<;>simp
theorem CV.wH:∀l:List CV,l.length≤(CV.cc l).length
  | []=>Nat.le_refl _
  | v :: l => by
    have:=CV.wH l
    have:=v.Ip
    rw [CV.cc,List.length_append,List.length_cons];omega
theorem CV.rZ (l:List CV) (i:Nat):(CV.cc (l.take i)).length≤(CV.cc l).length:=by
  conv=>rhs;rw [←List.take_append_drop i l,CV.pN]
  rw [List.flatMap_append,List.length_append,CV.pN];omega
theorem uS (B:List UInt8) (x:UInt8):B.map u8++ [u8 x]=(B++ [x]).map u8:=by simp
theorem EO (B s R:List UInt8) (h:B++s=R):B.map u8++s.map u8=R.map u8:=by rw [←h];simp
theorem iL {n:Nat} (h:n<2 ^ 64):(ba n).toNat=n:=by rw [ba,BitVec.toNat_ofNat,Nat.mod_eq_of_lt h]
theorem zt {v:CV} (h:v.okB=false):fk v=1:=by unfold fk;rw [h];rfl
theorem zu {v:CV} (h:v.okB=true) (h2:16<v.depth):fk v=2:=by unfold fk;rw [if_pos h,if_neg (by omega)]
theorem vj {v:CV} (h:v.okB=true) (h2:¬16<v.depth):fk v=0:=by unfold fk;rw [if_pos h,if_pos (by omega)]
theorem zw {v:CV} (h:fk v=0):v.okB=true:=by
  unfold fk at h
  split at h
  · assumption
  · omega
theorem Al {v:CV} (h:fk v≠0):encA v= .tu [.nl,.i .i64 (fk v)]:=by unfold encA;rw [if_neg h]
theorem nY {v:CV} (h:fk v=0):encA v= .tu [.fz v.enc.length (v.enc.map u8),.i .i64 0]:=by unfold encA;rw [if_pos h]
theorem Kx {C C':List UInt8} {id T:Nat} {tc:List A} {st:St} (hC:C=C') (h:st.get id=some (C.map u8)) (h2:st.get T=some tc) (h3:T≠id):gh 1 C'.length (C'.map u8) [(T,tc)] (.sl id 1 0 C.length) st:=by
  subst hC
  exact⟨id,rfl,h,fun p hp=>by rw [List.mem_singleton.1 hp];exact⟨h2,h3⟩⟩
theorem Mf {n:Int} (h:0≤n) (h1:n≤9223372036854775807):ba 2*BitVec.ofInt 64 n=ba (eS n):=by
  apply BitVec.eq_of_toNat_eq
  rw [iL (ny (by omega) h1),BitVec.toNat_mul,BitVec.toNat_ofInt,iL (by omega),eS,if_pos h]
  omega
theorem IY {n:Int} (h0: -9223372036854775808≤n) (h:¬0≤n):IntKind.i64.wrap (0 - (n+1))= -(n+1):=by
  rw [IntKind.wrap_i64];omega
theorem Me {n:Int} (h0: -9223372036854775808≤n) (h:¬0≤n):ba 2*BitVec.ofInt 64 (-(n+1))+ba 1=ba (eS n):=by
  apply BitVec.eq_of_toNat_eq
  rw [iL (ny h0 (by omega)),BitVec.toNat_add,BitVec.toNat_mul,BitVec.toNat_ofInt,iL (by omega),iL (by omega),eS,if_neg h]
  omega
theorem Jp {k n:Int} {s:List UInt8} {l:List CV} (h:k=3) (h2:(l.take l.length).all CV.okB=true):((n==0)&&s.isEmpty)=CV.okB (.mk k n s l):=by
  rw [List.take_length]at h2
  rw [CV.okB,if_neg (by omega),if_neg (by omega),if_pos h,CV.na,h2,Bool.and_true];rfl
theorem Jd (u:BitVec 64):UInt8.ofNat (u % ba 128+ba 128).toNat=UInt8.ofNat (u.toNat % 128+128):=by
  rw [BitVec.toNat_add,BitVec.toNat_umod,iL (by omega),Nat.mod_eq_of_lt (by omega)]
theorem Cf (u:BitVec 64):(u / ba 128).toNat=u.toNat / 128:=by rw [BitVec.toNat_udiv,iL (by omega)]
end Go.Abs.D2
-- C1Q
namespace Go.Abs.D2
open Go Go.Eng Go.Abs
def tA:Nat→List UInt8→Option (Nat×List UInt8)
  |_, []=>none
  |i,c::r=>if(i=9∧1<c.toNat)∨(0<i∧c.toNat=0)then none else if c.toNat<128 then some (c.toNat,r)else(tA (i+1) r).map fun p=>(c.toNat % 128+128*p.1,p.2)
def Lx (u:Nat):Int:=if u % 2=0 then ((u / 2:Nat):Int)else -((u / 2:Nat):Int) - 1
def qy (sub : Nat → List UInt8 → Option (List CV × List UInt8)) : List UInt8 → Option (CV × List UInt8)
  | []=>none
  | c :: r =>
    if c=1 then (tA 0 r).map fun p=>(.mk 1 (Lx p.1) [] [],p.2)
    else if c=2 then (tA 0 r).bind fun p=>if p.1≤p.2.length then some (.mk 2 0 (p.2.take p.1) [],p.2.drop p.1)else none
    else if c=3 then (tA 0 r).bind fun p=>if p.1≤p.2.length then (sub p.1 p.2).map fun q=>(.mk 3 0 [] q.1,q.2)else none
    else none
def Rd (d:Nat) (v:CV):Prop:=v.okB=true∧v.depth≤d∧v.eR=true
theorem zX {d:Nat}:∀ {vs:List CV},(∀v∈vs,v.depth≤d)→CV.ek vs≤d
  | [],_=>Nat.zero_le _
  |v::vs,h=>by simp only [CV.ek];have:=h v (.head _);have:=zX (vs:=vs) fun u hu=>h u (.tail _ hu);omega
end Go.Abs.D2
-- AbsU
namespace Go.Abs
open Go Go.Eng
section
variable {st stN:St}
mutual
theorem EC {s0:St} (h:kS st stN):∀ {ow:Bool} {v v':A},Vw stN s0 ow v v'→Vw st s0 ow v v'
  |_,_,_,.pure hp=> .pure hp
  |_,_,_,.nl=> .nl
  |_,_,_,.sl hf hg hm hd hv hp=> .sl hf (h _ _ hg) hm hd (lT h hv) hp
  |_,_,_,.kp hf=> .kp hf
  |_,_,_,.ksl hf=> .ksl hf
  |_,_,_,.ag hv=> .ag (lT h hv)
  |_,_,_,.fn hv hv'=> .fn (lT h hv) (lT h hv')
theorem lT {s0:St} (h:kS st stN):∀ {ow:Bool} {v v':List A},a8 stN s0 ow v v'→a8 st s0 ow v v'
  |_,_,_,.nil=> .nil
  |_,_,_,.cons hv hs=> .cons (EC h hv) (lT h hs)
end
theorem rf {s0:St} {ow:Bool} (h:kS st stN):∀ {os:List (Nat×Option (List A))},gi stN s0 ow os→gi st s0 ow os
  | [],_=>trivial
  |(_,none)::r,hs=>rf h (os:=r) hs
  |(_,some _)::r,hs=>⟨⟨h _ _ hs.1.1,lT h hs.1.2⟩,rf h (os:=r) hs.2⟩
end
theorem rL {d nx:Nat} {v:A} {deps u:List Nat} {need:List (Nat×Option Nat)} {ds:List A} {s0 st:St} {upds:List (Nat×List A)}:(⟨d,v,deps,s0.os.map (·.1),(nx,ds)::upds,need,u⟩:bX).aX st=(aG s0 st upds).put nx ds:=by
  unfold bX.aX aG St.put
  simp [List.map_map,Function.comp_def]
section
variable {r:Option Nat} {ds0:List Deferred} {P:Program} {w0:Bw} {X0:Xs} {N:Nat} {E0:EV} {st0:St} {Q:Exit→Act→World→Prop} {ops:Array Oper} {n g:Nat} {plan:List bX} {E:Ev} {st:St} {rest:List Oper} {d:Nat} {ty:TypeId} {pos:String} {aft':Array Edge} {gd:Option (Nat×Bool)}
theorem wo {f:FuncId} {xs:List Operand} {vs vs' ds:List A} {s m:Nat} {ats:Array TypeId} (nx:Nat) (s0:St) (ow:Bool) (k0:Nat) (deps:List Nat) (need:List (Nat×Option Nat)) (hg:fP ops (ct (E0.at k0) deps k0 E) gd) (hxs:c5 (ct (E0.at k0) deps k0 E) xs=some vs) (hS:gi (fB plan st0 need) s0 ow s0.os) (hv:a8 (fB plan st0 need) s0 ow vs vs')
    (hc:cH P f vs' s0 (dq s m ds)) (hp:bO ds) (hf:ow=false∨dH ds) (hb:Nat.ble (d+1) N=true) (hd:eV k0 deps need=true) (h:FS r ds0 P w0 X0 N Q ops n g E0 st0 (plan++ [⟨d,.sl nx s 0 m,deps,s0.os.map (·.1), [(nx,ds)],need, []⟩]) (k0+1) ((d,.sl nx s 0 m)::E) ((aG s0 st []).put nx ds) rest):
    FS r ds0 P w0 X0 N Q ops n g E0 st0 plan k0 E st (⟨some d,.call {callee:= .value (.func f),args:=xs.toArray,argTypes:=ats},ty,pos,aft',gd⟩::rest):=
  gV ⟨d,.sl nx s 0 m,deps,s0.os.map (·.1), [(nx,ds)],need, []⟩ (fun hk hE _ _ _ hD hs hfr hK=>have he':=hD.fin hE hk;ju hg he' (IM nx (hfr _ (.head _) rfl) s0 ow (oe he' hxs) (rf hs hS) (lT hs hv) hc hp hf hb (rL (upds:= []) ▸ hK))) hd (rL (upds:= []) ▸ h)
theorem oo {f:FuncId} {x:Operand} {xs:List Operand} {fs cs vs vs' ds:List A} {s m:Nat} {ats:Array TypeId} (nx:Nat) (s0:St) (upds:List (Nat×List A)) (ow:Bool) (k0:Nat) (deps:List Nat) (need:List (Nat×Option Nat)) (hg:fP ops (ct (E0.at k0) deps k0 E) gd) (hx:ev (ct (E0.at k0) deps k0 E) x=some (.fn (.func f) fs cs)) (hxs:c5 (ct (E0.at k0) deps k0 E) xs=some vs) (hnx:cw (upds.map (·.1)) nx=false) (hS:gi (fB plan st0 need) s0 ow s0.os) (hv:a8 (fB plan st0 need) s0 ow (fs++vs++cs) vs')
    (hc:cH P f vs' s0 (gh s m ds upds)) (hp:bO ds) (hf:ow=false∨dH ds) (hu:∀p∈upds,(∃cs,s0.get p.1=some cs)∧lR s0 ow p.2) (hb:Nat.ble (d+1) N=true) (hd:eV k0 deps need=true) (h:FS r ds0 P w0 X0 N Q ops n g E0 st0 (plan++ [⟨d,.sl nx s 0 m,deps,s0.os.map (·.1),(nx,ds)::upds,need,upds.map (·.1)⟩]) (k0+1) ((d,.sl nx s 0 m)::E) ((aG s0 st upds).put nx ds) rest):
    FS r ds0 P w0 X0 N Q ops n g E0 st0 plan k0 E st (⟨some d,.call {callee:= .value x,args:=xs.toArray,argTypes:=ats},ty,pos,aft',gd⟩::rest):=
  gV ⟨d,.sl nx s 0 m,deps,s0.os.map (·.1),(nx,ds)::upds,need,upds.map (·.1)⟩ (fun hk hE _ _ _ hD hs hfr hK=>have he':=hD.fin hE hk;ju hg he' (BY nx (hfr _ (.head _) hnx) s0 upds ow (jm he' hx) (oe he' hxs) (rf hs hS) (lT hs hv) hc hp hf hu hb (rL ▸ hK))) hd (rL ▸ h)
end
theorem cH.nl {P : Program} {f : FuncId} {i s : Nat} {vs : List A} {s0 : St} {R : A → St → Prop} (hi : s0.free i = true) (h : cH P f (.sl i s 0 0 :: vs) (s0.put i []) R) : cH P f (.nl :: vs) s0 R := by
  intro w X β us hd hX hgl ho hinj hv
  have hn:=hd i hi
  simp only [VS]at hv
  obtain⟨u,us,rfl,hu,hvs⟩:=hv
  have hext:=cl (x:=BL.ph) hn
  have hd2:∀id,(s0.put i []).free id=true→(b6 β i .ph) id=none:=fun id hf=>by
    rw [St.en]at hf
    split at hf
    · cases hf
    · rename_i hne
      rw [b7 (fun e=>hne e.symm)]
      exact hd id hf
  have hget:∀id cs,(s0.put i []).get id=some cs→(id=i∧cs= [])∨(id≠i∧s0.get id=some cs):=fun id cs hg=>by
    rw [St.cg]at hg
    split at hg
    · rename_i e;simp only [Option.some.injEq]at hg;exact .inl ⟨e.symm,hg.symm⟩
    · rename_i e;exact .inr ⟨fun h=>e h.symm,hg⟩
  have hownM:∀b,(bw w (b6 β i .ph) (s0.put i []) hd2).M b→(bw w β s0 hd).M b:=fun b ⟨id,cs,h1,y,h2,h3⟩=>by
    rcases hget id cs h1 with ⟨rfl,_⟩|⟨hne,h1⟩
    · rw [bH]at h2;cases h2;exact h3.elim
    · rw [b7 hne]at h2;exact⟨id,cs,h1,y,h2,h3⟩
  have hownM2:∀b,(bw w β s0 hd).M b→(bw w (b6 β i .ph) (s0.put i []) hd2).M b:=fun b ⟨id,cs,h1,y,h2,h3⟩=>by
    have hne:id≠i:=fun e=>by subst e;rw [hn]at h2;cases h2
    refine⟨id,cs,?_,y,?_,h3⟩
    · rw [St.cg,if_neg (fun e=>hne e.symm)];exact h1
    · rw [b7 hne];exact h2
  have hown:∀b,(bw w (b6 β i .ph) (s0.put i []) hd2).own b→(bw w β s0 hd).own b:=fun b=>Or.imp_right (hownM b)
  have hown2:∀b,(bw w β s0 hd).own b→(bw w (b6 β i .ph) (s0.put i []) hd2).own b:=fun b=>Or.imp_right (hownM2 b)
  refine(h w X (b6 β i .ph) (u::us) hd2 hX hgl (fun id cs hg=>?_) (fun a b ca cb q M N hab ha hb ea eb=>?_) ?_).mono fun v w' hP=>?_
  · rcases hget id cs hg with ⟨rfl, rfl⟩ | ⟨hne, hg⟩
    · unfold OB;rw [bH]
    · have := ho id cs hg
      unfold OB at this ⊢
      rw [b7 hne]
      cases hb:β id with
      |none=>rw [hb]at this;exact this
      | some y =>
        rw [hb]at this
        cases y with
        |ph=>exact this
        | bk b N =>
          obtain⟨q1,q2,us',rest,ty,q3,q4,q5,q6⟩:=this
          exact⟨hown2 b q1,q2,us',rest,ty,q3,q4,eH (fun _ _ h=>⟨h,rfl⟩) _ _ _ _ hext q5,q6⟩
        | mp b =>
          obtain⟨q0,q1,q2,q3⟩:=this
          exact⟨q0,hown2 b q1,q2,q3⟩
  · rcases hget a ca ha with ⟨rfl, _⟩ | ⟨hna, ha⟩
    · rw [bH]at ea;cases ea
    · rcases hget b cb hb with ⟨rfl, _⟩ | ⟨hnb, hb⟩
      · rw [bH]at eb;cases eb
      · rw [b7 hna] at ea; rw [b7 hnb] at eb
        exact hinj a b ca cb q M N hab ha hb ea eb
  · simp only [VS]
    refine⟨u,us,rfl,?_,eH (fun _ _ h=>⟨h,rfl⟩) _ _ _ _ hext hvs⟩
    simp only [V]at hu ⊢
    exact .inl ⟨bH,trivial,trivial,hu⟩
  · obtain ⟨r, β', X', st', h1, h2, h3, hm, hv⟩ := hP
    refine⟨r,β',X',st',h1,h2,fun b o hx=>(h3 b o hx).imp_right (hown b),?_,hv⟩
    refine .of ⟨hm.below.os,hm.below.tape,hm.below.output,hm.below.size,fun k hk hM=>hm.below.block k hk fun h=>hM (hownM k h),fun s hs=>by cases hs⟩ (fun k y hk=>hm.b0 k y (hext k y hk)) hm.xlt hm.dom (fun id cs hg=>?_) hm.inj
    have:=hm.obj id cs hg
    unfold OB at this ⊢
    split
    · rename_i e;rw [e]at this;exact this
    · rename_i e;rw [e]at this;exact this
    · rename_i b N e
      rw [e]at this
      exact⟨hown b this.1,this.2⟩
    · rename_i b e
      rw [e]at this
      exact⟨this.1,hown b this.2.1,this.2.2⟩
section
variable {P:Program} {n:Nat}
theorem GR {f:FuncId} {fn:Func} {c:Code} {args:List A} {s0:St} {s m:Nat} {ds:List A} (hp:bO ds) (hf:P.funcs[f]? =some fn) (hb:fn.body=some c)
    (hn:fn.ntmps=n) (hname:(fn.name== "runtime.NumGoroutine")=false) (ha:args.length≤n)
    (h:∀w0 X0,w0.ids= []→At w0 X0 n (gm args 0) s0 (Pw [] (c.wpIn (rF none) 0 P (bodyPost P fn fun e w'=>∃v,e= .returned v∧Post w0 X0 (dq s m ds) v w')))):cH P f args s0 (dq s m ds):=by
  intro w X β us hd hX hgl ho hi hv
  have hl:=cL hv
  refine Eng.Fn.mono (R:=Post (u7 w β s0) X (dq s m ds)) ⟨⟨fn,hf,by simp [hb],hname⟩,calls_of_wp hf hb (wpIn_wide.1 (kg (h (u7 w β s0) X rfl _ w ⟨β,X,.of (fun _ _ h=>h) (fun _ _ h=> .inl h) (.of ⟨rfl,rfl,rfl,Nat.le_refl _,fun _ _ _=>rfl,fun s hs=>by cases hs⟩ (fun _ _ h=>by cases h) hX hd ho hi) hgl ?_ rfl (fun s hs=>by cases hs) (fun t v ht=>?_)⟩)))⟩ (fun _ _ h=>JR hp h)
  · simp [hn];omega
  · obtain ⟨_, h2⟩ := k7 _ _ _ _ ht
    simp only [Nat.sub_zero]at h2
    obtain⟨u,g1,g2⟩:=fx hv h2
    have hlt:=(List.getElem?_eq_some_iff.1 g1).1
    refine⟨u,?_,g2⟩
    rw [Array.getElem?_append,if_pos (by simpa using hlt)]
    simpa using g1
end
theorem B8 {T:List Nat}:∀p∈([]:List (Nat×List A)),p.1∈T:=fun p hp=>by cases hp
theorem B7 {st:St}:∀t∈([]:List Nat),∃cs,st.get t=some cs:=fun p hp=>by cases hp
theorem Cy {T:List Nat}:qZ T []:=fun p hp=>by cases hp
theorem sY {s0:St} {ow:Bool}:∀p∈([]:List (Nat×List A)),(∃cs,s0.get p.1=some cs)∧lR s0 ow p.2:=fun p hp=>by cases hp
theorem CU {s m id:Nat} {cs:List A} {st:St} (h:st.get id=some cs):gh s m cs [] (.sl id s 0 m) st:=⟨id,rfl,h,fun p hp=>by cases hp⟩
theorem Ju {st:St} {T:Nat} {cs:List A} (h:st.get T=some cs):∀t∈ [T],∃cs,st.get t=some cs:=fun t ht=>by
  rw [List.mem_singleton.1 ht];exact⟨_,h⟩
end Go.Abs
