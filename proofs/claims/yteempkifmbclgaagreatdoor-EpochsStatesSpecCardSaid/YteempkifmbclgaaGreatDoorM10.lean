/-
  The engine, the plain laws and the walks that the rows need, part 10. Conditions: none.
-/
import Derived.Test.YteempkifmbclgaaGreatDoorM9
import Derived.ProofKit
import Derived.Deep.Slices
import Derived.LaidMore
import Derived.OpenShut
import Derived.Lib.AppendZerosOnto
set_option linter.unusedVariables false
set_option linter.unusedSimpArgs false
set_option maxHeartbeats 1000000
set_option maxRecDepth 10000
-- AbsL
namespace Go.Abs
open Go Go.Eng
inductive D where
  |int (k:IntKind)|bool|str|sl (e:D)|arr (n:Nat) (e:D)|st (fs:List D)
  deriving Inhabited
mutual
def D.cells:D→Nat
  | .int _=>1| .bool=>1| .str=>1| .sl _=>1
  | .arr n e=>n*e.cells
  | .st fs=>D.bI fs
def D.bI:List D→Nat
  | []=>0
  |d::ds=>d.cells+D.bI ds
end
mutual
def Den:D→List A→Prop
  | .int k,aS=>∃n,(Lit.int k n).wf=true∧aS= [.i k n]
  | .bool,aS=>∃b,aS= [.b b]
  | .str,aS=>∃l:List UInt8,l.length≤maxLen∧aS= [.s l]
  | .sl e,aS=>∃ls:List (List A),(∀x∈ls,Den e x)∧ls.length≤maxLen∧aS= [.fz ls.length ls.flatten]
  | .arr n e,aS=>∃ls:List (List A),(∀x∈ls,Den e x)∧ls.length=n∧aS=ls.flatten
  | .st fs,aS=>jL fs aS
def jL:List D→List A→Prop
  | [],aS=>aS= []
  |d::ds,aS=>∃x y,Den d x∧jL ds y∧aS=x++y
end
def isInt (k:IntKind):Option TypeDesc→Bool
  |some (.int j)=>Nat.beq (gX j) (gX k)
  |_=>false
def isBool:Option TypeDesc→Bool
  |some .bool=>true
  |_=>false
def isStr:Option TypeDesc→Bool
  |some .string=>true
  |_=>false
mutual
def jV (P:Program):D→TypeId→Bool
  | .int k,t=>isInt k (P.underlying t)
  | .bool,t=>isBool (P.underlying t)
  | .str,t=>isStr (P.underlying t)
  | .sl e,t=>match P.underlying t with|some (.slice u)=>jV P e u&&Nat.beq (P.cellsOf u) e.cells&&Nat.blt 0 e.cells|_=>false
  | .arr n e,t=>match P.underlying t with|some (.array m u)=>Nat.beq m n&&jV P e u&&Nat.beq (P.cellsOf u) e.cells&&Nat.beq (P.cellsOf t) (n*e.cells)|_=>false
  | .st ds,t=>match P.underlying t with|some (.struct fs)=>mf P ds fs.toList 0&&Nat.beq (P.cellsOf t) (D.bI ds)|_=>false
def mf (P:Program):List D→List Field→Nat→Bool
  | [], [],_=>true
  |d::ds,f::fs,o=>Nat.beq f.offset o&&Nat.beq (P.cellsOf f.type) d.cells&&jV P d f.type&&mf P ds fs (o+d.cells)
  |_,_,_=>false
end
theorem F4 {w:World} {a:Addr} {v:Value} (h:w.cell? a=some v):a.spot=none:=by
  unfold World.cell? at h
  split at h
  · split at h
    · cases h
    · rename_i hs;simpa using hs
  · cases h
theorem yN {a:Addr} (h:(a.add 0).spot=none):a.spot=none:=by
  simpa [Addr.add]using h
theorem add_plain {a:Addr} (h:a.spot=none) (i:Nat):a.add i=⟨a.block,a.off+i,none⟩:=by
  unfold Addr.add
  cases a
  simp at h
  subst h
  simp
def XW (w:World):Xs:=fun b o=>∃v,w.cell? ⟨b,o,none⟩=some v
theorem EX {w:World}:∀b o,XW w b o→b<w.heap.size:=by
  rintro b o ⟨v,h⟩
  unfold World.cell? at h
  split at h
  · rename_i c e q hb
    obtain⟨hlt,_⟩:=Array.getElem?_eq_some_iff.1 hb
    exact hlt
  · cases h
section
variable {H:Type} {enc:TypeId×Value→H} {P:Program} {w:World} {base:Nat} {held:Bool}
theorem yD {X:Xs}:∀ {cs ds:List A} {b o:Nat},VM X w cs b o→VM X w ds b (o+cs.length)→VM X w (cs++ds) b o
  | [],ds,b,o,_,h=>by simpa using h
  | c :: cs, ds, b, o, h, h' => by
    simp only [VM,List.cons_append]at h ⊢
    refine⟨h.1,h.2.1,yD h.2.2 ?_⟩
    rw [show o+1+cs.length=o+(c::cs).length by simp;omega]
    exact h'
theorem EN {aS:List A} {cs:List Value} {b o:Nat} (hv:VS (XW w) w no aS cs) (h1:∀x∈cs,x.oneCell'=true) (hc:∀i,i<cs.length→w.cell? ⟨b,o+i,none⟩=cs[i]?):VM (XW w) w aS b o:=by
  refine kD fun j c hj=>?_
  obtain⟨u,hu,hvu⟩:=fx hv hj
  have hlt:=(List.getElem?_eq_some_iff.1 hu).1
  have hcell:=hc j hlt
  rw [hu]at hcell
  exact⟨⟨u,hcell⟩,u,hcell,hvu,h1 _ (List.mem_of_getElem? hu)⟩
theorem yE {sz : Nat} {b : Nat} {W : Nat → List A} (hl : ∀ i, (W i).length = sz ∨ True) : ∀ (n o : Nat), (∀ i, i < n → (W i).length = sz ∧ VM (XW w) w (W i) b (o + i * sz)) → VM (XW w) w ((List.range n).map W).flatten b o
  |0,o,_=>by simp [VM]
  | n + 1, o, h => by
    rw [List.range_succ,List.map_append,List.flatten_append]
    refine yD (yE hl n o fun i hi=>h i (by omega)) ?_
    have e:((List.range n).map W).flatten.length=n*sz:=by
      have:∀m,m≤n→((List.range m).map W).flatten.length=m*sz:=by
        intro m
        induction m with
        |zero=>intro _;simp
        | succ m ih =>
          intro hm
          rw [List.range_succ,List.map_append,List.flatten_append,List.length_append,ih (by omega)]
          simp only [List.map_cons,List.map_nil,List.flatten_cons,List.flatten_nil,List.append_nil]
          rw [(h m (by omega)).1,Nat.succ_mul]
      exact this n (Nat.le_refl _)
    rw [e]
    simpa using (h n (by omega)).2
theorem By {k:IntKind} {x:Option TypeDesc} (h:isInt k x=true):x=some (.int k):=by
  unfold isInt at h
  split at h
  · rename_i j
    have:gX j=gX k:=Nat.eq_of_beq_eq_true h
    have:j=k:=by cases j<;>cases k<;>first|rfl|(simp [gX]at this)
    rw [this]
  · cases h
theorem Bx {x:Option TypeDesc} (h:isBool x=true):x=some .bool:=by
  unfold isBool at h;split at h
  · rfl
  · cases h
theorem Bz {x:Option TypeDesc} (h:isStr x=true):x=some .string:=by
  unfold isStr at h;split at h
  · rfl
  · cases h
theorem yF {X:Xs} {β:Bm}:∀ {ls:List (List A)} {us:List (List Value)},ls.length=us.length→(∀(i:Nat) (l:List A) (u:List Value),ls[i]? =some l→us[i]? =some u→VS X w β l u)→VS X w β ls.flatten us.flatten
  | [], [],_,_=>dB
  |l::ls,u::us,hl,h=>eH (h 0 l u rfl rfl) (yF (by simpa using hl) fun i l u h1 h2=>h (i+1) l u (by simpa using h1) (by simpa using h2))
theorem wI {α:Type} {sz:Nat}:∀(n:Nat) (l:List α),l.length=n*sz→((List.range n).map fun i=>(l.drop (i*sz)).take sz).flatten=l
  | 0, l, h => by
    have:l= []:=List.eq_nil_of_length_eq_zero (by simpa using h)
    subst this;rfl
  | n + 1, l, h => by
    have hs:(n+1)*sz=n*sz+sz:=Nat.succ_mul n sz
    rw [List.range_succ,List.map_append,List.flatten_append]
    have e:((List.range n).map fun i=>(l.drop (i*sz)).take sz)=(List.range n).map fun i=>((l.take (n*sz)).drop (i*sz)).take sz:=by
      refine List.map_congr_left fun i hi=>?_
      have hi':i<n:=by simpa using hi
      rw [List.drop_take,List.take_take]
      congr 1
      have:i*sz+sz≤n*sz:=by rw [←Nat.succ_mul];exact Nat.mul_le_mul_right sz hi'
      omega
    rw [e,wI n (l.take (n*sz)) (by rw [List.length_take,h];omega)]
    simp only [List.map_cons,List.map_nil,List.flatten_cons,List.flatten_nil,List.append_nil]
    rw [List.take_of_length_le (l:=l.drop (n*sz)) (by rw [List.length_drop,h];omega)]
    exact List.take_append_drop _ _
mutual
theorem rr : ∀ (d : D) (aS : List A), Den d aS → aS.length = d.cells
  | .int k,aS,h=>by simp only [Den]at h;obtain⟨n,_,rfl⟩:=h;rfl
  | .bool,aS,h=>by simp only [Den]at h;obtain⟨n,rfl⟩:=h;rfl
  | .str,aS,h=>by simp only [Den]at h;obtain⟨n,_,rfl⟩:=h;rfl
  | .sl e,aS,h=>by simp only [Den]at h;obtain⟨n,_,_,rfl⟩:=h;rfl
  | .arr n e, aS, h => by
    simp only [Den]at h
    obtain⟨ls,h1,h2,rfl⟩:=h
    subst h2
    have:∀ls:List (List A),(∀x∈ls,Den e x)→ls.flatten.length=ls.length*e.cells:=by
      intro ls
      induction ls with
      |nil=>intro _;simp
      | cons l ls ih =>
        intro h
        rw [List.flatten_cons,List.length_append,rr e l (h l (.head _)),ih fun x hx=>h x (.tail _ hx),List.length_cons,Nat.succ_mul];omega
    exact this ls h1
  | .st fs,aS,h=>by simp only [Den]at h;exact yu fs aS h
theorem yu:∀(ds:List D) (aS:List A),jL ds aS→aS.length=D.bI ds
  | [],aS,h=>by simp only [jL]at h;subst h;rfl
  | d :: ds, aS, h => by
    simp only [jL]at h
    obtain⟨x,y,h1,h2,rfl⟩:=h
    rw [List.length_append,rr d x h1,yu ds y h2];rfl
end
mutual
theorem tM : ∀ (d : D) (t : TypeId) (fuel : Nat) (cs : List Value) (x : DataW H × List MemPlace), jV P d t = true → DataW.trod enc P w base (fun _ => true) held fuel t cs = some x → ∃ aS, Den d aS ∧ VS (XW w) w no aS cs ∧ ∀ u ∈ cs, u.oneCell' = true
  | .int k, t, fuel, cs, x, hf, h => by
    obtain⟨n,rfl,_,hw⟩:=DataW.trod_int (By hf) h
    exact⟨[.i k n],⟨n,hw,rfl⟩,cZ (by simp [V]) dB,by simp [Value.oneCell']⟩
  | .bool, t, fuel, cs, x, hf, h => by
    obtain⟨b,rfl,_⟩:=DataW.trod_bool (Bx hf) h
    exact⟨[.b b],⟨b,rfl⟩,cZ (by simp [V]) dB,by simp [Value.oneCell']⟩
  | .str, t, fuel, cs, x, hf, h => by
    obtain⟨s,rfl,_,hs⟩:=DataW.trod_string (Bz hf) h
    exact⟨[.s s.data.toList],⟨_,by simpa using hs,rfl⟩,cZ (by simp [V]) dB,by simp [Value.oneCell']⟩
  | .sl e, t, fuel, cs, x, hf, h => by
    simp only [jV]at hf
    split at hf
    · rename_i u ht
      simp only [Bool.and_eq_true]at hf
      obtain⟨⟨hf1,hf2⟩,hf3⟩:=hf
      have hsz:P.cellsOf u=e.cells:=Nat.eq_of_beq_eq_true hf2
      have hpos:0<e.cells:=Nat.lt_of_succ_le (by simpa [Nat.blt]using hf3)
      rcases Deep.open_slice ht h with ⟨rfl,_⟩|⟨a,len,cap,m,n,DD,Pl,rfl,_,hl,hm,hmm,_,hx⟩
      · refine ⟨[.fz 0 []], ⟨[], (fun x hx => by cases hx), Nat.zero_le _, rfl⟩, cZ ?_ dB, by simp [Value.oneCell']⟩
        simp only [V]
        exact⟨none,0,rfl,Nat.le_refl _,Nat.zero_le _,fun _=>rfl,(fun h=>absurd h (Nat.lt_irrefl _)),by simp [VM]⟩
      · simp only [if_true] at hmm
        subst hmm
        have hV:∀i,i<m→∃q:List A×List Value,(Den e q.1∧VS (XW w) w no q.1 q.2∧∀u∈q.2,u.oneCell'=true)∧w.cells? base (a.add (i*P.cellsOf u)) (P.cellsOf u)=some q.2:=fun i hi=>by
          obtain⟨cs',h1,h2⟩:=hx i hi
          obtain⟨aS,g1,g2,g3⟩:=tM e u n cs' _ hf1 h2
          exact⟨(aS,cs'),⟨g1,g2,g3⟩,h1⟩
        obtain⟨W,hW⟩:=Deep.choose_lt (α:=List A×List Value) (p:=fun i q=>(Den e q.1∧VS (XW w) w no q.1 q.2∧∀u∈q.2,u.oneCell'=true)∧w.cells? base (a.add (i*P.cellsOf u)) (P.cellsOf u)=some q.2) hV
        rw [hsz]at hW
        have hspot:0<m→a.spot=none:=fun h0=>by
          obtain⟨_,_,hc⟩:=World.cells?_some (hW 0 h0).2
          have hln:(W 0).2.length=e.cells:=by rw [cJ (hW 0 h0).1.2.1,rr e _ (hW 0 h0).1.1]
          have:=hc 0 (by omega)
          rw [List.getElem?_eq_getElem (by omega)]at this
          have h1:=F4 this
          rw [Nat.zero_mul]at h1
          exact yN (yN h1)
        refine⟨[.fz len ((List.range len).map fun i=>(W i).1).flatten],⟨(List.range len).map fun i=>(W i).1,?_,by simp;omega,by simp⟩,cZ ?_ dB,by simp [Value.oneCell']⟩
        · intro x hx
          obtain⟨i,hi,rfl⟩:=List.mem_map.1 hx
          exact(hW i (by have:=List.mem_range.1 hi;omega)).1.1
        · simp only [V]
          refine⟨some a,m,rfl,hl,hm,(fun h=>by cases h),(fun h0 x hx=>by cases hx;exact hspot h0),?_⟩
          refine yE (sz:=e.cells) (W:=fun i=>(W i).1) (fun _=> .inr trivial) len _ fun i hi=>?_
          obtain⟨⟨g1,g2,g3⟩,g4⟩:=hW i (by omega)
          obtain⟨_,hlen,hc⟩:=World.cells?_some g4
          refine⟨rr e _ g1,EN g2 g3 fun k hk=>?_⟩
          have h2:=hc k (by omega)
          have hs:=hspot (by omega)
          rw [add_plain hs,add_plain rfl]at h2
          exact h2
    · cases hf
  | .arr k e, t, fuel, cs, x, hf, h => by
    simp only [jV]at hf
    split at hf
    · rename_i m u ht
      simp only [Bool.and_eq_true]at hf
      obtain⟨⟨⟨hm,hf1⟩,hf2⟩,hf3⟩:=hf
      have hmk:m=k:=Nat.eq_of_beq_eq_true hm
      subst hmk
      have hsz:P.cellsOf u=e.cells:=Nat.eq_of_beq_eq_true hf2
      have hst:P.cellsOf t=m*e.cells:=Nat.eq_of_beq_eq_true hf3
      obtain⟨xs,n,_,_,hl,hxl,hx⟩:=DataW.trod_array ht h
      rw [hsz]at hx
      rw [hst]at hl
      have hV:∀i,i<m→∃aS:List A,Den e aS∧VS (XW w) w no aS ((cs.drop (i*e.cells)).take e.cells)∧∀u∈(cs.drop (i*e.cells)).take e.cells,u.oneCell'=true:=fun i hi=>by
        have:=hx i hi
        rw [List.getElem?_eq_getElem (by omega)]at this
        exact tM e u n _ _ hf1 this
      obtain⟨W,hW⟩:=Deep.choose_lt (α:=List A) (p:=fun i aS=>Den e aS∧VS (XW w) w no aS ((cs.drop (i*e.cells)).take e.cells)∧∀u∈(cs.drop (i*e.cells)).take e.cells,u.oneCell'=true) hV
      refine⟨((List.range m).map W).flatten,⟨(List.range m).map W,?_,by simp,rfl⟩,?_,?_⟩
      · intro x hx
        obtain⟨i,hi,rfl⟩:=List.mem_map.1 hx
        exact(hW i (List.mem_range.1 hi)).1
      · have e1 := wI m cs hl
        rw [←e1]
        refine yF (by simp) fun i l u h1 h2=>?_
        rw [List.getElem?_map]at h1 h2
        obtain⟨j,hj,rfl⟩:=Option.map_eq_some_iff.1 h1
        rw [hj]at h2
        simp only [Option.map_some,Option.some.injEq]at h2
        subst h2
        exact(hW j (by have:=List.mem_range.1 (List.mem_of_getElem? hj);omega)).2.1
      · intro u hu
        rw [←wI m cs hl]at hu
        obtain⟨l,hl',hu⟩:=List.mem_flatten.1 hu
        obtain⟨i,hi,rfl⟩:=List.mem_map.1 hl'
        exact(hW i (List.mem_range.1 hi)).2.2 u hu
    · cases hf
  | .st ds, t, fuel, cs, x, hf, h => by
    simp only [jV]at hf
    split at hf
    · rename_i fs ht
      simp only [Bool.and_eq_true]at hf
      have hst:P.cellsOf t=D.bI ds:=Nat.eq_of_beq_eq_true hf.2
      obtain⟨xs,n,_,_,hl,hxl,hx⟩:=DataW.trod_struct ht h
      obtain⟨aS,g1,g2,g3⟩:=CP ds fs.toList 0 n cs hf.1 (by rw [hl,hst]) (fun i f hi=>by
        have hi':fs[i]? =some f:=by simpa using hi
        have:=hx i f hi'
        have hlt:i<xs.length:=by rw [hxl];exact(Array.getElem?_eq_some_iff.1 hi').1
        rw [List.getElem?_eq_getElem hlt]at this
        exact⟨_,by rw [Nat.sub_zero];exact this⟩)
      exact⟨aS,g1,g2,g3⟩
    · cases hf
theorem CP:∀(ds:List D) (fs:List Field) (o n:Nat) (cs:List Value),mf P ds fs o=true→cs.length=D.bI ds→(∀(i:Nat) (f:Field),fs[i]? =some f→∃y:DataW H×List MemPlace,DataW.trod enc P w base (fun _=>true) held n f.type ((cs.drop (f.offset - o)).take (P.cellsOf f.type))=some y)→∃aS,jL ds aS∧VS (XW w) w no aS cs∧∀u∈cs,u.oneCell'=true
  | [], fs, o, n, cs, hf, hl, _ => by
    have:cs= []:=List.eq_nil_of_length_eq_zero hl
    subst this
    exact⟨[],rfl,dB,(fun u h=>by cases h)⟩
  |d::ds, [],o,n,cs,hf,hl,_=>by simp [mf]at hf
  | d :: ds, f :: fs, o, n, cs, hf, hl, h => by
    simp only [mf,Bool.and_eq_true]at hf
    obtain⟨⟨⟨h1,h2⟩,h3⟩,h4⟩:=hf
    have e1:f.offset=o:=Nat.eq_of_beq_eq_true h1
    have e2:P.cellsOf f.type=d.cells:=Nat.eq_of_beq_eq_true h2
    have hl':cs.length=d.cells+D.bI ds:=hl
    obtain⟨y,hy⟩:=h 0 f rfl
    rw [e1,e2,Nat.sub_self,List.drop_zero]at hy
    obtain⟨aS,g1,g2,g3⟩:=tM d f.type n _ y h3 hy
    have hfo:=A4 ds fs (o+d.cells) h4
    obtain⟨bs,k1,k2,k3⟩:=CP ds fs (o+d.cells) n (cs.drop d.cells) h4 (by rw [List.length_drop];omega) (fun i f' hi=>by
      obtain⟨y,hy⟩:=h (i+1) f' (by simpa using hi)
      have hoff:=hfo f' (List.mem_of_getElem? hi)
      refine⟨y,?_⟩
      rw [List.drop_drop,show d.cells+(f'.offset - (o+d.cells))=f'.offset - o by omega]
      exact hy)
    refine⟨aS++bs,⟨aS,bs,g1,k1,rfl⟩,?_,?_⟩
    · have := eH g2 k2
      rwa [List.take_append_drop]at this
    · intro u hu
      rw [←List.take_append_drop d.cells cs]at hu
      exact(List.mem_append.1 hu).elim (g3 u) (k3 u)
theorem A4:∀(ds:List D) (fs:List Field) (o:Nat),mf P ds fs o=true→∀f∈fs,o≤f.offset
  | [], [],o,_,f,hm=>by cases hm
  | [],_::_,o,h,f,hm=>by simp [mf]at h
  |_::_, [],o,h,f,hm=>by cases hm
  | d :: ds, f' :: fs, o, h, f, hm => by
    simp only [mf,Bool.and_eq_true]at h
    have e1:f'.offset=o:=Nat.eq_of_beq_eq_true h.1.1.1
    rcases List.mem_cons.1 hm with rfl|hm
    · omega
    · have:=A4 ds fs (o+d.cells) h.2 f hm;omega
end
def Fg:D→List A→A
  | .arr _ _,aS=> .ag aS
  | .st _,aS=> .ag aS
  |_,aS=>aS.getD 0 un
theorem xL {t:TypeId} {r:Reach} {b0:Nat} {v:Value} {x:DataW H} {ps:List MemPlace} (d:D) (hf:jV P d t=true) (hval:Value.okWide P w r b0 t v) (h:DataW.Trod enc P w base (fun _=>true) held t v x ps):∃aS,Den d aS∧V (XW w) w no (Fg d aS) v:=by
  obtain⟨fuel,hfu⟩:=h
  obtain⟨aS,g1,g2,g3⟩:=tM d t fuel _ _ hf hfu
  refine⟨aS,g1,?_⟩
  have agg:∀cs:Array Value,v= .agg cs→V (XW w) w no (.ag aS) v:=by
    rintro cs rfl
    simp only [V]
    exact⟨cs.toList,by simp,g2,g3⟩
  have scal:∀a,aS= [a]→v.cells= #[v]→V (XW w) w no (aS.getD 0 un) v:=by
    rintro a rfl hv
    rw [hv]at g2
    simp only [VS]at g2
    obtain⟨u,r,hu,hvu,rfl⟩:=g2
    simp only [List.cons.injEq,and_true]at hu
    subst hu
    exact hvu
  cases d with
  | int k =>
    obtain⟨n,rfl⟩:=WideShapes.okWide_int (By hf) hval
    simp only [Den]at g1
    obtain⟨m,_,rfl⟩:=g1
    exact scal _ rfl rfl
  | bool =>
    obtain⟨n,rfl⟩:=WideShapes.okWide_bool (Bx hf) hval
    simp only [Den]at g1
    obtain⟨m,rfl⟩:=g1
    exact scal _ rfl rfl
  | str =>
    obtain⟨n,rfl⟩:=WideShapes.okWide_string (Bz hf) hval
    simp only [Den]at g1
    obtain⟨m,_,rfl⟩:=g1
    exact scal _ rfl rfl
  | sl e =>
    simp only [jV]at hf
    split at hf
    · rename_i u ht
      obtain⟨a,len,cap,rfl⟩:=WideShapes.okWide_slice ht hval
      simp only [Den]at g1
      obtain⟨m,_,_,rfl⟩:=g1
      exact scal _ rfl rfl
    · cases hf
  | arr n e =>
    simp only [jV]at hf
    split at hf
    · rename_i m u ht
      unfold Value.okWide at hval
      simp only [ht]at hval
      obtain⟨cs,rfl,_,_⟩:=hval
      exact agg cs rfl
    · cases hf
  | st ds =>
    simp only [jV]at hf
    split at hf
    · rename_i fs ht
      unfold Value.okWide at hval
      simp only [ht]at hval
      obtain⟨cs,rfl,_,_⟩:=hval
      exact agg cs rfl
    · cases hf
theorem yT (hl:laidOutB P=true) {W W':World} (hb:RowKit.Below W.heap.size W W'):∀(ts:List TypeId) (vs:List Value) (ds:List (DataW H)) (p:List MemPlace),(ts.all fun t=>P.readableRec t&&decide (t<P.types.size))=true→
    DataW.TrodAll enc P W 0 (fun _=>true) true ts vs ds p→(∀x∈p,x.block<W.heap.size)→DataW.TrodAll enc P W' 0 (fun b=>decide (b<W.heap.size)) true ts vs ds p
  | [], vs, ds, p, _, h, _ => by
    obtain⟨rfl,rfl,rfl⟩:=ChangeShapes.trodAll_nil h
    rfl
  | t :: ts, vs, ds, p, hall, h, hlt => by
    simp only [List.all_cons,Bool.and_eq_true,decide_eq_true_eq]at hall
    obtain⟨v,vs',d,ds',a,b,rfl,rfl,rfl,h1,h2⟩:=ChangeShapes.trodAll_cons h
    exact⟨a,b,RowKit.Below.trod hl hall.1.1 hall.1.2 h1 hb (fun x hx=>hlt x (by simp [hx])),yT hl hb ts vs' ds' b hall.2 h2 (fun x hx=>hlt x (by simp [hx])),rfl⟩
theorem Gx {f:FuncId} {aS:List A} {us:List Value} {W:World} (hc:aB P f aS (aU (.b true))) (hg:GL (XW W) W) (hv:VS (XW W) W no aS us):
    Calls P f us.toArray W fun e W'=>e= .returned (.bool true)∧RowKit.Below W.heap.size W W':=by
  have h:=hc W (XW W) no us (fun _ _=>rfl) EX hg (fun id cs h=>by cases h) (fun i j ci cj b M N _ h=>by cases h) hv
  refine h.calls.mono fun e W' he=>?_
  obtain⟨v,rfl,r,β',X',st',hr,_,_,hm,hV⟩:=he
  have:r= .b true:=hr
  subst this
  simp only [V]at hV
  subst hV
  have kb:=hm.below
  refine⟨rfl,kb.os,kb.tape,kb.output,kb.size,fun k hk=>kb.block k hk ?_⟩
  rintro⟨id,cs,h,_⟩
  cases h
theorem Fh {t e:TypeId} {n:Nat} {k:IntKind} {fuel:Nat} {cs:List Value} {l:List Int} {p:List MemPlace} {sp:Nat→Bool} {enc:TypeId×Value→Unit} (ht:P.underlying t=some (.array n e)) (he:P.underlying e=some (.int k)) (hc:P.cellsOf e=1) (hct:P.cellsOf t=n)
    (h:DataW.trod enc P w base sp held fuel t cs=some (.agg (l.map fun i=> .lit (.int k i)),p)):cs=l.map (.int k):=by
  obtain⟨xs,m,_,hx,hl,hxl,hel⟩:=DataW.trod_array ht h
  simp only [Prod.mk.injEq,DataW.agg.injEq]at hx
  have hll:l.length=n:=by have:=congrArg List.length hx.1;simp at this;omega
  rw [hct]at hl
  refine List.ext_getElem (by simp;omega) fun i h1 h2=>?_
  have hi:i<n:=by omega
  have:=hel i hi
  rw [hc,Nat.mul_one,List.drop_eq_getElem_cons h1,List.take_succ_cons,List.take_zero,List.getElem?_eq_getElem (by omega)]at this
  obtain⟨q,e1,e2,_⟩:=DataW.trod_int he this
  simp only [List.cons.injEq,and_true]at e1
  rw [List.getElem_map,e1]
  have h3:=congrArg (fun z:List (DataW Unit)=>z[i]?) hx.1
  simp only [List.getElem?_map]at h3
  rw [List.getElem?_eq_getElem (by simpa using h2),List.getElem?_eq_getElem (by omega),Option.map_some,Option.map_some,e2]at h3
  simp only [Option.some.injEq,DataW.lit.injEq,Lit.int.injEq,true_and]at h3
  rw [h3]
theorem pY {α:Type} {e:D} {f:α→List A} {p:α→Prop} (h:∀x,Den e x→∃y,x=f y∧p y):∀ls:List (List A),(∀x∈ls,Den e x)→∃ys:List α,ls=ys.map f∧∀y∈ys,p y
  | [],_=>⟨[],rfl,fun y hy=>by cases hy⟩
  | x :: ls, hx => by
    obtain⟨y,rfl,hy⟩:=h x (hx x (.head _))
    obtain⟨ys,rfl,hys⟩:=pY h ls fun z hz=>hx z (.tail _ hz)
    exact⟨y::ys,rfl,fun z hz=>(List.mem_cons.1 hz).elim (fun e=>e ▸ hy) (hys z)⟩
theorem HL {α:Type} (f:α→A) (l:List α):(l.map fun x=> [f x]).flatten=l.map f:=by
  induction l with
  |nil=>rfl
  |cons x l ih=>simp [ih]
theorem GR (aS:List A) (h:Den (.int .u8) aS):∃b:UInt8,aS= [u8 b]∧True:=by
  simp only [Den]at h
  obtain⟨n,hw,rfl⟩:=h
  refine⟨UInt8.ofNat n.toNat,?_,trivial⟩
  simp only [Lit.wf,Bool.and_eq_true,decide_eq_true_eq]at hw
  have h1:IntKind.u8.min=0:=rfl
  have h2:IntKind.u8.max=255:=rfl
  rw [h1,h2]at hw
  have:((UInt8.ofNat n.toNat).toNat:Int)=n:=by
    rw [UInt8.toNat_ofNat',Nat.mod_eq_of_lt (by omega)];omega
  rw [u8,this]
theorem l7 (aS:List A) (h:Den (.int .i64) aS):∃n:Int,aS= [.i .i64 n]∧(-9223372036854775808≤n∧n≤9223372036854775807):=by
  simp only [Den]at h
  obtain⟨n,hw,rfl⟩:=h
  simp only [Lit.wf,Bool.and_eq_true,decide_eq_true_eq]at hw
  have h1:IntKind.i64.min= -9223372036854775808:=rfl
  have h2:IntKind.i64.max=9223372036854775807:=rfl
  rw [h1,h2]at hw
  exact⟨n,rfl,hw⟩
theorem vU {n:Nat} (aS:List A) (h:Den (.arr n (.int .u8)) aS):∃d:List UInt8,aS=d.map u8∧d.length=n:=by
  simp only [Den]at h
  obtain⟨ls,h1,h2,rfl⟩:=h
  obtain⟨ys,rfl,_⟩:=pY GR ls h1
  exact⟨ys,HL _ _,by simpa using h2⟩
theorem Ae {n:Nat} (aS:List A) (h:Den (.sl (.arr n (.int .u8))) aS):∃L:List (List UInt8),aS= [.fz L.length (L.flatten.map u8)]∧L.length≤maxLen∧∀x∈L,x.length=n:=by
  simp only [Den]at h
  obtain⟨ls,h1,h2,rfl⟩:=h
  obtain⟨ys,rfl,h3⟩:=pY (f:=fun d:List UInt8=>d.map u8) vU ls (fun x hx=>by simp only [Den];exact h1 x hx)
  exact⟨ys,by rw [List.length_map,List.map_flatten],by simpa using h2,h3⟩
end
end Go.Abs
-- K6Q
namespace Go.Abs.D2
open Go Go.Eng Go.Abs
theorem MN {x:List UInt8} {k i:Nat} (m:List UInt8) (hk:cv (k:Int)) (hi:i<k):fc (dM x k) k m i (iU (fE x i) m) (path (dt x k) i)=true:=by
  have h1:=Gp (L:=dt x k) (IA hi) (by rw [len_kpubs];unfold cv at hk;omega)
  rw [len_kpubs]at h1
  have h2:=KP (fE x i) m
  refine Ee hk (by unfold fQ;omega) h2.2 ?_
  rw [h2.1,ub hk,h1.1,h1.2]
  simp
def rR (i:Nat) (m:List UInt8):List (List UInt8):=List.replicate i zD++ [m]
@[simp] theorem len_atM (i:Nat) (m:List UInt8):(rR i m).length=i+1:=by simp [rR]
theorem NR (i:Nat) (m:List UInt8):DH (rR i m) i=m:=by simp [DH,rR]
structure Lf where
  a:Int
  S:List (List UInt8)
  P:List (List UInt8)
theorem GQ (aS:List A) (h:Den (.st [.int .i64,.sl (.arr 32 (.int .u8)),.sl (.arr 32 (.int .u8))]) aS):∃f:Lf,aS= [.i .i64 f.a,bD f.S,bD f.P]∧aL f.S∧aL f.P:=by
  simp only [Den,jL]at h
  obtain⟨a,r,h1,⟨b,r2,h2,⟨c,r3,h3,rfl,rfl⟩,rfl⟩,rfl⟩:=h
  obtain⟨n,rfl,_⟩:=l7 a (by simpa only [Den]using h1)
  obtain⟨S,rfl,_,hS⟩:=Ae b (by simpa only [Den]using h2)
  obtain⟨P,rfl,_,hP⟩:=Ae c (by simpa only [Den]using h3)
  exact⟨⟨n,S,P⟩,rfl,hS,hP⟩
end Go.Abs.D2
-- F3A
namespace Go.Abs.D2
open Go Go.Eng Go.Abs
inductive Part where
  |d (x:List UInt8)|b (x:UInt8)|w (x:BitVec 32)
def Part.a (tD tB tW:TypeId):Part→A
  | .d x=> .ic tD (.ag (x.map u8))
  | .b x=> .ic tB (u8 x)
  | .w x=> .ic tW (aI x)
def gR (x:BitVec 32):List UInt8:= [UInt8.ofNat (x>>>24).toNat,UInt8.ofNat (x>>>16).toNat,UInt8.ofNat (x>>>8).toNat,UInt8.ofNat x.toNat]
@[simp] theorem Nv (x:BitVec 32):(gR x).length=4:=rfl
def Part.bs:Part→List UInt8
  | .d x=>x
  | .b x=> [x]
  | .w x=>gR x
def Part.ok:Part→Prop
  | .d x=>x.length=32
  |_=>True
def il (ps:List Part):List UInt8:=(ps.map Part.bs).flatten
theorem r7 {ps:List Part} {i:Nat} {p:Part} (h:ps[i]? =some p):il (ps.take i)++p.bs=il (ps.take (i+1)):=by
  unfold il
  rw [List.take_add_one,h];simp
theorem IU {p:Part} (h:p.ok):p.bs.length≤32:=by
  cases p with
  |d x=>exact Nat.le_of_eq h
  |b x=>simp [Part.bs]
  |w x=>simp [Part.bs,gR]
theorem BO:∀ {ps:List Part},(∀p∈ps,p.ok)→(il ps).length≤32*ps.length
  | [],_=>by simp [il]
  | p :: ps, h => by
    have h1:=IU (h p (.head _))
    have h2:=BO (ps:=ps) fun q hq=>h q (.tail _ hq)
    unfold il at*
    simp only [List.map_cons,List.flatten_cons,List.length_append,List.length_cons]
    omega
theorem H6 {tD tB tW:TypeId} {ps:List Part} {i:Nat} {p:Part} (h:ps[i]? =some p):((ps.map (Part.a tD tB tW)).drop (i*1))[0]? =some (p.a tD tB tW):=by
  rw [List.getElem?_drop,show i*1+0=i by omega,List.getElem?_map,h];rfl
theorem vz {ps:List Part} {i:Nat} {p:Part} {r:List A} (h:ps[i]? =some p) (hr:r=p.bs.map u8):(il (ps.take i)).map u8++r=(il (ps.take (i+1))).map u8:=by
  rw [←r7 h,hr,List.map_append]
def j6 (d:List UInt8) (o:Nat):Nat→Nat
  |0=>0
  |j+1=>j6 d o j*256+(d.getD (o+j) 0).toNat
theorem Cr (d:List UInt8) (o:Nat):∀j,j6 d o j<256 ^ j
  |0=>by simp [j6]
  | j + 1 => by
    have h1:=Cr d o j
    have h2:=(d.getD (o+j) 0).toNat_lt
    rw [j6,Nat.pow_succ]
    omega
theorem Kc (n:Nat) (b:UInt8) (h:n<16777216):kM .or .i64 ((n*256:Nat):Int) (b.toNat:Int)=((n*256+b.toNat:Nat):Int):=by
  have hb:=b.toNat_lt
  have e:(BitVec.ofInt 64 ((n*256:Nat):Int)|||BitVec.ofInt 64 (b.toNat:Int)).toNat=(n*256|||b.toNat) % 2 ^ 64:=by
    rw [BitVec.toNat_or]
    simp only [BitVec.ofInt_natCast,BitVec.toNat_ofNat]
    rw [Nat.or_mod_two_pow]
  have e2:n*256|||b.toNat=n*256+b.toNat:=by
    rw [Nat.mul_comm,show(256:Nat)=2 ^ 8 from rfl,Nat.two_pow_add_eq_or_of_lt hb]
  show IntKind.i64.wrap ((BitVec.ofInt 64 ((n*256:Nat):Int)|||BitVec.ofInt 64 (b.toNat:Int)).toNat:Int)=_
  have e3:(n*256+b.toNat) % 2 ^ 64=n*256+b.toNat:=Nat.mod_eq_of_lt (by omega)
  rw [e,e2,e3]
  exact mJ _ (by omega) (by omega)
theorem LX (n:Nat) (h:n<16777216):IntKind.i64.wrap ((n:Int)*2 ^ min ((8:Int).toNat) IntKind.i64.bits)=((n*256:Nat):Int):=by
  show IntKind.i64.wrap ((n:Int)*256)=_
  rw [mJ _ (by omega) (by omega)]
  omega
@[irreducible] def iu (x:List UInt8) (lv id:Nat):List UInt8:=tagged [102,105,108,116,101,114] (x++UInt8.ofNat lv::gR (BitVec.ofNat 32 id))
theorem AV (x:List UInt8) (lv id:Nat):iu x lv id=tagged [102,105,108,116,101,114] (x++UInt8.ofNat lv::gR (BitVec.ofNat 32 id)):=by unfold iu;rfl
@[simp] theorem NA (x:List UInt8) (lv id:Nat):(iu x lv id).length=32:=by rw [AV];simp
def gS (x:List UInt8) (lv nb id i:Nat):List Nat:=(List.range i).map fun j=>j6 (iu x lv id) (4*j) 4 % nb
theorem FH (x:List UInt8) (lv nb id i:Nat):gS x lv nb id (i+1)=gS x lv nb id i++ [j6 (iu x lv id) (4*i) 4 % nb]:=by simp [gS,List.range_succ]
@[simp] theorem len_bitL (x:List UInt8) (lv nb id i:Nat):(gS x lv nb id i).length=i:=by simp [gS]
abbrev nJ (n:Nat):A:= .i .i64 (n:Int)
theorem H4 {m:List UInt8} {o:Nat} (k:Nat) (hi:o+k<m.length) {cs:List A} (hc:cs=(m.map u8).drop (0+o*1+k*1)):cs[0]? =some (u8 (m.getD (o+k) 0)):=by
  subst hc
  rw [List.getElem?_drop,show 0+o*1+k*1+0=o+k by omega]
  simp [hi]
theorem Gy (b:UInt8):A.i .i64 (IntKind.i64.wrap (b.toNat:Int))=nJ b.toNat:=by
  have:=b.toNat_lt
  exact congrArg (A.i .i64) (mJ _ (by omega) (by omega))
def fb (a b:Int):Prop:=0≤a∧a<16∧8≤b∧b≤4096
instance (a b:Int):Decidable (fb a b):=by unfold fb;infer_instance
end Go.Abs.D2
-- F3P
namespace Go.Abs.D2
open Go Go.Eng Go.Abs
theorem vb {p:Nat→Prop} {i:Nat} (h:∀t,t<i→p t) (hp:p i):∀t,t<i+1→p t:=fun t ht=>(Nat.lt_or_ge t i).elim (h t) fun hg=>(Nat.le_antisymm (Nat.le_of_lt_succ ht) hg) ▸ hp
theorem Nn (k:Nat):List.replicate k (aW (Value.int .u8 0))=(List.replicate k (0:UInt8)).map u8:=(List.map_replicate (f:=u8) (n:=k) (a:=0)).symm
theorem tf (b:Bool):b=false∨b=true:=by cases b<;>simp
theorem FG {r:Nat} (h:r<8):(jg r).toNat=2 ^ r:=by
  unfold jg
  rw [UInt8.toNat_ofNat']
  exact Nat.mod_eq_of_lt (Nat.pow_lt_pow_right (by omega) h)
theorem FJ (b r:Nat):Nat.testBit b r=(b / 2 ^ r % 2==1):=by
  rw [Nat.testBit_eq_decide_div_mod_eq];rfl
def fG (l:List UInt8) (k:Nat):Bool:=(l.getD (k / 8) 0).toNat.testBit (k % 8)
def lQ (l:List UInt8) (k:Nat):List UInt8:=l.set (k / 8) (l.getD (k / 8) 0|||jg (k % 8))
@[simp] theorem len_setA (l:List UInt8) (k:Nat):(lQ l k).length=l.length:=by simp [lQ]
theorem zg {l:List UInt8} {k:Nat} (h:k / 8<l.length) (j:Nat):fG (lQ l k) j=(fG l j||j==k):=by
  unfold fG lQ
  by_cases hj:j / 8=k / 8
  · rw [hj]
    have e:(l.set (k / 8) (l.getD (k / 8) 0|||jg (k % 8))).getD (k / 8) 0=l.getD (k / 8) 0|||jg (k % 8):=by simp [List.getD,h]
    rw [e,UInt8.toNat_or,Nat.testBit_or,FG (by omega),Nat.testBit_two_pow]
    congr 1
    by_cases hm:j=k
    · subst hm;simp
    · rw [beq_eq_false_iff_ne.2 hm];exact decide_eq_false (by omega)
  · have e : (l.set (k / 8) (l.getD (k / 8) 0 ||| jg (k % 8))).getD (j / 8) 0 = l.getD (j / 8) 0 := by
      simp only [List.getD,List.getElem?_set];rw [if_neg (fun h=>hj h.symm)]
    rw [e,beq_eq_false_iff_ne.2 (by rintro rfl;exact hj rfl),Bool.or_false]
def q9 (n:Nat) (D:List UInt8):Prop:=∀k,n≤k→k<8*D.length→fG D k=false
theorem Ms {n : Nat} {D : List UInt8} (hl : D.length = (n + 7) / 8) (hn : 8 ≤ n) : (n % 8 = 0 ∨ (D.getD (D.length - 1) 0).toNat / 2 ^ (n % 8) = 0) ↔ q9 n D := by
  by_cases h0:n % 8=0
  · refine⟨fun _ k h1 h2=>absurd h2 (by omega),fun _=> .inl h0⟩
  · have hd : D.length - 1 = n / 8 := by omega
    rw [hd]
    constructor
    · rintro (h | h) k h1 h2
      · exact absurd h h0
      · unfold fG
        rw [show k / 8=n / 8 by omega]
        have h3:(D.getD (n / 8) 0).toNat<2 ^ (n % 8):=by
          rcases Nat.lt_or_ge (D.getD (n / 8) 0).toNat (2 ^ (n % 8))with h'|h'
          · exact h'
          · have:=Nat.div_pos h' (Nat.two_pow_pos _);omega
        exact Nat.testBit_lt_two_pow (Nat.lt_of_lt_of_le h3 (Nat.pow_le_pow_right (by omega) (by omega)))
    · intro h
      right
      apply Nat.div_eq_of_lt
      apply Nat.lt_pow_two_of_testBit
      intro i hi
      by_cases h8:i<8
      · have := h (8 * (n / 8) + i) (by omega) (by omega)
        unfold fG at this
        rwa [show(8*(n / 8)+i) / 8=n / 8 by omega,show(8*(n / 8)+i) % 8=i by omega]at this
      · exact Nat.testBit_lt_two_pow (Nat.lt_of_lt_of_le (UInt8.toNat_lt _) (Nat.pow_le_pow_right (by omega) (by omega:8≤i)))
@[irreducible] def cL (lv nb:Int) (D:List UInt8):Bool:=decide (fb lv nb)&&(D.length==(nb.toNat+7) / 8)&&(nb.toNat % 8==0||(D.getD (D.length - 1) 0).toNat / 2 ^ (nb.toNat % 8)==0)
theorem xW {lv nb:Int} (h:fb lv nb):∃l n:Nat,lv=(l:Int)∧nb=(n:Int)∧l<16∧8≤n∧n≤4096:=⟨lv.toNat,nb.toNat,by unfold fb at h;omega,by unfold fb at h;omega,by unfold fb at h;omega,by unfold fb at h;omega,by unfold fb at h;omega⟩
theorem tt {l n:Nat} (h1:l<16) (h2:8≤n) (h3:n≤4096):fb (l:Int) (n:Int):=by unfold fb;omega
theorem zY {lv nb:Int} {D:List UInt8} (h:¬fb lv nb):cL lv nb D=false:=by unfold cL;simp [h]
theorem zX {l n:Nat} {D:List UInt8} (h:D.length≠(n+7) / 8):cL l n D=false:=by unfold cL;simp [h]
theorem zZ {l n:Nat} {D:List UInt8} (h1:l<16) (h2:8≤n) (h3:n≤4096) (hl:D.length=(n+7) / 8):cL l n D=(n % 8==0||(D.getD (D.length - 1) 0).toNat / 2 ^ (n % 8)==0):=by
  have:=tt h1 h2 h3
  unfold cL
  simp only [this,decide_true,Bool.true_and,Int.toNat_natCast]
  rw [beq_iff_eq.2 hl,Bool.true_and]
theorem z1 {l n:Nat} {D:List UInt8} (h1:l<16) (h2:8≤n) (h3:n≤4096) (hl:D.length=(n+7) / 8):cL l n D=true↔q9 n D:=by
  rw [zZ h1 h2 h3 hl, ←Ms hl h2];simp
theorem vJ {lv nb:Int} {D:List UInt8} (h:cL lv nb D=true):∃l n:Nat,lv=(l:Int)∧nb=(n:Int)∧l<16∧8≤n∧n≤4096∧D.length=(n+7) / 8∧q9 n D:=by
  by_cases hs:fb lv nb
  · obtain ⟨l, n, rfl, rfl, h1, h2, h3⟩ := xW hs
    by_cases hl:D.length=(n+7) / 8
    · exact⟨l,n,rfl,rfl,h1,h2,h3,hl,(z1 h1 h2 h3 hl).1 h⟩
    · rw [zX hl]at h;cases h
  · rw [zY hs]at h;cases h
theorem xf {l n:Nat} {D:List UInt8} (h1:l<16) (h2:8≤n) (h3:n≤4096) (hl:D.length=(n+7) / 8) (ht:q9 n D):cL l n D=true:=(z1 h1 h2 h3 hl).2 ht
def ox (b:Bool):Int:=if b then 0 else 330
@[irreducible] def bN (x:List UInt8) (lv nb id i:Nat):Nat:=j6 (iu x lv id) (4*i) 4 % nb
theorem y9 (x:List UInt8) (lv nb id i:Nat):bN x lv nb id i=j6 (iu x lv id) (4*i) 4 % nb:=by unfold bN;rfl
theorem og {x:List UInt8} {lv nb id:Nat} (h:0<nb) (i:Nat):bN x lv nb id i<nb:=by rw [y9];exact Nat.mod_lt _ h
theorem zf (x:List UInt8) (lv nb id i:Nat) (h:i<2):(((gS x lv nb id 2).map nJ).drop (i*1))[0]? =some (nJ (bN x lv nb id i)):=by
  rw [List.getElem?_drop,show i*1+0=i by omega,y9]
  simp [gS,h]
@[irreducible] def okB (lv nb:Int) (D:List UInt8) (id:Int):Bool:=cL lv nb D&&decide (0≤id∧id<1024)
theorem JX {lv nb id:Int} {D:List UInt8} (h:cL lv nb D=false):okB lv nb D id=false:=by unfold okB;simp [h]
theorem JY {lv nb id:Int} {D:List UInt8} (h:¬(0≤id∧id<1024)):okB lv nb D id=false:=by unfold okB;simp only [h,decide_false,Bool.and_false]
theorem CM {lv nb id:Int} {D:List UInt8} (h:cL lv nb D=true) (h':0≤id∧id<1024):okB lv nb D id=true:=by unfold okB;simp only [h,h'];rfl
theorem tG {lv nb id:Int} {D:List UInt8} (h:okB lv nb D id=true):∃l n j:Nat,lv=(l:Int)∧nb=(n:Int)∧id=(j:Int)∧l<16∧8≤n∧n≤4096∧j<1024∧D.length=(n+7) / 8∧q9 n D:=by
  unfold okB at h
  simp only [Bool.and_eq_true,decide_eq_true_eq]at h
  obtain⟨h,h5,h6⟩:=h
  obtain⟨l,n,rfl,rfl,h1,h2,h3,h4,ht⟩:=vJ h
  exact⟨l,n,id.toNat,rfl,rfl,by omega,h1,h2,h3,by omega,h4,ht⟩
@[irreducible] def bitsA (x:List UInt8) (lv nb:Int) (D:List UInt8) (id:Int):A:=if okB lv nb D id then .tu [.fz 2 ((gS x lv.toNat nb.toNat id.toNat 2).map nJ),.i .i64 0]else .tu [.nl,.i .i64 330]
theorem rY {x:List UInt8} {lv nb id:Int} {D:List UInt8} (h:okB lv nb D id=false):bitsA x lv nb D id= .tu [.nl,.i .i64 330]:=by unfold bitsA;rw [h];rfl
theorem vo {x:List UInt8} {l n j:Nat} {D:List UInt8} (h:okB l n D j=true):bitsA x l n D j= .tu [.fz 2 ((gS x l n j 2).map nJ),.i .i64 0]:=by unfold bitsA;rw [h];rfl
def ng (x:List UInt8) (l n j:Nat) (D:List UInt8):Bool:=fG D (bN x l n j 0)&&fG D (bN x l n j 1)
def pf (x:List UInt8) (l n j:Nat) (D:List UInt8):Nat→List UInt8
  |0=>D
  |i+1=>lQ (pf x l n j D i) (bN x l n j i)
@[simp] theorem xa (x : List UInt8) (l n j : Nat) (D : List UInt8) : ∀ i, (pf x l n j D i).length = D.length
  |0=>rfl
  |i+1=>by simp [pf,xa x l n j D i]
abbrev nZ (x:List UInt8) (l n j:Nat) (D:List UInt8):List UInt8:=pf x l n j D 2
abbrev jr (lv nb:Int) (D:List UInt8):A:= .ag [.i .i64 lv,.i .i64 nb,dz D]
@[irreducible] def hasA (x:List UInt8) (lv nb:Int) (D:List UInt8) (id:Int):A:=if okB lv nb D id then .tu [.b (ng x lv.toNat nb.toNat id.toNat D),.i .i64 0]else .tu [.b false,.i .i64 330]
theorem Im {x:List UInt8} {lv nb id:Int} {D:List UInt8} (h:okB lv nb D id=false):hasA x lv nb D id= .tu [.b false,.i .i64 330]:=by unfold hasA;rw [h];rfl
theorem Bt {x:List UInt8} {l n j:Nat} {D:List UInt8} (h:okB l n D j=true):hasA x l n D j= .tu [.b (ng x l n j D),.i .i64 0]:=by unfold hasA;rw [h];rfl
@[irreducible] def addA (x:List UInt8) (lv nb:Int) (D:List UInt8) (id:Int):A:=if okB lv nb D id then .tu [jr lv nb (nZ x lv.toNat nb.toNat id.toNat D),.i .i64 0]else .tu [jr 0 0 [],.i .i64 330]
theorem E2 {x:List UInt8} {lv nb id:Int} {D:List UInt8} (h:okB lv nb D id=false):addA x lv nb D id= .tu [jr 0 0 [],.i .i64 330]:=by unfold addA;rw [h];rfl
theorem E3 {x:List UInt8} {l n j:Nat} {D:List UInt8} (h:okB l n D j=true):addA x l n D j= .tu [jr l n (nZ x l n j D),.i .i64 0]:=by unfold addA;rw [h];rfl
@[irreducible] def newA (lv nb:Int):A:=if fb lv nb then .tu [jr lv nb (List.replicate ((nb.toNat+7) / 8) 0),.i .i64 0]else .tu [jr 0 0 [],.i .i64 330]
theorem JA {lv nb:Int} (h:¬fb lv nb):newA lv nb= .tu [jr 0 0 [],.i .i64 330]:=by unfold newA;rw [if_neg h]
theorem Ck {l n:Nat} (h:fb (l:Int) (n:Int)):newA l n= .tu [jr l n (List.replicate ((n+7) / 8) 0),.i .i64 0]:=by unfold newA;rw [if_pos h];rfl
theorem Ik (b:UInt8) (r:Nat):(((UInt8.ofNat (b.toNat / 2 ^ r)&&& 1).toNat:Int)==0)= !(b.toNat.testBit r):=by
  have hb:=b.toNat_lt
  have h1:b.toNat / 2 ^ r≤b.toNat:=Nat.div_le_self _ _
  rw [UInt8.toNat_and,UInt8.toNat_ofNat',Nat.mod_eq_of_lt (by omega),show(1:UInt8).toNat=1 from rfl,Nat.and_one_is_mod,FJ]
  have h2:=Nat.mod_two_eq_zero_or_one (b.toNat / 2 ^ r)
  rcases h2 with h|h<;>rw [h]<;>rfl
theorem L0 (b:UInt8) (r:Nat):(((UInt8.ofNat (b.toNat / 2 ^ r)).toNat:Int) !=0)= !(b.toNat / 2 ^ r==0):=by
  have hb:=b.toNat_lt
  have h1:b.toNat / 2 ^ r≤b.toNat:=Nat.div_le_self _ _
  rw [UInt8.toNat_ofNat',Nat.mod_eq_of_lt (by omega),bne]
  congr 1
  generalize b.toNat / 2 ^ r=q
  rw [Bool.eq_iff_iff]
  simp
theorem Bj {m:List UInt8} {i:Nat} (hi:i<m.length):((m.map u8).drop (i*1))[0]? =some (u8 (m.getD i 0)):=by
  rw [List.getElem?_drop,show i*1+0=i by omega]
  simp [hi]
theorem H5 {m:List UInt8} {i:Nat} (hi:i<m.length):((m.map u8).drop (0+i*1))[0]? =some (u8 (m.getD i 0)):=by
  rw [List.getElem?_drop,show 0+i*1+0=i by omega]
  simp [hi]
theorem LF {m:List UInt8} {k:Nat}:((m.map u8).set (k / 8) (u8 (m.getD (k / 8) 0|||jg (k % 8))))=(lQ m k).map u8:=by
  unfold lQ;rw [List.map_set]
theorem Ii {x:List UInt8} {l n j i:Nat} {D:List UInt8} (h:i<2) (hb:fG D (bN x l n j i)=false):ng x l n j D=false:=by
  unfold ng
  have:i=0∨i=1:=by omega
  rcases this with rfl|rfl<;>simp [hb]
theorem Ij {x:List UInt8} {l n j:Nat} {D:List UInt8} (h:∀t,t<2→fG D (bN x l n j t)=true):ng x l n j D=true:=by
  unfold ng;rw [h 0 (by omega),h 1 (by omega)];rfl
theorem LG (m:List UInt8) (k:Nat):(m.map u8).set (0+k / 8*1) (u8 (m.getD (k / 8) 0|||jg (k % 8)))=(lQ m k).map u8:=by
  rw [show 0+k / 8*1=k / 8 by omega];exact LF
end Go.Abs.D2
-- F3Q
namespace Go.Abs.D2
open Go Go.Eng Go.Abs
abbrev u16 (x:UInt16):A:= .i .u16 (x.toNat:Int)
def nh (x:List UInt8) (lv nb:Int) (D:List UInt8) (id:Int):Bool:=okB lv nb D id&&ng x lv.toNat nb.toNat id.toNat D
theorem Il (x:List UInt8) (lv nb:Int) (D:List UInt8) (id:Int):hasA x lv nb D id= .tu [.b (nh x lv nb D id),.i .i64 (ox (okB lv nb D id))]:=by
  unfold hasA nh
  cases okB lv nb D id<;>rfl
theorem FI {x:List UInt8} {l n j:Nat} {D:List UInt8} (hn:0<n) (hl:D.length=(n+7) / 8) (k:Nat):fG (nZ x l n j D) k=(fG D k||(k==bN x l n j 0||k==bN x l n j 1)):=by
  have h0:=og (x:=x) (lv:=l) (id:=j) hn 0
  have h1:=og (x:=x) (lv:=l) (id:=j) hn 1
  simp only [nZ,pf]
  rw [zg (by simp;omega),zg (by omega),Bool.or_assoc]
theorem Gg {x:List UInt8} {l n j:Nat} {D:List UInt8} (h:cL l n D=true):cL l n (nZ x l n j D)=true:=by
  obtain⟨l',n',e1,e2,h1,h2,h3,h4,h5⟩:=vJ h
  obtain rfl:l=l':=by omega
  obtain rfl:n=n':=by omega
  have h0:=og (x:=x) (lv:=l) (id:=j) (show 0<n by omega) 0
  have h1':=og (x:=x) (lv:=l) (id:=j) (show 0<n by omega) 1
  refine xf h1 h2 h3 (by simp [h4]) fun k hk hk2=>?_
  rw [FI (by omega) h4,h5 k hk (by simpa using hk2),beq_eq_false_iff_ne.2 (by omega),beq_eq_false_iff_ne.2 (by omega)];rfl
def kx (x:List UInt8) (lv nb:Int) (D:List UInt8) (id:Int):List UInt8:=if okB lv nb D id then nZ x lv.toNat nb.toNat id.toNat D else D
theorem E4 {x:List UInt8} {lv nb id:Int} {D:List UInt8} (h:okB lv nb D id=true):addA x lv nb D id= .tu [jr lv nb (kx x lv nb D id),.i .i64 0]:=by unfold addA kx;rw [h];rfl
@[simp] theorem I9 (x:List UInt8) (lv nb:Int) (D:List UInt8) (id:Int):(kx x lv nb D id).length=D.length:=by unfold kx;split<;>simp
theorem Gi (x:List UInt8) (lv nb:Int) (D:List UInt8) (id:Int):cL lv nb (kx x lv nb D id)=cL lv nb D:=by
  unfold kx
  split
  · rename_i h
    obtain⟨l,n,j,rfl,rfl,rfl,h1,h2,h3,h4,h5,h6⟩:=tG h
    have hc:=xf h1 h2 h3 h5 h6
    rw [hc];exact Gg hc
  · rfl
@[irreducible] def mV (x:List UInt8) (lv nb:Int) (D:List UInt8) (ids:List UInt16):List UInt8:=ids.foldl (fun D id=>kx x lv nb D ((id.toNat:Nat):Int)) D
theorem E5 (x:List UInt8) (lv nb:Int) (D:List UInt8):mV x lv nb D []=D:=by unfold mV;rfl
theorem E6 (x:List UInt8) (lv nb:Int) (D:List UInt8) (ids:List UInt16) (q:UInt16):mV x lv nb D (ids++ [q])=kx x lv nb (mV x lv nb D ids) ((q.toNat:Nat):Int):=by unfold mV;simp
theorem L7 {α:Type} {p:List α→Prop} (h0:p []) (h1:∀l q,p l→p (l++ [q])) (l:List α):p l:=by
  rw [←List.reverse_reverse l]
  induction l.reverse with
  |nil=>exact h0
  |cons a m ih=>rw [List.reverse_cons];exact h1 _ _ ih
@[simp] theorem Nu (x : List UInt8) (lv nb : Int) (D : List UInt8) (ids : List UInt16) : (mV x lv nb D ids).length = D.length :=
  L7 (p:=fun ids=>(mV x lv nb D ids).length=D.length) (by rw [E5]) (fun l q h=>by rw [E6,I9,h]) ids
theorem JS {l n j:Nat} {D:List UInt8} (h:cL l n D=true) (hj:j<1024):okB l n D j=true:=CM h (by omega)
theorem FK (m k:Nat):fG (List.replicate m 0) k=false:=by
  unfold fG
  have:(List.replicate m (0:UInt8)).getD (k / 8) 0=0:=by
    rw [List.getD]
    cases h:(List.replicate m (0:UInt8))[k / 8]? with
    |none=>rfl
    |some v=>exact List.eq_of_mem_replicate (List.mem_of_getElem? h)
  rw [this]
  exact Nat.zero_testBit _
theorem z6 {l n:Nat} (h:fb (l:Int) (n:Int)):cL l n (List.replicate ((n+7) / 8) 0)=true:=by
  unfold fb at h
  exact xf (by omega) (by omega) (by omega) (by simp) fun k _ _=>FK _ _
structure cT where
  lv:Int
  nb:Int
  D:List UInt8
end Go.Abs.D2
-- C4P
namespace Go.Abs.D2
open Go Go.Eng Go.Abs
def dU (last:Int):List Int→Bool
  | []=>true
  |n::l=>decide (last<n∧n<1024)&&dU n l
def cN (l:List Int):Bool:=dU (-1) l
def fK (l:List Int) (i:Nat):Int:=if i=0 then -1 else l.getD (i - 1) 0
theorem yW {last n:Int} {l:List Int} {i:Nat} (h:l[i]? =some n):dU last (l.drop i)=(decide (last<n∧n<1024)&&dU n (l.drop (i+1))):=by
  have hi:=(List.getElem?_eq_some_iff.1 h).1
  rw [List.drop_eq_getElem_cons hi,(List.getElem?_eq_some_iff.1 h).2]
  rfl
theorem wW {n:Int} {l:List Int} {i:Nat} (h:l[i]? =some n):fK l (i+1)=n:=by
  unfold fK
  rw [if_neg (by omega),List.getD,Nat.add_sub_cancel,h];rfl
theorem vf {n:Int} {l:List Int} {i:Nat} (h0:cN l=dU (fK l i) (l.drop i)) (h:l[i]? =some n) (h1:fK l i<n∧n<1024):cN l=dU (fK l (i+1)) (l.drop (i+1)):=by
  rw [h0,yW h,decide_eq_true h1,Bool.true_and,wW h]
theorem y2 {n:Int} {l:List Int} {i:Nat} (h0:cN l=dU (fK l i) (l.drop i)) (h:l[i]? =some n) (h1:¬(fK l i<n∧n<1024)):cN l=false:=by
  rw [h0,yW h,decide_eq_false h1,Bool.false_and]
theorem yX {l:List Int} (h0:cN l=dU (fK l l.length) (l.drop l.length)):cN l=true:=by
  rw [h0,List.drop_length];rfl
theorem y3 (l:List Int):cN l=dU (fK l 0) (l.drop 0):=rfl
theorem yZ:∀ {l:List Int} {last:Int},dU last l=true→∀n∈l,last<n∧n<1024
  | [],_,_,n,hn=>by cases hn
  | a :: l, last, h, n, hn => by
    simp only [dU,Bool.and_eq_true,decide_eq_true_eq]at h
    rcases List.mem_cons.1 hn with rfl|hn
    · exact h.1
    · have := yZ h.2 n hn
      omega
theorem s6 {l:List Int} (h:cN l=true):∀n∈l,0≤n∧n<1024:=fun n hn=>by
  have:=yZ h n hn
  omega
structure bX where
  x:List UInt8
  F:List cT
  E:List Int
abbrev gC (f:cT):List A:= [.i .i64 f.lv,.i .i64 f.nb,dz f.D]
abbrev qj (F:List cT):A:= .fz F.length (F.flatMap gC)
abbrev jZ (E:List Int):A:= .fz E.length (E.map (A.i .i64))
abbrev eL (c:bX):List A:=c.x.map u8++ [qj c.F,jZ c.E]
def eO:Nat→List cT→Bool
  |_, []=>true
  |i,f::F=>decide (f.lv=i)&&cL f.lv f.nb f.D&&eO (i+1) F
def dP (c:bX):Bool:=decide (c.F.length≤16)&&cN c.E&&eO 0 c.F
def wA (b:Bool):Int:=if b then 0 else 340
theorem BX {F:List cT} {f:cT} {i:Nat} (h:F[i]? =some f):eO i (F.drop i)=(decide (f.lv=i)&&cL f.lv f.nb f.D&&eO (i+1) (F.drop (i+1))):=by
  have hi:=(List.getElem?_eq_some_iff.1 h).1
  rw [List.drop_eq_getElem_cons hi,(List.getElem?_eq_some_iff.1 h).2]
  rfl
theorem Jd {F:List cT} {f:cT} {i:Nat} (h0:eO 0 F=eO i (F.drop i)) (h:F[i]? =some f) (h1:f.lv=i) (h2:cL f.lv f.nb f.D=true):eO 0 F=eO (i+1) (F.drop (i+1)):=by
  rw [h0,BX h,decide_eq_true h1,h2,Bool.true_and,Bool.true_and]
theorem BZ {F:List cT} {f:cT} {i:Nat} (h0:eO 0 F=eO i (F.drop i)) (h:F[i]? =some f) (h1:¬(f.lv=i∧cL f.lv f.nb f.D=true)):eO 0 F=false:=by
  rw [h0,BX h]
  by_cases h2:f.lv=i
  · have : cL f.lv f.nb f.D = false := by rw [Bool.eq_false_iff]; exact fun e => h1 ⟨h2, e⟩
    rw [this];simp
  · rw [decide_eq_false h2];simp
theorem Jc {F:List cT} (h0:eO 0 F=eO F.length (F.drop F.length)):eO 0 F=true:=by
  rw [h0,List.drop_length];rfl
theorem A5 {F:List cT} {f:cT} {i:Nat} (h:F[i]? =some f):((F.flatMap gC).drop (i*3)).take 3=gC f:=by
  induction F generalizing i with
  |nil=>simp at h
  | cons g F ih =>
    cases i with
    |zero=>simp at h;subst h;simp
    | succ i =>
      have e:(i+1)*3=i*3+3:=by omega
      rw [List.getElem?_cons_succ]at h
      rw [e,List.flatMap_cons,Nat.add_comm, ←List.drop_drop]
      simpa using ih h
end Go.Abs.D2
namespace Go.Abs.D2
open Go Go.Eng Go.Abs
theorem FX {c:bX} (hx:c.x.length=32):(eL c).take 32=c.x.map u8:=by
  rw [List.take_left' (by rw [List.length_map,hx])]
theorem vC {c:bX} (hx:c.x.length=32):((eL c).drop 32)[0]? =some (qj c.F):=by
  rw [List.drop_left' (by rw [List.length_map,hx])];rfl
theorem zk {c:bX} (hx:c.x.length=32):((eL c).drop 33)[0]? =some (jZ c.E):=by
  rw [show 33=32+1 from rfl, ←List.drop_drop,List.drop_left' (by rw [List.length_map,hx])];rfl
theorem oF {l:List Int} {i:Nat} {n:Int} (h:l[i]? =some n):((l.map (A.i .i64)).drop (i*1))[0]? =some (A.i .i64 n):=by
  rw [List.getElem?_drop,show i*1+0=i by omega,List.getElem?_map,h];rfl
theorem Ge {c:bX} (h:¬c.F.length≤16):dP c=false:=by unfold dP;rw [decide_eq_false h];simp
theorem Gf {c:bX} (h:cN c.E=false):dP c=false:=by unfold dP;rw [h];simp
theorem zO {c:bX} (h:eO 0 c.F=false):dP c=false:=by unfold dP;rw [h];simp
theorem zP {c:bX} (h1:c.F.length≤16) (h2:cN c.E=true) (h3:eO 0 c.F=true):dP c=true:=by unfold dP;rw [decide_eq_true h1,h2,h3];rfl
theorem lS (b:Bool):b=false∨b=true:=by cases b<;>simp
end Go.Abs.D2
-- V6P
namespace Go.Abs.V6
open Go Go.Eng Go.Abs
def Gj (l:List UInt8) (k:Nat):Bool:=UInt8.ofNat ((l.getD (k / 8) 0).toNat / 2 ^ (k % 8))&&& 1==1
def change (l:List UInt8) (k:Nat):List UInt8:=l.set (k / 8) (l.getD (k / 8) 0 ^^^ jg (k % 8))
def cut (many:Nat) (l:List UInt8):List UInt8:=if many % 8=0 then l else l.set (many / 8) (l.getD (many / 8) 0&&& (jg (many % 8) - 1))
def sized (many:Int) (n:Nat):Bool:=decide (1≤many∧many≤1024∧(n:Int)=(many+7) / 8)
def masked (many:Int) (l:List UInt8):Bool:=sized many l.length&&l==cut many.toNat l
def mK (a b:List UInt8):List UInt8:=List.zipWith (· ^^^ ·) a b
def nS:List UInt8:=List.replicate 16 0
def answer (db:List (List UInt8)) (m:List UInt8):List UInt8:=(List.range db.length).foldl (fun s n=>if Gj m n then mK s (db.getD n [])else s) nS
def GK (db:List (List UInt8)):Bool:=db.all (fun b=>b.length==16)&&decide (1≤db.length∧db.length≤1024)
def answers (db ms:List (List UInt8)):List (List UInt8)×Int:=
  if GK db&&decide (ms.length≤132)&&ms.all (masked db.length)then (ms.map (answer db),0)else([],360)
theorem xor_zero (a b:List UInt8) (ha:a.length=16): [a,b].foldl mK nS=mK a b:=by
  simp only [List.foldl_cons,List.foldl_nil]
  have:mK nS a=a:=by
    apply List.ext_getElem
    · simp [mK,nS,ha]
    · intro i h1 h2
      have e:nS[i]'(by simp only [nS,List.length_replicate];omega)=0:=by simp only [nS,List.getElem_replicate]
      simp only [mK,List.getElem_zipWith,e]
      simp
  rw [this]
def gT (ls:List (List UInt8)) (most:Int):Bool:=ls.all (fun l=>decide (l.length≤130))&&decide ((ls.length:Int)≤most)
def blk (b:UInt8):List UInt8:=b::List.replicate 15 0
def want (at':List Int) (k:Nat):Int:=if k<at'.length then at'.getD k 0 else 0
end Go.Abs.V6
-- AbsR
namespace Go.Abs
open Go Go.Eng
section
variable {P:Program} {w0:Bw} {X0:Xs} {n:Nat} {E:Ev} {st:St} {K:Act→World→Prop} {Q:Exit→Act→World→Prop}
theorem Nk (z:Value) (k:Nat):(Builtin.zeroCells #[z] k).toList=List.replicate k z:=by
  apply List.ext_getElem
  · simp [Builtin.zeroCells]
  · intro i h1 h2
    simp [Builtin.zeroCells,Nat.mod_one]
end
end Go.Abs
-- V6Q
namespace Go.Abs.D2
end Go.Abs.D2
namespace Go.Abs.V6
open Go Go.Eng Go.Abs
theorem Bk {m:List UInt8} {i:Nat} (hi:i<m.length):((m.map u8).drop (0+i*1))[0]? =some (u8 (m.getD i 0)):=by
  rw [List.getElem?_drop,show 0+i*1+0=i by omega]
  simp [hi]
abbrev pg (p:List UInt8):A:= .fz p.length (p.map u8)
end Go.Abs.V6
namespace Go.Abs.D2
open Go Go.Eng Go.Abs
end Go.Abs.D2
namespace Go.Abs.V6
open Go Go.Eng Go.Abs Go.Abs.D2
end Go.Abs.V6
namespace Go.Abs.D2
open Go Go.Eng Go.Abs
end Go.Abs.D2
-- V6R
namespace Go.Abs.D2
open Go Go.Eng Go.Abs
end Go.Abs.D2
-- AbsS
namespace Go.Abs
open Go Go.Eng
section
variable {P:Program} {w0:Bw} {X0:Xs} {n:Nat} {E:Ev} {st:St} {K:Act→World→Prop} {Q:Exit→Act→World→Prop}
theorem Jp {d : Nat} (nx : Nat) (hfr : st.free nx = true) (s0 : St) (ow : Bool) {f : FuncId} {xs : List Operand} {vs vs' ds : List A} {s m : Nat} {ats : Array TypeId} {ty : TypeId} {pos aft' g} (hxs : c5 E xs = some vs) (hS : gh st s0 ow s0.os) (hv : a7 st s0 ow vs vs')
    (hc:cE P f vs' s0 (dh s m ds)) (hp:bL ds) (hf:ow=false∨dr ds) (hd:Nat.ble (d+1) n=true) (h:At w0 X0 n ((d,.sl nx s 0 m)::E) ((az s0 st []).put nx ds) K):
    At w0 X0 n E st (fun a w=>(⟨some d,.call {callee:= .value (.func f),args:=xs.toArray,argTypes:=ats},ty,pos,aft',g⟩:Oper).wp P a w K Q):=by
  rintro a w ⟨β,X,hr⟩
  have hss:∀id cs,s0.get id=some cs→st.get id=some cs:=fun id cs h=>(ja hS h).1
  refine l6 (fs:= []) (cs:= []) hr rfl hxs hS (by simpa using hv) hc fun v w' ⟨r,β',X',st',hR,hsup,hsub,hm,hvv⟩=>?_
  obtain⟨id,rfl,hg⟩:=hR
  obtain⟨m1,m2,m3,m4,m6⟩:=hm.after hr hss hsub hsup (upds:= []) (fun p hp=>by cases hp)
  have hnx:=hr.mem.dom nx hfr
  have hfa:∀k,(az s0 st []).free k=true→st.free k=true:=fun k=>(kF (s0:=s0) (st:=st) (upds:= [])).2
  have hga:∀k ck,(az s0 st []).get k=some ck→s0.free k=true∧st.get k=some ck:=fun k ck hk=>by
    rcases(kF (s0:=s0) (st:=st) (upds:= [])).1 ck hk with h|h
    · cases h
    · exact h
  have ho:=hm.obj id ds hg
  unfold OB at ho
  simp only [V]at hvv
  rcases hvv with ⟨hβ,rfl,_,rfl⟩|⟨b,N,cap,hβ,rfl,c1,c2,c3⟩
  · rw [hβ] at ho
    have ho:ds= []:=ho
    subst ho
    have m5 : Mem w0 (b6 β nx .ph) (fun b o => X b o ∨ (X' b o ∧ (bw w (cn s0 β) s0 c8).own b)) ((az s0 st []).put nx []) w' := by
      refine .of (m1.below) (fun k y h=>(cl hnx) k y (m1.b0 k y h)) (m1.xlt) (fun k h=>?_) (fun k es hk=>?_) (fun i j ci cj q M N' hij hi hj hbi hbj=>?_)
      · rw [St.en] at h
        split at h
        · cases h
        · rename_i hne
          rw [b9 (fun e=>hne e.symm)]
          exact hr.mem.dom k (hfa k h)
      · rw [St.cg] at hk
        split at hk
        · rename_i e; subst e
          simp only [Option.some.injEq]at hk
          subst hk
          unfold OB
          rw [bC]
        · refine (m1.obj k es hk).later (fun _ _ h => ⟨h, rfl⟩) (cl hnx) (fun q M hq => ⟨rfl, ?_⟩) fun q hq => ⟨rfl, ((m1.obj k es hk).dY hq).2.2.1⟩
          have hk':=m1.obj k es hk
          unfold OB at hk'
          rw [hq]at hk'
          exact hk'.2.1
      · rw [St.cg] at hi hj
        by_cases ei:nx=i
        · subst ei;rw [bC]at hbi;cases hbi
        · rw [if_neg ei] at hi
          rw [b9 (by omega)]at hbi
          by_cases ej:nx=j
          · subst ej;rw [bC]at hbj;cases hbj
          · rw [if_neg ej] at hj
            rw [b9 (by omega)]at hbj
            exact m1.inj i j ci cj q M N' hij hi hj hbi hbj
    exact h _ _ ⟨_,_,hr.gF hd m2 m3 (cl hnx) m5 (by simp only [V];exact .inl ⟨bC,by simp⟩)⟩
  · rw [hβ] at ho
    obtain⟨o1,o2,us,rest,ety,o3,o4,o5,o6⟩:=ho
    have hown:w0.own b∧∀k ck q M,(az s0 st []).get k=some ck→β k=some (.bk q M)→q≠b:=by
      rcases o1 with h|⟨id',cs',h1,y',h2,h2'⟩
      · have h : w.heap.size ≤ b := h
        refine⟨Bw.j7 hr.mem.below h,fun k ck q M hk hq=>?_⟩
        have:=m6 q M k ck (hga k ck hk).2 hq
        omega
      · obtain ⟨g3, g4⟩ := ko h2
        refine⟨((hr.mem.obj id' cs' (hss id' cs' h1)).kQ g4 h2').2.1,fun k ck q M hk hq e=>?_⟩
        subst e
        obtain⟨k1,k2⟩:=hga k ck hk
        refine hr.mem.apart (fun e=>?_) k2 (hss id' cs' h1) hq g4 rfl h2'
        subst e;rw [k1]at g3;cases g3
    have hnX:∀o,¬(X b o∨(X' b o∧(bw w (cn s0 β) s0 c8).own b)):=fun o h=>by
      rcases h with h|⟨h,_⟩
      · exact o2 o (hsup b o (.inl h))
      · exact o2 o h
    have hvs:VS (fun b o=>X b o∨(X' b o∧(bw w (cn s0 β) s0 c8).own b)) w' (b6 β nx (.bk b N)) ds us:=by
      rcases hf with hf|hf
      · exact ey (m4 hf) _ _ _ _ (bK.refl _) (jM _ _ hp o5)
      · exact lh _ _ hf o5
    have m5 : Mem w0 (b6 β nx (.bk b N)) (fun b o => X b o ∨ (X' b o ∧ (bw w (cn s0 β) s0 c8).own b)) ((az s0 st []).put nx ds) w' := by
      refine .of (m1.below) (fun k y h=>(cl hnx) k y (m1.b0 k y h)) (m1.xlt) (fun k h=>?_) (fun k es hk=>?_) (fun i j ci cj q M N' hij hi hj hbi hbj=>?_)
      · rw [St.en] at h
        split at h
        · cases h
        · rename_i hne
          rw [b9 (fun e=>hne e.symm)]
          exact hr.mem.dom k (hfa k h)
      · rw [St.cg] at hk
        split at hk
        · rename_i e; subst e
          simp only [Option.some.injEq]at hk
          subst hk
          unfold OB
          rw [bC]
          exact⟨hown.1,hnX,us,rest,ety,o3,o4,hvs,o6⟩
        · refine (m1.obj k es hk).later (fun _ _ h => ⟨h, rfl⟩) (cl hnx) (fun q M hq => ⟨rfl, ?_⟩) fun q hq => ⟨rfl, ((m1.obj k es hk).dY hq).2.2.1⟩
          have hk':=m1.obj k es hk
          unfold OB at hk'
          rw [hq]at hk'
          exact hk'.2.1
      · rw [St.cg] at hi hj
        by_cases ei:nx=i
        · by_cases ej : nx = j
          · omega
          · rw [if_neg ej] at hj
            rw [←ei,bC]at hbi
            rw [b9 (by omega)]at hbj
            simp only [Option.some.injEq,BL.bk.injEq]at hbi
            exact hown.2 j cj q N' hj hbj (by omega)
        · rw [if_neg ei] at hi
          rw [b9 (by omega)]at hbi
          by_cases ej:nx=j
          · rw [← ej, bC] at hbj
            simp only [Option.some.injEq,BL.bk.injEq]at hbj
            exact hown.2 i ci q M hi hbi (by omega)
          · rw [if_neg ej] at hj
            rw [b9 (by omega)]at hbj
            exact m1.inj i j ci cj q M N' hij hi hj hbi hbj
    exact h _ _ ⟨_,_,hr.gF hd m2 m3 (cl hnx) m5 (by simp only [V];exact .inr ⟨b,N,cap,bC,rfl,c1,c2,c3⟩)⟩
end
end Go.Abs
namespace Go.Eng
end Go.Eng
namespace Go.Abs
open Go Go.Eng
end Go.Abs
namespace Go.Abs
open Go Go.Eng
section
variable {P:Program} {n:Nat}
def vt (w:World) (β:Bm) (s0:St):Bw:=⟨w,fun b=>∃id cs,s0.get id=some cs∧∃y,β id=some y∧y.on b,fun _=>none, [],fun id x h=>(by cases h), []⟩
theorem wJ:∀os:List (Nat×Option (List A)),∃N,∀K,N≤K→fresh os K=true
  | []=>⟨0,fun _ _=>rfl⟩
  | p :: os => by
    obtain⟨N,h⟩:=wJ os
    refine⟨N+p.1+1,fun K hK=>?_⟩
    rw [mh,if_neg (by omega)]
    exact h K (by omega)
theorem wK:∀(os:List (Nat×Option (List A))) (K:Nat),fresh ((os.map fun p=>(p.1,(none:Option (List A))))++ []) K=fresh os K
  | [],_=>rfl
  | p :: os, K => by
    rw [List.map_cons,List.cons_append,mh,mh,wK os K]
theorem Kq {w : World} {X : Xs} {β : Bm} {s0 : St} {hd : ∀ id, s0.free id = true → β id = none} {s m : Nat} {ds : List A} {v : Value} {w' : World} (hp : bL ds) (h : Post (vt w β s0) X (dh s m ds) v w') : Post (bw w β s0 hd) X (dh s m ds) v w' := by
  obtain⟨r,β',X',st',⟨id,rfl,hg⟩,h1,h2,hm,hv⟩:=h
  obtain⟨N0,hN⟩:=wJ s0.os
  have hK:s0.free N0=true:=hN N0 (Nat.le_refl _)
  have hnx:=hd N0 hK
  have hbel:KB (bw w β s0 hd) w':=⟨hm.below.os,hm.below.tape,hm.below.output,hm.below.size,hm.below.block,fun s hs=>by cases hs⟩
  have hfa:∀k,(az s0 ⟨[]⟩ []).free k=true→s0.free k=true:=fun k hk=>by
    have:=wK s0.os k
    unfold az St.free at hk
    unfold St.free
    rw [←this];exact hk
  have hga:∀k ck,(az s0 ⟨[]⟩ []).get k=some ck→False:=fun k ck hk=>by
    rcases(kF (s0:=s0) (st:=⟨[]⟩) (upds:= [])).1 ck hk with h|⟨_,h⟩
    · cases h
    · cases h
  have ho:=hm.obj id ds hg
  unfold OB at ho
  have key:∀y:BL,OB (b6 β N0 y) X' w' (bw w β s0 hd) N0 ds→Mem (bw w β s0 hd) (b6 β N0 y) X' ((az s0 ⟨[]⟩ []).put N0 ds) w':=fun y hy=>by
    refine .of hbel (cl hnx) hm.xlt (fun k h=>?_) (fun k es hk=>?_) (fun i j ci cj q M N' hij hi hj hbi hbj=>?_)
    · rw [St.en] at h
      split at h
      · cases h
      · rename_i hne
        rw [b9 (fun e=>hne e.symm)]
        exact hd k (hfa k h)
    · rw [St.cg] at hk
      split at hk
      · rename_i e; subst e
        simp only [Option.some.injEq]at hk
        subst hk
        exact hy
      · exact absurd hk (fun h=>hga k es h)
    · rw [St.cg] at hi hj
      by_cases ei:N0=i
      · rw [if_neg (by omega)] at hj
        exact absurd hj (fun h=>hga j cj h)
      · rw [if_neg ei] at hi
        exact absurd hi (fun h=>hga i ci h)
  simp only [V]at hv
  rcases hv with ⟨hβ,rfl,e2,rfl⟩|⟨b,N,cap,hβ,rfl,c1,c2,c3⟩
  · rw [hβ] at ho
    refine⟨.sl N0 s 0 0,b6 β N0 .ph,X',_,⟨N0,rfl,by rw [St.cg,if_pos rfl]⟩,h1,h2,key .ph (by unfold OB;rw [bC];exact ho),?_⟩
    simp only [V];exact .inl ⟨bC,by simp⟩
  · rw [hβ] at ho
    obtain⟨o1,o2,us,rest,ety,o3,o4,o5,o6⟩:=ho
    refine⟨.sl N0 s 0 m,b6 β N0 (.bk b N),X',_,⟨N0,rfl,by rw [St.cg,if_pos rfl]⟩,h1,h2,key (.bk b N) (by unfold OB;rw [bC];exact⟨o1,o2,us,rest,ety,o3,o4,jM _ _ hp o5,o6⟩),?_⟩
    simp only [V];exact .inr ⟨b,N,cap,bC,rfl,c1,c2,c3⟩
end
end Go.Abs
-- S7P
namespace Go.Abs.D2
open Go Go.Eng Go.Abs
@[irreducible] def vn (c : bX) (id i k : Nat) : Nat := match c.F[i]? with
  |some f=>bN c.x i f.nb.toNat id k
  |none=>0
def j9 (c:bX) (id j:Nat):Int:=((32*(j / 2)+vn c id (j / 2) (j % 2) / 128:Nat):Int)
def oU (c:bX) (id n:Nat):List Int:=(List.range n).map (j9 c id)
@[simp] theorem len_plcL (c:bX) (id n:Nat):(oU c id n).length=n:=by simp [oU]
theorem NN (c:bX) (id n:Nat):oU c id (n+1)=oU c id n++ [j9 c id n]:=by simp [oU,List.range_succ]
def Ej (c:bX) (id:Nat):List Int:=oU c id 32++ [((512+id / 128:Nat):Int)]
@[simp] theorem len_whereL (c:bX) (id:Nat):(Ej c id).length=33:=by simp [Ej]
abbrev iA:Int→A:= .i .i64
theorem gm {c:bX} (hx:c.x.length=32):(eL c).length=34:=by simp [eL,hx]
theorem zl {c:bX} (hx:c.x.length=32):(eL c).take 34=eL c:=List.take_of_length_le (by rw [gm hx];omega)
def j8 (p:Nat→Bool):Nat→Nat
  |0=>0
  |n+1=>if j8 p n=n∧p n=true then n+1 else j8 p n
theorem CR (p:Nat→Bool):∀n,j8 p n≤n
  |0=>Nat.le_refl _
  | n + 1 => by
    unfold j8;split
    · omega
    · have:=CR p n;omega
theorem xu {p:Nat→Bool}:∀ {n:Nat},(∀t,t<n→p t=true)→j8 p n=n
  |0,_=>rfl
  |n+1,h=>by unfold j8;rw [if_pos ⟨xu fun t ht=>h t (by omega),h n (by omega)⟩]
theorem CS {p:Nat→Bool} {i:Nat}:∀ {n:Nat},i<n→(∀t,t<i→p t=true)→p i=false→j8 p n=i
  |0,h,_,_=>by omega
  | n + 1, h, h1, h2 => by
    unfold j8
    by_cases hi:i=n
    · subst hi;rw [if_neg (by rw [h2];simp),xu h1]
    · have := CS (n := n) (by omega) h1 h2
      rw [if_neg (by rw [this];omega),this]
def vp (bl:List (List UInt8)) (i b:Nat):Bool:=fG (bl.getD i []) (b % 128)
def Jn (c:bX) (id:Nat) (bl:List (List UInt8)) (i:Nat):Bool:=vp bl (2*i) (vn c id i 0)&&vp bl (2*i+1) (vn c id i 1)
def C6 (c:bX) (id:Nat) (bl:List (List UInt8)):Bool:=(j8 (Jn c id bl) c.F.length % 2==1) !=vp bl 32 id
def iO (M:List UInt8) (o:Nat) (D:List UInt8):Nat→List UInt8
  |0=>M
  |k+1=>(iO M o D k).set (o+k) (D.getD k 0)
@[simp] theorem BT (M : List UInt8) (o : Nat) (D : List UInt8) : ∀ k, (iO M o D k).length = M.length
  |0=>rfl
  |k+1=>by simp [iO,BT M o D k]
def ED:List UInt8:=List.replicate 8320 0
def oB (F:List cT):Nat→List UInt8
  |0=>ED
  |i+1=>iO (oB F i) (512*i) ((F.map cT.D).getD i []) ((F.map cT.D).getD i []).length
@[simp] theorem I0 (F : List cT) : ∀ i, (oB F i).length = 8320
  |0=>by rw [oB,ED,List.length_replicate]
  |i+1=>by rw [oB,BT,I0 F i]
def qi (M:List UInt8) (E:List Int):Nat→List UInt8
  |0=>M
  |k+1=>lQ (qi M E k) (65536+(E.getD k 0).toNat)
@[simp] theorem IZ (M : List UInt8) (E : List Int) : ∀ k, (qi M E k).length = M.length
  |0=>rfl
  |k+1=>by rw [qi,len_setA,IZ M E k]
@[irreducible] def wR (c:bX):List UInt8:=qi (oB c.F c.F.length) c.E c.E.length
theorem Io (c:bX):wR c=qi (oB c.F c.F.length) c.E c.E.length:=by unfold wR;rfl
@[simp] theorem NC (c:bX):(wR c).length=8320:=by rw [Io];simp
def zh (M:List UInt8) (i:Nat):List UInt8:=(M.drop (16*i)).take 16
def pX (M:List UInt8) (i:Nat):List (List UInt8):=(List.range i).map (zh M)
@[simp] theorem len_dbN (M:List UInt8) (i:Nat):(pX M i).length=i:=by simp [pX]
theorem Nq (M:List UInt8) (i:Nat):(pX M i).map V6.pg++ [V6.pg (zh M i)]=(pX M (i+1)).map V6.pg:=by simp [pX,List.range_succ]
end Go.Abs.D2
-- S7Q
namespace Go.Abs.D2
open Go Go.Eng Go.Abs
def nG (a b:List (List UInt8)) (n m:Nat):List (List UInt8):=(List.range m).map fun k=>V6.mK (a.getD (33*n+k) []) (b.getD (33*n+k) [])
@[simp] theorem len_rowsJ (a b:List (List UInt8)) (n m:Nat):(nG a b n m).length=m:=by simp [nG]
theorem NQ {a b:List (List UInt8)} {n k:Nat} {p q:List UInt8} (hp:a.getD (33*n+k) []=p) (hq:b.getD (33*n+k) []=q):(nG a b n k).map V6.pg++ [V6.pg (V6.mK p q)]=(nG a b n (k+1)).map V6.pg:=by
  subst hp;subst hq
  simp [nG,List.range_succ]
def qO (c:bX) (ids:List Int) (a b:List (List UInt8)) (k:Nat):List Bool:=(List.range k).map fun n=>C6 c (ids.getD n 0).toNat (nG a b n 33)
@[simp] theorem len_resN (c:bX) (ids:List Int) (a b:List (List UInt8)) (k:Nat):(qO c ids a b k).length=k:=by simp [qO]
theorem NP {c:bX} {ids:List Int} {a b:List (List UInt8)} {k j:Nat} (h:ids[k]? =some (j:Int)):(qO c ids a b k).map A.b++ [.b (C6 c j (nG a b k 33))]=(qO c ids a b (k+1)).map A.b:=by
  have:(ids.getD k 0).toNat=j:=by rw [List.getD,h];rfl
  simp [qO,List.range_succ, ←this]
structure rv where
  a:Int
  b:Int
  d:Int
  r:List A
def Ad (l:List rv):List Int:=l.map rv.d
@[simp] theorem len_daysE (l:List rv):(Ad l).length=l.length:=by simp [Ad]
def NM (l:List rv):Prop:=∀e∈l,e.r.length=68
theorem BY:∀ {F:List cT} {j i:Nat} {f:cT},eO j F=true→F[i]? =some f→f.lv=(j+i:Nat)∧cL f.lv f.nb f.D=true
  | [],_,_,_,_,h=>by simp at h
  | g :: F, j, i, f, h0, h => by
    simp only [eO,Bool.and_eq_true,decide_eq_true_eq]at h0
    cases i with
    |zero=>simp at h;subst h;exact h0.1
    | succ i =>
      have:=BY h0.2 (by simpa using h)
      rw [show j+(i+1)=j+1+i by omega];exact this
theorem sa {c:bX} (h:dP c=true):c.F.length≤16∧cN c.E=true∧eO 0 c.F=true:=by
  unfold dP at h
  simp only [Bool.and_eq_true,decide_eq_true_eq]at h
  exact⟨h.1.1,h.1.2,h.2⟩
theorem Gd {c:bX} (h:dP c=true) {i:Nat} {f:cT} (hf:c.F[i]? =some f):f.lv=(i:Nat)∧∃n:Nat,f.nb=(n:Int)∧8≤n∧n≤4096∧f.D.length=(n+7) / 8∧cL (i:Nat) (n:Nat) f.D=true:=by
  have:=BY (sa h).2.2 hf
  obtain⟨l,n,e1,e2,_,h2,h3,h4,_⟩:=vJ this.2
  refine⟨by rw [this.1];simp,n,e2,h2,h3,h4,?_⟩
  have e3:=this.2
  rw [this.1,e2]at e3
  simpa using e3
end Go.Abs.D2
-- S7R
namespace Go.Abs.D2
open Go Go.Eng Go.Abs
abbrev jO:List UInt8:=List.replicate 32 0
abbrev FT:bX:=⟨jO, [], []⟩
abbrev FU:bX:=⟨jO, [], [0,1023]⟩
theorem hx1:FU.x.length=32:=rfl
theorem Em:∀l:List A,gy (l++ [.nl,.nl]) (l++ [.fz 0 [],.fz 0 []])
  | []=> .cons .nl (.cons .nl .nil)
  |_::l=> .cons (.eq rfl) (Em l)
theorem yg:gy (jO.map u8++ [.nl,.nl]) (eL FT):=Em _
end Go.Abs.D2
-- S7T
namespace Go.Abs.D2
open Go Go.Eng Go.Abs
theorem uq {x:List UInt8} (hx:x.length=32) (l:List A):((x.map u8++l).drop 32)=l:=List.drop_left' (by rw [List.length_map,hx])
theorem x7 {x:List UInt8} (hx:x.length=32) (v a b:A):(x.map u8++ [a,b]).set 32 v=x.map u8++ [v,b]:=by
  rw [List.set_append_right _ _ (by simp [hx]),List.length_map,hx];rfl
theorem wH (F:List cT):(F.flatMap gC).length=F.length*3:=by
  induction F with
  |nil=>rfl
  |cons f F ih=>rw [List.flatMap_cons,List.length_append,ih,List.length_cons];simp;omega
end Go.Abs.D2
-- S7U
namespace Go.Abs.D2
open Go Go.Eng Go.Abs
end Go.Abs.D2
-- C4Q
namespace Go.Abs.D2
open Go Go.Eng Go.Abs
end Go.Abs.D2
-- MapE
namespace Go.Eng
open Go Go.MapKept
section
variable {P:Program} {n:Nat} {E:Env} {S:List World} {H:List (Nat×Obj)} {Q:Exit→Act→World→Prop}
theorem xe {d:Nat} {t ty:TypeId} {pos az g} {K:Act→World→Prop} (hd:Nat.ble (d+1) n=true)
    (h:∀b,j4 S b→j5 H b→At n ((d,.map (some b))::E) S ((b,.map #[] 0)::H) K):
    At n E S H (fun a w=>(⟨some d,.makeMap t none,ty,pos,az,g⟩:Oper).wp P a w K Q):=by
  intro a w hR hG
  have hf:=hG.fresh
  show Oper.wp P _ a w K Q
  unfold Oper.wp
  have:(execOp a.eval ⟨some d,.makeMap t none,ty,pos,az,g⟩).run P w= .ok (.value (.map (some w.heap.size))) {w with heap:=w.heap.push (.map #[] 0)}:=by
    simp [execOp,Instr.makeMap]
  rw [this]
  exact h w.heap.size hf.1 hf.2 _ _ (hR.put hd _) (hG.alloc _)
theorem tr {t kt et ty:TypeId} {pos az g} {x y z:Operand} {b clk:Nat} {es:Array MapEntry} {f:Int→Option Value} {k:Int} {v:Value} {K:Act→World→Prop} (i:Nat) (hm:P.underlying t=some (.map kt et)) (hk:P.underlying kt=some (.int .i64))
    (hx:ev E x=some (.map (some b))) (hy:ev E y=some (.int .i64 k)) (hz:ev E z=some v) (hi:H[i]? =some (b,.map es clk)) (hF:de es clk f)
    (h:∀es' clk',de es' clk' (gL f k v)→At n E S (H.set i (b,.map es' clk')) K):
    At n E S H (fun a w=>(⟨none,.mapUpdate t x y z,ty,pos,az,g⟩:Oper).wp P a w K Q):=by
  intro a w hR hG
  have hb:=hG.own _ (List.mem_of_getElem? hi)
  simp only at hb
  have hkk:IsKey (.int .i64) (Value.int .i64 k):=rfl
  show Oper.wp P _ a w K Q
  unfold Oper.wp
  rcases findNow_spec hkk es.toList 0 hF.keys with ⟨h1,h2⟩|⟨j,e,h1,h2,h3⟩
  · have : (execOp a.eval ⟨none, .mapUpdate t x y z, ty, pos, az, g⟩).run P w = .ok .skip { w with heap := w.heap.setIfInBounds b (.map (es.push { key := .int .i64 k, val := v, born := clk }) (clk + 1)) } := by
      simp [execOp,hR.ev hx,hR.ev hy,hR.ev hz,Instr.mapUpdate,run_underlying hm,MapKept.run_getObj_map hb,MapKept.run_checkKey hk hkk,MapKept.run_findKey hk h1,MapKept.run_setObj_map _ hb,Result.andThen]
    rw [this]
    exact h _ _ (hF.push h2) _ _ hR (hG.set i hi rfl rfl rfl (by simp) (heap_set hb).1 (fun q hq=>(heap_set hb).2 q hq))
  · have hj : es[j]? = some e := by simpa using h2
    have:(execOp a.eval ⟨none,.mapUpdate t x y z,ty,pos,az,g⟩).run P w= .ok .skip {w with heap:=w.heap.setIfInBounds b (.map (es.modify j fun e=> {e with key:= .int .i64 k,val:=v}) clk)}:=by
      simp [execOp,hR.ev hx,hR.ev hy,hR.ev hz,Instr.mapUpdate,run_underlying hm,MapKept.run_getObj_map hb,MapKept.run_checkKey hk hkk,MapKept.run_findKey hk h1,hj,h3,MapKept.run_keyThatStays hkk,MapKept.run_setObj_map _ hb,Result.andThen]
    rw [this]
    exact h _ _ (hF.modify hj h3) _ _ hR (hG.set i hi rfl rfl rfl (by simp) (heap_set hb).1 (fun q hq=>(heap_set hb).2 q hq))
theorem nQ {t kt et ty:TypeId} {x y:Operand} {b clk:Nat} {es:Array MapEntry} {f:Int→Option Value} {k:Int} {zv:Value} (i:Nat) (hm:P.underlying t=some (.map kt et)) (hk:P.underlying kt=some (.int .i64)) (hz0:∀w,(zeroValue et).run P w= .ok zv w)
    (hx:ev E x=some (.map (some b))) (hy:ev E y=some (.int .i64 k)) (hi:H[i]? =some (b,.map es clk)) (hF:de es clk f):YO P n E S H (.lookup t x y false) ty ((f k).getD zv):=by
  intro d pos az g a w hR hG
  have hb:=hG.own _ (List.mem_of_getElem? hi)
  simp only at hb
  have hkk:IsKey (.int .i64) (Value.int .i64 k):=rfl
  have hz:=hz0 w
  rcases findNow_spec hkk es.toList 0 hF.keys with ⟨h1,h2⟩|⟨j,e,h1,h2,h3⟩
  · have hn : f k = none := by
      cases hf:f k with
      |none=>rfl
      |some v=>obtain⟨q,hq,e⟩:=hF.has k v hf;exact absurd e (h2 q hq)
    rw [hn]
    simp [execOp,hR.ev hx,hR.ev hy,Instr.lookup,run_underlying hm,MapKept.run_getObj_map hb,MapKept.run_checkKey hk hkk,MapKept.run_findKey hk h1,hz,Result.andThen]
  · obtain ⟨q, e1, e2⟩ := hF.ent e (List.mem_of_getElem? h2)
    rw [h3]at e1
    simp only [Value.int.injEq,true_and]at e1
    subst e1
    rw [e2]
    simp [execOp,hR.ev hx,hR.ev hy,Instr.lookup,run_underlying hm,MapKept.run_getObj_map hb,MapKept.run_checkKey hk hkk,MapKept.run_findKey hk h1,Result.andThen]
end
def RI (w:World) (a:Option Addr) (l:List Int):Prop:=∀i v,l[i]? =some v→a=some ⟨ab a,ao a,none⟩∧w.cell? ⟨ab a,ao a+i,none⟩=some (.int .i64 v)
def pd (L:List Int):Int→Option Value:=fun k=>if k∈L then some (.bool true)else none
theorem LI {L:List Int} {i:Nat} {q:Int} (h:L[i]? =some q):gL (pd (L.take i)) q (.bool true)=pd (L.take (i+1)):=by
  funext k
  unfold gL pd
  rw [List.take_add_one,h]
  by_cases e:k=q
  · subst e;simp
  · simp [e]
theorem LH (L:List Int) (k:Int):(pd L k).getD (.bool false)= .bool (decide (k∈L)):=by
  unfold pd
  by_cases h:k∈L
  · rw [if_pos h,decide_eq_true h];rfl
  · rw [if_neg h,decide_eq_false h];rfl
def jT (a b:List Int):Bool:=b.all fun n=>!decide (n∈a)
theorem G2 {a b:List Int} {j:Nat} {q:Int} (h:b[j]? =some q) (hq:q∈a):jT a b=false:=by
  unfold jT
  rw [List.all_eq_false]
  exact⟨q,List.mem_of_getElem? h,by simp [hq]⟩
theorem E8 {p:Int→Bool} {b:List Int} {j:Nat} {q:Int} (h:b[j]? =some q) (h0:(b.take j).all p=true) (hq:p q=true):(b.take (j+1)).all p=true:=by
  rw [List.take_add_one,h];simp [h0,hq]
end Go.Eng
namespace Go.Eng
open Go
section
variable {P:Program} {n:Nat} {E:Env} {S:List World} {H:List (Nat×Obj)}
theorem Nc {x y:Operand} {a b:Int} {ats:Array TypeId} {ty:TypeId} (hx:ev E x=some (.int .i64 a)) (hy:ev E y=some (.int .i64 b)):YO P n E S H (.call {callee:= .builtin .max,args:= #[x,y],argTypes:=ats}) ty (.int .i64 (max a b)):=by
  intro d pos az g a' w hR hG
  have e:(if b>a then b else a)=max a b:=by omega
  simp [execOp,resolve,invoke,builtin,hR.ev hx,hR.ev hy,Builtin.max_,Builtin.max2]
  omega
theorem Nd {x y:Operand} {a b:Int} {ats:Array TypeId} {ty:TypeId} (hx:ev E x=some (.int .i64 a)) (hy:ev E y=some (.int .i64 b)):YO P n E S H (.call {callee:= .builtin .min,args:= #[x,y],argTypes:=ats}) ty (.int .i64 (min a b)):=by
  intro d pos az g a' w hR hG
  simp [execOp,resolve,invoke,builtin,hR.ev hx,hR.ev hy,Builtin.min_,Builtin.min2]
  omega
end
end Go.Eng
namespace Go.Abs
open Go Go.Eng
section
variable {P:Program} {E:Ev} {st:St}
theorem yo {x y:Operand} {a b c:Nat} {ats:Array TypeId} {ty:TypeId} (hx:ev E x=some (.i .i64 (a:Int))) (hy:ev E y=some (.i .i64 (b:Int))) (hc:max a b=c):YO P E st (.call {callee:= .builtin .max,args:= #[x,y],argTypes:=ats}) ty (.i .i64 (c:Int)):=by
  intro w0 X0 n β X w1 w hr
  subst hc
  obtain⟨g1,g2⟩:=hr.bq hx
  obtain⟨g3,g4⟩:=hr.bq hy
  rw [ff]at g2 g4
  rw [g2]at g1;rw [g4]at g3
  exact⟨.int .i64 ((max a b:Nat):Int),by rw [ff],hr.old fun w' _=>by have:=Eng.Nc (P:=P) (n:=w1.tmps.size) (S:= [w']) (H:= []) (ats:=ats) (ty:=ty) g1 g3;rwa [show max (a:Int) (b:Int)=((max a b:Nat):Int) by omega]at this⟩
theorem Nf {x y:Operand} {a b c:Nat} {ats:Array TypeId} {ty:TypeId} (hx:ev E x=some (.i .i64 (a:Int))) (hy:ev E y=some (.i .i64 (b:Int))) (hc:min a b=c):YO P E st (.call {callee:= .builtin .min,args:= #[x,y],argTypes:=ats}) ty (.i .i64 (c:Int)):=by
  intro w0 X0 n β X w1 w hr
  subst hc
  obtain⟨g1,g2⟩:=hr.bq hx
  obtain⟨g3,g4⟩:=hr.bq hy
  rw [ff]at g2 g4
  rw [g2]at g1;rw [g4]at g3
  exact⟨.int .i64 ((min a b:Nat):Int),by rw [ff],hr.old fun w' _=>by have:=Eng.Nd (P:=P) (n:=w1.tmps.size) (S:= [w']) (H:= []) (ats:=ats) (ty:=ty) g1 g3;rwa [show min (a:Int) (b:Int)=((min a b:Nat):Int) by omega]at this⟩
end
end Go.Abs
-- C4R
namespace Go.Abs.D2
open Go Go.Eng Go.Abs
def jc (x:List UInt8) (lv nb:Int) (D:List UInt8) (l:List Int):List UInt8:=l.foldl (fun D id=>kx x lv nb D id) D
theorem E7 {x:List UInt8} {lv nb:Int} {D:List UInt8} {l:List Int} {i:Nat} {q:Int} (h:l[i]? =some q):kx x lv nb (jc x lv nb D (l.take i)) q=jc x lv nb D (l.take (i+1)):=by
  unfold jc;rw [List.take_add_one,h];simp
theorem zW (x:List UInt8) (lv nb:Int) (l:List Int):∀D,cL lv nb (jc x lv nb D l)=cL lv nb D:=by
  induction l with
  |nil=>intro D;rfl
  |cons a l ih=>intro D;show cL lv nb (jc x lv nb (kx x lv nb D a) l)=_;rw [ih,Gi]
def ec (l:List Int):Nat:=min (max (4*l.length) 8) 4096
theorem qD (l:List Int):8≤ec l∧ec l≤4096:=by unfold ec;omega
def nT (n:Nat):List UInt8:=List.replicate ((n+7) / 8) 0
def ma (x:List UInt8) (i:Nat) (a:List Int):cT:=⟨(i:Nat),(ec a:Nat),jc x (i:Nat) (ec a:Nat) (nT (ec a)) a⟩
def iF (x:List UInt8) (f:cT) (b:List Int):List Int:=b.filter fun n=>nh x f.lv f.nb f.D n
def bS (x:List UInt8) (p q:List Int):Nat→List cT×List Int×List Int
  |0=>([],p,q)
  |n+1=>((bS x p q n).1++ [ma x n (bS x p q n).2.1],iF x (ma x n (bS x p q n).2.1) (bS x p q n).2.2,(bS x p q n).2.1)
theorem js (x:List UInt8) (p q:List Int):∀n,(bS x p q n).1.length=n
  |0=>rfl
  |n+1=>by rw [bS,List.length_append,js x p q n];rfl
def jY (x:List UInt8) (p q:List Int) (n:Nat):Bool:=!(bS x p q n).2.1.isEmpty
theorem Ih {x:List UInt8} {p q:List Int} {n:Nat} (h:0<(bS x p q n).2.1.length):jY x p q n=true:=by
  unfold jY
  cases hl:(bS x p q n).2.1 with
  |nil=>rw [hl]at h;simp at h
  |cons=>rfl
@[irreducible] def gB (x:List UInt8) (p q:List Int):Nat:=j8 (jY x p q) 16
theorem wx (x:List UInt8) (p q:List Int):gB x p q=j8 (jY x p q) 16:=by unfold gB;rfl
def fy (x:List UInt8) (p q:List Int):bX:=⟨x,(bS x p q (gB x p q)).1,(bS x p q (gB x p q)).2.1⟩
def iB (p q:List Int):Bool:=cN p&&cN q&&jT p q
theorem rX (x:List UInt8) (p q:List Int):∀n,(∀v∈(bS x p q n).2.1,v∈p∨v∈q)∧∀v∈(bS x p q n).2.2,v∈p∨v∈q
  |0=>⟨fun _ h=> .inl h,fun _ h=> .inr h⟩
  |n+1=>⟨fun v h=>(rX x p q n).2 v ((List.mem_filter.1 h).1),fun v h=>(rX x p q n).1 v h⟩
theorem FC {x:List UInt8} {p q:List Int} (h:iB p q=true) (n:Nat):(∀v∈(bS x p q n).2.1,0≤v∧v<1024)∧∀v∈(bS x p q n).2.2,0≤v∧v<1024:=by
  unfold iB at h
  simp only [Bool.and_eq_true]at h
  have h1:=s6 h.1.1
  have h2:=s6 h.1.2
  obtain⟨g1,g2⟩:=rX x p q n
  exact⟨fun v hv=>(g1 v hv).elim (h1 v) (h2 v),fun v hv=>(g2 v hv).elim (h1 v) (h2 v)⟩
theorem Gh (x:List UInt8) (i:Nat) (a:List Int) (hi:i<16):cL (i:Nat) (ec a:Nat) (jc x (i:Nat) (ec a:Nat) (nT (ec a)) a)=true:=by
  rw [zW]
  exact z6 (tt hi (qD a).1 (qD a).2)
theorem za (x:List UInt8) (p q:List Int):∀n i,i<n→(bS x p q n).1[i]? =some (ma x i (bS x p q i).2.1)
  |0,i,h=>by omega
  | n + 1, i, h => by
    rw [bS]
    rcases Nat.lt_or_ge i n with h2|h2
    · rw [List.getElem?_append_left (by rw [js];exact h2)];exact za x p q n i h2
    · have : i = n := by omega
      subst this
      rw [List.getElem?_append_right (by rw [js];omega),js];simp
theorem AF (x:List UInt8) (p q:List Int):gB x p q≤16:=by rw [wx];exact CR _ _
@[irreducible] def buildA (x:List UInt8) (p q:List Int):A:=if iB p q then .tu [.ag (eL (fy x p q)),.i .i64 0]else .tu [.ag (eL ⟨List.replicate 32 0, [], []⟩),.i .i64 340]
theorem vr {x:List UInt8} {p q:List Int} (h:iB p q=false):buildA x p q= .tu [.ag (eL ⟨List.replicate 32 0, [], []⟩),.i .i64 340]:=by unfold buildA;rw [h];rfl
theorem rZ {x:List UInt8} {p q:List Int} (h:iB p q=true):buildA x p q= .tu [.ag (eL (fy x p q)),.i .i64 0]:=by unfold buildA;rw [h];rfl
theorem JQ (p q:List Int):(cN p=false∧iB p q=false)∨(cN p=true∧cN q=false∧iB p q=false)∨(cN p=true∧cN q=true∧jT p q=false∧iB p q=false)∨(cN p=true∧cN q=true∧jT p q=true∧iB p q=true):=by
  unfold iB
  cases cN p<;>cases cN q<;>cases jT p q<;>simp
theorem HE {l:List Int} {p:Int→Bool} {i:Nat} {q:Int} (h:l[i]? =some q) (hp:p q=true):((l.take i).filter p).map iA++ [.i .i64 q]=((l.take (i+1)).filter p).map iA:=by
  rw [List.take_add_one,h];simp [hp]
theorem HD {l:List Int} {p:Int→Bool} {i:Nat} {q:Int} (h:l[i]? =some q) (hp:p q=false):(l.take i).filter p=(l.take (i+1)).filter p:=by
  rw [List.take_add_one,h];simp [hp]
theorem FB (x:List UInt8) (p q:List Int) (n:Nat):((bS x p q n).1).flatMap gC++gC (ma x n (bS x p q n).2.1)=((bS x p q (n+1)).1).flatMap gC:=by
  rw [bS];simp
theorem rW {x:List UInt8} {p q:List Int} (hp:p.length≤100) (hq:q.length≤100):∀n,(bS x p q n).2.1.length≤100∧(bS x p q n).2.2.length≤100
  |0=>⟨hp,hq⟩
  |n+1=>⟨Nat.le_trans (List.length_filter_le _ _) (rW hp hq n).2,(rW hp hq n).1⟩
theorem EY {x:List UInt8} {i:Nat} {a:List Int} {k:Nat} {q:Int} (hi:i<16) (hq:a[k]? =some q) (h0:0≤q∧q<1024):addA x (i:Nat) (ec a:Nat) (jc x (i:Nat) (ec a:Nat) (nT (ec a)) (a.take k)) q= .tu [jr (i:Nat) (ec a:Nat) (jc x (i:Nat) (ec a:Nat) (nT (ec a)) (a.take (k+1))),.i .i64 0]:=by
  obtain⟨j,rfl⟩:∃j:Nat,q=(j:Int):=⟨q.toNat,by omega⟩
  have hc:cL (i:Nat) (ec a:Nat) (jc x (i:Nat) (ec a:Nat) (nT (ec a)) (a.take k))=true:=by
    rw [zW];exact z6 (tt hi (qD a).1 (qD a).2)
  rw [E4 (JS hc (by omega)),E7 hq]
theorem Hk {x:List UInt8} {p q:List Int} {n:Nat} (h:n<16) (h1:∀t,t<n→jY x p q t=true) (h2:jY x p q n=false):gB x p q=n:=by rw [wx];exact CS h h1 h2
theorem AE {x:List UInt8} {p q:List Int} (h1:∀t,t<16→jY x p q t=true):gB x p q=16:=by rw [wx];exact xu h1
theorem FW {x:List UInt8} {p q:List Int} {n:Nat} (h:gB x p q=n):fy x p q=⟨x,(bS x p q n).1,(bS x p q n).2.1⟩:=by subst h;rfl
theorem Ew {x:List UInt8} {f:cT} {l:List Int} {i:Nat} {q:Int} (h:l[i]? =some q) (hp:nh x f.lv f.nb f.D q=true):(iF x f (l.take i)).map iA++ [.i .i64 q]=(iF x f (l.take (i+1))).map iA:=HE h hp
theorem M4 {x:List UInt8} {f:cT} {l:List Int} {i:Nat} {q:Int} (h:l[i]? =some q) (hp:nh x f.lv f.nb f.D q=false):iF x f (l.take i)=iF x f (l.take (i+1)):=HD h hp
theorem Jb (x:List UInt8) (f:cT) (l:List Int):(iF x f l).length≤l.length:=List.length_filter_le _ _
theorem M3 {x:List UInt8} {f:cT} {l:List Int} {i:Nat} {q:Int} (h:l[i]? =some q) (hp:nh x f.lv f.nb f.D q=true):(iF x f (l.take i)).length+1=(iF x f (l.take (i+1))).length:=by
  have:=congrArg List.length (Ew h hp)
  simpa using this
theorem Ig {x:List UInt8} {p q:List Int} {n:Nat} (h:¬0<(bS x p q n).2.1.length):jY x p q n=false:=by
  unfold jY
  have:(bS x p q n).2.1= []:=List.length_eq_zero_iff.1 (by omega)
  rw [this];rfl
theorem Hj {x:List UInt8} {p q:List Int} {n:Nat} (hn:n≤16) (h1:∀t,t<n→jY x p q t=true) (h:¬0<(bS x p q n).2.1.length):gB x p q=n:=by
  rcases Nat.lt_or_ge n 16 with h2|h2
  · exact Hk h2 h1 (Ig h)
  · have : n = 16 := by omega
    subst this;exact AE h1
theorem Me {x:List UInt8}:(jO.map u8++ [A.nl,A.nl]).take 0++aX (.ag (x.map u8))++(jO.map u8++ [A.nl,A.nl]).drop (0+32)=x.map u8++ [.nl,.nl]:=by
  show []++x.map u8++ [A.nl,A.nl]=_
  rfl
theorem D7 {x:List UInt8} (hx:x.length=32) (a b:A):((x.map u8++ [a,b]).drop 33)= [b]:=by
  rw [show 33=32+1 from rfl, ←List.drop_drop,uq hx];rfl
theorem ur {x:List UInt8} (hx:x.length=32) (v a b:A):(x.map u8++ [a,b]).set 33 v=x.map u8++ [a,v]:=by
  rw [List.set_append_right _ _ (by simp [hx]),List.length_map,hx];rfl
theorem zm {x:List UInt8} {p q:List Int} {n:Nat} (h:gB x p q=n):x.map u8++ [.fz n ((bS x p q n).1.flatMap gC),.fz (bS x p q n).2.1.length ((bS x p q n).2.1.map iA)]=eL (fy x p q):=by
  rw [FW h,eL,qj,jZ,js]
end Go.Abs.D2
-- AbsT
namespace Go.Abs
open Go Go.Eng
def gf (s m:Nat) (cs:List A) (upds:List (Nat×List A)):A→St→Prop:=fun r st=>∃id,r= .sl id s 0 m∧st.get id=some cs∧∀p∈upds,st.get p.1=some p.2∧p.1≠id
section
variable {P:Program} {w0:Bw} {X0:Xs} {n:Nat} {E:Ev} {st:St} {K:Act→World→Prop} {Q:Exit→Act→World→Prop}
theorem Ce {d : Nat} (nx : Nat) (hfr : st.free nx = true) (s0 : St) (upds : List (Nat × List A)) (ow : Bool) {f : FuncId} {x : Operand} {xs : List Operand} {fs cs vs vs' ds : List A} {s m : Nat} {ats : Array TypeId} {ty : TypeId} {pos aft' g} (hx : ev E x = some (.fn (.func f) fs cs)) (hxs : c5 E xs = some vs) (hS : gh st s0 ow s0.os) (hv : a7 st s0 ow (fs ++ vs ++ cs) vs')
    (hc:cE P f vs' s0 (gf s m ds upds)) (hp:bL ds) (hf:ow=false∨dr ds) (hu:∀p∈upds,(∃cs,s0.get p.1=some cs)∧l3 s0 ow p.2) (hd:Nat.ble (d+1) n=true) (h:At w0 X0 n ((d,.sl nx s 0 m)::E) ((az s0 st upds).put nx ds) K):
    At w0 X0 n E st (fun a w=>(⟨some d,.call {callee:= .value x,args:=xs.toArray,argTypes:=ats},ty,pos,aft',g⟩:Oper).wp P a w K Q):=by
  rintro a w ⟨β,X,hr⟩
  have hss:∀id cs,s0.get id=some cs→st.get id=some cs:=fun id cs h=>(ja hS h).1
  refine l6 hr hx hxs hS hv hc fun v w' ⟨r,β',X',st',hR,hsup,hsub,hm,hvv⟩=>?_
  obtain⟨id,rfl,hg,hup⟩:=hR
  obtain⟨m1,m2,m3,m4,m6⟩:=hm.yO hr hss hsub hsup (upds:=upds) (fun p hp=>⟨(hup p hp).1,(hu p hp).1,(hu p hp).2⟩)
  have hnx:=hr.mem.dom nx hfr
  have hfa:∀k,(az s0 st upds).free k=true→st.free k=true:=fun k=>(kF (s0:=s0) (st:=st) (upds:=upds)).2
  have hga:∀k ck,(az s0 st upds).get k=some ck→(k,ck)∈upds∨(s0.free k=true∧st.get k=some ck):=fun k ck hk=>(kF (s0:=s0) (st:=st) (upds:=upds)).1 ck hk
  have ho:=hm.obj id ds hg
  unfold OB at ho
  have key:∀y:BL,OB (b6 β nx y) (fun b o=>X b o∨(X' b o∧(bw w (cn s0 β) s0 c8).own b)) w' w0 nx ds→(∀k ck q M N',(az s0 st upds).get k=some ck→β k=some (.bk q M)→y= .bk q N'→False)→Mem w0 (b6 β nx y) (fun b o=>X b o∨(X' b o∧(bw w (cn s0 β) s0 c8).own b)) ((az s0 st upds).put nx ds) w':=fun y hy hfresh=>by
    refine .of (m1.below) (fun k y h=>(cl hnx) k y (m1.b0 k y h)) (m1.xlt) (fun k h=>?_) (fun k es hk=>?_) (fun i j ci cj q M N' hij hi hj hbi hbj=>?_)
    · rw [St.en] at h
      split at h
      · cases h
      · rename_i hne
        rw [b9 (fun e=>hne e.symm)]
        exact hr.mem.dom k (hfa k h)
    · rw [St.cg] at hk
      split at hk
      · rename_i e; subst e
        simp only [Option.some.injEq]at hk
        subst hk
        exact hy
      · refine (m1.obj k es hk).later (fun _ _ h => ⟨h, rfl⟩) (cl hnx) (fun q M hq => ⟨rfl, ?_⟩) fun q hq => ⟨rfl, ((m1.obj k es hk).dY hq).2.2.1⟩
        have hk':=m1.obj k es hk
        unfold OB at hk'
        rw [hq]at hk'
        exact hk'.2.1
    · rw [St.cg] at hi hj
      by_cases ei:nx=i
      · by_cases ej : nx = j
        · omega
        · rw [if_neg ej] at hj
          rw [←ei,bC]at hbi
          rw [b9 (by omega)]at hbj
          exact hfresh j cj q N' M hj hbj (Option.some.inj hbi)
      · rw [if_neg ei] at hi
        rw [b9 (by omega)]at hbi
        by_cases ej:nx=j
        · rw [← ej, bC] at hbj
          exact hfresh i ci q M N' hi hbi (Option.some.inj hbj)
        · rw [if_neg ej] at hj
          rw [b9 (by omega)]at hbj
          exact m1.inj i j ci cj q M N' hij hi hj hbi hbj
  simp only [V]at hvv
  rcases hvv with ⟨hβ,rfl,_,rfl⟩|⟨b,N,cap,hβ,rfl,c1,c2,c3⟩
  · rw [hβ] at ho
    have ho:ds= []:=ho
    subst ho
    exact h _ _ ⟨_,_,hr.gF hd m2 m3 (cl hnx) (key .ph (by unfold OB;rw [bC]) (fun _ _ _ _ _ _ _ e=>by cases e)) (by simp only [V];exact .inl ⟨bC,by simp⟩)⟩
  · rw [hβ] at ho
    obtain⟨o1,o2,us,rest,ety,o3,o4,o5,o6⟩:=ho
    have hown:w0.own b∧∀k ck q M N',(az s0 st upds).get k=some ck→β k=some (.bk q M)→BL.bk b N= .bk q N'→False:=by
      have hsame:∀k ck q M,(k,ck)∈upds→β k=some (.bk q M)→q≠b:=fun k ck q M hk hq e=>by
        obtain⟨g1,g2⟩:=hup _ hk
        obtain⟨⟨c0,g3⟩,_⟩:=hu _ hk
        have g4:β' k=some (.bk q M):=hm.b0 k _ (by show cn s0 β k=_;rw [jF (nc g3)];exact hq)
        subst e
        exact hm.inj k id ck ds q M N g2 g1 hg g4 hβ
      rcases o1 with h|⟨id',cs',h1,y',h2,h2'⟩
      · have h : w.heap.size ≤ b := h
        refine⟨Bw.j7 hr.mem.below h,fun k ck q M N' hk hq e=>?_⟩
        simp only [BL.bk.injEq]at e
        rcases hga k ck hk with hk|⟨_,hk⟩
        · exact hsame k ck q M hk hq e.1.symm
        · have := m6 q M k ck hk hq
          omega
      · obtain ⟨g3, g4⟩ := ko h2
        refine⟨((hr.mem.obj id' cs' (hss id' cs' h1)).kQ g4 h2').2.1,fun k ck q M N2 hk hq e=>?_⟩
        simp only [BL.bk.injEq]at e
        rcases hga k ck hk with hk|⟨k1,k2⟩
        · exact hsame k ck q M hk hq e.1.symm
        · obtain ⟨rfl, _⟩ := e
          refine hr.mem.apart (fun e=>?_) k2 (hss id' cs' h1) hq g4 rfl h2'
          subst e;rw [k1]at g3;cases g3
    have hnX:∀o,¬(X b o∨(X' b o∧(bw w (cn s0 β) s0 c8).own b)):=fun o h=>by
      rcases h with h|⟨h,_⟩
      · exact o2 o (hsup b o (.inl h))
      · exact o2 o h
    have hvs:VS (fun b o=>X b o∨(X' b o∧(bw w (cn s0 β) s0 c8).own b)) w' (b6 β nx (.bk b N)) ds us:=by
      rcases hf with hf|hf
      · exact ey (m4 hf) _ _ _ _ (bK.refl _) (jM _ _ hp o5)
      · exact lh _ _ hf o5
    exact h _ _ ⟨_,_,hr.gF hd m2 m3 (cl hnx) (key (.bk b N) (by unfold OB;rw [bC];exact⟨hown.1,hnX,us,rest,ety,o3,o4,hvs,o6⟩) hown.2) (by simp only [V];exact .inr ⟨b,N,cap,bC,rfl,c1,c2,c3⟩)⟩
end
end Go.Abs
namespace Go.Abs
open Go Go.Eng
section
variable {P:Program} {n:Nat}
def vu (w:World) (β:Bm) (s0:St) (T:List Nat):Bw:=⟨w,fun b=>∃id cs,s0.get id=some cs∧∃y,β id=some y∧y.on b,fun id=>if id∈T then β id else none,T,(fun id x h=>by
  by_cases hi:id∈T
  · exact hi
  · rw [if_neg hi]at h;cases h), []⟩
def ry (T:List Nat) (upds:List (Nat×List A)):Prop:=∀p∈upds,∀(X:Xs) (w:World) (β1 β2:Bm) (us:List Value),(∀t∈T,β2 t=β1 t)→VS X w β1 p.2 us→VS X w β2 p.2 us
theorem Kr {w : World} {X : Xs} {β : Bm} {s0 : St} {hd : ∀ id, s0.free id = true → β id = none} {T : List Nat} {s m : Nat} {ds : List A} {upds : List (Nat × List A)} {v : Value} {w' : World} (hp : bL ds) (hT : ∀ t ∈ T, ∃ x, β t = some x) (hU : ∀ p ∈ upds, p.1 ∈ T) (hO : ry T upds)
    (h:Post (vu w β s0 T) X (gf s m ds upds) v w'):Post (bw w β s0 hd) X (gf s m ds upds) v w':=by
  obtain⟨r,β',X',st',⟨id,rfl,hg,hup⟩,h1,h2,hm,hv⟩:=h
  obtain⟨N0,hN⟩:=wJ s0.os
  have hK:s0.free N0=true:=hN N0 (Nat.le_refl _)
  have hnx:=hd N0 hK
  have hNT:N0∉T:=fun hn=>by obtain⟨x,e⟩:=hT N0 hn;rw [hnx]at e;cases e
  have hsame:∀t∈T,β' t=β t:=fun t ht=>by
    obtain⟨x,e⟩:=hT t ht
    rw [e]
    exact hm.b0 t x (by show(if t∈T then β t else none)=some x;rw [if_pos ht];exact e)
  have hbel:KB (bw w β s0 hd) w':=⟨hm.below.os,hm.below.tape,hm.below.output,hm.below.size,hm.below.block,fun s hs=>by cases hs⟩
  have hfa:∀k,(az s0 ⟨[]⟩ upds).free k=true→s0.free k=true:=fun k hk=>by
    have key:∀(l:List (Nat×List A)) os,fresh ((l.map fun p=>(p.1,some p.2))++os) k=true→fresh os k=true:=by
      intro l os
      induction l with
      |nil=>exact fun h=>h
      | cons p l ih =>
        simp only [List.map_cons,List.cons_append]
        rw [mh]
        intro h
        split at h
        · cases h
        · exact ih h
    unfold az St.free at hk
    rw [List.append_assoc]at hk
    have:=key _ _ hk
    rw [wK]at this
    exact this
  have hga:∀k ck,(az s0 ⟨[]⟩ upds).get k=some ck→(k,ck)∈upds:=fun k ck hk=>by
    rcases(kF (s0:=s0) (st:=⟨[]⟩) (upds:=upds)).1 ck hk with h|⟨_,h⟩
    · exact h
    · cases h
  have ho:=hm.obj id ds hg
  unfold OB at ho
  have hb2:∀y,∀t∈T,(b6 β N0 y) t=β' t:=fun y t ht=>by
    rw [b9 (show t≠N0 by rintro rfl;exact hNT ht),hsame t ht]
  have key:∀y:BL,OB (b6 β N0 y) X' w' (bw w β s0 hd) N0 ds→(∀k ck q M N',(k,ck)∈upds→β k=some (.bk q M)→y= .bk q N'→False)→Mem (bw w β s0 hd) (b6 β N0 y) X' ((az s0 ⟨[]⟩ upds).put N0 ds) w':=fun y hy hfresh=>by
    refine .of hbel (cl hnx) hm.xlt (fun k h=>?_) (fun k es hk=>?_) (fun i j ci cj q M N' hij hi hj hbi hbj=>?_)
    · rw [St.en] at h
      split at h
      · cases h
      · rename_i hne
        rw [b9 (fun e=>hne e.symm)]
        exact hd k (hfa k h)
    · rw [St.cg] at hk
      split at hk
      · rename_i e; subst e
        simp only [Option.some.injEq]at hk
        subst hk
        exact hy
      · have hu := hga k es hk
        have hkT:=hU _ hu
        have hob:=hm.obj k es (hup _ hu).1
        have e1:=hb2 y k hkT
        unfold OB at hob ⊢
        rw [e1]
        split
        · rename_i h';rw [h']at hob;exact hob
        · rename_i h';rw [h']at hob;exact hob
        · rename_i b N h'
          rw [h']at hob
          obtain⟨q1,q2,us,rest,ty,q3,q4,q5,q6⟩:=hob
          exact⟨q1,q2,us,rest,ty,q3,q4,hO _ hu X' w' β' _ us (hb2 y) q5,q6⟩
        · rename_i b h'
          rw [h']at hob
          exact hob
    · rw [St.cg] at hi hj
      by_cases ei:N0=i
      · rw [if_neg (by omega)] at hj
        have hu:=hga j cj hj
        rw [←ei,bC]at hbi
        rw [b9 (by omega)]at hbj
        exact hfresh j cj q N' M hu hbj (Option.some.inj hbi)
      · rw [if_neg ei] at hi
        have hui:=hga i ci hi
        rw [b9 (fun e=>ei e.symm)]at hbi
        by_cases ej:N0=j
        · rw [← ej, bC] at hbj
          exact hfresh i ci q M N' hui hbi (Option.some.inj hbj)
        · rw [if_neg ej] at hj
          have huj:=hga j cj hj
          rw [b9 (fun e=>ej e.symm)]at hbj
          exact hm.inj i j ci cj q M N' hij (hup _ hui).1 (hup _ huj).1 ((hsame i (hU _ hui)).trans hbi) ((hsame j (hU _ huj)).trans hbj)
  have hget:∀p∈upds,((az s0 ⟨[]⟩ upds).put N0 ds).get p.1=some p.2∧p.1≠N0:=fun p hp'=>by
    have hne:p.1≠N0:=fun e=>hNT (by rw [←e];exact hU p hp')
    refine⟨?_,hne⟩
    rw [St.cg,if_neg (fun e=>hne e.symm)]
    have key2:∀(l:List (Nat×List A)) os,(∀q∈l,st'.get q.1=some q.2)→p∈l→look ((l.map fun q=>(q.1,some q.2))++os) p.1=some p.2:=by
      intro l os
      induction l with
      |nil=>intro _ h;cases h
      | cons q l ih =>
        intro hq hpl
        simp only [List.map_cons,List.cons_append]
        rw [oM]
        split
        · rename_i e
          have e1:=hq q (.head _)
          rw [e,(hup p hp').1]at e1
          exact e1.symm
        · rename_i e
          rcases List.mem_cons.1 hpl with rfl|hpl
          · exact absurd rfl e
          · exact ih (fun q hq'=>hq q (.tail _ hq')) hpl
    show look _ _=_
    unfold az
    dsimp only
    rw [List.append_assoc]
    exact key2 upds _ (fun q hq=>(hup q hq).1) hp'
  simp only [V]at hv
  rcases hv with ⟨hβ,rfl,e2,rfl⟩|⟨b,N,cap,hβ,rfl,c1,c2,c3⟩
  · rw [hβ] at ho
    have ho:ds= []:=ho
    subst ho
    refine⟨.sl N0 s 0 0,b6 β N0 .ph,X',_,⟨N0,rfl,by rw [St.cg,if_pos rfl],hget⟩,h1,h2,key .ph (by unfold OB;rw [bC]) (fun _ _ _ _ _ _ _ e=>by cases e),?_⟩
    simp only [V];exact .inl ⟨bC,by simp⟩
  · rw [hβ] at ho
    obtain⟨o1,o2,us,rest,ety,o3,o4,o5,o6⟩:=ho
    refine⟨.sl N0 s 0 m,b6 β N0 (.bk b N),X',_,⟨N0,rfl,by rw [St.cg,if_pos rfl],hget⟩,h1,h2,key (.bk b N) (by unfold OB;rw [bC];exact⟨o1,o2,us,rest,ety,o3,o4,jM _ _ hp o5,o6⟩) (fun k ck q M N' hu hk e=>?_),?_⟩
    · simp only [BL.bk.injEq] at e
      obtain⟨rfl,_⟩:=e
      exact hm.inj k id ck ds b M N (hup _ hu).2 (hup _ hu).1 hg ((hsame k (hU _ hu)).trans hk) hβ
    · simp only [V];exact .inr ⟨b,N,cap,bC,rfl,c1,c2,c3⟩
theorem wy {f:FuncId} {fn:Func} {c:Code} {args:List A} {s0:St} {s m:Nat} {ds:List A} {upds:List (Nat×List A)} (T:List Nat) (hp:bL ds) (hU:∀p∈upds,p.1∈T) (hTs:∀t∈T,∃cs,s0.get t=some cs) (hO:ry T upds) (hf:P.funcs[f]? =some fn) (hb:fn.body=some c)
    (hn:fn.ntmps=n) (hname:(fn.name== "runtime.NumGoroutine")=false) (ha:args.length≤n)
    (h:∀w0 X0,w0.ids=T→At w0 X0 n (gj args 0) s0 (Pw [] (c.wpIn (rF none) 0 P (bodyPost P fn fun e w'=>∃v,e= .returned v∧Post w0 X0 (gf s m ds upds) v w')))):cE P f args s0 (gf s m ds upds):=by
  intro w X β us hd hX hgl ho hi hv
  have hl:=cJ hv
  have hT:∀t∈T,∃x,β t=some x:=fun t ht=>by
    obtain⟨cs,e⟩:=hTs t ht
    have:=ho t cs e
    unfold OB at this
    cases hb':β t with
    |none=>rw [hb']at this;exact this.elim
    |some x=>exact⟨x,rfl⟩
  refine Eng.Fn.mono (R:=Post (vu w β s0 T) X (gf s m ds upds)) ⟨⟨fn,hf,by simp [hb],hname⟩,calls_of_wp hf hb (wpIn_wide.1 (kz (h (vu w β s0 T) X rfl _ w ⟨β,X,.of (fun _ _ h=>h) (fun _ _ h=> .inl h) (.of ⟨rfl,rfl,rfl,Nat.le_refl _,fun _ _ _=>rfl,fun s hs=>by cases hs⟩ (fun id x h=>?_) hX hd ho hi) hgl ?_ rfl (fun s hs=>by cases hs) (fun t v ht=>?_)⟩)))⟩ (fun _ _ h=>Kr hp hT hU hO h)
  · have h : (if id ∈ T then β id else none) = some x := h
    split at h
    · exact h
    · cases h
  · simp [hn];omega
  · obtain ⟨_, h2⟩ := lj _ _ _ _ ht
    simp only [Nat.sub_zero]at h2
    obtain⟨u,g1,g2⟩:=fx hv h2
    have hlt:=(List.getElem?_eq_some_iff.1 g1).1
    refine⟨u,?_,g2⟩
    rw [Array.getElem?_append,if_pos (by simpa using hlt)]
    simpa using g1
end
end Go.Abs
namespace Go.Abs
open Go Go.Eng
def uT (mk:Nat→A) (mkc:Nat→List A):A→St→Prop:=fun r st=>∃id,r=mk id∧st.get id=some (mkc id)
def ru (mk:Nat→A):Prop:=∀X w β i u,V X w β (mk i) u→∀X' w' β' j,β' j=β i→V X' w' β' (mk j) u
def lg (mkc:Nat→List A):Prop:=∀X w β i us,VS X w β (mkc i) us→∀X' w' β' j,β' j=β i→VS X' w' β' (mkc j) us
theorem vV {v:A} (h:Flat v):ru (fun _=>v):=fun _ _ _ _ _ hv _ _ _ _ _=>pM _ _ h hv
theorem GX {f:Fn}:ru (fun i=> .fn f [] [.p i 0]):=fun _ _ _ _ _ hv _ _ _ _ hj=>(tH _ _ _ _ _ hv).2 _ _ _ _ hj
theorem GS:lg (fun _=> []):=fun _ _ _ _ us h _ _ _ _ _=>by simp only [VS]at h ⊢;exact h
theorem sq {a:Nat→A} {l:Nat→List A} (h1:ru a) (h2:lg l):lg (fun i=>a i::l i):=fun _ _ _ _ us h _ _ _ _ hj=>by
  simp only [VS]at h ⊢
  obtain⟨u,r,rfl,g1,g2⟩:=h
  exact⟨u,r,rfl,h1 _ _ _ _ _ g1 _ _ _ _ hj,h2 _ _ _ _ _ g2 _ _ _ _ hj⟩
theorem GU {l:Nat→List A} (h:lg l):ru (fun i=> .ag (l i)):=fun _ _ _ _ _ hv _ _ _ _ hj=>by
  simp only [V]at hv ⊢
  obtain⟨us,e1,e2,e3⟩:=hv
  exact⟨us,e1,h _ _ _ _ _ e2 _ _ _ _ hj,e3⟩
theorem J0 {l:Nat→List A} {f:Fn} (k:Nat) (h:lg l) (hk:∀i,(l i)[k]? =some (.fn f [] [.p i 0])):nW (fun i=> .ag (l i)):=by
  intro X w β i u hv
  refine⟨?_,fun X' w' β' j hj=>GU h _ _ _ _ _ hv _ _ _ _ hj⟩
  simp only [V]at hv
  obtain⟨us,_,e2,_⟩:=hv
  obtain⟨u',_,g⟩:=fx e2 (hk i)
  exact(tH _ _ _ _ _ g).1
section
variable {P:Program} {w0:Bw} {X0:Xs} {n:Nat} {E:Ev} {st:St} {Q:Exit→Act→World→Prop}
theorem Jt {K : Act → World → Prop} {mk : Nat → A} {mkc : Nat → List A} (hmk : nW mk) (hmc : lg mkc) {d : Nat} (nx : Nat) (hfr : st.free nx = true) {f : FuncId} {x : Operand} {xs : List Operand} {fs cs vs vs' : List A} {ats : Array TypeId} {ty : TypeId} {pos aft' g} (ow : Bool) (hx : ev E x = some (.fn (.func f) fs cs)) (hxs : c5 E xs = some vs) (hv : a7 st ⟨[]⟩ ow (fs ++ vs ++ cs) vs')
    (hc:aB P f vs' (uT mk mkc)) (hd:Nat.ble (d+1) n=true) (h:At w0 X0 n ((d,mk nx)::E) (st.put nx (mkc nx)) K):
    At w0 X0 n E st (fun a w=>(⟨some d,.call {callee:= .value x,args:=xs.toArray,argTypes:=ats},ty,pos,aft',g⟩:Oper).wp P a w K Q):=by
  rintro a w ⟨β,X,hr⟩
  refine l6 hr hx hxs (s0:=⟨[]⟩) trivial hv hc fun v w' ⟨r,β',X',st',hR,hsup,hsub,hm,hvv⟩=>?_
  obtain⟨id,rfl,hg⟩:=hR
  obtain⟨m1,m2,m3,m4,m6⟩:=hm.after hr (fun id cs h=>by cases h) hsub hsup (upds:= []) (fun p hp=>by cases hp)
  rw [pO]at m1
  have hnx:=hr.mem.dom nx hfr
  have ho:=hm.obj id (mkc id) hg
  unfold OB at ho
  obtain⟨⟨b,N,hβ⟩,hV⟩:=hmk _ _ _ _ _ hvv
  rw [hβ]at ho
  obtain⟨o1,o2,us,rest,ety,o3,o4,o5,o6⟩:=ho
  have o1:w.heap.size≤b:=by
    rcases o1 with h|⟨id',cs',h,_⟩
    · exact h
    · cases h
  have hnX:∀o,¬(X b o∨(X' b o∧(bw w (cn ⟨[]⟩ β) ⟨[]⟩ c8).own b)):=fun o h=>by
    rcases h with h|⟨h,_⟩
    · exact o2 o (hsup b o (.inl h))
    · exact o2 o h
  have hvs:VS (fun b o=>X b o∨(X' b o∧(bw w (cn ⟨[]⟩ β) ⟨[]⟩ c8).own b)) w' (b6 β nx (.bk b N)) (mkc nx) us:=hmc _ _ _ _ _ o5 _ _ _ _ (bC.trans hβ.symm)
  have hfresh:∀k ck q M,st.get k=some ck→β k=some (.bk q M)→q≠b:=fun k ck q M hk hq=>by
    have:=m6 q M k ck hk hq
    omega
  have m5 : Mem w0 (b6 β nx (.bk b N)) (fun b o => X b o ∨ (X' b o ∧ (bw w (cn ⟨[]⟩ β) ⟨[]⟩ c8).own b)) (st.put nx (mkc nx)) w' := by
    refine .of (m1.below) (fun k y h=>(cl hnx) k y (m1.b0 k y h)) (m1.xlt) (fun k h=>?_) (fun k es hk=>?_) (fun i j ci cj q M N' hij hi hj hbi hbj=>?_)
    · rw [St.en] at h
      split at h
      · cases h
      · rename_i hne
        rw [b9 (fun e=>hne e.symm)]
        exact hr.mem.dom k h
    · rw [St.cg] at hk
      split at hk
      · rename_i e; subst e
        simp only [Option.some.injEq]at hk
        subst hk
        unfold OB
        rw [bC]
        exact⟨Bw.j7 hr.mem.below o1,hnX,us,rest,ety,o3,o4,hvs,o6⟩
      · refine (m1.obj k es hk).later (fun _ _ h => ⟨h, rfl⟩) (cl hnx) (fun q M hq => ⟨rfl, ?_⟩) fun q hq => ⟨rfl, ((m1.obj k es hk).dY hq).2.2.1⟩
        have hk':=m1.obj k es hk
        unfold OB at hk'
        rw [hq]at hk'
        exact hk'.2.1
    · rw [St.cg] at hi hj
      by_cases ei:nx=i
      · by_cases ej : nx = j
        · omega
        · rw [if_neg ej] at hj
          rw [←ei,bC]at hbi
          rw [b9 (by omega)]at hbj
          simp only [Option.some.injEq,BL.bk.injEq]at hbi
          exact hfresh j cj q N' hj hbj (by omega)
      · rw [if_neg ei] at hi
        rw [b9 (by omega)]at hbi
        by_cases ej:nx=j
        · rw [← ej, bC] at hbj
          simp only [Option.some.injEq,BL.bk.injEq]at hbj
          exact hfresh i ci q M hi hbi (by omega)
        · rw [if_neg ej] at hj
          rw [b9 (by omega)]at hbj
          exact hr.mem.inj i j ci cj q M N' hij hi hj hbi hbj
  exact h _ _ ⟨_,_,hr.gF hd m2 m3 (cl hnx) m5 (hV _ _ _ _ (bC.trans hβ.symm))⟩
theorem Jq {K:Act→World→Prop} {mk:Nat→A} {mkc:Nat→List A} (hmk:nW mk) (hmc:lg mkc) {d:Nat} (nx:Nat) (hfr:st.free nx=true) {f:FuncId} {xs:List Operand} {vs vs':List A} {ats:Array TypeId} {ty:TypeId} {pos aft' g} (ow:Bool) (hxs:c5 E xs=some vs) (hv:a7 st ⟨[]⟩ ow vs vs')
    (hc:aB P f vs' (uT mk mkc)) (hd:Nat.ble (d+1) n=true) (h:At w0 X0 n ((d,mk nx)::E) (st.put nx (mkc nx)) K):
    At w0 X0 n E st (fun a w=>(⟨some d,.call {callee:= .value (.func f),args:=xs.toArray,argTypes:=ats},ty,pos,aft',g⟩:Oper).wp P a w K Q):=
  Jt hmk hmc nx hfr (fs:= []) (cs:= []) ow rfl hxs (by simpa using hv) hc hd h
end
theorem J6 {T0:Nat} {mkc:Nat→List A} (h:lg mkc):ry [T0] [(T0,mkc T0)]:=fun p hp X w β1 β2 us hβ hv=>by
  rw [List.mem_singleton.1 hp]at hv ⊢
  exact h X w β1 T0 us hv X w β2 T0 (hβ T0 (.head _))
theorem J3 {T0:Nat} {c:List A}:∀p∈ [(T0,c)],p.1∈ [T0]:=fun p hp=>by rw [List.mem_singleton.1 hp];exact .head _
end Go.Abs
-- C1P
namespace Go.Abs.D2
open Go Go.Eng Go.Abs
inductive CV where
  |mk (k n:Int) (s:List UInt8) (l:List CV)
mutual
def CV.cells:CV→List A
  | .mk k n s l=> [.i .i64 k,.i .i64 n,.s s,.fz l.length (CV.bI l)]
def CV.bI:List CV→List A
  | []=> []
  |v::l=>v.cells++CV.bI l
end
mutual
def CV.size:CV→Nat
  | .mk _ _ _ l=>CV.er l+1
def CV.er:List CV→Nat
  | []=>0
  |v::l=>v.size+CV.er l+1
end
theorem CV.DL:∀ {l:List CV} {v:CV},v∈l→v.size<CV.er l
  | [],_,h=>by cases h
  | u :: l, v, h => by
    rcases List.mem_cons.1 h with rfl|h
    · simp only [CV.er];omega
    · have := CV.DL h
      simp only [CV.er];omega
mutual
def CV.okB:CV→Bool
  | .mk k n s l=>if k=1 then s.isEmpty&&l.isEmpty else if k=2 then decide (n=0)&&l.isEmpty else if k=3 then decide (n=0)&&s.isEmpty&&CV.jy l else false
def CV.jy:List CV→Bool
  | []=>true
  |v::l=>v.okB&&CV.jy l
end
mutual
def CV.depth:CV→Nat
  | .mk k _ _ l=>if k=3 then CV.ek l+1 else 0
def CV.ek:List CV→Nat
  | []=>0
  |v::l=>max v.depth (CV.ek l)
end
def bB (u:Nat):List UInt8:=if _h:u<128 then [UInt8.ofNat u]else UInt8.ofNat (u % 128+128)::bB (u / 128)
theorem qF {u:Nat} (h:u<128):bB u= [UInt8.ofNat u]:=by rw [bB,dif_pos h]
theorem qE {u:Nat} (h:¬u<128):bB u=UInt8.ofNat (u % 128+128)::bB (u / 128):=by rw [bB,dif_neg h]
def eV (n:Int):Nat:=if 0≤n then 2*n.toNat else 2*(-(n+1)).toNat+1
mutual
def CV.enc:CV→List UInt8
  | .mk k n s l=>if k=1 then 1::bB (eV n)else if k=2 then 2::(bB s.length++s)else 3::(bB l.length++CV.b5 l)
def CV.b5:List CV→List UInt8
  | []=> []
  |v::l=>v.enc++CV.b5 l
end
@[simp] theorem CV.len_cells (v:CV):v.cells.length=4:=by cases v;simp [CV.cells]
theorem CV.oq:∀l:List CV,CV.bI l=l.flatMap CV.cells
  | []=>rfl
  |v::l=>by rw [CV.bI,CV.oq l,List.flatMap_cons]
theorem CV.get:∀ {l:List CV} {i:Nat} {v:CV},l[i]? =some v→((CV.bI l).drop (i*4)).take 4=v.cells
  | [],_,_,h=>by simp at h
  | u :: l, i, v, h => by
    rw [CV.bI]
    cases i with
    |zero=>simp at h;subst h;rw [Nat.zero_mul,List.drop_zero,List.take_left' (CV.len_cells u)]
    | succ i =>
      rw [show(i+1)*4=4+i*4 by omega, ←List.drop_drop,List.drop_left' (CV.len_cells u)]
      exact CV.get (by simpa using h)
theorem CV.mv:∀(l:List CV),CV.jy l=l.all CV.okB
  | []=>rfl
  |v::l=>by rw [CV.jy,CV.mv l,List.all_cons]
theorem CV.qb:∀(l:List CV),CV.b5 l=l.flatMap CV.enc
  | []=>rfl
  |v::l=>by rw [CV.b5,CV.qb l,List.flatMap_cons]
theorem CV.qc {l:List CV} {i:Nat} {v:CV} (h:l[i]? =some v):CV.b5 (l.take i)++v.enc=CV.b5 (l.take (i+1)):=by
  rw [CV.qb,CV.qb,List.take_add_one,h];simp
theorem CV.Ag {l:List CV} {i:Nat} {v:CV} (h:l[i]? =some v):max (CV.ek (l.take i)) v.depth=CV.ek (l.take (i+1)):=by
  have key:∀(m:List CV) (u:CV),CV.ek (m++ [u])=max (CV.ek m) u.depth:=by
    intro m u
    induction m with
    |nil=>simp [CV.ek]
    |cons a m ih=>simp only [List.cons_append,CV.ek,ih];omega
  rw [List.take_add_one,h]
  exact(key _ _).symm
theorem CV.Ah : ∀ (n : Nat) (v : CV), v.size ≤ n → v.depth ≤ v.size
  |0,v,h=>by cases v;simp only [CV.size]at h;omega
  | n + 1, .mk k m s l, h => by
    simp only [CV.size]at h
    have hl:CV.ek l≤CV.er l:=by
      have key:∀(q:List CV),CV.er q≤n→CV.ek q≤CV.er q:=by
        intro q
        induction q with
        |nil=>intro _;exact Nat.le_refl _
        | cons a q ih =>
          intro hq
          simp only [CV.er]at hq
          have h1:=CV.Ah n a (by omega)
          have h2:=ih (by omega)
          simp only [CV.ek,CV.er];omega
      exact key l (by omega)
    simp only [CV.depth,CV.size]
    split<;>omega
@[irreducible] def fk (v:CV):Int:=if v.okB then (if v.depth≤16 then 0 else 2)else 1
@[irreducible] def encA (v:CV):A:=if fk v=0 then .tu [.fz v.enc.length (v.enc.map u8),.i .i64 0]else .tu [.nl,.i .i64 (fk v)]
def iz (u k:Nat):List UInt8:=(List.range k).map fun i=>UInt8.ofNat (u / 128 ^ i % 128+128)
@[simp] theorem len_numP (u k:Nat):(iz u k).length=k:=by simp [iz]
theorem Cu (u k:Nat):iz u k++ [UInt8.ofNat (u / 128 ^ k % 128+128)]=iz u (k+1):=by simp [iz,List.range_succ]
theorem Cs (u:Nat):∀k,(∀i,i<k→128≤u / 128 ^ i)→bB u=iz u k++bB (u / 128 ^ k)
  |0,_=>by simp [iz]
  | k + 1, h => by
    rw [Cs u k fun i hi=>h i (by omega),qE (by have:=h k (by omega);omega), ←Cu,List.append_assoc,Nat.div_div_eq_div_mul, ←Nat.pow_succ]
    rfl
theorem Ct {u k:Nat} (h:∀i,i<k→128≤u / 128 ^ i) (h2:u / 128 ^ k<128):iz u k++ [UInt8.ofNat (u / 128 ^ k)]=bB u:=by
  rw [Cs u k h,qF h2]
theorem E9 (w:BitVec 64):(w&&& 127#64).toNat=w.toNat % 128:=by
  rw [BitVec.toNat_and]
  exact Nat.and_two_pow_sub_one_eq_mod _ 7
theorem Ka:∀x,x<128→UInt8.ofNat x|||128=UInt8.ofNat (x+128):=by decide+kernel
theorem nL {n:Int} (h0: -9223372036854775808≤n) (h1:n≤9223372036854775807):eV n<2 ^ 64:=by
  unfold eV;split<;>omega
theorem Ku {u k:Nat} (h:u<2 ^ 64) (hk:10≤k):u / 128 ^ k=0:=by
  apply Nat.div_eq_of_lt
  have:128 ^ 10≤128 ^ k:=Nat.pow_le_pow_right (by omega) hk
  have h2:(2:Nat) ^ 64<128 ^ 10:=by decide
  omega
theorem qv {u : Nat} (h : u < 2 ^ 64) : (bB u).length ≤ 11 := by
  have key:∀(k u:Nat),u<128 ^ (k+1)→(bB u).length≤k+1:=by
    intro k
    induction k with
    |zero=>intro u hu;rw [qF (by omega)];exact Nat.le_refl _
    | succ k ih =>
      intro u hu
      by_cases hs:u<128
      · rw [qF hs];simp
      · rw [qE hs, List.length_cons]
        have:=ih (u / 128) (by rw [Nat.div_lt_iff_lt_mul (by omega)];rw [Nat.pow_succ]at hu;exact hu)
        omega
  exact key 10 u (by have h2 : (2 : Nat) ^ 64 < 128 ^ 11 := by decide
                     omega)
theorem Kt (k:Nat):2 ^ (7*k)=128 ^ k:=by rw [Nat.pow_mul]
theorem xT (u:BitVec 64) (k:Nat):(u>>>(7*k)).toNat=u.toNat / 128 ^ k:=by rw [BitVec.toNat_ushiftRight,Nat.shiftRight_eq_div_pow,Kt]
theorem JH (u:BitVec 64) (k:Nat):decide (((u>>>(7*k)).toNat:Int)≥128)=decide (128≤u.toNat / 128 ^ k):=by
  rw [xT];exact decide_eq_decide.2 (by omega)
theorem JG (u:BitVec 64) (k:Nat):UInt8.ofNat (((u>>>(7*k))&&& a6 127)).toNat|||128=UInt8.ofNat (u.toNat / 128 ^ k % 128+128):=by
  rw [E9,xT];exact Ka _ (Nat.mod_lt _ (by omega))
theorem JF (B:List UInt8) (u:BitVec 64) (k:Nat):(B++iz u.toNat k).map u8++ [u8 (UInt8.ofNat (u.toNat / 128 ^ k % 128+128))]=(B++iz u.toNat (k+1)).map u8:=by
  rw [←Cu];simp
theorem LZ (u:BitVec 64) (k:Nat):(u>>>(7*k))>>>7=u>>>(7*(k+1)):=by
  apply BitVec.eq_of_toNat_eq
  rw [BitVec.toNat_ushiftRight,BitVec.toNat_ushiftRight,BitVec.toNat_ushiftRight, ←Nat.shiftRight_add]
  rfl
theorem JI (B:List UInt8) {u:BitVec 64} {k:Nat} (h:∀i,i<k→128≤u.toNat / 128 ^ i) (h2:u.toNat / 128 ^ k<128):(B++iz u.toNat k).map u8++ [u8 (UInt8.ofNat (u.toNat / 128 ^ k))]=(B++bB u.toNat).map u8:=by
  rw [←Ct h h2];simp
theorem JJ (B:List UInt8) {u:BitVec 64} {k:Nat} (h:∀i,i<k→128≤u.toNat / 128 ^ i) (h2:u.toNat / 128 ^ k<128):B.length+k+1=(B++bB u.toNat).length:=by
  rw [←Ct h h2];simp;omega
theorem yf (n:Int):IntKind.u64.wrap n=((BitVec.ofInt 64 n).toNat:Int):=by
  simp only [IntKind.wrap,IntKind.bits,IntKind.signed,BitVec.toNat_ofInt]
  simp
  omega
theorem MB {n:Int} (h0: -9223372036854775808≤n) (h1:n≤9223372036854775807):n.fdiv (2 ^ min (63:Int).toNat IntKind.i64.bits)=if 0≤n then 0 else -1:=by
  rw [show(2:Int) ^ min (63:Int).toNat IntKind.i64.bits=9223372036854775808 from by decide]
  rw [Int.fdiv_eq_ediv_of_nonneg _ (by omega)]
  split<;>omega
theorem My (n:Int):IntKind.u64.wrap (if 0≤n then 0 else -1)=((if 0≤n then (0:BitVec 64)else BitVec.allOnes 64).toNat:Int):=by
  split<;>rfl
theorem MC {n:Int} (h0: -9223372036854775808≤n) (h1:n≤9223372036854775807):(BitVec.ofInt 64 n<<<1) ^^^ (if 0≤n then (0:BitVec 64)else BitVec.allOnes 64)=a6 (eV n):=by
  apply BitVec.eq_of_toNat_eq
  have hc:(a6 (eV n)).toNat=eV n:=by
    rw [a6,BitVec.toNat_ofNat,Nat.mod_eq_of_lt (nL h0 h1)]
  rw [hc]
  unfold eV
  split
  · rename_i h
    rw [show(BitVec.ofInt 64 n<<<1) ^^^ (0:BitVec 64)=BitVec.ofInt 64 n<<<1 from BitVec.xor_zero,BitVec.toNat_shiftLeft,Nat.shiftLeft_eq,BitVec.toNat_ofInt]
    omega
  · rename_i h
    rw [BitVec.xor_allOnes,BitVec.toNat_not,BitVec.toNat_shiftLeft,Nat.shiftLeft_eq,BitVec.toNat_ofInt]
    omega
theorem yP {l:List CV} {i:Nat} {v:CV} {p:CV→Bool} (hv:l[i]? =some v) (h:(l.take i).all p=true) (h2:p v=true):(l.take (i+1)).all p=true:=by
  rw [List.take_add_one,hv];simp [h,h2]
theorem BV (l:List CV):((l.length:Int)==0)=l.isEmpty:=by
  cases l with
  |nil=>rfl
  | cons v l =>
    have h:(((v::l).length:Int)==0)=false:=by
      rw [beq_eq_false_iff_ne,List.length_cons];omega
    rw [h];rfl
theorem CJ {k n:Int} {s:List UInt8} {l:List CV} (h:k=1):(s.isEmpty&&((l.length:Int)==0))=CV.okB (.mk k n s l):=by
  rw [CV.okB,if_pos h,BV]
theorem CK {k n:Int} {s:List UInt8} {l:List CV} (h:k=2):((n==0)&&((l.length:Int)==0))=CV.okB (.mk k n s l):=by
  rw [CV.okB,if_neg (by omega),if_pos h,BV];rfl
theorem JV {k n:Int} {s:List UInt8} {l:List CV} (h:k=3) (h2:(n !=0|| !s.isEmpty)=true):false=CV.okB (.mk k n s l):=by
  rw [CV.okB,if_neg (by omega),if_neg (by omega),if_pos h]
  cases s<;>simp_all
theorem CL {k n:Int} {s:List UInt8} {l:List CV} (h:k=3) {i:Nat} {v:CV} (hv:l[i]? =some v) (h2:v.okB=false):false=CV.okB (.mk k n s l):=by
  rw [CV.okB,if_neg (by omega),if_neg (by omega),if_pos h,CV.mv]
  have:l.all CV.okB=false:=by
    rw [List.all_eq_false];exact⟨v,List.mem_of_getElem? hv,by simp [h2]⟩
  rw [this];simp
theorem JU {k n:Int} {s:List UInt8} {l:List CV} (h:k=3) (hn:(n !=0|| !s.isEmpty)=false) (h2:(l.take l.length).all CV.okB=true):true=CV.okB (.mk k n s l):=by
  rw [List.take_length]at h2
  rw [CV.okB,if_neg (by omega),if_neg (by omega),if_pos h,CV.mv,h2]
  cases s<;>simp_all
theorem CI {k n:Int} {s:List UInt8} {l:List CV} (h1:k≠1) (h2:k≠2) (h3:k≠3):false=CV.okB (.mk k n s l):=by
  rw [CV.okB,if_neg h1,if_neg h2,if_neg h3]
theorem CV.oX {p:CV→Prop} (N:Nat) (h:∀k n s l,CV.er l<N→(∀v∈l,p v)→p (.mk k n s l)):∀v:CV,v.size≤N→p v:=by
  have key:∀(q:Nat) (v:CV),v.size≤q→q≤N→p v:=by
    intro q
    induction q with
    |zero=>intro v hv;cases v;simp only [CV.size]at hv;omega
    | succ q ih =>
      intro v hv hq
      obtain⟨k,n,s,l⟩:=v
      simp only [CV.size]at hv
      exact h k n s l (by omega) fun u hu=>ih u (by have:=CV.DL hu;omega) (by omega)
  exact fun v hv=>key N v hv (Nat.le_refl _)
theorem CV.qw:∀l:List CV,l.length≤CV.er l
  | []=>Nat.le_refl _
  |v::l=>by simp only [List.length_cons,CV.er];have:=CV.qw l;omega
theorem CV.vX:∀l:List CV,CV.ek l≤CV.er l
  | []=>Nat.le_refl _
  |v::l=>by simp only [CV.ek,CV.er];have:=CV.vX l;have:=CV.Ah v.size v (Nat.le_refl _);omega
theorem CV.C0 (v:CV):bL v.cells:=by
  obtain⟨k,n,s,l⟩:=v
  exact⟨trivial,trivial,trivial,trivial,trivial⟩
instance (v:CV):dE v.cells:=⟨v.C0⟩
theorem CV.H2 {l:List CV} {i:Nat} {k n:Int} {s:List UInt8} {q:List CV} (h:l[i]? =some (.mk k n s q)):((CV.bI l).drop (i*4)).take 4= [.i .i64 k,.i .i64 n,.s s,.fz q.length (CV.bI q)]:=CV.get h
theorem qI {k n:Int} {s:List UInt8} {l:List CV} (h:CV.okB (.mk k n s l)=true):k=1∨k=2∨(k=3∧CV.jy l=true):=by
  rw [CV.okB]at h
  split at h
  · exact .inl (by assumption)
  · split at h
    · exact .inr (.inl (by assumption))
    · split at h
      · simp only [Bool.and_eq_true]at h;exact .inr (.inr ⟨by assumption,h.2⟩)
      · cases h
mutual
def CV.eT:CV→Bool
  | .mk _ n _ l=>decide (-9223372036854775808≤n)&&decide (n≤9223372036854775807)&&CV.kV l
def CV.kV:List CV→Bool
  | []=>true
  |v::l=>v.eT&&CV.kV l
end
theorem CV.tZ:∀(l:List CV),CV.kV l=l.all CV.eT
  | []=>rfl
  |v::l=>by rw [CV.kV,CV.tZ l,List.all_cons]
theorem CV.IY (v:CV):0<v.enc.length:=by
  obtain⟨k,n,s,l⟩:=v
  rw [CV.enc]
  split
  · simp
  · split<;>simp
theorem CV.sY:∀l:List CV,l.length≤(CV.b5 l).length
  | []=>Nat.le_refl _
  | v :: l => by
    have:=CV.sY l
    have:=v.IY
    rw [CV.b5,List.length_append,List.length_cons];omega
theorem CV.sw (l:List CV) (i:Nat):(CV.b5 (l.take i)).length≤(CV.b5 l).length:=by
  conv=>rhs;rw [←List.take_append_drop i l,CV.qb]
  rw [List.flatMap_append,List.length_append,CV.qb];omega
theorem ve (B:List UInt8) (x:UInt8):B.map u8++ [u8 x]=(B++ [x]).map u8:=by simp
theorem Fc (B s R:List UInt8) (h:B++s=R):B.map u8++s.map u8=R.map u8:=by rw [←h];simp
theorem iH {n:Nat} (h:n<2 ^ 64):(a6 n).toNat=n:=by rw [a6,BitVec.toNat_ofNat,Nat.mod_eq_of_lt h]
theorem zR {v:CV} (h:v.okB=false):fk v=1:=by unfold fk;rw [h];rfl
theorem zS {v:CV} (h:v.okB=true) (h2:16<v.depth):fk v=2:=by unfold fk;rw [if_pos h,if_neg (by omega)]
theorem vI {v:CV} (h:v.okB=true) (h2:¬16<v.depth):fk v=0:=by unfold fk;rw [if_pos h,if_pos (by omega)]
theorem zT {v:CV} (h:fk v=0):v.okB=true:=by
  unfold fk at h
  split at h
  · assumption
  · omega
theorem AA {v:CV} (h:fk v≠0):encA v= .tu [.nl,.i .i64 (fk v)]:=by unfold encA;rw [if_neg h]
theorem ou {v:CV} (h:fk v=0):encA v= .tu [.fz v.enc.length (v.enc.map u8),.i .i64 0]:=by unfold encA;rw [if_pos h]
theorem K0 {C C':List UInt8} {id T:Nat} {tc:List A} {st:St} (hC:C=C') (h:st.get id=some (C.map u8)) (h2:st.get T=some tc) (h3:T≠id):gf 1 C'.length (C'.map u8) [(T,tc)] (.sl id 1 0 C.length) st:=by
  subst hC
  exact⟨id,rfl,h,fun p hp=>by rw [List.mem_singleton.1 hp];exact⟨h2,h3⟩⟩
theorem MA {n:Int} (h:0≤n) (h1:n≤9223372036854775807):a6 2*BitVec.ofInt 64 n=a6 (eV n):=by
  apply BitVec.eq_of_toNat_eq
  rw [iH (nL (by omega) h1),BitVec.toNat_mul,BitVec.toNat_ofInt,iH (by omega),eV,if_pos h]
  omega
theorem Jz {n:Int} (h0: -9223372036854775808≤n) (h:¬0≤n):IntKind.i64.wrap (0 - (n+1))= -(n+1):=by
  rw [IntKind.wrap_i64];omega
theorem Mz {n:Int} (h0: -9223372036854775808≤n) (h:¬0≤n):a6 2*BitVec.ofInt 64 (-(n+1))+a6 1=a6 (eV n):=by
  apply BitVec.eq_of_toNat_eq
  rw [iH (nL h0 (by omega)),BitVec.toNat_add,BitVec.toNat_mul,BitVec.toNat_ofInt,iH (by omega),iH (by omega),eV,if_neg h]
  omega
theorem JW {k n:Int} {s:List UInt8} {l:List CV} (h:k=3) (h2:(l.take l.length).all CV.okB=true):((n==0)&&s.isEmpty)=CV.okB (.mk k n s l):=by
  rw [List.take_length]at h2
  rw [CV.okB,if_neg (by omega),if_neg (by omega),if_pos h,CV.mv,h2,Bool.and_true];rfl
theorem JK (u:BitVec 64):UInt8.ofNat (u % a6 128+a6 128).toNat=UInt8.ofNat (u.toNat % 128+128):=by
  rw [BitVec.toNat_add,BitVec.toNat_umod,iH (by omega),Nat.mod_eq_of_lt (by omega)]
theorem Cv (u:BitVec 64):(u / a6 128).toNat=u.toNat / 128:=by rw [BitVec.toNat_udiv,iH (by omega)]
end Go.Abs.D2
-- C1Q
namespace Go.Abs.D2
open Go Go.Eng Go.Abs
def tU:Nat→List UInt8→Option (Nat×List UInt8)
  |_, []=>none
  |i,c::r=>if(i=9∧1<c.toNat)∨(0<i∧c.toNat=0)then none else if c.toNat<128 then some (c.toNat,r)else(tU (i+1) r).map fun p=>(c.toNat % 128+128*p.1,p.2)
def LV (u:Nat):Int:=if u % 2=0 then ((u / 2:Nat):Int)else -((u / 2:Nat):Int) - 1
def qN (sub : Nat → List UInt8 → Option (List CV × List UInt8)) : List UInt8 → Option (CV × List UInt8)
  | []=>none
  | c :: r =>
    if c=1 then (tU 0 r).map fun p=>(.mk 1 (LV p.1) [] [],p.2)
    else if c=2 then (tU 0 r).bind fun p=>if p.1≤p.2.length then some (.mk 2 0 (p.2.take p.1) [],p.2.drop p.1)else none
    else if c=3 then (tU 0 r).bind fun p=>if p.1≤p.2.length then (sub p.1 p.2).map fun q=>(.mk 3 0 [] q.1,q.2)else none
    else none
def Rd (d:Nat) (v:CV):Prop:=v.okB=true∧v.depth≤d∧v.eT=true
theorem Af {d:Nat}:∀ {vs:List CV},(∀v∈vs,v.depth≤d)→CV.ek vs≤d
  | [],_=>Nat.zero_le _
  |v::vs,h=>by simp only [CV.ek];have:=h v (.head _);have:=Af (vs:=vs) fun u hu=>h u (.tail _ hu);omega
end Go.Abs.D2
-- AbsU
namespace Go.Abs
open Go Go.Eng
section
variable {st stN:St}
mutual
theorem EW {s0:St} (h:k6 st stN):∀ {ow:Bool} {v v':A},Vw stN s0 ow v v'→Vw st s0 ow v v'
  |_,_,_,.pure hp=> .pure hp
  |_,_,_,.nl=> .nl
  |_,_,_,.sl hf hg hm hd hv hp=> .sl hf (h _ _ hg) hm hd (l5 h hv) hp
  |_,_,_,.kp hf=> .kp hf
  |_,_,_,.ksl hf=> .ksl hf
  |_,_,_,.ag hv=> .ag (l5 h hv)
  |_,_,_,.fn hv hv'=> .fn (l5 h hv) (l5 h hv')
theorem l5 {s0:St} (h:k6 st stN):∀ {ow:Bool} {v v':List A},a7 stN s0 ow v v'→a7 st s0 ow v v'
  |_,_,_,.nil=> .nil
  |_,_,_,.cons hv hs=> .cons (EW h hv) (l5 h hs)
end
theorem rC {s0:St} {ow:Bool} (h:k6 st stN):∀ {os:List (Nat×Option (List A))},gh stN s0 ow os→gh st s0 ow os
  | [],_=>trivial
  |(_,none)::r,hs=>rC h (os:=r) hs
  |(_,some _)::r,hs=>⟨⟨h _ _ hs.1.1,l5 h hs.1.2⟩,rC h (os:=r) hs.2⟩
end
theorem r9 {d nx:Nat} {v:A} {deps u:List Nat} {need:List (Nat×Option Nat)} {ds:List A} {s0 st:St} {upds:List (Nat×List A)}:(⟨d,v,deps,s0.os.map (·.1),(nx,ds)::upds,need,u⟩:bR).aV st=(az s0 st upds).put nx ds:=by
  unfold bR.aV az St.put
  simp [List.map_map,Function.comp_def]
section
variable {r:Option Nat} {ds0:List Deferred} {P:Program} {w0:Bw} {X0:Xs} {N:Nat} {E0:EV} {st0:St} {Q:Exit→Act→World→Prop} {ops:Array Oper} {n g:Nat} {plan:List bR} {E:Ev} {st:St} {rest:List Oper} {d:Nat} {ty:TypeId} {pos:String} {aft':Array Edge} {gd:Option (Nat×Bool)}
theorem wO {f:FuncId} {xs:List Operand} {vs vs' ds:List A} {s m:Nat} {ats:Array TypeId} (nx:Nat) (s0:St) (ow:Bool) (k0:Nat) (deps:List Nat) (need:List (Nat×Option Nat)) (hg:fO ops (cr (E0.at k0) deps k0 E) gd) (hxs:c5 (cr (E0.at k0) deps k0 E) xs=some vs) (hS:gh (fD plan st0 need) s0 ow s0.os) (hv:a7 (fD plan st0 need) s0 ow vs vs')
    (hc:cE P f vs' s0 (dh s m ds)) (hp:bL ds) (hf:ow=false∨dr ds) (hb:Nat.ble (d+1) N=true) (hd:eX k0 deps need=true) (h:FS r ds0 P w0 X0 N Q ops n g E0 st0 (plan++ [⟨d,.sl nx s 0 m,deps,s0.os.map (·.1), [(nx,ds)],need, []⟩]) (k0+1) ((d,.sl nx s 0 m)::E) ((az s0 st []).put nx ds) rest):
    FS r ds0 P w0 X0 N Q ops n g E0 st0 plan k0 E st (⟨some d,.call {callee:= .value (.func f),args:=xs.toArray,argTypes:=ats},ty,pos,aft',gd⟩::rest):=
  gW ⟨d,.sl nx s 0 m,deps,s0.os.map (·.1), [(nx,ds)],need, []⟩ (fun hk hE _ _ _ hD hs hfr hK=>have he':=hD.fin hE hk;jx hg he' (Jp nx (hfr _ (.head _) rfl) s0 ow (oA he' hxs) (rC hs hS) (l5 hs hv) hc hp hf hb (r9 (upds:= []) ▸ hK))) hd (r9 (upds:= []) ▸ h)
theorem oE {f:FuncId} {x:Operand} {xs:List Operand} {fs cs vs vs' ds:List A} {s m:Nat} {ats:Array TypeId} (nx:Nat) (s0:St) (upds:List (Nat×List A)) (ow:Bool) (k0:Nat) (deps:List Nat) (need:List (Nat×Option Nat)) (hg:fO ops (cr (E0.at k0) deps k0 E) gd) (hx:ev (cr (E0.at k0) deps k0 E) x=some (.fn (.func f) fs cs)) (hxs:c5 (cr (E0.at k0) deps k0 E) xs=some vs) (hnx:cw (upds.map (·.1)) nx=false) (hS:gh (fD plan st0 need) s0 ow s0.os) (hv:a7 (fD plan st0 need) s0 ow (fs++vs++cs) vs')
    (hc:cE P f vs' s0 (gf s m ds upds)) (hp:bL ds) (hf:ow=false∨dr ds) (hu:∀p∈upds,(∃cs,s0.get p.1=some cs)∧l3 s0 ow p.2) (hb:Nat.ble (d+1) N=true) (hd:eX k0 deps need=true) (h:FS r ds0 P w0 X0 N Q ops n g E0 st0 (plan++ [⟨d,.sl nx s 0 m,deps,s0.os.map (·.1),(nx,ds)::upds,need,upds.map (·.1)⟩]) (k0+1) ((d,.sl nx s 0 m)::E) ((az s0 st upds).put nx ds) rest):
    FS r ds0 P w0 X0 N Q ops n g E0 st0 plan k0 E st (⟨some d,.call {callee:= .value x,args:=xs.toArray,argTypes:=ats},ty,pos,aft',gd⟩::rest):=
  gW ⟨d,.sl nx s 0 m,deps,s0.os.map (·.1),(nx,ds)::upds,need,upds.map (·.1)⟩ (fun hk hE _ _ _ hD hs hfr hK=>have he':=hD.fin hE hk;jx hg he' (Ce nx (hfr _ (.head _) hnx) s0 upds ow (jq he' hx) (oA he' hxs) (rC hs hS) (l5 hs hv) hc hp hf hu hb (r9 ▸ hK))) hd (r9 ▸ h)
end
theorem cE.nl {P : Program} {f : FuncId} {i s : Nat} {vs : List A} {s0 : St} {R : A → St → Prop} (hi : s0.free i = true) (h : cE P f (.sl i s 0 0 :: vs) (s0.put i []) R) : cE P f (.nl :: vs) s0 R := by
  intro w X β us hd hX hgl ho hinj hv
  have hn:=hd i hi
  simp only [VS]at hv
  obtain⟨u,us,rfl,hu,hvs⟩:=hv
  have hext:=cl (x:=BL.ph) hn
  have hd2:∀id,(s0.put i []).free id=true→(b6 β i .ph) id=none:=fun id hf=>by
    rw [St.en]at hf
    split at hf
    · cases hf
    · rename_i hne
      rw [b9 (fun e=>hne e.symm)]
      exact hd id hf
  have hget:∀id cs,(s0.put i []).get id=some cs→(id=i∧cs= [])∨(id≠i∧s0.get id=some cs):=fun id cs hg=>by
    rw [St.cg]at hg
    split at hg
    · rename_i e;simp only [Option.some.injEq]at hg;exact .inl ⟨e.symm,hg.symm⟩
    · rename_i e;exact .inr ⟨fun h=>e h.symm,hg⟩
  have hownM:∀b,(bw w (b6 β i .ph) (s0.put i []) hd2).M b→(bw w β s0 hd).M b:=fun b ⟨id,cs,h1,y,h2,h3⟩=>by
    rcases hget id cs h1 with ⟨rfl,_⟩|⟨hne,h1⟩
    · rw [bC]at h2;cases h2;exact h3.elim
    · rw [b9 hne]at h2;exact⟨id,cs,h1,y,h2,h3⟩
  have hownM2:∀b,(bw w β s0 hd).M b→(bw w (b6 β i .ph) (s0.put i []) hd2).M b:=fun b ⟨id,cs,h1,y,h2,h3⟩=>by
    have hne:id≠i:=fun e=>by subst e;rw [hn]at h2;cases h2
    refine⟨id,cs,?_,y,?_,h3⟩
    · rw [St.cg,if_neg (fun e=>hne e.symm)];exact h1
    · rw [b9 hne];exact h2
  have hown:∀b,(bw w (b6 β i .ph) (s0.put i []) hd2).own b→(bw w β s0 hd).own b:=fun b=>Or.imp_right (hownM b)
  have hown2:∀b,(bw w β s0 hd).own b→(bw w (b6 β i .ph) (s0.put i []) hd2).own b:=fun b=>Or.imp_right (hownM2 b)
  refine(h w X (b6 β i .ph) (u::us) hd2 hX hgl (fun id cs hg=>?_) (fun a b ca cb q M N hab ha hb ea eb=>?_) ?_).mono fun v w' hP=>?_
  · rcases hget id cs hg with ⟨rfl, rfl⟩ | ⟨hne, hg⟩
    · unfold OB;rw [bC]
    · have := ho id cs hg
      unfold OB at this ⊢
      rw [b9 hne]
      cases hb:β id with
      |none=>rw [hb]at this;exact this
      | some y =>
        rw [hb]at this
        cases y with
        |ph=>exact this
        | bk b N =>
          obtain⟨q1,q2,us',rest,ty,q3,q4,q5,q6⟩:=this
          exact⟨hown2 b q1,q2,us',rest,ty,q3,q4,ey (fun _ _ h=>⟨h,rfl⟩) _ _ _ _ hext q5,q6⟩
        | mp b =>
          obtain⟨q0,q1,q2,q3⟩:=this
          exact⟨q0,hown2 b q1,q2,q3⟩
  · rcases hget a ca ha with ⟨rfl, _⟩ | ⟨hna, ha⟩
    · rw [bC]at ea;cases ea
    · rcases hget b cb hb with ⟨rfl, _⟩ | ⟨hnb, hb⟩
      · rw [bC]at eb;cases eb
      · rw [b9 hna] at ea; rw [b9 hnb] at eb
        exact hinj a b ca cb q M N hab ha hb ea eb
  · simp only [VS]
    refine⟨u,us,rfl,?_,ey (fun _ _ h=>⟨h,rfl⟩) _ _ _ _ hext hvs⟩
    simp only [V]at hu ⊢
    exact .inl ⟨bC,trivial,trivial,hu⟩
  · obtain ⟨r, β', X', st', h1, h2, h3, hm, hv⟩ := hP
    refine⟨r,β',X',st',h1,h2,fun b o hx=>(h3 b o hx).imp_right (hown b),?_,hv⟩
    refine .of ⟨hm.below.os,hm.below.tape,hm.below.output,hm.below.size,fun k hk hM=>hm.below.block k hk fun h=>hM (hownM k h),fun s hs=>by cases hs⟩ (fun k y hk=>hm.b0 k y (hext k y hk)) hm.xlt hm.dom (fun id cs hg=>?_) hm.inj
    have:=hm.obj id cs hg
    unfold OB at this ⊢
    split
    · rename_i e;rw [e]at this;exact this
    · rename_i e;rw [e]at this;exact this
    · rename_i b N e
      rw [e]at this
      exact⟨hown b this.1,this.2⟩
    · rename_i b e
      rw [e]at this
      exact⟨this.1,hown b this.2.1,this.2.2⟩
section
variable {P:Program} {n:Nat}
theorem Hm {f:FuncId} {fn:Func} {c:Code} {args:List A} {s0:St} {s m:Nat} {ds:List A} (hp:bL ds) (hf:P.funcs[f]? =some fn) (hb:fn.body=some c)
    (hn:fn.ntmps=n) (hname:(fn.name== "runtime.NumGoroutine")=false) (ha:args.length≤n)
    (h:∀w0 X0,w0.ids= []→At w0 X0 n (gj args 0) s0 (Pw [] (c.wpIn (rF none) 0 P (bodyPost P fn fun e w'=>∃v,e= .returned v∧Post w0 X0 (dh s m ds) v w')))):cE P f args s0 (dh s m ds):=by
  intro w X β us hd hX hgl ho hi hv
  have hl:=cJ hv
  refine Eng.Fn.mono (R:=Post (vt w β s0) X (dh s m ds)) ⟨⟨fn,hf,by simp [hb],hname⟩,calls_of_wp hf hb (wpIn_wide.1 (kz (h (vt w β s0) X rfl _ w ⟨β,X,.of (fun _ _ h=>h) (fun _ _ h=> .inl h) (.of ⟨rfl,rfl,rfl,Nat.le_refl _,fun _ _ _=>rfl,fun s hs=>by cases hs⟩ (fun _ _ h=>by cases h) hX hd ho hi) hgl ?_ rfl (fun s hs=>by cases hs) (fun t v ht=>?_)⟩)))⟩ (fun _ _ h=>Kq hp h)
  · simp [hn];omega
  · obtain ⟨_, h2⟩ := lj _ _ _ _ ht
    simp only [Nat.sub_zero]at h2
    obtain⟨u,g1,g2⟩:=fx hv h2
    have hlt:=(List.getElem?_eq_some_iff.1 g1).1
    refine⟨u,?_,g2⟩
    rw [Array.getElem?_append,if_pos (by simpa using hlt)]
    simpa using g1
end
theorem Co {T:List Nat}:∀p∈([]:List (Nat×List A)),p.1∈T:=fun p hp=>by cases hp
theorem Cn {st:St}:∀t∈([]:List Nat),∃cs,st.get t=some cs:=fun p hp=>by cases hp
theorem CN {T:List Nat}:ry T []:=fun p hp=>by cases hp
theorem tz {s0:St} {ow:Bool}:∀p∈([]:List (Nat×List A)),(∃cs,s0.get p.1=some cs)∧l3 s0 ow p.2:=fun p hp=>by cases hp
theorem Db {s m id:Nat} {cs:List A} {st:St} (h:st.get id=some cs):gf s m cs [] (.sl id s 0 m) st:=⟨id,rfl,h,fun p hp=>by cases hp⟩
theorem J2 {st:St} {T:Nat} {cs:List A} (h:st.get T=some cs):∀t∈ [T],∃cs,st.get t=some cs:=fun t ht=>by
  rw [List.mem_singleton.1 ht];exact⟨_,h⟩
end Go.Abs
