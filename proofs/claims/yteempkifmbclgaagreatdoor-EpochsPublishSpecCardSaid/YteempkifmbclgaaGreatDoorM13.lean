/-
  The engine, the plain laws and the walks that the rows need, part 13. Conditions: none.
-/
import Derived.Test.YteempkifmbclgaaGreatDoorM12
import Derived.ProofKit
import Derived.Deep.Slices
import Derived.LaidMore
import Derived.OpenShut
import Derived.Lib.AppendZerosOnto
set_option linter.unusedVariables false
set_option linter.unusedSimpArgs false
set_option maxHeartbeats 1000000
set_option maxRecDepth 10000
-- AbsL
namespace Go.Abs
open Go Go.Eng
inductive D where
  |int (k:IntKind)|bool|str|sl (e:D)|arr (n:Nat) (e:D)|st (fs:List D)
  deriving Inhabited
mutual
def D.cells:D→Nat
  | .int _=>1| .bool=>1| .str=>1| .sl _=>1
  | .arr n e=>n*e.cells
  | .st fs=>D.dt fs
def D.dt:List D→Nat
  | []=>0
  |d::ds=>d.cells+D.dt ds
end
mutual
def Den:D→List A→Prop
  | .int k,aS=>∃n,(Lit.int k n).wf=true∧aS= [.i k n]
  | .bool,aS=>∃b,aS= [.b b]
  | .str,aS=>∃l:List UInt8,l.length≤maxLen∧aS= [.s l]
  | .sl e,aS=>∃ls:List (List A),(∀x∈ls,Den e x)∧ls.length≤maxLen∧aS= [.fz ls.length ls.flatten]
  | .arr n e,aS=>∃ls:List (List A),(∀x∈ls,Den e x)∧ls.length=n∧aS=ls.flatten
  | .st fs,aS=>lZ fs aS
def lZ:List D→List A→Prop
  | [],aS=>aS= []
  |d::ds,aS=>∃x y,Den d x∧lZ ds y∧aS=x++y
end
def isInt (k:IntKind):Option TypeDesc→Bool
  |some (.int j)=>Nat.beq (ki j) (ki k)
  |_=>false
def isBool:Option TypeDesc→Bool
  |some .bool=>true
  |_=>false
def isStr:Option TypeDesc→Bool
  |some .string=>true
  |_=>false
mutual
def mh (P:Program):D→TypeId→Bool
  | .int k,t=>isInt k (P.underlying t)
  | .bool,t=>isBool (P.underlying t)
  | .str,t=>isStr (P.underlying t)
  | .sl e,t=>match P.underlying t with|some (.slice u)=>mh P e u&&Nat.beq (P.cellsOf u) e.cells&&Nat.blt 0 e.cells|_=>false
  | .arr n e,t=>match P.underlying t with|some (.array m u)=>Nat.beq m n&&mh P e u&&Nat.beq (P.cellsOf u) e.cells&&Nat.beq (P.cellsOf t) (n*e.cells)|_=>false
  | .st ds,t=>match P.underlying t with|some (.struct fs)=>oE P ds fs.toList 0&&Nat.beq (P.cellsOf t) (D.dt ds)|_=>false
def oE (P:Program):List D→List Field→Nat→Bool
  | [], [],_=>true
  |d::ds,f::fs,o=>Nat.beq f.offset o&&Nat.beq (P.cellsOf f.type) d.cells&&mh P d f.type&&oE P ds fs (o+d.cells)
  |_,_,_=>false
end
theorem Jw {w:World} {a:Addr} {v:Value} (h:w.cell? a=some v):a.spot=none:=by
  unfold World.cell? at h
  split at h
  · split at h
    · cases h
    · rename_i hs;simpa using hs
  · cases h
theorem BT {a:Addr} (h:(a.add 0).spot=none):a.spot=none:=by
  simpa [Addr.add]using h
theorem add_plain {a:Addr} (h:a.spot=none) (i:Nat):a.add i=⟨a.block,a.off+i,none⟩:=by
  unfold Addr.add
  cases a
  simp at h
  subst h
  simp
def XW (w:World):Xs:=fun b o=>∃v,w.cell? ⟨b,o,none⟩=some v
theorem Iu {w:World}:∀b o,XW w b o→b<w.heap.size:=by
  rintro b o ⟨v,h⟩
  unfold World.cell? at h
  split at h
  · rename_i c e q hb
    obtain⟨hlt,_⟩:=Array.getElem?_eq_some_iff.1 hb
    exact hlt
  · cases h
section
variable {H:Type} {enc:TypeId×Value→H} {P:Program} {w:World} {base:Nat} {held:Bool}
theorem BG {X:Xs}:∀ {cs ds:List A} {b o:Nat},VM X w cs b o→VM X w ds b (o+cs.length)→VM X w (cs++ds) b o
  | [],ds,b,o,_,h=>by simpa using h
  | c :: cs, ds, b, o, h, h' => by
    simp only [VM,List.cons_append]at h ⊢
    refine⟨h.1,h.2.1,BG h.2.2 ?_⟩
    rw [show o+1+cs.length=o+(c::cs).length by simp;omega]
    exact h'
theorem Il {aS:List A} {cs:List Value} {b o:Nat} (hv:VS (XW w) w no aS cs) (h1:∀x∈cs,x.oneCell'=true) (hc:∀i,i<cs.length→w.cell? ⟨b,o+i,none⟩=cs[i]?):VM (XW w) w aS b o:=by
  refine mG fun j c hj=>?_
  obtain⟨u,hu,hvu⟩:=iO hv hj
  have hlt:=(List.getElem?_eq_some_iff.1 hu).1
  have hcell:=hc j hlt
  rw [hu]at hcell
  exact⟨⟨u,hcell⟩,u,hcell,hvu,h1 _ (List.mem_of_getElem? hu)⟩
theorem BH {sz : Nat} {b : Nat} {W : Nat → List A} (hl : ∀ i, (W i).length = sz ∨ True) : ∀ (n o : Nat), (∀ i, i < n → (W i).length = sz ∧ VM (XW w) w (W i) b (o + i * sz)) → VM (XW w) w ((List.range n).map W).flatten b o
  |0,o,_=>by simp [VM]
  | n + 1, o, h => by
    rw [List.range_succ,List.map_append,List.flatten_append]
    refine BG (BH hl n o fun i hi=>h i aq) ?_
    have e:((List.range n).map W).flatten.length=n*sz:=by
      have:∀m,m≤n→((List.range m).map W).flatten.length=m*sz:=by
        intro m
        induction m with
        |zero=>intro _;simp
        | succ m ih =>
          intro hm
          rw [List.range_succ,List.map_append,List.flatten_append,List.length_append,ih aq]
          simp only [List.map_cons,List.map_nil,List.flatten_cons,List.flatten_nil,List.append_nil]
          rw [(h m aq).1,Nat.succ_mul]
      exact this n (Nat.le_refl _)
    rw [e]
    simpa using (h n aq).2
theorem EC {k:IntKind} {x:Option TypeDesc} (h:isInt k x=true):x=some (.int k):=by
  unfold isInt at h
  split at h
  · rename_i j
    have:ki j=ki k:=Nat.eq_of_beq_eq_true h
    have:j=k:=by cases j<;>cases k<;>first|rfl|(simp [ki]at this)
    rw [this]
  · cases h
theorem EB {x:Option TypeDesc} (h:isBool x=true):x=some .bool:=by
  unfold isBool at h;split at h
  · rfl
  · cases h
theorem ED {x:Option TypeDesc} (h:isStr x=true):x=some .string:=by
  unfold isStr at h;split at h
  · rfl
  · cases h
theorem BI {X:Xs} {β:Bm}:∀ {ls:List (List A)} {us:List (List Value)},ls.length=us.length→(∀(i:Nat) (l:List A) (u:List Value),ls[i]? =some l→us[i]? =some u→VS X w β l u)→VS X w β ls.flatten us.flatten
  | [], [],_,_=>fM
  |l::ls,u::us,hl,h=>gZ (h 0 l u rfl rfl) (BI (by simpa using hl) fun i l u h1 h2=>h (i+1) l u (by simpa using h1) (by simpa using h2))
theorem zU {α:Type} {sz:Nat}:∀(n:Nat) (l:List α),l.length=n*sz→((List.range n).map fun i=>(l.drop (i*sz)).take sz).flatten=l
  | 0, l, h => by
    have:l= []:=List.eq_nil_of_length_eq_zero aO
    subst this;rfl
  | n + 1, l, h => by
    have hs:(n+1)*sz=n*sz+sz:=Nat.succ_mul n sz
    rw [List.range_succ,List.map_append,List.flatten_append]
    have e:((List.range n).map fun i=>(l.drop (i*sz)).take sz)=(List.range n).map fun i=>((l.take (n*sz)).drop (i*sz)).take sz:=by
      refine List.map_congr_left fun i hi=>?_
      have hi':i<n:=by simpa using hi
      rw [List.drop_take,List.take_take]
      congr 1
      have:i*sz+sz≤n*sz:=by rw [←Nat.succ_mul];exact Nat.mul_le_mul_right sz hi'
      omega
    rw [e,zU n (l.take (n*sz)) (by rw [List.length_take,h];omega)]
    simp only [List.map_cons,List.map_nil,List.flatten_cons,List.flatten_nil,List.append_nil]
    rw [List.take_of_length_le (l:=l.drop (n*sz)) (by rw [List.length_drop,h];omega)]
    exact List.take_append_drop _ _
mutual
theorem uP : ∀ (d : D) (aS : List A), Den d aS → aS.length = d.cells
  | .int k,aS,h=>by simp only [Den]at h;obtain⟨n,_,rfl⟩:=h;rfl
  | .bool,aS,h=>by simp only [Den]at h;obtain⟨n,rfl⟩:=h;rfl
  | .str,aS,h=>by simp only [Den]at h;obtain⟨n,_,rfl⟩:=h;rfl
  | .sl e,aS,h=>by simp only [Den]at h;obtain⟨n,_,_,rfl⟩:=h;rfl
  | .arr n e, aS, h => by
    simp only [Den]at h
    obtain⟨ls,h1,h2,rfl⟩:=h
    subst h2
    have:∀ls:List (List A),(∀x∈ls,Den e x)→ls.flatten.length=ls.length*e.cells:=by
      intro ls
      induction ls with
      |nil=>intro _;simp
      | cons l ls ih =>
        intro h
        rw [List.flatten_cons,List.length_append,uP e l (h l (.head _)),ih fun x hx=>h x (.tail _ hx),List.length_cons,Nat.succ_mul];omega
    exact this ls h1
  | .st fs,aS,h=>by simp only [Den]at h;exact By fs aS h
theorem By:∀(ds:List D) (aS:List A),lZ ds aS→aS.length=D.dt ds
  | [],aS,h=>by simp only [lZ]at h;subst h;rfl
  | d :: ds, aS, h => by
    simp only [lZ]at h
    obtain⟨x,y,h1,h2,rfl⟩:=h
    rw [List.length_append,uP d x h1,By ds y h2];rfl
end
mutual
theorem xb : ∀ (d : D) (t : TypeId) (fuel : Nat) (cs : List Value) (x : DataW H × List MemPlace), mh P d t = true → DataW.trod enc P w base (fun _ => true) held fuel t cs = some x → ∃ aS, Den d aS ∧ VS (XW w) w no aS cs ∧ ∀ u ∈ cs, u.oneCell' = true
  | .int k, t, fuel, cs, x, hf, h => by
    obtain⟨n,rfl,_,hw⟩:=DataW.trod_int (EC hf) h
    exact⟨[.i k n],⟨n,hw,rfl⟩,eV aW fM,by simp [Value.oneCell']⟩
  | .bool, t, fuel, cs, x, hf, h => by
    obtain⟨b,rfl,_⟩:=DataW.trod_bool (EB hf) h
    exact⟨[.b b],⟨b,rfl⟩,eV aW fM,by simp [Value.oneCell']⟩
  | .str, t, fuel, cs, x, hf, h => by
    obtain⟨s,rfl,_,hs⟩:=DataW.trod_string (ED hf) h
    exact⟨[.s s.data.toList],⟨_,by simpa using hs,rfl⟩,eV aW fM,by simp [Value.oneCell']⟩
  | .sl e, t, fuel, cs, x, hf, h => by
    simp only [mh]at hf
    split at hf
    · rename_i u ht
      simp only [Bool.and_eq_true]at hf
      obtain⟨⟨hf1,hf2⟩,hf3⟩:=hf
      have hsz:P.cellsOf u=e.cells:=Nat.eq_of_beq_eq_true hf2
      have hpos:0<e.cells:=Nat.lt_of_succ_le (by simpa [Nat.blt]using hf3)
      rcases Deep.open_slice ht h with ⟨rfl,_⟩|⟨a,len,cap,m,n,DD,Pl,rfl,_,hl,hm,hmm,_,hx⟩
      · refine ⟨[.fz 0 []], ⟨[], (fun x hx => by cases hx), Nat.zero_le _, rfl⟩, eV ?_ fM, by simp [Value.oneCell']⟩
        simp only [V]
        exact⟨none,0,rfl,Nat.le_refl _,Nat.zero_le _,fun _=>rfl,(fun h=>absurd h (Nat.lt_irrefl _)),by simp [VM]⟩
      · simp only [if_true] at hmm
        subst hmm
        have hV:∀i,i<m→∃q:List A×List Value,(Den e q.1∧VS (XW w) w no q.1 q.2∧∀u∈q.2,u.oneCell'=true)∧w.cells? base (a.add (i*P.cellsOf u)) (P.cellsOf u)=some q.2:=fun i hi=>by
          obtain⟨cs',h1,h2⟩:=hx i hi
          obtain⟨aS,g1,g2,g3⟩:=xb e u n cs' _ hf1 h2
          exact⟨(aS,cs'),⟨g1,g2,g3⟩,h1⟩
        obtain⟨W,hW⟩:=Deep.choose_lt (α:=List A×List Value) (p:=fun i q=>(Den e q.1∧VS (XW w) w no q.1 q.2∧∀u∈q.2,u.oneCell'=true)∧w.cells? base (a.add (i*P.cellsOf u)) (P.cellsOf u)=some q.2) hV
        rw [hsz]at hW
        have hspot:0<m→a.spot=none:=fun h0=>by
          obtain⟨_,_,hc⟩:=World.cells?_some (hW 0 h0).2
          have hln:(W 0).2.length=e.cells:=by rw [fb (hW 0 h0).1.2.1,uP e _ (hW 0 h0).1.1]
          have:=hc 0 aq
          rw [List.getElem?_eq_getElem aq]at this
          have h1:=Jw this
          rw [Nat.zero_mul]at h1
          exact BT (BT h1)
        refine⟨[.fz len ((List.range len).map fun i=>(W i).1).flatten],⟨(List.range len).map fun i=>(W i).1,?_,by simp;omega,by simp⟩,eV ?_ fM,by simp [Value.oneCell']⟩
        · intro x hx
          obtain⟨i,hi,rfl⟩:=List.mem_map.1 hx
          exact(hW i (by have:=List.mem_range.1 hi;omega)).1.1
        · simp only [V]
          refine⟨some a,m,rfl,hl,hm,(fun h=>by cases h),(fun h0 x hx=>by cases hx;exact hspot h0),?_⟩
          refine BH (sz:=e.cells) (W:=fun i=>(W i).1) (fun _=> .inr trivial) len _ fun i hi=>?_
          obtain⟨⟨g1,g2,g3⟩,g4⟩:=hW i aq
          obtain⟨_,hlen,hc⟩:=World.cells?_some g4
          refine⟨uP e _ g1,Il g2 g3 fun k hk=>?_⟩
          have h2:=hc k aq
          have hs:=hspot aq
          rw [add_plain hs,add_plain rfl]at h2
          exact h2
    · cases hf
  | .arr k e, t, fuel, cs, x, hf, h => by
    simp only [mh]at hf
    split at hf
    · rename_i m u ht
      simp only [Bool.and_eq_true]at hf
      obtain⟨⟨⟨hm,hf1⟩,hf2⟩,hf3⟩:=hf
      have hmk:m=k:=Nat.eq_of_beq_eq_true hm
      subst hmk
      have hsz:P.cellsOf u=e.cells:=Nat.eq_of_beq_eq_true hf2
      have hst:P.cellsOf t=m*e.cells:=Nat.eq_of_beq_eq_true hf3
      obtain⟨xs,n,_,_,hl,hxl,hx⟩:=DataW.trod_array ht h
      rw [hsz]at hx
      rw [hst]at hl
      have hV:∀i,i<m→∃aS:List A,Den e aS∧VS (XW w) w no aS ((cs.drop (i*e.cells)).take e.cells)∧∀u∈(cs.drop (i*e.cells)).take e.cells,u.oneCell'=true:=fun i hi=>by
        have:=hx i hi
        rw [List.getElem?_eq_getElem aq]at this
        exact xb e u n _ _ hf1 this
      obtain⟨W,hW⟩:=Deep.choose_lt (α:=List A) (p:=fun i aS=>Den e aS∧VS (XW w) w no aS ((cs.drop (i*e.cells)).take e.cells)∧∀u∈(cs.drop (i*e.cells)).take e.cells,u.oneCell'=true) hV
      refine⟨((List.range m).map W).flatten,⟨(List.range m).map W,?_,by simp,rfl⟩,?_,?_⟩
      · intro x hx
        obtain⟨i,hi,rfl⟩:=List.mem_map.1 hx
        exact(hW i (List.mem_range.1 hi)).1
      · have e1 := zU m cs hl
        rw [←e1]
        refine BI aA fun i l u h1 h2=>?_
        rw [List.getElem?_map]at h1 h2
        obtain⟨j,hj,rfl⟩:=Option.map_eq_some_iff.1 h1
        rw [hj]at h2
        simp only [Option.map_some,Option.some.injEq]at h2
        subst h2
        exact(hW j (by have:=List.mem_range.1 (List.mem_of_getElem? hj);omega)).2.1
      · intro u hu
        rw [←zU m cs hl]at hu
        obtain⟨l,hl',hu⟩:=List.mem_flatten.1 hu
        obtain⟨i,hi,rfl⟩:=List.mem_map.1 hl'
        exact(hW i (List.mem_range.1 hi)).2.2 u hu
    · cases hf
  | .st ds, t, fuel, cs, x, hf, h => by
    simp only [mh]at hf
    split at hf
    · rename_i fs ht
      simp only [Bool.and_eq_true]at hf
      have hst:P.cellsOf t=D.dt ds:=Nat.eq_of_beq_eq_true hf.2
      obtain⟨xs,n,_,_,hl,hxl,hx⟩:=DataW.trod_struct ht h
      obtain⟨aS,g1,g2,g3⟩:=F7 ds fs.toList 0 n cs hf.1 (by rw [hl,hst]) (fun i f hi=>by
        have hi':fs[i]? =some f:=by simpa using hi
        have:=hx i f hi'
        have hlt:i<xs.length:=by rw [hxl];exact(Array.getElem?_eq_some_iff.1 hi').1
        rw [List.getElem?_eq_getElem hlt]at this
        exact⟨_,by rw [Nat.sub_zero];exact this⟩)
      exact⟨aS,g1,g2,g3⟩
    · cases hf
theorem F7:∀(ds:List D) (fs:List Field) (o n:Nat) (cs:List Value),oE P ds fs o=true→cs.length=D.dt ds→(∀(i:Nat) (f:Field),fs[i]? =some f→∃y:DataW H×List MemPlace,DataW.trod enc P w base (fun _=>true) held n f.type ((cs.drop (f.offset - o)).take (P.cellsOf f.type))=some y)→∃aS,lZ ds aS∧VS (XW w) w no aS cs∧∀u∈cs,u.oneCell'=true
  | [], fs, o, n, cs, hf, hl, _ => by
    have:cs= []:=List.eq_nil_of_length_eq_zero hl
    subst this
    exact⟨[],rfl,fM,(fun u h=>by cases h)⟩
  |d::ds, [],o,n,cs,hf,hl,_=>by simp [oE]at hf
  | d :: ds, f :: fs, o, n, cs, hf, hl, h => by
    simp only [oE,Bool.and_eq_true]at hf
    obtain⟨⟨⟨h1,h2⟩,h3⟩,h4⟩:=hf
    have e1:f.offset=o:=Nat.eq_of_beq_eq_true h1
    have e2:P.cellsOf f.type=d.cells:=Nat.eq_of_beq_eq_true h2
    have hl':cs.length=d.cells+D.dt ds:=hl
    obtain⟨y,hy⟩:=h 0 f rfl
    rw [e1,e2,Nat.sub_self,List.drop_zero]at hy
    obtain⟨aS,g1,g2,g3⟩:=xb d f.type n _ y h3 hy
    have hfo:=DW ds fs (o+d.cells) h4
    obtain⟨bs,k1,k2,k3⟩:=F7 ds fs (o+d.cells) n (cs.drop d.cells) h4 aF (fun i f' hi=>by
      obtain⟨y,hy⟩:=h (i+1) f' (by simpa using hi)
      have hoff:=hfo f' (List.mem_of_getElem? hi)
      refine⟨y,?_⟩
      rw [List.drop_drop,show d.cells+(f'.offset - (o+d.cells))=f'.offset - o by omega]
      exact hy)
    refine⟨aS++bs,⟨aS,bs,g1,k1,rfl⟩,?_,?_⟩
    · have := gZ g2 k2
      rwa [List.take_append_drop]at this
    · intro u hu
      rw [←List.take_append_drop d.cells cs]at hu
      exact(List.mem_append.1 hu).elim (g3 u) (k3 u)
theorem DW:∀(ds:List D) (fs:List Field) (o:Nat),oE P ds fs o=true→∀f∈fs,o≤f.offset
  | [], [],o,_,f,hm=>by cases hm
  | [],_::_,o,h,f,hm=>by simp [oE]at h
  |_::_, [],o,h,f,hm=>by cases hm
  | d :: ds, f' :: fs, o, h, f, hm => by
    simp only [oE,Bool.and_eq_true]at h
    have e1:f'.offset=o:=Nat.eq_of_beq_eq_true h.1.1.1
    rcases List.mem_cons.1 hm with rfl|hm
    · omega
    · have:=DW ds fs (o+d.cells) h.2 f hm;omega
end
def IL:D→List A→A
  | .arr _ _,aS=> .ag aS
  | .st _,aS=> .ag aS
  |_,aS=>aS.getD 0 un
theorem nc {t:TypeId} {r:Reach} {b0:Nat} {v:Value} {x:DataW H} {ps:List MemPlace} (d:D) (hf:mh P d t=true) (hval:Value.okWide P w r b0 t v) (h:DataW.Trod enc P w base (fun _=>true) held t v x ps):∃aS,Den d aS∧V (XW w) w no (IL d aS) v:=by
  obtain⟨fuel,hfu⟩:=h
  obtain⟨aS,g1,g2,g3⟩:=xb d t fuel _ _ hf hfu
  refine⟨aS,g1,?_⟩
  have agg:∀cs:Array Value,v= .agg cs→V (XW w) w no (.ag aS) v:=by
    rintro cs rfl
    simp only [V]
    exact⟨cs.toList,by simp,g2,g3⟩
  have scal:∀a,aS= [a]→v.cells= #[v]→V (XW w) w no (aS.getD 0 un) v:=by
    rintro a rfl hv
    rw [hv]at g2
    simp only [VS]at g2
    obtain⟨u,r,hu,hvu,rfl⟩:=g2
    simp only [List.cons.injEq,and_true]at hu
    subst hu
    exact hvu
  cases d with
  | int k =>
    obtain⟨n,rfl⟩:=WideShapes.okWide_int (EC hf) hval
    simp only [Den]at g1
    obtain⟨m,_,rfl⟩:=g1
    exact scal _ rfl rfl
  | bool =>
    obtain⟨n,rfl⟩:=WideShapes.okWide_bool (EB hf) hval
    simp only [Den]at g1
    obtain⟨m,rfl⟩:=g1
    exact scal _ rfl rfl
  | str =>
    obtain⟨n,rfl⟩:=WideShapes.okWide_string (ED hf) hval
    simp only [Den]at g1
    obtain⟨m,_,rfl⟩:=g1
    exact scal _ rfl rfl
  | sl e =>
    simp only [mh]at hf
    split at hf
    · rename_i u ht
      obtain⟨a,len,cap,rfl⟩:=WideShapes.okWide_slice ht hval
      simp only [Den]at g1
      obtain⟨m,_,_,rfl⟩:=g1
      exact scal _ rfl rfl
    · cases hf
  | arr n e =>
    simp only [mh]at hf
    split at hf
    · rename_i m u ht
      unfold Value.okWide at hval
      simp only [ht]at hval
      obtain⟨cs,rfl,_,_⟩:=hval
      exact agg cs rfl
    · cases hf
  | st ds =>
    simp only [mh]at hf
    split at hf
    · rename_i fs ht
      unfold Value.okWide at hval
      simp only [ht]at hval
      obtain⟨cs,rfl,_,_⟩:=hval
      exact agg cs rfl
    · cases hf
theorem yJ (hl:laidOutB P=true) {W W':World} (hb:RowKit.Below W.heap.size W W'):∀(ts:List TypeId) (vs:List Value) (ds:List (DataW H)) (p:List MemPlace),(ts.all fun t=>P.readableRec t&&decide (t<P.types.size))=true→
    DataW.TrodAll enc P W 0 (fun _=>true) true ts vs ds p→(∀x∈p,x.block<W.heap.size)→DataW.TrodAll enc P W' 0 (fun b=>decide (b<W.heap.size)) true ts vs ds p
  | [], vs, ds, p, _, h, _ => by
    obtain⟨rfl,rfl,rfl⟩:=ChangeShapes.trodAll_nil h
    rfl
  | t :: ts, vs, ds, p, hall, h, hlt => by
    simp only [List.all_cons,Bool.and_eq_true,decide_eq_true_eq]at hall
    obtain⟨v,vs',d,ds',a,b,rfl,rfl,rfl,h1,h2⟩:=ChangeShapes.trodAll_cons h
    exact⟨a,b,RowKit.Below.trod hl hall.1.1 hall.1.2 h1 hb (fun x hx=>hlt x aH),yJ hl hb ts vs' ds' b hall.2 h2 (fun x hx=>hlt x aH),rfl⟩
theorem CZ {f:FuncId} {aS:List A} {us:List Value} {W:World} (hc:bU P f aS (cl (.b true))) (hg:GL (XW W) W) (hv:VS (XW W) W no aS us):
    Calls P f us.toArray W fun e W'=>e= .returned (.bool true)∧RowKit.Below W.heap.size W W':=by
  have h:=hc W (XW W) no us (fun _ _=>rfl) Iu hg (fun id cs h=>by cases h) (fun i j ci cj b M N _ h=>by cases h) hv
  refine h.calls.mono fun e W' he=>?_
  obtain⟨v,rfl,r,β',X',st',hr,_,_,hm,hV⟩:=he
  have:r= .b true:=hr
  subst this
  simp only [V]at hV
  subst hV
  have kb:=hm.below
  refine⟨rfl,kb.os,kb.tape,kb.output,kb.size,fun k hk=>kb.block k hk ?_⟩
  rintro⟨id,cs,h,_⟩
  cases h
theorem IM {t e:TypeId} {n:Nat} {k:IntKind} {fuel:Nat} {cs:List Value} {l:List Int} {p:List MemPlace} {sp:Nat→Bool} {enc:TypeId×Value→Unit} (ht:P.underlying t=some (.array n e)) (he:P.underlying e=some (.int k)) (hc:P.cellsOf e=1) (hct:P.cellsOf t=n)
    (h:DataW.trod enc P w base sp held fuel t cs=some (.agg (l.map fun i=> .lit (.int k i)),p)):cs=l.map (.int k):=by
  obtain⟨xs,m,_,hx,hl,hxl,hel⟩:=DataW.trod_array ht h
  simp only [Prod.mk.injEq,DataW.agg.injEq]at hx
  have hll:l.length=n:=by have:=congrArg List.length hx.1;simp at this;omega
  rw [hct]at hl
  refine List.ext_getElem aE fun i h1 h2=>?_
  have hi:i<n:=by omega
  have:=hel i hi
  rw [hc,Nat.mul_one,List.drop_eq_getElem_cons h1,List.take_succ_cons,List.take_zero,List.getElem?_eq_getElem aq]at this
  obtain⟨q,e1,e2,_⟩:=DataW.trod_int he this
  simp only [List.cons.injEq,and_true]at e1
  rw [List.getElem_map,e1]
  have h3:=congrArg (fun z:List (DataW Unit)=>z[i]?) hx.1
  simp only [List.getElem?_map]at h3
  rw [List.getElem?_eq_getElem (by simpa using h2),List.getElem?_eq_getElem aq,Option.map_some,Option.map_some,e2]at h3
  simp only [Option.some.injEq,DataW.lit.injEq,Lit.int.injEq,true_and]at h3
  rw [h3]
theorem ri {α:Type} {e:D} {f:α→List A} {p:α→Prop} (h:∀x,Den e x→∃y,x=f y∧p y):∀ls:List (List A),(∀x∈ls,Den e x)→∃ys:List α,ls=ys.map f∧∀y∈ys,p y
  | [],_=>⟨[],rfl,fun y hy=>by cases hy⟩
  | x :: ls, hx => by
    obtain⟨y,rfl,hy⟩:=h x (hx x (.head _))
    obtain⟨ys,rfl,hys⟩:=ri h ls fun z hz=>hx z (.tail _ hz)
    exact⟨y::ys,rfl,fun z hz=>(List.mem_cons.1 hz).elim (fun e=>e ▸ hy) (hys z)⟩
theorem DX {α:Type} (f:α→A) (l:List α):(l.map fun x=> [f x]).flatten=l.map f:=by
  induction l with
  |nil=>rfl
  |cons x l ih=>simp [ih]
theorem Kc (aS:List A) (h:Den (.int .u8) aS):∃b:UInt8,aS= [u8 b]∧True:=by
  simp only [Den]at h
  obtain⟨n,hw,rfl⟩:=h
  refine⟨UInt8.ofNat n.toNat,?_,trivial⟩
  simp only [Lit.wf,Bool.and_eq_true,decide_eq_true_eq]at hw
  have h1:IntKind.u8.min=0:=rfl
  have h2:IntKind.u8.max=255:=rfl
  rw [h1,h2]at hw
  have:((UInt8.ofNat n.toNat).toNat:Int)=n:=by
    rw [UInt8.toNat_ofNat',Nat.mod_eq_of_lt aq];omega
  rw [u8,this]
theorem ma (aS:List A) (h:Den (.int .i64) aS):∃n:Int,aS= [.i .i64 n]∧(-9223372036854775808≤n∧n≤9223372036854775807):=by
  simp only [Den]at h
  obtain⟨n,hw,rfl⟩:=h
  simp only [Lit.wf,Bool.and_eq_true,decide_eq_true_eq]at hw
  have h1:IntKind.i64.min= -9223372036854775808:=rfl
  have h2:IntKind.i64.max=9223372036854775807:=rfl
  rw [h1,h2]at hw
  exact⟨n,rfl,hw⟩
theorem tk {n:Nat} (aS:List A) (h:Den (.arr n (.int .u8)) aS):∃d:List UInt8,aS=d.map u8∧d.length=n:=by
  simp only [Den]at h
  obtain⟨ls,h1,h2,rfl⟩:=h
  obtain⟨ys,rfl,_⟩:=ri Kc ls h1
  exact⟨ys,DX _ _,by simpa using h2⟩
theorem Ka (aS:List A) (h:Den (.sl (.int .i64)) aS):∃b:List Int,aS= [.fz b.length (b.map (A.i .i64))]∧b.length≤maxLen∧∀n∈b, -9223372036854775808≤n∧n≤9223372036854775807:=by
  simp only [Den]at h
  obtain⟨ls,h1,h2,rfl⟩:=h
  obtain⟨ys,rfl,h3⟩:=ri ma ls h1
  exact⟨ys,by rw [DX,List.length_map],by simpa using h2,h3⟩
theorem C7 {n:Nat} (aS:List A) (h:Den (.sl (.arr n (.int .u8))) aS):∃L:List (List UInt8),aS= [.fz L.length (L.flatten.map u8)]∧L.length≤maxLen∧∀x∈L,x.length=n:=by
  simp only [Den]at h
  obtain⟨ls,h1,h2,rfl⟩:=h
  obtain⟨ys,rfl,h3⟩:=ri (f:=fun d:List UInt8=>d.map u8) tk ls (fun x hx=>by simp only [Den];exact h1 x hx)
  exact⟨ys,by rw [List.length_map,List.map_flatten],by simpa using h2,h3⟩
end
end Go.Abs
-- K6Q
namespace Go.Abs.D2
open Go Go.Eng Go.Abs
theorem Qz {x:List UInt8} {k i:Nat} (m:List UInt8) (hk:dY (k:Int)) (hi:i<k):gx (fJ x k) k m i (jX (gw x i) m) (path (fg x k) i)=true:=by
  have h1:=JO (L:=fg x k) (LL hi) (by rw [mo];unfold dY at hk;omega)
  rw [mo]at h1
  have h2:=N7 (gw x i) m
  refine Bn hk (by unfold gQ;omega) h2.2 ?_
  rw [h2.1,xG hk,h1.1,h1.2]
  simp
def B6 (i:Nat) (m:List UInt8):List (List UInt8):=List.replicate i zD++ [m]
@[simp] theorem Q8 (i:Nat) (m:List UInt8):(B6 i m).length=i+1:=by simp [B6]
structure Lf where
  a:Int
  S:List (List UInt8)
  P:List (List UInt8)
theorem Kb (aS:List A) (h:Den (.st [.int .i64,.sl (.arr 32 (.int .u8)),.sl (.arr 32 (.int .u8))]) aS):∃f:Lf,aS= [.i .i64 f.a,cM f.S,cM f.P]∧cg f.S∧cg f.P:=by
  simp only [Den,lZ]at h
  obtain⟨a,r,h1,⟨b,r2,h2,⟨c,r3,h3,rfl,rfl⟩,rfl⟩,rfl⟩:=h
  obtain⟨n,rfl,_⟩:=ma a (by simpa only [Den]using h1)
  obtain⟨S,rfl,_,hS⟩:=C7 b (by simpa only [Den]using h2)
  obtain⟨P,rfl,_,hP⟩:=C7 c (by simpa only [Den]using h3)
  exact⟨⟨n,S,P⟩,rfl,hS,hP⟩
-- F3A
inductive Part where
  |d (x:List UInt8)|b (x:UInt8)|w (x:BitVec 32)
def Part.a (tD tB tW:TypeId):Part→A
  | .d x=> .ic tD (.ag (x.map u8))
  | .b x=> .ic tB (u8 x)
  | .w x=> .ic tW (ct x)
def iG (x:BitVec 32):List UInt8:= [UInt8.ofNat (x>>>24).toNat,UInt8.ofNat (x>>>16).toNat,UInt8.ofNat (x>>>8).toNat,UInt8.ofNat x.toNat]
@[simp] theorem Q9 (x:BitVec 32):(iG x).length=4:=rfl
def Part.bs:Part→List UInt8
  | .d x=>x
  | .b x=> [x]
  | .w x=>iG x
def Part.ok:Part→Prop
  | .d x=>x.length=32
  |_=>True
def kF (ps:List Part):List UInt8:=(ps.map Part.bs).flatten
theorem vm {ps:List Part} {i:Nat} {p:Part} (h:ps[i]? =some p):kF (ps.take i)++p.bs=kF (ps.take (i+1)):=by
  unfold kF
  rw [List.take_add_one,h];simp
theorem L6 {p:Part} (h:p.ok):p.bs.length≤32:=by
  cases p with
  |d x=>exact Nat.le_of_eq h
  |b x=>simp [Part.bs]
  |w x=>simp [Part.bs,iG]
theorem EX:∀ {ps:List Part},(∀p∈ps,p.ok)→(kF ps).length≤32*ps.length
  | [],_=>by simp [kF]
  | p :: ps, h => by
    have h1:=L6 (h p (.head _))
    have h2:=EX (ps:=ps) fun q hq=>h q (.tail _ hq)
    unfold kF at*
    simp only [List.map_cons,List.flatten_cons,List.length_append,List.length_cons]
    omega
theorem Ll {tD tB tW:TypeId} {ps:List Part} {i:Nat} {p:Part} (h:ps[i]? =some p):((ps.map (Part.a tD tB tW)).drop (i*1))[0]? =some (p.a tD tB tW):=by
  rw [List.getElem?_drop,show i*1+0=i by omega,List.getElem?_map,h];rfl
theorem yX {ps:List Part} {i:Nat} {p:Part} {r:List A} (h:ps[i]? =some p) (hr:r=p.bs.map u8):(kF (ps.take i)).map u8++r=(kF (ps.take (i+1))).map u8:=by
  rw [←vm h,hr,List.map_append]
def js (d:List UInt8) (o:Nat):Nat→Nat
  |0=>0
  |j+1=>js d o j*256+(d.getD (o+j) 0).toNat
theorem Au (d:List UInt8) (o:Nat):∀j,js d o j<256 ^ j
  |0=>by simp [js]
  | j + 1 => by
    have h1:=Au d o j
    have h2:=(d.getD (o+j) 0).toNat_lt
    rw [js,Nat.pow_succ]
    omega
theorem Np (n:Nat) (b:UInt8) (h:n<16777216):mO .or .i64 ((n*256:Nat):Int) (b.toNat:Int)=((n*256+b.toNat:Nat):Int):=by
  have hb:=b.toNat_lt
  have e:(BitVec.ofInt 64 ((n*256:Nat):Int)|||BitVec.ofInt 64 (b.toNat:Int)).toNat=(n*256|||b.toNat) % 2 ^ 64:=by
    rw [BitVec.toNat_or]
    simp only [BitVec.ofInt_natCast,BitVec.toNat_ofNat]
    rw [Nat.or_mod_two_pow]
  have e2:n*256|||b.toNat=n*256+b.toNat:=by
    rw [Nat.mul_comm,show(256:Nat)=2 ^ 8 from rfl,Nat.two_pow_add_eq_or_of_lt hb]
  show IntKind.i64.wrap ((BitVec.ofInt 64 ((n*256:Nat):Int)|||BitVec.ofInt 64 (b.toNat:Int)).toNat:Int)=_
  have e3:(n*256+b.toNat) % 2 ^ 64=n*256+b.toNat:=Nat.mod_eq_of_lt aq
  rw [e,e2,e3]
  exact oh _ aq aq
theorem PG (n:Nat) (h:n<16777216):IntKind.i64.wrap ((n:Int)*2 ^ min ((8:Int).toNat) IntKind.i64.bits)=((n*256:Nat):Int):=by
  show IntKind.i64.wrap ((n:Int)*256)=_
  rw [oh _ aq aq]
  omega
@[irreducible] def iW (x:List UInt8) (lv id:Nat):List UInt8:=tagged [102,105,108,116,101,114] (x++UInt8.ofNat lv::iG (BitVec.ofNat 32 id))
theorem zQ (x:List UInt8) (lv id:Nat):iW x lv id=tagged [102,105,108,116,101,114] (x++UInt8.ofNat lv::iG (BitVec.ofNat 32 id)):=by unfold iW;rfl
@[simp] theorem Rm (x:List UInt8) (lv id:Nat):(iW x lv id).length=32:=by rw [zQ];simp
def jB (x:List UInt8) (lv nb id i:Nat):List Nat:=(List.range i).map fun j=>js (iW x lv id) (4*j) 4 % nb
theorem Ja (x:List UInt8) (lv nb id i:Nat):jB x lv nb id (i+1)=jB x lv nb id i++ [js (iW x lv id) (4*i) 4 % nb]:=by simp [jB,List.range_succ]
@[simp] theorem Ra (x:List UInt8) (lv nb id i:Nat):(jB x lv nb id i).length=i:=by simp [jB]
abbrev nJ (n:Nat):A:= .i .i64 (n:Int)
theorem Lj {m:List UInt8} {o:Nat} (k:Nat) (hi:o+k<m.length) {cs:List A} (hc:cs=(m.map u8).drop (0+o*1+k*1)):cs[0]? =some (u8 (m.getD (o+k) 0)):=by
  subst hc
  rw [List.getElem?_drop,show 0+o*1+k*1+0=o+k by omega]
  simp [hi]
theorem zj (b:UInt8):A.i .i64 (IntKind.i64.wrap (b.toNat:Int))=nJ b.toNat:=by
  have:=b.toNat_lt
  exact congrArg (A.i .i64) (oh _ aq aq)
def fW (a b:Int):Prop:=0≤a∧a<16∧8≤b∧b≤4096
instance (a b:Int):Decidable (fW a b):=by unfold fW;infer_instance
-- F3P
theorem u9 {p:Nat→Prop} {i:Nat} (h:∀t,t<i→p t) (hp:p i):∀t,t<i+1→p t:=fun t ht=>(Nat.lt_or_ge t i).elim (h t) fun hg=>(Nat.le_antisymm (Nat.le_of_lt_succ ht) hg) ▸ hp
theorem Ia (k:Nat):List.replicate k (cn (Value.int .u8 0))=(List.replicate k (0:UInt8)).map u8:=(List.map_replicate (f:=u8) (n:=k) (a:=0)).symm
theorem tf (b:Bool):b=false∨b=true:=by cases b<;>simp
theorem I8 {r:Nat} (h:r<8):(jM r).toNat=2 ^ r:=by
  unfold jM
  rw [UInt8.toNat_ofNat']
  exact Nat.mod_eq_of_lt (Nat.pow_lt_pow_right aq h)
theorem vl (b r:Nat):Nat.testBit b r=(b / 2 ^ r % 2==1):=by
  rw [Nat.testBit_eq_decide_div_mod_eq];rfl
def fH (l:List UInt8) (k:Nat):Bool:=(l.getD (k / 8) 0).toNat.testBit (k % 8)
def kS (l:List UInt8) (k:Nat):List UInt8:=l.set (k / 8) (l.getD (k / 8) 0|||jM (k % 8))
@[simp] theorem E7 (l:List UInt8) (k:Nat):(kS l k).length=l.length:=by simp [kS]
theorem Cj {l:List UInt8} {k:Nat} (h:k / 8<l.length) (j:Nat):fH (kS l k) j=(fH l j||j==k):=by
  unfold fH kS
  by_cases hj:j / 8=k / 8
  · rw [hj]
    have e:(l.set (k / 8) (l.getD (k / 8) 0|||jM (k % 8))).getD (k / 8) 0=l.getD (k / 8) 0|||jM (k % 8):=by simp [List.getD,h]
    rw [e,UInt8.toNat_or,Nat.testBit_or,I8 aq,Nat.testBit_two_pow]
    congr 1
    by_cases hm:j=k
    · subst hm;simp
    · rw [beq_eq_false_iff_ne.2 hm];exact decide_eq_false aq
  · have e : (l.set (k / 8) (l.getD (k / 8) 0 ||| jM (k % 8))).getD (j / 8) 0 = l.getD (j / 8) 0 := by
      simp only [List.getD,List.getElem?_set];rw [if_neg (fun h=>hj h.symm)]
    rw [e,beq_eq_false_iff_ne.2 (by rintro rfl;exact hj rfl),Bool.or_false]
def uH (n:Nat) (D:List UInt8):Prop:=∀k,n≤k→k<8*D.length→fH D k=false
theorem Qe {n : Nat} {D : List UInt8} (hl : D.length = (n + 7) / 8) (hn : 8 ≤ n) : (n % 8 = 0 ∨ (D.getD (D.length - 1) 0).toNat / 2 ^ (n % 8) = 0) ↔ uH n D := by
  by_cases h0:n % 8=0
  · refine⟨fun _ k h1 h2=>absurd h2 aq,fun _=> .inl h0⟩
  · have hd : D.length - 1 = n / 8 := by omega
    rw [hd]
    constructor
    · rintro (h | h) k h1 h2
      · exact absurd h h0
      · unfold fH
        rw [show k / 8=n / 8 by omega]
        have h3:(D.getD (n / 8) 0).toNat<2 ^ (n % 8):=by
          rcases Nat.lt_or_ge (D.getD (n / 8) 0).toNat (2 ^ (n % 8))with h'|h'
          · exact h'
          · have:=Nat.div_pos h' (Nat.two_pow_pos _);omega
        exact Nat.testBit_lt_two_pow (Nat.lt_of_lt_of_le h3 (Nat.pow_le_pow_right aq aq))
    · intro h
      right
      apply Nat.div_eq_of_lt
      apply Nat.lt_pow_two_of_testBit
      intro i hi
      by_cases h8:i<8
      · have := h (8 * (n / 8) + i) aq aq
        unfold fH at this
        rwa [show(8*(n / 8)+i) / 8=n / 8 by omega,show(8*(n / 8)+i) % 8=i by omega]at this
      · exact Nat.testBit_lt_two_pow (Nat.lt_of_lt_of_le (UInt8.toNat_lt _) (Nat.pow_le_pow_right aq (by omega:8≤i)))
@[irreducible] def eu (lv nb:Int) (D:List UInt8):Bool:=decide (fW lv nb)&&(D.length==(nb.toNat+7) / 8)&&(nb.toNat % 8==0||(D.getD (D.length - 1) 0).toNat / 2 ^ (nb.toNat % 8)==0)
theorem uB {lv nb:Int} (h:fW lv nb):∃l n:Nat,lv=(l:Int)∧nb=(n:Int)∧l<16∧8≤n∧n≤4096:=⟨lv.toNat,nb.toNat,by unfold fW at h;omega,by unfold fW at h;omega,by unfold fW at h;omega,by unfold fW at h;omega,by unfold fW at h;omega⟩
theorem ub {l n:Nat} (h1:l<16) (h2:8≤n) (h3:n≤4096):fW (l:Int) (n:Int):=by unfold fW;omega
theorem zb {lv nb:Int} {D:List UInt8} (h:¬fW lv nb):eu lv nb D=false:=by unfold eu;simp [h]
theorem y9 {l n:Nat} {D:List UInt8} (h:D.length≠(n+7) / 8):eu l n D=false:=by unfold eu;simp [h]
theorem CO {l n:Nat} {D:List UInt8} (h1:l<16) (h2:8≤n) (h3:n≤4096) (hl:D.length=(n+7) / 8):eu l n D=(n % 8==0||(D.getD (D.length - 1) 0).toNat / 2 ^ (n % 8)==0):=by
  have:=ub h1 h2 h3
  unfold eu
  simp only [this,decide_true,Bool.true_and,Int.toNat_natCast]
  rw [beq_iff_eq.2 hl,Bool.true_and]
theorem zc {l n:Nat} {D:List UInt8} (h1:l<16) (h2:8≤n) (h3:n≤4096) (hl:D.length=(n+7) / 8):eu l n D=true↔uH n D:=by
  rw [CO h1 h2 h3 hl, ←Qe hl h2];simp
theorem za {lv nb:Int} {D:List UInt8} (h:eu lv nb D=true):∃l n:Nat,lv=(l:Int)∧nb=(n:Int)∧l<16∧8≤n∧n≤4096∧D.length=(n+7) / 8∧uH n D:=by
  by_cases hs:fW lv nb
  · obtain ⟨l, n, rfl, rfl, h1, h2, h3⟩ := uB hs
    by_cases hl:D.length=(n+7) / 8
    · exact⟨l,n,rfl,rfl,h1,h2,h3,hl,(zc h1 h2 h3 hl).1 h⟩
    · rw [y9 hl]at h;cases h
  · rw [zb hs]at h;cases h
theorem wN {l n:Nat} {D:List UInt8} (h1:l<16) (h2:8≤n) (h3:n≤4096) (hl:D.length=(n+7) / 8) (ht:uH n D):eu l n D=true:=(zc h1 h2 h3 hl).2 ht
def mg (b:Bool):Int:=if b then 0 else 330
@[irreducible] def bN (x:List UInt8) (lv nb id i:Nat):Nat:=js (iW x lv id) (4*i) 4 % nb
theorem s4 (x:List UInt8) (lv nb id i:Nat):bN x lv nb id i=js (iW x lv id) (4*i) 4 % nb:=by unfold bN;rfl
theorem mK {x:List UInt8} {lv nb id:Nat} (h:0<nb) (i:Nat):bN x lv nb id i<nb:=by rw [s4];exact Nat.mod_lt _ h
theorem pK (x:List UInt8) (lv nb id i:Nat) (h:i<2):(((jB x lv nb id 2).map nJ).drop (i*1))[0]? =some (nJ (bN x lv nb id i)):=by
  rw [List.getElem?_drop,show i*1+0=i by omega,s4]
  simp [jB,h]
theorem I9 (x:List UInt8) (lv nb id:Nat):jB x lv nb id 2= [bN x lv nb id 0,bN x lv nb id 1]:=by simp [jB,s4,List.range_succ]
@[irreducible] def okB (lv nb:Int) (D:List UInt8) (id:Int):Bool:=eu lv nb D&&decide (0≤id∧id<1024)
theorem F3 {lv nb id:Int} {D:List UInt8} (h:eu lv nb D=false):okB lv nb D id=false:=by unfold okB;simp [h]
theorem F4 {lv nb id:Int} {D:List UInt8} (h:¬(0≤id∧id<1024)):okB lv nb D id=false:=by unfold okB;simp only [h,decide_false,Bool.and_false]
theorem Ax {lv nb id:Int} {D:List UInt8} (h:eu lv nb D=true) (h':0≤id∧id<1024):okB lv nb D id=true:=by unfold okB;simp only [h,h'];rfl
theorem qi {lv nb id:Int} {D:List UInt8} (h:okB lv nb D id=true):∃l n j:Nat,lv=(l:Int)∧nb=(n:Int)∧id=(j:Int)∧l<16∧8≤n∧n≤4096∧j<1024∧D.length=(n+7) / 8∧uH n D:=by
  unfold okB at h
  simp only [Bool.and_eq_true,decide_eq_true_eq]at h
  obtain⟨h,h5,h6⟩:=h
  obtain⟨l,n,rfl,rfl,h1,h2,h3,h4,ht⟩:=za h
  exact⟨l,n,id.toNat,rfl,rfl,by omega,h1,h2,h3,by omega,h4,ht⟩
@[irreducible] def qU (x:List UInt8) (lv nb:Int) (D:List UInt8) (id:Int):A:=if okB lv nb D id then .tu [.fz 2 ((jB x lv.toNat nb.toNat id.toNat 2).map nJ),.i .i64 0]else .tu [.nl,.i .i64 330]
theorem oz {x:List UInt8} {lv nb id:Int} {D:List UInt8} (h:okB lv nb D id=false):qU x lv nb D id= .tu [.nl,.i .i64 330]:=by unfold qU;rw [h];rfl
theorem qV {x:List UInt8} {l n j:Nat} {D:List UInt8} (h:okB l n D j=true):qU x l n D j= .tu [.fz 2 ((jB x l n j 2).map nJ),.i .i64 0]:=by unfold qU;rw [h];rfl
def nV (x:List UInt8) (l n j:Nat) (D:List UInt8):Bool:=fH D (bN x l n j 0)&&fH D (bN x l n j 1)
def su (x:List UInt8) (l n j:Nat) (D:List UInt8):Nat→List UInt8
  |0=>D
  |i+1=>kS (su x l n j D i) (bN x l n j i)
@[simp] theorem Al (x : List UInt8) (l n j : Nat) (D : List UInt8) : ∀ i, (su x l n j D i).length = D.length
  |0=>rfl
  |i+1=>by simp [su,Al x l n j D i]
abbrev qO (x:List UInt8) (l n j:Nat) (D:List UInt8):List UInt8:=su x l n j D 2
abbrev kW (lv nb:Int) (D:List UInt8):A:= .ag [.i .i64 lv,.i .i64 nb,eU D]
@[irreducible] def oK (x:List UInt8) (lv nb:Int) (D:List UInt8) (id:Int):A:=if okB lv nb D id then .tu [.b (nV x lv.toNat nb.toNat id.toNat D),.i .i64 0]else .tu [.b false,.i .i64 330]
theorem Ew {x:List UInt8} {lv nb id:Int} {D:List UInt8} (h:okB lv nb D id=false):oK x lv nb D id= .tu [.b false,.i .i64 330]:=by unfold oK;rw [h];rfl
theorem wi {x:List UInt8} {l n j:Nat} {D:List UInt8} (h:okB l n D j=true):oK x l n D j= .tu [.b (nV x l n j D),.i .i64 0]:=by unfold oK;rw [h];rfl
@[irreducible] def nB (x:List UInt8) (lv nb:Int) (D:List UInt8) (id:Int):A:=if okB lv nb D id then .tu [kW lv nb (qO x lv.toNat nb.toNat id.toNat D),.i .i64 0]else .tu [kW 0 0 [],.i .i64 330]
theorem BS {x:List UInt8} {lv nb id:Int} {D:List UInt8} (h:okB lv nb D id=false):nB x lv nb D id= .tu [kW 0 0 [],.i .i64 330]:=by unfold nB;rw [h];rfl
theorem BU {x:List UInt8} {l n j:Nat} {D:List UInt8} (h:okB l n D j=true):nB x l n D j= .tu [kW l n (qO x l n j D),.i .i64 0]:=by unfold nB;rw [h];rfl
@[irreducible] def rT (lv nb:Int):A:=if fW lv nb then .tu [kW lv nb (List.replicate ((nb.toNat+7) / 8) 0),.i .i64 0]else .tu [kW 0 0 [],.i .i64 330]
theorem FE {lv nb:Int} (h:¬fW lv nb):rT lv nb= .tu [kW 0 0 [],.i .i64 330]:=by unfold rT;rw [if_neg h]
theorem wO {l n:Nat} (h:fW (l:Int) (n:Int)):rT l n= .tu [kW l n (List.replicate ((n+7) / 8) 0),.i .i64 0]:=by unfold rT;rw [if_pos h];rfl
theorem Lw (b:UInt8) (r:Nat):(((UInt8.ofNat (b.toNat / 2 ^ r)&&& 1).toNat:Int)==0)= !(b.toNat.testBit r):=by
  have hb:=b.toNat_lt
  have h1:b.toNat / 2 ^ r≤b.toNat:=Nat.div_le_self _ _
  rw [UInt8.toNat_and,UInt8.toNat_ofNat',Nat.mod_eq_of_lt aq,show(1:UInt8).toNat=1 from rfl,Nat.and_one_is_mod,vl]
  have h2:=Nat.mod_two_eq_zero_or_one (b.toNat / 2 ^ r)
  rcases h2 with h|h<;>rw [h]<;>rfl
theorem Ob (b r:Nat):(((b / 2 ^ r % 2:Nat):Int)==1)=b.testBit r:=by
  rw [vl]
  have h2:=Nat.mod_two_eq_zero_or_one (b / 2 ^ r)
  rcases h2 with h|h<;>rw [h]<;>rfl
theorem Od:∀r,r<8→∀x,x<256→(x / 2 ^ r % 2==1)=false→UInt8.ofNat (x+2 ^ r)=UInt8.ofNat x|||jM r:=by decide+kernel
theorem Oe:∀r,r<8→∀x,x<256→(x / 2 ^ r % 2==1)=true→UInt8.ofNat x|||jM r=UInt8.ofNat x:=by decide+kernel
theorem Pv {l:List UInt8} {k:Nat} (h:fH l k=true):kS l k=l:=by
  unfold fH at h
  rw [vl]at h
  have:=Oe (k % 8) aq _ (l.getD (k / 8) 0).toNat_lt h
  rw [UInt8.ofNat_toNat]at this
  unfold kS
  rw [this]
  apply List.ext_getElem?
  intro j
  rw [List.getElem?_set]
  split
  · rename_i h; subst h
    split
    · rename_i h;simp [List.getD,h]
    · rename_i h;rw [List.getElem?_eq_none aq]
  · rfl
theorem Pq {l:List UInt8} {k:Nat} (h:fH l k=false):UInt8.ofNat ((l.getD (k / 8) 0).toNat+2 ^ (k % 8))=l.getD (k / 8) 0|||jM (k % 8):=by
  unfold fH at h
  rw [vl]at h
  have:=Od (k % 8) aq _ (l.getD (k / 8) 0).toNat_lt h
  rwa [UInt8.ofNat_toNat]at this
theorem PJ (b:UInt8) (r:Nat):(((UInt8.ofNat (b.toNat / 2 ^ r)).toNat:Int) !=0)= !(b.toNat / 2 ^ r==0):=by
  have hb:=b.toNat_lt
  have h1:b.toNat / 2 ^ r≤b.toNat:=Nat.div_le_self _ _
  rw [UInt8.toNat_ofNat',Nat.mod_eq_of_lt aq,bne]
  congr 1
  generalize b.toNat / 2 ^ r=q
  rw [Bool.eq_iff_iff]
  simp
theorem z7 {m:List UInt8} {i:Nat} (hi:i<m.length):((m.map u8).drop (i*1))[0]? =some (u8 (m.getD i 0)):=by
  rw [List.getElem?_drop,show i*1+0=i by omega]
  simp [hi]
theorem Eh {m:List UInt8} {i:Nat} (hi:i<m.length):((m.map u8).drop (0+i*1))[0]? =some (u8 (m.getD i 0)):=by
  rw [List.getElem?_drop,show 0+i*1+0=i by omega]
  simp [hi]
theorem Pm {m:List UInt8} {k:Nat}:((m.map u8).set (k / 8) (u8 (m.getD (k / 8) 0|||jM (k % 8))))=(kS m k).map u8:=by
  unfold kS;rw [List.map_set]
theorem Lu {x:List UInt8} {l n j i:Nat} {D:List UInt8} (h:i<2) (hb:fH D (bN x l n j i)=false):nV x l n j D=false:=by
  unfold nV
  have:i=0∨i=1:=by omega
  rcases this with rfl|rfl<;>simp [hb]
theorem Lv {x:List UInt8} {l n j:Nat} {D:List UInt8} (h:∀t,t<2→fH D (bN x l n j t)=true):nV x l n j D=true:=by
  unfold nV;rw [h 0 aq,h 1 aq];rfl
theorem Hd (m:List UInt8) (k:Nat):(m.map u8).set (0+k / 8*1) (u8 (m.getD (k / 8) 0|||jM (k % 8)))=(kS m k).map u8:=by
  rw [show 0+k / 8*1=k / 8 by omega];exact Pm
theorem Kq (b i:Nat):b / 2 ^ i / 2=b / 2 ^ (i+1):=by rw [Nat.div_div_eq_div_mul,Nat.pow_succ]
theorem div_zero (b:Nat):b=b / 2 ^ 0:=by simp
theorem Lm {d:List UInt8} {o i:Nat} (h:o+i<d.length) (hi:i<4):(((((d.map u8).drop o).take 4).drop (i*1)))[0]? =some (u8 (d.getD (o+i) 0)):=by
  rw [List.getElem?_drop,List.getElem?_take,if_pos aq,List.getElem?_drop,show o+(i*1+0)=o+i by omega]
  simp [h]
theorem MZ (d:List UInt8) (o i:Nat):256*js d o i+(d.getD (o+i) 0).toNat=js d o (i+1):=by rw [js,Nat.mul_comm]
theorem I6 {j:Nat} (h:j<1024):iG (BitVec.ofNat 32 j)= [0,0,UInt8.ofNat (j / 256),UInt8.ofNat (j % 256)]:=by
  have hj:j % 4294967296=j:=Nat.mod_eq_of_lt aq
  have e:∀k,(BitVec.ofNat 32 j>>>k).toNat=j / 2 ^ k:=fun k=>by
    rw [BitVec.toNat_ushiftRight,BitVec.toNat_ofNat,show(2:Nat) ^ 32=4294967296 from rfl,hj,Nat.shiftRight_eq_div_pow]
  unfold iG
  rw [e,e,e,BitVec.toNat_ofNat,show(2:Nat) ^ 32=4294967296 from rfl,hj,show j / 2 ^ 24=0 from Nat.div_eq_of_lt aq,show j / 2 ^ 16=0 from Nat.div_eq_of_lt aq]
  refine congrArg (fun z=> [0,0,UInt8.ofNat (j / 256),z]) ?_
  apply UInt8.toNat_inj.1
  rw [UInt8.toNat_ofNat',UInt8.toNat_ofNat']
  omega
theorem Lx {x:List UInt8} {l j:Nat} (h:j<1024):([]++x.map u8)++ [u8 (UInt8.ofNat l),.i .u8 0,.i .u8 0,u8 (UInt8.ofNat (j / 256)),u8 (UInt8.ofNat (j % 256))]=(x++UInt8.ofNat l::iG (BitVec.ofNat 32 j)).map u8:=by
  rw [I6 h];simp
theorem ND (i:Nat):2*2 ^ i=2 ^ (i+1):=by rw [Nat.pow_succ,Nat.mul_comm]
theorem Pr {l:List UInt8} {k:Nat} (h:fH l k=false):A.i .u8 (IntKind.u8.wrap ((l.getD (k / 8) 0).toNat+((UInt8.ofNat (2 ^ (k % 8))).toNat:Int)))=u8 (l.getD (k / 8) 0|||jM (k % 8)):=by
  rw [←Pq h]
  refine congrArg (A.i .u8) ?_
  have hk:(2:Nat) ^ (k % 8)<256:=Nat.lt_of_lt_of_le (Nat.pow_lt_pow_right aq (by omega:k % 8<8)) az
  rw [UInt8.toNat_ofNat',Nat.mod_eq_of_lt hk,UInt8.toNat_ofNat']
  show(((l.getD (k / 8) 0).toNat:Int)+((2 ^ (k % 8):Nat):Int)) % 256=_
  rw [←Int.natCast_add]
  rfl
theorem Qf {D:List UInt8} {n k:Nat} (h:∀t,n≤t→t<k→fH D t=false) (hp:fH D k=false):∀t,n≤t→t<k+1→fH D t=false:=fun t h1 h2=>(Nat.lt_or_ge t k).elim (h t h1) fun hg=>(Nat.le_antisymm (Nat.le_of_lt_succ h2) hg) ▸ hp
theorem JH {l n k:Nat} {D:List UInt8} (h1:l<16) (h2:8≤n) (h3:n≤4096) (hl:D.length=(n+7) / 8) (hk:n≤k) (hk2:k<8*D.length) (hb:fH D k=true):eu l n D=false:=by
  rw [Bool.eq_false_iff]
  intro h
  have:=(zc h1 h2 h3 hl).1 h k hk hk2
  rw [hb]at this;cases this
-- F3Q
abbrev u16 (x:UInt16):A:= .i .u16 (x.toNat:Int)
def pU (x:List UInt8) (lv nb:Int) (D:List UInt8) (id:Int):Bool:=okB lv nb D id&&nV x lv.toNat nb.toNat id.toNat D
theorem Eu (x:List UInt8) (lv nb:Int) (D:List UInt8) (id:Int):oK x lv nb D id= .tu [.b (pU x lv nb D id),.i .i64 (mg (okB lv nb D id))]:=by
  unfold oK pU
  cases okB lv nb D id<;>rfl
theorem Jb {x:List UInt8} {l n j:Nat} {D:List UInt8} (hn:0<n) (hl:D.length=(n+7) / 8) (k:Nat):fH (qO x l n j D) k=(fH D k||(k==bN x l n j 0||k==bN x l n j 1)):=by
  have h0:=mK (x:=x) (lv:=l) (id:=j) hn 0
  have h1:=mK (x:=x) (lv:=l) (id:=j) hn 1
  simp only [qO,su]
  rw [Cj aE,Cj aq,Bool.or_assoc]
theorem JG {x:List UInt8} {l n j:Nat} {D:List UInt8} (h:eu l n D=true):eu l n (qO x l n j D)=true:=by
  obtain⟨l',n',e1,e2,h1,h2,h3,h4,h5⟩:=za h
  obtain rfl:l=l':=by omega
  obtain rfl:n=n':=by omega
  have h0:=mK (x:=x) (lv:=l) (id:=j) (show 0<n by omega) 0
  have h1':=mK (x:=x) (lv:=l) (id:=j) (show 0<n by omega) 1
  refine wN h1 h2 h3 (by simp [h4]) fun k hk hk2=>?_
  rw [Jb aq h4,h5 k hk (by simpa using hk2),beq_eq_false_iff_ne.2 aq,beq_eq_false_iff_ne.2 aq];rfl
def lV (x:List UInt8) (lv nb:Int) (D:List UInt8) (id:Int):List UInt8:=if okB lv nb D id then qO x lv.toNat nb.toNat id.toNat D else D
theorem Ix {x:List UInt8} {lv nb id:Int} {D:List UInt8} (h:okB lv nb D id=true):nB x lv nb D id= .tu [kW lv nb (lV x lv nb D id),.i .i64 0]:=by unfold nB lV;rw [h];rfl
@[simp] theorem E8 (x:List UInt8) (lv nb:Int) (D:List UInt8) (id:Int):(lV x lv nb D id).length=D.length:=by unfold lV;split<;>simp
theorem JJ (x:List UInt8) (lv nb:Int) (D:List UInt8) (id:Int):eu lv nb (lV x lv nb D id)=eu lv nb D:=by
  unfold lV
  split
  · rename_i h
    obtain⟨l,n,j,rfl,rfl,rfl,h1,h2,h3,h4,h5,h6⟩:=qi h
    have hc:=wN h1 h2 h3 h5 h6
    rw [hc];exact JG hc
  · rfl
@[irreducible] def pI (x:List UInt8) (lv nb:Int) (D:List UInt8) (ids:List UInt16):List UInt8:=ids.foldl (fun D id=>lV x lv nb D ((id.toNat:Nat):Int)) D
theorem Iy (x:List UInt8) (lv nb:Int) (D:List UInt8):pI x lv nb D []=D:=by unfold pI;rfl
theorem Iz (x:List UInt8) (lv nb:Int) (D:List UInt8) (ids:List UInt16) (q:UInt16):pI x lv nb D (ids++ [q])=lV x lv nb (pI x lv nb D ids) ((q.toNat:Nat):Int):=by unfold pI;simp
theorem PO {α:Type} {p:List α→Prop} (h0:p []) (h1:∀l q,p l→p (l++ [q])) (l:List α):p l:=by
  rw [←List.reverse_reverse l]
  induction l.reverse with
  |nil=>exact h0
  |cons a m ih=>rw [List.reverse_cons];exact h1 _ _ ih
@[simp] theorem Q7 (x : List UInt8) (lv nb : Int) (D : List UInt8) (ids : List UInt16) : (pI x lv nb D ids).length = D.length :=
  PO (p:=fun ids=>(pI x lv nb D ids).length=D.length) (by rw [Iy]) (fun l q h=>by rw [Iz,E8,h]) ids
theorem M6 {l n j:Nat} {D:List UInt8} (h:eu l n D=true) (hj:j<1024):okB l n D j=true:=Ax h aq
theorem Jc (m k:Nat):fH (List.replicate m 0) k=false:=by
  unfold fH
  have:(List.replicate m (0:UInt8)).getD (k / 8) 0=0:=by
    rw [List.getD]
    cases h:(List.replicate m (0:UInt8))[k / 8]? with
    |none=>rfl
    |some v=>exact List.eq_of_mem_replicate (List.mem_of_getElem? h)
  rw [this]
  exact Nat.zero_testBit _
theorem CP {l n:Nat} (h:fW (l:Int) (n:Int)):eu l n (List.replicate ((n+7) / 8) 0)=true:=by
  unfold fW at h
  exact wN aq aq aq aA fun k _ _=>Jc _ _
structure eX where
  lv:Int
  nb:Int
  D:List UInt8
-- C4P
def fZ (last:Int):List Int→Bool
  | []=>true
  |n::l=>decide (last<n∧n<1024)&&fZ n l
def eD (l:List Int):Bool:=fZ (-1) l
def fA (l:List Int) (i:Nat):Int:=if i=0 then -1 else l.getD (i - 1) 0
theorem B1 {last n:Int} {l:List Int} {i:Nat} (h:l[i]? =some n):fZ last (l.drop i)=(decide (last<n∧n<1024)&&fZ n (l.drop (i+1))):=by
  have hi:=(List.getElem?_eq_some_iff.1 h).1
  rw [List.drop_eq_getElem_cons hi,(List.getElem?_eq_some_iff.1 h).2]
  rfl
theorem mm {n:Int} {l:List Int} {i:Nat} (h:l[i]? =some n):fA l (i+1)=n:=by
  unfold fA
  rw [if_neg aq,List.getD,Nat.add_sub_cancel,h];rfl
theorem nD {n:Int} {l:List Int} {i:Nat} (h0:eD l=fZ (fA l i) (l.drop i)) (h:l[i]? =some n) (h1:fA l i<n∧n<1024):eD l=fZ (fA l (i+1)) (l.drop (i+1)):=by
  rw [h0,B1 h,decide_eq_true h1,Bool.true_and,mm h]
theorem l6 {n:Int} {l:List Int} {i:Nat} (h0:eD l=fZ (fA l i) (l.drop i)) (h:l[i]? =some n) (h1:¬(fA l i<n∧n<1024)):eD l=false:=by
  rw [h0,B1 h,decide_eq_false h1,Bool.false_and]
theorem sV {l:List Int} (h0:eD l=fZ (fA l l.length) (l.drop l.length)):eD l=true:=by
  rw [h0,List.drop_length];rfl
theorem sW (l:List Int):eD l=fZ (fA l 0) (l.drop 0):=rfl
theorem B3:∀ {l:List Int} {last:Int},fZ last l=true→∀n∈l,last<n∧n<1024
  | [],_,_,n,hn=>by cases hn
  | a :: l, last, h, n, hn => by
    simp only [fZ,Bool.and_eq_true,decide_eq_true_eq]at h
    rcases List.mem_cons.1 hn with rfl|hn
    · exact h.1
    · have := B3 h.2 n hn
      omega
theorem wD {l:List Int} (h:eD l=true):∀n∈l,0≤n∧n<1024:=fun n hn=>by
  have:=B3 h n hn
  omega
structure dL where
  x:List UInt8
  F:List eX
  E:List Int
abbrev gV (f:eX):List A:= [.i .i64 f.lv,.i .i64 f.nb,eU f.D]
abbrev tK (F:List eX):A:= .fz F.length (F.flatMap gV)
abbrev kg (E:List Int):A:= .fz E.length (E.map (A.i .i64))
abbrev fE (c:dL):List A:=c.x.map u8++ [tK c.F,kg c.E]
def gI:Nat→List eX→Bool
  |_, []=>true
  |i,f::F=>decide (f.lv=i)&&eu f.lv f.nb f.D&&gI (i+1) F
def fO (c:dL):Bool:=decide (c.F.length≤16)&&eD c.E&&gI 0 c.F
def ru (b:Bool):Int:=if b then 0 else 340
theorem Ff {F:List eX} {f:eX} {i:Nat} (h:F[i]? =some f):gI i (F.drop i)=(decide (f.lv=i)&&eu f.lv f.nb f.D&&gI (i+1) (F.drop (i+1))):=by
  have hi:=(List.getElem?_eq_some_iff.1 h).1
  rw [List.drop_eq_getElem_cons hi,(List.getElem?_eq_some_iff.1 h).2]
  rfl
theorem Fi {F:List eX} {f:eX} {i:Nat} (h0:gI 0 F=gI i (F.drop i)) (h:F[i]? =some f) (h1:f.lv=i) (h2:eu f.lv f.nb f.D=true):gI 0 F=gI (i+1) (F.drop (i+1)):=by
  rw [h0,Ff h,decide_eq_true h1,h2,Bool.true_and,Bool.true_and]
theorem wA {F:List eX} {f:eX} {i:Nat} (h0:gI 0 F=gI i (F.drop i)) (h:F[i]? =some f) (h1:¬(f.lv=i∧eu f.lv f.nb f.D=true)):gI 0 F=false:=by
  rw [h0,Ff h]
  by_cases h2:f.lv=i
  · have : eu f.lv f.nb f.D = false := by rw [Bool.eq_false_iff]; exact fun e => h1 ⟨h2, e⟩
    rw [this];simp
  · rw [decide_eq_false h2];simp
theorem Fg {F:List eX} (h0:gI 0 F=gI F.length (F.drop F.length)):gI 0 F=true:=by
  rw [h0,List.drop_length];rfl
theorem tL {F:List eX} {f:eX} {i:Nat} (h:F[i]? =some f):((F.flatMap gV).drop (i*3)).take 3=gV f:=by
  induction F generalizing i with
  |nil=>simp at h
  | cons g F ih =>
    cases i with
    |zero=>simp at h;subst h;simp
    | succ i =>
      have e:(i+1)*3=i*3+3:=by omega
      rw [List.getElem?_cons_succ]at h
      rw [e,List.flatMap_cons,Nat.add_comm, ←List.drop_drop]
      simpa using ih h
theorem Jp {c:dL} (hx:c.x.length=32):(fE c).take 32=c.x.map u8:=by
  rw [List.take_left' aY]
theorem nH {c:dL} (hx:c.x.length=32):((fE c).drop 32)[0]? =some (tK c.F):=by
  rw [List.drop_left' aY];rfl
theorem s6 {c:dL} (hx:c.x.length=32):((fE c).drop 33)[0]? =some (kg c.E):=by
  rw [show 33=32+1 from rfl, ←List.drop_drop,List.drop_left' aY];rfl
theorem ee {l:List Int} {i:Nat} {n:Int} (h:l[i]? =some n):((l.map (A.i .i64)).drop (i*1))[0]? =some (A.i .i64 n):=by
  rw [List.getElem?_drop,show i*1+0=i by omega,List.getElem?_map,h];rfl
theorem CG {c:dL} (h:¬c.F.length≤16):fO c=false:=by unfold fO;rw [decide_eq_false h];simp
theorem CH {c:dL} (h:eD c.E=false):fO c=false:=by unfold fO;rw [h];simp
theorem vw {c:dL} (h:gI 0 c.F=false):fO c=false:=by unfold fO;rw [h];simp
theorem y5 {c:dL} (h1:c.F.length≤16) (h2:eD c.E=true) (h3:gI 0 c.F=true):fO c=true:=by unfold fO;rw [decide_eq_true h1,h2,h3];rfl
theorem k9 (b:Bool):b=false∨b=true:=by cases b<;>simp
theorem Qs (q:Int) (i:Nat):q<0∨(0≤q∧¬q<1024)∨(0≤q∧q<1024∧i=0)∨(0≤q∧q<1024∧0<i):=by omega
theorem LW (l:List Int) {i:Nat} (h:i=0):fA l i= -1:=by subst h;rfl
theorem K3 {F:List eX} {f:eX} {i:Nat} (h:F[i]? =some f):((F.flatMap gV).drop (i*3))[0]? =some (A.i .i64 f.lv):=by
  have:=tL h
  have e:(((F.flatMap gV).drop (i*3)).take 3)[0]? =some (A.i .i64 f.lv):=by rw [this];rfl
  rwa [List.getElem?_take,if_pos aq]at e
end Go.Abs.D2
-- V6P
namespace Go.Abs.V6
open Go Go.Eng Go.Abs
def JK (l:List UInt8) (k:Nat):Bool:=UInt8.ofNat ((l.getD (k / 8) 0).toNat / 2 ^ (k % 8))&&& 1==1
def change (l:List UInt8) (k:Nat):List UInt8:=l.set (k / 8) (l.getD (k / 8) 0 ^^^ jM (k % 8))
def cut (many:Nat) (l:List UInt8):List UInt8:=if many % 8=0 then l else l.set (many / 8) (l.getD (many / 8) 0&&& (jM (many % 8) - 1))
def sized (many:Int) (n:Nat):Bool:=decide (1≤many∧many≤1024∧(n:Int)=(many+7) / 8)
def masked (many:Int) (l:List UInt8):Bool:=sized many l.length&&l==cut many.toNat l
def qE (a b:List UInt8):List UInt8:=List.zipWith (· ^^^ ·) a b
def qJ:List UInt8:=List.replicate 16 0
def answer (db:List (List UInt8)) (m:List UInt8):List UInt8:=(List.range db.length).foldl (fun s n=>if JK m n then qE s (db.getD n [])else s) qJ
def J7 (db:List (List UInt8)):Bool:=db.all (fun b=>b.length==16)&&decide (1≤db.length∧db.length≤1024)
def answers (db ms:List (List UInt8)):List (List UInt8)×Int:=
  if J7 db&&decide (ms.length≤132)&&ms.all (masked db.length)then (ms.map (answer db),0)else([],360)
theorem xor_zero (a b:List UInt8) (ha:a.length=16): [a,b].foldl qE qJ=qE a b:=by
  simp only [List.foldl_cons,List.foldl_nil]
  have:qE qJ a=a:=by
    apply List.ext_getElem
    · simp [qE,qJ,ha]
    · intro i h1 h2
      have e:qJ[i]'(by simp only [qJ,List.length_replicate];omega)=0:=by simp only [qJ,List.getElem_replicate]
      simp only [qE,List.getElem_zipWith,e]
      simp
  rw [this]
def g9 (ls:List (List UInt8)) (most:Int):Bool:=ls.all (fun l=>decide (l.length≤130))&&decide ((ls.length:Int)≤most)
def blk (b:UInt8):List UInt8:=b::List.replicate 15 0
def want (at':List Int) (k:Nat):Int:=if k<at'.length then at'.getD k 0 else 0
end Go.Abs.V6
-- AbsR
namespace Go.Abs
open Go Go.Eng
section
variable {P:Program} {w0:Bw} {X0:Xs} {n:Nat} {E:Ev} {st:St} {K:Act→World→Prop} {Q:Exit→Act→World→Prop}
theorem Q1 (z:Value) (k:Nat):(Builtin.zeroCells #[z] k).toList=List.replicate k z:=by
  apply List.ext_getElem
  · simp [Builtin.zeroCells]
  · intro i h1 h2
    simp [Builtin.zeroCells,Nat.mod_one]
end
end Go.Abs
-- V6Q
namespace Go.Abs.D2
end Go.Abs.D2
namespace Go.Abs.V6
open Go Go.Eng Go.Abs
theorem z8 {m:List UInt8} {i:Nat} (hi:i<m.length):((m.map u8).drop (0+i*1))[0]? =some (u8 (m.getD i 0)):=by
  rw [List.getElem?_drop,show 0+i*1+0=i by omega]
  simp [hi]
end Go.Abs.V6
namespace Go.Abs.D2
open Go Go.Eng Go.Abs
end Go.Abs.D2
namespace Go.Abs.V6
open Go Go.Eng Go.Abs Go.Abs.D2
end Go.Abs.V6
namespace Go.Abs.D2
open Go Go.Eng Go.Abs
-- V6R
end Go.Abs.D2
-- AbsS
namespace Go.Abs
open Go Go.Eng
section
variable {P:Program} {w0:Bw} {X0:Xs} {n:Nat} {E:Ev} {st:St} {K:Act→World→Prop} {Q:Exit→Act→World→Prop}
theorem MA {d : Nat} (nx : Nat) (hfr : st.free nx = true) (s0 : St) (ow : Bool) {f : FuncId} {xs : List Operand} {vs vs' ds : List A} {s m : Nat} {ats : Array TypeId} {ty : TypeId} {pos aft' g} (hxs : fx E xs = some vs) (hS : jy st s0 ow s0.os) (hv : cK st s0 ow vs vs')
    (hc:eQ P f vs' s0 (fk s m ds)) (hp:dF ds) (hf:ow=false∨fL ds) (hd:Nat.ble (d+1) n=true) (h:At w0 X0 n ((d,.sl nx s 0 m)::E) ((b6 s0 st []).put nx ds) K):
    At w0 X0 n E st (fun a w=>(⟨some d,.call {callee:= .value (.func f),args:=xs.toArray,argTypes:=ats},ty,pos,aft',g⟩:Oper).wp P a w K Q):=by
  rintro a w ⟨β,X,hr⟩
  have hss:∀id cs,s0.get id=some cs→st.get id=some cs:=fun id cs h=>(lj hS h).1
  refine oB (fs:= []) (cs:= []) hr rfl hxs hS aU hc fun v w' ⟨r,β',X',st',hR,hsup,hsub,hm,hvv⟩=>?_
  obtain⟨id,rfl,hg⟩:=hR
  obtain⟨m1,m2,m3,m4,m6⟩:=hm.after hr hss hsub hsup (upds:= []) (fun p hp=>by cases hp)
  have hnx:=hr.mem.dom nx hfr
  have hfa:∀k,(b6 s0 st []).free k=true→st.free k=true:=fun k=>(mI (s0:=s0) (st:=st) (upds:= [])).2
  have hga:∀k ck,(b6 s0 st []).get k=some ck→s0.free k=true∧st.get k=some ck:=fun k ck hk=>by
    rcases(mI (s0:=s0) (st:=st) (upds:= [])).1 ck hk with h|h
    · cases h
    · exact h
  have ho:=hm.obj id ds hg
  unfold OB at ho
  simp only [V]at hvv
  rcases hvv with ⟨hβ,rfl,_,rfl⟩|⟨b,N,cap,hβ,rfl,c1,c2,c3⟩
  · rw [hβ] at ho
    have ho:ds= []:=ho
    subst ho
    have m5 : Mem w0 (dS β nx .ph) (fun b o => X b o ∨ (X' b o ∧ (bw w (er s0 β) s0 fC).own b)) ((b6 s0 st []).put nx []) w' := by
      refine .of (m1.below) (fun k y h=>(en hnx) k y (m1.b0 k y h)) (m1.xlt) (fun k h=>?_) (fun k es hk=>?_) (fun i j ci cj q M N' hij hi hj hbi hbj=>?_)
      · rw [St.gF] at h
        split at h
        · cases h
        · rename_i hne
          rw [dV (fun e=>hne e.symm)]
          exact hr.mem.dom k (hfa k h)
      · rw [St.ef] at hk
        split at hk
        · rename_i e; subst e
          simp only [Option.some.injEq]at hk
          subst hk
          unfold OB
          rw [dA]
        · refine (m1.obj k es hk).later (fun _ _ h => ⟨h, rfl⟩) (en hnx) (fun q M hq => ⟨rfl, ?_⟩) fun q hq => ⟨rfl, ((m1.obj k es hk).gB hq).2.2.1⟩
          have hk':=m1.obj k es hk
          unfold OB at hk'
          rw [hq]at hk'
          exact hk'.2.1
      · rw [St.ef] at hi hj
        by_cases ei:nx=i
        · subst ei;rw [dA]at hbi;cases hbi
        · rw [if_neg ei] at hi
          rw [dV aq]at hbi
          by_cases ej:nx=j
          · subst ej;rw [dA]at hbj;cases hbj
          · rw [if_neg ej] at hj
            rw [dV aq]at hbj
            exact m1.inj i j ci cj q M N' hij hi hj hbi hbj
    exact h _ _ ⟨_,_,hr.jT hd m2 m3 (en hnx) m5 aR⟩
  · rw [hβ] at ho
    obtain⟨o1,o2,us,rest,ety,o3,o4,o5,o6⟩:=ho
    have hown:w0.own b∧∀k ck q M,(b6 s0 st []).get k=some ck→β k=some (.bk q M)→q≠b:=by
      rcases o1 with h|⟨id',cs',h1,y',h2,h2'⟩
      · have h : w.heap.size ≤ b := h
        refine⟨Bw.mr hr.mem.below h,fun k ck q M hk hq=>?_⟩
        have:=m6 q M k ck (hga k ck hk).2 hq
        omega
      · obtain ⟨g3, g4⟩ := my h2
        refine⟨((hr.mem.obj id' cs' (hss id' cs' h1)).mT g4 h2').2.1,fun k ck q M hk hq e=>?_⟩
        subst e
        obtain⟨k1,k2⟩:=hga k ck hk
        refine hr.mem.apart (fun e=>?_) k2 (hss id' cs' h1) hq g4 rfl h2'
        subst e;rw [k1]at g3;cases g3
    have hnX:∀o,¬(X b o∨(X' b o∧(bw w (er s0 β) s0 fC).own b)):=fun o h=>by
      rcases h with h|⟨h,_⟩
      · exact o2 o (hsup b o (.inl h))
      · exact o2 o h
    have hvs:VS (fun b o=>X b o∨(X' b o∧(bw w (er s0 β) s0 fC).own b)) w' (dS β nx (.bk b N)) ds us:=by
      rcases hf with hf|hf
      · exact gP (m4 hf) _ _ _ _ (dE.refl _) (l3 _ _ hp o5)
      · exact nA _ _ hf o5
    have m5 : Mem w0 (dS β nx (.bk b N)) (fun b o => X b o ∨ (X' b o ∧ (bw w (er s0 β) s0 fC).own b)) ((b6 s0 st []).put nx ds) w' := by
      refine .of (m1.below) (fun k y h=>(en hnx) k y (m1.b0 k y h)) (m1.xlt) (fun k h=>?_) (fun k es hk=>?_) (fun i j ci cj q M N' hij hi hj hbi hbj=>?_)
      · rw [St.gF] at h
        split at h
        · cases h
        · rename_i hne
          rw [dV (fun e=>hne e.symm)]
          exact hr.mem.dom k (hfa k h)
      · rw [St.ef] at hk
        split at hk
        · rename_i e; subst e
          simp only [Option.some.injEq]at hk
          subst hk
          unfold OB
          rw [dA]
          exact⟨hown.1,hnX,us,rest,ety,o3,o4,hvs,o6⟩
        · refine (m1.obj k es hk).later (fun _ _ h => ⟨h, rfl⟩) (en hnx) (fun q M hq => ⟨rfl, ?_⟩) fun q hq => ⟨rfl, ((m1.obj k es hk).gB hq).2.2.1⟩
          have hk':=m1.obj k es hk
          unfold OB at hk'
          rw [hq]at hk'
          exact hk'.2.1
      · rw [St.ef] at hi hj
        by_cases ei:nx=i
        · by_cases ej : nx = j
          · omega
          · rw [if_neg ej] at hj
            rw [←ei,dA]at hbi
            rw [dV aq]at hbj
            simp only [Option.some.injEq,BL.bk.injEq]at hbi
            exact hown.2 j cj q N' hj hbj aq
        · rw [if_neg ei] at hi
          rw [dV aq]at hbi
          by_cases ej:nx=j
          · rw [← ej, dA] at hbj
            simp only [Option.some.injEq,BL.bk.injEq]at hbj
            exact hown.2 i ci q M hi hbi aq
          · rw [if_neg ej] at hj
            rw [dV aq]at hbj
            exact m1.inj i j ci cj q M N' hij hi hj hbi hbj
    exact h _ _ ⟨_,_,hr.jT hd m2 m3 (en hnx) m5 bb⟩
end
end Go.Abs
namespace Go.Eng
end Go.Eng
namespace Go.Abs
open Go Go.Eng
section
variable {P:Program} {n:Nat}
def yU (w:World) (β:Bm) (s0:St):Bw:=⟨w,fun b=>∃id cs,s0.get id=some cs∧∃y,β id=some y∧y.on b,fun _=>none, [],fun id x h=>(by cases h), []⟩
theorem zX:∀os:List (Nat×Option (List A)),∃N,∀K,N≤K→fresh os K=true
  | []=>⟨0,fun _ _=>rfl⟩
  | p :: os => by
    obtain⟨N,h⟩:=zX os
    refine⟨N+p.1+1,fun K hK=>?_⟩
    rw [oG,if_neg aq]
    exact h K aq
theorem zY:∀(os:List (Nat×Option (List A))) (K:Nat),fresh ((os.map fun p=>(p.1,(none:Option (List A))))++ []) K=fresh os K
  | [],_=>rfl
  | p :: os, K => by
    rw [List.map_cons,List.cons_append,oG,oG,zY os K]
theorem Nz {w : World} {X : Xs} {β : Bm} {s0 : St} {hd : ∀ id, s0.free id = true → β id = none} {s m : Nat} {ds : List A} {v : Value} {w' : World} (hp : dF ds) (h : Post (yU w β s0) X (fk s m ds) v w') : Post (bw w β s0 hd) X (fk s m ds) v w' := by
  obtain⟨r,β',X',st',⟨id,rfl,hg⟩,h1,h2,hm,hv⟩:=h
  obtain⟨N0,hN⟩:=zX s0.os
  have hK:s0.free N0=true:=hN N0 (Nat.le_refl _)
  have hnx:=hd N0 hK
  have hbel:KB (bw w β s0 hd) w':=⟨hm.below.os,hm.below.tape,hm.below.output,hm.below.size,hm.below.block,fun s hs=>by cases hs⟩
  have hfa:∀k,(b6 s0 ⟨[]⟩ []).free k=true→s0.free k=true:=fun k hk=>by
    have:=zY s0.os k
    unfold b6 St.free at hk
    unfold St.free
    rw [←this];exact hk
  have hga:∀k ck,(b6 s0 ⟨[]⟩ []).get k=some ck→False:=fun k ck hk=>by
    rcases(mI (s0:=s0) (st:=⟨[]⟩) (upds:= [])).1 ck hk with h|⟨_,h⟩
    · cases h
    · cases h
  have ho:=hm.obj id ds hg
  unfold OB at ho
  have key:∀y:BL,OB (dS β N0 y) X' w' (bw w β s0 hd) N0 ds→Mem (bw w β s0 hd) (dS β N0 y) X' ((b6 s0 ⟨[]⟩ []).put N0 ds) w':=fun y hy=>by
    refine .of hbel (en hnx) hm.xlt (fun k h=>?_) (fun k es hk=>?_) (fun i j ci cj q M N' hij hi hj hbi hbj=>?_)
    · rw [St.gF] at h
      split at h
      · cases h
      · rename_i hne
        rw [dV (fun e=>hne e.symm)]
        exact hd k (hfa k h)
    · rw [St.ef] at hk
      split at hk
      · rename_i e; subst e
        simp only [Option.some.injEq]at hk
        subst hk
        exact hy
      · exact absurd hk (fun h=>hga k es h)
    · rw [St.ef] at hi hj
      by_cases ei:N0=i
      · rw [if_neg aq] at hj
        exact absurd hj (fun h=>hga j cj h)
      · rw [if_neg ei] at hi
        exact absurd hi (fun h=>hga i ci h)
  simp only [V]at hv
  rcases hv with ⟨hβ,rfl,e2,rfl⟩|⟨b,N,cap,hβ,rfl,c1,c2,c3⟩
  · rw [hβ] at ho
    refine⟨.sl N0 s 0 0,dS β N0 .ph,X',_,⟨N0,rfl,by rw [St.ef,if_pos rfl]⟩,h1,h2,key .ph (by unfold OB;rw [dA];exact ho),?_⟩
    simp only [V];exact .inl ⟨dA,by simp⟩
  · rw [hβ] at ho
    obtain⟨o1,o2,us,rest,ety,o3,o4,o5,o6⟩:=ho
    refine⟨.sl N0 s 0 m,dS β N0 (.bk b N),X',_,⟨N0,rfl,by rw [St.ef,if_pos rfl]⟩,h1,h2,key (.bk b N) (by unfold OB;rw [dA];exact⟨o1,o2,us,rest,ety,o3,o4,l3 _ _ hp o5,o6⟩),?_⟩
    simp only [V];exact .inr ⟨b,N,cap,dA,rfl,c1,c2,c3⟩
end
end Go.Abs
-- S7P
namespace Go.Abs.D2
open Go Go.Eng Go.Abs
@[irreducible] def yR (c : dL) (id i k : Nat) : Nat := match c.F[i]? with
  |some f=>bN c.x i f.nb.toNat id k
  |none=>0
def mY (c:dL) (id j:Nat):Int:=((32*(j / 2)+yR c id (j / 2) (j % 2) / 128:Nat):Int)
def AF (c:dL) (id n:Nat):List Int:=(List.range n).map (mY c id)
@[simp] theorem Ru (c:dL) (id n:Nat):(AF c id n).length=n:=by simp [AF]
def HQ (c:dL) (id:Nat):List Int:=AF c id 32++ [((512+id / 128:Nat):Int)]
@[simp] theorem RC (c:dL) (id:Nat):(HQ c id).length=33:=by simp [HQ]
abbrev iA:Int→A:= .i .i64
theorem fI {c:dL} (hx:c.x.length=32):(fE c).length=34:=by simp [fE,hx]
theorem vo {c:dL} (hx:c.x.length=32):(fE c).take 34=fE c:=List.take_of_length_le (by rw [fI hx];omega)
def mu (p:Nat→Bool):Nat→Nat
  |0=>0
  |n+1=>if mu p n=n∧p n=true then n+1 else mu p n
theorem F9 (p:Nat→Bool):∀n,mu p n≤n
  |0=>Nat.le_refl _
  | n + 1 => by
    unfold mu;split
    · omega
    · have:=F9 p n;omega
theorem AD {p:Nat→Bool}:∀ {n:Nat},(∀t,t<n→p t=true)→mu p n=n
  |0,_=>rfl
  |n+1,h=>by unfold mu;rw [if_pos ⟨AD fun t ht=>h t aq,h n aq⟩]
theorem Ga {p:Nat→Bool} {i:Nat}:∀ {n:Nat},i<n→(∀t,t<i→p t=true)→p i=false→mu p n=i
  |0,h,_,_=>by omega
  | n + 1, h, h1, h2 => by
    unfold mu
    by_cases hi:i=n
    · subst hi;rw [if_neg (by rw [h2];simp),AD h1]
    · have := Ga (n := n) aq h1 h2
      rw [if_neg (by rw [this];omega),this]
def yS (bl:List (List UInt8)) (i b:Nat):Bool:=fH (bl.getD i []) (b % 128)
def My (c:dL) (id:Nat) (bl:List (List UInt8)) (i:Nat):Bool:=yS bl (2*i) (yR c id i 0)&&yS bl (2*i+1) (yR c id i 1)
def N6 (c:dL) (id:Nat) (bl:List (List UInt8)):Bool:=(mu (My c id bl) c.F.length % 2==1) !=yS bl 32 id
theorem Qh {p:Int→Bool} {l:List Int} {j:Nat} {x:Int} (h:l[j]? =some x) (h1:(l.take j).any p=false) (h2:p x=false):(l.take (j+1)).any p=false:=by
  rw [List.take_add_one,h];simp [h1,h2]
def kP (M:List UInt8) (o:Nat) (D:List UInt8):Nat→List UInt8
  |0=>M
  |k+1=>(kP M o D k).set (o+k) (D.getD k 0)
@[simp] theorem E6 (M : List UInt8) (o : Nat) (D : List UInt8) : ∀ k, (kP M o D k).length = M.length
  |0=>rfl
  |k+1=>by simp [kP,E6 M o D k]
def H8:List UInt8:=List.replicate 8320 0
def rB (F:List eX):Nat→List UInt8
  |0=>H8
  |i+1=>kP (rB F i) (512*i) ((F.map eX.D).getD i []) ((F.map eX.D).getD i []).length
@[simp] theorem Mb (F : List eX) : ∀ i, (rB F i).length = 8320
  |0=>by rw [rB,H8,List.length_replicate]
  |i+1=>by rw [rB,E6,Mb F i]
def tJ (M:List UInt8) (E:List Int):Nat→List UInt8
  |0=>M
  |k+1=>kS (tJ M E k) (65536+(E.getD k 0).toNat)
@[simp] theorem Ma (M : List UInt8) (E : List Int) : ∀ k, (tJ M E k).length = M.length
  |0=>rfl
  |k+1=>by rw [tJ,E7,Ma M E k]
@[irreducible] def Ad (c:dL):List UInt8:=tJ (rB c.F c.F.length) c.E c.E.length
theorem Lz (c:dL):Ad c=tJ (rB c.F c.F.length) c.E c.E.length:=by unfold Ad;rfl
@[simp] theorem Ro (c:dL):(Ad c).length=8320:=by rw [Lz];simp
def Je (M:List UInt8) (i:Nat):List UInt8:=(M.drop (16*i)).take 16
def C6 (M:List UInt8) (i:Nat):List (List UInt8):=(List.range i).map (Je M)
@[simp] theorem Re (M:List UInt8) (i:Nat):(C6 M i).length=i:=by simp [C6]
-- S7Q
def AT (a b:List (List UInt8)) (n m:Nat):List (List UInt8):=(List.range m).map fun k=>V6.qE (a.getD (33*n+k) []) (b.getD (33*n+k) [])
@[simp] theorem Rz (a b:List (List UInt8)) (n m:Nat):(AT a b n m).length=m:=by simp [AT]
def Gy (c:dL) (ids:List Int) (a b:List (List UInt8)) (k:Nat):List Bool:=(List.range k).map fun n=>N6 c (ids.getD n 0).toNat (AT a b n 33)
@[simp] theorem Rx (c:dL) (ids:List Int) (a b:List (List UInt8)) (k:Nat):(Gy c ids a b k).length=k:=by simp [Gy]
structure yg where
  a:Int
  b:Int
  d:Int
  r:List A
def C5 (l:List yg):List Int:=l.map yg.d
@[simp] theorem Rc (l:List yg):(C5 l).length=l.length:=by simp [C5]
theorem Fh:∀ {F:List eX} {j i:Nat} {f:eX},gI j F=true→F[i]? =some f→f.lv=(j+i:Nat)∧eu f.lv f.nb f.D=true
  | [],_,_,_,_,h=>by simp at h
  | g :: F, j, i, f, h0, h => by
    simp only [gI,Bool.and_eq_true,decide_eq_true_eq]at h0
    cases i with
    |zero=>simp at h;subst h;exact h0.1
    | succ i =>
      have:=Fh h0.2 aO
      rw [show j+(i+1)=j+1+i by omega];exact this
theorem q9 {c:dL} (h:fO c=true):c.F.length≤16∧eD c.E=true∧gI 0 c.F=true:=by
  unfold fO at h
  simp only [Bool.and_eq_true,decide_eq_true_eq]at h
  exact⟨h.1.1,h.1.2,h.2⟩
theorem JF {c:dL} (h:fO c=true) {i:Nat} {f:eX} (hf:c.F[i]? =some f):f.lv=(i:Nat)∧∃n:Nat,f.nb=(n:Int)∧8≤n∧n≤4096∧f.D.length=(n+7) / 8∧eu (i:Nat) (n:Nat) f.D=true:=by
  have:=Fh (q9 h).2.2 hf
  obtain⟨l,n,e1,e2,_,h2,h3,h4,_⟩:=za this.2
  refine⟨by rw [this.1];simp,n,e2,h2,h3,h4,?_⟩
  have e3:=this.2
  rw [this.1,e2]at e3
  simpa using e3
-- S7R
abbrev j9:List UInt8:=List.replicate 32 0
abbrev Jl:dL:=⟨j9, [], []⟩
abbrev Jm:dL:=⟨j9, [], [0,1023]⟩
theorem hx1:Jm.x.length=32:=rfl
theorem HS:∀l:List A,jK (l++ [.nl,.nl]) (l++ [.fz 0 [],.fz 0 []])
  | []=> .cons .nl (.cons .nl .nil)
  |_::l=> .cons (.eq rfl) (HS l)
theorem sF:jK (j9.map u8++ [.nl,.nl]) (fE Jl):=HS _
-- S7T
theorem qy {x:List UInt8} (hx:x.length=32) (l:List A):((x.map u8++l).drop 32)=l:=List.drop_left' aY
theorem sy {x:List UInt8} (hx:x.length=32) (v a b:A):(x.map u8++ [a,b]).set 32 v=x.map u8++ [v,b]:=by
  rw [List.set_append_right _ _ aH,List.length_map,hx];rfl
theorem rC (F:List eX):(F.flatMap gV).length=F.length*3:=by
  induction F with
  |nil=>rfl
  |cons f F ih=>rw [List.flatMap_cons,List.length_append,ih,List.length_cons];simp;omega
-- S7U
-- C4Q
end Go.Abs.D2
-- MapE
namespace Go.Eng
open Go Go.MapKept
section
variable {P:Program} {n:Nat} {E:Env} {S:List World} {H:List (Nat×Obj)} {Q:Exit→Act→World→Prop}
theorem Ap {d:Nat} {t ty:TypeId} {pos b6 g} {K:Act→World→Prop} (hd:Nat.ble (d+1) n=true)
    (h:∀b,mn S b→mq H b→At n ((d,.map (some b))::E) S ((b,.map #[] 0)::H) K):
    At n E S H (fun a w=>(⟨some d,.makeMap t none,ty,pos,b6,g⟩:Oper).wp P a w K Q):=by
  intro a w hR hG
  have hf:=hG.fresh
  show Oper.wp P _ a w K Q
  unfold Oper.wp
  have:(execOp a.eval ⟨some d,.makeMap t none,ty,pos,b6,g⟩).run P w= .ok (.value (.map (some w.heap.size))) {w with heap:=w.heap.push (.map #[] 0)}:=by
    simp [execOp,Instr.makeMap]
  rw [this]
  exact h w.heap.size hf.1 hf.2 _ _ (hR.put hd _) (hG.alloc _)
theorem wM {t kt et ty:TypeId} {pos b6 g} {x y z:Operand} {b clk:Nat} {es:Array MapEntry} {f:Int→Option Value} {k:Int} {v:Value} {K:Act→World→Prop} (i:Nat) (hm:P.underlying t=some (.map kt et)) (hk:P.underlying kt=some (.int .i64))
    (hx:ev E x=some (.map (some b))) (hy:ev E y=some (.int .i64 k)) (hz:ev E z=some v) (hi:H[i]? =some (b,.map es clk)) (hF:fG es clk f)
    (h:∀es' clk',fG es' clk' (j3 f k v)→At n E S (H.set i (b,.map es' clk')) K):
    At n E S H (fun a w=>(⟨none,.mapUpdate t x y z,ty,pos,b6,g⟩:Oper).wp P a w K Q):=by
  intro a w hR hG
  have hb:=hG.own _ (List.mem_of_getElem? hi)
  simp only at hb
  have hkk:IsKey (.int .i64) (Value.int .i64 k):=rfl
  show Oper.wp P _ a w K Q
  unfold Oper.wp
  rcases findNow_spec hkk es.toList 0 hF.keys with ⟨h1,h2⟩|⟨j,e,h1,h2,h3⟩
  · have : (execOp a.eval ⟨none, .mapUpdate t x y z, ty, pos, b6, g⟩).run P w = .ok .skip { w with heap := w.heap.setIfInBounds b (.map (es.push { key := .int .i64 k, val := v, born := clk }) (clk + 1)) } := by
      simp [execOp,hR.ev hx,hR.ev hy,hR.ev hz,Instr.mapUpdate,run_underlying hm,MapKept.run_getObj_map hb,MapKept.run_checkKey hk hkk,MapKept.run_findKey hk h1,MapKept.run_setObj_map _ hb,Result.andThen]
    rw [this]
    exact h _ _ (hF.push h2) _ _ hR (hG.set i hi rfl rfl rfl aA (heap_set hb).1 (fun q hq=>(heap_set hb).2 q hq))
  · have hj : es[j]? = some e := by simpa using h2
    have:(execOp a.eval ⟨none,.mapUpdate t x y z,ty,pos,b6,g⟩).run P w= .ok .skip {w with heap:=w.heap.setIfInBounds b (.map (es.modify j fun e=> {e with key:= .int .i64 k,val:=v}) clk)}:=by
      simp [execOp,hR.ev hx,hR.ev hy,hR.ev hz,Instr.mapUpdate,run_underlying hm,MapKept.run_getObj_map hb,MapKept.run_checkKey hk hkk,MapKept.run_findKey hk h1,hj,h3,MapKept.run_keyThatStays hkk,MapKept.run_setObj_map _ hb,Result.andThen]
    rw [this]
    exact h _ _ (hF.modify hj h3) _ _ hR (hG.set i hi rfl rfl rfl aA (heap_set hb).1 (fun q hq=>(heap_set hb).2 q hq))
theorem qG {t kt et ty:TypeId} {x y:Operand} {b clk:Nat} {es:Array MapEntry} {f:Int→Option Value} {k:Int} {zv:Value} (i:Nat) (hm:P.underlying t=some (.map kt et)) (hk:P.underlying kt=some (.int .i64)) (hz0:∀w,(zeroValue et).run P w= .ok zv w)
    (hx:ev E x=some (.map (some b))) (hy:ev E y=some (.int .i64 k)) (hi:H[i]? =some (b,.map es clk)) (hF:fG es clk f):YO P n E S H (.lookup t x y false) ty ((f k).getD zv):=by
  intro d pos b6 g a w hR hG
  have hb:=hG.own _ (List.mem_of_getElem? hi)
  simp only at hb
  have hkk:IsKey (.int .i64) (Value.int .i64 k):=rfl
  have hz:=hz0 w
  rcases findNow_spec hkk es.toList 0 hF.keys with ⟨h1,h2⟩|⟨j,e,h1,h2,h3⟩
  · have hn : f k = none := by
      cases hf:f k with
      |none=>rfl
      |some v=>obtain⟨q,hq,e⟩:=hF.has k v hf;exact absurd e (h2 q hq)
    rw [hn]
    simp [execOp,hR.ev hx,hR.ev hy,Instr.lookup,run_underlying hm,MapKept.run_getObj_map hb,MapKept.run_checkKey hk hkk,MapKept.run_findKey hk h1,hz,Result.andThen]
  · obtain ⟨q, e1, e2⟩ := hF.ent e (List.mem_of_getElem? h2)
    rw [h3]at e1
    simp only [Value.int.injEq,true_and]at e1
    subst e1
    rw [e2]
    simp [execOp,hR.ev hx,hR.ev hy,Instr.lookup,run_underlying hm,MapKept.run_getObj_map hb,MapKept.run_checkKey hk hkk,MapKept.run_findKey hk h1,Result.andThen]
end
def RI (w:World) (a:Option Addr) (l:List Int):Prop:=∀i v,l[i]? =some v→a=some ⟨ab a,ao a,none⟩∧w.cell? ⟨ab a,ao a+i,none⟩=some (.int .i64 v)
def sr (L:List Int):Int→Option Value:=fun k=>if k∈L then some (.bool true)else none
theorem Po {L:List Int} {i:Nat} {q:Int} (h:L[i]? =some q):j3 (sr (L.take i)) q (.bool true)=sr (L.take (i+1)):=by
  funext k
  unfold j3 sr
  rw [List.take_add_one,h]
  by_cases e:k=q
  · subst e;simp
  · simp [e]
theorem Pn (L:List Int) (k:Int):(sr L k).getD (.bool false)= .bool (decide (k∈L)):=by
  unfold sr
  by_cases h:k∈L
  · rw [if_pos h,decide_eq_true h];rfl
  · rw [if_neg h,decide_eq_false h];rfl
def kV (a b:List Int):Bool:=b.all fun n=>!decide (n∈a)
theorem Kn {a b:List Int} {j:Nat} {q:Int} (h:b[j]? =some q) (hq:q∈a):kV a b=false:=by
  unfold kV
  rw [List.all_eq_false]
  exact⟨q,List.mem_of_getElem? h,by simp [hq]⟩
theorem IB {p:Int→Bool} {b:List Int} {j:Nat} {q:Int} (h:b[j]? =some q) (h0:(b.take j).all p=true) (hq:p q=true):(b.take (j+1)).all p=true:=by
  rw [List.take_add_one,h];simp [h0,hq]
end Go.Eng
namespace Go.Eng
open Go
section
variable {P:Program} {n:Nat} {E:Env} {S:List World} {H:List (Nat×Obj)}
theorem QV {x y:Operand} {a b:Int} {ats:Array TypeId} {ty:TypeId} (hx:ev E x=some (.int .i64 a)) (hy:ev E y=some (.int .i64 b)):YO P n E S H (.call {callee:= .builtin .max,args:= #[x,y],argTypes:=ats}) ty (.int .i64 (max a b)):=by
  intro d pos b6 g a' w hR hG
  have e:(if b>a then b else a)=max a b:=by omega
  simp [execOp,resolve,invoke,builtin,hR.ev hx,hR.ev hy,Builtin.max_,Builtin.max2]
  omega
theorem QW {x y:Operand} {a b:Int} {ats:Array TypeId} {ty:TypeId} (hx:ev E x=some (.int .i64 a)) (hy:ev E y=some (.int .i64 b)):YO P n E S H (.call {callee:= .builtin .min,args:= #[x,y],argTypes:=ats}) ty (.int .i64 (min a b)):=by
  intro d pos b6 g a' w hR hG
  simp [execOp,resolve,invoke,builtin,hR.ev hx,hR.ev hy,Builtin.min_,Builtin.min2]
  omega
end
end Go.Eng
namespace Go.Abs
open Go Go.Eng
section
variable {P:Program} {E:Ev} {st:St}
theorem x8 {x y:Operand} {a b c:Nat} {ats:Array TypeId} {ty:TypeId} (hx:ev E x=some (.i .i64 (a:Int))) (hy:ev E y=some (.i .i64 (b:Int))) (hc:max a b=c):YO P E st (.call {callee:= .builtin .max,args:= #[x,y],argTypes:=ats}) ty (.i .i64 (c:Int)):=by
  intro w0 X0 n β X w1 w hr
  subst hc
  obtain⟨g1,g2⟩:=hr.c9 hx
  obtain⟨g3,g4⟩:=hr.c9 hy
  rw [iE]at g2 g4
  rw [g2]at g1;rw [g4]at g3
  exact⟨.int .i64 ((max a b:Nat):Int),by rw [iE],hr.old fun w' _=>by have:=Eng.QV (P:=P) (n:=w1.tmps.size) (S:= [w']) (H:= []) (ats:=ats) (ty:=ty) g1 g3;rwa [show max (a:Int) (b:Int)=((max a b:Nat):Int) by omega]at this⟩
theorem H6 {x y:Operand} {a b c:Nat} {ats:Array TypeId} {ty:TypeId} (hx:ev E x=some (.i .i64 (a:Int))) (hy:ev E y=some (.i .i64 (b:Int))) (hc:min a b=c):YO P E st (.call {callee:= .builtin .min,args:= #[x,y],argTypes:=ats}) ty (.i .i64 (c:Int)):=by
  intro w0 X0 n β X w1 w hr
  subst hc
  obtain⟨g1,g2⟩:=hr.c9 hx
  obtain⟨g3,g4⟩:=hr.c9 hy
  rw [iE]at g2 g4
  rw [g2]at g1;rw [g4]at g3
  exact⟨.int .i64 ((min a b:Nat):Int),by rw [iE],hr.old fun w' _=>by have:=Eng.QW (P:=P) (n:=w1.tmps.size) (S:= [w']) (H:= []) (ats:=ats) (ty:=ty) g1 g3;rwa [show min (a:Int) (b:Int)=((min a b:Nat):Int) by omega]at this⟩
end
end Go.Abs
-- C4R
namespace Go.Abs.D2
open Go Go.Eng Go.Abs
def jz (x:List UInt8) (lv nb:Int) (D:List UInt8) (l:List Int):List UInt8:=l.foldl (fun D id=>lV x lv nb D id) D
theorem IA {x:List UInt8} {lv nb:Int} {D:List UInt8} {l:List Int} {i:Nat} {q:Int} (h:l[i]? =some q):lV x lv nb (jz x lv nb D (l.take i)) q=jz x lv nb D (l.take (i+1)):=by
  unfold jz;rw [List.take_add_one,h];simp
theorem L5 (x:List UInt8) (lv nb:Int) (l:List Int):∀D,(jz x lv nb D l).length=D.length:=by
  induction l with
  |nil=>intro D;rfl
  |cons a l ih=>intro D;show(jz x lv nb (lV x lv nb D a) l).length=_;rw [ih,E8]
theorem CM (x:List UInt8) (lv nb:Int) (l:List Int):∀D,eu lv nb (jz x lv nb D l)=eu lv nb D:=by
  induction l with
  |nil=>intro D;rfl
  |cons a l ih=>intro D;show eu lv nb (jz x lv nb (lV x lv nb D a) l)=_;rw [ih,JJ]
def ff (l:List Int):Nat:=min (max (4*l.length) 8) 4096
theorem p8 (l:List Int):8≤ff l∧ff l≤4096:=by unfold ff;omega
def mD (n:Nat):List UInt8:=List.replicate ((n+7) / 8) 0
def lG (x:List UInt8) (i:Nat) (a:List Int):eX:=⟨(i:Nat),(ff a:Nat),jz x (i:Nat) (ff a:Nat) (mD (ff a)) a⟩
def iU (x:List UInt8) (f:eX) (b:List Int):List Int:=b.filter fun n=>pU x f.lv f.nb f.D n
def bS (x:List UInt8) (p q:List Int):Nat→List eX×List Int×List Int
  |0=>([],p,q)
  |n+1=>((bS x p q n).1++ [lG x n (bS x p q n).2.1],iU x (lG x n (bS x p q n).2.1) (bS x p q n).2.2,(bS x p q n).2.1)
theorem ko (x:List UInt8) (p q:List Int):∀n,(bS x p q n).1.length=n
  |0=>rfl
  |n+1=>by rw [bS,List.length_append,ko x p q n];rfl
def lH (x:List UInt8) (p q:List Int) (n:Nat):Bool:=!(bS x p q n).2.1.isEmpty
theorem Em {x:List UInt8} {p q:List Int} {n:Nat} (h:0<(bS x p q n).2.1.length):lH x p q n=true:=by
  unfold lH
  cases hl:(bS x p q n).2.1 with
  |nil=>rw [hl]at h;simp at h
  |cons=>rfl
@[irreducible] def jO (x:List UInt8) (p q:List Int):Nat:=mu (lH x p q) 16
theorem zH (x:List UInt8) (p q:List Int):jO x p q=mu (lH x p q) 16:=by unfold jO;rfl
def fT (x:List UInt8) (p q:List Int):dL:=⟨x,(bS x p q (jO x p q)).1,(bS x p q (jO x p q)).2.1⟩
def kN (p q:List Int):Bool:=eD p&&eD q&&kV p q
theorem vk (x:List UInt8) (p q:List Int):∀n,(∀v∈(bS x p q n).2.1,v∈p∨v∈q)∧∀v∈(bS x p q n).2.2,v∈p∨v∈q
  |0=>⟨fun _ h=> .inl h,fun _ h=> .inr h⟩
  |n+1=>⟨fun v h=>(vk x p q n).2 v ((List.mem_filter.1 h).1),fun v h=>(vk x p q n).1 v h⟩
theorem Cc {x:List UInt8} {p q:List Int} (h:kN p q=true) (n:Nat):(∀v∈(bS x p q n).2.1,0≤v∧v<1024)∧∀v∈(bS x p q n).2.2,0≤v∧v<1024:=by
  unfold kN at h
  simp only [Bool.and_eq_true]at h
  have h1:=wD h.1.1
  have h2:=wD h.1.2
  obtain⟨g1,g2⟩:=vk x p q n
  exact⟨fun v hv=>(g1 v hv).elim (h1 v) (h2 v),fun v hv=>(g2 v hv).elim (h1 v) (h2 v)⟩
theorem JI (x:List UInt8) (i:Nat) (a:List Int) (hi:i<16):eu (i:Nat) (ff a:Nat) (jz x (i:Nat) (ff a:Nat) (mD (ff a)) a)=true:=by
  rw [CM]
  exact CP (ub hi (p8 a).1 (p8 a).2)
theorem Cb (x:List UInt8) (p q:List Int):∀n i,i<n→(bS x p q n).1[i]? =some (lG x i (bS x p q i).2.1)
  |0,i,h=>by omega
  | n + 1, i, h => by
    rw [bS]
    rcases Nat.lt_or_ge i n with h2|h2
    · rw [List.getElem?_append_left (by rw [ko];exact h2)];exact Cb x p q n i h2
    · have : i = n := by omega
      subst this
      rw [List.getElem?_append_right (by rw [ko];omega),ko];simp
theorem DB (x:List UInt8) (p q:List Int):jO x p q≤16:=by rw [zH];exact F9 _ _
@[irreducible] def qY (x:List UInt8) (p q:List Int):A:=if kN p q then .tu [.ag (fE (fT x p q)),.i .i64 0]else .tu [.ag (fE ⟨List.replicate 32 0, [], []⟩),.i .i64 340]
theorem qZ {x:List UInt8} {p q:List Int} (h:kN p q=false):qY x p q= .tu [.ag (fE ⟨List.replicate 32 0, [], []⟩),.i .i64 340]:=by unfold qY;rw [h];rfl
theorem oA {x:List UInt8} {p q:List Int} (h:kN p q=true):qY x p q= .tu [.ag (fE (fT x p q)),.i .i64 0]:=by unfold qY;rw [h];rfl
theorem FV (p q:List Int):(eD p=false∧kN p q=false)∨(eD p=true∧eD q=false∧kN p q=false)∨(eD p=true∧eD q=true∧kV p q=false∧kN p q=false)∨(eD p=true∧eD q=true∧kV p q=true∧kN p q=true):=by
  unfold kN
  cases eD p<;>cases eD q<;>cases kV p q<;>simp
theorem KX {l:List Int} {p:Int→Bool} {i:Nat} {q:Int} (h:l[i]? =some q) (hp:p q=true):((l.take i).filter p).map iA++ [.i .i64 q]=((l.take (i+1)).filter p).map iA:=by
  rw [List.take_add_one,h];simp [hp]
theorem KW {l:List Int} {p:Int→Bool} {i:Nat} {q:Int} (h:l[i]? =some q) (hp:p q=false):(l.take i).filter p=(l.take (i+1)).filter p:=by
  rw [List.take_add_one,h];simp [hp]
theorem Ca (x:List UInt8) (p q:List Int) (n:Nat):((bS x p q n).1).flatMap gV++gV (lG x n (bS x p q n).2.1)=((bS x p q (n+1)).1).flatMap gV:=by
  rw [bS];simp
theorem s5 {x:List UInt8} {p q:List Int} (hp:p.length≤100) (hq:q.length≤100):∀n,(bS x p q n).2.1.length≤100∧(bS x p q n).2.2.length≤100
  |0=>⟨hp,hq⟩
  |n+1=>⟨Nat.le_trans (List.length_filter_le _ _) (s5 hp hq n).2,(s5 hp hq n).1⟩
theorem BR {x:List UInt8} {i:Nat} {a:List Int} {k:Nat} {q:Int} (hi:i<16) (hq:a[k]? =some q) (h0:0≤q∧q<1024):nB x (i:Nat) (ff a:Nat) (jz x (i:Nat) (ff a:Nat) (mD (ff a)) (a.take k)) q= .tu [kW (i:Nat) (ff a:Nat) (jz x (i:Nat) (ff a:Nat) (mD (ff a)) (a.take (k+1))),.i .i64 0]:=by
  obtain⟨j,rfl⟩:∃j:Nat,q=(j:Int):=⟨q.toNat,by omega⟩
  have hc:eu (i:Nat) (ff a:Nat) (jz x (i:Nat) (ff a:Nat) (mD (ff a)) (a.take k))=true:=by
    rw [CM];exact CP (ub hi (p8 a).1 (p8 a).2)
  rw [Ix (M6 hc aq),IA hq]
theorem KE {x:List UInt8} {p q:List Int} {n:Nat} (h:n<16) (h1:∀t,t<n→lH x p q t=true) (h2:lH x p q n=false):jO x p q=n:=by rw [zH];exact Ga h h1 h2
theorem zI {x:List UInt8} {p q:List Int} (h1:∀t,t<16→lH x p q t=true):jO x p q=16:=by rw [zH];exact AD h1
theorem Jo {x:List UInt8} {p q:List Int} {n:Nat} (h:jO x p q=n):fT x p q=⟨x,(bS x p q n).1,(bS x p q n).2.1⟩:=by subst h;rfl
theorem Bp {x:List UInt8} {f:eX} {l:List Int} {i:Nat} {q:Int} (h:l[i]? =some q) (hp:pU x f.lv f.nb f.D q=true):(iU x f (l.take i)).map iA++ [.i .i64 q]=(iU x f (l.take (i+1))).map iA:=KX h hp
theorem HZ {x:List UInt8} {f:eX} {l:List Int} {i:Nat} {q:Int} (h:l[i]? =some q) (hp:pU x f.lv f.nb f.D q=false):iU x f (l.take i)=iU x f (l.take (i+1)):=KW h hp
theorem Fa (x:List UInt8) (f:eX) (l:List Int):(iU x f l).length≤l.length:=List.length_filter_le _ _
theorem HY {x:List UInt8} {f:eX} {l:List Int} {i:Nat} {q:Int} (h:l[i]? =some q) (hp:pU x f.lv f.nb f.D q=true):(iU x f (l.take i)).length+1=(iU x f (l.take (i+1))).length:=by
  have:=congrArg List.length (Bp h hp)
  simpa using this
theorem Ls {x:List UInt8} {p q:List Int} {n:Nat} (h:¬0<(bS x p q n).2.1.length):lH x p q n=false:=by
  unfold lH
  have:(bS x p q n).2.1= []:=List.length_eq_zero_iff.1 aq
  rw [this];rfl
theorem DA {x:List UInt8} {p q:List Int} {n:Nat} (hn:n≤16) (h1:∀t,t<n→lH x p q t=true) (h:¬0<(bS x p q n).2.1.length):jO x p q=n:=by
  rcases Nat.lt_or_ge n 16 with h2|h2
  · exact KE h2 h1 (Ls h)
  · have : n = 16 := by omega
    subst this;exact zI h1
theorem PV {x:List UInt8}:(j9.map u8++ [A.nl,A.nl]).take 0++cw (.ag (x.map u8))++(j9.map u8++ [A.nl,A.nl]).drop (0+32)=x.map u8++ [.nl,.nl]:=by
  show []++x.map u8++ [A.nl,A.nl]=_
  rfl
theorem HC {x:List UInt8} (hx:x.length=32) (a b:A):((x.map u8++ [a,b]).drop 33)= [b]:=by
  rw [show 33=32+1 from rfl, ←List.drop_drop,qy hx];rfl
theorem sA {x:List UInt8} (hx:x.length=32) (v a b:A):(x.map u8++ [a,b]).set 33 v=x.map u8++ [a,v]:=by
  rw [List.set_append_right _ _ aH,List.length_map,hx];rfl
theorem vp {x:List UInt8} {p q:List Int} {n:Nat} (h:jO x p q=n):x.map u8++ [.fz n ((bS x p q n).1.flatMap gV),.fz (bS x p q n).2.1.length ((bS x p q n).2.1.map iA)]=fE (fT x p q):=by
  rw [Jo h,fE,tK,kg,ko]
end Go.Abs.D2
