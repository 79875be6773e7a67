/-
  The engine, the plain laws and the walks that the rows need, part 10. Conditions: none.
-/
import Derived.Test.YteempkifmbclgaaGreatDoorM9
import Derived.ProofKit
import Derived.Deep.Slices
import Derived.LaidMore
import Derived.OpenShut
import Derived.Lib.AppendZerosOnto
set_option linter.unusedVariables false
set_option linter.unusedSimpArgs false
set_option maxHeartbeats 1000000
set_option maxRecDepth 10000
-- AbsL
namespace Go.Abs
open Go Go.Eng
inductive D where
  |int (k:IntKind)|bool|str|sl (e:D)|arr (n:Nat) (e:D)|st (fs:List D)
  deriving Inhabited
mutual
def D.cells:D→Nat
  | .int _=>1| .bool=>1| .str=>1| .sl _=>1
  | .arr n e=>n*e.cells
  | .st fs=>D.cellsL fs
def D.cellsL:List D→Nat
  | []=>0
  |d::ds=>d.cells+D.cellsL ds
end
mutual
def Den:D→List A→Prop
  | .int k,aS=>∃n,(Lit.int k n).wf=true∧aS= [.i k n]
  | .bool,aS=>∃b,aS= [.b b]
  | .str,aS=>∃l:List UInt8,l.length≤maxLen∧aS= [.s l]
  | .sl e,aS=>∃ls:List (List A),(∀x∈ls,Den e x)∧ls.length≤maxLen∧aS= [.fz ls.length ls.flatten]
  | .arr n e,aS=>∃ls:List (List A),(∀x∈ls,Den e x)∧ls.length=n∧aS=ls.flatten
  | .st fs,aS=>DenL fs aS
def DenL:List D→List A→Prop
  | [],aS=>aS= []
  |d::ds,aS=>∃x y,Den d x∧DenL ds y∧aS=x++y
end
def isInt (k:IntKind):Option TypeDesc→Bool
  |some (.int j)=>Nat.beq (knum j) (knum k)
  |_=>false
def isBool:Option TypeDesc→Bool
  |some .bool=>true
  |_=>false
def isStr:Option TypeDesc→Bool
  |some .string=>true
  |_=>false
mutual
def fitD (P:Program):D→TypeId→Bool
  | .int k,t=>isInt k (P.underlying t)
  | .bool,t=>isBool (P.underlying t)
  | .str,t=>isStr (P.underlying t)
  | .sl e,t=>match P.underlying t with|some (.slice u)=>fitD P e u&&Nat.beq (P.cellsOf u) e.cells&&Nat.blt 0 e.cells|_=>false
  | .arr n e,t=>match P.underlying t with|some (.array m u)=>Nat.beq m n&&fitD P e u&&Nat.beq (P.cellsOf u) e.cells&&Nat.beq (P.cellsOf t) (n*e.cells)|_=>false
  | .st ds,t=>match P.underlying t with|some (.struct fs)=>fitL P ds fs.toList 0&&Nat.beq (P.cellsOf t) (D.cellsL ds)|_=>false
def fitL (P:Program):List D→List Field→Nat→Bool
  | [], [],_=>true
  |d::ds,f::fs,o=>Nat.beq f.offset o&&Nat.beq (P.cellsOf f.type) d.cells&&fitD P d f.type&&fitL P ds fs (o+d.cells)
  |_,_,_=>false
end
theorem cell_spot {w:World} {a:Addr} {v:Value} (h:w.cell? a=some v):a.spot=none:=by
  unfold World.cell? at h
  split at h
  · split at h
    · cases h
    · rename_i hs;simpa using hs
  · cases h
theorem add_spot {a:Addr} (h:(a.add 0).spot=none):a.spot=none:=by
  simpa [Addr.add]using h
theorem add_plain {a:Addr} (h:a.spot=none) (i:Nat):a.add i=⟨a.block,a.off+i,none⟩:=by
  unfold Addr.add
  cases a
  simp at h
  subst h
  simp
def XW (w:World):Xs:=fun b o=>∃v,w.cell? ⟨b,o,none⟩=some v
theorem XW_lt {w:World}:∀b o,XW w b o→b<w.heap.size:=by
  rintro b o ⟨v,h⟩
  unfold World.cell? at h
  split at h
  · rename_i c e q hb
    obtain⟨hlt,_⟩:=Array.getElem?_eq_some_iff.1 hb
    exact hlt
  · cases h
section
variable {H:Type} {enc:TypeId×Value→H} {P:Program} {w:World} {base:Nat} {held:Bool}
theorem VM_app {X:Xs}:∀ {cs ds:List A} {b o:Nat},VM X w cs b o→VM X w ds b (o+cs.length)→VM X w (cs++ds) b o
  | [],ds,b,o,_,h=>by simpa using h
  | c :: cs, ds, b, o, h, h' => by
    simp only [VM,List.cons_append]at h ⊢
    refine⟨h.1,h.2.1,VM_app h.2.2 ?_⟩
    rw [show o+1+cs.length=o+(c::cs).length by simp;omega]
    exact h'
theorem VM_cells {aS:List A} {cs:List Value} {b o:Nat} (hv:VS (XW w) w no aS cs) (h1:∀x∈cs,x.oneCell'=true) (hc:∀i,i<cs.length→w.cell? ⟨b,o+i,none⟩=cs[i]?):VM (XW w) w aS b o:=by
  refine VM_of fun j c hj=>?_
  obtain⟨u,hu,hvu⟩:=VS_get hv hj
  have hlt:=(List.getElem?_eq_some_iff.1 hu).1
  have hcell:=hc j hlt
  rw [hu]at hcell
  exact⟨⟨u,hcell⟩,u,hcell,hvu,h1 _ (List.mem_of_getElem? hu)⟩
theorem VM_rows {sz : Nat} {b : Nat} {W : Nat → List A} (hl : ∀ i, (W i).length = sz ∨ True) : ∀ (n o : Nat), (∀ i, i < n → (W i).length = sz ∧ VM (XW w) w (W i) b (o + i * sz)) → VM (XW w) w ((List.range n).map W).flatten b o
  |0,o,_=>by simp [VM]
  | n + 1, o, h => by
    rw [List.range_succ,List.map_append,List.flatten_append]
    refine VM_app (VM_rows hl n o fun i hi=>h i (by omega)) ?_
    have e:((List.range n).map W).flatten.length=n*sz:=by
      have:∀m,m≤n→((List.range m).map W).flatten.length=m*sz:=by
        intro m
        induction m with
        |zero=>intro _;simp
        | succ m ih =>
          intro hm
          rw [List.range_succ,List.map_append,List.flatten_append,List.length_append,ih (by omega)]
          simp only [List.map_cons,List.map_nil,List.flatten_cons,List.flatten_nil,List.append_nil]
          rw [(h m (by omega)).1,Nat.succ_mul]
      exact this n (Nat.le_refl _)
    rw [e]
    simpa using (h n (by omega)).2
theorem isInt_ok {k:IntKind} {x:Option TypeDesc} (h:isInt k x=true):x=some (.int k):=by
  unfold isInt at h
  split at h
  · rename_i j
    have:knum j=knum k:=Nat.eq_of_beq_eq_true h
    have:j=k:=by cases j<;>cases k<;>first|rfl|(simp [knum]at this)
    rw [this]
  · cases h
theorem isBool_ok {x:Option TypeDesc} (h:isBool x=true):x=some .bool:=by
  unfold isBool at h;split at h
  · rfl
  · cases h
theorem isStr_ok {x:Option TypeDesc} (h:isStr x=true):x=some .string:=by
  unfold isStr at h;split at h
  · rfl
  · cases h
theorem VS_flatten {X:Xs} {β:Bm}:∀ {ls:List (List A)} {us:List (List Value)},ls.length=us.length→(∀(i:Nat) (l:List A) (u:List Value),ls[i]? =some l→us[i]? =some u→VS X w β l u)→VS X w β ls.flatten us.flatten
  | [], [],_,_=>VS_nil
  |l::ls,u::us,hl,h=>VS_app (h 0 l u rfl rfl) (VS_flatten (by simpa using hl) fun i l u h1 h2=>h (i+1) l u (by simpa using h1) (by simpa using h2))
theorem flat_parts {α:Type} {sz:Nat}:∀(n:Nat) (l:List α),l.length=n*sz→((List.range n).map fun i=>(l.drop (i*sz)).take sz).flatten=l
  | 0, l, h => by
    have:l= []:=List.eq_nil_of_length_eq_zero (by simpa using h)
    subst this;rfl
  | n + 1, l, h => by
    have hs:(n+1)*sz=n*sz+sz:=Nat.succ_mul n sz
    rw [List.range_succ,List.map_append,List.flatten_append]
    have e:((List.range n).map fun i=>(l.drop (i*sz)).take sz)=(List.range n).map fun i=>((l.take (n*sz)).drop (i*sz)).take sz:=by
      refine List.map_congr_left fun i hi=>?_
      have hi':i<n:=by simpa using hi
      rw [List.drop_take,List.take_take]
      congr 1
      have:i*sz+sz≤n*sz:=by rw [←Nat.succ_mul];exact Nat.mul_le_mul_right sz hi'
      omega
    rw [e,flat_parts n (l.take (n*sz)) (by rw [List.length_take,h];omega)]
    simp only [List.map_cons,List.map_nil,List.flatten_cons,List.flatten_nil,List.append_nil]
    rw [List.take_of_length_le (l:=l.drop (n*sz)) (by rw [List.length_drop,h];omega)]
    exact List.take_append_drop _ _
mutual
theorem Den_len : ∀ (d : D) (aS : List A), Den d aS → aS.length = d.cells
  | .int k,aS,h=>by simp only [Den]at h;obtain⟨n,_,rfl⟩:=h;rfl
  | .bool,aS,h=>by simp only [Den]at h;obtain⟨n,rfl⟩:=h;rfl
  | .str,aS,h=>by simp only [Den]at h;obtain⟨n,_,rfl⟩:=h;rfl
  | .sl e,aS,h=>by simp only [Den]at h;obtain⟨n,_,_,rfl⟩:=h;rfl
  | .arr n e, aS, h => by
    simp only [Den]at h
    obtain⟨ls,h1,h2,rfl⟩:=h
    subst h2
    have:∀ls:List (List A),(∀x∈ls,Den e x)→ls.flatten.length=ls.length*e.cells:=by
      intro ls
      induction ls with
      |nil=>intro _;simp
      | cons l ls ih =>
        intro h
        rw [List.flatten_cons,List.length_append,Den_len e l (h l (.head _)),ih fun x hx=>h x (.tail _ hx),List.length_cons,Nat.succ_mul];omega
    exact this ls h1
  | .st fs,aS,h=>by simp only [Den]at h;exact DenL_len fs aS h
theorem DenL_len:∀(ds:List D) (aS:List A),DenL ds aS→aS.length=D.cellsL ds
  | [],aS,h=>by simp only [DenL]at h;subst h;rfl
  | d :: ds, aS, h => by
    simp only [DenL]at h
    obtain⟨x,y,h1,h2,rfl⟩:=h
    rw [List.length_append,Den_len d x h1,DenL_len ds y h2];rfl
end
mutual
theorem open_D : ∀ (d : D) (t : TypeId) (fuel : Nat) (cs : List Value) (x : DataW H × List MemPlace), fitD P d t = true → DataW.trod enc P w base (fun _ => true) held fuel t cs = some x → ∃ aS, Den d aS ∧ VS (XW w) w no aS cs ∧ ∀ u ∈ cs, u.oneCell' = true
  | .int k, t, fuel, cs, x, hf, h => by
    obtain⟨n,rfl,_,hw⟩:=DataW.trod_int (isInt_ok hf) h
    exact⟨[.i k n],⟨n,hw,rfl⟩,VS_cons (by simp [V]) VS_nil,by simp [Value.oneCell']⟩
  | .bool, t, fuel, cs, x, hf, h => by
    obtain⟨b,rfl,_⟩:=DataW.trod_bool (isBool_ok hf) h
    exact⟨[.b b],⟨b,rfl⟩,VS_cons (by simp [V]) VS_nil,by simp [Value.oneCell']⟩
  | .str, t, fuel, cs, x, hf, h => by
    obtain⟨s,rfl,_,hs⟩:=DataW.trod_string (isStr_ok hf) h
    exact⟨[.s s.data.toList],⟨_,by simpa using hs,rfl⟩,VS_cons (by simp [V]) VS_nil,by simp [Value.oneCell']⟩
  | .sl e, t, fuel, cs, x, hf, h => by
    simp only [fitD]at hf
    split at hf
    · rename_i u ht
      simp only [Bool.and_eq_true]at hf
      obtain⟨⟨hf1,hf2⟩,hf3⟩:=hf
      have hsz:P.cellsOf u=e.cells:=Nat.eq_of_beq_eq_true hf2
      have hpos:0<e.cells:=Nat.lt_of_succ_le (by simpa [Nat.blt]using hf3)
      rcases Deep.open_slice ht h with ⟨rfl,_⟩|⟨a,len,cap,m,n,DD,Pl,rfl,_,hl,hm,hmm,_,hx⟩
      · refine ⟨[.fz 0 []], ⟨[], (fun x hx => by cases hx), Nat.zero_le _, rfl⟩, VS_cons ?_ VS_nil, by simp [Value.oneCell']⟩
        simp only [V]
        exact⟨none,0,rfl,Nat.le_refl _,Nat.zero_le _,fun _=>rfl,(fun h=>absurd h (Nat.lt_irrefl _)),by simp [VM]⟩
      · simp only [if_true] at hmm
        subst hmm
        have hV:∀i,i<m→∃q:List A×List Value,(Den e q.1∧VS (XW w) w no q.1 q.2∧∀u∈q.2,u.oneCell'=true)∧w.cells? base (a.add (i*P.cellsOf u)) (P.cellsOf u)=some q.2:=fun i hi=>by
          obtain⟨cs',h1,h2⟩:=hx i hi
          obtain⟨aS,g1,g2,g3⟩:=open_D e u n cs' _ hf1 h2
          exact⟨(aS,cs'),⟨g1,g2,g3⟩,h1⟩
        obtain⟨W,hW⟩:=Deep.choose_lt (α:=List A×List Value) (p:=fun i q=>(Den e q.1∧VS (XW w) w no q.1 q.2∧∀u∈q.2,u.oneCell'=true)∧w.cells? base (a.add (i*P.cellsOf u)) (P.cellsOf u)=some q.2) hV
        rw [hsz]at hW
        have hspot:0<m→a.spot=none:=fun h0=>by
          obtain⟨_,_,hc⟩:=World.cells?_some (hW 0 h0).2
          have hln:(W 0).2.length=e.cells:=by rw [VS_len (hW 0 h0).1.2.1,Den_len e _ (hW 0 h0).1.1]
          have:=hc 0 (by omega)
          rw [List.getElem?_eq_getElem (by omega)]at this
          have h1:=cell_spot this
          rw [Nat.zero_mul]at h1
          exact add_spot (add_spot h1)
        refine⟨[.fz len ((List.range len).map fun i=>(W i).1).flatten],⟨(List.range len).map fun i=>(W i).1,?_,by simp;omega,by simp⟩,VS_cons ?_ VS_nil,by simp [Value.oneCell']⟩
        · intro x hx
          obtain⟨i,hi,rfl⟩:=List.mem_map.1 hx
          exact(hW i (by have:=List.mem_range.1 hi;omega)).1.1
        · simp only [V]
          refine⟨some a,m,rfl,hl,hm,(fun h=>by cases h),(fun h0 x hx=>by cases hx;exact hspot h0),?_⟩
          refine VM_rows (sz:=e.cells) (W:=fun i=>(W i).1) (fun _=> .inr trivial) len _ fun i hi=>?_
          obtain⟨⟨g1,g2,g3⟩,g4⟩:=hW i (by omega)
          obtain⟨_,hlen,hc⟩:=World.cells?_some g4
          refine⟨Den_len e _ g1,VM_cells g2 g3 fun k hk=>?_⟩
          have h2:=hc k (by omega)
          have hs:=hspot (by omega)
          rw [add_plain hs,add_plain rfl]at h2
          exact h2
    · cases hf
  | .arr k e, t, fuel, cs, x, hf, h => by
    simp only [fitD]at hf
    split at hf
    · rename_i m u ht
      simp only [Bool.and_eq_true]at hf
      obtain⟨⟨⟨hm,hf1⟩,hf2⟩,hf3⟩:=hf
      have hmk:m=k:=Nat.eq_of_beq_eq_true hm
      subst hmk
      have hsz:P.cellsOf u=e.cells:=Nat.eq_of_beq_eq_true hf2
      have hst:P.cellsOf t=m*e.cells:=Nat.eq_of_beq_eq_true hf3
      obtain⟨xs,n,_,_,hl,hxl,hx⟩:=DataW.trod_array ht h
      rw [hsz]at hx
      rw [hst]at hl
      have hV:∀i,i<m→∃aS:List A,Den e aS∧VS (XW w) w no aS ((cs.drop (i*e.cells)).take e.cells)∧∀u∈(cs.drop (i*e.cells)).take e.cells,u.oneCell'=true:=fun i hi=>by
        have:=hx i hi
        rw [List.getElem?_eq_getElem (by omega)]at this
        exact open_D e u n _ _ hf1 this
      obtain⟨W,hW⟩:=Deep.choose_lt (α:=List A) (p:=fun i aS=>Den e aS∧VS (XW w) w no aS ((cs.drop (i*e.cells)).take e.cells)∧∀u∈(cs.drop (i*e.cells)).take e.cells,u.oneCell'=true) hV
      refine⟨((List.range m).map W).flatten,⟨(List.range m).map W,?_,by simp,rfl⟩,?_,?_⟩
      · intro x hx
        obtain⟨i,hi,rfl⟩:=List.mem_map.1 hx
        exact(hW i (List.mem_range.1 hi)).1
      · have e1 := flat_parts m cs hl
        rw [←e1]
        refine VS_flatten (by simp) fun i l u h1 h2=>?_
        rw [List.getElem?_map]at h1 h2
        obtain⟨j,hj,rfl⟩:=Option.map_eq_some_iff.1 h1
        rw [hj]at h2
        simp only [Option.map_some,Option.some.injEq]at h2
        subst h2
        exact(hW j (by have:=List.mem_range.1 (List.mem_of_getElem? hj);omega)).2.1
      · intro u hu
        rw [←flat_parts m cs hl]at hu
        obtain⟨l,hl',hu⟩:=List.mem_flatten.1 hu
        obtain⟨i,hi,rfl⟩:=List.mem_map.1 hl'
        exact(hW i (List.mem_range.1 hi)).2.2 u hu
    · cases hf
  | .st ds, t, fuel, cs, x, hf, h => by
    simp only [fitD]at hf
    split at hf
    · rename_i fs ht
      simp only [Bool.and_eq_true]at hf
      have hst:P.cellsOf t=D.cellsL ds:=Nat.eq_of_beq_eq_true hf.2
      obtain⟨xs,n,_,_,hl,hxl,hx⟩:=DataW.trod_struct ht h
      obtain⟨aS,g1,g2,g3⟩:=open_L ds fs.toList 0 n cs hf.1 (by rw [hl,hst]) (fun i f hi=>by
        have hi':fs[i]? =some f:=by simpa using hi
        have:=hx i f hi'
        have hlt:i<xs.length:=by rw [hxl];exact(Array.getElem?_eq_some_iff.1 hi').1
        rw [List.getElem?_eq_getElem hlt]at this
        exact⟨_,by rw [Nat.sub_zero];exact this⟩)
      exact⟨aS,g1,g2,g3⟩
    · cases hf
theorem open_L:∀(ds:List D) (fs:List Field) (o n:Nat) (cs:List Value),fitL P ds fs o=true→cs.length=D.cellsL ds→(∀(i:Nat) (f:Field),fs[i]? =some f→∃y:DataW H×List MemPlace,DataW.trod enc P w base (fun _=>true) held n f.type ((cs.drop (f.offset - o)).take (P.cellsOf f.type))=some y)→∃aS,DenL ds aS∧VS (XW w) w no aS cs∧∀u∈cs,u.oneCell'=true
  | [], fs, o, n, cs, hf, hl, _ => by
    have:cs= []:=List.eq_nil_of_length_eq_zero hl
    subst this
    exact⟨[],rfl,VS_nil,(fun u h=>by cases h)⟩
  |d::ds, [],o,n,cs,hf,hl,_=>by simp [fitL]at hf
  | d :: ds, f :: fs, o, n, cs, hf, hl, h => by
    simp only [fitL,Bool.and_eq_true]at hf
    obtain⟨⟨⟨h1,h2⟩,h3⟩,h4⟩:=hf
    have e1:f.offset=o:=Nat.eq_of_beq_eq_true h1
    have e2:P.cellsOf f.type=d.cells:=Nat.eq_of_beq_eq_true h2
    have hl':cs.length=d.cells+D.cellsL ds:=hl
    obtain⟨y,hy⟩:=h 0 f rfl
    rw [e1,e2,Nat.sub_self,List.drop_zero]at hy
    obtain⟨aS,g1,g2,g3⟩:=open_D d f.type n _ y h3 hy
    have hfo:=fitL_off ds fs (o+d.cells) h4
    obtain⟨bs,k1,k2,k3⟩:=open_L ds fs (o+d.cells) n (cs.drop d.cells) h4 (by rw [List.length_drop];omega) (fun i f' hi=>by
      obtain⟨y,hy⟩:=h (i+1) f' (by simpa using hi)
      have hoff:=hfo f' (List.mem_of_getElem? hi)
      refine⟨y,?_⟩
      rw [List.drop_drop,show d.cells+(f'.offset - (o+d.cells))=f'.offset - o by omega]
      exact hy)
    refine⟨aS++bs,⟨aS,bs,g1,k1,rfl⟩,?_,?_⟩
    · have := VS_app g2 k2
      rwa [List.take_append_drop]at this
    · intro u hu
      rw [←List.take_append_drop d.cells cs]at hu
      exact(List.mem_append.1 hu).elim (g3 u) (k3 u)
theorem fitL_off:∀(ds:List D) (fs:List Field) (o:Nat),fitL P ds fs o=true→∀f∈fs,o≤f.offset
  | [], [],o,_,f,hm=>by cases hm
  | [],_::_,o,h,f,hm=>by simp [fitL]at h
  |_::_, [],o,h,f,hm=>by cases hm
  | d :: ds, f' :: fs, o, h, f, hm => by
    simp only [fitL,Bool.and_eq_true]at h
    have e1:f'.offset=o:=Nat.eq_of_beq_eq_true h.1.1.1
    rcases List.mem_cons.1 hm with rfl|hm
    · omega
    · have:=fitL_off ds fs (o+d.cells) h.2 f hm;omega
end
def argA:D→List A→A
  | .arr _ _,aS=> .ag aS
  | .st _,aS=> .ag aS
  |_,aS=>aS.getD 0 un
theorem row_D {t:TypeId} {r:Reach} {b0:Nat} {v:Value} {x:DataW H} {ps:List MemPlace} (d:D) (hf:fitD P d t=true) (hval:Value.okWide P w r b0 t v) (h:DataW.Trod enc P w base (fun _=>true) held t v x ps):∃aS,Den d aS∧V (XW w) w no (argA d aS) v:=by
  obtain⟨fuel,hfu⟩:=h
  obtain⟨aS,g1,g2,g3⟩:=open_D d t fuel _ _ hf hfu
  refine⟨aS,g1,?_⟩
  have agg:∀cs:Array Value,v= .agg cs→V (XW w) w no (.ag aS) v:=by
    rintro cs rfl
    simp only [V]
    exact⟨cs.toList,by simp,g2,g3⟩
  have scal:∀a,aS= [a]→v.cells= #[v]→V (XW w) w no (aS.getD 0 un) v:=by
    rintro a rfl hv
    rw [hv]at g2
    simp only [VS]at g2
    obtain⟨u,r,hu,hvu,rfl⟩:=g2
    simp only [List.cons.injEq,and_true]at hu
    subst hu
    exact hvu
  cases d with
  | int k =>
    obtain⟨n,rfl⟩:=WideShapes.okWide_int (isInt_ok hf) hval
    simp only [Den]at g1
    obtain⟨m,_,rfl⟩:=g1
    exact scal _ rfl rfl
  | bool =>
    obtain⟨n,rfl⟩:=WideShapes.okWide_bool (isBool_ok hf) hval
    simp only [Den]at g1
    obtain⟨m,rfl⟩:=g1
    exact scal _ rfl rfl
  | str =>
    obtain⟨n,rfl⟩:=WideShapes.okWide_string (isStr_ok hf) hval
    simp only [Den]at g1
    obtain⟨m,_,rfl⟩:=g1
    exact scal _ rfl rfl
  | sl e =>
    simp only [fitD]at hf
    split at hf
    · rename_i u ht
      obtain⟨a,len,cap,rfl⟩:=WideShapes.okWide_slice ht hval
      simp only [Den]at g1
      obtain⟨m,_,_,rfl⟩:=g1
      exact scal _ rfl rfl
    · cases hf
  | arr n e =>
    simp only [fitD]at hf
    split at hf
    · rename_i m u ht
      unfold Value.okWide at hval
      simp only [ht]at hval
      obtain⟨cs,rfl,_,_⟩:=hval
      exact agg cs rfl
    · cases hf
  | st ds =>
    simp only [fitD]at hf
    split at hf
    · rename_i fs ht
      unfold Value.okWide at hval
      simp only [ht]at hval
      obtain⟨cs,rfl,_,_⟩:=hval
      exact agg cs rfl
    · cases hf
theorem args_stay (hl:laidOutB P=true) {W W':World} (hb:RowKit.Below W.heap.size W W'):∀(ts:List TypeId) (vs:List Value) (ds:List (DataW H)) (p:List MemPlace),(ts.all fun t=>P.readableRec t&&decide (t<P.types.size))=true→
    DataW.TrodAll enc P W 0 (fun _=>true) true ts vs ds p→(∀x∈p,x.block<W.heap.size)→DataW.TrodAll enc P W' 0 (fun b=>decide (b<W.heap.size)) true ts vs ds p
  | [], vs, ds, p, _, h, _ => by
    obtain⟨rfl,rfl,rfl⟩:=ChangeShapes.trodAll_nil h
    rfl
  | t :: ts, vs, ds, p, hall, h, hlt => by
    simp only [List.all_cons,Bool.and_eq_true,decide_eq_true_eq]at hall
    obtain⟨v,vs',d,ds',a,b,rfl,rfl,rfl,h1,h2⟩:=ChangeShapes.trodAll_cons h
    exact⟨a,b,RowKit.Below.trod hl hall.1.1 hall.1.2 h1 hb (fun x hx=>hlt x (by simp [hx])),args_stay hl hb ts vs' ds' b hall.2 h2 (fun x hx=>hlt x (by simp [hx])),rfl⟩
theorem con_true {f:FuncId} {aS:List A} {us:List Value} {W:World} (hc:Con P f aS (Ret (.b true))) (hg:GL (XW W) W) (hv:VS (XW W) W no aS us):
    Calls P f us.toArray W fun e W'=>e= .returned (.bool true)∧RowKit.Below W.heap.size W W':=by
  have h:=hc W (XW W) no us (fun _ _=>rfl) XW_lt hg (fun id cs h=>by cases h) (fun i j ci cj b M N _ h=>by cases h) hv
  refine h.calls.mono fun e W' he=>?_
  obtain⟨v,rfl,r,β',X',st',hr,_,_,hm,hV⟩:=he
  have:r= .b true:=hr
  subst this
  simp only [V]at hV
  subst hV
  have kb:=hm.below
  refine⟨rfl,kb.os,kb.tape,kb.output,kb.size,fun k hk=>kb.block k hk ?_⟩
  rintro⟨id,cs,h,_⟩
  cases h
theorem arr_lits {t e:TypeId} {n:Nat} {k:IntKind} {fuel:Nat} {cs:List Value} {l:List Int} {p:List MemPlace} {sp:Nat→Bool} {enc:TypeId×Value→Unit} (ht:P.underlying t=some (.array n e)) (he:P.underlying e=some (.int k)) (hc:P.cellsOf e=1) (hct:P.cellsOf t=n)
    (h:DataW.trod enc P w base sp held fuel t cs=some (.agg (l.map fun i=> .lit (.int k i)),p)):cs=l.map (.int k):=by
  obtain⟨xs,m,_,hx,hl,hxl,hel⟩:=DataW.trod_array ht h
  simp only [Prod.mk.injEq,DataW.agg.injEq]at hx
  have hll:l.length=n:=by have:=congrArg List.length hx.1;simp at this;omega
  rw [hct]at hl
  refine List.ext_getElem (by simp;omega) fun i h1 h2=>?_
  have hi:i<n:=by omega
  have:=hel i hi
  rw [hc,Nat.mul_one,List.drop_eq_getElem_cons h1,List.take_succ_cons,List.take_zero,List.getElem?_eq_getElem (by omega)]at this
  obtain⟨q,e1,e2,_⟩:=DataW.trod_int he this
  simp only [List.cons.injEq,and_true]at e1
  rw [List.getElem_map,e1]
  have h3:=congrArg (fun z:List (DataW Unit)=>z[i]?) hx.1
  simp only [List.getElem?_map]at h3
  rw [List.getElem?_eq_getElem (by simpa using h2),List.getElem?_eq_getElem (by omega),Option.map_some,Option.map_some,e2]at h3
  simp only [Option.some.injEq,DataW.lit.injEq,Lit.int.injEq,true_and]at h3
  rw [h3]
theorem den_map {α:Type} {e:D} {f:α→List A} {p:α→Prop} (h:∀x,Den e x→∃y,x=f y∧p y):∀ls:List (List A),(∀x∈ls,Den e x)→∃ys:List α,ls=ys.map f∧∀y∈ys,p y
  | [],_=>⟨[],rfl,fun y hy=>by cases hy⟩
  | x :: ls, hx => by
    obtain⟨y,rfl,hy⟩:=h x (hx x (.head _))
    obtain⟨ys,rfl,hys⟩:=den_map h ls fun z hz=>hx z (.tail _ hz)
    exact⟨y::ys,rfl,fun z hz=>(List.mem_cons.1 hz).elim (fun e=>e ▸ hy) (hys z)⟩
theorem flat_sing {α:Type} (f:α→A) (l:List α):(l.map fun x=> [f x]).flatten=l.map f:=by
  induction l with
  |nil=>rfl
  |cons x l ih=>simp [ih]
theorem den_u8 (aS:List A) (h:Den (.int .u8) aS):∃b:UInt8,aS= [u8 b]∧True:=by
  simp only [Den]at h
  obtain⟨n,hw,rfl⟩:=h
  refine⟨UInt8.ofNat n.toNat,?_,trivial⟩
  simp only [Lit.wf,Bool.and_eq_true,decide_eq_true_eq]at hw
  have h1:IntKind.u8.min=0:=rfl
  have h2:IntKind.u8.max=255:=rfl
  rw [h1,h2]at hw
  have:((UInt8.ofNat n.toNat).toNat:Int)=n:=by
    rw [UInt8.toNat_ofNat',Nat.mod_eq_of_lt (by omega)];omega
  rw [u8,this]
theorem den_int (aS:List A) (h:Den (.int .i64) aS):∃n:Int,aS= [.i .i64 n]∧(-9223372036854775808≤n∧n≤9223372036854775807):=by
  simp only [Den]at h
  obtain⟨n,hw,rfl⟩:=h
  simp only [Lit.wf,Bool.and_eq_true,decide_eq_true_eq]at hw
  have h1:IntKind.i64.min= -9223372036854775808:=rfl
  have h2:IntKind.i64.max=9223372036854775807:=rfl
  rw [h1,h2]at hw
  exact⟨n,rfl,hw⟩
theorem den_arr8 {n:Nat} (aS:List A) (h:Den (.arr n (.int .u8)) aS):∃d:List UInt8,aS=d.map u8∧d.length=n:=by
  simp only [Den]at h
  obtain⟨ls,h1,h2,rfl⟩:=h
  obtain⟨ys,rfl,_⟩:=den_map den_u8 ls h1
  exact⟨ys,flat_sing _ _,by simpa using h2⟩
theorem den_ints (aS:List A) (h:Den (.sl (.int .i64)) aS):∃b:List Int,aS= [.fz b.length (b.map (A.i .i64))]∧b.length≤maxLen∧∀n∈b, -9223372036854775808≤n∧n≤9223372036854775807:=by
  simp only [Den]at h
  obtain⟨ls,h1,h2,rfl⟩:=h
  obtain⟨ys,rfl,h3⟩:=den_map den_int ls h1
  exact⟨ys,by rw [flat_sing,List.length_map],by simpa using h2,h3⟩
end
end Go.Abs
-- K6Q
namespace Go.Abs.D2
open Go Go.Eng Go.Abs
theorem ver_signed {x:List UInt8} {k i:Nat} (m:List UInt8) (hk:sizeK (k:Int)) (hi:i<k):verK (rootD x k) k m i (signD (seedL x i) m) (path (kpubs x k) i)=true:=by
  have h1:=climb_good (L:=kpubs x k) (kpubs_get hi) (by rw [len_kpubs];unfold sizeK at hk;omega)
  rw [len_kpubs]at h1
  have h2:=recD_sign (seedL x i) m
  refine ver_kt hk (by unfold atK;omega) h2.2 ?_
  rw [h2.1,rootD_yes hk,h1.1,h1.2]
  simp
def atM (i:Nat) (m:List UInt8):List (List UInt8):=List.replicate i zD++ [m]
@[simp] theorem len_atM (i:Nat) (m:List UInt8):(atM i m).length=i+1:=by simp [atM]
theorem sgn_atM (i:Nat) (m:List UInt8):sgnK (atM i m) i=m:=by simp [sgnK,atM]
structure Lf where
  a:Int
  S:List (List UInt8)
  P:List (List UInt8)
end Go.Abs.D2
-- F3A
namespace Go.Abs.D2
open Go Go.Eng Go.Abs
inductive Part where
  |d (x:List UInt8)|b (x:UInt8)|w (x:BitVec 32)
def Part.a (tD tB tW:TypeId):Part→A
  | .d x=> .ic tD (.ag (x.map u8))
  | .b x=> .ic tB (u8 x)
  | .w x=> .ic tW (w32 x)
def be32 (x:BitVec 32):List UInt8:= [UInt8.ofNat (x>>>24).toNat,UInt8.ofNat (x>>>16).toNat,UInt8.ofNat (x>>>8).toNat,UInt8.ofNat x.toNat]
@[simp] theorem len_be32 (x:BitVec 32):(be32 x).length=4:=rfl
def Part.bs:Part→List UInt8
  | .d x=>x
  | .b x=> [x]
  | .w x=>be32 x
def Part.ok:Part→Prop
  | .d x=>x.length=32
  |_=>True
def bytesP (ps:List Part):List UInt8:=(ps.map Part.bs).flatten
theorem bytesP_next {ps:List Part} {i:Nat} {p:Part} (h:ps[i]? =some p):bytesP (ps.take i)++p.bs=bytesP (ps.take (i+1)):=by
  unfold bytesP
  rw [List.take_add_one,h];simp
theorem len_bs {p:Part} (h:p.ok):p.bs.length≤32:=by
  cases p with
  |d x=>exact Nat.le_of_eq h
  |b x=>simp [Part.bs]
  |w x=>simp [Part.bs,be32]
theorem len_bytesP:∀ {ps:List Part},(∀p∈ps,p.ok)→(bytesP ps).length≤32*ps.length
  | [],_=>by simp [bytesP]
  | p :: ps, h => by
    have h1:=len_bs (h p (.head _))
    have h2:=len_bytesP (ps:=ps) fun q hq=>h q (.tail _ hq)
    unfold bytesP at*
    simp only [List.map_cons,List.flatten_cons,List.length_append,List.length_cons]
    omega
theorem getPa {tD tB tW:TypeId} {ps:List Part} {i:Nat} {p:Part} (h:ps[i]? =some p):((ps.map (Part.a tD tB tW)).drop (i*1))[0]? =some (p.a tD tB tW):=by
  rw [List.getElem?_drop,show i*1+0=i by omega,List.getElem?_map,h];rfl
theorem bytesP_step {ps:List Part} {i:Nat} {p:Part} {r:List A} (h:ps[i]? =some p) (hr:r=p.bs.map u8):(bytesP (ps.take i)).map u8++r=(bytesP (ps.take (i+1))).map u8:=by
  rw [←bytesP_next h,hr,List.map_append]
def numD (d:List UInt8) (o:Nat):Nat→Nat
  |0=>0
  |j+1=>numD d o j*256+(d.getD (o+j) 0).toNat
theorem numD_lt (d:List UInt8) (o:Nat):∀j,numD d o j<256 ^ j
  |0=>by simp [numD]
  | j + 1 => by
    have h1:=numD_lt d o j
    have h2:=(d.getD (o+j) 0).toNat_lt
    rw [numD,Nat.pow_succ]
    omega
theorem or_byte (n:Nat) (b:UInt8) (h:n<16777216):ibits .or .i64 ((n*256:Nat):Int) (b.toNat:Int)=((n*256+b.toNat:Nat):Int):=by
  have hb:=b.toNat_lt
  have e:(BitVec.ofInt 64 ((n*256:Nat):Int)|||BitVec.ofInt 64 (b.toNat:Int)).toNat=(n*256|||b.toNat) % 2 ^ 64:=by
    rw [BitVec.toNat_or]
    simp only [BitVec.ofInt_natCast,BitVec.toNat_ofNat]
    rw [Nat.or_mod_two_pow]
  have e2:n*256|||b.toNat=n*256+b.toNat:=by
    rw [Nat.mul_comm,show(256:Nat)=2 ^ 8 from rfl,Nat.two_pow_add_eq_or_of_lt hb]
  show IntKind.i64.wrap ((BitVec.ofInt 64 ((n*256:Nat):Int)|||BitVec.ofInt 64 (b.toNat:Int)).toNat:Int)=_
  have e3:(n*256+b.toNat) % 2 ^ 64=n*256+b.toNat:=Nat.mod_eq_of_lt (by omega)
  rw [e,e2,e3]
  exact wrapI _ (by omega) (by omega)
theorem shl_byte (n:Nat) (h:n<16777216):IntKind.i64.wrap ((n:Int)*2 ^ min ((8:Int).toNat) IntKind.i64.bits)=((n*256:Nat):Int):=by
  show IntKind.i64.wrap ((n:Int)*256)=_
  rw [wrapI _ (by omega) (by omega)]
  omega
@[irreducible] def filD (x:List UInt8) (lv id:Nat):List UInt8:=tagged [102,105,108,116,101,114] (x++UInt8.ofNat lv::be32 (BitVec.ofNat 32 id))
theorem filD_eq (x:List UInt8) (lv id:Nat):filD x lv id=tagged [102,105,108,116,101,114] (x++UInt8.ofNat lv::be32 (BitVec.ofNat 32 id)):=by unfold filD;rfl
@[simp] theorem len_filD (x:List UInt8) (lv id:Nat):(filD x lv id).length=32:=by rw [filD_eq];simp
def bitL (x:List UInt8) (lv nb id i:Nat):List Nat:=(List.range i).map fun j=>numD (filD x lv id) (4*j) 4 % nb
theorem bitL_succ (x:List UInt8) (lv nb id i:Nat):bitL x lv nb id (i+1)=bitL x lv nb id i++ [numD (filD x lv id) (4*i) 4 % nb]:=by simp [bitL,List.range_succ]
@[simp] theorem len_bitL (x:List UInt8) (lv nb id i:Nat):(bitL x lv nb id i).length=i:=by simp [bitL]
abbrev nJ (n:Nat):A:= .i .i64 (n:Int)
theorem getO3 {m:List UInt8} {o:Nat} (k:Nat) (hi:o+k<m.length) {cs:List A} (hc:cs=(m.map u8).drop (0+o*1+k*1)):cs[0]? =some (u8 (m.getD (o+k) 0)):=by
  subst hc
  rw [List.getElem?_drop,show 0+o*1+k*1+0=o+k by omega]
  simp [hi]
theorem conv8J (b:UInt8):A.i .i64 (IntKind.i64.wrap (b.toNat:Int))=nJ b.toNat:=by
  have:=b.toNat_lt
  exact congrArg (A.i .i64) (wrapI _ (by omega) (by omega))
def sizedP (a b:Int):Prop:=0≤a∧a<16∧8≤b∧b≤4096
instance (a b:Int):Decidable (sizedP a b):=by unfold sizedP;infer_instance
end Go.Abs.D2
-- F3P
namespace Go.Abs.D2
open Go Go.Eng Go.Abs
theorem all_next {p:Nat→Prop} {i:Nat} (h:∀t,t<i→p t) (hp:p i):∀t,t<i+1→p t:=fun t ht=>(Nat.lt_or_ge t i).elim (h t) fun hg=>(Nat.le_antisymm (Nat.le_of_lt_succ ht) hg) ▸ hp
theorem zmap (k:Nat):List.replicate k (evC (Value.int .u8 0))=(List.replicate k (0:UInt8)).map u8:=(List.map_replicate (f:=u8) (n:=k) (a:=0)).symm
theorem tf (b:Bool):b=false∨b=true:=by cases b<;>simp
theorem bitB_nat {r:Nat} (h:r<8):(bitB r).toNat=2 ^ r:=by
  unfold bitB
  rw [UInt8.toNat_ofNat']
  exact Nat.mod_eq_of_lt (Nat.pow_lt_pow_right (by omega) h)
theorem bit_div (b r:Nat):Nat.testBit b r=(b / 2 ^ r % 2==1):=by
  rw [Nat.testBit_eq_decide_div_mod_eq];rfl
def bitA (l:List UInt8) (k:Nat):Bool:=(l.getD (k / 8) 0).toNat.testBit (k % 8)
def setA (l:List UInt8) (k:Nat):List UInt8:=l.set (k / 8) (l.getD (k / 8) 0|||bitB (k % 8))
@[simp] theorem len_setA (l:List UInt8) (k:Nat):(setA l k).length=l.length:=by simp [setA]
theorem bit_setA {l:List UInt8} {k:Nat} (h:k / 8<l.length) (j:Nat):bitA (setA l k) j=(bitA l j||j==k):=by
  unfold bitA setA
  by_cases hj:j / 8=k / 8
  · rw [hj]
    have e:(l.set (k / 8) (l.getD (k / 8) 0|||bitB (k % 8))).getD (k / 8) 0=l.getD (k / 8) 0|||bitB (k % 8):=by simp [List.getD,h]
    rw [e,UInt8.toNat_or,Nat.testBit_or,bitB_nat (by omega),Nat.testBit_two_pow]
    congr 1
    by_cases hm:j=k
    · subst hm;simp
    · rw [beq_eq_false_iff_ne.2 hm];exact decide_eq_false (by omega)
  · have e : (l.set (k / 8) (l.getD (k / 8) 0 ||| bitB (k % 8))).getD (j / 8) 0 = l.getD (j / 8) 0 := by
      simp only [List.getD,List.getElem?_set];rw [if_neg (fun h=>hj h.symm)]
    rw [e,beq_eq_false_iff_ne.2 (by rintro rfl;exact hj rfl),Bool.or_false]
def tailP (n:Nat) (D:List UInt8):Prop:=∀k,n≤k→k<8*D.length→bitA D k=false
theorem tail_iff {n : Nat} {D : List UInt8} (hl : D.length = (n + 7) / 8) (hn : 8 ≤ n) : (n % 8 = 0 ∨ (D.getD (D.length - 1) 0).toNat / 2 ^ (n % 8) = 0) ↔ tailP n D := by
  by_cases h0:n % 8=0
  · refine⟨fun _ k h1 h2=>absurd h2 (by omega),fun _=> .inl h0⟩
  · have hd : D.length - 1 = n / 8 := by omega
    rw [hd]
    constructor
    · rintro (h | h) k h1 h2
      · exact absurd h h0
      · unfold bitA
        rw [show k / 8=n / 8 by omega]
        have h3:(D.getD (n / 8) 0).toNat<2 ^ (n % 8):=by
          rcases Nat.lt_or_ge (D.getD (n / 8) 0).toNat (2 ^ (n % 8))with h'|h'
          · exact h'
          · have:=Nat.div_pos h' (Nat.two_pow_pos _);omega
        exact Nat.testBit_lt_two_pow (Nat.lt_of_lt_of_le h3 (Nat.pow_le_pow_right (by omega) (by omega)))
    · intro h
      right
      apply Nat.div_eq_of_lt
      apply Nat.lt_pow_two_of_testBit
      intro i hi
      by_cases h8:i<8
      · have := h (8 * (n / 8) + i) (by omega) (by omega)
        unfold bitA at this
        rwa [show(8*(n / 8)+i) / 8=n / 8 by omega,show(8*(n / 8)+i) % 8=i by omega]at this
      · exact Nat.testBit_lt_two_pow (Nat.lt_of_lt_of_le (UInt8.toNat_lt _) (Nat.pow_le_pow_right (by omega) (by omega:8≤i)))
@[irreducible] def chkB (lv nb:Int) (D:List UInt8):Bool:=decide (sizedP lv nb)&&(D.length==(nb.toNat+7) / 8)&&(nb.toNat % 8==0||(D.getD (D.length - 1) 0).toNat / 2 ^ (nb.toNat % 8)==0)
theorem sized_nat {lv nb:Int} (h:sizedP lv nb):∃l n:Nat,lv=(l:Int)∧nb=(n:Int)∧l<16∧8≤n∧n≤4096:=⟨lv.toNat,nb.toNat,by unfold sizedP at h;omega,by unfold sizedP at h;omega,by unfold sizedP at h;omega,by unfold sizedP at h;omega,by unfold sizedP at h;omega⟩
theorem nat_sized {l n:Nat} (h1:l<16) (h2:8≤n) (h3:n≤4096):sizedP (l:Int) (n:Int):=by unfold sizedP;omega
theorem chk_size {lv nb:Int} {D:List UInt8} (h:¬sizedP lv nb):chkB lv nb D=false:=by unfold chkB;simp [h]
theorem chk_len {l n:Nat} {D:List UInt8} (h:D.length≠(n+7) / 8):chkB l n D=false:=by unfold chkB;simp [h]
theorem chk_tail {l n:Nat} {D:List UInt8} (h1:l<16) (h2:8≤n) (h3:n≤4096) (hl:D.length=(n+7) / 8):chkB l n D=(n % 8==0||(D.getD (D.length - 1) 0).toNat / 2 ^ (n % 8)==0):=by
  have:=nat_sized h1 h2 h3
  unfold chkB
  simp only [this,decide_true,Bool.true_and,Int.toNat_natCast]
  rw [beq_iff_eq.2 hl,Bool.true_and]
theorem chk_tail2 {l n:Nat} {D:List UInt8} (h1:l<16) (h2:8≤n) (h3:n≤4096) (hl:D.length=(n+7) / 8):chkB l n D=true↔tailP n D:=by
  rw [chk_tail h1 h2 h3 hl, ←tail_iff hl h2];simp
theorem chk_nat {lv nb:Int} {D:List UInt8} (h:chkB lv nb D=true):∃l n:Nat,lv=(l:Int)∧nb=(n:Int)∧l<16∧8≤n∧n≤4096∧D.length=(n+7) / 8∧tailP n D:=by
  by_cases hs:sizedP lv nb
  · obtain ⟨l, n, rfl, rfl, h1, h2, h3⟩ := sized_nat hs
    by_cases hl:D.length=(n+7) / 8
    · exact⟨l,n,rfl,rfl,h1,h2,h3,hl,(chk_tail2 h1 h2 h3 hl).1 h⟩
    · rw [chk_len hl]at h;cases h
  · rw [chk_size hs]at h;cases h
theorem nat_chk {l n:Nat} {D:List UInt8} (h1:l<16) (h2:8≤n) (h3:n≤4096) (hl:D.length=(n+7) / 8) (ht:tailP n D):chkB l n D=true:=(chk_tail2 h1 h2 h3 hl).2 ht
def errF (b:Bool):Int:=if b then 0 else 330
@[irreducible] def bN (x:List UInt8) (lv nb id i:Nat):Nat:=numD (filD x lv id) (4*i) 4 % nb
theorem bN_eq (x:List UInt8) (lv nb id i:Nat):bN x lv nb id i=numD (filD x lv id) (4*i) 4 % nb:=by unfold bN;rfl
theorem bN_lt {x:List UInt8} {lv nb id:Nat} (h:0<nb) (i:Nat):bN x lv nb id i<nb:=by rw [bN_eq];exact Nat.mod_lt _ h
theorem bitL_get (x:List UInt8) (lv nb id i:Nat) (h:i<2):(((bitL x lv nb id 2).map nJ).drop (i*1))[0]? =some (nJ (bN x lv nb id i)):=by
  rw [List.getElem?_drop,show i*1+0=i by omega,bN_eq]
  simp [bitL,h]
@[irreducible] def okB (lv nb:Int) (D:List UInt8) (id:Int):Bool:=chkB lv nb D&&decide (0≤id∧id<1024)
theorem ok_chk {lv nb id:Int} {D:List UInt8} (h:chkB lv nb D=false):okB lv nb D id=false:=by unfold okB;simp [h]
theorem ok_id {lv nb id:Int} {D:List UInt8} (h:¬(0≤id∧id<1024)):okB lv nb D id=false:=by unfold okB;simp only [h,decide_false,Bool.and_false]
theorem ok_yes {lv nb id:Int} {D:List UInt8} (h:chkB lv nb D=true) (h':0≤id∧id<1024):okB lv nb D id=true:=by unfold okB;simp only [h,h'];rfl
theorem ok_nat {lv nb id:Int} {D:List UInt8} (h:okB lv nb D id=true):∃l n j:Nat,lv=(l:Int)∧nb=(n:Int)∧id=(j:Int)∧l<16∧8≤n∧n≤4096∧j<1024∧D.length=(n+7) / 8∧tailP n D:=by
  unfold okB at h
  simp only [Bool.and_eq_true,decide_eq_true_eq]at h
  obtain⟨h,h5,h6⟩:=h
  obtain⟨l,n,rfl,rfl,h1,h2,h3,h4,ht⟩:=chk_nat h
  exact⟨l,n,id.toNat,rfl,rfl,by omega,h1,h2,h3,by omega,h4,ht⟩
@[irreducible] def bitsA (x:List UInt8) (lv nb:Int) (D:List UInt8) (id:Int):A:=if okB lv nb D id then .tu [.fz 2 ((bitL x lv.toNat nb.toNat id.toNat 2).map nJ),.i .i64 0]else .tu [.nl,.i .i64 330]
theorem bits_no {x:List UInt8} {lv nb id:Int} {D:List UInt8} (h:okB lv nb D id=false):bitsA x lv nb D id= .tu [.nl,.i .i64 330]:=by unfold bitsA;rw [h];rfl
theorem bits_yes {x:List UInt8} {l n j:Nat} {D:List UInt8} (h:okB l n D j=true):bitsA x l n D j= .tu [.fz 2 ((bitL x l n j 2).map nJ),.i .i64 0]:=by unfold bitsA;rw [h];rfl
def hasD (x:List UInt8) (l n j:Nat) (D:List UInt8):Bool:=bitA D (bN x l n j 0)&&bitA D (bN x l n j 1)
def setsB (x:List UInt8) (l n j:Nat) (D:List UInt8):Nat→List UInt8
  |0=>D
  |i+1=>setA (setsB x l n j D i) (bN x l n j i)
@[simp] theorem len_setsB (x : List UInt8) (l n j : Nat) (D : List UInt8) : ∀ i, (setsB x l n j D i).length = D.length
  |0=>rfl
  |i+1=>by simp [setsB,len_setsB x l n j D i]
abbrev addD (x:List UInt8) (l n j:Nat) (D:List UInt8):List UInt8:=setsB x l n j D 2
abbrev filA (lv nb:Int) (D:List UInt8):A:= .ag [.i .i64 lv,.i .i64 nb,slA D]
@[irreducible] def hasA (x:List UInt8) (lv nb:Int) (D:List UInt8) (id:Int):A:=if okB lv nb D id then .tu [.b (hasD x lv.toNat nb.toNat id.toNat D),.i .i64 0]else .tu [.b false,.i .i64 330]
theorem has_no {x:List UInt8} {lv nb id:Int} {D:List UInt8} (h:okB lv nb D id=false):hasA x lv nb D id= .tu [.b false,.i .i64 330]:=by unfold hasA;rw [h];rfl
theorem has_yes {x:List UInt8} {l n j:Nat} {D:List UInt8} (h:okB l n D j=true):hasA x l n D j= .tu [.b (hasD x l n j D),.i .i64 0]:=by unfold hasA;rw [h];rfl
@[irreducible] def addA (x:List UInt8) (lv nb:Int) (D:List UInt8) (id:Int):A:=if okB lv nb D id then .tu [filA lv nb (addD x lv.toNat nb.toNat id.toNat D),.i .i64 0]else .tu [filA 0 0 [],.i .i64 330]
theorem add_no {x:List UInt8} {lv nb id:Int} {D:List UInt8} (h:okB lv nb D id=false):addA x lv nb D id= .tu [filA 0 0 [],.i .i64 330]:=by unfold addA;rw [h];rfl
theorem add_yes {x:List UInt8} {l n j:Nat} {D:List UInt8} (h:okB l n D j=true):addA x l n D j= .tu [filA l n (addD x l n j D),.i .i64 0]:=by unfold addA;rw [h];rfl
@[irreducible] def newA (lv nb:Int):A:=if sizedP lv nb then .tu [filA lv nb (List.replicate ((nb.toNat+7) / 8) 0),.i .i64 0]else .tu [filA 0 0 [],.i .i64 330]
theorem new_no {lv nb:Int} (h:¬sizedP lv nb):newA lv nb= .tu [filA 0 0 [],.i .i64 330]:=by unfold newA;rw [if_neg h]
theorem new_yes {l n:Nat} (h:sizedP (l:Int) (n:Int)):newA l n= .tu [filA l n (List.replicate ((n+7) / 8) 0),.i .i64 0]:=by unfold newA;rw [if_pos h];rfl
theorem has_byte (b:UInt8) (r:Nat):(((UInt8.ofNat (b.toNat / 2 ^ r)&&& 1).toNat:Int)==0)= !(b.toNat.testBit r):=by
  have hb:=b.toNat_lt
  have h1:b.toNat / 2 ^ r≤b.toNat:=Nat.div_le_self _ _
  rw [UInt8.toNat_and,UInt8.toNat_ofNat',Nat.mod_eq_of_lt (by omega),show(1:UInt8).toNat=1 from rfl,Nat.and_one_is_mod,bit_div]
  have h2:=Nat.mod_two_eq_zero_or_one (b.toNat / 2 ^ r)
  rcases h2 with h|h<;>rw [h]<;>rfl
theorem shr_zero (b:UInt8) (r:Nat):(((UInt8.ofNat (b.toNat / 2 ^ r)).toNat:Int) !=0)= !(b.toNat / 2 ^ r==0):=by
  have hb:=b.toNat_lt
  have h1:b.toNat / 2 ^ r≤b.toNat:=Nat.div_le_self _ _
  rw [UInt8.toNat_ofNat',Nat.mod_eq_of_lt (by omega),bne]
  congr 1
  generalize b.toNat / 2 ^ r=q
  rw [Bool.eq_iff_iff]
  simp
theorem getD8 {m:List UInt8} {i:Nat} (hi:i<m.length):((m.map u8).drop (i*1))[0]? =some (u8 (m.getD i 0)):=by
  rw [List.getElem?_drop,show i*1+0=i by omega]
  simp [hi]
theorem getO8 {m:List UInt8} {i:Nat} (hi:i<m.length):((m.map u8).drop (0+i*1))[0]? =some (u8 (m.getD i 0)):=by
  rw [List.getElem?_drop,show 0+i*1+0=i by omega]
  simp [hi]
theorem setD8 {m:List UInt8} {k:Nat}:((m.map u8).set (k / 8) (u8 (m.getD (k / 8) 0|||bitB (k % 8))))=(setA m k).map u8:=by
  unfold setA;rw [List.map_set]
theorem hasD_no {x:List UInt8} {l n j i:Nat} {D:List UInt8} (h:i<2) (hb:bitA D (bN x l n j i)=false):hasD x l n j D=false:=by
  unfold hasD
  have:i=0∨i=1:=by omega
  rcases this with rfl|rfl<;>simp [hb]
theorem hasD_yes {x:List UInt8} {l n j:Nat} {D:List UInt8} (h:∀t,t<2→bitA D (bN x l n j t)=true):hasD x l n j D=true:=by
  unfold hasD;rw [h 0 (by omega),h 1 (by omega)];rfl
theorem setD9 (m:List UInt8) (k:Nat):(m.map u8).set (0+k / 8*1) (u8 (m.getD (k / 8) 0|||bitB (k % 8)))=(setA m k).map u8:=by
  rw [show 0+k / 8*1=k / 8 by omega];exact setD8
end Go.Abs.D2
-- F3Q
namespace Go.Abs.D2
open Go Go.Eng Go.Abs
abbrev u16 (x:UInt16):A:= .i .u16 (x.toNat:Int)
def hasV (x:List UInt8) (lv nb:Int) (D:List UInt8) (id:Int):Bool:=okB lv nb D id&&hasD x lv.toNat nb.toNat id.toNat D
theorem has_form (x:List UInt8) (lv nb:Int) (D:List UInt8) (id:Int):hasA x lv nb D id= .tu [.b (hasV x lv nb D id),.i .i64 (errF (okB lv nb D id))]:=by
  unfold hasA hasV
  cases okB lv nb D id<;>rfl
theorem bit_addD {x:List UInt8} {l n j:Nat} {D:List UInt8} (hn:0<n) (hl:D.length=(n+7) / 8) (k:Nat):bitA (addD x l n j D) k=(bitA D k||(k==bN x l n j 0||k==bN x l n j 1)):=by
  have h0:=bN_lt (x:=x) (lv:=l) (id:=j) hn 0
  have h1:=bN_lt (x:=x) (lv:=l) (id:=j) hn 1
  simp only [addD,setsB]
  rw [bit_setA (by simp;omega),bit_setA (by omega),Bool.or_assoc]
theorem chk_addD {x:List UInt8} {l n j:Nat} {D:List UInt8} (h:chkB l n D=true):chkB l n (addD x l n j D)=true:=by
  obtain⟨l',n',e1,e2,h1,h2,h3,h4,h5⟩:=chk_nat h
  obtain rfl:l=l':=by omega
  obtain rfl:n=n':=by omega
  have h0:=bN_lt (x:=x) (lv:=l) (id:=j) (show 0<n by omega) 0
  have h1':=bN_lt (x:=x) (lv:=l) (id:=j) (show 0<n by omega) 1
  refine nat_chk h1 h2 h3 (by simp [h4]) fun k hk hk2=>?_
  rw [bit_addD (by omega) h4,h5 k hk (by simpa using hk2),beq_eq_false_iff_ne.2 (by omega),beq_eq_false_iff_ne.2 (by omega)];rfl
def stepF (x:List UInt8) (lv nb:Int) (D:List UInt8) (id:Int):List UInt8:=if okB lv nb D id then addD x lv.toNat nb.toNat id.toNat D else D
theorem add_yes2 {x:List UInt8} {lv nb id:Int} {D:List UInt8} (h:okB lv nb D id=true):addA x lv nb D id= .tu [filA lv nb (stepF x lv nb D id),.i .i64 0]:=by unfold addA stepF;rw [h];rfl
@[simp] theorem len_stepF (x:List UInt8) (lv nb:Int) (D:List UInt8) (id:Int):(stepF x lv nb D id).length=D.length:=by unfold stepF;split<;>simp
theorem chk_stepF (x:List UInt8) (lv nb:Int) (D:List UInt8) (id:Int):chkB lv nb (stepF x lv nb D id)=chkB lv nb D:=by
  unfold stepF
  split
  · rename_i h
    obtain⟨l,n,j,rfl,rfl,rfl,h1,h2,h3,h4,h5,h6⟩:=ok_nat h
    have hc:=nat_chk h1 h2 h3 h5 h6
    rw [hc];exact chk_addD hc
  · rfl
@[irreducible] def addedD (x:List UInt8) (lv nb:Int) (D:List UInt8) (ids:List UInt16):List UInt8:=ids.foldl (fun D id=>stepF x lv nb D ((id.toNat:Nat):Int)) D
theorem added_0 (x:List UInt8) (lv nb:Int) (D:List UInt8):addedD x lv nb D []=D:=by unfold addedD;rfl
theorem added_snoc (x:List UInt8) (lv nb:Int) (D:List UInt8) (ids:List UInt16) (q:UInt16):addedD x lv nb D (ids++ [q])=stepF x lv nb (addedD x lv nb D ids) ((q.toNat:Nat):Int):=by unfold addedD;simp
theorem snoc_ind {α:Type} {p:List α→Prop} (h0:p []) (h1:∀l q,p l→p (l++ [q])) (l:List α):p l:=by
  rw [←List.reverse_reverse l]
  induction l.reverse with
  |nil=>exact h0
  |cons a m ih=>rw [List.reverse_cons];exact h1 _ _ ih
@[simp] theorem len_added (x : List UInt8) (lv nb : Int) (D : List UInt8) (ids : List UInt16) : (addedD x lv nb D ids).length = D.length :=
  snoc_ind (p:=fun ids=>(addedD x lv nb D ids).length=D.length) (by rw [added_0]) (fun l q h=>by rw [added_snoc,len_stepF,h]) ids
theorem okB_eq {l n j:Nat} {D:List UInt8} (h:chkB l n D=true) (hj:j<1024):okB l n D j=true:=ok_yes h (by omega)
theorem bit_zero (m k:Nat):bitA (List.replicate m 0) k=false:=by
  unfold bitA
  have:(List.replicate m (0:UInt8)).getD (k / 8) 0=0:=by
    rw [List.getD]
    cases h:(List.replicate m (0:UInt8))[k / 8]? with
    |none=>rfl
    |some v=>exact List.eq_of_mem_replicate (List.mem_of_getElem? h)
  rw [this]
  exact Nat.zero_testBit _
theorem chk_zero {l n:Nat} (h:sizedP (l:Int) (n:Int)):chkB l n (List.replicate ((n+7) / 8) 0)=true:=by
  unfold sizedP at h
  exact nat_chk (by omega) (by omega) (by omega) (by simp) fun k _ _=>bit_zero _ _
structure Fil where
  lv:Int
  nb:Int
  D:List UInt8
end Go.Abs.D2
-- C4P
namespace Go.Abs.D2
open Go Go.Eng Go.Abs
def ascB (last:Int):List Int→Bool
  | []=>true
  |n::l=>decide (last<n∧n<1024)&&ascB n l
def listedB (l:List Int):Bool:=ascB (-1) l
def lastI (l:List Int) (i:Nat):Int:=if i=0 then -1 else l.getD (i - 1) 0
theorem asc_drop {last n:Int} {l:List Int} {i:Nat} (h:l[i]? =some n):ascB last (l.drop i)=(decide (last<n∧n<1024)&&ascB n (l.drop (i+1))):=by
  have hi:=(List.getElem?_eq_some_iff.1 h).1
  rw [List.drop_eq_getElem_cons hi,(List.getElem?_eq_some_iff.1 h).2]
  rfl
theorem lastI_next {n:Int} {l:List Int} {i:Nat} (h:l[i]? =some n):lastI l (i+1)=n:=by
  unfold lastI
  rw [if_neg (by omega),List.getD,Nat.add_sub_cancel,h];rfl
theorem asc_next {n:Int} {l:List Int} {i:Nat} (h0:listedB l=ascB (lastI l i) (l.drop i)) (h:l[i]? =some n) (h1:lastI l i<n∧n<1024):listedB l=ascB (lastI l (i+1)) (l.drop (i+1)):=by
  rw [h0,asc_drop h,decide_eq_true h1,Bool.true_and,lastI_next h]
theorem asc_no {n:Int} {l:List Int} {i:Nat} (h0:listedB l=ascB (lastI l i) (l.drop i)) (h:l[i]? =some n) (h1:¬(lastI l i<n∧n<1024)):listedB l=false:=by
  rw [h0,asc_drop h,decide_eq_false h1,Bool.false_and]
theorem asc_end {l:List Int} (h0:listedB l=ascB (lastI l l.length) (l.drop l.length)):listedB l=true:=by
  rw [h0,List.drop_length];rfl
theorem asc_start (l:List Int):listedB l=ascB (lastI l 0) (l.drop 0):=rfl
theorem asc_mem:∀ {l:List Int} {last:Int},ascB last l=true→∀n∈l,last<n∧n<1024
  | [],_,_,n,hn=>by cases hn
  | a :: l, last, h, n, hn => by
    simp only [ascB,Bool.and_eq_true,decide_eq_true_eq]at h
    rcases List.mem_cons.1 hn with rfl|hn
    · exact h.1
    · have := asc_mem h.2 n hn
      omega
theorem listed_mem {l:List Int} (h:listedB l=true):∀n∈l,0≤n∧n<1024:=fun n hn=>by
  have:=asc_mem h n hn
  omega
structure Cas where
  x:List UInt8
  F:List Fil
  E:List Int
abbrev filC (f:Fil):List A:= [.i .i64 f.lv,.i .i64 f.nb,slA f.D]
abbrev filsA (F:List Fil):A:= .fz F.length (F.flatMap filC)
abbrev intsA (E:List Int):A:= .fz E.length (E.map (A.i .i64))
abbrev casL (c:Cas):List A:=c.x.map u8++ [filsA c.F,intsA c.E]
def levB:Nat→List Fil→Bool
  |_, []=>true
  |i,f::F=>decide (f.lv=i)&&chkB f.lv f.nb f.D&&levB (i+1) F
def chkC (c:Cas):Bool:=decide (c.F.length≤16)&&listedB c.E&&levB 0 c.F
def errC (b:Bool):Int:=if b then 0 else 340
theorem lev_drop {F:List Fil} {f:Fil} {i:Nat} (h:F[i]? =some f):levB i (F.drop i)=(decide (f.lv=i)&&chkB f.lv f.nb f.D&&levB (i+1) (F.drop (i+1))):=by
  have hi:=(List.getElem?_eq_some_iff.1 h).1
  rw [List.drop_eq_getElem_cons hi,(List.getElem?_eq_some_iff.1 h).2]
  rfl
theorem lev_next {F:List Fil} {f:Fil} {i:Nat} (h0:levB 0 F=levB i (F.drop i)) (h:F[i]? =some f) (h1:f.lv=i) (h2:chkB f.lv f.nb f.D=true):levB 0 F=levB (i+1) (F.drop (i+1)):=by
  rw [h0,lev_drop h,decide_eq_true h1,h2,Bool.true_and,Bool.true_and]
theorem lev_no {F:List Fil} {f:Fil} {i:Nat} (h0:levB 0 F=levB i (F.drop i)) (h:F[i]? =some f) (h1:¬(f.lv=i∧chkB f.lv f.nb f.D=true)):levB 0 F=false:=by
  rw [h0,lev_drop h]
  by_cases h2:f.lv=i
  · have : chkB f.lv f.nb f.D = false := by rw [Bool.eq_false_iff]; exact fun e => h1 ⟨h2, e⟩
    rw [this];simp
  · rw [decide_eq_false h2];simp
theorem lev_end {F:List Fil} (h0:levB 0 F=levB F.length (F.drop F.length)):levB 0 F=true:=by
  rw [h0,List.drop_length];rfl
theorem flat_get {F:List Fil} {f:Fil} {i:Nat} (h:F[i]? =some f):((F.flatMap filC).drop (i*3)).take 3=filC f:=by
  induction F generalizing i with
  |nil=>simp at h
  | cons g F ih =>
    cases i with
    |zero=>simp at h;subst h;simp
    | succ i =>
      have e:(i+1)*3=i*3+3:=by omega
      rw [List.getElem?_cons_succ]at h
      rw [e,List.flatMap_cons,Nat.add_comm, ←List.drop_drop]
      simpa using ih h
end Go.Abs.D2
namespace Go.Abs.D2
open Go Go.Eng Go.Abs
theorem cas_x {c:Cas} (hx:c.x.length=32):(casL c).take 32=c.x.map u8:=by
  rw [List.take_left' (by rw [List.length_map,hx])]
theorem cas_F {c:Cas} (hx:c.x.length=32):((casL c).drop 32)[0]? =some (filsA c.F):=by
  rw [List.drop_left' (by rw [List.length_map,hx])];rfl
theorem cas_E {c:Cas} (hx:c.x.length=32):((casL c).drop 33)[0]? =some (intsA c.E):=by
  rw [show 33=32+1 from rfl, ←List.drop_drop,List.drop_left' (by rw [List.length_map,hx])];rfl
theorem getI4 {l:List Int} {i:Nat} {n:Int} (h:l[i]? =some n):((l.map (A.i .i64)).drop (i*1))[0]? =some (A.i .i64 n):=by
  rw [List.getElem?_drop,show i*1+0=i by omega,List.getElem?_map,h];rfl
theorem chkC_no1 {c:Cas} (h:¬c.F.length≤16):chkC c=false:=by unfold chkC;rw [decide_eq_false h];simp
theorem chkC_no2 {c:Cas} (h:listedB c.E=false):chkC c=false:=by unfold chkC;rw [h];simp
theorem chkC_no3 {c:Cas} (h:levB 0 c.F=false):chkC c=false:=by unfold chkC;rw [h];simp
theorem chkC_yes {c:Cas} (h1:c.F.length≤16) (h2:listedB c.E=true) (h3:levB 0 c.F=true):chkC c=true:=by unfold chkC;rw [decide_eq_true h1,h2,h3];rfl
theorem tfC (b:Bool):b=false∨b=true:=by cases b<;>simp
end Go.Abs.D2
-- V6P
namespace Go.Abs.V6
open Go Go.Eng Go.Abs
def chooses (l:List UInt8) (k:Nat):Bool:=UInt8.ofNat ((l.getD (k / 8) 0).toNat / 2 ^ (k % 8))&&& 1==1
def change (l:List UInt8) (k:Nat):List UInt8:=l.set (k / 8) (l.getD (k / 8) 0 ^^^ bitB (k % 8))
def cut (many:Nat) (l:List UInt8):List UInt8:=if many % 8=0 then l else l.set (many / 8) (l.getD (many / 8) 0&&& (bitB (many % 8) - 1))
def sized (many:Int) (n:Nat):Bool:=decide (1≤many∧many≤1024∧(n:Int)=(many+7) / 8)
def masked (many:Int) (l:List UInt8):Bool:=sized many l.length&&l==cut many.toNat l
def xorL (a b:List UInt8):List UInt8:=List.zipWith (· ^^^ ·) a b
def zero16:List UInt8:=List.replicate 16 0
def answer (db:List (List UInt8)) (m:List UInt8):List UInt8:=(List.range db.length).foldl (fun s n=>if chooses m n then xorL s (db.getD n [])else s) zero16
def database (db:List (List UInt8)):Bool:=db.all (fun b=>b.length==16)&&decide (1≤db.length∧db.length≤1024)
def answers (db ms:List (List UInt8)):List (List UInt8)×Int:=
  if database db&&decide (ms.length≤132)&&ms.all (masked db.length)then (ms.map (answer db),0)else([],360)
theorem xor_zero (a b:List UInt8) (ha:a.length=16): [a,b].foldl xorL zero16=xorL a b:=by
  simp only [List.foldl_cons,List.foldl_nil]
  have:xorL zero16 a=a:=by
    apply List.ext_getElem
    · simp [xorL,zero16,ha]
    · intro i h1 h2
      have e:zero16[i]'(by simp only [zero16,List.length_replicate];omega)=0:=by simp only [zero16,List.getElem_replicate]
      simp only [xorL,List.getElem_zipWith,e]
      simp
  rw [this]
def few (ls:List (List UInt8)) (most:Int):Bool:=ls.all (fun l=>decide (l.length≤130))&&decide ((ls.length:Int)≤most)
def blk (b:UInt8):List UInt8:=b::List.replicate 15 0
def want (at':List Int) (k:Nat):Int:=if k<at'.length then at'.getD k 0 else 0
end Go.Abs.V6
-- AbsR
namespace Go.Abs
open Go Go.Eng
section
variable {P:Program} {w0:Bw} {X0:Xs} {n:Nat} {E:Ev} {st:St} {K:Act→World→Prop} {Q:Exit→Act→World→Prop}
theorem zeroCells_oneR (z:Value) (k:Nat):(Builtin.zeroCells #[z] k).toList=List.replicate k z:=by
  apply List.ext_getElem
  · simp [Builtin.zeroCells]
  · intro i h1 h2
    simp [Builtin.zeroCells,Nat.mod_one]
end
end Go.Abs
-- V6Q
namespace Go.Abs.D2
end Go.Abs.D2
namespace Go.Abs.V6
open Go Go.Eng Go.Abs
theorem getO {m:List UInt8} {i:Nat} (hi:i<m.length):((m.map u8).drop (0+i*1))[0]? =some (u8 (m.getD i 0)):=by
  rw [List.getElem?_drop,show 0+i*1+0=i by omega]
  simp [hi]
abbrev slV (p:List UInt8):A:= .fz p.length (p.map u8)
end Go.Abs.V6
namespace Go.Abs.D2
open Go Go.Eng Go.Abs
end Go.Abs.D2
namespace Go.Abs.V6
open Go Go.Eng Go.Abs Go.Abs.D2
end Go.Abs.V6
namespace Go.Abs.D2
open Go Go.Eng Go.Abs
end Go.Abs.D2
-- V6R
namespace Go.Abs.D2
open Go Go.Eng Go.Abs
end Go.Abs.D2
-- AbsS
namespace Go.Abs
open Go Go.Eng
section
variable {P:Program} {w0:Bw} {X0:Xs} {n:Nat} {E:Ev} {st:St} {K:Act→World→Prop} {Q:Exit→Act→World→Prop}
theorem n_callHO {d : Nat} (nx : Nat) (hfr : st.free nx = true) (s0 : St) (ow : Bool) {f : FuncId} {xs : List Operand} {vs vs' ds : List A} {s m : Nat} {ats : Array TypeId} {ty : TypeId} {pos aft' g} (hxs : evsA E xs = some vs) (hS : SubL st s0 ow s0.os) (hv : VwL st s0 ow vs vs')
    (hc:ConS P f vs' s0 (RetO s m ds)) (hp:PureL ds) (hf:ow=false∨FlatL ds) (hd:Nat.ble (d+1) n=true) (h:At w0 X0 n ((d,.sl nx s 0 m)::E) ((aft s0 st []).put nx ds) K):
    At w0 X0 n E st (fun a w=>(⟨some d,.call {callee:= .value (.func f),args:=xs.toArray,argTypes:=ats},ty,pos,aft',g⟩:Oper).wp P a w K Q):=by
  rintro a w ⟨β,X,hr⟩
  have hss:∀id cs,s0.get id=some cs→st.get id=some cs:=fun id cs h=>(SubL_get hS h).1
  refine call_core (fs:= []) (cs:= []) hr rfl hxs hS (by simpa using hv) hc fun v w' ⟨r,β',X',st',hR,hsup,hsub,hm,hvv⟩=>?_
  obtain⟨id,rfl,hg⟩:=hR
  obtain⟨m1,m2,m3,m4,m6⟩:=hm.after hr hss hsub hsup (upds:= []) (fun p hp=>by cases hp)
  have hnx:=hr.mem.dom nx hfr
  have hfa:∀k,(aft s0 st []).free k=true→st.free k=true:=fun k=>(aft_get (s0:=s0) (st:=st) (upds:= [])).2
  have hga:∀k ck,(aft s0 st []).get k=some ck→s0.free k=true∧st.get k=some ck:=fun k ck hk=>by
    rcases(aft_get (s0:=s0) (st:=st) (upds:= [])).1 ck hk with h|h
    · cases h
    · exact h
  have ho:=hm.obj id ds hg
  unfold OB at ho
  simp only [V]at hvv
  rcases hvv with ⟨hβ,rfl,_,rfl⟩|⟨b,N,cap,hβ,rfl,c1,c2,c3⟩
  · rw [hβ] at ho
    have ho:ds= []:=ho
    subst ho
    have m5 : Mem w0 (upd β nx .ph) (fun b o => X b o ∨ (X' b o ∧ (bw w (rst s0 β) s0 rst_none).own b)) ((aft s0 st []).put nx []) w' := by
      refine .of (m1.below) (fun k y h=>(upd_ext hnx) k y (m1.b0 k y h)) (m1.xlt) (fun k h=>?_) (fun k es hk=>?_) (fun i j ci cj q M N' hij hi hj hbi hbj=>?_)
      · rw [St.free_put] at h
        split at h
        · cases h
        · rename_i hne
          rw [upd_ne (fun e=>hne e.symm)]
          exact hr.mem.dom k (hfa k h)
      · rw [St.get_put] at hk
        split at hk
        · rename_i e; subst e
          simp only [Option.some.injEq]at hk
          subst hk
          unfold OB
          rw [upd_at]
        · refine (m1.obj k es hk).later (fun _ _ h => ⟨h, rfl⟩) (upd_ext hnx) (fun q M hq => ⟨rfl, ?_⟩) fun q hq => ⟨rfl, ((m1.obj k es hk).mpB hq).2.2.1⟩
          have hk':=m1.obj k es hk
          unfold OB at hk'
          rw [hq]at hk'
          exact hk'.2.1
      · rw [St.get_put] at hi hj
        by_cases ei:nx=i
        · subst ei;rw [upd_at]at hbi;cases hbi
        · rw [if_neg ei] at hi
          rw [upd_ne (by omega)]at hbi
          by_cases ej:nx=j
          · subst ej;rw [upd_at]at hbj;cases hbj
          · rw [if_neg ej] at hj
            rw [upd_ne (by omega)]at hbj
            exact m1.inj i j ci cj q M N' hij hi hj hbi hbj
    exact h _ _ ⟨_,_,hr.putv hd m2 m3 (upd_ext hnx) m5 (by simp only [V];exact .inl ⟨upd_at,by simp⟩)⟩
  · rw [hβ] at ho
    obtain⟨o1,o2,us,rest,ety,o3,o4,o5,o6⟩:=ho
    have hown:w0.own b∧∀k ck q M,(aft s0 st []).get k=some ck→β k=some (.bk q M)→q≠b:=by
      rcases o1 with h|⟨id',cs',h1,y',h2,h2'⟩
      · have h : w.heap.size ≤ b := h
        refine⟨Bw.own_new hr.mem.below h,fun k ck q M hk hq=>?_⟩
        have:=m6 q M k ck (hga k ck hk).2 hq
        omega
      · obtain ⟨g3, g4⟩ := rst_some h2
        refine⟨((hr.mem.obj id' cs' (hss id' cs' h1)).onB g4 h2').2.1,fun k ck q M hk hq e=>?_⟩
        subst e
        obtain⟨k1,k2⟩:=hga k ck hk
        refine hr.mem.apart (fun e=>?_) k2 (hss id' cs' h1) hq g4 rfl h2'
        subst e;rw [k1]at g3;cases g3
    have hnX:∀o,¬(X b o∨(X' b o∧(bw w (rst s0 β) s0 rst_none).own b)):=fun o h=>by
      rcases h with h|⟨h,_⟩
      · exact o2 o (hsup b o (.inl h))
      · exact o2 o h
    have hvs:VS (fun b o=>X b o∨(X' b o∧(bw w (rst s0 β) s0 rst_none).own b)) w' (upd β nx (.bk b N)) ds us:=by
      rcases hf with hf|hf
      · exact VS_mono (m4 hf) _ _ _ _ (ExtB.refl _) (VS_pure _ _ hp o5)
      · exact VS_flat _ _ hf o5
    have m5 : Mem w0 (upd β nx (.bk b N)) (fun b o => X b o ∨ (X' b o ∧ (bw w (rst s0 β) s0 rst_none).own b)) ((aft s0 st []).put nx ds) w' := by
      refine .of (m1.below) (fun k y h=>(upd_ext hnx) k y (m1.b0 k y h)) (m1.xlt) (fun k h=>?_) (fun k es hk=>?_) (fun i j ci cj q M N' hij hi hj hbi hbj=>?_)
      · rw [St.free_put] at h
        split at h
        · cases h
        · rename_i hne
          rw [upd_ne (fun e=>hne e.symm)]
          exact hr.mem.dom k (hfa k h)
      · rw [St.get_put] at hk
        split at hk
        · rename_i e; subst e
          simp only [Option.some.injEq]at hk
          subst hk
          unfold OB
          rw [upd_at]
          exact⟨hown.1,hnX,us,rest,ety,o3,o4,hvs,o6⟩
        · refine (m1.obj k es hk).later (fun _ _ h => ⟨h, rfl⟩) (upd_ext hnx) (fun q M hq => ⟨rfl, ?_⟩) fun q hq => ⟨rfl, ((m1.obj k es hk).mpB hq).2.2.1⟩
          have hk':=m1.obj k es hk
          unfold OB at hk'
          rw [hq]at hk'
          exact hk'.2.1
      · rw [St.get_put] at hi hj
        by_cases ei:nx=i
        · by_cases ej : nx = j
          · omega
          · rw [if_neg ej] at hj
            rw [←ei,upd_at]at hbi
            rw [upd_ne (by omega)]at hbj
            simp only [Option.some.injEq,BL.bk.injEq]at hbi
            exact hown.2 j cj q N' hj hbj (by omega)
        · rw [if_neg ei] at hi
          rw [upd_ne (by omega)]at hbi
          by_cases ej:nx=j
          · rw [← ej, upd_at] at hbj
            simp only [Option.some.injEq,BL.bk.injEq]at hbj
            exact hown.2 i ci q M hi hbi (by omega)
          · rw [if_neg ej] at hj
            rw [upd_ne (by omega)]at hbj
            exact m1.inj i j ci cj q M N' hij hi hj hbi hbj
    exact h _ _ ⟨_,_,hr.putv hd m2 m3 (upd_ext hnx) m5 (by simp only [V];exact .inr ⟨b,N,cap,upd_at,rfl,c1,c2,c3⟩)⟩
end
end Go.Abs
namespace Go.Eng
end Go.Eng
namespace Go.Abs
open Go Go.Eng
end Go.Abs
namespace Go.Abs
open Go Go.Eng
section
variable {P:Program} {n:Nat}
def bwH (w:World) (β:Bm) (s0:St):Bw:=⟨w,fun b=>∃id cs,s0.get id=some cs∧∃y,β id=some y∧y.on b,fun _=>none, [],fun id x h=>(by cases h), []⟩
theorem fresh_far:∀os:List (Nat×Option (List A)),∃N,∀K,N≤K→fresh os K=true
  | []=>⟨0,fun _ _=>rfl⟩
  | p :: os => by
    obtain⟨N,h⟩:=fresh_far os
    refine⟨N+p.1+1,fun K hK=>?_⟩
    rw [fresh_cons,if_neg (by omega)]
    exact h K (by omega)
theorem fresh_gone:∀(os:List (Nat×Option (List A))) (K:Nat),fresh ((os.map fun p=>(p.1,(none:Option (List A))))++ []) K=fresh os K
  | [],_=>rfl
  | p :: os, K => by
    rw [List.map_cons,List.cons_append,fresh_cons,fresh_cons,fresh_gone os K]
theorem post_H {w : World} {X : Xs} {β : Bm} {s0 : St} {hd : ∀ id, s0.free id = true → β id = none} {s m : Nat} {ds : List A} {v : Value} {w' : World} (hp : PureL ds) (h : Post (bwH w β s0) X (RetO s m ds) v w') : Post (bw w β s0 hd) X (RetO s m ds) v w' := by
  obtain⟨r,β',X',st',⟨id,rfl,hg⟩,h1,h2,hm,hv⟩:=h
  obtain⟨N0,hN⟩:=fresh_far s0.os
  have hK:s0.free N0=true:=hN N0 (Nat.le_refl _)
  have hnx:=hd N0 hK
  have hbel:KB (bw w β s0 hd) w':=⟨hm.below.os,hm.below.tape,hm.below.output,hm.below.size,hm.below.block,fun s hs=>by cases hs⟩
  have hfa:∀k,(aft s0 ⟨[]⟩ []).free k=true→s0.free k=true:=fun k hk=>by
    have:=fresh_gone s0.os k
    unfold aft St.free at hk
    unfold St.free
    rw [←this];exact hk
  have hga:∀k ck,(aft s0 ⟨[]⟩ []).get k=some ck→False:=fun k ck hk=>by
    rcases(aft_get (s0:=s0) (st:=⟨[]⟩) (upds:= [])).1 ck hk with h|⟨_,h⟩
    · cases h
    · cases h
  have ho:=hm.obj id ds hg
  unfold OB at ho
  have key:∀y:BL,OB (upd β N0 y) X' w' (bw w β s0 hd) N0 ds→Mem (bw w β s0 hd) (upd β N0 y) X' ((aft s0 ⟨[]⟩ []).put N0 ds) w':=fun y hy=>by
    refine .of hbel (upd_ext hnx) hm.xlt (fun k h=>?_) (fun k es hk=>?_) (fun i j ci cj q M N' hij hi hj hbi hbj=>?_)
    · rw [St.free_put] at h
      split at h
      · cases h
      · rename_i hne
        rw [upd_ne (fun e=>hne e.symm)]
        exact hd k (hfa k h)
    · rw [St.get_put] at hk
      split at hk
      · rename_i e; subst e
        simp only [Option.some.injEq]at hk
        subst hk
        exact hy
      · exact absurd hk (fun h=>hga k es h)
    · rw [St.get_put] at hi hj
      by_cases ei:N0=i
      · rw [if_neg (by omega)] at hj
        exact absurd hj (fun h=>hga j cj h)
      · rw [if_neg ei] at hi
        exact absurd hi (fun h=>hga i ci h)
  simp only [V]at hv
  rcases hv with ⟨hβ,rfl,e2,rfl⟩|⟨b,N,cap,hβ,rfl,c1,c2,c3⟩
  · rw [hβ] at ho
    refine⟨.sl N0 s 0 0,upd β N0 .ph,X',_,⟨N0,rfl,by rw [St.get_put,if_pos rfl]⟩,h1,h2,key .ph (by unfold OB;rw [upd_at];exact ho),?_⟩
    simp only [V];exact .inl ⟨upd_at,by simp⟩
  · rw [hβ] at ho
    obtain⟨o1,o2,us,rest,ety,o3,o4,o5,o6⟩:=ho
    refine⟨.sl N0 s 0 m,upd β N0 (.bk b N),X',_,⟨N0,rfl,by rw [St.get_put,if_pos rfl]⟩,h1,h2,key (.bk b N) (by unfold OB;rw [upd_at];exact⟨o1,o2,us,rest,ety,o3,o4,VS_pure _ _ hp o5,o6⟩),?_⟩
    simp only [V];exact .inr ⟨b,N,cap,upd_at,rfl,c1,c2,c3⟩
end
end Go.Abs
-- S7P
namespace Go.Abs.D2
open Go Go.Eng Go.Abs
@[irreducible] def bitsAt (c : Cas) (id i k : Nat) : Nat := match c.F[i]? with
  |some f=>bN c.x i f.nb.toNat id k
  |none=>0
def plc (c:Cas) (id j:Nat):Int:=((32*(j / 2)+bitsAt c id (j / 2) (j % 2) / 128:Nat):Int)
def plcL (c:Cas) (id n:Nat):List Int:=(List.range n).map (plc c id)
@[simp] theorem len_plcL (c:Cas) (id n:Nat):(plcL c id n).length=n:=by simp [plcL]
theorem plcL_s (c:Cas) (id n:Nat):plcL c id (n+1)=plcL c id n++ [plc c id n]:=by simp [plcL,List.range_succ]
def whereL (c:Cas) (id:Nat):List Int:=plcL c id 32++ [((512+id / 128:Nat):Int)]
@[simp] theorem len_whereL (c:Cas) (id:Nat):(whereL c id).length=33:=by simp [whereL]
abbrev iA:Int→A:= .i .i64
theorem cas_len {c:Cas} (hx:c.x.length=32):(casL c).length=34:=by simp [casL,hx]
theorem cas_all {c:Cas} (hx:c.x.length=32):(casL c).take 34=casL c:=List.take_of_length_le (by rw [cas_len hx];omega)
def passT (p:Nat→Bool):Nat→Nat
  |0=>0
  |n+1=>if passT p n=n∧p n=true then n+1 else passT p n
theorem passT_le (p:Nat→Bool):∀n,passT p n≤n
  |0=>Nat.le_refl _
  | n + 1 => by
    unfold passT;split
    · omega
    · have:=passT_le p n;omega
theorem passT_all {p:Nat→Bool}:∀ {n:Nat},(∀t,t<n→p t=true)→passT p n=n
  |0,_=>rfl
  |n+1,h=>by unfold passT;rw [if_pos ⟨passT_all fun t ht=>h t (by omega),h n (by omega)⟩]
theorem passT_no {p:Nat→Bool} {i:Nat}:∀ {n:Nat},i<n→(∀t,t<i→p t=true)→p i=false→passT p n=i
  |0,h,_,_=>by omega
  | n + 1, h, h1, h2 => by
    unfold passT
    by_cases hi:i=n
    · subst hi;rw [if_neg (by rw [h2];simp),passT_all h1]
    · have := passT_no (n := n) (by omega) h1 h2
      rw [if_neg (by rw [this];omega),this]
def blkB (bl:List (List UInt8)) (i b:Nat):Bool:=bitA (bl.getD i []) (b % 128)
def metB (c:Cas) (id:Nat) (bl:List (List UInt8)) (i:Nat):Bool:=blkB bl (2*i) (bitsAt c id i 0)&&blkB bl (2*i+1) (bitsAt c id i 1)
def readV (c:Cas) (id:Nat) (bl:List (List UInt8)):Bool:=(passT (metB c id bl) c.F.length % 2==1) !=blkB bl 32 id
def putD (M:List UInt8) (o:Nat) (D:List UInt8):Nat→List UInt8
  |0=>M
  |k+1=>(putD M o D k).set (o+k) (D.getD k 0)
@[simp] theorem len_putD (M : List UInt8) (o : Nat) (D : List UInt8) : ∀ k, (putD M o D k).length = M.length
  |0=>rfl
  |k+1=>by simp [putD,len_putD M o D k]
def zeroM:List UInt8:=List.replicate 8320 0
def filF (F:List Fil):Nat→List UInt8
  |0=>zeroM
  |i+1=>putD (filF F i) (512*i) ((F.map Fil.D).getD i []) ((F.map Fil.D).getD i []).length
@[simp] theorem len_filF (F : List Fil) : ∀ i, (filF F i).length = 8320
  |0=>by rw [filF,zeroM,List.length_replicate]
  |i+1=>by rw [filF,len_putD,len_filF F i]
def excF (M:List UInt8) (E:List Int):Nat→List UInt8
  |0=>M
  |k+1=>setA (excF M E k) (65536+(E.getD k 0).toNat)
@[simp] theorem len_excF (M : List UInt8) (E : List Int) : ∀ k, (excF M E k).length = M.length
  |0=>rfl
  |k+1=>by rw [excF,len_setA,len_excF M E k]
@[irreducible] def imgB (c:Cas):List UInt8:=excF (filF c.F c.F.length) c.E c.E.length
theorem imgB_eq (c:Cas):imgB c=excF (filF c.F c.F.length) c.E c.E.length:=by unfold imgB;rfl
@[simp] theorem len_imgB (c:Cas):(imgB c).length=8320:=by rw [imgB_eq];simp
def blkN (M:List UInt8) (i:Nat):List UInt8:=(M.drop (16*i)).take 16
def dbN (M:List UInt8) (i:Nat):List (List UInt8):=(List.range i).map (blkN M)
@[simp] theorem len_dbN (M:List UInt8) (i:Nat):(dbN M i).length=i:=by simp [dbN]
theorem dbN_s (M:List UInt8) (i:Nat):(dbN M i).map V6.slV++ [V6.slV (blkN M i)]=(dbN M (i+1)).map V6.slV:=by simp [dbN,List.range_succ]
end Go.Abs.D2
-- S7Q
namespace Go.Abs.D2
open Go Go.Eng Go.Abs
def rowsJ (a b:List (List UInt8)) (n m:Nat):List (List UInt8):=(List.range m).map fun k=>V6.xorL (a.getD (33*n+k) []) (b.getD (33*n+k) [])
@[simp] theorem len_rowsJ (a b:List (List UInt8)) (n m:Nat):(rowsJ a b n m).length=m:=by simp [rowsJ]
theorem rowsJ_s {a b:List (List UInt8)} {n k:Nat} {p q:List UInt8} (hp:a.getD (33*n+k) []=p) (hq:b.getD (33*n+k) []=q):(rowsJ a b n k).map V6.slV++ [V6.slV (V6.xorL p q)]=(rowsJ a b n (k+1)).map V6.slV:=by
  subst hp;subst hq
  simp [rowsJ,List.range_succ]
def resN (c:Cas) (ids:List Int) (a b:List (List UInt8)) (k:Nat):List Bool:=(List.range k).map fun n=>readV c (ids.getD n 0).toNat (rowsJ a b n 33)
@[simp] theorem len_resN (c:Cas) (ids:List Int) (a b:List (List UInt8)) (k:Nat):(resN c ids a b k).length=k:=by simp [resN]
theorem resN_s {c:Cas} {ids:List Int} {a b:List (List UInt8)} {k j:Nat} (h:ids[k]? =some (j:Int)):(resN c ids a b k).map A.b++ [.b (readV c j (rowsJ a b k 33))]=(resN c ids a b (k+1)).map A.b:=by
  have:(ids.getD k 0).toNat=j:=by rw [List.getD,h];rfl
  simp [resN,List.range_succ, ←this]
structure Epo where
  a:Int
  b:Int
  d:Int
  r:List A
def daysE (l:List Epo):List Int:=l.map Epo.d
@[simp] theorem len_daysE (l:List Epo):(daysE l).length=l.length:=by simp [daysE]
def okE (l:List Epo):Prop:=∀e∈l,e.r.length=68
theorem lev_get:∀ {F:List Fil} {j i:Nat} {f:Fil},levB j F=true→F[i]? =some f→f.lv=(j+i:Nat)∧chkB f.lv f.nb f.D=true
  | [],_,_,_,_,h=>by simp at h
  | g :: F, j, i, f, h0, h => by
    simp only [levB,Bool.and_eq_true,decide_eq_true_eq]at h0
    cases i with
    |zero=>simp at h;subst h;exact h0.1
    | succ i =>
      have:=lev_get h0.2 (by simpa using h)
      rw [show j+(i+1)=j+1+i by omega];exact this
theorem chkC_all {c:Cas} (h:chkC c=true):c.F.length≤16∧listedB c.E=true∧levB 0 c.F=true:=by
  unfold chkC at h
  simp only [Bool.and_eq_true,decide_eq_true_eq]at h
  exact⟨h.1.1,h.1.2,h.2⟩
theorem chkC_get {c:Cas} (h:chkC c=true) {i:Nat} {f:Fil} (hf:c.F[i]? =some f):f.lv=(i:Nat)∧∃n:Nat,f.nb=(n:Int)∧8≤n∧n≤4096∧f.D.length=(n+7) / 8∧chkB (i:Nat) (n:Nat) f.D=true:=by
  have:=lev_get (chkC_all h).2.2 hf
  obtain⟨l,n,e1,e2,_,h2,h3,h4,_⟩:=chk_nat this.2
  refine⟨by rw [this.1];simp,n,e2,h2,h3,h4,?_⟩
  have e3:=this.2
  rw [this.1,e2]at e3
  simpa using e3
end Go.Abs.D2
-- S7R
namespace Go.Abs.D2
open Go Go.Eng Go.Abs
abbrev Z32:List UInt8:=List.replicate 32 0
abbrev cas0:Cas:=⟨Z32, [], []⟩
abbrev cas1:Cas:=⟨Z32, [], [0,1023]⟩
theorem hx1:cas1.x.length=32:=rfl
theorem wk_tail:∀l:List A,WkL (l++ [.nl,.nl]) (l++ [.fz 0 [],.fz 0 []])
  | []=> .cons .nl (.cons .nl .nil)
  |_::l=> .cons (.eq rfl) (wk_tail l)
theorem wk_cas0:WkL (Z32.map u8++ [.nl,.nl]) (casL cas0):=wk_tail _
end Go.Abs.D2
-- S7T
namespace Go.Abs.D2
open Go Go.Eng Go.Abs
theorem tail_get {x:List UInt8} (hx:x.length=32) (l:List A):((x.map u8++l).drop 32)=l:=List.drop_left' (by rw [List.length_map,hx])
theorem tail_set {x:List UInt8} (hx:x.length=32) (v a b:A):(x.map u8++ [a,b]).set 32 v=x.map u8++ [v,b]:=by
  rw [List.set_append_right _ _ (by simp [hx]),List.length_map,hx];rfl
theorem flat_len (F:List Fil):(F.flatMap filC).length=F.length*3:=by
  induction F with
  |nil=>rfl
  |cons f F ih=>rw [List.flatMap_cons,List.length_append,ih,List.length_cons];simp;omega
end Go.Abs.D2
-- S7U
namespace Go.Abs.D2
open Go Go.Eng Go.Abs
end Go.Abs.D2
-- C4Q
namespace Go.Abs.D2
open Go Go.Eng Go.Abs
end Go.Abs.D2
-- MapE
namespace Go.Eng
open Go Go.MapKept
section
variable {P:Program} {n:Nat} {E:Env} {S:List World} {H:List (Nat×Obj)} {Q:Exit→Act→World→Prop}
theorem n_makeMap {d:Nat} {t ty:TypeId} {pos aft g} {K:Act→World→Prop} (hd:Nat.ble (d+1) n=true)
    (h:∀b,leAll S b→ltAll H b→At n ((d,.map (some b))::E) S ((b,.map #[] 0)::H) K):
    At n E S H (fun a w=>(⟨some d,.makeMap t none,ty,pos,aft,g⟩:Oper).wp P a w K Q):=by
  intro a w hR hG
  have hf:=hG.fresh
  show Oper.wp P _ a w K Q
  unfold Oper.wp
  have:(execOp a.eval ⟨some d,.makeMap t none,ty,pos,aft,g⟩).run P w= .ok (.value (.map (some w.heap.size))) {w with heap:=w.heap.push (.map #[] 0)}:=by
    simp [execOp,Instr.makeMap]
  rw [this]
  exact h w.heap.size hf.1 hf.2 _ _ (hR.put hd _) (hG.alloc _)
theorem n_mapUpdate {t kt et ty:TypeId} {pos aft g} {x y z:Operand} {b clk:Nat} {es:Array MapEntry} {f:Int→Option Value} {k:Int} {v:Value} {K:Act→World→Prop} (i:Nat) (hm:P.underlying t=some (.map kt et)) (hk:P.underlying kt=some (.int .i64))
    (hx:ev E x=some (.map (some b))) (hy:ev E y=some (.int .i64 k)) (hz:ev E z=some v) (hi:H[i]? =some (b,.map es clk)) (hF:MapF es clk f)
    (h:∀es' clk',MapF es' clk' (updF f k v)→At n E S (H.set i (b,.map es' clk')) K):
    At n E S H (fun a w=>(⟨none,.mapUpdate t x y z,ty,pos,aft,g⟩:Oper).wp P a w K Q):=by
  intro a w hR hG
  have hb:=hG.own _ (List.mem_of_getElem? hi)
  simp only at hb
  have hkk:IsKey (.int .i64) (Value.int .i64 k):=rfl
  show Oper.wp P _ a w K Q
  unfold Oper.wp
  rcases findNow_spec hkk es.toList 0 hF.keys with ⟨h1,h2⟩|⟨j,e,h1,h2,h3⟩
  · have : (execOp a.eval ⟨none, .mapUpdate t x y z, ty, pos, aft, g⟩).run P w = .ok .skip { w with heap := w.heap.setIfInBounds b (.map (es.push { key := .int .i64 k, val := v, born := clk }) (clk + 1)) } := by
      simp [execOp,hR.ev hx,hR.ev hy,hR.ev hz,Instr.mapUpdate,run_underlying hm,MapKept.run_getObj_map hb,MapKept.run_checkKey hk hkk,MapKept.run_findKey hk h1,MapKept.run_setObj_map _ hb,Result.andThen]
    rw [this]
    exact h _ _ (hF.push h2) _ _ hR (hG.set i hi rfl rfl rfl (by simp) (heap_set hb).1 (fun q hq=>(heap_set hb).2 q hq))
  · have hj : es[j]? = some e := by simpa using h2
    have:(execOp a.eval ⟨none,.mapUpdate t x y z,ty,pos,aft,g⟩).run P w= .ok .skip {w with heap:=w.heap.setIfInBounds b (.map (es.modify j fun e=> {e with key:= .int .i64 k,val:=v}) clk)}:=by
      simp [execOp,hR.ev hx,hR.ev hy,hR.ev hz,Instr.mapUpdate,run_underlying hm,MapKept.run_getObj_map hb,MapKept.run_checkKey hk hkk,MapKept.run_findKey hk h1,hj,h3,MapKept.run_keyThatStays hkk,MapKept.run_setObj_map _ hb,Result.andThen]
    rw [this]
    exact h _ _ (hF.modify hj h3) _ _ hR (hG.set i hi rfl rfl rfl (by simp) (heap_set hb).1 (fun q hq=>(heap_set hb).2 q hq))
theorem y_lookup {t kt et ty:TypeId} {x y:Operand} {b clk:Nat} {es:Array MapEntry} {f:Int→Option Value} {k:Int} {zv:Value} (i:Nat) (hm:P.underlying t=some (.map kt et)) (hk:P.underlying kt=some (.int .i64)) (hz0:∀w,(zeroValue et).run P w= .ok zv w)
    (hx:ev E x=some (.map (some b))) (hy:ev E y=some (.int .i64 k)) (hi:H[i]? =some (b,.map es clk)) (hF:MapF es clk f):YO P n E S H (.lookup t x y false) ty ((f k).getD zv):=by
  intro d pos aft g a w hR hG
  have hb:=hG.own _ (List.mem_of_getElem? hi)
  simp only at hb
  have hkk:IsKey (.int .i64) (Value.int .i64 k):=rfl
  have hz:=hz0 w
  rcases findNow_spec hkk es.toList 0 hF.keys with ⟨h1,h2⟩|⟨j,e,h1,h2,h3⟩
  · have hn : f k = none := by
      cases hf:f k with
      |none=>rfl
      |some v=>obtain⟨q,hq,e⟩:=hF.has k v hf;exact absurd e (h2 q hq)
    rw [hn]
    simp [execOp,hR.ev hx,hR.ev hy,Instr.lookup,run_underlying hm,MapKept.run_getObj_map hb,MapKept.run_checkKey hk hkk,MapKept.run_findKey hk h1,hz,Result.andThen]
  · obtain ⟨q, e1, e2⟩ := hF.ent e (List.mem_of_getElem? h2)
    rw [h3]at e1
    simp only [Value.int.injEq,true_and]at e1
    subst e1
    rw [e2]
    simp [execOp,hR.ev hx,hR.ev hy,Instr.lookup,run_underlying hm,MapKept.run_getObj_map hb,MapKept.run_checkKey hk hkk,MapKept.run_findKey hk h1,Result.andThen]
end
def RI (w:World) (a:Option Addr) (l:List Int):Prop:=∀i v,l[i]? =some v→a=some ⟨ab a,ao a,none⟩∧w.cell? ⟨ab a,ao a+i,none⟩=some (.int .i64 v)
def setF (L:List Int):Int→Option Value:=fun k=>if k∈L then some (.bool true)else none
theorem setF_next {L:List Int} {i:Nat} {q:Int} (h:L[i]? =some q):updF (setF (L.take i)) q (.bool true)=setF (L.take (i+1)):=by
  funext k
  unfold updF setF
  rw [List.take_add_one,h]
  by_cases e:k=q
  · subst e;simp
  · simp [e]
theorem setF_look (L:List Int) (k:Int):(setF L k).getD (.bool false)= .bool (decide (k∈L)):=by
  unfold setF
  by_cases h:k∈L
  · rw [if_pos h,decide_eq_true h];rfl
  · rw [if_neg h,decide_eq_false h];rfl
def disjB (a b:List Int):Bool:=b.all fun n=>!decide (n∈a)
theorem disj_no {a b:List Int} {j:Nat} {q:Int} (h:b[j]? =some q) (hq:q∈a):disjB a b=false:=by
  unfold disjB
  rw [List.all_eq_false]
  exact⟨q,List.mem_of_getElem? h,by simp [hq]⟩
theorem all_next2 {p:Int→Bool} {b:List Int} {j:Nat} {q:Int} (h:b[j]? =some q) (h0:(b.take j).all p=true) (hq:p q=true):(b.take (j+1)).all p=true:=by
  rw [List.take_add_one,h];simp [h0,hq]
end Go.Eng
namespace Go.Eng
open Go
section
variable {P:Program} {n:Nat} {E:Env} {S:List World} {H:List (Nat×Obj)}
theorem y_max {x y:Operand} {a b:Int} {ats:Array TypeId} {ty:TypeId} (hx:ev E x=some (.int .i64 a)) (hy:ev E y=some (.int .i64 b)):YO P n E S H (.call {callee:= .builtin .max,args:= #[x,y],argTypes:=ats}) ty (.int .i64 (max a b)):=by
  intro d pos aft g a' w hR hG
  have e:(if b>a then b else a)=max a b:=by omega
  simp [execOp,resolve,invoke,builtin,hR.ev hx,hR.ev hy,Builtin.max_,Builtin.max2]
  omega
theorem y_min {x y:Operand} {a b:Int} {ats:Array TypeId} {ty:TypeId} (hx:ev E x=some (.int .i64 a)) (hy:ev E y=some (.int .i64 b)):YO P n E S H (.call {callee:= .builtin .min,args:= #[x,y],argTypes:=ats}) ty (.int .i64 (min a b)):=by
  intro d pos aft g a' w hR hG
  simp [execOp,resolve,invoke,builtin,hR.ev hx,hR.ev hy,Builtin.min_,Builtin.min2]
  omega
end
end Go.Eng
namespace Go.Abs
open Go Go.Eng
section
variable {P:Program} {E:Ev} {st:St}
theorem y_maxN {x y:Operand} {a b c:Nat} {ats:Array TypeId} {ty:TypeId} (hx:ev E x=some (.i .i64 (a:Int))) (hy:ev E y=some (.i .i64 (b:Int))) (hc:max a b=c):YO P E st (.call {callee:= .builtin .max,args:= #[x,y],argTypes:=ats}) ty (.i .i64 (c:Int)):=by
  intro w0 X0 n β X w1 w hr
  subst hc
  obtain⟨g1,g2⟩:=hr.evo hx
  obtain⟨g3,g4⟩:=hr.evo hy
  rw [V_i]at g2 g4
  rw [g2]at g1;rw [g4]at g3
  exact⟨.int .i64 ((max a b:Nat):Int),by rw [V_i],hr.old fun w' _=>by have:=Eng.y_max (P:=P) (n:=w1.tmps.size) (S:= [w']) (H:= []) (ats:=ats) (ty:=ty) g1 g3;rwa [show max (a:Int) (b:Int)=((max a b:Nat):Int) by omega]at this⟩
theorem y_minN {x y:Operand} {a b c:Nat} {ats:Array TypeId} {ty:TypeId} (hx:ev E x=some (.i .i64 (a:Int))) (hy:ev E y=some (.i .i64 (b:Int))) (hc:min a b=c):YO P E st (.call {callee:= .builtin .min,args:= #[x,y],argTypes:=ats}) ty (.i .i64 (c:Int)):=by
  intro w0 X0 n β X w1 w hr
  subst hc
  obtain⟨g1,g2⟩:=hr.evo hx
  obtain⟨g3,g4⟩:=hr.evo hy
  rw [V_i]at g2 g4
  rw [g2]at g1;rw [g4]at g3
  exact⟨.int .i64 ((min a b:Nat):Int),by rw [V_i],hr.old fun w' _=>by have:=Eng.y_min (P:=P) (n:=w1.tmps.size) (S:= [w']) (H:= []) (ats:=ats) (ty:=ty) g1 g3;rwa [show min (a:Int) (b:Int)=((min a b:Nat):Int) by omega]at this⟩
end
end Go.Abs
-- C4R
namespace Go.Abs.D2
open Go Go.Eng Go.Abs
def addsI (x:List UInt8) (lv nb:Int) (D:List UInt8) (l:List Int):List UInt8:=l.foldl (fun D id=>stepF x lv nb D id) D
theorem addsI_next {x:List UInt8} {lv nb:Int} {D:List UInt8} {l:List Int} {i:Nat} {q:Int} (h:l[i]? =some q):stepF x lv nb (addsI x lv nb D (l.take i)) q=addsI x lv nb D (l.take (i+1)):=by
  unfold addsI;rw [List.take_add_one,h];simp
theorem chk_addsI (x:List UInt8) (lv nb:Int) (l:List Int):∀D,chkB lv nb (addsI x lv nb D l)=chkB lv nb D:=by
  induction l with
  |nil=>intro D;rfl
  |cons a l ih=>intro D;show chkB lv nb (addsI x lv nb (stepF x lv nb D a) l)=_;rw [ih,chk_stepF]
def nbOf (l:List Int):Nat:=min (max (4*l.length) 8) 4096
theorem nbOf_ok (l:List Int):8≤nbOf l∧nbOf l≤4096:=by unfold nbOf;omega
def zeroD (n:Nat):List UInt8:=List.replicate ((n+7) / 8) 0
def filO (x:List UInt8) (i:Nat) (a:List Int):Fil:=⟨(i:Nat),(nbOf a:Nat),addsI x (i:Nat) (nbOf a:Nat) (zeroD (nbOf a)) a⟩
def wrongL (x:List UInt8) (f:Fil) (b:List Int):List Int:=b.filter fun n=>hasV x f.lv f.nb f.D n
def bS (x:List UInt8) (p q:List Int):Nat→List Fil×List Int×List Int
  |0=>([],p,q)
  |n+1=>((bS x p q n).1++ [filO x n (bS x p q n).2.1],wrongL x (filO x n (bS x p q n).2.1) (bS x p q n).2.2,(bS x p q n).2.1)
theorem len_bS (x:List UInt8) (p q:List Int):∀n,(bS x p q n).1.length=n
  |0=>rfl
  |n+1=>by rw [bS,List.length_append,len_bS x p q n];rfl
def goB (x:List UInt8) (p q:List Int) (n:Nat):Bool:=!(bS x p q n).2.1.isEmpty
theorem goB_yes {x:List UInt8} {p q:List Int} {n:Nat} (h:0<(bS x p q n).2.1.length):goB x p q n=true:=by
  unfold goB
  cases hl:(bS x p q n).2.1 with
  |nil=>rw [hl]at h;simp at h
  |cons=>rfl
@[irreducible] def endB (x:List UInt8) (p q:List Int):Nat:=passT (goB x p q) 16
theorem endB_eq (x:List UInt8) (p q:List Int):endB x p q=passT (goB x p q) 16:=by unfold endB;rfl
def casB (x:List UInt8) (p q:List Int):Cas:=⟨x,(bS x p q (endB x p q)).1,(bS x p q (endB x p q)).2.1⟩
def okB2 (p q:List Int):Bool:=listedB p&&listedB q&&disjB p q
theorem bS_sub (x:List UInt8) (p q:List Int):∀n,(∀v∈(bS x p q n).2.1,v∈p∨v∈q)∧∀v∈(bS x p q n).2.2,v∈p∨v∈q
  |0=>⟨fun _ h=> .inl h,fun _ h=> .inr h⟩
  |n+1=>⟨fun v h=>(bS_sub x p q n).2 v ((List.mem_filter.1 h).1),fun v h=>(bS_sub x p q n).1 v h⟩
theorem bS_num {x:List UInt8} {p q:List Int} (h:okB2 p q=true) (n:Nat):(∀v∈(bS x p q n).2.1,0≤v∧v<1024)∧∀v∈(bS x p q n).2.2,0≤v∧v<1024:=by
  unfold okB2 at h
  simp only [Bool.and_eq_true]at h
  have h1:=listed_mem h.1.1
  have h2:=listed_mem h.1.2
  obtain⟨g1,g2⟩:=bS_sub x p q n
  exact⟨fun v hv=>(g1 v hv).elim (h1 v) (h2 v),fun v hv=>(g2 v hv).elim (h1 v) (h2 v)⟩
theorem chk_filO (x:List UInt8) (i:Nat) (a:List Int) (hi:i<16):chkB (i:Nat) (nbOf a:Nat) (addsI x (i:Nat) (nbOf a:Nat) (zeroD (nbOf a)) a)=true:=by
  rw [chk_addsI]
  exact chk_zero (nat_sized hi (nbOf_ok a).1 (nbOf_ok a).2)
theorem bS_get (x:List UInt8) (p q:List Int):∀n i,i<n→(bS x p q n).1[i]? =some (filO x i (bS x p q i).2.1)
  |0,i,h=>by omega
  | n + 1, i, h => by
    rw [bS]
    rcases Nat.lt_or_ge i n with h2|h2
    · rw [List.getElem?_append_left (by rw [len_bS];exact h2)];exact bS_get x p q n i h2
    · have : i = n := by omega
      subst this
      rw [List.getElem?_append_right (by rw [len_bS];omega),len_bS];simp
theorem end_le (x:List UInt8) (p q:List Int):endB x p q≤16:=by rw [endB_eq];exact passT_le _ _
@[irreducible] def buildA (x:List UInt8) (p q:List Int):A:=if okB2 p q then .tu [.ag (casL (casB x p q)),.i .i64 0]else .tu [.ag (casL ⟨List.replicate 32 0, [], []⟩),.i .i64 340]
theorem build_no {x:List UInt8} {p q:List Int} (h:okB2 p q=false):buildA x p q= .tu [.ag (casL ⟨List.replicate 32 0, [], []⟩),.i .i64 340]:=by unfold buildA;rw [h];rfl
theorem build_yes {x:List UInt8} {p q:List Int} (h:okB2 p q=true):buildA x p q= .tu [.ag (casL (casB x p q)),.i .i64 0]:=by unfold buildA;rw [h];rfl
theorem ok2_cases (p q:List Int):(listedB p=false∧okB2 p q=false)∨(listedB p=true∧listedB q=false∧okB2 p q=false)∨(listedB p=true∧listedB q=true∧disjB p q=false∧okB2 p q=false)∨(listedB p=true∧listedB q=true∧disjB p q=true∧okB2 p q=true):=by
  unfold okB2
  cases listedB p<;>cases listedB q<;>cases disjB p q<;>simp
theorem filt_next {l:List Int} {p:Int→Bool} {i:Nat} {q:Int} (h:l[i]? =some q) (hp:p q=true):((l.take i).filter p).map iA++ [.i .i64 q]=((l.take (i+1)).filter p).map iA:=by
  rw [List.take_add_one,h];simp [hp]
theorem filt_miss {l:List Int} {p:Int→Bool} {i:Nat} {q:Int} (h:l[i]? =some q) (hp:p q=false):(l.take i).filter p=(l.take (i+1)).filter p:=by
  rw [List.take_add_one,h];simp [hp]
theorem bS_flat (x:List UInt8) (p q:List Int) (n:Nat):((bS x p q n).1).flatMap filC++filC (filO x n (bS x p q n).2.1)=((bS x p q (n+1)).1).flatMap filC:=by
  rw [bS];simp
theorem bS_len {x:List UInt8} {p q:List Int} (hp:p.length≤100) (hq:q.length≤100):∀n,(bS x p q n).2.1.length≤100∧(bS x p q n).2.2.length≤100
  |0=>⟨hp,hq⟩
  |n+1=>⟨Nat.le_trans (List.length_filter_le _ _) (bS_len hp hq n).2,(bS_len hp hq n).1⟩
theorem add_fil {x:List UInt8} {i:Nat} {a:List Int} {k:Nat} {q:Int} (hi:i<16) (hq:a[k]? =some q) (h0:0≤q∧q<1024):addA x (i:Nat) (nbOf a:Nat) (addsI x (i:Nat) (nbOf a:Nat) (zeroD (nbOf a)) (a.take k)) q= .tu [filA (i:Nat) (nbOf a:Nat) (addsI x (i:Nat) (nbOf a:Nat) (zeroD (nbOf a)) (a.take (k+1))),.i .i64 0]:=by
  obtain⟨j,rfl⟩:∃j:Nat,q=(j:Int):=⟨q.toNat,by omega⟩
  have hc:chkB (i:Nat) (nbOf a:Nat) (addsI x (i:Nat) (nbOf a:Nat) (zeroD (nbOf a)) (a.take k))=true:=by
    rw [chk_addsI];exact chk_zero (nat_sized hi (nbOf_ok a).1 (nbOf_ok a).2)
  rw [add_yes2 (okB_eq hc (by omega)),addsI_next hq]
theorem end_no {x:List UInt8} {p q:List Int} {n:Nat} (h:n<16) (h1:∀t,t<n→goB x p q t=true) (h2:goB x p q n=false):endB x p q=n:=by rw [endB_eq];exact passT_no h h1 h2
theorem end_all {x:List UInt8} {p q:List Int} (h1:∀t,t<16→goB x p q t=true):endB x p q=16:=by rw [endB_eq];exact passT_all h1
theorem cas_form {x:List UInt8} {p q:List Int} {n:Nat} (h:endB x p q=n):casB x p q=⟨x,(bS x p q n).1,(bS x p q n).2.1⟩:=by subst h;rfl
theorem wrong_next {x:List UInt8} {f:Fil} {l:List Int} {i:Nat} {q:Int} (h:l[i]? =some q) (hp:hasV x f.lv f.nb f.D q=true):(wrongL x f (l.take i)).map iA++ [.i .i64 q]=(wrongL x f (l.take (i+1))).map iA:=filt_next h hp
theorem wrong_miss {x:List UInt8} {f:Fil} {l:List Int} {i:Nat} {q:Int} (h:l[i]? =some q) (hp:hasV x f.lv f.nb f.D q=false):wrongL x f (l.take i)=wrongL x f (l.take (i+1)):=filt_miss h hp
theorem len_wrong (x:List UInt8) (f:Fil) (l:List Int):(wrongL x f l).length≤l.length:=List.length_filter_le _ _
theorem wrong_len {x:List UInt8} {f:Fil} {l:List Int} {i:Nat} {q:Int} (h:l[i]? =some q) (hp:hasV x f.lv f.nb f.D q=true):(wrongL x f (l.take i)).length+1=(wrongL x f (l.take (i+1))).length:=by
  have:=congrArg List.length (wrong_next h hp)
  simpa using this
theorem goB_nil {x:List UInt8} {p q:List Int} {n:Nat} (h:¬0<(bS x p q n).2.1.length):goB x p q n=false:=by
  unfold goB
  have:(bS x p q n).2.1= []:=List.length_eq_zero_iff.1 (by omega)
  rw [this];rfl
theorem end_any {x:List UInt8} {p q:List Int} {n:Nat} (hn:n≤16) (h1:∀t,t<n→goB x p q t=true) (h:¬0<(bS x p q n).2.1.length):endB x p q=n:=by
  rcases Nat.lt_or_ge n 16 with h2|h2
  · exact end_no h2 h1 (goB_nil h)
  · have : n = 16 := by omega
    subst this;exact end_all h1
theorem st_salt {x:List UInt8}:(Z32.map u8++ [A.nl,A.nl]).take 0++cellsA (.ag (x.map u8))++(Z32.map u8++ [A.nl,A.nl]).drop (0+32)=x.map u8++ [.nl,.nl]:=by
  show []++x.map u8++ [A.nl,A.nl]=_
  rfl
theorem tail_get1 {x:List UInt8} (hx:x.length=32) (a b:A):((x.map u8++ [a,b]).drop 33)= [b]:=by
  rw [show 33=32+1 from rfl, ←List.drop_drop,tail_get hx];rfl
theorem tail_set1 {x:List UInt8} (hx:x.length=32) (v a b:A):(x.map u8++ [a,b]).set 33 v=x.map u8++ [a,v]:=by
  rw [List.set_append_right _ _ (by simp [hx]),List.length_map,hx];rfl
theorem cas_end {x:List UInt8} {p q:List Int} {n:Nat} (h:endB x p q=n):x.map u8++ [.fz n ((bS x p q n).1.flatMap filC),.fz (bS x p q n).2.1.length ((bS x p q n).2.1.map iA)]=casL (casB x p q):=by
  rw [cas_form h,casL,filsA,intsA,len_bS]
end Go.Abs.D2
-- AbsT
namespace Go.Abs
open Go Go.Eng
def RetOS (s m:Nat) (cs:List A) (upds:List (Nat×List A)):A→St→Prop:=fun r st=>∃id,r= .sl id s 0 m∧st.get id=some cs∧∀p∈upds,st.get p.1=some p.2∧p.1≠id
section
variable {P:Program} {w0:Bw} {X0:Xs} {n:Nat} {E:Ev} {st:St} {K:Act→World→Prop} {Q:Exit→Act→World→Prop}
theorem n_callHK {d : Nat} (nx : Nat) (hfr : st.free nx = true) (s0 : St) (upds : List (Nat × List A)) (ow : Bool) {f : FuncId} {x : Operand} {xs : List Operand} {fs cs vs vs' ds : List A} {s m : Nat} {ats : Array TypeId} {ty : TypeId} {pos aft' g} (hx : ev E x = some (.fn (.func f) fs cs)) (hxs : evsA E xs = some vs) (hS : SubL st s0 ow s0.os) (hv : VwL st s0 ow (fs ++ vs ++ cs) vs')
    (hc:ConS P f vs' s0 (RetOS s m ds upds)) (hp:PureL ds) (hf:ow=false∨FlatL ds) (hu:∀p∈upds,(∃cs,s0.get p.1=some cs)∧KpL s0 ow p.2) (hd:Nat.ble (d+1) n=true) (h:At w0 X0 n ((d,.sl nx s 0 m)::E) ((aft s0 st upds).put nx ds) K):
    At w0 X0 n E st (fun a w=>(⟨some d,.call {callee:= .value x,args:=xs.toArray,argTypes:=ats},ty,pos,aft',g⟩:Oper).wp P a w K Q):=by
  rintro a w ⟨β,X,hr⟩
  have hss:∀id cs,s0.get id=some cs→st.get id=some cs:=fun id cs h=>(SubL_get hS h).1
  refine call_core hr hx hxs hS hv hc fun v w' ⟨r,β',X',st',hR,hsup,hsub,hm,hvv⟩=>?_
  obtain⟨id,rfl,hg,hup⟩:=hR
  obtain⟨m1,m2,m3,m4,m6⟩:=hm.afterK hr hss hsub hsup (upds:=upds) (fun p hp=>⟨(hup p hp).1,(hu p hp).1,(hu p hp).2⟩)
  have hnx:=hr.mem.dom nx hfr
  have hfa:∀k,(aft s0 st upds).free k=true→st.free k=true:=fun k=>(aft_get (s0:=s0) (st:=st) (upds:=upds)).2
  have hga:∀k ck,(aft s0 st upds).get k=some ck→(k,ck)∈upds∨(s0.free k=true∧st.get k=some ck):=fun k ck hk=>(aft_get (s0:=s0) (st:=st) (upds:=upds)).1 ck hk
  have ho:=hm.obj id ds hg
  unfold OB at ho
  have key:∀y:BL,OB (upd β nx y) (fun b o=>X b o∨(X' b o∧(bw w (rst s0 β) s0 rst_none).own b)) w' w0 nx ds→(∀k ck q M N',(aft s0 st upds).get k=some ck→β k=some (.bk q M)→y= .bk q N'→False)→Mem w0 (upd β nx y) (fun b o=>X b o∨(X' b o∧(bw w (rst s0 β) s0 rst_none).own b)) ((aft s0 st upds).put nx ds) w':=fun y hy hfresh=>by
    refine .of (m1.below) (fun k y h=>(upd_ext hnx) k y (m1.b0 k y h)) (m1.xlt) (fun k h=>?_) (fun k es hk=>?_) (fun i j ci cj q M N' hij hi hj hbi hbj=>?_)
    · rw [St.free_put] at h
      split at h
      · cases h
      · rename_i hne
        rw [upd_ne (fun e=>hne e.symm)]
        exact hr.mem.dom k (hfa k h)
    · rw [St.get_put] at hk
      split at hk
      · rename_i e; subst e
        simp only [Option.some.injEq]at hk
        subst hk
        exact hy
      · refine (m1.obj k es hk).later (fun _ _ h => ⟨h, rfl⟩) (upd_ext hnx) (fun q M hq => ⟨rfl, ?_⟩) fun q hq => ⟨rfl, ((m1.obj k es hk).mpB hq).2.2.1⟩
        have hk':=m1.obj k es hk
        unfold OB at hk'
        rw [hq]at hk'
        exact hk'.2.1
    · rw [St.get_put] at hi hj
      by_cases ei:nx=i
      · by_cases ej : nx = j
        · omega
        · rw [if_neg ej] at hj
          rw [←ei,upd_at]at hbi
          rw [upd_ne (by omega)]at hbj
          exact hfresh j cj q N' M hj hbj (Option.some.inj hbi)
      · rw [if_neg ei] at hi
        rw [upd_ne (by omega)]at hbi
        by_cases ej:nx=j
        · rw [← ej, upd_at] at hbj
          exact hfresh i ci q M N' hi hbi (Option.some.inj hbj)
        · rw [if_neg ej] at hj
          rw [upd_ne (by omega)]at hbj
          exact m1.inj i j ci cj q M N' hij hi hj hbi hbj
  simp only [V]at hvv
  rcases hvv with ⟨hβ,rfl,_,rfl⟩|⟨b,N,cap,hβ,rfl,c1,c2,c3⟩
  · rw [hβ] at ho
    have ho:ds= []:=ho
    subst ho
    exact h _ _ ⟨_,_,hr.putv hd m2 m3 (upd_ext hnx) (key .ph (by unfold OB;rw [upd_at]) (fun _ _ _ _ _ _ _ e=>by cases e)) (by simp only [V];exact .inl ⟨upd_at,by simp⟩)⟩
  · rw [hβ] at ho
    obtain⟨o1,o2,us,rest,ety,o3,o4,o5,o6⟩:=ho
    have hown:w0.own b∧∀k ck q M N',(aft s0 st upds).get k=some ck→β k=some (.bk q M)→BL.bk b N= .bk q N'→False:=by
      have hsame:∀k ck q M,(k,ck)∈upds→β k=some (.bk q M)→q≠b:=fun k ck q M hk hq e=>by
        obtain⟨g1,g2⟩:=hup _ hk
        obtain⟨⟨c0,g3⟩,_⟩:=hu _ hk
        have g4:β' k=some (.bk q M):=hm.b0 k _ (by show rst s0 β k=_;rw [rst_eq (get_free g3)];exact hq)
        subst e
        exact hm.inj k id ck ds q M N g2 g1 hg g4 hβ
      rcases o1 with h|⟨id',cs',h1,y',h2,h2'⟩
      · have h : w.heap.size ≤ b := h
        refine⟨Bw.own_new hr.mem.below h,fun k ck q M N' hk hq e=>?_⟩
        simp only [BL.bk.injEq]at e
        rcases hga k ck hk with hk|⟨_,hk⟩
        · exact hsame k ck q M hk hq e.1.symm
        · have := m6 q M k ck hk hq
          omega
      · obtain ⟨g3, g4⟩ := rst_some h2
        refine⟨((hr.mem.obj id' cs' (hss id' cs' h1)).onB g4 h2').2.1,fun k ck q M N2 hk hq e=>?_⟩
        simp only [BL.bk.injEq]at e
        rcases hga k ck hk with hk|⟨k1,k2⟩
        · exact hsame k ck q M hk hq e.1.symm
        · obtain ⟨rfl, _⟩ := e
          refine hr.mem.apart (fun e=>?_) k2 (hss id' cs' h1) hq g4 rfl h2'
          subst e;rw [k1]at g3;cases g3
    have hnX:∀o,¬(X b o∨(X' b o∧(bw w (rst s0 β) s0 rst_none).own b)):=fun o h=>by
      rcases h with h|⟨h,_⟩
      · exact o2 o (hsup b o (.inl h))
      · exact o2 o h
    have hvs:VS (fun b o=>X b o∨(X' b o∧(bw w (rst s0 β) s0 rst_none).own b)) w' (upd β nx (.bk b N)) ds us:=by
      rcases hf with hf|hf
      · exact VS_mono (m4 hf) _ _ _ _ (ExtB.refl _) (VS_pure _ _ hp o5)
      · exact VS_flat _ _ hf o5
    exact h _ _ ⟨_,_,hr.putv hd m2 m3 (upd_ext hnx) (key (.bk b N) (by unfold OB;rw [upd_at];exact⟨hown.1,hnX,us,rest,ety,o3,o4,hvs,o6⟩) hown.2) (by simp only [V];exact .inr ⟨b,N,cap,upd_at,rfl,c1,c2,c3⟩)⟩
end
end Go.Abs
namespace Go.Abs
open Go Go.Eng
section
variable {P:Program} {n:Nat}
def bwT (w:World) (β:Bm) (s0:St) (T:List Nat):Bw:=⟨w,fun b=>∃id cs,s0.get id=some cs∧∃y,β id=some y∧y.on b,fun id=>if id∈T then β id else none,T,(fun id x h=>by
  by_cases hi:id∈T
  · exact hi
  · rw [if_neg hi]at h;cases h), []⟩
def OnlyT (T:List Nat) (upds:List (Nat×List A)):Prop:=∀p∈upds,∀(X:Xs) (w:World) (β1 β2:Bm) (us:List Value),(∀t∈T,β2 t=β1 t)→VS X w β1 p.2 us→VS X w β2 p.2 us
theorem post_T {w : World} {X : Xs} {β : Bm} {s0 : St} {hd : ∀ id, s0.free id = true → β id = none} {T : List Nat} {s m : Nat} {ds : List A} {upds : List (Nat × List A)} {v : Value} {w' : World} (hp : PureL ds) (hT : ∀ t ∈ T, ∃ x, β t = some x) (hU : ∀ p ∈ upds, p.1 ∈ T) (hO : OnlyT T upds)
    (h:Post (bwT w β s0 T) X (RetOS s m ds upds) v w'):Post (bw w β s0 hd) X (RetOS s m ds upds) v w':=by
  obtain⟨r,β',X',st',⟨id,rfl,hg,hup⟩,h1,h2,hm,hv⟩:=h
  obtain⟨N0,hN⟩:=fresh_far s0.os
  have hK:s0.free N0=true:=hN N0 (Nat.le_refl _)
  have hnx:=hd N0 hK
  have hNT:N0∉T:=fun hn=>by obtain⟨x,e⟩:=hT N0 hn;rw [hnx]at e;cases e
  have hsame:∀t∈T,β' t=β t:=fun t ht=>by
    obtain⟨x,e⟩:=hT t ht
    rw [e]
    exact hm.b0 t x (by show(if t∈T then β t else none)=some x;rw [if_pos ht];exact e)
  have hbel:KB (bw w β s0 hd) w':=⟨hm.below.os,hm.below.tape,hm.below.output,hm.below.size,hm.below.block,fun s hs=>by cases hs⟩
  have hfa:∀k,(aft s0 ⟨[]⟩ upds).free k=true→s0.free k=true:=fun k hk=>by
    have key:∀(l:List (Nat×List A)) os,fresh ((l.map fun p=>(p.1,some p.2))++os) k=true→fresh os k=true:=by
      intro l os
      induction l with
      |nil=>exact fun h=>h
      | cons p l ih =>
        simp only [List.map_cons,List.cons_append]
        rw [fresh_cons]
        intro h
        split at h
        · cases h
        · exact ih h
    unfold aft St.free at hk
    rw [List.append_assoc]at hk
    have:=key _ _ hk
    rw [fresh_gone]at this
    exact this
  have hga:∀k ck,(aft s0 ⟨[]⟩ upds).get k=some ck→(k,ck)∈upds:=fun k ck hk=>by
    rcases(aft_get (s0:=s0) (st:=⟨[]⟩) (upds:=upds)).1 ck hk with h|⟨_,h⟩
    · exact h
    · cases h
  have ho:=hm.obj id ds hg
  unfold OB at ho
  have hb2:∀y,∀t∈T,(upd β N0 y) t=β' t:=fun y t ht=>by
    rw [upd_ne (show t≠N0 by rintro rfl;exact hNT ht),hsame t ht]
  have key:∀y:BL,OB (upd β N0 y) X' w' (bw w β s0 hd) N0 ds→(∀k ck q M N',(k,ck)∈upds→β k=some (.bk q M)→y= .bk q N'→False)→Mem (bw w β s0 hd) (upd β N0 y) X' ((aft s0 ⟨[]⟩ upds).put N0 ds) w':=fun y hy hfresh=>by
    refine .of hbel (upd_ext hnx) hm.xlt (fun k h=>?_) (fun k es hk=>?_) (fun i j ci cj q M N' hij hi hj hbi hbj=>?_)
    · rw [St.free_put] at h
      split at h
      · cases h
      · rename_i hne
        rw [upd_ne (fun e=>hne e.symm)]
        exact hd k (hfa k h)
    · rw [St.get_put] at hk
      split at hk
      · rename_i e; subst e
        simp only [Option.some.injEq]at hk
        subst hk
        exact hy
      · have hu := hga k es hk
        have hkT:=hU _ hu
        have hob:=hm.obj k es (hup _ hu).1
        have e1:=hb2 y k hkT
        unfold OB at hob ⊢
        rw [e1]
        split
        · rename_i h';rw [h']at hob;exact hob
        · rename_i h';rw [h']at hob;exact hob
        · rename_i b N h'
          rw [h']at hob
          obtain⟨q1,q2,us,rest,ty,q3,q4,q5,q6⟩:=hob
          exact⟨q1,q2,us,rest,ty,q3,q4,hO _ hu X' w' β' _ us (hb2 y) q5,q6⟩
        · rename_i b h'
          rw [h']at hob
          exact hob
    · rw [St.get_put] at hi hj
      by_cases ei:N0=i
      · rw [if_neg (by omega)] at hj
        have hu:=hga j cj hj
        rw [←ei,upd_at]at hbi
        rw [upd_ne (by omega)]at hbj
        exact hfresh j cj q N' M hu hbj (Option.some.inj hbi)
      · rw [if_neg ei] at hi
        have hui:=hga i ci hi
        rw [upd_ne (fun e=>ei e.symm)]at hbi
        by_cases ej:N0=j
        · rw [← ej, upd_at] at hbj
          exact hfresh i ci q M N' hui hbi (Option.some.inj hbj)
        · rw [if_neg ej] at hj
          have huj:=hga j cj hj
          rw [upd_ne (fun e=>ej e.symm)]at hbj
          exact hm.inj i j ci cj q M N' hij (hup _ hui).1 (hup _ huj).1 ((hsame i (hU _ hui)).trans hbi) ((hsame j (hU _ huj)).trans hbj)
  have hget:∀p∈upds,((aft s0 ⟨[]⟩ upds).put N0 ds).get p.1=some p.2∧p.1≠N0:=fun p hp'=>by
    have hne:p.1≠N0:=fun e=>hNT (by rw [←e];exact hU p hp')
    refine⟨?_,hne⟩
    rw [St.get_put,if_neg (fun e=>hne e.symm)]
    have key2:∀(l:List (Nat×List A)) os,(∀q∈l,st'.get q.1=some q.2)→p∈l→look ((l.map fun q=>(q.1,some q.2))++os) p.1=some p.2:=by
      intro l os
      induction l with
      |nil=>intro _ h;cases h
      | cons q l ih =>
        intro hq hpl
        simp only [List.map_cons,List.cons_append]
        rw [look_cons]
        split
        · rename_i e
          have e1:=hq q (.head _)
          rw [e,(hup p hp').1]at e1
          exact e1.symm
        · rename_i e
          rcases List.mem_cons.1 hpl with rfl|hpl
          · exact absurd rfl e
          · exact ih (fun q hq'=>hq q (.tail _ hq')) hpl
    show look _ _=_
    unfold aft
    dsimp only
    rw [List.append_assoc]
    exact key2 upds _ (fun q hq=>(hup q hq).1) hp'
  simp only [V]at hv
  rcases hv with ⟨hβ,rfl,e2,rfl⟩|⟨b,N,cap,hβ,rfl,c1,c2,c3⟩
  · rw [hβ] at ho
    have ho:ds= []:=ho
    subst ho
    refine⟨.sl N0 s 0 0,upd β N0 .ph,X',_,⟨N0,rfl,by rw [St.get_put,if_pos rfl],hget⟩,h1,h2,key .ph (by unfold OB;rw [upd_at]) (fun _ _ _ _ _ _ _ e=>by cases e),?_⟩
    simp only [V];exact .inl ⟨upd_at,by simp⟩
  · rw [hβ] at ho
    obtain⟨o1,o2,us,rest,ety,o3,o4,o5,o6⟩:=ho
    refine⟨.sl N0 s 0 m,upd β N0 (.bk b N),X',_,⟨N0,rfl,by rw [St.get_put,if_pos rfl],hget⟩,h1,h2,key (.bk b N) (by unfold OB;rw [upd_at];exact⟨o1,o2,us,rest,ety,o3,o4,VS_pure _ _ hp o5,o6⟩) (fun k ck q M N' hu hk e=>?_),?_⟩
    · simp only [BL.bk.injEq] at e
      obtain⟨rfl,_⟩:=e
      exact hm.inj k id ck ds b M N (hup _ hu).2 (hup _ hu).1 hg ((hsame k (hU _ hu)).trans hk) hβ
    · simp only [V];exact .inr ⟨b,N,cap,upd_at,rfl,c1,c2,c3⟩
theorem enterK {f:FuncId} {fn:Func} {c:Code} {args:List A} {s0:St} {s m:Nat} {ds:List A} {upds:List (Nat×List A)} (T:List Nat) (hp:PureL ds) (hU:∀p∈upds,p.1∈T) (hTs:∀t∈T,∃cs,s0.get t=some cs) (hO:OnlyT T upds) (hf:P.funcs[f]? =some fn) (hb:fn.body=some c)
    (hn:fn.ntmps=n) (hname:(fn.name== "runtime.NumGoroutine")=false) (ha:args.length≤n)
    (h:∀w0 X0,w0.ids=T→At w0 X0 n (argsE args 0) s0 (Pw [] (c.wpIn (rF none) 0 P (bodyPost P fn fun e w'=>∃v,e= .returned v∧Post w0 X0 (RetOS s m ds upds) v w')))):ConS P f args s0 (RetOS s m ds upds):=by
  intro w X β us hd hX hgl ho hi hv
  have hl:=VS_len hv
  have hT:∀t∈T,∃x,β t=some x:=fun t ht=>by
    obtain⟨cs,e⟩:=hTs t ht
    have:=ho t cs e
    unfold OB at this
    cases hb':β t with
    |none=>rw [hb']at this;exact this.elim
    |some x=>exact⟨x,rfl⟩
  refine Eng.Fn.mono (R:=Post (bwT w β s0 T) X (RetOS s m ds upds)) ⟨⟨fn,hf,by simp [hb],hname⟩,calls_of_wp hf hb (wpIn_wide.1 (wp_nil (h (bwT w β s0 T) X rfl _ w ⟨β,X,.of (fun _ _ h=>h) (fun _ _ h=> .inl h) (.of ⟨rfl,rfl,rfl,Nat.le_refl _,fun _ _ _=>rfl,fun s hs=>by cases hs⟩ (fun id x h=>?_) hX hd ho hi) hgl ?_ rfl (fun s hs=>by cases hs) (fun t v ht=>?_)⟩)))⟩ (fun _ _ h=>post_T hp hT hU hO h)
  · have h : (if id ∈ T then β id else none) = some x := h
    split at h
    · exact h
    · cases h
  · simp [hn];omega
  · obtain ⟨_, h2⟩ := argsE_at _ _ _ _ ht
    simp only [Nat.sub_zero]at h2
    obtain⟨u,g1,g2⟩:=VS_get hv h2
    have hlt:=(List.getElem?_eq_some_iff.1 g1).1
    refine⟨u,?_,g2⟩
    rw [Array.getElem?_append,if_pos (by simpa using hlt)]
    simpa using g1
end
end Go.Abs
namespace Go.Abs
open Go Go.Eng
def RetMM (mk:Nat→A) (mkc:Nat→List A):A→St→Prop:=fun r st=>∃id,r=mk id∧st.get id=some (mkc id)
def Dep (mk:Nat→A):Prop:=∀X w β i u,V X w β (mk i) u→∀X' w' β' j,β' j=β i→V X' w' β' (mk j) u
def DepL (mkc:Nat→List A):Prop:=∀X w β i us,VS X w β (mkc i) us→∀X' w' β' j,β' j=β i→VS X' w' β' (mkc j) us
theorem dep_flat {v:A} (h:Flat v):Dep (fun _=>v):=fun _ _ _ _ _ hv _ _ _ _ _=>V_flat _ _ h hv
theorem dep_fn {f:Fn}:Dep (fun i=> .fn f [] [.p i 0]):=fun _ _ _ _ _ hv _ _ _ _ hj=>(oneB_fn _ _ _ _ _ hv).2 _ _ _ _ hj
theorem depL_nil:DepL (fun _=> []):=fun _ _ _ _ us h _ _ _ _ _=>by simp only [VS]at h ⊢;exact h
theorem depL_cons {a:Nat→A} {l:Nat→List A} (h1:Dep a) (h2:DepL l):DepL (fun i=>a i::l i):=fun _ _ _ _ us h _ _ _ _ hj=>by
  simp only [VS]at h ⊢
  obtain⟨u,r,rfl,g1,g2⟩:=h
  exact⟨u,r,rfl,h1 _ _ _ _ _ g1 _ _ _ _ hj,h2 _ _ _ _ _ g2 _ _ _ _ hj⟩
theorem dep_ag {l:Nat→List A} (h:DepL l):Dep (fun i=> .ag (l i)):=fun _ _ _ _ _ hv _ _ _ _ hj=>by
  simp only [V]at hv ⊢
  obtain⟨us,e1,e2,e3⟩:=hv
  exact⟨us,e1,h _ _ _ _ _ e2 _ _ _ _ hj,e3⟩
theorem oneB_ag {l:Nat→List A} {f:Fn} (k:Nat) (h:DepL l) (hk:∀i,(l i)[k]? =some (.fn f [] [.p i 0])):OneB (fun i=> .ag (l i)):=by
  intro X w β i u hv
  refine⟨?_,fun X' w' β' j hj=>dep_ag h _ _ _ _ _ hv _ _ _ _ hj⟩
  simp only [V]at hv
  obtain⟨us,_,e2,_⟩:=hv
  obtain⟨u',_,g⟩:=VS_get e2 (hk i)
  exact(oneB_fn _ _ _ _ _ g).1
section
variable {P:Program} {w0:Bw} {X0:Xs} {n:Nat} {E:Ev} {st:St} {Q:Exit→Act→World→Prop}
theorem n_callvMM {K : Act → World → Prop} {mk : Nat → A} {mkc : Nat → List A} (hmk : OneB mk) (hmc : DepL mkc) {d : Nat} (nx : Nat) (hfr : st.free nx = true) {f : FuncId} {x : Operand} {xs : List Operand} {fs cs vs vs' : List A} {ats : Array TypeId} {ty : TypeId} {pos aft' g} (ow : Bool) (hx : ev E x = some (.fn (.func f) fs cs)) (hxs : evsA E xs = some vs) (hv : VwL st ⟨[]⟩ ow (fs ++ vs ++ cs) vs')
    (hc:Con P f vs' (RetMM mk mkc)) (hd:Nat.ble (d+1) n=true) (h:At w0 X0 n ((d,mk nx)::E) (st.put nx (mkc nx)) K):
    At w0 X0 n E st (fun a w=>(⟨some d,.call {callee:= .value x,args:=xs.toArray,argTypes:=ats},ty,pos,aft',g⟩:Oper).wp P a w K Q):=by
  rintro a w ⟨β,X,hr⟩
  refine call_core hr hx hxs (s0:=⟨[]⟩) trivial hv hc fun v w' ⟨r,β',X',st',hR,hsup,hsub,hm,hvv⟩=>?_
  obtain⟨id,rfl,hg⟩:=hR
  obtain⟨m1,m2,m3,m4,m6⟩:=hm.after hr (fun id cs h=>by cases h) hsub hsup (upds:= []) (fun p hp=>by cases hp)
  rw [aft_nil]at m1
  have hnx:=hr.mem.dom nx hfr
  have ho:=hm.obj id (mkc id) hg
  unfold OB at ho
  obtain⟨⟨b,N,hβ⟩,hV⟩:=hmk _ _ _ _ _ hvv
  rw [hβ]at ho
  obtain⟨o1,o2,us,rest,ety,o3,o4,o5,o6⟩:=ho
  have o1:w.heap.size≤b:=by
    rcases o1 with h|⟨id',cs',h,_⟩
    · exact h
    · cases h
  have hnX:∀o,¬(X b o∨(X' b o∧(bw w (rst ⟨[]⟩ β) ⟨[]⟩ rst_none).own b)):=fun o h=>by
    rcases h with h|⟨h,_⟩
    · exact o2 o (hsup b o (.inl h))
    · exact o2 o h
  have hvs:VS (fun b o=>X b o∨(X' b o∧(bw w (rst ⟨[]⟩ β) ⟨[]⟩ rst_none).own b)) w' (upd β nx (.bk b N)) (mkc nx) us:=hmc _ _ _ _ _ o5 _ _ _ _ (upd_at.trans hβ.symm)
  have hfresh:∀k ck q M,st.get k=some ck→β k=some (.bk q M)→q≠b:=fun k ck q M hk hq=>by
    have:=m6 q M k ck hk hq
    omega
  have m5 : Mem w0 (upd β nx (.bk b N)) (fun b o => X b o ∨ (X' b o ∧ (bw w (rst ⟨[]⟩ β) ⟨[]⟩ rst_none).own b)) (st.put nx (mkc nx)) w' := by
    refine .of (m1.below) (fun k y h=>(upd_ext hnx) k y (m1.b0 k y h)) (m1.xlt) (fun k h=>?_) (fun k es hk=>?_) (fun i j ci cj q M N' hij hi hj hbi hbj=>?_)
    · rw [St.free_put] at h
      split at h
      · cases h
      · rename_i hne
        rw [upd_ne (fun e=>hne e.symm)]
        exact hr.mem.dom k h
    · rw [St.get_put] at hk
      split at hk
      · rename_i e; subst e
        simp only [Option.some.injEq]at hk
        subst hk
        unfold OB
        rw [upd_at]
        exact⟨Bw.own_new hr.mem.below o1,hnX,us,rest,ety,o3,o4,hvs,o6⟩
      · refine (m1.obj k es hk).later (fun _ _ h => ⟨h, rfl⟩) (upd_ext hnx) (fun q M hq => ⟨rfl, ?_⟩) fun q hq => ⟨rfl, ((m1.obj k es hk).mpB hq).2.2.1⟩
        have hk':=m1.obj k es hk
        unfold OB at hk'
        rw [hq]at hk'
        exact hk'.2.1
    · rw [St.get_put] at hi hj
      by_cases ei:nx=i
      · by_cases ej : nx = j
        · omega
        · rw [if_neg ej] at hj
          rw [←ei,upd_at]at hbi
          rw [upd_ne (by omega)]at hbj
          simp only [Option.some.injEq,BL.bk.injEq]at hbi
          exact hfresh j cj q N' hj hbj (by omega)
      · rw [if_neg ei] at hi
        rw [upd_ne (by omega)]at hbi
        by_cases ej:nx=j
        · rw [← ej, upd_at] at hbj
          simp only [Option.some.injEq,BL.bk.injEq]at hbj
          exact hfresh i ci q M hi hbi (by omega)
        · rw [if_neg ej] at hj
          rw [upd_ne (by omega)]at hbj
          exact hr.mem.inj i j ci cj q M N' hij hi hj hbi hbj
  exact h _ _ ⟨_,_,hr.putv hd m2 m3 (upd_ext hnx) m5 (hV _ _ _ _ (upd_at.trans hβ.symm))⟩
theorem n_callMM {K:Act→World→Prop} {mk:Nat→A} {mkc:Nat→List A} (hmk:OneB mk) (hmc:DepL mkc) {d:Nat} (nx:Nat) (hfr:st.free nx=true) {f:FuncId} {xs:List Operand} {vs vs':List A} {ats:Array TypeId} {ty:TypeId} {pos aft' g} (ow:Bool) (hxs:evsA E xs=some vs) (hv:VwL st ⟨[]⟩ ow vs vs')
    (hc:Con P f vs' (RetMM mk mkc)) (hd:Nat.ble (d+1) n=true) (h:At w0 X0 n ((d,mk nx)::E) (st.put nx (mkc nx)) K):
    At w0 X0 n E st (fun a w=>(⟨some d,.call {callee:= .value (.func f),args:=xs.toArray,argTypes:=ats},ty,pos,aft',g⟩:Oper).wp P a w K Q):=
  n_callvMM hmk hmc nx hfr (fs:= []) (cs:= []) ow rfl hxs (by simpa using hv) hc hd h
end
theorem onlyT_of {T0:Nat} {mkc:Nat→List A} (h:DepL mkc):OnlyT [T0] [(T0,mkc T0)]:=fun p hp X w β1 β2 us hβ hv=>by
  rw [List.mem_singleton.1 hp]at hv ⊢
  exact h X w β1 T0 us hv X w β2 T0 (hβ T0 (.head _))
theorem one_in {T0:Nat} {c:List A}:∀p∈ [(T0,c)],p.1∈ [T0]:=fun p hp=>by rw [List.mem_singleton.1 hp];exact .head _
end Go.Abs
-- C1P
namespace Go.Abs.D2
open Go Go.Eng Go.Abs
inductive CV where
  |mk (k n:Int) (s:List UInt8) (l:List CV)
mutual
def CV.cells:CV→List A
  | .mk k n s l=> [.i .i64 k,.i .i64 n,.s s,.fz l.length (CV.cellsL l)]
def CV.cellsL:List CV→List A
  | []=> []
  |v::l=>v.cells++CV.cellsL l
end
mutual
def CV.size:CV→Nat
  | .mk _ _ _ l=>CV.sizeL l+1
def CV.sizeL:List CV→Nat
  | []=>0
  |v::l=>v.size+CV.sizeL l+1
end
theorem CV.size_mem:∀ {l:List CV} {v:CV},v∈l→v.size<CV.sizeL l
  | [],_,h=>by cases h
  | u :: l, v, h => by
    rcases List.mem_cons.1 h with rfl|h
    · simp only [CV.sizeL];omega
    · have := CV.size_mem h
      simp only [CV.sizeL];omega
mutual
def CV.okB:CV→Bool
  | .mk k n s l=>if k=1 then s.isEmpty&&l.isEmpty else if k=2 then decide (n=0)&&l.isEmpty else if k=3 then decide (n=0)&&s.isEmpty&&CV.okBL l else false
def CV.okBL:List CV→Bool
  | []=>true
  |v::l=>v.okB&&CV.okBL l
end
mutual
def CV.depth:CV→Nat
  | .mk k _ _ l=>if k=3 then CV.depthL l+1 else 0
def CV.depthL:List CV→Nat
  | []=>0
  |v::l=>max v.depth (CV.depthL l)
end
def numL (u:Nat):List UInt8:=if _h:u<128 then [UInt8.ofNat u]else UInt8.ofNat (u % 128+128)::numL (u / 128)
theorem numL_small {u:Nat} (h:u<128):numL u= [UInt8.ofNat u]:=by rw [numL,dif_pos h]
theorem numL_big {u:Nat} (h:¬u<128):numL u=UInt8.ofNat (u % 128+128)::numL (u / 128):=by rw [numL,dif_neg h]
def unsI (n:Int):Nat:=if 0≤n then 2*n.toNat else 2*(-(n+1)).toNat+1
mutual
def CV.enc:CV→List UInt8
  | .mk k n s l=>if k=1 then 1::numL (unsI n)else if k=2 then 2::(numL s.length++s)else 3::(numL l.length++CV.encL l)
def CV.encL:List CV→List UInt8
  | []=> []
  |v::l=>v.enc++CV.encL l
end
@[simp] theorem CV.len_cells (v:CV):v.cells.length=4:=by cases v;simp [CV.cells]
theorem CV.cellsL_flat:∀l:List CV,CV.cellsL l=l.flatMap CV.cells
  | []=>rfl
  |v::l=>by rw [CV.cellsL,CV.cellsL_flat l,List.flatMap_cons]
theorem CV.get:∀ {l:List CV} {i:Nat} {v:CV},l[i]? =some v→((CV.cellsL l).drop (i*4)).take 4=v.cells
  | [],_,_,h=>by simp at h
  | u :: l, i, v, h => by
    rw [CV.cellsL]
    cases i with
    |zero=>simp at h;subst h;rw [Nat.zero_mul,List.drop_zero,List.take_left' (CV.len_cells u)]
    | succ i =>
      rw [show(i+1)*4=4+i*4 by omega, ←List.drop_drop,List.drop_left' (CV.len_cells u)]
      exact CV.get (by simpa using h)
theorem CV.okBL_all:∀(l:List CV),CV.okBL l=l.all CV.okB
  | []=>rfl
  |v::l=>by rw [CV.okBL,CV.okBL_all l,List.all_cons]
theorem CV.encL_flat:∀(l:List CV),CV.encL l=l.flatMap CV.enc
  | []=>rfl
  |v::l=>by rw [CV.encL,CV.encL_flat l,List.flatMap_cons]
theorem CV.encL_next {l:List CV} {i:Nat} {v:CV} (h:l[i]? =some v):CV.encL (l.take i)++v.enc=CV.encL (l.take (i+1)):=by
  rw [CV.encL_flat,CV.encL_flat,List.take_add_one,h];simp
theorem CV.depthL_next {l:List CV} {i:Nat} {v:CV} (h:l[i]? =some v):max (CV.depthL (l.take i)) v.depth=CV.depthL (l.take (i+1)):=by
  have key:∀(m:List CV) (u:CV),CV.depthL (m++ [u])=max (CV.depthL m) u.depth:=by
    intro m u
    induction m with
    |nil=>simp [CV.depthL]
    |cons a m ih=>simp only [List.cons_append,CV.depthL,ih];omega
  rw [List.take_add_one,h]
  exact(key _ _).symm
theorem CV.depth_size : ∀ (n : Nat) (v : CV), v.size ≤ n → v.depth ≤ v.size
  |0,v,h=>by cases v;simp only [CV.size]at h;omega
  | n + 1, .mk k m s l, h => by
    simp only [CV.size]at h
    have hl:CV.depthL l≤CV.sizeL l:=by
      have key:∀(q:List CV),CV.sizeL q≤n→CV.depthL q≤CV.sizeL q:=by
        intro q
        induction q with
        |nil=>intro _;exact Nat.le_refl _
        | cons a q ih =>
          intro hq
          simp only [CV.sizeL]at hq
          have h1:=CV.depth_size n a (by omega)
          have h2:=ih (by omega)
          simp only [CV.depthL,CV.sizeL];omega
      exact key l (by omega)
    simp only [CV.depth,CV.size]
    split<;>omega
@[irreducible] def chkV (v:CV):Int:=if v.okB then (if v.depth≤16 then 0 else 2)else 1
@[irreducible] def encA (v:CV):A:=if chkV v=0 then .tu [.fz v.enc.length (v.enc.map u8),.i .i64 0]else .tu [.nl,.i .i64 (chkV v)]
def numP (u k:Nat):List UInt8:=(List.range k).map fun i=>UInt8.ofNat (u / 128 ^ i % 128+128)
@[simp] theorem len_numP (u k:Nat):(numP u k).length=k:=by simp [numP]
theorem numP_s (u k:Nat):numP u k++ [UInt8.ofNat (u / 128 ^ k % 128+128)]=numP u (k+1):=by simp [numP,List.range_succ]
theorem numL_P (u:Nat):∀k,(∀i,i<k→128≤u / 128 ^ i)→numL u=numP u k++numL (u / 128 ^ k)
  |0,_=>by simp [numP]
  | k + 1, h => by
    rw [numL_P u k fun i hi=>h i (by omega),numL_big (by have:=h k (by omega);omega), ←numP_s,List.append_assoc,Nat.div_div_eq_div_mul, ←Nat.pow_succ]
    rfl
theorem numL_end {u k:Nat} (h:∀i,i<k→128≤u / 128 ^ i) (h2:u / 128 ^ k<128):numP u k++ [UInt8.ofNat (u / 128 ^ k)]=numL u:=by
  rw [numL_P u k h,numL_small h2]
theorem and127 (w:BitVec 64):(w&&& 127#64).toNat=w.toNat % 128:=by
  rw [BitVec.toNat_and]
  exact Nat.and_two_pow_sub_one_eq_mod _ 7
theorem or128:∀x,x<128→UInt8.ofNat x|||128=UInt8.ofNat (x+128):=by decide+kernel
theorem uns_nat {n:Int} (h0: -9223372036854775808≤n) (h1:n≤9223372036854775807):unsI n<2 ^ 64:=by
  unfold unsI;split<;>omega
theorem pow_lim {u k:Nat} (h:u<2 ^ 64) (hk:10≤k):u / 128 ^ k=0:=by
  apply Nat.div_eq_of_lt
  have:128 ^ 10≤128 ^ k:=Nat.pow_le_pow_right (by omega) hk
  have h2:(2:Nat) ^ 64<128 ^ 10:=by decide
  omega
theorem len_numL {u : Nat} (h : u < 2 ^ 64) : (numL u).length ≤ 11 := by
  have key:∀(k u:Nat),u<128 ^ (k+1)→(numL u).length≤k+1:=by
    intro k
    induction k with
    |zero=>intro u hu;rw [numL_small (by omega)];exact Nat.le_refl _
    | succ k ih =>
      intro u hu
      by_cases hs:u<128
      · rw [numL_small hs];simp
      · rw [numL_big hs, List.length_cons]
        have:=ih (u / 128) (by rw [Nat.div_lt_iff_lt_mul (by omega)];rw [Nat.pow_succ]at hu;exact hu)
        omega
  exact key 10 u (by have h2 : (2 : Nat) ^ 64 < 128 ^ 11 := by decide
                     omega)
theorem pow128 (k:Nat):2 ^ (7*k)=128 ^ k:=by rw [Nat.pow_mul]
theorem shr_num (u:BitVec 64) (k:Nat):(u>>>(7*k)).toNat=u.toNat / 128 ^ k:=by rw [BitVec.toNat_ushiftRight,Nat.shiftRight_eq_div_pow,pow128]
theorem num_ge (u:BitVec 64) (k:Nat):decide (((u>>>(7*k)).toNat:Int)≥128)=decide (128≤u.toNat / 128 ^ k):=by
  rw [shr_num];exact decide_eq_decide.2 (by omega)
theorem num_byte (u:BitVec 64) (k:Nat):UInt8.ofNat (((u>>>(7*k))&&& c64 127)).toNat|||128=UInt8.ofNat (u.toNat / 128 ^ k % 128+128):=by
  rw [and127,shr_num];exact or128 _ (Nat.mod_lt _ (by omega))
theorem num_app (B:List UInt8) (u:BitVec 64) (k:Nat):(B++numP u.toNat k).map u8++ [u8 (UInt8.ofNat (u.toNat / 128 ^ k % 128+128))]=(B++numP u.toNat (k+1)).map u8:=by
  rw [←numP_s];simp
theorem shr_next (u:BitVec 64) (k:Nat):(u>>>(7*k))>>>7=u>>>(7*(k+1)):=by
  apply BitVec.eq_of_toNat_eq
  rw [BitVec.toNat_ushiftRight,BitVec.toNat_ushiftRight,BitVec.toNat_ushiftRight, ←Nat.shiftRight_add]
  rfl
theorem num_last (B:List UInt8) {u:BitVec 64} {k:Nat} (h:∀i,i<k→128≤u.toNat / 128 ^ i) (h2:u.toNat / 128 ^ k<128):(B++numP u.toNat k).map u8++ [u8 (UInt8.ofNat (u.toNat / 128 ^ k))]=(B++numL u.toNat).map u8:=by
  rw [←numL_end h h2];simp
theorem num_len (B:List UInt8) {u:BitVec 64} {k:Nat} (h:∀i,i<k→128≤u.toNat / 128 ^ i) (h2:u.toNat / 128 ^ k<128):B.length+k+1=(B++numL u.toNat).length:=by
  rw [←numL_end h h2];simp;omega
theorem uns_conv (n:Int):IntKind.u64.wrap n=((BitVec.ofInt 64 n).toNat:Int):=by
  simp only [IntKind.wrap,IntKind.bits,IntKind.signed,BitVec.toNat_ofInt]
  simp
  omega
theorem uns_shr {n:Int} (h0: -9223372036854775808≤n) (h1:n≤9223372036854775807):n.fdiv (2 ^ min (63:Int).toNat IntKind.i64.bits)=if 0≤n then 0 else -1:=by
  rw [show(2:Int) ^ min (63:Int).toNat IntKind.i64.bits=9223372036854775808 from by decide]
  rw [Int.fdiv_eq_ediv_of_nonneg _ (by omega)]
  split<;>omega
theorem uns_conv2 (n:Int):IntKind.u64.wrap (if 0≤n then 0 else -1)=((if 0≤n then (0:BitVec 64)else BitVec.allOnes 64).toNat:Int):=by
  split<;>rfl
theorem uns_xor {n:Int} (h0: -9223372036854775808≤n) (h1:n≤9223372036854775807):(BitVec.ofInt 64 n<<<1) ^^^ (if 0≤n then (0:BitVec 64)else BitVec.allOnes 64)=c64 (unsI n):=by
  apply BitVec.eq_of_toNat_eq
  have hc:(c64 (unsI n)).toNat=unsI n:=by
    rw [c64,BitVec.toNat_ofNat,Nat.mod_eq_of_lt (uns_nat h0 h1)]
  rw [hc]
  unfold unsI
  split
  · rename_i h
    rw [show(BitVec.ofInt 64 n<<<1) ^^^ (0:BitVec 64)=BitVec.ofInt 64 n<<<1 from BitVec.xor_zero,BitVec.toNat_shiftLeft,Nat.shiftLeft_eq,BitVec.toNat_ofInt]
    omega
  · rename_i h
    rw [BitVec.xor_allOnes,BitVec.toNat_not,BitVec.toNat_shiftLeft,Nat.shiftLeft_eq,BitVec.toNat_ofInt]
    omega
theorem all_nextV {l:List CV} {i:Nat} {v:CV} {p:CV→Bool} (hv:l[i]? =some v) (h:(l.take i).all p=true) (h2:p v=true):(l.take (i+1)).all p=true:=by
  rw [List.take_add_one,hv];simp [h,h2]
theorem len_z (l:List CV):((l.length:Int)==0)=l.isEmpty:=by
  cases l with
  |nil=>rfl
  | cons v l =>
    have h:(((v::l).length:Int)==0)=false:=by
      rw [beq_eq_false_iff_ne,List.length_cons];omega
    rw [h];rfl
theorem okV_1 {k n:Int} {s:List UInt8} {l:List CV} (h:k=1):(s.isEmpty&&((l.length:Int)==0))=CV.okB (.mk k n s l):=by
  rw [CV.okB,if_pos h,len_z]
theorem okV_2 {k n:Int} {s:List UInt8} {l:List CV} (h:k=2):((n==0)&&((l.length:Int)==0))=CV.okB (.mk k n s l):=by
  rw [CV.okB,if_neg (by omega),if_pos h,len_z];rfl
theorem okV_3n {k n:Int} {s:List UInt8} {l:List CV} (h:k=3) (h2:(n !=0|| !s.isEmpty)=true):false=CV.okB (.mk k n s l):=by
  rw [CV.okB,if_neg (by omega),if_neg (by omega),if_pos h]
  cases s<;>simp_all
theorem okV_3f {k n:Int} {s:List UInt8} {l:List CV} (h:k=3) {i:Nat} {v:CV} (hv:l[i]? =some v) (h2:v.okB=false):false=CV.okB (.mk k n s l):=by
  rw [CV.okB,if_neg (by omega),if_neg (by omega),if_pos h,CV.okBL_all]
  have:l.all CV.okB=false:=by
    rw [List.all_eq_false];exact⟨v,List.mem_of_getElem? hv,by simp [h2]⟩
  rw [this];simp
theorem okV_3 {k n:Int} {s:List UInt8} {l:List CV} (h:k=3) (hn:(n !=0|| !s.isEmpty)=false) (h2:(l.take l.length).all CV.okB=true):true=CV.okB (.mk k n s l):=by
  rw [List.take_length]at h2
  rw [CV.okB,if_neg (by omega),if_neg (by omega),if_pos h,CV.okBL_all,h2]
  cases s<;>simp_all
theorem okV_0 {k n:Int} {s:List UInt8} {l:List CV} (h1:k≠1) (h2:k≠2) (h3:k≠3):false=CV.okB (.mk k n s l):=by
  rw [CV.okB,if_neg h1,if_neg h2,if_neg h3]
theorem CV.rec_size {p:CV→Prop} (N:Nat) (h:∀k n s l,CV.sizeL l<N→(∀v∈l,p v)→p (.mk k n s l)):∀v:CV,v.size≤N→p v:=by
  have key:∀(q:Nat) (v:CV),v.size≤q→q≤N→p v:=by
    intro q
    induction q with
    |zero=>intro v hv;cases v;simp only [CV.size]at hv;omega
    | succ q ih =>
      intro v hv hq
      obtain⟨k,n,s,l⟩:=v
      simp only [CV.size]at hv
      exact h k n s l (by omega) fun u hu=>ih u (by have:=CV.size_mem hu;omega) (by omega)
  exact fun v hv=>key N v hv (Nat.le_refl _)
theorem CV.len_sizeL:∀l:List CV,l.length≤CV.sizeL l
  | []=>Nat.le_refl _
  |v::l=>by simp only [List.length_cons,CV.sizeL];have:=CV.len_sizeL l;omega
theorem CV.depthL_size:∀l:List CV,CV.depthL l≤CV.sizeL l
  | []=>Nat.le_refl _
  |v::l=>by simp only [CV.depthL,CV.sizeL];have:=CV.depthL_size l;have:=CV.depth_size v.size v (Nat.le_refl _);omega
theorem CV.pure_cells (v:CV):PureL v.cells:=by
  obtain⟨k,n,s,l⟩:=v
  exact⟨trivial,trivial,trivial,trivial,trivial⟩
instance (v:CV):IsPureL v.cells:=⟨v.pure_cells⟩
theorem CV.get4 {l:List CV} {i:Nat} {k n:Int} {s:List UInt8} {q:List CV} (h:l[i]? =some (.mk k n s q)):((CV.cellsL l).drop (i*4)).take 4= [.i .i64 k,.i .i64 n,.s s,.fz q.length (CV.cellsL q)]:=CV.get h
theorem okV_kind {k n:Int} {s:List UInt8} {l:List CV} (h:CV.okB (.mk k n s l)=true):k=1∨k=2∨(k=3∧CV.okBL l=true):=by
  rw [CV.okB]at h
  split at h
  · exact .inl (by assumption)
  · split at h
    · exact .inr (.inl (by assumption))
    · split at h
      · simp only [Bool.and_eq_true]at h;exact .inr (.inr ⟨by assumption,h.2⟩)
      · cases h
mutual
def CV.rng:CV→Bool
  | .mk _ n _ l=>decide (-9223372036854775808≤n)&&decide (n≤9223372036854775807)&&CV.rngL l
def CV.rngL:List CV→Bool
  | []=>true
  |v::l=>v.rng&&CV.rngL l
end
theorem CV.rngL_all:∀(l:List CV),CV.rngL l=l.all CV.rng
  | []=>rfl
  |v::l=>by rw [CV.rngL,CV.rngL_all l,List.all_cons]
theorem CV.len_enc (v:CV):0<v.enc.length:=by
  obtain⟨k,n,s,l⟩:=v
  rw [CV.enc]
  split
  · simp
  · split<;>simp
theorem CV.len_encL:∀l:List CV,l.length≤(CV.encL l).length
  | []=>Nat.le_refl _
  | v :: l => by
    have:=CV.len_encL l
    have:=v.len_enc
    rw [CV.encL,List.length_append,List.length_cons];omega
theorem CV.encL_take (l:List CV) (i:Nat):(CV.encL (l.take i)).length≤(CV.encL l).length:=by
  conv=>rhs;rw [←List.take_append_drop i l,CV.encL_flat]
  rw [List.flatMap_append,List.length_append,CV.encL_flat];omega
theorem app_one (B:List UInt8) (x:UInt8):B.map u8++ [u8 x]=(B++ [x]).map u8:=by simp
theorem app_str (B s R:List UInt8) (h:B++s=R):B.map u8++s.map u8=R.map u8:=by rw [←h];simp
theorem c64_nat {n:Nat} (h:n<2 ^ 64):(c64 n).toNat=n:=by rw [c64,BitVec.toNat_ofNat,Nat.mod_eq_of_lt h]
theorem chkV_1 {v:CV} (h:v.okB=false):chkV v=1:=by unfold chkV;rw [h];rfl
theorem chkV_2 {v:CV} (h:v.okB=true) (h2:16<v.depth):chkV v=2:=by unfold chkV;rw [if_pos h,if_neg (by omega)]
theorem chkV_0 {v:CV} (h:v.okB=true) (h2:¬16<v.depth):chkV v=0:=by unfold chkV;rw [if_pos h,if_pos (by omega)]
theorem chkV_ok {v:CV} (h:chkV v=0):v.okB=true:=by
  unfold chkV at h
  split at h
  · assumption
  · omega
theorem encA_no {v:CV} (h:chkV v≠0):encA v= .tu [.nl,.i .i64 (chkV v)]:=by unfold encA;rw [if_neg h]
theorem encA_yes {v:CV} (h:chkV v=0):encA v= .tu [.fz v.enc.length (v.enc.map u8),.i .i64 0]:=by unfold encA;rw [if_pos h]
theorem retOS_cast {C C':List UInt8} {id T:Nat} {tc:List A} {st:St} (hC:C=C') (h:st.get id=some (C.map u8)) (h2:st.get T=some tc) (h3:T≠id):RetOS 1 C'.length (C'.map u8) [(T,tc)] (.sl id 1 0 C.length) st:=by
  subst hC
  exact⟨id,rfl,h,fun p hp=>by rw [List.mem_singleton.1 hp];exact⟨h2,h3⟩⟩
end Go.Abs.D2
-- C1Q
namespace Go.Abs.D2
open Go Go.Eng Go.Abs
def rdN:Nat→List UInt8→Option (Nat×List UInt8)
  |_, []=>none
  |i,c::r=>if(i=9∧1<c.toNat)∨(0<i∧c.toNat=0)then none else if c.toNat<128 then some (c.toNat,r)else(rdN (i+1) r).map fun p=>(c.toNat % 128+128*p.1,p.2)
def sgnI (u:Nat):Int:=if u % 2=0 then ((u / 2:Nat):Int)else -((u / 2:Nat):Int) - 1
def rdB (sub : Nat → List UInt8 → Option (List CV × List UInt8)) : List UInt8 → Option (CV × List UInt8)
  | []=>none
  | c :: r =>
    if c=1 then (rdN 0 r).map fun p=>(.mk 1 (sgnI p.1) [] [],p.2)
    else if c=2 then (rdN 0 r).bind fun p=>if p.1≤p.2.length then some (.mk 2 0 (p.2.take p.1) [],p.2.drop p.1)else none
    else if c=3 then (rdN 0 r).bind fun p=>if p.1≤p.2.length then (sub p.1 p.2).map fun q=>(.mk 3 0 [] q.1,q.2)else none
    else none
def Rd (d:Nat) (v:CV):Prop:=v.okB=true∧v.depth≤d∧v.rng=true
theorem depthL_le {d:Nat}:∀ {vs:List CV},(∀v∈vs,v.depth≤d)→CV.depthL vs≤d
  | [],_=>Nat.zero_le _
  |v::vs,h=>by simp only [CV.depthL];have:=h v (.head _);have:=depthL_le (vs:=vs) fun u hu=>h u (.tail _ hu);omega
end Go.Abs.D2
-- AbsU
namespace Go.Abs
open Go Go.Eng
section
variable {st stN:St}
mutual
theorem Vw_leS {s0:St} (h:stle st stN):∀ {ow:Bool} {v v':A},Vw stN s0 ow v v'→Vw st s0 ow v v'
  |_,_,_,.pure hp=> .pure hp
  |_,_,_,.nl=> .nl
  |_,_,_,.sl hf hg hm hd hv hp=> .sl hf (h _ _ hg) hm hd (VwL_leS h hv) hp
  |_,_,_,.kp hf=> .kp hf
  |_,_,_,.ksl hf=> .ksl hf
  |_,_,_,.ag hv=> .ag (VwL_leS h hv)
  |_,_,_,.fn hv hv'=> .fn (VwL_leS h hv) (VwL_leS h hv')
theorem VwL_leS {s0:St} (h:stle st stN):∀ {ow:Bool} {v v':List A},VwL stN s0 ow v v'→VwL st s0 ow v v'
  |_,_,_,.nil=> .nil
  |_,_,_,.cons hv hs=> .cons (Vw_leS h hv) (VwL_leS h hs)
end
theorem SubL_le {s0:St} {ow:Bool} (h:stle st stN):∀ {os:List (Nat×Option (List A))},SubL stN s0 ow os→SubL st s0 ow os
  | [],_=>trivial
  |(_,none)::r,hs=>SubL_le h (os:=r) hs
  |(_,some _)::r,hs=>⟨⟨h _ _ hs.1.1,VwL_leS h hs.1.2⟩,SubL_le h (os:=r) hs.2⟩
end
theorem chg_HK {d nx:Nat} {v:A} {deps u:List Nat} {need:List (Nat×Option Nat)} {ds:List A} {s0 st:St} {upds:List (Nat×List A)}:(⟨d,v,deps,s0.os.map (·.1),(nx,ds)::upds,need,u⟩:Stp).chg st=(aft s0 st upds).put nx ds:=by
  unfold Stp.chg aft St.put
  simp [List.map_map,Function.comp_def]
section
variable {r:Option Nat} {ds0:List Deferred} {P:Program} {w0:Bw} {X0:Xs} {N:Nat} {E0:EV} {st0:St} {Q:Exit→Act→World→Prop} {ops:Array Oper} {n g:Nat} {plan:List Stp} {E:Ev} {st:St} {rest:List Oper} {d:Nat} {ty:TypeId} {pos:String} {aft':Array Edge} {gd:Option (Nat×Bool)}
theorem fs_callHO {f:FuncId} {xs:List Operand} {vs vs' ds:List A} {s m:Nat} {ats:Array TypeId} (nx:Nat) (s0:St) (ow:Bool) (k0:Nat) (deps:List Nat) (need:List (Nat×Option Nat)) (hg:GuardYes ops (keepI (E0.at k0) deps k0 E) gd) (hxs:evsA (keepI (E0.at k0) deps k0 E) xs=some vs) (hS:SubL (nst plan st0 need) s0 ow s0.os) (hv:VwL (nst plan st0 need) s0 ow vs vs')
    (hc:ConS P f vs' s0 (RetO s m ds)) (hp:PureL ds) (hf:ow=false∨FlatL ds) (hb:Nat.ble (d+1) N=true) (hd:depB k0 deps need=true) (h:FS r ds0 P w0 X0 N Q ops n g E0 st0 (plan++ [⟨d,.sl nx s 0 m,deps,s0.os.map (·.1), [(nx,ds)],need, []⟩]) (k0+1) ((d,.sl nx s 0 m)::E) ((aft s0 st []).put nx ds) rest):
    FS r ds0 P w0 X0 N Q ops n g E0 st0 plan k0 E st (⟨some d,.call {callee:= .value (.func f),args:=xs.toArray,argTypes:=ats},ty,pos,aft',gd⟩::rest):=
  fs_gen ⟨d,.sl nx s 0 m,deps,s0.os.map (·.1), [(nx,ds)],need, []⟩ (fun hk hE _ _ _ hD hs hfr hK=>have he':=hD.fin hE hk;ob_gy hg he' (n_callHO nx (hfr _ (.head _) rfl) s0 ow (evs_le he' hxs) (SubL_le hs hS) (VwL_leS hs hv) hc hp hf hb (chg_HK (upds:= []) ▸ hK))) hd (chg_HK (upds:= []) ▸ h)
theorem fs_callHK {f:FuncId} {x:Operand} {xs:List Operand} {fs cs vs vs' ds:List A} {s m:Nat} {ats:Array TypeId} (nx:Nat) (s0:St) (upds:List (Nat×List A)) (ow:Bool) (k0:Nat) (deps:List Nat) (need:List (Nat×Option Nat)) (hg:GuardYes ops (keepI (E0.at k0) deps k0 E) gd) (hx:ev (keepI (E0.at k0) deps k0 E) x=some (.fn (.func f) fs cs)) (hxs:evsA (keepI (E0.at k0) deps k0 E) xs=some vs) (hnx:memN (upds.map (·.1)) nx=false) (hS:SubL (nst plan st0 need) s0 ow s0.os) (hv:VwL (nst plan st0 need) s0 ow (fs++vs++cs) vs')
    (hc:ConS P f vs' s0 (RetOS s m ds upds)) (hp:PureL ds) (hf:ow=false∨FlatL ds) (hu:∀p∈upds,(∃cs,s0.get p.1=some cs)∧KpL s0 ow p.2) (hb:Nat.ble (d+1) N=true) (hd:depB k0 deps need=true) (h:FS r ds0 P w0 X0 N Q ops n g E0 st0 (plan++ [⟨d,.sl nx s 0 m,deps,s0.os.map (·.1),(nx,ds)::upds,need,upds.map (·.1)⟩]) (k0+1) ((d,.sl nx s 0 m)::E) ((aft s0 st upds).put nx ds) rest):
    FS r ds0 P w0 X0 N Q ops n g E0 st0 plan k0 E st (⟨some d,.call {callee:= .value x,args:=xs.toArray,argTypes:=ats},ty,pos,aft',gd⟩::rest):=
  fs_gen ⟨d,.sl nx s 0 m,deps,s0.os.map (·.1),(nx,ds)::upds,need,upds.map (·.1)⟩ (fun hk hE _ _ _ hD hs hfr hK=>have he':=hD.fin hE hk;ob_gy hg he' (n_callHK nx (hfr _ (.head _) hnx) s0 upds ow (ev_le he' hx) (evs_le he' hxs) (SubL_le hs hS) (VwL_leS hs hv) hc hp hf hu hb (chg_HK ▸ hK))) hd (chg_HK ▸ h)
end
theorem ConS.nl {P : Program} {f : FuncId} {i s : Nat} {vs : List A} {s0 : St} {R : A → St → Prop} (hi : s0.free i = true) (h : ConS P f (.sl i s 0 0 :: vs) (s0.put i []) R) : ConS P f (.nl :: vs) s0 R := by
  intro w X β us hd hX hgl ho hinj hv
  have hn:=hd i hi
  simp only [VS]at hv
  obtain⟨u,us,rfl,hu,hvs⟩:=hv
  have hext:=upd_ext (x:=BL.ph) hn
  have hd2:∀id,(s0.put i []).free id=true→(upd β i .ph) id=none:=fun id hf=>by
    rw [St.free_put]at hf
    split at hf
    · cases hf
    · rename_i hne
      rw [upd_ne (fun e=>hne e.symm)]
      exact hd id hf
  have hget:∀id cs,(s0.put i []).get id=some cs→(id=i∧cs= [])∨(id≠i∧s0.get id=some cs):=fun id cs hg=>by
    rw [St.get_put]at hg
    split at hg
    · rename_i e;simp only [Option.some.injEq]at hg;exact .inl ⟨e.symm,hg.symm⟩
    · rename_i e;exact .inr ⟨fun h=>e h.symm,hg⟩
  have hownM:∀b,(bw w (upd β i .ph) (s0.put i []) hd2).M b→(bw w β s0 hd).M b:=fun b ⟨id,cs,h1,y,h2,h3⟩=>by
    rcases hget id cs h1 with ⟨rfl,_⟩|⟨hne,h1⟩
    · rw [upd_at]at h2;cases h2;exact h3.elim
    · rw [upd_ne hne]at h2;exact⟨id,cs,h1,y,h2,h3⟩
  have hownM2:∀b,(bw w β s0 hd).M b→(bw w (upd β i .ph) (s0.put i []) hd2).M b:=fun b ⟨id,cs,h1,y,h2,h3⟩=>by
    have hne:id≠i:=fun e=>by subst e;rw [hn]at h2;cases h2
    refine⟨id,cs,?_,y,?_,h3⟩
    · rw [St.get_put,if_neg (fun e=>hne e.symm)];exact h1
    · rw [upd_ne hne];exact h2
  have hown:∀b,(bw w (upd β i .ph) (s0.put i []) hd2).own b→(bw w β s0 hd).own b:=fun b=>Or.imp_right (hownM b)
  have hown2:∀b,(bw w β s0 hd).own b→(bw w (upd β i .ph) (s0.put i []) hd2).own b:=fun b=>Or.imp_right (hownM2 b)
  refine(h w X (upd β i .ph) (u::us) hd2 hX hgl (fun id cs hg=>?_) (fun a b ca cb q M N hab ha hb ea eb=>?_) ?_).mono fun v w' hP=>?_
  · rcases hget id cs hg with ⟨rfl, rfl⟩ | ⟨hne, hg⟩
    · unfold OB;rw [upd_at]
    · have := ho id cs hg
      unfold OB at this ⊢
      rw [upd_ne hne]
      cases hb:β id with
      |none=>rw [hb]at this;exact this
      | some y =>
        rw [hb]at this
        cases y with
        |ph=>exact this
        | bk b N =>
          obtain⟨q1,q2,us',rest,ty,q3,q4,q5,q6⟩:=this
          exact⟨hown2 b q1,q2,us',rest,ty,q3,q4,VS_mono (fun _ _ h=>⟨h,rfl⟩) _ _ _ _ hext q5,q6⟩
        | mp b =>
          obtain⟨q0,q1,q2,q3⟩:=this
          exact⟨q0,hown2 b q1,q2,q3⟩
  · rcases hget a ca ha with ⟨rfl, _⟩ | ⟨hna, ha⟩
    · rw [upd_at]at ea;cases ea
    · rcases hget b cb hb with ⟨rfl, _⟩ | ⟨hnb, hb⟩
      · rw [upd_at]at eb;cases eb
      · rw [upd_ne hna] at ea; rw [upd_ne hnb] at eb
        exact hinj a b ca cb q M N hab ha hb ea eb
  · simp only [VS]
    refine⟨u,us,rfl,?_,VS_mono (fun _ _ h=>⟨h,rfl⟩) _ _ _ _ hext hvs⟩
    simp only [V]at hu ⊢
    exact .inl ⟨upd_at,trivial,trivial,hu⟩
  · obtain ⟨r, β', X', st', h1, h2, h3, hm, hv⟩ := hP
    refine⟨r,β',X',st',h1,h2,fun b o hx=>(h3 b o hx).imp_right (hown b),?_,hv⟩
    refine .of ⟨hm.below.os,hm.below.tape,hm.below.output,hm.below.size,fun k hk hM=>hm.below.block k hk fun h=>hM (hownM k h),fun s hs=>by cases hs⟩ (fun k y hk=>hm.b0 k y (hext k y hk)) hm.xlt hm.dom (fun id cs hg=>?_) hm.inj
    have:=hm.obj id cs hg
    unfold OB at this ⊢
    split
    · rename_i e;rw [e]at this;exact this
    · rename_i e;rw [e]at this;exact this
    · rename_i b N e
      rw [e]at this
      exact⟨hown b this.1,this.2⟩
    · rename_i b e
      rw [e]at this
      exact⟨this.1,hown b this.2.1,this.2.2⟩
section
variable {P:Program} {n:Nat}
theorem enterH {f:FuncId} {fn:Func} {c:Code} {args:List A} {s0:St} {s m:Nat} {ds:List A} (hp:PureL ds) (hf:P.funcs[f]? =some fn) (hb:fn.body=some c)
    (hn:fn.ntmps=n) (hname:(fn.name== "runtime.NumGoroutine")=false) (ha:args.length≤n)
    (h:∀w0 X0,w0.ids= []→At w0 X0 n (argsE args 0) s0 (Pw [] (c.wpIn (rF none) 0 P (bodyPost P fn fun e w'=>∃v,e= .returned v∧Post w0 X0 (RetO s m ds) v w')))):ConS P f args s0 (RetO s m ds):=by
  intro w X β us hd hX hgl ho hi hv
  have hl:=VS_len hv
  refine Eng.Fn.mono (R:=Post (bwH w β s0) X (RetO s m ds)) ⟨⟨fn,hf,by simp [hb],hname⟩,calls_of_wp hf hb (wpIn_wide.1 (wp_nil (h (bwH w β s0) X rfl _ w ⟨β,X,.of (fun _ _ h=>h) (fun _ _ h=> .inl h) (.of ⟨rfl,rfl,rfl,Nat.le_refl _,fun _ _ _=>rfl,fun s hs=>by cases hs⟩ (fun _ _ h=>by cases h) hX hd ho hi) hgl ?_ rfl (fun s hs=>by cases hs) (fun t v ht=>?_)⟩)))⟩ (fun _ _ h=>post_H hp h)
  · simp [hn];omega
  · obtain ⟨_, h2⟩ := argsE_at _ _ _ _ ht
    simp only [Nat.sub_zero]at h2
    obtain⟨u,g1,g2⟩:=VS_get hv h2
    have hlt:=(List.getElem?_eq_some_iff.1 g1).1
    refine⟨u,?_,g2⟩
    rw [Array.getElem?_append,if_pos (by simpa using hlt)]
    simpa using g1
end
theorem no_in {T:List Nat}:∀p∈([]:List (Nat×List A)),p.1∈T:=fun p hp=>by cases hp
theorem no_get {st:St}:∀t∈([]:List Nat),∃cs,st.get t=some cs:=fun p hp=>by cases hp
theorem onlyT_nil {T:List Nat}:OnlyT T []:=fun p hp=>by cases hp
theorem no_upd {s0:St} {ow:Bool}:∀p∈([]:List (Nat×List A)),(∃cs,s0.get p.1=some cs)∧KpL s0 ow p.2:=fun p hp=>by cases hp
theorem retOS_nil {s m id:Nat} {cs:List A} {st:St} (h:st.get id=some cs):RetOS s m cs [] (.sl id s 0 m) st:=⟨id,rfl,h,fun p hp=>by cases hp⟩
theorem one_get {st:St} {T:Nat} {cs:List A} (h:st.get T=some cs):∀t∈ [T],∃cs,st.get t=some cs:=fun t ht=>by
  rw [List.mem_singleton.1 ht];exact⟨_,h⟩
end Go.Abs
