/-
  The engine, the plain laws and the walks that the rows need, part 3. Conditions: none.
-/
import Derived.Test.YteempkifmbclgaaGreatDoorM2
import Derived.Lib.ConvBytes
set_option linter.unusedVariables false
set_option linter.unusedSimpArgs false
set_option maxHeartbeats 1000000
set_option maxRecDepth 10000
-- EngE
namespace Go.Eng
section ops
variable {P:Program} {n:Nat} {E:Env} {S:List World} {H:List (Nat×Obj)} {Q:Exit→Act→World→Prop}
theorem ID (z:Value) (m:Nat):madeCells #[z] m=(List.replicate m z).toArray:=by
  apply Array.ext
  · simp [madeCells]
  · intro i h1 h2
    simp [madeCells,Nat.mod_one]
theorem qi {d:Nat} {t e:TypeId} {by':Nat} {z:Value} {agg} {x y:Operand} {k k':IntKind} {iv jv:Int} {ty:TypeId} {pos aG g} {K:Act→World→Prop} (l c:Nat) (ht:P.underlying t=some (.slice e)) (he:TI P e 1 by' [z] agg)
    (hx:ev E x=some (.int k iv)) (hy:ev E y=some (.int k' jv)) (hl:iv=(l:Int)) (hc:jv=(c:Int)) (hlc:l≤c) (hby:by'*c≤281474976710656) (hc63:c≤9223372036854775807) (hd:Nat.ble (d+1) n=true)
    (h:∀b,l7 S b→l9 H b→At n ((d,.slice (some ⟨b,0,none⟩) l c)::E) S ((b,row e (List.replicate c z))::H) K):
    At n E S H (fun a w=>(⟨some d,.makeSlice t x y,ty,pos,aG,g⟩:Oper).wp P a w K Q):=by
  intro a w hR hG
  have hf:=hG.fresh
  obtain⟨⟨i,z',h1,h2,h3,h4,h5⟩,_⟩:=he
  have hz':z'.cells= #[z]:=by rw [←Array.toList_inj];simpa using h5
  subst hl;subst hc
  have hrun:=run_make (P:=P) w t e i z' ht h1 h2 k k' l c (by omega) (by omega) (by rw [h4, ←Int.natCast_mul];omega) (by omega)
  simp only [Int.toNat_natCast,h3,Nat.mul_one,hz',ID]at hrun
  show Oper.wp P _ a w K Q
  unfold Oper.wp
  have e1:(execOp a.eval ⟨some d,.makeSlice t x y,ty,pos,aG,g⟩).run P w= .ok (.value (.slice (some ⟨w.heap.size,0,none⟩) l c)) (w.alloc (row e (List.replicate c z))):=by
    simp only [execOp,hR.ev hx,hR.ev hy]
    rw [Sem.run_bind,hrun]
    rfl
  rw [e1]
  exact h w.heap.size hf.1 hf.2 _ _ (hR.put hd _) (hG.alloc _)
def fG (E : Env) : List (Nat × Operand) → Option (List (Nat × Value))
  | []=>some []
  | (i, x) :: r =>
    match ev E x,fG E r with
    |some v,some vs=>some ((i,v)::vs)
    |_,_=>none
theorem dc.fG {a} (hR:dc n E a):∀ {l:List (Nat×Operand)} {vs:List (Nat×Value)},Eng.fG E l=some vs→l.map (fun(i,x)=>(i,a.eval x))=vs
  | [],vs,h=>by simp only [Eng.fG,Option.some.injEq]at h;subst h;rfl
  | (i, x) :: r, vs, h => by
    simp only [Eng.fG]at h
    split at h
    · rename_i v us hv hus
      simp only [Option.some.injEq]at h
      subst h
      simp [hR.ev hv,dc.fG hR hus]
    · cases h
theorem ui : ∀ (c : List Value) (k off : Nat) (pre z : List Value), off + k = pre.length → c.length ≤ z.length →
    (c.zipIdx k).foldl (fun cs p=>cs.setIfInBounds (off+p.2) p.1) (pre++z).toArray=(pre++c++z.drop c.length).toArray
  | [],_,_,pre,z,_,_=>by simp
  | x :: c, k, off, pre, z, h1, h2 => by
    cases z with
    |nil=>simp at h2
    | cons y z =>
      simp only [List.zipIdx_cons,List.foldl_cons]
      have e:(pre++y::z).toArray.setIfInBounds (off+k) x=(pre++ [x]++z).toArray:=by
        rw [h1]
        simp
      rw [e,ui c (k+1) off (pre++ [x]) z (by simp;omega) (by simpa using h2)]
      simp
def eX:List (Value×List Value)→Nat→List (Nat×Value)
  | [],_=> []
  |(v,_)::r,k=>(k,v)::eX r (k+1)
def flat:List (Value×List Value)→List Value
  | []=> []
  |(_,c)::r=>c++flat r
theorem vW (size:Nat):∀(vs:List (Value×List Value)) (k:Nat) (pre z:List Value),(∀p∈vs,p.1.cells=p.2.toArray∧p.2.length=size)→pre.length=k*size→z.length=vs.length*size→
    Instr.fill (fun i=>some (i*size,size)) (pre++z).toArray (eX vs k)=some (pre++flat vs).toArray
  | [], _, pre, z, _, _, hz => by
    have:z= []:=List.eq_nil_of_length_eq_zero (by simpa using hz)
    subst this
    simp [eX,flat,Instr.fill]
  | (v, c) :: r, k, pre, z, hv, hp, hz => by
    obtain⟨h1,h2⟩:=hv (v,c) (by simp)
    simp only at h1 h2
    have hz':z.length=(r.length+1)*size:=by simpa using hz
    rw [Nat.add_mul,Nat.one_mul]at hz'
    simp only [eX,Instr.fill,h1,List.size_toArray,h2]
    have hno:¬((decide (size≠size)||decide (k*size+size>(pre++z).length))=true):=by
      rw [List.length_append,hp,hz']
      simp
    rw [if_neg hno]
    have hw:=ui c 0 (k*size) pre z (by omega) (by omega)
    have ez:c.toArray.zipIdx=(c.zipIdx 0).toArray:=by simp
    rw [ez,List.foldl_toArray]
    refine Eq.trans (congrArg (fun a=>Instr.fill (fun i=>some (i*size,size)) a (eX r (k+1))) hw) ?_
    rw [vW size r (k+1) (pre++c) (z.drop c.length) (fun p hp=>hv p (by simp [hp])) (by rw [List.length_append,hp,h2,Nat.add_mul,Nat.one_mul]) (by rw [List.length_drop];omega)]
    simp [flat]
theorem fY {d:Nat} {t e:TypeId} {size by' zero agg} {len:Nat} {parts:List (Nat×Operand)} {pvs:List (Nat×Value)} {ty:TypeId} {pos aG g} {K:Act→World→Prop} (vs:List (Value×List Value)) (ht:P.underlying t=some (.slice e)) (he:TI P e size by' zero agg)
    (hp:fG E parts=some pvs) (hpv:pvs=eX vs 0) (hlen:len=vs.length) (hcs:∀p∈vs,p.1.cells=p.2.toArray∧p.2.length=size) (hs:Nat.ble (len*size) 16777216=true) (hd:Nat.ble (d+1) n=true)
    (h:∀b,l7 S b→l9 H b→At n ((d,.slice (some ⟨b,0,none⟩) len len)::E) S ((b,row e (flat vs))::H) K):
    At n E S H (fun a w=>(⟨some d,.buildSlice t len parts.toArray,ty,pos,aG,g⟩:Oper).wp P a w K Q):=by
  intro a w hR hG
  have hfr:=hG.fresh
  have hs':=Nat.le_of_ble_eq_true hs
  obtain⟨z,hz,hzc⟩:=he.zeroValue w
  have hrun:(Instr.buildSlice t len (parts.toArray.map fun(i,x)=>(i,a.eval x))).run P w= .ok (.slice (some ⟨w.heap.size,0,none⟩) len len) (w.alloc (row e (flat vs))):=by
    have e0:(parts.toArray.map fun(i,x)=>(i,a.eval x))=pvs.toArray:=by rw [List.map_toArray,hR.fG hp]
    rw [e0]
    unfold Instr.buildSlice
    simp only [Sem.run_bind,run_underlying ht,Result.andThen_ok,he.sizeOf w,show ¬len*size>2 ^ 24 from by omega,if_false]
    have hfill:∀(zz:Array Value),Instr.fill (fun i=>some (i*size,size)) ((Array.range (len*size)).map (zz[· % zz.size]!)) pvs=some (flat vs).toArray:=by
      intro zz
      have e1:((Array.range (len*size)).map (zz[· % zz.size]!))=([]++((Array.range (len*size)).map (zz[· % zz.size]!)).toList).toArray:=by rw [List.nil_append,Array.toArray_toList]
      rw [e1,hpv]
      have:=vW size vs 0 [] ((Array.range (len*size)).map (zz[· % zz.size]!)).toList hcs (by simp) (by simp [hlen])
      rw [List.nil_append]at this
      exact this
    by_cases h0:len*size=0
    · have := hfill #[]
      rw [if_pos h0,pure_bind]
      simp only [this]
      rfl
    · rw [if_neg h0, Sem.run_bind, hz]
      simp only [Result.andThen_ok,pure_bind]
      simp only [hfill z.cells]
      rfl
  show Oper.wp P _ a w K Q
  unfold Oper.wp
  have e1:(execOp a.eval ⟨some d,.buildSlice t len parts.toArray,ty,pos,aG,g⟩).run P w= .ok (.value (.slice (some ⟨w.heap.size,0,none⟩) len len)) (w.alloc (row e (flat vs))):=by
    simp only [execOp]
    rw [Sem.run_bind,hrun]
    rfl
  rw [e1]
  exact h w.heap.size hfr.1 hfr.2 _ _ (hR.put hd _) (hG.alloc _)
def fC:List Value→List (Value×List Value)
  | []=> []
  |v::r=>(v, [v])::fC r
theorem vZ:∀vs,flat (fC vs)=vs
  | []=>rfl
  |v::r=>by simp [fC,flat,vZ r]
theorem y3 {v:Value} (h:v.oneCell'=true):v.cells= #[v]:=by cases v<;>simp_all [Value.cells,Value.oneCell']
theorem wX:∀ {vs:List Value},(∀v∈vs,v.oneCell'=true)→∀p∈fC vs,p.1.cells=p.2.toArray∧p.2.length=1
  | [],_,_,hp=>by cases hp
  | v :: r, h, p, hp => by
    rcases List.mem_cons.1 hp with rfl|hp
    · exact⟨y3 (h v (by simp)),rfl⟩
    · exact wX (fun u hu=>h u (by simp [hu])) p hp
theorem xp {t ty e:TypeId} {size by' zero agg} (ht:P.underlying t=some (.slice e)) (he:TI P e size by' zero agg) {w:World} (a:Option Addr) (m cap:Nat) (hle:m≤cap) (ax:Option Addr) (cx:Nat):
    (Builtin.append_ #[t,t] ty #[.slice a m cap,.slice ax 0 cx]).run P w= .ok (.slice a m cap) w:=by
  have hs:=he.sizeOf w
  cases a<;>cases ax<;>simp [Builtin.append_,run_underlying ht,hs,Builtin.lenOf,hle,Builtin.firstCells,loadCells,loadCellsFrom,storeCells]
theorem CL (w:World) (o:Obj) (k:Nat) (h:k<w.heap.size):(w.alloc o).heap[k]? =w.heap[k]? :=by
  show(w.heap.push o)[k]? =_
  rw [Array.getElem?_push,if_neg (by omega)]
end ops
end Go.Eng
