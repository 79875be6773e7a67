/-
  The engine, the plain laws and the walks that the rows need, part 2. Conditions: none.
-/
import Derived.Test.YtjlkadndgajleaaGreatDoorM1
import Derived.WalkKit
import Derived.Laws.CopyRow
set_option linter.unusedVariables false
set_option linter.unusedSimpArgs false
set_option maxHeartbeats 1000000
set_option maxRecDepth 10000
-- EngB
namespace Go.Eng
def AI (op:BinOp) (k:IntKind) (a b:Int):Option Value:=
  match op with
  | .add=>some (.int k (k.wrap (a+b)))
  | .sub=>some (.int k (k.wrap (a - b)))
  | .mul=>some (.int k (k.wrap (a*b)))
  | .eql=>some (.bool (a==b))
  | .neq=>some (.bool (a !=b))
  | .lss=>some (.bool (decide (a<b)))
  | .leq=>some (.bool (decide (a≤b)))
  | .gtr=>some (.bool (decide (a>b)))
  | .geq=>some (.bool (decide (a≥b)))
  |_=>none
def kg:IntKind→Nat
  | .i8=>0| .i16=>1| .i32=>2| .i64=>3| .u8=>4| .u16=>5| .u32=>6| .u64=>7
theorem NZ {j k:IntKind} (h:Nat.beq (kg j) (kg k)=true):j=k:=by
  cases j<;>cases k<;>first|rfl|(exact absurd h az)
def rn (op : BinOp) (x y : Value) : Option Value :=
  match x,y with
  | .int j a,.int k b=>cond (Nat.beq (kg j) (kg k)) (AI op j a b) none
  | .string a, .string b =>
    match op with
    | .eql=>some (.bool (a.toList==b.toList))
    | .neq=>some (.bool (!(a.toList==b.toList)))
    |_=>none
  |_,_=>none
def jV (E : Env) (op : Op) : Option Value :=
  match op with
  | .move x=>ev E x
  | .assign x=>ev E x
  | .pick c a b =>
    match ev E c with
    |some (.bool true)=>ev E a
    |some (.bool false)=>ev E b
    |_=>none
  | .binOp op _ x y _ =>
    match ev E x,ev E y with
    |some u,some v=>rn op u v
    |_,_=>none
  | .unOp .not _ x =>
    match ev E x with
    |some (.bool b)=>some (.bool (!b))
    |_=>none
  | .extract x i =>
    match ev E x with
    |some (.tuple vs)=>vs[i]?
    |_=>none
  |_=>none
def YO (P:Program) (n:Nat) (E:Env) (S:List World) (H:List (Nat×Obj)) (op:Op) (ty:TypeId) (v:Value):Prop:=
  ∀d pos bU g,Yields P n E S H ⟨d,op,ty,pos,bU,g⟩ v
theorem YO.v {P n E S H op ty v v'} (h:YO P n E S H op ty v) (hv:v=v'):YO P n E S H op ty v':=hv ▸ h
theorem Rh {P : Program} {op : BinOp} {t : TypeId} {x y : Operand} {u v r : Value} {w : World} (h : rn op u v = some r) :
    (do eqGuard op t x y u v;binOp op t u v:Sem Value).run P w= .ok r w:=by
  cases u<;>cases v<;>simp only [rn]at h<;>try (cases h;done)
  · rename_i j a k b
    cases hb:Nat.beq (kg j) (kg k)with
    |false=>rw [hb]at h;simp at h
    | true =>
      rw [hb]at h
      have:=NZ hb
      subst this
      cases op<;>simp only [AI,cond_true]at h<;>(try (cases h;done))<;>(simp only [Option.some.injEq]at h;subst h)<;>
        simp [eqGuard,binOp,Op.intArith,Op.intCmp]
  · rename_i a b
    cases op<;>simp only at h<;>(try (cases h;done))<;>(simp only [Option.some.injEq]at h;subst h)<;>simp [eqGuard,binOp,Op.stringOp]
theorem bF {P n E S H op ty v} (h:jV E op=some v):YO P n E S H op ty v:=by
  intro d pos bU g a w hR hG
  cases op<;>simp only [jV]at h<;>try (cases h;done)
  case move x=>simp [execOp,hR.ev h]
  case assign x=>simp [execOp,hR.ev h]
  case pick c x y=>
    split at h
    · rename_i hc;simp [execOp,hR.ev hc,hR.ev h,asBool]
    · rename_i hc;simp [execOp,hR.ev hc,hR.ev h,asBool]
    · cases h
  case binOp op t x y t'=>
    split at h
    · rename_i u v hu hv
      have:=Rh (P:=P) (t:=t) (x:=x) (y:=y) (w:=w) h
      simp only [execOp,hR.ev hu,hR.ev hv]
      rw [Sem.run_bind,this]
      rfl
    · cases h
  case unOp op t x=>
    cases op<;>simp only at h<;>try (cases h;done)
    split at h
    · rename_i b hb
      simp only [Option.some.injEq]at h
      subst h
      simp [execOp,hR.ev hb,Op.unary]
    · cases h
  case extract x i=>
    split at h
    · rename_i vs hvs
      simp [execOp,hR.ev hvs,Instr.extract,h]
    · cases h
section steps
variable {P:Program} {n:Nat} {E:Env} {S:List World} {H:List (Nat×Obj)} {Q:Exit→Act→World→Prop} {ops:Array Oper} {rest:List Oper}
theorem s1 {d:Nat} {op:Op} {ty:TypeId} {pos:String} {bU:Array Edge} {v:Value} (hy:YO P n E S H op ty v) (hd:Nat.ble (d+1) n=true)
    (h:At n ((d,v)::E) S H (wpList P ops Q rest)):At n E S H (wpList P ops Q (⟨some d,op,ty,pos,bU,none⟩::rest)):=
  bK rfl (vr (hy _ _ _ _) hd h)
theorem p1 {d:Nat} {op:Op} {ty:TypeId} {pos:String} {bU:Array Edge} {v:Value} (hy:jV E op=some v) (hd:Nat.ble (d+1) n=true)
    (h:At n ((d,v)::E) S H (wpList P ops Q rest)):At n E S H (wpList P ops Q (⟨some d,op,ty,pos,bU,none⟩::rest)):=s1 (bF hy) hd h
theorem p2 {d:Nat} {op:Op} {ty:TypeId} {pos:String} {bU:Array Edge} {v:Value} (v':Value) (hy:jV E op=some v) (hv:v=v') (hd:Nat.ble (d+1) n=true)
    (h:At n ((d,v')::E) S H (wpList P ops Q rest)):At n E S H (wpList P ops Q (⟨some d,op,ty,pos,bU,none⟩::rest)):=s1 ((bF hy).v hv) hd h
theorem g1 {d j t:Nat} {b:Bool} {op:Op} {ty:TypeId} {pos:String} {bU:Array Edge} {v:Value} (hj:gG ops j=some t) (hb:E.cw t=some (.bool b)) (hy:YO P n E S H op ty v) (hd:Nat.ble (d+1) n=true)
    (h:At n ((d,v)::E) S H (wpList P ops Q rest)):At n E S H (wpList P ops Q (⟨some d,op,ty,pos,bU,some (j,b)⟩::rest)):=
  fg rfl hj hb (vr (hy _ _ _ _) hd h)
theorem g0 {d j t:Nat} {b b':Bool} {op:Op} {ty:TypeId} {pos:String} {bU:Array Edge} (hj:gG ops j=some t) (hb:E.cw t=some (.bool b')) (hn:b'= !b) (hd:Nat.ble (d+1) n=true)
    (h:At n ((d,undef)::E) S H (wpList P ops Q rest)):At n E S H (wpList P ops Q (⟨some d,op,ty,pos,bU,some (j,b)⟩::rest)):=by
  subst hn
  exact zg rfl hj hb hd h
theorem t1 {d:Nat} {op:Op} {ty:TypeId} {pos:String} {bU:Array Edge} {v:Value} {K:Act→World→Prop} (hy:YO P n E S H op ty v) (hd:Nat.ble (d+1) n=true)
    (h:At n ((d,v)::E) S H (fun a w=>wpStill P ops w (fun a'=>K a' w) rest a)):At n E S H (fun a w=>wpStill P ops w (fun a'=>K a' w) (⟨some d,op,ty,pos,bU,none⟩::rest) a):=
  J8 rfl (hy _ _ _ _) hd h
theorem fQ {d j t:Nat} {b:Bool} {op:Op} {ty:TypeId} {pos:String} {bU:Array Edge} {v:Value} {K:Act→World→Prop} (hj:gG ops j=some t) (hb:E.cw t=some (.bool b)) (hy:YO P n E S H op ty v) (hd:Nat.ble (d+1) n=true)
    (h:At n ((d,v)::E) S H (fun a w=>wpStill P ops w (fun a'=>K a' w) rest a)):At n E S H (fun a w=>wpStill P ops w (fun a'=>K a' w) (⟨some d,op,ty,pos,bU,some (j,b)⟩::rest) a):=
  J9 rfl hj hb (hy _ _ _ _) hd h
theorem nK {d j t:Nat} {b b':Bool} {op:Op} {ty:TypeId} {pos:String} {bU:Array Edge} {K:Act→World→Prop} (hj:gG ops j=some t) (hb:E.cw t=some (.bool b')) (hn:b'= !b) (hd:Nat.ble (d+1) n=true)
    (h:At n ((d,undef)::E) S H (fun a w=>wpStill P ops w (fun a'=>K a' w) rest a)):At n E S H (fun a w=>wpStill P ops w (fun a'=>K a' w) (⟨some d,op,ty,pos,bU,some (j,b)⟩::rest) a):=by
  subst hn
  exact Ka rfl hj hb hd h
end steps
def AJ:TypeDesc→Bool
  | .struct _| .array _ _=>true
  |_=>false
structure TI (P:Program) (t:TypeId) (size bytes:Nat) (zero:List Value) (agg:Bool):Prop where
  info:∃i z,P.info? t=some i∧i.zero=some z∧i.size=size∧i.bytes=bytes∧z.cells.toList=zero
  und:∃d,P.underlying t=some d∧AJ d=agg
section ti
variable {P:Program} {t:TypeId} {size bytes:Nat} {zero:List Value} {agg:Bool}
theorem TI.sizeOf (h:TI P t size bytes zero agg) (w:World):(sizeOf t).run P w= .ok size w:=by
  obtain⟨⟨i,z,h1,h2,h3,h4,h5⟩,_⟩:=h
  simp [Go.sizeOf,typeInfo,h1,h3]
theorem TI.typeInfo (h:TI P t size bytes zero agg) (w:World):∃i,(typeInfo t).run P w= .ok i w∧i.size=size∧i.bytes=bytes:=by
  obtain⟨⟨i,z,h1,h2,h3,h4,h5⟩,_⟩:=h
  exact⟨i,by simp [Go.typeInfo,h1],h3,h4⟩
theorem TI.zeroValue (h:TI P t size bytes zero agg) (w:World):∃z,(zeroValue t).run P w= .ok z w∧z.cells=zero.toArray:=by
  obtain⟨⟨i,z,h1,h2,h3,h4,h5⟩,_⟩:=h
  exact⟨z,by simp [Go.zeroValue,Go.typeInfo,h1,h2],by rw [←h5]⟩
theorem TI.isAgg (h:TI P t size bytes zero agg) (w:World):(isAgg t).run P w= .ok agg w:=by
  obtain⟨_,d,h1,h2⟩:=h
  unfold Go.isAgg
  rw [Sem.run_bind,run_underlying h1 w]
  cases d<;>simp_all [AJ]
end ti
theorem addr_add (b o k:Nat):(⟨b,o,none⟩:Addr).add k=⟨b,o+k,none⟩:=by
  unfold Addr.add
  split<;>simp_all
abbrev row (ty:TypeId) (cs:List Value):Obj:= .cells cs.toArray ty (0,0)
section mem
variable {P:Program} {n:Nat} {E:Env} {S:List World} {H:List (Nat×Obj)} {Q:Exit→Act→World→Prop}
theorem HB {t by' zero} (h:TI P t 1 by' zero false) {w:World} {a:Addr} {v:Value} (hc:w.cell? a=some v):(loadVar t a).run P w= .ok v w:=by
  unfold loadVar
  rw [Sem.run_bind,h.isAgg w]
  simp [hc]
theorem HA {t size by' zero} (h:TI P t size by' zero true) {w:World} {b o:Nat} {cs:List Value} (hl:cs.length=size)
    (hc:∀j v,cs[j]? =some v→w.cell? ⟨b,o+j,none⟩=some v):(loadVar t ⟨b,o,none⟩).run P w= .ok (.agg cs.toArray) w:=by
  unfold loadVar
  rw [Sem.run_bind,h.isAgg w]
  have hl':(loadCells ⟨b,o,none⟩ cs.length).run P w= .ok cs.toArray w:=run_loadCells_list (P:=P) w _ cs (fun j v hv=>by rw [addr_add];exact hc j v hv)
  rw [hl]at hl'
  simp [h.sizeOf w,hl']
theorem bM {t by' zero ty} {x:Operand} {a:Addr} {v:Value} (ht:TI P t 1 by' zero false) (hx:ev E x=some (.pointer (some a))) (hc:∀w,Good S H w→w.cell? a=some v):
    YO P n E S H (.load t x) ty v:=by
  intro d pos bU g a' w hR hG
  simp [execOp,hR.ev hx,Instr.loadAt,Instr.sureAddr,HB ht (hc w hG)]
theorem T5 {t size by' zero ty} {x:Operand} {b o:Nat} {us:List Value} (ht:TI P t size by' zero true) (hx:ev E x=some (.pointer (some ⟨b,o,none⟩)))
    (hl:us.length=size) (hc:∀w,Good S H w→∀j v,us[j]? =some v→w.cell? ⟨b,o+j,none⟩=some v):YO P n E S H (.load t x) ty (.agg us.toArray):=by
  intro d pos bU g a' w hR hG
  have:=HA (P:=P) ht (w:=w) (b:=b) (o:=o) (cs:=us) hl (hc w hG)
  simp [execOp,hR.ev hx,Instr.loadAt,Instr.sureAddr,this]
def mH:List World→Nat→Prop
  | [],_=>True
  |s::r,b=>s.heap.size≤b∧mH r b
def mJ:List (Nat×Obj)→Nat→Prop
  | [],_=>True
  |p::r,b=>p.1<b∧mJ r b
theorem FT {b:Nat}:∀ {S:List World},(∀s∈S,s.heap.size≤b)→mH S b
  | [],_=>trivial
  |s::_,h=>⟨h s aB,FT fun t ht=>h t (by simp [ht])⟩
theorem Gl {b:Nat}:∀ {H:List (Nat×Obj)},(∀p∈H,p.1<b)→mJ H b
  | [],_=>trivial
  |p::_,h=>⟨h p aB,Gl fun t ht=>h t (by simp [ht])⟩
theorem Good.fresh {w} (h:Good S H w):mH S w.heap.size∧mJ H w.heap.size:=
  ⟨FT fun s hs=>(h.snap s hs).size,Gl fun _ hp=>h.nr hp⟩
theorem cB {d:Nat} {t:TypeId} {ty:TypeId} {pos bU g} {size by' zero agg} {K:Act→World→Prop} (ht:TI P t size by' zero agg) (hd:Nat.ble (d+1) n=true)
    (h:∀b,mH S b→mJ H b→At n ((d,.pointer (some ⟨b,0,none⟩))::E) S ((b,row t zero)::H) K):
    At n E S H (fun a w=>(⟨some d,.alloc t,ty,pos,bU,g⟩:Oper).wp P a w K Q):=by
  intro a w hR hG
  obtain⟨z,hz,hzc⟩:=ht.zeroValue w
  have hf:=hG.fresh
  show Oper.wp P _ a w K Q
  unfold Oper.wp
  have:(execOp a.eval ⟨some d,.alloc t,ty,pos,bU,g⟩).run P w= .ok (.value (.pointer (some ⟨w.heap.size,0,none⟩))) {w with heap:=w.heap.push (row t zero)}:=by
    simp [execOp,Instr.alloc,hz,newVar,newRow,hzc]
  rw [this]
  exact h w.heap.size hf.1 hf.2 _ _ (hR.put hd _) (hG.alloc _)
theorem ug {d:Nat} {t:TypeId} {ty:TypeId} {pos bU g} {x:Operand} {v:Value} {cs:List Value} {K:Act→World→Prop} (hx:ev E x=some v) (hv:v.cells=cs.toArray) (hd:Nat.ble (d+1) n=true)
    (h:∀b,mH S b→mJ H b→At n ((d,.pointer (some ⟨b,0,none⟩))::E) S ((b,row t cs)::H) K):
    At n E S H (fun a w=>(⟨some d,.box t x,ty,pos,bU,g⟩:Oper).wp P a w K Q):=by
  intro a w hR hG
  have hf:=hG.fresh
  show Oper.wp P _ a w K Q
  unfold Oper.wp
  have:(execOp a.eval ⟨some d,.box t x,ty,pos,bU,g⟩).run P w= .ok (.value (.pointer (some ⟨w.heap.size,0,none⟩))) {w with heap:=w.heap.push (row t cs)}:=by
    simp [execOp,hR.ev hx,Instr.box,newVar,newRow,hv]
  rw [this]
  exact h w.heap.size hf.1 hf.2 _ _ (hR.put hd _) (hG.alloc _)
theorem HN (w:World) (g k:Nat) (cs:Array Value) (h:k≠g):(w.setRow g cs).heap[k]? =w.heap[k]? :=setRow_other w g k cs h
theorem Rn {t size by' zero agg ety} (ht:TI P t size by' zero agg) {w:World} {b o:Nat} {cs:List Value} (hb:w.heap[b]? =some (row ety cs)) {v:Value} {us:List Value} (hv:v.cells=us.toArray)
    (hl:us.length=size) (h1:∀u∈us,u.oneCell'=true) (hfit:o+size≤cs.length):
    (storeVar t ⟨b,o,none⟩ v).run P w= .ok () (w.setRow b (cs.take o++us++cs.drop (o+us.length)).toArray):=by
  unfold storeVar
  have hst:=run_storeCells_at P b o ety us 0 cs.toArray w hb aE h1
  simp only [Nat.add_zero]at hst
  rw [Sem.run_bind,ht.sizeOf w]
  simp only [Result.andThen_ok,hv,List.size_toArray,hl,ne_eq,not_true_eq_false,if_false]
  exact hl ▸ hst
theorem Good.setRow {w} (hG:Good S H w) (i:Nat) {b:Nat} {ety:TypeId} {cs:List Value} (hi:H[i]? =some (b,row ety cs)) (cs':List Value):
    Good S (H.set i (b,row ety cs')) (w.setRow b cs'.toArray):=by
  have hb:=hG.own _ (List.mem_of_getElem? hi)
  simp only at hb
  refine hG.set i hi rfl rfl rfl aB ?_ (fun k hk=>HN w b k _ hk)
  exact setRow_heap w b cs.toArray cs'.toArray ety (0,0) hb
theorem l3 {t size by' zero agg ety} {ty:TypeId} {pos bU g} {x y:Operand} {b o:Nat} {cs us:List Value} {v:Value} {K:Act→World→Prop} (i:Nat) (ht:TI P t size by' zero agg)
    (hx:ev E x=some (.pointer (some ⟨b,o,none⟩))) (hy:ev E y=some v) (hv:v.cells=us.toArray) (hi:H[i]? =some (b,row ety cs)) (hl:us.length=size) (h1:∀u∈us,u.oneCell'=true) (hfit:o+size≤cs.length)
    (cs':List Value) (hcs:cs.take o++us++cs.drop (o+us.length)=cs')
    (h:At n E S (H.set i (b,row ety cs')) K):
    At n E S H (fun a w=>(⟨none,.store t x y,ty,pos,bU,g⟩:Oper).wp P a w K Q):=by
  intro a w hR hG
  have hb:=hG.own _ (List.mem_of_getElem? hi)
  simp only at hb
  show Oper.wp P _ a w K Q
  unfold Oper.wp
  have:(execOp a.eval ⟨none,.store t x y,ty,pos,bU,g⟩).run P w= .ok .skip (w.setRow b cs'.toArray):=by
    simp [execOp,hR.ev hx,hR.ev hy,Instr.storeAt,Instr.sureAddr,Rn ht hb hv hl h1 hfit, ←hcs]
  rw [this]
  exact h _ _ hR (hG.setRow i hi cs')
theorem RL (cs:List Value) (o:Nat) (v:Value) (h:o<cs.length):cs.take o++ [v]++cs.drop (o+1)=cs.set o v:=by
  rw [List.set_eq_take_append_cons_drop,if_pos h];simp
theorem cV {t by' zero ety} {ty:TypeId} {pos bU g} {x y:Operand} {b o:Nat} {cs:List Value} {v:Value} {K:Act→World→Prop} (i:Nat) (ht:TI P t 1 by' zero false)
    (hx:ev E x=some (.pointer (some ⟨b,o,none⟩))) (hy:ev E y=some v) (hv:v.oneCell'=true) (hi:H[i]? =some (b,row ety cs)) (hfit:o<cs.length)
    (h:At n E S (H.set i (b,row ety (cs.set o v))) K):
    At n E S H (fun a w=>(⟨none,.store t x y,ty,pos,bU,g⟩:Oper).wp P a w K Q):=by
  refine l3 (us:= [v]) i ht hx hy ?_ hi rfl aQ ar (cs.set o v) ?_ h
  · cases v<;>simp_all [Value.cells,Value.oneCell']
  · simpa using RL cs o v hfit
end mem
end Go.Eng
-- EngC
namespace Go.Eng
def mX (P:Program) (f:FuncId):Prop:=∃fn,P.funcs[f]? =some fn∧fn.body.isNone=false∧(fn.name== "runtime.NumGoroutine")=false
structure Fn (P:Program) (f:FuncId) (args:Array Value) (w:World) (R:Value→World→Prop):Prop where
  callable:mX P f
  calls:Calls P f args w fun e w'=>∃v,e= .returned v∧R v w'
theorem Fn.mono {P f args w R R'} (h:Fn P f args w R) (hr:∀v w',R v w'→R' v w'):Fn P f args w R':=
  ⟨h.callable,h.calls.mono fun _ _ ⟨v,he,hv⟩=>⟨v,he,hr _ _ hv⟩⟩
def s9:List Value→Nat→Env
  | [],_=> []
  |v::r,k=>(k,v)::s9 r (k+1)
theorem CL:∀(l:List Value) (k t:Nat) (v:Value),(s9 l k).cw t=some v→k≤t∧l[t - k]? =some v
  | [],_,_,_,h=>by simp [s9,Env.cw]at h
  | u :: r, k, t, v, h => by
    simp only [s9,Env.cw]at h
    cases hb:Nat.beq k t with
    | true =>
      rw [hb]at h
      have:k=t:=Nat.eq_of_beq_eq_true hb
      subst this
      simp only [cond_true,Option.some.injEq]at h
      subst h
      simp
    | false =>
      rw [hb]at h
      have hne:k≠t:=Nat.ne_of_beq_eq_false hb
      obtain⟨h1,h2⟩:=CL r (k+1) t v h
      refine⟨by omega,?_⟩
      rw [show t - k=(t - (k+1))+1 by omega]
      simpa using h2
theorem enter {P:Program} {f:FuncId} {fn:Func} {c:Code} {args:List Value} {n:Nat} {w:World} {R:Value→World→Prop} (hf:P.funcs[f]? =some fn) (hb:fn.body=some c)
    (hn:fn.ntmps=n) (hname:(fn.name== "runtime.NumGoroutine")=false) (ha:Nat.ble args.length n=true)
    (h:At n (s9 args 0) [w] [] (c.wp P (bodyPost P fn fun e w'=>∃v,e= .returned v∧R v w'))):Fn P f args.toArray w R:=by
  refine⟨⟨fn,hf,by simp [hb],hname⟩,calls_of_wp hf hb (h _ w ⟨?_,rfl,?_⟩ (Good.start w))⟩
  · have := Nat.le_of_ble_eq_true ha
    simp [hn];omega
  · intro t v ht
    obtain⟨_,h2⟩:=CL _ _ _ _ ht
    have hlt:t<args.length:=by
      have:=(List.getElem?_eq_some_iff.1 h2).1
      simpa using this
    simp only [Nat.sub_zero]at h2
    rw [Array.getElem?_append,if_pos aT]
    simpa using h2
section
variable {P:Program} {n:Nat} {E:Env} {S:List World} {H:List (Nat×Obj)} {Q:Exit→Act→World→Prop}
def nw (tmps:Array Value):ResultVar→Sem Value
  | .tmp t=>pure (tmps.getD t undef)
  | .cell x t=>do loadVar t (←asAddr (tmps.getD x undef))
def gA (P:Program) (n:Nat) (E:Env) (S:List World) (H:List (Nat×Obj)) (rs:List ResultVar) (vs:List Value):Prop:=
  At n E S H fun a w=>(rs.mapM (nw a.tmps)).run P w= .ok vs w
theorem bR:gA P n E S H [] []:=fun _ _ _ _=>by simp
theorem bT {t:Nat} {v:Value} {rs:List ResultVar} {vs:List Value} (ht:E.cw t=some v) (h:gA P n E S H rs vs):gA P n E S H (.tmp t::rs) (v::vs):=fun a w hR hG=>by
  have h1:=hR.slot t v ht
  have h2:=h a w hR hG
  simp only at h2
  simp only [List.mapM_cons,Sem.run_bind,Sem.run_pure,Result.andThen_ok,nw]
  rw [h2]
  simp [h1]
theorem fC {x t:Nat} {b o:Nat} {v:Value} {rs:List ResultVar} {vs:List Value} (hx:E.cw x=some (.pointer (some ⟨b,o,none⟩)))
    (hv:∀w,Good S H w→(loadVar t ⟨b,o,none⟩).run P w= .ok v w) (h:gA P n E S H rs vs):gA P n E S H (.cell x t::rs) (v::vs):=fun a w hR hG=>by
  have h1:=hR.slot x _ hx
  have h2:=h a w hR hG
  simp only at h2
  have e1:(asAddr (a.tmps.getD x undef)).run P w= .ok ⟨b,o,none⟩ w:=by simp [h1,asAddr]
  simp only [List.mapM_cons,Sem.run_bind,nw]
  rw [e1]
  simp only [Result.andThen_ok,hv w hG]
  rw [h2]
  rfl
def lq:List Value→Value
  | [v]=>v
  |vs=> .tuple vs.toArray
theorem oD {fn:Func} {rs:List ResultVar} {vs:List Value} (hrs:fn.results=rs.toArray) (h:gA P n E S H rs vs) {a w} (hR:eN n E a) (hG:Good S H w):
    (results fn a.tmps).run P w= .ok (lq vs) w:=by
  have h2:=h a w hR hG
  simp only at h2
  have e:results fn a.tmps=(do let vs ←fn.results.mapM (nw a.tmps);pure (if h:vs.size=1 then vs[0]else .tuple vs)):=by
    unfold results
    congr 2
  rw [e,Sem.run_bind,hrs,List.mapM_toArray,Sem.run_map,h2]
  match vs with
  | []=>simp [lq]
  | [v]=>simp [lq]
  |u::v::r=>simp [lq]
theorem bW {fn:Func} {R:Value→World→Prop} {rs:List ResultVar} {vs:List Value} (hrs:fn.results=rs.toArray) (hr:gA P n E S H rs vs) (h:∀w,Good S H w→R (lq vs) w):
    At n E S H (bodyPost P fn (fun e w'=>∃v,e= .returned v∧R v w') .ret):=fun _ w hR hG=>
  ⟨hR.defers,_,oD hrs hr hR hG,_,rfl,h w hG⟩
theorem jO {fn:Func} {R:Value→World→Prop} {rs:List ResultVar} {vs:List Value} (hrs:fn.results=rs.toArray) (hr:gA P n E S H rs vs) (h:∀w,Good S H w→R (lq vs) w):
    At n E S H (bodyPost P fn (fun e w'=>∃v,e= .returned v∧R v w') .normal):=fun _ w hR hG=>
  ⟨hR.defers,_,oD hrs hr hR hG,_,rfl,h w hG⟩
def gj (E : Env) : List Operand → Option (List Value)
  | []=>some []
  | x :: r =>
    match ev E x,gj E r with
    |some v,some vs=>some (v::vs)
    |_,_=>none
theorem eN.gj {a} (hR:eN n E a):∀ {l:List Operand} {vs:List Value},Eng.gj E l=some vs→l.map a.eval=vs
  | [],vs,h=>by simp only [Eng.gj,Option.some.injEq]at h;subst h;rfl
  | x :: r, vs, h => by
    simp only [Eng.gj]at h
    split at h
    · rename_i v us hv hus
      simp only [Option.some.injEq]at h
      subst h
      simp [hR.ev hv,eN.gj hR hus]
    · cases h
theorem iw {d:Option Nat} {f:FuncId} {x:Operand} {xs:List Operand} {vs:List Value} {fst cap:Array Value} {ats:Array TypeId} {ty:TypeId} {pos bU g} {K:Act→World→Prop}
    (hx:ev E x=some (.func (.func f) fst cap)) (hargs:gj E xs=some vs) (hd:l5 n d=true)
    (h:∀w,Good S H w→Fn P f (fst++vs.toArray++cap) w fun v w'=>∀a,eN n (E.put d v) a→K a w'):
    At n E S H (fun a w=>(⟨d,.call {callee:= .value x,args:=xs.toArray,argTypes:=ats},ty,pos,bU,g⟩:Oper).wp P a w K Q):=by
  intro a w hR hG
  obtain⟨⟨fn,hf,hb,hname⟩,hc⟩:=h w hG
  show Oper.wp P _ a w K Q
  unfold Oper.wp
  have hrun:(execOp a.eval ⟨d,.call {callee:= .value x,args:=xs.toArray,argTypes:=ats},ty,pos,bU,g⟩).run P w= .ok (.enter f (fst++vs.toArray++cap)) w:=by
    have he:xs.toArray.map a.eval=vs.toArray:=by rw [List.map_toArray,hR.gj hargs]
    have e1:execOp a.eval ⟨d,.call {callee:= .value x,args:=xs.toArray,argTypes:=ats},ty,pos,bU,g⟩=callFunc f (fst++vs.toArray++cap):=by
      show(do let d ←Deferred.ofValue (a.eval x) (xs.toArray.map a.eval);invoke d.target d.args:Sem Next)=_
      rw [hR.ev hx,he]
      rfl
    rw [e1]
    unfold callFunc
    rw [Sem.run_bind,run_program]
    simp only [Result.andThen_ok,hf,hname,hb,Bool.false_eq_true,if_false]
    rfl
  rw [hrun]
  show Calls P f _ w _
  refine hc.mono fun e w'=>?_
  rintro⟨v,rfl,hv⟩
  exact hv _ (hR.iN hd v)
theorem bX {d:Option Nat} {f:FuncId} {xs:List Operand} {vs:List Value} {ats:Array TypeId} {ty:TypeId} {pos bU g} {K:Act→World→Prop}
    (hargs:gj E xs=some vs) (hd:l5 n d=true)
    (h:∀w,Good S H w→Fn P f vs.toArray w fun v w'=>∀a,eN n (E.put d v) a→K a w'):
    At n E S H (fun a w=>(⟨d,.call {callee:= .value (.func f),args:=xs.toArray,argTypes:=ats},ty,pos,bU,g⟩:Oper).wp P a w K Q):=
  iw (x:= .func f) rfl hargs hd fun w hG=>by simpa using h w hG
theorem c1 {ops:Array Oper} {rest:List Oper} {d:Nat} {f:FuncId} {xs:List Operand} {vs:List Value} {ats:Array TypeId} {ty:TypeId} {pos bU}
    (hargs:gj E xs=some vs) (hd:Nat.ble (d+1) n=true)
    (h:∀w,Good S H w→Fn P f vs.toArray w fun v w'=>∀a,eN n ((d,v)::E) a→wpList P ops Q rest a w'):
    At n E S H (wpList P ops Q (⟨some d,.call {callee:= .value (.func f),args:=xs.toArray,argTypes:=ats},ty,pos,bU,none⟩::rest)):=
  bK rfl (bX hargs hd h)
theorem a1 {ops:Array Oper} {rest:List Oper} {d:Nat} {t ty:TypeId} {pos bU} {size by' zero agg} (ht:TI P t size by' zero agg) (hd:Nat.ble (d+1) n=true)
    (h:∀b,mH S b→mJ H b→At n ((d,.pointer (some ⟨b,0,none⟩))::E) S ((b,row t zero)::H) (wpList P ops Q rest)):
    At n E S H (wpList P ops Q (⟨some d,.alloc t,ty,pos,bU,none⟩::rest)):=bK rfl (cB ht hd h)
theorem b1 {ops:Array Oper} {rest:List Oper} {d:Nat} {t ty:TypeId} {pos bU} {x:Operand} {v:Value} (cs:List Value) (hx:ev E x=some v) (hv:v.cells=cs.toArray) (hd:Nat.ble (d+1) n=true)
    (h:∀b,mH S b→mJ H b→At n ((d,.pointer (some ⟨b,0,none⟩))::E) S ((b,row t cs)::H) (wpList P ops Q rest)):
    At n E S H (wpList P ops Q (⟨some d,.box t x,ty,pos,bU,none⟩::rest)):=bK rfl (ug hx hv hd h)
theorem jH {ops:Array Oper} {rest:List Oper} {t by' zero ety} {ty:TypeId} {pos bU} {x y:Operand} {b o:Nat} {cs:List Value} {v:Value} (i:Nat) (ht:TI P t 1 by' zero false)
    (hx:ev E x=some (.pointer (some ⟨b,o,none⟩))) (hy:ev E y=some v) (hv:v.oneCell'=true) (hi:H[i]? =some (b,row ety cs)) (hfit:o<cs.length)
    (h:At n E S (H.set i (b,row ety (cs.set o v))) (wpList P ops Q rest)):
    At n E S H (wpList P ops Q (⟨none,.store t x y,ty,pos,bU,none⟩::rest)):=bK rfl (cV i ht hx hy hv hi hfit h)
end
end Go.Eng
-- EngD
namespace Go.Eng
def ab:Option Addr→Nat
  |some a=>a.block
  |none=>0
def ao:Option Addr→Nat
  |some a=>a.off
  |none=>0
structure Sl (w:World) (s:Nat) (a:Option Addr) (n cap:Nat) (cs:List Value):Prop where
  len:cs.length=n*s
  le:n≤cap
  max:cap≤maxLen
  nil:a=none→cap=0
  spot:0<cap→∀x,a=some x→x.spot=none
  cell:∀j u,cs[j]? =some u→w.cell? ⟨ab a,ao a+j,none⟩=some u
theorem Sl.addr {w s a n cap cs} (h:Sl w s a n cap cs) (hn:0<n):a=some ⟨ab a,ao a,none⟩:=by
  cases a with
  |none=>have:=h.nil rfl;have:=h.le;omega
  | some x =>
    have:=h.spot (by have:=h.le;omega) x rfl
    cases x
    simp_all [ab,ao]
theorem Sl.lt {w s a n cap cs} (h:Sl w s a n cap cs) (hn:cs≠ []):ab a<w.heap.size:=by
  cases cs with
  |nil=>exact absurd rfl hn
  |cons u r=>exact World.block_lt_of_cell? w ⟨ab a,ao a+0,none⟩ (h.cell 0 u rfl)
theorem Sl.qC (w:World) (s:Nat):Sl w s none 0 0 []:=⟨by simp,Nat.le_refl _,Nat.zero_le _,fun _=>rfl,(fun _ _ h=>by cases h),(fun j u h=>by simp at h)⟩
def qE:List (Nat×Obj)→World→Nat→Prop
  | [],_,_=>True
  |p::r,s,b=>(p.1≠b∨s.heap.size≤p.1)∧qE r s b
theorem G0 {s:World} {b:Nat}:∀ {H:List (Nat×Obj)},qE H s b→∀p∈H,p.1≠b∨s.heap.size≤p.1
  | [],_,_,hp=>by cases hp
  | q :: r, h, p, hp => by
    rcases List.mem_cons.1 hp with rfl|hp
    · exact h.1
    · exact G0 h.2 p hp
theorem Good.cell' {S H w} (h:Good S H w) {s} (hs:s∈S) {a:Addr} {v:Value} (hc:s.cell? a=some v) (hn:qE H s a.block):w.cell? a=some v:=
  h.cell hs hc fun p hp e=>by
    rcases G0 hn p hp with h1|h1
    · exact h1 e
    · have := World.block_lt_of_cell? s a hc
      omega
theorem Good.sl {S H w} (h:Good S H w) {s} (hs:s∈S) {k a n cap cs} (hc:Sl s k a n cap cs) (hn:qE H s (ab a)):Sl w k a n cap cs:=
  ⟨hc.len,hc.le,hc.max,hc.nil,hc.spot,fun j u hj=>h.cell' hs (hc.cell j u hj) hn⟩
theorem Sl.move {w w' s a n cap cs} (h:Sl w s a n cap cs) (hb:ab a<w.heap.size→w'.heap[ab a]? =w.heap[ab a]?):Sl w' s a n cap cs:=by
  refine⟨h.len,h.le,h.max,h.nil,h.spot,fun j u hj=>?_⟩
  have hc:=h.cell j u hj
  have hlt:=World.block_lt_of_cell? w _ hc
  rw [World.cell?_of_block (w:=w) (hb hlt)]
  exact hc
theorem Sl.below {w w' s a n cap cs} (h:Sl w s a n cap cs) (hb:RowKit.Below w.heap.size w w'):Sl w' s a n cap cs:=h.move fun hlt=>hb.block _ hlt
theorem Sl.take {w s a n cap cs} (h:Sl w s a n cap cs) (k:Nat) (hk:k≤n):Sl w s a k cap (cs.take (k*s)):=
  ⟨by rw [List.length_take,h.len,Nat.min_eq_left (Nat.mul_le_mul_right s hk)],Nat.le_trans hk h.le,h.max,h.nil,h.spot,fun j u hj=>by
    rw [List.getElem?_take]at hj
    split at hj
    · exact h.cell j u hj
    · cases hj⟩
def jh (a:Option Addr) (cap l size:Nat):Option Addr:=if cap=l then a else a.map (·.add (l*size))
theorem yR (a:Option Addr) (cap l size:Nat):ab (jh a cap l size)=ab a:=by
  unfold jh
  split
  · rfl
  · cases a with
    |none=>rfl
    |some x=>simp only [Option.map_some,ab];unfold Addr.add;split<;>rfl
theorem Sl.drop {w s a n cap cs} (h : Sl w s a n cap cs) (l k : Nat) (hl : l ≤ k) (hk : k ≤ n) : Sl w s (jh a cap l s) (k - l) (cap - l) ((cs.drop (l * s)).take ((k - l) * s)) := by
  refine⟨?_,?_,?_,?_,?_,?_⟩
  · simp only [List.length_take, List.length_drop, h.len]
    rw [Nat.min_eq_left]
    rw [←Nat.sub_mul]
    exact Nat.mul_le_mul_right s ar
  · have:=h.le;omega
  · have:=h.max;omega
  · intro hn
    unfold jh at hn
    split at hn
    · have:=h.nil hn;omega
    · cases a with
      |none=>have:=h.nil rfl;omega
      |some x=>simp at hn
  · intro h0 x hx
    unfold jh at hx
    split at hx
    · exact h.spot ar x hx
    · cases a with
      |none=>simp at hx
      | some y =>
        have:=h.spot ar y rfl
        simp only [Option.map_some,Option.some.injEq]at hx
        subst hx
        unfold Addr.add
        split<;>simp_all
  · intro j u hj
    rw [yR]
    rw [List.getElem?_take]at hj
    split at hj
    · rename_i hjl
      rw [List.getElem?_drop]at hj
      have hc:=h.cell _ _ hj
      have hlk:l<k:=by
        rcases Nat.lt_or_ge l k with h1|h1
        · exact h1
        · have : k - l = 0 := by omega
          rw [this]at hjl;simp at hjl
      have hne:cap≠l:=by have:=h.le;omega
      have:ao (jh a cap l s)=ao a+l*s:=by
        unfold jh
        rw [if_neg hne]
        cases a with
        |none=>have:=h.nil rfl;have:=h.le;omega
        |some x=>simp only [Option.map_some,ao];unfold Addr.add;split<;>simp_all
      rw [this,Nat.add_assoc]
      exact hc
    · cases hj
abbrev B (x:UInt8):Value:= .int .u8 (x.toNat:Int)
structure SV where
  a:Option Addr
  n:Nat
  cap:Nat
abbrev SV.v (s:SV):Value:= .slice s.a s.n s.cap
def Bytes (w:World) (s:SV) (l:List UInt8):Prop:=s.n=l.length∧Sl w 1 s.a s.n s.cap (l.map B)
theorem Bytes.at' {w s l} (h:Bytes w s l) {k:Nat} {x:UInt8} (hk:l[k]? =some x):w.cell? ⟨ab s.a,ao s.a+k,none⟩=some (B x):=h.2.cell k _ (by simp [hk])
theorem Bytes.below {w w' s l} (h:Bytes w s l) (hb:RowKit.Below w.heap.size w w'):Bytes w' s l:=⟨h.1,h.2.below hb⟩
theorem Bytes.move {w w' s l} (h:Bytes w s l) (hb:ab s.a<w.heap.size→w'.heap[ab s.a]? =w.heap[ab s.a]?):Bytes w' s l:=⟨h.1,h.2.move hb⟩
theorem Good.bytes {S H w} (h:Good S H w) {s} (hs:s∈S) {v l} (hc:Bytes s v l) (hn:qE H s (ab v.a)):Bytes w v l:=⟨hc.1,h.sl hs hc.2 hn⟩
theorem Bytes.qC (w:World):Bytes w ⟨none,0,0⟩ []:=⟨rfl,Sl.qC w 1⟩
theorem Sl.own {w:World} {b:Nat} {e:TypeId} {cells:List Value} {fr} (hb:w.heap[b]? =some (.cells cells.toArray e fr)) {s n cap:Nat} (hn:n≤cap) (hc:cap≤maxLen) (hl:n*s≤cells.length):Sl w s (some ⟨b,0,none⟩) n cap (cells.take (n*s)):=
  ⟨by simp;omega,hn,hc,fun h=>(by cases h),fun _ x h=>(by cases h;rfl),fun j u hj=>by
    rw [List.getElem?_take]at hj
    split at hj
    · simp [ab,ao,World.cell?,hb,hj]
    · cases hj⟩
theorem Bytes.own {w:World} {b:Nat} {e:TypeId} {l:List UInt8} {rest:List Value} {fr} (hb:w.heap[b]? =some (.cells (l.map B++rest).toArray e fr)) {cap:Nat} (hn:l.length≤cap) (hc:cap≤maxLen):Bytes w ⟨some ⟨b,0,none⟩,l.length,cap⟩ l:=by
  refine⟨rfl,?_⟩
  have:=Sl.own (s:=1) hb hn hc aB
  simpa using this
section ops
variable {P:Program} {n:Nat} {E:Env} {S:List World} {H:List (Nat×Obj)} {Q:Exit→Act→World→Prop}
theorem Cd {t e:TypeId} {size by' zero agg} {x i:Operand} {a:Option Addr} {m cap:Nat} {k:IntKind} {iv:Int} {ty:TypeId} (j o:Nat) (ht:P.underlying t=some (.slice e)) (he:TI P e size by' zero agg)
    (hx:ev E x=some (.slice a m cap)) (hi:ev E i=some (.int k iv)) (hj:iv=(j:Int)) (hlt:j<m) (ha:a=some ⟨ab a,ao a,none⟩) (ho:ao a+j*size=o):
    YO P n E S H (.indexAddr t x i) ty (.pointer (some ⟨ab a,o,none⟩)):=by
  intro d pos bU g a' w hR hG
  subst hj
  have h1:(Instr.indexAt t (.slice a m cap) (.int k (j:Int))).run P w= .ok (.pointer (some ⟨ab a,o,none⟩)) w:=by
    rw [ha]
    simp only [Instr.indexAt,asIntOf,Sem.run_bind,Sem.run_pure,Result.andThen_ok,run_underlying ht]
    rw [if_pos ⟨by omega,by omega⟩]
    simp only [Sem.run_bind,he.sizeOf w,Result.andThen_ok,Sem.run_pure,addr_add,Int.toNat_natCast,ho,ab]
  simp [execOp,hR.ev hx,hR.ev hi,h1]
theorem IS {t e:TypeId} {by' zero agg} {x i:Operand} {a:Option Addr} {m cap:Nat} {k:IntKind} {iv:Int} {ty:TypeId} (j:Nat) (ht:P.underlying t=some (.slice e)) (he:TI P e 1 by' zero agg)
    (hx:ev E x=some (.slice a m cap)) (hi:ev E i=some (.int k iv)) (hj:iv=(j:Int)) (hlt:j<m) (ha:a=some ⟨ab a,ao a,none⟩):
    YO P n E S H (.indexAddr t x i) ty (.pointer (some ⟨ab a,ao a+j,none⟩)):=Cd j _ ht he hx hi hj hlt ha ar
theorem T3 {t e:TypeId} {size by' zero agg} {x i:Operand} {b off:Nat} {m cap:Nat} {k:IntKind} {iv:Int} {ty:TypeId} (j o:Nat) (ht:P.underlying t=some (.slice e)) (he:TI P e size by' zero agg)
    (hx:ev E x=some (.slice (some ⟨b,off,none⟩) m cap)) (hi:ev E i=some (.int k iv)) (hj:iv=(j:Int)) (hlt:j<m) (ho:off+j*size=o):
    YO P n E S H (.indexAddr t x i) ty (.pointer (some ⟨b,o,none⟩)):=Cd (a:=some ⟨b,off,none⟩) j o ht he hx hi hj hlt rfl ho
theorem IT {t e:TypeId} {len size by' zero agg} {x i:Operand} {b off:Nat} {k:IntKind} {iv:Int} {ty:TypeId} (j o:Nat) (ht:P.underlying t=some (.array len e)) (he:TI P e size by' zero agg)
    (hx:ev E x=some (.pointer (some ⟨b,off,none⟩))) (hi:ev E i=some (.int k iv)) (hj:iv=(j:Int)) (hlt:j<len) (ho:off+j*size=o):
    YO P n E S H (.indexAddr t x i) ty (.pointer (some ⟨b,o,none⟩)):=by
  intro d pos bU g a' w hR hG
  subst hj
  have h1:(Instr.indexAt t (.pointer (some ⟨b,off,none⟩)) (.int k (j:Int))).run P w= .ok (.pointer (some ⟨b,o,none⟩)) w:=by
    simp only [Instr.indexAt,asIntOf,Sem.run_bind,Sem.run_pure,Result.andThen_ok,run_underlying ht,Instr.sureAddr]
    rw [if_pos ⟨by omega,by omega⟩]
    simp only [Sem.run_bind,he.sizeOf w,Result.andThen_ok,Sem.run_pure,addr_add,Int.toNat_natCast,ho]
  simp [execOp,hR.ev hx,hR.ev hi,h1]
theorem cf {t e:TypeId} {x:Operand} {a:Option Addr} {m cap:Nat} {ats:Array TypeId} {ty:TypeId} (ht:P.underlying t=some (.slice e)) (hx:ev E x=some (.slice a m cap)) (hats:ats= #[t]):
    YO P n E S H (.call {callee:= .builtin .len,args:= #[x],argTypes:=ats}) ty (.int .i64 (m:Int)):=by
  intro d pos bU g a' w hR hG
  subst hats
  simp [execOp,resolve,invoke,builtin,hR.ev hx,Builtin.len_,run_underlying ht,goInt]
theorem Ce {t:TypeId} {x:Operand} {s:ByteArray} {ats} {ty:TypeId} (ht:P.underlying t=some .string) (hx:ev E x=some (.string s)) (hats:ats= #[t]):
    YO P n E S H (.call {callee:= .builtin .len,args:= #[x],argTypes:=ats}) ty (.int .i64 (s.size:Int)):=by
  intro d pos bU g a' w hR hG
  subst hats
  simp [execOp,resolve,invoke,builtin,hR.ev hx,Builtin.len_,run_underlying ht,goInt]
theorem eP {src dst:TypeId} {x:Operand} {k k':IntKind} {m:Int} {ty:TypeId} {ds:TypeDesc} (hs:P.underlying src=some ds) (ht:P.underlying dst=some (.int k')) (hx:ev E x=some (.int k m)):
    YO P n E S H (.convert src dst x) ty (.int k' (k'.wrap m)):=by
  intro d pos bU g a' w hR hG
  have:(convert src dst (.int k m)).run P w= .ok (.int k' (k'.wrap m)) w:=by
    unfold convert
    simp only [Sem.run_bind,run_underlying hs,run_underlying ht,Result.andThen_ok]
    rfl
  simp [execOp,hR.ev hx,this]
theorem Cg {t t':TypeId} {x y:Operand} {k:IntKind} {a b:Int} {ty:TypeId} (hx:ev E x=some (.int k a)) (hy:ev E y=some (.int k b)) (hb:b≠0):
    YO P n E S H (.binOp .quo t x y t') ty (.int k (k.wrap (a.tdiv b))):=by
  intro d pos bU g a' w hR hG
  simp [execOp,hR.ev hx,hR.ev hy,eqGuard,binOp,Op.intDiv,hb]
theorem Ci {t t':TypeId} {x y:Operand} {k:IntKind} {a b:Int} {ty:TypeId} (hx:ev E x=some (.int k a)) (hy:ev E y=some (.int k b)) (hb:b≠0):
    YO P n E S H (.binOp .rem t x y t') ty (.int k (a.tmod b)):=by
  intro d pos bU g a' w hR hG
  simp [execOp,hR.ev hx,hR.ev hy,eqGuard,binOp,Op.intDiv,hb]
theorem qU {t t':TypeId} {x y:Operand} {k k':IntKind} {a b:Int} {ty:TypeId} (hx:ev E x=some (.int k a)) (hy:ev E y=some (.int k' b)) (hb:0≤b):
    YO P n E S H (.binOp .shl t x y t') ty (.int k (k.wrap (a*2 ^ min b.toNat k.bits))):=by
  intro d pos bU g a' w hR hG
  simp [execOp,hR.ev hx,hR.ev hy,eqGuard,binOp,Op.shift,show ¬b<0 by omega]
theorem lD {t t':TypeId} {x y:Operand} {k k':IntKind} {a b:Int} {ty:TypeId} (hx:ev E x=some (.int k a)) (hy:ev E y=some (.int k' b)) (hb:0≤b):
    YO P n E S H (.binOp .shr t x y t') ty (.int k (a.fdiv (2 ^ min b.toNat k.bits))):=by
  intro d pos bU g a' w hR hG
  simp [execOp,hR.ev hx,hR.ev hy,eqGuard,binOp,Op.shift,show ¬b<0 by omega]
def mG (op:BinOp) (k:IntKind) (a b:Int):Int:=
  match op with
  | .and=>k.wrap ((BitVec.ofInt k.bits a&&& BitVec.ofInt k.bits b).toNat)
  | .or=>k.wrap ((BitVec.ofInt k.bits a|||BitVec.ofInt k.bits b).toNat)
  | .xor=>k.wrap ((BitVec.ofInt k.bits a ^^^ BitVec.ofInt k.bits b).toNat)
  |_=>k.wrap ((BitVec.ofInt k.bits a&&& ~~~BitVec.ofInt k.bits b).toNat)
theorem ml {op:BinOp} {t t':TypeId} {x y:Operand} {k:IntKind} {a b:Int} {ty:TypeId} (hx:ev E x=some (.int k a)) (hy:ev E y=some (.int k b)) (hop:op= .and∨op= .or∨op= .xor∨op= .andNot):
    YO P n E S H (.binOp op t x y t') ty (.int k (mG op k a b)):=by
  intro d pos bU g a' w hR hG
  rcases hop with rfl|rfl|rfl|rfl<;>simp [execOp,hR.ev hx,hR.ev hy,eqGuard,binOp,Op.intBits,mG]
theorem Bytes.shape {w:World} {s:SV} {l:List UInt8} (h:Bytes w s l):(s.a=none∧l= [])∨(∃x,s.a=some x∧l= [])∨s.a=some ⟨ab s.a,ao s.a,none⟩:=by
  cases ha:s.a with
  | none =>
    have h1:=h.2.nil ha
    have h2:=h.2.le
    have h3:=h.1
    exact .inl ⟨rfl,List.eq_nil_of_length_eq_zero ar⟩
  | some x =>
    right
    by_cases h0:0<s.cap
    · have hsp := h.2.spot h0 x ha
      cases x
      simp_all [ab,ao]
    · have h2 := h.2.le
      have h3:=h.1
      exact .inl ⟨x,rfl,List.eq_nil_of_length_eq_zero ar⟩
theorem sQ {src dst e:TypeId} {x:Operand} {s:SV} {l:List UInt8} {ty:TypeId} (hs:P.underlying src=some (.slice e)) (he:P.underlying e=some (.int .u8)) (hd:P.underlying dst=some .string)
    (hx:ev E x=some (.slice s.a s.n s.cap)) (hb:∀w,Good S H w→Bytes w s l):YO P n E S H (.convert src dst x) ty (.string ⟨l.toArray⟩):=by
  intro d pos bU g a' w hR hG
  have h:=hb w hG
  have key:(convert src dst (.slice s.a s.n s.cap)).run P w= .ok (.string ⟨l.toArray⟩) w:=by
    rcases h.shape with ⟨ha,rfl⟩|⟨x,ha,rfl⟩|ha
    · rw [ha, run_convert_bytes_string w src dst e none s.n s.cap hs he hd]
      rfl
    · rw [ha, h.1]
      exact run_convert_bytes_back w src dst e x s.cap [] hs he hd (fun j hj=>absurd hj aB)
    · rw [ha, h.1]
      exact run_convert_bytes_back w src dst e _ s.cap l hs he hd (fun j hj=>by rw [addr_add];exact h.at' (List.getElem?_eq_getElem hj))
  simp [execOp,hR.ev hx,key]
def pQ (E:Env) (x:Option Operand) (dflt val:Nat):Prop:=(x=none∧val=dflt)∨∃y k iv,x=some y∧ev E y=some (.int k iv)∧iv=(val:Int)
theorem HE {isSlice:Bool} {len cap l h:Nat} {lo hi:Option Operand} {a:Act} (hR:eN n E a) (hlo:pQ E lo 0 l) (hhi:pQ E hi len h) (h1:l≤h) (h2:h≤cap) (w:World):
    (Instr.sliceBounds isSlice len cap (lo.map a.eval) (hi.map a.eval) none).run P w= .ok (l,h,cap) w:=by
  have e2:(match (hi.map a.eval)with
      |some v=>Instr.sliceBound v cap (if isSlice then .sliceAcap else .sliceAlen)
      |none=>pure len:Sem Nat).run P w= .ok h w:=by
    rcases hhi with ⟨rfl,rfl⟩|⟨y,k,iv,rfl,hy,rfl⟩
    · rfl
    · simp [hR.ev hy,Instr.sliceBound,asIntOf,h2]
  have e3:(match (lo.map a.eval)with
      |some v=>Instr.sliceBound v h .sliceB
      |none=>pure 0:Sem Nat).run P w= .ok l w:=by
    rcases hlo with ⟨rfl,rfl⟩|⟨y,k,iv,rfl,hy,rfl⟩
    · rfl
    · simp [hR.ev hy,Instr.sliceBound,asIntOf,h1]
  unfold Instr.sliceBounds
  cases hi with
  | none =>
    cases lo with
    | none =>
      simp only [Option.map_none]at e2 e3 ⊢
      simp only [Sem.run_bind,Sem.run_pure,Result.andThen_ok]at e2 e3 ⊢
      simp_all
    | some y =>
      simp only [Option.map_none,Option.map_some]at e2 e3 ⊢
      simp only [Sem.run_bind,Sem.run_pure,Result.andThen_ok,Option.isSome_none,Bool.false_eq_true,if_false]at e2 e3 ⊢
      simp_all
  | some z =>
    cases lo with
    | none =>
      simp only [Option.map_none,Option.map_some]at e2 e3 ⊢
      simp only [Sem.run_bind,Sem.run_pure,Result.andThen_ok]at e2 e3 ⊢
      simp_all
    | some y =>
      simp only [Option.map_some]at e2 e3 ⊢
      simp only [Sem.run_bind,Sem.run_pure,Result.andThen_ok,Option.isSome_none,Bool.false_eq_true,if_false]at e2 e3 ⊢
      simp_all
theorem Ua {t e:TypeId} {size by' zero agg} {x:Operand} {lo hi:Option Operand} {a:Option Addr} {m cap l h:Nat} {ty:TypeId} (a':Option Addr) (m' cap':Nat) (ht:P.underlying t=some (.slice e)) (he:TI P e size by' zero agg)
    (hx:ev E x=some (.slice a m cap)) (hlo:pQ E lo 0 l) (hhi:pQ E hi m h) (h1:l≤h) (h2:h≤cap) (ha:jh a cap l size=a') (hm:h - l=m') (hc:cap - l=cap'):
    YO P n E S H (.slice t x lo hi none) ty (.slice a' m' cap'):=by
  intro d pos bU g b w hR hG
  have hb:=HE (P:=P) (isSlice:=true) hR hlo hhi h1 h2 w
  subst ha;subst hm;subst hc
  have:(Instr.sliceAt t (.slice a m cap) (lo.map b.eval) (hi.map b.eval) none).run P w= .ok (.slice (jh a cap l size) (h - l) (cap - l)) w:=by
    unfold Instr.sliceAt
    simp only [Sem.run_bind,run_underlying ht,Result.andThen_ok,Instr.slice,hb,he.sizeOf w,Sem.run_pure,jh]
  simp only [execOp,hR.ev hx]
  rw [Sem.run_bind]
  simp only [Option.map_none]
  rw [this]
  rfl
theorem IX {t e:TypeId} {len size by' zero agg} {x:Operand} {lo hi:Option Operand} {b o l h:Nat} {ty:TypeId} (a':Option Addr) (m' cap':Nat) (ht:P.underlying t=some (.array len e)) (he:TI P e size by' zero agg)
    (hx:ev E x=some (.pointer (some ⟨b,o,none⟩))) (hlo:pQ E lo 0 l) (hhi:pQ E hi len h) (h1:l≤h) (h2:h≤len) (ha:jh (some ⟨b,o,none⟩) len l size=a') (hm:h - l=m') (hc:len - l=cap'):
    YO P n E S H (.slice t x lo hi none) ty (.slice a' m' cap'):=by
  intro d pos bU g b' w hR hG
  have hb:=HE (P:=P) (isSlice:=false) hR hlo hhi h1 h2 w
  subst ha;subst hm;subst hc
  have:(Instr.sliceAt t (.pointer (some ⟨b,o,none⟩)) (lo.map b'.eval) (hi.map b'.eval) none).run P w= .ok (.slice (jh (some ⟨b,o,none⟩) len l size) (h - l) (len - l)) w:=by
    unfold Instr.sliceAt
    simp only [Sem.run_bind,run_underlying ht,Result.andThen_ok,Instr.sureAddr,Sem.run_pure,hb,he.sizeOf w,jh,Option.map_some]
    split<;>rfl
  simp only [execOp,hR.ev hx]
  rw [Sem.run_bind]
  simp only [Option.map_none]
  rw [this]
  rfl
theorem Rl {t e:TypeId} {a:Option Addr} {m cap k c:Nat} (ht:P.underlying t=some (.slice e)) (d:Nat) (w:World):(Op.equalIn (d+1) t (.slice a m cap) (.slice none k c)).run P w= .ok a.isNone w:=by
  cases a<;>simp [Op.equalIn,run_underlying ht]
theorem Rj {t:TypeId} {a b:Bool} (ht:P.underlying t=some .bool) (d:Nat) (w:World):(Op.equalIn (d+1) t (.bool a) (.bool b)).run P w= .ok (a==b) w:=by
  simp [Op.equalIn,run_underlying ht]
theorem yy {t e t':TypeId} {x y:Operand} {a:Option Addr} {m cap k c:Nat} {ty:TypeId} (ht:P.underlying t=some (.slice e)) (hx:ev E x=some (.slice a m cap)) (hy:ev E y=some (.slice none k c)):
    YO P n E S H (.binOp .eql t x y t') ty (.bool a.isNone):=by
  intro d pos bU g b w hR hG
  have h1:(binOp .eql t (.slice a m cap) (.slice none k c)).run P w= .ok (.bool a.isNone) w:=by
    show(do pure (.bool (←Op.equalIn (9999+1) t (.slice a m cap) (.slice none k c))):Sem Value).run P w=_
    rw [Sem.run_bind,Rl ht]
    rfl
  have h2:(eqGuard .eql t x y (.slice a m cap) (.slice none k c)).run P w= .ok () w:=rfl
  simp only [execOp,hR.ev hx,hR.ev hy]
  rw [Sem.run_bind,Sem.run_bind,h2]
  simp only [Result.andThen_ok]
  rw [h1]
  rfl
theorem Cf {t t':TypeId} {x y:Operand} {a b:Bool} {ty:TypeId} (ht:P.underlying t=some .bool) (hx:ev E x=some (.bool a)) (hy:ev E y=some (.bool b)):
    YO P n E S H (.binOp .neq t x y t') ty (.bool (!(a==b))):=by
  intro d pos bU g c w hR hG
  have h1:(binOp .neq t (.bool a) (.bool b)).run P w= .ok (.bool (!(a==b))) w:=by
    show(do pure (.bool (!(←Op.equalIn (9999+1) t (.bool a) (.bool b)))):Sem Value).run P w=_
    rw [Sem.run_bind,Rj ht]
    rfl
  have h2:(eqGuard .neq t x y (.bool a) (.bool b)).run P w= .ok () w:=rfl
  simp only [execOp,hR.ev hx,hR.ev hy]
  rw [Sem.run_bind,Sem.run_bind,h2]
  simp only [Result.andThen_ok]
  rw [h1]
  rfl
theorem ct {s:TypeId} {fs:Array Field} {f:Field} {x:Operand} {b o k o':Nat} {size by' zero agg} {ty:TypeId} (hs:P.underlying s=some (.struct fs)) (hf:fs[k]? =some f) (he:TI P f.type size by' zero agg) (hsz:size≠0)
    (hx:ev E x=some (.pointer (some ⟨b,o,none⟩))) (ho:o+f.offset=o'):YO P n E S H (.fieldAddr s x k) ty (.pointer (some ⟨b,o',none⟩)):=by
  intro d pos bU g c w hR hG
  subst ho
  simp [execOp,hR.ev hx,Instr.fieldAt,run_underlying hs,hf,Instr.sureAddr,fieldPlace,he.sizeOf w,hsz,addr_add]
theorem mm {x:Operand} {a:Addr} {ty:TypeId} (hx:ev E x=some (.pointer (some a))):YO P n E S H (.nilCheck x) ty (.pointer (some a)):=by
  intro d pos bU g c w hR hG
  simp [execOp,hR.ev hx]
theorem iz {f:_root_.Go.Fn} {fst cap:List Operand} {us vs:List Value} {ty:TypeId} (h1:gj E fst=some us) (h2:gj E cap=some vs):YO P n E S H (.makeFunc f fst.toArray cap.toArray) ty (.func f us.toArray vs.toArray):=by
  intro d pos bU g c w hR hG
  have e1:fst.toArray.map c.eval=us.toArray:=by rw [List.map_toArray,hR.gj h1]
  have e2:cap.toArray.map c.eval=vs.toArray:=by rw [List.map_toArray,hR.gj h2]
  simp only [execOp,e1,e2]
  rfl
end ops
end Go.Eng
