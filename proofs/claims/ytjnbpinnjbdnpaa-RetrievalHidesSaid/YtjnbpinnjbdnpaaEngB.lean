/-
  The engine, part B: what single operations yield, and what they do to own blocks. Conditions: none; nothing of any program stands here.
-/
import Derived.Test.YtjnbpinnjbdnpaaEngA
import Derived.WalkKit
import Derived.Laws.CopyRow
namespace Go.Eng

/-- The value of an operation on integers, where it has one of its own. -/
def iop (op : BinOp) (k : IntKind) (a b : Int) : Option Value :=
  match op with
  | .add => some (.int k (k.wrap (a + b)))
  | .sub => some (.int k (k.wrap (a - b)))
  | .mul => some (.int k (k.wrap (a * b)))
  | .eql => some (.bool (a == b))
  | .neq => some (.bool (a != b))
  | .lss => some (.bool (decide (a < b)))
  | .leq => some (.bool (decide (a ≤ b)))
  | .gtr => some (.bool (decide (a > b)))
  | .geq => some (.bool (decide (a ≥ b)))
  | _ => none

def knum : IntKind → Nat
  | .i8 => 0 | .i16 => 1 | .i32 => 2 | .i64 => 3 | .u8 => 4 | .u16 => 5 | .u32 => 6 | .u64 => 7

theorem knum_inj {j k : IntKind} (h : Nat.beq (knum j) (knum k) = true) : j = k := by
  cases j <;> cases k <;> first | rfl | (exact absurd h (by decide))

def bop (op : BinOp) (x y : Value) : Option Value :=
  match x, y with
  | .int j a, .int k b => cond (Nat.beq (knum j) (knum k)) (iop op j a b) none
  | .string a, .string b =>
    match op with
    | .eql => some (.bool (a.toList == b.toList))
    | .neq => some (.bool (!(a.toList == b.toList)))
    | _ => none
  | _, _ => none

/-- The value of an operation that looks at slots alone. -/
def pev (E : Env) (op : Op) : Option Value :=
  match op with
  | .move x => ev E x
  | .assign x => ev E x
  | .pick c a b =>
    match ev E c with
    | some (.bool true) => ev E a
    | some (.bool false) => ev E b
    | _ => none
  | .binOp op _ x y _ =>
    match ev E x, ev E y with
    | some u, some v => bop op u v
    | _, _ => none
  | .unOp .not _ x =>
    match ev E x with
    | some (.bool b) => some (.bool (!b))
    | _ => none
  | .extract x i =>
    match ev E x with
    | some (.tuple vs) => vs[i]?
    | _ => none
  | _ => none

/-- An operation (whatever its slot, place, edges and guard) yields a value and leaves the world alone. -/
def YO (P : Program) (n : Nat) (E : Env) (S : List World) (H : List (Nat × Obj)) (op : Op) (ty : TypeId) (v : Value) : Prop :=
  ∀ d pos aft g, Yields P n E S H ⟨d, op, ty, pos, aft, g⟩ v

theorem YO.v {P n E S H op ty v v'} (h : YO P n E S H op ty v) (hv : v = v') : YO P n E S H op ty v' := hv ▸ h

theorem run_binop {P : Program} {op : BinOp} {t : TypeId} {x y : Operand} {u v r : Value} {w : World} (h : bop op u v = some r) :
    (do eqGuard op t x y u v; binOp op t u v : Sem Value).run P w = .ok r w := by
  cases u <;> cases v <;> simp only [bop] at h <;> try (cases h; done)
  · rename_i j a k b
    cases hb : Nat.beq (knum j) (knum k) with
    | false => rw [hb] at h; simp at h
    | true =>
      rw [hb] at h
      have := knum_inj hb
      subst this
      cases op <;> simp only [iop, cond_true] at h <;> (try (cases h; done)) <;> (simp only [Option.some.injEq] at h; subst h) <;>
        simp [eqGuard, binOp, Op.intArith, Op.intCmp]
  · rename_i a b
    cases op <;> simp only at h <;> (try (cases h; done)) <;> (simp only [Option.some.injEq] at h; subst h) <;> simp [eqGuard, binOp, Op.stringOp]

theorem y_p {P n E S H op ty v} (h : pev E op = some v) : YO P n E S H op ty v := by
  intro d pos aft g a w hR hG
  cases op <;> simp only [pev] at h <;> try (cases h; done)
  case move x => simp [execOp, hR.ev h]
  case assign x => simp [execOp, hR.ev h]
  case pick c x y =>
    split at h
    · rename_i hc; simp [execOp, hR.ev hc, hR.ev h, asBool]
    · rename_i hc; simp [execOp, hR.ev hc, hR.ev h, asBool]
    · cases h
  case binOp op t x y t' =>
    split at h
    · rename_i u v hu hv
      have := run_binop (P := P) (t := t) (x := x) (y := y) (w := w) h
      simp only [execOp, hR.ev hu, hR.ev hv]
      rw [Sem.run_bind, this]
      rfl
    · cases h
  case unOp op t x =>
    cases op <;> simp only at h <;> try (cases h; done)
    split at h
    · rename_i b hb
      simp only [Option.some.injEq] at h
      subst h
      simp [execOp, hR.ev hb, Op.unary]
    · cases h
  case extract x i =>
    split at h
    · rename_i vs hvs
      simp [execOp, hR.ev hvs, Instr.extract, h]
    · cases h

section steps
variable {P : Program} {n : Nat} {E : Env} {S : List World} {H : List (Nat × Obj)} {Q : Exit → Act → World → Prop} {ops : Array Oper} {rest : List Oper}

/-- One operation, no guard, that yields a value and leaves the world alone. -/
theorem s1 {d : Nat} {op : Op} {ty : TypeId} {pos : String} {aft : Array Edge} {v : Value} (hy : YO P n E S H op ty v) (hd : Nat.ble (d + 1) n = true)
    (h : At n ((d, v) :: E) S H (wpList P ops Q rest)) : At n E S H (wpList P ops Q (⟨some d, op, ty, pos, aft, none⟩ :: rest)) :=
  at_op rfl (at_y (hy _ _ _ _) hd h)

/-- A pure one. -/
theorem p1 {d : Nat} {op : Op} {ty : TypeId} {pos : String} {aft : Array Edge} {v : Value} (hy : pev E op = some v) (hd : Nat.ble (d + 1) n = true)
    (h : At n ((d, v) :: E) S H (wpList P ops Q rest)) : At n E S H (wpList P ops Q (⟨some d, op, ty, pos, aft, none⟩ :: rest)) := s1 (y_p hy) hd h

/-- A pure one whose value is said otherwise. -/
theorem p2 {d : Nat} {op : Op} {ty : TypeId} {pos : String} {aft : Array Edge} {v : Value} (v' : Value) (hy : pev E op = some v) (hv : v = v') (hd : Nat.ble (d + 1) n = true)
    (h : At n ((d, v') :: E) S H (wpList P ops Q rest)) : At n E S H (wpList P ops Q (⟨some d, op, ty, pos, aft, none⟩ :: rest)) := s1 ((y_p hy).v hv) hd h

/-- One with a guard that says yes. -/
theorem g1 {d j t : Nat} {b : Bool} {op : Op} {ty : TypeId} {pos : String} {aft : Array Edge} {v : Value} (hj : guardSlot ops j = some t) (hb : E.at? t = some (.bool b)) (hy : YO P n E S H op ty v) (hd : Nat.ble (d + 1) n = true)
    (h : At n ((d, v) :: E) S H (wpList P ops Q rest)) : At n E S H (wpList P ops Q (⟨some d, op, ty, pos, aft, some (j, b)⟩ :: rest)) :=
  at_opg rfl hj hb (at_y (hy _ _ _ _) hd h)

/-- One with a guard that says no. -/
theorem g0 {d j t : Nat} {b b' : Bool} {op : Op} {ty : TypeId} {pos : String} {aft : Array Edge} (hj : guardSlot ops j = some t) (hb : E.at? t = some (.bool b')) (hn : b' = !b) (hd : Nat.ble (d + 1) n = true)
    (h : At n ((d, undef) :: E) S H (wpList P ops Q rest)) : At n E S H (wpList P ops Q (⟨some d, op, ty, pos, aft, some (j, b)⟩ :: rest)) := by
  subst hn
  exact at_opn rfl hj hb hd h

/-- The like in the head of a region that draws. -/
theorem t1 {d : Nat} {op : Op} {ty : TypeId} {pos : String} {aft : Array Edge} {v : Value} {K : Act → World → Prop} (hy : YO P n E S H op ty v) (hd : Nat.ble (d + 1) n = true)
    (h : At n ((d, v) :: E) S H (fun a w => wpStill P ops w (fun a' => K a' w) rest a)) : At n E S H (fun a w => wpStill P ops w (fun a' => K a' w) (⟨some d, op, ty, pos, aft, none⟩ :: rest) a) :=
  at_sop rfl (hy _ _ _ _) hd h

theorem t1g {d j t : Nat} {b : Bool} {op : Op} {ty : TypeId} {pos : String} {aft : Array Edge} {v : Value} {K : Act → World → Prop} (hj : guardSlot ops j = some t) (hb : E.at? t = some (.bool b)) (hy : YO P n E S H op ty v) (hd : Nat.ble (d + 1) n = true)
    (h : At n ((d, v) :: E) S H (fun a w => wpStill P ops w (fun a' => K a' w) rest a)) : At n E S H (fun a w => wpStill P ops w (fun a' => K a' w) (⟨some d, op, ty, pos, aft, some (j, b)⟩ :: rest) a) :=
  at_sopg rfl hj hb (hy _ _ _ _) hd h

theorem t0g {d j t : Nat} {b b' : Bool} {op : Op} {ty : TypeId} {pos : String} {aft : Array Edge} {K : Act → World → Prop} (hj : guardSlot ops j = some t) (hb : E.at? t = some (.bool b')) (hn : b' = !b) (hd : Nat.ble (d + 1) n = true)
    (h : At n ((d, undef) :: E) S H (fun a w => wpStill P ops w (fun a' => K a' w) rest a)) : At n E S H (fun a w => wpStill P ops w (fun a' => K a' w) (⟨some d, op, ty, pos, aft, some (j, b)⟩ :: rest) a) := by
  subst hn
  exact at_sopn rfl hj hb hd h

end steps

def isAggD : TypeDesc → Bool
  | .struct _ | .array _ _ => true
  | _ => false

/-- What the table says of a type: its cells, its bytes, its zero, and whether it is a struct or an array. -/
structure TI (P : Program) (t : TypeId) (size bytes : Nat) (zero : List Value) (agg : Bool) : Prop where
  info : ∃ i z, P.info? t = some i ∧ i.zero = some z ∧ i.size = size ∧ i.bytes = bytes ∧ z.cells.toList = zero
  und : ∃ d, P.underlying t = some d ∧ isAggD d = agg

section ti
variable {P : Program} {t : TypeId} {size bytes : Nat} {zero : List Value} {agg : Bool}
theorem TI.sizeOf (h : TI P t size bytes zero agg) (w : World) : (sizeOf t).run P w = .ok size w := by
  obtain ⟨⟨i, z, h1, h2, h3, h4, h5⟩, _⟩ := h
  simp [Go.sizeOf, typeInfo, h1, h3]
theorem TI.typeInfo (h : TI P t size bytes zero agg) (w : World) : ∃ i, (typeInfo t).run P w = .ok i w ∧ i.size = size ∧ i.bytes = bytes := by
  obtain ⟨⟨i, z, h1, h2, h3, h4, h5⟩, _⟩ := h
  exact ⟨i, by simp [Go.typeInfo, h1], h3, h4⟩
theorem TI.zeroValue (h : TI P t size bytes zero agg) (w : World) : ∃ z, (zeroValue t).run P w = .ok z w ∧ z.cells = zero.toArray := by
  obtain ⟨⟨i, z, h1, h2, h3, h4, h5⟩, _⟩ := h
  exact ⟨z, by simp [Go.zeroValue, Go.typeInfo, h1, h2], by rw [← h5]⟩
theorem TI.isAgg (h : TI P t size bytes zero agg) (w : World) : (isAgg t).run P w = .ok agg w := by
  obtain ⟨_, d, h1, h2⟩ := h
  unfold Go.isAgg
  rw [Sem.run_bind, run_underlying h1 w]
  cases d <;> simp_all [isAggD]
end ti

theorem addr_add (b o k : Nat) : (⟨b, o, none⟩ : Addr).add k = ⟨b, o + k, none⟩ := by
  unfold Addr.add
  split <;> simp_all

/-- A row of cells of the call's own. -/
abbrev row (ty : TypeId) (cs : List Value) : Obj := .cells cs.toArray ty (0, 0)

section mem
variable {P : Program} {n : Nat} {E : Env} {S : List World} {H : List (Nat × Obj)} {Q : Exit → Act → World → Prop}

theorem run_loadVar_one {t by' zero} (h : TI P t 1 by' zero false) {w : World} {a : Addr} {v : Value} (hc : w.cell? a = some v) : (loadVar t a).run P w = .ok v w := by
  unfold loadVar
  rw [Sem.run_bind, h.isAgg w]
  simp [hc]

theorem run_loadVar_agg {t size by' zero} (h : TI P t size by' zero true) {w : World} {b o : Nat} {cs : List Value} (hl : cs.length = size)
    (hc : ∀ j v, cs[j]? = some v → w.cell? ⟨b, o + j, none⟩ = some v) : (loadVar t ⟨b, o, none⟩).run P w = .ok (.agg cs.toArray) w := by
  unfold loadVar
  rw [Sem.run_bind, h.isAgg w]
  have hl' : (loadCells ⟨b, o, none⟩ cs.length).run P w = .ok cs.toArray w := run_loadCells_list (P := P) w _ cs (fun j v hv => by rw [addr_add]; exact hc j v hv)
  rw [hl] at hl'
  simp [h.sizeOf w, hl']

/-- A load of one cell. -/
theorem y_load {t by' zero ty} {x : Operand} {a : Addr} {v : Value} (ht : TI P t 1 by' zero false) (hx : ev E x = some (.pointer (some a))) (hc : ∀ w, Good S H w → w.cell? a = some v) :
    YO P n E S H (.load t x) ty v := by
  intro d pos aft g a' w hR hG
  simp [execOp, hR.ev hx, Instr.loadAt, Instr.sureAddr, run_loadVar_one ht (hc w hG)]

/-- A load of one cell of an own block, number 'i' of the list. -/
theorem y_own {t by' zero ty ety} {x : Operand} {b o : Nat} {cs : List Value} {fr} {v : Value} (i : Nat) (ht : TI P t 1 by' zero false) (hx : ev E x = some (.pointer (some ⟨b, o, none⟩)))
    (hi : H[i]? = some (b, .cells cs.toArray ety fr)) (hv : cs[o]? = some v) : YO P n E S H (.load t x) ty v := by
  refine y_load ht hx fun w hG => ?_
  have := hG.own _ (List.mem_of_getElem? hi)
  simp only at this
  simp [World.cell?, this, hv]

/-- A load of a struct or an array out of an own block. -/
theorem y_ownagg {t size by' zero ty ety} {x : Operand} {b o : Nat} {cs us : List Value} {fr} (i : Nat) (ht : TI P t size by' zero true) (hx : ev E x = some (.pointer (some ⟨b, o, none⟩)))
    (hi : H[i]? = some (b, .cells cs.toArray ety fr)) (hl : us.length = size) (hv : (cs.drop o).take size = us) : YO P n E S H (.load t x) ty (.agg us.toArray) := by
  intro d pos aft g a' w hR hG
  have hb := hG.own _ (List.mem_of_getElem? hi)
  simp only at hb
  have := run_loadVar_agg (P := P) ht (w := w) (b := b) (o := o) (cs := us) hl (fun j v hj => by
    rw [← hv] at hj
    rw [List.getElem?_take] at hj
    split at hj
    · rw [List.getElem?_drop] at hj; simp [World.cell?, hb, hj]
    · cases hj)
  simp [execOp, hR.ev hx, Instr.loadAt, Instr.sureAddr, this]

/-- A load of a struct or an array out of other memory. -/
theorem y_loadagg {t size by' zero ty} {x : Operand} {b o : Nat} {us : List Value} (ht : TI P t size by' zero true) (hx : ev E x = some (.pointer (some ⟨b, o, none⟩)))
    (hl : us.length = size) (hc : ∀ w, Good S H w → ∀ j v, us[j]? = some v → w.cell? ⟨b, o + j, none⟩ = some v) : YO P n E S H (.load t x) ty (.agg us.toArray) := by
  intro d pos aft g a' w hR hG
  have := run_loadVar_agg (P := P) ht (w := w) (b := b) (o := o) (cs := us) hl (hc w hG)
  simp [execOp, hR.ev hx, Instr.loadAt, Instr.sureAddr, this]

/-- Above everything: of the snapshots and of the own blocks. -/
def leAll : List World → Nat → Prop
  | [], _ => True
  | s :: r, b => s.heap.size ≤ b ∧ leAll r b
def ltAll : List (Nat × Obj) → Nat → Prop
  | [], _ => True
  | p :: r, b => p.1 < b ∧ ltAll r b

theorem leAll_of {b : Nat} : ∀ {S : List World}, (∀ s ∈ S, s.heap.size ≤ b) → leAll S b
  | [], _ => trivial
  | s :: _, h => ⟨h s (by simp), leAll_of fun t ht => h t (by simp [ht])⟩
theorem ltAll_of {b : Nat} : ∀ {H : List (Nat × Obj)}, (∀ p ∈ H, p.1 < b) → ltAll H b
  | [], _ => trivial
  | p :: _, h => ⟨h p (by simp), ltAll_of fun t ht => h t (by simp [ht])⟩

theorem Good.fresh {w} (h : Good S H w) : leAll S w.heap.size ∧ ltAll H w.heap.size :=
  ⟨leAll_of fun s hs => (h.snap s hs).size, ltAll_of fun _ hp => h.ownlt hp⟩

/-- A new variable. -/
theorem n_alloc {d : Nat} {t : TypeId} {ty : TypeId} {pos aft g} {size by' zero agg} {K : Act → World → Prop} (ht : TI P t size by' zero agg) (hd : Nat.ble (d + 1) n = true)
    (h : ∀ b, leAll S b → ltAll H b → At n ((d, .pointer (some ⟨b, 0, none⟩)) :: E) S ((b, row t zero) :: H) K) :
    At n E S H (fun a w => (⟨some d, .alloc t, ty, pos, aft, g⟩ : Oper).wp P a w K Q) := by
  intro a w hR hG
  obtain ⟨z, hz, hzc⟩ := ht.zeroValue w
  have hf := hG.fresh
  show Oper.wp P _ a w K Q
  unfold Oper.wp
  have : (execOp a.eval ⟨some d, .alloc t, ty, pos, aft, g⟩).run P w = .ok (.value (.pointer (some ⟨w.heap.size, 0, none⟩))) { w with heap := w.heap.push (row t zero) } := by
    simp [execOp, Instr.alloc, hz, newVar, newRow, hzc]
  rw [this]
  exact h w.heap.size hf.1 hf.2 _ _ (hR.put hd _) (hG.alloc _)

/-- A value boxed. -/
theorem n_box {d : Nat} {t : TypeId} {ty : TypeId} {pos aft g} {x : Operand} {v : Value} {cs : List Value} {K : Act → World → Prop} (hx : ev E x = some v) (hv : v.cells = cs.toArray) (hd : Nat.ble (d + 1) n = true)
    (h : ∀ b, leAll S b → ltAll H b → At n ((d, .pointer (some ⟨b, 0, none⟩)) :: E) S ((b, row t cs) :: H) K) :
    At n E S H (fun a w => (⟨some d, .box t x, ty, pos, aft, g⟩ : Oper).wp P a w K Q) := by
  intro a w hR hG
  have hf := hG.fresh
  show Oper.wp P _ a w K Q
  unfold Oper.wp
  have : (execOp a.eval ⟨some d, .box t x, ty, pos, aft, g⟩).run P w = .ok (.value (.pointer (some ⟨w.heap.size, 0, none⟩))) { w with heap := w.heap.push (row t cs) } := by
    simp [execOp, hR.ev hx, Instr.box, newVar, newRow, hv]
  rw [this]
  exact h w.heap.size hf.1 hf.2 _ _ (hR.put hd _) (hG.alloc _)

theorem setRow_heap_other (w : World) (g k : Nat) (cs : Array Value) (h : k ≠ g) : (w.setRow g cs).heap[k]? = w.heap[k]? := setRow_other w g k cs h

theorem run_storeVar_own {t size by' zero agg ety} (ht : TI P t size by' zero agg) {w : World} {b o : Nat} {cs : List Value} (hb : w.heap[b]? = some (row ety cs)) {v : Value} {us : List Value} (hv : v.cells = us.toArray)
    (hl : us.length = size) (h1 : ∀ u ∈ us, u.oneCell' = true) (hfit : o + size ≤ cs.length) :
    (storeVar t ⟨b, o, none⟩ v).run P w = .ok () (w.setRow b (cs.take o ++ us ++ cs.drop (o + us.length)).toArray) := by
  unfold storeVar
  have hst := run_storeCells_at P b o ety us 0 cs.toArray w hb (by simp; omega) h1
  simp only [Nat.add_zero] at hst
  rw [Sem.run_bind, ht.sizeOf w]
  simp only [Result.andThen_ok, hv, List.size_toArray, hl, ne_eq, not_true_eq_false, if_false]
  exact hl ▸ hst

theorem Good.setRow {w} (hG : Good S H w) (i : Nat) {b : Nat} {ety : TypeId} {cs : List Value} (hi : H[i]? = some (b, row ety cs)) (cs' : List Value) :
    Good S (H.set i (b, row ety cs')) (w.setRow b cs'.toArray) := by
  have hb := hG.own _ (List.mem_of_getElem? hi)
  simp only at hb
  refine hG.set i hi rfl rfl rfl (by simp) ?_ (fun k hk => setRow_heap_other w b k _ hk)
  exact setRow_heap w b cs.toArray cs'.toArray ety (0, 0) hb

/-- A store into an own block: the cells 'us' from 'o' on. -/
theorem n_store {t size by' zero agg ety} {ty : TypeId} {pos aft g} {x y : Operand} {b o : Nat} {cs us : List Value} {v : Value} {K : Act → World → Prop} (i : Nat) (ht : TI P t size by' zero agg)
    (hx : ev E x = some (.pointer (some ⟨b, o, none⟩))) (hy : ev E y = some v) (hv : v.cells = us.toArray) (hi : H[i]? = some (b, row ety cs)) (hl : us.length = size) (h1 : ∀ u ∈ us, u.oneCell' = true) (hfit : o + size ≤ cs.length)
    (cs' : List Value) (hcs : cs.take o ++ us ++ cs.drop (o + us.length) = cs')
    (h : At n E S (H.set i (b, row ety cs')) K) :
    At n E S H (fun a w => (⟨none, .store t x y, ty, pos, aft, g⟩ : Oper).wp P a w K Q) := by
  intro a w hR hG
  have hb := hG.own _ (List.mem_of_getElem? hi)
  simp only at hb
  show Oper.wp P _ a w K Q
  unfold Oper.wp
  have : (execOp a.eval ⟨none, .store t x y, ty, pos, aft, g⟩).run P w = .ok .skip (w.setRow b cs'.toArray) := by
    simp [execOp, hR.ev hx, hR.ev hy, Instr.storeAt, Instr.sureAddr, run_storeVar_own ht hb hv hl h1 hfit, ← hcs]
  rw [this]
  exact h _ _ hR (hG.setRow i hi cs')

theorem set_eq_take_drop (cs : List Value) (o : Nat) (v : Value) (h : o < cs.length) : cs.take o ++ [v] ++ cs.drop (o + 1) = cs.set o v := by
  rw [List.set_eq_take_append_cons_drop, if_pos h]; simp

/-- A store of one cell into an own block. -/
theorem n_store1 {t by' zero ety} {ty : TypeId} {pos aft g} {x y : Operand} {b o : Nat} {cs : List Value} {v : Value} {K : Act → World → Prop} (i : Nat) (ht : TI P t 1 by' zero false)
    (hx : ev E x = some (.pointer (some ⟨b, o, none⟩))) (hy : ev E y = some v) (hv : v.oneCell' = true) (hi : H[i]? = some (b, row ety cs)) (hfit : o < cs.length)
    (h : At n E S (H.set i (b, row ety (cs.set o v))) K) :
    At n E S H (fun a w => (⟨none, .store t x y, ty, pos, aft, g⟩ : Oper).wp P a w K Q) := by
  refine n_store (us := [v]) i ht hx hy ?_ hi rfl (by simpa using hv) (by omega) (cs.set o v) ?_ h
  · cases v <;> simp_all [Value.cells, Value.oneCell']
  · simpa using set_eq_take_drop cs o v hfit

end mem
end Go.Eng
