/-
  The second engine, part B: what single operations yield. Conditions: none; nothing of any program stands here.
-/
import Derived.Test.YtjnbpinnjbdnpaaAbsA
import Derived.Test.YtjnbpinnjbdnpaaEngF
namespace Go.Abs
open Go Go.Eng

/-- All slots, as they are. -/
def full (a : Act) : Env := (List.range a.tmps.size).map fun t => (t, a.tmps.getD t undef)

theorem map_range'_at (f : Nat → Value) : ∀ (m s t : Nat), Env.at? ((List.range' s m).map fun t => (t, f t)) t = if s ≤ t ∧ t < s + m then some (f t) else none
  | 0, s, t => by
    have : ¬ (s ≤ t ∧ t < s + 0) := by omega
    rw [if_neg this]; rfl
  | m + 1, s, t => by
    rw [List.range'_succ]
    simp only [List.map_cons, Env.at?]
    cases hb : Nat.beq s t with
    | true =>
      have : s = t := Nat.eq_of_beq_eq_true hb
      subst this
      rw [if_pos (by omega)]; rfl
    | false =>
      have hne := Nat.ne_of_beq_eq_false hb
      simp only [cond_false]
      rw [map_range'_at f m (s + 1) t]
      by_cases h : s + 1 ≤ t ∧ t < s + 1 + m
      · rw [if_pos h, if_pos (by omega)]
      · rw [if_neg h, if_neg (by omega)]

theorem full_at (a : Act) (t : Nat) : (full a).at? t = if t < a.tmps.size then some (a.tmps.getD t undef) else none := by
  unfold full
  rw [List.range_eq_range', map_range'_at]
  by_cases h : t < a.tmps.size
  · rw [if_pos h, if_pos (by omega)]
  · rw [if_neg h, if_neg (by omega)]

theorem full_rep (a : Act) (hd : a.defers = []) : Rep a.tmps.size (full a) a := ⟨rfl, hd, fun t v h => by
  rw [full_at] at h
  split at h
  · rename_i hlt
    simp only [Option.some.injEq] at h
    subst h
    simp [hlt]
  · cases h⟩

section
variable {P : Program} {w0 : Bw} {X0 : Xs} {n : Nat} {E : Ev} {st : St} {β : Bm} {X : Xs} {a : Act} {w : World}

theorem RelQ.evo (h : RelQ w0 X0 n E st β X a w) {x : Operand} {v : A} (hx : ev E x = some v) : Eng.ev (full a) x = some (a.eval x) ∧ V X w β v (a.eval x) := by
  refine ⟨?_, h.evl hx⟩
  cases x with
  | tmp t =>
    obtain ⟨u, h1, h2⟩ := h.slot t v hx
    have hlt := (Array.getElem?_eq_some_iff.1 h1).1
    simp only [Eng.ev, full_at, if_pos hlt, Act.eval]
  | const u => rfl
  | global g => rfl
  | func f => rfl

/-- An old rule for what is yielded, at hand. -/
theorem RelQ.old (h : RelQ w0 X0 n E st β X a w) {op : Op} {ty : TypeId} {u : Value} (hy : ∀ w', Same β X st w w' → Eng.YO P a.tmps.size (full a) [w'] [] op ty u) :
    ∀ d pos aft g w', Same β X st w w' → (execOp a.eval ⟨d, op, ty, pos, aft, g⟩).run P w' = .ok (.value u) w' :=
  fun d pos aft g w' hs => hy w' hs d pos aft g a w' (full_rep a h.defers) (Good.start w')

theorem V_b {x u} : V X w β (.b x) u ↔ u = .bool x := by simp only [V]
theorem V_i {k m u} : V X w β (.i k m) u ↔ u = .int k m := by simp only [V]
theorem V_s {l u} : V X w β (.s l) u ↔ u = .string ⟨l.toArray⟩ := by simp only [V]

/-- Operations on integers, strings and bools. -/
def bopA (op : BinOp) (x y : A) : Option A :=
  match x, y with
  | .i j a, .i k b =>
    cond (Nat.beq (knum j) (knum k)) (match op with
      | .add => some (.i j (j.wrap (a + b)))
      | .sub => some (.i j (j.wrap (a - b)))
      | .mul => some (.i j (j.wrap (a * b)))
      | .eql => some (.b (a == b))
      | .neq => some (.b (a != b))
      | .lss => some (.b (decide (a < b)))
      | .leq => some (.b (decide (a ≤ b)))
      | .gtr => some (.b (decide (a > b)))
      | .geq => some (.b (decide (a ≥ b)))
      | _ => none) none
  | .s a, .s b =>
    match op with
    | .eql => some (.b (a == b))
    | .neq => some (.b (!(a == b)))
    | _ => none
  | _, _ => none

theorem bopA_ok {op x y r u v} (h : bopA op x y = some r) (hx : V X w β x u) (hy : V X w β y v) : ∃ z, bop op u v = some z ∧ V X w β r z := by
  unfold bopA at h
  split at h
  · rename_i j p k q
    simp only [V] at hx hy
    subst hx; subst hy
    cases hb : Nat.beq (knum j) (knum k) with
    | false => rw [hb] at h; simp at h
    | true =>
      rw [hb] at h
      simp only [cond_true] at h
      cases op <;> simp only at h <;> (try (cases h; done)) <;> (simp only [Option.some.injEq] at h; subst h; refine ⟨_, by simp only [bop, hb, cond_true, iop]; rfl, ?_⟩; simp only [V])
  · rename_i p q
    simp only [V] at hx hy
    subst hx; subst hy
    cases op <;> simp only at h <;> (try (cases h; done)) <;> (simp only [Option.some.injEq] at h; subst h; refine ⟨_, by simp only [bop, str_toList]; rfl, ?_⟩; simp only [V])
  · cases h

def pevA (E : Ev) (op : Op) : Option A :=
  match op with
  | .move x => ev E x
  | .assign x => ev E x
  | .pick c a b =>
    match ev E c with
    | some (.b true) => ev E a
    | some (.b false) => ev E b
    | _ => none
  | .binOp op _ x y _ =>
    match ev E x, ev E y with
    | some u, some v => bopA op u v
    | _, _ => none
  | .unOp .not _ x =>
    match ev E x with
    | some (.b b) => some (.b (!b))
    | _ => none
  | .extract x i =>
    match ev E x with
    | some (.tu vs) => vs[i]?
    | _ => none
  | _ => none

theorem y_p {op ty v} (h : pevA E op = some v) : YO P E st op ty v := by
  intro w0 X0 n β X a w hr
  cases op <;> simp only [pevA] at h <;> try (cases h; done)
  case move x => obtain ⟨h1, h2⟩ := hr.evo h; exact ⟨_, h2, hr.old fun w' _ => Eng.y_p (by simp only [pev]; exact h1)⟩
  case assign x => obtain ⟨h1, h2⟩ := hr.evo h; exact ⟨_, h2, hr.old fun w' _ => Eng.y_p (by simp only [pev]; exact h1)⟩
  case pick c x y =>
    split at h
    · rename_i hc
      obtain ⟨h1, h2⟩ := hr.evo h
      obtain ⟨c1, c2⟩ := hr.evo hc
      rw [V_b] at c2; rw [c2] at c1
      exact ⟨_, h2, hr.old fun w' _ => Eng.y_p (by simp only [pev, c1]; exact h1)⟩
    · rename_i hc
      obtain ⟨h1, h2⟩ := hr.evo h
      obtain ⟨c1, c2⟩ := hr.evo hc
      rw [V_b] at c2; rw [c2] at c1
      exact ⟨_, h2, hr.old fun w' _ => Eng.y_p (by simp only [pev, c1]; exact h1)⟩
    · cases h
  case binOp op t x y t' =>
    split at h
    · rename_i p q hp hq
      obtain ⟨h1, h2⟩ := hr.evo hp
      obtain ⟨h3, h4⟩ := hr.evo hq
      obtain ⟨z, hz, hv⟩ := bopA_ok h h2 h4
      exact ⟨z, hv, hr.old fun w' _ => Eng.y_p (by simp only [pev, h1, h3]; exact hz)⟩
    · cases h
  case unOp op t x =>
    cases op <;> simp only at h <;> try (cases h; done)
    split at h
    · rename_i b hb
      simp only [Option.some.injEq] at h
      subst h
      obtain ⟨h1, h2⟩ := hr.evo hb
      rw [V_b] at h2; rw [h2] at h1
      exact ⟨.bool (!b), by simp only [V], hr.old fun w' _ => Eng.y_p (by simp only [pev, h1])⟩
    · cases h
  case extract x i =>
    split at h
    · rename_i vs hvs
      obtain ⟨h1, h2⟩ := hr.evo hvs
      simp only [V] at h2
      obtain ⟨us, e1, e2⟩ := h2
      rw [e1] at h1
      obtain ⟨u, g1, g2⟩ := VS_get e2 h
      exact ⟨u, g2, hr.old fun w' _ => Eng.y_p (by simp only [pev, h1]; simpa using g1)⟩
    · cases h

/-- Rules on integers, taken over from values. -/
theorem y_int2 {op : BinOp} {t t' ty : TypeId} {x y : Operand} {k k' kr : IntKind} {p q r : Int} (hx : ev E x = some (.i k p)) (hy : ev E y = some (.i k' q))
    (h : ∀ (N : Nat) (F : Env) (S : List World) (H : List (Nat × Obj)), Eng.ev F x = some (.int k p) → Eng.ev F y = some (.int k' q) → Eng.YO P N F S H (.binOp op t x y t') ty (.int kr r)) : YO P E st (.binOp op t x y t') ty (.i kr r) := by
  intro w0 X0 n β X a w hr
  obtain ⟨h1, h2⟩ := hr.evo hx
  obtain ⟨h3, h4⟩ := hr.evo hy
  rw [V_i] at h2 h4
  rw [h2] at h1; rw [h4] at h3
  exact ⟨_, by simp only [V], hr.old fun w' _ => h _ _ _ _ h1 h3⟩

section ints
variable {t t' ty : TypeId} {x y : Operand}
theorem y_quo {k : IntKind} {p q : Int} (hx : ev E x = some (.i k p)) (hy : ev E y = some (.i k q)) (hb : q ≠ 0) : YO P E st (.binOp .quo t x y t') ty (.i k (k.wrap (p.tdiv q))) := y_int2 hx hy fun _ _ _ _ h1 h2 => Eng.y_quo h1 h2 hb
theorem y_rem {k : IntKind} {p q : Int} (hx : ev E x = some (.i k p)) (hy : ev E y = some (.i k q)) (hb : q ≠ 0) : YO P E st (.binOp .rem t x y t') ty (.i k (p.tmod q)) := y_int2 hx hy fun _ _ _ _ h1 h2 => Eng.y_rem h1 h2 hb
theorem y_shl {k k' : IntKind} {p q : Int} (hx : ev E x = some (.i k p)) (hy : ev E y = some (.i k' q)) (hb : 0 ≤ q) : YO P E st (.binOp .shl t x y t') ty (.i k (k.wrap (p * 2 ^ min q.toNat k.bits))) := y_int2 hx hy fun _ _ _ _ h1 h2 => Eng.y_shl h1 h2 hb
theorem y_shr {k k' : IntKind} {p q : Int} (hx : ev E x = some (.i k p)) (hy : ev E y = some (.i k' q)) (hb : 0 ≤ q) : YO P E st (.binOp .shr t x y t') ty (.i k (p.fdiv (2 ^ min q.toNat k.bits))) := y_int2 hx hy fun _ _ _ _ h1 h2 => Eng.y_shr h1 h2 hb
theorem y_bits {op : BinOp} {k : IntKind} {p q : Int} (hx : ev E x = some (.i k p)) (hy : ev E y = some (.i k q)) (hop : op = .and ∨ op = .or ∨ op = .xor ∨ op = .andNot) : YO P E st (.binOp op t x y t') ty (.i k (ibits op k p q)) := y_int2 hx hy fun _ _ _ _ h1 h2 => Eng.y_bits h1 h2 hop
theorem addN {i j : Int} (p q : Nat) (hx : ev E x = some (.i .i64 i)) (hy : ev E y = some (.i .i64 j)) (hi : i = (p : Int)) (hj : j = (q : Int)) (h : p + q < 9223372036854775808) : YO P E st (.binOp .add t x y t') ty (.i .i64 ((p + q : Nat) : Int)) := y_int2 hx hy fun _ _ _ _ h1 h2 => Eng.addN p q h1 h2 hi hj h
theorem subN {i j : Int} (p q : Nat) (hx : ev E x = some (.i .i64 i)) (hy : ev E y = some (.i .i64 j)) (hi : i = (p : Int)) (hj : j = (q : Int)) (hle : q ≤ p) (h : p < 9223372036854775808) : YO P E st (.binOp .sub t x y t') ty (.i .i64 ((p - q : Nat) : Int)) := y_int2 hx hy fun _ _ _ _ h1 h2 => Eng.subN p q h1 h2 hi hj hle h
theorem mulN {i j : Int} (p q : Nat) (hx : ev E x = some (.i .i64 i)) (hy : ev E y = some (.i .i64 j)) (hi : i = (p : Int)) (hj : j = (q : Int)) (h : p * q < 9223372036854775808) : YO P E st (.binOp .mul t x y t') ty (.i .i64 ((p * q : Nat) : Int)) := y_int2 hx hy fun _ _ _ _ h1 h2 => Eng.mulN p q h1 h2 hi hj h
theorem quoN {i j : Int} (p q : Nat) (hx : ev E x = some (.i .i64 i)) (hy : ev E y = some (.i .i64 j)) (hi : i = (p : Int)) (hj : j = (q : Int)) (hb : 0 < q) (h : p < 9223372036854775808) : YO P E st (.binOp .quo t x y t') ty (.i .i64 ((p / q : Nat) : Int)) := y_int2 hx hy fun _ _ _ _ h1 h2 => Eng.quoN p q h1 h2 hi hj hb h
theorem remN {i j : Int} (p q : Nat) (hx : ev E x = some (.i .i64 i)) (hy : ev E y = some (.i .i64 j)) (hi : i = (p : Int)) (hj : j = (q : Int)) (hb : 0 < q) : YO P E st (.binOp .rem t x y t') ty (.i .i64 ((p % q : Nat) : Int)) := y_int2 hx hy fun _ _ _ _ h1 h2 => Eng.remN p q h1 h2 hi hj hb
theorem addI {p q : Int} (hx : ev E x = some (.i .i64 p)) (hy : ev E y = some (.i .i64 q)) (h1 : -9223372036854775808 ≤ p + q) (h2 : p + q < 9223372036854775808) : YO P E st (.binOp .add t x y t') ty (.i .i64 (p + q)) := y_int2 hx hy fun _ _ _ _ g1 g2 => Eng.addI g1 g2 h1 h2
theorem subI {p q : Int} (hx : ev E x = some (.i .i64 p)) (hy : ev E y = some (.i .i64 q)) (h1 : -9223372036854775808 ≤ p - q) (h2 : p - q < 9223372036854775808) : YO P E st (.binOp .sub t x y t') ty (.i .i64 (p - q)) := y_int2 hx hy fun _ _ _ _ g1 g2 => Eng.subI g1 g2 h1 h2
abbrev u8 (x : UInt8) : A := .i .u8 (x.toNat : Int)
theorem xorB (p q : UInt8) (hx : ev E x = some (u8 p)) (hy : ev E y = some (u8 q)) : YO P E st (.binOp .xor t x y t') ty (u8 (p ^^^ q)) := y_int2 hx hy fun _ _ _ _ h1 h2 => Eng.xorB p q h1 h2
theorem andB (p q : UInt8) (hx : ev E x = some (u8 p)) (hy : ev E y = some (u8 q)) : YO P E st (.binOp .and t x y t') ty (u8 (p &&& q)) := y_int2 hx hy fun _ _ _ _ h1 h2 => Eng.andB p q h1 h2
theorem orB (p q : UInt8) (hx : ev E x = some (u8 p)) (hy : ev E y = some (u8 q)) : YO P E st (.binOp .or t x y t') ty (u8 (p ||| q)) := y_int2 hx hy fun _ _ _ _ h1 h2 => Eng.orB p q h1 h2
theorem shl1B {kd : IntKind} {j : Int} (k : Nat) (hx : ev E x = some (u8 1)) (hy : ev E y = some (.i kd j)) (hj : j = (k : Int)) (hk : k < 8) : YO P E st (.binOp .shl t x y t') ty (u8 (bitB k)) := y_int2 hx hy fun _ _ _ _ h1 h2 => Eng.shl1B k h1 h2 hj hk
theorem shrB {kd : IntKind} {j : Int} (p : UInt8) (k : Nat) (hx : ev E x = some (u8 p)) (hy : ev E y = some (.i kd j)) (hj : j = (k : Int)) (hk : k < 8) : YO P E st (.binOp .shr t x y t') ty (u8 (UInt8.ofNat (p.toNat / 2 ^ k))) := y_int2 hx hy fun _ _ _ _ h1 h2 => Eng.shrB p k h1 h2 hj hk
theorem y_conv {src dst : TypeId} {k k' : IntKind} {m : Int} {ds : TypeDesc} (hs : P.underlying src = some ds) (ht : P.underlying dst = some (.int k')) (hx : ev E x = some (.i k m)) : YO P E st (.convert src dst x) ty (.i k' (k'.wrap m)) := by
  intro w0 X0 n β X a w hr
  obtain ⟨h1, h2⟩ := hr.evo hx
  rw [V_i] at h2
  rw [h2] at h1
  exact ⟨_, by simp only [V], hr.old fun w' _ => Eng.y_conv hs ht h1⟩
theorem y_eqb {p q : Bool} (ht : P.underlying t = some .bool) (hx : ev E x = some (.b p)) (hy : ev E y = some (.b q)) : YO P E st (.binOp .eql t x y t') ty (.b (p == q)) := by
  intro w0 X0 n β X a w hr
  obtain ⟨h1, h2⟩ := hr.evo hx
  obtain ⟨h3, h4⟩ := hr.evo hy
  rw [V_b] at h2 h4
  rw [h2] at h1; rw [h4] at h3
  exact ⟨_, by simp only [V], hr.old fun w' _ => Eng.y_eqb ht h1 h3⟩
theorem y_neb {p q : Bool} (ht : P.underlying t = some .bool) (hx : ev E x = some (.b p)) (hy : ev E y = some (.b q)) : YO P E st (.binOp .neq t x y t') ty (.b (!(p == q))) := by
  intro w0 X0 n β X a w hr
  obtain ⟨h1, h2⟩ := hr.evo hx
  obtain ⟨h3, h4⟩ := hr.evo hy
  rw [V_b] at h2 h4
  rw [h2] at h1; rw [h4] at h3
  exact ⟨_, by simp only [V], hr.old fun w' _ => Eng.y_neb ht h1 h3⟩
end ints

/-- The cells behind a pointer. -/
def PM (st : St) : A → Option (List A)
  | .p id off => (st.get id).map (·.drop off)
  | .fp cs => some cs
  | _ => none

/-- The elements of a slice: how many, their cells. -/
def SM (st : St) : A → Option (Nat × List A)
  | .nl => some (0, [])
  | .fz n cs => some (n, cs)
  | .sl id s off n => (st.get id).map fun cs => (n, (cs.drop off).take (n * s))
  | _ => none

theorem own_cells (hr : RelQ w0 X0 n E st β X a w) {id b N : Nat} {cs : List A} (hg : st.get id = some cs) (hb : β id = some (.bk b N)) :
    ∃ us, VS X w β cs us ∧ (∀ x ∈ us, x.oneCell' = true) ∧ us.length ≤ N ∧ ∀ w', Same β X st w w' → ∀ j u, us[j]? = some u → w'.cell? ⟨b, j, none⟩ = some u := by
  have ho := hr.memq.obj id cs hg
  unfold OB at ho
  rw [hb] at ho
  obtain ⟨h1, h2, us, rest, ty, h3, h4, h5, h6⟩ := ho
  refine ⟨us, h5, h6, by omega, fun w' hs j u hj => ?_⟩
  have := hs.own id cs b N hg hb
  rw [h3] at this
  have hlt := (List.getElem?_eq_some_iff.1 hj).1
  simp only [World.cell?, this]
  simp [List.getElem?_append_left hlt, hj]

theorem ptr_cells (hr : RelQ w0 X0 n E st β X a w) {v : A} {u : Value} {cs : List A} (hv : V X w β v u) (hm : PM st v = some cs) :
    ∃ b o us, u = .pointer (some ⟨b, o, none⟩) ∧ VS X w β cs us ∧ (∀ x ∈ us, x.oneCell' = true) ∧ ∀ w', Same β X st w w' → ∀ j u, us[j]? = some u → w'.cell? ⟨b, o + j, none⟩ = some u := by
  unfold PM at hm
  split at hm
  · rename_i id off
    obtain ⟨ds, hg, rfl⟩ := Option.map_eq_some_iff.1 hm
    simp only [V] at hv
    obtain ⟨b, N, hb, rfl⟩ := hv
    obtain ⟨us, h1, h2, _, h3⟩ := own_cells hr hg hb
    refine ⟨b, off, us.drop off, rfl, VS_drop h1 off, fun x hx => h2 x (List.mem_of_mem_drop hx), fun w' hs j u hj => ?_⟩
    rw [List.getElem?_drop] at hj
    exact h3 w' hs _ _ hj
  · rename_i ds
    simp only [Option.some.injEq] at hm
    subst hm
    simp only [V] at hv
    obtain ⟨b, o, rfl, hvm⟩ := hv
    obtain ⟨us, h1, h2, h3⟩ := VM_vals hvm
    refine ⟨b, o, us, rfl, VS_no h1, h2, fun w' hs j u hj => ?_⟩
    have hlt := (List.getElem?_eq_some_iff.1 hj).1
    rw [VS_len h1] at hlt
    obtain ⟨hx, _⟩ := VM_get hvm (List.getElem?_eq_getElem hlt)
    rw [hs.xs _ _ hx]
    exact h3 j u hj
  · cases hm

/-- What a slice reads as. -/
theorem slice_cells (hr : RelQ w0 X0 n E st β X a w) {v : A} {u : Value} {m s : Nat} {cs : List A} (hv : V X w β v u) (hm : SM st v = some (m, cs)) (hl : cs.length = m * s) :
    ∃ ad cap us, u = .slice ad m cap ∧ VS X w β cs us ∧ (∀ x ∈ us, x.oneCell' = true) ∧ ∀ w', Same β X st w w' → Sl w' s ad m cap us := by
  unfold SM at hm
  split at hm
  · simp only [Option.some.injEq, Prod.mk.injEq] at hm
    obtain ⟨rfl, rfl⟩ := hm
    simp only [V] at hv
    exact ⟨none, 0, [], hv, VS_nil, (fun x h => by cases h), fun w' _ => Sl.nilv w' s⟩
  · rename_i m' ds
    simp only [Option.some.injEq, Prod.mk.injEq] at hm
    obtain ⟨rfl, rfl⟩ := hm
    simp only [V] at hv
    obtain ⟨ad, cap, rfl, h2, h3, h4, h5, h6⟩ := hv
    obtain ⟨us, g1, g2, g3⟩ := VM_vals h6
    refine ⟨ad, cap, us, rfl, VS_no g1, g2, fun w' hs => ⟨by rw [VS_len g1, hl], h2, h3, h4, h5, fun j u hj => ?_⟩⟩
    have hlt := (List.getElem?_eq_some_iff.1 hj).1
    rw [VS_len g1] at hlt
    obtain ⟨hx, _⟩ := VM_get h6 (List.getElem?_eq_getElem hlt)
    rw [hs.xs _ _ hx]
    exact g3 j u hj
  · rename_i id s' off k
    obtain ⟨ds, hg, he⟩ := Option.map_eq_some_iff.1 hm
    simp only [Prod.mk.injEq] at he
    obtain ⟨rfl, rfl⟩ := he
    simp only [V] at hv
    rcases hv with ⟨hb, rfl, rfl, rfl⟩ | ⟨b, N, cap, hb, rfl, h1, h2, h3⟩
    · have he : (ds.drop 0).take (0 * s') = [] := by simp
      rw [he]
      exact ⟨none, 0, [], rfl, VS_nil, (fun x h => by cases h), fun w' _ => Sl.nilv w' s⟩
    · obtain ⟨us, g1, g2, _, g3⟩ := own_cells hr hg hb
      refine ⟨some ⟨b, off, none⟩, cap, (us.drop off).take (k * s'), rfl, VS_take (VS_drop g1 off) _, fun x hx => g2 x (List.mem_of_mem_drop (List.mem_of_mem_take hx)), fun w' hs => ⟨?_, h1, h2, (fun h => by cases h), (fun _ x hx => by cases hx; rfl), fun j u hj => ?_⟩⟩
      · rw [VS_len (VS_take (VS_drop g1 off) _), hl]
      · rw [List.getElem?_take] at hj
        split at hj
        · rw [List.getElem?_drop] at hj
          exact g3 w' hs _ _ hj
        · cases hj
  · cases hm

section mem
variable {ty t e : TypeId} {x y i : Operand} {size by' : Nat} {zero : List Value} {agg : Bool}

theorem y_load {v c : A} {cs : List A} (ht : TI P t 1 by' zero false) (hx : ev E x = some v) (hm : PM st v = some cs) (hc : cs[0]? = some c) : YO P E st (.load t x) ty c := by
  intro w0 X0 n β X a w hr
  obtain ⟨h1, h2⟩ := hr.evo hx
  obtain ⟨b, o, us, e1, e2, e3, e4⟩ := ptr_cells hr h2 hm
  obtain ⟨u, g1, g2⟩ := VS_get e2 hc
  rw [e1] at h1
  refine ⟨u, g2, hr.old fun w' hs => Eng.y_load ht h1 fun w1 hG => ?_⟩
  have : w1.heap[b]? = w'.heap[b]? := by
    have hlt := World.block_lt_of_cell? w' _ (e4 w' hs 0 u g1)
    exact (hG.snap w' (.head _)).blk b hlt (fun p hp => by cases hp)
  rw [World.cell?_of_block (w := w') this]
  exact e4 w' hs 0 u g1

theorem y_loadA {v : A} {cs ds : List A} (ht : TI P t size by' zero true) (hx : ev E x = some v) (hm : PM st v = some cs) (hc : cs.take size = ds) (hl : ds.length = size) : YO P E st (.load t x) ty (.ag ds) := by
  intro w0 X0 n β X a w hr
  subst hc
  obtain ⟨h1, h2⟩ := hr.evo hx
  obtain ⟨b, o, us, e1, e2, e3, e4⟩ := ptr_cells hr h2 hm
  rw [e1] at h1
  refine ⟨.agg (us.take size).toArray, ?_, hr.old fun w' hs => Eng.y_loadagg (us := us.take size) ht h1 ((VS_len (VS_take e2 size)).trans hl) fun w1 hG j u hj => ?_⟩
  · simp only [V]
    exact ⟨_, rfl, VS_take e2 _, fun x hx => e3 x (List.mem_of_mem_take hx)⟩
  · rw [List.getElem?_take] at hj
    split at hj
    · have hcell := e4 w' hs j u hj
      have : w1.heap[b]? = w'.heap[b]? := (hG.snap w' (.head _)).blk b (World.block_lt_of_cell? w' _ hcell) (fun p hp => by cases hp)
      rw [World.cell?_of_block (w := w') this]
      exact hcell
    · cases hj

/-- A whole object. -/
theorem y_loadA0 {id : Nat} {cs : List A} (ht : TI P t size by' zero true) (hx : ev E x = some (.p id 0)) (hg : st.get id = some cs) (hl : cs.length = size) : YO P E st (.load t x) ty (.ag cs) :=
  y_loadA ht hx (cs := cs) (by simp [PM, hg]) (List.take_of_length_le (by omega)) hl

theorem y_nilc {v : A} {cs : List A} (hx : ev E x = some v) (hm : PM st v = some cs) : YO P E st (.nilCheck x) ty v := by
  intro w0 X0 n β X a w hr
  obtain ⟨h1, h2⟩ := hr.evo hx
  obtain ⟨b, o, us, e1, e2, e3, e4⟩ := ptr_cells hr h2 hm
  rw [e1] at h1
  exact ⟨_, by rw [← e1]; exact h2, hr.old fun w' hs => Eng.y_nilc h1⟩

/-- The address of an element of a slice that nobody turns. -/
theorem y_ixf {k : IntKind} {iv : Int} {m : Nat} {cs ds : List A} (j : Nat) (ht : P.underlying t = some (.slice e)) (he : TI P e size by' zero agg) (hx : ev E x = some (.fz m cs)) (hi : ev E i = some (.i k iv)) (hj : iv = (j : Int)) (hlt : j < m) (hd : cs.drop (j * size) = ds) :
    YO P E st (.indexAddr t x i) ty (.fp ds) := by
  intro w0 X0 n β X a w hr
  subst hd
  obtain ⟨h1, h2⟩ := hr.evo hx
  obtain ⟨h3, h4⟩ := hr.evo hi
  rw [V_i] at h4; rw [h4] at h3
  simp only [V] at h2
  obtain ⟨ad, cap, e1, e2, e3, e4, e5, e6⟩ := h2
  have had : ad = some ⟨ab ad, ao ad, none⟩ := by
    cases ad with
    | none => have := e4 rfl; omega
    | some z => have := e5 (by omega) z rfl; cases z; simp_all [ab, ao]
  rw [e1] at h1
  exact ⟨.pointer (some ⟨ab ad, ao ad + j * size, none⟩), by simp only [V]; exact ⟨_, _, rfl, VM_drop e6 _⟩, hr.old fun w' hs => Eng.y_idx j _ ht he h1 h3 hj hlt had rfl⟩

/-- .. of a slice of the call's own. -/
theorem y_ixs {k : IntKind} {iv : Int} {id s off m o : Nat} {cs : List A} (j : Nat) (ht : P.underlying t = some (.slice e)) (he : TI P e size by' zero agg) (hx : ev E x = some (.sl id s off m)) (hi : ev E i = some (.i k iv)) (_hg : st.get id = some cs) (hj : iv = (j : Int)) (hlt : j < m) (ho : off + j * size = o) :
    YO P E st (.indexAddr t x i) ty (.p id o) := by
  intro w0 X0 n β X a w hr
  subst ho
  obtain ⟨h1, h2⟩ := hr.evo hx
  obtain ⟨h3, h4⟩ := hr.evo hi
  rw [V_i] at h4; rw [h4] at h3
  simp only [V] at h2
  rcases h2 with ⟨_, rfl, _⟩ | ⟨b, N, cap, hb, e1, _⟩
  · omega
  · rw [e1] at h1
    exact ⟨.pointer (some ⟨b, off + j * size, none⟩), by simp only [V]; exact ⟨b, N, hb, rfl⟩, hr.old fun w' hs => Eng.y_idxo j _ ht he h1 h3 hj hlt rfl⟩

/-- .. of an array in memory. -/
theorem y_ixa {k : IntKind} {iv : Int} {id off len o : Nat} (j : Nat) (ht : P.underlying t = some (.array len e)) (he : TI P e size by' zero agg) (hx : ev E x = some (.p id off)) (hi : ev E i = some (.i k iv)) (hj : iv = (j : Int)) (hlt : j < len) (ho : off + j * size = o) :
    YO P E st (.indexAddr t x i) ty (.p id o) := by
  intro w0 X0 n β X a w hr
  subst ho
  obtain ⟨h1, h2⟩ := hr.evo hx
  obtain ⟨h3, h4⟩ := hr.evo hi
  rw [V_i] at h4; rw [h4] at h3
  simp only [V] at h2
  obtain ⟨b, N, hb, e1⟩ := h2
  rw [e1] at h1
  exact ⟨.pointer (some ⟨b, off + j * size, none⟩), by simp only [V]; exact ⟨b, N, hb, rfl⟩, hr.old fun w' hs => Eng.y_idxa j _ ht he h1 h3 hj hlt rfl⟩

/-- .. of an array that nobody turns. -/
theorem y_ixfa {k : IntKind} {iv : Int} {len : Nat} {cs ds : List A} (j : Nat) (ht : P.underlying t = some (.array len e)) (he : TI P e size by' zero agg) (hx : ev E x = some (.fp cs)) (hi : ev E i = some (.i k iv)) (hj : iv = (j : Int)) (hlt : j < len) (hd : cs.drop (j * size) = ds) :
    YO P E st (.indexAddr t x i) ty (.fp ds) := by
  intro w0 X0 n β X a w hr
  subst hd
  obtain ⟨h1, h2⟩ := hr.evo hx
  obtain ⟨h3, h4⟩ := hr.evo hi
  rw [V_i] at h4; rw [h4] at h3
  simp only [V] at h2
  obtain ⟨b, o, e1, e2⟩ := h2
  rw [e1] at h1
  exact ⟨.pointer (some ⟨b, o + j * size, none⟩), by simp only [V]; exact ⟨_, _, rfl, VM_drop e2 _⟩, hr.old fun w' hs => Eng.y_idxa j _ ht he h1 h3 hj hlt rfl⟩

theorem y_fld {s : TypeId} {fs : Array Field} {f : Field} {id o k o' : Nat} (hs : P.underlying s = some (.struct fs)) (hf : fs[k]? = some f) (he : TI P f.type size by' zero agg) (hsz : size ≠ 0) (hx : ev E x = some (.p id o)) (ho : o + f.offset = o') : YO P E st (.fieldAddr s x k) ty (.p id o') := by
  intro w0 X0 n β X a w hr
  subst ho
  obtain ⟨h1, h2⟩ := hr.evo hx
  simp only [V] at h2
  obtain ⟨b, N, hb, e1⟩ := h2
  rw [e1] at h1
  exact ⟨.pointer (some ⟨b, o + f.offset, none⟩), by simp only [V]; exact ⟨b, N, hb, rfl⟩, hr.old fun w' _ => Eng.y_fld hs hf he hsz h1 rfl⟩

theorem y_fldf {s : TypeId} {fs : Array Field} {f : Field} {cs ds : List A} {k : Nat} (hs : P.underlying s = some (.struct fs)) (hf : fs[k]? = some f) (he : TI P f.type size by' zero agg) (hsz : size ≠ 0) (hx : ev E x = some (.fp cs)) (ho : cs.drop f.offset = ds) : YO P E st (.fieldAddr s x k) ty (.fp ds) := by
  intro w0 X0 n β X a w hr
  subst ho
  obtain ⟨h1, h2⟩ := hr.evo hx
  simp only [V] at h2
  obtain ⟨b, o, e1, e2⟩ := h2
  rw [e1] at h1
  exact ⟨.pointer (some ⟨b, o + f.offset, none⟩), by simp only [V]; exact ⟨_, _, rfl, VM_drop e2 _⟩, hr.old fun w' _ => Eng.y_fld hs hf he hsz h1 rfl⟩

theorem y_len {v : A} {m : Nat} {cs : List A} {ats : Array TypeId} (ht : P.underlying t = some (.slice e)) (hx : ev E x = some v) (hm : SM st v = some (m, cs)) (hats : ats = #[t]) :
    YO P E st (.call { callee := .builtin .len, args := #[x], argTypes := ats }) ty (.i .i64 (m : Int)) := by
  intro w0 X0 n β X a w hr
  obtain ⟨h1, h2⟩ := hr.evo hx
  have : ∃ ad cap, a.eval x = .slice ad m cap := by
    unfold SM at hm
    split at hm
    · simp only [Option.some.injEq, Prod.mk.injEq] at hm
      obtain ⟨rfl, rfl⟩ := hm
      simp only [V] at h2
      exact ⟨_, _, h2⟩
    · simp only [Option.some.injEq, Prod.mk.injEq] at hm
      obtain ⟨rfl, rfl⟩ := hm
      simp only [V] at h2
      obtain ⟨ad, cap, e1, _⟩ := h2
      exact ⟨_, _, e1⟩
    · obtain ⟨ds, hg, he⟩ := Option.map_eq_some_iff.1 hm
      simp only [Prod.mk.injEq] at he
      obtain ⟨rfl, rfl⟩ := he
      simp only [V] at h2
      rcases h2 with ⟨_, rfl, _, e1⟩ | ⟨b, N, cap, _, e1, _⟩
      · exact ⟨_, _, e1⟩
      · exact ⟨_, _, e1⟩
    · cases hm
  obtain ⟨ad, cap, e1⟩ := this
  rw [e1] at h1
  exact ⟨_, by simp only [V], hr.old fun w' _ => Eng.y_len ht h1 hats⟩

theorem y_lens {l : List UInt8} {ats : Array TypeId} (ht : P.underlying t = some .string) (hx : ev E x = some (.s l)) (hats : ats = #[t]) :
    YO P E st (.call { callee := .builtin .len, args := #[x], argTypes := ats }) ty (.i .i64 (l.length : Int)) := by
  intro w0 X0 n β X a w hr
  obtain ⟨h1, h2⟩ := hr.evo hx
  rw [V_s] at h2
  rw [h2] at h1
  refine ⟨.int .i64 l.length, by simp only [V], hr.old fun w' _ => ?_⟩
  have := Eng.y_lens (S := [w']) (H := []) (n := a.tmps.size) (ty := ty) ht h1 hats
  simpa [ByteArray.size] using this

/-- Bounds of a part. -/
def BndA (E : Ev) (x : Option Operand) (dflt val : Nat) : Prop := (x = none ∧ val = dflt) ∨ ∃ y k iv, x = some y ∧ ev E y = some (.i k iv) ∧ iv = (val : Int)
theorem bn {d : Nat} : BndA E none d d := .inl ⟨rfl, rfl⟩
theorem bs {d v : Nat} {y : Operand} {k : IntKind} {iv : Int} (h : ev E y = some (.i k iv)) (hv : iv = (v : Int)) : BndA E (some y) d v := .inr ⟨y, k, iv, rfl, h, hv⟩
theorem BndA.old (hr : RelQ w0 X0 n E st β X a w) {x : Option Operand} {d v : Nat} (h : BndA E x d v) : Bnd (full a) x d v := by
  rcases h with h | ⟨y, k, iv, h1, h2, h3⟩
  · exact .inl h
  · obtain ⟨g1, g2⟩ := hr.evo h2
    rw [V_i] at g2
    rw [g2] at g1
    exact .inr ⟨y, k, iv, h1, g1, h3⟩

/-- A part of a slice that nobody turns. -/
theorem y_cutf {lo hi : Option Operand} {m l h : Nat} {cs ds : List A} (k : Nat) (ht : P.underlying t = some (.slice e)) (he : TI P e size by' zero agg) (hx : ev E x = some (.fz m cs)) (hl : cs.length = m * size) (hlo : BndA E lo 0 l) (hhi : BndA E hi m h) (h1 : l ≤ h) (h2 : h ≤ m) (hk : h - l = k) (hd : (cs.drop (l * size)).take (k * size) = ds) :
    YO P E st (.slice t x lo hi none) ty (.fz k ds) := by
  intro w0 X0 n β X a w hr
  subst hk; subst hd
  obtain ⟨g1, g2⟩ := hr.evo hx
  simp only [V] at g2
  obtain ⟨ad, cap, e1, e2, e3, e4, e5, e6⟩ := g2
  rw [e1] at g1
  refine ⟨.slice (ash ad cap l size) (h - l) (cap - l), ?_, hr.old fun w' _ => Eng.y_slice _ _ _ ht he g1 (hlo.old hr) (hhi.old hr) h1 (by omega) rfl rfl rfl⟩
  obtain ⟨us, v1, v2, v3⟩ := VM_vals e6
  have hsl : Sl w size ad m cap us := ⟨by rw [VS_len v1, hl], e2, e3, e4, e5, v3⟩
  have hd := hsl.drop l h h1 h2
  simp only [V]
  refine ⟨_, _, rfl, hd.le, hd.max, hd.nil, hd.spot, ?_⟩
  rw [ab_ash]
  refine VM_of fun j c hj => ?_
  have hj' := hj
  rw [List.getElem?_take] at hj
  split at hj
  · rw [List.getElem?_drop] at hj
    obtain ⟨u, q1, q2⟩ := VS_get (VS_take (VS_drop v1 (l * size)) ((h - l) * size)) hj'
    obtain ⟨x1, u', x2, x3, x4⟩ := VM_get e6 hj
    have hcl := hd.cell j u q1
    rw [ab_ash] at hcl
    have heq : ao (ash ad cap l size) + j = ao ad + (l * size + j) := by
      have hne : cap ≠ l := by
        rename_i hjl
        have : 0 < h - l := by
          rcases Nat.eq_zero_or_pos (h - l) with hz | hz
          · rw [hz] at hjl; simp at hjl
          · exact hz
        omega
      unfold ash
      rw [if_neg hne]
      cases ad with
      | none => have := e4 rfl; omega
      | some z => simp only [Option.map_some, ao]; unfold Addr.add; split <;> simp_all [Nat.add_assoc]
    rw [heq]
    exact ⟨x1, u', x2, x3, x4⟩
  · cases hj

/-- A part of an array of the call's own, or of a slice of the call's own. -/
theorem y_cuta {len : Nat} {lo hi : Option Operand} {id o l h o' : Nat} {cs : List A} (k : Nat) (ht : P.underlying t = some (.array len e)) (he : TI P e size by' zero agg) (hx : ev E x = some (.p id o)) (hg : st.get id = some cs) (hfit : o + len * size ≤ cs.length) (hml : len ≤ maxLen) (hlo : BndA E lo 0 l) (hhi : BndA E hi len h) (h1 : l ≤ h) (h2 : h ≤ len)
    (hk : h - l = k) (ho : o + (if len = l then 0 else l * size) = o') : YO P E st (.slice t x lo hi none) ty (.sl id size o' k) := by
  intro w0 X0 n β X a w hr
  subst hk; subst ho
  obtain ⟨g1, g2⟩ := hr.evo hx
  simp only [V] at g2
  obtain ⟨b, N, hb, e1⟩ := g2
  obtain ⟨us, q1, q2, q3, _⟩ := own_cells hr hg hb
  have hcl := VS_len q1
  rw [e1] at g1
  refine ⟨.slice (some ⟨b, o + (if len = l then 0 else l * size), none⟩) (h - l) (len - l), ?_, hr.old fun w' _ => Eng.y_slicea _ _ _ ht he g1 (hlo.old hr) (hhi.old hr) h1 h2 ?_ rfl rfl⟩
  · simp only [V]
    refine .inr ⟨b, N, len - l, hb, rfl, by omega, by omega, ?_⟩
    split
    · rename_i h; subst h; simp; omega
    · have : (len - l) * size + l * size = len * size := by rw [← Nat.add_mul]; congr 1; omega
      omega
  · unfold ash
    split
    · rfl
    · simp [addr_add]

theorem y_cuta0 {len : Nat} {id o : Nat} {cs : List A} (ht : P.underlying t = some (.array len e)) (he : TI P e size by' zero agg) (hx : ev E x = some (.p id o)) (hg : st.get id = some cs) (hfit : o + len * size ≤ cs.length) (hml : len ≤ maxLen) : YO P E st (.slice t x none none none) ty (.sl id size o len) :=
  (y_cuta len ht he hx hg hfit hml bn bn (Nat.zero_le _) (Nat.le_refl _) (Nat.sub_zero _) (o' := o) (by split <;> simp))

theorem SM_full {id s m : Nat} {cs : List A} (hg : st.get id = some cs) (hl : cs.length = m * s) : SM st (.sl id s 0 m) = some (m, cs) := by
  simp only [SM, hg, Option.map_some, List.drop_zero]
  rw [List.take_of_length_le (by omega)]

theorem y_cuts {lo hi : Option Operand} {id s o m l h o' : Nat} (k : Nat) (ht : P.underlying t = some (.slice e)) (he : TI P e size by' zero agg) (hx : ev E x = some (.sl id s o m)) (hs : s = size) (hlo : BndA E lo 0 l) (hhi : BndA E hi m h) (h1 : l < h) (h2 : h ≤ m)
    (hk : h - l = k) (ho : o + l * size = o') : YO P E st (.slice t x lo hi none) ty (.sl id size o' k) := by
  intro w0 X0 n β X a w hr
  subst hk; subst ho; subst hs
  obtain ⟨g1, g2⟩ := hr.evo hx
  simp only [V] at g2
  rcases g2 with ⟨_, rfl, _⟩ | ⟨b, N, cap, hb, e1, e2, e3, e4⟩
  · omega
  · rw [e1] at g1
    refine ⟨.slice (some ⟨b, o + l * s, none⟩) (h - l) (cap - l), ?_, hr.old fun w' _ => Eng.y_slice _ _ _ ht he g1 (hlo.old hr) (hhi.old hr) (by omega) (by omega) ?_ rfl rfl⟩
    · simp only [V]
      refine .inr ⟨b, N, cap - l, hb, rfl, by omega, by omega, ?_⟩
      have : (cap - l) * s + l * s = cap * s := by rw [← Nat.add_mul]; congr 1; omega
      omega
    · unfold ash
      rw [if_neg (by omega)]
      simp [addr_add]

/-- '[]byte' to a string. -/
theorem y_str {src dst e : TypeId} {v : A} {m : Nat} {l : List UInt8} (hs : P.underlying src = some (.slice e)) (he : P.underlying e = some (.int .u8)) (hd : P.underlying dst = some .string) (hx : ev E x = some v) (hm : SM st v = some (m, l.map u8)) (hl : l.length = m) : YO P E st (.convert src dst x) ty (.s l) := by
  intro w0 X0 n β X a w hr
  obtain ⟨h1, h2⟩ := hr.evo hx
  obtain ⟨ad, cap, us, e1, e2, e3, e4⟩ := slice_cells (s := 1) hr h2 hm (by simp [hl])
  have hus : us = l.map B := by
    clear e3 e4 hm hl
    revert us
    induction l with
    | nil => intro us e2; simpa [VS] using e2
    | cons c l ih => intro us e2; simp only [List.map_cons, VS] at e2; obtain ⟨u, r, rfl, h3, h4⟩ := e2; rw [V_i] at h3; rw [h3, ih _ h4]; rfl
  subst hus
  rw [e1] at h1
  refine ⟨.string ⟨l.toArray⟩, by simp only [V], hr.old fun w' hs' => Eng.y_str (s := ⟨ad, m, cap⟩) hs he hd h1 fun w1 hG => ?_⟩
  have hb : Bytes w' ⟨ad, m, cap⟩ l := ⟨hl.symm, e4 w' hs'⟩
  exact hb.move fun hlt => (hG.snap w' (.head _)).blk _ hlt (fun p hp => by cases hp)

/-- A slice held against nil. -/
theorem y_nil {t' : TypeId} (ht : P.underlying t = some (.slice e)) (hx : ev E x = some .nl) (hy : ev E y = some .nl) : YO P E st (.binOp .eql t x y t') ty (.b true) := by
  intro w0 X0 n β X a w hr
  obtain ⟨h1, h2⟩ := hr.evo hx
  obtain ⟨h3, h4⟩ := hr.evo hy
  simp only [V] at h2 h4
  rw [h2] at h1; rw [h4] at h3
  exact ⟨_, by simp only [V]; rfl, hr.old fun w' _ => Eng.y_nil ht h1 h3⟩

theorem y_func {f : Go.Fn} {fst cap : List Operand} {us vs : List A} (h1 : fst.map (ev E) = us.map some) (h2 : cap.map (ev E) = vs.map some) : YO P E st (.makeFunc f fst.toArray cap.toArray) ty (.fn f us vs) := by
  intro w0 X0 n β X a w hr
  have key : ∀ (l : List Operand) (vs : List A), l.map (ev E) = vs.map some → ∃ us, Eng.evs (full a) l = some us ∧ VS X w β vs us := by
    intro l
    induction l with
    | nil => intro vs h; cases vs with
      | nil => exact ⟨[], rfl, VS_nil⟩
      | cons _ _ => simp at h
    | cons o l ih => intro vs h; cases vs with
      | nil => simp at h
      | cons v vs =>
        simp only [List.map_cons, List.cons.injEq] at h
        obtain ⟨us, g1, g2⟩ := ih vs h.2
        obtain ⟨g3, g4⟩ := hr.evo h.1
        exact ⟨_, by simp only [Eng.evs, g3, g1], VS_cons g4 g2⟩
  obtain ⟨u1, g1, g2⟩ := key fst us h1
  obtain ⟨u2, g3, g4⟩ := key cap vs h2
  exact ⟨_, by simp only [V]; exact ⟨_, _, rfl, g2, g4⟩, hr.old fun w' _ => Eng.y_func g1 g3⟩
end mem
end
end Go.Abs
