/-
  The engine, part D: slices, strings, bytes. Conditions: none; nothing of any program stands here.
-/
import Derived.Test.YtjnbpinnjbdnpaaEngC
namespace Go.Eng

def ab : Option Addr → Nat
  | some a => a.block
  | none => 0
def ao : Option Addr → Nat
  | some a => a.off
  | none => 0

/-- In the world 'w' the slice value '.slice a n cap', of elements of 's' cells, reads as these cells. -/
structure Sl (w : World) (s : Nat) (a : Option Addr) (n cap : Nat) (cs : List Value) : Prop where
  len : cs.length = n * s
  le : n ≤ cap
  max : cap ≤ maxLen
  nil : a = none → cap = 0
  spot : 0 < cap → ∀ x, a = some x → x.spot = none
  cell : ∀ j u, cs[j]? = some u → w.cell? ⟨ab a, ao a + j, none⟩ = some u

theorem Sl.addr {w s a n cap cs} (h : Sl w s a n cap cs) (hn : 0 < n) : a = some ⟨ab a, ao a, none⟩ := by
  cases a with
  | none => have := h.nil rfl; have := h.le; omega
  | some x =>
    have := h.spot (by have := h.le; omega) x rfl
    cases x
    simp_all [ab, ao]

theorem Sl.lt {w s a n cap cs} (h : Sl w s a n cap cs) (hn : cs ≠ []) : ab a < w.heap.size := by
  cases cs with
  | nil => exact absurd rfl hn
  | cons u r => exact World.block_lt_of_cell? w ⟨ab a, ao a + 0, none⟩ (h.cell 0 u rfl)

theorem Sl.nilv (w : World) (s : Nat) : Sl w s none 0 0 [] := ⟨by simp, Nat.le_refl _, Nat.zero_le _, fun _ => rfl, (fun _ _ h => by cases h), (fun j u h => by simp at h)⟩

/-- Every own block is another one, or is younger than the snapshot. -/
def offAll : List (Nat × Obj) → World → Nat → Prop
  | [], _, _ => True
  | p :: r, s, b => (p.1 ≠ b ∨ s.heap.size ≤ p.1) ∧ offAll r s b

theorem offAll_spec {s : World} {b : Nat} : ∀ {H : List (Nat × Obj)}, offAll H s b → ∀ p ∈ H, p.1 ≠ b ∨ s.heap.size ≤ p.1
  | [], _, _, hp => by cases hp
  | q :: r, h, p, hp => by
    rcases List.mem_cons.1 hp with rfl | hp
    · exact h.1
    · exact offAll_spec h.2 p hp

theorem Good.cell' {S H w} (h : Good S H w) {s} (hs : s ∈ S) {a : Addr} {v : Value} (hc : s.cell? a = some v) (hn : offAll H s a.block) : w.cell? a = some v :=
  h.cell hs hc fun p hp e => by
    rcases offAll_spec hn p hp with h1 | h1
    · exact h1 e
    · have := World.block_lt_of_cell? s a hc
      omega

/-- What a snapshot says of a slice holds still. -/
theorem Good.sl {S H w} (h : Good S H w) {s} (hs : s ∈ S) {k a n cap cs} (hc : Sl s k a n cap cs) (hn : offAll H s (ab a)) : Sl w k a n cap cs :=
  ⟨hc.len, hc.le, hc.max, hc.nil, hc.spot, fun j u hj => h.cell' hs (hc.cell j u hj) hn⟩

/-- In a world in which the block has not turned. -/
theorem Sl.move {w w' s a n cap cs} (h : Sl w s a n cap cs) (hb : ab a < w.heap.size → w'.heap[ab a]? = w.heap[ab a]?) : Sl w' s a n cap cs := by
  refine ⟨h.len, h.le, h.max, h.nil, h.spot, fun j u hj => ?_⟩
  have hc := h.cell j u hj
  have hlt := World.block_lt_of_cell? w _ hc
  rw [World.cell?_of_block (w := w) (hb hlt)]
  exact hc

theorem Sl.below {w w' s a n cap cs} (h : Sl w s a n cap cs) (hb : RowKit.Below w.heap.size w w') : Sl w' s a n cap cs := h.move fun hlt => hb.block _ hlt

/-- A prefix or a part of what is read. -/
theorem Sl.take {w s a n cap cs} (h : Sl w s a n cap cs) (k : Nat) (hk : k ≤ n) : Sl w s a k cap (cs.take (k * s)) :=
  ⟨by rw [List.length_take, h.len, Nat.min_eq_left (Nat.mul_le_mul_right s hk)], Nat.le_trans hk h.le, h.max, h.nil, h.spot, fun j u hj => by
    rw [List.getElem?_take] at hj
    split at hj
    · exact h.cell j u hj
    · cases hj⟩

/-- The address behind 's[l:..]'. -/
def ash (a : Option Addr) (cap l size : Nat) : Option Addr := if cap = l then a else a.map (·.add (l * size))

theorem ab_ash (a : Option Addr) (cap l size : Nat) : ab (ash a cap l size) = ab a := by
  unfold ash
  split
  · rfl
  · cases a with
    | none => rfl
    | some x => simp only [Option.map_some, ab]; unfold Addr.add; split <;> rfl

theorem Sl.drop {w s a n cap cs} (h : Sl w s a n cap cs) (l k : Nat) (hl : l ≤ k) (hk : k ≤ n) : Sl w s (ash a cap l s) (k - l) (cap - l) ((cs.drop (l * s)).take ((k - l) * s)) := by
  refine ⟨?_, ?_, ?_, ?_, ?_, ?_⟩
  · simp only [List.length_take, List.length_drop, h.len]
    rw [Nat.min_eq_left]
    rw [← Nat.sub_mul]
    exact Nat.mul_le_mul_right s (by omega)
  · have := h.le; omega
  · have := h.max; omega
  · intro hn
    unfold ash at hn
    split at hn
    · have := h.nil hn; omega
    · cases a with
      | none => have := h.nil rfl; omega
      | some x => simp at hn
  · intro h0 x hx
    unfold ash at hx
    split at hx
    · exact h.spot (by omega) x hx
    · cases a with
      | none => simp at hx
      | some y =>
        have := h.spot (by omega) y rfl
        simp only [Option.map_some, Option.some.injEq] at hx
        subst hx
        unfold Addr.add
        split <;> simp_all
  · intro j u hj
    rw [ab_ash]
    rw [List.getElem?_take] at hj
    split at hj
    · rename_i hjl
      rw [List.getElem?_drop] at hj
      have hc := h.cell _ _ hj
      have hlk : l < k := by
        rcases Nat.lt_or_ge l k with h1 | h1
        · exact h1
        · have : k - l = 0 := by omega
          rw [this] at hjl; simp at hjl
      have hne : cap ≠ l := by have := h.le; omega
      have : ao (ash a cap l s) = ao a + l * s := by
        unfold ash
        rw [if_neg hne]
        cases a with
        | none => have := h.nil rfl; have := h.le; omega
        | some x => simp only [Option.map_some, ao]; unfold Addr.add; split <;> simp_all
      rw [this, Nat.add_assoc]
      exact hc
    · cases hj

/-- A byte as a value. -/
abbrev B (x : UInt8) : Value := .int .u8 (x.toNat : Int)

/-- A slice value's three parts. -/
structure SV where
  a : Option Addr
  n : Nat
  cap : Nat

abbrev SV.v (s : SV) : Value := .slice s.a s.n s.cap

/-- A slice of bytes that reads as 'l'. -/
def Bytes (w : World) (s : SV) (l : List UInt8) : Prop := s.n = l.length ∧ Sl w 1 s.a s.n s.cap (l.map B)

theorem Bytes.at' {w s l} (h : Bytes w s l) {k : Nat} {x : UInt8} (hk : l[k]? = some x) : w.cell? ⟨ab s.a, ao s.a + k, none⟩ = some (B x) := h.2.cell k _ (by simp [hk])
theorem Bytes.below {w w' s l} (h : Bytes w s l) (hb : RowKit.Below w.heap.size w w') : Bytes w' s l := ⟨h.1, h.2.below hb⟩
theorem Bytes.move {w w' s l} (h : Bytes w s l) (hb : ab s.a < w.heap.size → w'.heap[ab s.a]? = w.heap[ab s.a]?) : Bytes w' s l := ⟨h.1, h.2.move hb⟩
theorem Good.bytes {S H w} (h : Good S H w) {s} (hs : s ∈ S) {v l} (hc : Bytes s v l) (hn : offAll H s (ab v.a)) : Bytes w v l := ⟨hc.1, h.sl hs hc.2 hn⟩
theorem Bytes.nilv (w : World) : Bytes w ⟨none, 0, 0⟩ [] := ⟨rfl, Sl.nilv w 1⟩

/-- An own row read as a slice. -/
theorem Sl.own {w : World} {b : Nat} {e : TypeId} {cells : List Value} {fr} (hb : w.heap[b]? = some (.cells cells.toArray e fr)) {s n cap : Nat} (hn : n ≤ cap) (hc : cap ≤ maxLen) (hl : n * s ≤ cells.length) : Sl w s (some ⟨b, 0, none⟩) n cap (cells.take (n * s)) :=
  ⟨by simp; omega, hn, hc, fun h => (by cases h), fun _ x h => (by cases h; rfl), fun j u hj => by
    rw [List.getElem?_take] at hj
    split at hj
    · simp [ab, ao, World.cell?, hb, hj]
    · cases hj⟩

theorem Bytes.own {w : World} {b : Nat} {e : TypeId} {l : List UInt8} {rest : List Value} {fr} (hb : w.heap[b]? = some (.cells (l.map B ++ rest).toArray e fr)) {cap : Nat} (hn : l.length ≤ cap) (hc : cap ≤ maxLen) : Bytes w ⟨some ⟨b, 0, none⟩, l.length, cap⟩ l := by
  refine ⟨rfl, ?_⟩
  have := Sl.own (s := 1) hb hn hc (by simp)
  simpa using this

section ops
variable {P : Program} {n : Nat} {E : Env} {S : List World} {H : List (Nat × Obj)} {Q : Exit → Act → World → Prop}

/-- The address of an element of a slice. -/
theorem y_idx {t e : TypeId} {size by' zero agg} {x i : Operand} {a : Option Addr} {m cap : Nat} {k : IntKind} {iv : Int} {ty : TypeId} (j o : Nat) (ht : P.underlying t = some (.slice e)) (he : TI P e size by' zero agg)
    (hx : ev E x = some (.slice a m cap)) (hi : ev E i = some (.int k iv)) (hj : iv = (j : Int)) (hlt : j < m) (ha : a = some ⟨ab a, ao a, none⟩) (ho : ao a + j * size = o) :
    YO P n E S H (.indexAddr t x i) ty (.pointer (some ⟨ab a, o, none⟩)) := by
  intro d pos aft g a' w hR hG
  subst hj
  have h1 : (Instr.indexAt t (.slice a m cap) (.int k (j : Int))).run P w = .ok (.pointer (some ⟨ab a, o, none⟩)) w := by
    rw [ha]
    simp only [Instr.indexAt, asIntOf, Sem.run_bind, Sem.run_pure, Result.andThen_ok, run_underlying ht]
    rw [if_pos ⟨by omega, by omega⟩]
    simp only [Sem.run_bind, he.sizeOf w, Result.andThen_ok, Sem.run_pure, addr_add, Int.toNat_natCast, ho, ab]
  simp [execOp, hR.ev hx, hR.ev hi, h1]

/-- Elements of one cell. -/
theorem y_idx1 {t e : TypeId} {by' zero agg} {x i : Operand} {a : Option Addr} {m cap : Nat} {k : IntKind} {iv : Int} {ty : TypeId} (j : Nat) (ht : P.underlying t = some (.slice e)) (he : TI P e 1 by' zero agg)
    (hx : ev E x = some (.slice a m cap)) (hi : ev E i = some (.int k iv)) (hj : iv = (j : Int)) (hlt : j < m) (ha : a = some ⟨ab a, ao a, none⟩) :
    YO P n E S H (.indexAddr t x i) ty (.pointer (some ⟨ab a, ao a + j, none⟩)) := y_idx j _ ht he hx hi hj hlt ha (by omega)

/-- An own row. -/
theorem y_idxo {t e : TypeId} {size by' zero agg} {x i : Operand} {b off : Nat} {m cap : Nat} {k : IntKind} {iv : Int} {ty : TypeId} (j o : Nat) (ht : P.underlying t = some (.slice e)) (he : TI P e size by' zero agg)
    (hx : ev E x = some (.slice (some ⟨b, off, none⟩) m cap)) (hi : ev E i = some (.int k iv)) (hj : iv = (j : Int)) (hlt : j < m) (ho : off + j * size = o) :
    YO P n E S H (.indexAddr t x i) ty (.pointer (some ⟨b, o, none⟩)) := y_idx (a := some ⟨b, off, none⟩) j o ht he hx hi hj hlt rfl ho

/-- The address of an element of an array in memory. -/
theorem y_idxa {t e : TypeId} {len size by' zero agg} {x i : Operand} {b off : Nat} {k : IntKind} {iv : Int} {ty : TypeId} (j o : Nat) (ht : P.underlying t = some (.array len e)) (he : TI P e size by' zero agg)
    (hx : ev E x = some (.pointer (some ⟨b, off, none⟩))) (hi : ev E i = some (.int k iv)) (hj : iv = (j : Int)) (hlt : j < len) (ho : off + j * size = o) :
    YO P n E S H (.indexAddr t x i) ty (.pointer (some ⟨b, o, none⟩)) := by
  intro d pos aft g a' w hR hG
  subst hj
  have h1 : (Instr.indexAt t (.pointer (some ⟨b, off, none⟩)) (.int k (j : Int))).run P w = .ok (.pointer (some ⟨b, o, none⟩)) w := by
    simp only [Instr.indexAt, asIntOf, Sem.run_bind, Sem.run_pure, Result.andThen_ok, run_underlying ht, Instr.sureAddr]
    rw [if_pos ⟨by omega, by omega⟩]
    simp only [Sem.run_bind, he.sizeOf w, Result.andThen_ok, Sem.run_pure, addr_add, Int.toNat_natCast, ho]
  simp [execOp, hR.ev hx, hR.ev hi, h1]

theorem y_len {t e : TypeId} {x : Operand} {a : Option Addr} {m cap : Nat} {ats : Array TypeId} {ty : TypeId} (ht : P.underlying t = some (.slice e)) (hx : ev E x = some (.slice a m cap)) (hats : ats = #[t]) :
    YO P n E S H (.call { callee := .builtin .len, args := #[x], argTypes := ats }) ty (.int .i64 (m : Int)) := by
  intro d pos aft g a' w hR hG
  subst hats
  simp [execOp, resolve, invoke, builtin, hR.ev hx, Builtin.len_, run_underlying ht, goInt]

theorem y_lens {t : TypeId} {x : Operand} {s : ByteArray} {ats} {ty : TypeId} (ht : P.underlying t = some .string) (hx : ev E x = some (.string s)) (hats : ats = #[t]) :
    YO P n E S H (.call { callee := .builtin .len, args := #[x], argTypes := ats }) ty (.int .i64 (s.size : Int)) := by
  intro d pos aft g a' w hR hG
  subst hats
  simp [execOp, resolve, invoke, builtin, hR.ev hx, Builtin.len_, run_underlying ht, goInt]

/-- Conversions between integers. -/
theorem y_conv {src dst : TypeId} {x : Operand} {k k' : IntKind} {m : Int} {ty : TypeId} {ds : TypeDesc} (hs : P.underlying src = some ds) (ht : P.underlying dst = some (.int k')) (hx : ev E x = some (.int k m)) :
    YO P n E S H (.convert src dst x) ty (.int k' (k'.wrap m)) := by
  intro d pos aft g a' w hR hG
  have : (convert src dst (.int k m)).run P w = .ok (.int k' (k'.wrap m)) w := by
    unfold convert
    simp only [Sem.run_bind, run_underlying hs, run_underlying ht, Result.andThen_ok]
    rfl
  simp [execOp, hR.ev hx, this]

theorem y_quo {t t' : TypeId} {x y : Operand} {k : IntKind} {a b : Int} {ty : TypeId} (hx : ev E x = some (.int k a)) (hy : ev E y = some (.int k b)) (hb : b ≠ 0) :
    YO P n E S H (.binOp .quo t x y t') ty (.int k (k.wrap (a.tdiv b))) := by
  intro d pos aft g a' w hR hG
  simp [execOp, hR.ev hx, hR.ev hy, eqGuard, binOp, Op.intDiv, hb]

theorem y_rem {t t' : TypeId} {x y : Operand} {k : IntKind} {a b : Int} {ty : TypeId} (hx : ev E x = some (.int k a)) (hy : ev E y = some (.int k b)) (hb : b ≠ 0) :
    YO P n E S H (.binOp .rem t x y t') ty (.int k (a.tmod b)) := by
  intro d pos aft g a' w hR hG
  simp [execOp, hR.ev hx, hR.ev hy, eqGuard, binOp, Op.intDiv, hb]

theorem y_shl {t t' : TypeId} {x y : Operand} {k k' : IntKind} {a b : Int} {ty : TypeId} (hx : ev E x = some (.int k a)) (hy : ev E y = some (.int k' b)) (hb : 0 ≤ b) :
    YO P n E S H (.binOp .shl t x y t') ty (.int k (k.wrap (a * 2 ^ min b.toNat k.bits))) := by
  intro d pos aft g a' w hR hG
  simp [execOp, hR.ev hx, hR.ev hy, eqGuard, binOp, Op.shift, show ¬ b < 0 by omega]

theorem y_shr {t t' : TypeId} {x y : Operand} {k k' : IntKind} {a b : Int} {ty : TypeId} (hx : ev E x = some (.int k a)) (hy : ev E y = some (.int k' b)) (hb : 0 ≤ b) :
    YO P n E S H (.binOp .shr t x y t') ty (.int k (a.fdiv (2 ^ min b.toNat k.bits))) := by
  intro d pos aft g a' w hR hG
  simp [execOp, hR.ev hx, hR.ev hy, eqGuard, binOp, Op.shift, show ¬ b < 0 by omega]

/-- The bits of two numbers of one kind. -/
def ibits (op : BinOp) (k : IntKind) (a b : Int) : Int :=
  match op with
  | .and => k.wrap ((BitVec.ofInt k.bits a &&& BitVec.ofInt k.bits b).toNat)
  | .or => k.wrap ((BitVec.ofInt k.bits a ||| BitVec.ofInt k.bits b).toNat)
  | .xor => k.wrap ((BitVec.ofInt k.bits a ^^^ BitVec.ofInt k.bits b).toNat)
  | _ => k.wrap ((BitVec.ofInt k.bits a &&& ~~~BitVec.ofInt k.bits b).toNat)

theorem y_bits {op : BinOp} {t t' : TypeId} {x y : Operand} {k : IntKind} {a b : Int} {ty : TypeId} (hx : ev E x = some (.int k a)) (hy : ev E y = some (.int k b)) (hop : op = .and ∨ op = .or ∨ op = .xor ∨ op = .andNot) :
    YO P n E S H (.binOp op t x y t') ty (.int k (ibits op k a b)) := by
  intro d pos aft g a' w hR hG
  rcases hop with rfl | rfl | rfl | rfl <;> simp [execOp, hR.ev hx, hR.ev hy, eqGuard, binOp, Op.intBits, ibits]

theorem Bytes.shape {w : World} {s : SV} {l : List UInt8} (h : Bytes w s l) : (s.a = none ∧ l = []) ∨ (∃ x, s.a = some x ∧ l = []) ∨ s.a = some ⟨ab s.a, ao s.a, none⟩ := by
  cases ha : s.a with
  | none =>
    have h1 := h.2.nil ha
    have h2 := h.2.le
    have h3 := h.1
    exact .inl ⟨rfl, List.eq_nil_of_length_eq_zero (by omega)⟩
  | some x =>
    right
    by_cases h0 : 0 < s.cap
    · have hsp := h.2.spot h0 x ha
      cases x
      simp_all [ab, ao]
    · have h2 := h.2.le
      have h3 := h.1
      exact .inl ⟨x, rfl, List.eq_nil_of_length_eq_zero (by omega)⟩

/-- '[]byte' to a string. -/
theorem y_str {src dst e : TypeId} {x : Operand} {s : SV} {l : List UInt8} {ty : TypeId} (hs : P.underlying src = some (.slice e)) (he : P.underlying e = some (.int .u8)) (hd : P.underlying dst = some .string)
    (hx : ev E x = some (.slice s.a s.n s.cap)) (hb : ∀ w, Good S H w → Bytes w s l) : YO P n E S H (.convert src dst x) ty (.string ⟨l.toArray⟩) := by
  intro d pos aft g a' w hR hG
  have h := hb w hG
  have key : (convert src dst (.slice s.a s.n s.cap)).run P w = .ok (.string ⟨l.toArray⟩) w := by
    rcases h.shape with ⟨ha, rfl⟩ | ⟨x, ha, rfl⟩ | ha
    · rw [ha, run_convert_bytes_string w src dst e none s.n s.cap hs he hd]
      rfl
    · rw [ha, h.1]
      exact run_convert_bytes_back w src dst e x s.cap [] hs he hd (fun j hj => absurd hj (by simp))
    · rw [ha, h.1]
      exact run_convert_bytes_back w src dst e _ s.cap l hs he hd (fun j hj => by rw [addr_add]; exact h.at' (List.getElem?_eq_getElem hj))
  simp [execOp, hR.ev hx, key]

/-- A part of a slice. The bounds are given as values or left out. -/
def Bnd (E : Env) (x : Option Operand) (dflt val : Nat) : Prop := (x = none ∧ val = dflt) ∨ ∃ y k iv, x = some y ∧ ev E y = some (.int k iv) ∧ iv = (val : Int)

theorem bnd_none {d : Nat} : Bnd E none d d := .inl ⟨rfl, rfl⟩
theorem bnd_some {d v : Nat} {y : Operand} {k : IntKind} {iv : Int} (h : ev E y = some (.int k iv)) (hv : iv = (v : Int)) : Bnd E (some y) d v := .inr ⟨y, k, iv, rfl, h, hv⟩

theorem run_sliceBounds {isSlice : Bool} {len cap l h : Nat} {lo hi : Option Operand} {a : Act} (hR : Rep n E a) (hlo : Bnd E lo 0 l) (hhi : Bnd E hi len h) (h1 : l ≤ h) (h2 : h ≤ cap) (w : World) :
    (Instr.sliceBounds isSlice len cap (lo.map a.eval) (hi.map a.eval) none).run P w = .ok (l, h, cap) w := by
  have e2 : (match (hi.map a.eval) with
      | some v => Instr.sliceBound v cap (if isSlice then .sliceAcap else .sliceAlen)
      | none => pure len : Sem Nat).run P w = .ok h w := by
    rcases hhi with ⟨rfl, rfl⟩ | ⟨y, k, iv, rfl, hy, rfl⟩
    · rfl
    · simp [hR.ev hy, Instr.sliceBound, asIntOf, h2]
  have e3 : (match (lo.map a.eval) with
      | some v => Instr.sliceBound v h .sliceB
      | none => pure 0 : Sem Nat).run P w = .ok l w := by
    rcases hlo with ⟨rfl, rfl⟩ | ⟨y, k, iv, rfl, hy, rfl⟩
    · rfl
    · simp [hR.ev hy, Instr.sliceBound, asIntOf, h1]
  unfold Instr.sliceBounds
  cases hi with
  | none =>
    cases lo with
    | none =>
      simp only [Option.map_none] at e2 e3 ⊢
      simp only [Sem.run_bind, Sem.run_pure, Result.andThen_ok] at e2 e3 ⊢
      simp_all
    | some y =>
      simp only [Option.map_none, Option.map_some] at e2 e3 ⊢
      simp only [Sem.run_bind, Sem.run_pure, Result.andThen_ok, Option.isSome_none, Bool.false_eq_true, if_false] at e2 e3 ⊢
      simp_all
  | some z =>
    cases lo with
    | none =>
      simp only [Option.map_none, Option.map_some] at e2 e3 ⊢
      simp only [Sem.run_bind, Sem.run_pure, Result.andThen_ok] at e2 e3 ⊢
      simp_all
    | some y =>
      simp only [Option.map_some] at e2 e3 ⊢
      simp only [Sem.run_bind, Sem.run_pure, Result.andThen_ok, Option.isSome_none, Bool.false_eq_true, if_false] at e2 e3 ⊢
      simp_all

theorem y_slice {t e : TypeId} {size by' zero agg} {x : Operand} {lo hi : Option Operand} {a : Option Addr} {m cap l h : Nat} {ty : TypeId} (a' : Option Addr) (m' cap' : Nat) (ht : P.underlying t = some (.slice e)) (he : TI P e size by' zero agg)
    (hx : ev E x = some (.slice a m cap)) (hlo : Bnd E lo 0 l) (hhi : Bnd E hi m h) (h1 : l ≤ h) (h2 : h ≤ cap) (ha : ash a cap l size = a') (hm : h - l = m') (hc : cap - l = cap') :
    YO P n E S H (.slice t x lo hi none) ty (.slice a' m' cap') := by
  intro d pos aft g b w hR hG
  have hb := run_sliceBounds (P := P) (isSlice := true) hR hlo hhi h1 h2 w
  subst ha; subst hm; subst hc
  have : (Instr.sliceAt t (.slice a m cap) (lo.map b.eval) (hi.map b.eval) none).run P w = .ok (.slice (ash a cap l size) (h - l) (cap - l)) w := by
    unfold Instr.sliceAt
    simp only [Sem.run_bind, run_underlying ht, Result.andThen_ok, Instr.slice, hb, he.sizeOf w, Sem.run_pure, ash]
  simp only [execOp, hR.ev hx]
  rw [Sem.run_bind]
  simp only [Option.map_none]
  rw [this]
  rfl

/-- A part of an array in memory. -/
theorem y_slicea {t e : TypeId} {len size by' zero agg} {x : Operand} {lo hi : Option Operand} {b o l h : Nat} {ty : TypeId} (a' : Option Addr) (m' cap' : Nat) (ht : P.underlying t = some (.array len e)) (he : TI P e size by' zero agg)
    (hx : ev E x = some (.pointer (some ⟨b, o, none⟩))) (hlo : Bnd E lo 0 l) (hhi : Bnd E hi len h) (h1 : l ≤ h) (h2 : h ≤ len) (ha : ash (some ⟨b, o, none⟩) len l size = a') (hm : h - l = m') (hc : len - l = cap') :
    YO P n E S H (.slice t x lo hi none) ty (.slice a' m' cap') := by
  intro d pos aft g b' w hR hG
  have hb := run_sliceBounds (P := P) (isSlice := false) hR hlo hhi h1 h2 w
  subst ha; subst hm; subst hc
  have : (Instr.sliceAt t (.pointer (some ⟨b, o, none⟩)) (lo.map b'.eval) (hi.map b'.eval) none).run P w = .ok (.slice (ash (some ⟨b, o, none⟩) len l size) (h - l) (len - l)) w := by
    unfold Instr.sliceAt
    simp only [Sem.run_bind, run_underlying ht, Result.andThen_ok, Instr.sureAddr, Sem.run_pure, hb, he.sizeOf w, ash, Option.map_some]
    split <;> rfl
  simp only [execOp, hR.ev hx]
  rw [Sem.run_bind]
  simp only [Option.map_none]
  rw [this]
  rfl

theorem run_eqIn_nil {t e : TypeId} {a : Option Addr} {m cap k c : Nat} (ht : P.underlying t = some (.slice e)) (d : Nat) (w : World) : (Op.equalIn (d + 1) t (.slice a m cap) (.slice none k c)).run P w = .ok a.isNone w := by
  cases a <;> simp [Op.equalIn, run_underlying ht]

theorem run_eqIn_bool {t : TypeId} {a b : Bool} (ht : P.underlying t = some .bool) (d : Nat) (w : World) : (Op.equalIn (d + 1) t (.bool a) (.bool b)).run P w = .ok (a == b) w := by
  simp [Op.equalIn, run_underlying ht]

/-- A slice held against nil. -/
theorem y_nil {t e t' : TypeId} {x y : Operand} {a : Option Addr} {m cap k c : Nat} {ty : TypeId} (ht : P.underlying t = some (.slice e)) (hx : ev E x = some (.slice a m cap)) (hy : ev E y = some (.slice none k c)) :
    YO P n E S H (.binOp .eql t x y t') ty (.bool a.isNone) := by
  intro d pos aft g b w hR hG
  have h1 : (binOp .eql t (.slice a m cap) (.slice none k c)).run P w = .ok (.bool a.isNone) w := by
    show (do pure (.bool (← Op.equalIn (9999 + 1) t (.slice a m cap) (.slice none k c))) : Sem Value).run P w = _
    rw [Sem.run_bind, run_eqIn_nil ht]
    rfl
  have h2 : (eqGuard .eql t x y (.slice a m cap) (.slice none k c)).run P w = .ok () w := rfl
  simp only [execOp, hR.ev hx, hR.ev hy]
  rw [Sem.run_bind, Sem.run_bind, h2]
  simp only [Result.andThen_ok]
  rw [h1]
  rfl

/-- Two bools. -/
theorem y_eqb {t t' : TypeId} {x y : Operand} {a b : Bool} {ty : TypeId} (ht : P.underlying t = some .bool) (hx : ev E x = some (.bool a)) (hy : ev E y = some (.bool b)) :
    YO P n E S H (.binOp .eql t x y t') ty (.bool (a == b)) := by
  intro d pos aft g c w hR hG
  have h1 : (binOp .eql t (.bool a) (.bool b)).run P w = .ok (.bool (a == b)) w := by
    show (do pure (.bool (← Op.equalIn (9999 + 1) t (.bool a) (.bool b))) : Sem Value).run P w = _
    rw [Sem.run_bind, run_eqIn_bool ht]
    rfl
  have h2 : (eqGuard .eql t x y (.bool a) (.bool b)).run P w = .ok () w := rfl
  simp only [execOp, hR.ev hx, hR.ev hy]
  rw [Sem.run_bind, Sem.run_bind, h2]
  simp only [Result.andThen_ok]
  rw [h1]
  rfl

theorem y_neb {t t' : TypeId} {x y : Operand} {a b : Bool} {ty : TypeId} (ht : P.underlying t = some .bool) (hx : ev E x = some (.bool a)) (hy : ev E y = some (.bool b)) :
    YO P n E S H (.binOp .neq t x y t') ty (.bool (!(a == b))) := by
  intro d pos aft g c w hR hG
  have h1 : (binOp .neq t (.bool a) (.bool b)).run P w = .ok (.bool (!(a == b))) w := by
    show (do pure (.bool (!(← Op.equalIn (9999 + 1) t (.bool a) (.bool b)))) : Sem Value).run P w = _
    rw [Sem.run_bind, run_eqIn_bool ht]
    rfl
  have h2 : (eqGuard .neq t x y (.bool a) (.bool b)).run P w = .ok () w := rfl
  simp only [execOp, hR.ev hx, hR.ev hy]
  rw [Sem.run_bind, Sem.run_bind, h2]
  simp only [Result.andThen_ok]
  rw [h1]
  rfl

/-- The address of a field. -/
theorem y_fld {s : TypeId} {fs : Array Field} {f : Field} {x : Operand} {b o k o' : Nat} {size by' zero agg} {ty : TypeId} (hs : P.underlying s = some (.struct fs)) (hf : fs[k]? = some f) (he : TI P f.type size by' zero agg) (hsz : size ≠ 0)
    (hx : ev E x = some (.pointer (some ⟨b, o, none⟩))) (ho : o + f.offset = o') : YO P n E S H (.fieldAddr s x k) ty (.pointer (some ⟨b, o', none⟩)) := by
  intro d pos aft g c w hR hG
  subst ho
  simp [execOp, hR.ev hx, Instr.fieldAt, run_underlying hs, hf, Instr.sureAddr, fieldPlace, he.sizeOf w, hsz, addr_add]

theorem y_nilc {x : Operand} {a : Addr} {ty : TypeId} (hx : ev E x = some (.pointer (some a))) : YO P n E S H (.nilCheck x) ty (.pointer (some a)) := by
  intro d pos aft g c w hR hG
  simp [execOp, hR.ev hx]

theorem y_func {f : _root_.Go.Fn} {fst cap : List Operand} {us vs : List Value} {ty : TypeId} (h1 : evs E fst = some us) (h2 : evs E cap = some vs) : YO P n E S H (.makeFunc f fst.toArray cap.toArray) ty (.func f us.toArray vs.toArray) := by
  intro d pos aft g c w hR hG
  have e1 : fst.toArray.map c.eval = us.toArray := by rw [List.map_toArray, hR.evs h1]
  have e2 : cap.toArray.map c.eval = vs.toArray := by rw [List.map_toArray, hR.evs h2]
  simp only [execOp, e1, e2]
  rfl

end ops
end Go.Eng
