/-
  Layer 33's plain law: bits of data, what adding does. Conditions: none; nothing of any program stands here.
-/
import Derived.Test.YtbjfpoafphggnaaDoorF3A
namespace Go.Abs.D2
open Go Go.Eng Go.Abs

theorem all_next {p : Nat → Prop} {i : Nat} (h : ∀ t, t < i → p t) (hp : p i) : ∀ t, t < i + 1 → p t := fun t ht => (Nat.lt_or_ge t i).elim (h t) fun hg => (Nat.le_antisymm (Nat.le_of_lt_succ ht) hg) ▸ hp
theorem zmap (k : Nat) : List.replicate k (evC (Value.int .u8 0)) = (List.replicate k (0 : UInt8)).map u8 := (List.map_replicate (f := u8) (n := k) (a := 0)).symm
theorem tf (b : Bool) : b = false ∨ b = true := by cases b <;> simp
theorem bitB_nat {r : Nat} (h : r < 8) : (bitB r).toNat = 2 ^ r := by
  unfold bitB
  rw [UInt8.toNat_ofNat']
  exact Nat.mod_eq_of_lt (Nat.pow_lt_pow_right (by omega) h)
theorem bit_div (b r : Nat) : Nat.testBit b r = (b / 2 ^ r % 2 == 1) := by
  rw [Nat.testBit_eq_decide_div_mod_eq]; rfl
/-- The bit of a number in data. -/
def bitA (l : List UInt8) (k : Nat) : Bool := (l.getD (k / 8) 0).toNat.testBit (k % 8)
/-- .. set. -/
def setA (l : List UInt8) (k : Nat) : List UInt8 := l.set (k / 8) (l.getD (k / 8) 0 ||| bitB (k % 8))
@[simp] theorem len_setA (l : List UInt8) (k : Nat) : (setA l k).length = l.length := by simp [setA]
theorem bit_setA {l : List UInt8} {k : Nat} (h : k / 8 < l.length) (j : Nat) : bitA (setA l k) j = (bitA l j || j == k) := by
  unfold bitA setA
  by_cases hj : j / 8 = k / 8
  · rw [hj]
    have e : (l.set (k / 8) (l.getD (k / 8) 0 ||| bitB (k % 8))).getD (k / 8) 0 = l.getD (k / 8) 0 ||| bitB (k % 8) := by simp [List.getD, h]
    rw [e, UInt8.toNat_or, Nat.testBit_or, bitB_nat (by omega), Nat.testBit_two_pow]
    congr 1
    by_cases hm : j = k
    · subst hm; simp
    · rw [beq_eq_false_iff_ne.2 hm]; exact decide_eq_false (by omega)
  · have e : (l.set (k / 8) (l.getD (k / 8) 0 ||| bitB (k % 8))).getD (j / 8) 0 = l.getD (j / 8) 0 := by
      simp only [List.getD, List.getElem?_set]; rw [if_neg (fun h => hj h.symm)]
    rw [e, beq_eq_false_iff_ne.2 (by rintro rfl; exact hj rfl), Bool.or_false]
theorem byte_ext {x y : UInt8} (h : ∀ r, r < 8 → x.toNat.testBit r = y.toNat.testBit r) : x = y := by
  apply UInt8.toNat_inj.1
  apply Nat.eq_of_testBit_eq
  intro r
  by_cases hr : r < 8
  · exact h r hr
  · have hx := x.toNat_lt; have hy := y.toNat_lt
    have h8 : 2 ^ 8 ≤ 2 ^ r := Nat.pow_le_pow_right (by omega) (by omega)
    rw [Nat.testBit_lt_two_pow (by omega), Nat.testBit_lt_two_pow (by omega)]
/-- Data are their bits. -/
theorem bits_ext {l m : List UInt8} (hl : l.length = m.length) (h : ∀ k, k < 8 * l.length → bitA l k = bitA m k) : l = m := by
  apply List.ext_getElem? 
  intro i
  by_cases hi : i < l.length
  · have e : l.getD i 0 = m.getD i 0 := byte_ext fun r hr => by
      have := h (8 * i + r) (by omega)
      unfold bitA at this
      rwa [show (8 * i + r) / 8 = i by omega, show (8 * i + r) % 8 = r by omega] at this
    have hm : i < m.length := by omega
    rw [List.getElem?_eq_getElem hi, List.getElem?_eq_getElem hm]
    simpa [List.getD, hi, hm] using e
  · rw [List.getElem?_eq_none (by omega), List.getElem?_eq_none (by omega)]
/-- The bits from a number on are 0. -/
def tailP (n : Nat) (D : List UInt8) : Prop := ∀ k, n ≤ k → k < 8 * D.length → bitA D k = false
theorem tail_iff {n : Nat} {D : List UInt8} (hl : D.length = (n + 7) / 8) (hn : 8 ≤ n) : (n % 8 = 0 ∨ (D.getD (D.length - 1) 0).toNat / 2 ^ (n % 8) = 0) ↔ tailP n D := by
  by_cases h0 : n % 8 = 0
  · refine ⟨fun _ k h1 h2 => absurd h2 (by omega), fun _ => .inl h0⟩
  · have hd : D.length - 1 = n / 8 := by omega
    rw [hd]
    constructor
    · rintro (h | h) k h1 h2
      · exact absurd h h0
      · unfold bitA
        rw [show k / 8 = n / 8 by omega]
        have h3 : (D.getD (n / 8) 0).toNat < 2 ^ (n % 8) := by
          rcases Nat.lt_or_ge (D.getD (n / 8) 0).toNat (2 ^ (n % 8)) with h' | h'
          · exact h'
          · have := Nat.div_pos h' (Nat.two_pow_pos _); omega
        exact Nat.testBit_lt_two_pow (Nat.lt_of_lt_of_le h3 (Nat.pow_le_pow_right (by omega) (by omega)))
    · intro h
      right
      apply Nat.div_eq_of_lt
      apply Nat.lt_pow_two_of_testBit
      intro i hi
      by_cases h8 : i < 8
      · have := h (8 * (n / 8) + i) (by omega) (by omega)
        unfold bitA at this
        rwa [show (8 * (n / 8) + i) / 8 = n / 8 by omega, show (8 * (n / 8) + i) % 8 = i by omega] at this
      · exact Nat.testBit_lt_two_pow (Nat.lt_of_lt_of_le (UInt8.toNat_lt _) (Nat.pow_le_pow_right (by omega) (by omega : 8 ≤ i)))
/-- Is a filter valid? -/
@[irreducible] def chkB (lv nb : Int) (D : List UInt8) : Bool := decide (sizedP lv nb) && (D.length == (nb.toNat + 7) / 8) && (nb.toNat % 8 == 0 || (D.getD (D.length - 1) 0).toNat / 2 ^ (nb.toNat % 8) == 0)
theorem sized_nat {lv nb : Int} (h : sizedP lv nb) : ∃ l n : Nat, lv = (l : Int) ∧ nb = (n : Int) ∧ l < 16 ∧ 8 ≤ n ∧ n ≤ 4096 := ⟨lv.toNat, nb.toNat, by unfold sizedP at h; omega, by unfold sizedP at h; omega, by unfold sizedP at h; omega, by unfold sizedP at h; omega, by unfold sizedP at h; omega⟩
theorem nat_sized {l n : Nat} (h1 : l < 16) (h2 : 8 ≤ n) (h3 : n ≤ 4096) : sizedP (l : Int) (n : Int) := by unfold sizedP; omega
theorem chk_size {lv nb : Int} {D : List UInt8} (h : ¬ sizedP lv nb) : chkB lv nb D = false := by unfold chkB; simp [h]
theorem chk_len {l n : Nat} {D : List UInt8} (h : D.length ≠ (n + 7) / 8) : chkB l n D = false := by unfold chkB; simp [h]
theorem chk_tail {l n : Nat} {D : List UInt8} (h1 : l < 16) (h2 : 8 ≤ n) (h3 : n ≤ 4096) (hl : D.length = (n + 7) / 8) : chkB l n D = (n % 8 == 0 || (D.getD (D.length - 1) 0).toNat / 2 ^ (n % 8) == 0) := by
  have := nat_sized h1 h2 h3
  unfold chkB
  simp only [this, decide_true, Bool.true_and, Int.toNat_natCast]
  rw [beq_iff_eq.2 hl, Bool.true_and]
theorem chk_tail2 {l n : Nat} {D : List UInt8} (h1 : l < 16) (h2 : 8 ≤ n) (h3 : n ≤ 4096) (hl : D.length = (n + 7) / 8) : chkB l n D = true ↔ tailP n D := by
  rw [chk_tail h1 h2 h3 hl, ← tail_iff hl h2]; simp
/-- What a valid filter is. -/
theorem chk_nat {lv nb : Int} {D : List UInt8} (h : chkB lv nb D = true) : ∃ l n : Nat, lv = (l : Int) ∧ nb = (n : Int) ∧ l < 16 ∧ 8 ≤ n ∧ n ≤ 4096 ∧ D.length = (n + 7) / 8 ∧ tailP n D := by
  by_cases hs : sizedP lv nb
  · obtain ⟨l, n, rfl, rfl, h1, h2, h3⟩ := sized_nat hs
    by_cases hl : D.length = (n + 7) / 8
    · exact ⟨l, n, rfl, rfl, h1, h2, h3, hl, (chk_tail2 h1 h2 h3 hl).1 h⟩
    · rw [chk_len hl] at h; cases h
  · rw [chk_size hs] at h; cases h
theorem nat_chk {l n : Nat} {D : List UInt8} (h1 : l < 16) (h2 : 8 ≤ n) (h3 : n ≤ 4096) (hl : D.length = (n + 7) / 8) (ht : tailP n D) : chkB l n D = true := (chk_tail2 h1 h2 h3 hl).2 ht
def errF (b : Bool) : Int := if b then 0 else 330
/-- The bit number i of a number. -/
@[irreducible] def bN (x : List UInt8) (lv nb id i : Nat) : Nat := numD (filD x lv id) (4 * i) 4 % nb
theorem bN_eq (x : List UInt8) (lv nb id i : Nat) : bN x lv nb id i = numD (filD x lv id) (4 * i) 4 % nb := by unfold bN; rfl
theorem bN_lt {x : List UInt8} {lv nb id : Nat} (h : 0 < nb) (i : Nat) : bN x lv nb id i < nb := by rw [bN_eq]; exact Nat.mod_lt _ h
theorem bitL_get (x : List UInt8) (lv nb id i : Nat) (h : i < 2) : (((bitL x lv nb id 2).map nJ).drop (i * 1))[0]? = some (nJ (bN x lv nb id i)) := by
  rw [List.getElem?_drop, show i * 1 + 0 = i by omega, bN_eq]
  simp [bitL, h]
theorem bitL_2 (x : List UInt8) (lv nb id : Nat) : bitL x lv nb id 2 = [bN x lv nb id 0, bN x lv nb id 1] := by simp [bitL, bN_eq, List.range_succ]
@[irreducible] def okB (lv nb : Int) (D : List UInt8) (id : Int) : Bool := chkB lv nb D && decide (0 ≤ id ∧ id < 1024)
theorem ok_chk {lv nb id : Int} {D : List UInt8} (h : chkB lv nb D = false) : okB lv nb D id = false := by unfold okB; simp [h]
theorem ok_id {lv nb id : Int} {D : List UInt8} (h : ¬ (0 ≤ id ∧ id < 1024)) : okB lv nb D id = false := by unfold okB; simp only [h, decide_false, Bool.and_false]
theorem ok_yes {lv nb id : Int} {D : List UInt8} (h : chkB lv nb D = true) (h' : 0 ≤ id ∧ id < 1024) : okB lv nb D id = true := by unfold okB; simp only [h, h']; rfl
theorem ok_nat {lv nb id : Int} {D : List UInt8} (h : okB lv nb D id = true) : ∃ l n j : Nat, lv = (l : Int) ∧ nb = (n : Int) ∧ id = (j : Int) ∧ l < 16 ∧ 8 ≤ n ∧ n ≤ 4096 ∧ j < 1024 ∧ D.length = (n + 7) / 8 ∧ tailP n D := by
  unfold okB at h
  simp only [Bool.and_eq_true, decide_eq_true_eq] at h
  obtain ⟨h, h5, h6⟩ := h
  obtain ⟨l, n, rfl, rfl, h1, h2, h3, h4, ht⟩ := chk_nat h
  exact ⟨l, n, id.toNat, rfl, rfl, by omega, h1, h2, h3, by omega, h4, ht⟩
/-- What Bits gives. -/
@[irreducible] def bitsA (x : List UInt8) (lv nb : Int) (D : List UInt8) (id : Int) : A := if okB lv nb D id then .tu [.fz 2 ((bitL x lv.toNat nb.toNat id.toNat 2).map nJ), .i .i64 0] else .tu [.nl, .i .i64 330]
theorem bits_no {x : List UInt8} {lv nb id : Int} {D : List UInt8} (h : okB lv nb D id = false) : bitsA x lv nb D id = .tu [.nl, .i .i64 330] := by unfold bitsA; rw [h]; rfl
theorem bits_yes {x : List UInt8} {l n j : Nat} {D : List UInt8} (h : okB l n D j = true) : bitsA x l n D j = .tu [.fz 2 ((bitL x l n j 2).map nJ), .i .i64 0] := by unfold bitsA; rw [h]; rfl
/-- Both bits are set. -/
def hasD (x : List UInt8) (l n j : Nat) (D : List UInt8) : Bool := bitA D (bN x l n j 0) && bitA D (bN x l n j 1)
def setsB (x : List UInt8) (l n j : Nat) (D : List UInt8) : Nat → List UInt8
  | 0 => D
  | i + 1 => setA (setsB x l n j D i) (bN x l n j i)
@[simp] theorem len_setsB (x : List UInt8) (l n j : Nat) (D : List UInt8) : ∀ i, (setsB x l n j D i).length = D.length
  | 0 => rfl
  | i + 1 => by simp [setsB, len_setsB x l n j D i]
abbrev addD (x : List UInt8) (l n j : Nat) (D : List UInt8) : List UInt8 := setsB x l n j D 2
abbrev filA (lv nb : Int) (D : List UInt8) : A := .ag [.i .i64 lv, .i .i64 nb, slA D]
@[irreducible] def hasA (x : List UInt8) (lv nb : Int) (D : List UInt8) (id : Int) : A := if okB lv nb D id then .tu [.b (hasD x lv.toNat nb.toNat id.toNat D), .i .i64 0] else .tu [.b false, .i .i64 330]
theorem has_no {x : List UInt8} {lv nb id : Int} {D : List UInt8} (h : okB lv nb D id = false) : hasA x lv nb D id = .tu [.b false, .i .i64 330] := by unfold hasA; rw [h]; rfl
theorem has_yes {x : List UInt8} {l n j : Nat} {D : List UInt8} (h : okB l n D j = true) : hasA x l n D j = .tu [.b (hasD x l n j D), .i .i64 0] := by unfold hasA; rw [h]; rfl
@[irreducible] def addA (x : List UInt8) (lv nb : Int) (D : List UInt8) (id : Int) : A := if okB lv nb D id then .tu [filA lv nb (addD x lv.toNat nb.toNat id.toNat D), .i .i64 0] else .tu [filA 0 0 [], .i .i64 330]
theorem add_no {x : List UInt8} {lv nb id : Int} {D : List UInt8} (h : okB lv nb D id = false) : addA x lv nb D id = .tu [filA 0 0 [], .i .i64 330] := by unfold addA; rw [h]; rfl
theorem add_yes {x : List UInt8} {l n j : Nat} {D : List UInt8} (h : okB l n D j = true) : addA x l n D j = .tu [filA l n (addD x l n j D), .i .i64 0] := by unfold addA; rw [h]; rfl
@[irreducible] def newA (lv nb : Int) : A := if sizedP lv nb then .tu [filA lv nb (List.replicate ((nb.toNat + 7) / 8) 0), .i .i64 0] else .tu [filA 0 0 [], .i .i64 330]
theorem new_no {lv nb : Int} (h : ¬ sizedP lv nb) : newA lv nb = .tu [filA 0 0 [], .i .i64 330] := by unfold newA; rw [if_neg h]
theorem new_yes {l n : Nat} (h : sizedP (l : Int) (n : Int)) : newA l n = .tu [filA l n (List.replicate ((n + 7) / 8) 0), .i .i64 0] := by unfold newA; rw [if_pos h]; rfl

/-! Bytes and bits, as the code does it. -/
theorem has_byte (b : UInt8) (r : Nat) : (((UInt8.ofNat (b.toNat / 2 ^ r) &&& 1).toNat : Int) == 0) = !(b.toNat.testBit r) := by
  have hb := b.toNat_lt
  have h1 : b.toNat / 2 ^ r ≤ b.toNat := Nat.div_le_self _ _
  rw [UInt8.toNat_and, UInt8.toNat_ofNat', Nat.mod_eq_of_lt (by omega), show (1 : UInt8).toNat = 1 from rfl, Nat.and_one_is_mod, bit_div]
  have h2 := Nat.mod_two_eq_zero_or_one (b.toNat / 2 ^ r)
  rcases h2 with h | h <;> rw [h] <;> rfl
theorem ref_bit (b r : Nat) : (((b / 2 ^ r % 2 : Nat) : Int) == 1) = b.testBit r := by
  rw [bit_div]
  have h2 := Nat.mod_two_eq_zero_or_one (b / 2 ^ r)
  rcases h2 with h | h <;> rw [h] <;> rfl
theorem ref_set8 : ∀ r, r < 8 → ∀ x, x < 256 → (x / 2 ^ r % 2 == 1) = false → UInt8.ofNat (x + 2 ^ r) = UInt8.ofNat x ||| bitB r := by decide +kernel
theorem ref_set9 : ∀ r, r < 8 → ∀ x, x < 256 → (x / 2 ^ r % 2 == 1) = true → UInt8.ofNat x ||| bitB r = UInt8.ofNat x := by decide +kernel
theorem set_same {l : List UInt8} {k : Nat} (h : bitA l k = true) : setA l k = l := by
  unfold bitA at h
  rw [bit_div] at h
  have := ref_set9 (k % 8) (by omega) _ (l.getD (k / 8) 0).toNat_lt h
  rw [UInt8.ofNat_toNat] at this
  unfold setA
  rw [this]
  apply List.ext_getElem?
  intro j
  rw [List.getElem?_set]
  split
  · rename_i h; subst h
    split
    · rename_i h; simp [List.getD, h]
    · rename_i h; rw [List.getElem?_eq_none (by omega)]
  · rfl
theorem set_add {l : List UInt8} {k : Nat} (h : bitA l k = false) : UInt8.ofNat ((l.getD (k / 8) 0).toNat + 2 ^ (k % 8)) = l.getD (k / 8) 0 ||| bitB (k % 8) := by
  unfold bitA at h
  rw [bit_div] at h
  have := ref_set8 (k % 8) (by omega) _ (l.getD (k / 8) 0).toNat_lt h
  rwa [UInt8.ofNat_toNat] at this
theorem shr_zero (b : UInt8) (r : Nat) : (((UInt8.ofNat (b.toNat / 2 ^ r)).toNat : Int) != 0) = !(b.toNat / 2 ^ r == 0) := by
  have hb := b.toNat_lt
  have h1 : b.toNat / 2 ^ r ≤ b.toNat := Nat.div_le_self _ _
  rw [UInt8.toNat_ofNat', Nat.mod_eq_of_lt (by omega), bne]
  congr 1
  generalize b.toNat / 2 ^ r = q
  rw [Bool.eq_iff_iff]
  simp
theorem getD8 {m : List UInt8} {i : Nat} (hi : i < m.length) : ((m.map u8).drop (i * 1))[0]? = some (u8 (m.getD i 0)) := by
  rw [List.getElem?_drop, show i * 1 + 0 = i by omega]
  simp [hi]
theorem getO8 {m : List UInt8} {i : Nat} (hi : i < m.length) : ((m.map u8).drop (0 + i * 1))[0]? = some (u8 (m.getD i 0)) := by
  rw [List.getElem?_drop, show 0 + i * 1 + 0 = i by omega]
  simp [hi]
theorem setD8 {m : List UInt8} {k : Nat} : ((m.map u8).set (k / 8) (u8 (m.getD (k / 8) 0 ||| bitB (k % 8)))) = (setA m k).map u8 := by
  unfold setA; rw [List.map_set]
theorem hasD_no {x : List UInt8} {l n j i : Nat} {D : List UInt8} (h : i < 2) (hb : bitA D (bN x l n j i) = false) : hasD x l n j D = false := by
  unfold hasD
  have : i = 0 ∨ i = 1 := by omega
  rcases this with rfl | rfl <;> simp [hb]
theorem hasD_yes {x : List UInt8} {l n j : Nat} {D : List UInt8} (h : ∀ t, t < 2 → bitA D (bN x l n j t) = true) : hasD x l n j D = true := by
  unfold hasD; rw [h 0 (by omega), h 1 (by omega)]; rfl
theorem setD9 (m : List UInt8) (k : Nat) : (m.map u8).set (0 + k / 8 * 1) (u8 (m.getD (k / 8) 0 ||| bitB (k % 8))) = (setA m k).map u8 := by
  rw [show 0 + k / 8 * 1 = k / 8 by omega]; exact setD8
theorem div_step (b i : Nat) : b / 2 ^ i / 2 = b / 2 ^ (i + 1) := by rw [Nat.div_div_eq_div_mul, Nat.pow_succ]
theorem div_zero (b : Nat) : b = b / 2 ^ 0 := by simp
theorem getT4 {d : List UInt8} {o i : Nat} (h : o + i < d.length) (hi : i < 4) : (((((d.map u8).drop o).take 4).drop (i * 1)))[0]? = some (u8 (d.getD (o + i) 0)) := by
  rw [List.getElem?_drop, List.getElem?_take, if_pos (by omega), List.getElem?_drop, show o + (i * 1 + 0) = o + i by omega]
  simp [h]
theorem num_step (d : List UInt8) (o i : Nat) : 256 * numD d o i + (d.getD (o + i) 0).toNat = numD d o (i + 1) := by rw [numD, Nat.mul_comm]
theorem be32_small {j : Nat} (h : j < 1024) : be32 (BitVec.ofNat 32 j) = [0, 0, UInt8.ofNat (j / 256), UInt8.ofNat (j % 256)] := by
  have hj : j % 4294967296 = j := Nat.mod_eq_of_lt (by omega)
  have e : ∀ k, (BitVec.ofNat 32 j >>> k).toNat = j / 2 ^ k := fun k => by
    rw [BitVec.toNat_ushiftRight, BitVec.toNat_ofNat, show (2 : Nat) ^ 32 = 4294967296 from rfl, hj, Nat.shiftRight_eq_div_pow]
  unfold be32
  rw [e, e, e, BitVec.toNat_ofNat, show (2 : Nat) ^ 32 = 4294967296 from rfl, hj, show j / 2 ^ 24 = 0 from Nat.div_eq_of_lt (by omega), show j / 2 ^ 16 = 0 from Nat.div_eq_of_lt (by omega)]
  refine congrArg (fun z => [0, 0, UInt8.ofNat (j / 256), z]) ?_
  apply UInt8.toNat_inj.1
  rw [UInt8.toNat_ofNat', UInt8.toNat_ofNat']
  omega
theorem head_bytes {x : List UInt8} {l j : Nat} (h : j < 1024) : ([] ++ x.map u8) ++ [u8 (UInt8.ofNat l), .i .u8 0, .i .u8 0, u8 (UInt8.ofNat (j / 256)), u8 (UInt8.ofNat (j % 256))] = (x ++ UInt8.ofNat l :: be32 (BitVec.ofNat 32 j)).map u8 := by
  rw [be32_small h]; simp
theorem bit_lt {D : List UInt8} {n k : Nat} (hl : D.length = (n + 7) / 8) (h : k < n) : k / 8 < D.length := by omega
/-- The set bit, byte by byte. -/
theorem pow_step (i : Nat) : 2 * 2 ^ i = 2 ^ (i + 1) := by rw [Nat.pow_succ, Nat.mul_comm]
theorem set_byte {l : List UInt8} {k : Nat} (h : bitA l k = false) : A.i .u8 (IntKind.u8.wrap ((l.getD (k / 8) 0).toNat + ((UInt8.ofNat (2 ^ (k % 8))).toNat : Int))) = u8 (l.getD (k / 8) 0 ||| bitB (k % 8)) := by
  rw [← set_add h]
  refine congrArg (A.i .u8) ?_
  have hk : (2 : Nat) ^ (k % 8) < 256 := Nat.lt_of_lt_of_le (Nat.pow_lt_pow_right (by omega) (by omega : k % 8 < 8)) (by decide)
  rw [UInt8.toNat_ofNat', Nat.mod_eq_of_lt hk, UInt8.toNat_ofNat']
  show (((l.getD (k / 8) 0).toNat : Int) + ((2 ^ (k % 8) : Nat) : Int)) % 256 = _
  rw [← Int.natCast_add]
  rfl
theorem tail_next {D : List UInt8} {n k : Nat} (h : ∀ t, n ≤ t → t < k → bitA D t = false) (hp : bitA D k = false) : ∀ t, n ≤ t → t < k + 1 → bitA D t = false := fun t h1 h2 => (Nat.lt_or_ge t k).elim (h t h1) fun hg => (Nat.le_antisymm (Nat.le_of_lt_succ h2) hg) ▸ hp
theorem chk_bad {l n k : Nat} {D : List UInt8} (h1 : l < 16) (h2 : 8 ≤ n) (h3 : n ≤ 4096) (hl : D.length = (n + 7) / 8) (hk : n ≤ k) (hk2 : k < 8 * D.length) (hb : bitA D k = true) : chkB l n D = false := by
  rw [Bool.eq_false_iff]
  intro h
  have := (chk_tail2 h1 h2 h3 hl).1 h k hk hk2
  rw [hb] at this; cases this
theorem getI {L : List Int} {i : Nat} {v : Int} (h : L[i]? = some v) : ((L.map (A.i .i64)).drop (i * 1))[0]? = some (A.i .i64 v) := by
  rw [List.getElem?_drop, show i * 1 + 0 = i by omega, List.getElem?_map, h]; rfl
theorem beq_lists {α : Type} [BEq α] [LawfulBEq α] {L M : List α} (hl : L.length = M.length) (h : ∀ t, t < L.length → L[t]? = M[t]?) : (L == M) = true := by
  rw [beq_iff_eq]
  apply List.ext_getElem?
  intro t
  by_cases ht : t < L.length
  · exact h t ht
  · rw [List.getElem?_eq_none (by omega), List.getElem?_eq_none (by omega)]
theorem nbeq_lists {α : Type} [BEq α] [LawfulBEq α] {L M : List α} {t : Nat} (h : L[t]? ≠ M[t]?) : (L == M) = false := by
  rw [beq_eq_false_iff_ne]; rintro rfl; exact h rfl
end Go.Abs.D2
