/-
  Layer 5's plain law: digits of two messages. Conditions: none; nothing of any program stands here.
-/
import Derived.Test.YtapmhjkfnedbmaaDoorC5R
namespace Go.Abs.D2
open Go Go.Eng Go.Abs

theorem u8eq (x y : UInt8) : ((x.toNat : Int) == (y.toNat : Int)) = decide (x = y) := by
  by_cases h : x = y
  · subst h; simp
  · have : x.toNat ≠ y.toNat := fun e => h (UInt8.toNat_inj.1 e)
    simp [h]; omega
def sameK (a b : List UInt8) : Nat → Bool
  | 0 => true
  | i + 1 => sameK a b i && ((dg a i : Int) == (dg b i : Int))
theorem sameK_iff (a b : List UInt8) : ∀ i, sameK a b i = true ↔ ∀ k, k < i → dg a k = dg b k
  | 0 => ⟨fun _ k h => absurd h (by omega), fun _ => rfl⟩
  | i + 1 => by
    simp only [sameK, Bool.and_eq_true, sameK_iff a b i, beq_iff_eq]
    constructor
    · rintro ⟨h1, h2⟩ k hk
      rcases Nat.lt_succ_iff_lt_or_eq.1 hk with h | h
      · exact h1 k h
      · subst h; omega
    · exact fun h => ⟨fun k hk => h k (by omega), by have := h i (by omega); omega⟩
theorem dg_first (m : List UInt8) {k : Nat} (h : k < 16) : dg m k = dgt m k := by
  unfold dg
  rw [digits_eq, List.getD_eq_getElem?_getD, List.getElem?_append_left (by simpa using h)]
  unfold dl
  simp [h]
theorem dg_last (m : List UInt8) : dg m 16 = sumK m 16 / 16 % 4 ∧ dg m 17 = sumK m 16 / 4 % 4 ∧ dg m 18 = sumK m 16 % 4 := by
  have h : ∀ j, j < 3 → dg m (16 + j) = (tl4 (sumK m 16) 3).getD j 0 := fun j hj => by
    unfold dg
    rw [digits_eq, List.getD_eq_getElem?_getD, List.getD_eq_getElem?_getD, List.getElem?_append_right (by simp)]
    simp
  refine ⟨(h 0 (by omega)).trans ?_, (h 1 (by omega)).trans ?_, (h 2 (by omega)).trans ?_⟩ <;> simp [tl4]
theorem sum_digits (m : List UInt8) : 16 * dg m 16 + 4 * dg m 17 + dg m 18 = sumK m 16 := by
  obtain ⟨h1, h2, h3⟩ := dg_last m
  have := sumK_le m 16
  omega
/-- Digits that are nowhere greater are the same. -/
theorem sum_anti (a b : List UInt8) : ∀ n, (∀ k, k < n → dgt a k ≤ dgt b k) → sumK b n ≤ sumK a n ∧ (sumK a n = sumK b n → ∀ k, k < n → dgt a k = dgt b k)
  | 0, _ => ⟨by rw [sumK_0, sumK_0]; exact Nat.le_refl _, fun _ k h => absurd h (by omega)⟩
  | n + 1, h => by
    obtain ⟨h1, h2⟩ := sum_anti a b n fun k hk => h k (by omega)
    have h3 := h n (by omega)
    have ha := dgt_lt a n
    have hb := dgt_lt b n
    rw [sumK_succ, sumK_succ]
    refine ⟨by omega, fun e k hk => ?_⟩
    rcases Nat.lt_succ_iff_lt_or_eq.1 hk with hk | hk
    · exact h2 (by omega) k hk
    · subst hk; omega
theorem dg_anti {a b : List UInt8} (h : ∀ k, k < 19 → dg a k ≤ dg b k) : ∀ k, k < 19 → dg a k = dg b k := by
  obtain ⟨h1, h2⟩ := sum_anti a b 16 fun k hk => by have := h k (by omega); rwa [dg_first a hk, dg_first b hk] at this
  have ea := sum_digits a
  have eb := sum_digits b
  have h16 := h 16 (by omega)
  have h17 := h 17 (by omega)
  have h18 := h 18 (by omega)
  have e : sumK a 16 = sumK b 16 := by omega
  intro k hk
  rcases Nat.lt_or_ge k 16 with hk' | hk'
  · rw [dg_first a hk', dg_first b hk']; exact h2 e k hk'
  · have : k = 16 ∨ k = 17 ∨ k = 18 := by omega
    rcases this with rfl | rfl | rfl
    · rw [(dg_last a).1, (dg_last b).1, e]
    · rw [(dg_last a).2.1, (dg_last b).2.1, e]
    · rw [(dg_last a).2.2, (dg_last b).2.2, e]
theorem ear_found {a b : List UInt8} (h : sameK a b 19 = false) : ∃ m, earO a b = some m ∧ m < 19 ∧ dg b m < dg a m := by
  cases e : earO a b with
  | some m =>
    unfold earO at e
    rw [List.find?_range_eq_some] at e
    exact ⟨m, rfl, by simpa using e.2.1, by simpa using e.1⟩
  | none =>
    exfalso
    unfold earO at e
    rw [List.find?_eq_none] at e
    have := (sameK_iff a b 19).2 (dg_anti fun k hk => by have := e k (List.mem_range.2 hk); simpa using this)
    rw [h] at this; cases this
theorem sameK_symm {a b : List UInt8} (h : sameK a b 19 = false) : sameK b a 19 = false := by
  cases e : sameK b a 19 with
  | false => rfl
  | true =>
    have := (sameK_iff a b 19).2 fun k hk => ((sameK_iff b a 19).1 e k hk).symm
    rw [h] at this; cases this
theorem ear_sameK {a b : List UInt8} (h : sameK a b 19 = true) : earO a b = none ∧ earO b a = none :=
  ⟨ear_none fun k hk hlt => by have := (sameK_iff a b 19).1 h k hk; omega, ear_none fun k hk hlt => by have := (sameK_iff a b 19).1 h k hk; omega⟩
theorem dgt4 (m : List UInt8) (j : Nat) : (m.getD j 0).toNat = 64 * dgt m (4 * j) + 16 * dgt m (4 * j + 1) + 4 * dgt m (4 * j + 2) + dgt m (4 * j + 3) := by
  have hb := (m.getD j 0).toNat_lt
  rw [dgt_eq, dgt_eq, dgt_eq, dgt_eq, show (4 * j) / 4 = j by omega, show (4 * j) % 4 = 0 by omega, show (4 * j + 1) / 4 = j by omega, show (4 * j + 1) % 4 = 1 by omega, show (4 * j + 2) / 4 = j by omega, show (4 * j + 2) % 4 = 2 by omega, show (4 * j + 3) / 4 = j by omega, show (4 * j + 3) % 4 = 3 by omega]
  simp only [show 6 - 2 * 0 = 6 from rfl, show 6 - 2 * 1 = 4 from rfl, show 6 - 2 * 2 = 2 from rfl, show 6 - 2 * 3 = 0 from rfl]
  omega
theorem same_four (a b : List UInt8) : sameK a b 19 = true ↔ ∀ j, j < 4 → a.getD j 0 = b.getD j 0 := by
  rw [sameK_iff]
  constructor
  · intro h j hj
    refine UInt8.toNat_inj.1 ?_
    have e : ∀ k, k < 16 → dgt a k = dgt b k := fun k hk => by rw [← dg_first a hk, ← dg_first b hk]; exact h k (by omega)
    rw [dgt4 a j, dgt4 b j, e _ (by omega), e _ (by omega), e _ (by omega), e _ (by omega)]
  · intro h
    refine dg_anti fun k hk => ?_
    have e : ∀ k, k < 16 → dgt a k = dgt b k := fun k hk => by
      rw [dgt_eq, dgt_eq, h (k / 4) (by omega)]
    have es : sumK a 16 = sumK b 16 := by
      unfold sumK
      congr 1
      refine List.map_congr_left fun k hk => ?_
      rw [e k (List.mem_range.1 hk)]
    rcases Nat.lt_or_ge k 16 with hk' | hk'
    · rw [dg_first a hk', dg_first b hk', e k hk']; exact Nat.le_refl _
    · have : k = 16 ∨ k = 17 ∨ k = 18 := by omega
      rcases this with rfl | rfl | rfl
      · rw [(dg_last a).1, (dg_last b).1, es]; exact Nat.le_refl _
      · rw [(dg_last a).2.1, (dg_last b).2.1, es]; exact Nat.le_refl _
      · rw [(dg_last a).2.2, (dg_last b).2.2, es]; exact Nat.le_refl _
theorem four (a b : List UInt8) : a.getD 0 0 ≠ b.getD 0 0 ∨ (a.getD 0 0 = b.getD 0 0 ∧ a.getD 1 0 ≠ b.getD 1 0) ∨ (a.getD 0 0 = b.getD 0 0 ∧ a.getD 1 0 = b.getD 1 0 ∧ a.getD 2 0 ≠ b.getD 2 0) ∨ (a.getD 0 0 = b.getD 0 0 ∧ a.getD 1 0 = b.getD 1 0 ∧ a.getD 2 0 = b.getD 2 0) := by
  by_cases h0 : a.getD 0 0 = b.getD 0 0
  · by_cases h1 : a.getD 1 0 = b.getD 1 0
    · by_cases h2 : a.getD 2 0 = b.getD 2 0
      · exact .inr (.inr (.inr ⟨h0, h1, h2⟩))
      · exact .inr (.inr (.inl ⟨h0, h1, h2⟩))
    · exact .inr (.inl ⟨h0, h1⟩)
  · exact .inl h0
theorem four_no {a b : List UInt8} {j : Nat} (hj : j < 4) (h : a.getD j 0 ≠ b.getD j 0) : sameK a b 19 = false := by
  cases e : sameK a b 19 with
  | false => rfl
  | true => exact absurd ((same_four a b).1 e j hj) h
theorem four_yes {a b : List UInt8} (h0 : a.getD 0 0 = b.getD 0 0) (h1 : a.getD 1 0 = b.getD 1 0) (h2 : a.getD 2 0 = b.getD 2 0) : sameK a b 19 = decide (a.getD 3 0 = b.getD 3 0) := by
  by_cases h3 : a.getD 3 0 = b.getD 3 0
  · rw [decide_eq_true h3, same_four]
    intro j hj
    match j, hj with
    | 0, _ => exact h0
    | 1, _ => exact h1
    | 2, _ => exact h2
    | 3, _ => exact h3
  · rw [decide_eq_false h3]; exact four_no (by omega) h3
theorem sum_min1 {a : List UInt8} {i : Nat} (h : i < 16) : sumK a (min i 16) + (3 - dg a i) = sumK a (min (i + 1) 16) := by
  rw [show min i 16 = i by omega, show min (i + 1) 16 = i + 1 by omega, sumK_succ, dg_first a h]
end Go.Abs.D2
