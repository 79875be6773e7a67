/-
  Layer 5's plain law: what is signed is verified; the examples. Conditions: none; nothing of any program stands here.
-/
import Derived.Test.YtapmhjkfnedbmaaDoorC5P
namespace Go.Abs.D2
open Go Go.Eng Go.Abs

theorem iter_add (x : List UInt8) (j : Nat) : ∀ k, iterD k (iterD j x) = iterD (k + j) x
  | 0 => by rw [Nat.zero_add]; rfl
  | k + 1 => by rw [show k + 1 + j = (k + j) + 1 by omega]; show stepD _ = stepD _; rw [iter_add x j k]
theorem sign_at (s m : List UInt8) {n i : Nat} (h : i < n) : (signL s m n).getD i [] = iterD (dg m i) (firstD s i) := by
  simp [signL, h]
theorem rec_sign (s m : List UInt8) : ∀ i, i ≤ 19 → recL m (signD s m) i = pubL s i
  | 0, _ => by rw [recL_0, pubL_0]
  | i + 1, h => by
    rw [recL_succ, pubL_succ, rec_sign s m i (by omega), sign_at s m (by omega), iter_add, show 3 - dg m i + dg m i = 3 by have := dg_lt m i; omega]
theorem recD_sign (s m : List UInt8) : recD m (signD s m) = pubD s ∧ recE (signD s m) = 0 := by
  obtain ⟨h1, h2⟩ := rec_yes (m := m) (S := signD s m) (by simp)
  exact ⟨by rw [h1, rec_sign s m 19 (by omega)]; rfl, h2⟩
theorem ver_sign (p s m : List UInt8) : verD p m (signD s m) = (pubD s == p) := by
  unfold verD
  rw [(recD_sign s m).1, (recD_sign s m).2]
  simp
theorem ver_nil (p m : List UInt8) : verD p m [] = false := rfl

abbrev zeroD : List UInt8 := List.replicate 32 0
abbrev fullD : List UInt8 := List.replicate 32 255
abbrev seedD : List UInt8 := 7 :: List.replicate 31 0
abbrev wantL : List Nat := List.replicate 16 0 ++ [3, 0, 0]
abbrev threesL : List Nat := List.replicate 16 3 ++ [0, 0, 0]
theorem dig_zero : digits zeroD = wantL := by decide +kernel
theorem dig_full : digits fullD = threesL := by decide +kernel
theorem ear_full : earO fullD zeroD = some 0 := by decide +kernel
theorem ear_same (m : List UInt8) : earO m m = none := ear_none fun k _ h => by omega
theorem earA_full : earV (earA fullD zeroD (signD seedD fullD)) = .tu [nI 0, .b true] := by
  rw [earA, if_pos (by simp), ear_full]; rfl
theorem earA_same {m : List UInt8} {S : List (List UInt8)} : earV (earA m m S) = .tu [nI 0, .b false] := by
  rw [earA]; split
  · rw [ear_same]; rfl
  · rfl
theorem full_step (i : Nat) (h : i < 32) : ((List.replicate i (255 : UInt8) ++ List.replicate (32 - i) 0).map u8).set (0 + i * 1) (u8 255) = (List.replicate (i + 1) (255 : UInt8) ++ List.replicate (32 - (i + 1)) 0).map u8 := by
  rw [List.map_append, List.map_replicate, List.map_replicate, List.map_append, List.map_replicate, List.map_replicate, show 0 + i * 1 = i by omega, set_end i (by simp) (by omega), List.replicate_succ', show 32 - (i + 1) = 32 - i - 1 by omega]
theorem get_nI {l : List Nat} {j q : Nat} (h : l[j]? = some q) : ((l.map nI).drop (j * 1))[0]? = some (nI q) := by
  rw [List.getElem?_drop, show j * 1 + 0 = j by omega, List.getElem?_map, h]; rfl
theorem beq_sw (a b : List UInt8) : ((a == b) == (b == a)) = true := by
  have e : (a == b) = (b == a) := Bool.eq_iff_iff.2 ⟨fun h => beq_iff_eq.2 (beq_iff_eq.1 h).symm, fun h => beq_iff_eq.2 (beq_iff_eq.1 h).symm⟩
  rw [e, beq_self_eq_true]
theorem get_sign (s m : List UInt8) {i : Nat} (h : i < 19) : (signD s m)[i]? = some (iterD (dg m i) (firstD s i)) := by
  simp [signD, signL, h]
end Go.Abs.D2
