/-
  Layer 2, in plain words: lists of digests, their halves. Conditions: none; no program in sight.
-/
import Derived.Test.YtbjfpoafphggnaaDoorD2Q
namespace Go.Abs.D2
open Go Go.Eng Go.Abs

/-- How many bits. -/
def lenN (x : Nat) : Nat := if x = 0 then 0 else x.log2 + 1
theorem lenN_shift {x : Nat} (k : Nat) (h : 2 ^ k ≤ x) : lenN x = k + lenN (x >>> k) := by
  have hk : 0 < 2 ^ k := Nat.two_pow_pos k
  have hx : x ≠ 0 := by omega
  have hs : x >>> k ≠ 0 := by
    rw [Nat.shiftRight_eq_div_pow]
    have := Nat.div_pos h hk
    omega
  have h1 : (x >>> k).log2 + k = x.log2 := by
    refine ((Nat.log2_eq_iff hx).2 ⟨?_, ?_⟩).symm
    · have := Nat.log2_self_le hs
      rw [Nat.shiftRight_eq_div_pow] at this ⊢
      rw [Nat.pow_add]
      exact (Nat.le_div_iff_mul_le hk).1 this
    · have := Nat.lt_log2_self (n := x >>> k)
      rw [Nat.shiftRight_eq_div_pow] at this ⊢
      rw [show (x / 2 ^ k).log2 + k + 1 = ((x / 2 ^ k).log2 + 1) + k by omega, Nat.pow_add]
      exact (Nat.div_lt_iff_lt_mul hk).1 this
  simp only [lenN, hx, hs, if_false]
  omega
def lenTab : List UInt8 := (List.range 256).map fun j => UInt8.ofNat (lenN j)
theorem tab_at (j : Nat) (h : j < 256) : lenTab[j]? = some (UInt8.ofNat (lenN j)) := by simp [lenTab, h]
theorem lenN_small {j : Nat} (h : j < 256) : lenN j ≤ 8 := by
  unfold lenN
  split
  · omega
  · have : j.log2 < 8 := (Nat.log2_lt (by omega)).2 (by omega)
    omega
theorem u8n {n : Nat} (h : n < 256) : (UInt8.ofNat n).toNat = n := by rw [UInt8.toNat_ofNat']; exact Nat.mod_eq_of_lt h
theorem tab_idx {n : Nat} (h : n < 256) : ((UInt8.ofNat n).toNat : Int) = (n : Int) := by rw [u8n h]
theorem tab_conv {j : Nat} (h : j < 256) : A.i .i64 (IntKind.i64.wrap ((UInt8.ofNat (lenN j)).toNat : Int)) = A.i .i64 (lenN j : Nat) := by
  have := lenN_small h
  rw [u8n (by omega), wrapI _ (by omega) (by omega)]
theorem lenN_sh (X : BitVec 64) (k : Nat) (h : 2 ^ k ≤ X.toNat) : lenN X.toNat = k + lenN (X >>> k).toNat := by
  rw [BitVec.toNat_ushiftRight]; exact lenN_shift k h
theorem sh_lt (X : BitVec 64) (k m : Nat) (h : X.toNat < 2 ^ (k + m)) : (X >>> k).toNat < 2 ^ m := by
  rw [BitVec.toNat_ushiftRight, Nat.shiftRight_eq_div_pow]
  exact Nat.div_lt_of_lt_mul (by rw [← Nat.pow_add]; exact h)
/-- The greatest power of two that is less. -/
@[irreducible] def halfN (n : Nat) : Nat := 2 ^ (n - 1).log2
theorem c64_n {n : Nat} (h : n < 18446744073709551616) : (c64 n).toNat = n := by rw [BitVec.toNat_ofNat]; exact Nat.mod_eq_of_lt h
theorem lenN_pos {x : Nat} (h : 0 < x) : lenN x = x.log2 + 1 := by unfold lenN; rw [if_neg (by omega)]
theorem lenN_le {x : Nat} (h : x < 18446744073709551616) : lenN x ≤ 9223372036854775807 := by
  unfold lenN
  split
  · omega
  · have : x.log2 < 64 := (Nat.log2_lt (by omega)).2 (by omega)
    omega
theorem halfN_lt {n : Nat} (h : 2 ≤ n) : 0 < halfN n ∧ halfN n < n ∧ n ≤ 2 * halfN n := by
  unfold halfN
  have h1 := Nat.log2_self_le (n := n - 1) (by omega)
  have h2 := Nat.lt_log2_self (n := n - 1)
  rw [Nat.pow_succ] at h2
  exact ⟨Nat.two_pow_pos _, by omega, by omega⟩
theorem halfN_of {n k : Nat} (e : Nat) (hk : k = 2 ^ e) (h1 : k < n) (h2 : n ≤ 2 * k) : k = halfN n := by
  subst hk
  unfold halfN
  congr 1
  have := (Nat.log2_eq_iff (n := n - 1) (k := e) (by omega)).2 ⟨by omega, by rw [Nat.pow_succ]; omega⟩
  exact this.symm
theorem shl_pow {n : Nat} (h : 2 ≤ n) (hn : n ≤ 1099511627776) : A.i .i64 (IntKind.i64.wrap (1 * 2 ^ min (((n - 1).log2 : Nat) : Int).toNat IntKind.i64.bits)) = A.i .i64 (halfN n : Nat) := by
  have hl : (n - 1).log2 < 41 := (Nat.log2_lt (by omega)).2 (by omega)
  have hb : min (((n - 1).log2 : Nat) : Int).toNat IntKind.i64.bits = (n - 1).log2 := by simp [IntKind.bits]; omega
  have hh := halfN_lt h
  rw [hb, Int.one_mul, show ((2 : Int) ^ (n - 1).log2) = ((halfN n : Nat) : Int) by simp [halfN], wrapI _ (by omega) (by omega)]
end Go.Abs.D2
