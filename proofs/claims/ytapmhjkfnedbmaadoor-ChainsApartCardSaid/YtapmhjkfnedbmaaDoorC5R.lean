/-
  Layer 5's plain law: what is verified, and two signatures of one message. Conditions: none; nothing of any program stands here.
-/
import Derived.Test.YtapmhjkfnedbmaaDoorC5Q
namespace Go.Abs.D2
open Go Go.Eng Go.Abs

theorem ver_true {p m : List UInt8} {S : List (List UInt8)} (h : verD p m S = true) : S.length = 19 ∧ keyD (recL m S 19) = p := by
  unfold verD at h
  simp only [Bool.and_eq_true, decide_eq_true_eq, beq_iff_eq] at h
  obtain ⟨h1, h2⟩ := h
  have hl : S.length = 19 := by
    unfold recE at h1
    split at h1
    · assumption
    · cases h1
  exact ⟨hl, by rw [← h2, (rec_yes hl).1]⟩
theorem rec_get {m : List UInt8} {S : List (List UInt8)} {i : Nat} {q : List UInt8} (h : i < 19) (hq : S[i]? = some q) : (recL m S 19)[i]? = some (iterD (3 - dg m i) q) := by
  simp [recL, h, hq]
theorem rec_eq {m : List UInt8} {S T : List (List UInt8)} (e : recL m S 19 = recL m T 19) {i : Nat} {q r : List UInt8} (h : i < 19) (hq : S[i]? = some q) (hr : T[i]? = some r) : iterD (3 - dg m i) q = iterD (3 - dg m i) r := by
  have h1 := rec_get (m := m) h hq
  rw [e, rec_get h hr] at h1
  exact (Option.some.inj h1).symm
end Go.Abs.D2
