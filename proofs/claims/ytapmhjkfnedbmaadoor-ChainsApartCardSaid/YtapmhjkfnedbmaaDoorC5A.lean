/-
  Layer 5's plain law: chains of hashes. Conditions: none; nothing of any program stands here.
-/
import Derived.Test.YtapmhjkfnedbmaaDoorD2T
import Derived.Test.YtapmhjkfnedbmaaDoorAbsO
namespace Go.Abs.D2
open Go Go.Eng Go.Abs

/-- A step of a chain. -/
@[irreducible] def stepD (x : List UInt8) : List UInt8 := tagged [115, 116, 101, 112] x
theorem stepD_eq (x : List UInt8) : stepD x = tagged [115, 116, 101, 112] x := by unfold stepD; rfl
@[simp] theorem len_stepD (x : List UInt8) : (stepD x).length = 32 := by rw [stepD_eq]; simp
def iterD : Nat → List UInt8 → List UInt8
  | 0, x => x
  | k + 1, x => stepD (iterD k x)
theorem len_iterD {x : List UInt8} (h : x.length = 32) : ∀ k, (iterD k x).length = 32
  | 0 => h
  | _ + 1 => len_stepD _
@[irreducible] def firstD (s : List UInt8) (i : Nat) : List UInt8 := tagged [99, 104, 97, 105, 110] (s ++ [UInt8.ofNat i])
theorem firstD_eq (s : List UInt8) (i : Nat) : firstD s i = tagged [99, 104, 97, 105, 110] (s ++ [UInt8.ofNat i]) := by unfold firstD; rfl
@[simp] theorem len_firstD (s : List UInt8) (i : Nat) : (firstD s i).length = 32 := by rw [firstD_eq]; simp
@[irreducible] def keyD (L : List (List UInt8)) : List UInt8 := tagged [112, 117, 98, 108, 105, 99] L.flatten
theorem keyD_eq (L : List (List UInt8)) : keyD L = tagged [112, 117, 98, 108, 105, 99] L.flatten := by unfold keyD; rfl
@[simp] theorem len_keyD (L : List (List UInt8)) : (keyD L).length = 32 := by rw [keyD_eq]; simp

/-! Digits. -/
abbrev nI (n : Nat) : A := .i .i64 (n : Int)
@[irreducible] def dgt (m : List UInt8) (i : Nat) : Nat := (m.getD (i / 4) 0).toNat / 2 ^ (6 - 2 * (i % 4)) % 4
theorem dgt_eq (m : List UInt8) (i : Nat) : dgt m i = (m.getD (i / 4) 0).toNat / 2 ^ (6 - 2 * (i % 4)) % 4 := by unfold dgt; rfl
theorem dgt_lt (m : List UInt8) (i : Nat) : dgt m i < 4 := by rw [dgt_eq]; omega
@[irreducible] def dl (m : List UInt8) (k : Nat) : List Nat := (List.range k).map (dgt m)
theorem dl_0 (m : List UInt8) : dl m 0 = [] := by unfold dl; rfl
theorem dl_succ (m : List UInt8) (k : Nat) : dl m (k + 1) = dl m k ++ [dgt m k] := by unfold dl; simp [List.range_succ]
@[simp] theorem len_dl (m : List UInt8) (k : Nat) : (dl m k).length = k := by unfold dl; simp
theorem mem_dl {m : List UInt8} {k d : Nat} (h : d ∈ dl m k) : d < 4 := by
  unfold dl at h
  obtain ⟨i, _, rfl⟩ := List.mem_map.1 h
  exact dgt_lt m i
@[irreducible] def sumK (m : List UInt8) (k : Nat) : Nat := ((List.range k).map fun i => 3 - dgt m i).sum
theorem sumK_0 (m : List UInt8) : sumK m 0 = 0 := by unfold sumK; rfl
theorem sumK_succ (m : List UInt8) (k : Nat) : sumK m (k + 1) = sumK m k + (3 - dgt m k) := by unfold sumK; simp [List.range_succ]
theorem sumK_le (m : List UInt8) : ∀ k, sumK m k ≤ 3 * k
  | 0 => by rw [sumK_0]; omega
  | k + 1 => by rw [sumK_succ]; have := sumK_le m k; omega
def tl4 (s : Nat) : Nat → List Nat
  | 0 => []
  | j + 1 => (s / 4 ^ j % 4) :: tl4 s j
theorem len_tl4 (s : Nat) : ∀ j, (tl4 s j).length = j
  | 0 => rfl
  | j + 1 => by simp [tl4, len_tl4 s j]
theorem mem_tl4 {s d : Nat} : ∀ {j}, d ∈ tl4 s j → d < 4
  | 0, h => by cases h
  | j + 1, h => by
    rcases List.mem_cons.1 h with rfl | h
    · omega
    · exact mem_tl4 h
@[irreducible] def digits (m : List UInt8) : List Nat := dl m 16 ++ tl4 (sumK m 16) 3
theorem digits_eq (m : List UInt8) : digits m = dl m 16 ++ tl4 (sumK m 16) 3 := by unfold digits; rfl
@[simp] theorem len_digits (m : List UInt8) : (digits m).length = 19 := by rw [digits_eq]; simp [len_tl4]
theorem mem_digits {m : List UInt8} {d : Nat} (h : d ∈ digits m) : d < 4 := by
  rw [digits_eq] at h
  rcases List.mem_append.1 h with h | h
  · exact mem_dl h
  · exact mem_tl4 h
theorem getO {m : List UInt8} (i : Nat) (hi : i < m.length) : ((m.map u8).drop (0 + i * 1))[0]? = some (u8 (m.getD i 0)) := by
  simp [hi]
theorem and3 : ∀ n : Fin 256, ibits .and .i64 (IntKind.i64.wrap (n.val : Int)) 3 = ((n.val % 4 : Nat) : Int) := by decide +kernel
theorem dgt_and (m : List UInt8) (i : Nat) : A.i .i64 (ibits .and .i64 (IntKind.i64.wrap ((UInt8.ofNat ((m.getD (i / 4) 0).toNat / 2 ^ (6 - 2 * (i % 4)))).toNat : Int)) 3) = nI (dgt m i) := by
  have hb := (m.getD (i / 4) 0).toNat_lt
  have hd : (m.getD (i / 4) 0).toNat / 2 ^ (6 - 2 * (i % 4)) < 256 := Nat.lt_of_le_of_lt (Nat.div_le_self _ _) hb
  rw [u8n hd, dgt_eq]
  exact congrArg (A.i .i64) (and3 ⟨_, hd⟩)
theorem set_dl (m : List UInt8) (k : Nat) (h : k < 16) : ((dl m k).map nI ++ List.replicate (19 - k) (nI 0)).set (0 + k * 1) (nI (dgt m k)) = (dl m (k + 1)).map nI ++ List.replicate (19 - (k + 1)) (nI 0) := by
  rw [show 0 + k * 1 = k by omega, set_end k (by simp) (by omega), dl_succ]
  simp
  omega
theorem get_dl (m : List UInt8) (k : Nat) {cs : List A} (hc : cs = ((dl m (k + 1)).map nI ++ List.replicate (19 - (k + 1)) (nI 0)).drop (0 + k * 1)) : cs[0]? = some (nI (dgt m k)) := by
  subst hc
  rw [List.getElem?_drop, show 0 + k * 1 + 0 = k by omega, List.getElem?_append_left (by simp), dl_succ]
  simp
abbrev tailC (m : List UInt8) (j : Nat) : List A := (dl m 16).map nI ++ List.replicate (3 - j) (nI 0) ++ (tl4 (sumK m 16) j).map nI
theorem set_tl (m : List UInt8) (j : Nat) (h : j < 3) : (tailC m j).set (0 + (18 - j) * 1) (nI (sumK m 16 / 4 ^ j % 4)) = tailC m (j + 1) := by
  have hl : ((dl m 16).map nI).length = 16 := by simp
  have key : ∀ (A B : List Go.Abs.A) (x : Go.Abs.A) (i : Nat), A.length = 16 → (A ++ B).set (16 + i) x = A ++ B.set i x := fun A B x i hA => by
    rw [List.set_append, if_neg (by omega)]; congr 2; omega
  unfold tailC
  rw [List.append_assoc, List.append_assoc]
  match j, h with
  | 0, _ => exact key _ _ _ 2 hl
  | 1, _ => exact key _ _ _ 1 hl
  | 2, _ => exact key _ _ _ 0 hl
theorem tail_0 (m : List UInt8) : (dl m 16).map nI ++ List.replicate (19 - 16) (nI 0) = tailC m 0 := by simp [tailC, tl4]
theorem tail_3 (m : List UInt8) : tailC m 3 = (digits m).map nI := by rw [digits_eq]; simp [tailC]
theorem take_next {L : List (List UInt8)} {i : Nat} {p : List UInt8} (h : L[i]? = some p) : (L.take i).flatten ++ p = (L.take (i + 1)).flatten := by
  rw [List.take_add_one, h]; simp
theorem len_next {L : List (List UInt8)} {i : Nat} {p : List UInt8} (h : L[i]? = some p) : (L.take i).flatten.length + p.length = (L.take (i + 1)).flatten.length ∧ (L.take (i + 1)).flatten.length ≤ L.flatten.length := by
  refine ⟨by rw [← take_next h]; simp, ?_⟩
  have e : L.flatten.length = ((L.take (i + 1)).flatten ++ (L.drop (i + 1)).flatten).length := by rw [← List.flatten_append, List.take_append_drop]
  rw [e, List.length_append]; omega
end Go.Abs.D2
