/-
  Layer 2, in plain words: the hash as the program does it. Conditions: none; no program in sight.
-/
import Derived.Test.YtbjfpoafphggnaaDoorD2P
import Derived.Test.YtbjfpoafphggnaaDoorAbsJ
import Derived.KernelRfl
namespace Go.Abs.D2
open Go Go.Abs

/-- The first bytes of a word. -/
def wpart (b : List UInt8) (o : Nat) : Nat → BitVec 32
  | 0 => 0
  | j + 1 => wpart b o j <<< 8 ||| c32 (b.getD (o + j) 0).toNat
theorem wpart_4 (b : List UInt8) (o : Nat) : wpart b o 4 = word b o := by
  simp only [wpart, Nat.add_zero]
  exact word_steps _ _ _ _
theorem part_0 (b : List UInt8) (i : Nat) (h : i < 16) : (words b i).map w32 ++ List.replicate (64 - i) (w32 0) = (words b i).map w32 ++ [w32 (wpart b (4 * i) 0)] ++ List.replicate (63 - i) (w32 0) := by
  rw [show 64 - i = (63 - i) + 1 by omega, List.replicate_succ]
  simp [wpart]
theorem part_end (b : List UInt8) (i : Nat) (h : i < 16) : (words b i).map w32 ++ [w32 (wpart b (4 * i) 4)] ++ List.replicate (63 - i) (w32 0) = (words b (i + 1)).map w32 ++ List.replicate (64 - (i + 1)) (w32 0) := by
  rw [words_succ, wpart_4, show 64 - (i + 1) = 63 - i by omega]
  simp
theorem get_part (b : List UInt8) (i j : Nat) : (((words b i).map w32 ++ [w32 (wpart b (4 * i) j)] ++ List.replicate (63 - i) (w32 0)).drop (0 + i * 1))[0]? = some (w32 (wpart b (4 * i) j)) := by
  rw [List.getElem?_drop, List.append_assoc, List.getElem?_append_right (by simp)]
  simp
theorem set_part (b : List UInt8) (i j : Nat) : ((words b i).map w32 ++ [w32 (wpart b (4 * i) j)] ++ List.replicate (63 - i) (w32 0)).set (0 + i * 1) (w32 (wpart b (4 * i) (j + 1))) = (words b i).map w32 ++ [w32 (wpart b (4 * i) (j + 1))] ++ List.replicate (63 - i) (w32 0) := by
  rw [List.append_assoc, List.set_append_right _ _ (by simp)]
  simp
/-- The sums, as far as they are made. -/
def sumS (s t : S8) (i : Nat) : List (BitVec 32) := (s.add t).l.take i ++ s.l.drop i
theorem len_sumS (s t : S8) (i : Nat) : (sumS s t i).length = 8 := by
  simp [sumS]; omega
theorem sum_8 (s t : S8) : sumS s t 8 = (s.add t).l := rfl
theorem set_sum (s t : S8) (i : Nat) (h : i < 8) : ((sumS s t i).map w32).set (0 + i * 1) (w32 ((sumS s t i).getD i 0 + t.l.getD i 0)) = (sumS s t (i + 1)).map w32 := by
  match i, h with
  | 0, _ => rfl
  | 1, _ => rfl
  | 2, _ => rfl
  | 3, _ => rfl
  | 4, _ => rfl
  | 5, _ => rfl
  | 6, _ => rfl
  | 7, _ => rfl
/-- The table of the package. -/
def gK : List A := match lookG glob 0 with | some vs => vs.map evC | none => []
theorem gK_eq : gK = kTab.map w32 := by kernel_rfl
theorem getK (t : Nat) (h : t < 64) : (gK.drop (t * 1))[0]? = some (w32 (kTab.getD t 0)) :=
  getW1 t (by simpa using h) (by rw [gK_eq])

/-! The stream: what is behind the last whole block waits. -/
abbrev slA (p : List UInt8) : A := .fz p.length (p.map u8)
def hs (s : List UInt8) : S8 := absAll (s.length / 64) h0 s
def rem (s : List UInt8) : List UInt8 := s.drop (64 * (s.length / 64))
@[simp] theorem len_rem (s : List UInt8) : (rem s).length = s.length % 64 := by
  simp only [rem, List.length_drop]; omega
theorem hs_rem (s : List UInt8) : s = s.take (64 * (s.length / 64)) ++ rem s := (List.take_append_drop _ _).symm
theorem rem_app {s c : List UInt8} (h : s.length % 64 + c.length < 64) : rem (s ++ c) = rem s ++ c ∧ hs (s ++ c) = hs s ∧ (s ++ c).length % 64 = s.length % 64 + c.length := by
  have hd : (s ++ c).length / 64 = s.length / 64 := by simp only [List.length_append]; omega
  refine ⟨?_, ?_, by simp only [List.length_append]; omega⟩
  · unfold rem
    rw [hd, List.drop_append_of_le_length (by omega)]
  · unfold hs
    rw [hd]
    conv => lhs; rw [hs_rem s, List.append_assoc]
    conv => rhs; rw [hs_rem s]
    rw [absAll_cut _ _ _ _ (by simp; omega), absAll_cut _ _ _ _ (by simp; omega)]
theorem rem_full {s c : List UInt8} (h : s.length % 64 + c.length = 64) : rem (s ++ c) = [] ∧ hs (s ++ c) = comp (hs s) (rem s ++ c) ∧ (s ++ c).length % 64 = 0 := by
  have hl : (s ++ c).length = 64 * (s.length / 64 + 1) := by simp only [List.length_append]; omega
  have hd : (s ++ c).length / 64 = s.length / 64 + 1 := by omega
  refine ⟨?_, ?_, by omega⟩
  · unfold rem
    exact List.drop_eq_nil_of_le (by omega)
  · unfold hs
    rw [hd, absAll_snoc, List.drop_append_of_le_length (by omega)]
    congr 1
    · conv => lhs; rw [hs_rem s, List.append_assoc]
      conv => rhs; rw [hs_rem s]
      rw [absAll_cut _ _ _ _ (by simp; omega), absAll_cut _ _ _ _ (by simp; omega)]
    · exact List.take_of_length_le (by have := len_rem s; unfold rem at this; simp only [List.length_append, this]; omega)

/-- What is copied: as much as there is, as much as fits. -/
abbrev fitN (p s : List UInt8) (j : Nat) : Nat := Nat.min (p.length - j) (64 - s.length % 64)
theorem buf_copy (s tl p : List UInt8) (j c : Nat) :
    ((rem s ++ tl).map u8).take (s.length % 64) ++ ((p.drop j).map u8).take c ++ ((rem s ++ tl).map u8).drop (s.length % 64 + c) = (rem s ++ (p.drop j).take c ++ tl.drop c).map u8 := by
  rw [← List.map_take, ← List.map_take, ← List.map_drop, ← List.map_append, ← List.map_append]
  rw [List.take_left' (len_rem s), ← List.drop_drop, List.drop_left' (len_rem s)]
theorem getP {parts : List (List UInt8)} {p : List UInt8} {i : Nat} (h : parts[i]? = some p) : ((parts.map slA).drop (i * 1))[0]? = some (slA p) := by
  rw [List.getElem?_drop, List.getElem?_map, show i * 1 + 0 = i by omega, h]; rfl
theorem cut_p (p : List UInt8) (j c : Nat) : (((p.drop j).map u8).drop (c * 1)).take ((p.length - (j + c)) * 1) = (p.drop (j + c)).map u8 := by
  rw [Nat.mul_one, Nat.mul_one, ← List.map_drop, List.drop_drop]
  exact List.take_of_length_le (by simp)
theorem take_p (p : List UInt8) (j c : Nat) : p.take j ++ (p.drop j).take c = p.take (j + c) := by rw [← List.take_add]
theorem cat_p {parts : List (List UInt8)} {p : List UInt8} {i : Nat} (h : parts[i]? = some p) : (parts.take i).flatten ++ p.take p.length = (parts.take (i + 1)).flatten := by
  rw [List.take_add_one, h, List.take_length]; simp
theorem set_128 (s tl : List UInt8) (ht : tl.length = 64 - s.length % 64) : ((rem s ++ tl).map u8).set (0 + s.length % 64 * 1) (.i .u8 128) = (rem s ++ [128] ++ tl.drop 1).map u8 := by
  have : tl ≠ [] := by intro h; subst h; simp at ht; omega
  obtain ⟨x, r, rfl⟩ := List.exists_cons_of_ne_nil this
  rw [List.map_append, List.set_append_right _ _ (by simp)]
  simp
theorem fill_0 (s tl : List UInt8) (ht : tl.length = 64 - s.length % 64) (o : Nat) (ho : o = 0 + (if 64 = s.length % 64 + 1 then 0 else (s.length % 64 + 1) * 1)) :
    ((rem s ++ [128] ++ tl.drop 1).map u8).take o ++ List.replicate (64 - (s.length % 64 + 1)) (evC (.int .u8 0)) ++ ((rem s ++ [128] ++ tl.drop 1).map u8).drop (o + (64 - (s.length % 64 + 1))) = (rem s ++ [128] ++ List.replicate (63 - s.length % 64) 0).map u8 := by
  have he : evC (.int .u8 0) = u8 0 := rfl
  subst ho
  rw [he]
  by_cases h : 64 = s.length % 64 + 1
  · rw [if_pos h, show 64 - (s.length % 64 + 1) = 0 by omega, show 63 - s.length % 64 = 0 by omega, show tl.drop 1 = [] from List.drop_eq_nil_of_le (by omega)]
    simp
  · rw [if_neg h]
    have e1 : ((rem s ++ [128] ++ tl.drop 1).map u8).take (0 + (s.length % 64 + 1) * 1) = (rem s ++ [128]).map u8 := by
      rw [← List.map_take, List.take_left' (by simp)]
    have e2 : ((rem s ++ [128] ++ tl.drop 1).map u8).drop (0 + (s.length % 64 + 1) * 1 + (64 - (s.length % 64 + 1))) = [] := List.drop_eq_nil_of_le (by simp; omega)
    rw [e1, e2, show 64 - (s.length % 64 + 1) = 63 - s.length % 64 by omega]
    simp
theorem at0 (s p : List UInt8) : s ++ p.take 0 = s := by simp
theorem add_len (s p : List UInt8) : w64 (c64 s.length + c64 p.length) = w64 (c64 (s ++ p.take p.length).length) := by
  rw [List.take_length, List.length_append]
  exact congrArg w64 (BitVec.ofNat_add _ _).symm
theorem len_part {parts : List (List UInt8)} {p : List UInt8} (h : p ∈ parts) : p.length ≤ parts.flatten.length := by
  induction parts with
  | nil => cases h
  | cons q r ih =>
    simp only [List.flatten_cons, List.length_append]
    rcases List.mem_cons.1 h with rfl | h
    · omega
    · have := ih h; omega
theorem zeros_64 : (List.replicate 64 (Value.int .u8 0)).map evC = (rem [] ++ List.replicate 64 0).map u8 := by kernel_rfl
theorem clear_64 {l : List A} (h : l.length = 64) : l.take 0 ++ List.replicate 64 (evC (.int .u8 0)) ++ l.drop (0 + 64) = (List.replicate 64 (0 : UInt8)).map u8 := by
  rw [List.drop_eq_nil_of_le (by omega)]
  rfl
/-- Behind a copy: the block is full. -/
theorem next_full {s p tl : List UInt8} {j c : Nat} (hc : c ≤ p.length - j) (ht : tl.length = 64 - (s ++ p.take j).length % 64) (h : (s ++ p.take j).length % 64 + c = 64) :
    rem (s ++ p.take (j + c)) = [] ∧ hs (s ++ p.take (j + c)) = comp (hs (s ++ p.take j)) (rem (s ++ p.take j) ++ (p.drop j).take c ++ tl.drop c) ∧ (s ++ p.take (j + c)).length % 64 = 0 := by
  have e : (s ++ p.take j) ++ (p.drop j).take c = s ++ p.take (j + c) := by rw [List.append_assoc, take_p]
  have hl : ((p.drop j).take c).length = c := by rw [List.length_take, List.length_drop]; omega
  have := rem_full (s := s ++ p.take j) (c := (p.drop j).take c) (by omega)
  rw [e] at this
  rw [show tl.drop c = [] from List.drop_eq_nil_of_le (by omega), List.append_nil]
  exact this
/-- .. or it is not. -/
theorem next_part {s p : List UInt8} {j c : Nat} (hc : c ≤ p.length - j) (h : (s ++ p.take j).length % 64 + c < 64) :
    rem (s ++ p.take (j + c)) = rem (s ++ p.take j) ++ (p.drop j).take c ∧ hs (s ++ p.take (j + c)) = hs (s ++ p.take j) ∧ (s ++ p.take (j + c)).length % 64 = (s ++ p.take j).length % 64 + c := by
  have e : (s ++ p.take j) ++ (p.drop j).take c = s ++ p.take (j + c) := by rw [List.append_assoc, take_p]
  have hl : ((p.drop j).take c).length = c := by rw [List.length_take, List.length_drop]; omega
  have := rem_app (s := s ++ p.take j) (c := (p.drop j).take c) (by omega)
  rw [e, hl] at this
  exact this
/-- Before the last block: the state, and the block's first 56 bytes. -/
def lastS (s : List UInt8) : S8 := if s.length % 64 + 1 > 56 then comp (hs s) (rem s ++ [128] ++ List.replicate (63 - s.length % 64) 0) else hs s
def lastB (s : List UInt8) : List UInt8 := if s.length % 64 + 1 > 56 then List.replicate 56 0 else rem s ++ [128] ++ List.replicate (55 - s.length % 64) 0
theorem len_lastB (s : List UInt8) : (lastB s).length = 56 := by
  unfold lastB; split <;> simp; omega
theorem lastB_far {s : List UInt8} (h : s.length % 64 + 1 > 56) : (List.replicate 64 (0 : UInt8)).map u8 = (lastB s ++ List.replicate (8 - 0) 0 ++ (be64 (8 * s.length)).drop (8 - 0)).map u8 := by
  rw [lastB, if_pos h, List.drop_eq_nil_of_le (by simp), List.append_nil, List.replicate_append_replicate]
theorem lastB_near {s : List UInt8} (h : ¬ s.length % 64 + 1 > 56) : (rem s ++ [128] ++ List.replicate (63 - s.length % 64) 0).map u8 = (lastB s ++ List.replicate (8 - 0) 0 ++ (be64 (8 * s.length)).drop (8 - 0)).map u8 := by
  rw [lastB, if_neg h, List.drop_eq_nil_of_le (by simp), List.append_nil, List.append_assoc _ _ (List.replicate (8 - 0) 0), List.replicate_append_replicate, show 55 - s.length % 64 + (8 - 0) = 63 - s.length % 64 by omega]
theorem set_be (s : List UInt8) (i : Nat) (x : UInt8) (hi : i < 8) (hx : x = UInt8.ofNat (8 * s.length / 2 ^ (8 * i))) :
    ((lastB s ++ List.replicate (8 - i) 0 ++ (be64 (8 * s.length)).drop (8 - i)).map u8).set (0 + (63 - i) * 1) (u8 x) = (lastB s ++ List.replicate (8 - (i + 1)) 0 ++ (be64 (8 * s.length)).drop (8 - (i + 1))).map u8 := by
  subst hx
  have hl := len_lastB s
  rw [← List.map_set, show 8 - i = (8 - (i + 1)) + 1 by omega, List.replicate_succ', ← List.append_assoc, List.append_assoc (lastB s ++ _), List.set_append_right _ _ (by simp; omega)]
  congr 2
  have hd : (be64 (8 * s.length)).drop (8 - (i + 1)) = UInt8.ofNat (8 * s.length / 2 ^ (8 * i)) :: (be64 (8 * s.length)).drop (8 - (i + 1) + 1) := by
    rw [List.drop_eq_getElem_cons (by simp; omega)]
    congr 1
    have := be64_at (8 * s.length) (8 - (i + 1)) (by omega)
    rw [List.getElem?_eq_getElem (by simp; omega)] at this
    rw [Option.some.inj this, show 7 - (8 - (i + 1)) = i by omega]
  rw [hd, show 0 + (63 - i) * 1 - (lastB s ++ List.replicate (8 - (i + 1)) (0 : UInt8)).length = 0 by simp; omega]
  rfl
/-- The last block done: the state of the padded whole. -/
def fin (s : List UInt8) : S8 := absAll ((pad s).length / 64) h0 (pad s)
theorem fin_last (s : List UInt8) : comp (lastS s) (lastB s ++ be64 (8 * s.length)) = fin s := by
  have hr := len_rem s
  have hz := zeros_spec s.length
  have hp := len_pad s
  have split : pad s = s.take (64 * (s.length / 64)) ++ (rem s ++ [128] ++ List.replicate (zeros s.length) 0 ++ be64 (8 * s.length)) := by
    conv => lhs; rw [pad]; rw [hs_rem s]
    have : (s.take (64 * (s.length / 64)) ++ rem s).length = s.length := by rw [← hs_rem s]
    rw [this]
    simp [List.append_assoc]
  have hhs : absAll (s.length / 64) h0 (s.take (64 * (s.length / 64))) = hs s := by
    unfold hs
    conv => rhs; rw [hs_rem s]
    rw [absAll_cut _ _ _ _ (by simp; omega)]
    congr 1
    simp; omega
  unfold fin
  by_cases h : s.length % 64 + 1 > 56
  · have hzz : zeros s.length = (63 - s.length % 64) + 56 := by omega
    rw [show (pad s).length / 64 = s.length / 64 + (1 + 1) by omega, split, absAll_app _ _ _ _ _ (by simp; omega), hhs, lastS, lastB, if_pos h, if_pos h, hzz, ← List.replicate_append_replicate]
    rw [show rem s ++ [128] ++ (List.replicate (63 - s.length % 64) 0 ++ List.replicate 56 0) ++ be64 (8 * s.length) = (rem s ++ [128] ++ List.replicate (63 - s.length % 64) 0) ++ (List.replicate 56 0 ++ be64 (8 * s.length)) by simp [List.append_assoc]]
    rw [absAll_app 1 1 _ _ _ (by simp; omega)]
    simp only [absAll]
    rw [List.take_of_length_le (by simp; omega), List.take_of_length_le (by simp)]
  · have hzz : zeros s.length = 55 - s.length % 64 := by omega
    rw [show (pad s).length / 64 = s.length / 64 + 1 by omega, split, absAll_app _ _ _ _ _ (by simp; omega), hhs, lastS, lastB, if_neg h, if_neg h, hzz]
    simp only [absAll]
    rw [List.take_of_length_le (by simp; omega)]
end Go.Abs.D2
