/-
  Layer 5's plain law, next: arrays of digests, slices into them, signatures. Conditions: none; nothing of any program stands here.
-/
import Derived.Test.YtapmhjkfnedbmaaDoorC5A
namespace Go.Abs.D2
open Go Go.Eng Go.Abs

/-! An array of digests that is filled. -/
abbrev arrC (n : Nat) (L : List (List UInt8)) : List A := L.flatten.map u8 ++ List.replicate ((n - L.length) * 32) (u8 0)
theorem put_arr {n o : Nat} {L : List (List UInt8)} {d : List UInt8} (hD : D32 L) (hl : L.length < n) (ho : o = L.length * 32) : (arrC n L).take (0 + o) ++ d.map u8 ++ (arrC n L).drop (0 + o + 32) = arrC n (L ++ [d]) := by
  subst ho
  have e : (L.flatten.map u8).length = L.length * 32 := by rw [List.length_map, hD.len]
  unfold arrC
  rw [Nat.zero_add, List.take_append_of_le_length (by omega), List.take_of_length_le (by omega), List.drop_append, List.drop_of_length_le (by omega), e, show L.length * 32 + 32 - L.length * 32 = 32 by omega, List.drop_replicate]
  simp only [List.nil_append, List.flatten_append, List.flatten_cons, List.flatten_nil, List.append_nil, List.map_append, List.length_append, List.length_cons, List.length_nil, Nat.zero_add]
  rw [show (n - L.length) * 32 - 32 = (n - (L.length + 1)) * 32 by omega]
theorem arr_0 (n : Nat) : List.replicate (n * 32) (u8 0) = arrC n [] := by simp [arrC]
theorem arr_full {n : Nat} {L : List (List UInt8)} (h : L.length = n) : arrC n L = L.flatten.map u8 := by simp [arrC, h]
theorem len_arr {n : Nat} {L : List (List UInt8)} (hD : D32 L) (h : L.length ≤ n) : (arrC n L).length = n * 32 := by
  simp only [arrC, List.length_append, List.length_map, List.length_replicate, hD.len]
  omega

/-! Slices into it. -/
abbrev slot1 (k : Nat) : A := .sl 1 1 (0 + k * 32) 32
abbrev slotsC (i : Nat) : List A := (List.range i).map slot1 ++ List.replicate (19 - i) .nl
theorem set_slots (i : Nat) (h : i < 19) : (slotsC i).set (0 + i * 1) (slot1 i) = slotsC (i + 1) := by
  unfold slotsC
  rw [show 0 + i * 1 = i by omega, set_end i (by simp) (by omega), List.range_succ]
  simp
  omega
theorem ren_map {ρ : Rho} (h : lookR ρ 1 = some (some 1)) : ∀ l : List Nat, RenL ρ (l.map slot1) (l.map slot1)
  | [] => .nil
  | _ :: l => .cons (.sl h rfl) (ren_map h l)
theorem ren_slots {ρ : Rho} (h : lookR ρ 1 = some (some 1)) (i : Nat) : RenL ρ (slotsC i) (slotsC i) :=
  (ren_map h _).app (.pure (by
    have : ∀ k, PureL (List.replicate k A.nl) := fun k => by
      induction k with
      | zero => trivial
      | succ k ih => exact ⟨trivial, ih⟩
    exact this _))
theorem vw_map {st : St} {L : List (List UInt8)} (hD : D32 L) (hg : st.get 1 = some (L.flatten.map u8)) : ∀ (n k : Nat), n + k = L.length → VwL st ⟨[]⟩ true ((List.range' k n).map slot1) ((L.drop k).map slA)
  | 0, k, h => by
    rw [List.drop_of_length_le (by omega)]
    exact .nil
  | n + 1, k, h => by
    have hk : k < L.length := by omega
    have hm : L[k] ∈ L := List.getElem_mem hk
    rw [List.drop_eq_getElem_cons hk, List.range'_succ]
    refine .cons ?_ (vw_map hD hg n (k + 1) (by omega))
    have e : ((L.flatten.map u8).drop (0 + k * 32)).take (32 * 1) = L[k].map u8 := by
      rw [Nat.zero_add, ← List.map_drop, ← List.map_take, hD.drop_flat k, show 32 * 1 = 1 * 32 by omega, (hD.drop k).take_flat 1]
      rw [List.drop_eq_getElem_cons hk]
      simp only [List.take_succ_cons, List.take_zero, List.flatten_cons, List.flatten_nil, List.append_nil]
    exact .sl rfl hg (hD _ hm).symm e (VwL.pure pul) pul
theorem vw_slots {st : St} {L : List (List UInt8)} (hD : D32 L) (hl : L.length = 19) (hg : st.get 1 = some (L.flatten.map u8)) : VwL st ⟨[]⟩ true (slotsC 19) (L.map slA) := by
  have := vw_map hD hg 19 0 (by omega)
  rw [List.drop_zero] at this
  simpa [slotsC, List.range_eq_range'] using this
theorem flat_slA (L : List (List UInt8)) : L.flatten.length = (L.map List.length).sum := by simp

/-! Keys and signatures. -/
@[irreducible] def pubL (s : List UInt8) (i : Nat) : List (List UInt8) := (List.range i).map fun k => iterD 3 (firstD s k)
theorem pubL_0 (s : List UInt8) : pubL s 0 = [] := by unfold pubL; rfl
theorem pubL_succ (s : List UInt8) (i : Nat) : pubL s (i + 1) = pubL s i ++ [iterD 3 (firstD s i)] := by unfold pubL; simp [List.range_succ]
@[simp] theorem len_pubL (s : List UInt8) (i : Nat) : (pubL s i).length = i := by unfold pubL; simp
theorem D32_pubL (s : List UInt8) : ∀ i, D32 (pubL s i)
  | 0 => by rw [pubL_0]; exact fun x h => by cases h
  | i + 1 => by rw [pubL_succ]; exact (D32_pubL s i).app (.one (len_iterD (by simp) _))
def pubD (s : List UInt8) : List UInt8 := keyD (pubL s 19)
@[simp] theorem len_pubD (s : List UInt8) : (pubD s).length = 32 := len_keyD _
abbrev dg (m : List UInt8) (k : Nat) : Nat := (digits m).getD k 0
theorem dg_lt (m : List UInt8) (k : Nat) : dg m k < 4 := by
  rcases Nat.lt_or_ge k (digits m).length with h | h
  · simp only [dg, List.getD_eq_getElem?_getD, List.getElem?_eq_getElem h]; exact mem_digits (List.getElem_mem h)
  · simp only [dg, List.getD_eq_getElem?_getD, List.getElem?_eq_none h]; decide
theorem get_dig (m : List UInt8) (k : Nat) (h : k < 19) : ((digits m).map nI)[k]? = some (nI (dg m k)) := by
  have : k < (digits m).length := by simpa using h
  simp [dg, List.getElem?_eq_getElem this]
def signL (s m : List UInt8) (i : Nat) : List (List UInt8) := (List.range i).map fun k => iterD (dg m k) (firstD s k)
theorem signL_0 (s m : List UInt8) : signL s m 0 = [] := rfl
theorem signL_succ (s m : List UInt8) (i : Nat) : signL s m (i + 1) = signL s m i ++ [iterD (dg m i) (firstD s i)] := by simp [signL, List.range_succ]
@[simp] theorem len_signL (s m : List UInt8) (i : Nat) : (signL s m i).length = i := by simp [signL]
theorem D32_signL (s m : List UInt8) : ∀ i, D32 (signL s m i)
  | 0 => by rw [signL_0]; exact fun x h => by cases h
  | i + 1 => by rw [signL_succ]; exact (D32_signL s m i).app (.one (len_iterD (by simp) _))
abbrev signD (s m : List UInt8) : List (List UInt8) := signL s m 19
theorem sign_flat (s m : List UInt8) (i : Nat) : (signL s m i).flatten.map u8 ++ (iterD (dg m i) (firstD s i)).map u8 = (signL s m (i + 1)).flatten.map u8 := by rw [signL_succ]; simp
def recL (m : List UInt8) (S : List (List UInt8)) (i : Nat) : List (List UInt8) := (List.range i).map fun k => iterD (3 - dg m k) (S.getD k [])
theorem recL_0 (m : List UInt8) (S : List (List UInt8)) : recL m S 0 = [] := rfl
theorem recL_succ (m : List UInt8) (S : List (List UInt8)) (i : Nat) : recL m S (i + 1) = recL m S i ++ [iterD (3 - dg m i) (S.getD i [])] := by simp [recL, List.range_succ]
@[simp] theorem len_recL (m : List UInt8) (S : List (List UInt8)) (i : Nat) : (recL m S i).length = i := by simp [recL]
theorem D32_recL {m : List UInt8} {S : List (List UInt8)} (hS : D32 S) : ∀ i, i ≤ S.length → D32 (recL m S i)
  | 0, _ => by rw [recL_0]; exact fun x h => by cases h
  | i + 1, h => by
    rw [recL_succ]
    have : S.getD i [] ∈ S := by simp [List.getElem?_eq_getElem (show i < S.length by omega)]
    exact (D32_recL hS i (by omega)).app (.one (len_iterD (hS _ this) _))
def recD (m : List UInt8) (S : List (List UInt8)) : List UInt8 := if S.length = 19 then keyD (recL m S 19) else List.replicate 32 0
def recE (S : List (List UInt8)) : Nat := if S.length = 19 then 0 else 50
@[simp] theorem len_recD (m : List UInt8) (S : List (List UInt8)) : (recD m S).length = 32 := by unfold recD; split <;> simp
theorem rec_yes {m : List UInt8} {S : List (List UInt8)} (h : S.length = 19) : recD m S = keyD (recL m S 19) ∧ recE S = 0 := ⟨if_pos h, if_pos h⟩
theorem rec_no {m : List UInt8} {S : List (List UInt8)} (h : S.length ≠ 19) : recD m S = List.replicate 32 0 ∧ recE S = 50 := ⟨if_neg h, if_neg h⟩
def verD (p m : List UInt8) (S : List (List UInt8)) : Bool := decide (recE S = 0) && (recD m S == p)
def earO (a b : List UInt8) : Option Nat := (List.range 19).find? fun i => decide (dg b i < dg a i)
def earA (a b : List UInt8) (S : List (List UInt8)) : Option Nat := if S.length = 19 then earO a b else none
abbrev earV (o : Option Nat) : A := .tu [nI (o.getD 0), .b o.isSome]
theorem ear_some {a b : List UInt8} {i : Nat} (h : i < 19) (hi : dg b i < dg a i) (hb : ∀ k, k < i → ¬ dg b k < dg a k) : earO a b = some i := by
  unfold earO
  rw [List.find?_range_eq_some]
  exact ⟨by simpa using hi, by simpa using h, fun k hk => by simpa using hb k hk⟩
theorem ear_none {a b : List UInt8} (hb : ∀ k, k < 19 → ¬ dg b k < dg a k) : earO a b = none := by
  unfold earO
  rw [List.find?_eq_none]
  intro k hk
  simpa using hb k (List.mem_range.1 hk)
theorem get_dig2 (m : List UInt8) (k : Nat) (h : k < 19) : (((digits m).map nI).drop (0 + k * 1))[0]? = some (nI (dg m k)) := by
  rw [List.getElem?_drop, show 0 + k * 1 + 0 = k by omega]; exact get_dig m k h
theorem get_d5 {L : List (List UInt8)} (h : D32 L) {k : Nat} {q : List UInt8} (hq : L[k]? = some q) : ((L.flatten.map u8).drop (k * 32)).take 32 = q.map u8 := by
  have hk := (List.getElem?_eq_some_iff.1 hq).1
  rw [← List.map_drop, ← List.map_take, h.drop_flat k, show 32 = 1 * 32 by omega, (h.drop k).take_flat 1, List.drop_eq_getElem_cons hk]
  simp only [List.take_succ_cons, List.take_zero, List.flatten_cons, List.flatten_nil, List.append_nil]
  rw [(List.getElem?_eq_some_iff.1 hq).2]
theorem len_it {x : List UInt8} (h : x.length = 32) {k : Nat} : (cellsA (.ag ((iterD k x).map u8))).length = 32 := by
  show ((iterD k x).map u8).length = 32
  rw [List.length_map]; exact len_iterD h k
/-! The specification's digits. -/
def nk (b k : Nat) : Nat := b % 4 ^ (4 - k) * 4 ^ k
theorem nk_0 {b : Nat} (h : b < 256) : nk b 0 = b := by unfold nk; simp; omega
theorem nk_succ {b k : Nat} (hk : k < 4) : nk b k % 64 * 4 = nk b (k + 1) := by
  match k, hk with
  | 0, _ => simp only [nk]; omega
  | 1, _ => simp only [nk]; omega
  | 2, _ => simp only [nk]; omega
  | 3, _ => simp only [nk]; omega
theorem nk_lt {b k : Nat} (hk : k ≤ 4) : nk b k < 1024 := by
  match k, hk with
  | 0, _ => simp only [nk]; omega
  | 1, _ => simp only [nk]; omega
  | 2, _ => simp only [nk]; omega
  | 3, _ => simp only [nk]; omega
  | 4, _ => simp only [nk]; omega
theorem nk_dgt {m : List UInt8} {i k : Nat} (hk : k < 4) : nk (m.getD i 0).toNat k / 64 = dgt m (4 * i + k) := by
  rw [dgt_eq, show (4 * i + k) / 4 = i by omega, show (4 * i + k) % 4 = k by omega]
  have hb := (m.getD i 0).toNat_lt
  match k, hk with
  | 0, _ => simp only [nk]; omega
  | 1, _ => simp only [nk]; omega
  | 2, _ => simp only [nk]; omega
  | 3, _ => simp only [nk]; omega
theorem sum_step {m : List UInt8} {k d : Nat} (hd : d = dgt m k) : sumK m k + 3 - d = sumK m (k + 1) := by
  subst hd
  have := dgt_lt m k
  rw [sumK_succ]; omega
theorem dl_step {m : List UInt8} {k d : Nat} (hd : d = dgt m k) : (dl m k).map nI ++ [nI d] = (dl m (k + 1)).map nI := by rw [dl_succ, hd]; simp
theorem digits_end (m : List UInt8) : (dl m 16).map nI ++ [nI (sumK m 16 / 16), nI (sumK m 16 / 4 % 4), nI (sumK m 16 % 4)] = (digits m).map nI := by
  have := sumK_le m 16
  rw [digits_eq]
  simp only [tl4, List.map_append, List.map_cons, List.map_nil]
  rw [show sumK m 16 / 4 ^ 2 % 4 = sumK m 16 / 16 by omega, show sumK m 16 / 4 ^ 1 % 4 = sumK m 16 / 4 % 4 by omega, show sumK m 16 / 4 ^ 0 % 4 = sumK m 16 % 4 by omega]
theorem conv8 (b : UInt8) : A.i .i64 (IntKind.i64.wrap (b.toNat : Int)) = nI b.toNat := by
  have := b.toNat_lt
  exact congrArg (A.i .i64) (wrapI _ (by omega) (by omega))
theorem pub_flat (s : List UInt8) (i : Nat) : (pubL s i).flatten.map u8 ++ (iterD 3 (firstD s i)).map u8 = (pubL s (i + 1)).flatten.map u8 := by rw [pubL_succ]; simp
theorem rec_flat {m : List UInt8} {S : List (List UInt8)} {i : Nat} {q : List UInt8} (hq : S.getD i [] = q) : (recL m S i).flatten.map u8 ++ (iterD (3 - dg m i) q).map u8 = (recL m S (i + 1)).flatten.map u8 := by rw [recL_succ, hq]; simp
theorem get_dig3 (m : List UInt8) (k : Nat) (h : k < 19) : (((digits m).map nI).drop (k * 1))[0]? = some (nI (dg m k)) := by
  rw [List.getElem?_drop, show k * 1 + 0 = k by omega]; exact get_dig m k h
theorem cut_dig {L : List (List UInt8)} (h : D32 L) {k : Nat} {q : List UInt8} (hq : L[k]? = some q) : ((((L.flatten.map u8).drop (k * 32)).drop (0 * 1)).take (32 * 1)) = q.map u8 := by
  rw [Nat.zero_mul, List.drop_zero, Nat.mul_one]; exact get_d5 h hq
end Go.Abs.D2
