/-
  Layer 2, in plain words: what the statements ask. Conditions: none; no program in sight.
-/
import Derived.Test.YtpchamaioceahaaDoorD2U
import Derived.Test.YtpchamaioceahaaDoorAbsM
namespace Go.Abs.D2
open Go Go.Eng Go.Abs

/-- A digest of a list that bytes determine. -/
def dig1 (s : List UInt8) (k : Nat) : List UInt8 := [s.getD k 0 % 4, UInt8.ofNat (k / 8)] ++ List.replicate 30 0
def digsK (s : List UInt8) (i : Nat) : List (List UInt8) := (List.range i).map (dig1 s)
def digs (s : List UInt8) : List (List UInt8) := digsK s (min s.length 24)
@[simp] theorem len_digsK (s : List UInt8) (i : Nat) : (digsK s i).length = i := by simp [digsK]
theorem len_digs (s : List UInt8) : (digs s).length ≤ 24 := by simp [digs]; omega
theorem D32_digsK (s : List UInt8) (i : Nat) : D32 (digsK s i) := fun x hx => by
  obtain ⟨k, _, rfl⟩ := List.mem_map.1 hx
  simp [dig1]
theorem D32_digs (s : List UInt8) : D32 (digs s) := D32_digsK s _
theorem digsK_succ (s : List UInt8) (i : Nat) : digsK s (i + 1) = digsK s i ++ [dig1 s i] := by simp [digsK, List.range_succ]
theorem flat_succ (s : List UInt8) (i : Nat) : ((digsK s i).flatten.map u8) ++ (dig1 s i).map u8 = (digsK s (i + 1)).flatten.map u8 := by simp [digsK_succ]
@[simp] theorem len_dig1 (s : List UInt8) (k : Nat) : (dig1 s k).length = 32 := by simp [dig1]
theorem dig1_cells (s : List UInt8) (k : Nat) : [u8 (s.getD k 0 % 4), u8 (UInt8.ofNat (k / 8))] ++ ((List.replicate 32 (Value.int .u8 0)).map evC).drop 2 = (dig1 s k).map u8 := by
  simp only [dig1, List.map_append, List.map_cons, List.map_nil, List.map_replicate]
  rfl
/-- A path, nil or not, always as a list. -/
def pathN (L : List (List UInt8)) (a : Int) : List (List UInt8) := if 0 ≤ a ∧ a < L.length then path L a.toNat else []
def pathE (L : List (List UInt8)) (a : Int) : Int := if 0 ≤ a ∧ a < L.length then 0 else 1
theorem pathN_nat {L : List (List UInt8)} {i : Nat} (h : i < L.length) : pathN L (i : Int) = path L i ∧ pathE L (i : Int) = 0 := by
  unfold pathN pathE
  rw [if_pos (by omega), if_pos (by omega), Int.toNat_natCast]
  exact ⟨rfl, rfl⟩
theorem D32_pathN (L : List (List UInt8)) (a : Int) : D32 (pathN L a) := by
  unfold pathN
  split
  · exact D32_path _ _ _ (Nat.le_refl _)
  · exact fun x hx => by cases hx
theorem len_pathN (L : List (List UInt8)) (a : Int) : (pathN L a).length ≤ L.length := by
  unfold pathN
  split
  · exact len_path _ _ _ (Nat.le_refl _)
  · simp
theorem V_pathA {X : Xs} {w : World} {β : Bm} {u : Value} (L : List (List UInt8)) (a : Int) (h : V X w β (pathA L a) u) : V X w β (.tu [dgs (pathN L a), .i .i64 (pathE L a)]) u := by
  unfold pathA at h
  unfold pathN pathE
  split at h
  · rename_i hc; rw [if_pos hc, if_pos hc]; exact h
  · rename_i hc; rw [if_neg hc, if_neg hc]; exact V_nl_tu h
/-- The first state of a hash's words and what is printed of two examples. -/
theorem sha_abc : sha [97, 98, 99] = [186, 120, 22, 191, 143, 1, 207, 234, 65, 65, 64, 222, 93, 174, 34, 35, 176, 3, 97, 163, 150, 23, 122, 156, 180, 16, 255, 97, 242, 0, 21, 173] := by decide +kernel
theorem sha_nil : sha [] = [227, 176, 196, 66, 152, 252, 28, 20, 154, 251, 244, 200, 153, 111, 185, 36, 39, 174, 65, 228, 100, 155, 147, 76, 164, 149, 153, 27, 120, 82, 184, 85] := by decide +kernel
/-- How many steps there are at most. -/
theorem rights_log : ∀ (e i n : Nat), n ≤ 2 ^ e → (rights i n).length ≤ e
  | 0, i, n, h => by rw [rights_one (by simpa using h)]; exact Nat.le_refl _
  | e + 1, i, n, h => by
    by_cases h1 : n ≤ 1
    · rw [rights_one h1]; exact Nat.zero_le _
    · have hh := halfN_lt (n := n) (by omega)
      have h2 : halfN n ≤ 2 ^ e := by
        unfold halfN
        refine Nat.pow_le_pow_right (by decide) ?_
        have := (Nat.log2_lt (n := n - 1) (k := e + 1) (by omega)).2 (by omega)
        omega
      by_cases hi : i < halfN n
      · rw [rights_left (by omega) hi, List.length_cons]; have := rights_log e i (halfN n) h2; omega
      · rw [rights_right (by omega) hi, List.length_cons]; have := rights_log e (i - halfN n) (n - halfN n) (by omega); omega
/-- Behind a full list. -/
theorem halfN_pow (e : Nat) : halfN (2 ^ e + 1) = 2 ^ e := by
  have := Nat.two_pow_pos e
  exact (halfN_of e rfl (by omega) (by omega)).symm
theorem tree_next {L : List (List UInt8)} {d : List UInt8} {e : Nat} (h : 2 ^ e ≤ L.length) : tree (L.take (2 ^ e) ++ [d]) = nodeD (tree (L.take (2 ^ e))) (tree [d]) ∧ path (L.take (2 ^ e) ++ [d]) (2 ^ e) = [tree (L.take (2 ^ e))] := by
  have hp := Nat.two_pow_pos e
  have hl : (L.take (2 ^ e) ++ [d]).length = 2 ^ e + 1 := by rw [List.length_append, List.length_take, Nat.min_eq_left h]; rfl
  have hT : (L.take (2 ^ e)).length = 2 ^ e := by rw [List.length_take, Nat.min_eq_left h]
  constructor
  · rw [tree_two (by omega), hl, halfN_pow, List.take_left' hT, List.drop_left' hT]
  · rw [path_right (by omega) (by rw [hl, halfN_pow]; omega), hl, halfN_pow, List.take_left' hT, List.drop_left' hT, Nat.sub_self, path_one _ (by simp), List.nil_append]
theorem getZ {l : List Int} {k : IntKind} {i : Nat} {z : Int} (h : l[i]? = some z) : ((l.map (A.i k)).drop (0 + i * 1))[0]? = some (.i k z) := by
  rw [List.getElem?_drop, List.getElem?_map, show 0 + i * 1 + 0 = i by omega, h]; rfl
theorem getD2 {L : List (List UInt8)} {i : Nat} {q : List UInt8} (h : L[i]? = some q) : ((L.map fun p : List UInt8 => (A.fz p.length (p.map u8))).drop (0 + i * 1))[0]? = some (.fz q.length (q.map u8)) := by
  rw [List.getElem?_drop, List.getElem?_map, show 0 + i * 1 + 0 = i by omega, h]; rfl
theorem getDD {L : List (List (List UInt8))} {i : Nat} {q : List (List UInt8)} (h : L[i]? = some q) : ((L.map dgs).drop (0 + i * 1))[0]? = some (dgs q) := by
  rw [List.getElem?_drop, List.getElem?_map, show 0 + i * 1 + 0 = i by omega, h]; rfl
theorem fits_nat {i n m : Nat} (h : i < n) (hn : n ≤ 1099511627776) (hm : m = (rights i n).length) : fits (i : Int) (n : Int) m := ⟨by omega, by omega, by omega, by omega, by rw [Int.toNat_natCast, Int.toNat_natCast]; exact hm⟩
theorem climbA_yes {d : List UInt8} {a n : Int} {p : List (List UInt8)} (h : fits a n p.length) : climbA d a n p = .tu [.ag ((climb d a.toNat n.toNat p).map u8), .i .i64 0] := if_pos h
theorem climbA_no {d : List UInt8} {a n : Int} {p : List (List UInt8)} (h : ¬ fits a n p.length) : climbA d a n p = .tu [.ag ((List.replicate 32 (0 : UInt8)).map u8), .i .i64 1] := if_neg h
def climbD (d : List UInt8) (a n : Int) (p : List (List UInt8)) : List UInt8 := if fits a n p.length then climb d a.toNat n.toNat p else List.replicate 32 0
def climbE (a n : Int) (m : Nat) : Int := if fits a n m then 0 else 1
theorem climbA_eq (d : List UInt8) (a n : Int) (p : List (List UInt8)) : climbA d a n p = .tu [.ag ((climbD d a n p).map u8), .i .i64 (climbE a n p.length)] := by
  unfold climbA climbD climbE
  split <;> rfl
@[simp] theorem len_climbD (d : List UInt8) (a n : Int) (p : List (List UInt8)) : (climbD d a n p).length = 32 := by
  unfold climbD
  split <;> simp
theorem path_fits {L : List (List UInt8)} {i : Nat} (h : i < L.length) (hl : L.length ≤ 1099511627776) : fits (i : Int) (L.length : Int) (path L i).length := fits_nat h hl (rights_path _ L i (Nat.le_refl _))
theorem pathE_nil : pathE [] 0 = 1 := by simp [pathE]
theorem climbE_02 : climbE 0 2 ([] : List (List UInt8)).length = 1 := by
  unfold climbE
  rw [if_neg]
  intro h
  have h1 := h.2.2.2.2
  have h2 := rights_pos (i := (0 : Int).toNat) (n := (2 : Int).toNat) (by decide)
  simp only [List.length_nil] at h1
  omega
def oneD : List UInt8 := 1 :: List.replicate 31 0
@[simp] theorem len_oneD : oneD.length = 32 := rfl
@[simp] theorem len_leafD (d : List UInt8) : (leafD d).length = 32 := len_tagged _ _
@[simp] theorem len_nodeD (a b : List UInt8) : (nodeD a b).length = 32 := len_tagged _ _
theorem climb_01 : climbD oneD 0 1 [] = leafD oneD ∧ climbE 0 1 ([] : List (List UInt8)).length = 0 := by
  have h : fits 0 1 ([] : List (List UInt8)).length := ⟨by decide, by decide, by decide, by decide, by rw [rights_one (by decide)]; rfl⟩
  unfold climbD climbE
  rw [if_pos h, if_pos h]
  exact ⟨climb_one (by decide), rfl⟩
theorem zero_64 : (List.replicate 32 (0 : UInt8)) ++ List.replicate 32 0 = List.replicate 64 0 := by decide
theorem climb_good {L : List (List UInt8)} {i : Nat} {q : List UInt8} (h : L[i]? = some q) (hl : L.length ≤ 1099511627776) : climbD q (i : Int) (L.length : Int) (path L i) = tree L ∧ climbE (i : Int) (L.length : Int) (path L i).length = 0 := by
  have hi := (List.getElem?_eq_some_iff.1 h).1
  have hf := path_fits hi hl
  unfold climbD climbE
  rw [if_pos hf, if_pos hf, Int.toNat_natCast, Int.toNat_natCast]
  exact ⟨climb_path _ L i q (Nat.le_refl _) h, rfl⟩
theorem climbE_longer {L : List (List UInt8)} {i : Nat} {q : List UInt8} : climbE (i : Int) (L.length : Int) (path L i ++ [q]).length = 1 := by
  unfold climbE
  rw [if_neg]
  intro h
  have h1 := h.2.2.2.2
  rw [Int.toNat_natCast, Int.toNat_natCast, ← rights_path _ L i (Nat.le_refl _)] at h1
  simp at h1
theorem path_5 {L : List (List UInt8)} {i : Nat} (hl : L.length ≤ 24) : (path L i).length ≤ 5 := by
  rw [rights_path _ L i (Nat.le_refl _)]
  exact rights_log 5 _ _ (by omega)
theorem path_next {L : List (List UInt8)} {d : List UInt8} {e : Nat} (h : 2 ^ e ≤ L.length) : pathN (L.take (2 ^ e) ++ [d]) ((2 ^ e : Nat) : Int) = [tree (L.take (2 ^ e))] ∧ pathE (L.take (2 ^ e) ++ [d]) ((2 ^ e : Nat) : Int) = 0 := by
  have hl : (L.take (2 ^ e) ++ [d]).length = 2 ^ e + 1 := by rw [List.length_append, List.length_take, Nat.min_eq_left h]; rfl
  have := pathN_nat (L := L.take (2 ^ e) ++ [d]) (i := 2 ^ e) (by omega)
  exact ⟨this.1.trans (tree_next h).2, this.2⟩
/-- The end of a chain. -/
def chainL (f : List UInt8) (l : List (List UInt8)) : List UInt8 := l.foldl (fun a d => tagged [99, 104, 97, 105, 110] (a ++ d)) f
theorem chainL_succ {f : List UInt8} {L : List (List UInt8)} {j : Nat} {q : List UInt8} (h : L[j]? = some q) : chainL f (L.take (j + 1)) = tagged [99, 104, 97, 105, 110] (chainL f (L.take j) ++ q) := by
  unfold chainL
  rw [List.take_add_one, h, List.foldl_append]
  rfl
theorem len_chainL (f : List UInt8) (hf : f.length = 32) : ∀ l : List (List UInt8), (chainL f l).length = 32 := by
  have : ∀ (l : List (List UInt8)) (f : List UInt8), f.length = 32 → (chainL f l).length = 32 := by
    intro l
    induction l with
    | nil => exact fun f h => h
    | cons d l ih => exact fun f h => ih _ (len_tagged _ _)
  exact fun l => this l f hf
theorem set_u8 (l : List UInt8) (i : Nat) (x : UInt8) : (l.map u8).set (0 + i * 1) (u8 x) = (l.set i x).map u8 := by
  rw [Nat.zero_add, Nat.mul_one, List.map_set]
end Go.Abs.D2
