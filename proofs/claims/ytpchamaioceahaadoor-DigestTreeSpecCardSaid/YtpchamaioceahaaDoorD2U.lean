/-
  Layer 2, in plain words: steps from the root, climbing. Conditions: none; no program in sight.
-/
import Derived.Test.YtpchamaioceahaaDoorD2T
namespace Go.Abs.D2
open Go Go.Eng Go.Abs

/-- Whether each step from the root goes to the right half. -/
def rightsF : Nat → Nat → Nat → List Bool
  | 0, _, _ => []
  | f + 1, i, n => if n ≤ 1 then [] else if i < halfN n then false :: rightsF f i (halfN n) else true :: rightsF f (i - halfN n) (n - halfN n)
theorem rightsF_more : ∀ (f g i n : Nat), n ≤ f → n ≤ g → rightsF f i n = rightsF g i n
  | 0, 0, _, _, _, _ => rfl
  | 0, g + 1, i, n, h, _ => by rw [rightsF, rightsF, if_pos (by omega)]
  | f + 1, 0, i, n, _, h => by rw [rightsF, rightsF, if_pos (by omega)]
  | f + 1, g + 1, i, n, h1, h2 => by
    rw [rightsF, rightsF]
    by_cases h : n ≤ 1
    · rw [if_pos h, if_pos h]
    · have hh := halfN_lt (n := n) (by omega)
      rw [if_neg h, if_neg h, rightsF_more f g i (halfN n) (by omega) (by omega), rightsF_more f g _ (n - halfN n) (by omega) (by omega)]
@[irreducible] def rights (i n : Nat) : List Bool := rightsF n i n
theorem rights_one {i n : Nat} (h : n ≤ 1) : rights i n = [] := by
  unfold rights
  match n, h with
  | 0, _ => rfl
  | 1, _ => rfl
theorem rights_left {i n : Nat} (h : 2 ≤ n) (hi : i < halfN n) : rights i n = false :: rights i (halfN n) := by
  have hh := halfN_lt h
  unfold rights
  obtain ⟨f, rfl⟩ : ∃ f, n = f + 1 := ⟨n - 1, by omega⟩
  rw [rightsF, if_neg (by omega), if_pos hi, rightsF_more f _ _ _ (by omega) (Nat.le_refl _)]
theorem rights_right {i n : Nat} (h : 2 ≤ n) (hi : ¬ i < halfN n) : rights i n = true :: rights (i - halfN n) (n - halfN n) := by
  have hh := halfN_lt h
  unfold rights
  obtain ⟨f, rfl⟩ : ∃ f, n = f + 1 := ⟨n - 1, by omega⟩
  rw [rightsF, if_neg (by omega), if_neg hi, rightsF_more f _ _ _ (by omega) (Nat.le_refl _)]
theorem rights_le : ∀ (f i n : Nat), n ≤ f → (rights i n).length ≤ f
  | 0, i, n, h => by rw [rights_one (by omega)]; simp
  | f + 1, i, n, h => by
    by_cases h1 : n ≤ 1
    · rw [rights_one h1]; simp
    · have hh := halfN_lt (n := n) (by omega)
      by_cases hi : i < halfN n
      · rw [rights_left (by omega) hi]; have := rights_le f i (halfN n) (by omega); simp; omega
      · rw [rights_right (by omega) hi]; have := rights_le f (i - halfN n) (n - halfN n) (by omega); simp; omega
theorem rights_pos {i n : Nat} (h : 2 ≤ n) : 1 ≤ (rights i n).length := by
  by_cases hi : i < halfN n
  · rw [rights_left h hi]; simp
  · rw [rights_right h hi]; simp
/-- The steps of a path, from the element up. -/
def fold : List Bool → List (List UInt8) → List UInt8 → List UInt8
  | b :: bs, q :: ps, x => fold bs ps (if b then nodeD q x else nodeD x q)
  | _, _, x => x
theorem fold_snoc : ∀ (bs : List Bool) (ps : List (List UInt8)) (b : Bool) (q x : List UInt8), bs.length = ps.length → fold (bs ++ [b]) (ps ++ [q]) x = if b then nodeD q (fold bs ps x) else nodeD (fold bs ps x) q
  | [], [], b, q, x, _ => by simp [fold]
  | c :: bs, r :: ps, b, q, x, h => by
    simp only [List.cons_append, fold]
    exact fold_snoc bs ps b q _ (by simpa using h)
def leafD (d : List UInt8) : List UInt8 := tagged [108, 101, 97, 102] d
/-- Climbing. -/
def climb (d : List UInt8) (i n : Nat) (p : List (List UInt8)) : List UInt8 := fold (rights i n).reverse p (leafD d)
theorem climb_one {d : List UInt8} {i n : Nat} {p : List (List UInt8)} (h : n ≤ 1) : climb d i n p = leafD d := by
  unfold climb; rw [rights_one h]; simp [fold]
theorem climb_left {d q : List UInt8} {i n : Nat} {p : List (List UInt8)} (h : 2 ≤ n) (hi : i < halfN n) (hl : p.length = (rights i (halfN n)).length) : climb d i n (p ++ [q]) = nodeD (climb d i (halfN n) p) q := by
  unfold climb
  rw [rights_left h hi, List.reverse_cons, fold_snoc _ _ _ _ _ (by simpa using hl.symm)]
  rfl
theorem climb_right {d q : List UInt8} {i n : Nat} {p : List (List UInt8)} (h : 2 ≤ n) (hi : ¬ i < halfN n) (hl : p.length = (rights (i - halfN n) (n - halfN n)).length) : climb d i n (p ++ [q]) = nodeD q (climb d (i - halfN n) (n - halfN n) p) := by
  unfold climb
  rw [rights_right h hi, List.reverse_cons, fold_snoc _ _ _ _ _ (by simpa using hl.symm)]
  rfl
theorem len_fold : ∀ (bs : List Bool) (ps : List (List UInt8)) (x : List UInt8), x.length = 32 → (fold bs ps x).length = 32
  | [], _, x, h => by simpa only [fold] using h
  | _ :: _, [], x, h => by simpa only [fold] using h
  | b :: bs, q :: ps, x, h => by
    simp only [fold]
    exact len_fold bs ps _ (by split <;> exact len_tagged _ _)
@[simp] theorem len_climb (d : List UInt8) (i n : Nat) (p : List (List UInt8)) : (climb d i n p).length = 32 := len_fold _ _ _ (len_tagged _ _)
/-- When a climb is one. -/
def fits (a n : Int) (m : Nat) : Prop := 1 ≤ n ∧ n ≤ 1099511627776 ∧ 0 ≤ a ∧ a < n ∧ m = (rights a.toNat n.toNat).length
instance (a n : Int) (m : Nat) : Decidable (fits a n m) := by unfold fits; infer_instance
def climbA (d : List UInt8) (a n : Int) (p : List (List UInt8)) : A := if fits a n p.length then .tu [.ag ((climb d a.toNat n.toNat p).map u8), .i .i64 0] else .tu [.ag ((List.replicate 32 (0 : UInt8)).map u8), .i .i64 1]
/-- A path, or none. -/
def pathA (L : List (List UInt8)) (a : Int) : A := if 0 ≤ a ∧ a < L.length then .tu [dgs (path L a.toNat), .i .i64 0] else .tu [.nl, .i .i64 1]
theorem rights_path : ∀ (f : Nat) (L : List (List UInt8)) (i : Nat), L.length ≤ f → (path L i).length = (rights i L.length).length
  | 0, L, i, h => by rw [path_one i (by omega), rights_one (by omega)]; rfl
  | f + 1, L, i, h => by
    by_cases h1 : L.length ≤ 1
    · rw [path_one i h1, rights_one h1]; rfl
    · have hh := halfN_lt (n := L.length) (by omega)
      by_cases hi : i < halfN L.length
      · rw [path_left (by omega) hi, rights_left (by omega) hi, List.length_append, rights_path f _ _ (by rw [List.length_take]; omega), List.length_take, Nat.min_eq_left (by omega)]; rfl
      · rw [path_right (by omega) hi, rights_right (by omega) hi, List.length_append, rights_path f _ _ (by rw [List.length_drop]; omega), List.length_drop]; rfl
/-- Climbing the path of an element leads to the digest of the list. -/
theorem climb_path : ∀ (f : Nat) (L : List (List UInt8)) (i : Nat) (d : List UInt8), L.length ≤ f → L[i]? = some d → climb d i L.length (path L i) = tree L
  | 0, L, i, d, h, hd => by
    have := (List.getElem?_eq_some_iff.1 hd).1; omega
  | f + 1, L, i, d, h, hd => by
    have hlt := (List.getElem?_eq_some_iff.1 hd).1
    by_cases h1 : L.length ≤ 1
    · obtain ⟨x, rfl⟩ := List.length_eq_one_iff.1 (show L.length = 1 by omega)
      have : i = 0 := by simp at hlt; omega
      subst this
      simp only [List.getElem?_cons_zero, Option.some.injEq] at hd
      subst hd
      rw [climb_one (by simp), tree_one]; rfl
    · have hh := halfN_lt (n := L.length) (by omega)
      by_cases hi : i < halfN L.length
      · have hT : (L.take (halfN L.length)).length = halfN L.length := by rw [List.length_take]; omega
        have ih := climb_path f (L.take (halfN L.length)) i d (by omega) (by rw [List.getElem?_take, if_pos hi]; exact hd)
        have hr := rights_path f (L.take (halfN L.length)) i (by omega)
        rw [hT] at ih hr
        rw [path_left (by omega) hi, climb_left (by omega) hi hr, ih, tree_two (L := L) (by omega)]
      · have hT : (L.drop (halfN L.length)).length = L.length - halfN L.length := by rw [List.length_drop]
        have ih := climb_path f (L.drop (halfN L.length)) (i - halfN L.length) d (by omega) (by rw [List.getElem?_drop, show halfN L.length + (i - halfN L.length) = i by omega]; exact hd)
        have hr := rights_path f (L.drop (halfN L.length)) (i - halfN L.length) (by omega)
        rw [hT] at ih hr
        rw [path_right (by omega) hi, climb_right (by omega) hi hr, ih, tree_two (L := L) (by omega)]
theorem cut_init {p : List (List UInt8)} {q : List UInt8} (h : D32 (p ++ [q])) : A.fz p.length ((((p ++ [q]).flatten.map u8).drop (0 * 32)).take (p.length * 32)) = dgs p := by
  rw [cut_take h (by simp), List.take_left]
theorem get_d {P : List (List UInt8)} (h : D32 P) {i : Nat} {q : List UInt8} (hq : P[i]? = some q) : ((P.flatten.map u8).drop (i * 32)).take 32 = q.map u8 := by
  have hlt := (List.getElem?_eq_some_iff.1 hq).1
  rw [← List.map_drop, h.drop_flat, ← List.map_take]
  congr 1
  rw [List.drop_eq_getElem_cons hlt, List.flatten_cons, List.take_left' (h _ (List.getElem_mem hlt))]
  exact (List.getElem?_eq_some_iff.1 hq).2
theorem fold_take {bs : List Bool} {ps : List (List UInt8)} {x q : List UInt8} {b : Bool} {j : Nat} (hb : bs[j]? = some b) (hq : ps[j]? = some q) : fold (bs.take (j + 1)) (ps.take (j + 1)) x = if b then nodeD q (fold (bs.take j) (ps.take j) x) else nodeD (fold (bs.take j) (ps.take j) x) q := by
  have h1 := (List.getElem?_eq_some_iff.1 hb).1
  have h2 := (List.getElem?_eq_some_iff.1 hq).1
  rw [List.take_add_one, List.take_add_one, hb, hq]
  exact fold_snoc _ _ _ _ _ (by simp; omega)
theorem get_b {ds : List Bool} {j : Nat} {b : Bool} (hb : ds[j]? = some b) : ((ds.map A.b).drop (0 + j * 1))[0]? = some (.b b) := by
  rw [List.getElem?_drop, List.getElem?_map, show 0 + j * 1 + 0 = j by omega, hb]; rfl
theorem init_last {P : List (List UInt8)} (h : P ≠ []) : ∃ p q, P = p ++ [q] := ⟨P.dropLast, P.getLast h, (List.dropLast_concat_getLast h).symm⟩
end Go.Abs.D2
