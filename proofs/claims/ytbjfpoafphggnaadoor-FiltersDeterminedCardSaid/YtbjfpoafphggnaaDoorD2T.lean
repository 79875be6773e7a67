/-
  Layer 2, in plain words: the tree of a list of digests, its paths. Conditions: none; no program in sight.
-/
import Derived.Test.YtbjfpoafphggnaaDoorD2R
namespace Go.Abs.D2
open Go Go.Eng Go.Abs

abbrev dgs (L : List (List UInt8)) : A := .fz L.length (L.flatten.map u8)
def D32 (L : List (List UInt8)) : Prop := ∀ x ∈ L, x.length = 32
theorem D32.take {L : List (List UInt8)} (h : D32 L) (k : Nat) : D32 (L.take k) := fun x hx => h x (List.mem_of_mem_take hx)
theorem D32.drop {L : List (List UInt8)} (h : D32 L) (k : Nat) : D32 (L.drop k) := fun x hx => h x (List.mem_of_mem_drop hx)
theorem D32.len {L : List (List UInt8)} (h : D32 L) : L.flatten.length = L.length * 32 := by
  induction L with
  | nil => rfl
  | cons x L ih =>
    rw [List.flatten_cons, List.length_append, h x (.head _), ih fun y hy => h y (.tail _ hy), List.length_cons]; omega
theorem D32.drop_flat : ∀ {L : List (List UInt8)} (_ : D32 L) (k : Nat), L.flatten.drop (k * 32) = (L.drop k).flatten
  | [], _, k => by simp
  | x :: L, h, 0 => by simp
  | x :: L, h, k + 1 => by
    rw [List.flatten_cons, List.drop_succ_cons, show (k + 1) * 32 = 32 + k * 32 by omega, ← List.drop_drop, List.drop_left' (h x (.head _))]
    exact D32.drop_flat (fun y hy => h y (.tail _ hy)) k
theorem D32.take_flat : ∀ {L : List (List UInt8)} (_ : D32 L) (k : Nat), L.flatten.take (k * 32) = (L.take k).flatten
  | [], _, k => by simp
  | x :: L, h, 0 => by simp
  | x :: L, h, k + 1 => by
    rw [List.flatten_cons, List.take_succ_cons, List.flatten_cons, show (k + 1) * 32 = 32 + k * 32 by omega, List.take_add, List.take_left' (h x (.head _)), List.drop_left' (h x (.head _))]
    rw [D32.take_flat (fun y hy => h y (.tail _ hy)) k]
theorem cut_take {L : List (List UInt8)} (h : D32 L) {k : Nat} (hk : k ≤ L.length) : A.fz k (((L.flatten.map u8).drop (0 * 32)).take (k * 32)) = dgs (L.take k) := by
  rw [Nat.zero_mul, List.drop_zero, ← List.map_take, h.take_flat, dgs, List.length_take, Nat.min_eq_left hk]
theorem cut_drop {L : List (List UInt8)} (h : D32 L) {k m : Nat} (hk : L.length - k = m) : A.fz m (((L.flatten.map u8).drop (k * 32)).take (m * 32)) = dgs (L.drop k) := by
  subst hk
  rw [← List.map_drop, h.drop_flat, dgs, List.length_drop]
  congr 1
  exact List.take_of_length_le (by rw [List.length_map, (h.drop k).len, List.length_drop]; omega)
theorem cut_one {x : List UInt8} (h : x.length = 32) : A.fz 32 (((([x].flatten.map u8).drop (0 * 32)).drop (0 * 1)).take (32 * 1)) = .fz x.length (x.map u8) := by
  simp only [List.flatten_cons, List.flatten_nil, List.append_nil, Nat.zero_mul, List.drop_zero, Nat.mul_one]
  rw [List.take_of_length_le (by simp [h]), h]

/-- A node of two digests. -/
def nodeD (a b : List UInt8) : List UInt8 := tagged [110, 111, 100, 101] (a ++ b)
def treeF : Nat → List (List UInt8) → List UInt8
  | _, [] => tagged [101, 109, 112, 116, 121] []
  | _, [x] => tagged [108, 101, 97, 102] x
  | 0, _ => []
  | f + 1, L => nodeD (treeF f (L.take (halfN L.length))) (treeF f (L.drop (halfN L.length)))
theorem treeF_two {f : Nat} {L : List (List UInt8)} (h : 2 ≤ L.length) : treeF (f + 1) L = nodeD (treeF f (L.take (halfN L.length))) (treeF f (L.drop (halfN L.length))) := by
  match L, h with
  | _ :: _ :: _, _ => rfl
theorem treeF_more : ∀ (f g : Nat) (L : List (List UInt8)), L.length ≤ f → L.length ≤ g → treeF f L = treeF g L
  | _, _, [], _, _ => by simp only [treeF]
  | _, _, [x], _, _ => by simp only [treeF]
  | 0, _, _ :: _ :: _, h, _ => by simp at h
  | _, 0, _ :: _ :: _, _, h => by simp at h
  | f + 1, g + 1, a :: b :: L, h1, h2 => by
    have hh := halfN_lt (n := (a :: b :: L).length) (by simp)
    have e : 2 ≤ (a :: b :: L).length := by simp
    rw [treeF_two e, treeF_two e]
    congr 1
    · exact treeF_more f g _ (by rw [List.length_take]; omega) (by rw [List.length_take]; omega)
    · exact treeF_more f g _ (by rw [List.length_drop]; omega) (by rw [List.length_drop]; omega)
/-- The digest of a list. -/
@[irreducible] def tree (L : List (List UInt8)) : List UInt8 := treeF L.length L
theorem tree_nil : tree [] = tagged [101, 109, 112, 116, 121] [] := by unfold tree; rfl
theorem tree_one (x : List UInt8) : tree [x] = tagged [108, 101, 97, 102] x := by unfold tree; rfl
theorem tree_two {L : List (List UInt8)} (h : 2 ≤ L.length) : tree L = nodeD (tree (L.take (halfN L.length))) (tree (L.drop (halfN L.length))) := by
  have hh := halfN_lt h
  unfold tree
  obtain ⟨f, hf⟩ : ∃ f, L.length = f + 1 := ⟨L.length - 1, by omega⟩
  conv => lhs; rw [hf]
  rw [treeF_two h]
  congr 1
  · exact treeF_more _ _ _ (by rw [List.length_take]; omega) (Nat.le_refl _)
  · exact treeF_more _ _ _ (by rw [List.length_drop]; omega) (Nat.le_refl _)
@[simp] theorem len_tree (L : List (List UInt8)) : (tree L).length = 32 := by
  match L with
  | [] => rw [tree_nil, len_tagged]
  | [x] => rw [tree_one, len_tagged]
  | a :: b :: r => rw [tree_two (by simp)]; exact len_tagged _ _
def pathF : Nat → List (List UInt8) → Nat → List (List UInt8)
  | 0, _, _ => []
  | f + 1, L, i => if L.length ≤ 1 then [] else if i < halfN L.length then pathF f (L.take (halfN L.length)) i ++ [tree (L.drop (halfN L.length))] else pathF f (L.drop (halfN L.length)) (i - halfN L.length) ++ [tree (L.take (halfN L.length))]
theorem pathF_more : ∀ (f g : Nat) (L : List (List UInt8)) (i : Nat), L.length ≤ f → L.length ≤ g → pathF f L i = pathF g L i
  | 0, 0, _, _, _, _ => rfl
  | 0, g + 1, L, i, h, _ => by rw [pathF, pathF, if_pos (by omega)]
  | f + 1, 0, L, i, _, h => by rw [pathF, pathF, if_pos (by omega)]
  | f + 1, g + 1, L, i, h1, h2 => by
    rw [pathF, pathF]
    by_cases h : L.length ≤ 1
    · rw [if_pos h, if_pos h]
    · have hh := halfN_lt (n := L.length) (by omega)
      rw [if_neg h, if_neg h, pathF_more f g (L.take _) _ (by rw [List.length_take]; omega) (by rw [List.length_take]; omega), pathF_more f g (L.drop _) _ (by rw [List.length_drop]; omega) (by rw [List.length_drop]; omega)]
/-- The path of an element. -/
@[irreducible] def path (L : List (List UInt8)) (i : Nat) : List (List UInt8) := pathF L.length L i
theorem path_one {L : List (List UInt8)} (i : Nat) (h : L.length ≤ 1) : path L i = [] := by
  unfold path
  match L, h with
  | [], _ => rfl
  | [x], _ => rfl
theorem path_left {L : List (List UInt8)} {i : Nat} (h : 2 ≤ L.length) (hi : i < halfN L.length) : path L i = path (L.take (halfN L.length)) i ++ [tree (L.drop (halfN L.length))] := by
  have hh := halfN_lt h
  unfold path
  obtain ⟨f, hf⟩ : ∃ f, L.length = f + 1 := ⟨L.length - 1, by omega⟩
  conv => lhs; rw [hf, pathF, if_neg (by omega), if_pos hi]
  rw [pathF_more f _ _ _ (by rw [List.length_take]; omega) (Nat.le_refl _)]
theorem path_right {L : List (List UInt8)} {i : Nat} (h : 2 ≤ L.length) (hi : ¬ i < halfN L.length) : path L i = path (L.drop (halfN L.length)) (i - halfN L.length) ++ [tree (L.take (halfN L.length))] := by
  have hh := halfN_lt h
  unfold path
  obtain ⟨f, hf⟩ : ∃ f, L.length = f + 1 := ⟨L.length - 1, by omega⟩
  conv => lhs; rw [hf, pathF, if_neg (by omega), if_neg hi]
  rw [pathF_more f _ _ _ (by rw [List.length_drop]; omega) (Nat.le_refl _)]
theorem D32.app {L M : List (List UInt8)} (h : D32 L) (h' : D32 M) : D32 (L ++ M) := fun x hx => (List.mem_append.1 hx).elim (h x) (h' x)
theorem D32.one {x : List UInt8} (h : x.length = 32) : D32 [x] := fun y hy => by rw [List.mem_singleton.1 hy]; exact h
theorem D32_path : ∀ (n : Nat) (L : List (List UInt8)) (i : Nat), L.length ≤ n → D32 (path L i)
  | 0, L, i, h => by rw [path_one i (by omega)]; exact fun x hx => by cases hx
  | n + 1, L, i, h => by
    by_cases h1 : L.length ≤ 1
    · rw [path_one i h1]; exact fun x hx => by cases hx
    · have hh := halfN_lt (n := L.length) (by omega)
      by_cases hi : i < halfN L.length
      · rw [path_left (by omega) hi]
        exact (D32_path n _ _ (by rw [List.length_take]; omega)).app (.one (len_tree _))
      · rw [path_right (by omega) hi]
        exact (D32_path n _ _ (by rw [List.length_drop]; omega)).app (.one (len_tree _))
/-- A path is no longer than the list. -/
theorem len_path : ∀ (n : Nat) (L : List (List UInt8)) (i : Nat), L.length ≤ n → (path L i).length ≤ n
  | 0, L, i, h => by rw [path_one i (by omega)]; simp
  | n + 1, L, i, h => by
    by_cases h1 : L.length ≤ 1
    · rw [path_one i h1]; simp
    · have hh := halfN_lt (n := L.length) (by omega)
      by_cases hi : i < halfN L.length
      · rw [path_left (by omega) hi, List.length_append]
        have := len_path n (L.take (halfN L.length)) i (by rw [List.length_take]; omega)
        simp; omega
      · rw [path_right (by omega) hi, List.length_append]
        have := len_path n (L.drop (halfN L.length)) (i - halfN L.length) (by rw [List.length_drop]; omega)
        simp; omega
end Go.Abs.D2
