/-
  Layer 33's plain law: what numbers added to a filter do. Conditions: none; nothing of any program stands here.
-/
import Derived.Test.YtbjfpoafphggnaaDoorF3P
import Derived.Test.YtbjfpoafphggnaaDoorAbsL
import Derived.Test.YtbjfpoafphggnaaDoorAbsQ
namespace Go.Abs.D2
open Go Go.Eng Go.Abs

abbrev u16 (x : UInt16) : A := .i .u16 (x.toNat : Int)
theorem conv16J (b : UInt16) : A.i .i64 (IntKind.i64.wrap (b.toNat : Int)) = nJ b.toNat := by
  have := b.toNat_lt
  exact congrArg (A.i .i64) (wrapI _ (by omega) (by omega))
theorem get16 {ids : List UInt16} {i : Nat} {q : UInt16} (h : ids[i]? = some q) : ((ids.map u16).drop (i * 1))[0]? = some (u16 q) := by
  rw [List.getElem?_drop, show i * 1 + 0 = i by omega, List.getElem?_map, h]; rfl

/-! Results, told without cases. -/
theorem new_form (lv nb : Int) : ∃ a b C e, newA lv nb = .tu [filA a b C, .i .i64 e] := by
  unfold newA; split <;> exact ⟨_, _, _, _, rfl⟩
theorem add_form (x : List UInt8) (lv nb : Int) (D : List UInt8) (id : Int) : ∃ a b C e, addA x lv nb D id = .tu [filA a b C, .i .i64 e] := by
  unfold addA; split <;> exact ⟨_, _, _, _, rfl⟩
theorem bits_form (x : List UInt8) (lv nb : Int) (D : List UInt8) (id : Int) : ∃ (L : List Int) (e : Int), Wk (bitsA x lv nb D id) (.tu [.fz L.length (L.map (.i .i64)), .i .i64 e]) ∧ L.length < 1000000 := by
  unfold bitsA
  split
  · exact ⟨List.map (fun n : Nat => (n : Int)) (bitL x lv.toNat nb.toNat id.toNat 2), 0, .eq (by simp), by simp⟩
  · exact ⟨[], 330, .tu (.cons .nl WkL.same), by simp⟩
def hasV (x : List UInt8) (lv nb : Int) (D : List UInt8) (id : Int) : Bool := okB lv nb D id && hasD x lv.toNat nb.toNat id.toNat D
theorem has_form (x : List UInt8) (lv nb : Int) (D : List UInt8) (id : Int) : hasA x lv nb D id = .tu [.b (hasV x lv nb D id), .i .i64 (errF (okB lv nb D id))] := by
  unfold hasA hasV
  cases okB lv nb D id <;> rfl
theorem has_and (x : List UInt8) (lv nb : Int) (D : List UInt8) (id : Int) : (errF (okB lv nb D id) == 0 && hasV x lv nb D id) = hasV x lv nb D id := by
  unfold hasV; cases okB lv nb D id <;> rfl

/-! Adding. -/
theorem nb_len {D : List UInt8} {n k : Nat} (hl : D.length = (n + 7) / 8) (h : k < n) : k / 8 < D.length := by omega
theorem bit_addD {x : List UInt8} {l n j : Nat} {D : List UInt8} (hn : 0 < n) (hl : D.length = (n + 7) / 8) (k : Nat) : bitA (addD x l n j D) k = (bitA D k || (k == bN x l n j 0 || k == bN x l n j 1)) := by
  have h0 := bN_lt (x := x) (lv := l) (id := j) hn 0
  have h1 := bN_lt (x := x) (lv := l) (id := j) hn 1
  simp only [addD, setsB]
  rw [bit_setA (by simp; omega), bit_setA (by omega), Bool.or_assoc]
theorem chk_addD {x : List UInt8} {l n j : Nat} {D : List UInt8} (h : chkB l n D = true) : chkB l n (addD x l n j D) = true := by
  obtain ⟨l', n', e1, e2, h1, h2, h3, h4, h5⟩ := chk_nat h
  obtain rfl : l = l' := by omega
  obtain rfl : n = n' := by omega
  have h0 := bN_lt (x := x) (lv := l) (id := j) (show 0 < n by omega) 0
  have h1' := bN_lt (x := x) (lv := l) (id := j) (show 0 < n by omega) 1
  refine nat_chk h1 h2 h3 (by simp [h4]) fun k hk hk2 => ?_
  rw [bit_addD (by omega) h4, h5 k hk (by simpa using hk2), beq_eq_false_iff_ne.2 (by omega), beq_eq_false_iff_ne.2 (by omega)]; rfl
def stepF (x : List UInt8) (lv nb : Int) (D : List UInt8) (id : Int) : List UInt8 := if okB lv nb D id then addD x lv.toNat nb.toNat id.toNat D else D
theorem step_no {x : List UInt8} {lv nb id : Int} {D : List UInt8} (h : okB lv nb D id = false) : stepF x lv nb D id = D := by unfold stepF; rw [h]; rfl
theorem add_yes2 {x : List UInt8} {lv nb id : Int} {D : List UInt8} (h : okB lv nb D id = true) : addA x lv nb D id = .tu [filA lv nb (stepF x lv nb D id), .i .i64 0] := by unfold addA stepF; rw [h]; rfl
@[simp] theorem len_stepF (x : List UInt8) (lv nb : Int) (D : List UInt8) (id : Int) : (stepF x lv nb D id).length = D.length := by unfold stepF; split <;> simp
theorem ok_of_chk {lv nb id : Int} {D E : List UInt8} (h : chkB lv nb D = chkB lv nb E) : okB lv nb D id = okB lv nb E id := by unfold okB; rw [h]
theorem chk_stepF (x : List UInt8) (lv nb : Int) (D : List UInt8) (id : Int) : chkB lv nb (stepF x lv nb D id) = chkB lv nb D := by
  unfold stepF
  split
  · rename_i h
    obtain ⟨l, n, j, rfl, rfl, rfl, h1, h2, h3, h4, h5, h6⟩ := ok_nat h
    have hc := nat_chk h1 h2 h3 h5 h6
    rw [hc]; exact chk_addD hc
  · rfl
@[irreducible] def addedD (x : List UInt8) (lv nb : Int) (D : List UInt8) (ids : List UInt16) : List UInt8 := ids.foldl (fun D id => stepF x lv nb D ((id.toNat : Nat) : Int)) D
theorem added_0 (x : List UInt8) (lv nb : Int) (D : List UInt8) : addedD x lv nb D [] = D := by unfold addedD; rfl
theorem added_snoc (x : List UInt8) (lv nb : Int) (D : List UInt8) (ids : List UInt16) (q : UInt16) : addedD x lv nb D (ids ++ [q]) = stepF x lv nb (addedD x lv nb D ids) ((q.toNat : Nat) : Int) := by unfold addedD; simp
theorem added_next {x : List UInt8} {lv nb : Int} {D : List UInt8} {ids : List UInt16} {i : Nat} {q : UInt16} (h : ids[i]? = some q) : stepF x lv nb (addedD x lv nb D (ids.take i)) ((q.toNat : Nat) : Int) = addedD x lv nb D (ids.take (i + 1)) := by
  rw [List.take_add_one, h]; exact (added_snoc ..).symm
theorem snoc_ind {α : Type} {p : List α → Prop} (h0 : p []) (h1 : ∀ l q, p l → p (l ++ [q])) (l : List α) : p l := by
  rw [← List.reverse_reverse l]
  induction l.reverse with
  | nil => exact h0
  | cons a m ih => rw [List.reverse_cons]; exact h1 _ _ ih
@[simp] theorem len_added (x : List UInt8) (lv nb : Int) (D : List UInt8) (ids : List UInt16) : (addedD x lv nb D ids).length = D.length :=
  snoc_ind (p := fun ids => (addedD x lv nb D ids).length = D.length) (by rw [added_0]) (fun l q h => by rw [added_snoc, len_stepF, h]) ids
theorem chk_added (x : List UInt8) (lv nb : Int) (D : List UInt8) (ids : List UInt16) : chkB lv nb (addedD x lv nb D ids) = chkB lv nb D :=
  snoc_ind (p := fun ids => chkB lv nb (addedD x lv nb D ids) = chkB lv nb D) (by rw [added_0]) (fun l q h => by rw [added_snoc, chk_stepF, h]) ids
theorem added_bad {x : List UInt8} {lv nb : Int} {D : List UInt8} (h : chkB lv nb D = false) (ids : List UInt16) : addedD x lv nb D ids = D :=
  snoc_ind (p := fun ids => addedD x lv nb D ids = D) (by rw [added_0]) (fun l q ih => by rw [added_snoc, ih, step_no (ok_chk h)]) ids
/-- A bit of one of the numbers. -/
def hitB (x : List UInt8) (l n : Nat) (ids : List UInt16) (k : Nat) : Bool := ids.any fun q => decide (q.toNat < 1024) && (k == bN x l n q.toNat 0 || k == bN x l n q.toNat 1)
theorem bit_added {x : List UInt8} {l n : Nat} {D : List UInt8} (h : chkB l n D = true) (ids : List UInt16) (k : Nat) : bitA (addedD x l n D ids) k = (bitA D k || hitB x l n ids k) := by
  obtain ⟨l', n', e1, e2, h1, h2, h3, h4, h5⟩ := chk_nat h
  obtain rfl : l = l' := by omega
  obtain rfl : n = n' := by omega
  refine snoc_ind (p := fun ids => bitA (addedD x l n D ids) k = (bitA D k || hitB x l n ids k)) (by rw [added_0]; simp [hitB]) (fun m q ih => ?_) ids
  have hh : hitB x l n (m ++ [q]) k = (hitB x l n m k || (decide (q.toNat < 1024) && (k == bN x l n q.toNat 0 || k == bN x l n q.toNat 1))) := by simp [hitB]
  rw [added_snoc, hh, ← Bool.or_assoc, ← ih]
  unfold stepF
  by_cases hq : q.toNat < 1024
  · rw [if_pos (ok_yes (by rw [chk_added]; exact h) (by omega)), decide_eq_true hq, Bool.true_and]
    exact bit_addD (by omega) (by rw [len_added]; exact h4) k
  · rw [ok_id (by omega), decide_eq_false hq]; simp
theorem okB_eq {l n j : Nat} {D : List UInt8} (h : chkB l n D = true) (hj : j < 1024) : okB l n D j = true := ok_yes h (by omega)
theorem has_added {x : List UInt8} {lv nb : Int} {D : List UInt8} {ids : List UInt16} {q : UInt16} (h : chkB lv nb D = true) (hq : q ∈ ids) (hq2 : q.toNat < 1024) : hasV x lv nb (addedD x lv nb D ids) ((q.toNat : Nat) : Int) = true := by
  obtain ⟨l, n, rfl, rfl, h1, h2, h3, h4, h5⟩ := chk_nat h
  unfold hasV
  rw [okB_eq (by rw [chk_added]; exact h) hq2]
  have : ∀ t, t < 2 → bitA (addedD x l n D ids) (bN x l n q.toNat t) = true := fun t ht => by
    rw [bit_added h]
    have : hitB x l n ids (bN x l n q.toNat t) = true := by
      unfold hitB
      rw [List.any_eq_true]
      refine ⟨q, hq, ?_⟩
      have : t = 0 ∨ t = 1 := by omega
      rcases this with rfl | rfl <;> simp [hq2]
    rw [this]; simp
  exact hasD_yes this
theorem has_mono {x : List UInt8} {lv nb id : Int} {D : List UInt8} {ids : List UInt16} (h : hasV x lv nb D id = true) : hasV x lv nb (addedD x lv nb D ids) id = true := by
  unfold hasV at h ⊢
  simp only [Bool.and_eq_true] at h
  obtain ⟨ho, hh⟩ := h
  rw [ok_of_chk (chk_added x lv nb D ids), ho]
  obtain ⟨l, n, j, rfl, rfl, rfl, h1, h2, h3, h4, h5, h6⟩ := ok_nat ho
  have hc := nat_chk h1 h2 h3 h5 h6
  unfold hasD at hh ⊢
  simp only [Bool.and_eq_true, Int.toNat_natCast] at hh ⊢
  rw [bit_added hc, bit_added hc, hh.1, hh.2]
  simp
theorem has_imp {x : List UInt8} {lv nb id : Int} {D : List UInt8} {ids : List UInt16} : (!hasV x lv nb D id || hasV x lv nb (addedD x lv nb D ids) id) = true := by
  cases h : hasV x lv nb D id with
  | false => rfl
  | true => rw [has_mono h]; rfl
theorem added_eq {x : List UInt8} {lv nb : Int} {D E : List UInt8} {ids js : List UInt16} (hD : chkB lv nb D = true) (hE : chkB lv nb E = true) (hl : E.length = D.length) (h : ∀ (l n k : Nat), lv = (l : Int) → nb = (n : Int) → (bitA D k || hitB x l n ids k) = (bitA E k || hitB x l n js k)) : addedD x lv nb D ids = addedD x lv nb E js := by
  obtain ⟨l, n, rfl, rfl, h1, h2, h3, h4, h5⟩ := chk_nat hD
  refine bits_ext (by simp [hl]) fun k _ => ?_
  rw [bit_added hD, bit_added hE]
  exact h l n k rfl rfl
/-- The order does not matter. -/
theorem added_turn (x : List UInt8) (lv nb : Int) (D : List UInt8) (ids : List UInt16) (k : Nat) : addedD x lv nb D (ids.drop k ++ ids.take k) = addedD x lv nb D ids := by
  rcases tf (chkB lv nb D) with h | h
  · rw [added_bad h, added_bad h]
  · refine added_eq h h rfl fun l n b _ _ => ?_
    congr 1
    conv => rhs; rw [← List.take_append_drop k ids]
    unfold hitB
    rw [List.any_append, List.any_append, Bool.or_comm]
/-- .. nor how often. -/
theorem added_twice (x : List UInt8) (lv nb : Int) (D : List UInt8) (ids : List UInt16) : addedD x lv nb (addedD x lv nb D ids) ids = addedD x lv nb D ids := by
  rcases tf (chkB lv nb D) with h | h
  · rw [added_bad h, added_bad h]
  · have h2 : chkB lv nb (addedD x lv nb D ids) = true := by rw [chk_added]; exact h
    refine added_eq h2 h (by simp) fun l n b e1 e2 => ?_
    subst e1; subst e2
    rw [bit_added h, Bool.or_assoc, Bool.or_self]

/-! The examples. -/
def S5 : List UInt8 := 5 :: List.replicate 31 0
theorem len_S5 : S5.length = 32 := rfl
theorem new_09 : newA 0 9 = .tu [filA 0 9 [0, 0], .i .i64 0] := by unfold newA; rw [if_pos (by decide)]; rfl
theorem new_168 : newA 16 8 = .tu [filA 0 0 [], .i .i64 330] := new_no (by decide)
theorem new_07 : newA 0 7 = .tu [filA 0 0 [], .i .i64 330] := new_no (by decide)
theorem new_04097 : newA 0 4097 = .tu [filA 0 0 [], .i .i64 330] := new_no (by decide)
theorem chk_09 : chkB 0 9 [0, 0] = true := by decide +kernel
theorem ok_093 : okB 0 9 [0, 0] 3 = true := by decide +kernel
abbrev D093 : List UInt8 := addD S5 0 9 3 [0, 0]
theorem add_093 : addA S5 0 9 [0, 0] 3 = .tu [filA 0 9 D093, .i .i64 0] := add_yes (l := 0) (n := 9) (j := 3) ok_093
theorem add_1024 : addA S5 0 9 [0, 0] 1024 = .tu [filA 0 0 [], .i .i64 330] := add_no (ok_id (by decide))
theorem ok_093x : okB 0 9 D093 3 = true := okB_eq (l := 0) (n := 9) (j := 3) (chk_addD (l := 0) (n := 9) chk_09) (by omega)
theorem has_093x : hasA S5 0 9 D093 3 = .tu [.b true, .i .i64 0] := by
  refine (has_yes (x := S5) (l := 0) (n := 9) (j := 3) ok_093x).trans ?_
  rw [hasD_yes fun t ht => ?_]
  rw [bit_addD (by omega) rfl]
  have : t = 0 ∨ t = 1 := by omega
  rcases this with rfl | rfl <;> simp
theorem bit_zero (m k : Nat) : bitA (List.replicate m 0) k = false := by
  unfold bitA
  have : (List.replicate m (0 : UInt8)).getD (k / 8) 0 = 0 := by
    rw [List.getD]
    cases h : (List.replicate m (0 : UInt8))[k / 8]? with
    | none => rfl
    | some v => exact List.eq_of_mem_replicate (List.mem_of_getElem? h)
  rw [this]
  exact Nat.zero_testBit _
theorem has_093 : hasA S5 0 9 [0, 0] 3 = .tu [.b false, .i .i64 0] := by
  refine (has_yes (x := S5) (l := 0) (n := 9) (j := 3) ok_093).trans ?_
  have hz : bitA [0, 0] (bN S5 0 9 3 0) = false := bit_zero 2 _
  rw [hasD_no (i := 0) (by omega) hz]
theorem bits_093 : bitsA S5 0 9 [0, 0] 3 = .tu [.fz 2 ((bitL S5 0 9 3 2).map nJ), .i .i64 0] := bits_yes (l := 0) (n := 9) (j := 3) ok_093
theorem chk_00 : chkB 0 0 [] = false := by decide +kernel
theorem chk_odd : chkB 0 9 [0, 2] = false := by decide +kernel

/-! The laws' own. -/
theorem turn_cells (ids : List UInt16) (k : Nat) : ([] ++ ((ids.map u16).drop (k * 1)).take ((ids.length - k) * 1)) ++ ((ids.map u16).drop (0 * 1)).take (k * 1) = (ids.drop k ++ ids.take k).map u16 := by
  rw [Nat.mul_one, Nat.mul_one, Nat.mul_one, List.drop_zero, List.nil_append, List.map_append, List.map_drop, List.map_take, List.take_of_length_le (by simp)]
theorem len_turn {ids : List UInt16} {k : Nat} (h : k ≤ ids.length) : (ids.drop k ++ ids.take k).length = ids.length := by simp; omega
theorem chk_zero {l n : Nat} (h : sizedP (l : Int) (n : Int)) : chkB l n (List.replicate ((n + 7) / 8) 0) = true := by
  unfold sizedP at h
  exact nat_chk (by omega) (by omega) (by omega) (by simp) fun k _ _ => bit_zero _ _
/-- Met by the first bits of a number. -/
def ptB (x : List UInt8) (l n j u m : Nat) : Bool := (List.range u).any fun t => m == bN x l n j t
theorem ptB_0 (x : List UInt8) (l n j m : Nat) : ptB x l n j 0 m = false := rfl
theorem ptB_s (x : List UInt8) (l n j u m : Nat) : ptB x l n j (u + 1) m = (ptB x l n j u m || ((m : Int) == (bN x l n j u : Int))) := by
  unfold ptB
  rw [List.range_succ, List.any_append]
  have : ((m : Int) == (bN x l n j u : Int)) = (m == bN x l n j u) := by rw [Bool.eq_iff_iff, beq_iff_eq, beq_iff_eq]; omega
  rw [this]; simp
abbrev metA (x : List UInt8) (l n : Nat) (ids : List UInt16) (j m0 m1 u v : Nat) : List A := [.b (hitB x l n ids m0 || ptB x l n j (if 0 < v then u + 1 else u) m0), .b (hitB x l n ids m1 || ptB x l n j (if 1 < v then u + 1 else u) m1)]
theorem hit_0 (x : List UInt8) (l n m : Nat) : hitB x l n [] m = false := rfl
theorem hit_next {x : List UInt8} {l n m : Nat} {ids : List UInt16} {i : Nat} {q : UInt16} (h : ids[i]? = some q) (hq : q.toNat < 1024) : (hitB x l n (ids.take i) m || ptB x l n q.toNat 2 m) = hitB x l n (ids.take (i + 1)) m := by
  rw [List.take_add_one, h]
  unfold hitB
  rw [List.any_append]
  simp [ptB, List.range_succ, hq]
theorem hit_skip {x : List UInt8} {l n m : Nat} {ids : List UInt16} {i : Nat} {q : UInt16} (h : ids[i]? = some q) (hq : ¬ q.toNat < 1024) : hitB x l n (ids.take i) m = hitB x l n (ids.take (i + 1)) m := by
  rw [List.take_add_one, h]
  unfold hitB
  rw [List.any_append]
  simp [hq]
theorem met_0 (x : List UInt8) (l n : Nat) (ids : List UInt16) (j m0 m1 : Nat) : [A.b (hitB x l n ids m0), .b (hitB x l n ids m1)] = metA x l n ids j m0 m1 0 0 := by simp [metA, ptB_0]
theorem met_next {x : List UInt8} {l n m0 m1 : Nat} {ids : List UInt16} {i : Nat} {q : UInt16} (h : ids[i]? = some q) (hq : q.toNat < 1024) : metA x l n (ids.take i) q.toNat m0 m1 2 0 = [.b (hitB x l n (ids.take (i + 1)) m0), .b (hitB x l n (ids.take (i + 1)) m1)] := by
  unfold metA
  rw [if_neg (by omega), if_neg (by omega), hit_next h hq, hit_next h hq]
theorem met_skip {x : List UInt8} {l n m0 m1 : Nat} {ids : List UInt16} {i : Nat} {q : UInt16} (h : ids[i]? = some q) (hq : ¬ q.toNat < 1024) : [A.b (hitB x l n (ids.take i) m0), .b (hitB x l n (ids.take i) m1)] = [.b (hitB x l n (ids.take (i + 1)) m0), .b (hitB x l n (ids.take (i + 1)) m1)] := by
  rw [hit_skip h hq, hit_skip h hq]
theorem met_row (x : List UInt8) (l n : Nat) (ids : List UInt16) (j m0 m1 u : Nat) : metA x l n ids j m0 m1 u 2 = metA x l n ids j m0 m1 (u + 1) 0 := by simp [metA]
theorem met_set0 (x : List UInt8) (l n : Nat) (ids : List UInt16) (j m0 m1 u : Nat) : (metA x l n ids j m0 m1 u 0).set (0 + 0 * 1) (.b ((hitB x l n ids m0 || ptB x l n j u m0) || ((m0 : Int) == (bN x l n j u : Int)))) = metA x l n ids j m0 m1 u 1 := by
  simp only [metA, Nat.lt_irrefl, if_false, Nat.zero_lt_one, if_true, ptB_s, Bool.or_assoc, Nat.not_lt_zero]; rfl
theorem met_set1 (x : List UInt8) (l n : Nat) (ids : List UInt16) (j m0 m1 u : Nat) : (metA x l n ids j m0 m1 u 1).set (0 + 1 * 1) (.b ((hitB x l n ids m1 || ptB x l n j u m1) || ((m1 : Int) == (bN x l n j u : Int)))) = metA x l n ids j m0 m1 u 2 := by
  simp only [metA, Nat.lt_irrefl, if_false, Nat.zero_lt_one, if_true, ptB_s, Bool.or_assoc, show (1 : Nat) < 2 from by omega, show (0 : Nat) < 2 from by omega]; rfl
theorem has_false {x : List UInt8} {l n j : Nat} (h : sizedP (l : Int) (n : Int)) (hj : j < 1024) (ids : List UInt16) : hasV x l n (addedD x l n (List.replicate ((n + 7) / 8) 0) ids) j = (hitB x l n ids (bN x l n j 0) && hitB x l n ids (bN x l n j 1)) := by
  have hc := chk_zero h
  unfold hasV
  rw [okB_eq (by rw [chk_added]; exact hc) hj, Bool.true_and]
  show hasD x l n j _ = _
  unfold hasD
  rw [bit_added hc, bit_added hc, bit_zero, bit_zero]; simp
theorem id_lt {l n j : Nat} {D : List UInt8} (h : okB l n D j = true) : j < 1024 := by
  obtain ⟨l', n', j', e1, e2, e3, h1, h2, h3, h4, h5, h6⟩ := ok_nat h; omega
theorem id_ge {l n j : Nat} {D : List UInt8} (hc : chkB l n D = true) (h : okB l n D j = false) : ¬ j < 1024 := by
  intro hj; rw [okB_eq hc hj] at h; cases h
theorem hi_byte (q : UInt16) : A.i .u8 (IntKind.u8.wrap (((q.toNat : Int)).fdiv (2 ^ min ((8 : Int).toNat) IntKind.u16.bits))) = u8 (UInt8.ofNat (q.toNat / 256)) := by
  refine congrArg (A.i .u8) ?_
  show ((q.toNat : Int).fdiv 256) % 256 = _
  rw [UInt8.toNat_ofNat']
  have : ((q.toNat : Int).fdiv 256) = ((q.toNat / 256 : Nat) : Int) := by
    rw [Int.fdiv_eq_ediv_of_nonneg _ (by omega)]; rfl
  rw [this]; omega
theorem lo_byte (q : UInt16) : A.i .u8 (IntKind.u8.wrap (q.toNat : Int)) = u8 (UInt8.ofNat (q.toNat % 256)) := by
  refine congrArg (A.i .u8) ?_
  show (q.toNat : Int) % 256 = _
  rw [UInt8.toNat_ofNat']; omega
theorem head_bytes2 {x : List UInt8} {l j : Nat} (h : j < 1024) : x.map u8 ++ [u8 (UInt8.ofNat l), .i .u8 0, .i .u8 0, u8 (UInt8.ofNat (j / 256)), u8 (UInt8.ofNat (j % 256))] = (x ++ UInt8.ofNat l :: be32 (BitVec.ofNat 32 j)).map u8 := by
  rw [be32_small h]; simp

/-! A row's arguments. -/
structure Fil where
  lv : Int
  nb : Int
  D : List UInt8
theorem den_u16 (as : List A) (h : Den (.int .u16) as) : ∃ b : UInt16, as = [u16 b] ∧ True := by
  simp only [Den] at h
  obtain ⟨n, hw, rfl⟩ := h
  refine ⟨UInt16.ofNat n.toNat, ?_, trivial⟩
  simp only [Lit.wf, Bool.and_eq_true, decide_eq_true_eq] at hw
  have h1 : IntKind.u16.min = 0 := rfl
  have h2 : IntKind.u16.max = 65535 := rfl
  rw [h1, h2] at hw
  have : ((UInt16.ofNat n.toNat).toNat : Int) = n := by
    rw [UInt16.toNat_ofNat', Nat.mod_eq_of_lt (by omega)]; omega
  rw [u16, this]
theorem den_u16s (as : List A) (h : Den (.sl (.int .u16)) as) : ∃ b : List UInt16, as = [.fz b.length (b.map u16)] ∧ b.length ≤ maxLen := by
  simp only [Den] at h
  obtain ⟨ls, h1, h2, rfl⟩ := h
  obtain ⟨ys, rfl, _⟩ := den_map den_u16 ls h1
  exact ⟨ys, by rw [flat_sing, List.length_map], by simpa using h2⟩
theorem den_fil (as : List A) (h : Den (.st [.int .i64, .int .i64, .sl (.int .u8)]) as) : ∃ f : Fil, as = [.i .i64 f.lv, .i .i64 f.nb, slA f.D] ∧ (-9223372036854775808 ≤ f.lv ∧ f.lv ≤ 9223372036854775807) ∧ -9223372036854775808 ≤ f.nb ∧ f.nb ≤ 9223372036854775807 := by
  simp only [Den, DenL] at h
  obtain ⟨a, r, h1, ⟨b, r2, h2, ⟨c, r3, h3, rfl, rfl⟩, rfl⟩, rfl⟩ := h
  obtain ⟨n, rfl, hn⟩ := den_int a (by simpa only [Den] using h1)
  obtain ⟨m, rfl, hm⟩ := den_int b (by simpa only [Den] using h2)
  obtain ⟨D, rfl, _⟩ := den_bytes c (by simpa only [Den] using h3)
  exact ⟨⟨n, m, D⟩, rfl, hn, hm⟩
end Go.Abs.D2
