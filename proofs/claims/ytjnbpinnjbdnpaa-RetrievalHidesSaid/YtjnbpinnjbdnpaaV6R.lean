/-
  Layer 36's plain law: what is read and what stays hidden. Conditions: none; nothing of any program stands here.
-/
import Derived.Test.YtjnbpinnjbdnpaaV6Q
namespace Go.Abs.D2
open Go Go.Eng Go.Abs
theorem ask_split (many : Int) (at1 : List Int) (batch : Int) (coins : List (List UInt8)) :
    (∃ e : Int, e ≠ 0 ∧ askA many at1 batch coins = .tu [.ag [.nl], .ag [.nl], .i .i64 e]) ∨
    (∃ a b, askA many at1 batch coins = .tu [.ag [rowsV a], .ag [rowsV b], .i .i64 0] ∧ batch = (coins.length : Int) ∧ 1 ≤ coins.length ∧ coins.length ≤ 132 ∧ at1.length ≤ coins.length ∧ a.length = coins.length ∧ b.length = coins.length ∧ ∀ k, k < coins.length → V6.Round many at1 coins a b k) := by
  rcases V6.ask_cases many at1 batch coins with ⟨h, _, _⟩ | ⟨h, h1, h2, h3, h4, h5, h6, h7⟩
  · exact .inl ⟨_, h, askA_no h⟩
  · exact .inr ⟨_, _, askA_yes h, h1, h2, h3, h4, h5, h6, h7⟩
theorem joinA_val {p q d : List UInt8} (h : V6.join p q = (d, 0)) : joinA p q = .tu [V6.slV d, .i .i64 0] := by
  unfold V6.join at h
  unfold joinA
  split at h
  · rename_i hl
    rw [if_pos hl]
    obtain ⟨rfl, _⟩ := Prod.mk.inj h
    rw [V6.slV, V6.len_xorL (by omega), hl.1]
  · rename_i hl
    have := (Prod.mk.inj h).2
    simp at this
section
variable {m : Nat} {at1 : List Int} {coins a b : List (List UInt8)} {k : Nat}
theorem round_nat (h : V6.Round m at1 coins a b k) : ∃ j : Nat, V6.want at1 k = (j : Int) ∧ j < m ∧ 1 ≤ m ∧ m ≤ 1024 ∧ (coins.getD k []).length = (m + 7) / 8 ∧ a.getD k [] = V6.cut m (coins.getD k []) ∧ b.getD k [] = V6.change (V6.cut m (coins.getD k [])) j := by
  obtain ⟨h0, h1, h2⟩ := h
  obtain ⟨m', j, e1, e2, g1, g2, g3, g4⟩ := V6.masks_zero h0
  obtain rfl : m = m' := by omega
  rw [e2] at h2
  exact ⟨j, e2, g4, g1, g2, g3, h1, h2⟩
theorem sizedN {m n : Nat} (h1 : 1 ≤ m) (h2 : m ≤ 1024) (h3 : n = (m + 7) / 8) : V6.sized m n = true := by
  simp only [V6.sized, decide_eq_true_eq]; omega
theorem reads_cases {db : List (List UInt8)} (hc : 1 ≤ coins.length) (hc2 : coins.length ≤ 132) (ha : a.length = coins.length) (hb : b.length = coins.length) (h : ∀ k, k < coins.length → V6.Round (db.length : Nat) at1 coins a b k) :
    (db.any no16 = true ∧ ansOk db a = false ∧ ansOk db b = false) ∨ (db.any no16 = false ∧ ansOk db a = true ∧ ansOk db b = true) := by
  cases h1 : db.any no16 with
  | true => exact .inl ⟨rfl, ansOk_db h1, ansOk_db h1⟩
  | false =>
    obtain ⟨j, _, _, g1, g2, _⟩ := round_nat (h 0 (by omega))
    have hall : ∀ l : List (List UInt8), l.length = coins.length → (∀ k, k < coins.length → V6.masked (db.length : Nat) (l.getD k []) = true) → ansOk db l = true := by
      intro l hl hm
      refine ansOk_yes ⟨g1, g2, by omega⟩ h1 ?_
      rw [List.any_eq_false]
      intro x hx
      obtain ⟨k, hk⟩ := List.mem_iff_getElem?.1 hx
      have hlt := (List.getElem?_eq_some_iff.1 hk).1
      have := hm k (by omega)
      rw [List.getD, hk] at this
      simpa [unmasked] using this
    refine .inr ⟨rfl, hall a ha fun k hk => ?_, hall b hb fun k hk => ?_⟩
    · obtain ⟨j, _, _, g3, g4, g5, g6, _⟩ := round_nat (h k hk)
      rw [g6]; exact V6.cut_masked (sizedN g3 g4 g5)
    · obtain ⟨j, _, g7, g3, g4, g5, _, g6⟩ := round_nat (h k hk)
      rw [g6]; exact V6.change_masked (sizedN g3 g4 g5) g7
theorem reads_at {db : List (List UInt8)} (hdb : db.any no16 = false) (h : V6.Round (db.length : Nat) at1 coins a b k) (hk : k < coins.length) (ha : a.length = coins.length) (hb : b.length = coins.length) :
    ∃ j : Nat, ∃ x y d, V6.want at1 k = (j : Int) ∧ j < db.length ∧ db[j]? = some d ∧ (a.map (V6.answer db))[k]? = some (V6.answer db x) ∧ (b.map (V6.answer db))[k]? = some (V6.answer db y) ∧ joinA (V6.answer db x) (V6.answer db y) = .tu [V6.slV d, .i .i64 0] := by
  obtain ⟨j, e1, g1, g2, g3, g4, g5, g6⟩ := round_nat h
  have h16 : ∀ q ∈ db, q.length = 16 := fun q hq => by
    have := (List.any_eq_false.1 hdb) q hq
    simpa [no16] using this
  refine ⟨j, a.getD k [], b.getD k [], db.getD j [], e1, g1, by simp [List.getD, g1], ?_, ?_, ?_⟩
  · rw [List.getElem?_map]; simp [List.getD, show k < a.length by omega]
  · rw [List.getElem?_map]; simp [List.getD, show k < b.length by omega]
  · refine joinA_val ?_
    rw [g5, g6]
    exact V6.read_ok h16 g1 (by rw [V6.len_cut]; exact g4)
end
theorem few3 (p q : Bool) : p = false ∨ (p = true ∧ q = false) ∨ (p = true ∧ q = true) := by cases p <;> cases q <;> simp
/-- The coins that hide the one as the other. -/
def twinAt (m : Nat) (a1 a2 : List Int) (coins : List (List UInt8)) (k : Nat) : List UInt8 := V6.change (V6.change (V6.cut m (coins.getD k [])) (V6.want a1 k).toNat) (V6.want a2 k).toNat
def twins (m : Nat) (a1 a2 : List Int) (coins : List (List UInt8)) : List (List UInt8) := (List.range coins.length).map (twinAt m a1 a2 coins)
theorem len_twins (m : Nat) (a1 a2 : List Int) (coins : List (List UInt8)) : (twins m a1 a2 coins).length = coins.length := by simp [twins]
theorem twins_next (f : Nat → List UInt8) (k : Nat) {x : List UInt8} (h : f k = x) : ((List.range k).map f).map V6.slV ++ [V6.slV x] = ((List.range (k + 1)).map f).map V6.slV := by
  rw [List.range_succ, ← h]; simp
theorem twins_getD {m : Nat} {a1 a2 : List Int} {coins : List (List UInt8)} {k : Nat} (h : k < coins.length) : (twins m a1 a2 coins).getD k [] = twinAt m a1 a2 coins k := by
  simp [twins, List.getD, h]
section
variable {m : Nat} {a1 a2 : List Int} {coins a b a' b' : List (List UInt8)} {k : Nat}
theorem same_masks (h1 : ∀ k, k < coins.length → V6.Round m a1 coins a b k) (h2 : ∀ k, k < coins.length → V6.Round m a2 coins a' b' k) (ha : a.length = coins.length) (ha' : a'.length = coins.length) : a = a' := by
  apply List.ext_getElem (by omega)
  intro i g1 g2
  have e1 := (h1 i (by omega)).fst
  have e2 := (h2 i (by omega)).fst
  simp only [List.getD, List.getElem?_eq_getElem g1, List.getElem?_eq_getElem g2, Option.getD_some] at e1 e2
  rw [e1, e2]
theorem masks_ok {m j : Nat} {l : List UInt8} (h1 : 1 ≤ m) (h2 : m ≤ 1024) (h3 : l.length = (m + 7) / 8) (h4 : j < m) : (V6.masks m j l).2.2 = 0 := by
  rw [V6.masks_yes (sizedN h1 h2 h3) h4]
theorem hides_at (h1 : V6.Round m a1 coins a b k) (h2 : V6.Round m a2 coins a' b' k) (hk : k < coins.length) (ha : a.length = coins.length) :
    ∃ x, a[k]? = some x ∧ twinA m (V6.want a1 k) (V6.want a2 k) (coins.getD k []) = .tu [V6.slV (twinAt m a1 a2 coins k), .i .i64 0] ∧ twinA m (V6.want a2 k) (V6.want a1 k) (twinAt m a1 a2 coins k) = .tu [V6.slV x, .i .i64 0] ∧
      (V6.masks m (V6.want a2 k) (twinAt m a1 a2 coins k)).2.2 = 0 ∧ V6.change (V6.cut m (twinAt m a1 a2 coins k)) (V6.want a2 k).toNat = b.getD k [] := by
  obtain ⟨i, e1, g1, g2, g3, g4, g5, g6⟩ := round_nat h1
  obtain ⟨j, e2, g7, _, _, _, _, _⟩ := round_nat h2
  have hl := V6.len_cut m (coins.getD k [])
  have htw : twinAt m a1 a2 coins k = V6.change (V6.change (V6.cut m (coins.getD k [])) i) j := by unfold twinAt; rw [e1, e2]; rfl
  have hcc := V6.cut_cut m (coins.getD k []) g4
  have hlt : (twinAt m a1 a2 coins k).length = (m + 7) / 8 := by rw [htw, V6.len_change, V6.len_change, hl, g4]
  have hcut : V6.cut m (twinAt m a1 a2 coins k) = twinAt m a1 a2 coins k := by
    rw [htw]
    exact V6.cut_change (by rw [V6.len_change, hl, g4]) g7 (V6.cut_change (by rw [hl, g4]) g1 hcc)
  have hj : V6.change (twinAt m a1 a2 coins k) j = V6.change (V6.cut m (coins.getD k [])) i := by
    rw [htw, V6.change_change _ _ (by rw [V6.len_change, hl]; omega)]
  refine ⟨a.getD k [], by simp [List.getD, show k < a.length by omega], ?_, ?_, ?_, ?_⟩
  · rw [e1, e2, twinA_3 (masks_ok g2 g3 g4 g1) (masks_ok g2 g3 g4 g7), htw]
  · rw [e1, e2, twinA_3 (masks_ok g2 g3 hlt g7) (masks_ok g2 g3 hlt g1), hcut, hj, V6.change_change _ _ (by rw [hl]; omega), g5]
  · rw [e2]; exact masks_ok g2 g3 hlt g7
  · rw [e2, hcut, g6]; exact hj
theorem askTo_zero {many : Int} {at1 : List Int} {coins : List (List UInt8)} : ∀ n, (∀ k, k < n → (V6.masks many (V6.want at1 k) (coins.getD k [])).2.2 = 0) → (V6.askTo many at1 coins n).2.2 = 0
  | 0, _ => rfl
  | n + 1, h => by
    rw [V6.askTo_nextW (askTo_zero n fun k hk => h k (by omega)) (h n (by omega))]
theorem hides_ask (h1 : ∀ k, k < coins.length → V6.Round m a1 coins a b k) (h2 : ∀ k, k < coins.length → V6.Round m a2 coins a' b' k) (ha : a.length = coins.length) (hb : b.length = coins.length)
    (c1 : 1 ≤ coins.length) (c2 : coins.length ≤ 132) (c3 : a2.length ≤ coins.length) : ∃ x, askA m a2 coins.length (twins m a1 a2 coins) = .tu [.ag [rowsV x], .ag [rowsV b], .i .i64 0] := by
  have hl := len_twins m a1 a2 coins
  have hz : (V6.ask m a2 coins.length (twins m a1 a2 coins)).2.2 = 0 := by
    rw [← hl, V6.ask_all (by omega) (by omega) (by omega)]
    refine askTo_zero _ fun k hk => ?_
    rw [hl] at hk
    obtain ⟨x, _, _, _, h4, _⟩ := hides_at (h1 k hk) (h2 k hk) hk ha
    rw [twins_getD hk]; exact h4
  rcases V6.ask_cases m a2 coins.length (twins m a1 a2 coins) with ⟨h, _, _⟩ | ⟨_, _, _, _, _, _, h6, h7⟩
  · exact absurd hz h
  · refine ⟨(V6.ask m a2 coins.length (twins m a1 a2 coins)).1, ?_⟩
    rw [askA_yes hz]
    have e : (V6.ask m a2 coins.length (twins m a1 a2 coins)).2.1 = b := by
      apply List.ext_getElem (by omega)
      intro k g1 g2
      have hk : k < coins.length := by omega
      have hs := (h7 k (by omega)).snd
      obtain ⟨x, _, _, _, _, h5⟩ := hides_at (h1 k hk) (h2 k hk) hk ha
      rw [twins_getD hk, Int.toNat_natCast, h5] at hs
      simp only [List.getD, List.getElem?_eq_getElem g1, List.getElem?_eq_getElem g2, Option.getD_some] at hs
      exact hs
    rw [e]
end
end Go.Abs.D2
