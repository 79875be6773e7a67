/-
  Layer 36's plain law: what is read and what stays hidden. Conditions: none; nothing of any program stands here.
-/
import Derived.Test.YtjnbpinnjbdnpaaV6Q
namespace Go.Abs.D2
open Go Go.Eng Go.Abs
theorem ask_split (many : Int) (at1 : List Int) (batch : Int) (coins : List (List UInt8)) :
    (∃ e : Int, e ≠ 0 ∧ askA many at1 batch coins = .tu [.ag [.nl], .ag [.nl], .i .i64 e]) ∨
    (∃ a b, askA many at1 batch coins = .tu [.ag [rowsV a], .ag [rowsV b], .i .i64 0] ∧ batch = (coins.length : Int) ∧ 1 ≤ coins.length ∧ coins.length ≤ 132 ∧ at1.length ≤ coins.length ∧ a.length = coins.length ∧ b.length = coins.length ∧ ∀ k, k < coins.length → V6.Round many at1 coins a b k) := by
  rcases V6.ask_cases many at1 batch coins with ⟨h, _, _⟩ | ⟨h, h1, h2, h3, h4, h5, h6, h7⟩
  · exact .inl ⟨_, h, askA_no h⟩
  · exact .inr ⟨_, _, askA_yes h, h1, h2, h3, h4, h5, h6, h7⟩
theorem joinA_val {p q d : List UInt8} (h : V6.join p q = (d, 0)) : joinA p q = .tu [V6.slV d, .i .i64 0] := by
  unfold V6.join at h
  unfold joinA
  split at h
  · rename_i hl
    rw [if_pos hl]
    obtain ⟨rfl, _⟩ := Prod.mk.inj h
    rw [V6.slV, V6.len_xorL (by omega), hl.1]
  · rename_i hl
    have := (Prod.mk.inj h).2
    simp at this
section
variable {m : Nat} {at1 : List Int} {coins a b : List (List UInt8)} {k : Nat}
theorem round_nat (h : V6.Round m at1 coins a b k) : ∃ j : Nat, V6.want at1 k = (j : Int) ∧ j < m ∧ 1 ≤ m ∧ m ≤ 1024 ∧ (coins.getD k []).length = (m + 7) / 8 ∧ a.getD k [] = V6.cut m (coins.getD k []) ∧ b.getD k [] = V6.change (V6.cut m (coins.getD k [])) j := by
  obtain ⟨h0, h1, h2⟩ := h
  obtain ⟨m', j, e1, e2, g1, g2, g3, g4⟩ := V6.masks_zero h0
  obtain rfl : m = m' := by omega
  rw [e2] at h2
  exact ⟨j, e2, g4, g1, g2, g3, h1, h2⟩
theorem sizedN {m n : Nat} (h1 : 1 ≤ m) (h2 : m ≤ 1024) (h3 : n = (m + 7) / 8) : V6.sized m n = true := by
  simp only [V6.sized, decide_eq_true_eq]; omega
theorem reads_cases {db : List (List UInt8)} (hc : 1 ≤ coins.length) (hc2 : coins.length ≤ 132) (ha : a.length = coins.length) (hb : b.length = coins.length) (h : ∀ k, k < coins.length → V6.Round (db.length : Nat) at1 coins a b k) :
    (db.any no16 = true ∧ ansOk db a = false ∧ ansOk db b = false) ∨ (db.any no16 = false ∧ ansOk db a = true ∧ ansOk db b = true) := by
  cases h1 : db.any no16 with
  | true => exact .inl ⟨rfl, ansOk_db h1, ansOk_db h1⟩
  | false =>
    obtain ⟨j, _, _, g1, g2, _⟩ := round_nat (h 0 (by omega))
    have hall : ∀ l : List (List UInt8), l.length = coins.length → (∀ k, k < coins.length → V6.masked (db.length : Nat) (l.getD k []) = true) → ansOk db l = true := by
      intro l hl hm
      refine ansOk_yes ⟨g1, g2, by omega⟩ h1 ?_
      rw [List.any_eq_false]
      intro x hx
      obtain ⟨k, hk⟩ := List.mem_iff_getElem?.1 hx
      have hlt := (List.getElem?_eq_some_iff.1 hk).1
      have := hm k (by omega)
      rw [List.getD, hk] at this
      simpa [unmasked] using this
    refine .inr ⟨rfl, hall a ha fun k hk => ?_, hall b hb fun k hk => ?_⟩
    · obtain ⟨j, _, _, g3, g4, g5, g6, _⟩ := round_nat (h k hk)
      rw [g6]; exact V6.cut_masked (sizedN g3 g4 g5)
    · obtain ⟨j, _, g7, g3, g4, g5, _, g6⟩ := round_nat (h k hk)
      rw [g6]; exact V6.change_masked (sizedN g3 g4 g5) g7
theorem reads_at {db : List (List UInt8)} (hdb : db.any no16 = false) (h : V6.Round (db.length : Nat) at1 coins a b k) (hk : k < coins.length) (ha : a.length = coins.length) (hb : b.length = coins.length) :
    ∃ j : Nat, ∃ x y d, V6.want at1 k = (j : Int) ∧ j < db.length ∧ db[j]? = some d ∧ (a.map (V6.answer db))[k]? = some (V6.answer db x) ∧ (b.map (V6.answer db))[k]? = some (V6.answer db y) ∧ joinA (V6.answer db x) (V6.answer db y) = .tu [V6.slV d, .i .i64 0] := by
  obtain ⟨j, e1, g1, g2, g3, g4, g5, g6⟩ := round_nat h
  have h16 : ∀ q ∈ db, q.length = 16 := fun q hq => by
    have := (List.any_eq_false.1 hdb) q hq
    simpa [no16] using this
  refine ⟨j, a.getD k [], b.getD k [], db.getD j [], e1, g1, by simp [List.getD, g1], ?_, ?_, ?_⟩
  · rw [List.getElem?_map]; simp [List.getD, show k < a.length by omega]
  · rw [List.getElem?_map]; simp [List.getD, show k < b.length by omega]
  · refine joinA_val ?_
    rw [g5, g6]
    exact V6.read_ok h16 g1 (by rw [V6.len_cut]; exact g4)
end
theorem few3 (p q : Bool) : p = false ∨ (p = true ∧ q = false) ∨ (p = true ∧ q = true) := by cases p <;> cases q <;> simp
end Go.Abs.D2
