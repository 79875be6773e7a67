/-
  Layer 36: the algebra of masks and answers. Conditions: none; no program stands here.
-/
import Derived.Test.YtjnbpinnjbdnpaaR36P
namespace Go.Eng.R36
open Go

theorem xorL_comm (a b : List UInt8) : xorL a b = xorL b a := by
  unfold xorL
  rw [List.zipWith_comm]
  congr 1
  funext x y
  exact UInt8.xor_comm y x

theorem xorL_get {a b : List UInt8} {i : Nat} (ha : i < a.length) (hb : i < b.length) : (xorL a b)[i]'(by simp [xorL]; omega) = a[i] ^^^ b[i] := by simp [xorL]

theorem len_xorL2 (a b : List UInt8) : (xorL a b).length = min a.length b.length := by simp [xorL]

theorem xorL_assoc (a b c : List UInt8) : xorL (xorL a b) c = xorL a (xorL b c) := by
  apply List.ext_getElem
  · simp only [len_xorL2]; omega
  · intro i h1 h2
    simp only [xorL, List.getElem_zipWith, UInt8.xor_assoc]

theorem xorL_self16 {a : List UInt8} (h : a.length = 16) : xorL a a = zero16 := by
  apply List.ext_getElem
  · simp [len_xorL2, h, zero16]
  · intro i h1 h2
    simp only [xorL, List.getElem_zipWith, zero16, List.getElem_replicate, UInt8.xor_self]

theorem zero_xorL {a : List UInt8} (h : a.length = 16) : xorL zero16 a = a := by
  apply List.ext_getElem
  · simp [len_xorL2, h, zero16]
  · intro i h1 h2
    simp only [xorL, List.getElem_zipWith, zero16, List.getElem_replicate, UInt8.zero_xor]

theorem xorL_zero {a : List UInt8} (h : a.length = 16) : xorL a zero16 = a := by rw [xorL_comm, zero_xorL h]

theorem xor_mid (a b d : List UInt8) : xorL (xorL a b) d = xorL (xorL a d) b := by rw [xorL_assoc, xorL_comm b d, ← xorL_assoc]

/-- The bit of a byte. -/
theorem bit_test (x : UInt8) (r : Nat) : (UInt8.ofNat (x.toNat / 2 ^ r) &&& 1 == 1) = x.toNat.testBit r := by
  have hx := x.toNat_lt
  have e : (UInt8.ofNat (x.toNat / 2 ^ r) &&& 1 == 1) = decide (x.toNat / 2 ^ r % 2 = 1) := by
    rw [Bool.eq_iff_iff, beq_iff_eq, decide_eq_true_eq, ← UInt8.toNat_inj, UInt8.toNat_and]
    have h1 : (UInt8.ofNat (x.toNat / 2 ^ r)).toNat = x.toNat / 2 ^ r := by
      rw [UInt8.toNat_ofNat']
      exact Nat.mod_eq_of_lt (Nat.lt_of_le_of_lt (Nat.div_le_self _ _) (by simpa using hx))
    rw [h1]
    show (x.toNat / 2 ^ r) &&& 1 = 1 ↔ _
    rw [Nat.and_one_is_mod]
  rw [e, Nat.testBit_eq_decide_div_mod_eq]

theorem chooses_bit (l : List UInt8) (k : Nat) : chooses l k = (l.getD (k / 8) 0).toNat.testBit (k % 8) := by
  unfold chooses
  exact bit_test _ _

theorem chooses_xor {p q : List UInt8} (h : p.length = q.length) (k : Nat) (hk : k / 8 < p.length) : chooses (xorL p q) k = (chooses p k != chooses q k) := by
  rw [chooses_bit, chooses_bit, chooses_bit]
  have h2 : k / 8 < q.length := by omega
  have : (xorL p q).getD (k / 8) 0 = p.getD (k / 8) 0 ^^^ q.getD (k / 8) 0 := by
    simp [List.getD, xorL, List.getElem?_zipWith, hk, h2]
  rw [this, UInt8.toNat_xor, Nat.testBit_xor]

theorem answerTo_xor {db : List (List UInt8)} (hdb : ∀ b ∈ db, b.length = 16) {p q : List UInt8} (h : p.length = q.length) (hl : p.length = (db.length + 7) / 8) : ∀ n, n ≤ db.length → answerTo db (xorL p q) n = xorL (answerTo db p n) (answerTo db q n)
  | 0, _ => by simp only [answerTo, List.range_zero, List.foldl_nil]; exact (xorL_self16 (by simp [zero16])).symm
  | n + 1, hn => by
    have ih := answerTo_xor hdb h hl n (by omega)
    have hd : (db.getD n []).length = 16 := hdb _ (by simp [List.getD, show n < db.length by omega])
    rw [answerTo_succ, answerTo_succ, answerTo_succ, ih, chooses_xor h n (by omega)]
    generalize db.getD n [] = d at hd
    cases chooses p n <;> cases chooses q n <;> simp only [Bool.bne_true, Bool.bne_false, Bool.not_false, Bool.false_eq_true, if_true, if_false, bne_self_eq_false]
    · exact xorL_assoc _ _ _
    · exact xor_mid _ _ _
    · rw [xorL_assoc, xorL_comm d, xorL_assoc, xorL_self16 hd, xorL_zero (len_answerTo hdb q n (by omega))]

theorem answer_xor {db : List (List UInt8)} (hdb : ∀ b ∈ db, b.length = 16) {p q : List UInt8} (h : p.length = q.length) (hl : p.length = (db.length + 7) / 8) : answer db (xorL p q) = xorL (answer db p) (answer db q) :=
  answerTo_xor hdb h hl db.length (Nat.le_refl _)

theorem chooses_change {l : List UInt8} {k : Nat} (hk : k / 8 < l.length) (n : Nat) : chooses (change l k) n = (if n = k then !chooses l n else chooses l n) := by
  rw [chooses_bit, chooses_bit]
  unfold change
  by_cases hb : n / 8 = k / 8
  · have : (l.set (k / 8) (l.getD (k / 8) 0 ^^^ bitB (k % 8))).getD (n / 8) 0 = l.getD (k / 8) 0 ^^^ bitB (k % 8) := by rw [hb]; simp [List.getD, hk]
    rw [this, hb, UInt8.toNat_xor, Nat.testBit_xor]
    have hbit : (bitB (k % 8)).toNat = 2 ^ (k % 8) := by
      unfold bitB
      rw [UInt8.toNat_ofNat']
      have : 2 ^ (k % 8) ≤ 2 ^ 7 := Nat.pow_le_pow_right (by decide) (by omega)
      exact Nat.mod_eq_of_lt (by omega)
    rw [hbit, Nat.testBit_two_pow]
    by_cases hnk : n = k
    · subst hnk; simp
    · rw [if_neg hnk, decide_eq_false (by omega)]; simp
  · have : (l.set (k / 8) (l.getD (k / 8) 0 ^^^ bitB (k % 8))).getD (n / 8) 0 = l.getD (n / 8) 0 := by
      simp only [List.getD]
      rw [List.getElem?_set_ne (by omega)]
    rw [this, if_neg (by intro e; subst e; exact hb rfl)]

theorem and_xor8 (a b m : UInt8) : (a ^^^ b) &&& m = (a &&& m) ^^^ (b &&& m) := by
  rw [← UInt8.toNat_inj]
  apply Nat.eq_of_testBit_eq
  intro i
  simp only [UInt8.toNat_and, UInt8.toNat_xor, Nat.testBit_and, Nat.testBit_xor]
  cases a.toNat.testBit i <;> cases b.toNat.testBit i <;> cases m.toNat.testBit i <;> rfl

theorem xorL_set {p q : List UInt8} {k : Nat} (hp : k < p.length) (hq : k < q.length) (x y : UInt8) : xorL (p.set k x) (q.set k y) = (xorL p q).set k (x ^^^ y) := by
  apply List.ext_getElem?
  intro j
  simp only [xorL, List.getElem?_zipWith, List.getElem?_set, List.length_zipWith]
  by_cases hjk : k = j
  · subst hjk; simp [hp, hq]; omega
  · simp [hjk]

theorem cut_xor {p q : List UInt8} (h : p.length = q.length) (many : Nat) (hl : p.length = (many + 7) / 8) : cut many (xorL p q) = xorL (cut many p) (cut many q) := by
  unfold cut
  split
  · rfl
  · rename_i h0
    have h1 : many / 8 < p.length := by omega
    have h2 : many / 8 < q.length := by omega
    have : (xorL p q).getD (many / 8) 0 = p.getD (many / 8) 0 ^^^ q.getD (many / 8) 0 := by simp [List.getD, xorL, List.getElem?_zipWith, h1, h2]
    rw [this, and_xor8, ← xorL_set h1 h2]

theorem masked_xor {m : Nat} {p q : List UInt8} (hp : masked m p = true) (hq : masked m q = true) : masked m (xorL p q) = true := by
  simp only [masked, Bool.and_eq_true, beq_iff_eq] at hp hq ⊢
  obtain ⟨k, e1, h1, h2, h3⟩ := sized_spec hp.1
  obtain ⟨k', e2, _, _, h4⟩ := sized_spec hq.1
  have hk : k = m := by omega
  have hk' : k' = m := by omega
  subst hk
  have hlen : p.length = q.length := by omega
  have hx : (xorL p q).length = p.length := by rw [len_xorL2]; omega
  refine ⟨by rw [hx]; exact hp.1, ?_⟩
  have e3 := hp.2
  have e4 := hq.2
  simp only [Int.toNat_natCast] at e3 e4 ⊢
  rw [cut_xor hlen k (by omega), ← e3, ← e4]

theorem set_and8 : ∀ r, r < 8 → ∀ i, i < r → ∀ x, x < 256 → ((UInt8.ofNat x &&& (bitB r - 1)) ^^^ bitB i) &&& (bitB r - 1) = (UInt8.ofNat x &&& (bitB r - 1)) ^^^ bitB i := by decide +kernel
theorem and_idem8 : ∀ r, r < 8 → ∀ x, x < 256 → (UInt8.ofNat x &&& (bitB r - 1)) &&& (bitB r - 1) = UInt8.ofNat x &&& (bitB r - 1) := by decide +kernel

theorem cut_cut (many : Nat) (l : List UInt8) (hl : l.length = (many + 7) / 8) : cut many (cut many l) = cut many l := by
  unfold cut
  split
  · rfl
  · rename_i h0
    have h1 : many / 8 < l.length := by omega
    simp only [List.set_set]
    have : (l.set (many / 8) (l.getD (many / 8) 0 &&& (bitB (many % 8) - 1))).getD (many / 8) 0 = l.getD (many / 8) 0 &&& (bitB (many % 8) - 1) := by simp [List.getD, h1]
    rw [this]
    have := and_idem8 (many % 8) (by omega) (l.getD (many / 8) 0).toNat (byte_lt _)
    simp only [UInt8.ofNat_toNat] at this
    rw [this]

theorem cut_change {many i : Nat} {l : List UInt8} (hl : l.length = (many + 7) / 8) (hi : i < many) (hc : cut many l = l) : cut many (change l i) = change l i := by
  by_cases h0 : many % 8 = 0
  · unfold cut; rw [if_pos h0]
  · have h1 : many / 8 < l.length := by omega
    unfold cut at hc ⊢
    rw [if_neg h0] at hc ⊢
    have hm : l.getD (many / 8) 0 &&& (bitB (many % 8) - 1) = l.getD (many / 8) 0 := by
      have : (l.set (many / 8) (l.getD (many / 8) 0 &&& (bitB (many % 8) - 1))).getD (many / 8) 0 = l.getD (many / 8) 0 := by rw [hc]
      rw [← this]
      simp only [List.getD, List.getElem?_set_self h1, Option.getD_some]
      have e := and_idem8 (many % 8) (by omega) (l.getD (many / 8) 0).toNat (byte_lt _)
      simp only [UInt8.ofNat_toNat] at e
      exact e
    by_cases hb : i / 8 = many / 8
    · have e1 : (change l i).getD (many / 8) 0 = l.getD (many / 8) 0 ^^^ bitB (i % 8) := by unfold change; rw [hb]; simp [List.getD, h1]
      have e := set_and8 (many % 8) (by omega) (i % 8) (by omega) (l.getD (many / 8) 0).toNat (byte_lt _)
      simp only [UInt8.ofNat_toNat] at e
      rw [hm] at e
      rw [e1, e]
      have : change l i = l.set (many / 8) (l.getD (many / 8) 0 ^^^ bitB (i % 8)) := by unfold change; rw [hb]
      rw [this, List.set_set]
    · have e1 : (change l i).getD (many / 8) 0 = l.getD (many / 8) 0 := by
        unfold change
        simp only [List.getD]
        rw [List.getElem?_set_ne hb]
      rw [e1, hm]
      have e2 := set_getD (change l i) (many / 8)
      rw [e1] at e2
      exact e2

theorem change_change (l : List UInt8) (i : Nat) (hi : i / 8 < l.length) : change (change l i) i = l := by
  unfold change
  have : (l.set (i / 8) (l.getD (i / 8) 0 ^^^ bitB (i % 8))).getD (i / 8) 0 = l.getD (i / 8) 0 ^^^ bitB (i % 8) := by simp [List.getD, hi]
  rw [this, List.set_set, UInt8.xor_assoc, UInt8.xor_self, UInt8.xor_zero]
  exact set_getD l _

/-- A sum of masks, filled so far. -/
def fillTo (p q : List UInt8) (i : Nat) : List UInt8 := (xorL p q).take i ++ List.replicate (p.length - i) 0

theorem fillTo_zero (p q : List UInt8) : fillTo p q 0 = List.replicate p.length 0 := by simp [fillTo]
theorem len_fillTo {p q : List UInt8} (h : p.length = q.length) (i : Nat) (hi : i ≤ p.length) : (fillTo p q i).length = p.length := by
  simp only [fillTo, List.length_append, List.length_take, List.length_replicate, len_xorL2]; omega
theorem fillTo_all {p q : List UInt8} (h : p.length = q.length) : fillTo p q p.length = xorL p q := by
  unfold fillTo; rw [List.take_of_length_le (by rw [len_xorL2]; omega)]; simp
theorem fillTo_succ {p q : List UInt8} (h : p.length = q.length) {i : Nat} (hi : i < p.length) : (fillTo p q i).set i (p.getD i 0 ^^^ q.getD i 0) = fillTo p q (i + 1) := by
  have hx : (xorL p q).length = p.length := by rw [len_xorL2]; omega
  apply List.ext_getElem?
  intro j
  rw [List.getElem?_set]
  split
  · rename_i hij
    subst hij
    rw [if_pos (by rw [len_fillTo h i (by omega)]; exact hi)]
    unfold fillTo
    rw [List.getElem?_append_left (by simp [hx]; omega), List.getElem?_take, if_pos (by omega)]
    simp [xorL, List.getD, List.getElem?_zipWith, hi, show i < q.length by omega]
  · rename_i hij
    unfold fillTo
    by_cases hj : j < i
    · rw [List.getElem?_append_left (by simp [hx]; omega), List.getElem?_append_left (by simp [hx]; omega)]
      simp only [List.getElem?_take]
      rw [if_pos hj, if_pos (by omega)]
    · rw [List.getElem?_append_right (by simp [hx]; omega), List.getElem?_append_right (by simp [hx]; omega)]
      simp only [List.length_take, hx, List.getElem?_replicate]
      congr 1
      rw [eq_iff_iff]
      omega

theorem answers_or (db ms : List (List UInt8)) : answers db ms = ([], 360) ∨ (answers db ms = (ms.map (answer db), 0) ∧ database db = true ∧ ms.length ≤ 132 ∧ ∀ m ∈ ms, masked db.length m = true) := by
  unfold answers
  split
  · rename_i h
    simp only [Bool.and_eq_true, decide_eq_true_eq, List.all_eq_true] at h
    exact .inr ⟨rfl, h.1.1, h.1.2, h.2⟩
  · exact .inl rfl

theorem answers_map {db ms : List (List UInt8)} (h1 : database db = true) (h2 : ms.length ≤ 132) (h3 : ∀ m ∈ ms, masked db.length m = true) : answers db ms = (ms.map (answer db), 0) := by
  unfold answers
  rw [if_pos]
  simp only [Bool.and_eq_true, decide_eq_true_eq, List.all_eq_true]
  exact ⟨⟨h1, h2⟩, h3⟩

theorem sum_ok {db : List (List UInt8)} {p q : List UInt8} (h1 : database db = true) (hp : masked db.length p = true) (hq : masked db.length q = true) :
    answers db [xorL p q] = ([xorL (answer db p) (answer db q)], 0) ∧ join (answer db p) (answer db q) = (xorL (answer db p) (answer db q), 0) ∧ join (answer db q) (answer db p) = (xorL (answer db p) (answer db q), 0) := by
  obtain ⟨hd, _, _⟩ := database_spec h1
  have e1 := masked_len hp
  have e2 := masked_len hq
  refine ⟨?_, ?_, ?_⟩
  · rw [answers_map h1 (by simp) (by simp only [List.mem_singleton, forall_eq]; exact masked_xor hp hq)]
    simp only [List.map_cons, List.map_nil]
    rw [answer_xor hd (by omega) e1]
  · rw [join, if_pos ⟨len_answer hd p, len_answer hd q⟩]
  · rw [join, if_pos ⟨len_answer hd q, len_answer hd p⟩, xorL_comm]

end Go.Eng.R36
