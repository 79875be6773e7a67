/-
  Layer 36's plain law: cells of masks. Conditions: none; nothing of any program stands here.
-/
import Derived.Test.YtjnbpinnjbdnpaaV6P
import Derived.Test.YtjnbpinnjbdnpaaAbsL
import Derived.Test.YtjnbpinnjbdnpaaAbsR
namespace Go.Abs.D2
abbrev nV (n : Nat) : A := .i .i64 (n : Int)
end Go.Abs.D2
namespace Go.Abs.V6
open Go Go.Eng Go.Abs
theorem getO {m : List UInt8} {i : Nat} (hi : i < m.length) : ((m.map u8).drop (0 + i * 1))[0]? = some (u8 (m.getD i 0)) := by
  rw [List.getElem?_drop, show 0 + i * 1 + 0 = i by omega]
  simp [hi]
theorem getF {m : List UInt8} {i : Nat} (hi : i < m.length) : ((m.map u8).drop (i * 1))[0]? = some (u8 (m.getD i 0)) := by
  rw [List.getElem?_drop, show i * 1 + 0 = i by omega]
  simp [hi]
theorem cut_0 {m : Nat} {l : List UInt8} (h : m % 8 = 0) : cut m l = l := by unfold cut; rw [if_pos h]
theorem cutC {m : Nat} {l : List UInt8} (h : m % 8 ≠ 0) : (l.map u8).set (0 + m / 8 * 1) (u8 (l.getD (m / 8) 0 &&& (bitB (m % 8) - 1))) = (cut m l).map u8 := by
  unfold cut; rw [if_neg h, List.map_set, show 0 + m / 8 * 1 = m / 8 by omega]
theorem changeC (l : List UInt8) (m : Nat) : (l.map u8).set (0 + m / 8 * 1) (u8 (l.getD (m / 8) 0 ^^^ bitB (m % 8))) = (change l m).map u8 := by
  unfold change; rw [List.map_set, show 0 + m / 8 * 1 = m / 8 by omega]
abbrev slV (p : List UInt8) : A := .fz p.length (p.map u8)
theorem getR {ls : List (List UInt8)} {j : Nat} {q : List UInt8} (h : ls[j]? = some q) : ((ls.map slV).drop (j * 1))[0]? = some (slV q) := by
  rw [List.getElem?_drop, show j * 1 + 0 = j by omega, List.getElem?_map, h]; rfl
theorem getX {a b : List UInt8} {i : Nat} (hl : a.length ≤ b.length) (h : i < a.length) : (((xorTo a b i).map u8).drop (0 + i * 1))[0]? = some (u8 (a.getD i 0)) := by
  rw [List.getElem?_drop, show 0 + i * 1 + 0 = i by omega, List.getElem?_map, xorTo_get hl h]; rfl
theorem xorToC {a b : List UInt8} (hl : a.length ≤ b.length) {i : Nat} (h : i < a.length) : ((xorTo a b i).map u8).set (0 + i * 1) (u8 (a.getD i 0 ^^^ b.getD i 0)) = (xorTo a b (i + 1)).map u8 := by
  rw [show 0 + i * 1 = i by omega, ← List.map_set, xorTo_succ hl h]
theorem addTo_16 {s q : List UInt8} {ls : List (List UInt8)} (hs : s.length = 16) (hls : ∀ b ∈ ls, b.length = 16) {j : Nat} (h : ls[j]? = some q) : xorTo (foldTo s ls j) q 16 = foldTo s ls (j + 1) := by
  have hj := (List.getElem?_eq_some_iff.1 h).1
  have hq : q.length = 16 := hls q (List.mem_of_getElem? h)
  have hf : (foldTo s ls j).length = 16 := (len_foldTo (fun b hb => by rw [hs, hls b hb]; exact Nat.le_refl _) j (by omega)).trans hs
  have := xorTo_all (a := foldTo s ls j) (b := q) (by omega)
  rw [hf] at this
  rw [this, foldTo_succ s ls j hj, List.getD, h]; rfl
theorem sum_len {p q : List UInt8} (hp : p.length = 16) (hq : q.length = 16) : (([p, q].foldl xorL zero16).map u8).length = 16 * 1 := by
  rw [xor_zero p q hp, List.length_map, len_xorL (by omega), hp]
theorem choosesC (l : List UInt8) (k : Nat) : (((UInt8.ofNat ((l.getD (k / 8) 0).toNat / 2 ^ (k % 8)) &&& 1).toNat : Int) == 1) = chooses l k := by
  unfold chooses
  rw [Bool.eq_iff_iff, beq_iff_eq, beq_iff_eq, ← UInt8.toNat_inj]
  show _ ↔ _ = 1
  omega
end Go.Abs.V6
namespace Go.Abs.D2
open Go Go.Eng Go.Abs
theorem tfV (b : Bool) : b = false ∨ b = true := by cases b <;> simp
/-- What Masks gives. -/
@[irreducible] def masksA (many a : Int) (l : List UInt8) : A := if V6.sized many l.length then (if 0 ≤ a ∧ a < many then .tu [V6.slV (V6.cut many.toNat l), V6.slV (V6.change (V6.cut many.toNat l) a.toNat), .i .i64 0] else .tu [.nl, .nl, .i .i64 1]) else .tu [.nl, .nl, .i .i64 360]
theorem masksA_no {many a : Int} {l : List UInt8} (h : V6.sized many l.length = false) : masksA many a l = .tu [.nl, .nl, .i .i64 360] := by unfold masksA; rw [if_neg (by rw [h]; decide)]
theorem masksA_arg {many a : Int} {l : List UInt8} (h : V6.sized many l.length = true) (h2 : ¬ (0 ≤ a ∧ a < many)) : masksA many a l = .tu [.nl, .nl, .i .i64 1] := by unfold masksA; rw [if_pos h, if_neg h2]
theorem masksA_yes {m k : Nat} {l : List UInt8} (h : V6.sized m l.length = true) (h2 : k < m) : masksA m k l = .tu [V6.slV (V6.cut m l), V6.slV (V6.change (V6.cut m l) k), .i .i64 0] := by unfold masksA; rw [if_pos h, if_pos (by omega)]; rfl
theorem masksA_form (many a : Int) (l : List UInt8) : Wk (masksA many a l) (.tu [V6.slV (V6.masks many a l).1, V6.slV (V6.masks many a l).2.1, .i .i64 (V6.masks many a l).2.2]) := by
  unfold masksA V6.masks
  split
  · split
    · exact .eq rfl
    · exact .tu (.cons .nl (.cons .nl WkL.same))
  · exact .tu (.cons .nl (.cons .nl WkL.same))
@[irreducible] def joinA (p q : List UInt8) : A := if p.length = 16 ∧ q.length = 16 then .tu [.fz 16 ((V6.xorL p q).map u8), .i .i64 0] else .tu [.nl, .i .i64 360]
theorem joinA_no {p q : List UInt8} (h : ¬ (p.length = 16 ∧ q.length = 16)) : joinA p q = .tu [.nl, .i .i64 360] := by unfold joinA; rw [if_neg h]
theorem joinA_yes {p q : List UInt8} (hp : p.length = 16) (hq : q.length = 16) : joinA p q = .tu [.fz 16 (([p, q].foldl V6.xorL V6.zero16).map u8), .i .i64 0] := by unfold joinA; rw [if_pos ⟨hp, hq⟩, V6.xor_zero p q hp]
theorem joinA_form (p q : List UInt8) : Wk (joinA p q) (.tu [V6.slV (V6.join p q).1, .i .i64 (V6.join p q).2]) := by
  unfold joinA V6.join
  split
  · rename_i h
    refine .eq ?_
    rw [V6.slV, V6.len_xorL (by omega), h.1]
  · exact .tu (.cons .nl WkL.same)
theorem masksA_err {many a : Int} {l : List UInt8} (h : (V6.masks many a l).2.2 ≠ 0) : masksA many a l = .tu [.nl, .nl, .i .i64 (V6.masks many a l).2.2] := by
  unfold masksA
  unfold V6.masks at h ⊢
  split
  · rename_i hs
    rw [if_pos hs] at h
    split
    · rename_i h2
      rw [if_pos h2] at h; exact absurd rfl h
    · rfl
  · rfl
theorem masksA_val {m k : Nat} {l : List UInt8} (h : (V6.masks m k l).2.2 = 0) : masksA m k l = .tu [V6.slV (V6.cut m l), V6.slV (V6.change (V6.cut m l) k), .i .i64 0] := by
  obtain ⟨m', k', e1, e2, h1, h2, h3, h4⟩ := V6.masks_zero h
  obtain rfl : m = m' := by omega
  obtain rfl : k = k' := by omega
  exact masksA_yes (by simp only [V6.sized, decide_eq_true_eq]; omega) h4
theorem masksA_zero {many a : Int} {l : List UInt8} (h : (V6.masks many a l).2.2 = 0) : masksA many a l = .tu [V6.slV (V6.masks many a l).1, V6.slV (V6.masks many a l).2.1, .i .i64 0] := by
  obtain ⟨m, k, rfl, rfl, h1, h2, h3, h4⟩ := V6.masks_zero h
  rw [masksA_val h, V6.masks_val h]; rfl
def no16 (q : List UInt8) : Bool := q.length != 16
def unmasked (n : Nat) (q : List UInt8) : Bool := !(V6.masked n q)
abbrev rowsV (l : List (List UInt8)) : A := .fz l.length (l.map V6.slV)
/-- Where a first element answers. -/
def idxE (p : List UInt8 → Bool) (l : List (List UInt8)) : Int := if l.any p then (l.findIdx p : Nat) else -1
theorem idxE_ge (p : List UInt8 → Bool) (l : List (List UInt8)) : decide (0 ≤ idxE p l) = l.any p := by
  unfold idxE
  split
  · rename_i h; rw [h]; simp
  · rename_i h; rw [Bool.not_eq_true] at h; rw [h]; decide
theorem take_any {p : List UInt8 → Bool} {l : List (List UInt8)} {j : Nat} {x : List UInt8} (h : l[j]? = some x) (h1 : (l.take j).any p = false) (h2 : p x = false) : (l.take (j + 1)).any p = false := by
  rw [List.take_add_one, h]; simp [h1, h2]
theorem idxE_at {p : List UInt8 → Bool} {l : List (List UInt8)} {j : Nat} {x : List UInt8} (h : l[j]? = some x) (h1 : (l.take j).any p = false) (h2 : p x = true) : idxE p l = (j : Int) := by
  have hj := (List.getElem?_eq_some_iff.1 h).1
  have hx := (List.getElem?_eq_some_iff.1 h).2
  have ha : l.any p = true := List.any_eq_true.2 ⟨x, List.mem_of_getElem? h, h2⟩
  unfold idxE
  rw [if_pos ha]
  congr 1
  rw [List.findIdx_eq hj]
  refine ⟨by rw [hx]; exact h2, fun i hi => ?_⟩
  rw [List.any_eq_false] at h1
  have := h1 (l[i]'(by omega)) (List.mem_take_iff_getElem.2 ⟨i, by omega, rfl⟩)
  simpa using this
theorem idxE_none {p : List UInt8 → Bool} {l : List (List UInt8)} (h : (l.take l.length).any p = false) : idxE p l = -1 := by
  rw [List.take_length] at h
  unfold idxE; rw [h]; rfl
/-- What Twin gives. -/
@[irreducible] def twinA (many i j : Int) (l : List UInt8) : A :=
  if (V6.masks many i l).2.2 ≠ 0 then .tu [.nl, .i .i64 (V6.masks many i l).2.2] else
  if (V6.masks many j l).2.2 ≠ 0 then .tu [.nl, .i .i64 (V6.masks many j l).2.2] else .tu [V6.slV (V6.change (V6.change (V6.cut many.toNat l) i.toNat) j.toNat), .i .i64 0]
theorem twinA_1 {many i j : Int} {l : List UInt8} (h : (V6.masks many i l).2.2 ≠ 0) : twinA many i j l = .tu [.nl, .i .i64 (V6.masks many i l).2.2] := by unfold twinA; rw [if_pos h]
theorem twinA_2 {many i j : Int} {l : List UInt8} (h : (V6.masks many i l).2.2 = 0) (h2 : (V6.masks many j l).2.2 ≠ 0) : twinA many i j l = .tu [.nl, .i .i64 (V6.masks many j l).2.2] := by unfold twinA; rw [if_neg (by rw [h]; simp), if_pos h2]
theorem twinA_3 {m a b : Nat} {l : List UInt8} (h : (V6.masks m a l).2.2 = 0) (h2 : (V6.masks m b l).2.2 = 0) : twinA m a b l = .tu [V6.slV (V6.change (V6.change (V6.cut m l) a) b), .i .i64 0] := by unfold twinA; rw [if_neg (by rw [h]; simp), if_neg (by rw [h2]; simp)]; rfl
theorem twinA_form (many i j : Int) (l : List UInt8) : Wk (twinA many i j l) (.tu [V6.slV (V6.twin many i j l).1, .i .i64 (V6.twin many i j l).2]) := by
  unfold twinA V6.twin
  split
  · exact .tu (.cons .nl WkL.same)
  · split
    · exact .tu (.cons .nl WkL.same)
    · exact .eq rfl
/-- What Answer gives. -/
def ansOk (db ms : List (List UInt8)) : Bool := V6.database db && decide (ms.length ≤ 132) && ms.all (V6.masked db.length)
@[irreducible] def answersA (db ms : List (List UInt8)) : A := if ansOk db ms then .tu [.ag [rowsV (ms.map (V6.answer db))], .i .i64 0] else .tu [.ag [.nl], .i .i64 360]
theorem answersA_no {db ms : List (List UInt8)} (h : ansOk db ms = false) : answersA db ms = .tu [.ag [.nl], .i .i64 360] := by unfold answersA; rw [if_neg (by rw [h]; decide)]
theorem answersA_yes {db ms : List (List UInt8)} (h : ansOk db ms = true) : answersA db ms = .tu [.ag [rowsV (ms.map (V6.answer db))], .i .i64 0] := by unfold answersA; rw [if_pos h]
theorem answersA_form (db ms : List (List UInt8)) : Wk (answersA db ms) (.tu [.ag [rowsV (V6.answers db ms).1], .i .i64 (V6.answers db ms).2]) := by
  unfold answersA V6.answers ansOk
  split
  · exact .eq rfl
  · exact .tu (.cons (.ag (.cons .nl .nil)) WkL.same)
theorem ansOk_len {db ms : List (List UInt8)} (h : ¬ (1 ≤ db.length ∧ db.length ≤ 1024 ∧ ms.length ≤ 132)) : ansOk db ms = false := by
  rw [Bool.eq_false_iff]; intro hh
  simp only [ansOk, V6.database, Bool.and_eq_true, decide_eq_true_eq] at hh
  omega
theorem ansOk_db {db ms : List (List UInt8)} (h : db.any no16 = true) : ansOk db ms = false := by
  rw [Bool.eq_false_iff]; intro hh
  simp only [ansOk, V6.database, Bool.and_eq_true, decide_eq_true_eq, List.all_eq_true] at hh
  obtain ⟨x, hx, h2⟩ := List.any_eq_true.1 h
  have := hh.1.1.1 x hx
  simp [no16] at h2
  simp at this
  exact h2 this
theorem ansOk_ms {db ms : List (List UInt8)} (h : ms.any (unmasked db.length) = true) : ansOk db ms = false := by
  rw [Bool.eq_false_iff]; intro hh
  simp only [ansOk, Bool.and_eq_true, List.all_eq_true] at hh
  obtain ⟨x, hx, h2⟩ := List.any_eq_true.1 h
  have := hh.2 x hx
  simp [unmasked, this] at h2
theorem ansOk_yes {db ms : List (List UInt8)} (h0 : 1 ≤ db.length ∧ db.length ≤ 1024 ∧ ms.length ≤ 132) (h1 : db.any no16 = false) (h2 : ms.any (unmasked db.length) = false) : ansOk db ms = true := by
  simp only [ansOk, V6.database, Bool.and_eq_true, decide_eq_true_eq, List.all_eq_true]
  refine ⟨⟨⟨fun x hx => ?_, h0.1, h0.2.1⟩, h0.2.2⟩, fun x hx => ?_⟩
  · have := (List.any_eq_false.1 h1) x hx
    simpa [no16] using this
  · have := (List.any_eq_false.1 h2) x hx
    simpa [unmasked] using this
theorem ansOk_spec {db ms : List (List UInt8)} (h : ansOk db ms = true) : (∀ b ∈ db, b.length = 16) ∧ ∀ m ∈ ms, V6.masked db.length m = true := by
  simp only [ansOk, Bool.and_eq_true, List.all_eq_true] at h
  exact ⟨(V6.database_spec h.1.1).1, h.2⟩
theorem answer_fz {db : List (List UInt8)} (hdb : ∀ b ∈ db, b.length = 16) (m : List UInt8) : A.fz 16 ((V6.answerTo db m db.length).map u8) = V6.slV (V6.answer db m) := by
  have := V6.len_answer hdb m
  show A.fz 16 ((V6.answer db m).map u8) = _
  rw [V6.slV, this]
/-- What Ask gives. -/
@[irreducible] def askA (many : Int) (at' : List Int) (batch : Int) (coins : List (List UInt8)) : A :=
  if (V6.ask many at' batch coins).2.2 = 0 then .tu [.ag [rowsV (V6.ask many at' batch coins).1], .ag [rowsV (V6.ask many at' batch coins).2.1], .i .i64 0] else .tu [.ag [.nl], .ag [.nl], .i .i64 (V6.ask many at' batch coins).2.2]
theorem askA_no {many : Int} {at' : List Int} {batch : Int} {coins : List (List UInt8)} (h : (V6.ask many at' batch coins).2.2 ≠ 0) : askA many at' batch coins = .tu [.ag [.nl], .ag [.nl], .i .i64 (V6.ask many at' batch coins).2.2] := by unfold askA; rw [if_neg h]
theorem askA_yes {many : Int} {at' : List Int} {batch : Int} {coins : List (List UInt8)} (h : (V6.ask many at' batch coins).2.2 = 0) : askA many at' batch coins = .tu [.ag [rowsV (V6.ask many at' batch coins).1], .ag [rowsV (V6.ask many at' batch coins).2.1], .i .i64 0] := by unfold askA; rw [if_pos h]
theorem ask_bad {many : Int} {at' : List Int} {batch : Int} {coins : List (List UInt8)} (h : batch < 1 ∨ batch > 132 ∨ (at'.length : Int) > batch ∨ (coins.length : Int) ≠ batch) : V6.ask many at' batch coins = ([], [], 360) := by unfold V6.ask; rw [if_pos h]
end Go.Abs.D2
namespace Go.Abs.V6
open Go Go.Eng Go.Abs Go.Abs.D2
theorem take_eq {p q : List UInt8} (hl : p.length = q.length) {i : Nat} (h : i < p.length) (h1 : p.take i = q.take i) (h2 : p.getD i 0 = q.getD i 0) : p.take (i + 1) = q.take (i + 1) := by
  rw [List.take_succ_eq_append_getElem h, List.take_succ_eq_append_getElem (show i < q.length by omega), h1]
  simp only [List.getD, List.getElem?_eq_getElem h, List.getElem?_eq_getElem (show i < q.length by omega), Option.getD_some] at h2
  rw [h2]
theorem byteI {a b : UInt8} (h : (a.toNat : Int) = (b.toNat : Int)) : a = b := by
  rw [← UInt8.toNat_inj]; omega
theorem beq_len {p q : List UInt8} (h : p.length ≠ q.length) : (p == q) = false := by
  rw [beq_eq_false_iff_ne]; intro e; exact h (congrArg _ e)
theorem beq_at {p q : List UInt8} (_ : p.length = q.length) {i : Nat} (_ : i < p.length) (h2 : p.getD i 0 ≠ q.getD i 0) : (p == q) = false := by
  rw [beq_eq_false_iff_ne]; intro e; exact h2 (by rw [e])
theorem beq_all {p q : List UInt8} (hl : p.length = q.length) (h : p.take p.length = q.take p.length) : (p == q) = true := by
  rw [List.take_length, hl, List.take_length] at h
  rw [h]; simp
theorem cut_view (m : Nat) (l : List UInt8) : (((cut m l).map u8).drop 0).take (l.length * 1) = (cut m l).map u8 := by
  rw [List.drop_zero, List.take_of_length_le (by rw [List.length_map, len_cut]; omega)]
theorem masked_no {many : Int} {l : List UInt8} (h : sized many l.length = false) : masked many l = false := by simp [masked, h]
theorem masked_yes {m : Nat} {l : List UInt8} (h : sized m l.length = true) : masked m l = (l == cut m l) := by simp [masked, h]
theorem no16_b (q : List UInt8) : (!((q.length : Int) == 16)) = no16 q := by
  unfold no16
  rw [Bool.eq_iff_iff]; simp; omega
theorem ans_yes {db : List (List UInt8)} {q d : List UInt8} {k : Nat} (hd : db[k]? = some d) (h : chooses q k = true) : ([d].foldl xorL (answerTo db q k)).map u8 = (answerTo db q (k + 1)).map u8 := by
  rw [answerTo_succ, if_pos h, List.getD, hd]; rfl
theorem ans_no {db : List (List UInt8)} {q : List UInt8} {k : Nat} (h : chooses q k = false) : (answerTo db q k).map u8 = (answerTo db q (k + 1)).map u8 := by
  rw [answerTo_succ, if_neg (by rw [h]; decide)]
theorem rows_next (f : List UInt8 → List UInt8) {ms : List (List UInt8)} {q : List UInt8} {j : Nat} (h : ms[j]? = some q) : ((ms.take j).map f).map slV ++ [slV (f q)] = ((ms.take (j + 1)).map f).map slV := by
  rw [List.take_add_one, h]; simp
theorem want_yes {a : List Int} {k : Nat} (h : k < a.length) : want a k = a.getD k 0 := by unfold want; rw [if_pos h]
theorem want_no {a : List Int} {k : Nat} (h : ¬ k < a.length) : want a k = 0 := by unfold want; rw [if_neg h]
theorem getI {a : List Int} {k : Nat} (h : k < a.length) : ((a.map (A.i .i64)).drop (k * 1))[0]? = some (A.i .i64 (a.getD k 0)) := by
  rw [List.getElem?_drop, show k * 1 + 0 = k by omega]
  simp [h]
theorem askTo_nextW {many : Int} {a : List Int} {coins : List (List UInt8)} {k : Nat} (h : (askTo many a coins k).2.2 = 0) (hm : (masks many (want a k) (coins.getD k [])).2.2 = 0) :
    askTo many a coins (k + 1) = ((askTo many a coins k).1 ++ [(masks many (want a k) (coins.getD k [])).1], (askTo many a coins k).2.1 ++ [(masks many (want a k) (coins.getD k [])).2.1], 0) := askTo_next h rfl hm
theorem ask_errW {many : Int} {a : List Int} {coins : List (List UInt8)} {k : Nat} (hk : k < coins.length) (h0 : 1 ≤ coins.length) (h1 : coins.length ≤ 132) (h2 : a.length ≤ coins.length) (h : (askTo many a coins k).2.2 = 0)
    (hm : (masks many (want a k) (coins.getD k [])).2.2 ≠ 0) : ask many a coins.length coins = ([], [], (masks many (want a k) (coins.getD k [])).2.2) := ask_err hk h0 h1 h2 h rfl hm
theorem ask_fst {X Y : List (List UInt8) × List (List UInt8) × Int} {p q : List UInt8} (h : X = (Y.1 ++ [p], Y.2.1 ++ [q], 0)) : Y.1.map slV ++ [slV p] = X.1.map slV := by rw [h]; simp
theorem ask_snd {X Y : List (List UInt8) × List (List UInt8) × Int} {p q : List UInt8} (h : X = (Y.1 ++ [p], Y.2.1 ++ [q], 0)) : Y.2.1.map slV ++ [slV q] = X.2.1.map slV := by rw [h]; simp
end Go.Abs.V6
namespace Go.Abs.D2
open Go Go.Eng Go.Abs
theorem same_next {a b : List (List UInt8)} {i : Nat} {p q : List UInt8} (h1 : a.take i = b.take i) (hp : a[i]? = some p) (hq : b[i]? = some q) (h : p = q) : a.take (i + 1) = b.take (i + 1) := by
  rw [List.take_add_one, List.take_add_one, h1, hp, hq, h]
theorem same_len {a b : List (List UInt8)} (h : a.length ≠ b.length) : (a == b) = false := by
  rw [beq_eq_false_iff_ne]; intro e; exact h (congrArg _ e)
theorem same_at {a b : List (List UInt8)} {i : Nat} {p q : List UInt8} (hp : a[i]? = some p) (hq : b[i]? = some q) (h : p ≠ q) : (a == b) = false := by
  rw [beq_eq_false_iff_ne]; intro e; subst e; rw [hp] at hq; exact h (Option.some.inj hq)
theorem same_all {a b : List (List UInt8)} (hl : a.length = b.length) (h : a.take a.length = b.take a.length) : (a == b) = true := by
  rw [List.take_length, hl, List.take_length] at h
  rw [h]; simp
theorem few_next {l : List (List UInt8)} {i : Nat} {q : List UInt8} (hq : l[i]? = some q) (hlen : q.length ≤ 130) (h : ∀ k, k < i → (l.getD k []).length ≤ 130) : ∀ k, k < i + 1 → (l.getD k []).length ≤ 130 := by
  intro k hk
  by_cases e : k = i
  · subst e; rw [List.getD, hq]; exact hlen
  · exact h k (by omega)
theorem few_out {l : List (List UInt8)} {most : Int} {i : Nat} {q : List UInt8} (hq : l[i]? = some q) (hlen : ¬ q.length ≤ 130) : V6.few l most = false :=
  V6.few_no (List.getElem?_eq_some_iff.1 hq).1 (by rw [List.getD, hq]; exact hlen)
theorem blkC (b : UInt8) : [u8 b] ++ List.replicate 15 (u8 0) = (V6.blk b).map u8 := by simp [V6.blk]
theorem saneA5 : answersA [] [] = .tu [.ag [.nl], .i .i64 360] := answersA_no (by decide)
theorem saneA6 : askA 3 [1] 2 [[5], [250]] = .tu [.ag [rowsV [[5], [2]]], .ag [rowsV [[7], [3]]], .i .i64 0] := by rw [askA_yes (by rw [V6.sane6]), V6.sane6]
theorem saneA7 : answersA [V6.blk 3, V6.blk 5, V6.blk 16] [[5], [2]] = .tu [.ag [rowsV [V6.blk 19, V6.blk 5]], .i .i64 0] := by
  have h : ansOk [V6.blk 3, V6.blk 5, V6.blk 16] [[5], [2]] = true := by decide +kernel
  have h7 := V6.sane7
  rw [answersA_yes h]
  unfold V6.answers at h7
  unfold ansOk at h
  rw [if_pos h] at h7
  rw [(Prod.mk.inj h7).1]
theorem saneA8 : answersA [V6.blk 3, V6.blk 5, V6.blk 16] [[7], [3]] = .tu [.ag [rowsV [V6.blk 22, V6.blk 6]], .i .i64 0] := by
  have h : ansOk [V6.blk 3, V6.blk 5, V6.blk 16] [[7], [3]] = true := by decide +kernel
  have h7 := V6.sane8
  rw [answersA_yes h]
  unfold V6.answers at h7
  unfold ansOk at h
  rw [if_pos h] at h7
  rw [(Prod.mk.inj h7).1]
theorem saneA10 : answersA [V6.blk 3, V6.blk 5, V6.blk 16] [[8]] = .tu [.ag [.nl], .i .i64 360] := answersA_no (by decide +kernel)
theorem saneA11 : joinA (V6.blk 19) (V6.blk 22) = .tu [.fz 16 ((V6.blk 5).map u8), .i .i64 0] := by
  rw [joinA_yes (by decide) (by decide), V6.xor_zero _ _ (by decide)]
  have h := V6.sane11
  unfold V6.join at h
  rw [if_pos (by decide)] at h
  rw [(Prod.mk.inj h).1]
theorem saneA9 : twinA 3 0 2 [6] = .tu [V6.slV [3], .i .i64 0] := by
  have h : V6.change (V6.change (V6.cut 3 [6]) 0) 2 = [3] := by decide +kernel
  rw [show twinA 3 0 2 [6] = twinA (3 : Nat) (0 : Nat) (2 : Nat) [6] from rfl, twinA_3 (by decide +kernel) (by decide +kernel), h]
theorem saneA1 : masksA 0 0 [] = .tu [.nl, .nl, .i .i64 360] := masksA_no (by decide)
theorem saneA2 : masksA 9 0 [1] = .tu [.nl, .nl, .i .i64 360] := masksA_no (by decide)
theorem saneA3 : masksA 1 0 [255] = .tu [V6.slV [1], V6.slV [0], .i .i64 0] := by
  rw [show masksA 1 0 [255] = masksA (1 : Nat) (0 : Nat) [255] from rfl, masksA_yes (by decide) (by decide), show V6.change (V6.cut 1 [255]) 0 = [0] by decide +kernel, show V6.cut 1 [255] = [1] by decide +kernel]
theorem saneA4 : masksA 8 8 [1] = .tu [.nl, .nl, .i .i64 1] := masksA_arg (by decide) (by decide)
end Go.Abs.D2
