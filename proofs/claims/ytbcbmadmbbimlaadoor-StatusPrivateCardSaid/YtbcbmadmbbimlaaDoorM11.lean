/-
  The engine, the plain laws and the walks that the rows need, part 11. Conditions: none.
-/
import Derived.Test.YtbcbmadmbbimlaaDoorM10
import Derived.Test.YtbcbmadmbbimlaaDoorRows
import Derived.LaidHandle
import Derived.LaidLaws
import Derived.MakeChecks

/-! Laid -/
namespace Go.Proofs.YtbcbmadmbbimlaaDoor
open Go Go.Abs
open Go.ChangeShapes Go.WideShapes Go.ChangeAt Go.RowKit
abbrev laidL : List (String × DataW Unit) := [("testamur/digest.constants", Rows.laid_testamur_digest_constants)]
theorem Tryd.ownK : ownKnob Tryd.prog.godebug = none := by kernel_rfl
theorem Tryd.laidOutK : laidOutB Tryd.prog = true := by kernel_rfl
theorem door_met (os : Os) (args : Array Value) : laidMetH Tryd.prog laidL ((World.doorLaid Tryd.prog 400 os).forCall (fun _ _ => 0) ⟨#[], args, []⟩).memory :=
  laidMetH_of_parts3 (fuel := 8) (laidMet_of_run' 8 (by kernel_rfl) (by kernel_rfl)) (by kernel_rfl) (by kernel_rfl)
theorem door_shaped (os : Os) (args : Array Value) : ((World.doorLaid Tryd.prog 400 os).forCall (fun _ _ => 0) ⟨#[], args, []⟩).Shaped Tryd.prog := World.shaped_of_RefB (by kernel_rfl) (by kernel_rfl)
theorem gl_of_laid {W : World} (h : laidMetH Tryd.prog laidL W) : GL (XW W) W := by
  rw [MakeChecks.laidMetH_plain _ _ _ (by kernel_rfl)] at h
  obtain ⟨ps, ⟨g0, t0, cs0, f0, p0, q0, hg0, ht0, hv0, hd0, _, _⟩, _, _⟩ := h
  obtain rfl := Option.some.inj ((show Tryd.prog.globalNamed "testamur/digest.constants" = some 0 by kernel_rfl).symm.trans hg0)
  obtain rfl := Option.some.inj ((show (Tryd.prog.globals[0]?).map (·.type) = some 142 by kernel_rfl).symm.trans ht0)
  obtain ⟨l, hl⟩ : ∃ l : List Int, glob = [(0, l.map (Value.int .u32))] ∧ (Rows.laid_testamur_digest_constants : DataW Unit) = .agg (l.map fun i => .lit (.int .u32 i)) := ⟨[1116352408, 1899447441, 3049323471, 3921009573, 961987163, 1508970993, 2453635748, 2870763221, 3624381080, 310598401, 607225278, 1426881987, 1925078388, 2162078206, 2614888103, 3248222580, 3835390401, 4022224774, 264347078, 604807628, 770255983, 1249150122, 1555081692, 1996064986, 2554220882, 2821834349, 2952996808, 3210313671, 3336571891, 3584528711, 113926993, 338241895, 666307205, 773529912, 1294757372, 1396182291, 1695183700, 1986661051, 2177026350, 2456956037, 2730485921, 2820302411, 3259730800, 3345764771, 3516065817, 3600352804, 4094571909, 275423344, 430227734, 506948616, 659060556, 883997877, 958139571, 1322822218, 1537002063, 1747873779, 1955562222, 2024104815, 2227730452, 2361852424, 2428436474, 2756734187, 3204031479, 3329325298], by kernel_rfl, by kernel_rfl⟩
  rw [hl.2] at hd0
  have hcs := arr_lits (P := Tryd.prog) Tryd.underlying142 Tryd.underlying135 (by kernel_rfl) (by kernel_rfl) hd0
  intro g vs hg j v hj
  rw [hl.1] at hg
  simp only [List.mem_singleton, Prod.mk.injEq] at hg
  obtain ⟨rfl, rfl⟩ := hg
  have hc : W.cell? ⟨0, j, none⟩ = some v := by
    rw [World.var?_cell hg0 hv0 j, ← Array.getElem?_toList, hcs]; exact hj
  obtain ⟨i, _, rfl⟩ := List.mem_map.1 (List.mem_of_getElem? hj)
  exact ⟨⟨_, hc⟩, hc, rfl⟩
end Go.Proofs.YtbcbmadmbbimlaaDoor

/-! S7U -/
namespace Go.Abs.D2
open Go Go.Eng Go.Abs
theorem sask_form (c : Cas) (ids : List Int) (coins : List (List UInt8)) : (∃ e : Int, e ≠ 0 ∧ sAskA c ids coins = .tu [qryE, qryE, .i .i64 e]) ∨
    (∃ a b, sAskA c ids coins = .tu [.ag [rowsV a], .ag [rowsV b], .i .i64 0] ∧ askB c ids = true ∧ coins.length = 132 ∧ (atL c ids).length ≤ 132 ∧ a.length = 132 ∧ b.length = 132 ∧ ∀ k, k < coins.length → V6.Round (520 : Nat) (atL c ids) coins a b k) := by
  cases h : askB c ids with
  | false => exact .inl ⟨370, by decide, sask_no h⟩
  | true =>
    rcases ask_split 520 (atL c ids) 132 coins with ⟨e, he, hA⟩ | ⟨a, b, hA, h1, _, _, h4, h5, h6, h7⟩
    · exact .inl ⟨e, he, (sask_yes h).trans hA⟩
    · have : coins.length = 132 := by omega
      exact .inr ⟨a, b, (sask_yes h).trans hA, rfl, this, by omega, by omega, by omega, h7⟩
theorem hdc_cases (c : Cas) (ids : List Int) (b : Bool) : fewC c = false ∨ (fewC c = true ∧ 10 < ids.length) ∨ (fewC c = true ∧ ids.length ≤ 10 ∧ b = false) ∨ (fewC c = true ∧ ids.length ≤ 10 ∧ b = true) := by
  cases fewC c
  · exact .inl rfl
  · rcases Nat.lt_or_ge 10 ids.length with h | h
    · exact .inr (.inl ⟨rfl, h⟩)
    · cases b
      · exact .inr (.inr (.inl ⟨rfl, h, rfl⟩))
      · exact .inr (.inr (.inr ⟨rfl, h, rfl⟩))
theorem whr_form (c : Cas) (id : Int) : whereA c id = .tu [.nl, .i .i64 370] ∨ ∃ L : List Int, L.length = 33 ∧ whereA c id = .tu [intsA L, .i .i64 0] := by
  rcases whr_cases c id with h | ⟨h1, h2⟩ | ⟨h1, j, rfl, _, h3⟩
  · exact .inl (where_no (by rw [h]; rfl))
  · exact .inl (where_no (by rw [h1, h2]; rfl))
  · exact .inr ⟨_, len_whereL c j, where_yes h1 h3⟩
def padL (c : Cas) (ids : List Int) (r : Nat) : List Int := atL c ids ++ List.replicate r 0
theorem len_padL (c : Cas) (ids : List Int) (r : Nat) : (padL c ids r).length = (atL c ids).length + r := by simp [padL]
theorem pad_s (c : Cas) (ids : List Int) (r : Nat) : (padL c ids r).map iA ++ [.i .i64 0] = (padL c ids (r + 1)).map iA := by
  unfold padL; rw [List.replicate_succ', ← List.append_assoc]; exact (List.map_append (f := iA) (l₁ := atL c ids ++ List.replicate r 0) (l₂ := [0])).symm
theorem pad_want {c : Cas} {ids : List Int} {r k : Nat} (hk : k < (atL c ids).length + r) : (padL c ids r)[k]? = some (V6.want (atL c ids) k) := by
  unfold padL
  rcases Nat.lt_or_ge k (atL c ids).length with h | h
  · rw [List.getElem?_append_left h, V6.want_yes h]; simp [List.getD, h]
  · rw [List.getElem?_append_right h, V6.want_no (by omega), List.getElem?_replicate, if_pos (by omega)]
theorem pr_cases (c : Cas) (ids others : List Int) (b : Bool) : fewC c = false ∨ (fewC c = true ∧ 10 < ids.length) ∨ (fewC c = true ∧ ids.length ≤ 10 ∧ 10 < others.length) ∨ (fewC c = true ∧ ids.length ≤ 10 ∧ others.length ≤ 10 ∧ b = false) ∨ (fewC c = true ∧ ids.length ≤ 10 ∧ others.length ≤ 10 ∧ b = true) := by
  rcases hdc_cases c ids b with h | h | ⟨h1, h2, h3⟩ | ⟨h1, h2, h3⟩
  · exact .inl h
  · exact .inr (.inl h)
  all_goals
    rcases Nat.lt_or_ge 10 others.length with h | h
    · exact .inr (.inr (.inl ⟨h1, h2, h⟩))
    · subst h3
      first
        | exact .inr (.inr (.inr (.inl ⟨h1, h2, h, rfl⟩)))
        | exact .inr (.inr (.inr (.inr ⟨h1, h2, h, rfl⟩)))
theorem priv_cases (c : Cas) (ids others : List Int) (coins : List (List UInt8)) : (∃ e : Int, e ≠ 0 ∧ sAskA c ids coins = .tu [qryE, qryE, .i .i64 e]) ∨
    (∃ a b, ∃ e : Int, e ≠ 0 ∧ sAskA c ids coins = .tu [.ag [rowsV a], .ag [rowsV b], .i .i64 0] ∧ sAskA c others coins = .tu [qryE, qryE, .i .i64 e]) ∨
    (∃ a b b' x, sAskA c ids coins = .tu [.ag [rowsV a], .ag [rowsV b], .i .i64 0] ∧ sAskA c others coins = .tu [.ag [rowsV a], .ag [rowsV b'], .i .i64 0] ∧ askB c ids = true ∧ askB c others = true ∧ coins.length = 132 ∧ (atL c ids).length ≤ 132 ∧ (atL c others).length ≤ 132 ∧ a.length = 132 ∧ b.length = 132 ∧
      (∀ k, k < coins.length → twinA (520 : Nat) (V6.want (atL c ids) k) (V6.want (atL c others) k) (coins.getD k []) = .tu [V6.slV (twinAt 520 (atL c ids) (atL c others) coins k), .i .i64 0]) ∧
      sAskA c others (twins 520 (atL c ids) (atL c others) coins) = .tu [.ag [rowsV x], .ag [rowsV b], .i .i64 0]) := by
  rcases sask_form c ids coins with h | ⟨a, b, hA, h1, h2, h3, h4, h5, h6⟩
  · exact .inl h
  · rcases sask_form c others coins with ⟨e, he, hB⟩ | ⟨a', b', hB, g1, g2, g3, g4, g5, g6⟩
    · exact .inr (.inl ⟨a, b, e, he, hA, hB⟩)
    · have e := same_masks h6 g6 (by omega) (by omega)
      subst e
      obtain ⟨x, hx⟩ := hides_ask h6 g6 (by omega) (by omega) (by omega) (by omega) (by omega)
      refine .inr (.inr ⟨a, b, b', x, hA, hB, h1, g1, h2, h3, g3, h4, h5, fun k hk => ?_, ?_⟩)
      · obtain ⟨_, _, h, _⟩ := hides_at (h6 k hk) (g6 k hk) hk (by omega)
        exact h
      · rw [h2] at hx
        exact (sask_yes g1).trans hx
end Go.Abs.D2

/-! S7H -/
namespace Go.Abs.D2
open Go Go.Eng Go.Abs Go.Proofs 
set_option linter.unusedSimpArgs false in
set_option linter.unusedVariables false in
set_option maxHeartbeats 1000000 in
set_option maxRecDepth 10000 in
theorem law_head (c : Cas) (hx : c.x.length = 32) (ids : List Int) (coins : List (List UInt8)) (fill : UInt8) (hcn : coins.length ≤ maxLen) : Con Tryd.prog 6 [.ag (casL c), .fz ids.length (ids.map (A.i .i64)), .fz coins.length (coins.map V6.slV), u8 fill] (Ret (.b true)) := by
  refine enter Tryd.func6 rfl Tryd.ntmps6 (by kernel_rfl) (Nat.le_of_ble_eq_true rfl) fun w0 X0 hI => ?_
  refine at_seq ?_
  refine at_region ?_
  refine at_op rfl (n_boxA 4 rfl rfl rfl ?_)
  refine s1 (y_p rfl) rfl <| ?_
  refine at_nil ?_
  refine x_tn ?_
  refine at_seq ?_
  refine at_seq ?_
  refine at_region ?_
  refine at_op rfl (n_call false rfl (.nil) (sane_ok) pu (.inl rfl) rfl ?_)
  refine s1 (y_p rfl) rfl <| ?_
  refine at_nil ?_
  refine x_tn ?_
  refine at_else rfl ?_
  refine at_skip ?_
  refine x_tn ?_
  refine at_seq ?_
  refine at_seq ?_
  rcases hdc_cases c ids (V6.few coins 140) with hcs | hcs | hcs | hcs
  · skip
    refine at_region ?_
    refine s1 (y_loadA0 ti27 rfl rfl (cas_len hx)) rfl <| ?_
    refine at_op rfl (n_call false rfl (.cons (.pure pu) (.nil)) (Con.cast (sfew_ok c hx) (congrArg A.b hcs)) pu (.inl rfl) rfl ?_)
    refine s1 (y_p rfl) rfl <| s1 (y_p rfl) rfl <| g0 rfl rfl rfl rfl <| g0 rfl rfl rfl rfl <| g0 rfl rfl rfl rfl <| s1 (y_p rfl) rfl <| s1 (y_p rfl) rfl <| g0 rfl rfl rfl rfl <| g0 rfl rfl rfl rfl <| g0 rfl rfl rfl rfl <| ?_
    refine s1 (y_p rfl) rfl <| ?_
    refine at_nil ?_
    refine x_tn ?_
    refine at_then rfl ?_
    refine at_seq ?_
    refine at_region ?_
    refine s1 (y_p rfl) rfl <| ?_
    refine at_nil ?_
    refine x_tn ?_
    refine at_ret ?_
    refine x_tr ?_
    refine at_result (rs := [.tmp 8]) rfl (r_tmp rfl r_nil) ?_
    rfl
  · obtain ⟨hf, hi⟩ := hcs
    refine at_region ?_
    refine s1 (y_loadA0 ti27 rfl rfl (cas_len hx)) rfl <| ?_
    refine at_op rfl (n_call false rfl (.cons (.pure pu) (.nil)) (Con.cast (sfew_ok c hx) (congrArg A.b hf)) pu (.inl rfl) rfl ?_)
    refine s1 (y_p rfl) rfl <| s1 (y_p rfl) rfl <| g1 rfl rfl (y_p rfl) rfl <| g1 rfl rfl (y_len Tryd.underlying25 rfl rfl rfl) rfl <| g1 rfl rfl ((y_p rfl).v (v' := .b true) (congrArg A.b (decide_eq_true (by omega)))) rfl <| s1 (y_p rfl) rfl <| s1 (y_p rfl) rfl <| g0 rfl rfl rfl rfl <| g0 rfl rfl rfl rfl <| g0 rfl rfl rfl rfl <| ?_
    refine s1 (y_p rfl) rfl <| ?_
    refine at_nil ?_
    refine x_tn ?_
    refine at_then rfl ?_
    refine at_seq ?_
    refine at_region ?_
    refine s1 (y_p rfl) rfl <| ?_
    refine at_nil ?_
    refine x_tn ?_
    refine at_ret ?_
    refine x_tr ?_
    refine at_result (rs := [.tmp 8]) rfl (r_tmp rfl r_nil) ?_
    rfl
  · obtain ⟨hf, hi, hq⟩ := hcs
    refine at_region ?_
    refine s1 (y_loadA0 ti27 rfl rfl (cas_len hx)) rfl <| ?_
    refine at_op rfl (n_call false rfl (.cons (.pure pu) (.nil)) (Con.cast (sfew_ok c hx) (congrArg A.b hf)) pu (.inl rfl) rfl ?_)
    refine s1 (y_p rfl) rfl <| s1 (y_p rfl) rfl <| g1 rfl rfl (y_p rfl) rfl <| g1 rfl rfl (y_len Tryd.underlying25 rfl rfl rfl) rfl <| g1 rfl rfl ((y_p rfl).v (v' := .b false) (congrArg A.b (decide_eq_false (by omega)))) rfl <| s1 (y_p rfl) rfl <| s1 (y_p rfl) rfl <| g1 rfl rfl (y_p rfl) rfl <| ?_
    refine at_opg rfl rfl rfl (n_call false rfl (.cons (.pure pu) (.cons (.pure pu) (.nil))) (Con.cast (few36_ok coins 140 hcn) (congrArg A.b hq)) pu (.inl rfl) rfl ?_)
    refine g1 rfl rfl (y_p rfl) rfl <| s1 (y_p rfl) rfl <| ?_
    refine at_nil ?_
    refine x_tn ?_
    refine at_then rfl ?_
    refine at_seq ?_
    refine at_region ?_
    refine s1 (y_p rfl) rfl <| ?_
    refine at_nil ?_
    refine x_tn ?_
    refine at_ret ?_
    refine x_tr ?_
    refine at_result (rs := [.tmp 8]) rfl (r_tmp rfl r_nil) ?_
    rfl
  · obtain ⟨hf, hi, hq⟩ := hcs
    obtain ⟨hF20, _, _⟩ := fewC_spec hf
    refine at_region ?_
    refine s1 (y_loadA0 ti27 rfl rfl (cas_len hx)) rfl <| ?_
    refine at_op rfl (n_call false rfl (.cons (.pure pu) (.nil)) (Con.cast (sfew_ok c hx) (congrArg A.b hf)) pu (.inl rfl) rfl ?_)
    refine s1 (y_p rfl) rfl <| s1 (y_p rfl) rfl <| g1 rfl rfl (y_p rfl) rfl <| g1 rfl rfl (y_len Tryd.underlying25 rfl rfl rfl) rfl <| g1 rfl rfl ((y_p rfl).v (v' := .b false) (congrArg A.b (decide_eq_false (by omega)))) rfl <| s1 (y_p rfl) rfl <| s1 (y_p rfl) rfl <| g1 rfl rfl (y_p rfl) rfl <| ?_
    refine at_opg rfl rfl rfl (n_call false rfl (.cons (.pure pu) (.cons (.pure pu) (.nil))) (Con.cast (few36_ok coins 140 hcn) (congrArg A.b hq)) pu (.inl rfl) rfl ?_)
    refine g1 rfl rfl (y_p rfl) rfl <| s1 (y_p rfl) rfl <| ?_
    refine at_nil ?_
    refine x_tn ?_
    refine at_else rfl ?_
    refine at_skip ?_
    refine x_tn ?_
    refine at_seq ?_
    refine at_region ?_
    refine s1 (y_loadA0 ti27 rfl rfl (cas_len hx)) rfl <| s1 (y_p rfl) rfl <| ?_
    refine at_op rfl (n_call false rfl (.cons (.pure pu) (.cons (.pure pu) (.nil))) (shd_ok c hx fill (by omega)) pu (.inl rfl) rfl ?_)
    refine at_op rfl (n_alloc 9 rfl ti27 rfl rfl ?_)
    refine at_op rfl (n_storeA ti27 rfl rfl rfl (cas_len (c := headC c fill) hx) (by first | rfl | omega | (simp; done) | (simp [*]; done) | (simp; omega) | (simp [*]; omega) | (simp [D32.len, -List.length_flatten, *]; done) | (simp [D32.len, -List.length_flatten, *]; omega)) ?_)
    refine at_nil ?_
    refine x_tn ?_
    refine at_seq ?_
    rcases sask_form c ids coins with hcs | hcs
    · obtain ⟨e, he, hA⟩ := hcs
      refine at_region ?_
      refine s1 (y_loadA0 ti27 rfl rfl (cas_len hx)) rfl <| s1 (y_p rfl) rfl <| s1 (y_p rfl) rfl <| ?_
      refine at_op rfl (n_call false rfl (.cons (.pure pu) (.cons (.pure pu) (.cons (.pure pu) (.nil)))) (Con.cast (sask_ok c hx ids coins) hA) pu (.inl rfl) rfl ?_)
      refine s1 (y_p rfl) rfl <| s1 (y_p rfl) rfl <| s1 (y_p rfl) rfl <| s1 (y_p rfl) rfl <| ?_
      refine at_op rfl (n_alloc 10 rfl ti46 rfl rfl ?_)
      refine at_op rfl (n_alloc 11 rfl ti46 rfl rfl ?_)
      refine at_op rfl (n_storeA ti46 rfl rfl rfl (by first | rfl | omega | (simp; done) | (simp [*]; done) | (simp; omega) | (simp [*]; omega) | (simp [D32.len, -List.length_flatten, *]; done) | (simp [D32.len, -List.length_flatten, *]; omega)) (by first | rfl | omega | (simp; done) | (simp [*]; done) | (simp; omega) | (simp [*]; omega) | (simp [D32.len, -List.length_flatten, *]; done) | (simp [D32.len, -List.length_flatten, *]; omega)) ?_)
      refine at_op rfl (n_storeA ti46 rfl rfl rfl (by first | rfl | omega | (simp; done) | (simp [*]; done) | (simp; omega) | (simp [*]; omega) | (simp [D32.len, -List.length_flatten, *]; done) | (simp [D32.len, -List.length_flatten, *]; omega)) (by first | rfl | omega | (simp; done) | (simp [*]; done) | (simp; omega) | (simp [*]; omega) | (simp [D32.len, -List.length_flatten, *]; done) | (simp [D32.len, -List.length_flatten, *]; omega)) ?_)
      refine s1 (y_p rfl) rfl <| ?_
      refine at_nil ?_
      refine x_tn ?_
      refine at_seq ?_
      refine at_region ?_
      refine s1 (y_loadA0 ti27 rfl rfl (cas_len (c := headC c fill) hx)) rfl <| s1 (y_p rfl) rfl <| s1 (y_p rfl) rfl <| ?_
      refine at_op rfl (n_call false rfl (.cons (.pure pu) (.cons (.pure pu) (.cons (.pure pu) (.nil)))) (Con.cast (sask_ok (headC c fill) hx ids coins) ((sAskA_hd c fill ids coins).trans hA)) pu (.inl rfl) rfl ?_)
      refine s1 (y_p rfl) rfl <| s1 (y_p rfl) rfl <| s1 (y_p rfl) rfl <| s1 (y_p rfl) rfl <| ?_
      refine at_op rfl (n_alloc 13 rfl ti46 rfl rfl ?_)
      refine at_op rfl (n_alloc 14 rfl ti46 rfl rfl ?_)
      refine at_op rfl (n_storeA ti46 rfl rfl rfl (by first | rfl | omega | (simp; done) | (simp [*]; done) | (simp; omega) | (simp [*]; omega) | (simp [D32.len, -List.length_flatten, *]; done) | (simp [D32.len, -List.length_flatten, *]; omega)) (by first | rfl | omega | (simp; done) | (simp [*]; done) | (simp; omega) | (simp [*]; omega) | (simp [D32.len, -List.length_flatten, *]; done) | (simp [D32.len, -List.length_flatten, *]; omega)) ?_)
      refine at_op rfl (n_storeA ti46 rfl rfl rfl (by first | rfl | omega | (simp; done) | (simp [*]; done) | (simp; omega) | (simp [*]; omega) | (simp [D32.len, -List.length_flatten, *]; done) | (simp [D32.len, -List.length_flatten, *]; omega)) (by first | rfl | omega | (simp; done) | (simp [*]; done) | (simp; omega) | (simp [*]; omega) | (simp [D32.len, -List.length_flatten, *]; done) | (simp [D32.len, -List.length_flatten, *]; omega)) ?_)
      refine s1 (y_p rfl) rfl <| ?_
      refine at_nil ?_
      refine x_tn ?_
      refine at_seq ?_
      refine at_seq ?_
      refine at_region ?_
      refine s1 (y_fld Tryd.underlying46 rfl ti28 (by decide) rfl rfl) rfl <| s1 (y_load ti28 rfl rfl rfl) rfl <| s1 (y_fld Tryd.underlying46 rfl ti28 (by decide) rfl rfl) rfl <| s1 (y_load ti28 rfl rfl rfl) rfl <| ?_
      refine at_op rfl (n_call false rfl (.cons .nl (.cons .nl (.nil))) (Con.cast (same36_ok [] [] (by decide)) (congrArg A.b (beq_self_eq_true _))) pu (.inl rfl) rfl ?_)
      refine s1 (y_p rfl) rfl <| s1 (y_p rfl) rfl <| g1 rfl rfl (y_fld Tryd.underlying46 rfl ti28 (by decide) rfl rfl) rfl <| g1 rfl rfl (y_load ti28 rfl rfl rfl) rfl <| g1 rfl rfl (y_fld Tryd.underlying46 rfl ti28 (by decide) rfl rfl) rfl <| g1 rfl rfl (y_load ti28 rfl rfl rfl) rfl <| ?_
      refine at_opg rfl rfl rfl (n_call false rfl (.cons .nl (.cons .nl (.nil))) (Con.cast (same36_ok [] [] (by decide)) (congrArg A.b (beq_self_eq_true _))) pu (.inl rfl) rfl ?_)
      refine g1 rfl rfl (y_p rfl) rfl <| s1 (y_p rfl) rfl <| s1 (y_p rfl) rfl <| g1 rfl rfl (y_p rfl) rfl <| g1 rfl rfl (y_p rfl) rfl <| g1 rfl rfl ((y_p rfl).v (v' := .b false) (congrArg A.b (by simp))) rfl <| s1 (y_p rfl) rfl <| ?_
      refine at_nil ?_
      refine x_tn ?_
      refine at_else rfl ?_
      refine at_skip ?_
      refine x_tn ?_
      refine at_seq ?_
      refine at_seq ?_
      refine at_region ?_
      refine s1 (y_p rfl) rfl <| s1 (y_len Tryd.underlying25 rfl rfl rfl) rfl <| s1 ((y_p rfl).v (v' := .i .i64 0) rfl) rfl <| ?_
      refine at_nil ?_
      refine x_tn ?_
      refine at_block ?_
      refine at_loop (ι := Nat) (fun k => [(4, .p 4 0), (9, .p 9 0), (75, .fz ids.length (ids.map (A.i .i64))), (76, nJ ids.length), (77, nJ k)]) (fun k => ⟨[(4, some (casL c)), (9, some (casL (headC c fill)))]⟩) (fun k => k ≤ ids.length) (fun k => ids.length - k) ?_ ?_
      · exact at_ex (0) (Nat.zero_le _) [(4, some 4), (9, some 9)] hI rfl rfl ⟨⟨_, rfl, .p rfl⟩, ⟨_, rfl, .p rfl⟩, ⟨_, rfl, .pure pu⟩, ⟨_, rfl, .pure pu⟩, ⟨_, rfl, .pure pu⟩, trivial⟩ ⟨.inr ⟨_, _, rfl, rfl, .pure pul⟩, .inr ⟨_, _, rfl, rfl, .pure pul⟩, trivial⟩
      rintro k hk
      refine at_seq ?_
      refine at_region ?_
      refine s1 (y_p rfl) rfl <| ?_
      refine at_nil ?_
      refine x_tn ?_
      refine at_seq ?_
      refine at_cond rfl (fun hc78 => ?_) (fun hc78 => ?_)
      · have h78 : k < ids.length := by have := of_decide_eq_true hc78; omega
        obtain ⟨q, hq⟩ : ∃ q, ids[k]? = some q := ⟨_, List.getElem?_eq_getElem h78⟩
        refine at_skip ?_
        refine x_tn ?_
        refine at_seq ?_
        refine at_block ?_
        refine at_seq ?_
        refine at_region ?_
        refine s1 (y_ixf k Tryd.underlying25 ti3 rfl rfl rfl (by omega) rfl) rfl <| s1 (y_load ti3 rfl rfl (getI4 hq)) rfl <| s1 (y_p rfl) rfl <| ?_
        refine at_nil ?_
        refine x_tn ?_
        refine at_seq ?_
        rcases whr_form c q with hcs | hcs
        · have hW := hcs
          refine at_region ?_
          refine s1 (y_loadA0 ti27 rfl rfl (cas_len hx)) rfl <| s1 (y_p rfl) rfl <| ?_
          refine at_op rfl (n_call false rfl (.cons (.pure pu) (.cons (.pure pu) (.nil))) (Con.cast (swhere_ok c hx q) hW) pu (.inl rfl) rfl ?_)
          refine s1 (y_p rfl) rfl <| s1 (y_p rfl) rfl <| s1 (y_p rfl) rfl <| s1 (y_p rfl) rfl <| s1 (y_p rfl) rfl <| ?_
          refine at_nil ?_
          refine x_tn ?_
          refine at_seq ?_
          refine at_region ?_
          refine s1 (y_loadA0 ti27 rfl rfl (cas_len (c := headC c fill) hx)) rfl <| s1 (y_p rfl) rfl <| ?_
          refine at_op rfl (n_call false rfl (.cons (.pure pu) (.cons (.pure pu) (.nil))) (Con.cast (swhere_ok (headC c fill) hx q) ((whereA_hd c fill q).trans hW)) pu (.inl rfl) rfl ?_)
          refine s1 (y_p rfl) rfl <| s1 (y_p rfl) rfl <| s1 (y_p rfl) rfl <| s1 (y_p rfl) rfl <| s1 (y_p rfl) rfl <| ?_
          refine at_nil ?_
          refine x_tn ?_
          refine at_seq ?_
          refine at_region ?_
          refine s1 (y_p rfl) rfl <| s1 (y_p rfl) rfl <| ?_
          refine at_op rfl (n_call false rfl (.cons .nl (.cons .nl (.nil))) (Con.cast (sameI_ok [] [] (by decide)) (congrArg A.b (beq_self_eq_true _))) pu (.inl rfl) rfl ?_)
          refine s1 (y_p rfl) rfl <| s1 (y_p rfl) rfl <| g1 rfl rfl (y_p rfl) rfl <| g1 rfl rfl (y_p rfl) rfl <| g1 rfl rfl ((y_p rfl).v (v' := .b false) (congrArg A.b (by simp))) rfl <| s1 (y_p rfl) rfl <| ?_
          refine at_nil ?_
          refine x_tn ?_
          refine at_else rfl ?_
          refine at_skip ?_
          refine x_bn ?_
          refine x_tn ?_
          refine at_region ?_
          refine s1 (addN _ 1 rfl rfl rfl rfl (by omega)) rfl <| s1 (y_p rfl) rfl <| ?_
          refine at_nil ?_
          exact at_end (k + 1) (by omega) (by omega) [(4, some 4), (9, some 9)] hI rfl rfl ⟨⟨_, rfl, .p rfl⟩, ⟨_, rfl, .p rfl⟩, ⟨_, rfl, .pure pu⟩, ⟨_, rfl, .pure pu⟩, ⟨_, rfl, .pure pu⟩, trivial⟩ ⟨.inr ⟨_, _, rfl, rfl, .pure pul⟩, .inr ⟨_, _, rfl, rfl, .pure pul⟩, trivial⟩
        · obtain ⟨W, hWl, hW⟩ := hcs
          refine at_region ?_
          refine s1 (y_loadA0 ti27 rfl rfl (cas_len hx)) rfl <| s1 (y_p rfl) rfl <| ?_
          refine at_op rfl (n_call false rfl (.cons (.pure pu) (.cons (.pure pu) (.nil))) (Con.cast (swhere_ok c hx q) hW) pu (.inl rfl) rfl ?_)
          refine s1 (y_p rfl) rfl <| s1 (y_p rfl) rfl <| s1 (y_p rfl) rfl <| s1 (y_p rfl) rfl <| s1 (y_p rfl) rfl <| ?_
          refine at_nil ?_
          refine x_tn ?_
          refine at_seq ?_
          refine at_region ?_
          refine s1 (y_loadA0 ti27 rfl rfl (cas_len (c := headC c fill) hx)) rfl <| s1 (y_p rfl) rfl <| ?_
          refine at_op rfl (n_call false rfl (.cons (.pure pu) (.cons (.pure pu) (.nil))) (Con.cast (swhere_ok (headC c fill) hx q) ((whereA_hd c fill q).trans hW)) pu (.inl rfl) rfl ?_)
          refine s1 (y_p rfl) rfl <| s1 (y_p rfl) rfl <| s1 (y_p rfl) rfl <| s1 (y_p rfl) rfl <| s1 (y_p rfl) rfl <| ?_
          refine at_nil ?_
          refine x_tn ?_
          refine at_seq ?_
          refine at_region ?_
          refine s1 (y_p rfl) rfl <| s1 (y_p rfl) rfl <| ?_
          refine at_op rfl (n_call false rfl (.cons (.pure pu) (.cons (.pure pu) (.nil))) (Con.cast (sameI_ok W W (by omega)) (congrArg A.b (beq_self_eq_true _))) pu (.inl rfl) rfl ?_)
          refine s1 (y_p rfl) rfl <| s1 (y_p rfl) rfl <| g1 rfl rfl (y_p rfl) rfl <| g1 rfl rfl (y_p rfl) rfl <| g1 rfl rfl ((y_p rfl).v (v' := .b false) (congrArg A.b (by simp))) rfl <| s1 (y_p rfl) rfl <| ?_
          refine at_nil ?_
          refine x_tn ?_
          refine at_else rfl ?_
          refine at_skip ?_
          refine x_bn ?_
          refine x_tn ?_
          refine at_region ?_
          refine s1 (addN _ 1 rfl rfl rfl rfl (by omega)) rfl <| s1 (y_p rfl) rfl <| ?_
          refine at_nil ?_
          exact at_end (k + 1) (by omega) (by omega) [(4, some 4), (9, some 9)] hI rfl rfl ⟨⟨_, rfl, .p rfl⟩, ⟨_, rfl, .p rfl⟩, ⟨_, rfl, .pure pu⟩, ⟨_, rfl, .pure pu⟩, ⟨_, rfl, .pure pu⟩, trivial⟩ ⟨.inr ⟨_, _, rfl, rfl, .pure pul⟩, .inr ⟨_, _, rfl, rfl, .pure pul⟩, trivial⟩
      · skip
        refine at_exit ?_
        refine x_te ?_
        refine x_te ?_
        refine x_be ?_
        refine x_tn ?_
        refine at_seq ?_
        refine at_region ?_
        refine s1 (y_p rfl) rfl <| ?_
        refine at_nil ?_
        refine x_tn ?_
        refine at_ret ?_
        refine at_result (rs := [.tmp 8]) rfl (r_tmp rfl r_nil) ?_
        rfl
    · obtain ⟨a, b, hA, _, _, _, hal, hbl, _⟩ := hcs
      have ham : a.length ≤ maxLen := by simp only [maxLen]; omega
      have hbm : b.length ≤ maxLen := by simp only [maxLen]; omega
      refine at_region ?_
      refine s1 (y_loadA0 ti27 rfl rfl (cas_len hx)) rfl <| s1 (y_p rfl) rfl <| s1 (y_p rfl) rfl <| ?_
      refine at_op rfl (n_call false rfl (.cons (.pure pu) (.cons (.pure pu) (.cons (.pure pu) (.nil)))) (Con.cast (sask_ok c hx ids coins) hA) pu (.inl rfl) rfl ?_)
      refine s1 (y_p rfl) rfl <| s1 (y_p rfl) rfl <| s1 (y_p rfl) rfl <| s1 (y_p rfl) rfl <| ?_
      refine at_op rfl (n_alloc 10 rfl ti46 rfl rfl ?_)
      refine at_op rfl (n_alloc 11 rfl ti46 rfl rfl ?_)
      refine at_op rfl (n_storeA ti46 rfl rfl rfl (by first | rfl | omega | (simp; done) | (simp [*]; done) | (simp; omega) | (simp [*]; omega) | (simp [D32.len, -List.length_flatten, *]; done) | (simp [D32.len, -List.length_flatten, *]; omega)) (by first | rfl | omega | (simp; done) | (simp [*]; done) | (simp; omega) | (simp [*]; omega) | (simp [D32.len, -List.length_flatten, *]; done) | (simp [D32.len, -List.length_flatten, *]; omega)) ?_)
      refine at_op rfl (n_storeA ti46 rfl rfl rfl (by first | rfl | omega | (simp; done) | (simp [*]; done) | (simp; omega) | (simp [*]; omega) | (simp [D32.len, -List.length_flatten, *]; done) | (simp [D32.len, -List.length_flatten, *]; omega)) (by first | rfl | omega | (simp; done) | (simp [*]; done) | (simp; omega) | (simp [*]; omega) | (simp [D32.len, -List.length_flatten, *]; done) | (simp [D32.len, -List.length_flatten, *]; omega)) ?_)
      refine s1 (y_p rfl) rfl <| ?_
      refine at_nil ?_
      refine x_tn ?_
      refine at_seq ?_
      refine at_region ?_
      refine s1 (y_loadA0 ti27 rfl rfl (cas_len (c := headC c fill) hx)) rfl <| s1 (y_p rfl) rfl <| s1 (y_p rfl) rfl <| ?_
      refine at_op rfl (n_call false rfl (.cons (.pure pu) (.cons (.pure pu) (.cons (.pure pu) (.nil)))) (Con.cast (sask_ok (headC c fill) hx ids coins) ((sAskA_hd c fill ids coins).trans hA)) pu (.inl rfl) rfl ?_)
      refine s1 (y_p rfl) rfl <| s1 (y_p rfl) rfl <| s1 (y_p rfl) rfl <| s1 (y_p rfl) rfl <| ?_
      refine at_op rfl (n_alloc 13 rfl ti46 rfl rfl ?_)
      refine at_op rfl (n_alloc 14 rfl ti46 rfl rfl ?_)
      refine at_op rfl (n_storeA ti46 rfl rfl rfl (by first | rfl | omega | (simp; done) | (simp [*]; done) | (simp; omega) | (simp [*]; omega) | (simp [D32.len, -List.length_flatten, *]; done) | (simp [D32.len, -List.length_flatten, *]; omega)) (by first | rfl | omega | (simp; done) | (simp [*]; done) | (simp; omega) | (simp [*]; omega) | (simp [D32.len, -List.length_flatten, *]; done) | (simp [D32.len, -List.length_flatten, *]; omega)) ?_)
      refine at_op rfl (n_storeA ti46 rfl rfl rfl (by first | rfl | omega | (simp; done) | (simp [*]; done) | (simp; omega) | (simp [*]; omega) | (simp [D32.len, -List.length_flatten, *]; done) | (simp [D32.len, -List.length_flatten, *]; omega)) (by first | rfl | omega | (simp; done) | (simp [*]; done) | (simp; omega) | (simp [*]; omega) | (simp [D32.len, -List.length_flatten, *]; done) | (simp [D32.len, -List.length_flatten, *]; omega)) ?_)
      refine s1 (y_p rfl) rfl <| ?_
      refine at_nil ?_
      refine x_tn ?_
      refine at_seq ?_
      refine at_seq ?_
      refine at_region ?_
      refine s1 (y_fld Tryd.underlying46 rfl ti28 (by decide) rfl rfl) rfl <| s1 (y_load ti28 rfl rfl rfl) rfl <| s1 (y_fld Tryd.underlying46 rfl ti28 (by decide) rfl rfl) rfl <| s1 (y_load ti28 rfl rfl rfl) rfl <| ?_
      refine at_op rfl (n_call false rfl (.cons (.pure pu) (.cons (.pure pu) (.nil))) (Con.cast (same36_ok a a ham) (congrArg A.b (beq_self_eq_true _))) pu (.inl rfl) rfl ?_)
      refine s1 (y_p rfl) rfl <| s1 (y_p rfl) rfl <| g1 rfl rfl (y_fld Tryd.underlying46 rfl ti28 (by decide) rfl rfl) rfl <| g1 rfl rfl (y_load ti28 rfl rfl rfl) rfl <| g1 rfl rfl (y_fld Tryd.underlying46 rfl ti28 (by decide) rfl rfl) rfl <| g1 rfl rfl (y_load ti28 rfl rfl rfl) rfl <| ?_
      refine at_opg rfl rfl rfl (n_call false rfl (.cons (.pure pu) (.cons (.pure pu) (.nil))) (Con.cast (same36_ok b b hbm) (congrArg A.b (beq_self_eq_true _))) pu (.inl rfl) rfl ?_)
      refine g1 rfl rfl (y_p rfl) rfl <| s1 (y_p rfl) rfl <| s1 (y_p rfl) rfl <| g1 rfl rfl (y_p rfl) rfl <| g1 rfl rfl (y_p rfl) rfl <| g1 rfl rfl ((y_p rfl).v (v' := .b false) (congrArg A.b (by simp))) rfl <| s1 (y_p rfl) rfl <| ?_
      refine at_nil ?_
      refine x_tn ?_
      refine at_else rfl ?_
      refine at_skip ?_
      refine x_tn ?_
      refine at_seq ?_
      refine at_seq ?_
      refine at_region ?_
      refine s1 (y_p rfl) rfl <| s1 (y_len Tryd.underlying25 rfl rfl rfl) rfl <| s1 ((y_p rfl).v (v' := .i .i64 0) rfl) rfl <| ?_
      refine at_nil ?_
      refine x_tn ?_
      refine at_block ?_
      refine at_loop (ι := Nat) (fun k => [(4, .p 4 0), (9, .p 9 0), (75, .fz ids.length (ids.map (A.i .i64))), (76, nJ ids.length), (77, nJ k)]) (fun k => ⟨[(4, some (casL c)), (9, some (casL (headC c fill)))]⟩) (fun k => k ≤ ids.length) (fun k => ids.length - k) ?_ ?_
      · exact at_ex (0) (Nat.zero_le _) [(4, some 4), (9, some 9)] hI rfl rfl ⟨⟨_, rfl, .p rfl⟩, ⟨_, rfl, .p rfl⟩, ⟨_, rfl, .pure pu⟩, ⟨_, rfl, .pure pu⟩, ⟨_, rfl, .pure pu⟩, trivial⟩ ⟨.inr ⟨_, _, rfl, rfl, .pure pul⟩, .inr ⟨_, _, rfl, rfl, .pure pul⟩, trivial⟩
      rintro k hk
      refine at_seq ?_
      refine at_region ?_
      refine s1 (y_p rfl) rfl <| ?_
      refine at_nil ?_
      refine x_tn ?_
      refine at_seq ?_
      refine at_cond rfl (fun hc78 => ?_) (fun hc78 => ?_)
      · have h78 : k < ids.length := by have := of_decide_eq_true hc78; omega
        obtain ⟨q, hq⟩ : ∃ q, ids[k]? = some q := ⟨_, List.getElem?_eq_getElem h78⟩
        refine at_skip ?_
        refine x_tn ?_
        refine at_seq ?_
        refine at_block ?_
        refine at_seq ?_
        refine at_region ?_
        refine s1 (y_ixf k Tryd.underlying25 ti3 rfl rfl rfl (by omega) rfl) rfl <| s1 (y_load ti3 rfl rfl (getI4 hq)) rfl <| s1 (y_p rfl) rfl <| ?_
        refine at_nil ?_
        refine x_tn ?_
        refine at_seq ?_
        rcases whr_form c q with hcs | hcs
        · have hW := hcs
          refine at_region ?_
          refine s1 (y_loadA0 ti27 rfl rfl (cas_len hx)) rfl <| s1 (y_p rfl) rfl <| ?_
          refine at_op rfl (n_call false rfl (.cons (.pure pu) (.cons (.pure pu) (.nil))) (Con.cast (swhere_ok c hx q) hW) pu (.inl rfl) rfl ?_)
          refine s1 (y_p rfl) rfl <| s1 (y_p rfl) rfl <| s1 (y_p rfl) rfl <| s1 (y_p rfl) rfl <| s1 (y_p rfl) rfl <| ?_
          refine at_nil ?_
          refine x_tn ?_
          refine at_seq ?_
          refine at_region ?_
          refine s1 (y_loadA0 ti27 rfl rfl (cas_len (c := headC c fill) hx)) rfl <| s1 (y_p rfl) rfl <| ?_
          refine at_op rfl (n_call false rfl (.cons (.pure pu) (.cons (.pure pu) (.nil))) (Con.cast (swhere_ok (headC c fill) hx q) ((whereA_hd c fill q).trans hW)) pu (.inl rfl) rfl ?_)
          refine s1 (y_p rfl) rfl <| s1 (y_p rfl) rfl <| s1 (y_p rfl) rfl <| s1 (y_p rfl) rfl <| s1 (y_p rfl) rfl <| ?_
          refine at_nil ?_
          refine x_tn ?_
          refine at_seq ?_
          refine at_region ?_
          refine s1 (y_p rfl) rfl <| s1 (y_p rfl) rfl <| ?_
          refine at_op rfl (n_call false rfl (.cons .nl (.cons .nl (.nil))) (Con.cast (sameI_ok [] [] (by decide)) (congrArg A.b (beq_self_eq_true _))) pu (.inl rfl) rfl ?_)
          refine s1 (y_p rfl) rfl <| s1 (y_p rfl) rfl <| g1 rfl rfl (y_p rfl) rfl <| g1 rfl rfl (y_p rfl) rfl <| g1 rfl rfl ((y_p rfl).v (v' := .b false) (congrArg A.b (by simp))) rfl <| s1 (y_p rfl) rfl <| ?_
          refine at_nil ?_
          refine x_tn ?_
          refine at_else rfl ?_
          refine at_skip ?_
          refine x_bn ?_
          refine x_tn ?_
          refine at_region ?_
          refine s1 (addN _ 1 rfl rfl rfl rfl (by omega)) rfl <| s1 (y_p rfl) rfl <| ?_
          refine at_nil ?_
          exact at_end (k + 1) (by omega) (by omega) [(4, some 4), (9, some 9)] hI rfl rfl ⟨⟨_, rfl, .p rfl⟩, ⟨_, rfl, .p rfl⟩, ⟨_, rfl, .pure pu⟩, ⟨_, rfl, .pure pu⟩, ⟨_, rfl, .pure pu⟩, trivial⟩ ⟨.inr ⟨_, _, rfl, rfl, .pure pul⟩, .inr ⟨_, _, rfl, rfl, .pure pul⟩, trivial⟩
        · obtain ⟨W, hWl, hW⟩ := hcs
          refine at_region ?_
          refine s1 (y_loadA0 ti27 rfl rfl (cas_len hx)) rfl <| s1 (y_p rfl) rfl <| ?_
          refine at_op rfl (n_call false rfl (.cons (.pure pu) (.cons (.pure pu) (.nil))) (Con.cast (swhere_ok c hx q) hW) pu (.inl rfl) rfl ?_)
          refine s1 (y_p rfl) rfl <| s1 (y_p rfl) rfl <| s1 (y_p rfl) rfl <| s1 (y_p rfl) rfl <| s1 (y_p rfl) rfl <| ?_
          refine at_nil ?_
          refine x_tn ?_
          refine at_seq ?_
          refine at_region ?_
          refine s1 (y_loadA0 ti27 rfl rfl (cas_len (c := headC c fill) hx)) rfl <| s1 (y_p rfl) rfl <| ?_
          refine at_op rfl (n_call false rfl (.cons (.pure pu) (.cons (.pure pu) (.nil))) (Con.cast (swhere_ok (headC c fill) hx q) ((whereA_hd c fill q).trans hW)) pu (.inl rfl) rfl ?_)
          refine s1 (y_p rfl) rfl <| s1 (y_p rfl) rfl <| s1 (y_p rfl) rfl <| s1 (y_p rfl) rfl <| s1 (y_p rfl) rfl <| ?_
          refine at_nil ?_
          refine x_tn ?_
          refine at_seq ?_
          refine at_region ?_
          refine s1 (y_p rfl) rfl <| s1 (y_p rfl) rfl <| ?_
          refine at_op rfl (n_call false rfl (.cons (.pure pu) (.cons (.pure pu) (.nil))) (Con.cast (sameI_ok W W (by omega)) (congrArg A.b (beq_self_eq_true _))) pu (.inl rfl) rfl ?_)
          refine s1 (y_p rfl) rfl <| s1 (y_p rfl) rfl <| g1 rfl rfl (y_p rfl) rfl <| g1 rfl rfl (y_p rfl) rfl <| g1 rfl rfl ((y_p rfl).v (v' := .b false) (congrArg A.b (by simp))) rfl <| s1 (y_p rfl) rfl <| ?_
          refine at_nil ?_
          refine x_tn ?_
          refine at_else rfl ?_
          refine at_skip ?_
          refine x_bn ?_
          refine x_tn ?_
          refine at_region ?_
          refine s1 (addN _ 1 rfl rfl rfl rfl (by omega)) rfl <| s1 (y_p rfl) rfl <| ?_
          refine at_nil ?_
          exact at_end (k + 1) (by omega) (by omega) [(4, some 4), (9, some 9)] hI rfl rfl ⟨⟨_, rfl, .p rfl⟩, ⟨_, rfl, .p rfl⟩, ⟨_, rfl, .pure pu⟩, ⟨_, rfl, .pure pu⟩, ⟨_, rfl, .pure pu⟩, trivial⟩ ⟨.inr ⟨_, _, rfl, rfl, .pure pul⟩, .inr ⟨_, _, rfl, rfl, .pure pul⟩, trivial⟩
      · skip
        refine at_exit ?_
        refine x_te ?_
        refine x_te ?_
        refine x_be ?_
        refine x_tn ?_
        refine at_seq ?_
        refine at_region ?_
        refine s1 (y_p rfl) rfl <| ?_
        refine at_nil ?_
        refine x_tn ?_
        refine at_ret ?_
        refine at_result (rs := [.tmp 8]) rfl (r_tmp rfl r_nil) ?_
        rfl
set_option linter.unusedSimpArgs false in
set_option linter.unusedVariables false in
set_option maxHeartbeats 1000000 in
set_option maxRecDepth 10000 in
theorem lplaces_ok (c : Cas) (hx : c.x.length = 32) (ids : List Int) (hk : askB c ids = true) : Con Tryd.prog 30 [.ag (casL c), .fz ids.length (ids.map (A.i .i64))] (Ret (intsA (padL c ids (132 - (atL c ids).length)))) := by
  refine enter Tryd.func30 rfl Tryd.ntmps30 (by kernel_rfl) (Nat.le_of_ble_eq_true rfl) fun w0 X0 hI => ?_
  refine at_seq ?_
  obtain ⟨hh, hi4, hall⟩ := ask_all hk
  have hal := len_atL c ids
  refine at_region ?_
  refine at_op rfl (n_boxA 2 rfl rfl rfl ?_)
  refine s1 (y_p rfl) rfl <| ?_
  refine at_nil ?_
  refine x_tn ?_
  refine at_seq ?_
  refine at_seq ?_
  refine at_region ?_
  refine s1 (y_p rfl) rfl <| s1 (y_len Tryd.underlying25 rfl rfl rfl) rfl <| s1 ((y_p rfl).v (v' := .i .i64 0) rfl) rfl <| ?_
  refine at_nil ?_
  refine x_tn ?_
  refine at_block ?_
  refine at_loop (ι := Nat) (fun k => [(2, .p 2 0), (4, .sl 123 1 0 (atL c (ids.take k)).length), (9, .fz ids.length (ids.map (A.i .i64))), (10, nJ ids.length), (11, nJ k)]) (fun k => ⟨[(2, some (casL c)), (123, some ((atL c (ids.take k)).map iA))]⟩) (fun k => k ≤ ids.length) (fun k => ids.length - k) ?_ ?_
  · exact at_ex (0) (Nat.zero_le _) [(2, some 2), (123, none)] hI rfl rfl ⟨⟨_, rfl, .p rfl⟩, ⟨_, rfl, .nl rfl⟩, ⟨_, rfl, .pure pu⟩, ⟨_, rfl, .pure pu⟩, ⟨_, rfl, .pure pu⟩, trivial⟩ ⟨.inr ⟨_, _, rfl, rfl, .pure pul⟩, .inl ⟨rfl, rfl⟩, trivial⟩
  rintro k hk1
  have hla := len_atL c (ids.take k)
  rw [List.length_take] at hla
  refine at_seq ?_
  refine at_region ?_
  refine s1 (y_p rfl) rfl <| ?_
  refine at_nil ?_
  refine x_tn ?_
  refine at_seq ?_
  refine at_cond rfl (fun hc12 => ?_) (fun hc12 => ?_)
  · have h12 : k < ids.length := by have := of_decide_eq_true hc12; omega
    obtain ⟨q, hq⟩ : ∃ q, ids[k]? = some q := ⟨_, List.getElem?_eq_getElem h12⟩
    have hnb := hall q (List.mem_of_getElem? hq)
    obtain ⟨j, rfl, hj⟩ := num_nat hnb
    have hq0 := hq
    have hnx := atL_next (c := c) hq
    rw [Int.toNat_natCast] at hnx
    have hnl : (atL c (ids.take k)).length + 33 = (atL c (ids.take (k + 1))).length := by rw [← hnx, List.length_append, len_whereL]
    refine at_skip ?_
    refine x_tn ?_
    refine at_seq ?_
    refine at_block ?_
    refine at_seq ?_
    refine at_region ?_
    refine s1 (y_ixf k Tryd.underlying25 ti3 rfl rfl rfl (by omega) rfl) rfl <| s1 (y_load ti3 rfl rfl (getI4 hq)) rfl <| s1 (y_p rfl) rfl <| ?_
    refine at_nil ?_
    refine x_tn ?_
    refine at_seq ?_
    refine at_region ?_
    refine s1 (y_loadA0 ti27 rfl rfl (cas_len hx)) rfl <| s1 (y_p rfl) rfl <| ?_
    refine at_op rfl (n_call false rfl (.cons (.pure pu) (.cons (.pure pu) (.nil))) (Con.cast (swhere_ok c hx (j : Int)) (where_yes hh hnb)) pu (.inl rfl) rfl ?_)
    refine s1 (y_p rfl) rfl <| s1 (y_p rfl) rfl <| s1 (y_p rfl) rfl <| s1 (y_p rfl) rfl <| s1 (y_p rfl) rfl <| ?_
    refine at_nil ?_
    refine x_tn ?_
    refine at_region ?_
    refine s1 (y_p rfl) rfl <| s1 (y_p rfl) rfl <| ?_
    refine at_op rfl (n_app 23 rfl Tryd.underlying25 ti3 rfl (.sl rfl (by simp)) rfl rfl (by simp) (by rw [len_whereL]; simp only [maxLen]; omega) (by rw [len_whereL]; omega) rfl (by rw [← List.map_append, hnx]) rfl ?_)
    refine s1 (y_p rfl) rfl <| ?_
    refine at_nil ?_
    refine x_bn ?_
    refine x_tn ?_
    refine at_region ?_
    refine s1 (addN _ 1 rfl rfl rfl rfl (by omega)) rfl <| s1 (y_p rfl) rfl <| ?_
    refine at_nil ?_
    exact at_end (k + 1) (by omega) (by omega) [(2, some 2), (123, some 23)] hI rfl rfl ⟨⟨_, rfl, .p rfl⟩, ⟨_, rfl, .sl rfl (by first | rfl | omega | (simp; done) | (simp [*]; done) | (simp; omega) | (simp [*]; omega) | (simp [D32.len, -List.length_flatten, *]; done) | (simp [D32.len, -List.length_flatten, *]; omega))⟩, ⟨_, rfl, .pure pu⟩, ⟨_, rfl, .pure pu⟩, ⟨_, rfl, .pure pu⟩, trivial⟩ ⟨.inr ⟨_, _, rfl, rfl, .pure pul⟩, .inr ⟨_, _, rfl, rfl, .pure pul⟩, trivial⟩
  · obtain rfl : k = ids.length := by have := of_decide_eq_false hc12; omega
    refine at_exit ?_
    refine x_te ?_
    refine x_te ?_
    refine x_be ?_
    refine x_tn ?_
    refine at_seq ?_
    refine at_block ?_
    refine at_loop (ι := Nat) (fun r => [(4, .sl 130 1 0 (padL c ids r).length)]) (fun r => ⟨[(130, some ((padL c ids r).map iA))]⟩) (fun r => (atL c ids).length + r ≤ 132) (fun r => 132 - r) ?_ ?_
    · skip
      have hp0 : (padL c ids 0).length = (atL c (ids.take ids.length)).length := by rw [len_padL, List.take_length]; rfl
      exact at_ex (0) (by omega) [(130, some 123)] hI rfl rfl ⟨⟨_, rfl, .sl rfl (by first | rfl | omega | (simp; done) | (simp [*]; done) | (simp; omega) | (simp [*]; omega) | (simp [D32.len, -List.length_flatten, *]; done) | (simp [D32.len, -List.length_flatten, *]; omega))⟩, trivial⟩ ⟨.inr ⟨_, _, rfl, rfl, .of (by rw [padL, List.take_length]; simp) (.pure pul)⟩, trivial⟩
    rintro r hr
    have hpl := len_padL c ids r
    have hpl2 := len_padL c ids (r + 1)
    refine at_seq ?_
    refine at_seq ?_
    refine at_region ?_
    refine s1 (y_p rfl) rfl <| s1 (y_len Tryd.underlying25 rfl rfl rfl) rfl <| s1 (y_p rfl) rfl <| ?_
    refine at_nil ?_
    refine x_tn ?_
    refine at_cond rfl (fun hc27 => ?_) (fun hc27 => ?_)
    · have h27 : (padL c ids r).length < 132 := by have := of_decide_eq_true hc27; omega
      refine at_skip ?_
      refine x_tn ?_
      refine at_block ?_
      refine at_region ?_
      refine s1 (y_p rfl) rfl <| ?_
      refine at_op rfl (n_bs1 29 rfl Tryd.underlying25 ti3 rfl rfl rfl rfl rfl ?_)
      refine at_op rfl (n_app 30 rfl Tryd.underlying25 ti3 rfl (.sl rfl (by simp)) rfl (SM_full rfl (by first | rfl | omega | (simp; done) | (simp [*]; done) | (simp; omega) | (simp [*]; omega) | (simp [D32.len, -List.length_flatten, *]; done) | (simp [D32.len, -List.length_flatten, *]; omega))) (by simp) (by simp only [maxLen]; omega) (by omega) rfl (pad_s c ids r) rfl ?_)
      refine s1 (y_p rfl) rfl <| ?_
      refine at_nil ?_
      refine x_bn ?_
      exact at_end (r + 1) (by omega) (by omega) [(130, some 30)] hI rfl rfl ⟨⟨_, rfl, .sl rfl (by first | rfl | omega | (simp; done) | (simp [*]; done) | (simp; omega) | (simp [*]; omega) | (simp [D32.len, -List.length_flatten, *]; done) | (simp [D32.len, -List.length_flatten, *]; omega))⟩, trivial⟩ ⟨.inr ⟨_, _, rfl, rfl, .pure pul⟩, trivial⟩
    · obtain rfl : r = 132 - (atL c ids).length := by have := of_decide_eq_false hc27; omega
      refine at_exit ?_
      refine x_te ?_
      refine x_te ?_
      refine x_be ?_
      refine x_tn ?_
      refine at_seq ?_
      refine at_frz 4 rfl rfl pul (view_eq (by simp) rfl) ?_
      refine at_region ?_
      refine s1 (y_p rfl) rfl <| s1 (y_p rfl) rfl <| ?_
      refine at_nil ?_
      refine x_tn ?_
      refine at_ret ?_
      refine at_result (rs := [.tmp 4]) rfl (r_tmp rfl r_nil) ?_
      rfl
set_option linter.unusedSimpArgs false in
set_option linter.unusedVariables false in
set_option maxHeartbeats 1000000 in
set_option maxRecDepth 10000 in
theorem law_private (c : Cas) (hx : c.x.length = 32) (ids others : List Int) (coins : List (List UInt8)) (hcn : coins.length ≤ maxLen) : Con Tryd.prog 7 [.ag (casL c), .fz ids.length (ids.map (A.i .i64)), .fz others.length (others.map (A.i .i64)), .fz coins.length (coins.map V6.slV)] (Ret (.b true)) := by
  refine enter Tryd.func7 rfl Tryd.ntmps7 (by kernel_rfl) (Nat.le_of_ble_eq_true rfl) fun w0 X0 hI => ?_
  refine at_seq ?_
  refine at_region ?_
  refine at_op rfl (n_boxA 4 rfl rfl rfl ?_)
  refine s1 (y_p rfl) rfl <| ?_
  refine at_nil ?_
  refine x_tn ?_
  refine at_seq ?_
  refine at_seq ?_
  refine at_region ?_
  refine at_op rfl (n_call false rfl (.nil) (sane_ok) pu (.inl rfl) rfl ?_)
  refine s1 (y_p rfl) rfl <| ?_
  refine at_nil ?_
  refine x_tn ?_
  refine at_else rfl ?_
  refine at_skip ?_
  refine x_tn ?_
  refine at_seq ?_
  refine at_seq ?_
  rcases pr_cases c ids others (V6.few coins 140) with hcs | hcs | hcs | hcs | hcs
  · skip
    refine at_region ?_
    refine s1 (y_loadA0 ti27 rfl rfl (cas_len hx)) rfl <| ?_
    refine at_op rfl (n_call false rfl (.cons (.pure pu) (.nil)) (Con.cast (sfew_ok c hx) (congrArg A.b hcs)) pu (.inl rfl) rfl ?_)
    refine s1 (y_p rfl) rfl <| s1 (y_p rfl) rfl <| g0 rfl rfl rfl rfl <| g0 rfl rfl rfl rfl <| g0 rfl rfl rfl rfl <| s1 (y_p rfl) rfl <| s1 (y_p rfl) rfl <| g0 rfl rfl rfl rfl <| g0 rfl rfl rfl rfl <| g0 rfl rfl rfl rfl <| ?_
    refine s1 (y_p rfl) rfl <| s1 (y_p rfl) rfl <| g0 rfl rfl rfl rfl <| g0 rfl rfl rfl rfl <| g0 rfl rfl rfl rfl <| s1 (y_p rfl) rfl <| ?_
    refine at_nil ?_
    refine x_tn ?_
    refine at_then rfl ?_
    refine at_seq ?_
    refine at_region ?_
    refine s1 (y_p rfl) rfl <| ?_
    refine at_nil ?_
    refine x_tn ?_
    refine at_ret ?_
    refine x_tr ?_
    refine at_result (rs := [.tmp 8]) rfl (r_tmp rfl r_nil) ?_
    rfl
  · obtain ⟨hf, hi⟩ := hcs
    refine at_region ?_
    refine s1 (y_loadA0 ti27 rfl rfl (cas_len hx)) rfl <| ?_
    refine at_op rfl (n_call false rfl (.cons (.pure pu) (.nil)) (Con.cast (sfew_ok c hx) (congrArg A.b hf)) pu (.inl rfl) rfl ?_)
    refine s1 (y_p rfl) rfl <| s1 (y_p rfl) rfl <| g1 rfl rfl (y_p rfl) rfl <| g1 rfl rfl (y_len Tryd.underlying25 rfl rfl rfl) rfl <| g1 rfl rfl ((y_p rfl).v (v' := .b true) (congrArg A.b (decide_eq_true (by omega)))) rfl <| s1 (y_p rfl) rfl <| s1 (y_p rfl) rfl <| g0 rfl rfl rfl rfl <| g0 rfl rfl rfl rfl <| g0 rfl rfl rfl rfl <| ?_
    refine s1 (y_p rfl) rfl <| s1 (y_p rfl) rfl <| g0 rfl rfl rfl rfl <| g0 rfl rfl rfl rfl <| g0 rfl rfl rfl rfl <| s1 (y_p rfl) rfl <| ?_
    refine at_nil ?_
    refine x_tn ?_
    refine at_then rfl ?_
    refine at_seq ?_
    refine at_region ?_
    refine s1 (y_p rfl) rfl <| ?_
    refine at_nil ?_
    refine x_tn ?_
    refine at_ret ?_
    refine x_tr ?_
    refine at_result (rs := [.tmp 8]) rfl (r_tmp rfl r_nil) ?_
    rfl
  · obtain ⟨hf, hi, ho⟩ := hcs
    refine at_region ?_
    refine s1 (y_loadA0 ti27 rfl rfl (cas_len hx)) rfl <| ?_
    refine at_op rfl (n_call false rfl (.cons (.pure pu) (.nil)) (Con.cast (sfew_ok c hx) (congrArg A.b hf)) pu (.inl rfl) rfl ?_)
    refine s1 (y_p rfl) rfl <| s1 (y_p rfl) rfl <| g1 rfl rfl (y_p rfl) rfl <| g1 rfl rfl (y_len Tryd.underlying25 rfl rfl rfl) rfl <| g1 rfl rfl ((y_p rfl).v (v' := .b false) (congrArg A.b (decide_eq_false (by omega)))) rfl <| s1 (y_p rfl) rfl <| s1 (y_p rfl) rfl <| g1 rfl rfl (y_p rfl) rfl <| g1 rfl rfl (y_len Tryd.underlying25 rfl rfl rfl) rfl <| g1 rfl rfl ((y_p rfl).v (v' := .b true) (congrArg A.b (decide_eq_true (by omega)))) rfl <| ?_
    refine s1 (y_p rfl) rfl <| s1 (y_p rfl) rfl <| g0 rfl rfl rfl rfl <| g0 rfl rfl rfl rfl <| g0 rfl rfl rfl rfl <| s1 (y_p rfl) rfl <| ?_
    refine at_nil ?_
    refine x_tn ?_
    refine at_then rfl ?_
    refine at_seq ?_
    refine at_region ?_
    refine s1 (y_p rfl) rfl <| ?_
    refine at_nil ?_
    refine x_tn ?_
    refine at_ret ?_
    refine x_tr ?_
    refine at_result (rs := [.tmp 8]) rfl (r_tmp rfl r_nil) ?_
    rfl
  · obtain ⟨hf, hi, ho, hq⟩ := hcs
    refine at_region ?_
    refine s1 (y_loadA0 ti27 rfl rfl (cas_len hx)) rfl <| ?_
    refine at_op rfl (n_call false rfl (.cons (.pure pu) (.nil)) (Con.cast (sfew_ok c hx) (congrArg A.b hf)) pu (.inl rfl) rfl ?_)
    refine s1 (y_p rfl) rfl <| s1 (y_p rfl) rfl <| g1 rfl rfl (y_p rfl) rfl <| g1 rfl rfl (y_len Tryd.underlying25 rfl rfl rfl) rfl <| g1 rfl rfl ((y_p rfl).v (v' := .b false) (congrArg A.b (decide_eq_false (by omega)))) rfl <| s1 (y_p rfl) rfl <| s1 (y_p rfl) rfl <| g1 rfl rfl (y_p rfl) rfl <| g1 rfl rfl (y_len Tryd.underlying25 rfl rfl rfl) rfl <| g1 rfl rfl ((y_p rfl).v (v' := .b false) (congrArg A.b (decide_eq_false (by omega)))) rfl <| ?_
    refine s1 (y_p rfl) rfl <| s1 (y_p rfl) rfl <| g1 rfl rfl (y_p rfl) rfl <| ?_
    refine at_opg rfl rfl rfl (n_call false rfl (.cons (.pure pu) (.cons (.pure pu) (.nil))) (Con.cast (few36_ok coins 140 hcn) (congrArg A.b hq)) pu (.inl rfl) rfl ?_)
    refine g1 rfl rfl (y_p rfl) rfl <| s1 (y_p rfl) rfl <| ?_
    refine at_nil ?_
    refine x_tn ?_
    refine at_then rfl ?_
    refine at_seq ?_
    refine at_region ?_
    refine s1 (y_p rfl) rfl <| ?_
    refine at_nil ?_
    refine x_tn ?_
    refine at_ret ?_
    refine x_tr ?_
    refine at_result (rs := [.tmp 8]) rfl (r_tmp rfl r_nil) ?_
    rfl
  · obtain ⟨hf, hi, ho, hq⟩ := hcs
    refine at_region ?_
    refine s1 (y_loadA0 ti27 rfl rfl (cas_len hx)) rfl <| ?_
    refine at_op rfl (n_call false rfl (.cons (.pure pu) (.nil)) (Con.cast (sfew_ok c hx) (congrArg A.b hf)) pu (.inl rfl) rfl ?_)
    refine s1 (y_p rfl) rfl <| s1 (y_p rfl) rfl <| g1 rfl rfl (y_p rfl) rfl <| g1 rfl rfl (y_len Tryd.underlying25 rfl rfl rfl) rfl <| g1 rfl rfl ((y_p rfl).v (v' := .b false) (congrArg A.b (decide_eq_false (by omega)))) rfl <| s1 (y_p rfl) rfl <| s1 (y_p rfl) rfl <| g1 rfl rfl (y_p rfl) rfl <| g1 rfl rfl (y_len Tryd.underlying25 rfl rfl rfl) rfl <| g1 rfl rfl ((y_p rfl).v (v' := .b false) (congrArg A.b (decide_eq_false (by omega)))) rfl <| ?_
    refine s1 (y_p rfl) rfl <| s1 (y_p rfl) rfl <| g1 rfl rfl (y_p rfl) rfl <| ?_
    refine at_opg rfl rfl rfl (n_call false rfl (.cons (.pure pu) (.cons (.pure pu) (.nil))) (Con.cast (few36_ok coins 140 hcn) (congrArg A.b hq)) pu (.inl rfl) rfl ?_)
    refine g1 rfl rfl (y_p rfl) rfl <| s1 (y_p rfl) rfl <| ?_
    refine at_nil ?_
    refine x_tn ?_
    refine at_else rfl ?_
    refine at_skip ?_
    refine x_tn ?_
    refine at_seq ?_
    rcases priv_cases c ids others coins with hcs | hcs | hcs
    · obtain ⟨e, he, hA⟩ := hcs
      obtain ⟨v, hB, hv⟩ : ∃ v, sAskA c others coins = v ∧ True := ⟨_, rfl, trivial⟩
      have hsf := sask_form c others coins
      refine at_region ?_
      refine s1 (y_loadA0 ti27 rfl rfl (cas_len hx)) rfl <| s1 (y_p rfl) rfl <| s1 (y_p rfl) rfl <| ?_
      refine at_op rfl (n_call false rfl (.cons (.pure pu) (.cons (.pure pu) (.cons (.pure pu) (.nil)))) (Con.cast (sask_ok c hx ids coins) hA) pu (.inl rfl) rfl ?_)
      refine s1 (y_p rfl) rfl <| s1 (y_p rfl) rfl <| s1 (y_p rfl) rfl <| s1 (y_p rfl) rfl <| ?_
      refine at_op rfl (n_alloc 9 rfl ti46 rfl rfl ?_)
      refine at_op rfl (n_alloc 10 rfl ti46 rfl rfl ?_)
      refine at_op rfl (n_storeA ti46 rfl rfl rfl (by first | rfl | omega | (simp; done) | (simp [*]; done) | (simp; omega) | (simp [*]; omega) | (simp [D32.len, -List.length_flatten, *]; done) | (simp [D32.len, -List.length_flatten, *]; omega)) (by first | rfl | omega | (simp; done) | (simp [*]; done) | (simp; omega) | (simp [*]; omega) | (simp [D32.len, -List.length_flatten, *]; done) | (simp [D32.len, -List.length_flatten, *]; omega)) ?_)
      refine at_op rfl (n_storeA ti46 rfl rfl rfl (by first | rfl | omega | (simp; done) | (simp [*]; done) | (simp; omega) | (simp [*]; omega) | (simp [D32.len, -List.length_flatten, *]; done) | (simp [D32.len, -List.length_flatten, *]; omega)) (by first | rfl | omega | (simp; done) | (simp [*]; done) | (simp; omega) | (simp [*]; omega) | (simp [D32.len, -List.length_flatten, *]; done) | (simp [D32.len, -List.length_flatten, *]; omega)) ?_)
      refine s1 (y_p rfl) rfl <| ?_
      refine at_nil ?_
      refine x_tn ?_
      refine at_seq ?_
      rcases hsf with hcs | hcs
      · obtain ⟨e2, he2, hB2⟩ := hcs
        refine at_region ?_
        refine s1 (y_loadA0 ti27 rfl rfl (cas_len hx)) rfl <| s1 (y_p rfl) rfl <| s1 (y_p rfl) rfl <| ?_
        refine at_op rfl (n_call false rfl (.cons (.pure pu) (.cons (.pure pu) (.cons (.pure pu) (.nil)))) (Con.cast (sask_ok c hx others coins) hB2) pu (.inl rfl) rfl ?_)
        refine s1 (y_p rfl) rfl <| s1 (y_p rfl) rfl <| s1 (y_p rfl) rfl <| s1 (y_p rfl) rfl <| ?_
        refine at_op rfl (n_alloc 12 rfl ti46 rfl rfl ?_)
        refine at_op rfl (n_alloc 13 rfl ti46 rfl rfl ?_)
        refine at_op rfl (n_storeA ti46 rfl rfl rfl (by first | rfl | omega | (simp; done) | (simp [*]; done) | (simp; omega) | (simp [*]; omega) | (simp [D32.len, -List.length_flatten, *]; done) | (simp [D32.len, -List.length_flatten, *]; omega)) (by first | rfl | omega | (simp; done) | (simp [*]; done) | (simp; omega) | (simp [*]; omega) | (simp [D32.len, -List.length_flatten, *]; done) | (simp [D32.len, -List.length_flatten, *]; omega)) ?_)
        refine at_op rfl (n_storeA ti46 rfl rfl rfl (by first | rfl | omega | (simp; done) | (simp [*]; done) | (simp; omega) | (simp [*]; omega) | (simp [D32.len, -List.length_flatten, *]; done) | (simp [D32.len, -List.length_flatten, *]; omega)) (by first | rfl | omega | (simp; done) | (simp [*]; done) | (simp; omega) | (simp [*]; omega) | (simp [D32.len, -List.length_flatten, *]; done) | (simp [D32.len, -List.length_flatten, *]; omega)) ?_)
        refine s1 (y_p rfl) rfl <| ?_
        refine at_nil ?_
        refine x_tn ?_
        refine at_seq ?_
        refine at_seq ?_
        refine at_region ?_
        refine s1 (y_p rfl) rfl <| s1 ((y_p rfl).v (v' := .b true) (congrArg A.b (by simpa using he))) rfl <| s1 (y_p rfl) rfl <| g0 rfl rfl rfl rfl <| g0 rfl rfl rfl rfl <| s1 (y_p rfl) rfl <| ?_
        refine at_nil ?_
        refine x_tn ?_
        refine at_then rfl ?_
        refine at_seq ?_
        refine at_region ?_
        refine s1 (y_p rfl) rfl <| ?_
        refine at_nil ?_
        refine x_tn ?_
        refine at_ret ?_
        refine x_tr ?_
        refine at_result (rs := [.tmp 8]) rfl (r_tmp rfl r_nil) ?_
        rfl
      · obtain ⟨a2, b2, hB2, _⟩ := hcs
        refine at_region ?_
        refine s1 (y_loadA0 ti27 rfl rfl (cas_len hx)) rfl <| s1 (y_p rfl) rfl <| s1 (y_p rfl) rfl <| ?_
        refine at_op rfl (n_call false rfl (.cons (.pure pu) (.cons (.pure pu) (.cons (.pure pu) (.nil)))) (Con.cast (sask_ok c hx others coins) hB2) pu (.inl rfl) rfl ?_)
        refine s1 (y_p rfl) rfl <| s1 (y_p rfl) rfl <| s1 (y_p rfl) rfl <| s1 (y_p rfl) rfl <| ?_
        refine at_op rfl (n_alloc 12 rfl ti46 rfl rfl ?_)
        refine at_op rfl (n_alloc 13 rfl ti46 rfl rfl ?_)
        refine at_op rfl (n_storeA ti46 rfl rfl rfl (by first | rfl | omega | (simp; done) | (simp [*]; done) | (simp; omega) | (simp [*]; omega) | (simp [D32.len, -List.length_flatten, *]; done) | (simp [D32.len, -List.length_flatten, *]; omega)) (by first | rfl | omega | (simp; done) | (simp [*]; done) | (simp; omega) | (simp [*]; omega) | (simp [D32.len, -List.length_flatten, *]; done) | (simp [D32.len, -List.length_flatten, *]; omega)) ?_)
        refine at_op rfl (n_storeA ti46 rfl rfl rfl (by first | rfl | omega | (simp; done) | (simp [*]; done) | (simp; omega) | (simp [*]; omega) | (simp [D32.len, -List.length_flatten, *]; done) | (simp [D32.len, -List.length_flatten, *]; omega)) (by first | rfl | omega | (simp; done) | (simp [*]; done) | (simp; omega) | (simp [*]; omega) | (simp [D32.len, -List.length_flatten, *]; done) | (simp [D32.len, -List.length_flatten, *]; omega)) ?_)
        refine s1 (y_p rfl) rfl <| ?_
        refine at_nil ?_
        refine x_tn ?_
        refine at_seq ?_
        refine at_seq ?_
        refine at_region ?_
        refine s1 (y_p rfl) rfl <| s1 ((y_p rfl).v (v' := .b true) (congrArg A.b (by simpa using he))) rfl <| s1 (y_p rfl) rfl <| g0 rfl rfl rfl rfl <| g0 rfl rfl rfl rfl <| s1 (y_p rfl) rfl <| ?_
        refine at_nil ?_
        refine x_tn ?_
        refine at_then rfl ?_
        refine at_seq ?_
        refine at_region ?_
        refine s1 (y_p rfl) rfl <| ?_
        refine at_nil ?_
        refine x_tn ?_
        refine at_ret ?_
        refine x_tr ?_
        refine at_result (rs := [.tmp 8]) rfl (r_tmp rfl r_nil) ?_
        rfl
    · obtain ⟨a, b, e, he, hA, hB⟩ := hcs
      refine at_region ?_
      refine s1 (y_loadA0 ti27 rfl rfl (cas_len hx)) rfl <| s1 (y_p rfl) rfl <| s1 (y_p rfl) rfl <| ?_
      refine at_op rfl (n_call false rfl (.cons (.pure pu) (.cons (.pure pu) (.cons (.pure pu) (.nil)))) (Con.cast (sask_ok c hx ids coins) hA) pu (.inl rfl) rfl ?_)
      refine s1 (y_p rfl) rfl <| s1 (y_p rfl) rfl <| s1 (y_p rfl) rfl <| s1 (y_p rfl) rfl <| ?_
      refine at_op rfl (n_alloc 9 rfl ti46 rfl rfl ?_)
      refine at_op rfl (n_alloc 10 rfl ti46 rfl rfl ?_)
      refine at_op rfl (n_storeA ti46 rfl rfl rfl (by first | rfl | omega | (simp; done) | (simp [*]; done) | (simp; omega) | (simp [*]; omega) | (simp [D32.len, -List.length_flatten, *]; done) | (simp [D32.len, -List.length_flatten, *]; omega)) (by first | rfl | omega | (simp; done) | (simp [*]; done) | (simp; omega) | (simp [*]; omega) | (simp [D32.len, -List.length_flatten, *]; done) | (simp [D32.len, -List.length_flatten, *]; omega)) ?_)
      refine at_op rfl (n_storeA ti46 rfl rfl rfl (by first | rfl | omega | (simp; done) | (simp [*]; done) | (simp; omega) | (simp [*]; omega) | (simp [D32.len, -List.length_flatten, *]; done) | (simp [D32.len, -List.length_flatten, *]; omega)) (by first | rfl | omega | (simp; done) | (simp [*]; done) | (simp; omega) | (simp [*]; omega) | (simp [D32.len, -List.length_flatten, *]; done) | (simp [D32.len, -List.length_flatten, *]; omega)) ?_)
      refine s1 (y_p rfl) rfl <| ?_
      refine at_nil ?_
      refine x_tn ?_
      refine at_seq ?_
      refine at_region ?_
      refine s1 (y_loadA0 ti27 rfl rfl (cas_len hx)) rfl <| s1 (y_p rfl) rfl <| s1 (y_p rfl) rfl <| ?_
      refine at_op rfl (n_call false rfl (.cons (.pure pu) (.cons (.pure pu) (.cons (.pure pu) (.nil)))) (Con.cast (sask_ok c hx others coins) hB) pu (.inl rfl) rfl ?_)
      refine s1 (y_p rfl) rfl <| s1 (y_p rfl) rfl <| s1 (y_p rfl) rfl <| s1 (y_p rfl) rfl <| ?_
      refine at_op rfl (n_alloc 12 rfl ti46 rfl rfl ?_)
      refine at_op rfl (n_alloc 13 rfl ti46 rfl rfl ?_)
      refine at_op rfl (n_storeA ti46 rfl rfl rfl (by first | rfl | omega | (simp; done) | (simp [*]; done) | (simp; omega) | (simp [*]; omega) | (simp [D32.len, -List.length_flatten, *]; done) | (simp [D32.len, -List.length_flatten, *]; omega)) (by first | rfl | omega | (simp; done) | (simp [*]; done) | (simp; omega) | (simp [*]; omega) | (simp [D32.len, -List.length_flatten, *]; done) | (simp [D32.len, -List.length_flatten, *]; omega)) ?_)
      refine at_op rfl (n_storeA ti46 rfl rfl rfl (by first | rfl | omega | (simp; done) | (simp [*]; done) | (simp; omega) | (simp [*]; omega) | (simp [D32.len, -List.length_flatten, *]; done) | (simp [D32.len, -List.length_flatten, *]; omega)) (by first | rfl | omega | (simp; done) | (simp [*]; done) | (simp; omega) | (simp [*]; omega) | (simp [D32.len, -List.length_flatten, *]; done) | (simp [D32.len, -List.length_flatten, *]; omega)) ?_)
      refine s1 (y_p rfl) rfl <| ?_
      refine at_nil ?_
      refine x_tn ?_
      refine at_seq ?_
      refine at_seq ?_
      refine at_region ?_
      refine s1 (y_p rfl) rfl <| s1 ((y_p rfl).v (v' := .b false) (rfl)) rfl <| s1 (y_p rfl) rfl <| g1 rfl rfl (y_p rfl) rfl <| g1 rfl rfl ((y_p rfl).v (v' := .b true) (congrArg A.b (by simpa using he))) rfl <| s1 (y_p rfl) rfl <| ?_
      refine at_nil ?_
      refine x_tn ?_
      refine at_then rfl ?_
      refine at_seq ?_
      refine at_region ?_
      refine s1 (y_p rfl) rfl <| ?_
      refine at_nil ?_
      refine x_tn ?_
      refine at_ret ?_
      refine x_tr ?_
      refine at_result (rs := [.tmp 8]) rfl (r_tmp rfl r_nil) ?_
      rfl
    · obtain ⟨a, b, b', x, hA, hB, hk1, hk2, hcl, hl1, hl2, hal, hbl, htw, hX⟩ := hcs
      have ham : a.length ≤ maxLen := by simp only [maxLen]; omega
      have hbm : b.length ≤ maxLen := by simp only [maxLen]; omega
      have hp1 := len_padL c ids (132 - (atL c ids).length)
      have hp2 := len_padL c others (132 - (atL c others).length)
      refine at_region ?_
      refine s1 (y_loadA0 ti27 rfl rfl (cas_len hx)) rfl <| s1 (y_p rfl) rfl <| s1 (y_p rfl) rfl <| ?_
      refine at_op rfl (n_call false rfl (.cons (.pure pu) (.cons (.pure pu) (.cons (.pure pu) (.nil)))) (Con.cast (sask_ok c hx ids coins) hA) pu (.inl rfl) rfl ?_)
      refine s1 (y_p rfl) rfl <| s1 (y_p rfl) rfl <| s1 (y_p rfl) rfl <| s1 (y_p rfl) rfl <| ?_
      refine at_op rfl (n_alloc 9 rfl ti46 rfl rfl ?_)
      refine at_op rfl (n_alloc 10 rfl ti46 rfl rfl ?_)
      refine at_op rfl (n_storeA ti46 rfl rfl rfl (by first | rfl | omega | (simp; done) | (simp [*]; done) | (simp; omega) | (simp [*]; omega) | (simp [D32.len, -List.length_flatten, *]; done) | (simp [D32.len, -List.length_flatten, *]; omega)) (by first | rfl | omega | (simp; done) | (simp [*]; done) | (simp; omega) | (simp [*]; omega) | (simp [D32.len, -List.length_flatten, *]; done) | (simp [D32.len, -List.length_flatten, *]; omega)) ?_)
      refine at_op rfl (n_storeA ti46 rfl rfl rfl (by first | rfl | omega | (simp; done) | (simp [*]; done) | (simp; omega) | (simp [*]; omega) | (simp [D32.len, -List.length_flatten, *]; done) | (simp [D32.len, -List.length_flatten, *]; omega)) (by first | rfl | omega | (simp; done) | (simp [*]; done) | (simp; omega) | (simp [*]; omega) | (simp [D32.len, -List.length_flatten, *]; done) | (simp [D32.len, -List.length_flatten, *]; omega)) ?_)
      refine s1 (y_p rfl) rfl <| ?_
      refine at_nil ?_
      refine x_tn ?_
      refine at_seq ?_
      refine at_region ?_
      refine s1 (y_loadA0 ti27 rfl rfl (cas_len hx)) rfl <| s1 (y_p rfl) rfl <| s1 (y_p rfl) rfl <| ?_
      refine at_op rfl (n_call false rfl (.cons (.pure pu) (.cons (.pure pu) (.cons (.pure pu) (.nil)))) (Con.cast (sask_ok c hx others coins) hB) pu (.inl rfl) rfl ?_)
      refine s1 (y_p rfl) rfl <| s1 (y_p rfl) rfl <| s1 (y_p rfl) rfl <| s1 (y_p rfl) rfl <| ?_
      refine at_op rfl (n_alloc 12 rfl ti46 rfl rfl ?_)
      refine at_op rfl (n_alloc 13 rfl ti46 rfl rfl ?_)
      refine at_op rfl (n_storeA ti46 rfl rfl rfl (by first | rfl | omega | (simp; done) | (simp [*]; done) | (simp; omega) | (simp [*]; omega) | (simp [D32.len, -List.length_flatten, *]; done) | (simp [D32.len, -List.length_flatten, *]; omega)) (by first | rfl | omega | (simp; done) | (simp [*]; done) | (simp; omega) | (simp [*]; omega) | (simp [D32.len, -List.length_flatten, *]; done) | (simp [D32.len, -List.length_flatten, *]; omega)) ?_)
      refine at_op rfl (n_storeA ti46 rfl rfl rfl (by first | rfl | omega | (simp; done) | (simp [*]; done) | (simp; omega) | (simp [*]; omega) | (simp [D32.len, -List.length_flatten, *]; done) | (simp [D32.len, -List.length_flatten, *]; omega)) (by first | rfl | omega | (simp; done) | (simp [*]; done) | (simp; omega) | (simp [*]; omega) | (simp [D32.len, -List.length_flatten, *]; done) | (simp [D32.len, -List.length_flatten, *]; omega)) ?_)
      refine s1 (y_p rfl) rfl <| ?_
      refine at_nil ?_
      refine x_tn ?_
      refine at_seq ?_
      refine at_seq ?_
      refine at_region ?_
      refine s1 (y_p rfl) rfl <| s1 ((y_p rfl).v (v' := .b false) (rfl)) rfl <| s1 (y_p rfl) rfl <| g1 rfl rfl (y_p rfl) rfl <| g1 rfl rfl ((y_p rfl).v (v' := .b false) (rfl)) rfl <| s1 (y_p rfl) rfl <| ?_
      refine at_nil ?_
      refine x_tn ?_
      refine at_else rfl ?_
      refine at_skip ?_
      refine x_tn ?_
      refine at_seq ?_
      refine at_seq ?_
      refine at_region ?_
      refine s1 (y_fld Tryd.underlying46 rfl ti28 (by decide) rfl rfl) rfl <| s1 (y_load ti28 rfl rfl rfl) rfl <| s1 (y_len Tryd.underlying28 rfl rfl rfl) rfl <| s1 ((y_p rfl).v (v' := .b false) (congrArg A.b (by simp [hal]))) rfl <| s1 (y_p rfl) rfl <| g1 rfl rfl (y_fld Tryd.underlying46 rfl ti28 (by decide) rfl rfl) rfl <| g1 rfl rfl (y_load ti28 rfl rfl rfl) rfl <| g1 rfl rfl (y_len Tryd.underlying28 rfl rfl rfl) rfl <| g1 rfl rfl ((y_p rfl).v (v' := .b false) (congrArg A.b (by simp [hbl]))) rfl <| s1 (y_p rfl) rfl <| ?_
      refine s1 (y_p rfl) rfl <| g1 rfl rfl (y_fld Tryd.underlying46 rfl ti28 (by decide) rfl rfl) rfl <| g1 rfl rfl (y_load ti28 rfl rfl rfl) rfl <| g1 rfl rfl (y_fld Tryd.underlying46 rfl ti28 (by decide) rfl rfl) rfl <| g1 rfl rfl (y_load ti28 rfl rfl rfl) rfl <| ?_
      refine at_opg rfl rfl rfl (n_call false rfl (.cons (.pure pu) (.cons (.pure pu) (.nil))) (Con.cast (same36_ok a a ham) (congrArg A.b (beq_self_eq_true _))) pu (.inl rfl) rfl ?_)
      refine g1 rfl rfl (y_p rfl) rfl <| s1 (y_p rfl) rfl <| ?_
      refine at_nil ?_
      refine x_tn ?_
      refine at_else rfl ?_
      refine at_skip ?_
      refine x_tn ?_
      refine at_seq ?_
      refine at_fs ⟨_, [], []⟩ 7 4 hmix (le_refl rfl) ?_
      refine fs_q 0 [] [(4, none)] (y_loadA0 ti27 rfl rfl (cas_len hx)) rfl rfl ?_
      refine fs_q 1 [] [] (y_p rfl) rfl rfl ?_
      refine fs_call false 2 [0, 1] [] gy0 rfl (.cons (.pure pu) (.cons (.pure pu) (.nil))) (lplaces_ok c hx ids hk1) pu (.inl rfl) rfl rfl ?_
      refine fs_q 3 [] [(4, none)] (y_loadA0 ti27 rfl rfl (cas_len hx)) rfl rfl ?_
      refine fs_q 4 [] [] (y_p rfl) rfl rfl ?_
      refine fs_call false 5 [3, 4] [] gy0 rfl (.cons (.pure pu) (.cons (.pure pu) (.nil))) (lplaces_ok c hx others hk2) pu (.inl rfl) rfl rfl ?_
      refine fs_q 6 [2] [] (y_p rfl) rfl rfl ?_
      refine fs_end (by kernel_rfl) ?_
      refine s1 (y_p rfl) rfl <| ?_
      refine at_nil ?_
      refine x_tn ?_
      refine at_seq ?_
      refine at_seq ?_
      refine at_region ?_
      refine s1 (y_p rfl) rfl <| s1 (y_len Tryd.underlying25 rfl rfl rfl) rfl <| s1 ((y_p rfl).v (v' := .b false) (congrArg A.b (by rw [hp1, show (atL c ids).length + (132 - (atL c ids).length) = 132 by omega]; rfl))) rfl <| s1 (y_p rfl) rfl <| g1 rfl rfl (y_p rfl) rfl <| g1 rfl rfl (y_len Tryd.underlying25 rfl rfl rfl) rfl <| g1 rfl rfl ((y_p rfl).v (v' := .b false) (congrArg A.b (by rw [hp2, show (atL c others).length + (132 - (atL c others).length) = 132 by omega]; rfl))) rfl <| s1 (y_p rfl) rfl <| s1 (y_p rfl) rfl <| g1 rfl rfl (y_p rfl) rfl <| ?_
      refine g1 rfl rfl (y_len Tryd.underlying28 rfl rfl rfl) rfl <| g1 rfl rfl ((y_p rfl).v (v' := .b false) (congrArg A.b (by rw [hcl]; rfl))) rfl <| s1 (y_p rfl) rfl <| ?_
      refine at_nil ?_
      refine x_tn ?_
      refine at_else rfl ?_
      refine at_skip ?_
      refine x_tn ?_
      refine at_seq ?_
      refine at_region ?_
      refine s1 (y_p rfl) rfl <| ?_
      refine at_nil ?_
      refine x_tn ?_
      refine at_seq ?_
      refine at_seq ?_
      refine at_region ?_
      refine s1 (y_p rfl) rfl <| s1 (y_len Tryd.underlying28 rfl rfl rfl) rfl <| s1 ((y_p rfl).v (v' := .i .i64 0) rfl) rfl <| ?_
      refine at_nil ?_
      refine x_tn ?_
      refine at_block ?_
      refine at_loop (ι := Nat) (fun k => [(2, .fz others.length (others.map (A.i .i64))), (3, .fz coins.length (coins.map V6.slV)), (4, .p 4 0), (10, .p 10 0), (15, intsA (padL c ids (132 - (atL c ids).length))), (16, intsA (padL c others (132 - (atL c others).length))), (17, .sl 229 1 0 k), (104, nJ coins.length), (105, nJ k)]) (fun k => ⟨[(4, some (casL c)), (10, some ([rowsV b])), (229, some (((List.range k).map (twinAt 520 (atL c ids) (atL c others) coins)).map V6.slV))]⟩) (fun k => k ≤ coins.length) (fun k => coins.length - k) ?_ ?_
      · exact at_ex (0) (Nat.zero_le _) [(4, some 4), (10, some 10), (229, none)] hI rfl rfl ⟨⟨_, rfl, .pure pu⟩, ⟨_, rfl, .pure pu⟩, ⟨_, rfl, .p rfl⟩, ⟨_, rfl, .p rfl⟩, ⟨_, rfl, .pure pu⟩, ⟨_, rfl, .pure pu⟩, ⟨_, rfl, .nl rfl⟩, ⟨_, rfl, .pure pu⟩, ⟨_, rfl, .pure pu⟩, trivial⟩ ⟨.inr ⟨_, _, rfl, rfl, .pure pul⟩, .inr ⟨_, _, rfl, rfl, .pure pul⟩, .inl ⟨rfl, rfl⟩, trivial⟩
      rintro k hk
      refine at_seq ?_
      refine at_region ?_
      refine s1 (y_p rfl) rfl <| ?_
      refine at_nil ?_
      refine x_tn ?_
      refine at_seq ?_
      refine at_cond rfl (fun hc106 => ?_) (fun hc106 => ?_)
      · have h106 : k < coins.length := by have := of_decide_eq_true hc106; omega
        obtain ⟨q, hq⟩ : ∃ q, coins[k]? = some q := ⟨_, List.getElem?_eq_getElem h106⟩
        have hqd : coins.getD k [] = q := by rw [List.getD, hq]; rfl
        have hu := htw k h106
        rw [hqd] at hu
        generalize hty : twinAt 520 (atL c ids) (atL c others) coins k = tw at hu
        have hw1 := pad_want (c := c) (ids := ids) (r := 132 - (atL c ids).length) (k := k) (by omega)
        have hw2 := pad_want (c := c) (ids := others) (r := 132 - (atL c others).length) (k := k) (by omega)
        refine at_skip ?_
        refine x_tn ?_
        refine at_seq ?_
        refine at_block ?_
        refine at_seq ?_
        refine at_region ?_
        refine s1 (y_p rfl) rfl <| s1 (y_p rfl) rfl <| ?_
        refine at_nil ?_
        refine x_tn ?_
        refine at_seq ?_
        refine at_fs ⟨_, [], []⟩ 17 4 hmix (le_refl rfl) ?_
        refine fs_q 0 [] [] (y_p rfl) rfl rfl ?_
        refine fs_q 1 [] [] (y_p rfl) rfl rfl ?_
        refine fs_q 2 [0, 1] [] (y_ixf k Tryd.underlying25 ti3 rfl rfl rfl (by omega) rfl) rfl rfl ?_
        refine fs_q 3 [2] [] (y_load ti3 rfl rfl (getI4 hw1)) rfl rfl ?_
        refine fs_q 4 [] [] (y_p rfl) rfl rfl ?_
        refine fs_q 5 [] [] (y_p rfl) rfl rfl ?_
        refine fs_q 6 [4, 5] [] (y_ixf k Tryd.underlying25 ti3 rfl rfl rfl (by omega) rfl) rfl rfl ?_
        refine fs_q 7 [6] [] (y_load ti3 rfl rfl (getI4 hw2)) rfl rfl ?_
        refine fs_q 8 [] [] (y_p rfl) rfl rfl ?_
        refine fs_q 9 [] [] (y_p rfl) rfl rfl ?_
        refine fs_q 10 [8, 9] [] (y_ixf k Tryd.underlying28 ti66 rfl rfl rfl (by omega) rfl) rfl rfl ?_
        refine fs_q 11 [10] [] (y_load ti66 rfl rfl (V6.getR hq)) rfl rfl ?_
        refine fs_call false 12 [3, 7, 11] [] gy0 rfl (.cons (.pure pu) (.cons (.pure pu) (.cons (.pure pu) (.cons (.pure pu) (.nil))))) (Con.cast (vtwin_ok 520 (V6.want (atL c ids) k) (V6.want (atL c others) k) q) hu) pu (.inl rfl) rfl rfl ?_
        refine fs_q 13 [12] [] (y_p rfl) rfl rfl ?_
        refine fs_q 14 [13] [] (y_p rfl) rfl rfl ?_
        refine fs_q 15 [13] [] (y_p rfl) rfl rfl ?_
        refine fs_q 16 [14] [] (y_p rfl) rfl rfl ?_
        refine fs_end (by kernel_rfl) ?_
        refine s1 (y_p rfl) rfl <| ?_
        refine at_nil ?_
        refine x_tn ?_
        refine at_seq ?_
        refine at_seq ?_
        refine at_region ?_
        refine s1 (y_p rfl) rfl <| s1 ((y_p rfl).v (v' := .b false) (rfl)) rfl <| ?_
        refine at_nil ?_
        refine x_tn ?_
        refine at_else rfl ?_
        refine at_skip ?_
        refine x_tn ?_
        refine at_region ?_
        refine s1 (y_p rfl) rfl <| s1 (y_p rfl) rfl <| ?_
        refine at_op rfl (n_bs1 128 rfl Tryd.underlying28 ti66 rfl rfl rfl rfl rfl ?_)
        refine at_op rfl (n_app 129 rfl Tryd.underlying28 ti66 rfl (.sl rfl (by simp)) rfl (SM_full rfl (by first | rfl | omega | (simp; done) | (simp [*]; done) | (simp; omega) | (simp [*]; omega) | (simp [D32.len, -List.length_flatten, *]; done) | (simp [D32.len, -List.length_flatten, *]; omega))) (by simp) (by simp only [maxLen]; omega) (by omega) rfl (twins_next _ k hty) rfl ?_)
        refine s1 (y_p rfl) rfl <| ?_
        refine at_nil ?_
        refine x_bn ?_
        refine x_tn ?_
        refine at_region ?_
        refine s1 (addN _ 1 rfl rfl rfl rfl (by omega)) rfl <| s1 (y_p rfl) rfl <| ?_
        refine at_nil ?_
        exact at_end (k + 1) (by omega) (by omega) [(4, some 4), (10, some 10), (229, some 129)] hI rfl rfl ⟨⟨_, rfl, .pure pu⟩, ⟨_, rfl, .pure pu⟩, ⟨_, rfl, .p rfl⟩, ⟨_, rfl, .p rfl⟩, ⟨_, rfl, .pure pu⟩, ⟨_, rfl, .pure pu⟩, ⟨_, rfl, .sl rfl (by first | rfl | omega | (simp; done) | (simp [*]; done) | (simp; omega) | (simp [*]; omega) | (simp [D32.len, -List.length_flatten, *]; done) | (simp [D32.len, -List.length_flatten, *]; omega))⟩, ⟨_, rfl, .pure pu⟩, ⟨_, rfl, .pure pu⟩, trivial⟩ ⟨.inr ⟨_, _, rfl, rfl, .pure pul⟩, .inr ⟨_, _, rfl, rfl, .pure pul⟩, .inr ⟨_, _, rfl, rfl, .pure pul⟩, trivial⟩
      · have h106 : k = coins.length := by have := of_decide_eq_false hc106; omega
        subst h106
        refine at_exit ?_
        refine x_te ?_
        refine x_te ?_
        refine x_be ?_
        refine x_tn ?_
        refine at_seq ?_
        refine at_frz 17 rfl rfl pul (view_eq (by simp) rfl) ?_
        refine at_say 17 rfl (v' := rowsV (twins 520 (atL c ids) (atL c others) coins)) (congrArg (fun z => A.fz z _) (len_twins ..).symm) ?_
        refine at_region ?_
        refine s1 (y_loadA0 ti27 rfl rfl (cas_len hx)) rfl <| s1 (y_p rfl) rfl <| s1 (y_p rfl) rfl <| ?_
        refine at_op rfl (n_call false rfl (.cons (.pure pu) (.cons (.pure pu) (.cons (.pure pu) (.nil)))) (Con.cast (sask_ok c hx others (twins 520 (atL c ids) (atL c others) coins)) hX) pu (.inl rfl) rfl ?_)
        refine s1 (y_p rfl) rfl <| s1 (y_p rfl) rfl <| s1 (y_p rfl) rfl <| s1 (y_p rfl) rfl <| ?_
        refine at_op rfl (n_alloc 21 rfl ti46 rfl rfl ?_)
        refine at_op rfl (n_alloc 22 rfl ti46 rfl rfl ?_)
        refine at_op rfl (n_storeA ti46 rfl rfl rfl (by first | rfl | omega | (simp; done) | (simp [*]; done) | (simp; omega) | (simp [*]; omega) | (simp [D32.len, -List.length_flatten, *]; done) | (simp [D32.len, -List.length_flatten, *]; omega)) (by first | rfl | omega | (simp; done) | (simp [*]; done) | (simp; omega) | (simp [*]; omega) | (simp [D32.len, -List.length_flatten, *]; done) | (simp [D32.len, -List.length_flatten, *]; omega)) ?_)
        refine at_op rfl (n_storeA ti46 rfl rfl rfl (by first | rfl | omega | (simp; done) | (simp [*]; done) | (simp; omega) | (simp [*]; omega) | (simp [D32.len, -List.length_flatten, *]; done) | (simp [D32.len, -List.length_flatten, *]; omega)) (by first | rfl | omega | (simp; done) | (simp [*]; done) | (simp; omega) | (simp [*]; omega) | (simp [D32.len, -List.length_flatten, *]; done) | (simp [D32.len, -List.length_flatten, *]; omega)) ?_)
        refine s1 (y_p rfl) rfl <| ?_
        refine at_nil ?_
        refine x_tn ?_
        refine at_seq ?_
        refine at_region ?_
        refine s1 (y_p rfl) rfl <| s1 ((y_p rfl).v (v' := .b true) (rfl)) rfl <| s1 (y_p rfl) rfl <| g1 rfl rfl (y_fld Tryd.underlying46 rfl ti28 (by decide) rfl rfl) rfl <| g1 rfl rfl (y_load ti28 rfl rfl rfl) rfl <| g1 rfl rfl (y_fld Tryd.underlying46 rfl ti28 (by decide) rfl rfl) rfl <| g1 rfl rfl (y_load ti28 rfl rfl rfl) rfl <| ?_
        refine at_opg rfl rfl rfl (n_call false rfl (.cons (.pure pu) (.cons (.pure pu) (.nil))) (Con.cast (same36_ok b b hbm) (congrArg A.b (beq_self_eq_true _))) pu (.inl rfl) rfl ?_)
        refine s1 (y_p rfl) rfl <| s1 (y_p rfl) rfl <| ?_
        refine at_nil ?_
        refine x_tn ?_
        refine at_ret ?_
        refine at_result (rs := [.tmp 8]) rfl (r_tmp rfl r_nil) ?_
        rfl
end Go.Abs.D2
