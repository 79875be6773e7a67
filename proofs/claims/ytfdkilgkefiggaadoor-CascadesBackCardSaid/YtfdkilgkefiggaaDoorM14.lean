/-
  The engine, the plain laws and the walks that the rows need, part 14. Conditions: none.
-/
import Derived.Test.YtfdkilgkefiggaaDoorM13
set_option linter.unusedVariables false
set_option linter.unusedSimpArgs false
set_option maxHeartbeats 1000000
set_option maxRecDepth 10000
-- C4U
namespace Go.Abs.D2
open Go Go.Eng Go.Abs
abbrev casZ : Cas := ⟨List.replicate 32 0, [], []⟩
def decC (b : List UInt8) : Cas := (decCb b).getD casZ
def decE (b : List UInt8) : Int := match decCb b with
  | some _ => 0
  | none => decCe b
theorem wk_dec (b : List UInt8) : Wk (decCA b) (.tu [.ag (casL (decC b)), .i .i64 (decE b)]) := by
  unfold decCA decC decE
  cases decCb b with
  | some c => exact .eq rfl
  | none => exact .tu (.cons (.ag wk_cas0) (.cons (.eq rfl) .nil))
theorem chk_small {c : Cas} (h : chkC c = true) : c.E.length ≤ 1024 ∧ c.F.length ≤ 16 ∧ ∀ f ∈ c.F, f.D.length ≤ 1000000 := by
  obtain ⟨h1, h2, _⟩ := chkC_all h
  exact ⟨listed_len h2, h1, fun f hf => by obtain ⟨k1, k2, k3⟩ := chkC_nb h f hf; omega⟩
theorem dec_cases {b : List UInt8} (hb : b.length < 2 ^ 64) : (∃ c, decC b = c ∧ decE b = 0 ∧ chkC c = true ∧ c.x.length = 32 ∧ (casV c).enc = b) ∨ (decC b = casZ ∧ decE b ≠ 0) := by
  cases h : decCb b with
  | some c =>
    refine .inl ⟨c, by unfold decC; rw [h]; rfl, by unfold decE; rw [h], ?_⟩
    unfold decCb at h
    cases h1 : decV b with
    | none => rw [h1] at h; cases h
    | some v =>
      rw [h1] at h
      cases h2 : (readB v && chkC (readC v)) with
      | false => simp [h2] at h
      | true =>
        simp only [h2, if_true] at h
        obtain rfl := Option.some.inj h
        have h3 := rdec_iff hb h1
        rw [h2] at h3
        have h3 := h3.symm
        simp only [Bool.and_eq_true] at h2 h3
        exact ⟨h2.2, rreadB_x h3.1, beq_iff_eq.1 h3.2.2⟩
  | none =>
    refine .inr ⟨by unfold decC; rw [h]; rfl, ?_⟩
    unfold decE; rw [h]
    unfold decCb at h
    unfold decCe
    cases h1 : decV b with
    | none => exact by decide
    | some v =>
      rw [h1] at h
      cases h2 : (readB v && chkC (readC v)) with
      | false => simp [h2]
      | true => simp [h2] at h
theorem decC_small {b : List UInt8} (hb : b.length < 2 ^ 64) : (decC b).x.length = 32 ∧ (decC b).E.length ≤ 1024 ∧ (decC b).F.length ≤ 16 := by
  rcases dec_cases hb with ⟨c, h, _, h2, h3, _⟩ | ⟨h, _⟩
  · rw [h]; exact ⟨h3, (chk_small h2).1, (chk_small h2).2.1⟩
  · rw [h]; exact ⟨rfl, by simp, by simp⟩
theorem dec_back {c : Cas} (h : chkC c = true) (hx : c.x.length = 32) : decCA (casV c).enc = .tu [.ag (casL c), .i .i64 0] := by
  have := decCA_y (dec_cas h hx) (readB_cas hx) (by rw [readC_cas h]; exact h)
  rwa [readC_cas h] at this
theorem num_chk {p q : List Int} (hok : okB2 p q = true) {v : Int} (h : v ∈ p ∨ v ∈ q) : ∃ j : Nat, v = (j : Int) ∧ j < 1024 ∧ numB (j : Int) = true := by
  unfold okB2 at hok
  simp only [Bool.and_eq_true] at hok
  have hv : 0 ≤ v ∧ v < 1024 := h.elim (listed_mem hok.1.1 v) (listed_mem hok.1.2 v)
  refine ⟨v.toNat, by omega, by omega, ?_⟩
  rcases hs_cases casZ v with h1 | ⟨_, h1⟩ | ⟨_, j, rfl, h2, h3⟩
  · exact absurd h1 (by decide)
  · exfalso
    unfold numB at h1
    have := of_decide_eq_false h1
    omega
  · exact h3
theorem has_lists {x : List UInt8} {p q : List Int} (hok : okB2 p q = true) {v : Int} (h : v ∈ p ∨ v ∈ q) : hasCA (casB x p q) v = .tu [.b (decide (v ∈ p)), .i .i64 0] := by
  obtain ⟨j, rfl, h1, h2⟩ := num_chk hok h
  rw [hasc_yes (chkC_casB hok) h2, exact_ok hok h1 h]
theorem has_p {x : List UInt8} {p q : List Int} (hok : okB2 p q = true) {i : Nat} {v : Int} (h : p[i]? = some v) : hasCA (casB x p q) v = .tu [.b true, .i .i64 0] := by
  have hm := List.mem_of_getElem? h
  rw [has_lists hok (.inl hm), decide_eq_true hm]
theorem bld_nil (x : List UInt8) (q : List Int) : casB x [] q = ⟨x, [], []⟩ := by
  have h : endB x [] q = 0 := end_no (by decide) (fun t ht => absurd ht (by omega)) rfl
  unfold casB; rw [h]; rfl
theorem bld_one {x : List UInt8} {p : List Int} (h : p ≠ []) : casB x p [] = ⟨x, [filO x 0 p], []⟩ := by
  have h0 : goB x p [] 0 = true := by
    cases p with
    | nil => exact absurd rfl h
    | cons a p => rfl
  have h : endB x p [] = 1 := end_no (by decide) (fun t ht => (show t = 0 by omega) ▸ h0) rfl
  unfold casB; rw [h]; rfl
theorem vwl_app {st s0 : St} {ow : Bool} : ∀ {a a' b b' : List A}, VwL st s0 ow a a' → VwL st s0 ow b b' → VwL st s0 ow (a ++ b) (a' ++ b')
  | _, _, _, _, .nil, h => h
  | _, _, _, _, .cons h hs, h2 => .cons h (vwl_app hs h2)
theorem vw_zero {st s0 : St} {ow : Bool} : VwL st s0 ow (Z32.map u8 ++ [.nl, .nl]) (casL casZ) := vwl_app (.pure pul) (.cons .nl (.cons .nl .nil))
theorem vw_zeroE {st s0 : St} {ow : Bool} (l : List Int) : VwL st s0 ow (Z32.map u8 ++ [.nl, intsA l]) (casL ⟨List.replicate 32 0, [], l⟩) := vwl_app (.pure pul) (.cons .nl (.cons (.pure pu) .nil))
abbrev slt7 : List UInt8 := 7 :: List.replicate 31 0
@[irreducible] def oneD : List UInt8 := (filO slt7 0 [3, 1023]).D
def oneC : Cas := ⟨slt7, [⟨0, 8, oneD⟩], []⟩
theorem oneC_eq : casB slt7 [3, 1023] [] = oneC := by
  rw [bld_one (by decide)]
  unfold oneC oneD
  rfl
theorem oneC_chk : chkC oneC = true := oneC_eq ▸ chkC_casB (by decide)
theorem oneC_x : oneC.x.length = 32 := rfl
theorem sane_1 : buildA slt7 [] [0, 1, 2] = .tu [.ag (casL ⟨slt7, [], []⟩), .i .i64 0] := (build_yes (by decide)).trans (by rw [bld_nil])
theorem sane_2 : buildA slt7 [5] [5] = .tu [.ag (casL casZ), .i .i64 340] := build_no (by decide)
theorem sane_3 : buildA slt7 [5, 5] [] = .tu [.ag (casL casZ), .i .i64 340] := build_no (by decide)
theorem sane_4 : buildA slt7 [3, 1023] [] = .tu [.ag (casL oneC), .i .i64 0] := (build_yes (by decide)).trans (by rw [oneC_eq])
theorem sane_5 : hasCA oneC 1023 = .tu [.b true, .i .i64 0] := oneC_eq ▸ has_p (p := [3, 1023]) (q := []) (by decide) (i := 1) rfl
theorem sane_6 : hasCA casZ 7 = .tu [.b false, .i .i64 0] := hasc_yes (j := 7) (by decide) (by decide)
theorem sane_7 : hasCA casZ 1024 = .tu [.b false, .i .i64 340] := hasc_no (by decide)
theorem sane_8 : hasCA ⟨List.replicate 32 0, [], [7]⟩ 7 = .tu [.b true, .i .i64 0] := hasc_yes (j := 7) (by decide) (by decide)
theorem sane_9 : encCA oneC = .tu [.fz (casV oneC).enc.length ((casV oneC).enc.map u8), .i .i64 0] := encCA_y oneC_chk
theorem sane_10 : decCA (casV oneC).enc = .tu [.ag (casL oneC), .i .i64 0] := dec_back oneC_chk oneC_x
theorem sane_11 : digCA oneC = .tu [.ag ((digC oneC).map u8), .i .i64 0] := digCA_y oneC_chk
theorem sane_12 : decCA [3, 0] = .tu [.ag casN, .i .i64 340] := by
  have h : (lstV []).enc = [3, 0] := by show 3 :: (numL 0 ++ CV.encL []) = _; rw [numL_small (by decide), CV.encL]; rfl
  have h2 : Rd 16 (lstV []) := ⟨by decide, by decide, by decide⟩
  have := dec_enc h2 (by rw [h]; decide)
  rw [h] at this
  exact decCA_n this (by decide)
end Go.Abs.D2
-- L4S
namespace Go.Abs.D2
open Go Go.Eng Go.Abs Go.Proofs 
theorem sfewc_ok (c : Cas) (hx : c.x.length = 32) : Con Tryd.prog 13 [.ag (casL c)] (Ret (.b (fewC c))) := by
 refine enter Tryd.func13 rfl Tryd.ntmps13 (by kernel_rfl) (Nat.le_of_ble_eq_true rfl) fun w0 X0 hI => ?_
 refine at_seq <| at_region ?_
 refine at_op rfl (n_boxA 1 rfl rfl rfl ?_)
 refine s1 (y_p rfl) rfl ?_
 refine at_nil <| x_tn <| at_seq <| at_seq <| at_region <| s1 ((y_p rfl).v (v' := .i .i64 0) rfl) rfl ?_
 refine at_nil <| x_tn <| at_block ?_
 refine at_loop (ι := Nat) (fun i => [(1, .p 1 0), (3, nJ i)]) (fun i => ⟨[(1, some (casL c))]⟩) (fun i => i ≤ c.F.length ∧ i ≤ 20 ∧ ∀ t, t < i → ∀ f, c.F[t]? = some f → f.D.length ≤ 600) (fun i => c.F.length - i) ?_ ?_
 ·exact at_ex (0) (⟨Nat.zero_le _, by omega, fun t ht => absurd ht (by omega)⟩) [(1, some 1)] hI rfl rfl ⟨⟨_, rfl, .p rfl⟩, ⟨_, rfl, .pure pu⟩, trivial⟩ ⟨.inr ⟨_, _, rfl, rfl, .pure pul⟩, trivial⟩
 rintro i ⟨hi, h20, hp⟩
 refine at_seq <| at_seq <| at_region <| s1 (y_p rfl) rfl <| s1 (y_fld Tryd.underlying27 rfl ti25 (by decide) rfl rfl) rfl <| s1 (y_load ti25 rfl rfl (cas_F hx)) rfl <| s1 (y_len Tryd.underlying25 rfl rfl rfl) rfl <| s1 (y_p rfl) rfl ?_
 refine at_nil <| x_tn ?_
 refine at_cond rfl (fun hc8 => ?_) (fun hc8 => ?_)
 ·have h8 : i < c.F.length := by have := of_decide_eq_true hc8; omega
  obtain ⟨f, hf⟩ : ∃ f, c.F[i]? = some f := ⟨_, List.getElem?_eq_getElem h8⟩
  refine at_skip <| x_tn <| at_seq <| at_block <| at_seq <| at_region <| s1 (y_p rfl) rfl <| s1 (y_p rfl) rfl <| s1 (y_p rfl) rfl ?_
  refine at_bc 13 rfl (fun hc13 => ?_) (fun hc13 => ?_)
  ·have h13 : ¬ c.F.length ≤ 20 := by have := of_decide_eq_true hc13; omega
   refine g0 rfl rfl rfl rfl <| g0 rfl rfl rfl rfl <| g0 rfl rfl rfl rfl <| g0 rfl rfl rfl rfl <| g0 rfl rfl rfl rfl <| g0 rfl rfl rfl rfl <| g0 rfl rfl rfl rfl <| g0 rfl rfl rfl rfl <| s1 (y_p rfl) rfl ?_
   refine at_nil <| x_tn ?_
   refine at_then rfl ?_
   refine at_seq <| at_region <| s1 (y_p rfl) rfl ?_
   refine at_nil <| x_tn <| at_ret <| x_br <| x_tr <| x_tr <| x_br <| x_tr ?_
   refine at_result (rs := [.tmp 2]) rfl (r_tmp rfl r_nil) ?_
   exact congrArg A.b (by unfold fewC; rw [few_no1 h13]; rfl)
  ·have h13 : i < 20 := by have := of_decide_eq_false hc13; omega
   refine g1 rfl rfl (y_fld Tryd.underlying27 rfl ti25 (by decide) rfl rfl) rfl <| g1 rfl rfl (y_load ti25 rfl rfl (cas_F hx)) rfl <| g1 rfl rfl (y_p rfl) rfl <| g1 rfl rfl (y_ixf i Tryd.underlying25 ti50 rfl rfl rfl (by omega) rfl) rfl <| g1 rfl rfl (y_fldf Tryd.underlying50 rfl ti40 (by decide) rfl rfl) rfl <| g1 rfl rfl (y_load ti40 rfl rfl (flat_get2 hf)) rfl <| g1 rfl rfl (y_len Tryd.underlying40 rfl rfl rfl) rfl <| g1 rfl rfl (y_p rfl) rfl <| s1 (y_p rfl) rfl ?_
   refine at_nil <| x_tn ?_
   refine at_cond rfl (fun hc22 => ?_) (fun hc22 => ?_)
   ·have h22 : ¬ f.D.length ≤ 600 := by have := of_decide_eq_true hc22; omega
    refine at_seq <| at_region <| s1 (y_p rfl) rfl ?_
    refine at_nil <| x_tn <| at_ret <| x_br <| x_tr <| x_tr <| x_br <| x_tr ?_
    refine at_result (rs := [.tmp 2]) rfl (r_tmp rfl r_nil) ?_
    exact congrArg A.b (by unfold fewC; rw [few_no2 hf h22]; rfl)
   ·have h22 : f.D.length ≤ 600 := by have := of_decide_eq_false hc22; omega
    refine at_skip <| x_bn <| x_tn <| at_region <| s1 (y_p rfl) rfl <| s1 (addN _ 1 rfl rfl rfl rfl (by omega)) rfl <| s1 (y_p rfl) rfl ?_
    refine at_nil ?_
    exact at_end (i + 1) (⟨by omega, by omega, all_next hp (fun f' hf' => by rw [hf] at hf'; cases hf'; exact h22)⟩) (by omega) [(1, some 1)] hI rfl rfl ⟨⟨_, rfl, .p rfl⟩, ⟨_, rfl, .pure pu⟩, trivial⟩ ⟨.inr ⟨_, _, rfl, rfl, .pure pul⟩, trivial⟩
 ·have h8 : i = c.F.length := by have := of_decide_eq_false hc8; omega
  subst h8
  refine at_exit <| x_te <| x_te <| x_be <| x_tn <| at_seq <| at_region <| s1 (y_fld Tryd.underlying27 rfl ti24 (by decide) rfl rfl) rfl <| s1 (y_load ti24 rfl rfl (cas_E hx)) rfl <| s1 (y_len Tryd.underlying24 rfl rfl rfl) rfl <| s1 (y_p rfl) rfl <| s1 (y_p rfl) rfl ?_
  refine at_nil <| x_tn <| at_ret ?_
  refine at_result (rs := [.tmp 2]) rfl (r_tmp rfl r_nil) ?_
  exact congrArg A.b (by unfold fewC; rw [few_yes h20 hp, Bool.true_and]; exact decide_eq_decide.2 (by omega))
theorem sane34_ok : Con Tryd.prog 11 [] (Ret (.b true)) := by
 refine enter Tryd.func11 rfl Tryd.ntmps11 (by kernel_rfl) (Nat.le_of_ble_eq_true rfl) fun w0 X0 hI => ?_
 refine at_seq <| at_region <| s1 (y_p rfl) rfl ?_
 refine at_nil <| x_tn <| at_seq <| at_region <| s1 ((y_bldP (vs := [_]) ti23 rfl (by kernel_rfl) Tryd.underlying23 ti5 rfl rfl (by simp) rfl rfl).v (v' := .ag (slt7.map u8)) (by kernel_rfl)) rfl ?_
 refine at_op rfl (n_alloc 1 rfl ti23 rfl rfl ?_)
 refine at_op rfl (n_storeA ti23 rfl rfl rfl (by first | rfl | omega | (simp <;> omega) | (simp [*] <;> omega)) (by first | rfl | omega | (simp <;> omega) | (simp [*] <;> omega)) ?_)
 refine at_nil <| x_tn <| at_seq <| at_region <| s1 (y_loadA0 ti23 rfl rfl (by first | rfl | omega | (simp <;> omega) | (simp [*] <;> omega))) rfl ?_
 refine at_op rfl (n_bsZ Tryd.underlying24 ti3 rfl rfl rfl (len_one rfl) (flatA_one rfl) pul rfl rfl rfl ?_)
 refine at_op rfl (n_call false rfl (.cons (.pure pu) (.cons .nl (.cons (.pure pu) .nil))) (Con.cast (cbuild_ok slt7 rfl [] [0, 1, 2] (by decide) (by decide)) sane_1) pu (.inl rfl) rfl ?_)
 refine s1 (y_p rfl) rfl <| s1 (y_p rfl) rfl <| s1 (y_p rfl) rfl ?_
 refine at_op rfl (n_alloc 2 rfl ti27 rfl rfl ?_)
 refine at_op rfl (n_storeA ti27 rfl rfl rfl (by first | rfl | omega | (simp <;> omega) | (simp [*] <;> omega)) (by first | rfl | omega | (simp <;> omega) | (simp [*] <;> omega)) ?_)
 refine s1 (y_p rfl) rfl ?_
 refine at_nil <| x_tn <| at_seq <| at_region <| s1 (y_loadA0 ti23 rfl rfl (by first | rfl | omega | (simp <;> omega) | (simp [*] <;> omega))) rfl ?_
 refine at_op rfl (n_bsZ Tryd.underlying24 ti3 rfl rfl rfl (len_one rfl) (flatA_one rfl) pul rfl rfl rfl ?_)
 refine at_op rfl (n_bsZ Tryd.underlying24 ti3 rfl rfl rfl (len_one rfl) (flatA_one rfl) pul rfl rfl rfl ?_)
 refine at_op rfl (n_call false rfl (.cons (.pure pu) (.cons (.pure pu) (.cons (.pure pu) (.nil)))) (Con.cast (cbuild_ok slt7 rfl [5] [5] (by decide) (by decide)) sane_2) pu (.inl rfl) rfl ?_)
 refine s1 (y_p rfl) rfl <| s1 (y_p rfl) rfl <| s1 (y_p rfl) rfl ?_
 refine at_op rfl (n_alloc 4 rfl ti27 rfl rfl ?_)
 refine at_op rfl (n_storeA ti27 rfl rfl rfl (by first | rfl | omega | (simp <;> omega) | (simp [*] <;> omega)) (by first | rfl | omega | (simp <;> omega) | (simp [*] <;> omega)) ?_)
 refine s1 (y_p rfl) rfl ?_
 refine at_nil <| x_tn <| at_seq <| at_region <| s1 (y_loadA0 ti23 rfl rfl (by first | rfl | omega | (simp <;> omega) | (simp [*] <;> omega))) rfl ?_
 refine at_op rfl (n_bsZ Tryd.underlying24 ti3 rfl rfl rfl (len_one rfl) (flatA_one rfl) pul rfl rfl rfl ?_)
 refine at_op rfl (n_call false rfl (.cons (.pure pu) (.cons (.pure pu) (.cons .nl .nil))) (Con.cast (cbuild_ok slt7 rfl [5, 5] [] (by decide) (by decide)) sane_3) pu (.inl rfl) rfl ?_)
 refine s1 (y_p rfl) rfl <| s1 (y_p rfl) rfl <| s1 (y_p rfl) rfl ?_
 refine at_op rfl (n_alloc 6 rfl ti27 rfl rfl ?_)
 refine at_op rfl (n_storeA ti27 rfl rfl rfl (by first | rfl | omega | (simp <;> omega) | (simp [*] <;> omega)) (by first | rfl | omega | (simp <;> omega) | (simp [*] <;> omega)) ?_)
 refine s1 (y_p rfl) rfl ?_
 refine at_nil <| x_tn <| at_seq <| at_region <| s1 (y_loadA0 ti23 rfl rfl (by first | rfl | omega | (simp <;> omega) | (simp [*] <;> omega))) rfl ?_
 refine at_op rfl (n_bsZ Tryd.underlying24 ti3 rfl rfl rfl (len_one rfl) (flatA_one rfl) pul rfl rfl rfl ?_)
 refine at_op rfl (n_call false rfl (.cons (.pure pu) (.cons (.pure pu) (.cons .nl .nil))) (Con.cast (cbuild_ok slt7 rfl [3, 1023] [] (by decide) (by decide)) sane_4) pu (.inl rfl) rfl ?_)
 refine s1 (y_p rfl) rfl <| s1 (y_p rfl) rfl <| s1 (y_p rfl) rfl ?_
 refine at_op rfl (n_alloc 8 rfl ti27 rfl rfl ?_)
 refine at_op rfl (n_storeA ti27 rfl rfl rfl (by first | rfl | omega | (simp <;> omega) | (simp [*] <;> omega)) (by first | rfl | omega | (simp <;> omega) | (simp [*] <;> omega)) ?_)
 refine s1 (y_p rfl) rfl ?_
 refine at_nil <| x_tn <| at_seq <| at_region <| s1 (y_loadA0 ti27 rfl rfl (cas_len oneC_x)) rfl ?_
 refine at_op rfl (n_call false rfl (.cons (.pure pu) (.cons (.pure pu) (.nil))) (Con.cast (chas_ok oneC oneC_x (Nat.zero_le _) 1023) sane_5) pu (.inl rfl) rfl ?_)
 refine s1 (y_p rfl) rfl <| s1 (y_p rfl) rfl <| s1 (y_p rfl) rfl <| s1 (y_p rfl) rfl <| s1 (y_p rfl) rfl ?_
 refine at_nil <| x_tn <| at_seq <| at_region <| s1 (YO.v (v' := .ag casN) (y_bld (out := _) [(List.replicate 32 (.int .u8 0)).map evC, [evC (.slice none 0 0)], [evC (.slice none 0 0)]] ti27 rfl Tryd.underlying27 (by kernel_rfl) rfl rfl trivial rfl) (rfl)) rfl ?_
 refine at_op rfl (n_call false rfl (.cons (.ag vw_zero) (.cons (.pure pu) .nil)) (Con.cast (chas_ok casZ rfl (Nat.zero_le _) 7) sane_6) pu (.inl rfl) rfl ?_)
 refine s1 (y_p rfl) rfl <| s1 (y_p rfl) rfl <| s1 (y_p rfl) rfl <| s1 (y_p rfl) rfl <| s1 (y_p rfl) rfl ?_
 refine at_nil <| x_tn <| at_seq <| at_region <| s1 (YO.v (v' := .ag casN) (y_bld (out := _) [(List.replicate 32 (.int .u8 0)).map evC, [evC (.slice none 0 0)], [evC (.slice none 0 0)]] ti27 rfl Tryd.underlying27 (by kernel_rfl) rfl rfl trivial rfl) (rfl)) rfl ?_
 refine at_op rfl (n_call false rfl (.cons (.ag vw_zero) (.cons (.pure pu) .nil)) (Con.cast (chas_ok casZ rfl (Nat.zero_le _) 1024) sane_7) pu (.inl rfl) rfl ?_)
 refine s1 (y_p rfl) rfl <| s1 (y_p rfl) rfl <| s1 (y_p rfl) rfl <| s1 (y_p rfl) rfl <| s1 (y_p rfl) rfl ?_
 refine at_nil <| x_tn <| at_seq <| at_region ?_
 refine at_op rfl (n_bsZ Tryd.underlying24 ti3 rfl rfl rfl (len_one rfl) (flatA_one rfl) pul rfl rfl rfl ?_)
 refine s1 (YO.v (v' := .ag (Z32.map u8 ++ [.nl, intsA [7]])) (y_bld (out := _) [(List.replicate 32 (.int .u8 0)).map evC, [evC (.slice none 0 0)], [evC (.slice none 0 0)]] ti27 rfl Tryd.underlying27 (by kernel_rfl) rfl rfl ⟨⟨by (first | rfl | omega | (simp; done) | (simp [*]; done) | (simp [cellsA, *]; done)), rfl⟩, trivial⟩ rfl) (rfl)) rfl ?_
 refine at_op rfl (n_call false rfl (.cons (.ag (vw_zeroE [7])) (.cons (.pure pu) .nil)) (Con.cast (chas_ok ⟨List.replicate 32 0, [], [7]⟩ rfl (by decide) 7) sane_8) pu (.inl rfl) rfl ?_)
 refine s1 (y_p rfl) rfl <| s1 (y_p rfl) rfl <| s1 (y_p rfl) rfl <| s1 (y_p rfl) rfl <| s1 (y_p rfl) rfl ?_
 refine at_nil <| x_tn <| at_seq <| at_region <| s1 (y_loadA0 ti27 rfl rfl (cas_len oneC_x)) rfl ?_
 refine at_op rfl (n_call false rfl (.cons (.pure pu) (.nil)) (Con.cast (cencC_ok oneC oneC_x (Nat.zero_le _)) sane_9) pu (.inl rfl) rfl ?_)
 refine s1 (y_p rfl) rfl <| s1 (y_p rfl) rfl <| s1 (y_p rfl) rfl <| s1 (y_p rfl) rfl <| s1 (y_p rfl) rfl ?_
 refine at_nil <| x_tn <| at_seq <| at_region <| s1 (y_p rfl) rfl ?_
 refine at_op rfl (n_call false rfl (.cons (.pure pu) (.nil)) (Con.cast (cdecC_ok (casV oneC).enc (Nat.le_trans (enc_cas oneC_chk oneC_x) (by decide))) sane_10) pu (.inl rfl) rfl ?_)
 refine s1 (y_p rfl) rfl <| s1 (y_p rfl) rfl <| s1 (y_p rfl) rfl ?_
 refine at_op rfl (n_alloc 20 rfl ti27 rfl rfl ?_)
 refine at_op rfl (n_storeA ti27 rfl rfl rfl (by first | rfl | omega | (simp <;> omega) | (simp [*] <;> omega)) (by first | rfl | omega | (simp <;> omega) | (simp [*] <;> omega)) ?_)
 refine s1 (y_p rfl) rfl ?_
 refine at_nil <| x_tn <| at_seq <| at_region <| s1 (y_loadA0 ti27 rfl rfl (cas_len oneC_x)) rfl ?_
 refine at_op rfl (n_call false rfl (.cons (.pure pu) (.nil)) (Con.cast (cdigC_ok oneC oneC_x (Nat.zero_le _)) sane_11) pu (.inl rfl) rfl ?_)
 refine s1 (y_p rfl) rfl <| s1 (y_p rfl) rfl <| s1 (y_p rfl) rfl ?_
 refine at_op rfl (n_alloc 22 rfl ti23 rfl rfl ?_)
 refine at_op rfl (n_storeA ti23 rfl rfl rfl (by first | rfl | omega | (simp <;> omega) | (simp [*] <;> omega)) (by first | rfl | omega | (simp <;> omega) | (simp [*] <;> omega)) ?_)
 refine s1 (y_p rfl) rfl ?_
 refine at_nil <| x_tn <| at_seq <| at_region ?_
 refine at_op rfl (n_bsZ Tryd.underlying40 ti5 rfl rfl rfl (len_one rfl) (flatA_one rfl) pul rfl rfl rfl ?_)
 refine at_op rfl (n_call false rfl (.cons (.pure pu) (.nil)) (Con.cast (cdecC_ok [3, 0] (by decide)) sane_12) pu (.inl rfl) rfl ?_)
 refine s1 (y_p rfl) rfl <| s1 (y_p rfl) rfl <| s1 (y_p rfl) rfl ?_
 refine at_op rfl (n_alloc 24 rfl ti27 rfl rfl ?_)
 refine at_op rfl (n_storeA ti27 rfl rfl rfl (by first | rfl | omega | (simp <;> omega) | (simp [*] <;> omega)) (by first | rfl | omega | (simp <;> omega) | (simp [*] <;> omega)) ?_)
 refine s1 (y_p rfl) rfl ?_
 refine at_nil <| x_tn <| at_seq <| at_seq <| at_region <| s1 (y_p rfl) rfl <| s1 ((y_p rfl).v (v' := .b false) (rfl)) rfl <| s1 (y_p rfl) rfl <| g1 rfl rfl (y_p rfl) rfl <| g1 rfl rfl ((y_p rfl).v (v' := .b false) (rfl)) rfl <| s1 (y_p rfl) rfl <| s1 (y_p rfl) rfl <| g1 rfl rfl (y_p rfl) rfl <| g1 rfl rfl ((y_p rfl).v (v' := .b false) (rfl)) rfl <| s1 (y_p rfl) rfl ?_
 refine s1 (y_p rfl) rfl <| g1 rfl rfl (y_p rfl) rfl <| g1 rfl rfl ((y_p rfl).v (v' := .b false) (rfl)) rfl <| s1 (y_p rfl) rfl <| s1 (y_p rfl) rfl <| g1 rfl rfl (y_p rfl) rfl <| g1 rfl rfl ((y_p rfl).v (v' := .b false) (rfl)) rfl <| s1 (y_p rfl) rfl <| s1 (y_p rfl) rfl <| g1 rfl rfl (y_p rfl) rfl ?_
 refine g1 rfl rfl ((y_p rfl).v (v' := .b false) (rfl)) rfl <| s1 (y_p rfl) rfl <| s1 (y_p rfl) rfl <| g1 rfl rfl (y_p rfl) rfl <| g1 rfl rfl ((y_p rfl).v (v' := .b false) (rfl)) rfl <| s1 (y_p rfl) rfl <| s1 (y_p rfl) rfl <| g1 rfl rfl (y_p rfl) rfl <| g1 rfl rfl ((y_p rfl).v (v' := .b false) (rfl)) rfl <| s1 (y_p rfl) rfl ?_
 refine s1 (y_p rfl) rfl <| g1 rfl rfl (y_p rfl) rfl <| g1 rfl rfl ((y_p rfl).v (v' := .b false) (rfl)) rfl <| s1 (y_p rfl) rfl <| s1 (y_p rfl) rfl <| g1 rfl rfl (y_p rfl) rfl <| g1 rfl rfl ((y_p rfl).v (v' := .b false) (rfl)) rfl <| s1 (y_p rfl) rfl <| s1 (y_p rfl) rfl <| g1 rfl rfl (y_p rfl) rfl ?_
 refine g1 rfl rfl ((y_p rfl).v (v' := .b false) (rfl)) rfl <| s1 (y_p rfl) rfl <| s1 (y_p rfl) rfl <| g1 rfl rfl (y_p rfl) rfl <| g1 rfl rfl ((y_p rfl).v (v' := .b false) (rfl)) rfl <| s1 (y_p rfl) rfl ?_
 refine at_nil <| x_tn ?_
 refine at_else rfl ?_
 refine at_skip <| x_tn <| at_seq ?_
 refine at_fs ⟨_, [], []⟩ 62 4 hmix (le_refl rfl) ?_
 refine fs_q 0 [] [(2, none)] (y_fld Tryd.underlying27 rfl ti25 (by decide) rfl rfl) rfl rfl ?_
 refine fs_q 1 [0] [(2, none)] (y_load ti25 rfl rfl rfl) rfl rfl ?_
 refine fs_q 2 [1] [] (y_len Tryd.underlying25 rfl rfl rfl) rfl rfl ?_
 refine fs_q 3 [2] [] ((y_p rfl).v (v' := .b true) (rfl)) rfl rfl ?_
 refine fs_q 4 [3] [] (y_p rfl) rfl rfl ?_
 refine fs_qg 5 [4] [(2, none)] rfl rfl (y_fld Tryd.underlying27 rfl ti23 (by decide) rfl rfl) rfl rfl ?_
 refine fs_qg 6 [4, 5] [(2, none)] rfl rfl (y_loadA ti23 rfl rfl (cas_x (c := ⟨slt7, [], []⟩) rfl) (by decide)) rfl rfl ?_
 refine fs_qg 7 [4] [(1, none)] rfl rfl (y_loadA0 ti23 rfl rfl (by first | rfl | omega | (simp <;> omega) | (simp [*] <;> omega))) rfl rfl ?_
 refine fs_qg 8 [4, 6, 7] [] rfl rfl ((y_aq Tryd.underlying23 Tryd.underlying5 ti5 (by kernel_rfl) rfl rfl (by first | assumption | (simp; done) | (simp [*]; done)) (by first | assumption | (simp; done) | (simp [*]; done))).v (v' := .b true) (congrArg A.b (by simp))) rfl rfl ?_
 refine fs_q 9 [4, 8] [] (y_p rfl) rfl rfl ?_
 refine fs_q 10 [9] [] (y_p rfl) rfl rfl ?_
 refine fs_qg 11 [10] [(8, none)] rfl rfl (y_fld Tryd.underlying27 rfl ti25 (by decide) rfl rfl) rfl rfl ?_
 refine fs_qg 12 [10, 11] [(8, none)] rfl rfl (y_load ti25 rfl rfl (cas_F oneC_x)) rfl rfl ?_
 refine fs_qg 13 [10, 12] [] rfl rfl (y_len Tryd.underlying25 rfl rfl rfl) rfl rfl ?_
 refine fs_qg 14 [10, 13] [] rfl rfl ((y_p rfl).v (v' := .b true) (rfl)) rfl rfl ?_
 refine fs_q 15 [10, 14] [] (y_p rfl) rfl rfl ?_
 refine fs_q 16 [15] [] (y_p rfl) rfl rfl ?_
 refine fs_qg 17 [16] [(8, none)] rfl rfl (y_fld Tryd.underlying27 rfl ti25 (by decide) rfl rfl) rfl rfl ?_
 refine fs_qg 18 [16, 17] [(8, none)] rfl rfl (y_load ti25 rfl rfl (cas_F oneC_x)) rfl rfl ?_
 refine fs_qg 19 [16, 18] [] rfl rfl (y_ixf 0 Tryd.underlying25 ti50 rfl rfl rfl (by decide) rfl) rfl rfl ?_
 refine fs_qg 20 [16, 19] [] rfl rfl (y_fldf Tryd.underlying50 rfl ti3 (by decide) rfl rfl) rfl rfl ?_
 refine fs_qg 21 [16, 20] [] rfl rfl (y_load ti3 rfl rfl (by first | rfl | (simp; done))) rfl rfl ?_
 refine fs_qg 22 [16, 21] [] rfl rfl ((y_p rfl).v (v' := .b true) (rfl)) rfl rfl ?_
 refine fs_q 23 [16, 22] [] (y_p rfl) rfl rfl ?_
 refine fs_q 24 [23] [] (y_p rfl) rfl rfl ?_
 refine fs_qg 25 [24] [(8, none)] rfl rfl (y_fld Tryd.underlying27 rfl ti24 (by decide) rfl rfl) rfl rfl ?_
 refine fs_qg 26 [24, 25] [(8, none)] rfl rfl (y_load ti24 rfl rfl (cas_E oneC_x)) rfl rfl ?_
 refine fs_qg 27 [24, 26] [] rfl rfl (y_len Tryd.underlying24 rfl rfl rfl) rfl rfl ?_
 refine fs_qg 28 [24, 27] [] rfl rfl ((y_p rfl).v (v' := .b true) (rfl)) rfl rfl ?_
 refine fs_q 29 [24, 28] [] (y_p rfl) rfl rfl ?_
 refine fs_q 30 [29] [] (y_p rfl) rfl rfl ?_
 refine fs_qg 31 [30] [] rfl rfl (y_p rfl) rfl rfl ?_
 refine fs_q 32 [30, 31] [] (y_p rfl) rfl rfl ?_
 refine fs_q 33 [32] [] (y_p rfl) rfl rfl ?_
 refine fs_qg 34 [33] [] rfl rfl (y_p rfl) rfl rfl ?_
 refine fs_qg 35 [33, 34] [] rfl rfl (y_p rfl) rfl rfl ?_
 refine fs_q 36 [33, 35] [] (y_p rfl) rfl rfl ?_
 refine fs_q 37 [36] [] (y_p rfl) rfl rfl ?_
 refine fs_qg 38 [37] [] rfl rfl (y_p rfl) rfl rfl ?_
 refine fs_q 39 [37, 38] [] (y_p rfl) rfl rfl ?_
 refine fs_q 40 [39] [] (y_p rfl) rfl rfl ?_
 refine fs_qg 41 [40] [(20, none)] rfl rfl (y_loadA0 ti27 rfl rfl (cas_len oneC_x)) rfl rfl ?_
 refine fs_qg 42 [40] [(8, none)] rfl rfl (y_loadA0 ti27 rfl rfl (cas_len oneC_x)) rfl rfl ?_
 refine fs_call false 43 [40, 41, 42] [] (gy1 rfl rfl) rfl (.cons (.pure pu) (.cons (.pure pu) (.nil))) (Con.cast (rsame_ok oneC oneC oneC_x oneC_x (Nat.zero_le _) (Nat.zero_le _) (by decide)) (congrArg A.b (sameC_self _))) pu (.inl rfl) rfl rfl ?_
 refine fs_q 44 [40, 43] [] (y_p rfl) rfl rfl ?_
 refine fs_q 45 [44] [] (y_p rfl) rfl rfl ?_
 refine fs_qg 46 [45] [(22, none)] rfl rfl (y_loadA0 ti23 rfl rfl (by simp)) rfl rfl ?_
 refine fs_qg 47 [45] [] rfl rfl (y_p rfl) rfl rfl ?_
 refine fs_call false 48 [45, 47] [] (gy1 rfl rfl) rfl (.cons (.pure pu) (.cons (.pure pu) (.nil))) (Con.cast (tagged_ok tagC (casV oneC).enc (Nat.le_trans (enc_cas oneC_chk oneC_x) (by decide)) (by decide)) (congrArg (fun l : List UInt8 => A.ag (l.map u8)) (digC_eq oneC).symm)) pu (.inl rfl) rfl rfl ?_
 refine fs_qg 49 [45, 46, 48] [] rfl rfl ((y_aq Tryd.underlying23 Tryd.underlying5 ti5 (by kernel_rfl) rfl rfl (by first | assumption | (simp; done) | (simp [*]; done)) (by first | assumption | (simp; done) | (simp [*]; done))).v (v' := .b true) (congrArg A.b (by simp))) rfl rfl ?_
 refine fs_q 50 [45, 49] [] (y_p rfl) rfl rfl ?_
 refine fs_q 51 [50] [] (y_p rfl) rfl rfl ?_
 refine fs_qg 52 [51] [] rfl rfl (YO.v (v' := .ag casN) (y_bld (out := _) [(List.replicate 32 (.int .u8 0)).map evC, [evC (.slice none 0 0)], [evC (.slice none 0 0)]] ti27 rfl Tryd.underlying27 (by kernel_rfl) rfl rfl trivial rfl) (rfl)) rfl rfl ?_
 refine fs_call false 53 [51, 52] [] (gy1 rfl rfl) rfl (.cons (.ag vw_zero) (.nil)) (Con.cast (cchk_ok casZ rfl (Nat.zero_le _)) (congrArg (A.i .i64) (by decide : errC (chkC casZ) = 0))) pu (.inl rfl) rfl rfl ?_
 refine fs_qg 54 [51, 53] [] rfl rfl ((y_p rfl).v (v' := .b true) (rfl)) rfl rfl ?_
 refine fs_q 55 [51, 54] [] (y_p rfl) rfl rfl ?_
 refine fs_q 56 [55] [] (y_p rfl) rfl rfl ?_
 refine fs_bsZ 57 [56] (gy1 rfl rfl) Tryd.underlying24 ti3 rfl rfl rfl (len_one rfl) (flatA_one rfl) pul rfl rfl rfl rfl ?_
 refine fs_qg 58 [56, 57] [] rfl rfl (YO.v (v' := .ag (Z32.map u8 ++ [.nl, intsA [-1]])) (y_bld (out := _) [(List.replicate 32 (.int .u8 0)).map evC, [evC (.slice none 0 0)], [evC (.slice none 0 0)]] ti27 rfl Tryd.underlying27 (by kernel_rfl) rfl rfl ⟨⟨by (first | rfl | omega | (simp; done) | (simp [*]; done) | (simp [cellsA, *]; done)), rfl⟩, trivial⟩ rfl) (rfl)) rfl rfl ?_
 refine fs_call false 59 [56, 58] [] (gy1 rfl rfl) rfl (.cons (.ag (vw_zeroE [-1])) .nil) (Con.cast (cchk_ok ⟨List.replicate 32 0, [], [-1]⟩ rfl (by decide)) (congrArg (A.i .i64) (by decide : errC (chkC ⟨List.replicate 32 0, [], [-1]⟩) = 340))) pu (.inl rfl) rfl rfl ?_
 refine fs_qg 60 [56, 59] [] rfl rfl ((y_p rfl).v (v' := .b true) (rfl)) rfl rfl ?_
 refine fs_q 61 [56, 60] [] (y_p rfl) rfl rfl ?_
 refine fs_end (by kernel_rfl) ?_
 refine s1 (y_p rfl) rfl ?_
 refine at_nil <| x_tn <| at_ret ?_
 refine at_result (rs := [.tmp 0]) rfl (r_tmp rfl r_nil) ?_
 rfl
end Go.Abs.D2
-- C4V
namespace Go.Abs.D2
open Go Go.Eng Go.Abs
theorem few_c {c : Cas} (h : fewC c = true) : c.E.length ≤ 60 ∧ c.F.length ≤ 20 ∧ ∀ f ∈ c.F, f.D.length ≤ 1000000 := by
  obtain ⟨h1, h2, h3⟩ := fewC_spec h
  exact ⟨h3, h1, fun f hf => Nat.le_trans (h2 f hf) (by decide)⟩
theorem code_ways (c : Cas) (n : Nat) : fewC c = false ∨ (fewC c = true ∧ 4000 < n) ∨ (fewC c = true ∧ n ≤ 4000 ∧ chkC c = false) ∨ (fewC c = true ∧ n ≤ 4000 ∧ chkC c = true) := by
  rcases Nat.lt_or_ge 4000 n with h | h
  · cases fewC c
    · exact .inl rfl
    · exact .inr (.inl ⟨rfl, h⟩)
  · cases fewC c
    · exact .inl rfl
    · cases chkC c
      · exact .inr (.inr (.inl ⟨rfl, h, rfl⟩))
      · exact .inr (.inr (.inr ⟨rfl, h, rfl⟩))
def digF (c : Cas) : List UInt8 := if chkC c then digC c else Z32
theorem dig_form (c : Cas) : digCA c = .tu [.ag ((digF c).map u8), .i .i64 (errC (chkC c))] := by
  unfold digF
  cases h : chkC c with
  | true => exact digCA_y h
  | false => exact digCA_n h
@[simp] theorem len_digF (c : Cas) : (digF c).length = 32 := by unfold digF; split <;> simp
theorem one_of2 {α : Type} {a b l : α} {i : Nat} (h : [a, b][i]? = some l) : l = a ∨ l = b := by
  match i, h with
  | 0, h => exact .inl (Option.some.inj h).symm
  | 1, h => exact .inr (Option.some.inj h).symm
theorem wk_none {b : List UInt8} (h : decC b = casZ) : Wk (decCA b) (.tu [.ag (casL casZ), .i .i64 (decE b)]) := h ▸ wk_dec b
end Go.Abs.D2
-- L4B
namespace Go.Abs.D2
open Go Go.Eng Go.Abs Go.Proofs 
theorem law_code (c : Cas) (hc : c.x.length = 32) (b : List UInt8) : Con Tryd.prog 5 [.ag (casL c), .fz b.length (b.map u8)] (Ret (.b true)) := by
 refine enter Tryd.func5 rfl Tryd.ntmps5 (by kernel_rfl) (Nat.le_of_ble_eq_true rfl) fun w0 X0 hI => ?_
 refine at_seq <| at_region ?_
 refine at_op rfl (n_boxA 2 rfl rfl rfl ?_)
 refine s1 (y_p rfl) rfl ?_
 refine at_nil <| x_tn <| at_seq <| at_seq <| at_region ?_
 refine at_op rfl (n_call false rfl (.nil) (sane34_ok) pu (.inl rfl) rfl ?_)
 refine s1 (y_p rfl) rfl ?_
 refine at_nil <| x_tn ?_
 refine at_else rfl ?_
 refine at_skip <| x_tn <| at_seq <| at_seq ?_
 rcases code_ways c b.length with hcs | hcs | hcs | hcs
 ·skip
  refine at_region <| s1 (y_loadA0 ti27 rfl rfl (cas_len hc)) rfl ?_
  refine at_op rfl (n_call false rfl (.cons (.pure pu) (.nil)) (Con.cast (sfewc_ok c hc) (congrArg A.b hcs)) pu (.inl rfl) rfl ?_)
  refine s1 (y_p rfl) rfl <| s1 (y_p rfl) rfl <| g0 rfl rfl rfl rfl <| g0 rfl rfl rfl rfl <| g0 rfl rfl rfl rfl <| s1 (y_p rfl) rfl ?_
  refine at_nil <| x_tn ?_
  refine at_then rfl ?_
  refine at_seq <| at_region <| s1 (y_p rfl) rfl ?_
  refine at_nil <| x_tn <| at_ret <| x_tr ?_
  refine at_result (rs := [.tmp 4]) rfl (r_tmp rfl r_nil) ?_
  rfl
 ·obtain ⟨hf, hb4⟩ := hcs
  refine at_region <| s1 (y_loadA0 ti27 rfl rfl (cas_len hc)) rfl ?_
  refine at_op rfl (n_call false rfl (.cons (.pure pu) (.nil)) (Con.cast (sfewc_ok c hc) (congrArg A.b hf)) pu (.inl rfl) rfl ?_)
  refine s1 (y_p rfl) rfl <| s1 (y_p rfl) rfl <| g1 rfl rfl (y_p rfl) rfl <| g1 rfl rfl (y_len Tryd.underlying40 rfl rfl rfl) rfl <| g1 rfl rfl ((y_p rfl).v (v' := .b true) (congrArg A.b (decide_eq_true (by omega)))) rfl <| s1 (y_p rfl) rfl ?_
  refine at_nil <| x_tn ?_
  refine at_then rfl ?_
  refine at_seq <| at_region <| s1 (y_p rfl) rfl ?_
  refine at_nil <| x_tn <| at_ret <| x_tr ?_
  refine at_result (rs := [.tmp 4]) rfl (r_tmp rfl r_nil) ?_
  rfl
 ·obtain ⟨hf, hb4, hk⟩ := hcs
  obtain ⟨hE, hF, hD⟩ := few_c hf
  refine at_region <| s1 (y_loadA0 ti27 rfl rfl (cas_len hc)) rfl ?_
  refine at_op rfl (n_call false rfl (.cons (.pure pu) (.nil)) (Con.cast (sfewc_ok c hc) (congrArg A.b hf)) pu (.inl rfl) rfl ?_)
  refine s1 (y_p rfl) rfl <| s1 (y_p rfl) rfl <| g1 rfl rfl (y_p rfl) rfl <| g1 rfl rfl (y_len Tryd.underlying40 rfl rfl rfl) rfl <| g1 rfl rfl ((y_p rfl).v (v' := .b false) (congrArg A.b (decide_eq_false (by omega)))) rfl <| s1 (y_p rfl) rfl ?_
  refine at_nil <| x_tn ?_
  refine at_else rfl ?_
  refine at_skip <| x_tn <| at_seq <| at_region <| s1 (y_loadA0 ti27 rfl rfl (cas_len hc)) rfl ?_
  refine at_op rfl (n_call false rfl (.cons (.pure pu) (.nil)) (Con.cast (cencC_ok c hc (by simp only [maxLen]; omega)) (encCA_n hk)) pu (.inl rfl) rfl ?_)
  refine s1 (y_p rfl) rfl <| s1 (y_p rfl) rfl <| s1 (y_p rfl) rfl <| s1 (y_p rfl) rfl <| s1 (y_p rfl) rfl ?_
  refine at_nil <| x_tn <| at_seq <| at_region <| s1 (y_loadA0 ti27 rfl rfl (cas_len hc)) rfl ?_
  refine at_op rfl (n_call false rfl (.cons (.pure pu) (.nil)) (Con.cast (rencC_ok c hc (by simp only [maxLen]; omega) hD) (encCA_n hk)) pu (.inl rfl) rfl ?_)
  refine s1 (y_p rfl) rfl <| s1 (y_p rfl) rfl <| s1 (y_p rfl) rfl <| s1 (y_p rfl) rfl <| s1 (y_p rfl) rfl ?_
  refine at_nil <| x_tn <| at_seq <| at_region <| s1 (y_loadA0 ti27 rfl rfl (cas_len hc)) rfl ?_
  refine at_op rfl (n_call false rfl (.cons (.pure pu) (.nil)) (Con.cast (cdigC_ok c hc (by simp only [maxLen]; omega)) (dig_form c)) pu (.inl rfl) rfl ?_)
  refine s1 (y_p rfl) rfl <| s1 (y_p rfl) rfl <| s1 (y_p rfl) rfl ?_
  refine at_op rfl (n_alloc 9 rfl ti23 rfl rfl ?_)
  refine at_op rfl (n_storeA ti23 rfl rfl rfl (by first | rfl | omega | (simp <;> omega) | (simp [*] <;> omega)) (by first | rfl | omega | (simp <;> omega) | (simp [*] <;> omega)) ?_)
  refine s1 (y_p rfl) rfl ?_
  refine at_nil <| x_tn <| at_seq <| at_region <| s1 (y_loadA0 ti27 rfl rfl (cas_len hc)) rfl ?_
  refine at_op rfl (n_call false rfl (.cons (.pure pu) (.nil)) (Con.cast (rdigC_ok c hc (by simp only [maxLen]; omega) hD) (dig_form c)) pu (.inl rfl) rfl ?_)
  refine s1 (y_p rfl) rfl <| s1 (y_p rfl) rfl <| s1 (y_p rfl) rfl ?_
  refine at_op rfl (n_alloc 11 rfl ti23 rfl rfl ?_)
  refine at_op rfl (n_storeA ti23 rfl rfl rfl (by first | rfl | omega | (simp <;> omega) | (simp [*] <;> omega)) (by first | rfl | omega | (simp <;> omega) | (simp [*] <;> omega)) ?_)
  refine s1 (y_p rfl) rfl ?_
  refine at_nil <| x_tn <| at_seq <| at_seq ?_
  refine at_nlfz 5 rfl ?_
  refine at_nlfz 7 rfl ?_
  have he0 : ([] : List UInt8).length ≤ 30000 := by decide
  refine at_region <| s1 (y_p rfl) rfl <| s1 (y_str (l := []) Tryd.underlying40 Tryd.underlying5 Tryd.underlying9 rfl rfl rfl) rfl <| s1 (y_p rfl) rfl <| s1 (y_str (l := []) Tryd.underlying40 Tryd.underlying5 Tryd.underlying9 rfl rfl rfl) rfl <| s1 ((y_p rfl).v (v' := .b false) (congrArg A.b (by simp))) rfl <| s1 (y_p rfl) rfl <| g1 rfl rfl (y_p rfl) rfl <| g1 rfl rfl (y_p rfl) rfl <| g1 rfl rfl ((y_p rfl).v (v' := .b false) (congrArg A.b (by simp))) rfl <| s1 (y_p rfl) rfl ?_
  refine s1 (y_p rfl) rfl <| g1 rfl rfl (y_loadA0 ti23 rfl rfl (by simp)) rfl <| g1 rfl rfl (y_loadA0 ti23 rfl rfl (by simp)) rfl <| g1 rfl rfl ((y_aqn Tryd.underlying23 Tryd.underlying5 ti5 (by kernel_rfl) rfl rfl (by first | assumption | (simp; done) | (simp [*]; done)) (by first | assumption | (simp; done) | (simp [*]; done))).v (v' := .b false) (congrArg A.b (by simp))) rfl <| s1 (y_p rfl) rfl <| s1 (y_p rfl) rfl <| g1 rfl rfl (y_p rfl) rfl <| g1 rfl rfl (y_p rfl) rfl <| g1 rfl rfl ((y_p rfl).v (v' := .b false) (congrArg A.b (by simp))) rfl <| s1 (y_p rfl) rfl ?_
  refine at_nil <| x_tn ?_
  refine at_else rfl ?_
  refine at_skip <| x_tn <| at_seq <| at_seq <| at_region <| s1 (y_p rfl) rfl <| s1 (y_p rfl) rfl ?_
  refine at_op rfl (n_bsZ Tryd.underlying45 ti40 rfl rfl rfl (len_one rfl) (flatA_one rfl) pul rfl rfl rfl ?_)
  refine at_say 71 rfl (v' := .fz 2 ([b, []].map V6.slV)) rfl ?_
  refine s1 (y_len Tryd.underlying45 rfl rfl rfl) rfl <| s1 ((y_p rfl).v (v' := .i .i64 0) rfl) rfl ?_
  refine at_nil <| x_tn <| at_block ?_
  refine at_loop (ι := Nat) (fun i => [(71, .fz 2 ([b, []].map V6.slV)), (72, nJ 2), (73, nJ i)]) (fun i => ⟨[]⟩) (fun i => i ≤ 2) (fun i => 2 - i) ?_ ?_
  ·exact at_ex (0) (by omega) [] hI rfl rfl ⟨⟨_, rfl, .pure pu⟩, ⟨_, rfl, .pure pu⟩, ⟨_, rfl, .pure pu⟩, trivial⟩ trivial
  rintro i hi
  refine at_seq <| at_region <| s1 (y_p rfl) rfl ?_
  refine at_nil <| x_tn <| at_seq ?_
  refine at_cond rfl (fun hc74 => ?_) (fun hc74 => ?_)
  ·have h74 : i < 2 := by have := of_decide_eq_true hc74; omega
   obtain ⟨l, hl⟩ : ∃ l, [b, []][i]? = some l := ⟨_, List.getElem?_eq_getElem h74⟩
   have hll : l.length ≤ 1000000 := by rcases one_of2 hl with rfl | rfl <;> omega
   obtain ⟨hdx, hdE, hdF⟩ := decC_small (b := l) (by omega)
   refine at_skip <| x_tn <| at_seq <| at_block <| at_seq <| at_region <| s1 (y_ixf i Tryd.underlying45 ti40 rfl rfl rfl (by omega) rfl) rfl <| s1 (y_load ti40 rfl rfl (V6.getR hl)) rfl <| s1 (y_p rfl) rfl ?_
   refine at_nil <| x_tn <| at_seq <| at_region <| s1 (y_p rfl) rfl ?_
   refine at_op rfl (n_call false rfl (.cons (.pure pu) (.nil)) (Con.wk (cdecC_ok l hll) (wk_dec l)) pu (.inl rfl) rfl ?_)
   refine s1 (y_p rfl) rfl <| s1 (y_p rfl) rfl <| s1 (y_p rfl) rfl ?_
   refine at_op rfl (n_alloc 15 rfl ti27 rfl rfl ?_)
   refine at_op rfl (n_storeA ti27 rfl rfl rfl (cas_len hdx) (by first | rfl | omega | (simp <;> omega) | (simp [*] <;> omega)) ?_)
   refine s1 (y_p rfl) rfl ?_
   refine at_nil <| x_tn <| at_seq <| at_region <| s1 (y_p rfl) rfl ?_
   refine at_op rfl (n_call false rfl (.cons (.pure pu) (.nil)) (Con.wk (rdecC_ok l hll) (wk_dec l)) pu (.inl rfl) rfl ?_)
   refine s1 (y_p rfl) rfl <| s1 (y_p rfl) rfl <| s1 (y_p rfl) rfl ?_
   refine at_op rfl (n_alloc 17 rfl ti27 rfl rfl ?_)
   refine at_op rfl (n_storeA ti27 rfl rfl rfl (cas_len hdx) (by first | rfl | omega | (simp <;> omega) | (simp [*] <;> omega)) ?_)
   refine s1 (y_p rfl) rfl ?_
   refine at_nil <| x_tn <| at_seq <| at_region <| s1 (y_loadA0 ti27 rfl rfl (cas_len hdx)) rfl <| s1 (y_loadA0 ti27 rfl rfl (cas_len hdx)) rfl ?_
   refine at_op rfl (n_call false rfl (.cons (.pure pu) (.cons (.pure pu) (.nil))) (Con.cast (rsame_ok (decC l) (decC l) hdx hdx (by simp only [maxLen]; omega) (by simp only [maxLen]; omega) (by omega)) (congrArg A.b (sameC_self _))) pu (.inl rfl) rfl ?_)
   refine s1 (y_p rfl) rfl <| s1 (y_p rfl) rfl <| g1 rfl rfl (y_p rfl) rfl <| g1 rfl rfl (y_p rfl) rfl <| g1 rfl rfl ((y_p rfl).v (v' := .b false) (congrArg A.b (by simp))) rfl <| s1 (y_p rfl) rfl ?_
   refine at_nil <| x_tn ?_
   refine at_else rfl ?_
   refine at_skip <| x_bn <| x_tn <| at_region <| s1 (addN _ 1 rfl rfl rfl rfl (by omega)) rfl <| s1 (y_p rfl) rfl ?_
   refine at_nil ?_
   exact at_end (i + 1) (by omega) (by omega) [] hI rfl rfl ⟨⟨_, rfl, .pure pu⟩, ⟨_, rfl, .pure pu⟩, ⟨_, rfl, .pure pu⟩, trivial⟩ trivial
  ·skip
   refine at_exit <| x_te <| x_te <| x_be <| x_tn <| at_seq <| at_region <| s1 (y_p rfl) rfl ?_
   refine at_nil <| x_tn <| at_ret ?_
   refine at_result (rs := [.tmp 4]) rfl (r_tmp rfl r_nil) ?_
   rfl
 ·obtain ⟨hf, hb4, hk⟩ := hcs
  obtain ⟨hE, hF, hD⟩ := few_c hf
  have he0 := enc_cas hk hc
  refine at_region <| s1 (y_loadA0 ti27 rfl rfl (cas_len hc)) rfl ?_
  refine at_op rfl (n_call false rfl (.cons (.pure pu) (.nil)) (Con.cast (sfewc_ok c hc) (congrArg A.b hf)) pu (.inl rfl) rfl ?_)
  refine s1 (y_p rfl) rfl <| s1 (y_p rfl) rfl <| g1 rfl rfl (y_p rfl) rfl <| g1 rfl rfl (y_len Tryd.underlying40 rfl rfl rfl) rfl <| g1 rfl rfl ((y_p rfl).v (v' := .b false) (congrArg A.b (decide_eq_false (by omega)))) rfl <| s1 (y_p rfl) rfl ?_
  refine at_nil <| x_tn ?_
  refine at_else rfl ?_
  refine at_skip <| x_tn <| at_seq <| at_region <| s1 (y_loadA0 ti27 rfl rfl (cas_len hc)) rfl ?_
  refine at_op rfl (n_call false rfl (.cons (.pure pu) (.nil)) (Con.cast (cencC_ok c hc (by simp only [maxLen]; omega)) (encCA_y hk)) pu (.inl rfl) rfl ?_)
  refine s1 (y_p rfl) rfl <| s1 (y_p rfl) rfl <| s1 (y_p rfl) rfl <| s1 (y_p rfl) rfl <| s1 (y_p rfl) rfl ?_
  refine at_nil <| x_tn <| at_seq <| at_region <| s1 (y_loadA0 ti27 rfl rfl (cas_len hc)) rfl ?_
  refine at_op rfl (n_call false rfl (.cons (.pure pu) (.nil)) (Con.cast (rencC_ok c hc (by simp only [maxLen]; omega) hD) (encCA_y hk)) pu (.inl rfl) rfl ?_)
  refine s1 (y_p rfl) rfl <| s1 (y_p rfl) rfl <| s1 (y_p rfl) rfl <| s1 (y_p rfl) rfl <| s1 (y_p rfl) rfl ?_
  refine at_nil <| x_tn <| at_seq <| at_region <| s1 (y_loadA0 ti27 rfl rfl (cas_len hc)) rfl ?_
  refine at_op rfl (n_call false rfl (.cons (.pure pu) (.nil)) (Con.cast (cdigC_ok c hc (by simp only [maxLen]; omega)) (dig_form c)) pu (.inl rfl) rfl ?_)
  refine s1 (y_p rfl) rfl <| s1 (y_p rfl) rfl <| s1 (y_p rfl) rfl ?_
  refine at_op rfl (n_alloc 9 rfl ti23 rfl rfl ?_)
  refine at_op rfl (n_storeA ti23 rfl rfl rfl (by first | rfl | omega | (simp <;> omega) | (simp [*] <;> omega)) (by first | rfl | omega | (simp <;> omega) | (simp [*] <;> omega)) ?_)
  refine s1 (y_p rfl) rfl ?_
  refine at_nil <| x_tn <| at_seq <| at_region <| s1 (y_loadA0 ti27 rfl rfl (cas_len hc)) rfl ?_
  refine at_op rfl (n_call false rfl (.cons (.pure pu) (.nil)) (Con.cast (rdigC_ok c hc (by simp only [maxLen]; omega) hD) (dig_form c)) pu (.inl rfl) rfl ?_)
  refine s1 (y_p rfl) rfl <| s1 (y_p rfl) rfl <| s1 (y_p rfl) rfl ?_
  refine at_op rfl (n_alloc 11 rfl ti23 rfl rfl ?_)
  refine at_op rfl (n_storeA ti23 rfl rfl rfl (by first | rfl | omega | (simp <;> omega) | (simp [*] <;> omega)) (by first | rfl | omega | (simp <;> omega) | (simp [*] <;> omega)) ?_)
  refine s1 (y_p rfl) rfl ?_
  refine at_nil <| x_tn <| at_seq <| at_seq ?_
  skip
  refine at_region <| s1 (y_p rfl) rfl <| s1 (y_str (l := (casV c).enc) Tryd.underlying40 Tryd.underlying5 Tryd.underlying9 rfl rfl rfl) rfl <| s1 (y_p rfl) rfl <| s1 (y_str (l := (casV c).enc) Tryd.underlying40 Tryd.underlying5 Tryd.underlying9 rfl rfl rfl) rfl <| s1 ((y_p rfl).v (v' := .b false) (congrArg A.b (by simp))) rfl <| s1 (y_p rfl) rfl <| g1 rfl rfl (y_p rfl) rfl <| g1 rfl rfl (y_p rfl) rfl <| g1 rfl rfl ((y_p rfl).v (v' := .b false) (congrArg A.b (by simp))) rfl <| s1 (y_p rfl) rfl ?_
  refine s1 (y_p rfl) rfl <| g1 rfl rfl (y_loadA0 ti23 rfl rfl (by simp)) rfl <| g1 rfl rfl (y_loadA0 ti23 rfl rfl (by simp)) rfl <| g1 rfl rfl ((y_aqn Tryd.underlying23 Tryd.underlying5 ti5 (by kernel_rfl) rfl rfl (by first | assumption | (simp; done) | (simp [*]; done)) (by first | assumption | (simp; done) | (simp [*]; done))).v (v' := .b false) (congrArg A.b (by simp))) rfl <| s1 (y_p rfl) rfl <| s1 (y_p rfl) rfl <| g1 rfl rfl (y_p rfl) rfl <| g1 rfl rfl (y_p rfl) rfl <| g1 rfl rfl ((y_p rfl).v (v' := .b false) (congrArg A.b (by simp))) rfl <| s1 (y_p rfl) rfl ?_
  refine at_nil <| x_tn ?_
  refine at_else rfl ?_
  refine at_skip <| x_tn <| at_seq <| at_seq <| at_region <| s1 (y_p rfl) rfl <| s1 (y_p rfl) rfl ?_
  refine at_op rfl (n_bsZ Tryd.underlying45 ti40 rfl rfl rfl (len_one rfl) (flatA_one rfl) pul rfl rfl rfl ?_)
  refine at_say 71 rfl (v' := .fz 2 ([b, (casV c).enc].map V6.slV)) rfl ?_
  refine s1 (y_len Tryd.underlying45 rfl rfl rfl) rfl <| s1 ((y_p rfl).v (v' := .i .i64 0) rfl) rfl ?_
  refine at_nil <| x_tn <| at_block ?_
  refine at_loop (ι := Nat) (fun i => [(71, .fz 2 ([b, (casV c).enc].map V6.slV)), (72, nJ 2), (73, nJ i)]) (fun i => ⟨[]⟩) (fun i => i ≤ 2) (fun i => 2 - i) ?_ ?_
  ·exact at_ex (0) (by omega) [] hI rfl rfl ⟨⟨_, rfl, .pure pu⟩, ⟨_, rfl, .pure pu⟩, ⟨_, rfl, .pure pu⟩, trivial⟩ trivial
  rintro i hi
  refine at_seq <| at_region <| s1 (y_p rfl) rfl ?_
  refine at_nil <| x_tn <| at_seq ?_
  refine at_cond rfl (fun hc74 => ?_) (fun hc74 => ?_)
  ·have h74 : i < 2 := by have := of_decide_eq_true hc74; omega
   obtain ⟨l, hl⟩ : ∃ l, [b, (casV c).enc][i]? = some l := ⟨_, List.getElem?_eq_getElem h74⟩
   have hll : l.length ≤ 1000000 := by rcases one_of2 hl with rfl | rfl <;> omega
   obtain ⟨hdx, hdE, hdF⟩ := decC_small (b := l) (by omega)
   refine at_skip <| x_tn <| at_seq <| at_block <| at_seq <| at_region <| s1 (y_ixf i Tryd.underlying45 ti40 rfl rfl rfl (by omega) rfl) rfl <| s1 (y_load ti40 rfl rfl (V6.getR hl)) rfl <| s1 (y_p rfl) rfl ?_
   refine at_nil <| x_tn <| at_seq <| at_region <| s1 (y_p rfl) rfl ?_
   refine at_op rfl (n_call false rfl (.cons (.pure pu) (.nil)) (Con.wk (cdecC_ok l hll) (wk_dec l)) pu (.inl rfl) rfl ?_)
   refine s1 (y_p rfl) rfl <| s1 (y_p rfl) rfl <| s1 (y_p rfl) rfl ?_
   refine at_op rfl (n_alloc 15 rfl ti27 rfl rfl ?_)
   refine at_op rfl (n_storeA ti27 rfl rfl rfl (cas_len hdx) (by first | rfl | omega | (simp <;> omega) | (simp [*] <;> omega)) ?_)
   refine s1 (y_p rfl) rfl ?_
   refine at_nil <| x_tn <| at_seq <| at_region <| s1 (y_p rfl) rfl ?_
   refine at_op rfl (n_call false rfl (.cons (.pure pu) (.nil)) (Con.wk (rdecC_ok l hll) (wk_dec l)) pu (.inl rfl) rfl ?_)
   refine s1 (y_p rfl) rfl <| s1 (y_p rfl) rfl <| s1 (y_p rfl) rfl ?_
   refine at_op rfl (n_alloc 17 rfl ti27 rfl rfl ?_)
   refine at_op rfl (n_storeA ti27 rfl rfl rfl (cas_len hdx) (by first | rfl | omega | (simp <;> omega) | (simp [*] <;> omega)) ?_)
   refine s1 (y_p rfl) rfl ?_
   refine at_nil <| x_tn <| at_seq <| at_region <| s1 (y_loadA0 ti27 rfl rfl (cas_len hdx)) rfl <| s1 (y_loadA0 ti27 rfl rfl (cas_len hdx)) rfl ?_
   refine at_op rfl (n_call false rfl (.cons (.pure pu) (.cons (.pure pu) (.nil))) (Con.cast (rsame_ok (decC l) (decC l) hdx hdx (by simp only [maxLen]; omega) (by simp only [maxLen]; omega) (by omega)) (congrArg A.b (sameC_self _))) pu (.inl rfl) rfl ?_)
   refine s1 (y_p rfl) rfl <| s1 (y_p rfl) rfl <| g1 rfl rfl (y_p rfl) rfl <| g1 rfl rfl (y_p rfl) rfl <| g1 rfl rfl ((y_p rfl).v (v' := .b false) (congrArg A.b (by simp))) rfl <| s1 (y_p rfl) rfl ?_
   refine at_nil <| x_tn ?_
   refine at_else rfl ?_
   refine at_skip <| x_bn <| x_tn <| at_region <| s1 (addN _ 1 rfl rfl rfl rfl (by omega)) rfl <| s1 (y_p rfl) rfl ?_
   refine at_nil ?_
   exact at_end (i + 1) (by omega) (by omega) [] hI rfl rfl ⟨⟨_, rfl, .pure pu⟩, ⟨_, rfl, .pure pu⟩, ⟨_, rfl, .pure pu⟩, trivial⟩ trivial
  ·skip
   refine at_exit <| x_te <| x_te <| x_be <| x_tn <| at_seq <| at_region <| s1 (y_p rfl) rfl ?_
   refine at_nil <| x_tn <| at_ret ?_
   refine at_result (rs := [.tmp 4]) rfl (r_tmp rfl r_nil) ?_
   rfl
theorem law_back (c : Cas) (hc : c.x.length = 32) (b : List UInt8) : Con Tryd.prog 9 [.ag (casL c), .fz b.length (b.map u8)] (Ret (.b true)) := by
 refine enter Tryd.func9 rfl Tryd.ntmps9 (by kernel_rfl) (Nat.le_of_ble_eq_true rfl) fun w0 X0 hI => ?_
 refine at_seq <| at_region ?_
 refine at_op rfl (n_boxA 2 rfl rfl rfl ?_)
 refine s1 (y_p rfl) rfl ?_
 refine at_nil <| x_tn <| at_seq <| at_seq <| at_region ?_
 refine at_op rfl (n_call false rfl (.nil) (sane34_ok) pu (.inl rfl) rfl ?_)
 refine s1 (y_p rfl) rfl ?_
 refine at_nil <| x_tn ?_
 refine at_else rfl ?_
 refine at_skip <| x_tn <| at_seq <| at_seq ?_
 rcases code_ways c b.length with hcs | hcs | hcs | hcs
 ·skip
  refine at_region <| s1 (y_loadA0 ti27 rfl rfl (cas_len hc)) rfl ?_
  refine at_op rfl (n_call false rfl (.cons (.pure pu) (.nil)) (Con.cast (sfewc_ok c hc) (congrArg A.b hcs)) pu (.inl rfl) rfl ?_)
  refine s1 (y_p rfl) rfl <| s1 (y_p rfl) rfl <| g0 rfl rfl rfl rfl <| g0 rfl rfl rfl rfl <| g0 rfl rfl rfl rfl <| s1 (y_p rfl) rfl ?_
  refine at_nil <| x_tn ?_
  refine at_then rfl ?_
  refine at_seq <| at_region <| s1 (y_p rfl) rfl ?_
  refine at_nil <| x_tn <| at_ret <| x_tr ?_
  refine at_result (rs := [.tmp 4]) rfl (r_tmp rfl r_nil) ?_
  rfl
 ·obtain ⟨hf, hb4⟩ := hcs
  refine at_region <| s1 (y_loadA0 ti27 rfl rfl (cas_len hc)) rfl ?_
  refine at_op rfl (n_call false rfl (.cons (.pure pu) (.nil)) (Con.cast (sfewc_ok c hc) (congrArg A.b hf)) pu (.inl rfl) rfl ?_)
  refine s1 (y_p rfl) rfl <| s1 (y_p rfl) rfl <| g1 rfl rfl (y_p rfl) rfl <| g1 rfl rfl (y_len Tryd.underlying40 rfl rfl rfl) rfl <| g1 rfl rfl ((y_p rfl).v (v' := .b true) (congrArg A.b (decide_eq_true (by omega)))) rfl <| s1 (y_p rfl) rfl ?_
  refine at_nil <| x_tn ?_
  refine at_then rfl ?_
  refine at_seq <| at_region <| s1 (y_p rfl) rfl ?_
  refine at_nil <| x_tn <| at_ret <| x_tr ?_
  refine at_result (rs := [.tmp 4]) rfl (r_tmp rfl r_nil) ?_
  rfl
 ·obtain ⟨hf, hb4, hk⟩ := hcs
  obtain ⟨hE, hF, hD⟩ := few_c hf
  refine at_region <| s1 (y_loadA0 ti27 rfl rfl (cas_len hc)) rfl ?_
  refine at_op rfl (n_call false rfl (.cons (.pure pu) (.nil)) (Con.cast (sfewc_ok c hc) (congrArg A.b hf)) pu (.inl rfl) rfl ?_)
  refine s1 (y_p rfl) rfl <| s1 (y_p rfl) rfl <| g1 rfl rfl (y_p rfl) rfl <| g1 rfl rfl (y_len Tryd.underlying40 rfl rfl rfl) rfl <| g1 rfl rfl ((y_p rfl).v (v' := .b false) (congrArg A.b (decide_eq_false (by omega)))) rfl <| s1 (y_p rfl) rfl ?_
  refine at_nil <| x_tn ?_
  refine at_else rfl ?_
  refine at_skip <| x_tn <| at_seq <| at_region <| s1 (y_loadA0 ti27 rfl rfl (cas_len hc)) rfl ?_
  refine at_op rfl (n_call false rfl (.cons (.pure pu) (.nil)) (Con.cast (cencC_ok c hc (by simp only [maxLen]; omega)) (encCA_n hk)) pu (.inl rfl) rfl ?_)
  refine s1 (y_p rfl) rfl <| s1 (y_p rfl) rfl <| s1 (y_p rfl) rfl <| s1 (y_p rfl) rfl <| s1 (y_p rfl) rfl ?_
  refine at_nil <| x_tn <| at_seq <| at_seq <| at_region <| s1 (y_p rfl) rfl <| s1 (y_loadA0 ti27 rfl rfl (cas_len hc)) rfl ?_
  refine at_op rfl (n_call false rfl (.cons (.pure pu) (.nil)) (Con.cast (cchk_ok c hc (by simp only [maxLen]; omega)) (congrArg (fun b => A.i .i64 (errC b)) hk)) pu (.inl rfl) rfl ?_)
  refine s1 ((y_p rfl).v (v' := .b false) (rfl)) rfl ?_
  refine at_nil <| x_tn ?_
  refine at_else rfl ?_
  refine at_skip <| x_tn <| at_seq <| at_seq <| at_region <| s1 (y_p rfl) rfl <| s1 ((y_p rfl).v (v' := .b false) (rfl)) rfl ?_
  refine at_nil <| x_tn ?_
  refine at_else rfl ?_
  refine at_skip <| x_tn <| at_seq ?_
  rcases dec_cases (b := b) (by omega) with hcs | hcs
  ·obtain ⟨d, hd, hde, hdk, hdx, hdb⟩ := hcs
   have hdd : decCA b = .tu [.ag (casL d), .i .i64 0] := by rw [← hdb]; exact dec_back hdk hdx
   obtain ⟨hdE, hdF, _⟩ := chk_small hdk
   refine at_region <| s1 (y_p rfl) rfl ?_
   refine at_op rfl (n_call false rfl (.cons (.pure pu) (.nil)) (Con.cast (cdecC_ok b (by omega)) hdd) pu (.inl rfl) rfl ?_)
   refine s1 (y_p rfl) rfl <| s1 (y_p rfl) rfl <| s1 (y_p rfl) rfl ?_
   refine at_op rfl (n_alloc 9 rfl ti27 rfl rfl ?_)
   refine at_op rfl (n_storeA ti27 rfl rfl rfl (cas_len hdx) (by first | rfl | omega | (simp <;> omega) | (simp [*] <;> omega)) ?_)
   refine s1 (y_p rfl) rfl ?_
   refine at_nil <| x_tn <| at_seq <| at_seq <| at_region <| s1 (y_p rfl) rfl <| s1 ((y_p rfl).v (v' := .b false) (rfl)) rfl ?_
   refine at_nil <| x_tn ?_
   refine at_else rfl ?_
   refine at_skip <| x_tn <| at_seq <| at_region <| s1 (y_loadA0 ti27 rfl rfl (cas_len hdx)) rfl ?_
   refine at_op rfl (n_call false rfl (.cons (.pure pu) (.nil)) (Con.cast (cencC_ok d hdx (by simp only [maxLen]; omega)) (encCA_y hdk)) pu (.inl rfl) rfl ?_)
   refine s1 (y_p rfl) rfl <| s1 (y_p rfl) rfl <| s1 (y_p rfl) rfl <| s1 (y_p rfl) rfl <| s1 (y_p rfl) rfl ?_
   refine at_nil <| x_tn <| at_seq <| at_region <| s1 (y_p rfl) rfl <| s1 ((y_p rfl).v (v' := .b true) (rfl)) rfl <| s1 (y_p rfl) rfl <| g1 rfl rfl (y_p rfl) rfl <| g1 rfl rfl (y_str (l := (casV d).enc) Tryd.underlying40 Tryd.underlying5 Tryd.underlying9 rfl rfl rfl) rfl <| g1 rfl rfl (y_p rfl) rfl <| g1 rfl rfl (y_str (l := b) Tryd.underlying40 Tryd.underlying5 Tryd.underlying9 rfl rfl rfl) rfl <| g1 rfl rfl ((y_p rfl).v (v' := .b true) (congrArg A.b (by simp [hdb]))) rfl <| s1 (y_p rfl) rfl <| s1 (y_p rfl) rfl ?_
   refine at_nil <| x_tn <| at_ret ?_
   refine at_result (rs := [.tmp 4]) rfl (r_tmp rfl r_nil) ?_
   rfl
  ·obtain ⟨hd, hde⟩ := hcs
   refine at_region <| s1 (y_p rfl) rfl ?_
   refine at_op rfl (n_call false rfl (.cons (.pure pu) (.nil)) (Con.wk (cdecC_ok b (by omega)) (wk_none hd)) pu (.inl rfl) rfl ?_)
   refine s1 (y_p rfl) rfl <| s1 (y_p rfl) rfl <| s1 (y_p rfl) rfl ?_
   refine at_op rfl (n_alloc 9 rfl ti27 rfl rfl ?_)
   refine at_op rfl (n_storeA ti27 rfl rfl rfl (cas_len (c := casZ) rfl) (by first | rfl | omega | (simp <;> omega) | (simp [*] <;> omega)) ?_)
   refine s1 (y_p rfl) rfl ?_
   refine at_nil <| x_tn <| at_seq <| at_seq <| at_region <| s1 (y_p rfl) rfl <| s1 ((y_p rfl).v (v' := .b true) (congrArg A.b (by simpa using hde))) rfl ?_
   refine at_nil <| x_tn ?_
   refine at_then rfl ?_
   refine at_seq <| at_region <| s1 (y_loadA0 ti27 rfl rfl (cas_len (c := casZ) rfl)) rfl <| s1 (YO.v (v' := .ag casN) (y_bld (out := _) [(List.replicate 32 (.int .u8 0)).map evC, [evC (.slice none 0 0)], [evC (.slice none 0 0)]] ti27 rfl Tryd.underlying27 (by kernel_rfl) rfl rfl trivial rfl) (rfl)) rfl ?_
   refine at_op rfl (n_call false rfl (.cons (.pure pu) (.cons (.ag vw_zero) .nil)) (Con.cast (rsame_ok casZ casZ rfl rfl (Nat.zero_le _) (Nat.zero_le _) (Nat.zero_le _)) (congrArg A.b (sameC_self _))) pu (.inl rfl) rfl ?_)
   refine s1 (y_p rfl) rfl ?_
   refine at_nil <| x_tn <| at_ret <| x_tr ?_
   refine at_result (rs := [.tmp 4]) rfl (r_tmp rfl r_nil) ?_
   rfl
 ·obtain ⟨hf, hb4, hk⟩ := hcs
  obtain ⟨hE, hF, hD⟩ := few_c hf
  have he0 := enc_cas hk hc
  refine at_region <| s1 (y_loadA0 ti27 rfl rfl (cas_len hc)) rfl ?_
  refine at_op rfl (n_call false rfl (.cons (.pure pu) (.nil)) (Con.cast (sfewc_ok c hc) (congrArg A.b hf)) pu (.inl rfl) rfl ?_)
  refine s1 (y_p rfl) rfl <| s1 (y_p rfl) rfl <| g1 rfl rfl (y_p rfl) rfl <| g1 rfl rfl (y_len Tryd.underlying40 rfl rfl rfl) rfl <| g1 rfl rfl ((y_p rfl).v (v' := .b false) (congrArg A.b (decide_eq_false (by omega)))) rfl <| s1 (y_p rfl) rfl ?_
  refine at_nil <| x_tn ?_
  refine at_else rfl ?_
  refine at_skip <| x_tn <| at_seq <| at_region <| s1 (y_loadA0 ti27 rfl rfl (cas_len hc)) rfl ?_
  refine at_op rfl (n_call false rfl (.cons (.pure pu) (.nil)) (Con.cast (cencC_ok c hc (by simp only [maxLen]; omega)) (encCA_y hk)) pu (.inl rfl) rfl ?_)
  refine s1 (y_p rfl) rfl <| s1 (y_p rfl) rfl <| s1 (y_p rfl) rfl <| s1 (y_p rfl) rfl <| s1 (y_p rfl) rfl ?_
  refine at_nil <| x_tn <| at_seq <| at_seq <| at_region <| s1 (y_p rfl) rfl <| s1 (y_loadA0 ti27 rfl rfl (cas_len hc)) rfl ?_
  refine at_op rfl (n_call false rfl (.cons (.pure pu) (.nil)) (Con.cast (cchk_ok c hc (by simp only [maxLen]; omega)) (congrArg (fun b => A.i .i64 (errC b)) hk)) pu (.inl rfl) rfl ?_)
  refine s1 ((y_p rfl).v (v' := .b false) (rfl)) rfl ?_
  refine at_nil <| x_tn ?_
  refine at_else rfl ?_
  refine at_skip <| x_tn <| at_seq <| at_seq <| at_region <| s1 (y_p rfl) rfl <| s1 ((y_p rfl).v (v' := .b true) (rfl)) rfl ?_
  refine at_nil <| x_tn ?_
  refine at_then rfl ?_
  refine at_seq <| at_region <| s1 (y_p rfl) rfl ?_
  refine at_op rfl (n_call false rfl (.cons (.pure pu) (.nil)) (Con.cast (cdecC_ok (casV c).enc (by omega)) (dec_back hk hc)) pu (.inl rfl) rfl ?_)
  refine s1 (y_p rfl) rfl <| s1 (y_p rfl) rfl <| s1 (y_p rfl) rfl ?_
  refine at_op rfl (n_alloc 7 rfl ti27 rfl rfl ?_)
  refine at_op rfl (n_storeA ti27 rfl rfl rfl (cas_len hc) (by first | rfl | omega | (simp <;> omega) | (simp [*] <;> omega)) ?_)
  refine s1 (y_p rfl) rfl ?_
  refine at_nil <| x_tn <| at_seq <| at_region <| s1 (y_p rfl) rfl <| s1 ((y_p rfl).v (v' := .b false) (rfl)) rfl <| s1 (y_p rfl) rfl <| g1 rfl rfl (y_loadA0 ti27 rfl rfl (cas_len hc)) rfl <| g1 rfl rfl (y_loadA0 ti27 rfl rfl (cas_len hc)) rfl ?_
  refine at_opg rfl rfl rfl (n_call false rfl (.cons (.pure pu) (.cons (.pure pu) (.nil))) (Con.cast (rsame_ok c c hc hc (by simp only [maxLen]; omega) (by simp only [maxLen]; omega) (by omega)) (congrArg A.b (sameC_self _))) pu (.inl rfl) rfl ?_)
  refine g1 rfl rfl (y_p rfl) rfl <| s1 (y_p rfl) rfl ?_
  refine at_nil <| x_tn ?_
  refine at_else rfl ?_
  refine at_skip <| x_tn <| at_seq ?_
  rcases dec_cases (b := b) (by omega) with hcs | hcs
  ·obtain ⟨d, hd, hde, hdk, hdx, hdb⟩ := hcs
   have hdd : decCA b = .tu [.ag (casL d), .i .i64 0] := by rw [← hdb]; exact dec_back hdk hdx
   obtain ⟨hdE, hdF, _⟩ := chk_small hdk
   refine at_region <| s1 (y_p rfl) rfl ?_
   refine at_op rfl (n_call false rfl (.cons (.pure pu) (.nil)) (Con.cast (cdecC_ok b (by omega)) hdd) pu (.inl rfl) rfl ?_)
   refine s1 (y_p rfl) rfl <| s1 (y_p rfl) rfl <| s1 (y_p rfl) rfl ?_
   refine at_op rfl (n_alloc 9 rfl ti27 rfl rfl ?_)
   refine at_op rfl (n_storeA ti27 rfl rfl rfl (cas_len hdx) (by first | rfl | omega | (simp <;> omega) | (simp [*] <;> omega)) ?_)
   refine s1 (y_p rfl) rfl ?_
   refine at_nil <| x_tn <| at_seq <| at_seq <| at_region <| s1 (y_p rfl) rfl <| s1 ((y_p rfl).v (v' := .b false) (rfl)) rfl ?_
   refine at_nil <| x_tn ?_
   refine at_else rfl ?_
   refine at_skip <| x_tn <| at_seq <| at_region <| s1 (y_loadA0 ti27 rfl rfl (cas_len hdx)) rfl ?_
   refine at_op rfl (n_call false rfl (.cons (.pure pu) (.nil)) (Con.cast (cencC_ok d hdx (by simp only [maxLen]; omega)) (encCA_y hdk)) pu (.inl rfl) rfl ?_)
   refine s1 (y_p rfl) rfl <| s1 (y_p rfl) rfl <| s1 (y_p rfl) rfl <| s1 (y_p rfl) rfl <| s1 (y_p rfl) rfl ?_
   refine at_nil <| x_tn <| at_seq <| at_region <| s1 (y_p rfl) rfl <| s1 ((y_p rfl).v (v' := .b true) (rfl)) rfl <| s1 (y_p rfl) rfl <| g1 rfl rfl (y_p rfl) rfl <| g1 rfl rfl (y_str (l := (casV d).enc) Tryd.underlying40 Tryd.underlying5 Tryd.underlying9 rfl rfl rfl) rfl <| g1 rfl rfl (y_p rfl) rfl <| g1 rfl rfl (y_str (l := b) Tryd.underlying40 Tryd.underlying5 Tryd.underlying9 rfl rfl rfl) rfl <| g1 rfl rfl ((y_p rfl).v (v' := .b true) (congrArg A.b (by simp [hdb]))) rfl <| s1 (y_p rfl) rfl <| s1 (y_p rfl) rfl ?_
   refine at_nil <| x_tn <| at_ret ?_
   refine at_result (rs := [.tmp 4]) rfl (r_tmp rfl r_nil) ?_
   rfl
  ·obtain ⟨hd, hde⟩ := hcs
   refine at_region <| s1 (y_p rfl) rfl ?_
   refine at_op rfl (n_call false rfl (.cons (.pure pu) (.nil)) (Con.wk (cdecC_ok b (by omega)) (wk_none hd)) pu (.inl rfl) rfl ?_)
   refine s1 (y_p rfl) rfl <| s1 (y_p rfl) rfl <| s1 (y_p rfl) rfl ?_
   refine at_op rfl (n_alloc 9 rfl ti27 rfl rfl ?_)
   refine at_op rfl (n_storeA ti27 rfl rfl rfl (cas_len (c := casZ) rfl) (by first | rfl | omega | (simp <;> omega) | (simp [*] <;> omega)) ?_)
   refine s1 (y_p rfl) rfl ?_
   refine at_nil <| x_tn <| at_seq <| at_seq <| at_region <| s1 (y_p rfl) rfl <| s1 ((y_p rfl).v (v' := .b true) (congrArg A.b (by simpa using hde))) rfl ?_
   refine at_nil <| x_tn ?_
   refine at_then rfl ?_
   refine at_seq <| at_region <| s1 (y_loadA0 ti27 rfl rfl (cas_len (c := casZ) rfl)) rfl <| s1 (YO.v (v' := .ag casN) (y_bld (out := _) [(List.replicate 32 (.int .u8 0)).map evC, [evC (.slice none 0 0)], [evC (.slice none 0 0)]] ti27 rfl Tryd.underlying27 (by kernel_rfl) rfl rfl trivial rfl) (rfl)) rfl ?_
   refine at_op rfl (n_call false rfl (.cons (.pure pu) (.cons (.ag vw_zero) .nil)) (Con.cast (rsame_ok casZ casZ rfl rfl (Nat.zero_le _) (Nat.zero_le _) (Nat.zero_le _)) (congrArg A.b (sameC_self _))) pu (.inl rfl) rfl ?_)
   refine s1 (y_p rfl) rfl ?_
   refine at_nil <| x_tn <| at_ret <| x_tr ?_
   refine at_result (rs := [.tmp 4]) rfl (r_tmp rfl r_nil) ?_
   rfl
end Go.Abs.D2
