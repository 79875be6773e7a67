/-
  The engine, the plain laws and the walks that the rows need, part 16. Conditions: none.
-/
import Derived.Test.YtfdkilgkefiggaaDoorM15
import Derived.Test.YtfdkilgkefiggaaDoorRows
import Derived.LaidHandle
import Derived.LaidLaws
import Derived.MakeChecks

/-! Laid -/

namespace Go.Proofs.YtfdkilgkefiggaaDoor
open Go Go.Abs
open Go.ChangeShapes Go.WideShapes Go.ChangeAt Go.RowKit
abbrev laidL : List (String × DataW Unit) := [("testamur/digest.constants", Rows.laid_testamur_digest_constants)]
theorem Tryd.ownK : ownKnob Tryd.prog.godebug = none := by kernel_rfl
theorem Tryd.laidOutK : laidOutB Tryd.prog = true := by kernel_rfl
theorem door_met (os : Os) (args : Array Value) : laidMetH Tryd.prog laidL ((World.doorLaid Tryd.prog 400 os).forCall (fun _ _ => 0) ⟨#[], args, []⟩).memory :=
  laidMetH_of_parts3 (fuel := 8) (laidMet_of_run' 8 (by kernel_rfl) (by kernel_rfl)) (by kernel_rfl) (by kernel_rfl)
theorem door_shaped (os : Os) (args : Array Value) : ((World.doorLaid Tryd.prog 400 os).forCall (fun _ _ => 0) ⟨#[], args, []⟩).Shaped Tryd.prog := World.shaped_of_RefB (by kernel_rfl) (by kernel_rfl)
theorem gl_of_laid {W : World} (h : laidMetH Tryd.prog laidL W) : GL (XW W) W := by
 rw [MakeChecks.laidMetH_plain _ _ _ (by kernel_rfl)] at h
 obtain ⟨ps, ⟨g0, t0, cs0, f0, p0, q0, hg0, ht0, hv0, hd0, _, _⟩, _, _⟩ := h
 obtain rfl := Option.some.inj ((show Tryd.prog.globalNamed "testamur/digest.constants" = some 0 by kernel_rfl).symm.trans hg0)
 obtain rfl := Option.some.inj ((show (Tryd.prog.globals[0]?).map (·.type) = some 129 by kernel_rfl).symm.trans ht0)
 obtain ⟨l, hl⟩ : ∃ l : List Int, glob = [(0, l.map (Value.int .u32))] ∧ (Rows.laid_testamur_digest_constants : DataW Unit) = .agg (l.map fun i => .lit (.int .u32 i)) := ⟨[1116352408, 1899447441, 3049323471, 3921009573, 961987163, 1508970993, 2453635748, 2870763221, 3624381080, 310598401, 607225278, 1426881987, 1925078388, 2162078206, 2614888103, 3248222580, 3835390401, 4022224774, 264347078, 604807628, 770255983, 1249150122, 1555081692, 1996064986, 2554220882, 2821834349, 2952996808, 3210313671, 3336571891, 3584528711, 113926993, 338241895, 666307205, 773529912, 1294757372, 1396182291, 1695183700, 1986661051, 2177026350, 2456956037, 2730485921, 2820302411, 3259730800, 3345764771, 3516065817, 3600352804, 4094571909, 275423344, 430227734, 506948616, 659060556, 883997877, 958139571, 1322822218, 1537002063, 1747873779, 1955562222, 2024104815, 2227730452, 2361852424, 2428436474, 2756734187, 3204031479, 3329325298], by kernel_rfl, by kernel_rfl⟩
 rw [hl.2] at hd0
 have hcs := arr_lits (P := Tryd.prog) Tryd.underlying129 Tryd.underlying108 (by kernel_rfl) (by kernel_rfl) hd0
 intro g vs hg j v hj
 rw [hl.1] at hg
 simp only [List.mem_singleton, Prod.mk.injEq] at hg
 obtain ⟨rfl, rfl⟩ := hg
 have hc : W.cell? ⟨0, j, none⟩ = some v := by
  rw [World.var?_cell hg0 hv0 j, ← Array.getElem?_toList, hcs]; exact hj
 obtain ⟨i, _, rfl⟩ := List.mem_map.1 (List.mem_of_getElem? hj)
 exact ⟨⟨_, hc⟩, hc, rfl⟩
end Go.Proofs.YtfdkilgkefiggaaDoor

/-! L4C -/
set_option linter.unusedVariables false
set_option linter.unusedSimpArgs false
set_option maxHeartbeats 1000000
set_option maxRecDepth 10000
namespace Go.Abs.D2
open Go Go.Eng Go.Abs Go.Proofs 
theorem law_digest (c : Cas) (hc : c.x.length = 32) (d : Cas) (hd : d.x.length = 32) (id : Int) : Con Tryd.prog 10 [.ag (casL c), .ag (casL d), .i .i64 id] (Ret (.b true)) := by
 refine enter Tryd.func10 rfl Tryd.ntmps10 (by kernel_rfl) (Nat.le_of_ble_eq_true rfl) fun w0 X0 hI => ?_
 refine at_seq <| at_region ?_
 refine at_op rfl (n_boxA 3 rfl rfl rfl ?_)
 refine at_op rfl (n_boxA 4 rfl rfl rfl ?_)
 refine s1 (y_p rfl) rfl ?_
 refine at_nil <| x_tn <| at_seq <| at_seq <| at_region ?_
 refine at_op rfl (n_call false rfl (.nil) (sane34_ok) pu (.inl rfl) rfl ?_)
 refine s1 (y_p rfl) rfl ?_
 refine at_nil <| x_tn ?_
 refine at_else rfl ?_
 refine at_skip <| x_tn <| at_seq <| at_seq ?_
 rcases two_ways (fewC c) (fewC d) with hcs | hcs | hcs
 ·skip
  refine at_region <| s1 (y_loadA0 ti27 rfl rfl (cas_len hc)) rfl ?_
  refine at_op rfl (n_call false rfl (.cons (.pure pu) (.nil)) (Con.cast (sfewc_ok c hc) (congrArg A.b hcs)) pu (.inl rfl) rfl ?_)
  refine s1 (y_p rfl) rfl <| s1 (y_p rfl) rfl <| g0 rfl rfl rfl rfl <| g0 rfl rfl rfl rfl <| g0 rfl rfl rfl rfl <| s1 (y_p rfl) rfl ?_
  refine at_nil <| x_tn ?_
  refine at_then rfl ?_
  refine at_seq <| at_region <| s1 (y_p rfl) rfl ?_
  refine at_nil <| x_tn <| at_ret <| x_tr ?_
  refine at_result (rs := [.tmp 6]) rfl (r_tmp rfl r_nil) ?_
  rfl
 ·obtain ⟨hf, hcs⟩ := hcs
  refine at_region <| s1 (y_loadA0 ti27 rfl rfl (cas_len hc)) rfl ?_
  refine at_op rfl (n_call false rfl (.cons (.pure pu) (.nil)) (Con.cast (sfewc_ok c hc) (congrArg A.b hf)) pu (.inl rfl) rfl ?_)
  refine s1 (y_p rfl) rfl <| s1 (y_p rfl) rfl <| g1 rfl rfl (y_loadA0 ti27 rfl rfl (cas_len hd)) rfl ?_
  refine at_opg rfl rfl rfl (n_call false rfl (.cons (.pure pu) (.nil)) (Con.cast (sfewc_ok d hd) (congrArg A.b hcs)) pu (.inl rfl) rfl ?_)
  refine g1 rfl rfl (y_p rfl) rfl <| s1 (y_p rfl) rfl ?_
  refine at_nil <| x_tn ?_
  refine at_then rfl ?_
  refine at_seq <| at_region <| s1 (y_p rfl) rfl ?_
  refine at_nil <| x_tn <| at_ret <| x_tr ?_
  refine at_result (rs := [.tmp 6]) rfl (r_tmp rfl r_nil) ?_
  rfl
 ·obtain ⟨hf, hg⟩ := hcs
  obtain ⟨hE, hF, hD⟩ := few_c hf
  obtain ⟨hE2, hF2, hD2⟩ := few_c hg
  refine at_region <| s1 (y_loadA0 ti27 rfl rfl (cas_len hc)) rfl ?_
  refine at_op rfl (n_call false rfl (.cons (.pure pu) (.nil)) (Con.cast (sfewc_ok c hc) (congrArg A.b hf)) pu (.inl rfl) rfl ?_)
  refine s1 (y_p rfl) rfl <| s1 (y_p rfl) rfl <| g1 rfl rfl (y_loadA0 ti27 rfl rfl (cas_len hd)) rfl ?_
  refine at_opg rfl rfl rfl (n_call false rfl (.cons (.pure pu) (.nil)) (Con.cast (sfewc_ok d hd) (congrArg A.b hg)) pu (.inl rfl) rfl ?_)
  refine g1 rfl rfl (y_p rfl) rfl <| s1 (y_p rfl) rfl ?_
  refine at_nil <| x_tn ?_
  refine at_else rfl ?_
  refine at_skip <| x_tn <| at_seq ?_
  rcases dig_ways c d hc hd with hcs | hcs | hcs | hcs | hcs
  ·have hk := hcs
   refine at_region <| s1 (y_loadA0 ti27 rfl rfl (cas_len hc)) rfl ?_
   refine at_op rfl (n_call false rfl (.cons (.pure pu) (.nil)) (Con.cast (cdigC_ok c hc (by simp only [maxLen]; omega)) (digCA_n hk)) pu (.inl rfl) rfl ?_)
   refine s1 (y_p rfl) rfl <| s1 (y_p rfl) rfl <| s1 (y_p rfl) rfl ?_
   refine at_op rfl (n_alloc 7 rfl ti23 rfl rfl ?_)
   refine at_op rfl (n_storeA ti23 rfl rfl rfl (by first | rfl | omega | (simp <;> omega) | (simp [*] <;> omega)) (by first | rfl | omega | (simp <;> omega) | (simp [*] <;> omega)) ?_)
   refine s1 (y_p rfl) rfl ?_
   refine at_nil <| x_tn <| at_seq <| at_region <| s1 (y_loadA0 ti27 rfl rfl (cas_len hd)) rfl ?_
   refine at_op rfl (n_call false rfl (.cons (.pure pu) (.nil)) (Con.cast (cdigC_ok d hd (by simp only [maxLen]; omega)) (dig_form d)) pu (.inl rfl) rfl ?_)
   refine s1 (y_p rfl) rfl <| s1 (y_p rfl) rfl <| s1 (y_p rfl) rfl ?_
   refine at_op rfl (n_alloc 9 rfl ti23 rfl rfl ?_)
   refine at_op rfl (n_storeA ti23 rfl rfl rfl (by first | rfl | omega | (simp <;> omega) | (simp [*] <;> omega)) (by first | rfl | omega | (simp <;> omega) | (simp [*] <;> omega)) ?_)
   refine s1 (y_p rfl) rfl ?_
   refine at_nil <| x_tn <| at_seq <| at_seq <| at_region <| s1 (y_p rfl) rfl <| s1 ((y_p rfl).v (v' := .b true) (rfl)) rfl <| s1 (y_p rfl) rfl <| g0 rfl rfl rfl rfl <| g0 rfl rfl rfl rfl <| s1 (y_p rfl) rfl <| s1 (y_p rfl) rfl <| g0 rfl rfl rfl rfl <| g0 rfl rfl rfl rfl <| g0 rfl rfl rfl rfl ?_
   refine s1 (y_p rfl) rfl ?_
   refine at_nil <| x_tn ?_
   refine at_then rfl ?_
   refine at_seq <| at_region <| s1 (y_p rfl) rfl <| s1 ((y_p rfl).v (v' := .b true) (rfl)) rfl <| s1 (y_p rfl) rfl <| g0 rfl rfl rfl rfl <| g0 rfl rfl rfl rfl <| s1 (y_p rfl) rfl <| s1 (y_p rfl) rfl <| g0 rfl rfl rfl rfl <| g0 rfl rfl rfl rfl <| g0 rfl rfl rfl rfl ?_
   refine g0 rfl rfl rfl rfl <| s1 (y_p rfl) rfl <| s1 (y_p rfl) rfl ?_
   refine at_nil <| x_tn <| at_ret <| x_tr ?_
   refine at_result (rs := [.tmp 6]) rfl (r_tmp rfl r_nil) ?_
   rfl
  ·obtain ⟨hk, hl⟩ := hcs
   refine at_region <| s1 (y_loadA0 ti27 rfl rfl (cas_len hc)) rfl ?_
   refine at_op rfl (n_call false rfl (.cons (.pure pu) (.nil)) (Con.cast (cdigC_ok c hc (by simp only [maxLen]; omega)) (digCA_y hk)) pu (.inl rfl) rfl ?_)
   refine s1 (y_p rfl) rfl <| s1 (y_p rfl) rfl <| s1 (y_p rfl) rfl ?_
   refine at_op rfl (n_alloc 7 rfl ti23 rfl rfl ?_)
   refine at_op rfl (n_storeA ti23 rfl rfl rfl (by first | rfl | omega | (simp <;> omega) | (simp [*] <;> omega)) (by first | rfl | omega | (simp <;> omega) | (simp [*] <;> omega)) ?_)
   refine s1 (y_p rfl) rfl ?_
   refine at_nil <| x_tn <| at_seq <| at_region <| s1 (y_loadA0 ti27 rfl rfl (cas_len hd)) rfl ?_
   refine at_op rfl (n_call false rfl (.cons (.pure pu) (.nil)) (Con.cast (cdigC_ok d hd (by simp only [maxLen]; omega)) (digCA_n hl)) pu (.inl rfl) rfl ?_)
   refine s1 (y_p rfl) rfl <| s1 (y_p rfl) rfl <| s1 (y_p rfl) rfl ?_
   refine at_op rfl (n_alloc 9 rfl ti23 rfl rfl ?_)
   refine at_op rfl (n_storeA ti23 rfl rfl rfl (by first | rfl | omega | (simp <;> omega) | (simp [*] <;> omega)) (by first | rfl | omega | (simp <;> omega) | (simp [*] <;> omega)) ?_)
   refine s1 (y_p rfl) rfl ?_
   refine at_nil <| x_tn <| at_seq <| at_seq <| at_region <| s1 (y_p rfl) rfl <| s1 ((y_p rfl).v (v' := .b false) (rfl)) rfl <| s1 (y_p rfl) rfl <| g1 rfl rfl (y_p rfl) rfl <| g1 rfl rfl ((y_p rfl).v (v' := .b true) (rfl)) rfl <| s1 (y_p rfl) rfl <| s1 (y_p rfl) rfl <| g0 rfl rfl rfl rfl <| g0 rfl rfl rfl rfl <| g0 rfl rfl rfl rfl ?_
   refine s1 (y_p rfl) rfl ?_
   refine at_nil <| x_tn ?_
   refine at_then rfl ?_
   refine at_seq <| at_region <| s1 (y_p rfl) rfl <| s1 ((y_p rfl).v (v' := .b false) (rfl)) rfl <| s1 (y_p rfl) rfl <| g1 rfl rfl (y_p rfl) rfl <| g1 rfl rfl ((y_p rfl).v (v' := .b true) (rfl)) rfl <| s1 (y_p rfl) rfl <| s1 (y_p rfl) rfl <| g0 rfl rfl rfl rfl <| g0 rfl rfl rfl rfl <| g0 rfl rfl rfl rfl ?_
   refine g0 rfl rfl rfl rfl <| s1 (y_p rfl) rfl <| s1 (y_p rfl) rfl ?_
   refine at_nil <| x_tn <| at_ret <| x_tr ?_
   refine at_result (rs := [.tmp 6]) rfl (r_tmp rfl r_nil) ?_
   rfl
  ·obtain ⟨hk, hl, hne, hsm⟩ := hcs
   refine at_region <| s1 (y_loadA0 ti27 rfl rfl (cas_len hc)) rfl ?_
   refine at_op rfl (n_call false rfl (.cons (.pure pu) (.nil)) (Con.cast (cdigC_ok c hc (by simp only [maxLen]; omega)) (digCA_y hk)) pu (.inl rfl) rfl ?_)
   refine s1 (y_p rfl) rfl <| s1 (y_p rfl) rfl <| s1 (y_p rfl) rfl ?_
   refine at_op rfl (n_alloc 7 rfl ti23 rfl rfl ?_)
   refine at_op rfl (n_storeA ti23 rfl rfl rfl (by first | rfl | omega | (simp <;> omega) | (simp [*] <;> omega)) (by first | rfl | omega | (simp <;> omega) | (simp [*] <;> omega)) ?_)
   refine s1 (y_p rfl) rfl ?_
   refine at_nil <| x_tn <| at_seq <| at_region <| s1 (y_loadA0 ti27 rfl rfl (cas_len hd)) rfl ?_
   refine at_op rfl (n_call false rfl (.cons (.pure pu) (.nil)) (Con.cast (cdigC_ok d hd (by simp only [maxLen]; omega)) (digCA_y hl)) pu (.inl rfl) rfl ?_)
   refine s1 (y_p rfl) rfl <| s1 (y_p rfl) rfl <| s1 (y_p rfl) rfl ?_
   refine at_op rfl (n_alloc 9 rfl ti23 rfl rfl ?_)
   refine at_op rfl (n_storeA ti23 rfl rfl rfl (by first | rfl | omega | (simp <;> omega) | (simp [*] <;> omega)) (by first | rfl | omega | (simp <;> omega) | (simp [*] <;> omega)) ?_)
   refine s1 (y_p rfl) rfl ?_
   refine at_nil <| x_tn <| at_seq <| at_seq <| at_region <| s1 (y_p rfl) rfl <| s1 ((y_p rfl).v (v' := .b false) (rfl)) rfl <| s1 (y_p rfl) rfl <| g1 rfl rfl (y_p rfl) rfl <| g1 rfl rfl ((y_p rfl).v (v' := .b false) (rfl)) rfl <| s1 (y_p rfl) rfl <| s1 (y_p rfl) rfl <| g1 rfl rfl (y_loadA0 ti23 rfl rfl (by simp)) rfl <| g1 rfl rfl (y_loadA0 ti23 rfl rfl (by simp)) rfl <| g1 rfl rfl ((y_aqn Tryd.underlying23 Tryd.underlying5 ti5 (by kernel_rfl) rfl rfl (by first | assumption | (simp; done) | (simp [*]; done)) (by first | assumption | (simp; done) | (simp [*]; done))).v (v' := .b true) (congrArg A.b (by simpa using hne))) rfl ?_
   refine s1 (y_p rfl) rfl ?_
   refine at_nil <| x_tn ?_
   refine at_then rfl ?_
   refine at_seq <| at_region <| s1 (y_p rfl) rfl <| s1 ((y_p rfl).v (v' := .b false) (rfl)) rfl <| s1 (y_p rfl) rfl <| g1 rfl rfl (y_p rfl) rfl <| g1 rfl rfl ((y_p rfl).v (v' := .b false) (rfl)) rfl <| s1 (y_p rfl) rfl <| s1 (y_p rfl) rfl <| g1 rfl rfl (y_loadA0 ti27 rfl rfl (cas_len hc)) rfl <| g1 rfl rfl (y_loadA0 ti27 rfl rfl (cas_len hd)) rfl ?_
   refine at_opg rfl rfl rfl (n_call false rfl (.cons (.pure pu) (.cons (.pure pu) (.nil))) (Con.cast (rsame_ok c d hc hd (by simp only [maxLen]; omega) (by simp only [maxLen]; omega) (by omega)) (congrArg A.b hsm)) pu (.inl rfl) rfl ?_)
   refine g1 rfl rfl (y_p rfl) rfl <| s1 (y_p rfl) rfl <| s1 (y_p rfl) rfl ?_
   refine at_nil <| x_tn <| at_ret <| x_tr ?_
   refine at_result (rs := [.tmp 6]) rfl (r_tmp rfl r_nil) ?_
   rfl
  ·obtain ⟨hk, hl, heq, hen⟩ := hcs
   have he1 := enc_cas hk hc
   have he2 := enc_cas hl hd
   refine at_region <| s1 (y_loadA0 ti27 rfl rfl (cas_len hc)) rfl ?_
   refine at_op rfl (n_call false rfl (.cons (.pure pu) (.nil)) (Con.cast (cdigC_ok c hc (by simp only [maxLen]; omega)) (digCA_y hk)) pu (.inl rfl) rfl ?_)
   refine s1 (y_p rfl) rfl <| s1 (y_p rfl) rfl <| s1 (y_p rfl) rfl ?_
   refine at_op rfl (n_alloc 7 rfl ti23 rfl rfl ?_)
   refine at_op rfl (n_storeA ti23 rfl rfl rfl (by first | rfl | omega | (simp <;> omega) | (simp [*] <;> omega)) (by first | rfl | omega | (simp <;> omega) | (simp [*] <;> omega)) ?_)
   refine s1 (y_p rfl) rfl ?_
   refine at_nil <| x_tn <| at_seq <| at_region <| s1 (y_loadA0 ti27 rfl rfl (cas_len hd)) rfl ?_
   refine at_op rfl (n_call false rfl (.cons (.pure pu) (.nil)) (Con.cast (cdigC_ok d hd (by simp only [maxLen]; omega)) (digCA_y hl)) pu (.inl rfl) rfl ?_)
   refine s1 (y_p rfl) rfl <| s1 (y_p rfl) rfl <| s1 (y_p rfl) rfl ?_
   refine at_op rfl (n_alloc 9 rfl ti23 rfl rfl ?_)
   refine at_op rfl (n_storeA ti23 rfl rfl rfl (by first | rfl | omega | (simp <;> omega) | (simp [*] <;> omega)) (by first | rfl | omega | (simp <;> omega) | (simp [*] <;> omega)) ?_)
   refine s1 (y_p rfl) rfl ?_
   refine at_nil <| x_tn <| at_seq <| at_seq <| at_region <| s1 (y_p rfl) rfl <| s1 ((y_p rfl).v (v' := .b false) (rfl)) rfl <| s1 (y_p rfl) rfl <| g1 rfl rfl (y_p rfl) rfl <| g1 rfl rfl ((y_p rfl).v (v' := .b false) (rfl)) rfl <| s1 (y_p rfl) rfl <| s1 (y_p rfl) rfl <| g1 rfl rfl (y_loadA0 ti23 rfl rfl (by simp)) rfl <| g1 rfl rfl (y_loadA0 ti23 rfl rfl (by simp)) rfl <| g1 rfl rfl ((y_aqn Tryd.underlying23 Tryd.underlying5 ti5 (by kernel_rfl) rfl rfl (by first | assumption | (simp; done) | (simp [*]; done)) (by first | assumption | (simp; done) | (simp [*]; done))).v (v' := .b false) (congrArg A.b (by simp [heq]))) rfl ?_
   refine s1 (y_p rfl) rfl ?_
   refine at_nil <| x_tn ?_
   refine at_else rfl ?_
   refine at_skip <| x_tn <| at_seq <| at_region <| s1 (y_loadA0 ti27 rfl rfl (cas_len hc)) rfl ?_
   refine at_op rfl (n_call false rfl (.cons (.pure pu) (.nil)) (Con.cast (cencC_ok c hc (by simp only [maxLen]; omega)) (encCA_y hk)) pu (.inl rfl) rfl ?_)
   refine s1 (y_p rfl) rfl <| s1 (y_p rfl) rfl <| s1 (y_p rfl) rfl <| s1 (y_p rfl) rfl <| s1 (y_p rfl) rfl ?_
   refine at_nil <| x_tn <| at_seq <| at_region <| s1 (y_loadA0 ti27 rfl rfl (cas_len hd)) rfl ?_
   refine at_op rfl (n_call false rfl (.cons (.pure pu) (.nil)) (Con.cast (cencC_ok d hd (by simp only [maxLen]; omega)) (encCA_y hl)) pu (.inl rfl) rfl ?_)
   refine s1 (y_p rfl) rfl <| s1 (y_p rfl) rfl <| s1 (y_p rfl) rfl <| s1 (y_p rfl) rfl <| s1 (y_p rfl) rfl ?_
   refine at_nil <| x_tn <| at_seq <| at_seq <| at_region <| s1 (y_p rfl) rfl <| s1 ((y_p rfl).v (v' := .b false) (rfl)) rfl <| s1 (y_p rfl) rfl <| g1 rfl rfl (y_p rfl) rfl <| g1 rfl rfl ((y_p rfl).v (v' := .b false) (rfl)) rfl <| s1 (y_p rfl) rfl ?_
   refine at_nil <| x_tn ?_
   refine at_else rfl ?_
   refine at_skip <| x_tn <| at_seq <| at_seq <| at_region <| s1 (y_p rfl) rfl <| s1 (y_str (l := (casV c).enc) Tryd.underlying40 Tryd.underlying5 Tryd.underlying9 rfl rfl rfl) rfl <| s1 (y_p rfl) rfl <| s1 (y_str (l := (casV d).enc) Tryd.underlying40 Tryd.underlying5 Tryd.underlying9 rfl rfl rfl) rfl <| s1 ((y_p rfl).v (v' := .b true) (congrArg A.b (by simpa using hen))) rfl ?_
   refine at_nil <| x_tn ?_
   refine at_then rfl ?_
   refine at_seq <| at_region <| s1 (y_p rfl) rfl ?_
   refine at_op rfl (n_call false rfl (.cons (.pure pu) (.cons (.pure pu) (.nil))) (Con.cast (tagged_ok tagC (casV c).enc (by omega) (by decide)) (congrArg (fun l : List UInt8 => A.ag (l.map u8)) (digC_eq c).symm)) pu (.inl rfl) rfl ?_)
   refine s1 (y_p rfl) rfl ?_
   refine at_op rfl (n_call false rfl (.cons (.pure pu) (.cons (.pure pu) (.nil))) (Con.cast (tagged_ok tagC (casV d).enc (by omega) (by decide)) (congrArg (fun l : List UInt8 => A.ag (l.map u8)) ((digC_eq d).symm.trans heq.symm))) pu (.inl rfl) rfl ?_)
   refine s1 ((y_aq Tryd.underlying23 Tryd.underlying5 ti5 (by kernel_rfl) rfl rfl (by first | assumption | (simp; done) | (simp [*]; done)) (by first | assumption | (simp; done) | (simp [*]; done))).v (v' := .b true) (congrArg A.b (by simp))) rfl <| s1 (y_p rfl) rfl ?_
   refine at_nil <| x_tn <| at_ret <| x_tr ?_
   refine at_result (rs := [.tmp 6]) rfl (r_tmp rfl r_nil) ?_
   rfl
  ·obtain ⟨hk, hl, hcd⟩ := hcs
   subst hcd
   refine at_region <| s1 (y_loadA0 ti27 rfl rfl (cas_len hc)) rfl ?_
   refine at_op rfl (n_call false rfl (.cons (.pure pu) (.nil)) (Con.cast (cdigC_ok c hc (by simp only [maxLen]; omega)) (digCA_y hk)) pu (.inl rfl) rfl ?_)
   refine s1 (y_p rfl) rfl <| s1 (y_p rfl) rfl <| s1 (y_p rfl) rfl ?_
   refine at_op rfl (n_alloc 7 rfl ti23 rfl rfl ?_)
   refine at_op rfl (n_storeA ti23 rfl rfl rfl (by first | rfl | omega | (simp <;> omega) | (simp [*] <;> omega)) (by first | rfl | omega | (simp <;> omega) | (simp [*] <;> omega)) ?_)
   refine s1 (y_p rfl) rfl ?_
   refine at_nil <| x_tn <| at_seq <| at_region <| s1 (y_loadA0 ti27 rfl rfl (cas_len hc)) rfl ?_
   refine at_op rfl (n_call false rfl (.cons (.pure pu) (.nil)) (Con.cast (cdigC_ok c hc (by simp only [maxLen]; omega)) (digCA_y hk)) pu (.inl rfl) rfl ?_)
   refine s1 (y_p rfl) rfl <| s1 (y_p rfl) rfl <| s1 (y_p rfl) rfl ?_
   refine at_op rfl (n_alloc 9 rfl ti23 rfl rfl ?_)
   refine at_op rfl (n_storeA ti23 rfl rfl rfl (by first | rfl | omega | (simp <;> omega) | (simp [*] <;> omega)) (by first | rfl | omega | (simp <;> omega) | (simp [*] <;> omega)) ?_)
   refine s1 (y_p rfl) rfl ?_
   refine at_nil <| x_tn <| at_seq <| at_seq <| at_region <| s1 (y_p rfl) rfl <| s1 ((y_p rfl).v (v' := .b false) (rfl)) rfl <| s1 (y_p rfl) rfl <| g1 rfl rfl (y_p rfl) rfl <| g1 rfl rfl ((y_p rfl).v (v' := .b false) (rfl)) rfl <| s1 (y_p rfl) rfl <| s1 (y_p rfl) rfl <| g1 rfl rfl (y_loadA0 ti23 rfl rfl (by simp)) rfl <| g1 rfl rfl (y_loadA0 ti23 rfl rfl (by simp)) rfl <| g1 rfl rfl ((y_aqn Tryd.underlying23 Tryd.underlying5 ti5 (by kernel_rfl) rfl rfl (by first | assumption | (simp; done) | (simp [*]; done)) (by first | assumption | (simp; done) | (simp [*]; done))).v (v' := .b false) (congrArg A.b (by simp))) rfl ?_
   refine s1 (y_p rfl) rfl ?_
   refine at_nil <| x_tn ?_
   refine at_else rfl ?_
   refine at_skip <| x_tn <| at_seq <| at_region <| s1 (y_loadA0 ti27 rfl rfl (cas_len hc)) rfl ?_
   refine at_op rfl (n_call false rfl (.cons (.pure pu) (.nil)) (Con.cast (cencC_ok c hc (by simp only [maxLen]; omega)) (encCA_y hk)) pu (.inl rfl) rfl ?_)
   refine s1 (y_p rfl) rfl <| s1 (y_p rfl) rfl <| s1 (y_p rfl) rfl <| s1 (y_p rfl) rfl <| s1 (y_p rfl) rfl ?_
   refine at_nil <| x_tn <| at_seq <| at_region <| s1 (y_loadA0 ti27 rfl rfl (cas_len hc)) rfl ?_
   refine at_op rfl (n_call false rfl (.cons (.pure pu) (.nil)) (Con.cast (cencC_ok c hc (by simp only [maxLen]; omega)) (encCA_y hk)) pu (.inl rfl) rfl ?_)
   refine s1 (y_p rfl) rfl <| s1 (y_p rfl) rfl <| s1 (y_p rfl) rfl <| s1 (y_p rfl) rfl <| s1 (y_p rfl) rfl ?_
   refine at_nil <| x_tn <| at_seq <| at_seq <| at_region <| s1 (y_p rfl) rfl <| s1 ((y_p rfl).v (v' := .b false) (rfl)) rfl <| s1 (y_p rfl) rfl <| g1 rfl rfl (y_p rfl) rfl <| g1 rfl rfl ((y_p rfl).v (v' := .b false) (rfl)) rfl <| s1 (y_p rfl) rfl ?_
   refine at_nil <| x_tn ?_
   refine at_else rfl ?_
   refine at_skip <| x_tn <| at_seq <| at_seq <| at_region <| s1 (y_p rfl) rfl <| s1 (y_str (l := (casV c).enc) Tryd.underlying40 Tryd.underlying5 Tryd.underlying9 rfl rfl rfl) rfl <| s1 (y_p rfl) rfl <| s1 (y_str (l := (casV c).enc) Tryd.underlying40 Tryd.underlying5 Tryd.underlying9 rfl rfl rfl) rfl <| s1 ((y_p rfl).v (v' := .b false) (congrArg A.b (by simp))) rfl ?_
   refine at_nil <| x_tn ?_
   refine at_else rfl ?_
   refine at_skip <| x_tn <| at_seq <| at_region <| s1 (y_loadA0 ti27 rfl rfl (cas_len hc)) rfl <| s1 (y_p rfl) rfl ?_
   refine at_op rfl (n_call false rfl (.cons (.pure pu) (.cons (.pure pu) (.nil))) (Con.cast (chas_ok c hc (by simp only [maxLen]; omega) id) (hasCA_form c id)) pu (.inl rfl) rfl ?_)
   refine s1 (y_p rfl) rfl <| s1 (y_p rfl) rfl <| s1 (y_p rfl) rfl <| s1 (y_p rfl) rfl <| s1 (y_p rfl) rfl ?_
   refine at_nil <| x_tn <| at_seq <| at_region <| s1 (y_loadA0 ti27 rfl rfl (cas_len hc)) rfl <| s1 (y_p rfl) rfl ?_
   refine at_op rfl (n_call false rfl (.cons (.pure pu) (.cons (.pure pu) (.nil))) (Con.cast (chas_ok c hc (by simp only [maxLen]; omega) id) (hasCA_form c id)) pu (.inl rfl) rfl ?_)
   refine s1 (y_p rfl) rfl <| s1 (y_p rfl) rfl <| s1 (y_p rfl) rfl <| s1 (y_p rfl) rfl <| s1 (y_p rfl) rfl ?_
   refine at_nil <| x_tn <| at_seq <| at_region <| s1 (y_loadA0 ti27 rfl rfl (cas_len hc)) rfl <| s1 (y_loadA0 ti27 rfl rfl (cas_len hc)) rfl ?_
   refine at_op rfl (n_call false rfl (.cons (.pure pu) (.cons (.pure pu) (.nil))) (Con.cast (rsame_ok c c hc hc (by simp only [maxLen]; omega) (by simp only [maxLen]; omega) (by omega)) (congrArg A.b (sameC_self _))) pu (.inl rfl) rfl ?_)
   refine s1 (y_p rfl) rfl <| g1 rfl rfl (y_p rfl) rfl <| g1 rfl rfl (y_p rfl) rfl <| g1 rfl rfl ((y_eqb Tryd.underlying4 rfl rfl).v (v' := .b true) (congrArg A.b (by simp))) rfl <| s1 (y_p rfl) rfl <| s1 (y_p rfl) rfl <| g1 rfl rfl (y_p rfl) rfl <| g1 rfl rfl (y_p rfl) rfl <| g1 rfl rfl ((y_p rfl).v (v' := .b true) (congrArg A.b (by simp))) rfl <| s1 (y_p rfl) rfl ?_
   refine s1 (y_p rfl) rfl ?_
   refine at_nil <| x_tn <| at_ret ?_
   refine at_result (rs := [.tmp 6]) rfl (r_tmp rfl r_nil) ?_
   rfl
end Go.Abs.D2

/-! L4D -/
set_option linter.unusedVariables false
set_option linter.unusedSimpArgs false
set_option maxHeartbeats 1000000
set_option maxRecDepth 10000
namespace Go.Abs.D2
open Go Go.Eng Go.Abs Go.Proofs 
theorem law_exact34 (x : List UInt8) (hx : x.length = 32) (p q : List Int) : Con Tryd.prog 6 [.ag (x.map u8), .fz p.length (p.map (A.i .i64)), .fz q.length (q.map (A.i .i64))] (Ret (.b true)) := by
 refine enter Tryd.func6 rfl Tryd.ntmps6 (by kernel_rfl) (Nat.le_of_ble_eq_true rfl) fun w0 X0 hI => ?_
 refine at_seq <| at_region ?_
 refine at_op rfl (n_boxA 3 rfl rfl rfl ?_)
 refine s1 (y_p rfl) rfl ?_
 refine at_nil <| x_tn <| at_seq <| at_seq <| at_region ?_
 refine at_op rfl (n_call false rfl (.nil) (sane34_ok) pu (.inl rfl) rfl ?_)
 refine s1 (y_p rfl) rfl ?_
 refine at_nil <| x_tn ?_
 refine at_else rfl ?_
 refine at_skip <| x_tn <| at_seq <| at_seq ?_
 rcases two_ways (few34 p q) (okB2 p q) with hcs | hcs | hcs
 ·skip
  refine at_region <| s1 (y_p rfl) rfl <| s1 (y_p rfl) rfl ?_
  refine at_op rfl (n_call false rfl (.cons (.pure pu) (.cons (.pure pu) (.nil))) (Con.cast (rfew34_ok p q) (congrArg A.b hcs)) pu (.inl rfl) rfl ?_)
  refine s1 (y_p rfl) rfl ?_
  refine at_nil <| x_tn ?_
  refine at_then rfl ?_
  refine at_seq <| at_region <| s1 (y_p rfl) rfl ?_
  refine at_nil <| x_tn <| at_ret <| x_tr ?_
  refine at_result (rs := [.tmp 6]) rfl (r_tmp rfl r_nil) ?_
  rfl
 ·obtain ⟨hf, hb⟩ := hcs
  obtain ⟨hp, hq⟩ := few34_spec hf
  refine at_region <| s1 (y_p rfl) rfl <| s1 (y_p rfl) rfl ?_
  refine at_op rfl (n_call false rfl (.cons (.pure pu) (.cons (.pure pu) (.nil))) (Con.cast (rfew34_ok p q) (congrArg A.b hf)) pu (.inl rfl) rfl ?_)
  refine s1 (y_p rfl) rfl ?_
  refine at_nil <| x_tn ?_
  refine at_else rfl ?_
  refine at_skip <| x_tn <| at_seq <| at_region <| s1 (y_loadA0 ti23 rfl rfl (by simp [hx])) rfl <| s1 (y_p rfl) rfl <| s1 (y_p rfl) rfl ?_
  refine at_op rfl (n_call false rfl (.cons (.pure pu) (.cons (.pure pu) (.cons (.pure pu) (.nil)))) (Con.cast (cbuild_ok x hx p q (by omega) (by omega)) (build_no hb)) pu (.inl rfl) rfl ?_)
  refine s1 (y_p rfl) rfl <| s1 (y_p rfl) rfl <| s1 (y_p rfl) rfl ?_
  refine at_op rfl (n_alloc 7 rfl ti27 rfl rfl ?_)
  refine at_op rfl (n_storeA ti27 rfl rfl rfl (cas_len (c := casZ) rfl) (by first | rfl | omega | (simp <;> omega) | (simp [*] <;> omega)) ?_)
  refine s1 (y_p rfl) rfl ?_
  refine at_nil <| x_tn <| at_seq <| at_seq <| at_region <| s1 (y_p rfl) rfl <| s1 ((y_p rfl).v (v' := .b true) (rfl)) rfl ?_
  refine at_nil <| x_tn ?_
  refine at_then rfl ?_
  refine at_seq <| at_region <| s1 (y_p rfl) rfl <| s1 ((y_p rfl).v (v' := .b true) (rfl)) rfl <| s1 (y_p rfl) rfl <| g1 rfl rfl (y_fld Tryd.underlying27 rfl ti25 (by decide) rfl rfl) rfl <| g1 rfl rfl (y_load ti25 rfl rfl rfl) rfl <| g1 rfl rfl (y_len Tryd.underlying25 rfl rfl rfl) rfl <| g1 rfl rfl (y_fld Tryd.underlying27 rfl ti24 (by decide) rfl rfl) rfl <| g1 rfl rfl (y_load ti24 rfl rfl rfl) rfl <| g1 rfl rfl (y_len Tryd.underlying24 rfl rfl rfl) rfl <| g1 rfl rfl (addN 0 0 rfl rfl rfl rfl (by omega)) rfl ?_
  refine g1 rfl rfl ((y_p rfl).v (v' := .b true) (rfl)) rfl <| s1 (y_p rfl) rfl <| s1 (y_p rfl) rfl ?_
  refine at_nil <| x_tn <| at_ret <| x_tr ?_
  refine at_result (rs := [.tmp 6]) rfl (r_tmp rfl r_nil) ?_
  rfl
 ·obtain ⟨hf, hb⟩ := hcs
  obtain ⟨hp, hq⟩ := few34_spec hf
  have hck := chkC_casB (x := x) hb
  obtain ⟨hbE, hbF⟩ := casB_small (x := x) (p := p) (q := q) (by omega) (by omega)
  refine at_region <| s1 (y_p rfl) rfl <| s1 (y_p rfl) rfl ?_
  refine at_op rfl (n_call false rfl (.cons (.pure pu) (.cons (.pure pu) (.nil))) (Con.cast (rfew34_ok p q) (congrArg A.b hf)) pu (.inl rfl) rfl ?_)
  refine s1 (y_p rfl) rfl ?_
  refine at_nil <| x_tn ?_
  refine at_else rfl ?_
  refine at_skip <| x_tn <| at_seq <| at_region <| s1 (y_loadA0 ti23 rfl rfl (by simp [hx])) rfl <| s1 (y_p rfl) rfl <| s1 (y_p rfl) rfl ?_
  refine at_op rfl (n_call false rfl (.cons (.pure pu) (.cons (.pure pu) (.cons (.pure pu) (.nil)))) (Con.cast (cbuild_ok x hx p q (by omega) (by omega)) (build_yes hb)) pu (.inl rfl) rfl ?_)
  refine s1 (y_p rfl) rfl <| s1 (y_p rfl) rfl <| s1 (y_p rfl) rfl ?_
  refine at_op rfl (n_alloc 7 rfl ti27 rfl rfl ?_)
  refine at_op rfl (n_storeA ti27 rfl rfl rfl (cas_len (c := casB x p q) hx) (by first | rfl | omega | (simp <;> omega) | (simp [*] <;> omega)) ?_)
  refine s1 (y_p rfl) rfl ?_
  refine at_nil <| x_tn <| at_seq <| at_seq <| at_region <| s1 (y_p rfl) rfl <| s1 ((y_p rfl).v (v' := .b false) (rfl)) rfl ?_
  refine at_nil <| x_tn ?_
  refine at_else rfl ?_
  refine at_skip <| x_tn <| at_seq <| at_seq <| at_region <| s1 (y_loadA0 ti27 rfl rfl (cas_len (c := casB x p q) hx)) rfl ?_
  refine at_op rfl (n_call false rfl (.cons (.pure pu) (.nil)) (Con.cast (cchk_ok (casB x p q) hx (by simp only [maxLen]; omega)) (congrArg (fun b => A.i .i64 (errC b)) hck)) pu (.inl rfl) rfl ?_)
  refine s1 ((y_p rfl).v (v' := .b false) (rfl)) rfl <| s1 (y_p rfl) rfl <| g1 rfl rfl (y_fld Tryd.underlying27 rfl ti23 (by decide) rfl rfl) rfl <| g1 rfl rfl (y_loadA ti23 rfl rfl (cas_x (c := casB x p q) hx) (by simp [casB, hx])) rfl <| g1 rfl rfl (y_loadA ti23 rfl rfl (List.take_of_length_le (by simp [hx])) (by simp [hx])) rfl <| g1 rfl rfl ((y_aqn Tryd.underlying23 Tryd.underlying5 ti5 (by kernel_rfl) rfl rfl (by first | assumption | (simp; done) | (simp [*]; done)) (by first | assumption | (simp; done) | (simp [*]; done))).v (v' := .b false) (congrArg A.b (by simp [casB]))) rfl <| s1 (y_p rfl) rfl ?_
  refine at_nil <| x_tn ?_
  refine at_else rfl ?_
  refine at_skip <| x_tn <| at_seq <| at_seq <| at_region <| s1 (y_p rfl) rfl <| s1 (y_len Tryd.underlying24 rfl rfl rfl) rfl <| s1 ((y_p rfl).v (v' := .i .i64 0) rfl) rfl ?_
  refine at_nil <| x_tn <| at_block ?_
  refine at_loop (ι := Nat) (fun i => [(7, .p 7 0), (2, .fz q.length (q.map (A.i .i64))), (53, .fz p.length (p.map (A.i .i64))), (54, nJ p.length), (55, nJ i)]) (fun i => ⟨[(7, some (casL (casB x p q)))]⟩) (fun i => i ≤ p.length) (fun i => p.length - i) ?_ ?_
  ·exact at_ex (0) (Nat.zero_le _) [(7, some 7)] hI rfl rfl ⟨⟨_, rfl, .p rfl⟩, ⟨_, rfl, .pure pu⟩, ⟨_, rfl, .pure pu⟩, ⟨_, rfl, .pure pu⟩, ⟨_, rfl, .pure pu⟩, trivial⟩ ⟨.inr ⟨_, _, rfl, rfl, .pure pul⟩, trivial⟩
  rintro i hi
  refine at_seq <| at_region <| s1 (y_p rfl) rfl ?_
  refine at_nil <| x_tn <| at_seq ?_
  refine at_cond rfl (fun hc56 => ?_) (fun hc56 => ?_)
  ·have h56 : i < p.length := by have := of_decide_eq_true hc56; omega
   obtain ⟨v, hv⟩ : ∃ v, p[i]? = some v := ⟨_, List.getElem?_eq_getElem h56⟩
   refine at_skip <| x_tn <| at_seq <| at_block <| at_seq <| at_region <| s1 (y_ixf i Tryd.underlying24 ti3 rfl rfl rfl (by omega) rfl) rfl <| s1 (y_load ti3 rfl rfl (getI4 hv)) rfl <| s1 (y_p rfl) rfl ?_
   refine at_nil <| x_tn <| at_seq <| at_region <| s1 (y_loadA0 ti27 rfl rfl (cas_len (c := casB x p q) hx)) rfl <| s1 (y_p rfl) rfl ?_
   refine at_op rfl (n_call false rfl (.cons (.pure pu) (.cons (.pure pu) (.nil))) (Con.cast (chas_ok (casB x p q) hx (by simp only [maxLen]; omega) v) (has_p hb hv)) pu (.inl rfl) rfl ?_)
   refine s1 (y_p rfl) rfl <| s1 (y_p rfl) rfl <| s1 (y_p rfl) rfl <| s1 (y_p rfl) rfl <| s1 (y_p rfl) rfl ?_
   refine at_nil <| x_tn <| at_seq <| at_region <| s1 (y_p rfl) rfl <| s1 ((y_p rfl).v (v' := .b false) (rfl)) rfl <| s1 (y_p rfl) rfl <| g1 rfl rfl (y_p rfl) rfl <| g1 rfl rfl (y_p rfl) rfl <| s1 (y_p rfl) rfl ?_
   refine at_nil <| x_tn ?_
   refine at_else rfl ?_
   refine at_skip <| x_bn <| x_tn <| at_region <| s1 (addN _ 1 rfl rfl rfl rfl (by omega)) rfl <| s1 (y_p rfl) rfl ?_
   refine at_nil ?_
   exact at_end (i + 1) (by omega) (by omega) [(7, some 7)] hI rfl rfl ⟨⟨_, rfl, .p rfl⟩, ⟨_, rfl, .pure pu⟩, ⟨_, rfl, .pure pu⟩, ⟨_, rfl, .pure pu⟩, ⟨_, rfl, .pure pu⟩, trivial⟩ ⟨.inr ⟨_, _, rfl, rfl, .pure pul⟩, trivial⟩
  ·skip
   refine at_exit <| x_te <| x_te <| x_be <| x_tn <| at_seq <| at_seq <| at_region <| s1 (y_p rfl) rfl <| s1 (y_len Tryd.underlying24 rfl rfl rfl) rfl <| s1 ((y_p rfl).v (v' := .i .i64 0) rfl) rfl ?_
   refine at_nil <| x_tn <| at_block ?_
   refine at_loop (ι := Nat) (fun i => [(7, .p 7 0), (72, .fz q.length (q.map (A.i .i64))), (73, nJ q.length), (74, nJ i)]) (fun i => ⟨[(7, some (casL (casB x p q)))]⟩) (fun i => i ≤ q.length) (fun i => q.length - i) ?_ ?_
   ·exact at_ex (0) (Nat.zero_le _) [(7, some 7)] hI rfl rfl ⟨⟨_, rfl, .p rfl⟩, ⟨_, rfl, .pure pu⟩, ⟨_, rfl, .pure pu⟩, ⟨_, rfl, .pure pu⟩, trivial⟩ ⟨.inr ⟨_, _, rfl, rfl, .pure pul⟩, trivial⟩
   rintro i hi
   refine at_seq <| at_region <| s1 (y_p rfl) rfl ?_
   refine at_nil <| x_tn <| at_seq ?_
   refine at_cond rfl (fun hc75 => ?_) (fun hc75 => ?_)
   ·have h75 : i < q.length := by have := of_decide_eq_true hc75; omega
    obtain ⟨v, hv⟩ : ∃ v, q[i]? = some v := ⟨_, List.getElem?_eq_getElem h75⟩
    refine at_skip <| x_tn <| at_seq <| at_block <| at_seq <| at_region <| s1 (y_ixf i Tryd.underlying24 ti3 rfl rfl rfl (by omega) rfl) rfl <| s1 (y_load ti3 rfl rfl (getI4 hv)) rfl <| s1 (y_p rfl) rfl ?_
    refine at_nil <| x_tn <| at_seq <| at_region <| s1 (y_loadA0 ti27 rfl rfl (cas_len (c := casB x p q) hx)) rfl <| s1 (y_p rfl) rfl ?_
    refine at_op rfl (n_call false rfl (.cons (.pure pu) (.cons (.pure pu) (.nil))) (Con.cast (chas_ok (casB x p q) hx (by simp only [maxLen]; omega) v) (has_q hb hv)) pu (.inl rfl) rfl ?_)
    refine s1 (y_p rfl) rfl <| s1 (y_p rfl) rfl <| s1 (y_p rfl) rfl <| s1 (y_p rfl) rfl <| s1 (y_p rfl) rfl ?_
    refine at_nil <| x_tn <| at_seq <| at_region <| s1 (y_p rfl) rfl <| s1 ((y_p rfl).v (v' := .b false) (rfl)) rfl <| s1 (y_p rfl) rfl <| g1 rfl rfl (y_p rfl) rfl <| s1 (y_p rfl) rfl ?_
    refine at_nil <| x_tn ?_
    refine at_else rfl ?_
    refine at_skip <| x_bn <| x_tn <| at_region <| s1 (addN _ 1 rfl rfl rfl rfl (by omega)) rfl <| s1 (y_p rfl) rfl ?_
    refine at_nil ?_
    exact at_end (i + 1) (by omega) (by omega) [(7, some 7)] hI rfl rfl ⟨⟨_, rfl, .p rfl⟩, ⟨_, rfl, .pure pu⟩, ⟨_, rfl, .pure pu⟩, ⟨_, rfl, .pure pu⟩, trivial⟩ ⟨.inr ⟨_, _, rfl, rfl, .pure pul⟩, trivial⟩
   ·skip
    refine at_exit <| x_te <| x_te <| x_be <| x_tn <| at_seq <| at_region <| s1 (y_p rfl) rfl ?_
    refine at_nil <| x_tn <| at_ret ?_
    refine at_result (rs := [.tmp 6]) rfl (r_tmp rfl r_nil) ?_
    rfl
theorem law_turned (x : List UInt8) (hx : x.length = 32) (p q : List Int) : Con Tryd.prog 8 [.ag (x.map u8), .fz p.length (p.map (A.i .i64)), .fz q.length (q.map (A.i .i64))] (Ret (.b true)) := by
 refine enter Tryd.func8 rfl Tryd.ntmps8 (by kernel_rfl) (Nat.le_of_ble_eq_true rfl) fun w0 X0 hI => ?_
 refine at_seq <| at_region ?_
 refine at_op rfl (n_boxA 3 rfl rfl rfl ?_)
 refine s1 (y_p rfl) rfl ?_
 refine at_nil <| x_tn <| at_seq <| at_seq <| at_region ?_
 refine at_op rfl (n_call false rfl (.nil) (sane34_ok) pu (.inl rfl) rfl ?_)
 refine s1 (y_p rfl) rfl ?_
 refine at_nil <| x_tn ?_
 refine at_else rfl ?_
 refine at_skip <| x_tn <| at_seq <| at_seq ?_
 rcases two_ways (few34 p q) (okB2 p q) with hcs | hcs | hcs
 ·skip
  refine at_region <| s1 (y_p rfl) rfl <| s1 (y_p rfl) rfl ?_
  refine at_op rfl (n_call false rfl (.cons (.pure pu) (.cons (.pure pu) (.nil))) (Con.cast (rfew34_ok p q) (congrArg A.b hcs)) pu (.inl rfl) rfl ?_)
  refine s1 (y_p rfl) rfl ?_
  refine at_nil <| x_tn ?_
  refine at_then rfl ?_
  refine at_seq <| at_region <| s1 (y_p rfl) rfl ?_
  refine at_nil <| x_tn <| at_ret <| x_tr ?_
  refine at_result (rs := [.tmp 6]) rfl (r_tmp rfl r_nil) ?_
  rfl
 ·obtain ⟨hf, hb⟩ := hcs
  obtain ⟨hp, hq⟩ := few34_spec hf
  refine at_region <| s1 (y_p rfl) rfl <| s1 (y_p rfl) rfl ?_
  refine at_op rfl (n_call false rfl (.cons (.pure pu) (.cons (.pure pu) (.nil))) (Con.cast (rfew34_ok p q) (congrArg A.b hf)) pu (.inl rfl) rfl ?_)
  refine s1 (y_p rfl) rfl ?_
  refine at_nil <| x_tn ?_
  refine at_else rfl ?_
  refine at_skip <| x_tn <| at_seq <| at_region <| s1 (y_loadA0 ti23 rfl rfl (by simp [hx])) rfl <| s1 (y_p rfl) rfl <| s1 (y_p rfl) rfl ?_
  refine at_op rfl (n_call false rfl (.cons (.pure pu) (.cons (.pure pu) (.cons (.pure pu) (.nil)))) (Con.cast (cbuild_ok x hx p q (by omega) (by omega)) (build_no hb)) pu (.inl rfl) rfl ?_)
  refine s1 (y_p rfl) rfl <| s1 (y_p rfl) rfl <| s1 (y_p rfl) rfl ?_
  refine at_op rfl (n_alloc 7 rfl ti27 rfl rfl ?_)
  refine at_op rfl (n_storeA ti27 rfl rfl rfl (cas_len (c := casZ) rfl) (by first | rfl | omega | (simp <;> omega) | (simp [*] <;> omega)) ?_)
  refine s1 (y_p rfl) rfl ?_
  refine at_nil <| x_tn <| at_seq <| at_region <| s1 (y_loadA0 ti23 rfl rfl (by simp [hx])) rfl <| s1 (y_p rfl) rfl <| s1 (y_p rfl) rfl ?_
  refine at_op rfl (n_call false rfl (.cons (.pure pu) (.cons (.pure pu) (.cons (.pure pu) (.nil)))) (Con.cast (cbuild_ok x hx q p (by omega) (by omega)) (build_no ((ok2_symm p q).trans hb))) pu (.inl rfl) rfl ?_)
  refine s1 (y_p rfl) rfl <| s1 (y_p rfl) rfl <| s1 (y_p rfl) rfl ?_
  refine at_op rfl (n_alloc 9 rfl ti27 rfl rfl ?_)
  refine at_op rfl (n_storeA ti27 rfl rfl rfl (cas_len (c := casZ) rfl) (by first | rfl | omega | (simp <;> omega) | (simp [*] <;> omega)) ?_)
  refine s1 (y_p rfl) rfl ?_
  refine at_nil <| x_tn <| at_seq <| at_seq <| at_region <| s1 (y_p rfl) rfl <| s1 (y_p rfl) rfl <| s1 ((y_p rfl).v (v' := .b false) (rfl)) rfl ?_
  refine at_nil <| x_tn ?_
  refine at_else rfl ?_
  refine at_skip <| x_tn <| at_seq <| at_seq <| at_region <| s1 (y_p rfl) rfl <| s1 ((y_p rfl).v (v' := .b true) (rfl)) rfl ?_
  refine at_nil <| x_tn ?_
  refine at_then rfl ?_
  refine at_seq <| at_region <| s1 (y_p rfl) rfl ?_
  refine at_nil <| x_tn <| at_ret <| x_tr ?_
  refine at_result (rs := [.tmp 6]) rfl (r_tmp rfl r_nil) ?_
  rfl
 ·obtain ⟨hf, hb⟩ := hcs
  obtain ⟨hp, hq⟩ := few34_spec hf
  have hck := chkC_casB (x := x) hb
  obtain ⟨hbE, hbF⟩ := casB_small (x := x) (p := p) (q := q) (by omega) (by omega)
  have hbq : okB2 q p = true := (ok2_symm p q).trans hb
  obtain ⟨hqE, hqF⟩ := casB_small (x := x) (p := q) (q := p) (by omega) (by omega)
  refine at_region <| s1 (y_p rfl) rfl <| s1 (y_p rfl) rfl ?_
  refine at_op rfl (n_call false rfl (.cons (.pure pu) (.cons (.pure pu) (.nil))) (Con.cast (rfew34_ok p q) (congrArg A.b hf)) pu (.inl rfl) rfl ?_)
  refine s1 (y_p rfl) rfl ?_
  refine at_nil <| x_tn ?_
  refine at_else rfl ?_
  refine at_skip <| x_tn <| at_seq <| at_region <| s1 (y_loadA0 ti23 rfl rfl (by simp [hx])) rfl <| s1 (y_p rfl) rfl <| s1 (y_p rfl) rfl ?_
  refine at_op rfl (n_call false rfl (.cons (.pure pu) (.cons (.pure pu) (.cons (.pure pu) (.nil)))) (Con.cast (cbuild_ok x hx p q (by omega) (by omega)) (build_yes hb)) pu (.inl rfl) rfl ?_)
  refine s1 (y_p rfl) rfl <| s1 (y_p rfl) rfl <| s1 (y_p rfl) rfl ?_
  refine at_op rfl (n_alloc 7 rfl ti27 rfl rfl ?_)
  refine at_op rfl (n_storeA ti27 rfl rfl rfl (cas_len (c := casB x p q) hx) (by first | rfl | omega | (simp <;> omega) | (simp [*] <;> omega)) ?_)
  refine s1 (y_p rfl) rfl ?_
  refine at_nil <| x_tn <| at_seq <| at_region <| s1 (y_loadA0 ti23 rfl rfl (by simp [hx])) rfl <| s1 (y_p rfl) rfl <| s1 (y_p rfl) rfl ?_
  refine at_op rfl (n_call false rfl (.cons (.pure pu) (.cons (.pure pu) (.cons (.pure pu) (.nil)))) (Con.cast (cbuild_ok x hx q p (by omega) (by omega)) (build_yes ((ok2_symm p q).trans hb))) pu (.inl rfl) rfl ?_)
  refine s1 (y_p rfl) rfl <| s1 (y_p rfl) rfl <| s1 (y_p rfl) rfl ?_
  refine at_op rfl (n_alloc 9 rfl ti27 rfl rfl ?_)
  refine at_op rfl (n_storeA ti27 rfl rfl rfl (cas_len (c := casB x q p) hx) (by first | rfl | omega | (simp <;> omega) | (simp [*] <;> omega)) ?_)
  refine s1 (y_p rfl) rfl ?_
  refine at_nil <| x_tn <| at_seq <| at_seq <| at_region <| s1 (y_p rfl) rfl <| s1 (y_p rfl) rfl <| s1 ((y_p rfl).v (v' := .b false) (rfl)) rfl ?_
  refine at_nil <| x_tn ?_
  refine at_else rfl ?_
  refine at_skip <| x_tn <| at_seq <| at_seq <| at_region <| s1 (y_p rfl) rfl <| s1 ((y_p rfl).v (v' := .b false) (rfl)) rfl ?_
  refine at_nil <| x_tn ?_
  refine at_else rfl ?_
  refine at_skip <| x_tn <| at_seq <| at_seq <| at_region <| s1 (y_p rfl) rfl <| s1 (y_p rfl) rfl ?_
  refine at_op rfl (n_bsZ Tryd.underlying55 ti24 rfl rfl rfl (len_one rfl) (flatA_one rfl) pul rfl rfl rfl ?_)
  refine at_say 48 rfl (v' := .fz 2 ([p, q].map fun l => intsA l)) rfl ?_
  refine s1 (y_len Tryd.underlying55 rfl rfl rfl) rfl <| s1 ((y_p rfl).v (v' := .i .i64 0) rfl) rfl ?_
  refine at_nil <| x_tn <| at_block ?_
  refine at_loop (ι := Nat) (fun i => [(1, .fz p.length (p.map (A.i .i64))), (3, .p 3 0), (7, .p 7 0), (9, .p 9 0), (48, .fz 2 ([p, q].map fun l => intsA l)), (49, nJ 2), (50, nJ i)]) (fun i => ⟨[(3, some (x.map u8)), (7, some (casL (casB x p q))), (9, some (casL (casB x q p)))]⟩) (fun i => i ≤ 2) (fun i => 2 - i) ?_ ?_
  ·exact at_ex (0) (by omega) [(3, some 3), (7, some 7), (9, some 9)] hI rfl rfl ⟨⟨_, rfl, .pure pu⟩, ⟨_, rfl, .p rfl⟩, ⟨_, rfl, .p rfl⟩, ⟨_, rfl, .p rfl⟩, ⟨_, rfl, .pure pu⟩, ⟨_, rfl, .pure pu⟩, ⟨_, rfl, .pure pu⟩, trivial⟩ ⟨.inr ⟨_, _, rfl, rfl, .pure pul⟩, .inr ⟨_, _, rfl, rfl, .pure pul⟩, .inr ⟨_, _, rfl, rfl, .pure pul⟩, trivial⟩
  rintro i hi
  refine at_seq <| at_region <| s1 (y_p rfl) rfl ?_
  refine at_nil <| x_tn <| at_seq ?_
  refine at_cond rfl (fun hc51 => ?_) (fun hc51 => ?_)
  ·have h51 : i < 2 := by have := of_decide_eq_true hc51; omega
   obtain ⟨l, hl⟩ : ∃ l, [p, q][i]? = some l := ⟨_, List.getElem?_eq_getElem h51⟩
   have hll : l.length ≤ 60 := by rcases one_of2 hl with rfl | rfl <;> omega
   refine at_skip <| x_tn <| at_seq <| at_block <| at_seq <| at_region <| s1 (y_ixf i Tryd.underlying55 ti24 rfl rfl rfl (by omega) rfl) rfl <| s1 (y_load ti24 rfl rfl (get_ints hl)) rfl <| s1 (y_p rfl) rfl ?_
   refine at_nil <| x_tn <| at_seq <| at_region <| s1 (y_p rfl) rfl <| s1 (y_len Tryd.underlying24 rfl rfl rfl) rfl <| s1 ((y_p rfl).v (v' := .i .i64 0) rfl) rfl ?_
   refine at_nil <| x_tn <| at_block ?_
   refine at_loop (ι := Nat) (fun k => [(1, .fz p.length (p.map (A.i .i64))), (3, .p 3 0), (7, .p 7 0), (9, .p 9 0), (48, .fz 2 ([p, q].map fun l => intsA l)), (49, nJ 2), (50, nJ i), (54, .fz l.length (l.map (A.i .i64))), (55, nJ l.length), (56, nJ k)]) (fun k => ⟨[(3, some (x.map u8)), (7, some (casL (casB x p q))), (9, some (casL (casB x q p)))]⟩) (fun k => k ≤ l.length) (fun k => l.length - k) ?_ ?_
   ·exact at_ex (0) (Nat.zero_le _) [(3, some 3), (7, some 7), (9, some 9)] hI rfl rfl ⟨⟨_, rfl, .pure pu⟩, ⟨_, rfl, .p rfl⟩, ⟨_, rfl, .p rfl⟩, ⟨_, rfl, .p rfl⟩, ⟨_, rfl, .pure pu⟩, ⟨_, rfl, .pure pu⟩, ⟨_, rfl, .pure pu⟩, ⟨_, rfl, .pure pu⟩, ⟨_, rfl, .pure pu⟩, ⟨_, rfl, .pure pu⟩, trivial⟩ ⟨.inr ⟨_, _, rfl, rfl, .pure pul⟩, .inr ⟨_, _, rfl, rfl, .pure pul⟩, .inr ⟨_, _, rfl, rfl, .pure pul⟩, trivial⟩
   rintro k hk
   refine at_seq <| at_region <| s1 (y_p rfl) rfl ?_
   refine at_nil <| x_tn <| at_seq ?_
   refine at_cond rfl (fun hc57 => ?_) (fun hc57 => ?_)
   ·have h57 : k < l.length := by have := of_decide_eq_true hc57; omega
    obtain ⟨v, hv⟩ : ∃ v, l[k]? = some v := ⟨_, List.getElem?_eq_getElem h57⟩
    refine at_skip <| x_tn <| at_seq <| at_block <| at_seq <| at_region <| s1 (y_ixf k Tryd.underlying24 ti3 rfl rfl rfl (by omega) rfl) rfl <| s1 (y_load ti3 rfl rfl (getI4 hv)) rfl <| s1 (y_p rfl) rfl ?_
    refine at_nil <| x_tn <| at_seq ?_
    rcases turn_ways hb hl hv with hcs | hcs
    ·obtain ⟨hv1, hv2⟩ := hcs
     refine at_region <| s1 (y_loadA0 ti27 rfl rfl (cas_len (c := casB x p q) hx)) rfl <| s1 (y_p rfl) rfl ?_
     refine at_op rfl (n_call false rfl (.cons (.pure pu) (.cons (.pure pu) (.nil))) (Con.cast (chas_ok (casB x p q) hx (by simp only [maxLen]; omega) v) (has_in hb hv1)) pu (.inl rfl) rfl ?_)
     refine s1 (y_p rfl) rfl <| s1 (y_p rfl) rfl <| s1 (y_p rfl) rfl <| s1 (y_p rfl) rfl <| s1 (y_p rfl) rfl ?_
     refine at_nil <| x_tn <| at_seq <| at_region <| s1 (y_loadA0 ti27 rfl rfl (cas_len (c := casB x q p) hx)) rfl <| s1 (y_p rfl) rfl ?_
     refine at_op rfl (n_call false rfl (.cons (.pure pu) (.cons (.pure pu) (.nil))) (Con.cast (chas_ok (casB x q p) hx (by simp only [maxLen]; omega) v) (has_out hbq hv1)) pu (.inl rfl) rfl ?_)
     refine s1 (y_p rfl) rfl <| s1 (y_p rfl) rfl <| s1 (y_p rfl) rfl <| s1 (y_p rfl) rfl <| s1 (y_p rfl) rfl ?_
     refine at_nil <| x_tn <| at_seq <| at_region <| s1 (y_p rfl) rfl <| s1 ((y_p rfl).v (v' := .b false) (rfl)) rfl <| s1 (y_p rfl) rfl <| g1 rfl rfl (y_p rfl) rfl <| g1 rfl rfl ((y_p rfl).v (v' := .b false) (rfl)) rfl <| s1 (y_p rfl) rfl <| s1 (y_p rfl) rfl <| g1 rfl rfl (y_p rfl) rfl <| g1 rfl rfl (y_p rfl) rfl <| g1 rfl rfl ((y_eqb Tryd.underlying4 rfl rfl).v (v' := .b false) (rfl)) rfl ?_
     refine s1 (y_p rfl) rfl ?_
     refine at_nil <| x_tn ?_
     refine at_else rfl ?_
     refine at_skip <| x_bn <| x_tn <| at_region <| s1 (addN _ 1 rfl rfl rfl rfl (by omega)) rfl <| s1 (y_p rfl) rfl ?_
     refine at_nil ?_
     exact at_end (k + 1) (by omega) (by omega) [(3, some 3), (7, some 7), (9, some 9)] hI rfl rfl ⟨⟨_, rfl, .pure pu⟩, ⟨_, rfl, .p rfl⟩, ⟨_, rfl, .p rfl⟩, ⟨_, rfl, .p rfl⟩, ⟨_, rfl, .pure pu⟩, ⟨_, rfl, .pure pu⟩, ⟨_, rfl, .pure pu⟩, ⟨_, rfl, .pure pu⟩, ⟨_, rfl, .pure pu⟩, ⟨_, rfl, .pure pu⟩, trivial⟩ ⟨.inr ⟨_, _, rfl, rfl, .pure pul⟩, .inr ⟨_, _, rfl, rfl, .pure pul⟩, .inr ⟨_, _, rfl, rfl, .pure pul⟩, trivial⟩
    ·obtain ⟨hv1, hv2⟩ := hcs
     refine at_region <| s1 (y_loadA0 ti27 rfl rfl (cas_len (c := casB x p q) hx)) rfl <| s1 (y_p rfl) rfl ?_
     refine at_op rfl (n_call false rfl (.cons (.pure pu) (.cons (.pure pu) (.nil))) (Con.cast (chas_ok (casB x p q) hx (by simp only [maxLen]; omega) v) (has_out hb hv2)) pu (.inl rfl) rfl ?_)
     refine s1 (y_p rfl) rfl <| s1 (y_p rfl) rfl <| s1 (y_p rfl) rfl <| s1 (y_p rfl) rfl <| s1 (y_p rfl) rfl ?_
     refine at_nil <| x_tn <| at_seq <| at_region <| s1 (y_loadA0 ti27 rfl rfl (cas_len (c := casB x q p) hx)) rfl <| s1 (y_p rfl) rfl ?_
     refine at_op rfl (n_call false rfl (.cons (.pure pu) (.cons (.pure pu) (.nil))) (Con.cast (chas_ok (casB x q p) hx (by simp only [maxLen]; omega) v) (has_in hbq hv2)) pu (.inl rfl) rfl ?_)
     refine s1 (y_p rfl) rfl <| s1 (y_p rfl) rfl <| s1 (y_p rfl) rfl <| s1 (y_p rfl) rfl <| s1 (y_p rfl) rfl ?_
     refine at_nil <| x_tn <| at_seq <| at_region <| s1 (y_p rfl) rfl <| s1 ((y_p rfl).v (v' := .b false) (rfl)) rfl <| s1 (y_p rfl) rfl <| g1 rfl rfl (y_p rfl) rfl <| g1 rfl rfl ((y_p rfl).v (v' := .b false) (rfl)) rfl <| s1 (y_p rfl) rfl <| s1 (y_p rfl) rfl <| g1 rfl rfl (y_p rfl) rfl <| g1 rfl rfl (y_p rfl) rfl <| g1 rfl rfl ((y_eqb Tryd.underlying4 rfl rfl).v (v' := .b false) (rfl)) rfl ?_
     refine s1 (y_p rfl) rfl ?_
     refine at_nil <| x_tn ?_
     refine at_else rfl ?_
     refine at_skip <| x_bn <| x_tn <| at_region <| s1 (addN _ 1 rfl rfl rfl rfl (by omega)) rfl <| s1 (y_p rfl) rfl ?_
     refine at_nil ?_
     exact at_end (k + 1) (by omega) (by omega) [(3, some 3), (7, some 7), (9, some 9)] hI rfl rfl ⟨⟨_, rfl, .pure pu⟩, ⟨_, rfl, .p rfl⟩, ⟨_, rfl, .p rfl⟩, ⟨_, rfl, .p rfl⟩, ⟨_, rfl, .pure pu⟩, ⟨_, rfl, .pure pu⟩, ⟨_, rfl, .pure pu⟩, ⟨_, rfl, .pure pu⟩, ⟨_, rfl, .pure pu⟩, ⟨_, rfl, .pure pu⟩, trivial⟩ ⟨.inr ⟨_, _, rfl, rfl, .pure pul⟩, .inr ⟨_, _, rfl, rfl, .pure pul⟩, .inr ⟨_, _, rfl, rfl, .pure pul⟩, trivial⟩
   ·skip
    refine at_exit <| x_te <| x_te <| x_be <| x_bn <| x_tn <| at_region <| s1 (addN _ 1 rfl rfl rfl rfl (by omega)) rfl <| s1 (y_p rfl) rfl ?_
    refine at_nil ?_
    exact at_end (i + 1) (by omega) (by omega) [(3, some 3), (7, some 7), (9, some 9)] hI rfl rfl ⟨⟨_, rfl, .pure pu⟩, ⟨_, rfl, .p rfl⟩, ⟨_, rfl, .p rfl⟩, ⟨_, rfl, .p rfl⟩, ⟨_, rfl, .pure pu⟩, ⟨_, rfl, .pure pu⟩, ⟨_, rfl, .pure pu⟩, trivial⟩ ⟨.inr ⟨_, _, rfl, rfl, .pure pul⟩, .inr ⟨_, _, rfl, rfl, .pure pul⟩, .inr ⟨_, _, rfl, rfl, .pure pul⟩, trivial⟩
  ·skip
   refine at_exit <| x_te <| x_te <| x_be <| x_tn <| at_seq ?_
   rcases Decidable.em (p = []) with hcs | hcs
   ·subst hcs
    refine at_region <| s1 (y_loadA ti23 rfl rfl (List.take_of_length_le (by simp [hx])) (by simp [hx])) rfl <| s1 (y_p rfl) rfl ?_
    refine at_op rfl (n_call false rfl (.cons (.pure pu) (.cons (.pure pu) (.cons .nl .nil))) (Con.cast (cbuild_ok x hx [] [] (by first | omega | decide) (by decide)) ((build_yes (ok2_nil hb)).trans (by rw [bld_nil]))) pu (.inl rfl) rfl ?_)
    refine s1 (y_p rfl) rfl <| s1 (y_p rfl) rfl <| s1 (y_p rfl) rfl ?_
    refine at_op rfl (n_alloc 19 rfl ti27 rfl rfl ?_)
    refine at_op rfl (n_storeA ti27 rfl rfl rfl (by first | rfl | omega | (simp <;> omega) | (simp [*] <;> omega)) (by first | rfl | omega | (simp <;> omega) | (simp [*] <;> omega)) ?_)
    refine s1 (y_p rfl) rfl ?_
    refine at_nil <| x_tn <| at_seq <| at_region <| s1 (y_p rfl) rfl <| s1 ((y_p rfl).v (v' := .b true) (rfl)) rfl <| s1 (y_p rfl) rfl <| g1 rfl rfl (y_fld Tryd.underlying27 rfl ti25 (by decide) rfl rfl) rfl <| g1 rfl rfl (y_load ti25 rfl rfl (cas_F (c := ⟨x, [], []⟩) hx)) rfl <| g1 rfl rfl (y_len Tryd.underlying25 rfl rfl rfl) rfl <| g1 rfl rfl ((y_p rfl).v (v' := .b true) (rfl)) rfl <| s1 (y_p rfl) rfl <| s1 (y_p rfl) rfl <| g1 rfl rfl (y_fld Tryd.underlying27 rfl ti24 (by decide) rfl rfl) rfl ?_
    refine g1 rfl rfl (y_load ti24 rfl rfl (cas_E (c := ⟨x, [], []⟩) hx)) rfl <| g1 rfl rfl (y_len Tryd.underlying24 rfl rfl rfl) rfl <| g1 rfl rfl ((y_p rfl).v (v' := .b true) (rfl)) rfl <| s1 (y_p rfl) rfl <| s1 (y_p rfl) rfl <| g1 rfl rfl (y_fld Tryd.underlying27 rfl ti25 (by decide) rfl rfl) rfl <| g1 rfl rfl (y_load ti25 rfl rfl (cas_F (c := ⟨x, [], []⟩) hx)) rfl <| g1 rfl rfl (y_len Tryd.underlying25 rfl rfl rfl) rfl <| g1 rfl rfl ((y_p rfl).v (v' := .b true) (rfl)) rfl <| g1 rfl rfl (y_p rfl) rfl ?_
    refine g1 rfl rfl (y_len Tryd.underlying24 rfl rfl rfl) rfl <| g1 rfl rfl ((y_p rfl).v (v' := .b true) (rfl)) rfl <| g1 rfl rfl ((y_eqb Tryd.underlying4 rfl rfl).v (v' := .b true) (rfl)) rfl <| s1 (y_p rfl) rfl <| s1 (y_p rfl) rfl ?_
    refine at_nil <| x_tn <| at_ret ?_
    refine at_result (rs := [.tmp 6]) rfl (r_tmp rfl r_nil) ?_
    rfl
   ·have hp0 : ¬ p.length = 0 := fun h => hcs (List.length_eq_zero_iff.1 h)
    refine at_region <| s1 (y_loadA ti23 rfl rfl (List.take_of_length_le (by simp [hx])) (by simp [hx])) rfl <| s1 (y_p rfl) rfl ?_
    refine at_op rfl (n_call false rfl (.cons (.pure pu) (.cons (.pure pu) (.cons .nl .nil))) (Con.cast (cbuild_ok x hx p [] (by first | omega | decide) (by decide)) ((build_yes (ok2_nil hb)).trans (by rw [bld_one hcs]))) pu (.inl rfl) rfl ?_)
    refine s1 (y_p rfl) rfl <| s1 (y_p rfl) rfl <| s1 (y_p rfl) rfl ?_
    refine at_op rfl (n_alloc 19 rfl ti27 rfl rfl ?_)
    refine at_op rfl (n_storeA ti27 rfl rfl rfl (by first | rfl | omega | (simp <;> omega) | (simp [*] <;> omega)) (by first | rfl | omega | (simp <;> omega) | (simp [*] <;> omega)) ?_)
    refine s1 (y_p rfl) rfl ?_
    refine at_nil <| x_tn <| at_seq <| at_region <| s1 (y_p rfl) rfl <| s1 ((y_p rfl).v (v' := .b true) (rfl)) rfl <| s1 (y_p rfl) rfl <| g1 rfl rfl (y_fld Tryd.underlying27 rfl ti25 (by decide) rfl rfl) rfl <| g1 rfl rfl (y_load ti25 rfl rfl (cas_F (c := ⟨x, [filO x 0 p], []⟩) hx)) rfl <| g1 rfl rfl (y_len Tryd.underlying25 rfl rfl rfl) rfl <| g1 rfl rfl ((y_p rfl).v (v' := .b true) (rfl)) rfl <| s1 (y_p rfl) rfl <| s1 (y_p rfl) rfl <| g1 rfl rfl (y_fld Tryd.underlying27 rfl ti24 (by decide) rfl rfl) rfl ?_
    refine g1 rfl rfl (y_load ti24 rfl rfl (cas_E (c := ⟨x, [filO x 0 p], []⟩) hx)) rfl <| g1 rfl rfl (y_len Tryd.underlying24 rfl rfl rfl) rfl <| g1 rfl rfl ((y_p rfl).v (v' := .b true) (rfl)) rfl <| s1 (y_p rfl) rfl <| s1 (y_p rfl) rfl <| g1 rfl rfl (y_fld Tryd.underlying27 rfl ti25 (by decide) rfl rfl) rfl <| g1 rfl rfl (y_load ti25 rfl rfl (cas_F (c := ⟨x, [filO x 0 p], []⟩) hx)) rfl <| g1 rfl rfl (y_len Tryd.underlying25 rfl rfl rfl) rfl <| g1 rfl rfl ((y_p rfl).v (v' := .b false) (rfl)) rfl <| g1 rfl rfl (y_p rfl) rfl ?_
    refine g1 rfl rfl (y_len Tryd.underlying24 rfl rfl rfl) rfl <| g1 rfl rfl ((y_p rfl).v (v' := .b false) (congrArg A.b (decide_eq_false (by omega)))) rfl <| g1 rfl rfl ((y_eqb Tryd.underlying4 rfl rfl).v (v' := .b true) (rfl)) rfl <| s1 (y_p rfl) rfl <| s1 (y_p rfl) rfl ?_
    refine at_nil <| x_tn <| at_ret ?_
    refine at_result (rs := [.tmp 6]) rfl (r_tmp rfl r_nil) ?_
    rfl
end Go.Abs.D2

/-! L4E -/
set_option linter.unusedVariables false
set_option linter.unusedSimpArgs false
set_option maxHeartbeats 1000000
set_option maxRecDepth 10000
namespace Go.Abs.D2
open Go Go.Eng Go.Abs Go.Proofs 
theorem law_levels (x : List UInt8) (hx : x.length = 32) (p q : List Int) : Con Tryd.prog 7 [.ag (x.map u8), .fz p.length (p.map (A.i .i64)), .fz q.length (q.map (A.i .i64))] (Ret (.b true)) := by
 refine enter Tryd.func7 rfl Tryd.ntmps7 (by kernel_rfl) (Nat.le_of_ble_eq_true rfl) fun w0 X0 hI => ?_
 refine at_seq <| at_region ?_
 refine at_op rfl (n_boxA 3 rfl rfl rfl ?_)
 refine s1 (y_p rfl) rfl ?_
 refine at_nil <| x_tn <| at_seq <| at_seq <| at_region ?_
 refine at_op rfl (n_call false rfl (.nil) (sane34_ok) pu (.inl rfl) rfl ?_)
 refine s1 (y_p rfl) rfl ?_
 refine at_nil <| x_tn ?_
 refine at_else rfl ?_
 refine at_skip <| x_tn <| at_seq <| at_seq ?_
 rcases two_ways (few34 p q) (okB2 p q) with hcs | hcs | hcs
 ·skip
  refine at_region <| s1 (y_p rfl) rfl <| s1 (y_p rfl) rfl ?_
  refine at_op rfl (n_call false rfl (.cons (.pure pu) (.cons (.pure pu) (.nil))) (Con.cast (rfew34_ok p q) (congrArg A.b hcs)) pu (.inl rfl) rfl ?_)
  refine s1 (y_p rfl) rfl ?_
  refine at_nil <| x_tn ?_
  refine at_then rfl ?_
  refine at_seq <| at_region <| s1 (y_p rfl) rfl ?_
  refine at_nil <| x_tn <| at_ret <| x_tr ?_
  refine at_result (rs := [.tmp 6]) rfl (r_tmp rfl r_nil) ?_
  rfl
 ·obtain ⟨hf, hb⟩ := hcs
  obtain ⟨hp, hq⟩ := few34_spec hf
  refine at_region <| s1 (y_p rfl) rfl <| s1 (y_p rfl) rfl ?_
  refine at_op rfl (n_call false rfl (.cons (.pure pu) (.cons (.pure pu) (.nil))) (Con.cast (rfew34_ok p q) (congrArg A.b hf)) pu (.inl rfl) rfl ?_)
  refine s1 (y_p rfl) rfl ?_
  refine at_nil <| x_tn ?_
  refine at_else rfl ?_
  refine at_skip <| x_tn <| at_seq <| at_region <| s1 (y_loadA0 ti23 rfl rfl (by simp [hx])) rfl <| s1 (y_p rfl) rfl <| s1 (y_p rfl) rfl ?_
  refine at_op rfl (n_call false rfl (.cons (.pure pu) (.cons (.pure pu) (.cons (.pure pu) (.nil)))) (Con.cast (cbuild_ok x hx p q (by omega) (by omega)) (build_no hb)) pu (.inl rfl) rfl ?_)
  refine s1 (y_p rfl) rfl <| s1 (y_p rfl) rfl <| s1 (y_p rfl) rfl ?_
  refine at_op rfl (n_alloc 7 rfl ti27 rfl rfl ?_)
  refine at_op rfl (n_storeA ti27 rfl rfl rfl (cas_len (c := casZ) rfl) (by first | rfl | omega | (simp <;> omega) | (simp [*] <;> omega)) ?_)
  refine s1 (y_p rfl) rfl ?_
  refine at_nil <| x_tn <| at_seq <| at_seq <| at_region <| s1 (y_p rfl) rfl <| s1 ((y_p rfl).v (v' := .b true) (rfl)) rfl ?_
  refine at_nil <| x_tn ?_
  refine at_then rfl ?_
  refine at_seq <| at_region <| s1 (y_p rfl) rfl ?_
  refine at_nil <| x_tn <| at_ret <| x_tr ?_
  refine at_result (rs := [.tmp 6]) rfl (r_tmp rfl r_nil) ?_
  rfl
 ·obtain ⟨hf, hb⟩ := hcs
  obtain ⟨hp, hq⟩ := few34_spec hf
  obtain ⟨hbE, hbF⟩ := casB_small (x := x) (p := p) (q := q) (by omega) (by omega)
  have hFl : (casB x p q).F.length = endB x p q := len_bS x p q _
  refine at_region <| s1 (y_p rfl) rfl <| s1 (y_p rfl) rfl ?_
  refine at_op rfl (n_call false rfl (.cons (.pure pu) (.cons (.pure pu) (.nil))) (Con.cast (rfew34_ok p q) (congrArg A.b hf)) pu (.inl rfl) rfl ?_)
  refine s1 (y_p rfl) rfl ?_
  refine at_nil <| x_tn ?_
  refine at_else rfl ?_
  refine at_skip <| x_tn <| at_seq <| at_region <| s1 (y_loadA0 ti23 rfl rfl (by simp [hx])) rfl <| s1 (y_p rfl) rfl <| s1 (y_p rfl) rfl ?_
  refine at_op rfl (n_call false rfl (.cons (.pure pu) (.cons (.pure pu) (.cons (.pure pu) (.nil)))) (Con.cast (cbuild_ok x hx p q (by omega) (by omega)) (build_yes hb)) pu (.inl rfl) rfl ?_)
  refine s1 (y_p rfl) rfl <| s1 (y_p rfl) rfl <| s1 (y_p rfl) rfl ?_
  refine at_op rfl (n_alloc 7 rfl ti27 rfl rfl ?_)
  refine at_op rfl (n_storeA ti27 rfl rfl rfl (cas_len (c := casB x p q) hx) (by first | rfl | omega | (simp <;> omega) | (simp [*] <;> omega)) ?_)
  refine s1 (y_p rfl) rfl ?_
  refine at_nil <| x_tn <| at_seq <| at_seq <| at_region <| s1 (y_p rfl) rfl <| s1 ((y_p rfl).v (v' := .b false) (rfl)) rfl ?_
  refine at_nil <| x_tn ?_
  refine at_else rfl ?_
  refine at_skip <| x_tn <| at_seq <| at_region <| s1 (y_p rfl) rfl <| s1 (y_p rfl) rfl <| s1 (y_p rfl) rfl <| s1 (y_p rfl) rfl ?_
  refine at_nil <| x_tn <| at_seq <| at_seq <| at_region <| s1 (y_fld Tryd.underlying27 rfl ti25 (by decide) rfl rfl) rfl <| s1 (y_load ti25 rfl rfl (cas_F (c := casB x p q) hx)) rfl <| s1 (y_len Tryd.underlying25 rfl rfl rfl) rfl <| s1 ((y_p rfl).v (v' := .i .i64 0) rfl) rfl ?_
  refine at_nil <| x_tn <| at_block ?_
  refine at_loop (ι := Nat) (fun n => [(3, .p 3 0), (7, .p 7 0), (9, intsA (bS x p q n).2.1), (10, intsA (bS x p q n).2.2), (40, filsA (casB x p q).F), (41, nJ (casB x p q).F.length), (42, nJ n)]) (fun n => ⟨[(3, some (x.map u8)), (7, some (casL (casB x p q)))]⟩) (fun n => n ≤ endB x p q) (fun n => endB x p q - n) ?_ ?_
  ·exact at_ex (0) (Nat.zero_le _) [(3, some 3), (7, some 7)] hI rfl rfl ⟨⟨_, rfl, .p rfl⟩, ⟨_, rfl, .p rfl⟩, ⟨_, rfl, .pure pu⟩, ⟨_, rfl, .pure pu⟩, ⟨_, rfl, .pure pu⟩, ⟨_, rfl, .pure pu⟩, ⟨_, rfl, .pure pu⟩, trivial⟩ ⟨.inr ⟨_, _, rfl, rfl, .pure pul⟩, .inr ⟨_, _, rfl, rfl, .pure pul⟩, trivial⟩
  rintro n hn
  obtain ⟨hal, hbl⟩ := bS_len (x := x) (p := p) (q := q) (by omega) (by omega) n
  have hE16 := end_le x p q
  refine at_seq <| at_region <| s1 (y_p rfl) rfl ?_
  refine at_nil <| x_tn <| at_seq ?_
  refine at_cond rfl (fun hc43 => ?_) (fun hc43 => ?_)
  ·have h43 : n < endB x p q := by have := of_decide_eq_true hc43; omega
   have h16 : n < 16 := by omega
   have hgo : (bS x p q n).2.1.length ≠ 0 := fun h => by have h2 := end_go h43; unfold goB at h2; rw [List.length_eq_zero_iff.1 h] at h2; cases h2
   have hfn : (casB x p q).F[n]? = some (filO x n (bS x p q n).2.1) := bS_get x p q (endB x p q) n h43
   have hnb := nbOf_ok (bS x p q n).2.1
   obtain ⟨hnumA, hnumB⟩ := bS_num (x := x) hb n
   refine at_skip <| x_tn <| at_seq <| at_block <| at_seq <| at_region <| s1 (y_p rfl) rfl <| s1 (y_ixf n Tryd.underlying25 ti50 rfl rfl rfl (by omega) rfl) rfl <| s1 (y_loadA ti50 rfl rfl (flat_get hfn) rfl) rfl ?_
   refine at_op rfl (n_alloc 12 rfl ti50 rfl rfl ?_)
   refine s1 (y_p rfl) rfl ?_
   refine at_op rfl (n_storeA ti50 rfl rfl rfl (by first | rfl | omega | (simp <;> omega) | (simp [*] <;> omega)) (by first | rfl | omega | (simp <;> omega) | (simp [*] <;> omega)) ?_)
   refine at_nil <| x_tn <| at_seq <| at_region <| s1 (y_p rfl) rfl <| s1 (y_p rfl) rfl <| s1 (y_len Tryd.underlying24 rfl rfl rfl) rfl <| s1 (mulN 4 _ rfl rfl rfl rfl (by omega)) rfl <| s1 (y_maxN (a := 8) (b := 4 * (bS x p q n).2.1.length) rfl rfl (nb_max hal)) rfl ?_
   refine at_op rfl (n_call false rfl (.cons (.pure pu) (.cons (.pure pu) (.nil))) (Con.cast (fnew_ok n (nbOf (bS x p q n).2.1)) (new_yes (nat_sized h16 hnb.1 hnb.2))) pu (.inl rfl) rfl ?_)
   refine s1 (y_p rfl) rfl <| s1 (y_p rfl) rfl <| s1 (y_p rfl) rfl ?_
   refine at_op rfl (n_alloc 13 rfl ti50 rfl rfl ?_)
   refine at_op rfl (n_storeA ti50 rfl rfl rfl (by first | rfl | omega | (simp <;> omega) | (simp [*] <;> omega)) (by first | rfl | omega | (simp <;> omega) | (simp [*] <;> omega)) ?_)
   refine s1 (y_p rfl) rfl ?_
   refine at_nil <| x_tn <| at_seq <| at_seq <| at_region <| s1 (y_p rfl) rfl <| s1 ((y_p rfl).v (v' := .b false) (rfl)) rfl <| s1 (y_p rfl) rfl <| g1 rfl rfl (y_p rfl) rfl <| g1 rfl rfl (y_len Tryd.underlying24 rfl rfl rfl) rfl <| g1 rfl rfl ((y_p rfl).v (v' := .b false) (congrArg A.b (decide_eq_false (by omega)))) rfl <| s1 (y_p rfl) rfl ?_
   refine at_nil <| x_tn ?_
   refine at_else rfl ?_
   refine at_skip <| x_tn <| at_seq <| at_seq <| at_region <| s1 (y_p rfl) rfl <| s1 (y_len Tryd.underlying24 rfl rfl rfl) rfl <| s1 ((y_p rfl).v (v' := .i .i64 0) rfl) rfl ?_
   refine at_nil <| x_tn <| at_block ?_
   refine at_loop (ι := Nat) (fun k => [(3, .p 3 0), (7, .p 7 0), (9, intsA (bS x p q n).2.1), (10, intsA (bS x p q n).2.2), (11, nJ n), (12, .p 12 0), (13, .p 13 0), (40, filsA (casB x p q).F), (41, nJ (casB x p q).F.length), (42, nJ n), (63, intsA (bS x p q n).2.1), (64, nJ (bS x p q n).2.1.length), (65, nJ k)]) (fun k => ⟨[(3, some (x.map u8)), (7, some (casL (casB x p q))), (12, some (filC (filO x n (bS x p q n).2.1))), (13, some ([nJ n, nJ (nbOf (bS x p q n).2.1), slA (addsI x (n : Nat) (nbOf (bS x p q n).2.1 : Nat) (zeroD (nbOf (bS x p q n).2.1)) ((bS x p q n).2.1.take k))]))]⟩) (fun k => k ≤ (bS x p q n).2.1.length) (fun k => (bS x p q n).2.1.length - k) ?_ ?_
   ·exact at_ex (0) (Nat.zero_le _) [(3, some 3), (7, some 7), (12, some 12), (13, some 13)] hI rfl rfl ⟨⟨_, rfl, .p rfl⟩, ⟨_, rfl, .p rfl⟩, ⟨_, rfl, .pure pu⟩, ⟨_, rfl, .pure pu⟩, ⟨_, rfl, .pure pu⟩, ⟨_, rfl, .p rfl⟩, ⟨_, rfl, .p rfl⟩, ⟨_, rfl, .pure pu⟩, ⟨_, rfl, .pure pu⟩, ⟨_, rfl, .pure pu⟩, ⟨_, rfl, .pure pu⟩, ⟨_, rfl, .pure pu⟩, ⟨_, rfl, .pure pu⟩, trivial⟩ ⟨.inr ⟨_, _, rfl, rfl, .pure pul⟩, .inr ⟨_, _, rfl, rfl, .pure pul⟩, .inr ⟨_, _, rfl, rfl, .pure pul⟩, .inr ⟨_, _, rfl, rfl, .of (by rfl) (.pure pul)⟩, trivial⟩
   rintro k hk
   refine at_seq <| at_region <| s1 (y_p rfl) rfl ?_
   refine at_nil <| x_tn <| at_seq ?_
   refine at_cond rfl (fun hc66 => ?_) (fun hc66 => ?_)
   ·have h66 : k < (bS x p q n).2.1.length := by have := of_decide_eq_true hc66; omega
    obtain ⟨v, hv⟩ : ∃ v, (bS x p q n).2.1[k]? = some v := ⟨_, List.getElem?_eq_getElem h66⟩
    have hv0 := hnumA v (List.mem_of_getElem? hv)
    refine at_skip <| x_tn <| at_seq <| at_block <| at_seq <| at_region <| s1 (y_ixf k Tryd.underlying24 ti3 rfl rfl rfl (by omega) rfl) rfl <| s1 (y_load ti3 rfl rfl (getI4 hv)) rfl <| s1 (y_p rfl) rfl ?_
    refine at_nil <| x_tn <| at_seq <| at_region <| s1 (y_loadA ti23 rfl rfl (List.take_of_length_le (by simp [hx])) (by simp [hx])) rfl <| s1 (y_loadA0 ti50 rfl rfl rfl) rfl <| s1 (y_p rfl) rfl ?_
    refine at_op rfl (n_call false rfl (.cons (.pure pu) (.cons (.pure pu) (.cons (.pure pu) (.nil)))) (Con.cast (fadd_ok x (n : Nat) (nbOf (bS x p q n).2.1 : Nat) v (addsI x (n : Nat) (nbOf (bS x p q n).2.1 : Nat) (zeroD (nbOf (bS x p q n).2.1)) ((bS x p q n).2.1.take k)) hx) (add_fil h16 hv hv0)) pu (.inl rfl) rfl ?_)
    refine s1 (y_p rfl) rfl <| s1 (y_p rfl) rfl <| s1 (y_p rfl) rfl ?_
    refine at_op rfl (n_storeA ti50 rfl rfl rfl (by first | rfl | omega | (simp <;> omega) | (simp [*] <;> omega)) (by first | rfl | omega | (simp <;> omega) | (simp [*] <;> omega)) ?_)
    refine s1 (y_p rfl) rfl ?_
    refine at_nil <| x_tn <| at_seq <| at_region <| s1 (y_p rfl) rfl <| s1 ((y_p rfl).v (v' := .b false) (rfl)) rfl ?_
    refine at_nil <| x_tn ?_
    refine at_else rfl ?_
    refine at_skip <| x_bn <| x_tn <| at_region <| s1 (addN _ 1 rfl rfl rfl rfl (by omega)) rfl <| s1 (y_p rfl) rfl ?_
    refine at_nil ?_
    exact at_end (k + 1) (by omega) (by omega) [(3, some 3), (7, some 7), (12, some 12), (13, some 13)] hI rfl rfl ⟨⟨_, rfl, .p rfl⟩, ⟨_, rfl, .p rfl⟩, ⟨_, rfl, .pure pu⟩, ⟨_, rfl, .pure pu⟩, ⟨_, rfl, .pure pu⟩, ⟨_, rfl, .p rfl⟩, ⟨_, rfl, .p rfl⟩, ⟨_, rfl, .pure pu⟩, ⟨_, rfl, .pure pu⟩, ⟨_, rfl, .pure pu⟩, ⟨_, rfl, .pure pu⟩, ⟨_, rfl, .pure pu⟩, ⟨_, rfl, .pure pu⟩, trivial⟩ ⟨.inr ⟨_, _, rfl, rfl, .pure pul⟩, .inr ⟨_, _, rfl, rfl, .pure pul⟩, .inr ⟨_, _, rfl, rfl, .pure pul⟩, .inr ⟨_, _, rfl, rfl, .pure pul⟩, trivial⟩
   ·obtain rfl : k = (bS x p q n).2.1.length := by have := of_decide_eq_false hc66; omega
    refine at_exit <| x_te <| x_te <| x_be <| x_tn <| at_seq <| at_seq ?_
    refine at_sayO 13 (cs' := filC (filO x n (bS x p q n).2.1)) rfl (by rw [List.take_length]; rfl) ?_
    refine at_region <| s1 (y_fld Tryd.underlying50 rfl ti3 (by decide) rfl rfl) rfl <| s1 (y_load ti3 rfl rfl rfl) rfl <| s1 (y_p rfl) rfl <| s1 ((y_p rfl).v (v' := .b false) (congrArg A.b (by simp [filO]))) rfl <| s1 (y_p rfl) rfl <| g1 rfl rfl (y_fld Tryd.underlying50 rfl ti3 (by decide) rfl rfl) rfl <| g1 rfl rfl (y_load ti3 rfl rfl rfl) rfl <| g1 rfl rfl (y_fld Tryd.underlying50 rfl ti3 (by decide) rfl rfl) rfl <| g1 rfl rfl (y_load ti3 rfl rfl rfl) rfl <| g1 rfl rfl ((y_p rfl).v (v' := .b false) (congrArg A.b (by simp))) rfl ?_
    refine s1 (y_p rfl) rfl <| s1 (y_p rfl) rfl <| g1 rfl rfl (y_fld Tryd.underlying50 rfl ti40 (by decide) rfl rfl) rfl <| g1 rfl rfl (y_load ti40 rfl rfl rfl) rfl <| g1 rfl rfl (y_str (l := (filO x n (bS x p q n).2.1).D) Tryd.underlying40 Tryd.underlying5 Tryd.underlying9 rfl rfl rfl) rfl <| g1 rfl rfl (y_fld Tryd.underlying50 rfl ti40 (by decide) rfl rfl) rfl <| g1 rfl rfl (y_load ti40 rfl rfl rfl) rfl <| g1 rfl rfl (y_str (l := (filO x n (bS x p q n).2.1).D) Tryd.underlying40 Tryd.underlying5 Tryd.underlying9 rfl rfl rfl) rfl <| g1 rfl rfl ((y_p rfl).v (v' := .b false) (congrArg A.b (by simp))) rfl <| s1 (y_p rfl) rfl ?_
    refine at_nil <| x_tn ?_
    refine at_else rfl ?_
    refine at_skip <| x_tn <| at_seq <| at_region <| s1 (y_p rfl) rfl ?_
    refine at_nil <| x_tn <| at_seq <| at_seq <| at_region <| s1 (y_p rfl) rfl <| s1 (y_len Tryd.underlying24 rfl rfl rfl) rfl <| s1 ((y_p rfl).v (v' := .i .i64 0) rfl) rfl ?_
    refine at_nil <| x_tn <| at_block ?_
    refine at_loop (ι := Nat) (fun k => [(3, .p 3 0), (7, .p 7 0), (9, intsA (bS x p q n).2.1), (10, intsA (bS x p q n).2.2), (13, .p 13 0), (17, .sl 220 1 0 (wrongL x (filO x n (bS x p q n).2.1) ((bS x p q n).2.2.take k)).length), (40, filsA (casB x p q).F), (41, nJ (casB x p q).F.length), (42, nJ n), (99, intsA (bS x p q n).2.2), (100, nJ (bS x p q n).2.2.length), (101, nJ k)]) (fun k => ⟨[(3, some (x.map u8)), (7, some (casL (casB x p q))), (13, some (filC (filO x n (bS x p q n).2.1))), (220, some ((wrongL x (filO x n (bS x p q n).2.1) ((bS x p q n).2.2.take k)).map iA))]⟩) (fun k => k ≤ (bS x p q n).2.2.length) (fun k => (bS x p q n).2.2.length - k) ?_ ?_
    ·exact at_ex (0) (Nat.zero_le _) [(3, some 3), (7, some 7), (13, some 13), (220, none)] hI rfl rfl ⟨⟨_, rfl, .p rfl⟩, ⟨_, rfl, .p rfl⟩, ⟨_, rfl, .pure pu⟩, ⟨_, rfl, .pure pu⟩, ⟨_, rfl, .p rfl⟩, ⟨_, rfl, .nl rfl⟩, ⟨_, rfl, .pure pu⟩, ⟨_, rfl, .pure pu⟩, ⟨_, rfl, .pure pu⟩, ⟨_, rfl, .pure pu⟩, ⟨_, rfl, .pure pu⟩, ⟨_, rfl, .pure pu⟩, trivial⟩ ⟨.inr ⟨_, _, rfl, rfl, .pure pul⟩, .inr ⟨_, _, rfl, rfl, .pure pul⟩, .inr ⟨_, _, rfl, rfl, .pure pul⟩, .inl ⟨rfl, rfl⟩, trivial⟩
    rintro k hk
    have hwl := len_wrong x (filO x n (bS x p q n).2.1) ((bS x p q n).2.2.take k)
    rw [List.length_take] at hwl
    refine at_seq <| at_region <| s1 (y_p rfl) rfl ?_
    refine at_nil <| x_tn <| at_seq ?_
    refine at_cond rfl (fun hc102 => ?_) (fun hc102 => ?_)
    ·have h102 : k < (bS x p q n).2.2.length := by have := of_decide_eq_true hc102; omega
     obtain ⟨v, hv⟩ : ∃ v, (bS x p q n).2.2[k]? = some v := ⟨_, List.getElem?_eq_getElem h102⟩
     have hv0 := hnumB v (List.mem_of_getElem? hv)
     refine at_skip <| x_tn <| at_seq <| at_block <| at_seq <| at_region <| s1 (y_ixf k Tryd.underlying24 ti3 rfl rfl rfl (by omega) rfl) rfl <| s1 (y_load ti3 rfl rfl (getI4 hv)) rfl <| s1 (y_p rfl) rfl ?_
     refine at_nil <| x_tn <| at_seq <| at_region <| s1 (y_loadA ti23 rfl rfl (List.take_of_length_le (by simp [hx])) (by simp [hx])) rfl <| s1 (y_loadA0 ti50 rfl rfl rfl) rfl <| s1 (y_p rfl) rfl ?_
     refine at_op rfl (n_call false rfl (.cons (.pure pu) (.cons (.pure pu) (.cons (.pure pu) (.nil)))) (Con.cast (fhas_ok x (filO x n (bS x p q n).2.1).lv (filO x n (bS x p q n).2.1).nb v (filO x n (bS x p q n).2.1).D hx) (has_lvl h16 hv0)) pu (.inl rfl) rfl ?_)
     refine s1 (y_p rfl) rfl <| s1 (y_p rfl) rfl <| s1 (y_p rfl) rfl <| s1 (y_p rfl) rfl <| s1 (y_p rfl) rfl ?_
     refine at_nil <| x_tn <| at_seq <| at_region <| s1 (y_p rfl) rfl <| s1 ((y_p rfl).v (v' := .b true) (rfl)) rfl <| s1 (y_p rfl) rfl <| g1 rfl rfl (y_p rfl) rfl <| s1 (y_p rfl) rfl ?_
     refine at_nil <| x_tn ?_
     refine at_cond rfl (fun hc116 => ?_) (fun hc116 => ?_)
     ·have hwn := wrong_len hv hc116
      refine at_region <| s1 (y_p rfl) rfl <| s1 (y_p rfl) rfl ?_
      refine at_op rfl (n_bs1 119 rfl Tryd.underlying24 ti3 rfl rfl rfl rfl rfl ?_)
      refine at_op rfl (n_app 120 rfl Tryd.underlying24 ti3 rfl (.sl rfl (by simp)) rfl (SM_full rfl (by first | rfl | omega | (simp <;> omega) | (simp [*] <;> omega))) (by simp) (by simp only [maxLen]; omega) (by omega) rfl (wrong_next hv hc116) rfl ?_)
      refine s1 (y_p rfl) rfl ?_
      refine at_nil <| x_bn <| x_tn <| at_region <| s1 (addN _ 1 rfl rfl rfl rfl (by omega)) rfl <| s1 (y_p rfl) rfl ?_
      refine at_nil ?_
      exact at_end (k + 1) (by omega) (by omega) [(3, some 3), (7, some 7), (13, some 13), (220, some 120)] hI rfl rfl ⟨⟨_, rfl, .p rfl⟩, ⟨_, rfl, .p rfl⟩, ⟨_, rfl, .pure pu⟩, ⟨_, rfl, .pure pu⟩, ⟨_, rfl, .p rfl⟩, ⟨_, rfl, .sl rfl (by first | rfl | omega | (simp <;> omega) | (simp [*] <;> omega))⟩, ⟨_, rfl, .pure pu⟩, ⟨_, rfl, .pure pu⟩, ⟨_, rfl, .pure pu⟩, ⟨_, rfl, .pure pu⟩, ⟨_, rfl, .pure pu⟩, ⟨_, rfl, .pure pu⟩, trivial⟩ ⟨.inr ⟨_, _, rfl, rfl, .pure pul⟩, .inr ⟨_, _, rfl, rfl, .pure pul⟩, .inr ⟨_, _, rfl, rfl, .pure pul⟩, .inr ⟨_, _, rfl, rfl, .pure pul⟩, trivial⟩
     ·have hfm := wrong_miss hv hc116
      have hwn : (wrongL x (filO x n (bS x p q n).2.1) ((bS x p q n).2.2.take k)).length = (wrongL x (filO x n (bS x p q n).2.1) ((bS x p q n).2.2.take (k + 1))).length := by rw [hfm]
      refine at_skip <| x_bn <| x_tn <| at_region <| s1 (addN _ 1 rfl rfl rfl rfl (by omega)) rfl <| s1 (y_p rfl) rfl ?_
      refine at_nil ?_
      exact at_end (k + 1) (by omega) (by omega) [(3, some 3), (7, some 7), (13, some 13), (220, some 220)] hI rfl rfl ⟨⟨_, rfl, .p rfl⟩, ⟨_, rfl, .p rfl⟩, ⟨_, rfl, .pure pu⟩, ⟨_, rfl, .pure pu⟩, ⟨_, rfl, .p rfl⟩, ⟨_, rfl, .sl rfl (by first | rfl | omega | (simp <;> omega) | (simp [*] <;> omega))⟩, ⟨_, rfl, .pure pu⟩, ⟨_, rfl, .pure pu⟩, ⟨_, rfl, .pure pu⟩, ⟨_, rfl, .pure pu⟩, ⟨_, rfl, .pure pu⟩, ⟨_, rfl, .pure pu⟩, trivial⟩ ⟨.inr ⟨_, _, rfl, rfl, .pure pul⟩, .inr ⟨_, _, rfl, rfl, .pure pul⟩, .inr ⟨_, _, rfl, rfl, .pure pul⟩, .inr ⟨_, _, rfl, rfl, .of (by rw [hfm]) (.pure pul)⟩, trivial⟩
    ·obtain rfl : k = (bS x p q n).2.2.length := by have := of_decide_eq_false hc102; omega
     refine at_exit <| x_te <| x_te <| x_be <| x_tn ?_
     refine at_frz 17 rfl rfl pul (view_eq (by simp) rfl) ?_
     refine at_say 17 rfl (v' := intsA (bS x p q (n + 1)).2.1) (by rw [List.take_length]; rfl) ?_
     refine at_region <| s1 (y_p rfl) rfl <| s1 (y_p rfl) rfl <| s1 (y_p rfl) rfl <| s1 (y_p rfl) rfl ?_
     refine at_nil <| x_bn <| x_tn <| at_region <| s1 (addN _ 1 rfl rfl rfl rfl (by omega)) rfl <| s1 (y_p rfl) rfl ?_
     refine at_nil ?_
     exact at_end (n + 1) (by omega) (by omega) [(3, some 3), (7, some 7)] hI rfl rfl ⟨⟨_, rfl, .p rfl⟩, ⟨_, rfl, .p rfl⟩, ⟨_, rfl, .pure pu⟩, ⟨_, rfl, .pure pu⟩, ⟨_, rfl, .pure pu⟩, ⟨_, rfl, .pure pu⟩, ⟨_, rfl, .pure pu⟩, trivial⟩ ⟨.inr ⟨_, _, rfl, rfl, .pure pul⟩, .inr ⟨_, _, rfl, rfl, .pure pul⟩, trivial⟩
  ·obtain rfl : n = endB x p q := by have := of_decide_eq_false hc43; omega
   refine at_exit <| x_te <| x_te <| x_be <| x_tn <| at_seq ?_
   rcases end_ways x p q with hcs | hcs
   ·have h0 : (bS x p q (endB x p q)).2.1.length = 0 := by rw [hcs]; rfl
    refine at_region <| s1 (y_fld Tryd.underlying27 rfl ti24 (by decide) rfl rfl) rfl <| s1 (y_load ti24 rfl rfl (cas_E (c := casB x p q) hx)) rfl <| s1 (y_p rfl) rfl ?_
    refine at_op rfl (n_call false rfl (.cons (.pure pu) (.cons (.pure pu) (.nil))) (Con.cast (sameI4_ok (casB x p q).E (casB x p q).E (by simp only [maxLen]; omega) (by simp only [maxLen]; omega)) (congrArg A.b (beq_self_eq_true _))) pu (.inl rfl) rfl ?_)
    refine s1 (y_p rfl) rfl <| g1 rfl rfl (y_p rfl) rfl <| g1 rfl rfl (y_len Tryd.underlying24 rfl rfl rfl) rfl <| g1 rfl rfl ((y_p rfl).v (v' := .b true) (congrArg A.b (decide_eq_true (by omega)))) rfl <| g1 rfl rfl (y_p rfl) rfl <| g0 rfl rfl rfl rfl <| g0 rfl rfl rfl rfl <| g0 rfl rfl rfl rfl <| g0 rfl rfl rfl rfl <| g1 rfl rfl (y_p rfl) rfl ?_
    refine s1 (y_p rfl) rfl <| s1 (y_p rfl) rfl ?_
    refine at_nil <| x_tn <| at_ret ?_
    refine at_result (rs := [.tmp 6]) rfl (r_tmp rfl r_nil) ?_
    rfl
   ·obtain ⟨hcs, h16⟩ := hcs
    have h0 : (bS x p q (endB x p q)).2.1.length ≠ 0 := fun h => hcs (List.length_eq_zero_iff.1 h)
    refine at_region <| s1 (y_fld Tryd.underlying27 rfl ti24 (by decide) rfl rfl) rfl <| s1 (y_load ti24 rfl rfl (cas_E (c := casB x p q) hx)) rfl <| s1 (y_p rfl) rfl ?_
    refine at_op rfl (n_call false rfl (.cons (.pure pu) (.cons (.pure pu) (.nil))) (Con.cast (sameI4_ok (casB x p q).E (casB x p q).E (by simp only [maxLen]; omega) (by simp only [maxLen]; omega)) (congrArg A.b (beq_self_eq_true _))) pu (.inl rfl) rfl ?_)
    refine s1 (y_p rfl) rfl <| g1 rfl rfl (y_p rfl) rfl <| g1 rfl rfl (y_len Tryd.underlying24 rfl rfl rfl) rfl <| g1 rfl rfl ((y_p rfl).v (v' := .b false) (congrArg A.b (decide_eq_false (by omega)))) rfl <| g1 rfl rfl (y_p rfl) rfl <| g1 rfl rfl (y_fld Tryd.underlying27 rfl ti25 (by decide) rfl rfl) rfl <| g1 rfl rfl (y_load ti25 rfl rfl (cas_F (c := casB x p q) hx)) rfl <| g1 rfl rfl (y_len Tryd.underlying25 rfl rfl rfl) rfl <| g1 rfl rfl ((y_p rfl).v (v' := .b true) (congrArg A.b (decide_eq_true (by omega)))) rfl <| g1 rfl rfl (y_p rfl) rfl ?_
    refine s1 (y_p rfl) rfl <| s1 (y_p rfl) rfl ?_
    refine at_nil <| x_tn <| at_ret ?_
    refine at_result (rs := [.tmp 6]) rfl (r_tmp rfl r_nil) ?_
    rfl
end Go.Abs.D2
