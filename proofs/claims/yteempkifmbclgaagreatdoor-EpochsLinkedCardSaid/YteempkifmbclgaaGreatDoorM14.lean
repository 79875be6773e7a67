/-
  The engine, the plain laws and the walks that the rows need, part 14. Conditions: none.
-/
import Derived.Test.YteempkifmbclgaaGreatDoorM13
set_option linter.unusedVariables false
set_option linter.unusedSimpArgs false
set_option maxHeartbeats 1000000
set_option maxRecDepth 10000
-- C4G
namespace Go.Abs.D2
open Go Go.Eng Go.Abs Go.Proofs
theorem cnumV_ok (n:Int):Con Tryz.prog 121 [.i .i64 n] (Ret (.ag (CV.cells (intV n)))):=by
 refine enter Tryz.func121 rfl Tryz.ntmps121 (by kernel_rfl) (Nat.le_of_ble_eq_true rfl) fun w0 X0 hI=>?_
 refine at_seq<|at_region ?_
 refine at_op rfl (n_alloc 2 rfl ti109 rfl rfl ?_)
 refine at_nil<|x_tn<|at_seq<|at_region<|s1 (y_p rfl) rfl<|s1 (y_bld (out:= [_,_,_,_]) [[evC (.int .i64 0)], [evC (.int .i64 0)], [evC (.string ByteArray.empty)], [evC (.slice none 0 0)]] ti109 rfl Tryz.underlying109 (by kernel_rfl) rfl rfl ⟨⟨by(first|rfl|omega|(simp;done)|(simp [*];done)|(simp [cellsA, *];done)),rfl⟩,⟨⟨by(first|rfl|omega|(simp;done)|(simp [*];done)|(simp [cellsA, *];done)),rfl⟩,trivial⟩⟩ rfl) rfl ?_
 refine at_op rfl (n_storeA ti109 rfl rfl rfl (by first|rfl|omega|(simp<;>omega)|(simp [*]<;>omega)) (by first|rfl|omega|(simp<;>omega)|(simp [*]<;>omega)) ?_)
 refine at_nil<|x_tn<|at_ret ?_
 refine at_wkO 2 rfl wk_cv ?_
 refine at_result (rs:= [.cell 2 109]) rfl (r_cellA ti109 rfl rfl rfl rfl r_nil) ?_
 rfl
theorem ctxtV_ok (l:List UInt8):Con Tryz.prog 122 [.fz l.length (l.map u8)] (Ret (.ag (CV.cells (txtV l)))):=by
 refine enter Tryz.func122 rfl Tryz.ntmps122 (by kernel_rfl) (Nat.le_of_ble_eq_true rfl) fun w0 X0 hI=>?_
 refine at_seq<|at_region ?_
 refine at_op rfl (n_alloc 2 rfl ti109 rfl rfl ?_)
 refine at_nil<|x_tn<|at_seq<|at_region<|s1 (y_p rfl) rfl<|s1 (y_str Tryz.underlying68 Tryz.underlying5 Tryz.underlying9 rfl rfl (by simp)) rfl<|s1 (y_bld (out:= [_,_,_,_]) [[evC (.int .i64 0)], [evC (.int .i64 0)], [evC (.string ByteArray.empty)], [evC (.slice none 0 0)]] ti109 rfl Tryz.underlying109 (by kernel_rfl) rfl rfl ⟨⟨by(first|rfl|omega|(simp;done)|(simp [*];done)|(simp [cellsA, *];done)),rfl⟩,⟨⟨by(first|rfl|omega|(simp;done)|(simp [*];done)|(simp [cellsA, *];done)),rfl⟩,trivial⟩⟩ rfl) rfl ?_
 refine at_op rfl (n_storeA ti109 rfl rfl rfl (by first|rfl|omega|(simp<;>omega)|(simp [*]<;>omega)) (by first|rfl|omega|(simp<;>omega)|(simp [*]<;>omega)) ?_)
 refine at_nil<|x_tn<|at_ret ?_
 refine at_wkO 2 rfl wk_cv ?_
 refine at_result (rs:= [.cell 2 109]) rfl (r_cellA ti109 rfl rfl rfl rfl r_nil) ?_
 rfl
theorem clstV_ok (l:List CV):Con Tryz.prog 120 [.fz l.length (CV.cellsL l)] (Ret (.ag (CV.cells (lstV l)))):=by
 refine enter Tryz.func120 rfl Tryz.ntmps120 (by kernel_rfl) (Nat.le_of_ble_eq_true rfl) fun w0 X0 hI=>?_
 refine at_seq<|at_region ?_
 refine at_op rfl (n_alloc 2 rfl ti109 rfl rfl ?_)
 refine at_nil<|x_tn<|at_seq<|at_region<|s1 (y_p rfl) rfl<|s1 (y_bld (out:= [_,_,_,_]) [[evC (.int .i64 0)], [evC (.int .i64 0)], [evC (.string ByteArray.empty)], [evC (.slice none 0 0)]] ti109 rfl Tryz.underlying109 (by kernel_rfl) rfl rfl ⟨⟨by(first|rfl|omega|(simp;done)|(simp [*];done)|(simp [cellsA, *];done)),rfl⟩,⟨⟨by(first|rfl|omega|(simp;done)|(simp [*];done)|(simp [cellsA, *];done)),rfl⟩,trivial⟩⟩ rfl) rfl ?_
 refine at_op rfl (n_storeA ti109 rfl rfl rfl (by first|rfl|omega|(simp<;>omega)|(simp [*]<;>omega)) (by first|rfl|omega|(simp<;>omega)|(simp [*]<;>omega)) ?_)
 refine at_nil<|x_tn<|at_ret ?_
 refine at_result (rs:= [.cell 2 109]) rfl (r_cellA ti109 rfl rfl rfl rfl r_nil) ?_
 rfl
theorem cencC_ok (c:Cas) (hx:c.x.length=32) (hn:c.E.length≤maxLen):Con Tryz.prog 79 [.ag (casL c)] (Ret (encCA c)):=by
 refine enter Tryz.func79 rfl Tryz.ntmps79 (by kernel_rfl) (Nat.le_of_ble_eq_true rfl) fun w0 X0 hI=>?_
 refine at_seq<|at_region ?_
 refine at_op rfl (n_boxA 1 rfl rfl rfl ?_)
 refine s1 (y_p rfl) rfl<|s1 ((y_p rfl).v (v':= .i .i64 0) rfl) rfl ?_
 refine at_nil<|x_tn<|at_seq<|at_seq ?_
 rcases tfC (chkC c)with hcs|hcs
 ·skip
  refine at_region<|s1 (y_loadA0 ti60 rfl rfl (cas_len hx)) rfl ?_
  refine at_op rfl (n_call false rfl (.cons (.pure pu) (.nil)) (Con.cast (cchk_ok c hx hn) (congrArg (fun b=>A.i .i64 (errC b)) hcs)) pu (.inl rfl) rfl ?_)
  refine s1 (y_p rfl) rfl ?_
  refine at_nil<|x_tn<|at_seq<|at_region<|s1 (y_p rfl) rfl<|s1 ((y_p rfl).v (v':= .b true) (rfl)) rfl ?_
  refine at_nil<|x_tn ?_
  refine at_then rfl ?_
  refine at_seq<|at_region<|s1 (y_p rfl) rfl<|s1 (y_p rfl) rfl<|s1 (y_p rfl) rfl ?_
  refine at_nil<|x_tn<|at_ret<|x_tr ?_
  refine at_result (rs:= [.tmp 2,.tmp 3]) rfl (r_tmp rfl (r_tmp rfl r_nil)) ?_
  exact(encCA_n hcs).symm
 ·obtain ⟨hF, hE, _⟩ := chkC_all hcs
  have hEl:=listed_len hE
  have hel:=enc_cas hcs hx
  refine at_region<|s1 (y_loadA0 ti60 rfl rfl (cas_len hx)) rfl ?_
  refine at_op rfl (n_call false rfl (.cons (.pure pu) (.nil)) (Con.cast (cchk_ok c hx hn) (congrArg (fun b=>A.i .i64 (errC b)) hcs)) pu (.inl rfl) rfl ?_)
  refine s1 (y_p rfl) rfl ?_
  refine at_nil<|x_tn<|at_seq<|at_region<|s1 (y_p rfl) rfl<|s1 ((y_p rfl).v (v':= .b false) (rfl)) rfl ?_
  refine at_nil<|x_tn ?_
  refine at_else rfl ?_
  refine at_skip<|x_tn<|at_seq<|at_region<|s1 (y_p rfl) rfl<|s1 (y_p rfl) rfl ?_
  refine at_nil<|x_tn<|at_seq<|at_seq<|at_region<|s1 (y_fld Tryz.underlying60 rfl ti58 (by decide) rfl rfl) rfl<|s1 (y_load ti58 rfl rfl (cas_F hx)) rfl<|s1 (y_len Tryz.underlying58 rfl rfl rfl) rfl<|s1 ((y_p rfl).v (v':= .i .i64 0) rfl) rfl ?_
  refine at_nil<|x_tn<|at_block ?_
  refine at_loop (ι:=Nat) (fun i=> [(1,.p 1 0),(5,.sl 133 4 0 i),(6,.nl),(17,filsA c.F),(18,nJ c.F.length),(19,nJ i)]) (fun i=>⟨[(1,some (casL c)),(133,some (CV.cellsL ((c.F.take i).map filV)))]⟩) (fun i=>i≤c.F.length) (fun i=>c.F.length - i) ?_ ?_
  ·exact at_ex (0) (Nat.zero_le _) [(1,some 1),(133,none)] hI rfl rfl ⟨⟨_,rfl,.p rfl⟩,⟨_,rfl,.nl rfl⟩,⟨_,rfl,.pure pu⟩,⟨_,rfl,.pure pu⟩,⟨_,rfl,.pure pu⟩,⟨_,rfl,.pure pu⟩,trivial⟩ ⟨.inr ⟨_,_,rfl,rfl,.pure pul⟩,.inl ⟨rfl,rfl⟩,trivial⟩
  rintro i hi
  refine at_seq<|at_region<|s1 (y_p rfl) rfl ?_
  refine at_nil<|x_tn<|at_seq ?_
  refine at_cond rfl (fun hc20=>?_) (fun hc20=>?_)
  ·have h19 : i < c.F.length := by have := of_decide_eq_true hc20; omega
   obtain⟨f,hf⟩:∃f,c.F[i]? =some f:=⟨_,List.getElem?_eq_getElem h19⟩
   refine at_skip<|x_tn<|at_seq<|at_block<|at_seq<|at_region<|s1 (y_ixf i Tryz.underlying58 ti120 rfl rfl rfl (by omega) rfl) rfl<|s1 (y_loadA ti120 rfl rfl (flat_get hf) rfl) rfl ?_
   refine at_op rfl (n_alloc 8 rfl ti120 rfl rfl ?_)
   refine at_op rfl (n_storeA ti120 rfl rfl rfl (by first|rfl|omega|(simp<;>omega)|(simp [*]<;>omega)) (by first|rfl|omega|(simp<;>omega)|(simp [*]<;>omega)) ?_)
   refine at_nil<|x_tn ?_
   refine at_fs ⟨_, [], []⟩ 11 4 hmix (le_refl rfl) ?_
   refine fs_q 0 [] [(133,none)] (y_p rfl) rfl rfl ?_
   refine fs_q 1 [] [(8,none)] (y_fld Tryz.underlying120 rfl ti3 (by decide) rfl rfl) rfl rfl ?_
   refine fs_q 2 [1] [(8,none)] (y_load ti3 rfl rfl rfl) rfl rfl ?_
   refine fs_call false 3 [2] [] gy0 rfl (.cons (.pure pu) (.nil)) (cnumV_ok f.nb) pu (.inl rfl) rfl rfl ?_
   refine fs_q 4 [] [(8,none)] (y_fld Tryz.underlying120 rfl ti68 (by decide) rfl rfl) rfl rfl ?_
   refine fs_q 5 [4] [(8,none)] (y_load ti68 rfl rfl rfl) rfl rfl ?_
   refine fs_call false 6 [5] [] gy0 rfl (.cons (.pure pu) (.nil)) (ctxtV_ok f.D) pu (.inl rfl) rfl rfl ?_
   refine fs_bs 30 7 [3,6] gy0 Tryz.underlying107 ti109 rfl rfl rfl (by simp [cellsA]) (show _=CV.cellsL [intV f.nb,txtV f.D]from rfl) rfl rfl rfl rfl ?_
   refine fs_callF 30 8 [7] [(30,some 7)] gy0 rfl rfl pul rfl (CV.cellsL_all [intV f.nb,txtV f.D]) rfl (by exact pul) (clstV_ok [intV f.nb,txtV f.D]) pu rfl rfl ?_
   refine fs_bs 32 9 [8] gy0 Tryz.underlying107 ti109 rfl rfl rfl (by simp [cellsA]) (one_cv (filV f)) rfl rfl rfl rfl ?_
   refine fs_app 33 10 [0,9] [(32,some 9),(133,none)] gy0 Tryz.underlying107 ti109 rfl (.sl rfl (by simp;omega)) rfl (SM_full rfl (by first|rfl|omega|(simp<;>omega)|(simp [*]<;>omega))) (by simp) (by simp only [maxLen];omega) (by omega) rfl rfl rfl rfl ?_
   refine fs_end (by kernel_rfl) ?_
   refine s1 (y_p rfl) rfl ?_
   refine at_nil<|x_bn<|x_tn<|at_region<|s1 (addN _ 1 rfl rfl rfl rfl (by omega)) rfl<|s1 (y_p rfl) rfl ?_
   refine at_nil ?_
   exact at_end (i+1) (by omega) (by omega) [(1,some 1),(133,some 33)] hI rfl rfl ⟨⟨_,rfl,.p rfl⟩,⟨_,rfl,.sl rfl (by first|rfl|omega|(simp<;>omega)|(simp [*]<;>omega))⟩,⟨_,rfl,.pure pu⟩,⟨_,rfl,.pure pu⟩,⟨_,rfl,.pure pu⟩,⟨_,rfl,.pure pu⟩,trivial⟩ ⟨.inr ⟨_,_,rfl,rfl,.pure pul⟩,.inr ⟨_,_,rfl,rfl,.of (fil_nextV hf) (.pure pul)⟩,trivial⟩
  ·obtain rfl : i = c.F.length := by have := of_decide_eq_false hc20; omega
   refine at_exit<|x_te<|x_te<|x_be<|x_tn<|at_seq<|at_seq ?_
   refine at_sayO 133 (cs':=CV.cellsL (c.F.map filV)) rfl (by rw [List.take_length]) ?_
   refine at_region<|s1 (y_fld Tryz.underlying60 rfl ti30 (by decide) rfl rfl) rfl<|s1 (y_load ti30 rfl rfl (cas_E hx)) rfl<|s1 (y_len Tryz.underlying30 rfl rfl rfl) rfl<|s1 ((y_p rfl).v (v':= .i .i64 0) rfl) rfl ?_
   refine at_nil<|x_tn<|at_block ?_
   refine at_loop (ι:=Nat) (fun k=> [(1,.p 1 0),(5,.sl 133 4 0 c.F.length),(6,.sl 146 4 0 k),(36,intsA c.E),(37,nJ c.E.length),(38,nJ k)]) (fun k=>⟨[(1,some (casL c)),(133,some (CV.cellsL (c.F.map filV))),(146,some (CV.cellsL ((c.E.take k).map intV)))]⟩) (fun k=>k≤c.E.length) (fun k=>c.E.length - k) ?_ ?_
   ·exact at_ex (0) (Nat.zero_le _) [(1,some 1),(133,some 133),(146,none)] hI rfl rfl ⟨⟨_,rfl,.p rfl⟩,⟨_,rfl,.sl rfl (by first|rfl|omega|(simp<;>omega)|(simp [*]<;>omega))⟩,⟨_,rfl,.nl rfl⟩,⟨_,rfl,.pure pu⟩,⟨_,rfl,.pure pu⟩,⟨_,rfl,.pure pu⟩,trivial⟩ ⟨.inr ⟨_,_,rfl,rfl,.pure pul⟩,.inr ⟨_,_,rfl,rfl,.pure pul⟩,.inl ⟨rfl,rfl⟩,trivial⟩
   rintro k hk
   refine at_seq<|at_region<|s1 (y_p rfl) rfl ?_
   refine at_nil<|x_tn<|at_seq ?_
   refine at_cond rfl (fun hc39=>?_) (fun hc39=>?_)
   ·have h30 : k < c.E.length := by have := of_decide_eq_true hc39; omega
    obtain⟨q,hq⟩:∃q,c.E[k]? =some q:=⟨_,List.getElem?_eq_getElem h30⟩
    refine at_skip<|x_tn<|at_seq<|at_block<|at_seq<|at_region<|s1 (y_ixf k Tryz.underlying30 ti3 rfl rfl rfl (by omega) rfl) rfl<|s1 (y_load ti3 rfl rfl (getI4 hq)) rfl<|s1 (y_p rfl) rfl ?_
    refine at_nil<|x_tn<|at_region<|s1 (y_p rfl) rfl<|s1 (y_p rfl) rfl ?_
    refine at_op rfl (n_call false rfl (.cons (.pure pu) (.nil)) (cnumV_ok q) pu (.inl rfl) rfl ?_)
    refine at_op rfl (n_bs 45 rfl Tryz.underlying107 ti109 rfl rfl rfl (by simp [cellsA]) (one_cv (intV q)) rfl rfl rfl ?_)
    refine at_op rfl (n_app 46 rfl Tryz.underlying107 ti109 rfl (.sl rfl (by simp;omega)) rfl (SM_full rfl (by first|rfl|omega|(simp<;>omega)|(simp [*]<;>omega))) (by simp) (by simp only [maxLen];omega) (by omega) rfl rfl rfl ?_)
    refine s1 (y_p rfl) rfl ?_
    refine at_nil<|x_bn<|x_tn<|at_region<|s1 (addN _ 1 rfl rfl rfl rfl (by omega)) rfl<|s1 (y_p rfl) rfl ?_
    refine at_nil ?_
    exact at_end (k+1) (by omega) (by omega) [(1,some 1),(133,some 133),(146,some 46)] hI rfl rfl ⟨⟨_,rfl,.p rfl⟩,⟨_,rfl,.sl rfl (by first|rfl|omega|(simp<;>omega)|(simp [*]<;>omega))⟩,⟨_,rfl,.sl rfl (by first|rfl|omega|(simp<;>omega)|(simp [*]<;>omega))⟩,⟨_,rfl,.pure pu⟩,⟨_,rfl,.pure pu⟩,⟨_,rfl,.pure pu⟩,trivial⟩ ⟨.inr ⟨_,_,rfl,rfl,.pure pul⟩,.inr ⟨_,_,rfl,rfl,.pure pul⟩,.inr ⟨_,_,rfl,rfl,.of (int_nextV hq) (.pure pul)⟩,trivial⟩
   ·obtain rfl : k = c.E.length := by have := of_decide_eq_false hc39; omega
    refine at_exit<|x_te<|x_te<|x_be<|x_tn<|at_seq ?_
    refine at_sayO 146 (cs':=CV.cellsL (c.E.map intV)) rfl (by rw [List.take_length]) ?_
    refine at_frzP 1 rfl rfl pul ?_
    refine at_region<|s1 (y_fldf Tryz.underlying60 rfl ti23 (by decide) rfl rfl) rfl<|s1 ((y_cutfa (ds:=((casL c).drop (0*1)).take (32*1)) 32 Tryz.underlying23 ti5 rfl (by simp [maxLen]) bn bn (Nat.zero_le _) (Nat.le_refl _) (by simp [hx]) rfl rfl).v (cas_cut hx)) rfl ?_
    refine at_op rfl (n_call false rfl (.cons (.pure pu) (.nil)) (ctxtV_ok c.x) pu (.inl rfl) rfl ?_)
    refine s1 (y_p rfl) rfl ?_
    refine at_op rfl (n_callF 51 rfl rfl pul (by simp) (view_cv (by simp)) rfl (by exact pul) (clstV_ok (c.F.map filV)) pu rfl ?_)
    refine s1 (y_p rfl) rfl ?_
    refine at_op rfl (n_callF 53 rfl rfl pul (by simp) (view_cv (by simp)) rfl (by exact pul) (clstV_ok (c.E.map intV)) pu rfl ?_)
    refine at_op rfl (n_bs 55 rfl Tryz.underlying107 ti109 rfl rfl rfl (by simp [cellsA]) (show _=CV.cellsL [txtV c.x,lstV (c.F.map filV),lstV (c.E.map intV)]from rfl) rfl rfl rfl ?_)
    refine at_op rfl (n_callF 55 rfl rfl pul rfl (CV.cellsL_all [txtV c.x,lstV (c.F.map filV),lstV (c.E.map intV)]) rfl (by exact pul) (clstV_ok [txtV c.x,lstV (c.F.map filV),lstV (c.E.map intV)]) pu rfl ?_)
    refine at_op rfl (n_call false rfl (.cons (.pure pu) (.nil)) (Con.cast (cencode_ok 3 0 [] [txtV c.x,lstV (c.F.map filV),lstV (c.E.map intV)] (size_cas hcs hx) (rng_cas hcs) (Nat.le_trans hel (by omega))) (encA_cas hcs)) pu (.inl rfl) rfl ?_)
    refine s1 (y_p rfl) rfl<|s1 (y_p rfl) rfl<|s1 (y_p rfl) rfl<|s1 (y_p rfl) rfl ?_
    refine at_nil<|x_tn<|at_ret ?_
    refine at_result (rs:= [.tmp 2,.tmp 3]) rfl (r_tmp rfl (r_tmp rfl r_nil)) ?_
    exact(encCA_y hcs).symm
theorem cdigC_ok (c:Cas) (hx:c.x.length=32) (hn:c.E.length≤maxLen):Con Tryz.prog 31 [.ag (casL c)] (Ret (digCA c)):=by
 refine enter Tryz.func31 rfl Tryz.ntmps31 (by kernel_rfl) (Nat.le_of_ble_eq_true rfl) fun w0 X0 hI=>?_
 refine at_seq<|at_region ?_
 refine at_op rfl (n_boxA 1 rfl rfl rfl ?_)
 refine at_op rfl (n_alloc 2 rfl ti23 rfl rfl ?_)
 refine s1 ((y_p rfl).v (v':= .i .i64 0) rfl) rfl ?_
 refine at_nil<|x_tn<|at_seq ?_
 rcases tfC (chkC c)with hcs|hcs
 ·skip
  refine at_region<|s1 (y_loadA0 ti60 rfl rfl (cas_len hx)) rfl ?_
  refine at_op rfl (n_call false rfl (.cons (.pure pu) (.nil)) (Con.cast (cencC_ok c hx hn) (encCA_n hcs)) pu (.inl rfl) rfl ?_)
  refine s1 (y_p rfl) rfl<|s1 (y_p rfl) rfl<|s1 (y_p rfl) rfl<|s1 (y_p rfl) rfl<|s1 (y_p rfl) rfl ?_
  refine at_nil<|x_tn<|at_seq<|at_seq<|at_region<|s1 (y_p rfl) rfl<|s1 ((y_p rfl).v (v':= .b true) (rfl)) rfl ?_
  refine at_nil<|x_tn ?_
  refine at_then rfl ?_
  refine at_seq<|at_region<|s1 (y_loadA0 ti23 rfl rfl rfl) rfl<|s1 (y_p rfl) rfl ?_
  refine at_op rfl (n_storeA ti23 rfl rfl rfl (by first|rfl|omega|(simp<;>omega)|(simp [*]<;>omega)) (by first|rfl|omega|(simp<;>omega)|(simp [*]<;>omega)) ?_)
  refine s1 (y_p rfl) rfl ?_
  refine at_nil<|x_tn<|at_ret<|x_tr ?_
  refine at_result (rs:= [.cell 2 23,.tmp 3]) rfl (r_cellA ti23 rfl rfl rfl rfl (r_tmp rfl r_nil)) ?_
  exact(digCA_n hcs).symm
 ·have hel := enc_cas hcs hx
  refine at_region<|s1 (y_loadA0 ti60 rfl rfl (cas_len hx)) rfl ?_
  refine at_op rfl (n_call false rfl (.cons (.pure pu) (.nil)) (Con.cast (cencC_ok c hx hn) (encCA_y hcs)) pu (.inl rfl) rfl ?_)
  refine s1 (y_p rfl) rfl<|s1 (y_p rfl) rfl<|s1 (y_p rfl) rfl<|s1 (y_p rfl) rfl<|s1 (y_p rfl) rfl ?_
  refine at_nil<|x_tn<|at_seq<|at_seq<|at_region<|s1 (y_p rfl) rfl<|s1 ((y_p rfl).v (v':= .b false) (rfl)) rfl ?_
  refine at_nil<|x_tn ?_
  refine at_else rfl ?_
  refine at_skip<|x_tn<|at_seq<|at_region<|s1 (y_p rfl) rfl ?_
  refine at_op rfl (n_call false rfl (.cons (.pure pu) (.cons (.pure pu) (.nil))) (Con.cast (tagged_ok tagC (casV c).enc (by omega) (by decide)) (congrArg (fun l:List UInt8=>A.ag (l.map u8)) (digC_eq c).symm)) pu (.inl rfl) rfl ?_)
  refine at_op rfl (n_storeA ti23 rfl rfl rfl (by first|rfl|omega|(simp<;>omega)|(simp [*]<;>omega)) (by first|rfl|omega|(simp<;>omega)|(simp [*]<;>omega)) ?_)
  refine s1 ((y_p rfl).v (v':= .i .i64 0) rfl) rfl ?_
  refine at_nil<|x_tn<|at_ret ?_
  refine at_result (rs:= [.cell 2 23,.tmp 3]) rfl (r_cellA ti23 rfl rfl (List.take_of_length_le (by simp)) (by simp) (r_tmp rfl r_nil)) ?_
  exact(digCA_y hcs).symm
end Go.Abs.D2
-- E5C
namespace Go.Abs.D2
open Go Go.Eng Go.Abs Go.Proofs
theorem enumV_ok (n:Int):Con Tryz.prog 68 [.i .i64 n] (Ret (.ag (CV.cells (intV n)))):=by
 refine enter Tryz.func68 rfl Tryz.ntmps68 (by kernel_rfl) (Nat.le_of_ble_eq_true rfl) fun w0 X0 hI=>?_
 refine at_seq<|at_region ?_
 refine at_op rfl (n_alloc 2 rfl ti109 rfl rfl ?_)
 refine at_nil<|x_tn<|at_seq<|at_region<|s1 (y_p rfl) rfl<|s1 (y_bld (out:= [_,_,_,_]) [[evC (.int .i64 0)], [evC (.int .i64 0)], [evC (.string ByteArray.empty)], [evC (.slice none 0 0)]] ti109 rfl Tryz.underlying109 (by kernel_rfl) rfl rfl ⟨⟨by(first|rfl|omega|(simp;done)|(simp [*];done)|(simp [cellsA, *];done)),rfl⟩,⟨⟨by(first|rfl|omega|(simp;done)|(simp [*];done)|(simp [cellsA, *];done)),rfl⟩,trivial⟩⟩ rfl) rfl ?_
 refine at_op rfl (n_storeA ti109 rfl rfl rfl (by first|rfl|omega|(simp<;>omega)|(simp [*]<;>omega)) (by first|rfl|omega|(simp<;>omega)|(simp [*]<;>omega)) ?_)
 refine at_nil<|x_tn<|at_ret ?_
 refine at_wkO 2 rfl wk_cv ?_
 refine at_result (rs:= [.cell 2 109]) rfl (r_cellA ti109 rfl rfl rfl rfl r_nil) ?_
 rfl
theorem elstV_ok (l:List CV):Con Tryz.prog 67 [.fz l.length (CV.cellsL l)] (Ret (.ag (CV.cells (lstV l)))):=by
 refine enter Tryz.func67 rfl Tryz.ntmps67 (by kernel_rfl) (Nat.le_of_ble_eq_true rfl) fun w0 X0 hI=>?_
 refine at_seq<|at_region ?_
 refine at_op rfl (n_alloc 2 rfl ti109 rfl rfl ?_)
 refine at_nil<|x_tn<|at_seq<|at_region<|s1 (y_p rfl) rfl<|s1 (y_bld (out:= [_,_,_,_]) [[evC (.int .i64 0)], [evC (.int .i64 0)], [evC (.string ByteArray.empty)], [evC (.slice none 0 0)]] ti109 rfl Tryz.underlying109 (by kernel_rfl) rfl rfl ⟨⟨by(first|rfl|omega|(simp;done)|(simp [*];done)|(simp [cellsA, *];done)),rfl⟩,⟨⟨by(first|rfl|omega|(simp;done)|(simp [*];done)|(simp [cellsA, *];done)),rfl⟩,trivial⟩⟩ rfl) rfl ?_
 refine at_op rfl (n_storeA ti109 rfl rfl rfl (by first|rfl|omega|(simp<;>omega)|(simp [*]<;>omega)) (by first|rfl|omega|(simp<;>omega)|(simp [*]<;>omega)) ?_)
 refine at_nil<|x_tn<|at_ret ?_
 refine at_result (rs:= [.cell 2 109]) rfl (r_cellA ti109 rfl rfl rfl rfl r_nil) ?_
 rfl
theorem elst0_ok:Con Tryz.prog 67 [.nl] (Ret (.ag [.i .i64 3,.i .i64 0,.s [],.nl])):=by
 refine enter Tryz.func67 rfl Tryz.ntmps67 (by kernel_rfl) (Nat.le_of_ble_eq_true rfl) fun w0 X0 hI=>?_
 refine at_seq<|at_region ?_
 refine at_op rfl (n_alloc 2 rfl ti109 rfl rfl ?_)
 refine at_nil<|x_tn<|at_seq<|at_region<|s1 (y_p rfl) rfl<|s1 (y_bld (out:= [_,_,_,_]) [[evC (.int .i64 0)], [evC (.int .i64 0)], [evC (.string ByteArray.empty)], [evC (.slice none 0 0)]] ti109 rfl Tryz.underlying109 (by kernel_rfl) rfl rfl ⟨⟨by(first|rfl|omega|(simp;done)|(simp [*];done)|(simp [cellsA, *];done)),rfl⟩,⟨⟨by(first|rfl|omega|(simp;done)|(simp [*];done)|(simp [cellsA, *];done)),rfl⟩,trivial⟩⟩ rfl) rfl ?_
 refine at_op rfl (n_storeA ti109 rfl rfl rfl (by first|rfl|omega|(simp<;>omega)|(simp [*]<;>omega)) (by first|rfl|omega|(simp<;>omega)|(simp [*]<;>omega)) ?_)
 refine at_nil<|x_tn<|at_ret ?_
 refine at_result (rs:= [.cell 2 109]) rfl (r_cellA ti109 rfl rfl rfl rfl r_nil) ?_
 rfl
theorem etxtV_ok (x:List UInt8) (hx:x.length=32):Con Tryz.prog 70 [.ag (x.map u8)] (Ret (.ag (CV.cells (txtV x)))):=by
 refine enter Tryz.func70 rfl Tryz.ntmps70 (by kernel_rfl) (Nat.le_of_ble_eq_true rfl) fun w0 X0 hI=>?_
 refine at_seq<|at_region ?_
 refine at_op rfl (n_boxA 1 rfl rfl rfl ?_)
 refine at_op rfl (n_alloc 2 rfl ti109 rfl rfl ?_)
 refine at_nil<|x_tn<|at_seq ?_
 refine at_frzP 1 rfl rfl pul ?_
 refine at_region<|s1 ((y_cutfa (ds:=((x.map u8).drop (0*1)).take (32*1)) 32 Tryz.underlying23 ti5 rfl (by simp [maxLen]) bn bn (Nat.zero_le _) (Nat.le_refl _) (by simp [hx]) rfl rfl).v (cut_all hx)) rfl<|s1 (y_str Tryz.underlying68 Tryz.underlying5 Tryz.underlying9 rfl rfl (by rw [hx])) rfl<|s1 (y_bld (out:= [_,_,_,_]) [[evC (.int .i64 0)], [evC (.int .i64 0)], [evC (.string ByteArray.empty)], [evC (.slice none 0 0)]] ti109 rfl Tryz.underlying109 (by kernel_rfl) rfl rfl ⟨⟨by(first|rfl|omega|(simp;done)|(simp [*];done)|(simp [cellsA, *];done)),rfl⟩,⟨⟨by(first|rfl|omega|(simp;done)|(simp [*];done)|(simp [cellsA, *];done)),rfl⟩,trivial⟩⟩ rfl) rfl ?_
 refine at_op rfl (n_storeA ti109 rfl rfl rfl (by first|rfl|omega|(simp<;>omega)|(simp [*]<;>omega)) (by first|rfl|omega|(simp<;>omega)|(simp [*]<;>omega)) ?_)
 refine at_nil<|x_tn<|at_ret ?_
 refine at_wkO 2 rfl wk_cv ?_
 refine at_result (rs:= [.cell 2 109]) rfl (r_cellA ti109 rfl rfl rfl rfl r_nil) ?_
 rfl
theorem edig_ok (e:Ep) (h:e.ok):Con Tryz.prog 22 [.ag e.cells] (Ret (.ag ((digE e).map u8))):=by
 refine enter Tryz.func22 rfl Tryz.ntmps22 (by kernel_rfl) (Nat.le_of_ble_eq_true rfl) fun w0 X0 hI=>?_
 refine at_seq<|at_region ?_
 refine at_op rfl (n_boxA 1 rfl rfl rfl ?_)
 refine at_op rfl (n_alloc 2 rfl ti23 rfl rfl ?_)
 refine at_nil<|x_tn<|at_seq ?_
 have hfew:=h.few
 refine at_region ?_
 refine at_op rfl (n_call false rfl (.cons (.pure pu) .nil) (elst0_ok) pu (.inl rfl) rfl ?_)
 refine at_op rfl (n_alloc 3 rfl ti109 rfl rfl ?_)
 refine at_op rfl (n_storeA ti109 rfl rfl rfl (by first|rfl|omega|(simp<;>omega)|(simp [*]<;>omega)) (by first|rfl|omega|(simp<;>omega)|(simp [*]<;>omega)) ?_)
 refine at_nil<|x_tn<|at_seq<|at_seq<|at_region<|s1 (y_fld Tryz.underlying45 rfl ti31 (by decide) rfl rfl) rfl<|s1 (y_load ti31 rfl rfl rfl) rfl<|s1 (y_len Tryz.underlying31 rfl rfl rfl) rfl<|s1 ((y_p rfl).v (v':= .i .i64 0) rfl) rfl ?_
 refine at_nil<|x_tn<|at_block ?_
 refine at_loop (ι:=Nat) (fun i=> [(1,.p 1 0),(2,.p 2 0),(3,.p 3 0),(10,chsA e.ch),(11,nJ e.ch.length),(12,nJ i)]) (fun i=>⟨[(1,some (e.cells)),(2,some (zD.map u8)),(3,some ([.i .i64 3,.i .i64 0,.s [],.sl 127 4 0 i])),(127,some (CV.cellsL ((e.ch.take i).map chV)))]⟩) (fun i=>i≤e.ch.length) (fun i=>e.ch.length - i) ?_ ?_
 ·exact at_ex (0) (Nat.zero_le _) [(1,some 1),(2,some 2),(3,some 3),(127,none)] hI rfl rfl ⟨⟨_,rfl,.p rfl⟩,⟨_,rfl,.p rfl⟩,⟨_,rfl,.p rfl⟩,⟨_,rfl,.pure pu⟩,⟨_,rfl,.pure pu⟩,⟨_,rfl,.pure pu⟩,trivial⟩ ⟨.inr ⟨_,_,rfl,rfl,.pure pul⟩,.inr ⟨_,_,rfl,rfl,.pure pul⟩,.inr ⟨_,_,rfl,rfl,.cons (.pure pu) (.cons (.pure pu) (.cons (.pure pu) (.cons (.nl rfl) .nil)))⟩,.inl ⟨rfl,rfl⟩,trivial⟩
 rintro i hi
 refine at_seq<|at_region<|s1 (y_p rfl) rfl ?_
 refine at_nil<|x_tn<|at_seq ?_
 refine at_cond rfl (fun hc13=>?_) (fun hc13=>?_)
 ·have h13 : i < e.ch.length := by have := of_decide_eq_true hc13; omega
  obtain⟨c,hc⟩:∃c,e.ch[i]? =some c:=⟨_,List.getElem?_eq_getElem h13⟩
  refine at_skip<|x_tn<|at_seq<|at_block<|at_seq<|at_region<|s1 (y_ixf i Tryz.underlying31 ti55 rfl rfl rfl (by omega) rfl) rfl<|s1 (y_loadA ti55 rfl rfl (chs_get hc) rfl) rfl ?_
  refine at_op rfl (n_alloc 5 rfl ti55 rfl rfl ?_)
  refine at_op rfl (n_storeA ti55 rfl rfl rfl (by first|rfl|omega|(simp<;>omega)|(simp [*]<;>omega)) (by first|rfl|omega|(simp<;>omega)|(simp [*]<;>omega)) ?_)
  refine at_nil<|x_tn ?_
  refine at_fs ⟨_, [], []⟩ 13 4 hmix (le_refl rfl) ?_
  refine fs_q 0 [] [(3,none)] (y_fld Tryz.underlying109 rfl ti107 (by decide) rfl rfl) rfl rfl ?_
  refine fs_q 1 [0] [(3,none)] (y_load ti107 rfl rfl rfl) rfl rfl ?_
  refine fs_q 2 [] [(5,none)] (y_fld Tryz.underlying55 rfl ti3 (by decide) rfl rfl) rfl rfl ?_
  refine fs_q 3 [2] [(5,none)] (y_load ti3 rfl rfl rfl) rfl rfl ?_
  refine fs_call false 4 [3] [] gy0 rfl (.cons (.pure pu) (.nil)) (enumV_ok c.id) pu (.inl rfl) rfl rfl ?_
  refine fs_q 5 [] [(5,none)] (y_fld Tryz.underlying55 rfl ti3 (by decide) rfl rfl) rfl rfl ?_
  refine fs_q 6 [5] [(5,none)] (y_load ti3 rfl rfl rfl) rfl rfl ?_
  refine fs_call false 7 [6] [] gy0 rfl (.cons (.pure pu) (.nil)) (enumV_ok c.st) pu (.inl rfl) rfl rfl ?_
  refine fs_bs 24 8 [4,7] gy0 Tryz.underlying107 ti109 rfl rfl rfl (by simp [cellsA]) (show _=CV.cellsL [intV c.id,intV c.st]from rfl) rfl rfl rfl rfl ?_
  refine fs_callF 24 9 [8] [(24,some 8)] gy0 rfl rfl pul rfl (CV.cellsL_all [intV c.id,intV c.st]) rfl (by exact pul) (elstV_ok [intV c.id,intV c.st]) pu rfl rfl ?_
  refine fs_bs 26 10 [9] gy0 Tryz.underlying107 ti109 rfl rfl rfl (by simp [cellsA]) (one_cv (chV c)) rfl rfl rfl rfl ?_
  refine fs_app 27 11 [1,10] [(26,some 10),(127,none)] gy0 Tryz.underlying107 ti109 rfl (.sl rfl (by simp;omega)) rfl (SM_full rfl (by first|rfl|omega|(simp<;>omega)|(simp [*]<;>omega))) (by simp) (by simp only [maxLen];omega) (by omega) rfl rfl rfl rfl ?_
  refine fs_q 12 [] [(3,none)] (y_fld Tryz.underlying109 rfl ti107 (by decide) rfl rfl) rfl rfl ?_
  refine fs_end (by kernel_rfl) ?_
  refine at_op rfl (n_store1 ti107 rfl rfl rfl rfl (by first|rfl|omega|(simp<;>omega)|(simp [*]<;>omega)) rfl ?_)
  refine at_nil<|x_bn<|x_tn<|at_region<|s1 (addN _ 1 rfl rfl rfl rfl (by omega)) rfl<|s1 (y_p rfl) rfl ?_
  refine at_nil ?_
  exact at_end (i+1) (by omega) (by omega) [(1,some 1),(2,some 2),(3,some 3),(127,some 27)] hI rfl rfl ⟨⟨_,rfl,.p rfl⟩,⟨_,rfl,.p rfl⟩,⟨_,rfl,.p rfl⟩,⟨_,rfl,.pure pu⟩,⟨_,rfl,.pure pu⟩,⟨_,rfl,.pure pu⟩,trivial⟩ ⟨.inr ⟨_,_,rfl,rfl,.pure pul⟩,.inr ⟨_,_,rfl,rfl,.pure pul⟩,.inr ⟨_,_,rfl,rfl,.cons (.pure pu) (.cons (.pure pu) (.cons (.pure pu) (.cons (.sl rfl (by simp)) .nil)))⟩,.inr ⟨_,_,rfl,rfl,.of (ch_nextV hc) (.pure pul)⟩,trivial⟩
 ·obtain rfl : i = e.ch.length := by have := of_decide_eq_false hc13; omega
  refine at_exit<|x_te<|x_te<|x_be<|x_tn<|at_seq ?_
  refine at_sayO 127 (cs':=CV.cellsL (e.ch.map chV)) rfl (by rw [List.take_length]) ?_
  refine at_frzO 3 3 rfl rfl rfl rfl pul (view_cv (by simp)) rfl ?_
  refine at_fs ⟨_, [], []⟩ 23 4 hmix (le_refl rfl) ?_
  refine fs_q 0 [] [(1,none)] (y_fld Tryz.underlying45 rfl ti3 (by decide) rfl rfl) rfl rfl ?_
  refine fs_q 1 [0] [(1,none)] (y_load ti3 rfl rfl rfl) rfl rfl ?_
  refine fs_call false 2 [1] [] gy0 rfl (.cons (.pure pu) (.nil)) (enumV_ok e.iss) pu (.inl rfl) rfl rfl ?_
  refine fs_q 3 [] [(1,none)] (y_fld Tryz.underlying45 rfl ti3 (by decide) rfl rfl) rfl rfl ?_
  refine fs_q 4 [3] [(1,none)] (y_load ti3 rfl rfl rfl) rfl rfl ?_
  refine fs_call false 5 [4] [] gy0 rfl (.cons (.pure pu) (.nil)) (enumV_ok e.no) pu (.inl rfl) rfl rfl ?_
  refine fs_q 6 [] [(1,none)] (y_fld Tryz.underlying45 rfl ti3 (by decide) rfl rfl) rfl rfl ?_
  refine fs_q 7 [6] [(1,none)] (y_load ti3 rfl rfl rfl) rfl rfl ?_
  refine fs_call false 8 [7] [] gy0 rfl (.cons (.pure pu) (.nil)) (enumV_ok e.day) pu (.inl rfl) rfl rfl ?_
  refine fs_q 9 [] [(3,none)] ((y_loadA0 ti109 rfl rfl rfl).v (v':= .ag (CV.cells (lstV (e.ch.map chV)))) (congrArg (fun n:Nat=>A.ag [.i .i64 3,.i .i64 0,.s [],.fz n (CV.cellsL (e.ch.map chV))]) (show e.ch.length=(e.ch.map chV).length by rw [List.length_map]))) rfl rfl ?_
  refine fs_q 10 [] [(1,none)] (y_fld Tryz.underlying45 rfl ti23 (by decide) rfl rfl) rfl rfl ?_
  refine fs_q 11 [10] [(1,none)] (y_loadA ti23 rfl rfl (ep_cas h) (by simp [h.cas])) rfl rfl ?_
  refine fs_call false 12 [11] [] gy0 rfl (.cons (.pure pu) (.nil)) (etxtV_ok e.cas h.cas) pu (.inl rfl) rfl rfl ?_
  refine fs_q 13 [] [(1,none)] (y_fld Tryz.underlying45 rfl ti23 (by decide) rfl rfl) rfl rfl ?_
  refine fs_q 14 [13] [(1,none)] (y_loadA ti23 rfl rfl (ep_prev h) (by simp [h.prev])) rfl rfl ?_
  refine fs_call false 15 [14] [] gy0 rfl (.cons (.pure pu) (.nil)) (etxtV_ok e.prev h.prev) pu (.inl rfl) rfl rfl ?_
  refine fs_bs 47 16 [2,5,8,9,12,15] gy0 Tryz.underlying107 ti109 rfl rfl rfl (by simp [cellsA]) (show _=CV.cellsL [intV e.iss,intV e.no,intV e.day,lstV (e.ch.map chV),txtV e.cas,txtV e.prev]from rfl) rfl rfl rfl rfl ?_
  refine fs_callF 47 17 [16] [(47,some 16)] gy0 rfl rfl pul rfl (CV.cellsL_all [intV e.iss,intV e.no,intV e.day,lstV (e.ch.map chV),txtV e.cas,txtV e.prev]) rfl (by exact pul) (elstV_ok [intV e.iss,intV e.no,intV e.day,lstV (e.ch.map chV),txtV e.cas,txtV e.prev]) pu rfl rfl ?_
  refine fs_call false 18 [17] [] gy0 rfl (.cons (.pure pu) (.nil)) (Con.cast (cencode_ok 3 0 [] [intV e.iss,intV e.no,intV e.day,lstV (e.ch.map chV),txtV e.cas,txtV e.prev] (size_ep h) (rng_ep h) (Nat.le_trans (enc_ep h) (by omega))) (encA_ep e)) pu (.inl rfl) rfl rfl ?_
  refine fs_q 19 [18] [] (y_p rfl) rfl rfl ?_
  refine fs_q 20 [19] [] (y_p rfl) rfl rfl ?_
  refine fs_q 21 [19] [] (y_p rfl) rfl rfl ?_
  refine fs_q 22 [20] [] (y_p rfl) rfl rfl ?_
  refine fs_end (by kernel_rfl) ?_
  refine s1 (y_p rfl) rfl ?_
  refine at_nil<|x_tn<|at_seq ?_
  have hel:=enc_ep h
  refine at_region<|s1 (y_p rfl) rfl ?_
  refine at_op rfl (n_call false rfl (.cons (.pure pu) (.cons (.pure pu) (.nil))) (Con.cast (tagged_ok tagE (epV e).enc (by omega) (by decide)) (congrArg (fun l:List UInt8=>A.ag (l.map u8)) (digE_eq e).symm)) pu (.inl rfl) rfl ?_)
  refine at_op rfl (n_storeA ti23 rfl rfl rfl (by first|rfl|omega|(simp<;>omega)|(simp [*]<;>omega)) (by first|rfl|omega|(simp<;>omega)|(simp [*]<;>omega)) ?_)
  refine at_nil<|x_tn<|at_ret ?_
  refine at_result (rs:= [.cell 2 23]) rfl (r_cellA ti23 rfl rfl (List.take_of_length_le (by simp)) (by simp) r_nil) ?_
  rfl
end Go.Abs.D2
-- C4T
namespace Go.Abs.D2
open Go Go.Eng Go.Abs
def two (e:CV):Bool:=decide (e.ls.length=2)
theorem wk_app {l:List A} {m m':List A} (h:WkL m m'):WkL (l++m) (l++m'):=by
  induction l with
  |nil=>exact h
  |cons a l ih=>exact .cons (.eq rfl) ih
def Sm (N:Nat) (u:CV):Prop:=(u.okB=true∧u.enc.length≤N)∨u=zV
theorem Sm.parts {N:Nat} {u:CV} (h:Sm N u):(∀e∈u.ls,Sm N e)∧u.st.length≤N∧u.ls.length≤N:=by
  rcases h with ⟨ho,hl⟩|rfl
  · obtain ⟨k, n, s, l⟩ := u
    rcases okV_kind ho with rfl|rfl|⟨rfl,h1⟩
    · rw [CV.okB, if_pos rfl] at ho
      simp only [Bool.and_eq_true,List.isEmpty_iff]at ho
      obtain⟨rfl,rfl⟩:=ho
      exact⟨(fun e he=>by cases he),Nat.zero_le _,Nat.zero_le _⟩
    · rw [CV.okB, if_neg (by decide), if_pos rfl] at ho
      simp only [Bool.and_eq_true,List.isEmpty_iff]at ho
      obtain⟨_,rfl⟩:=ho
      have:=enc_2 n s []
      exact⟨(fun e he=>by cases he),show s.length≤N by omega,Nat.zero_le _⟩
    · rw [CV.okB, if_neg (by decide), if_neg (by decide), if_pos rfl] at ho
      simp only [Bool.and_eq_true,List.isEmpty_iff]at ho
      obtain⟨⟨_,rfl⟩,_⟩:=ho
      rw [CV.okBL_all]at h1
      have e1:=enc_3 n [] l
      have e2:=CV.len_encL l
      exact⟨fun e he=> .inl ⟨List.all_eq_true.1 h1 e he,by have:=mem_enc (show e∈l from he);omega⟩,Nat.zero_le _,show l.length≤N by omega⟩
  · exact⟨(fun e he=>by cases he),Nat.zero_le _,Nat.zero_le _⟩
theorem Sm.nth {N:Nat} {u:CV} (h:Sm N u) (i:Nat):Sm N (nthV u i):=by
  unfold nthV
  rw [List.getD_eq_getElem?_getD]
  cases hi:u.ls[i]? with
  |none=>exact .inr rfl
  |some e=>exact h.parts.1 e (List.mem_of_getElem? hi)
theorem Sm.cas {N:Nat} {v:CV} (h:Sm N v):(∀f∈(readC v).F,f.D.length≤N)∧(readC v).E.length≤N∧(readC v).F.length≤N:=by
  refine⟨fun f hf=>?_,?_,?_⟩
  · obtain ⟨i, hi⟩ := List.mem_iff_getElem?.1 hf
    have hi:(List.mapIdx filR (nthV v 1).ls)[i]? =some f:=hi
    rw [List.getElem?_mapIdx]at hi
    obtain⟨e,he,rfl⟩:=Option.map_eq_some_iff.1 hi
    exact(((h.nth 1).parts.1 e (List.mem_of_getElem? he)).nth 1).parts.2.1
  · show ((nthV v 2).ls.map CV.nm).length ≤ N
    rw [List.length_map];exact(h.nth 2).parts.2.2
  · show (filsR (nthV v 1).ls).length ≤ N
    rw [len_filsR];exact(h.nth 1).parts.2.2
end Go.Abs.D2
-- V6S
namespace Go.Abs.D2
open Go Go.Eng Go.Abs
def joinT (p q:List UInt8):Nat→List UInt8
  |0=>List.replicate 16 0
  |i+1=>(joinT p q i).set i (p.getD i 0 ^^^ q.getD i 0)
@[simp] theorem len_joinT (p q : List UInt8) : ∀ i, (joinT p q i).length = 16
  |0=>by simp [joinT]
  |i+1=>by rw [joinT,List.length_set,len_joinT p q i]
theorem getB {l:List Bool} {i:Nat} {b:Bool} (h:l[i]? =some b):((l.map A.b).drop (i*1))[0]? =some (.b b):=by
  rw [List.getElem?_drop,show i*1+0=i by omega,List.getElem?_map,h];rfl
end Go.Abs.D2
-- S7V
namespace Go.Abs.D2
open Go Go.Eng Go.Abs
theorem chkC_casB {x : List UInt8} {p q : List Int} (h : okB2 p q = true) : chkC (casB x p q) = true := by
  have hsub:=bS_sub x p q (endB x p q)
  have hE:=end_le x p q
  have hasc : ∀ n, listedB (bS x p q n).2.1 = true ∧ listedB (bS x p q n).2.2 = true := by
    intro n
    induction n with
    | zero =>
      unfold okB2 at h
      simp only [Bool.and_eq_true]at h
      exact⟨h.1.1,h.1.2⟩
    | succ n ih =>
      refine⟨?_,ih.1⟩
      rw [bS]
      have key:∀(l:List Int) (f:Int→Bool) (last:Int),ascB last l=true→ascB last (l.filter f)=true:=by
        intro l f
        induction l with
        |nil=>intro last _;rfl
        | cons a l ih2 =>
          intro last hl
          simp only [ascB,Bool.and_eq_true,decide_eq_true_eq]at hl
          cases hf:f a with
          | true =>
            rw [List.filter_cons_of_pos hf]
            simp only [ascB,Bool.and_eq_true,decide_eq_true_eq]
            exact⟨hl.1,ih2 _ hl.2⟩
          | false =>
            rw [List.filter_cons_of_neg (by rw [hf];simp)]
            have h3:=ih2 a hl.2
            have mono:∀(m:List Int) (u v:Int),u≤v→ascB v m=true→ascB u m=true:=by
              intro m u v huv hm
              cases m with
              |nil=>rfl
              | cons b m =>
                simp only [ascB,Bool.and_eq_true,decide_eq_true_eq]at hm ⊢
                exact⟨⟨by omega,hm.1.2⟩,hm.2⟩
            exact mono _ _ _ (by omega) h3
      exact key _ _ _ ih.2
  have hlev:∀n,n≤16→∀F:List Fil,(∀i,i<F.length→∃a,F[i]? =some (filO x (n+i) a))→n+F.length≤16→levB n F=true:=by
    intro n hn F
    induction F generalizing n with
    |nil=>intro _ _;rfl
    | cons f F ih =>
      intro hF hl
      rw [List.length_cons]at hl
      obtain⟨a,ha⟩:=hF 0 (by simp)
      simp only [List.getElem?_cons_zero,Option.some.injEq,Nat.add_zero]at ha
      subst ha
      simp only [levB,Bool.and_eq_true,decide_eq_true_eq]
      refine⟨⟨rfl,chk_filO x n a (by omega)⟩,ih (n+1) (by omega) (fun i hi=>?_) (by omega)⟩
      obtain⟨b,hb⟩:=hF (i+1) (by rw [List.length_cons];omega)
      exact⟨b,by rw [List.getElem?_cons_succ]at hb;rw [hb,show n+1+i=n+(i+1) by omega]⟩
  refine chkC_yes ?_ (hasc _).1 ?_
  · show (bS x p q (endB x p q)).1.length ≤ 16
    rw [len_bS];exact hE
  · refine hlev 0 (by omega) _ (fun i hi => ?_) ?_
    · have hi' : i < endB x p q := by
        have:i<(bS x p q (endB x p q)).1.length:=hi
        rwa [len_bS]at this
      exact⟨_,by rw [Nat.zero_add];exact bS_get x p q _ i hi'⟩
    · show 0 + (bS x p q (endB x p q)).1.length ≤ 16
      rw [len_bS];omega
end Go.Abs.D2
-- C4U
namespace Go.Abs.D2
open Go Go.Eng Go.Abs
theorem casB_small {x:List UInt8} {p q:List Int} (hp:p.length≤100) (hq:q.length≤100):(casB x p q).E.length≤100∧(casB x p q).F.length≤16:=by
  refine⟨(bS_len hp hq _).1,?_⟩
  show(bS x p q (endB x p q)).1.length≤16
  rw [len_bS];exact end_le x p q
end Go.Abs.D2
-- E5Q
namespace Go.Abs.D2
open Go Go.Eng Go.Abs
def badS (σ:Int→Int) (l:List Int):List Int:=l.filter fun n=>σ n !=0
def goodS (σ:Int→Int) (l:List Int):List Int:=l.filter fun n=>!(σ n !=0)
def keysS (σ:Int→Int):List Int:=((List.range 1024).map fun k:Nat=>(k:Int)).filter fun n=>σ n !=0
def Sup (σ:Int→Int):Prop:=∀k,σ k≠0→0≤k∧k<1024
theorem sup0:Sup σ0:=fun _ h=>absurd rfl h
theorem keysS_nodup (σ:Int→Int):(keysS σ).Nodup:=by
  refine List.Nodup.sublist List.filter_sublist ?_
  rw [List.nodup_iff_pairwise_ne,List.pairwise_map]
  exact List.nodup_iff_pairwise_ne.1 List.nodup_range |>.imp fun h e=>h (by omega)
theorem keysS_mem {σ:Int→Int} (h:Sup σ) (k:Int):(mapOf σ k).isSome=true↔k∈keysS σ:=by
  unfold keysS mapOf
  rw [List.mem_filter]
  constructor
  · intro hs
    by_cases h0:σ k=0
    · rw [if_pos h0]at hs;cases hs
    · obtain ⟨h1, h2⟩ := h k h0
      exact⟨List.mem_map.2 ⟨k.toNat,List.mem_range.2 (by omega),by omega⟩,bne_iff_ne.2 h0⟩
  · rintro ⟨_, h0⟩
    rw [if_neg (bne_iff_ne.1 h0)];rfl
@[irreducible] def splB (σ:Int→Int) (l:List Int):Bool:=listedB l&&decide ((badS σ l).length=(keysS σ).length)
theorem spl_1 {σ:Int→Int} {l:List Int} (h:listedB l=false):splB σ l=false:=by unfold splB;rw [h];rfl
theorem spl_2 {σ:Int→Int} {l:List Int} (h:(badS σ l).length≠(keysS σ).length):splB σ l=false:=by unfold splB;rw [decide_eq_false h,Bool.and_false]
theorem spl_3 {σ:Int→Int} {l:List Int} (h1:listedB l=true) (h:(badS σ l).length=(keysS σ).length):splB σ l=true:=by unfold splB;rw [h1,decide_eq_true h];rfl
theorem spl_listed {σ:Int→Int} {l:List Int} (h:splB σ l=true):listedB l=true:=by
  cases hl:listedB l with
  |true=>rfl
  |false=>rw [spl_1 hl]at h;cases h
theorem bad_hit {σ:Int→Int} {l:List Int} {i:Nat} {n:Int} (h:l[i]? =some n) (hn:σ n≠0):badS σ (l.take (i+1))=badS σ (l.take i)++ [n]∧goodS σ (l.take (i+1))=goodS σ (l.take i):=by
  unfold badS goodS
  rw [List.take_add_one,h,List.filter_append,List.filter_append]
  simp [hn]
theorem bad_miss {σ:Int→Int} {l:List Int} {i:Nat} {n:Int} (h:l[i]? =some n) (hn:σ n=0):badS σ (l.take (i+1))=badS σ (l.take i)∧goodS σ (l.take (i+1))=goodS σ (l.take i)++ [n]:=by
  unfold badS goodS
  rw [List.take_add_one,h,List.filter_append,List.filter_append]
  simp [hn]
theorem len_bad (σ:Int→Int) (l:List Int):(badS σ l).length≤l.length:=List.length_filter_le ..
theorem len_good (σ:Int→Int) (l:List Int):(goodS σ l).length≤l.length:=List.length_filter_le ..
theorem asc_filter {p:Int→Bool}:∀ {l:List Int} {a b:Int},a≤b→ascB b l=true→ascB a (l.filter p)=true
  | [],_,_,_,_=>rfl
  | n :: l, a, b, hab, h => by
    simp only [ascB,Bool.and_eq_true,decide_eq_true_eq]at h
    rw [List.filter_cons]
    split
    · simp only [ascB, Bool.and_eq_true, decide_eq_true_eq]
      exact⟨⟨by omega,h.1.2⟩,asc_filter (Int.le_refl _) h.2⟩
    · exact asc_filter (b:=n) (by omega) h.2
theorem ok2_split {σ:Int→Int} {l:List Int} (h:listedB l=true):okB2 (badS σ l) (goodS σ l)=true:=by
  unfold okB2
  have h1:listedB (badS σ l)=true:=asc_filter (Int.le_refl _) h
  have h2:listedB (goodS σ l)=true:=asc_filter (Int.le_refl _) h
  rw [h1,h2]
  show Go.Eng.disjB _ _=true
  unfold Go.Eng.disjB
  rw [List.all_eq_true]
  intro n hn
  have h3:=(List.mem_filter.1 hn).2
  rw [Bool.not_eq_true',decide_eq_false_iff_not]
  intro hb
  have h4:=(List.mem_filter.1 hb).2
  rw [h4]at h3;cases h3
abbrev tagS:List UInt8:= [115,97,108,116]
@[irreducible] def saltD (x:List UInt8) (no:Nat):List UInt8:=tagged tagS (x++seedBs (no:Int) 4)
theorem saltD_eq (x:List UInt8) (no:Nat):saltD x no=tagged tagS (x++seedBs (no:Int) 4):=by unfold saltD;rfl
@[simp] theorem len_saltD (x:List UInt8) (no:Nat):(saltD x no).length=32:=by rw [saltD_eq];simp
def casE (x:List UInt8) (no:Nat) (σ:Int→Int) (ids:List Int):Cas:=casB (saltD x no) (badS σ ids) (goodS σ ids)
def lastD (l:List Ep):List UInt8:=match l.getLast? with
  |none=>zD
  |some e=>digE e
def next0 (x:List UInt8) (l:List Ep) (iss day:Int) (ids:List Int) (c:List Ch) (σ:Int→Int):Ep:=⟨iss,(l.length:Nat),day,c,digC (casE x l.length σ ids),lastD l,⟨0, [], []⟩⟩
def nextE (x:List UInt8) (k:Nat) (l:List Ep) (iss day:Int) (ids:List Int) (c:List Ch) (σ:Int→Int):Ep:=
  {next0 x l iss day ids c σ with sg:=⟨(l.length:Nat),signD (seedL x (l.length:Nat)) (digE (next0 x l iss day ids c σ)),path (kpubs x k) l.length⟩}
theorem digE_sg (e:Ep) (s:Lf):digE {e with sg:=s}=digE e:=by rw [digE_eq,digE_eq];rfl
def argE (iss day:Int):Bool:=((decide (iss≥0)&&decide (iss<8))&&decide (day≥0))&&decide (day<1024)
def lastE (l:List Ep) (iss day:Int):Bool:=match l.getLast? with
  |none=>true
  |some e=>(iss==e.iss)&&decide (day>e.day)
@[irreducible] def pubX (x : List UInt8) (n : Int) (l : List Ep) (iss day : Int) (ids : List Int) (c : List Ch) : Int ⊕ Ep :=
  if sizeK n then
    match formS l with
    |none=> .inl 351
    | some σ => if chkE (rootD x n) n l = 0 then
        if(l.length:Int)=n then .inl 2 else if argE iss day&&(lastE l iss day&&(chOk σ (-1) c&&splB (chg σ c) ids))then .inr (nextE x n.toNat l iss day ids c (chg σ c))else .inl 351
      else .inl (chkE (rootD x n) n l)
  else .inl 60
def resE (l:List Ep):Int ⊕ Ep→A
  | .inl e=> .tu [.nl,.i .i64 e]
  | .inr e=> .tu [epsA (l++ [e]),.i .i64 0]
section
variable {x:List UInt8} {n:Int} {l:List Ep} {iss day:Int} {ids:List Int} {c:List Ch} {σ:Int→Int}
theorem pub_1 (h:¬sizeK n):pubX x n l iss day ids c= .inl 60:=by unfold pubX;rw [if_neg h]
theorem pub_2 (h:sizeK n) (h2:chkE (rootD x n) n l≠0):pubX x n l iss day ids c= .inl (chkE (rootD x n) n l):=by
  unfold pubX
  rw [if_pos h]
  cases hf:formS l with
  |none=>simp only;rw [chkE_no hf]
  |some σ=>simp only;rw [if_neg h2]
theorem pub_3 (h:sizeK n) (hf:formS l=some σ) (h2:chkE (rootD x n) n l=0) (h3:(l.length:Int)=n):pubX x n l iss day ids c= .inl 2:=by
  unfold pubX;rw [if_pos h,hf];simp only;rw [if_pos h2,if_pos h3]
theorem pub_4 (h:sizeK n) (hf:formS l=some σ) (h2:chkE (rootD x n) n l=0) (h3:¬(l.length:Int)=n) (h4:argE iss day=false∨lastE l iss day=false∨chOk σ (-1) c=false∨splB (chg σ c) ids=false):pubX x n l iss day ids c= .inl 351:=by
  unfold pubX;rw [if_pos h,hf];simp only;rw [if_pos h2,if_neg h3,if_neg]
  rcases h4 with h4|h4|h4|h4<;>simp [h4]
theorem pub_5 (h:sizeK n) (hf:formS l=some σ) (h2:chkE (rootD x n) n l=0) (h3:¬(l.length:Int)=n) (h4:argE iss day=true) (h5:lastE l iss day=true) (h6:chOk σ (-1) c=true) (h7:splB (chg σ c) ids=true):pubX x n l iss day ids c= .inr (nextE x n.toNat l iss day ids c (chg σ c)):=by
  unfold pubX;rw [if_pos h,hf];simp only;rw [if_pos h2,if_neg h3,if_pos (by simp [h4,h5,h6,h7])]
theorem last_nil (h:l= []):lastE l iss day=true∧lastD l=zD:=by subst h;exact⟨rfl,rfl⟩
theorem last_get {e:Ep} (h:l[l.length - 1]? =some e):lastE l iss day=((iss==e.iss)&&decide (day>e.day))∧lastD l=digE e:=by
  have:l.getLast?=some e:=by rw [List.getLast?_eq_getElem?];exact h
  unfold lastE lastD;rw [this];exact⟨rfl,rfl⟩
end
theorem sup_chg:∀ {c:List Ch} {σ:Int→Int} {la:Int},Sup σ→ -1≤la→chOk σ la c=true→Sup (chg σ c)
  | [],_,_,h,_,_=>h
  | c :: r, σ, la, h, hla, hk => by
    simp only [chOk,chB,Bool.and_eq_true,decide_eq_true_eq]at hk
    obtain⟨⟨⟨⟨⟨h1,h2⟩,_⟩,_⟩,_⟩,h3⟩:=hk
    refine sup_chg (c:=r) (la:=c.id) (fun k hk=>?_) (by omega) h3
    unfold updσ at hk
    split at hk
    · omega
    · exact h k hk
theorem sup_frm:∀ {l:List Ep} {iss:Int} {no:Nat} {day:Int} {prev:List UInt8} {σ τ:Int→Int},Sup σ→frm iss no day prev σ l=some τ→Sup τ
  | [],_,_,_,_,_,_,h,hf=>by cases hf;exact h
  | e :: r, iss, no, day, prev, σ, τ, h, hf => by
    rw [frm]at hf
    split at hf
    · rename_i hb
      simp only [Bool.and_eq_true]at hb
      exact sup_frm (sup_chg h (by omega) hb.2) hf
    · cases hf
theorem sup_form {l:List Ep} {σ:Int→Int} (h:formS l=some σ):Sup σ:=by rw [formS_eq]at h;exact sup_frm sup0 h
theorem frm_sg : ∀ {l : List Ep} {iss : Int} {no : Nat} {day : Int} {prev : List UInt8} {σ τ : Int → Int}, frm iss no day prev σ l = some τ → ∀ i e, l[i]? = some e → e.sg.a = ((no + i : Nat) : Int)
  | [],_,_,_,_,_,_,_,i,e,h=>by simp at h
  | e :: r, iss, no, day, prev, σ, τ, hf, i, a, h => by
    rw [frm]at hf
    split at hf
    · rename_i hb
      simp only [Bool.and_eq_true,epB,beq_iff_eq]at hb
      cases i with
      |zero=>simp at h;subst h;simpa using hb.1.1.2.1.2
      | succ i =>
        have:=frm_sg hf i a (by simpa using h)
        rw [this];congr 1;omega
    · cases hf
theorem chkE_len {r:List UInt8} {k:Nat} {l:List Ep} {σ:Int→Int} (hf:formS l=some σ) (h:chkE r (k:Int) l=0):l.length≤k:=by
  rcases Nat.eq_zero_or_pos l.length with h0|h0
  · omega
  · obtain ⟨e, he⟩ : ∃ e, l[l.length - 1]? = some e := ⟨_, List.getElem?_eq_getElem (by omega)⟩
    have hv:verK r k (digE e) e.sg.a e.sg.S e.sg.P=true:=by
      cases hv:verK r k (digE e) e.sg.a e.sg.S e.sg.P with
      |true=>rfl
      |false=>rw [chkE_bad hf (List.mem_of_getElem? he) hv]at h;cases h
    have h1:=(ver_spec hv).2.1
    rw [formS_eq]at hf
    have h2:=frm_sg hf _ e he
    unfold atK at h1
    omega
def nxC (iss no day:Int) (c:List Ch) (cas prev:List UInt8):List A:= .i .i64 iss:: .i .i64 no:: .i .i64 day::chsA c::(cas.map u8++(prev.map u8++ [.i .i64 0,.nl,.nl]))
instance {iss no day:Int} {c:List Ch} {cas prev:List UInt8}:IsPureL (nxC iss no day c cas prev):=by unfold nxC;infer_instance
theorem nx_len {iss no day:Int} {c:List Ch} {cas prev:List UInt8} (h1:cas.length=32) (h2:prev.length=32):(nxC iss no day c cas prev).length=71:=by simp [nxC,h1,h2]
theorem nx_prev {iss no day:Int} {c:List Ch} {cas prev q:List UInt8} (h1:cas.length=32) (h2:prev.length=32):(nxC iss no day c cas prev).take 36++q.map u8++(nxC iss no day c cas prev).drop 68=nxC iss no day c cas q:=by
  have e1:(nxC iss no day c cas prev).take 36= .i .i64 iss:: .i .i64 no:: .i .i64 day::chsA c::cas.map u8:=by
    show _::_::_::_::((cas.map u8++_).take 32)=_
    rw [List.take_left' (by rw [List.length_map,h1])]
  have e2:(nxC iss no day c cas prev).drop 68= [.i .i64 0,.nl,.nl]:=by
    show((cas.map u8++(prev.map u8++_)).drop 64)=_
    rw [←List.append_assoc,List.drop_left' (by rw [List.length_append,List.length_map,List.length_map,h1,h2])]
  rw [e1,e2]
  simp [nxC]
theorem nx_cas {iss no day:Int} {c:List Ch} {cas prev q:List UInt8} (h1:cas.length=32):(nxC iss no day c cas prev).take 4++q.map u8++(nxC iss no day c cas prev).drop 36=nxC iss no day c q prev:=by
  have e2:(nxC iss no day c cas prev).drop 36=prev.map u8++ [.i .i64 0,.nl,.nl]:=by
    show((cas.map u8++_).drop 32)=_
    rw [List.drop_left' (by rw [List.length_map,h1])]
  rw [e2]
  simp [nxC]
theorem nx_wk {x:List UInt8} {l:List Ep} {iss day:Int} {ids:List Int} {c:List Ch} {σ:Int→Int}:WkL (nxC iss (l.length:Nat) day c (digC (casE x l.length σ ids)) (lastD l)) (next0 x l iss day ids c σ).cells:=by
  unfold nxC next0 Ep.cells
  exact .cons (.eq rfl) (.cons (.eq rfl) (.cons (.eq rfl) (.cons (.eq rfl) (wk_app (wk_app (.cons (.eq rfl) (.cons .nl (.cons .nl .nil))))))))
@[simp] theorem len_lastD (l : List Ep) : (lastD l).length = 32 := by
  unfold lastD
  split
  · rfl
  · simp
theorem D32_nil5:D32 []:=fun y hy=>by cases hy
theorem next0_ok {x:List UInt8} {l:List Ep} {iss day:Int} {ids:List Int} {c:List Ch} {σ:Int→Int} (hn:l.length≤1000) (hi:rg iss) (hd:rg day) (hc:c.length≤1000) (hcr:∀e∈c,rg e.id∧rg e.st):(next0 x l iss day ids c σ).ok:=
  ⟨hi,⟨by show(-9223372036854775808:Int)≤(l.length:Nat);omega,by show((l.length:Nat):Int)≤9223372036854775807;omega⟩,hd,hcr,hc,len_digC _,len_lastD _,D32_nil5,D32_nil5⟩
theorem nextE_ok {x:List UInt8} {k:Nat} {l:List Ep} {iss day:Int} {ids:List Int} {c:List Ch} {σ:Int→Int} (hn:l.length≤1000) (hi:rg iss) (hd:rg day) (hc:c.length≤1000) (hcr:∀e∈c,rg e.id∧rg e.st):(nextE x k l iss day ids c σ).ok:=
  ⟨hi,⟨by show(-9223372036854775808:Int)≤(l.length:Nat);omega,by show((l.length:Nat):Int)≤9223372036854775807;omega⟩,hd,hcr,hc,len_digC _,len_lastD _,D32_signD _ _,D32_path _ _ _ (Nat.le_refl _)⟩
theorem nx_sg {e:Ep} {s:Lf} (h:e.ok):e.cells.take 68++ [.i .i64 s.a,dgs s.S,dgs s.P]++e.cells.drop 71=({e with sg:=s}:Ep).cells:=by
  have e1:e.cells.take 68= .i .i64 e.iss:: .i .i64 e.no:: .i .i64 e.day::chsA e.ch::(e.cas.map u8++e.prev.map u8):=by
    show _::_::_::_::((e.cas.map u8++(e.prev.map u8++_)).take 64)=_
    rw [←List.append_assoc,List.take_left' (by rw [List.length_append,List.length_map,List.length_map,h.cas,h.prev])]
  rw [e1,List.drop_of_length_le (by rw [h.len];omega)]
  simp [Ep.cells]
theorem eps_snoc (l:List Ep) (e:Ep):epsC l++e.cells=epsC (l++ [e]):=by simp [epsC]
theorem epsOk_snoc {l:List Ep} {e:Ep} (h:EpsOk l) (he:e.ok):EpsOk (l++ [e]):=fun x hx=>by
  rcases List.mem_append.1 hx with hx|hx
  · exact h x hx
  · rw [List.mem_singleton.1 hx];exact he
theorem four_b0 (a:Int):A.i .u8 (IntKind.u8.wrap (a.fdiv (2 ^ min ((24:Int).toNat) IntKind.i64.bits)))=u8 (seedB a 0):=shr_byte a 0 (by omega)
theorem four_b1 (a:Int):A.i .u8 (IntKind.u8.wrap (a.fdiv (2 ^ min ((16:Int).toNat) IntKind.i64.bits)))=u8 (seedB a 1):=shr_byte a 1 (by omega)
theorem four_b2 (a:Int):A.i .u8 (IntKind.u8.wrap (a.fdiv (2 ^ min ((8:Int).toNat) IntKind.i64.bits)))=u8 (seedB a 2):=shr_byte a 2 (by omega)
theorem four_b3 (a:Int):A.i .u8 (IntKind.u8.wrap a)=u8 (seedB a 3):=by
  refine congrArg (A.i .u8) ?_
  unfold seedB
  rw [UInt8.toNat_ofNat']
  show a % 256=_
  omega
theorem len_zero_pos (n:Nat):n=0∨0<n:=Nat.eq_zero_or_pos n
end Go.Abs.D2
-- E5R
namespace Go.Abs.D2
open Go Go.Eng Go.Abs
def atJ (l : List Ep) (day : Int) : Nat → Option Nat
  |0=>none
  | j + 1 => match l[j]? with
    |some e=>if e.day≤day then some j else atJ l day j
    |none=>atJ l day j
@[irreducible] def atE (l:List Ep) (day:Int):Option Nat:=atJ l day l.length
theorem atE_eq (l:List Ep) (day:Int):atE l day=atJ l day l.length:=by unfold atE;rfl
def atA:Option Nat→A
  |none=> .tu [.i .i64 0,.b false]
  |some j=> .tu [nJ j,.b true]
theorem atJ_yes {l:List Ep} {day:Int} {j:Nat} {e:Ep} (h:l[j]? =some e) (hd:e.day≤day):atJ l day (j+1)=some j:=by rw [atJ,h];simp only;rw [if_pos hd]
theorem atJ_no {l:List Ep} {day:Int} {j:Nat} {e:Ep} (h:l[j]? =some e) (hd:¬e.day≤day):atJ l day (j+1)=atJ l day j:=by rw [atJ,h];simp only;rw [if_neg hd]
end Go.Abs.D2
-- E5S
namespace Go.Abs.D2
open Go Go.Eng Go.Abs
def chS (σ:Int→Int):List Ch:=(keysS σ).map fun k=>⟨k,σ k⟩
theorem chS_next {σ:Int→Int} {i:Nat} {q:Int} (h:(keysS σ)[i]? =some q):chsC ((chS σ).take i)++Ch.cells ⟨q,σ q⟩=chsC ((chS σ).take (i+1)):=by
  have:(chS σ)[i]? =some ⟨q,σ q⟩:=by unfold chS;rw [List.getElem?_map,h];rfl
  rw [List.take_add_one,this];simp [chsC]
theorem eps_take {l:List Ep} (h:EpsOk l) (k:Nat):((epsC l).drop (0*71)).take (k*71)=epsC (l.take k):=by
  rw [Nat.zero_mul,List.drop_zero]
  unfold epsC
  induction l generalizing k with
  |nil=>simp
  | cons e l ih =>
    cases k with
    |zero=>simp
    | succ k =>
      have he:=(h e (.head _)).len
      rw [List.flatMap_cons,List.take_succ_cons,List.flatMap_cons,show(k+1)*71=e.cells.length+k*71 by rw [he];omega,List.take_append,List.take_of_length_le (by omega),Nat.add_sub_cancel_left,ih (fun x hx=>h x (.tail _ hx))]
@[irreducible] def stsX (l : List Ep) (no : Int) : Int ⊕ List Ch :=
  if no< -1∨(l.length:Int)≤no then .inl 1 else match formS (l.take (no+1).toNat)with
    |none=> .inl 351
    |some σ=> .inr (chS σ)
def resS:Int ⊕ List Ch→A
  | .inl e=> .tu [.nl,.i .i64 e]
  | .inr c=> .tu [chsA c,.i .i64 0]
theorem sts_1 {l:List Ep} {no:Int} (h:no< -1∨(l.length:Int)≤no):stsX l no= .inl 1:=by unfold stsX;rw [if_pos h]
theorem sts_2 {l:List Ep} {no:Int} (h:¬(no< -1∨(l.length:Int)≤no)) (hf:formS (l.take (no+1).toNat)=none):stsX l no= .inl 351:=by unfold stsX;rw [if_neg h,hf]
theorem sts_3 {l:List Ep} {no:Int} {σ:Int→Int} (h:¬(no< -1∨(l.length:Int)≤no)) (hf:formS (l.take (no+1).toNat)=some σ):stsX l no= .inr (chS σ):=by unfold stsX;rw [if_neg h,hf]
def lastY (d0:Int) (l:List Ep):Int:=match l.getLast? with
  |none=>d0
  |some e=>e.day
def lastP (p0:List UInt8) (l:List Ep):List UInt8:=match l.getLast? with
  |none=>p0
  |some e=>digE e
theorem lastY_cons (d0:Int) (e:Ep) (l:List Ep):lastY d0 (e::l)=lastY e.day l:=by
  unfold lastY
  cases l with
  |nil=>rfl
  |cons a r=>simp [List.getLast?_cons]
theorem lastP_cons (p0:List UInt8) (e:Ep) (l:List Ep):lastP p0 (e::l)=lastP (digE e) l:=by
  unfold lastP
  cases l with
  |nil=>rfl
  |cons a r=>simp [List.getLast?_cons]
theorem frm_app:∀ {l r:List Ep} {iss:Int} {no:Nat} {day:Int} {prev:List UInt8} {σ:Int→Int},
    frm iss no day prev σ (l++r)=match frm iss no day prev σ l with
      |none=>none
      |some τ=>frm iss (no+l.length) (lastY day l) (lastP prev l) τ r
  | [],r,iss,no,day,prev,σ=>rfl
  | e :: l, r, iss, no, day, prev, σ => by
    rw [List.cons_append,frm,frm]
    by_cases hb:(epB iss no day prev e&&chOk σ (-1) e.ch)=true
    · rw [if_pos hb,if_pos hb,frm_app,lastY_cons,lastP_cons,List.length_cons,show no+1+l.length=no+(l.length+1) by omega]
    · rw [if_neg hb,if_neg hb]
theorem issL_app {l r:List Ep} (h:l≠ []):issL (l++r)=issL l:=by
  cases l with
  |nil=>exact absurd rfl h
  |cons a l=>rfl
theorem lastD_P (l:List Ep):lastD l=lastP zD l:=rfl
theorem lastE_spec {l:List Ep} {iss day:Int} (h:lastE l iss day=true) (hl:l≠ []):∃e,l.getLast?=some e∧iss=e.iss∧e.day<day:=by
  unfold lastE at h
  cases hg:l.getLast? with
  |none=>exact absurd (List.getLast?_eq_none_iff.1 hg) hl
  | some e =>
    rw [hg]at h
    simp only [Bool.and_eq_true,decide_eq_true_eq,beq_iff_eq]at h
    exact⟨e,rfl,h.1,h.2⟩
theorem frm_iss:∀ {l:List Ep} {iss:Int} {no:Nat} {day:Int} {prev:List UInt8} {σ τ:Int→Int},frm iss no day prev σ l=some τ→∀e∈l,e.iss=iss
  | [],_,_,_,_,_,_,_,e,h=>by cases h
  | a :: r, iss, no, day, prev, σ, τ, hf, e, h => by
    rw [frm]at hf
    split at hf
    · rename_i hb
      simp only [Bool.and_eq_true,epB,beq_iff_eq]at hb
      rcases List.mem_cons.1 h with rfl|h
      · exact hb.1.1.1.1.1
      · exact frm_iss hf e h
    · cases hf
section
variable {x:List UInt8} {n:Int} {l:List Ep} {iss day:Int} {ids:List Int} {c:List Ch} {e:Ep}
theorem pub_spec (h : pubX x n l iss day ids c = .inr e) : sizeK n ∧ ∃ σ, formS l = some σ ∧ chkE (rootD x n) n l = 0 ∧ ¬ (l.length : Int) = n ∧ argE iss day = true ∧ lastE l iss day = true ∧ chOk σ (-1) c = true ∧ splB (chg σ c) ids = true ∧ e = nextE x n.toNat l iss day ids c (chg σ c) := by
  by_cases h1:sizeK n
  · refine ⟨h1, ?_⟩
    cases hf:formS l with
    |none=>rw [pub_2 h1 (by rw [chkE_no hf];decide)]at h;cases h
    | some σ =>
      by_cases h2:chkE (rootD x n) n l=0
      · by_cases h3 : (l.length : Int) = n
        · rw [pub_3 h1 hf h2 h3]at h;cases h
        · have key : ∀ b : Bool, b = false ∨ b = true := fun b => by cases b <;> simp
          rcases key (argE iss day)with h4|h4
          · rw [pub_4 h1 hf h2 h3 (.inl h4)]at h;cases h
          rcases key (lastE l iss day)with h5|h5
          · rw [pub_4 h1 hf h2 h3 (.inr (.inl h5))]at h;cases h
          rcases key (chOk σ (-1) c)with h6|h6
          · rw [pub_4 h1 hf h2 h3 (.inr (.inr (.inl h6)))]at h;cases h
          rcases key (splB (chg σ c) ids)with h7|h7
          · rw [pub_4 h1 hf h2 h3 (.inr (.inr (.inr h7)))]at h;cases h
          rw [pub_5 h1 hf h2 h3 h4 h5 h6 h7]at h
          exact⟨σ,rfl,h2,h3,h4,h5,h6,h7,by cases h;rfl⟩
      · rw [pub_2 h1 h2]at h;cases h
  · rw [pub_1 h1]at h;cases h
theorem pub_form (h:pubX x n l iss day ids c= .inr e):∃σ,formS l=some σ∧formS (l++ [e])=some (chg σ c)∧chkE (rootD x n) n (l++ [e])=0:=by
  obtain⟨h1,σ,hf,h2,h3,h4,h5,h6,h7,he⟩:=pub_spec h
  obtain⟨k,rfl,hk1,hk2⟩:=sizeK_nat h1
  have hlk:=chkE_len hf h2
  have hlt:l.length<k:=by omega
  have hem:e.iss=iss∧e.no=(l.length:Nat)∧e.day=day∧e.ch=c∧e.prev=lastD l∧e.sg=⟨(l.length:Nat),signD (seedL x (l.length:Nat)) (digE (next0 x l iss day ids c (chg σ c))),path (kpubs x k) l.length⟩:=by subst he;exact⟨rfl,rfl,rfl,rfl,rfl,rfl⟩
  have hdg:digE e=digE (next0 x l iss day ids c (chg σ c)):=by subst he;exact digE_sg _ _
  obtain⟨e1,e2,e3,e4,e5,e6⟩:=hem
  unfold argE at h4
  simp only [Bool.and_eq_true,decide_eq_true_eq]at h4
  have hform:formS (l++ [e])=some (chg σ c):=by
    rw [formS_eq]at hf ⊢
    have hi:issL (l++ [e])=if l= []then iss else issL l:=by
      split
      · rename_i h0;subst h0;exact e1
      · rename_i h0;exact issL_app h0
    by_cases h0:l= []
    · subst h0
      cases hf
      rw [hi,if_pos rfl]
      show frm iss 0 (-1) zD σ0 [e]=_
      rw [frm,if_pos,frm,e4]
      rw [e4,h6,Bool.and_true]
      unfold epB
      simp only [Bool.and_eq_true,decide_eq_true_eq,beq_iff_eq]
      refine⟨⟨⟨⟨e1,?_⟩,?_⟩,⟨e2,by rw [e6];rfl⟩,e5⟩,?_,?_⟩<;>first|omega|(rw [e1];omega)|(rw [e3];omega)
    · obtain ⟨q, hq, hqi, hqd⟩ := lastE_spec h5 h0
      rw [hi,if_neg h0,frm_app,hf]
      simp only
      have hY:lastY (-1) l=q.day:=by unfold lastY;rw [hq]
      have hql:=frm_iss hf q (List.mem_of_getLast? hq)
      rw [frm,if_pos,frm,e4]
      rw [e4,h6,Bool.and_true]
      unfold epB
      simp only [Bool.and_eq_true,decide_eq_true_eq,beq_iff_eq]
      refine⟨⟨⟨⟨by rw [e1,hqi,hql],by rw [e1];omega⟩,by rw [e1];omega⟩,⟨by rw [e2,Nat.zero_add],by rw [e6,Nat.zero_add]⟩,by rw [e5];exact lastD_P l⟩,by rw [hY,e3];exact hqd,by rw [e3];omega⟩
  refine⟨σ,hf,hform,chkE_yes hform fun a ha=>?_⟩
  rcases List.mem_append.1 ha with ha|ha
  · cases hv : verK (rootD x (k : Int)) k (digE a) a.sg.a a.sg.S a.sg.P with
    |true=>rfl
    |false=>rw [chkE_bad hf ha hv]at h2;cases h2
  · rw [List.mem_singleton.1 ha, e6, hdg]
    exact ver_signed _ h1 hlt
end
structure Sp where
  day:Int
  ch:List Ch
def Sp.cells (s:Sp):List A:= [.i .i64 s.day,chsA s.ch]
def spsC (l:List Sp):List A:=l.flatMap Sp.cells
instance {s:Sp}:IsPureL s.cells:=by unfold Sp.cells;infer_instance
instance {l:List Sp}:IsPureL (spsC l):=by unfold spsC;infer_instance
def Sp.ok (s:Sp):Prop:=rg s.day∧∀c∈s.ch,rg c.id∧rg c.st
theorem sps_get {l:List Sp} {i:Nat} {s:Sp} (h:l[i]? =some s):((spsC l).drop (i*2)).take 2=s.cells:=by
  unfold spsC
  induction l generalizing i with
  |nil=>simp at h
  | cons d l ih =>
    rw [List.flatMap_cons]
    cases i with
    |zero=>simp at h;subst h;rfl
    |succ i=>rw [show(i+1)*2=d.cells.length+i*2 by show _=2+_;omega, ←List.drop_drop,List.drop_left];exact ih (by simpa using h)
theorem sps_fld {l:List Sp} {i:Nat} {s:Sp} (h:l[i]? =some s) {k:Nat} {v:A} (hv:s.cells[k]? =some v) (hk:k<2):(((spsC l).drop (i*2)).drop k)[0]? =some v:=by
  have e1:(((spsC l).drop (i*2)).take 2)[k]? =some v:=by rw [sps_get h];exact hv
  rw [List.getElem?_take,if_pos hk]at e1
  rw [List.getElem?_drop,Nat.add_zero];exact e1
def addE (l:List Ep):Int ⊕ Ep→List Ep
  | .inl _=>l
  | .inr e=>l++ [e]
def pubLs (x:List UInt8) (n iss:Int) (ids:List Int):List Ep→List Sp→List Ep
  |l, []=>l
  |l,s::r=>pubLs x n iss ids (addE l (pubX x n l iss s.day ids s.ch)) r
theorem pubLs_next {x:List UInt8} {n iss:Int} {ids:List Int} {l:List Ep} {S:List Sp} {i:Nat} {s:Sp} (h:S[i]? =some s):pubLs x n iss ids l (S.drop i)=pubLs x n iss ids (addE l (pubX x n l iss s.day ids s.ch)) (S.drop (i+1)):=by
  rw [List.drop_eq_getElem_cons (List.getElem?_eq_some_iff.1 h).1,(List.getElem?_eq_some_iff.1 h).2,pubLs]
theorem addE_ok {x:List UInt8} {n:Int} {l:List Ep} {iss day:Int} {ids:List Int} {c:List Ch} (hl:EpsOk l) (hn:l.length≤1000) (hi:rg iss) (hd:rg day) (hc:c.length≤1000) (hcr:∀e∈c,rg e.id∧rg e.st):EpsOk (addE l (pubX x n l iss day ids c))∧(addE l (pubX x n l iss day ids c)).length≤l.length+1:=by
  cases h:pubX x n l iss day ids c with
  |inl v=>exact⟨hl,Nat.le_succ _⟩
  | inr e =>
    obtain⟨_,σ,_,_,_,_,_,_,_,rfl⟩:=pub_spec h
    exact⟨epsOk_snoc hl (nextE_ok hn hi hd hc hcr),by simp [addE]⟩
@[irreducible] def fewE (n:Int) (ids:List Int) (S:List Sp):Bool:=(S.all fun s=>decide (s.ch.length≤10))&&((decide ((S.length:Int)≤5)&&decide (n≤6))&&decide ((ids.length:Int)≤24))
theorem fewE_no {n:Int} {ids:List Int} {S:List Sp} {s:Sp} (h:s∈S) (hc:¬s.ch.length≤10):fewE n ids S=false:=by
  unfold fewE
  rw [show(S.all fun s=>decide (s.ch.length≤10))=false from List.all_eq_false.2 ⟨s,h,by simp [hc]⟩];rfl
theorem fewE_all {n:Int} {ids:List Int} {S:List Sp} (h:∀s∈S,s.ch.length≤10):fewE n ids S=((decide ((S.length:Int)≤5)&&decide (n≤6))&&decide ((ids.length:Int)≤24)):=by
  unfold fewE
  rw [List.all_eq_true.2 fun s hs=>decide_eq_true (h s hs),Bool.true_and]
theorem fewE_spec {n:Int} {ids:List Int} {S:List Sp} (h:fewE n ids S=true):(∀s∈S,s.ch.length≤10)∧S.length≤5∧n≤6∧ids.length≤24:=by
  unfold fewE at h
  simp only [Bool.and_eq_true,decide_eq_true_eq,List.all_eq_true]at h
  exact⟨h.1,by omega,h.2.1.2,by omega⟩
end Go.Abs.D2
-- E5U
namespace Go.Abs.D2
open Go Go.Eng Go.Abs
def sameC5:List Ch→List Ch→Bool
  | [], []=>true
  |a::r,b::s=>(a.id==b.id&&a.st==b.st)&&sameC5 r s
  |_,_=>false
theorem sameC5_self:∀l:List Ch,sameC5 l l=true
  | []=>rfl
  |c::l=>by rw [sameC5,sameC5_self l];simp
theorem sameC5_len:∀ {a b:List Ch},sameC5 a b=true→a.length=b.length
  | [], [],_=>rfl
  | _ :: a, _ :: b, h => by
    rw [sameC5,Bool.and_eq_true]at h
    rw [List.length_cons,List.length_cons,sameC5_len h.2]
  | [],_::_,h=>by cases h
  |_::_, [],h=>by cases h
theorem sameC5_lne {a b:List Ch} (h:a.length≠b.length):sameC5 a b=false:=by
  cases hs:sameC5 a b with
  |false=>rfl
  |true=>exact absurd (sameC5_len hs) h
theorem sameC5_at {a b:List Ch} {i:Nat} {c d:Ch} (h1:a[i]? =some c) (h2:b[i]? =some d):sameC5 (a.drop i) (b.drop i)=((c.id==d.id&&c.st==d.st)&&sameC5 (a.drop (i+1)) (b.drop (i+1))):=by
  rw [List.drop_eq_getElem_cons (List.getElem?_eq_some_iff.1 h1).1,(List.getElem?_eq_some_iff.1 h1).2,List.drop_eq_getElem_cons (List.getElem?_eq_some_iff.1 h2).1,(List.getElem?_eq_some_iff.1 h2).2,sameC5]
theorem sum_ways (o:Int ⊕ Ep):(∃v,o= .inl v)∨∃e,o= .inr e:=by
  cases o with
  |inl v=>exact .inl ⟨v,rfl⟩
  |inr e=>exact .inr ⟨e,rfl⟩
theorem pub_err {x : List UInt8} {n : Int} {l : List Ep} {iss day : Int} {ids : List Int} {c : List Ch} {v : Int} (h : pubX x n l iss day ids c = .inl v) : v ≠ 0 := by
  unfold pubX at h
  split at h
  · split at h
    · cases h;decide
    · split at h
      · split at h
        · cases h;decide
        · split at h
          · cases h
          · cases h;decide
      · rename_i h0;cases h;exact h0
  · cases h;decide
theorem all_takeS {S:List Sp} {i:Nat} {s:Sp} {p:Sp→Prop} (h:S[i]? =some s) (ha:∀x∈S.take i,p x) (he:p s):∀x∈S.take (i+1),p x:=fun x hx=>by
  rw [List.take_add_one,h]at hx
  rcases List.mem_append.1 hx with hx|hx
  · exact ha x hx
  · rw [List.mem_singleton.1 hx];exact he
end Go.Abs.D2
-- E5W
namespace Go.Abs.D2
open Go Go.Eng Go.Abs
abbrev dCh:D:= .st [.int .i64,.int .i64]
abbrev dSp:D:= .st [.int .i64,.sl dCh]
theorem den_ch (aS:List A) (h:Den dCh aS):∃c:Ch,aS=c.cells∧(rg c.id∧rg c.st):=by
  simp only [Den,DenL]at h
  obtain⟨a,r,h1,⟨b,r2,h2,rfl,rfl⟩,rfl⟩:=h
  obtain⟨n,rfl,hn⟩:=den_int a (by simpa only [Den]using h1)
  obtain⟨m,rfl,hm⟩:=den_int b (by simpa only [Den]using h2)
  exact⟨⟨n,m⟩,rfl,hn,hm⟩
theorem den_chs (aS:List A) (h:Den (.sl dCh) aS):∃l:List Ch,aS= [chsA l]∧l.length≤maxLen∧∀c∈l,rg c.id∧rg c.st:=by
  simp only [Den]at h
  obtain⟨ls,h1,h2,rfl⟩:=h
  obtain⟨ys,rfl,h3⟩:=den_map (f:=Ch.cells) (e:=dCh) den_ch ls (fun x hx=>by simpa only [Den]using h1 x hx)
  exact⟨ys,by rw [List.length_map, ←List.flatMap_def];rfl,by simpa using h2,h3⟩
theorem den_sp (aS:List A) (h:Den dSp aS):∃s:Sp,aS=s.cells∧s.ok∧s.ch.length≤maxLen:=by
  simp only [Den,DenL]at h
  obtain⟨a,r,h1,⟨b,r2,h2,rfl,rfl⟩,rfl⟩:=h
  obtain⟨n,rfl,hn⟩:=den_int a (by simpa only [Den]using h1)
  obtain⟨l,rfl,hl,hc⟩:=den_chs b (by simpa only [Den,DenL]using h2)
  exact⟨⟨n,l⟩,rfl,⟨hn,hc⟩,hl⟩
theorem den_steps (aS:List A) (h:Den (.sl dSp) aS):∃S:List Sp,aS= [.fz S.length (spsC S)]∧S.length≤maxLen∧∀s∈S,s.ok∧s.ch.length≤maxLen:=by
  simp only [Den]at h
  obtain⟨ls,h1,h2,rfl⟩:=h
  obtain⟨ys,rfl,h3⟩:=den_map (f:=Sp.cells) (e:=dSp) den_sp ls (fun x hx=>by simpa only [Den]using h1 x hx)
  exact⟨ys,by rw [List.length_map, ←List.flatMap_def];rfl,by simpa using h2,h3⟩
structure Ep.typed (e:Ep):Prop where
  iss:rg e.iss
  no:rg e.no
  day:rg e.day
  ch:∀c∈e.ch,rg c.id∧rg c.st
  cas:e.cas.length=32
  prev:e.prev.length=32
  S:D32 e.sg.S
  P:D32 e.sg.P
  few:e.ch.length≤maxLen
theorem Ep.typed.ok {e:Ep} (h:e.typed) (hf:e.ch.length≤1000):e.ok:=⟨h.iss,h.no,h.day,h.ch,hf,h.cas,h.prev,h.S,h.P⟩
theorem Ep.typed.len {e:Ep} (h:e.typed):e.cells.length=71:=by simp [Ep.cells,h.cas,h.prev]
theorem den_u64w (aS:List A) (h:Den (.int .u64) aS):∃X:BitVec 64,aS= [w64 X]∧True:=by
  simp only [Den]at h
  obtain⟨n,hw,rfl⟩:=h
  refine⟨BitVec.ofNat 64 n.toNat,?_,trivial⟩
  simp only [Lit.wf,Bool.and_eq_true,decide_eq_true_eq]at hw
  have h1:IntKind.u64.min=0:=rfl
  have h2:IntKind.u64.max=18446744073709551615:=rfl
  rw [h1,h2]at hw
  have:((BitVec.ofNat 64 n.toNat).toNat:Int)=n:=by
    rw [BitVec.toNat_ofNat]
    omega
  show [A.i .u64 n]= [A.i .u64 _]
  rw [this]
theorem den_i8w (aS:List A) (h:Den (.int .i8) aS):∃n:Int,aS= [.i .i8 n]∧(-128≤n∧n≤127):=by
  simp only [Den]at h
  obtain⟨n,hw,rfl⟩:=h
  simp only [Lit.wf,Bool.and_eq_true,decide_eq_true_eq]at hw
  have h1:IntKind.i8.min= -128:=rfl
  have h2:IntKind.i8.max=127:=rfl
  rw [h1,h2]at hw
  exact⟨n,rfl,hw⟩
theorem pubLs_ok {x:List UInt8} {n iss:Int} {ids:List Int} (hi:rg iss):∀ {S:List Sp} {l:List Ep},EpsOk l→l.length+S.length≤1000→(∀s∈S,s.ok)→(∀s∈S,s.ch.length≤10)→EpsOk (pubLs x n iss ids l S)∧(pubLs x n iss ids l S).length≤l.length+S.length
  | [],l,hl,_,_,_=>⟨hl,Nat.le_refl _⟩
  | s :: r, l, hl, hn, hS, hc => by
    rw [List.length_cons]at hn
    have hs:=hS s (.head _)
    have ha:=addE_ok (x:=x) (n:=n) (ids:=ids) (c:=s.ch) (day:=s.day) hl (by omega) hi hs.1 (by have:=hc s (.head _);omega) hs.2
    have ih:=pubLs_ok (x:=x) (n:=n) (ids:=ids) hi (S:=r) ha.1 (by omega) (fun t ht=>hS t (.tail _ ht)) (fun t ht=>hc t (.tail _ ht))
    exact⟨ih.1,Nat.le_trans ih.2 (by rw [List.length_cons];omega)⟩
end Go.Abs.D2
-- E5V
namespace Go.Abs.D2
open Go Go.Eng Go.Abs
abbrev sd3:List UInt8:=3::List.replicate 31 0
abbrev cA:List Ch:= [⟨5,2⟩]
abbrev cB:List Ch:= [⟨4,1⟩]
@[irreducible] def eA:Ep:=nextE sd3 2 [] 1 10 [4,5] cA (chg σ0 cA)
theorem eA_eq:eA=nextE sd3 2 [] 1 10 [4,5] cA (chg σ0 cA):=by unfold eA;rfl
@[irreducible] def eB:Ep:=nextE sd3 2 [eA] 1 11 [4,5] cB (chg (chg σ0 cA) cB)
theorem eB_eq:eB=nextE sd3 2 [eA] 1 11 [4,5] cB (chg (chg σ0 cA) cB):=by unfold eB;rfl
theorem rg_of {n:Int} (h0: -9223372036854775808≤n) (h1:n≤9223372036854775807):rg n:=⟨h0,h1⟩
theorem size_2:sizeK ((2:Nat):Int):=by decide
theorem form_0:formS []=some σ0:=by rw [formS_eq];rfl
theorem chk_0 (r:List UInt8) (n:Int):chkE r n []=0:=chkE_yes form_0 fun e he=>by cases he
theorem pub_A:pubX sd3 2 [] 1 10 [4,5] cA= .inr eA:=by
  rw [eA_eq]
  exact pub_5 (n:=((2:Nat):Int)) size_2 form_0 (chk_0 _ _) (by decide) (by decide) rfl (by decide) (spl_3 (by decide) (by decide+kernel))
theorem form_A:formS [eA]=some (chg σ0 cA)∧chkE (rootD sd3 2) 2 [eA]=0:=by
  obtain⟨σ,h1,h2,h3⟩:=pub_form pub_A
  rw [form_0]at h1
  cases h1
  exact⟨h2,h3⟩
theorem last_A {iss day:Int}:lastE [eA] iss day=((iss==1)&&decide (day>10)):=by
  have h:eA.iss=1∧eA.day=10:=by rw [eA_eq];exact⟨rfl,rfl⟩
  show((iss==eA.iss)&&decide (day>eA.day))=_
  rw [h.1,h.2]
theorem pub_B:pubX sd3 2 [eA] 1 11 [4,5] cB= .inr eB:=by
  rw [eB_eq]
  exact pub_5 (n:=((2:Nat):Int)) size_2 form_A.1 form_A.2 (by decide) (by decide) (by rw [last_A];rfl) (by decide+kernel) (spl_3 (by decide) (by decide+kernel))
theorem form_B:formS [eA,eB]=some (chg (chg σ0 cA) cB)∧chkE (rootD sd3 2) 2 [eA,eB]=0:=by
  obtain⟨σ,h1,h2,h3⟩:=pub_form pub_B
  rw [form_A.1]at h1
  cases h1
  exact⟨h2,h3⟩
theorem pub_C:pubX sd3 2 [eA] 1 11 [4,5] [⟨5,0⟩]= .inl 351:=pub_4 (n:=((2:Nat):Int)) size_2 form_A.1 form_A.2 (by decide) (.inr (.inr (.inl (by decide+kernel))))
theorem pub_D:pubX sd3 2 [eA,eB] 1 12 [4,5] []= .inl 2:=pub_3 (n:=((2:Nat):Int)) size_2 form_B.1 form_B.2 rfl
theorem sts_A:stsX [eA,eB] 1= .inr [⟨4,1⟩,⟨5,2⟩]:=by
  rw [sts_3 (σ:=chg (chg σ0 cA) cB) (by decide) (by exact form_B.1)]
  have hk:keysS (chg (chg σ0 cA) cB)= [4,5]:=by decide+kernel
  unfold chS
  rw [hk]
  rfl
theorem sts_B:stsX [] (-1)= .inr []:=by
  rw [sts_3 (l:= []) (no:= -1) (σ:=σ0) (by decide) (by exact form_0)]
  have hk:keysS σ0= []:=by decide+kernel
  unfold chS
  rw [hk]
  rfl
theorem sts_C:stsX [] 0= .inl 1:=sts_1 (by decide)
theorem at_A:atE [] 5=none:=by rw [atE_eq];rfl
theorem at_B:atE [eA,eB] 10=some 0:=by
  have h1:eA.day=10:=by rw [eA_eq];rfl
  have h2:eB.day=11:=by rw [eB_eq];rfl
  rw [atE_eq]
  show atJ [eA,eB] 10 (0+1+1)=_
  rw [atJ_no (e:=eB) rfl (by rw [h2];decide),atJ_yes (e:=eA) rfl (by rw [h1];decide)]
theorem rg_cs {l:List Ch} (h:∀e∈l, -9223372036854775808≤e.id∧e.id≤9223372036854775807∧ -9223372036854775808≤e.st∧e.st≤9223372036854775807):∀e∈l,rg e.id∧rg e.st:=fun e he=>let ⟨a,b,c,d⟩:=h e he;⟨⟨a,b⟩,⟨c,d⟩⟩
theorem rg_one {a b:Int} (h: -9223372036854775808≤a∧a≤9223372036854775807∧ -9223372036854775808≤b∧b≤9223372036854775807):∀e∈([⟨a,b⟩]:List Ch),rg e.id∧rg e.st:=rg_cs fun e he=>by rw [List.mem_singleton.1 he];exact h
theorem ok_A:eA.ok:=by rw [eA_eq];exact nextE_ok (by decide) (rg_of (by decide) (by decide)) (rg_of (by decide) (by decide)) (by decide) (rg_one (by decide))
theorem ok_B:eB.ok:=by rw [eB_eq];exact nextE_ok (by decide) (rg_of (by decide) (by decide)) (rg_of (by decide) (by decide)) (by decide) (rg_one (by decide))
theorem okL_0:EpsOk []:=fun e he=>by cases he
theorem okL_A:EpsOk [eA]:=fun e he=>by rw [List.mem_singleton.1 he];exact ok_A
theorem okL_B:EpsOk [eA,eB]:=fun e he=>by
  rcases List.mem_cons.1 he with rfl|he
  · exact ok_A
  · rw [List.mem_singleton.1 he];exact ok_B
theorem prev_A:eA.prev=zD:=by rw [eA_eq];rfl
theorem prev_B:eB.prev=digE eA:=by rw [eB_eq];rfl
theorem eps_prev {l:List Ep} {i:Nat} {e:Ep} (hl:EpsOk l) (h:l[i]? =some e):(((epsC l).drop (i*71)).drop 36).take 32=e.prev.map u8:=by
  have hok:=hl e (List.mem_of_getElem? h)
  have h1:((((epsC l).drop (i*71)).take 71).drop 36).take 32=e.prev.map u8:=by rw [eps_get hl h];exact ep_prev hok
  rw [List.drop_take,List.take_take]at h1
  exact h1
end Go.Abs.D2
-- E5X
namespace Go.Abs.D2
open Go Go.Eng Go.Abs
structure Good (x:List UInt8) (n:Int) (l:List Ep):Prop where
  form:∃τ,formS l=some τ
  chk:chkE (rootD x n) n l=0
  size:l≠ []→sizeK n
theorem good0 (x:List UInt8) (n:Int):Good x n []:=⟨⟨σ0,by rw [formS_eq];rfl⟩,chkE_yes (show formS []=some σ0 by rw [formS_eq];rfl) (fun e he=>by cases he),fun h=>absurd rfl h⟩
theorem pubLs_good {x:List UInt8} {n iss:Int} {ids:List Int}:∀ {S:List Sp} {l:List Ep},Good x n l→Good x n (pubLs x n iss ids l S)
  | [],_,h=>h
  | s :: r, l, h => by
    rw [pubLs]
    refine pubLs_good (S:=r) ?_
    cases hp:pubX x n l iss s.day ids s.ch with
    |inl v=>exact h
    | inr e =>
      obtain⟨σ,h1,h2,h3⟩:=pub_form hp
      exact⟨⟨_,h2⟩,h3,fun _=>(pub_spec hp).1⟩
end Go.Abs.D2
-- E6A
namespace Go.Abs.D2
open Go Go.Eng Go.Abs
def dgAt (l:List Ep) (i:Nat):List UInt8:=match l[i]? with
  |some e=>digE e
  |none=>zD
theorem len_dgAt (l:List Ep) (i:Nat):(dgAt l i).length=32:=by
  unfold dgAt
  split
  · simp
  · simp
theorem dgAt_is {l:List Ep} {i:Nat} {e:Ep} (h:l[i]? =some e):dgAt l i=digE e:=by unfold dgAt;rw [h]
def digsJ (l:List Ep) (k j:Nat):List (List UInt8):=(List.range k).map fun i=>if i<j then dgAt l i else zD
@[irreducible] def digsE (l:List Ep) (k:Nat):List (List UInt8):=(List.range k).map (dgAt l)
theorem digsE_eq (l:List Ep) (k:Nat):digsE l k=(List.range k).map (dgAt l):=by unfold digsE;rfl
@[simp] theorem len_digsJ (l:List Ep) (k j:Nat):(digsJ l k j).length=k:=by simp [digsJ]
@[simp] theorem len_digsE (l:List Ep) (k:Nat):(digsE l k).length=k:=by simp [digsE_eq]
theorem D32_digsJ (l:List Ep) (k j:Nat):D32 (digsJ l k j):=fun d hd=>by
  obtain⟨i,_,rfl⟩:=List.mem_map.1 hd
  split
  · exact len_dgAt _ _
  · simp
theorem D32_digsE (l:List Ep) (k:Nat):D32 (digsE l k):=fun d hd=>by
  rw [digsE_eq]at hd
  obtain⟨i,_,rfl⟩:=List.mem_map.1 hd
  exact len_dgAt _ _
theorem digsJ_end {l:List Ep} {k j:Nat} (h:¬(j<l.length∧j<k)):digsJ l k j=digsE l k:=by
  rw [digsE_eq]
  unfold digsJ
  refine List.map_congr_left fun i hi=>?_
  have hk:=List.mem_range.1 hi
  split
  · rfl
  · unfold dgAt
    rw [List.getElem?_eq_none (by omega)]
theorem digsJ_set {l : List Ep} {k j : Nat} {e : Ep} (h : l[j]? = some e) : (digsJ l k j).set j (digE e) = digsJ l k (j + 1) := by
  apply List.ext_getElem?
  intro i
  unfold digsJ
  rw [List.getElem?_set]
  by_cases hij:j=i
  · subst hij
    rw [if_pos rfl,List.length_map,List.length_range]
    by_cases hk:j<k
    · rw [if_pos hk, List.getElem?_map, List.getElem?_range hk]
      simp [dgAt_is h]
    · rw [if_neg hk,List.getElem?_eq_none (by simp;omega)]
  · rw [if_neg hij, List.getElem?_map, List.getElem?_map]
    cases hr:(List.range k)[i]? with
    |none=>rfl
    | some m =>
      have:m=i:=by
        rw [List.getElem?_range (by have:=(List.getElem?_eq_some_iff.1 hr).1;simpa using this)]at hr
        cases hr;rfl
      subst this
      simp only [Option.map_some,Option.some.injEq]
      by_cases hm:m<j
      · rw [if_pos hm,if_pos (by omega)]
      · rw [if_neg hm,if_neg (by omega)]
theorem flat_set32:∀ {L:List (List UInt8)} {j:Nat} {d:List UInt8},D32 L→j<L.length→(L.flatten.map u8).take (j*32)++d.map u8++(L.flatten.map u8).drop (j*32+32)=(L.set j d).flatten.map u8
  | [],_,_,_,h=>by simp at h
  | a :: L, 0, d, hD, _ => by
    have ha:(a.map u8).length=32:=by rw [List.length_map];exact hD a (.head _)
    rw [List.flatten_cons,List.map_append,Nat.zero_mul,List.take_zero,Nat.zero_add,List.drop_left' ha]
    simp
  | a :: L, j + 1, d, hD, h => by
    have ha:(a.map u8).length=32:=by rw [List.length_map];exact hD a (.head _)
    have ih:=flat_set32 (L:=L) (j:=j) (d:=d) (fun q hq=>hD q (.tail _ hq)) (by simpa using h)
    rw [List.flatten_cons,List.map_append,show(j+1)*32=(a.map u8).length+j*32 by rw [ha];omega,Nat.add_assoc,List.take_length_add_append,List.drop_length_add_append,List.set_cons_succ,List.flatten_cons,List.map_append, ←ih]
    simp only [List.append_assoc]
theorem mkz_cells (l:List Ep) (k:Nat):List.replicate (k*32) (u8 0)=(digsJ l k 0).flatten.map u8:=by
  have h:digsJ l k 0=List.replicate k zD:=by
    unfold digsJ
    rw [show(fun i=>if i<0 then dgAt l i else zD)=fun _=>zD from funext fun i=>if_neg (by omega)]
    rw [List.map_const',List.length_range]
  rw [h]
  clear h
  induction k with
  |zero=>rfl
  |succ k ih=>rw [List.replicate_succ,List.flatten_cons,List.map_append, ←ih,show(k+1)*32=32+k*32 by omega, ←List.replicate_append_replicate];rfl
theorem eps_set:∀ {l:List Ep} {k:Nat} {e e':Ep} {j:Nat} {v:A},EpsOk l→l[k]? =some e→e.cells.set j v=e'.cells→j<71→(epsC l).set (k*71+j) v=epsC (l.set k e')
  | [],_,_,_,_,_,_,h,_,_=>by simp at h
  | a :: l, 0, e, e', j, v, hl, h, hv, hj => by
    simp at h
    subst h
    have ha:=(hl a (.head _)).len
    show((a.cells++epsC l).set (0*71+j) v)=e'.cells++epsC l
    rw [Nat.zero_mul,Nat.zero_add,List.set_append_left _ _ (by omega),hv]
  | a :: l, k + 1, e, e', j, v, hl, h, hv, hj => by
    have ha:=(hl a (.head _)).len
    have ih:=eps_set (l:=l) (k:=k) (fun x hx=>hl x (.tail _ hx)) (by simpa using h) hv hj
    show((a.cells++epsC l).set ((k+1)*71+j) v)=a.cells++epsC (l.set k e')
    rw [List.set_append_right _ _ (by omega),ha,show(k+1)*71+j - 71=k*71+j by omega,ih]
theorem epsOk_set {l:List Ep} {k:Nat} {e':Ep} (hl:EpsOk l) (h:e'.ok):EpsOk (l.set k e'):=fun x hx=>by
  rcases List.mem_or_eq_of_mem_set hx with hx|rfl
  · exact hl x hx
  · exact h
def Ep.inDay (e:Ep) (d:Int):Ep:= {e with day:=d}
def Ep.inNo (e:Ep) (d:Int):Ep:= {e with no:=d}
def Ep.inCas (e:Ep) (j:Nat) (b:UInt8):Ep:= {e with cas:=e.cas.set j b}
def Ep.inPrev (e:Ep) (j:Nat) (b:UInt8):Ep:= {e with prev:=e.prev.set j b}
theorem inDay_ok {e:Ep} (h:e.ok) {d:Int} (hd:rg d):(e.inDay d).ok:=⟨h.iss,h.no,hd,h.ch,h.few,h.cas,h.prev,h.S,h.P⟩
theorem inNo_ok {e:Ep} (h:e.ok) {d:Int} (hd:rg d):(e.inNo d).ok:=⟨h.iss,hd,h.day,h.ch,h.few,h.cas,h.prev,h.S,h.P⟩
theorem inCas_ok {e:Ep} (h:e.ok) (j:Nat) (b:UInt8):(e.inCas j b).ok:=⟨h.iss,h.no,h.day,h.ch,h.few,by show(e.cas.set j b).length=32;rw [List.length_set,h.cas],h.prev,h.S,h.P⟩
theorem inPrev_ok {e:Ep} (h:e.ok) (j:Nat) (b:UInt8):(e.inPrev j b).ok:=⟨h.iss,h.no,h.day,h.ch,h.few,h.cas,by show(e.prev.set j b).length=32;rw [List.length_set,h.prev],h.S,h.P⟩
theorem inCas_cells {e:Ep} (h:e.ok) {j:Nat} {b:UInt8} (hj:j<32):e.cells.set (4+j) (u8 b)=(e.inCas j b).cells:=by
  unfold Ep.cells Ep.inCas
  rw [show 4+j=j+1+1+1+1 by omega]
  simp only [List.set_cons_succ]
  rw [List.set_append_left _ _ (by rw [List.length_map,h.cas];exact hj), ←List.map_set]
theorem inPrev_cells {e:Ep} (h:e.ok) {j:Nat} {b:UInt8} (hj:j<32):e.cells.set (36+j) (u8 b)=(e.inPrev j b).cells:=by
  unfold Ep.cells Ep.inPrev
  rw [show 36+j=(32+j)+1+1+1+1 by omega]
  simp only [List.set_cons_succ]
  rw [List.set_append_right _ _ (by rw [List.length_map,h.cas];omega),List.length_map,h.cas,Nat.add_sub_cancel_left,List.set_append_left _ _ (by rw [List.length_map,h.prev];exact hj), ←List.map_set]
theorem eps_at {l:List Ep} {i:Nat} {e:Ep} (hl:EpsOk l) (h:l[i]? =some e) {k:Nat} {v:A} (hv:e.cells[k]? =some v) (hk:k<71):((epsC l).drop (i*71+k))[0]? =some v:=by
  rw [←List.drop_drop];exact eps_fld hl h hv hk
theorem ep_cas_at {e:Ep} (h:e.ok) {j:Nat} {b:UInt8} (hb:e.cas[j]? =some b):e.cells[4+j]? =some (u8 b):=by
  have hj:=(List.getElem?_eq_some_iff.1 hb).1
  unfold Ep.cells
  rw [show 4+j=j+1+1+1+1 by omega]
  simp only [List.getElem?_cons_succ]
  rw [List.getElem?_append_left (by rw [List.length_map];exact hj),List.getElem?_map,hb];rfl
theorem ep_prev_at {e:Ep} (h:e.ok) {j:Nat} {b:UInt8} (hb:e.prev[j]? =some b):e.cells[36+j]? =some (u8 b):=by
  have hj:=(List.getElem?_eq_some_iff.1 hb).1
  unfold Ep.cells
  rw [show 36+j=(32+j)+1+1+1+1 by omega]
  simp only [List.getElem?_cons_succ]
  rw [List.getElem?_append_right (by rw [List.length_map,h.cas];omega),List.length_map,h.cas,Nat.add_sub_cancel_left,List.getElem?_append_left (by rw [List.length_map];exact hj),List.getElem?_map,hb];rfl
theorem eps_sg {l:List Ep} {i:Nat} {e:Ep} (hl:EpsOk l) (h:l[i]? =some e):((epsC l).drop (i*71+68)).take 3= [.i .i64 e.sg.a,dgs e.sg.S,dgs e.sg.P]:=by
  have hok:=hl e (List.mem_of_getElem? h)
  have h1:(((epsC l).drop (i*71)).take 71).drop 68= [.i .i64 e.sg.a,dgs e.sg.S,dgs e.sg.P]:=by rw [eps_get hl h];exact ep_sg hok
  rw [List.drop_take,List.drop_drop]at h1
  exact h1
def bW (b:Int):UInt8:=UInt8.ofNat (b % 256).toNat
theorem bW_eq (b:Int):A.i .u8 (IntKind.u8.wrap b)=u8 (bW b):=by
  show A.i .u8 (IntKind.u8.wrap b)=A.i .u8 _
  refine congrArg (A.i .u8) ?_
  unfold bW
  simp only [IntKind.wrap,IntKind.bits,IntKind.signed]
  simp [UInt8.toNat_ofNat']
  omega
theorem rem_len {X:BitVec 64} {n:Nat} (h0:0<n) (hn:n≤1000):(c64 n).toNat≠0∧(X % c64 n).toNat<n:=by
  have h:(c64 n).toNat=n:=by simp only [c64,BitVec.toNat_ofNat];omega
  refine⟨by omega,?_⟩
  rw [BitVec.toNat_umod,h]
  exact Nat.mod_lt _ h0
theorem few_by (b:Bool) (q:Int):b=false∨(b=true∧q=0)∨(b=true∧q≠0):=by
  cases b
  · exact .inl rfl
  · rcases Decidable.em (q = 0) with h | h
    · exact .inr (.inl ⟨rfl,h⟩)
    · exact .inr (.inr ⟨rfl,h⟩)
theorem eps_sgf {l:List Ep} {i:Nat} {e:Ep} (hl:EpsOk l) (h:l[i]? =some e):(((epsC l).drop (i*71)).drop 68).take 3= [.i .i64 e.sg.a,dgs e.sg.S,dgs e.sg.P]:=by
  rw [List.drop_drop];exact eps_sg hl h
theorem frm_rng : ∀ {l : List Ep} {iss : Int} {no : Nat} {day : Int} {prev : List UInt8} {σ τ : Int → Int}, -1 ≤ day → frm iss no day prev σ l = some τ → ∀ e ∈ l, (0 ≤ e.day ∧ e.day < 1024) ∧ 0 ≤ e.no ∧ e.no ≤ ((no + l.length : Nat) : Int)
  | [],_,_,_,_,_,_,_,_,e,h=>by cases h
  | a :: r, iss, no, day, prev, σ, τ, hd, hf, e, h => by
    rw [frm]at hf
    split at hf
    · rename_i hb
      simp only [Bool.and_eq_true,epB,beq_iff_eq,decide_eq_true_eq]at hb
      rcases List.mem_cons.1 h with rfl|h
      · exact⟨by omega,by omega,by rw [List.length_cons];omega⟩
      · have := frm_rng (by omega) hf e h
        rw [List.length_cons]
        exact⟨this.1,this.2.1,by omega⟩
    · cases hf
theorem good_rng {x:List UInt8} {n:Int} {l:List Ep} (h:Good x n l) {e:Ep} (he:e∈l):(0≤e.day∧e.day<1024)∧0≤e.no∧e.no≤(l.length:Int):=by
  obtain⟨τ,hf⟩:=h.form
  rw [formS_eq]at hf
  have:=frm_rng (by omega) hf e he
  exact⟨this.1,this.2.1,by omega⟩
theorem form_len {x:List UInt8} {k:Nat} {l:List Ep} (h:Good x (k:Int) l):l.length≤k:=by
  obtain⟨τ,hf⟩:=h.form
  exact chkE_len hf h.chk
theorem chk_ver {r:List UInt8} {n:Int} {l:List Ep} (h:chkE r n l=0):(∃σ,formS l=some σ)∧∀e∈l,verK r n (digE e) e.sg.a e.sg.S e.sg.P=true:=by
  cases hf:formS l with
  |none=>rw [chkE_no hf]at h;cases h
  | some σ =>
    refine⟨⟨σ,rfl⟩,fun e he=>?_⟩
    cases hv:verK r n (digE e) e.sg.a e.sg.S e.sg.P with
    |true=>rfl
    |false=>rw [chkE_bad hf he hv]at h;cases h
theorem chk_three (r:List UInt8) (n:Int) (l:List Ep):chkE r n l=0∨chkE r n l=60∨chkE r n l=351:=by
  unfold chkE
  split
  · split
    · exact .inl rfl
    · exact .inr (.inl rfl)
  · exact .inr (.inr rfl)
theorem forg_zero {x : List UInt8} {n a : Int} {L : List (List UInt8)} {m : List UInt8} {S P : List (List UInt8)} (hv : verK (rootD x n) n m a S P = true) (h : (forgK x n L m a S P).1 = 0) : sgnK L a.toNat = m := by
  by_cases h1:(!(sgnK L a.toNat==zD)&&sgnK L a.toNat==m)=true
  · rw [Bool.and_eq_true,beq_iff_eq]at h1;exact h1.2
  · have h1 := Bool.not_eq_true _ ▸ h1
    exfalso
    unfold forgK at h
    simp only [hv,h1,if_true]at h
    split at h
    · rename_i hc;cases hc
    · split at h
      · exact absurd h (by decide)
      · split at h
        · exact absurd (show(2:Int)=0 from h) (by decide)
        · exact absurd h (by decide)
theorem forg_at {x:List UInt8} {n:Int} {l o:List Ep} {k i:Nat} {f:Ep} (ho:chkE (rootD x n) n o=0) (hf:o[i]? =some f) (hi:i<k) (hd:digE f≠dgAt l i):(forgK x n (digsE l k) (digE f) f.sg.a f.sg.S f.sg.P).1≠0:=by
  obtain⟨⟨σ,hs⟩,hv⟩:=chk_ver ho
  intro h
  have h1:=forg_zero (hv f (List.mem_of_getElem? hf)) h
  rw [formS_eq]at hs
  have ha:=frm_sg hs i f hf
  rw [ha,Int.toNat_natCast,Nat.zero_add,sgnK_in (q:=dgAt l i) (by rw [digsE_eq,List.getElem?_map,List.getElem?_range hi];rfl)]at h1
  exact hd h1.symm
end Go.Abs.D2
-- E6B
namespace Go.Abs.D2
open Go Go.Eng Go.Abs Go.Proofs
theorem ldigs_ok (l:List Ep) (k:Nat) (hl:EpsOk l) (hn:l.length≤maxLen) (hk:k≤256):Con Tryz.prog 33 [epsA l,nJ k] (Ret (dgs (digsE l k))):=by
 refine enter Tryz.func33 rfl Tryz.ntmps33 (by kernel_rfl) (Nat.le_of_ble_eq_true rfl) fun w0 X0 hI=>?_
 refine at_seq<|at_region<|s1 (y_p rfl) rfl ?_
 refine at_nil<|x_tn<|at_seq ?_
 simp only [maxLen]at hn
 refine at_region<|s1 (y_p rfl) rfl<|s1 (y_minN (a:=k) (b:=256) (c:=k) rfl rfl (by omega)) rfl<|s1 (y_maxN (a:=0) (b:=k) (c:=k) rfl rfl (by omega)) rfl ?_
 refine at_op rfl (n_makeZ 10 32 rfl _ _ Tryz.underlying41 ti23 (by decide) rfl rfl rfl rfl rfl (by first|omega|(simp only [maxLen];omega)|(simp [maxLen];done)|(simp [maxLen];omega)|(simp [maxLen, *];omega)) (by first|omega|(simp only [maxLen];omega)|(simp [maxLen];done)|(simp [maxLen];omega)|(simp [maxLen, *];omega)) (by first|omega|(simp only [maxLen];omega)|(simp [maxLen];done)|(simp [maxLen];omega)|(simp [maxLen, *];omega)) rfl ?_)
 refine s1 (y_p rfl) rfl ?_
 refine at_nil<|x_tn<|at_seq<|at_seq<|at_region<|s1 ((y_p rfl).v (v':= .i .i64 0) rfl) rfl ?_
 refine at_nil<|x_tn<|at_block ?_
 refine at_loop (ι:=Nat) (fun j=> [(0,epsA l),(5,.sl 10 32 0 k),(6,nJ j)]) (fun j=>⟨[(10,some ((digsJ l k j).flatten.map u8))]⟩) (fun j=>j≤l.length∧j≤k) (fun j=>k - j) ?_ ?_
 ·exact at_ex (0) (⟨Nat.zero_le _,Nat.zero_le _⟩) [(10,some 10)] hI rfl rfl ⟨⟨_,rfl,.pure pu⟩,⟨_,rfl,.sl rfl (by first|rfl|omega|(simp<;>omega)|(simp [*]<;>omega))⟩,⟨_,rfl,.pure pu⟩,trivial⟩ ⟨.inr ⟨_,_,rfl,rfl,.of (mkz_cells l k) (.pure pul)⟩,trivial⟩
 rintro j ⟨hj,hjk⟩
 refine at_seq<|at_seq<|at_region<|s1 (y_p rfl) rfl<|s1 (y_p rfl) rfl<|s1 (y_len Tryz.underlying24 rfl rfl rfl) rfl<|s1 (y_p rfl) rfl<|s1 (y_p rfl) rfl ?_
 refine g_and 4 rfl rfl rfl rfl (fun hb15=> .step (y_p rfl) rfl rfl<| .step (y_p rfl) rfl rfl<| .step (y_len Tryz.underlying41 rfl rfl rfl) rfl rfl<| .step (y_p rfl) rfl rfl<| .done) rfl rfl ?_
 refine at_bc 20 rfl (fun hc20=>?_) (fun hc20=>?_)
 ·have h20 : j < l.length ∧ j < k := by simp at hc20; omega
  obtain⟨e,he⟩:∃e,l[j]? =some e:=⟨_,List.getElem?_eq_getElem h20.1⟩
  have hok:=hl e (List.mem_of_getElem? he)
  refine at_nil<|x_tn ?_
  refine at_then rfl ?_
  refine at_skip<|x_tn<|at_seq<|at_block<|at_region<|s1 (y_p rfl) rfl<|s1 (y_p rfl) rfl<|s1 (y_p rfl) rfl<|s1 (y_p rfl) rfl<|s1 (y_ixf j Tryz.underlying24 ti45 rfl rfl rfl (by omega) rfl) rfl<|s1 (y_loadA ti45 rfl rfl (eps_get hl he) hok.len) rfl ?_
  refine at_op rfl (n_call false rfl (.cons (.pure pu) (.nil)) (edig_ok e hok) pu (.inl rfl) rfl ?_)
  refine s1 (y_ixs j Tryz.underlying41 ti23 rfl rfl rfl rfl (by omega) (Nat.zero_add _)) rfl ?_
  refine at_op rfl (n_store ti23 rfl rfl rfl rfl rfl (show((digE e).map u8).length=32 by simp) (by rw [List.length_map,(D32_digsJ l k j).len,len_digsJ];omega) (flat_set32 (D32_digsJ l k j) (by rw [len_digsJ];exact h20.2)) ?_)
  refine at_nil<|x_bn<|x_tn<|at_region<|s1 (y_p rfl) rfl<|s1 (addN _ 1 rfl rfl rfl rfl (by omega)) rfl<|s1 (y_p rfl) rfl ?_
  refine at_nil ?_
  exact at_end (j+1) (⟨by omega,by omega⟩) (by omega) [(10,some 10)] hI rfl rfl ⟨⟨_,rfl,.pure pu⟩,⟨_,rfl,.sl rfl (by first|rfl|omega|(simp<;>omega)|(simp [*]<;>omega))⟩,⟨_,rfl,.pure pu⟩,trivial⟩ ⟨.inr ⟨_,_,rfl,rfl,.of (by rw [digsJ_set he]) (.pure pul)⟩,trivial⟩
 ·have h20 : ¬ (j < l.length ∧ j < k) := by simp at hc20; omega
  refine at_nil<|x_tn ?_
  refine at_else rfl ?_
  refine at_exit<|x_te<|x_te<|x_be<|x_tn<|at_seq<|at_region<|s1 (y_p rfl) rfl<|s1 (y_p rfl) rfl ?_
  refine at_nil<|x_tn<|at_ret ?_
  refine at_frz 4 rfl rfl pul (view_eq (by rw [List.length_map,(D32_digsJ l k j).len,len_digsJ]) rfl) ?_
  refine at_result (rs:= [.tmp 4]) rfl (r_tmp rfl r_nil) ?_
  rw [digsJ_end h20];exact congrArg (fun n=>A.fz n ((digsE l k).flatten.map u8)) (len_digsE l k).symm
end Go.Abs.D2
-- C5B
namespace Go.Abs.D2
open Go Go.Eng Go.Abs Go.Proofs
theorem elements_ok (x:List UInt8) (hx:x.length=32):Con Tryz.prog 183 [.ag (x.map u8)] (RetM (fun i=> .fn (.func 209) [] [.p i 0]) (x.map u8)):=by
 refine enter Tryz.func183 rfl Tryz.ntmps183 (by kernel_rfl) (Nat.le_of_ble_eq_true rfl) fun w0 X0 hI=>?_
 refine at_seq<|at_region ?_
 refine at_op rfl (n_boxA 1 rfl rfl rfl ?_)
 refine s1 (y_p rfl) rfl ?_
 refine at_nil<|x_tn<|at_seq<|at_region<|s1 (y_func (us:= []) (vs:= [.p 1 0]) rfl rfl) rfl<|s1 (y_p rfl) rfl ?_
 refine at_nil<|x_tn<|at_ret ?_
 refine at_result (rs:= [.tmp 2]) rfl (r_tmp rfl r_nil) ⟨1,rfl,rfl⟩
theorem after_ok (x:List UInt8) (n:Nat) (hx:x.length=32) (hn:n≤1000):Con Tryz.prog 136 [.ag (x.map u8),.i .i64 (n:Nat)] (Ret (.ag ((iterD n x).map u8))):=by
 refine enterM Tryz.func136 rfl Tryz.ntmps136 (by kernel_rfl) (Nat.le_of_ble_eq_true rfl) fun w0 X0 hI hS=>?_
 refine at_seq<|at_region ?_
 refine at_op rfl (n_boxA 2 rfl rfl rfl ?_)
 refine at_op rfl (n_box1 3 rfl rfl rfl rfl ?_)
 refine at_op rfl (n_alloc 4 rfl ti23 rfl rfl ?_)
 refine at_nil<|x_tn<|at_seq<|at_seq<|at_region<|s1 (y_loadA0 ti23 rfl rfl (by first|rfl|omega|(simp<;>omega)|(simp [*]<;>omega))) rfl ?_
 refine at_op rfl (n_callM (mk:=fun i=> .fn (.func 209) [] [.p i 0]) oneB_fn 7 rfl false rfl (.cons (.pure pu) (.nil)) (elements_ok x hx) pul (.inl rfl) rfl ?_)
 refine at_nil<|x_tn<|at_block ?_
 refine at_range [2,3,4,7] [(0,_),(1,_),(2,_),(3,_),(4,_),(6,_),(7,_)] hI rfl ⟨rfl,⟨rfl,⟨rfl,⟨rfl,⟨rfl,⟨rfl,⟨rfl,trivial⟩⟩⟩⟩⟩⟩⟩ (by first|rfl|(simp [onlyE,refsE,refs,refsL,refsL_pul,refs_pu,memN];done)) rfl Tryz.func209 rfl Tryz.ntmps209 (by kernel_rfl) (Nat.le_of_ble_eq_true rfl) fun w1 l1 D1 rc1 hR1=>?_
 refine at_block ?_
 refine at_loop (ι:=Nat) (fun k=> [(0,yv l1),(1,.p 7 0)]) (fun k=>⟨[(2,some (x.map u8)),(3,some ([.i .i64 ((n - k:Nat):Int)])),(4,some (List.replicate 32 (u8 0))),(7,some (((iterD k x).map u8)))]⟩) (fun k=>k≤n) (fun k=>n - k) ?_ ?_
 ·exact at_ex (0) (Nat.zero_le _) [(2,some 2),(3,some 3),(4,some 4),(7,some 7)] hR1.sub.ids rfl rfl ⟨⟨_,rfl,.pure trivial⟩,⟨_,rfl,.p rfl⟩,trivial⟩ ⟨.inr ⟨_,_,rfl,rfl,.pure pul⟩,.inr ⟨_,_,rfl,rfl,.pure pul⟩,.inr ⟨_,_,rfl,rfl,.pure pul⟩,.inr ⟨_,_,rfl,rfl,.pure pul⟩,trivial⟩
 rintro k hk
 have hxk:=len_iterD hx k
 refine at_seq<|at_seq<|at_region<|s1 (y_p rfl) rfl<|s1 (y_loadA0 ti23 rfl rfl (by first|rfl|omega|(simp<;>omega)|(simp [*]<;>omega))) rfl ?_
 refine at_yield [2,3,4,7] [(0,_),(1,_),(3,_),(4,_)] hR1 hR1.sub.ids rfl ⟨rfl,⟨rfl,⟨rfl,⟨rfl,trivial⟩⟩⟩⟩ (by first|rfl|(simp [onlyE,refsE,refs,refsL,refsL_pul,refs_pu,memN];done)) rfl rfl rfl rfl rfl fun w2 tm2 hd2=>?_
 refine at_region ?_
 refine at_op rfl (n_alloc 5 rfl ti23 rfl rfl ?_)
 refine at_op rfl (n_storeA ti23 rfl rfl rfl (by first|rfl|omega|(simp<;>omega)|(simp [*]<;>omega)) (by first|rfl|omega|(simp<;>omega)|(simp [*]<;>omega)) ?_)
 refine at_nil ?_
 refine at_begin hd2 fun w3 hd3=>?_
 refine at_block<|at_seq<|at_seq<|at_region<|s1 (y_load ti3 rfl rfl rfl) rfl<|s1 (y_p rfl) rfl ?_
 refine at_nil<|x_tn ?_
 refine at_cond rfl (fun hc10=>?_) (fun hc10=>?_)
 ·have h10 : k = n := by have := of_decide_eq_true hc10; omega
  subst h10
  refine at_seq<|at_region<|s1 (y_loadA0 ti23 rfl rfl (by first|rfl|omega|(simp<;>omega)|(simp [*]<;>omega))) rfl ?_
  refine at_op rfl (n_storeA ti23 rfl rfl rfl (by first|rfl|omega|(simp<;>omega)|(simp [*]<;>omega)) (by first|rfl|omega|(simp<;>omega)|(simp [*]<;>omega)) ?_)
  refine at_nil<|x_tn<|at_ret<|x_tr<|x_br ?_
  refine at_rret hR1 hd3 rfl fun w4 hR4=>?_
  refine at_nil<|x_tn ?_
  refine at_else rfl ?_
  refine at_exit<|x_te<|x_te<|x_be ?_
  refine at_itnilJ rfl hR4 hS ?_
  refine at_ret<|x_br<|x_tr ?_
  refine at_resultM (rs:= [.cell 4 23]) rfl rfl rfl hS (dn:= [D1]) rfl rfl (by simp) rfl (r_cellA ti23 rfl rfl (List.take_of_length_le (by simp [hxk])) (by simp [hxk]) r_nil) rfl
 ·have h10 : k < n := by have := of_decide_eq_false hc10; omega
  refine at_skip<|x_tn<|at_region<|s1 (y_load ti3 rfl rfl rfl) rfl<|s1 (subN (n - k) 1 rfl rfl rfl rfl (by omega) (by omega)) rfl ?_
  refine at_op rfl (n_store1 ti3 rfl rfl rfl rfl (by first|rfl|omega|(simp<;>omega)|(simp [*]<;>omega)) rfl ?_)
  refine at_nil<|x_bn ?_
  refine at_rend hR1 hd3 rfl ?_
  refine at_nil<|x_tn ?_
  refine at_then rfl ?_
  refine at_skip<|x_tn<|at_block<|at_region<|s1 (y_cuta0 Tryz.underlying23 ti5 rfl rfl (by first|rfl|omega|(simp<;>omega)|(simp [*]<;>omega)) (by simp [maxLen])) rfl ?_
  refine at_op rfl (n_call true rfl (.cons (.pure pu) (.cons (.sl rfl rfl (by first|rfl|omega|(simp<;>omega)|(simp [*]<;>omega)) (view_eq (by first|rfl|omega|(simp<;>omega)|(simp [*]<;>omega)) (by first|rfl|(simp;done)|(simp [*];done))) (VwL.pure pul) pul) (.nil))) (tagged_ok [115,116,101,112] (iterD k x) (by omega) (by simp)) pu (.inr fu) rfl ?_)
  refine at_op rfl (n_storeA ti23 rfl rfl rfl (by first|rfl|omega|(simp<;>omega)|(simp [*]<;>omega)) (by first|rfl|omega|(simp<;>omega)|(simp [*]<;>omega)) ?_)
  refine at_nil<|x_bn ?_
  exact at_end (k+1) (by omega) (by omega) [(2,some 2),(3,some 3),(4,some 4),(7,some 7)] hR1.sub.ids rfl rfl ⟨⟨_,rfl,.pure trivial⟩,⟨_,rfl,.p rfl⟩,trivial⟩ ⟨.inr ⟨_,_,rfl,rfl,.pure pul⟩,.inr ⟨_,_,rfl,rfl,.of (by rfl) (.pure pul)⟩,.inr ⟨_,_,rfl,rfl,.pure pul⟩,.inr ⟨_,_,rfl,rfl,.of (by rw [iterD,stepD_eq]) (.pure pul)⟩,trivial⟩
end Go.Abs.D2
-- C5C
namespace Go.Abs.D2
open Go Go.Eng Go.Abs Go.Proofs
theorem split_ok (m:List UInt8) (hm:m.length=32):Con Tryz.prog 133 [.ag (m.map u8)] (Ret (.ag ((digits m).map nI))):=by
 refine enter Tryz.func133 rfl Tryz.ntmps133 (by kernel_rfl) (Nat.le_of_ble_eq_true rfl) fun w0 X0 hI=>?_
 refine at_seq<|at_region ?_
 refine at_op rfl (n_boxA 1 rfl rfl rfl ?_)
 refine at_op rfl (n_alloc 2 rfl ti170 rfl rfl ?_)
 refine at_nil<|x_tn<|at_seq<|at_region<|s1 ((y_p rfl).v (v':= .i .i64 0) rfl) rfl ?_
 refine at_nil<|x_tn<|at_seq<|at_seq<|at_region<|s1 ((y_p rfl).v (v':= .i .i64 0) rfl) rfl ?_
 refine at_nil<|x_tn<|at_block ?_
 refine at_loop (ι:=Nat) (fun k=> [(1,.p 1 0),(2,.p 2 0),(3,nI (sumK m k)),(6,nI k)]) (fun k=>⟨[(1,some (m.map u8)),(2,some ((dl m k).map nI++List.replicate (19 - k) (nI 0)))]⟩) (fun k=>k≤16) (fun k=>16 - k) ?_ ?_
 ·exact at_ex (0) (Nat.zero_le _) [(1,some 1),(2,some 2)] hI rfl rfl ⟨⟨_,rfl,.p rfl⟩,⟨_,rfl,.p rfl⟩,⟨_,rfl,.of (by rw [sumK_0];rfl) (.pure pu)⟩,⟨_,rfl,.pure pu⟩,trivial⟩ ⟨.inr ⟨_,_,rfl,rfl,.pure pul⟩,.inr ⟨_,_,rfl,rfl,.of (by rw [dl_0];rfl) (.pure pul)⟩,trivial⟩
 rintro k hk
 have hsk:=sumK_le m k
 have hdk:=dgt_lt m k
 refine at_seq<|at_region<|s1 (y_p rfl) rfl ?_
 refine at_nil<|x_tn<|at_seq ?_
 refine at_cond rfl (fun hc7=>?_) (fun hc7=>?_)
 ·have h7 : k < 16 := by have := of_decide_eq_true hc7; omega
  refine at_skip<|x_tn<|at_seq<|at_block<|at_seq<|at_region<|s1 (y_p rfl) rfl<|s1 (y_p rfl) rfl ?_
  refine at_nil<|x_tn<|at_seq<|at_region<|s1 (y_p rfl) rfl<|s1 (y_p rfl) rfl<|s1 (quoN k 4 rfl rfl rfl rfl (by decide) (by omega)) rfl<|s1 (y_ixa (k / 4) Tryz.underlying23 ti5 rfl rfl rfl (by omega) rfl) rfl<|s1 (y_load ti5 rfl rfl (getO (k / 4) (by omega))) rfl<|s1 (y_p rfl) rfl<|s1 (remN k 4 rfl rfl rfl rfl (by decide)) rfl<|s1 (mulN 2 (k % 4) rfl rfl rfl rfl (by omega)) rfl<|s1 (subN 6 (2*(k % 4)) rfl rfl rfl rfl (by omega) (by omega)) rfl<|s1 (shrB _ (6 - 2*(k % 4)) rfl rfl rfl (by omega)) rfl ?_
  refine s1 (y_conv Tryz.underlying5 Tryz.underlying3 rfl) rfl<|s1 ((y_bits rfl rfl (.inl rfl)).v (dgt_and m k)) rfl<|s1 (y_ixa k Tryz.underlying170 ti3 rfl rfl rfl (by omega) rfl) rfl ?_
  refine at_op rfl (n_store1 ti3 rfl rfl rfl rfl (by simp;omega) (set_dl m k h7) ?_)
  refine at_nil<|x_tn<|at_region<|s1 (y_p rfl) rfl<|s1 (y_p rfl) rfl<|s1 (y_ixa k Tryz.underlying170 ti3 rfl rfl rfl (by omega) rfl) rfl<|s1 (y_load ti3 rfl rfl (get_dl m k rfl)) rfl<|s1 (subN 3 (dgt m k) rfl rfl rfl rfl (by omega) (by omega)) rfl<|s1 (addN (sumK m k) (3 - dgt m k) rfl rfl rfl rfl (by omega)) rfl<|s1 (y_p rfl) rfl ?_
  refine at_nil<|x_bn<|x_tn<|at_region<|s1 (addN _ 1 rfl rfl rfl rfl (by omega)) rfl<|s1 (y_p rfl) rfl ?_
  refine at_nil ?_
  exact at_end (k+1) (by omega) (by omega) [(1,some 1),(2,some 2)] hI rfl rfl ⟨⟨_,rfl,.p rfl⟩,⟨_,rfl,.p rfl⟩,⟨_,rfl,.of (by rw [sumK_succ]) (.pure pu)⟩,⟨_,rfl,.pure pu⟩,trivial⟩ ⟨.inr ⟨_,_,rfl,rfl,.pure pul⟩,.inr ⟨_,_,rfl,rfl,.pure pul⟩,trivial⟩
 ·have h7 : k = 16 := by have := of_decide_eq_false hc7; omega
  subst h7
  refine at_exit<|x_te<|x_te<|x_be<|x_tn<|at_seq<|at_seq<|at_region<|s1 ((y_p rfl).v (v':= .i .i64 18) rfl) rfl ?_
  refine at_nil<|x_tn<|at_block ?_
  refine at_loop (ι:=Nat) (fun j=> [(1,.p 1 0),(2,.p 2 0),(3,nI (sumK m 16 / 4 ^ j)),(5,nI (18 - j))]) (fun j=>⟨[(1,some (m.map u8)),(2,some (tailC m j))]⟩) (fun j=>j≤3) (fun j=>3 - j) ?_ ?_
  ·exact at_ex (0) (Nat.zero_le _) [(1,some 1),(2,some 2)] hI rfl rfl ⟨⟨_,rfl,.p rfl⟩,⟨_,rfl,.p rfl⟩,⟨_,rfl,.of (by simp) (.pure pu)⟩,⟨_,rfl,.pure pu⟩,trivial⟩ ⟨.inr ⟨_,_,rfl,rfl,.pure pul⟩,.inr ⟨_,_,rfl,rfl,.of (tail_0 m) (.pure pul)⟩,trivial⟩
  rintro j hj
  have hs16:=sumK_le m 16
  have hsj:sumK m 16 / 4 ^ j≤48:=Nat.le_trans (Nat.div_le_self _ _) (by omega)
  refine at_seq<|at_seq<|at_region<|s1 (y_p rfl) rfl<|s1 (y_p rfl) rfl ?_
  refine at_nil<|x_tn ?_
  refine at_cond rfl (fun hc30=>?_) (fun hc30=>?_)
  ·have h30 : j < 3 := by have := of_decide_eq_true hc30; omega
   refine at_skip<|x_tn<|at_seq<|at_block<|at_seq<|at_region<|s1 (y_p rfl) rfl<|s1 (y_p rfl) rfl<|s1 (remN (sumK m 16 / 4 ^ j) 4 rfl rfl rfl rfl (by decide)) rfl<|s1 (y_ixa (18 - j) Tryz.underlying170 ti3 rfl rfl rfl (by omega) rfl) rfl ?_
   refine at_op rfl (n_store1 ti3 rfl rfl rfl rfl (by simp [len_tl4];omega) rfl ?_)
   refine at_nil<|x_tn<|at_region<|s1 (y_p rfl) rfl<|s1 (quoN (sumK m 16 / 4 ^ j) 4 rfl rfl rfl rfl (by decide) (by omega)) rfl<|s1 (y_p rfl) rfl ?_
   refine at_nil<|x_bn<|x_tn<|at_region<|s1 (y_p rfl) rfl<|s1 (subN (18 - j) 1 rfl rfl rfl rfl (by omega) (by omega)) rfl<|s1 (y_p rfl) rfl ?_
   refine at_nil ?_
   exact at_end (j+1) (by omega) (by omega) [(1,some 1),(2,some 2)] hI rfl rfl ⟨⟨_,rfl,.p rfl⟩,⟨_,rfl,.p rfl⟩,⟨_,rfl,.of (by rw [Nat.div_div_eq_div_mul, ←Nat.pow_succ]) (.pure pu)⟩,⟨_,rfl,.of (congrArg nI (by omega)) (.pure pu)⟩,trivial⟩ ⟨.inr ⟨_,_,rfl,rfl,.pure pul⟩,.inr ⟨_,_,rfl,rfl,.of (set_tl m j h30) (.pure pul)⟩,trivial⟩
  ·have h30 : j = 3 := by have := of_decide_eq_false hc30; omega
   subst h30
   refine at_sayO 2 rfl (tail_3 m) ?_
   refine at_exit<|x_te<|x_te<|x_be<|x_tn<|at_seq<|at_region<|s1 (y_loadA0 ti170 rfl rfl (by first|rfl|omega|(simp<;>omega)|(simp [*]<;>omega))) rfl ?_
   refine at_op rfl (n_storeA ti170 rfl rfl rfl (by first|rfl|omega|(simp<;>omega)|(simp [*]<;>omega)) (by first|rfl|omega|(simp<;>omega)|(simp [*]<;>omega)) ?_)
   refine at_nil<|x_tn<|at_ret ?_
   refine at_result (rs:= [.cell 2 170]) rfl (r_cellA ti170 rfl rfl (List.take_of_length_le (by simp)) (by simp) r_nil) rfl
theorem clone_ok (l:List Nat) (h0:0<l.length) (hl:l.length≤1000):Con Tryz.prog 134 [.fz l.length (l.map nI)] (RetO 1 l.length (l.map nI)):=by
 refine enter Tryz.func134 rfl Tryz.ntmps134 (by kernel_rfl) (Nat.le_of_ble_eq_true rfl) fun w0 X0 hI=>?_
 refine at_seq<|at_region<|s1 (y_p rfl) rfl ?_
 refine at_nil<|x_tn<|at_seq<|at_seq<|at_region<|s1 (y_p rfl) rfl<|s1 ((y_fznil Tryz.underlying30 rfl rfl h0).v (v':= .b false) (rfl)) rfl ?_
 refine at_nil<|x_tn ?_
 refine at_else rfl ?_
 refine at_skip<|x_tn<|at_seq<|at_region ?_
 refine at_op rfl (n_bs1 5 rfl Tryz.underlying30 ti3 rfl rfl rfl rfl rfl ?_)
 refine s1 (y_p rfl) rfl ?_
 refine at_op rfl (n_app 7 rfl Tryz.underlying30 ti3 rfl (.sl rfl (by first|rfl|omega|(simp<;>omega)|(simp [*]<;>omega))) rfl rfl (by simp) (by first|omega|(simp only [maxLen];omega)|(simp [maxLen];done)|(simp [maxLen];omega)|(simp [maxLen, *];omega)) (by first|omega|(simp only [maxLen];omega)|(simp [maxLen];done)|(simp [maxLen];omega)|(simp [maxLen, *];omega)) rfl rfl rfl ?_)
 refine s1 (y_p rfl) rfl ?_
 refine at_nil<|x_tn<|at_ret ?_
 refine at_result (rs:= [.tmp 2]) rfl (r_tmp rfl r_nil) ⟨7,by simp [retA],by rfl⟩
theorem digits_ok (m:List UInt8) (hm:m.length=32):Con Tryz.prog 85 [.ag (m.map u8)] (Ret (.fz 19 ((digits m).map nI))):=by
 refine enter Tryz.func85 rfl Tryz.ntmps85 (by kernel_rfl) (Nat.le_of_ble_eq_true rfl) fun w0 X0 hI=>?_
 refine at_seq<|at_region ?_
 refine at_op rfl (n_boxA 1 rfl rfl rfl ?_)
 refine s1 (y_p rfl) rfl ?_
 refine at_nil<|x_tn<|at_seq<|at_region<|s1 (y_loadA0 ti23 rfl rfl (by first|rfl|omega|(simp<;>omega)|(simp [*]<;>omega))) rfl ?_
 refine at_op rfl (n_call false rfl (.cons (.pure pu) (.nil)) (split_ok m hm) pu (.inl rfl) rfl ?_)
 refine at_op rfl (n_alloc 3 rfl ti170 rfl rfl ?_)
 refine at_op rfl (n_storeA ti170 rfl rfl rfl (by first|rfl|omega|(simp<;>omega)|(simp [*]<;>omega)) (by first|rfl|omega|(simp<;>omega)|(simp [*]<;>omega)) ?_)
 refine at_nil<|x_tn<|at_seq<|at_region<|s1 (y_cuta0 Tryz.underlying170 ti3 rfl rfl (by first|rfl|omega|(simp<;>omega)|(simp [*]<;>omega)) (by simp [maxLen])) rfl ?_
 refine at_op rfl (n_callO 7 rfl true rfl (.cons (.sl rfl rfl (by first|rfl|omega|(simp<;>omega)|(simp [*]<;>omega)) (view_eq (by first|rfl|omega|(simp<;>omega)|(simp [*]<;>omega)) (by first|rfl|(simp;done)|(simp [*];done))) (VwL.pure pul) pul) (.nil)) (by simpa using clone_ok (digits m) (by simp) (by simp)) pul (.inr ful) rfl ?_)
 refine s1 (y_p rfl) rfl ?_
 refine at_nil<|x_tn<|at_ret ?_
 refine at_frz 2 rfl rfl pul (view_eq (by simp) rfl) ?_
 refine at_result (rs:= [.tmp 2]) rfl (r_tmp rfl r_nil) rfl
theorem join_ok (parts:List (List UInt8)) (hk:parts.length≤1048576) (ht:parts.flatten.length≤140737488300000):Con Tryz.prog 184 [.fz parts.length (parts.map slA)] (RetO 1 parts.flatten.length (parts.flatten.map u8)):=by
 refine enter Tryz.func184 rfl Tryz.ntmps184 (by kernel_rfl) (Nat.le_of_ble_eq_true rfl) fun w0 X0 hI=>?_
 refine at_seq<|at_region<|s1 (y_p rfl) rfl ?_
 refine at_nil<|x_tn<|at_seq<|at_seq<|at_region<|s1 (y_p rfl) rfl<|s1 (y_len Tryz.underlying182 rfl rfl rfl) rfl<|s1 ((y_p rfl).v (v':= .i .i64 0) rfl) rfl ?_
 refine at_nil<|x_tn<|at_block ?_
 refine at_loop (ι:=Nat) (fun i=> [(2,.sl 2 1 0 (parts.take i).flatten.length),(5,.fz parts.length (parts.map slA)),(6,nI parts.length),(7,nI i)]) (fun i=>⟨[(2,some ((parts.take i).flatten.map u8))]⟩) (fun i=>i≤parts.length) (fun i=>parts.length - i) ?_ ?_
 ·exact at_ex (0) (Nat.zero_le _) [(2,none)] hI rfl rfl ⟨⟨_,rfl,.nl rfl⟩,⟨_,rfl,.pure pu⟩,⟨_,rfl,.pure pu⟩,⟨_,rfl,.pure pu⟩,trivial⟩ ⟨.inl ⟨rfl,rfl⟩,trivial⟩
 rintro i hi
 refine at_seq<|at_region<|s1 (y_p rfl) rfl ?_
 refine at_nil<|x_tn<|at_seq ?_
 refine at_cond rfl (fun hc8=>?_) (fun hc8=>?_)
 ·have hi2 : i < parts.length := by have := of_decide_eq_true hc8; omega
  obtain⟨p,hp⟩:∃p,parts[i]? =some p:=⟨_,List.getElem?_eq_getElem hi2⟩
  have hpl:=len_next hp
  refine at_skip<|x_tn<|at_seq<|at_block<|at_seq<|at_region<|s1 (y_ixf i Tryz.underlying182 ti68 rfl rfl rfl (by omega) rfl) rfl<|s1 (y_load ti68 rfl rfl (getP hp)) rfl<|s1 (y_p rfl) rfl ?_
  refine at_nil<|x_tn<|at_region<|s1 (y_p rfl) rfl<|s1 (y_p rfl) rfl ?_
  refine at_op rfl (n_app 13 rfl Tryz.underlying68 ti5 rfl (.sl rfl (by rw [List.length_map,Nat.mul_one])) rfl rfl (by simp) (by simp only [maxLen];omega) (by omega) rfl rfl rfl ?_)
  refine s1 (y_p rfl) rfl ?_
  refine at_nil<|x_bn<|x_tn<|at_region<|s1 (addN _ 1 rfl rfl rfl rfl (by omega)) rfl<|s1 (y_p rfl) rfl ?_
  refine at_nil ?_
  exact at_end (i+1) (by omega) (by omega) [(2,some 13)] hI rfl rfl ⟨⟨_,rfl,.sl rfl (by first|rfl|omega|(simp<;>omega)|(simp [*]<;>omega))⟩,⟨_,rfl,.pure pu⟩,⟨_,rfl,.pure pu⟩,⟨_,rfl,.pure pu⟩,trivial⟩ ⟨.inr ⟨_,_,rfl,rfl,.of (by rw [←List.map_append,take_next hp]) (.pure pul)⟩,trivial⟩
 ·have hi2 : i = parts.length := by have := of_decide_eq_false hc8; omega
  subst hi2
  refine at_exit<|x_te<|x_te<|x_be<|x_tn<|at_seq<|at_region<|s1 (y_p rfl) rfl<|s1 (y_p rfl) rfl ?_
  refine at_nil<|x_tn<|at_ret ?_
  refine at_result (rs:= [.tmp 2]) rfl (r_tmp rfl r_nil) ⟨2,?_,?_⟩
  ·rw [List.take_length];rfl
  ·rw [List.take_length];rfl
theorem tag_first (x:List UInt8) (i:Nat) (hx:x.length=32):Con Tryz.prog 50 [.s [99,104,97,105,110],.fz 33 (x.map u8++ [u8 (UInt8.ofNat i)])] (Ret (.ag ((firstD x i).map u8))):=by
  rw [firstD_eq];simpa [hx]using tagged_ok [99,104,97,105,110] (x++ [UInt8.ofNat i]) (by simp [hx]) (by simp)
theorem begin_ok (x:List UInt8) (i:Nat) (hx:x.length=32):Con Tryz.prog 137 [.ag (x.map u8),nI i] (Ret (.ag ((firstD x i).map u8))):=by
 refine enter Tryz.func137 rfl Tryz.ntmps137 (by kernel_rfl) (Nat.le_of_ble_eq_true rfl) fun w0 X0 hI=>?_
 refine at_seq<|at_region ?_
 refine at_op rfl (n_boxA 2 rfl rfl rfl ?_)
 refine at_op rfl (n_alloc 4 rfl ti23 rfl rfl ?_)
 refine at_nil<|x_tn<|at_seq<|at_region<|s1 (y_cuta0 Tryz.underlying23 ti5 rfl rfl (by first|rfl|omega|(simp<;>omega)|(simp [*]<;>omega)) (by simp [maxLen])) rfl<|s1 (y_p rfl) rfl<|s1 (ofN_u8 i Tryz.underlying3 Tryz.underlying5 rfl rfl) rfl ?_
 refine at_op rfl (n_bs1 8 rfl Tryz.underlying68 ti5 rfl rfl rfl rfl rfl ?_)
 refine at_op rfl (n_bs1 9 rfl Tryz.underlying182 ti68 rfl rfl rfl rfl rfl ?_)
 refine at_op rfl (n_callO 10 rfl true rfl (.cons (.sl rfl rfl rfl rfl (.cons (.sl rfl rfl (by first|rfl|omega|(simp<;>omega)|(simp [*]<;>omega)) (view_eq (by simp [hx]) rfl) (VwL.pure pul) pul) (.cons (.sl rfl rfl rfl (view_eq rfl rfl) (VwL.pure pul) pul) .nil)) pul) .nil) (by simpa [slA,hx]using join_ok [x, [UInt8.ofNat i]] (by simp) (by simp [hx])) pul (.inr ful) rfl ?_)
 refine at_op rfl (n_call true rfl (.cons (.pure pu) (.cons (.sl rfl rfl (by first|rfl|omega|(simp<;>omega)|(simp [*]<;>omega)) (view_eq (by first|rfl|omega|(simp<;>omega)|(simp [*]<;>omega)) (by first|rfl|(simp;done)|(simp [*];done))) (VwL.pure pul) pul) (.nil))) (tag_first x i hx) pu (.inr fu) rfl ?_)
 refine at_op rfl (n_storeA ti23 rfl rfl rfl (by first|rfl|omega|(simp<;>omega)|(simp [*]<;>omega)) (by first|rfl|omega|(simp<;>omega)|(simp [*]<;>omega)) ?_)
 refine at_nil<|x_tn<|at_ret ?_
 refine at_result (rs:= [.cell 4 23]) rfl (r_cellA ti23 rfl rfl (List.take_of_length_le (by simp)) (by simp) r_nil) rfl
end Go.Abs.D2
-- C5D
namespace Go.Abs.D2
open Go Go.Eng Go.Abs Go.Proofs
theorem tag_key (L:List (List UInt8)) (hD:D32 L) (hl:L.length=19):Con Tryz.prog 50 [.s [112,117,98,108,105,99],.fz L.flatten.length (L.flatten.map u8)] (Ret (.ag ((keyD L).map u8))):=by
  rw [keyD_eq];exact tagged_ok [112,117,98,108,105,99] L.flatten (by rw [hD.len,hl];omega) (by simp)
theorem join_key (L:List (List UInt8)) (hD:D32 L) (hl:L.length=19):Con Tryz.prog 184 [.fz 19 (L.map slA)] (RetO 1 L.flatten.length (L.flatten.map u8)):=by
  have:=join_ok L (by omega) (by rw [hD.len,hl];omega)
  rwa [hl]at this
theorem publicOf_ok (L:List (List UInt8)) (hD:D32 L) (hl:L.length=19):Con Tryz.prog 180 [.ag (L.flatten.map u8)] (Ret (.ag ((keyD L).map u8))):=by
 refine enter Tryz.func180 rfl Tryz.ntmps180 (by kernel_rfl) (Nat.le_of_ble_eq_true rfl) fun w0 X0 hI=>?_
 refine at_seq<|at_region ?_
 refine at_op rfl (n_boxA 1 rfl rfl rfl ?_)
 refine at_op rfl (n_alloc 2 rfl ti23 rfl rfl ?_)
 refine at_nil<|x_tn<|at_seq<|at_region ?_
 refine at_op rfl (n_make 5 rfl 19 19 Tryz.underlying182 ti68 rfl rfl rfl rfl rfl (by first|omega|(simp only [maxLen];omega)|(simp [maxLen];done)|(simp [maxLen];omega)|(simp [maxLen, *];omega)) (by first|omega|(simp only [maxLen];omega)|(simp [maxLen];done)|(simp [maxLen];omega)|(simp [maxLen, *];omega)) (by first|omega|(simp only [maxLen];omega)|(simp [maxLen];done)|(simp [maxLen];omega)|(simp [maxLen, *];omega)) rfl ?_)
 refine s1 (y_p rfl) rfl ?_
 refine at_nil<|x_tn<|at_seq<|at_seq ?_
 have hfl:(L.flatten.map u8).length=608:=by rw [List.length_map,hD.len,hl]
 refine at_region<|s1 ((y_p rfl).v (v':= .i .i64 0) rfl) rfl ?_
 refine at_nil<|x_tn<|at_block ?_
 refine at_loop (ι:=Nat) (fun i=> [(1,.p 1 0),(2,.p 2 0),(3,.sl 5 1 0 19),(6,nI i)]) (fun i=>⟨[(1,some (L.flatten.map u8)),(2,some (List.replicate 32 (u8 0))),(5,some (slotsC i))]⟩) (fun i=>i≤19) (fun i=>19 - i) ?_ ?_
 ·exact at_ex (0) (Nat.zero_le _) [(1,some 1),(2,some 2),(5,some 5)] hI rfl rfl ⟨⟨_,rfl,.p rfl⟩,⟨_,rfl,.p rfl⟩,⟨_,rfl,.sl rfl (by first|rfl|omega|(simp<;>omega)|(simp [*]<;>omega))⟩,⟨_,rfl,.pure pu⟩,trivial⟩ ⟨.inr ⟨_,_,rfl,rfl,.pure pul⟩,.inr ⟨_,_,rfl,rfl,.pure pul⟩,.inr ⟨_,_,rfl,rfl,.of (by rfl) (.pure (by simp [slotsC];exact pul))⟩,trivial⟩
 rintro i hi
 refine at_seq<|at_region<|s1 (y_p rfl) rfl ?_
 refine at_nil<|x_tn<|at_seq ?_
 refine at_cond rfl (fun hc7=>?_) (fun hc7=>?_)
 ·have h7 : i < 19 := by have := of_decide_eq_true hc7; omega
  refine at_skip<|x_tn<|at_seq<|at_block<|at_seq<|at_region<|s1 (y_p rfl) rfl<|s1 (y_p rfl) rfl ?_
  refine at_nil<|x_tn<|at_region<|s1 (y_p rfl) rfl<|s1 (y_p rfl) rfl<|s1 (y_p rfl) rfl<|s1 (y_ixa i Tryz.underlying203 ti23 rfl rfl rfl (by omega) rfl) rfl<|s1 (y_cuta 32 Tryz.underlying23 ti5 rfl rfl (by omega) (by simp [maxLen]) bn bn (by omega) (by omega) rfl rfl) rfl<|s1 (y_ixs i Tryz.underlying182 ti68 rfl rfl rfl rfl (by omega) rfl) rfl ?_
  refine at_op rfl (n_store1 ti68 rfl rfl rfl rfl (by simp;omega) rfl ?_)
  refine at_nil<|x_bn<|x_tn<|at_region<|s1 (addN _ 1 rfl rfl rfl rfl (by omega)) rfl<|s1 (y_p rfl) rfl ?_
  refine at_nil ?_
  exact at_end (i+1) (by omega) (by omega) [(1,some 1),(2,some 2),(5,some 5)] hI rfl rfl ⟨⟨_,rfl,.p rfl⟩,⟨_,rfl,.p rfl⟩,⟨_,rfl,.sl rfl (by first|rfl|omega|(simp<;>omega)|(simp [*]<;>omega))⟩,⟨_,rfl,.pure pu⟩,trivial⟩ ⟨.inr ⟨_,_,rfl,rfl,.pure pul⟩,.inr ⟨_,_,rfl,rfl,.pure pul⟩,.inr ⟨_,_,rfl,rfl,.of (set_slots i h7) (ren_slots rfl _)⟩,trivial⟩
 ·have h7 : i = 19 := by have := of_decide_eq_false hc7; omega
  subst h7
  refine at_exit<|x_te<|x_te<|x_be<|x_tn<|at_seq<|at_region<|s1 (y_p rfl) rfl ?_
  refine at_op rfl (n_callO 17 rfl true rfl (.cons (.sl rfl rfl rfl (view_all (by simp)) (vw_slots hD hl rfl) pul) .nil) (join_key L hD hl) pul (.inr ful) rfl ?_)
  refine at_op rfl (n_call true rfl (.cons (.pure pu) (.cons (.sl rfl rfl rfl (view_eq (by rw [List.length_map,Nat.mul_one]) rfl) (VwL.pure pul) pul) .nil)) (tag_key L hD hl) pu (.inr fu) rfl ?_)
  refine at_op rfl (n_storeA ti23 rfl rfl rfl (by first|rfl|omega|(simp<;>omega)|(simp [*]<;>omega)) (by first|rfl|omega|(simp<;>omega)|(simp [*]<;>omega)) ?_)
  refine at_nil<|x_tn<|at_ret ?_
  refine at_result (rs:= [.cell 2 23]) rfl (r_cellA ti23 rfl rfl (List.take_of_length_le (by simp)) (by simp) r_nil) rfl
theorem public_ok (x:List UInt8) (hx:x.length=32):Con Tryz.prog 145 [.ag (x.map u8)] (Ret (.ag ((pubD x).map u8))):=by
 refine enter Tryz.func145 rfl Tryz.ntmps145 (by kernel_rfl) (Nat.le_of_ble_eq_true rfl) fun w0 X0 hI=>?_
 refine at_seq<|at_region ?_
 refine at_op rfl (n_boxA 1 rfl rfl rfl ?_)
 refine at_op rfl (n_alloc 2 rfl ti23 rfl rfl ?_)
 refine at_nil<|x_tn<|at_seq<|at_region ?_
 refine at_op rfl (n_alloc 3 rfl ti203 (by kernel_rfl) rfl ?_)
 refine at_nil<|x_tn<|at_seq<|at_seq<|at_region<|s1 ((y_p rfl).v (v':= .i .i64 0) rfl) rfl ?_
 refine at_nil<|x_tn<|at_block ?_
 refine at_loop (ι:=Nat) (fun i=> [(1,.p 1 0),(2,.p 2 0),(3,.p 3 0),(5,nI i)]) (fun i=>⟨[(1,some (x.map u8)),(2,some (List.replicate 32 (u8 0))),(3,some (arrC 19 (pubL x i)))]⟩) (fun i=>i≤19) (fun i=>19 - i) ?_ ?_
 ·exact at_ex (0) (Nat.zero_le _) [(1,some 1),(2,some 2),(3,some 3)] hI rfl rfl ⟨⟨_,rfl,.p rfl⟩,⟨_,rfl,.p rfl⟩,⟨_,rfl,.p rfl⟩,⟨_,rfl,.pure pu⟩,trivial⟩ ⟨.inr ⟨_,_,rfl,rfl,.pure pul⟩,.inr ⟨_,_,rfl,rfl,.pure pul⟩,.inr ⟨_,_,rfl,rfl,.of (by rw [pubL_0,List.map_replicate];exact arr_0 19) (.pure pul)⟩,trivial⟩
 rintro i hi
 have hDi:=D32_pubL x i
 refine at_seq<|at_region<|s1 (y_p rfl) rfl ?_
 refine at_nil<|x_tn<|at_seq ?_
 refine at_cond rfl (fun hc6=>?_) (fun hc6=>?_)
 ·have h6 : i < 19 := by have := of_decide_eq_true hc6; omega
  refine at_skip<|x_tn<|at_seq<|at_block<|at_seq<|at_region<|s1 (y_p rfl) rfl<|s1 (y_p rfl) rfl ?_
  refine at_nil<|x_tn<|at_region<|s1 (y_p rfl) rfl<|s1 (y_loadA0 ti23 rfl rfl (by first|rfl|omega|(simp<;>omega)|(simp [*]<;>omega))) rfl<|s1 (y_p rfl) rfl ?_
  refine at_op rfl (n_call false rfl (.cons (.pure pu) (.cons (.pure pu) (.nil))) (begin_ok x i hx) pu (.inl rfl) rfl ?_)
  refine at_op rfl (n_call false rfl (.cons (.pure pu) (.cons (.pure pu) (.nil))) (after_ok (firstD x i) 3 (by simp) (by omega)) pu (.inl rfl) rfl ?_)
  refine s1 (y_ixa i Tryz.underlying203 ti23 rfl rfl rfl (by omega) rfl) rfl ?_
  refine at_op rfl (n_store ti23 rfl rfl rfl rfl rfl (len_it (by simp)) (by rw [len_arr hDi (by rw [len_pubL];omega)];omega) (put_arr hDi (by rw [len_pubL];omega) (by rw [len_pubL])) ?_)
  refine at_nil<|x_bn<|x_tn<|at_region<|s1 (addN _ 1 rfl rfl rfl rfl (by omega)) rfl<|s1 (y_p rfl) rfl ?_
  refine at_nil ?_
  exact at_end (i+1) (by omega) (by omega) [(1,some 1),(2,some 2),(3,some 3)] hI rfl rfl ⟨⟨_,rfl,.p rfl⟩,⟨_,rfl,.p rfl⟩,⟨_,rfl,.p rfl⟩,⟨_,rfl,.pure pu⟩,trivial⟩ ⟨.inr ⟨_,_,rfl,rfl,.pure pul⟩,.inr ⟨_,_,rfl,rfl,.pure pul⟩,.inr ⟨_,_,rfl,rfl,.of (by rw [pubL_succ]) (.pure pul)⟩,trivial⟩
 ·have h6 : i = 19 := by have := of_decide_eq_false hc6; omega
  subst h6
  refine at_sayO 3 rfl (arr_full (len_pubL x 19)) ?_
  refine at_exit<|x_te<|x_te<|x_be<|x_tn<|at_seq<|at_region<|s1 (y_loadA0 ti203 rfl rfl (by rw [List.length_map,(D32_pubL x 19).len,len_pubL])) rfl ?_
  refine at_op rfl (n_call false rfl (.cons (.pure pu) (.nil)) (publicOf_ok (pubL x 19) (D32_pubL x 19) (len_pubL x 19)) pu (.inl rfl) rfl ?_)
  refine at_op rfl (n_storeA ti23 rfl rfl rfl (by first|rfl|omega|(simp<;>omega)|(simp [*]<;>omega)) (by first|rfl|omega|(simp<;>omega)|(simp [*]<;>omega)) ?_)
  refine at_nil<|x_tn<|at_ret ?_
  refine at_result (rs:= [.cell 2 23]) rfl (r_cellA ti23 rfl rfl (List.take_of_length_le (by simp)) (by simp) r_nil) rfl
theorem sign_ok (x m:List UInt8) (hx:x.length=32) (hm:m.length=32):Con Tryz.prog 88 [.ag (x.map u8),.ag (m.map u8)] (Ret (dgs (signD x m))):=by
 refine enter Tryz.func88 rfl Tryz.ntmps88 (by kernel_rfl) (Nat.le_of_ble_eq_true rfl) fun w0 X0 hI=>?_
 refine at_seq<|at_region ?_
 refine at_op rfl (n_boxA 2 rfl rfl rfl ?_)
 refine at_op rfl (n_boxA 3 rfl rfl rfl ?_)
 refine s1 (y_p rfl) rfl ?_
 refine at_nil<|x_tn<|at_seq<|at_seq<|at_region<|s1 (y_loadA0 ti23 rfl rfl (by first|rfl|omega|(simp<;>omega)|(simp [*]<;>omega))) rfl ?_
 refine at_op rfl (n_call false rfl (.cons (.pure pu) (.nil)) (split_ok m hm) pu (.inl rfl) rfl ?_)
 refine s1 ((y_p rfl).v (v':= .i .i64 0) rfl) rfl ?_
 refine at_nil<|x_tn<|at_block ?_
 refine at_loop (ι:=Nat) (fun i=> [(2,.p 2 0),(4,.sl 4 32 0 i),(8,.ag ((digits m).map nI)),(9,nI i)]) (fun i=>⟨[(2,some (x.map u8)),(4,some ((signL x m i).flatten.map u8))]⟩) (fun i=>i≤19) (fun i=>19 - i) ?_ ?_
 ·exact at_ex (0) (Nat.zero_le _) [(2,some 2),(4,none)] hI rfl rfl ⟨⟨_,rfl,.p rfl⟩,⟨_,rfl,.nl rfl⟩,⟨_,rfl,.pure pu⟩,⟨_,rfl,.pure pu⟩,trivial⟩ ⟨.inr ⟨_,_,rfl,rfl,.pure pul⟩,.inl ⟨rfl,rfl⟩,trivial⟩
 rintro i hi
 have hDi:=D32_signL x m i
 have hdi:=dg_lt m i
 refine at_seq<|at_region<|s1 (y_p rfl) rfl ?_
 refine at_nil<|x_tn<|at_seq ?_
 refine at_cond rfl (fun hc10=>?_) (fun hc10=>?_)
 ·have h10 : i < 19 := by have := of_decide_eq_true hc10; omega
  refine at_skip<|x_tn<|at_seq<|at_block<|at_seq<|at_region<|s1 (y_p rfl) rfl<|s1 (y_ixv i Tryz.underlying170 ti3 rfl rfl rfl h10 (get_dig m i h10)) rfl<|s1 (y_p rfl) rfl<|s1 (y_p rfl) rfl ?_
  refine at_nil<|x_tn<|at_region<|s1 (y_p rfl) rfl<|s1 (y_loadA0 ti23 rfl rfl (by first|rfl|omega|(simp<;>omega)|(simp [*]<;>omega))) rfl<|s1 (y_p rfl) rfl ?_
  refine at_op rfl (n_call false rfl (.cons (.pure pu) (.cons (.pure pu) (.nil))) (begin_ok x i hx) pu (.inl rfl) rfl ?_)
  refine s1 (y_p rfl) rfl ?_
  refine at_op rfl (n_call false rfl (.cons (.pure pu) (.cons (.pure pu) (.nil))) (after_ok (firstD x i) (dg m i) (by simp) (by omega)) pu (.inl rfl) rfl ?_)
  refine at_op rfl (n_bs 19 rfl Tryz.underlying41 ti23 rfl rfl rfl (by simp [cellsA,len_iterD]) (List.append_nil ((iterD (dg m i) (firstD x i)).map u8)) rfl rfl rfl ?_)
  refine at_op rfl (n_app 20 rfl Tryz.underlying41 ti23 rfl (.sl rfl (by rw [List.length_map,hDi.len,len_signL])) rfl (SM_full rfl (by rw [List.length_map,len_iterD (by simp)])) (by simp [len_iterD]) (by simp only [maxLen];omega) (by omega) rfl rfl rfl ?_)
  refine s1 (y_p rfl) rfl ?_
  refine at_nil<|x_bn<|x_tn<|at_region<|s1 (addN _ 1 rfl rfl rfl rfl (by omega)) rfl<|s1 (y_p rfl) rfl ?_
  refine at_nil ?_
  exact at_end (i+1) (by omega) (by omega) [(2,some 2),(4,some 20)] hI rfl rfl ⟨⟨_,rfl,.p rfl⟩,⟨_,rfl,.sl rfl (by first|rfl|omega|(simp<;>omega)|(simp [*]<;>omega))⟩,⟨_,rfl,.pure pu⟩,⟨_,rfl,.pure pu⟩,trivial⟩ ⟨.inr ⟨_,_,rfl,rfl,.pure pul⟩,.inr ⟨_,_,rfl,rfl,.of (sign_flat x m i) (.pure pul)⟩,trivial⟩
 ·have h10 : i = 19 := by have := of_decide_eq_false hc10; omega
  subst h10
  refine at_exit<|x_te<|x_te<|x_be<|x_tn<|at_seq<|at_region<|s1 (y_p rfl) rfl<|s1 (y_p rfl) rfl ?_
  refine at_nil<|x_tn<|at_ret ?_
  refine at_frz 4 rfl rfl pul (view_eq (by rw [List.length_map,(D32_signL x m _).len,len_signL]) rfl) ?_
  refine at_result (rs:= [.tmp 4]) rfl (r_tmp rfl r_nil) ?_
  show A.fz _ _=dgs (signL x m 19)
  rw [dgs,len_signL]
theorem recover_ok (m:List UInt8) (S:List (List UInt8)) (hm:m.length=32) (hS:D32 S):Con Tryz.prog 130 [.ag (m.map u8),dgs S] (Ret (.tu [.ag ((recD m S).map u8),nI (recE S)])):=by
 refine enter Tryz.func130 rfl Tryz.ntmps130 (by kernel_rfl) (Nat.le_of_ble_eq_true rfl) fun w0 X0 hI=>?_
 refine at_seq<|at_region ?_
 refine at_op rfl (n_boxA 2 rfl rfl rfl ?_)
 refine at_op rfl (n_alloc 4 rfl ti23 rfl rfl ?_)
 refine s1 ((y_p rfl).v (v':= .i .i64 0) rfl) rfl ?_
 refine at_nil<|x_tn<|at_seq<|at_seq<|at_region<|s1 (y_p rfl) rfl<|s1 (y_len Tryz.underlying41 rfl rfl rfl) rfl<|s1 (y_p rfl) rfl ?_
 refine at_nil<|x_tn ?_
 refine at_cond rfl (fun hc11=>?_) (fun hc11=>?_)
 ·have h11 : S.length ≠ 19 := by have := bne_iff_ne.1 hc11; omega
  refine at_seq<|at_region<|s1 (y_loadA0 ti23 rfl rfl (by first|rfl|omega|(simp<;>omega)|(simp [*]<;>omega))) rfl ?_
  refine at_op rfl (n_storeA ti23 rfl rfl rfl (by first|rfl|omega|(simp<;>omega)|(simp [*]<;>omega)) (by first|rfl|omega|(simp<;>omega)|(simp [*]<;>omega)) ?_)
  refine s1 ((y_p rfl).v (v':= .i .i64 50) rfl) rfl ?_
  refine at_nil<|x_tn<|at_ret<|x_tr ?_
  refine at_result (rs:= [.cell 4 23,.tmp 5]) rfl (r_cellA ti23 rfl rfl (List.take_of_length_le (by simp)) (by simp) (r_tmp rfl r_nil)) ?_
  rw [(rec_no h11).1,(rec_no (m:=m) h11).2]
  rfl
 ·have h11 : S.length = 19 := by have := bne_eq_false_iff_eq.1 hc11; omega
  refine at_skip<|x_tn<|at_seq<|at_region ?_
  refine at_op rfl (n_alloc 6 rfl ti203 (by kernel_rfl) rfl ?_)
  refine at_nil<|x_tn<|at_seq<|at_seq<|at_region<|s1 (y_loadA0 ti23 rfl rfl (by first|rfl|omega|(simp<;>omega)|(simp [*]<;>omega))) rfl ?_
  refine at_op rfl (n_call false rfl (.cons (.pure pu) (.nil)) (split_ok m hm) pu (.inl rfl) rfl ?_)
  refine s1 ((y_p rfl).v (v':= .i .i64 0) rfl) rfl ?_
  refine at_nil<|x_tn<|at_block ?_
  refine at_loop (ι:=Nat) (fun i=> [(1,dgs S),(4,.p 4 0),(6,.p 6 0),(14,.ag ((digits m).map nI)),(15,nI i)]) (fun i=>⟨[(4,some (List.replicate 32 (u8 0))),(6,some (arrC 19 (recL m S i)))]⟩) (fun i=>i≤19) (fun i=>19 - i) ?_ ?_
  ·exact at_ex (0) (Nat.zero_le _) [(4,some 4),(6,some 6)] hI rfl rfl ⟨⟨_,rfl,.pure pu⟩,⟨_,rfl,.p rfl⟩,⟨_,rfl,.p rfl⟩,⟨_,rfl,.pure pu⟩,⟨_,rfl,.pure pu⟩,trivial⟩ ⟨.inr ⟨_,_,rfl,rfl,.pure pul⟩,.inr ⟨_,_,rfl,rfl,.of (by rw [recL_0,List.map_replicate];exact arr_0 19) (.pure pul)⟩,trivial⟩
  rintro i hi
  have hDi:=D32_recL (m:=m) hS i (by omega)
  have hdi:=dg_lt m i
  refine at_seq<|at_region<|s1 (y_p rfl) rfl ?_
  refine at_nil<|x_tn<|at_seq ?_
  refine at_cond rfl (fun hc16=>?_) (fun hc16=>?_)
  ·have h16 : i < 19 := by have := of_decide_eq_true hc16; omega
   obtain⟨q,hq⟩:∃q,S[i]? =some q:=⟨_,List.getElem?_eq_getElem (by omega)⟩
   have hq32:=hS q (List.mem_of_getElem? hq)
   have hq2:S.getD i []=q:=by simp [hq]
   refine at_skip<|x_tn<|at_seq<|at_block<|at_seq<|at_region<|s1 (y_p rfl) rfl<|s1 (y_ixv i Tryz.underlying170 ti3 rfl rfl rfl h16 (get_dig m i h16)) rfl<|s1 (y_p rfl) rfl<|s1 (y_p rfl) rfl ?_
   refine at_nil<|x_tn<|at_region<|s1 (y_p rfl) rfl<|s1 (y_p rfl) rfl<|s1 (y_p rfl) rfl<|s1 (y_ixf i Tryz.underlying41 ti23 rfl rfl rfl (by omega) rfl) rfl<|s1 (y_loadA ti23 rfl rfl (get_d5 hS hq) (by simp [hq32])) rfl<|s1 (y_p rfl) rfl<|s1 (subN 3 (dg m i) rfl rfl rfl rfl (by omega) (by omega)) rfl ?_
   refine at_op rfl (n_call false rfl (.cons (.pure pu) (.cons (.pure pu) (.nil))) (after_ok q (3 - dg m i) hq32 (by omega)) pu (.inl rfl) rfl ?_)
   refine s1 (y_ixa i Tryz.underlying203 ti23 rfl rfl rfl (by omega) rfl) rfl ?_
   refine at_op rfl (n_store ti23 rfl rfl rfl rfl rfl (len_it hq32) (by rw [len_arr hDi (by rw [len_recL];omega)];omega) (put_arr hDi (by rw [len_recL];omega) (by rw [len_recL])) ?_)
   refine at_nil<|x_bn<|x_tn<|at_region<|s1 (addN _ 1 rfl rfl rfl rfl (by omega)) rfl<|s1 (y_p rfl) rfl ?_
   refine at_nil ?_
   exact at_end (i+1) (by omega) (by omega) [(4,some 4),(6,some 6)] hI rfl rfl ⟨⟨_,rfl,.pure pu⟩,⟨_,rfl,.p rfl⟩,⟨_,rfl,.p rfl⟩,⟨_,rfl,.pure pu⟩,⟨_,rfl,.pure pu⟩,trivial⟩ ⟨.inr ⟨_,_,rfl,rfl,.pure pul⟩,.inr ⟨_,_,rfl,rfl,.of (by rw [recL_succ,hq2]) (.pure pul)⟩,trivial⟩
  ·have h16 : i = 19 := by have := of_decide_eq_false hc16; omega
   subst h16
   refine at_sayO 6 rfl (arr_full (len_recL m S 19)) ?_
   refine at_exit<|x_te<|x_te<|x_be<|x_tn<|at_seq<|at_region<|s1 (y_loadA0 ti203 rfl rfl (by rw [List.length_map,hDi.len,len_recL])) rfl ?_
   refine at_op rfl (n_call false rfl (.cons (.pure pu) (.nil)) (publicOf_ok (recL m S 19) hDi (len_recL m S 19)) pu (.inl rfl) rfl ?_)
   refine at_op rfl (n_storeA ti23 rfl rfl rfl (by first|rfl|omega|(simp<;>omega)|(simp [*]<;>omega)) (by first|rfl|omega|(simp<;>omega)|(simp [*]<;>omega)) ?_)
   refine s1 ((y_p rfl).v (v':= .i .i64 0) rfl) rfl ?_
   refine at_nil<|x_tn<|at_ret ?_
   refine at_result (rs:= [.cell 4 23,.tmp 5]) rfl (r_cellA ti23 rfl rfl (List.take_of_length_le (by simp)) (by simp) (r_tmp rfl r_nil)) ?_
   rw [(rec_yes h11).1,(rec_yes (m:=m) h11).2]
   rfl
end Go.Abs.D2
-- D2H
namespace Go.Abs.D2
open Go Go.Eng Go.Abs Go.Proofs
theorem len64_ok (X:BitVec 64):Con Tryz.prog 187 [w64 X] (Ret (.i .i64 (lenN X.toNat:Nat))):=by
 refine enter Tryz.func187 rfl Tryz.ntmps187 (by kernel_rfl) (Nat.le_of_ble_eq_true rfl) fun w0 X0 hI=>?_
 refine at_seq<|at_region<|s1 ((y_p rfl).v (v':= .i .i64 0) rfl) rfl ?_
 refine at_nil<|x_tn<|at_seq<|at_seq<|at_region<|s1 (y_p rfl) rfl<|s1 (y_p rfl) rfl ?_
 refine at_nil<|x_tn ?_
 refine at_cond rfl (fun hc4=>?_) (fun hc4=>?_)
 ·have e4 := lenN_sh X 32 (by have := of_decide_eq_true hc4; omega)
  have y4:=sh_lt X 32 32 X.isLt
  refine at_seq<|at_region<|s1 (y_p rfl) rfl<|s1 (shr64 _ 32 rfl rfl rfl (by decide)) rfl<|s1 (y_p rfl) rfl ?_
  refine at_nil<|x_tn<|at_region<|s1 ((y_p rfl).v (v':= .i .i64 32) rfl) rfl ?_
  refine at_nil<|x_tn<|at_seq<|at_seq<|at_region<|s1 (y_p rfl) rfl<|s1 (y_p rfl) rfl ?_
  refine at_nil<|x_tn ?_
  refine at_cond rfl (fun hc8=>?_) (fun hc8=>?_)
  ·have e8 := lenN_sh (X >>> 32) 16 (by have := of_decide_eq_true hc8; omega)
   have y8:=sh_lt (X>>>32) 16 16 y4
   refine at_seq<|at_region<|s1 (y_p rfl) rfl<|s1 (shr64 _ 16 rfl rfl rfl (by decide)) rfl<|s1 (y_p rfl) rfl ?_
   refine at_nil<|x_tn<|at_region<|s1 ((y_p rfl).v (v':= .i .i64 32) rfl) rfl<|s1 (addN 32 16 rfl rfl rfl rfl (by omega)) rfl<|s1 (y_p rfl) rfl ?_
   refine at_nil<|x_tn<|at_seq<|at_seq<|at_region<|s1 (y_p rfl) rfl<|s1 (y_p rfl) rfl ?_
   refine at_nil<|x_tn ?_
   refine at_cond rfl (fun hc14=>?_) (fun hc14=>?_)
   ·have e14 := lenN_sh ((X >>> 32) >>> 16) 8 (by have := of_decide_eq_true hc14; omega)
    have y14:=sh_lt ((X>>>32)>>>16) 8 8 y8
    refine at_seq<|at_region<|s1 (y_p rfl) rfl<|s1 (shr64 _ 8 rfl rfl rfl (by decide)) rfl<|s1 (y_p rfl) rfl ?_
    refine at_nil<|x_tn<|at_region<|s1 (y_p rfl) rfl<|s1 (addN _ 8 rfl rfl rfl rfl (by omega)) rfl<|s1 (y_p rfl) rfl ?_
    refine at_nil<|x_tn<|at_seq<|at_region<|s1 (y_p rfl) rfl<|s1 (y_p rfl) rfl<|s1 (to8_64 _ Tryz.underlying198 Tryz.underlying5 rfl) rfl<|s1 (y_sidT (((X>>>32)>>>16)>>>8).toNat (UInt8.ofNat (lenN (((X>>>32)>>>16)>>>8).toNat)) Tryz.underlying9 rfl (by kernel_rfl) rfl (tab_idx y14) (tab_at _ y14)) rfl<|s1 ((y_conv Tryz.underlying5 Tryz.underlying3 rfl).v (v':= .i .i64 (lenN (((X>>>32)>>>16)>>>8).toNat:Nat)) (tab_conv y14)) rfl<|s1 (addN _ _ rfl rfl rfl rfl (by have:=lenN_small y14;omega)) rfl<|s1 (y_p rfl) rfl ?_
    refine at_nil<|x_tn<|at_ret ?_
    refine at_result (rs:= [.tmp 2]) rfl (r_tmp rfl r_nil) ?_
    exact congrArg (fun k:Nat=>A.i .i64 (k:Int)) (by omega)
   ·have e14 : ((X >>> 32) >>> 16).toNat < 2 ^ 8 := by have := of_decide_eq_false hc14; omega
    have y14:=e14
    refine at_skip<|x_tn<|at_seq<|at_region<|s1 (y_p rfl) rfl<|s1 (y_p rfl) rfl<|s1 (to8_64 _ Tryz.underlying198 Tryz.underlying5 rfl) rfl<|s1 (y_sidT ((X>>>32)>>>16).toNat (UInt8.ofNat (lenN ((X>>>32)>>>16).toNat)) Tryz.underlying9 rfl (by kernel_rfl) rfl (tab_idx y14) (tab_at _ y14)) rfl<|s1 ((y_conv Tryz.underlying5 Tryz.underlying3 rfl).v (v':= .i .i64 (lenN ((X>>>32)>>>16).toNat:Nat)) (tab_conv y14)) rfl<|s1 (addN _ _ rfl rfl rfl rfl (by have:=lenN_small y14;omega)) rfl<|s1 (y_p rfl) rfl ?_
    refine at_nil<|x_tn<|at_ret ?_
    refine at_result (rs:= [.tmp 2]) rfl (r_tmp rfl r_nil) ?_
    exact congrArg (fun k:Nat=>A.i .i64 (k:Int)) (by omega)
  ·have e8 : (X >>> 32).toNat < 2 ^ 16 := by have := of_decide_eq_false hc8; omega
   have y8:=e8
   refine at_skip<|x_tn<|at_seq<|at_seq<|at_region<|s1 (y_p rfl) rfl<|s1 (y_p rfl) rfl ?_
   refine at_nil<|x_tn ?_
   refine at_cond rfl (fun hc14=>?_) (fun hc14=>?_)
   ·have e14 := lenN_sh (X >>> 32) 8 (by have := of_decide_eq_true hc14; omega)
    have y14:=sh_lt (X>>>32) 8 8 y8
    refine at_seq<|at_region<|s1 (y_p rfl) rfl<|s1 (shr64 _ 8 rfl rfl rfl (by decide)) rfl<|s1 (y_p rfl) rfl ?_
    refine at_nil<|x_tn<|at_region<|s1 ((y_p rfl).v (v':= .i .i64 32) rfl) rfl<|s1 (addN 32 8 rfl rfl rfl rfl (by omega)) rfl<|s1 (y_p rfl) rfl ?_
    refine at_nil<|x_tn<|at_seq<|at_region<|s1 (y_p rfl) rfl<|s1 (y_p rfl) rfl<|s1 (to8_64 _ Tryz.underlying198 Tryz.underlying5 rfl) rfl<|s1 (y_sidT ((X>>>32)>>>8).toNat (UInt8.ofNat (lenN ((X>>>32)>>>8).toNat)) Tryz.underlying9 rfl (by kernel_rfl) rfl (tab_idx y14) (tab_at _ y14)) rfl<|s1 ((y_conv Tryz.underlying5 Tryz.underlying3 rfl).v (v':= .i .i64 (lenN ((X>>>32)>>>8).toNat:Nat)) (tab_conv y14)) rfl<|s1 (addN _ _ rfl rfl rfl rfl (by have:=lenN_small y14;omega)) rfl<|s1 (y_p rfl) rfl ?_
    refine at_nil<|x_tn<|at_ret ?_
    refine at_result (rs:= [.tmp 2]) rfl (r_tmp rfl r_nil) ?_
    exact congrArg (fun k:Nat=>A.i .i64 (k:Int)) (by omega)
   ·have e14 : (X >>> 32).toNat < 2 ^ 8 := by have := of_decide_eq_false hc14; omega
    have y14:=e14
    refine at_skip<|x_tn<|at_seq<|at_region<|s1 ((y_p rfl).v (v':= .i .i64 32) rfl) rfl<|s1 (y_p rfl) rfl<|s1 (to8_64 _ Tryz.underlying198 Tryz.underlying5 rfl) rfl<|s1 (y_sidT (X>>>32).toNat (UInt8.ofNat (lenN (X>>>32).toNat)) Tryz.underlying9 rfl (by kernel_rfl) rfl (tab_idx y14) (tab_at _ y14)) rfl<|s1 ((y_conv Tryz.underlying5 Tryz.underlying3 rfl).v (v':= .i .i64 (lenN (X>>>32).toNat:Nat)) (tab_conv y14)) rfl<|s1 (addN 32 _ rfl rfl rfl rfl (by have:=lenN_small y14;omega)) rfl<|s1 (y_p rfl) rfl ?_
    refine at_nil<|x_tn<|at_ret ?_
    refine at_result (rs:= [.tmp 2]) rfl (r_tmp rfl r_nil) ?_
    exact congrArg (fun k:Nat=>A.i .i64 (k:Int)) (by omega)
 ·have e4 : X.toNat < 2 ^ 32 := by have := of_decide_eq_false hc4; omega
  have y4:=e4
  refine at_skip<|x_tn<|at_seq<|at_seq<|at_region<|s1 (y_p rfl) rfl<|s1 (y_p rfl) rfl ?_
  refine at_nil<|x_tn ?_
  refine at_cond rfl (fun hc8=>?_) (fun hc8=>?_)
  ·have e8 := lenN_sh X 16 (by have := of_decide_eq_true hc8; omega)
   have y8:=sh_lt X 16 16 y4
   refine at_seq<|at_region<|s1 (y_p rfl) rfl<|s1 (shr64 _ 16 rfl rfl rfl (by decide)) rfl<|s1 (y_p rfl) rfl ?_
   refine at_nil<|x_tn<|at_region<|s1 ((y_p rfl).v (v':= .i .i64 0) rfl) rfl<|s1 (addN 0 16 rfl rfl rfl rfl (by omega)) rfl<|s1 (y_p rfl) rfl ?_
   refine at_nil<|x_tn<|at_seq<|at_seq<|at_region<|s1 (y_p rfl) rfl<|s1 (y_p rfl) rfl ?_
   refine at_nil<|x_tn ?_
   refine at_cond rfl (fun hc14=>?_) (fun hc14=>?_)
   ·have e14 := lenN_sh (X >>> 16) 8 (by have := of_decide_eq_true hc14; omega)
    have y14:=sh_lt (X>>>16) 8 8 y8
    refine at_seq<|at_region<|s1 (y_p rfl) rfl<|s1 (shr64 _ 8 rfl rfl rfl (by decide)) rfl<|s1 (y_p rfl) rfl ?_
    refine at_nil<|x_tn<|at_region<|s1 (y_p rfl) rfl<|s1 (addN _ 8 rfl rfl rfl rfl (by omega)) rfl<|s1 (y_p rfl) rfl ?_
    refine at_nil<|x_tn<|at_seq<|at_region<|s1 (y_p rfl) rfl<|s1 (y_p rfl) rfl<|s1 (to8_64 _ Tryz.underlying198 Tryz.underlying5 rfl) rfl<|s1 (y_sidT ((X>>>16)>>>8).toNat (UInt8.ofNat (lenN ((X>>>16)>>>8).toNat)) Tryz.underlying9 rfl (by kernel_rfl) rfl (tab_idx y14) (tab_at _ y14)) rfl<|s1 ((y_conv Tryz.underlying5 Tryz.underlying3 rfl).v (v':= .i .i64 (lenN ((X>>>16)>>>8).toNat:Nat)) (tab_conv y14)) rfl<|s1 (addN _ _ rfl rfl rfl rfl (by have:=lenN_small y14;omega)) rfl<|s1 (y_p rfl) rfl ?_
    refine at_nil<|x_tn<|at_ret ?_
    refine at_result (rs:= [.tmp 2]) rfl (r_tmp rfl r_nil) ?_
    exact congrArg (fun k:Nat=>A.i .i64 (k:Int)) (by omega)
   ·have e14 : (X >>> 16).toNat < 2 ^ 8 := by have := of_decide_eq_false hc14; omega
    have y14:=e14
    refine at_skip<|x_tn<|at_seq<|at_region<|s1 (y_p rfl) rfl<|s1 (y_p rfl) rfl<|s1 (to8_64 _ Tryz.underlying198 Tryz.underlying5 rfl) rfl<|s1 (y_sidT (X>>>16).toNat (UInt8.ofNat (lenN (X>>>16).toNat)) Tryz.underlying9 rfl (by kernel_rfl) rfl (tab_idx y14) (tab_at _ y14)) rfl<|s1 ((y_conv Tryz.underlying5 Tryz.underlying3 rfl).v (v':= .i .i64 (lenN (X>>>16).toNat:Nat)) (tab_conv y14)) rfl<|s1 (addN _ _ rfl rfl rfl rfl (by have:=lenN_small y14;omega)) rfl<|s1 (y_p rfl) rfl ?_
    refine at_nil<|x_tn<|at_ret ?_
    refine at_result (rs:= [.tmp 2]) rfl (r_tmp rfl r_nil) ?_
    exact congrArg (fun k:Nat=>A.i .i64 (k:Int)) (by omega)
  ·have e8 : X.toNat < 2 ^ 16 := by have := of_decide_eq_false hc8; omega
   have y8:=e8
   refine at_skip<|x_tn<|at_seq<|at_seq<|at_region<|s1 (y_p rfl) rfl<|s1 (y_p rfl) rfl ?_
   refine at_nil<|x_tn ?_
   refine at_cond rfl (fun hc14=>?_) (fun hc14=>?_)
   ·have e14 := lenN_sh X 8 (by have := of_decide_eq_true hc14; omega)
    have y14:=sh_lt X 8 8 y8
    refine at_seq<|at_region<|s1 (y_p rfl) rfl<|s1 (shr64 _ 8 rfl rfl rfl (by decide)) rfl<|s1 (y_p rfl) rfl ?_
    refine at_nil<|x_tn<|at_region<|s1 ((y_p rfl).v (v':= .i .i64 0) rfl) rfl<|s1 (addN 0 8 rfl rfl rfl rfl (by omega)) rfl<|s1 (y_p rfl) rfl ?_
    refine at_nil<|x_tn<|at_seq<|at_region<|s1 (y_p rfl) rfl<|s1 (y_p rfl) rfl<|s1 (to8_64 _ Tryz.underlying198 Tryz.underlying5 rfl) rfl<|s1 (y_sidT (X>>>8).toNat (UInt8.ofNat (lenN (X>>>8).toNat)) Tryz.underlying9 rfl (by kernel_rfl) rfl (tab_idx y14) (tab_at _ y14)) rfl<|s1 ((y_conv Tryz.underlying5 Tryz.underlying3 rfl).v (v':= .i .i64 (lenN (X>>>8).toNat:Nat)) (tab_conv y14)) rfl<|s1 (addN _ _ rfl rfl rfl rfl (by have:=lenN_small y14;omega)) rfl<|s1 (y_p rfl) rfl ?_
    refine at_nil<|x_tn<|at_ret ?_
    refine at_result (rs:= [.tmp 2]) rfl (r_tmp rfl r_nil) ?_
    exact congrArg (fun k:Nat=>A.i .i64 (k:Int)) (by omega)
   ·have e14 : X.toNat < 2 ^ 8 := by have := of_decide_eq_false hc14; omega
    have y14:=e14
    refine at_skip<|x_tn<|at_seq<|at_region<|s1 ((y_p rfl).v (v':= .i .i64 0) rfl) rfl<|s1 (y_p rfl) rfl<|s1 (to8_64 _ Tryz.underlying198 Tryz.underlying5 rfl) rfl<|s1 (y_sidT X.toNat (UInt8.ofNat (lenN X.toNat)) Tryz.underlying9 rfl (by kernel_rfl) rfl (tab_idx y14) (tab_at _ y14)) rfl<|s1 ((y_conv Tryz.underlying5 Tryz.underlying3 rfl).v (v':= .i .i64 (lenN X.toNat:Nat)) (tab_conv y14)) rfl<|s1 (addN 0 _ rfl rfl rfl rfl (by have:=lenN_small y14;omega)) rfl<|s1 (y_p rfl) rfl ?_
    refine at_nil<|x_tn<|at_ret ?_
    refine at_result (rs:= [.tmp 2]) rfl (r_tmp rfl r_nil) ?_
    exact congrArg (fun k:Nat=>A.i .i64 (k:Int)) (by omega)
theorem len_ok (X:BitVec 64):Con Tryz.prog 146 [w64 X] (Ret (.i .i64 (lenN X.toNat:Nat))):=by
 refine enter Tryz.func146 rfl Tryz.ntmps146 (by kernel_rfl) (Nat.le_of_ble_eq_true rfl) fun w0 X0 hI=>?_
 refine at_seq<|at_region<|s1 ((y_p rfl).v (v':= .i .i64 0) rfl) rfl ?_
 refine at_nil<|x_tn<|at_seq ?_
 refine at_else rfl ?_
 refine at_skip<|x_tn<|at_seq<|at_region<|s1 (y_p rfl) rfl ?_
 refine at_op rfl (n_call false rfl (.cons (.pure pu) (.nil)) (len64_ok X) pu (.inl rfl) rfl ?_)
 refine s1 (y_p rfl) rfl ?_
 refine at_nil<|x_tn<|at_ret ?_
 refine at_result (rs:= [.tmp 2]) rfl (r_tmp rfl (r_nil)) rfl
theorem half_ok (n:Nat) (h:2≤n) (hn:n≤1099511627776):Con Tryz.prog 95 [.i .i64 (n:Nat)] (Ret (.i .i64 (halfN n:Nat))):=by
 refine enter Tryz.func95 rfl Tryz.ntmps95 (by kernel_rfl) (Nat.le_of_ble_eq_true rfl) fun w0 X0 hI=>?_
 refine at_seq<|at_region<|s1 ((y_p rfl).v (v':= .i .i64 0) rfl) rfl ?_
 refine at_nil<|x_tn<|at_seq<|at_region<|s1 (y_p rfl) rfl<|s1 (subN n 1 rfl rfl rfl rfl (by omega) (by omega)) rfl<|s1 (ofN_64 (n - 1) Tryz.underlying3 Tryz.underlying74 rfl rfl) rfl ?_
 refine at_op rfl (n_call false rfl (.cons (.pure pu) (.nil)) (len_ok (c64 (n - 1))) pu (.inl rfl) rfl ?_)
 refine s1 ((subN (lenN (c64 (n - 1)).toNat) 1 rfl rfl rfl rfl (by rw [c64_n (n:=n - 1) (by omega),lenN_pos (by omega)];omega) (by rw [c64_n (n:=n - 1) (by omega)];have:=lenN_le (x:=n - 1) (by omega);omega)).v (v':= .i .i64 ((n - 1).log2:Nat)) (congrArg (fun k:Nat=>A.i .i64 (k:Int)) (by rw [c64_n (n:=n - 1) (by omega),lenN_pos (by omega)];omega))) rfl<|s1 ((y_shl rfl rfl (by omega)).v (v':= .i .i64 (halfN n:Nat)) (shl_pow h hn)) rfl<|s1 (y_p rfl) rfl ?_
 refine at_nil<|x_tn<|at_ret ?_
 refine at_result (rs:= [.tmp 2]) rfl (r_tmp rfl (r_nil)) rfl
end Go.Abs.D2
-- D2T1
namespace Go.Abs.D2
open Go Go.Eng Go.Abs Go.Proofs
theorem tree_step (L:List (List UInt8)) (hD:D32 L) (hl:L.length≤1048576) (ih:∀M:List (List UInt8),M.length<L.length→D32 M→Con Tryz.prog 46 [dgs M] (Ret (.ag ((tree M).map u8)))):Con Tryz.prog 46 [dgs L] (Ret (.ag ((tree L).map u8))):=by
 refine enter Tryz.func46 rfl Tryz.ntmps46 (by kernel_rfl) (Nat.le_of_ble_eq_true rfl) fun w0 X0 hI=>?_
 refine at_seq<|at_region ?_
 refine at_op rfl (n_alloc 2 rfl ti23 rfl rfl ?_)
 refine at_nil<|x_tn<|at_seq<|at_seq<|at_region<|s1 (y_p rfl) rfl<|s1 (y_len Tryz.underlying41 rfl rfl rfl) rfl ?_
 refine at_nil<|x_tn<|at_block<|at_seq<|at_region<|s1 (y_p rfl) rfl<|s1 (y_p rfl) rfl ?_
 refine at_nil<|x_tn ?_
 refine at_cond rfl (fun hc6=>?_) (fun hc6=>?_)
 ·have h6 : L.length = 0 := by have := of_decide_eq_true hc6; omega
  obtain rfl:=List.eq_nil_of_length_eq_zero h6
  refine at_seq<|at_region ?_
  refine at_op rfl (n_call false rfl (.cons (.pure pu) (.cons .nl (.nil))) (tagged_ok _ [] (by simp) (by simp)) pu (.inl rfl) rfl ?_)
  refine at_op rfl (n_storeA ti23 rfl rfl rfl (by first|rfl|omega|(simp<;>omega)|(simp [*]<;>omega)|(simp [D32.len, -List.length_flatten, *]<;>omega)) (by first|rfl|omega|(simp<;>omega)|(simp [*]<;>omega)|(simp [D32.len, -List.length_flatten, *]<;>omega)) ?_)
  refine at_nil<|x_tn<|at_ret<|x_br<|x_tr ?_
  refine at_result (rs:= [.cell 2 23]) rfl (r_cellA ti23 rfl rfl (List.take_of_length_le (by simp [len_tree])) (by simp [len_tree]) r_nil) ?_
  rw [tree_nil]
  rfl
 ·have h6 : ¬ L.length = 0 := by have := of_decide_eq_false hc6; omega
  refine at_seq<|at_region<|s1 (y_p rfl) rfl<|s1 (y_p rfl) rfl ?_
  refine at_nil<|x_tn ?_
  refine at_cond rfl (fun hc9=>?_) (fun hc9=>?_)
  ·have h9 : L.length = 1 := by have := of_decide_eq_true hc9; omega
   obtain⟨x,rfl⟩:=List.length_eq_one_iff.1 h9
   have hx:=hD x (.head _)
   refine at_seq<|at_region<|s1 (y_p rfl) rfl<|s1 (y_ixf 0 Tryz.underlying41 ti23 rfl rfl rfl (by simp) rfl) rfl<|s1 ((y_cutfa 32 Tryz.underlying23 ti5 rfl (by simp [maxLen]) bn bn (Nat.zero_le _) (Nat.le_refl _) (by simp) rfl rfl).v (cut_one hx)) rfl ?_
   refine at_op rfl (n_call false rfl (.cons (.pure pu) (.cons (.pure pu) (.nil))) (tagged_ok _ x (by omega) (by simp)) pu (.inl rfl) rfl ?_)
   refine at_op rfl (n_storeA ti23 rfl rfl rfl (by first|rfl|omega|(simp<;>omega)|(simp [*]<;>omega)|(simp [D32.len, -List.length_flatten, *]<;>omega)) (by first|rfl|omega|(simp<;>omega)|(simp [*]<;>omega)|(simp [D32.len, -List.length_flatten, *]<;>omega)) ?_)
   refine at_nil<|x_tn<|at_ret<|x_br<|x_tr ?_
   refine at_result (rs:= [.cell 2 23]) rfl (r_cellA ti23 rfl rfl (List.take_of_length_le (by simp [len_tree])) (by simp [len_tree]) r_nil) ?_
   rw [tree_one]
   rfl
  ·have h9 : ¬ L.length = 1 := by have := of_decide_eq_false hc9; omega
   refine at_skip<|x_bn<|x_tn<|at_seq<|at_region<|s1 (y_p rfl) rfl<|s1 (y_len Tryz.underlying41 rfl rfl rfl) rfl ?_
   refine at_op rfl (n_call false rfl (.cons (.pure pu) (.nil)) (half_ok L.length (by omega) (by omega)) pu (.inl rfl) rfl ?_)
   refine s1 (y_p rfl) rfl ?_
   refine at_nil<|x_tn<|at_seq ?_
   refine at_fs ⟨_, [], []⟩ 9 4 hmix (le_refl rfl) ?_
   have hh:=halfN_lt (n:=L.length) (by omega)
   refine fs_q 0 [] [] (y_p rfl) rfl rfl ?_
   refine fs_q 1 [] [] (y_p rfl) rfl rfl ?_
   refine fs_q 2 [0,1] [] ((y_cutf (halfN L.length) Tryz.underlying41 ti23 rfl (by rw [List.length_map,hD.len]) bn (bs rfl rfl) (by omega) (by omega) rfl rfl).v (v':=dgs (L.take (halfN L.length))) (cut_take hD (by omega))) rfl rfl ?_
   refine fs_call false 3 [2] [] gy0 rfl (.cons (.pure pu) (.nil)) (ih (L.take (halfN L.length)) (by rw [List.length_take];omega) (hD.take _)) pu (.inl rfl) rfl rfl ?_
   refine fs_q 4 [] [] (y_p rfl) rfl rfl ?_
   refine fs_q 5 [] [] (y_p rfl) rfl rfl ?_
   refine fs_q 6 [4,5] [] ((y_cutf (L.length - halfN L.length) Tryz.underlying41 ti23 rfl (by rw [List.length_map,hD.len]) (bs rfl rfl) bn (by omega) (by omega) rfl rfl).v (v':=dgs (L.drop (halfN L.length))) (cut_drop hD rfl)) rfl rfl ?_
   refine fs_call false 7 [6] [] gy0 rfl (.cons (.pure pu) (.nil)) (ih (L.drop (halfN L.length)) (by rw [List.length_drop];omega) (hD.drop _)) pu (.inl rfl) rfl rfl ?_
   refine fs_call false 8 [3,7] [] gy0 rfl (.cons (.pure pu) (.cons (.pure pu) (.nil))) (node_ok (fun t b h1 h2=>tagged_ok t b (by omega) (by omega)) _ _ (len_tree _) (len_tree _)) pu (.inl rfl) rfl rfl ?_
   refine fs_end (by kernel_rfl) ?_
   refine at_op rfl (n_storeA ti23 rfl rfl rfl (by first|rfl|omega|(simp<;>omega)|(simp [*]<;>omega)|(simp [D32.len, -List.length_flatten, *]<;>omega)) (by first|rfl|omega|(simp<;>omega)|(simp [*]<;>omega)|(simp [D32.len, -List.length_flatten, *]<;>omega)) ?_)
   refine at_nil<|x_tn<|at_ret ?_
   refine at_result (rs:= [.cell 2 23]) rfl (r_cellA ti23 rfl rfl (List.take_of_length_le (by simp [len_tree])) (by simp [len_tree]) r_nil) ?_
   rw [tree_two (L:=L) (by omega)]
   rfl
theorem tree_ok:∀(n:Nat) (L:List (List UInt8)),L.length≤n→D32 L→L.length≤1048576→Con Tryz.prog 46 [dgs L] (Ret (.ag ((tree L).map u8)))
  |0,L,h,hD,hl=>tree_step L hD hl (fun M hM=>absurd hM (by omega))
  |n+1,L,h,hD,hl=>tree_step L hD hl (fun M hM hM2=>tree_ok n M (by omega) hM2 (by omega))
end Go.Abs.D2
-- D2T2
namespace Go.Abs.D2
open Go Go.Eng Go.Abs Go.Proofs
theorem trace_step (L:List (List UInt8)) (i:Nat) (hD:D32 L) (hi:i<L.length) (hl:L.length≤1048576) (ih:∀(M:List (List UInt8)) (i:Nat),M.length<L.length→D32 M→i<M.length→Con Tryz.prog 149 [dgs M,.i .i64 (i:Nat)] (RetO 32 (path M i).length ((path M i).flatten.map u8))):Con Tryz.prog 149 [dgs L,.i .i64 (i:Nat)] (RetO 32 (path L i).length ((path L i).flatten.map u8)):=by
 refine enter Tryz.func149 rfl Tryz.ntmps149 (by kernel_rfl) (Nat.le_of_ble_eq_true rfl) fun w0 X0 hI=>?_
 refine at_seq<|at_region<|s1 (y_p rfl) rfl ?_
 refine at_nil<|x_tn<|at_seq<|at_seq<|at_region<|s1 (y_p rfl) rfl<|s1 (y_len Tryz.underlying41 rfl rfl rfl) rfl<|s1 (y_p rfl) rfl ?_
 refine at_nil<|x_tn ?_
 refine at_cond rfl (fun hc8=>?_) (fun hc8=>?_)
 ·have h8 : L.length = 1 := by have := of_decide_eq_true hc8; omega
  refine at_seq<|at_region<|s1 (y_p rfl) rfl ?_
  refine at_nil<|x_tn<|at_ret<|x_tr ?_
  refine at_ph 99 rfl 4 32 rfl ?_
  refine at_result (rs:= [.tmp 4]) rfl (r_tmp rfl r_nil) ⟨99,?_,?_⟩
  ·rw [path_one i (by omega)];rfl
  ·rw [path_one i (by omega)];rfl
 ·have h8 : ¬ L.length = 1 := by have := of_decide_eq_false hc8; omega
  refine at_skip<|x_tn<|at_seq<|at_region<|s1 (y_p rfl) rfl<|s1 (y_len Tryz.underlying41 rfl rfl rfl) rfl ?_
  refine at_op rfl (n_call false rfl (.cons (.pure pu) (.nil)) (half_ok L.length (by omega) (by omega)) pu (.inl rfl) rfl ?_)
  refine s1 (y_p rfl) rfl ?_
  refine at_nil<|x_tn<|at_seq<|at_seq<|at_region<|s1 (y_p rfl) rfl<|s1 (y_p rfl) rfl<|s1 (y_p rfl) rfl ?_
  refine at_nil<|x_tn ?_
  refine at_cond rfl (fun hc14=>?_) (fun hc14=>?_)
  ·have h14 : i < (halfN L.length) := by have := of_decide_eq_true hc14; omega
   have hh:=halfN_lt (n:=L.length) (by omega)
   have hpl:=len_path L.length (L.take (halfN L.length)) i (by rw [List.length_take];omega)
   refine at_seq ?_
   refine at_fs ⟨_, [], []⟩ 11 4 hmix (le_refl rfl) ?_
   refine fs_q 0 [] [] (y_p rfl) rfl rfl ?_
   refine fs_q 1 [] [] (y_p rfl) rfl rfl ?_
   refine fs_q 2 [0,1] [] ((y_cutf (halfN L.length) Tryz.underlying41 ti23 rfl (by rw [List.length_map,hD.len]) bn (bs rfl rfl) (by omega) (by omega) rfl rfl).v (v':=dgs (L.take (halfN L.length))) (cut_take hD (by omega))) rfl rfl ?_
   refine fs_q 3 [] [] (y_p rfl) rfl rfl ?_
   refine fs_callO 19 false 4 [2,3] [] gy0 rfl (.cons (.pure pu) (.cons (.pure pu) (.nil))) (ih (L.take (halfN L.length)) i (by rw [List.length_take];omega) (hD.take _) (by rw [List.length_take];omega)) pul (.inl rfl) rfl rfl ?_
   refine fs_q 5 [] [] (y_p rfl) rfl rfl ?_
   refine fs_q 6 [] [] (y_p rfl) rfl rfl ?_
   refine fs_q 7 [5,6] [] ((y_cutf (L.length - (halfN L.length)) Tryz.underlying41 ti23 rfl (by rw [List.length_map,hD.len]) (bs rfl rfl) bn (by omega) (by omega) rfl rfl).v (v':=dgs (L.drop (halfN L.length))) (cut_drop hD rfl)) rfl rfl ?_
   refine fs_call false 8 [7] [] gy0 rfl (.cons (.pure pu) (.nil)) (tree_ok _ (L.drop (halfN L.length)) (Nat.le_refl _) (hD.drop _) (by rw [List.length_drop];omega)) pu (.inl rfl) rfl rfl ?_
   refine fs_bs 24 9 [8] gy0 Tryz.underlying41 ti23 rfl rfl rfl (by first|(simp [cellsA];done)|(simp [cellsA, *];done)) (List.append_nil ((tree (L.drop (halfN L.length))).map u8)) rfl rfl rfl rfl ?_
   refine fs_app 25 10 [4,9] [(19,some 4),(24,some 9)] gy0 Tryz.underlying41 ti23 rfl (.sl rfl (by rw [List.length_map,(D32_path _ (L.take (halfN L.length)) i (Nat.le_refl _)).len])) rfl (SM_full rfl (by first|rfl|omega|(simp<;>omega)|(simp [*]<;>omega)|(simp [D32.len, -List.length_flatten, *]<;>omega))) (by simp [len_tree]) (by simp only [maxLen];omega) (by omega) rfl rfl rfl rfl ?_
   refine fs_end (by kernel_rfl) ?_
   refine s1 (y_p rfl) rfl ?_
   refine at_nil<|x_tn<|at_ret<|x_tr ?_
   refine at_result (rs:= [.tmp 4]) rfl (r_tmp rfl r_nil) ⟨25,?_,?_⟩
   ·rw [path_left (by omega) h14,List.length_append];rfl
   ·rw [path_left (by omega) h14]
    exact congrArg some (by simp)
  ·have h14 : ¬ i < (halfN L.length) := by have := of_decide_eq_false hc14; omega
   have hh:=halfN_lt (n:=L.length) (by omega)
   have hpl:=len_path L.length (L.drop (halfN L.length)) (i - (halfN L.length)) (by rw [List.length_drop];omega)
   refine at_skip<|x_tn<|at_seq ?_
   refine at_fs ⟨_, [], []⟩ 13 4 hmix (le_refl rfl) ?_
   refine fs_q 0 [] [] (y_p rfl) rfl rfl ?_
   refine fs_q 1 [] [] (y_p rfl) rfl rfl ?_
   refine fs_q 2 [0,1] [] ((y_cutf (L.length - (halfN L.length)) Tryz.underlying41 ti23 rfl (by rw [List.length_map,hD.len]) (bs rfl rfl) bn (by omega) (by omega) rfl rfl).v (v':=dgs (L.drop (halfN L.length))) (cut_drop hD rfl)) rfl rfl ?_
   refine fs_q 3 [] [] (y_p rfl) rfl rfl ?_
   refine fs_q 4 [] [] (y_p rfl) rfl rfl ?_
   refine fs_q 5 [3,4] [] (subN i (halfN L.length) rfl rfl rfl rfl (by omega) (by omega)) rfl rfl ?_
   refine fs_callO 32 false 6 [2,5] [] gy0 rfl (.cons (.pure pu) (.cons (.pure pu) (.nil))) (ih (L.drop (halfN L.length)) (i - (halfN L.length)) (by rw [List.length_drop];omega) (hD.drop _) (by rw [List.length_drop];omega)) pul (.inl rfl) rfl rfl ?_
   refine fs_q 7 [] [] (y_p rfl) rfl rfl ?_
   refine fs_q 8 [] [] (y_p rfl) rfl rfl ?_
   refine fs_q 9 [7,8] [] ((y_cutf (halfN L.length) Tryz.underlying41 ti23 rfl (by rw [List.length_map,hD.len]) bn (bs rfl rfl) (by omega) (by omega) rfl rfl).v (v':=dgs (L.take (halfN L.length))) (cut_take hD (by omega))) rfl rfl ?_
   refine fs_call false 10 [9] [] gy0 rfl (.cons (.pure pu) (.nil)) (tree_ok _ (L.take (halfN L.length)) (Nat.le_refl _) (hD.take _) (by rw [List.length_take];omega)) pu (.inl rfl) rfl rfl ?_
   refine fs_bs 37 11 [10] gy0 Tryz.underlying41 ti23 rfl rfl rfl (by first|(simp [cellsA];done)|(simp [cellsA, *];done)) (List.append_nil ((tree (L.take (halfN L.length))).map u8)) rfl rfl rfl rfl ?_
   refine fs_app 38 12 [6,11] [(32,some 6),(37,some 11)] gy0 Tryz.underlying41 ti23 rfl (.sl rfl (by rw [List.length_map,(D32_path _ (L.drop (halfN L.length)) (i - (halfN L.length)) (Nat.le_refl _)).len])) rfl (SM_full rfl (by first|rfl|omega|(simp<;>omega)|(simp [*]<;>omega)|(simp [D32.len, -List.length_flatten, *]<;>omega))) (by simp [len_tree]) (by simp only [maxLen];omega) (by omega) rfl rfl rfl rfl ?_
   refine fs_end (by kernel_rfl) ?_
   refine s1 (y_p rfl) rfl ?_
   refine at_nil<|x_tn<|at_ret ?_
   refine at_result (rs:= [.tmp 4]) rfl (r_tmp rfl r_nil) ⟨38,?_,?_⟩
   ·rw [path_right (by omega) h14,List.length_append];rfl
   ·rw [path_right (by omega) h14]
    exact congrArg some (by simp)
theorem trace_ok:∀(n:Nat) (L:List (List UInt8)) (i:Nat),L.length≤n→D32 L→i<L.length→L.length≤1048576→Con Tryz.prog 149 [dgs L,.i .i64 (i:Nat)] (RetO 32 (path L i).length ((path L i).flatten.map u8))
  |0,L,i,h,hD,hi,hl=>absurd hi (by omega)
  |n+1,L,i,h,hD,hi,hl=>trace_step L i hD hi hl (fun M i hM hM2 hi=>trace_ok n M i (by omega) hM2 hi (by omega))
end Go.Abs.D2
-- D2T3
namespace Go.Abs.D2
open Go Go.Eng Go.Abs Go.Proofs
theorem pathI_ok (L:List (List UInt8)) (a:Int) (hD:D32 L) (hl:L.length≤1048576):Con Tryz.prog 98 [dgs L,.i .i64 a] (Ret (pathA L a)):=by
 refine enter Tryz.func98 rfl Tryz.ntmps98 (by kernel_rfl) (Nat.le_of_ble_eq_true rfl) fun w0 X0 hI=>?_
 refine at_seq<|at_region<|s1 (y_p rfl) rfl<|s1 ((y_p rfl).v (v':= .i .i64 0) rfl) rfl ?_
 refine at_nil<|x_tn<|at_seq<|at_seq<|at_region<|s1 (y_p rfl) rfl<|s1 (y_p rfl) rfl<|s1 (y_p rfl) rfl ?_
 refine g_or 4 rfl rfl rfl rfl (fun hb8=> .step (y_p rfl) rfl rfl<| .step (y_p rfl) rfl rfl<| .step (y_len Tryz.underlying41 rfl rfl rfl) rfl rfl<| .step (y_p rfl) rfl rfl<| .done) rfl rfl ?_
 refine at_nil<|x_tn ?_
 refine at_cond rfl (fun hc13=>?_) (fun hc13=>?_)
 ·have h13 : ¬ (0 ≤ a ∧ a < L.length) := by simp at hc13; omega
  refine at_seq<|at_region<|s1 (y_p rfl) rfl<|s1 ((y_p rfl).v (v':= .i .i64 1) rfl) rfl ?_
  refine at_nil<|x_tn<|at_ret<|x_tr ?_
  refine at_result (rs:= [.tmp 4,.tmp 5]) rfl (r_tmp rfl (r_tmp rfl r_nil)) ?_
  rw [pathA,if_neg h13]
  rfl
 ·have h13 : 0 ≤ a ∧ a < L.length := by simp at hc13; omega
  obtain⟨i,rfl⟩:∃i:Nat,a=(i:Int):=⟨a.toNat,by omega⟩
  refine at_skip<|x_tn<|at_seq<|at_region<|s1 (y_p rfl) rfl<|s1 (y_p rfl) rfl ?_
  refine at_op rfl (n_callO 16 rfl false rfl (.cons (.pure pu) (.cons (.pure pu) (.nil))) (trace_ok _ L i (Nat.le_refl _) hD (by omega) hl) pul (.inl rfl) rfl ?_)
  refine s1 (y_p rfl) rfl<|s1 ((y_p rfl).v (v':= .i .i64 0) rfl) rfl ?_
  refine at_nil<|x_tn<|at_ret ?_
  refine at_frz 4 rfl rfl pul (view_eq (by rw [List.length_map,(D32_path _ L i (Nat.le_refl _)).len]) rfl) ?_
  refine at_result (rs:= [.tmp 4,.tmp 5]) rfl (r_tmp rfl (r_tmp rfl r_nil)) ?_
  rw [pathA,if_pos h13,Int.toNat_natCast]
  rfl
end Go.Abs.D2
-- D2T5
namespace Go.Abs.D2
open Go Go.Eng Go.Abs Go.Proofs
end Go.Abs.D2
-- D2T4
namespace Go.Abs.D2
open Go Go.Eng Go.Abs Go.Proofs
theorem climbI_ok (d:List UInt8) (hd:d.length=32) (a nn:Int) (P:List (List UInt8)) (hD:D32 P):Con Tryz.prog 132 [.ag (d.map u8),.i .i64 a,.i .i64 nn,dgs P] (Ret (climbA d a nn P)):=by
 refine enter Tryz.func132 rfl Tryz.ntmps132 (by kernel_rfl) (Nat.le_of_ble_eq_true rfl) fun w0 X0 hI=>?_
 refine at_seq<|at_region ?_
 refine at_op rfl (n_boxA 4 rfl rfl rfl ?_)
 refine at_op rfl (n_alloc 8 rfl ti23 rfl rfl ?_)
 refine s1 ((y_p rfl).v (v':= .i .i64 0) rfl) rfl ?_
 refine at_nil<|x_tn<|at_seq<|at_seq<|at_region<|s1 (y_p rfl) rfl<|s1 (y_p rfl) rfl<|s1 (y_p rfl) rfl ?_
 refine g_or 2 rfl rfl rfl rfl (fun hb16=> .step (y_p rfl) rfl rfl<| .step (y_p rfl) rfl rfl<| .done) rfl rfl ?_
 refine s1 (y_p rfl) rfl ?_
 refine g_or 2 rfl rfl rfl rfl (fun hb20=> .step (y_p rfl) rfl rfl<| .step (y_p rfl) rfl rfl<| .done) rfl rfl ?_
 refine s1 (y_p rfl) rfl ?_
 refine g_or 3 rfl rfl rfl rfl (fun hb24=> .step (y_p rfl) rfl rfl<| .step (y_p rfl) rfl rfl<| .step (y_p rfl) rfl rfl<| .done) rfl rfl ?_
 refine at_nil<|x_tn ?_
 refine at_cond rfl (fun hc28=>?_) (fun hc28=>?_)
 ·have hbad : ¬ fits a nn P.length := by intro h; unfold fits at h; simp at hc28; omega
  refine at_seq<|at_region<|s1 (y_loadA0 ti23 rfl rfl (by simp)) rfl ?_
  refine at_op rfl (n_storeA ti23 rfl rfl rfl (by simp) (by simp) ?_)
  refine s1 ((y_p rfl).v (v':= .i .i64 1) rfl) rfl ?_
  refine at_nil<|x_tn<|at_ret<|x_tr ?_
  refine at_result (rs:= [.cell 8 23,.tmp 9]) rfl (r_cellA ti23 rfl rfl (List.take_of_length_le (by simp)) (by simp) (r_tmp rfl r_nil)) ?_
  rw [climbA,if_neg hbad]
  rfl
 ·have h28 : 1 ≤ nn ∧ nn ≤ 1099511627776 ∧ 0 ≤ a ∧ a < nn := by simp at hc28; omega
  obtain⟨i,rfl⟩:∃i:Nat,a=(i:Int):=⟨a.toNat,by omega⟩
  obtain⟨n,rfl⟩:∃n:Nat,nn=(n:Int):=⟨nn.toNat,by omega⟩
  have hn1:1≤n:=by omega
  have hn:n≤1099511627776:=by omega
  have hi:i<n:=by omega
  refine at_skip<|x_tn<|at_seq<|at_region<|s1 (y_p rfl) rfl ?_
  refine at_nil<|x_tn<|at_seq<|at_block ?_
  refine at_loop (ι:=List Bool×Nat×Nat) (fun⟨ds,i2,n2⟩=> [(1,.i .i64 (i2:Nat)),(2,.i .i64 (n2:Nat)),(3,dgs P),(4,.p 4 0),(8,.p 8 0),(10,.sl 10 1 0 ds.length)]) (fun⟨ds,i2,n2⟩=>⟨[(4,some (d.map u8)),(8,some (List.replicate 32 (u8 0))),(10,some (ds.map A.b))]⟩) (fun⟨ds,i2,n2⟩=>rights i n=ds++rights i2 n2∧1≤n2∧i2<n2∧n2≤n∧ds.length+(rights i2 n2).length≤n) (fun⟨ds,i2,n2⟩=>n2) ?_ ?_
  ·exact at_ex (([],i,n)) (⟨rfl,hn1,hi,Nat.le_refl _,by have:=rights_le _ i n (Nat.le_refl _);simpa using this⟩) [(4,some 4),(8,some 8),(10,none)] hI rfl rfl ⟨⟨_,rfl,.pure pu⟩,⟨_,rfl,.pure pu⟩,⟨_,rfl,.pure pu⟩,⟨_,rfl,.p rfl⟩,⟨_,rfl,.p rfl⟩,⟨_,rfl,.nl rfl⟩,trivial⟩ ⟨.inr ⟨_,_,rfl,rfl,.pure pul⟩,.inr ⟨_,_,rfl,rfl,.pure pul⟩,.inl ⟨rfl,rfl⟩,trivial⟩
  rintro⟨ds,i2,n2⟩ ⟨hr,h1,hi2,hn2,hlen⟩
  dsimp only
  refine at_seq<|at_seq<|at_region<|s1 (y_p rfl) rfl<|s1 (y_p rfl) rfl ?_
  refine at_nil<|x_tn ?_
  refine at_cond rfl (fun hc31=>?_) (fun hc31=>?_)
  ·have h31 : 2 ≤ n2 := by have := of_decide_eq_true hc31; omega
   have hh:=halfN_lt h31
   refine at_skip<|x_tn<|at_block<|at_seq<|at_region<|s1 (y_p rfl) rfl ?_
   refine at_op rfl (n_call false rfl (.cons (.pure pu) (.nil)) (half_ok n2 (by omega) (by omega)) pu (.inl rfl) rfl ?_)
   refine s1 (y_p rfl) rfl ?_
   refine at_nil<|x_tn<|at_seq<|at_region<|s1 (y_p rfl) rfl<|s1 (y_p rfl) rfl<|s1 (y_p rfl) rfl<|s1 (y_p rfl) rfl ?_
   refine at_op rfl (n_bs1 38 rfl Tryz.underlying205 ti4 rfl rfl rfl rfl rfl ?_)
   refine at_op rfl (n_app 39 rfl Tryz.underlying205 ti4 rfl (.sl rfl (by simp)) rfl (SM_full rfl (by first|rfl|omega|(simp<;>omega)|(simp [*]<;>omega)|(simp [D32.len, -List.length_flatten, *]<;>omega))) (by first|rfl|omega|(simp<;>omega)|(simp [*]<;>omega)|(simp [D32.len, -List.length_flatten, *]<;>omega)) (by simp only [maxLen];omega) (by omega) rfl rfl rfl ?_)
   refine s1 (y_p rfl) rfl ?_
   refine at_nil<|x_tn<|at_seq<|at_region<|s1 (y_p rfl) rfl<|s1 (y_p rfl) rfl<|s1 (y_p rfl) rfl ?_
   refine at_nil<|x_tn ?_
   refine at_cond rfl (fun hc42=>?_) (fun hc42=>?_)
   ·have h42 : (i2 : Int) ≥ (halfN n2) := of_decide_eq_true hc42
    have h42n:¬i2<(halfN n2):=by omega
    refine at_region<|s1 (y_p rfl) rfl<|s1 (y_p rfl) rfl<|s1 (subN i2 (halfN n2) rfl rfl rfl rfl (by omega) (by omega)) rfl<|s1 (y_p rfl) rfl<|s1 (y_p rfl) rfl<|s1 (subN n2 (halfN n2) rfl rfl rfl rfl (by omega) (by omega)) rfl<|s1 (y_p rfl) rfl<|s1 (y_p rfl) rfl ?_
    refine at_nil<|x_bn ?_
    exact at_end (x:=(ds,i2,n2)) ((ds++ [true],i2 - (halfN n2),n2 - (halfN n2))) (⟨by rw [hr,rights_right (by omega) h42n];simp,by dsimp only;omega,by dsimp only;omega,by dsimp only;omega,by rw [rights_right (by omega) h42n,List.length_cons]at hlen;dsimp only;rw [List.length_append];simp;omega⟩) (by dsimp only;omega) [(4,some 4),(8,some 8),(10,some 39)] hI rfl rfl ⟨⟨_,rfl,.pure pu⟩,⟨_,rfl,.pure pu⟩,⟨_,rfl,.pure pu⟩,⟨_,rfl,.p rfl⟩,⟨_,rfl,.p rfl⟩,⟨_,rfl,.sl rfl (by first|rfl|omega|(simp<;>omega)|(simp [*]<;>omega)|(simp [D32.len, -List.length_flatten, *]<;>omega))⟩,trivial⟩ ⟨.inr ⟨_,_,rfl,rfl,.pure pul⟩,.inr ⟨_,_,rfl,rfl,.pure pul⟩,.inr ⟨_,_,rfl,rfl,.of (by simp [h42]) (.pure pul)⟩,trivial⟩
   ·have h42 : ¬ (i2 : Int) ≥ (halfN n2) := of_decide_eq_false hc42
    have h42n:i2<(halfN n2):=by omega
    refine at_region<|s1 (y_p rfl) rfl<|s1 (y_p rfl) rfl ?_
    refine at_nil<|x_bn ?_
    exact at_end (x:=(ds,i2,n2)) ((ds++ [false],i2,(halfN n2))) (⟨by rw [hr,rights_left (by omega) h42n];simp,by dsimp only;omega,by dsimp only;omega,by dsimp only;omega,by rw [rights_left (by omega) h42n,List.length_cons]at hlen;dsimp only;rw [List.length_append];simp;omega⟩) (by dsimp only;omega) [(4,some 4),(8,some 8),(10,some 39)] hI rfl rfl ⟨⟨_,rfl,.pure pu⟩,⟨_,rfl,.pure pu⟩,⟨_,rfl,.pure pu⟩,⟨_,rfl,.p rfl⟩,⟨_,rfl,.p rfl⟩,⟨_,rfl,.sl rfl (by first|rfl|omega|(simp<;>omega)|(simp [*]<;>omega)|(simp [D32.len, -List.length_flatten, *]<;>omega))⟩,trivial⟩ ⟨.inr ⟨_,_,rfl,rfl,.pure pul⟩,.inr ⟨_,_,rfl,rfl,.pure pul⟩,.inr ⟨_,_,rfl,rfl,.of (by simp [h42]) (.pure pul)⟩,trivial⟩
  ·have h31 : n2 = 1 := by have := of_decide_eq_false hc31; omega
   subst h31
   rw [rights_one (Nat.le_refl _),List.append_nil]at hr
   subst hr
   refine at_exit<|x_te<|x_te<|x_be<|x_tn<|at_seq<|at_seq<|at_region<|s1 (y_p rfl) rfl<|s1 (y_len Tryz.underlying41 rfl rfl rfl) rfl<|s1 (y_p rfl) rfl<|s1 (y_len Tryz.underlying205 rfl rfl rfl) rfl<|s1 (y_p rfl) rfl ?_
   refine at_nil<|x_tn ?_
   refine at_cond rfl (fun hc54=>?_) (fun hc54=>?_)
   ·have hbad : ¬ fits (i : Int) (n : Int) P.length := by
     intro h
     unfold fits at h
     have h5:=h.2.2.2.2
     rw [Int.toNat_natCast,Int.toNat_natCast]at h5
     have:=bne_iff_ne.1 hc54
     omega
    refine at_seq<|at_region<|s1 (y_loadA0 ti23 rfl rfl (by simp)) rfl ?_
    refine at_op rfl (n_storeA ti23 rfl rfl rfl (by simp) (by simp) ?_)
    refine s1 ((y_p rfl).v (v':= .i .i64 1) rfl) rfl ?_
    refine at_nil<|x_tn<|at_ret<|x_tr ?_
    refine at_result (rs:= [.cell 8 23,.tmp 9]) rfl (r_cellA ti23 rfl rfl (List.take_of_length_le (by simp)) (by simp) (r_tmp rfl r_nil)) ?_
    rw [climbA,if_neg hbad]
    rfl
   ·have hP : P.length = (rights i n).length := by have := bne_eq_false_iff_eq.1 hc54; omega
    have hfit:fits (i:Int) (n:Int) P.length:=⟨by omega,by omega,by omega,by omega,by rw [Int.toNat_natCast,Int.toNat_natCast];exact hP⟩
    refine at_skip<|x_tn<|at_seq<|at_region<|s1 (y_cuta0 Tryz.underlying23 ti5 rfl rfl (by simp [hd]) (by simp [maxLen])) rfl ?_
    refine at_op rfl (n_call true rfl (.cons (.pure pu) (.cons (.sl rfl rfl (by first|rfl|omega|(simp<;>omega)|(simp [*]<;>omega)|(simp [D32.len, -List.length_flatten, *]<;>omega)) (view_eq (by first|rfl|omega|(simp<;>omega)|(simp [*]<;>omega)|(simp [D32.len, -List.length_flatten, *]<;>omega)) (by first|rfl|(simp;done)|(simp [*];done))) (VwL.pure pul) pul) (.nil))) (by have h:=tagged_ok [108,101,97,102] d (by omega) (by simp);rw [hd]at h;exact h) pu (.inr fu) rfl ?_)
    refine at_op rfl (n_storeA ti23 rfl rfl rfl (by simp) (by simp) ?_)
    refine at_nil<|x_tn<|at_seq<|at_seq<|at_region<|s1 (y_p rfl) rfl<|s1 (y_len Tryz.underlying41 rfl rfl rfl) rfl<|s1 ((y_p rfl).v (v':= .i .i64 0) rfl) rfl ?_
    refine at_nil<|x_tn<|at_block ?_
    refine at_loop (ι:=Nat) (fun j=> [(8,.p 8 0),(10,.sl 10 1 0 (rights i n).length),(58,dgs P),(59,.i .i64 (P.length:Nat)),(60,.i .i64 (j:Nat))]) (fun j=>⟨[(8,some ((fold ((rights i n).reverse.take j) (P.take j) (leafD d)).map u8)),(10,some ((rights i n).map A.b))]⟩) (fun j=>j≤P.length) (fun j=>P.length - j) ?_ ?_
    ·exact at_ex (0) (Nat.zero_le _) [(8,some 8),(10,some 10)] hI rfl rfl ⟨⟨_,rfl,.p rfl⟩,⟨_,rfl,.sl rfl (by first|rfl|omega|(simp<;>omega)|(simp [*]<;>omega)|(simp [D32.len, -List.length_flatten, *]<;>omega))⟩,⟨_,rfl,.pure pu⟩,⟨_,rfl,.pure pu⟩,⟨_,rfl,.pure pu⟩,trivial⟩ ⟨.inr ⟨_,_,rfl,rfl,.of (by rw [List.take_zero];rfl) (.pure pul)⟩,.inr ⟨_,_,rfl,rfl,.pure pul⟩,trivial⟩
    rintro j hj
    have hlf:(fold ((rights i n).reverse.take j) (P.take j) (leafD d)).length=32:=len_fold _ _ _ (len_tagged _ _)
    have hrl:=rights_le _ i n (Nat.le_refl _)
    refine at_seq<|at_region<|s1 (y_p rfl) rfl ?_
    refine at_nil<|x_tn<|at_seq ?_
    refine at_cond rfl (fun hc61=>?_) (fun hc61=>?_)
    ·have hj2 : j < P.length := by have := of_decide_eq_true hc61; omega
     obtain⟨q,hq⟩:∃q,P[j]? =some q:=⟨_,List.getElem?_eq_getElem hj2⟩
     have hq32:q.length=32:=hD q (List.mem_of_getElem? hq)
     obtain⟨b,hb⟩:∃b,(rights i n).reverse[j]? =some b:=⟨_,List.getElem?_eq_getElem (by simp;omega)⟩
     have hb2:(rights i n)[(rights i n).length - 1 - j]? =some b:=by rw [List.getElem?_reverse (by omega)]at hb;exact hb
     refine at_skip<|x_tn<|at_seq<|at_block<|at_seq<|at_region<|s1 (y_p rfl) rfl<|s1 (y_ixf j Tryz.underlying41 ti23 rfl rfl rfl (by omega) rfl) rfl<|s1 (y_loadA ti23 rfl rfl (get_d hD hq) (by simp [hq32])) rfl ?_
     refine at_op rfl (n_alloc 13 rfl ti23 rfl rfl ?_)
     refine s1 (y_p rfl) rfl ?_
     refine at_op rfl (n_storeA ti23 rfl rfl rfl (by simp [hq32]) (by simp) ?_)
     refine at_nil<|x_tn<|at_seq<|at_region<|s1 (y_p rfl) rfl<|s1 (y_p rfl) rfl<|s1 (y_len Tryz.underlying205 rfl rfl rfl) rfl<|s1 (subN (rights i n).length 1 rfl rfl rfl rfl (by omega) (by omega)) rfl<|s1 (y_p rfl) rfl<|s1 (subN ((rights i n).length - 1) j rfl rfl rfl rfl (by omega) (by omega)) rfl<|s1 (y_ixs ((rights i n).length - 1 - j) Tryz.underlying205 ti4 rfl rfl rfl rfl (by omega) rfl) rfl<|s1 (y_load ti4 rfl rfl (get_b hb2)) rfl ?_
     refine at_nil<|x_tn ?_
     refine at_cond rfl (fun hc72=>?_) (fun hc72=>?_)
     ·skip
      refine at_region<|s1 (y_loadA0 ti23 rfl rfl (by simp [hq32])) rfl<|s1 (y_loadA0 ti23 rfl rfl (by simp [hlf])) rfl ?_
      refine at_op rfl (n_call false rfl (.cons (.pure pu) (.cons (.pure pu) (.nil))) (node_ok (fun t b h1 h2=>tagged_ok t b (by omega) (by omega)) q _ hq32 hlf) pu (.inl rfl) rfl ?_)
      refine at_op rfl (n_storeA ti23 rfl rfl rfl (by simp) (by simp [hlf]) ?_)
      refine at_nil<|x_bn<|x_tn<|at_region<|s1 (addN _ 1 rfl rfl rfl rfl (by omega)) rfl<|s1 (y_p rfl) rfl ?_
      refine at_nil ?_
      exact at_end (j+1) (by omega) (by omega) [(8,some 8),(10,some 10)] hI rfl rfl ⟨⟨_,rfl,.p rfl⟩,⟨_,rfl,.sl rfl (by first|rfl|omega|(simp<;>omega)|(simp [*]<;>omega)|(simp [D32.len, -List.length_flatten, *]<;>omega))⟩,⟨_,rfl,.pure pu⟩,⟨_,rfl,.pure pu⟩,⟨_,rfl,.pure pu⟩,trivial⟩ ⟨.inr ⟨_,_,rfl,rfl,.of (by rw [fold_take hb hq,if_pos hc72];rfl) (.pure pul)⟩,.inr ⟨_,_,rfl,rfl,.pure pul⟩,trivial⟩
     ·skip
      refine at_region<|s1 (y_loadA0 ti23 rfl rfl (by simp [hlf])) rfl<|s1 (y_loadA0 ti23 rfl rfl (by simp [hq32])) rfl ?_
      refine at_op rfl (n_call false rfl (.cons (.pure pu) (.cons (.pure pu) (.nil))) (node_ok (fun t b h1 h2=>tagged_ok t b (by omega) (by omega)) _ q hlf hq32) pu (.inl rfl) rfl ?_)
      refine at_op rfl (n_storeA ti23 rfl rfl rfl (by simp) (by simp [hlf]) ?_)
      refine at_nil<|x_bn<|x_tn<|at_region<|s1 (addN _ 1 rfl rfl rfl rfl (by omega)) rfl<|s1 (y_p rfl) rfl ?_
      refine at_nil ?_
      exact at_end (j+1) (by omega) (by omega) [(8,some 8),(10,some 10)] hI rfl rfl ⟨⟨_,rfl,.p rfl⟩,⟨_,rfl,.sl rfl (by first|rfl|omega|(simp<;>omega)|(simp [*]<;>omega)|(simp [D32.len, -List.length_flatten, *]<;>omega))⟩,⟨_,rfl,.pure pu⟩,⟨_,rfl,.pure pu⟩,⟨_,rfl,.pure pu⟩,trivial⟩ ⟨.inr ⟨_,_,rfl,rfl,.of (by rw [fold_take hb hq,if_neg (by rw [hc72];decide)];rfl) (.pure pul)⟩,.inr ⟨_,_,rfl,rfl,.pure pul⟩,trivial⟩
    ·have hj2 : j = P.length := by have := of_decide_eq_false hc61; omega
     subst hj2
     have hct:fold ((rights i n).reverse.take P.length) (P.take P.length) (leafD d)=climb d i n P:=by rw [List.take_length,List.take_of_length_le (by simp;omega)];rfl
     refine at_exit<|x_te<|x_te<|x_be<|x_tn<|at_seq ?_
     refine at_sayO 8 rfl (cs':=(climb d i n P).map u8) (by rw [hct]) ?_
     refine at_region<|s1 (y_loadA0 ti23 rfl rfl (by simp)) rfl ?_
     refine at_op rfl (n_storeA ti23 rfl rfl rfl (by simp) (by simp) ?_)
     refine s1 ((y_p rfl).v (v':= .i .i64 0) rfl) rfl ?_
     refine at_nil<|x_tn<|at_ret ?_
     refine at_result (rs:= [.cell 8 23,.tmp 9]) rfl (r_cellA ti23 rfl rfl (List.take_of_length_le (by simp)) (by simp) (r_tmp rfl r_nil)) ?_
     rw [climbA,if_pos hfit,Int.toNat_natCast,Int.toNat_natCast]
     rfl
end Go.Abs.D2
-- K6B
namespace Go.Abs.D2
open Go Go.Eng Go.Abs Go.Proofs
theorem tag_seed (x:List UInt8) (a:Int) (hx:x.length=32):Con Tryz.prog 50 [.s [108,101,97,102],.fz 36 ((x++seedBs a 4).map u8)] (Ret (.ag ((seedL x a).map u8))):=by
  have e2:(x++seedBs a 4).length=36:=by simp [hx]
  rw [seedL_eq, ←e2];exact tagged_ok _ _ (by omega) (by simp)
theorem seed_ok (x:List UInt8) (a:Int) (hx:x.length=32):Con Tryz.prog 89 [.ag (x.map u8),.i .i64 a] (Ret (.ag ((seedL x a).map u8))):=by
 refine enter Tryz.func89 rfl Tryz.ntmps89 (by kernel_rfl) (Nat.le_of_ble_eq_true rfl) fun w0 X0 hI=>?_
 refine at_seq<|at_region ?_
 refine at_op rfl (n_boxA 2 rfl rfl rfl ?_)
 refine at_op rfl (n_alloc 4 rfl ti23 rfl rfl ?_)
 refine at_nil<|x_tn<|at_seq<|at_region ?_
 refine at_op rfl (n_alloc 5 rfl ti175 rfl rfl ?_)
 refine at_nil<|x_tn<|at_seq ?_
 refine at_draw_tail 2 hmix (by kernel_rfl) ?_
 refine t1 (y_cuta0 Tryz.underlying175 ti5 rfl rfl (by simp) (by simp [maxLen])) rfl<|t1 (y_cuta0 Tryz.underlying23 ti5 rfl rfl (by simp [hx]) (by simp [maxLen])) rfl ?_
 refine at_snil ?_
 refine at_op rfl (n_copy Tryz.underlying68 ti5 rfl rfl rfl (SM_full rfl (by simp [hx])) (by first|rfl|omega|(simp<;>omega)|(simp [*]<;>omega)) (by first|omega|(simp only [maxLen];omega)|(simp [maxLen];done)|(simp [maxLen];omega)|(simp [maxLen, *];omega)) (by first|omega|(simp only [maxLen];omega)|(simp [maxLen];done)|(simp [maxLen];omega)|(simp [maxLen, *];omega)) (by first|omega|(simp only [maxLen];omega)|(simp [maxLen];done)|(simp [maxLen];omega)|(simp [maxLen, *];omega)) (copy_seed (a:=a)) rfl ?_)
 refine at_nil<|x_tn<|at_seq<|at_seq<|at_region<|s1 ((y_p rfl).v (v':= .i .i64 0) rfl) rfl ?_
 refine at_nil<|x_tn<|at_block ?_
 refine at_loop (ι:=Nat) (fun i=> [(1,.i .i64 a),(4,.p 4 0),(5,.p 5 0),(10,.i .i64 (i:Nat))]) (fun i=>⟨[(4,some (zD.map u8)),(5,some ((x++seedBs a i++List.replicate (4 - i) 0).map u8))]⟩) (fun i=>i≤4) (fun i=>4 - i) ?_ ?_
 ·exact at_ex (0) (Nat.zero_le _) [(4,some 4),(5,some 5)] hI rfl rfl ⟨⟨_,rfl,.pure pu⟩,⟨_,rfl,.p rfl⟩,⟨_,rfl,.p rfl⟩,⟨_,rfl,.pure pu⟩,trivial⟩ ⟨.inr ⟨_,_,rfl,rfl,.pure pul⟩,.inr ⟨_,_,rfl,rfl,.pure pul⟩,trivial⟩
 rintro i hi
 refine at_seq<|at_region<|s1 (y_p rfl) rfl ?_
 refine at_nil<|x_tn<|at_seq ?_
 refine at_cond rfl (fun hc11=>?_) (fun hc11=>?_)
 ·have h11 : i < 4 := by have := of_decide_eq_true hc11; omega
  refine at_skip<|x_tn<|at_seq<|at_block<|at_seq<|at_region<|s1 (y_p rfl) rfl<|s1 (y_p rfl) rfl ?_
  refine at_nil<|x_tn<|at_region<|s1 (y_p rfl) rfl<|s1 (addN 32 i rfl rfl rfl rfl (by omega)) rfl<|s1 (y_p rfl) rfl<|s1 (y_p rfl) rfl<|s1 (mulN 8 i rfl rfl rfl rfl (by omega)) rfl<|s1 (subN 24 (8*i) rfl rfl rfl rfl (by omega) (by omega)) rfl<|s1 (y_shr rfl rfl (by omega)) rfl<|s1 ((y_conv Tryz.underlying3 Tryz.underlying5 rfl).v (shr_byte a i h11)) rfl<|s1 (y_ixa (32+i) Tryz.underlying175 ti5 rfl rfl rfl (by omega) rfl) rfl ?_
  refine at_op rfl (n_store1 ti5 rfl rfl rfl rfl (by simp [hx];omega) (set_seed hx a i h11) ?_)
  refine at_nil<|x_bn<|x_tn<|at_region<|s1 (addN _ 1 rfl rfl rfl rfl (by omega)) rfl<|s1 (y_p rfl) rfl ?_
  refine at_nil ?_
  exact at_end (i+1) (by omega) (by omega) [(4,some 4),(5,some 5)] hI rfl rfl ⟨⟨_,rfl,.pure pu⟩,⟨_,rfl,.p rfl⟩,⟨_,rfl,.p rfl⟩,⟨_,rfl,.pure pu⟩,trivial⟩ ⟨.inr ⟨_,_,rfl,rfl,.pure pul⟩,.inr ⟨_,_,rfl,rfl,.of (by rfl) (.pure pul)⟩,trivial⟩
 ·have h11 : i = 4 := by have := of_decide_eq_false hc11; omega
  subst h11
  refine at_exit<|x_te<|x_te<|x_be<|x_tn<|at_seq<|at_region<|s1 (y_cuta0 Tryz.underlying175 ti5 rfl rfl (by simp [hx]) (by simp [maxLen])) rfl ?_
  refine at_op rfl (n_call true rfl (.cons (.pure pu) (.cons (.sl rfl rfl rfl (view_eq (by simp [hx]) (by simp)) (VwL.pure pul) pul) .nil)) (tag_seed x a hx) pu (.inr fu) rfl ?_)
  refine at_op rfl (n_storeA ti23 rfl rfl rfl (by first|rfl|omega|(simp<;>omega)|(simp [*]<;>omega)) (by first|rfl|omega|(simp<;>omega)|(simp [*]<;>omega)) ?_)
  refine at_nil<|x_tn<|at_ret ?_
  refine at_result (rs:= [.cell 4 23]) rfl (r_cellA ti23 rfl rfl (List.take_of_length_le (by simp)) (by simp) r_nil) rfl
theorem publics_ok (x:List UInt8) (n:Nat):Con Tryz.prog 94 [.ag (x.map u8),nI n] (Ret (.fn (.func 144) [] [.fp [nI n],.fp (x.map u8)])):=by
 refine enter Tryz.func94 rfl Tryz.ntmps94 (by kernel_rfl) (Nat.le_of_ble_eq_true rfl) fun w0 X0 hI=>?_
 refine at_seq<|at_region ?_
 refine at_op rfl (n_boxA 2 rfl rfl rfl ?_)
 refine at_op rfl (n_box1 3 rfl rfl rfl rfl ?_)
 refine s1 (y_p rfl) rfl ?_
 refine at_nil<|x_tn<|at_seq ?_
 refine at_frzP 2 rfl rfl pul ?_
 refine at_frzP 3 rfl rfl pul ?_
 refine at_region<|s1 (y_func (us:= []) (vs:= [.fp [nI n],.fp (x.map u8)]) rfl rfl) rfl<|s1 (y_p rfl) rfl ?_
 refine at_nil<|x_tn<|at_ret ?_
 refine at_result (rs:= [.tmp 4]) rfl (r_tmp rfl r_nil) rfl
theorem appendSeqD_ok (x:List UInt8) (n:Nat) (hx:x.length=32) (hn:n≤256):Con Tryz.prog 143 [.nl,.fn (.func 144) [] [.fp [nI n],.fp (x.map u8)]] (RetO 32 n ((kpubs x n).flatten.map u8)):=by
 refine enterM Tryz.func143 rfl Tryz.ntmps143 (by kernel_rfl) (Nat.le_of_ble_eq_true rfl) fun w0 X0 hI hS=>?_
 refine at_seq<|at_region ?_
 refine at_op rfl (n_box1 2 rfl rfl rfl rfl ?_)
 refine s1 (y_p rfl) rfl ?_
 refine at_nil<|x_tn<|at_seq<|at_seq<|at_region<|s1 (y_p rfl) rfl ?_
 refine at_nil<|x_tn<|at_block ?_
 refine at_range [2] [(0,_),(1,_),(2,_),(4,_),(6,_)] hI rfl ⟨rfl,⟨rfl,⟨rfl,⟨rfl,⟨rfl,trivial⟩⟩⟩⟩⟩ (by first|rfl|(simp [onlyE,refsE,refs,refsL,refsL_pul,refs_pu,memN];done)) rfl Tryz.func144 rfl Tryz.ntmps144 (by kernel_rfl) (Nat.le_of_ble_eq_true rfl) fun w1 l1 D1 rc1 hR1=>?_
 refine at_seq<|at_region<|s1 (y_load ti3 rfl rfl rfl) rfl<|s1 ((y_p rfl).v (v':= .i .i64 0) rfl) rfl ?_
 refine at_nil<|x_tn<|at_block ?_
 refine at_loop (ι:=Nat) (fun i=> [(0,yv l1),(1,.fp [nI n]),(2,.fp (x.map u8)),(5,nI n),(6,nI i)]) (fun i=>⟨[(2,some ([.sl 11 32 0 i])),(11,some ((kpubs x i).flatten.map u8))]⟩) (fun i=>i≤n) (fun i=>n - i) ?_ ?_
 ·exact at_ex (0) (Nat.zero_le _) [(2,some 2),(11,none)] hR1.sub.ids rfl rfl ⟨⟨_,rfl,.pure trivial⟩,⟨_,rfl,.pure pu⟩,⟨_,rfl,.pure pu⟩,⟨_,rfl,.pure pu⟩,⟨_,rfl,.pure pu⟩,trivial⟩ ⟨.inr ⟨_,_,rfl,rfl,.cons (.nl rfl) .nil⟩,.inl ⟨rfl,rfl⟩,trivial⟩
 rintro i hi
 have hfl:=(D32_kpubs x i).len
 rw [len_kpubs]at hfl
 refine at_seq<|at_region<|s1 (y_p rfl) rfl ?_
 refine at_nil<|x_tn<|at_seq ?_
 refine at_cond rfl (fun hc7=>?_) (fun hc7=>?_)
 ·have h7 : i < n := by have := of_decide_eq_true hc7; omega
  refine at_skip<|x_tn<|at_seq<|at_block<|at_seq<|at_region<|s1 (y_p rfl) rfl<|s1 (y_p rfl) rfl ?_
  refine at_nil<|x_tn<|at_seq<|at_region<|s1 (y_p rfl) rfl<|s1 (y_loadA ti23 rfl rfl (List.take_of_length_le (by simp [hx])) (by simp [hx])) rfl<|s1 (y_p rfl) rfl ?_
  refine at_op rfl (n_call false rfl (.cons (.pure pu) (.cons (.pure pu) (.nil))) (seed_ok x (i:Nat) hx) pu (.inl rfl) rfl ?_)
  refine at_op rfl (n_call false rfl (.cons (.pure pu) (.nil)) (public_ok (seedL x (i:Nat)) (by simp)) pu (.inl rfl) rfl ?_)
  refine at_yield [2] [(0,_),(1,_),(2,_),(4,_),(5,_),(6,_),(7,_),(8,_),(9,_),(10,_),(11,_),(12,_),(13,_)] hR1 hR1.sub.ids rfl ⟨rfl,⟨rfl,⟨rfl,⟨rfl,⟨rfl,⟨rfl,⟨rfl,⟨rfl,⟨rfl,⟨rfl,⟨rfl,⟨rfl,⟨rfl,trivial⟩⟩⟩⟩⟩⟩⟩⟩⟩⟩⟩⟩⟩ (by first|rfl|(simp [onlyE,refsE,refs,refsL,refsL_pul,refs_pu,memN];done)) rfl rfl rfl rfl rfl fun w2 tm2 hd2=>?_
  refine at_region ?_
  refine at_op rfl (n_alloc 5 rfl ti23 rfl rfl ?_)
  refine at_op rfl (n_storeA ti23 rfl rfl rfl (by first|rfl|omega|(simp<;>omega)|(simp [*]<;>omega)) (by first|rfl|omega|(simp<;>omega)|(simp [*]<;>omega)) ?_)
  refine at_nil ?_
  refine at_begin hd2 fun w3 hd3=>?_
  refine at_block<|at_region<|s1 (y_load ti41 rfl rfl rfl) rfl<|s1 (y_loadA0 ti23 rfl rfl (by first|rfl|omega|(simp<;>omega)|(simp [*]<;>omega))) rfl ?_
  refine at_op rfl (n_bs 10 rfl Tryz.underlying41 ti23 rfl rfl rfl (by first|(simp [cellsA];done)|(simp [cellsA, *];done)) (List.append_nil ((pubD (seedL x (i:Nat))).map u8)) rfl rfl rfl ?_)
  refine at_op rfl (n_app 111 rfl Tryz.underlying41 ti23 rfl (.sl rfl (by rw [List.length_map];exact hfl)) rfl (SM_full rfl (by first|rfl|omega|(simp<;>omega)|(simp [*]<;>omega))) (by simp) (by simp only [maxLen];omega) (by omega) rfl rfl rfl ?_)
  refine at_op rfl (n_store1 ti41 rfl rfl rfl rfl (by first|rfl|omega|(simp<;>omega)|(simp [*]<;>omega)) rfl ?_)
  refine at_nil<|x_bn ?_
  refine at_rend hR1 hd3 rfl ?_
  refine s1 (y_p rfl) rfl ?_
  refine at_nil<|x_tn ?_
  refine at_else rfl ?_
  refine at_skip<|x_bn<|x_tn<|at_region<|s1 (addN _ 1 rfl rfl rfl rfl (by omega)) rfl<|s1 (y_p rfl) rfl ?_
  refine at_nil ?_
  exact at_end (i+1) (by omega) (by omega) [(2,some 2),(11,some 111)] hR1.sub.ids rfl rfl ⟨⟨_,rfl,.pure trivial⟩,⟨_,rfl,.pure pu⟩,⟨_,rfl,.pure pu⟩,⟨_,rfl,.pure pu⟩,⟨_,rfl,.pure pu⟩,trivial⟩ ⟨.inr ⟨_,_,rfl,rfl,.cons (.sl rfl (by first|rfl|omega|(simp<;>omega)|(simp [*]<;>omega))) .nil⟩,.inr ⟨_,_,rfl,rfl,.of (kpubs_flat x i) (.pure pul)⟩,trivial⟩
 ·have h7 : i = n := by have := of_decide_eq_false hc7; omega
  subst h7
  refine at_exit<|x_te<|x_te<|x_be ?_
  refine at_itnil rfl hR1 hS ?_
  refine x_bn<|x_tn<|at_seq<|at_region<|s1 (y_load ti41 rfl rfl rfl) rfl<|s1 (y_p rfl) rfl ?_
  refine at_nil<|x_tn<|at_ret ?_
  refine at_resultM (rs:= [.tmp 4]) rfl rfl rfl hS (dn:= [D1]) rfl rfl (by simp) rfl (r_tmp rfl r_nil) ⟨11,rfl,rfl⟩
theorem collectD_ok (x:List UInt8) (n:Nat) (hx:x.length=32) (hn:n≤256):Con Tryz.prog 93 [.fn (.func 144) [] [.fp [nI n],.fp (x.map u8)]] (Ret (dgs (kpubs x n))):=by
 refine enter Tryz.func93 rfl Tryz.ntmps93 (by kernel_rfl) (Nat.le_of_ble_eq_true rfl) fun w0 X0 hI=>?_
 refine at_seq<|at_region<|s1 (y_p rfl) rfl ?_
 refine at_nil<|x_tn<|at_seq<|at_region<|s1 (y_p rfl) rfl ?_
 refine at_op rfl (n_callO 4 rfl false rfl (.cons (.pure pu) (.cons (.pure pu) .nil)) (appendSeqD_ok x n hx hn) pul (.inl rfl) rfl ?_)
 refine s1 (y_p rfl) rfl ?_
 refine at_nil<|x_tn<|at_ret ?_
 refine at_frz 2 rfl rfl pul (view_eq (by rw [List.length_map,(D32_kpubs x n).len,len_kpubs]) rfl) ?_
 refine at_result (rs:= [.tmp 2]) rfl (r_tmp rfl r_nil) ?_
 exact congrArg (fun z=>A.fz z _) (len_kpubs x n).symm
theorem pubs_ok (x:List UInt8) (n:Int) (hx:x.length=32):Con Tryz.prog 44 [.ag (x.map u8),.i .i64 n] (Ret (if sizeK n then .tu [dgs (kpubs x n.toNat),.i .i64 0]else .tu [.nl,.i .i64 60])):=by
 refine enter Tryz.func44 rfl Tryz.ntmps44 (by kernel_rfl) (Nat.le_of_ble_eq_true rfl) fun w0 X0 hI=>?_
 refine at_seq<|at_region ?_
 refine at_op rfl (n_boxA 2 rfl rfl rfl ?_)
 refine s1 (y_p rfl) rfl<|s1 ((y_p rfl).v (v':= .i .i64 0) rfl) rfl ?_
 refine at_nil<|x_tn<|at_seq<|at_seq<|at_region<|s1 (y_p rfl) rfl<|s1 (y_p rfl) rfl<|s1 (y_p rfl) rfl ?_
 refine g_or 2 rfl rfl rfl rfl (fun hb8=> .step (y_p rfl) rfl rfl<| .step (y_p rfl) rfl rfl<| .done) rfl rfl ?_
 refine at_nil<|x_tn ?_
 refine at_cond rfl (fun hc11=>?_) (fun hc11=>?_)
 ·have hcs : ¬ sizeK n := by intro h; unfold sizeK at h; simp at hc11; omega
  refine at_seq<|at_region<|s1 (y_p rfl) rfl<|s1 ((y_p rfl).v (v':= .i .i64 60) rfl) rfl ?_
  refine at_nil<|x_tn<|at_ret<|x_tr ?_
  refine at_result (rs:= [.tmp 4,.tmp 5]) rfl (r_tmp rfl (r_tmp rfl r_nil)) ?_
  exact(if_neg hcs).symm
 ·have hcs : sizeK n := by unfold sizeK; simp at hc11; omega
  have hsz:=hcs
  obtain⟨k,rfl,h1,h2⟩:=sizeK_nat hcs
  refine at_skip<|x_tn<|at_seq<|at_region<|s1 (y_loadA0 ti23 rfl rfl (by first|rfl|omega|(simp<;>omega)|(simp [*]<;>omega))) rfl<|s1 (y_p rfl) rfl ?_
  refine at_op rfl (n_call false rfl (.cons (.pure pu) (.cons (.pure pu) (.nil))) (publics_ok x k) pu (.inl rfl) rfl ?_)
  refine at_op rfl (n_call false rfl (.cons (.pure pu) (.nil)) (collectD_ok x k hx h2) pu (.inl rfl) rfl ?_)
  refine s1 (y_p rfl) rfl<|s1 ((y_p rfl).v (v':= .i .i64 0) rfl) rfl ?_
  refine at_nil<|x_tn<|at_ret ?_
  refine at_result (rs:= [.tmp 4,.tmp 5]) rfl (r_tmp rfl (r_tmp rfl r_nil)) ?_
  exact(if_pos hsz).symm
theorem root_ok (x:List UInt8) (n:Int) (hx:x.length=32):Con Tryz.prog 27 [.ag (x.map u8),.i .i64 n] (Ret (rootA x n)):=by
 refine enter Tryz.func27 rfl Tryz.ntmps27 (by kernel_rfl) (Nat.le_of_ble_eq_true rfl) fun w0 X0 hI=>?_
 refine at_seq<|at_region ?_
 refine at_op rfl (n_boxA 2 rfl rfl rfl ?_)
 refine at_op rfl (n_alloc 4 rfl ti23 rfl rfl ?_)
 refine s1 ((y_p rfl).v (v':= .i .i64 0) rfl) rfl ?_
 refine at_nil<|x_tn<|at_seq ?_
 rcases(Decidable.em (sizeK n)).symm with hcs|hcs
 ·skip
  refine at_region<|s1 (y_loadA0 ti23 rfl rfl (by first|rfl|omega|(simp<;>omega)|(simp [*]<;>omega))) rfl<|s1 (y_p rfl) rfl ?_
  refine at_op rfl (n_call false rfl (.cons (.pure pu) (.cons (.pure pu) (.nil))) (Con.cast (pubs_ok x n hx) (if_neg hcs)) pu (.inl rfl) rfl ?_)
  refine s1 (y_p rfl) rfl<|s1 (y_p rfl) rfl<|s1 (y_p rfl) rfl<|s1 (y_p rfl) rfl<|s1 (y_p rfl) rfl ?_
  refine at_nil<|x_tn<|at_seq<|at_seq<|at_region<|s1 (y_p rfl) rfl<|s1 ((y_p rfl).v (v':= .b true) (rfl)) rfl ?_
  refine at_nil<|x_tn ?_
  refine at_then rfl ?_
  refine at_seq<|at_region<|s1 (y_loadA0 ti23 rfl rfl (by first|rfl|omega|(simp<;>omega)|(simp [*]<;>omega))) rfl<|s1 (y_p rfl) rfl ?_
  refine at_op rfl (n_storeA ti23 rfl rfl rfl (by first|rfl|omega|(simp<;>omega)|(simp [*]<;>omega)) (by first|rfl|omega|(simp<;>omega)|(simp [*]<;>omega)) ?_)
  refine s1 (y_p rfl) rfl ?_
  refine at_nil<|x_tn<|at_ret<|x_tr ?_
  refine at_result (rs:= [.cell 4 23,.tmp 5]) rfl (r_cellA ti23 rfl rfl (List.take_of_length_le (by simp)) (by simp) (r_tmp rfl r_nil)) ?_
  exact(rootA_no hcs).symm
 ·have hsz := hcs
  obtain⟨k,rfl,h1,h2⟩:=sizeK_nat hcs
  refine at_region<|s1 (y_loadA0 ti23 rfl rfl (by first|rfl|omega|(simp<;>omega)|(simp [*]<;>omega))) rfl<|s1 (y_p rfl) rfl ?_
  refine at_op rfl (n_call false rfl (.cons (.pure pu) (.cons (.pure pu) (.nil))) (Con.cast (pubs_ok x k hx) (if_pos hsz)) pu (.inl rfl) rfl ?_)
  refine s1 (y_p rfl) rfl<|s1 (y_p rfl) rfl<|s1 (y_p rfl) rfl<|s1 (y_p rfl) rfl<|s1 (y_p rfl) rfl ?_
  refine at_nil<|x_tn<|at_seq<|at_seq<|at_region<|s1 (y_p rfl) rfl<|s1 ((y_p rfl).v (v':= .b false) (rfl)) rfl ?_
  refine at_nil<|x_tn ?_
  refine at_else rfl ?_
  refine at_skip<|x_tn<|at_seq<|at_region<|s1 (y_p rfl) rfl ?_
  refine at_op rfl (n_call false rfl (.cons (.pure pu) (.nil)) (tree_ok _ (kpubs x k) (Nat.le_refl _) (D32_kpubs x k) (by simp;omega)) pu (.inl rfl) rfl ?_)
  refine at_op rfl (n_storeA ti23 rfl rfl rfl (by first|rfl|omega|(simp<;>omega)|(simp [*]<;>omega)) (by first|rfl|omega|(simp<;>omega)|(simp [*]<;>omega)) ?_)
  refine s1 ((y_p rfl).v (v':= .i .i64 0) rfl) rfl ?_
  refine at_nil<|x_tn<|at_ret ?_
  refine at_result (rs:= [.cell 4 23,.tmp 5]) rfl (r_cellA ti23 rfl rfl (List.take_of_length_le (by simp)) (by simp) (r_tmp rfl r_nil)) ?_
  exact(rootA_yes hsz).symm
end Go.Abs.D2
-- C5E
namespace Go.Abs.D2
open Go Go.Eng Go.Abs Go.Proofs
end Go.Abs.D2
-- K6D
namespace Go.Abs.D2
open Go Go.Eng Go.Abs Go.Proofs
theorem vc1_ok (n:Int):Con Tryz.prog 127 [.fp [.i .i64 n]] (Ret (.b (decide (sizeK n)))):=by
 refine enter Tryz.func127 rfl Tryz.ntmps127 (by kernel_rfl) (Nat.le_of_ble_eq_true rfl) fun w0 X0 hI=>?_
 refine at_seq<|at_region<|s1 (y_p rfl) rfl ?_
 refine at_nil<|x_tn<|at_seq<|at_region<|s1 (y_load ti3 rfl rfl rfl) rfl<|s1 (y_p rfl) rfl<|s1 (y_p rfl) rfl ?_
 refine g_and 2 rfl rfl rfl rfl (fun hb4=> .step (y_load ti3 rfl rfl rfl) rfl rfl<| .step (y_p rfl) rfl rfl<| .done) rfl rfl ?_
 refine s1 (y_p rfl) rfl ?_
 refine at_nil<|x_tn<|at_ret ?_
 refine at_result (rs:= [.tmp 1]) rfl (r_tmp rfl r_nil) ?_
 exact congrArg A.b (by rw [Bool.eq_iff_iff,decide_eq_true_eq];simp [sizeK])
theorem vc2_ok (a n:Int) (S P:List (List UInt8)):Con Tryz.prog 128 [.fp [.i .i64 a,dgs S,dgs P],.fp [.i .i64 n]] (Ret (.b (decide (atK n a)))):=by
 refine enter Tryz.func128 rfl Tryz.ntmps128 (by kernel_rfl) (Nat.le_of_ble_eq_true rfl) fun w0 X0 hI=>?_
 refine at_seq<|at_region<|s1 (y_p rfl) rfl ?_
 refine at_nil<|x_tn<|at_seq<|at_region<|s1 (y_fldf Tryz.underlying43 rfl ti3 (by decide) rfl rfl) rfl<|s1 (y_load ti3 rfl rfl rfl) rfl<|s1 (y_p rfl) rfl<|s1 (y_p rfl) rfl ?_
 refine g_and 4 rfl rfl rfl rfl (fun hb6=> .step (y_fldf Tryz.underlying43 rfl ti3 (by decide) rfl rfl) rfl rfl<| .step (y_load ti3 rfl rfl rfl) rfl rfl<| .step (y_load ti3 rfl rfl rfl) rfl rfl<| .step (y_p rfl) rfl rfl<| .done) rfl rfl ?_
 refine s1 (y_p rfl) rfl ?_
 refine at_nil<|x_tn<|at_ret ?_
 refine at_result (rs:= [.tmp 2]) rfl (r_tmp rfl r_nil) ?_
 exact congrArg A.b (atK_b n a)
theorem vc3_ok (m:List UInt8) (a:Int) (S P:List (List UInt8)) (hm:m.length=32) (hS:D32 S):ConS Tryz.prog 129 [.fp (m.map u8),.fp [.i .i64 a,dgs S,dgs P],.p 9 0] ⟨[(9,some (zD.map u8))]⟩ (RetS (.b (decide (recE S=0))) [(9,(recD m S).map u8)]):=by
 refine enterS Tryz.func129 rfl Tryz.ntmps129 (by kernel_rfl) (Nat.le_of_ble_eq_true rfl) fun w0 X0 hI=>?_
 refine at_seq<|at_region<|s1 (y_p rfl) rfl ?_
 refine at_nil<|x_tn<|at_seq<|at_region<|s1 (y_loadA ti23 rfl rfl (List.take_of_length_le (by simp [hm])) (by simp [hm])) rfl<|s1 (y_fldf Tryz.underlying43 rfl ti41 (by decide) rfl rfl) rfl<|s1 (y_load ti41 rfl rfl rfl) rfl ?_
 refine at_op rfl (n_call false rfl (.cons (.pure pu) (.cons (.pure pu) (.nil))) (recover_ok m S hm hS) pu (.inl rfl) rfl ?_)
 refine s1 (y_p rfl) rfl<|s1 (y_p rfl) rfl<|s1 (y_p rfl) rfl ?_
 refine at_op rfl (n_alloc 4 rfl ti23 rfl rfl ?_)
 refine at_op rfl (n_storeA ti23 rfl rfl rfl (by first|rfl|omega|(simp<;>omega)|(simp [*]<;>omega)) (by first|rfl|omega|(simp<;>omega)|(simp [*]<;>omega)) ?_)
 refine s1 (y_p rfl) rfl ?_
 refine at_nil<|x_tn<|at_seq<|at_region<|s1 (y_loadA0 ti23 rfl rfl (by first|rfl|omega|(simp<;>omega)|(simp [*]<;>omega))) rfl ?_
 refine at_op rfl (n_storeA ti23 rfl rfl rfl (by first|rfl|omega|(simp<;>omega)|(simp [*]<;>omega)) (by first|rfl|omega|(simp<;>omega)|(simp [*]<;>omega)) ?_)
 refine at_nil<|x_tn<|at_seq<|at_region<|s1 (y_p rfl) rfl<|s1 ((y_p rfl).v (v':= .b (decide (recE S=0))) (congrArg A.b (recE_b S))) rfl<|s1 (y_p rfl) rfl ?_
 refine at_nil<|x_tn<|at_ret ?_
 refine at_result (rs:= [.tmp 3]) rfl (r_tmp rfl r_nil) (retS_1 rfl)
theorem vc4_ok (r m:List UInt8) (n a:Int) (S P:List (List UInt8)) (hr:r.length=32) (hP:D32 P):ConS Tryz.prog 131 [.p 9 0,.fp [.i .i64 a,dgs S,dgs P],.fp [.i .i64 n],.fp (r.map u8)] ⟨[(9,some ((recD m S).map u8))]⟩ (RetS (.b ((climbE a n P.length==0)&&(climbD (recD m S) a n P==r))) [(9,(recD m S).map u8)]):=by
 refine enterS Tryz.func131 rfl Tryz.ntmps131 (by kernel_rfl) (Nat.le_of_ble_eq_true rfl) fun w0 X0 hI=>?_
 refine at_seq<|at_region<|s1 (y_p rfl) rfl ?_
 refine at_nil<|x_tn<|at_seq<|at_region<|s1 (y_loadA0 ti23 rfl rfl (by first|rfl|omega|(simp<;>omega)|(simp [*]<;>omega))) rfl<|s1 (y_fldf Tryz.underlying43 rfl ti3 (by decide) rfl rfl) rfl<|s1 (y_load ti3 rfl rfl rfl) rfl<|s1 (y_load ti3 rfl rfl rfl) rfl<|s1 (y_fldf Tryz.underlying43 rfl ti41 (by decide) rfl rfl) rfl<|s1 (y_load ti41 rfl rfl rfl) rfl ?_
 refine at_op rfl (n_call false rfl (.cons (.pure pu) (.cons (.pure pu) (.cons (.pure pu) (.cons (.pure pu) (.nil))))) (Con.cast (climbI_ok (recD m S) (by simp) a n P hP) (climbA_eq ..)) pu (.inl rfl) rfl ?_)
 refine s1 (y_p rfl) rfl<|s1 (y_p rfl) rfl<|s1 (y_p rfl) rfl ?_
 refine at_op rfl (n_alloc 5 rfl ti23 rfl rfl ?_)
 refine at_op rfl (n_storeA ti23 rfl rfl rfl (by first|rfl|omega|(simp<;>omega)|(simp [*]<;>omega)) (by first|rfl|omega|(simp<;>omega)|(simp [*]<;>omega)) ?_)
 refine s1 (y_p rfl) rfl ?_
 refine at_nil<|x_tn<|at_seq<|at_region<|s1 (y_p rfl) rfl<|s1 (y_p rfl) rfl<|s1 (y_p rfl) rfl ?_
 refine g_and 3 rfl rfl rfl rfl (fun hb19=> .step (y_loadA0 ti23 rfl rfl (by first|rfl|omega|(simp<;>omega)|(simp [*]<;>omega))) rfl rfl<| .step (y_loadA ti23 rfl rfl (List.take_of_length_le (by simp [hr])) (by simp [hr])) rfl rfl<| .step (y_aq Tryz.underlying23 Tryz.underlying5 ti5 (by kernel_rfl) rfl rfl (by first|assumption|(simp;done)|(simp [*];done)) (by first|assumption|(simp;done)|(simp [*];done))) rfl rfl<| .done) rfl rfl ?_
 refine s1 (y_p rfl) rfl ?_
 refine at_nil<|x_tn<|at_ret ?_
 refine at_result (rs:= [.tmp 4]) rfl (r_tmp rfl r_nil) (retS_1 rfl)
theorem kver_ok (r m:List UInt8) (n a:Int) (S P:List (List UInt8)) (hr:r.length=32) (hm:m.length=32) (hS:D32 S) (hP:D32 P):Con Tryz.prog 84 [.ag (r.map u8),.i .i64 n,.ag (m.map u8),.ag [.i .i64 a,dgs S,dgs P]] (Ret (.i .i64 (errK (verK r n m a S P)))):=by
 refine enter Tryz.func84 rfl Tryz.ntmps84 (by kernel_rfl) (Nat.le_of_ble_eq_true rfl) fun w0 X0 hI=>?_
 refine at_seq<|at_region ?_
 refine at_op rfl (n_boxA 4 rfl rfl rfl ?_)
 refine at_op rfl (n_box1 5 rfl rfl rfl rfl ?_)
 refine at_op rfl (n_boxA 6 rfl rfl rfl ?_)
 refine at_op rfl (n_boxA 7 rfl rfl rfl ?_)
 refine s1 ((y_p rfl).v (v':= .i .i64 0) rfl) rfl ?_
 refine at_nil<|x_tn<|at_seq<|at_region ?_
 refine at_op rfl (n_alloc 9 rfl ti23 rfl rfl ?_)
 refine at_nil<|x_tn<|at_seq ?_
 refine at_frzP 4 rfl rfl pul ?_
 refine at_frzP 5 rfl rfl pul ?_
 refine at_frzP 6 rfl rfl pul ?_
 refine at_frzP 7 rfl rfl pul ?_
 refine at_region<|s1 (y_func (us:= []) (vs:= [.fp [.i .i64 n]]) rfl rfl) rfl<|s1 (y_func (us:= []) (vs:= [.fp [.i .i64 a,dgs S,dgs P],.fp [.i .i64 n]]) rfl rfl) rfl<|s1 (y_func (us:= []) (vs:= [.fp (m.map u8),.fp [.i .i64 a,dgs S,dgs P],.p 9 0]) rfl rfl) rfl<|s1 (y_func (us:= []) (vs:= [.p 9 0,.fp [.i .i64 a,dgs S,dgs P],.fp [.i .i64 n],.fp (r.map u8)]) rfl rfl) rfl ?_
 refine at_op rfl (n_bs1 17 rfl Tryz.underlying169 ti25 rfl rfl rfl rfl rfl ?_)
 refine s1 (y_p rfl) rfl ?_
 refine at_nil<|x_tn<|at_seq<|at_seq<|at_region<|s1 (y_p rfl) rfl<|s1 (y_len Tryz.underlying169 rfl rfl rfl) rfl<|s1 ((y_p rfl).v (v':= .i .i64 0) rfl) rfl ?_
 refine at_nil<|x_tn<|at_block ?_
 refine at_loop (ι:=Nat) (fun i=> [(18,.sl 17 1 0 4),(19,nI 4),(20,nI i)]) (fun i=>⟨[(9,some ((pubK m S i).map u8)),(17,some ([.fn (.func 127) [] [.fp [.i .i64 n]],.fn (.func 128) [] [.fp [.i .i64 a,dgs S,dgs P],.fp [.i .i64 n]],.fn (.func 129) [] [.fp (m.map u8),.fp [.i .i64 a,dgs S,dgs P],.p 9 0],.fn (.func 131) [] [.p 9 0,.fp [.i .i64 a,dgs S,dgs P],.fp [.i .i64 n],.fp (r.map u8)]]))]⟩) (fun i=>i≤4∧(0<i→sizeK n)∧(1<i→atK n a)∧(2<i→recE S=0)∧(3<i→((climbE a n P.length==0)&&(climbD (recD m S) a n P==r))=true)) (fun i=>4 - i) ?_ ?_
 ·exact at_ex (0) (⟨by omega,fun h=>absurd h (by omega),fun h=>absurd h (by omega),fun h=>absurd h (by omega),fun h=>absurd h (by omega)⟩) [(9,some 9),(17,some 17)] hI rfl rfl ⟨⟨_,rfl,.sl rfl (by first|rfl|omega|(simp<;>omega)|(simp [*]<;>omega))⟩,⟨_,rfl,.pure pu⟩,⟨_,rfl,.pure pu⟩,trivial⟩ ⟨.inr ⟨_,_,rfl,rfl,.of (by rfl) (.pure pul)⟩,.inr ⟨_,_,rfl,rfl,.cons (.pure pu) (.cons (.pure pu) (.cons (.fn .nil (.cons (.pure pu) (.cons (.pure pu) (.cons (.p rfl) .nil)))) (.cons (.fn .nil (.cons (.p rfl) (.cons (.pure pu) (.cons (.pure pu) (.cons (.pure pu) .nil))))) .nil)))⟩,trivial⟩
 rintro i ⟨hi,p1,p2,p3,p4⟩
 refine at_seq<|at_region<|s1 (y_p rfl) rfl ?_
 refine at_nil<|x_tn<|at_seq ?_
 refine at_cond rfl (fun hc21=>?_) (fun hc21=>?_)
 ·have h21 : i < 4 := by have := of_decide_eq_true hc21; omega
  refine at_skip<|x_tn<|at_seq<|at_block<|at_seq ?_
  rcases show i=0∨i=1∨i=2∨i=3 by omega with hcs|hcs|hcs|hcs
  ·subst hcs
   refine at_region<|s1 (y_ixs 0 Tryz.underlying169 ti25 rfl rfl rfl rfl (by omega) rfl) rfl<|s1 (y_load ti25 rfl rfl rfl) rfl<|s1 (y_p rfl) rfl ?_
   refine at_nil<|x_tn<|at_seq<|at_region<|s1 (y_p rfl) rfl ?_
   refine at_op rfl (n_callv false rfl rfl (.cons (.pure pu) .nil) (vc1_ok n) pu (.inl rfl) rfl ?_)
   refine s1 (y_p rfl) rfl ?_
   refine at_nil<|x_tn ?_
   refine at_cond rfl (fun hc26=>?_) (fun hc26=>?_)
   ·skip
    refine at_seq<|at_region<|s1 ((y_p rfl).v (v':= .i .i64 60) rfl) rfl ?_
    refine at_nil<|x_tn<|at_ret<|x_br<|x_tr<|x_tr<|x_br<|x_tr ?_
    refine at_result (rs:= [.tmp 8]) rfl (r_tmp rfl r_nil) ?_
    exact congrArg (A.i .i64) (by rw [ver_k1 (by simpa using hc26)];rfl)
   ·skip
    refine at_skip<|x_bn<|x_tn<|at_region<|s1 (addN _ 1 rfl rfl rfl rfl (by omega)) rfl<|s1 (y_p rfl) rfl ?_
    refine at_nil ?_
    exact at_end (0+1) (⟨by omega,fun _=>by simpa using hc26,fun h=>absurd h (by omega),fun h=>absurd h (by omega),fun h=>absurd h (by omega)⟩) (by omega) [(9,some 9),(17,some 17)] hI rfl rfl ⟨⟨_,rfl,.sl rfl (by first|rfl|omega|(simp<;>omega)|(simp [*]<;>omega))⟩,⟨_,rfl,.pure pu⟩,⟨_,rfl,.pure pu⟩,trivial⟩ ⟨.inr ⟨_,_,rfl,rfl,.of (by rfl) (.pure pul)⟩,.inr ⟨_,_,rfl,rfl,.cons (.pure pu) (.cons (.pure pu) (.cons (.fn .nil (.cons (.pure pu) (.cons (.pure pu) (.cons (.p rfl) .nil)))) (.cons (.fn .nil (.cons (.p rfl) (.cons (.pure pu) (.cons (.pure pu) (.cons (.pure pu) .nil))))) .nil)))⟩,trivial⟩
  ·subst hcs
   refine at_region<|s1 (y_ixs 1 Tryz.underlying169 ti25 rfl rfl rfl rfl (by omega) rfl) rfl<|s1 (y_load ti25 rfl rfl rfl) rfl<|s1 (y_p rfl) rfl ?_
   refine at_nil<|x_tn<|at_seq<|at_region<|s1 (y_p rfl) rfl ?_
   refine at_op rfl (n_callv false rfl rfl (.cons (.pure pu) (.cons (.pure pu) .nil)) (vc2_ok a n S P) pu (.inl rfl) rfl ?_)
   refine s1 (y_p rfl) rfl ?_
   refine at_nil<|x_tn ?_
   refine at_cond rfl (fun hc26=>?_) (fun hc26=>?_)
   ·skip
    refine at_seq<|at_region<|s1 ((y_p rfl).v (v':= .i .i64 60) rfl) rfl ?_
    refine at_nil<|x_tn<|at_ret<|x_br<|x_tr<|x_tr<|x_br<|x_tr ?_
    refine at_result (rs:= [.tmp 8]) rfl (r_tmp rfl r_nil) ?_
    exact congrArg (A.i .i64) (by rw [ver_k2 (by simpa using hc26)];rfl)
   ·skip
    refine at_skip<|x_bn<|x_tn<|at_region<|s1 (addN _ 1 rfl rfl rfl rfl (by omega)) rfl<|s1 (y_p rfl) rfl ?_
    refine at_nil ?_
    exact at_end (1+1) (⟨by omega,fun _=>p1 (by omega),fun _=>by simpa using hc26,fun h=>absurd h (by omega),fun h=>absurd h (by omega)⟩) (by omega) [(9,some 9),(17,some 17)] hI rfl rfl ⟨⟨_,rfl,.sl rfl (by first|rfl|omega|(simp<;>omega)|(simp [*]<;>omega))⟩,⟨_,rfl,.pure pu⟩,⟨_,rfl,.pure pu⟩,trivial⟩ ⟨.inr ⟨_,_,rfl,rfl,.of (by rfl) (.pure pul)⟩,.inr ⟨_,_,rfl,rfl,.cons (.pure pu) (.cons (.pure pu) (.cons (.fn .nil (.cons (.pure pu) (.cons (.pure pu) (.cons (.p rfl) .nil)))) (.cons (.fn .nil (.cons (.p rfl) (.cons (.pure pu) (.cons (.pure pu) (.cons (.pure pu) .nil))))) .nil)))⟩,trivial⟩
  ·subst hcs
   refine at_region<|s1 (y_ixs 2 Tryz.underlying169 ti25 rfl rfl rfl rfl (by omega) rfl) rfl<|s1 (y_load ti25 rfl rfl rfl) rfl<|s1 (y_p rfl) rfl ?_
   refine at_nil<|x_tn<|at_seq<|at_region<|s1 (y_p rfl) rfl ?_
   refine at_op rfl (n_callG ⟨[(9,some (zD.map u8))]⟩ [(9,(recD m S).map u8)] false rfl rfl ⟨⟨rfl,VwL.pure pul⟩,trivial⟩ (.cons (.pure pu) (.cons (.pure pu) (.cons (.kp rfl) .nil))) (vc3_ok m a S P hm hS) trivial (.inl rfl) (upd_1 (c0:=zD.map u8) rfl pul ful) rfl ?_)
   refine s1 (y_p rfl) rfl ?_
   refine at_nil<|x_tn ?_
   refine at_cond rfl (fun hc26=>?_) (fun hc26=>?_)
   ·skip
    refine at_seq<|at_region<|s1 ((y_p rfl).v (v':= .i .i64 60) rfl) rfl ?_
    refine at_nil<|x_tn<|at_ret<|x_br<|x_tr<|x_tr<|x_br<|x_tr ?_
    refine at_result (rs:= [.tmp 8]) rfl (r_tmp rfl r_nil) ?_
    exact congrArg (A.i .i64) (by rw [ver_k3 (by simpa using hc26)];rfl)
   ·skip
    refine at_skip<|x_bn<|x_tn<|at_region<|s1 (addN _ 1 rfl rfl rfl rfl (by omega)) rfl<|s1 (y_p rfl) rfl ?_
    refine at_nil ?_
    exact at_end (2+1) (⟨by omega,fun _=>p1 (by omega),fun _=>p2 (by omega),fun _=>by simpa using hc26,fun h=>absurd h (by omega)⟩) (by omega) [(9,some 9),(17,some 17)] hI rfl rfl ⟨⟨_,rfl,.sl rfl (by first|rfl|omega|(simp<;>omega)|(simp [*]<;>omega))⟩,⟨_,rfl,.pure pu⟩,⟨_,rfl,.pure pu⟩,trivial⟩ ⟨.inr ⟨_,_,rfl,rfl,.of (by rfl) (.pure pul)⟩,.inr ⟨_,_,rfl,rfl,.cons (.pure pu) (.cons (.pure pu) (.cons (.fn .nil (.cons (.pure pu) (.cons (.pure pu) (.cons (.p rfl) .nil)))) (.cons (.fn .nil (.cons (.p rfl) (.cons (.pure pu) (.cons (.pure pu) (.cons (.pure pu) .nil))))) .nil)))⟩,trivial⟩
  ·subst hcs
   refine at_region<|s1 (y_ixs 3 Tryz.underlying169 ti25 rfl rfl rfl rfl (by omega) rfl) rfl<|s1 (y_load ti25 rfl rfl rfl) rfl<|s1 (y_p rfl) rfl ?_
   refine at_nil<|x_tn<|at_seq<|at_region<|s1 (y_p rfl) rfl ?_
   refine at_op rfl (n_callG ⟨[(9,some ((recD m S).map u8))]⟩ [(9,(recD m S).map u8)] false rfl rfl ⟨⟨rfl,VwL.pure pul⟩,trivial⟩ (.cons (.kp rfl) (.cons (.pure pu) (.cons (.pure pu) (.cons (.pure pu) .nil)))) (vc4_ok r m n a S P hr hP) trivial (.inl rfl) (upd_1 (c0:=(recD m S).map u8) rfl pul ful) rfl ?_)
   refine s1 (y_p rfl) rfl ?_
   refine at_nil<|x_tn ?_
   refine at_cond rfl (fun hc26=>?_) (fun hc26=>?_)
   ·skip
    refine at_seq<|at_region<|s1 ((y_p rfl).v (v':= .i .i64 60) rfl) rfl ?_
    refine at_nil<|x_tn<|at_ret<|x_br<|x_tr<|x_tr<|x_br<|x_tr ?_
    refine at_result (rs:= [.tmp 8]) rfl (r_tmp rfl r_nil) ?_
    exact congrArg (A.i .i64) (by rw [ver_k4 (by rwa [Bool.not_eq_true']at hc26)];rfl)
   ·skip
    refine at_skip<|x_bn<|x_tn<|at_region<|s1 (addN _ 1 rfl rfl rfl rfl (by omega)) rfl<|s1 (y_p rfl) rfl ?_
    refine at_nil ?_
    exact at_end (3+1) (⟨by omega,fun _=>p1 (by omega),fun _=>p2 (by omega),fun _=>p3 (by omega),fun _=>by simpa using hc26⟩) (by omega) [(9,some 9),(17,some 17)] hI rfl rfl ⟨⟨_,rfl,.sl rfl (by first|rfl|omega|(simp<;>omega)|(simp [*]<;>omega))⟩,⟨_,rfl,.pure pu⟩,⟨_,rfl,.pure pu⟩,trivial⟩ ⟨.inr ⟨_,_,rfl,rfl,.of (by rfl) (.pure pul)⟩,.inr ⟨_,_,rfl,rfl,.cons (.pure pu) (.cons (.pure pu) (.cons (.fn .nil (.cons (.pure pu) (.cons (.pure pu) (.cons (.p rfl) .nil)))) (.cons (.fn .nil (.cons (.p rfl) (.cons (.pure pu) (.cons (.pure pu) (.cons (.pure pu) .nil))))) .nil)))⟩,trivial⟩
 ·have h21 : i = 4 := by have := of_decide_eq_false hc21; omega
  subst h21
  refine at_exit<|x_te<|x_te<|x_be<|x_tn<|at_seq<|at_region<|s1 ((y_p rfl).v (v':= .i .i64 0) rfl) rfl ?_
  refine at_nil<|x_tn<|at_ret ?_
  refine at_result (rs:= [.tmp 8]) rfl (r_tmp rfl r_nil) ?_
  exact congrArg (A.i .i64) (by rw [ver_kt (p1 (by omega)) (p2 (by omega)) (p3 (by omega)) (p4 (by omega))];rfl)
end Go.Abs.D2
-- E5D
namespace Go.Abs.D2
open Go Go.Eng Go.Abs Go.Proofs
theorem eformed_E (l:List Ep) (hl:EpsOk l) (hn:l.length≤maxLen):ConE Tryz.prog 64 [epsA l] ⟨[]⟩ (fun r st=>∃σ,formS l=some σ∧RetMp (mapOf σ) r st) (fun u=>formS l=none∧u=misV 136 351):=by
 refine enterEM Tryz.func64 rfl Tryz.ntmps64 (by kernel_rfl) (Nat.le_of_ble_eq_true rfl) fun w0 X0 hI hS=>?_
 refine at_fseq ?_
 refine at_fin ?_
 simp only [maxLen]at hn
 refine at_region ?_
 refine at_op rfl (n_box1 1 rfl rfl rfl rfl ?_)
 refine s1 (y_p rfl) rfl ?_
 refine at_nil<|x_tn ?_
 refine at_fseq ?_
 refine at_fin ?_
 refine at_region ?_
 refine at_op rfl (n_makeMap rfl rfl fun b8=>?_)
 refine at_sayO 700 (cs':= [.mc b8 (mapOf σ0)]) rfl (congrArg (fun f=> [A.mc b8 f]) mapOf_nil) ?_
 refine s1 (y_p rfl) rfl ?_
 refine at_nil<|x_tn ?_
 refine at_fseq ?_
 refine at_fin ?_
 refine at_region ?_
 refine at_op rfl (n_alloc 4 rfl ti23 rfl rfl ?_)
 refine at_nil<|x_tn ?_
 refine at_fseq ?_
 refine at_fin ?_
 refine at_region ?_
 refine at_op rfl (n_alloc 5 rfl ti3 rfl rfl ?_)
 refine at_op rfl (n_alloc 6 rfl ti3 rfl rfl ?_)
 refine at_op rfl (n_store1 ti3 rfl rfl rfl rfl (by first|rfl|omega|(simp<;>omega)|(simp [*]<;>omega)) rfl ?_)
 refine at_op rfl (n_store1 ti3 rfl rfl rfl rfl (by first|rfl|omega|(simp<;>omega)|(simp [*]<;>omega)) rfl ?_)
 refine at_nil<|x_tn ?_
 refine at_fseq ?_
 refine at_fseq ?_
 refine at_fin ?_
 refine at_region<|s1 (y_load ti24 rfl rfl rfl) rfl<|s1 (y_p rfl) rfl ?_
 refine at_op rfl (n_call false rfl (.cons (.pure pu) (.cons (.pure pu) (.nil))) (eafter_ok l b8) pu (.inl rfl) rfl ?_)
 refine at_nil<|x_tn ?_
 refine at_fblock ?_
 refine at_rangeF [1,4,5,6,700] [(0,_),(1,_),(3,_),(4,_),(5,_),(6,_),(8,_),(9,_),(10,_),(11,_)] hI rfl ⟨rfl,⟨rfl,⟨rfl,⟨rfl,⟨rfl,⟨rfl,⟨rfl,⟨rfl,⟨rfl,⟨rfl,trivial⟩⟩⟩⟩⟩⟩⟩⟩⟩⟩ (by first|rfl|(simp [onlyE,refsE,refs,refsL,refsL_pul,refs_pu,memN];done)) rfl Tryz.func163 rfl Tryz.ntmps163 (by kernel_rfl) (Nat.le_of_ble_eq_true rfl) fun w1 l1 D1 rc1 hR1 hF1=>?_
 refine at_seq<|at_region<|s1 (y_load ti24 rfl rfl rfl) rfl<|s1 (y_len Tryz.underlying24 rfl rfl rfl) rfl<|s1 ((y_p rfl).v (v':= .i .i64 0) rfl) rfl ?_
 refine at_nil<|x_tn<|at_block ?_
 refine at_loop (ι:=Nat×(Int→Int)×Int×List UInt8) (fun⟨i,τ,day,prev⟩=> [(0,yv l1),(1,.fp [epsA l]),(2,.fp [.raw (.map (some b8))]),(6,epsA l),(7,nJ l.length),(8,nJ i)]) (fun⟨i,τ,day,prev⟩=>⟨[(1,some ([epsA l])),(4,some (prev.map u8)),(5,some ([nJ i])),(6,some ([.i .i64 day])),(700,some ([.mc b8 (mapOf τ)]))]⟩) (fun⟨i,τ,day,prev⟩=>i≤l.length∧prev.length=32∧formS l=frm (issL l) i day prev τ (l.drop i)) (fun⟨i,τ,day,prev⟩=>l.length - i) ?_ ?_
 ·exact at_ex ((0,σ0, -1,zD)) (⟨Nat.zero_le _,rfl,formS_eq l⟩) [(1,some 1),(4,some 4),(5,some 5),(6,some 6),(700,some 700)] hR1.sub.ids rfl rfl ⟨⟨_,rfl,.pure trivial⟩,⟨_,rfl,.pure pu⟩,⟨_,rfl,.pure pu⟩,⟨_,rfl,.pure pu⟩,⟨_,rfl,.pure pu⟩,⟨_,rfl,.pure pu⟩,trivial⟩ ⟨.inr ⟨_,_,rfl,rfl,.pure pul⟩,.inr ⟨_,_,rfl,rfl,.of rfl (.pure pul)⟩,.inr ⟨_,_,rfl,rfl,.of (rfl:_= [nJ 0]) (.pure pul)⟩,.inr ⟨_,_,rfl,rfl,.of (rfl:_= [A.i .i64 (-1)]) (.pure pul)⟩,.inr ⟨_,_,rfl,rfl,.pure pul⟩,trivial⟩
 rintro⟨i,τ,day,prev⟩ ⟨hi,hpl,hst⟩
 dsimp only
 refine at_seq<|at_region<|s1 (y_p rfl) rfl ?_
 refine at_nil<|x_tn<|at_seq ?_
 refine at_cond rfl (fun hc9=>?_) (fun hc9=>?_)
 ·have h9 : i < l.length := by have := of_decide_eq_true hc9; omega
  obtain⟨e,he⟩:∃e,l[i]? =some e:=⟨_,List.getElem?_eq_getElem h9⟩
  have hok:=hl e (List.mem_of_getElem? he)
  obtain⟨e0,he0⟩:∃e0,l[0]? =some e0:=⟨_,List.getElem?_eq_getElem (by omega)⟩
  have hi0:=issL_get he0
  have hpv:=hok.prev
  refine at_skip<|x_tn<|at_seq<|at_block<|at_seq<|at_region<|s1 (y_ixf i Tryz.underlying24 ti45 rfl rfl rfl (by omega) rfl) rfl<|s1 (y_loadA ti45 rfl rfl (eps_get hl he) hok.len) rfl ?_
  refine at_op rfl (n_alloc 1005 rfl ti45 rfl rfl ?_)
  refine at_op rfl (n_storeA ti45 rfl rfl rfl hok.len (by simp) ?_)
  refine at_nil<|x_tn<|at_seq<|at_seq<|at_region<|s1 (y_p rfl) rfl<|s1 (y_loadA0 ti45 rfl rfl hok.len) rfl<|s1 (y_load ti80 rfl rfl rfl) rfl ?_
  refine at_yield [1,4,5,6,700,1005] [(0,_),(1,_),(2,_),(5,_),(6,_),(7,_),(8,_),(9,_),(10,_),(11,_),(12,_),(13,_),(14,_)] hR1 hR1.sub.ids rfl ⟨rfl,⟨rfl,⟨rfl,⟨rfl,⟨rfl,⟨rfl,⟨rfl,⟨rfl,⟨rfl,⟨rfl,⟨rfl,⟨rfl,⟨rfl,trivial⟩⟩⟩⟩⟩⟩⟩⟩⟩⟩⟩⟩⟩ (by first|rfl|(simp [onlyE,refsE,refs,refsL,refsL_pul,refs_pu,memN];done)) rfl rfl rfl rfl rfl fun w2 tm2 hd2=>?_
  refine at_region ?_
  refine at_op rfl (n_alloc 7 rfl ti45 rfl rfl ?_)
  refine at_op rfl (n_storeA ti45 rfl rfl rfl hok.len (by simp) ?_)
  refine at_nil ?_
  refine at_begin hd2 fun w3 hd3=>?_
  refine at_block<|at_seq ?_
  rcases iss_ways e.iss e0.iss with hcs|hcs|hcs|hcs
  ·have hq := hcs
   refine at_draw_tail 17 hmix (by kernel_rfl) ?_
   refine t1 (y_fld Tryz.underlying45 rfl ti3 (by decide) rfl rfl) rfl<|t1 (y_load ti3 rfl rfl rfl) rfl<|t1 (y_load ti24 rfl rfl rfl) rfl<|t1 (y_ixf 0 Tryz.underlying24 ti45 rfl rfl rfl (by omega) rfl) rfl<|t1 (y_fldf Tryz.underlying45 rfl ti3 (by decide) rfl rfl) rfl<|t1 (y_load ti3 rfl rfl (eps_fld hl he0 (k:=0) rfl (by decide))) rfl<|t1 ((y_p rfl).v (v':= .b false) (congrArg A.b (beq_eq_false_iff_ne.2 (by omega)))) rfl<|t1 (y_p rfl) rfl<|t0g rfl rfl rfl rfl<|t0g rfl rfl rfl rfl ?_
   refine t0g rfl rfl rfl rfl<|t1 (y_p rfl) rfl<|t1 (y_p rfl) rfl<|t0g rfl rfl rfl rfl<|t0g rfl rfl rfl rfl<|t0g rfl rfl rfl rfl<|t1 (y_p rfl) rfl ?_
   refine at_snil ?_
   refine p_call ⟨[]⟩ false rfl trivial (.cons (.pure pu) (.cons (.pure pu) .nil)) (eneed_px 351) (fun u hu=>?_)
   refine x_tp ?_
   refine x_bp ?_
   refine at_rpanic ((congrArg (fun f=>Tryz.prog.funcs[f]?) hF1).trans Tryz.func64) hR1 hd3 fun w4 hR4=>?_
   refine x_tp ?_
   refine x_tp ?_
   refine x_bp ?_
   refine x_tp ?_
   refine x_tp ?_
   refine x_bp ?_
   refine at_itpanic hR4 hS ?_
   refine x_bp ?_
   refine x_tp ?_
   exact at_panickedM rfl rfl rfl hS (dn:= [D1]) rfl rfl (by simp) ⟨hst.trans (frm_no he (.inl (epB_f1 (by omega)))),hu⟩
  ·obtain ⟨hq, h0⟩ := hcs
   refine at_draw_tail 17 hmix (by kernel_rfl) ?_
   refine t1 (y_fld Tryz.underlying45 rfl ti3 (by decide) rfl rfl) rfl<|t1 (y_load ti3 rfl rfl rfl) rfl<|t1 (y_load ti24 rfl rfl rfl) rfl<|t1 (y_ixf 0 Tryz.underlying24 ti45 rfl rfl rfl (by omega) rfl) rfl<|t1 (y_fldf Tryz.underlying45 rfl ti3 (by decide) rfl rfl) rfl<|t1 (y_load ti3 rfl rfl (eps_fld hl he0 (k:=0) rfl (by decide))) rfl<|t1 ((y_p rfl).v (v':= .b true) (congrArg A.b (beq_iff_eq.2 (by omega)))) rfl<|t1 (y_p rfl) rfl<|t1g rfl rfl (y_fld Tryz.underlying45 rfl ti3 (by decide) rfl rfl) rfl<|t1g rfl rfl (y_load ti3 rfl rfl rfl) rfl ?_
   refine t1g rfl rfl ((y_p rfl).v (v':= .b false) (congrArg A.b (decide_eq_false (by omega)))) rfl<|t1 (y_p rfl) rfl<|t1 (y_p rfl) rfl<|t0g rfl rfl rfl rfl<|t0g rfl rfl rfl rfl<|t0g rfl rfl rfl rfl<|t1 (y_p rfl) rfl ?_
   refine at_snil ?_
   refine p_call ⟨[]⟩ false rfl trivial (.cons (.pure pu) (.cons (.pure pu) .nil)) (eneed_px 351) (fun u hu=>?_)
   refine x_tp ?_
   refine x_bp ?_
   refine at_rpanic ((congrArg (fun f=>Tryz.prog.funcs[f]?) hF1).trans Tryz.func64) hR1 hd3 fun w5 hR5=>?_
   refine x_tp ?_
   refine x_tp ?_
   refine x_bp ?_
   refine x_tp ?_
   refine x_tp ?_
   refine x_bp ?_
   refine at_itpanic hR5 hS ?_
   refine x_bp ?_
   refine x_tp ?_
   exact at_panickedM rfl rfl rfl hS (dn:= [D1]) rfl rfl (by simp) ⟨hst.trans (frm_no he (.inl (epB_f1 (by omega)))),hu⟩
  ·obtain ⟨hq, h0, h8⟩ := hcs
   refine at_draw_tail 17 hmix (by kernel_rfl) ?_
   refine t1 (y_fld Tryz.underlying45 rfl ti3 (by decide) rfl rfl) rfl<|t1 (y_load ti3 rfl rfl rfl) rfl<|t1 (y_load ti24 rfl rfl rfl) rfl<|t1 (y_ixf 0 Tryz.underlying24 ti45 rfl rfl rfl (by omega) rfl) rfl<|t1 (y_fldf Tryz.underlying45 rfl ti3 (by decide) rfl rfl) rfl<|t1 (y_load ti3 rfl rfl (eps_fld hl he0 (k:=0) rfl (by decide))) rfl<|t1 ((y_p rfl).v (v':= .b true) (congrArg A.b (beq_iff_eq.2 (by omega)))) rfl<|t1 (y_p rfl) rfl<|t1g rfl rfl (y_fld Tryz.underlying45 rfl ti3 (by decide) rfl rfl) rfl<|t1g rfl rfl (y_load ti3 rfl rfl rfl) rfl ?_
   refine t1g rfl rfl ((y_p rfl).v (v':= .b true) (congrArg A.b (decide_eq_true (by omega)))) rfl<|t1 (y_p rfl) rfl<|t1 (y_p rfl) rfl<|t1g rfl rfl (y_fld Tryz.underlying45 rfl ti3 (by decide) rfl rfl) rfl<|t1g rfl rfl (y_load ti3 rfl rfl rfl) rfl<|t1g rfl rfl ((y_p rfl).v (v':= .b false) (congrArg A.b (decide_eq_false (by omega)))) rfl<|t1 (y_p rfl) rfl ?_
   refine at_snil ?_
   refine p_call ⟨[]⟩ false rfl trivial (.cons (.pure pu) (.cons (.pure pu) .nil)) (eneed_px 351) (fun u hu=>?_)
   refine x_tp ?_
   refine x_bp ?_
   refine at_rpanic ((congrArg (fun f=>Tryz.prog.funcs[f]?) hF1).trans Tryz.func64) hR1 hd3 fun w6 hR6=>?_
   refine x_tp ?_
   refine x_tp ?_
   refine x_bp ?_
   refine x_tp ?_
   refine x_tp ?_
   refine x_bp ?_
   refine at_itpanic hR6 hS ?_
   refine x_bp ?_
   refine x_tp ?_
   exact at_panickedM rfl rfl rfl hS (dn:= [D1]) rfl rfl (by simp) ⟨hst.trans (frm_no he (.inl (epB_f1 (by omega)))),hu⟩
  ·have hq := hcs
   obtain⟨hq1,h0,h8⟩:=hcs
   refine at_draw_tail 17 hmix (by kernel_rfl) ?_
   refine t1 (y_fld Tryz.underlying45 rfl ti3 (by decide) rfl rfl) rfl<|t1 (y_load ti3 rfl rfl rfl) rfl<|t1 (y_load ti24 rfl rfl rfl) rfl<|t1 (y_ixf 0 Tryz.underlying24 ti45 rfl rfl rfl (by omega) rfl) rfl<|t1 (y_fldf Tryz.underlying45 rfl ti3 (by decide) rfl rfl) rfl<|t1 (y_load ti3 rfl rfl (eps_fld hl he0 (k:=0) rfl (by decide))) rfl<|t1 ((y_p rfl).v (v':= .b true) (congrArg A.b (beq_iff_eq.2 (by omega)))) rfl<|t1 (y_p rfl) rfl<|t1g rfl rfl (y_fld Tryz.underlying45 rfl ti3 (by decide) rfl rfl) rfl<|t1g rfl rfl (y_load ti3 rfl rfl rfl) rfl ?_
   refine t1g rfl rfl ((y_p rfl).v (v':= .b true) (congrArg A.b (decide_eq_true (by omega)))) rfl<|t1 (y_p rfl) rfl<|t1 (y_p rfl) rfl<|t1g rfl rfl (y_fld Tryz.underlying45 rfl ti3 (by decide) rfl rfl) rfl<|t1g rfl rfl (y_load ti3 rfl rfl rfl) rfl<|t1g rfl rfl ((y_p rfl).v (v':= .b true) (congrArg A.b (decide_eq_true (by omega)))) rfl<|t1 (y_p rfl) rfl ?_
   refine at_snil ?_
   refine at_op rfl (n_call false rfl (.cons (.pure pu) (.cons (.pure pu) .nil)) (eneed_ok 351) pu (.inl rfl) rfl ?_)
   refine at_nil<|x_tn<|at_seq<|at_region<|s1 (y_fld Tryz.underlying45 rfl ti3 (by decide) rfl rfl) rfl<|s1 (y_load ti3 rfl rfl rfl) rfl<|s1 (y_load ti3 rfl rfl rfl) rfl<|s1 (y_p rfl) rfl<|s1 (y_p rfl) rfl ?_
   refine g_and 5 rfl rfl rfl rfl (fun hb36=> .step (y_fld Tryz.underlying45 rfl ti43 (by decide) rfl rfl) rfl rfl<| .step (y_fld Tryz.underlying43 rfl ti3 (by decide) rfl rfl) rfl rfl<| .step (y_load ti3 rfl rfl (ep_sga hok)) rfl rfl<| .step (y_load ti3 rfl rfl rfl) rfl rfl<| .step (y_p rfl) rfl rfl<| .done) rfl rfl ?_
   refine s1 (y_p rfl) rfl ?_
   refine g_and 4 rfl rfl rfl rfl (fun hb43=> .step (y_fld Tryz.underlying45 rfl ti23 (by decide) rfl rfl) rfl rfl<| .step (y_loadA ti23 rfl rfl (ep_prev hok) (by simp [hok.prev])) rfl rfl<| .step (y_loadA0 ti23 rfl rfl (by rw [List.length_map,hpl])) rfl rfl<| .step (y_aq Tryz.underlying23 Tryz.underlying5 ti5 (by kernel_rfl) rfl rfl (by first|assumption|(simp;done)|(simp [*];done)) (by first|assumption|(simp;done)|(simp [*];done))) rfl rfl<| .done) rfl rfl ?_
   refine at_bc 48 rfl (fun hc48=>?_) (fun hc48=>?_)
   ·skip
    refine at_op rfl (n_call false rfl (.cons (.pure pu) (.cons (.pure pu) .nil)) (eneed_ok 351) pu (.inl rfl) rfl ?_)
    refine at_nil<|x_tn<|at_seq<|at_region<|s1 (y_fld Tryz.underlying45 rfl ti3 (by decide) rfl rfl) rfl<|s1 (y_load ti3 rfl rfl rfl) rfl<|s1 (y_load ti3 rfl rfl rfl) rfl<|s1 (y_p rfl) rfl<|s1 (y_p rfl) rfl ?_
    refine g_and 3 rfl rfl rfl rfl (fun hb54=> .step (y_fld Tryz.underlying45 rfl ti3 (by decide) rfl rfl) rfl rfl<| .step (y_load ti3 rfl rfl rfl) rfl rfl<| .step (y_p rfl) rfl rfl<| .done) rfl rfl ?_
    refine at_bc 58 rfl (fun hc58=>?_) (fun hc58=>?_)
    ·skip
     refine at_op rfl (n_call false rfl (.cons (.pure pu) (.cons (.pure pu) .nil)) (eneed_ok 351) pu (.inl rfl) rfl ?_)
     refine at_nil<|x_tn ?_
     refine at_fs ⟨_, [], []⟩ 7 4 hmix (le_refl rfl) ?_
     refine fs_q 0 [] [(5,none)] (y_load ti3 rfl rfl rfl) rfl rfl ?_
     refine fs_q 1 [0] [] (addN i 1 rfl rfl rfl rfl (by omega)) rfl rfl ?_
     refine fs_q 2 [] [(7,none)] (y_fld Tryz.underlying45 rfl ti3 (by decide) rfl rfl) rfl rfl ?_
     refine fs_q 3 [2] [(7,none)] (y_load ti3 rfl rfl rfl) rfl rfl ?_
     refine fs_q 4 [] [(7,none)] (y_loadA0 ti45 rfl rfl hok.len) rfl rfl ?_
     refine fs_call false 5 [4] [] gy0 rfl (.cons (.pure pu) (.nil)) (edig_ok e hok) pu (.inl rfl) rfl rfl ?_
     refine fs_sto1 0 6 [1] [(5,none)] rfl gy0 ti3 rfl rfl rfl rfl (by first|rfl|omega|(simp<;>omega)|(simp [*]<;>omega)) rfl rfl ?_
     refine fs_end (by kernel_rfl) ?_
     refine at_op rfl (n_store1 ti3 rfl rfl rfl rfl (by first|rfl|omega|(simp<;>omega)|(simp [*]<;>omega)) rfl ?_)
     refine at_op rfl (n_storeA ti23 rfl rfl rfl (by simp) (by simp [hpl]) ?_)
     refine at_nil<|x_bn ?_
     refine at_rend hR1 hd3 rfl ?_
     refine s1 (y_p rfl) rfl ?_
     refine at_nil<|x_tn ?_
     refine at_else rfl ?_
     refine at_skip<|x_tn ?_
     rcases tfC (chOk τ (-1) e.ch)with hcs|hcs
     ·skip
      refine at_region<|s1 (y_load ti80 rfl rfl rfl) rfl<|s1 (y_fld Tryz.underlying45 rfl ti31 (by decide) rfl rfl) rfl<|s1 (y_load ti31 rfl rfl rfl) rfl ?_
      refine p_call ⟨[(700,some [.mc b8 (mapOf τ)])]⟩ false rfl ⟨⟨rfl,VwL.pure pul⟩,trivial⟩ (.cons (.pure pu) (.cons (.pure pu) .nil)) (echange_px (Nat.le_trans hok.few (by decide)) hcs) (fun u hu=>?_)
      refine x_bp ?_
      refine x_tp ?_
      refine x_tp ?_
      refine x_bp ?_
      refine at_itpanic hR1 hS ?_
      refine x_bp ?_
      refine x_tp ?_
      exact at_panickedM rfl rfl rfl hS (dn:= [D1]) rfl rfl (by simp) ⟨hst.trans (frm_no he (.inr hcs)),hu.2⟩
     ·skip
      refine at_region<|s1 (y_load ti80 rfl rfl rfl) rfl<|s1 (y_fld Tryz.underlying45 rfl ti31 (by decide) rfl rfl) rfl<|s1 (y_load ti31 rfl rfl rfl) rfl ?_
      refine at_op rfl (n_callGd ⟨[(700,some [.mc b8 (mapOf τ)])]⟩ [(700, [.mc b8 (mapOf (chg τ e.ch))])] false rfl ⟨⟨rfl,VwL.pure pul⟩,trivial⟩ (.cons (.pure pu) (.cons (.pure pu) .nil)) (echange_ok (Nat.le_trans hok.few (by decide)) hcs) pu (.inl rfl) (fun p hp=>by rw [List.mem_singleton.1 hp];exact⟨⟨_,rfl⟩,pul,.inl rfl⟩) rfl ?_)
      refine at_nil<|x_bn<|x_tn<|at_region<|s1 (addN _ 1 rfl rfl rfl rfl (by omega)) rfl<|s1 (y_p rfl) rfl ?_
      refine at_nil ?_
      exact at_end (x:=(i,τ,day,prev)) ((i+1,chg τ e.ch,e.day,digE e)) (⟨show i+1≤l.length by omega,len_digE e,hst.trans (frm_yes he (epB_t hi0 hq (by simpa using hc48) (by simpa using hc58)) hcs)⟩) (show l.length - (i+1)<l.length - i by omega) [(1,some 1),(4,some 4),(5,some 5),(6,some 6),(700,some 700)] hR1.sub.ids rfl rfl ⟨⟨_,rfl,.pure trivial⟩,⟨_,rfl,.pure pu⟩,⟨_,rfl,.pure pu⟩,⟨_,rfl,.pure pu⟩,⟨_,rfl,.pure pu⟩,⟨_,rfl,.pure pu⟩,trivial⟩ ⟨.inr ⟨_,_,rfl,rfl,.pure pul⟩,.inr ⟨_,_,rfl,rfl,.pure pul⟩,.inr ⟨_,_,rfl,rfl,.of (rfl:_= [nJ (i+1)]) (.pure pul)⟩,.inr ⟨_,_,rfl,rfl,.of (rfl:_= [A.i .i64 e.day]) (.pure pul)⟩,.inr ⟨_,_,rfl,rfl,.pure pul⟩,trivial⟩
    ·skip
     refine p_call ⟨[]⟩ false rfl trivial (.cons (.pure pu) (.cons (.pure pu) .nil)) (eneed_px 351) (fun u hu=>?_)
     refine x_tp ?_
     refine x_bp ?_
     refine at_rpanic ((congrArg (fun f=>Tryz.prog.funcs[f]?) hF1).trans Tryz.func64) hR1 hd3 fun w7 hR7=>?_
     refine x_tp ?_
     refine x_tp ?_
     refine x_bp ?_
     refine x_tp ?_
     refine x_tp ?_
     refine x_bp ?_
     refine at_itpanic hR7 hS ?_
     refine x_bp ?_
     refine x_tp ?_
     exact at_panickedM rfl rfl rfl hS (dn:= [D1]) rfl rfl (by simp) ⟨hst.trans (frm_no he (.inl (epB_f3 (by simpa using hc58)))),hu⟩
   ·skip
    refine p_call ⟨[]⟩ false rfl trivial (.cons (.pure pu) (.cons (.pure pu) .nil)) (eneed_px 351) (fun u hu=>?_)
    refine x_tp ?_
    refine x_bp ?_
    refine at_rpanic ((congrArg (fun f=>Tryz.prog.funcs[f]?) hF1).trans Tryz.func64) hR1 hd3 fun w8 hR8=>?_
    refine x_tp ?_
    refine x_tp ?_
    refine x_bp ?_
    refine x_tp ?_
    refine x_tp ?_
    refine x_bp ?_
    refine at_itpanic hR8 hS ?_
    refine x_bp ?_
    refine x_tp ?_
    exact at_panickedM rfl rfl rfl hS (dn:= [D1]) rfl rfl (by simp) ⟨hst.trans (frm_no he (.inl (epB_f2 (by simpa using hc48)))),hu⟩
 ·obtain rfl : i = l.length := by have := of_decide_eq_false hc9; omega
  rw [List.drop_length]at hst
  refine at_exit<|x_te<|x_te<|x_be ?_
  refine at_itnil rfl hR1 hS ?_
  refine x_bn<|x_tn ?_
  refine at_fin ?_
  refine at_seq<|at_region<|s1 (y_p rfl) rfl<|s1 (y_p rfl) rfl ?_
  refine at_nil<|x_tn<|at_ret ?_
  refine at_resultME (rs:= [.tmp 2]) rfl rfl rfl hS (dn:= [D1]) rfl rfl (by simp) rfl (r_tmp rfl r_nil) ?_
  exact⟨τ,hst,b8,rfl,rfl⟩
theorem eformed_ok {l:List Ep} (hl:EpsOk l) (hn:l.length≤maxLen) {σ:Int→Int} (h:formS l=some σ):Con Tryz.prog 64 [epsA l] (RetMp (mapOf σ)):=(eformed_E l hl hn).ret (fun r st ⟨τ,h1,h2⟩=>by rw [h]at h1;cases h1;exact h2) fun u hu=>by rw [h]at hu;cases hu.1
theorem eformed_px {l:List Ep} (hl:EpsOk l) (hn:l.length≤maxLen) (h:formS l=none):ConX Tryz.prog 64 [epsA l] ⟨[]⟩ (fun u=>formS l=none∧u=misV 136 351):=(eformed_E l hl hn).pan fun r st ⟨τ,h1,_⟩=>by rw [h]at h1;cases h1
end Go.Abs.D2
-- E5E
namespace Go.Abs.D2
open Go Go.Eng Go.Abs Go.Proofs
theorem echeck_E (r:List UInt8) (n:Int) (l:List Ep) (hr:r.length=32) (hl:EpsOk l) (hn:l.length≤maxLen):ConE Tryz.prog 40 [.ag (r.map u8),.i .i64 n,epsA l] ⟨[]⟩ (fun q st=>∃σ,formS l=some σ∧chkE r n l=0∧RetMp (mapOf σ) q st) (fun u=>chkE r n l≠0∧u=misV 136 (chkE r n l)):=by
 refine enterE Tryz.func40 rfl Tryz.ntmps40 (by kernel_rfl) (Nat.le_of_ble_eq_true rfl) fun w0 X0 hI=>?_
 refine at_seq ?_
 have hn2:=hn
 simp only [maxLen]at hn2
 refine at_region ?_
 refine at_op rfl (n_boxA 3 rfl rfl rfl ?_)
 refine s1 (y_p rfl) rfl ?_
 refine at_nil<|x_tn<|at_seq ?_
 rcases opt_ways (formS l)with hcs|hcs
 ·have hf := hcs
  refine at_region<|s1 (y_p rfl) rfl ?_
  refine p_call ⟨[]⟩ false rfl trivial (.cons (.pure pu) .nil) (eformed_px hl hn hf) (fun u hu=>?_)
  refine x_tp ?_
  exact at_panicked (show chkE r n l≠0∧_=misV 136 (chkE r n l) by rw [chkE_no hf];exact⟨by decide,hu.2⟩)
 ·obtain ⟨σ, hf⟩ := hcs
  refine at_region<|s1 (y_p rfl) rfl ?_
  refine at_op rfl (n_callMp (F:=mapOf σ) rfl (.cons (.pure pu) (.nil)) (eformed_ok hl hn hf) rfl rfl fun b12=>?_)
  refine s1 (y_p rfl) rfl ?_
  refine at_nil<|x_tn<|at_seq<|at_seq<|at_region<|s1 (y_p rfl) rfl<|s1 (y_len Tryz.underlying24 rfl rfl rfl) rfl<|s1 ((y_p rfl).v (v':= .i .i64 0) rfl) rfl ?_
  refine at_nil<|x_tn<|at_block ?_
  refine at_loop (ι:=Nat) (fun i=> [(1,.i .i64 n),(3,.p 3 0),(7,.raw (.map (some b12))),(13,epsA l),(14,nJ l.length),(15,nJ i)]) (fun i=>⟨[(3,some (r.map u8)),(700,some ([.mc b12 (mapOf σ)]))]⟩) (fun i=>i≤l.length∧∀e∈l.take i,verK r n (digE e) e.sg.a e.sg.S e.sg.P=true) (fun i=>l.length - i) ?_ ?_
  ·exact at_ex (0) (⟨Nat.zero_le _,fun e he=>by simp at he⟩) [(3,some 3),(700,some 700)] hI rfl rfl ⟨⟨_,rfl,.pure pu⟩,⟨_,rfl,.p rfl⟩,⟨_,rfl,.pure pu⟩,⟨_,rfl,.pure pu⟩,⟨_,rfl,.pure pu⟩,⟨_,rfl,.pure pu⟩,trivial⟩ ⟨.inr ⟨_,_,rfl,rfl,.pure pul⟩,.inr ⟨_,_,rfl,rfl,.pure pul⟩,trivial⟩
  rintro i ⟨hi,hall⟩
  refine at_seq<|at_region<|s1 (y_p rfl) rfl ?_
  refine at_nil<|x_tn<|at_seq ?_
  refine at_cond rfl (fun hc16=>?_) (fun hc16=>?_)
  ·have h16 : i < l.length := by have := of_decide_eq_true hc16; omega
   obtain⟨e,he⟩:∃e,l[i]? =some e:=⟨_,List.getElem?_eq_getElem h16⟩
   have hem:=List.mem_of_getElem? he
   have hok:=hl e hem
   refine at_skip<|x_tn<|at_seq<|at_block<|at_seq<|at_region<|s1 (y_ixf i Tryz.underlying24 ti45 rfl rfl rfl (by omega) rfl) rfl<|s1 (y_loadA ti45 rfl rfl (eps_get hl he) hok.len) rfl ?_
   refine at_op rfl (n_alloc 9 rfl ti45 rfl rfl ?_)
   refine at_op rfl (n_storeA ti45 rfl rfl rfl hok.len (by simp) ?_)
   refine at_nil<|x_tn<|at_seq ?_
   rcases tfC (verK r n (digE e) e.sg.a e.sg.S e.sg.P)with hcs|hcs
   ·skip
    refine at_fs ⟨_, [], []⟩ 7 4 hmix (le_refl rfl) ?_
    refine fs_q 0 [] [(3,none)] (y_loadA0 ti23 rfl rfl (by rw [List.length_map,hr])) rfl rfl ?_
    refine fs_q 1 [] [] (y_p rfl) rfl rfl ?_
    refine fs_q 2 [] [(9,none)] (y_loadA0 ti45 rfl rfl hok.len) rfl rfl ?_
    refine fs_call false 3 [2] [] gy0 rfl (.cons (.pure pu) (.nil)) (edig_ok e hok) pu (.inl rfl) rfl rfl ?_
    refine fs_q 4 [] [(9,none)] (y_fld Tryz.underlying45 rfl ti43 (by decide) rfl rfl) rfl rfl ?_
    refine fs_q 5 [4] [(9,none)] (y_loadA ti43 rfl rfl (ep_sg3 hok) rfl) rfl rfl ?_
    refine fs_call false 6 [0,1,3,5] [] gy0 rfl (.cons (.pure pu) (.cons (.pure pu) (.cons (.pure pu) (.cons (.pure pu) (.nil))))) (Con.cast (kver_ok r (digE e) n e.sg.a e.sg.S e.sg.P hr (by simp) hok.S hok.P) (show _=A.i .i64 60 by rw [hcs];rfl)) pu (.inl rfl) rfl rfl ?_
    refine fs_end (by kernel_rfl) ?_
    refine s1 (y_p rfl) rfl ?_
    refine at_nil<|x_tn<|at_region<|s1 (y_p rfl) rfl<|s1 ((y_p rfl).v (v':= .b false) (rfl)) rfl<|s1 (y_p rfl) rfl ?_
    refine p_call ⟨[]⟩ false rfl trivial (.cons (.pure pu) (.cons (.pure pu) .nil)) (eneed_px 60) (fun u hu=>?_)
    refine x_bp ?_
    refine x_tp ?_
    refine x_tp ?_
    refine x_bp ?_
    refine x_tp ?_
    exact at_panicked (show chkE r n l≠0∧_=misV 136 (chkE r n l) by rw [chkE_bad hf hem hcs];exact⟨by decide,hu⟩)
   ·skip
    refine at_fs ⟨_, [], []⟩ 7 4 hmix (le_refl rfl) ?_
    refine fs_q 0 [] [(3,none)] (y_loadA0 ti23 rfl rfl (by rw [List.length_map,hr])) rfl rfl ?_
    refine fs_q 1 [] [] (y_p rfl) rfl rfl ?_
    refine fs_q 2 [] [(9,none)] (y_loadA0 ti45 rfl rfl hok.len) rfl rfl ?_
    refine fs_call false 3 [2] [] gy0 rfl (.cons (.pure pu) (.nil)) (edig_ok e hok) pu (.inl rfl) rfl rfl ?_
    refine fs_q 4 [] [(9,none)] (y_fld Tryz.underlying45 rfl ti43 (by decide) rfl rfl) rfl rfl ?_
    refine fs_q 5 [4] [(9,none)] (y_loadA ti43 rfl rfl (ep_sg3 hok) rfl) rfl rfl ?_
    refine fs_call false 6 [0,1,3,5] [] gy0 rfl (.cons (.pure pu) (.cons (.pure pu) (.cons (.pure pu) (.cons (.pure pu) (.nil))))) (Con.cast (kver_ok r (digE e) n e.sg.a e.sg.S e.sg.P hr (by simp) hok.S hok.P) (show _=A.i .i64 0 by rw [hcs];rfl)) pu (.inl rfl) rfl rfl ?_
    refine fs_end (by kernel_rfl) ?_
    refine s1 (y_p rfl) rfl ?_
    refine at_nil<|x_tn<|at_region<|s1 (y_p rfl) rfl<|s1 ((y_p rfl).v (v':= .b true) (rfl)) rfl<|s1 (y_p rfl) rfl ?_
    refine at_op rfl (n_call false rfl (.cons (.pure pu) (.cons (.pure pu) .nil)) (eneed_ok 0) pu (.inl rfl) rfl ?_)
    refine at_nil<|x_bn<|x_tn<|at_region<|s1 (addN _ 1 rfl rfl rfl rfl (by omega)) rfl<|s1 (y_p rfl) rfl ?_
    refine at_nil ?_
    exact at_end (i+1) (⟨by omega,all_takeE he hall hcs⟩) (by omega) [(3,some 3),(700,some 700)] hI rfl rfl ⟨⟨_,rfl,.pure pu⟩,⟨_,rfl,.p rfl⟩,⟨_,rfl,.pure pu⟩,⟨_,rfl,.pure pu⟩,⟨_,rfl,.pure pu⟩,⟨_,rfl,.pure pu⟩,trivial⟩ ⟨.inr ⟨_,_,rfl,rfl,.pure pul⟩,.inr ⟨_,_,rfl,rfl,.pure pul⟩,trivial⟩
  ·obtain rfl : i = l.length := by have := of_decide_eq_false hc16; omega
   rw [List.take_length]at hall
   refine at_exit<|x_te<|x_te<|x_be<|x_tn<|at_seq<|at_region<|s1 (y_p rfl) rfl<|s1 (y_p rfl) rfl ?_
   refine at_nil<|x_tn<|at_ret ?_
   refine at_resultE (rs:= [.tmp 6]) rfl (r_tmp rfl r_nil) ?_
   exact⟨σ,hf,chkE_yes hf hall,b12,rfl,rfl⟩
theorem echeck_ok {r:List UInt8} {n:Int} {l:List Ep} (hr:r.length=32) (hl:EpsOk l) (hn:l.length≤maxLen) {σ:Int→Int} (h:formS l=some σ) (h0:chkE r n l=0):Con Tryz.prog 40 [.ag (r.map u8),.i .i64 n,epsA l] (RetMp (mapOf σ)):=(echeck_E r n l hr hl hn).ret (fun q st ⟨τ,h1,_,h2⟩=>by rw [h]at h1;cases h1;exact h2) fun u hu=>hu.1 h0
theorem echeck_px {r:List UInt8} {n:Int} {l:List Ep} (hr:r.length=32) (hl:EpsOk l) (hn:l.length≤maxLen) (h:chkE r n l≠0):ConX Tryz.prog 40 [.ag (r.map u8),.i .i64 n,epsA l] ⟨[]⟩ (fun u=>chkE r n l≠0∧u=misV 136 (chkE r n l)):=(echeck_E r n l hr hl hn).pan fun q st ⟨_,_,h1,_⟩=>h h1
theorem echk1_D (c0:A) (e:Int):ConD Tryz.prog 38 [.p 6 0] ⟨[(6,some [c0])]⟩ (fun u=>u=misV 136 e) [(6, [.i .i64 e])]:=by
 refine conD (.ic 136 (.ag [.i .i64 e])) (fun u hu X w β=>by rw [hu];exact V_mis _ _) Tryz.func38 rfl Tryz.ntmps38 (Nat.le_of_ble_eq_true rfl) rfl rfl fun w0 X0 hI=>?_
 refine at_seq<|at_region<|s1 (y_p rfl) rfl<|s1 (y_icne Tryz.underlying20 rfl) rfl ?_
 refine at_nil<|x_tn ?_
 refine at_then rfl ?_
 refine at_region<|s1 (y_p rfl) rfl ?_
 refine at_op rfl (n_call false rfl (.cons (.pure pu) (.nil)) (efail_ok e) pu (.inl rfl) rfl ?_)
 refine at_op rfl (n_store1 ti27 rfl rfl rfl rfl (by first|rfl|omega|(simp<;>omega)|(simp [*]<;>omega)) rfl ?_)
 refine at_nil ?_
 refine at_result' (rs:= []) rfl r_nil (retS_1 rfl)
theorem echk1_R:ConR Tryz.prog 38 1:=conR Tryz.func38 rfl (fun w=>run_nnil Tryz.underlying20 w) rfl ⟨Nat.le_of_ble_eq_true rfl,Nat.le_of_ble_eq_true rfl,Nat.le_of_ble_eq_true rfl,Nat.le_of_ble_eq_true rfl,Nat.le_of_ble_eq_true rfl⟩
theorem echk1_C:Callable Tryz.prog 38:=⟨_,Tryz.func38,rfl,by kernel_rfl⟩
theorem eChk_ok (r:List UInt8) (n:Int) (l:List Ep) (hr:r.length=32) (hl:EpsOk l) (hn:l.length≤maxLen):Con Tryz.prog 13 [.ag (r.map u8),.i .i64 n,epsA l] (Ret (.i .i64 (chkE r n l))):=by
 refine enterM Tryz.func13 rfl Tryz.ntmps13 (by kernel_rfl) (Nat.le_of_ble_eq_true rfl) fun w0 X0 hI hS=>?_
 refine at_seq<|at_region ?_
 refine at_op rfl (n_boxA 3 rfl rfl rfl ?_)
 refine at_op rfl (n_alloc 6 rfl ti27 rfl rfl ?_)
 refine at_nil<|x_tn<|at_seq<|at_region<|s1 (y_func (us:= []) (vs:= [.p 6 0]) rfl rfl) rfl ?_
 refine at_defer [6] hI rfl rfl trivial rfl fun w1 us hdf=>?_
 refine at_nil<|x_tn<|at_seq ?_
 rcases chk_ways r n l with hcs|hcs
 ·have h0 := hcs
  refine at_region<|s1 (y_loadA0 ti23 rfl rfl (by rw [List.length_map,hr])) rfl<|s1 (y_p rfl) rfl<|s1 (y_p rfl) rfl ?_
  refine p_call ⟨[]⟩ false rfl trivial (.cons (.pure pu) (.cons (.pure pu) (.cons (.pure pu) .nil))) (echeck_px hr hl hn h0) (fun u hu=>?_)
  refine x_tp ?_
  refine at_leaveX ⟨[(6,some [.i .i64 0])]⟩ hdf hS echk1_C ⟨⟨rfl,VwL.pure pul⟩,trivial⟩ (.cons (.kp rfl) .nil) (echk1_D _ (chkE r n l)) (hu.2) (one_upd rfl pul) rfl (r_cell ti27 rfl rfl rfl r_nil) ?_
  exact rfl
 ·obtain ⟨σ, hf, h0⟩ := hcs
  refine at_region<|s1 (y_loadA0 ti23 rfl rfl (by rw [List.length_map,hr])) rfl<|s1 (y_p rfl) rfl<|s1 (y_p rfl) rfl ?_
  refine at_op rfl (n_callMp (F:=mapOf σ) rfl (.cons (.pure pu) (.cons (.pure pu) (.cons (.pure pu) (.nil)))) (echeck_ok hr hl hn hf h0) rfl rfl fun b11=>?_)
  refine at_nil<|x_tn<|at_seq<|at_region ?_
  refine at_op rfl (n_store1 ti27 rfl rfl rfl rfl (by first|rfl|omega|(simp<;>omega)|(simp [*]<;>omega)) rfl ?_)
  refine at_nil<|x_tn<|at_ret ?_
  refine at_leaveR hdf hS echk1_C echk1_R rfl (r_cell ti27 rfl rfl rfl r_nil) ?_
  exact congrArg (A.i .i64) h0.symm
end Go.Abs.D2
-- E5F
namespace Go.Abs.D2
open Go Go.Eng Go.Abs Go.Proofs
theorem clC_ok (l:List Ch) (hl:l.length≤1000000):Con Tryz.prog 47 [chsA l] (Ret (chsA l)):=by
 refine enter Tryz.func47 rfl Tryz.ntmps47 (by kernel_rfl) (Nat.le_of_ble_eq_true rfl) fun w0 X0 hI=>?_
 refine at_seq<|at_region<|s1 (y_p rfl) rfl ?_
 refine at_nil<|x_tn<|at_seq<|at_seq ?_
 rcases len_zero_pos l.length with hcs|hcs
 ·obtain rfl := List.length_eq_zero_iff.1 hcs
  refine at_region<|s1 (y_p rfl) rfl ?_
  refine at_op rfl (n_nil0 Tryz.underlying31 rfl rfl rfl fun q4=>?_)
  refine at_nil<|x_tn ?_
  refine at_cond rfl (fun hc4=>?_) (fun hc4=>?_)
  ·skip
   refine at_seq<|at_region<|s1 (y_p rfl) rfl ?_
   refine at_nil<|x_tn<|at_ret<|x_tr ?_
   refine at_wk 2 rfl .nl ?_
   refine at_result (rs:= [.tmp 2]) rfl (r_tmp rfl r_nil) ?_
   rfl
  ·skip
   refine at_skip<|x_tn<|at_seq<|at_region ?_
   refine at_op rfl (n_bs 5 rfl Tryz.underlying31 ti55 rfl rfl rfl (by first|(simp [cellsA];done)|(simp [cellsA, *];done)) (show flatA []= []from rfl) rfl rfl rfl ?_)
   refine s1 (y_p rfl) rfl ?_
   refine at_op rfl (n_app 7 rfl Tryz.underlying31 ti55 rfl (.sl rfl (by simp)) rfl rfl (by simp) (by simp only [maxLen];omega) (by omega) rfl rfl rfl ?_)
   refine s1 (y_p rfl) rfl ?_
   refine at_nil<|x_tn<|at_ret ?_
   refine at_frz 2 rfl rfl pul (view_eq (by simp) rfl) ?_
   refine at_result (rs:= [.tmp 2]) rfl (r_tmp rfl r_nil) ?_
   rfl
 ·skip
  refine at_region<|s1 (y_p rfl) rfl<|s1 (y_fznil Tryz.underlying31 rfl rfl hcs) rfl ?_
  refine at_nil<|x_tn ?_
  refine at_else rfl ?_
  refine at_skip<|x_tn<|at_seq<|at_region ?_
  refine at_op rfl (n_bs 5 rfl Tryz.underlying31 ti55 rfl rfl rfl (by first|(simp [cellsA];done)|(simp [cellsA, *];done)) (show flatA []= []from rfl) rfl rfl rfl ?_)
  refine s1 (y_p rfl) rfl ?_
  refine at_op rfl (n_app 7 rfl Tryz.underlying31 ti55 rfl (.sl rfl (by simp)) rfl rfl (by simp) (by simp only [maxLen];omega) (by omega) rfl rfl rfl ?_)
  refine s1 (y_p rfl) rfl ?_
  refine at_nil<|x_tn<|at_ret ?_
  refine at_frz 2 rfl rfl pul (view_eq (by simp) rfl) ?_
  refine at_result (rs:= [.tmp 2]) rfl (r_tmp rfl r_nil) ?_
  exact congrArg (fun n=>A.fz n (chsC l)) (Nat.zero_add _)
theorem clE_ok (l:List Ep) (h:EpsOk l) (hl:l.length≤1000000):Con Tryz.prog 54 [epsA l] (RetO 71 l.length (epsC l)):=by
 refine enter Tryz.func54 rfl Tryz.ntmps54 (by kernel_rfl) (Nat.le_of_ble_eq_true rfl) fun w0 X0 hI=>?_
 refine at_seq<|at_region<|s1 (y_p rfl) rfl ?_
 refine at_nil<|x_tn<|at_seq<|at_seq ?_
 rcases len_zero_pos l.length with hcs|hcs
 ·obtain rfl := List.length_eq_zero_iff.1 hcs
  have hel:=len_epsC h
  refine at_region<|s1 (y_p rfl) rfl ?_
  refine at_op rfl (n_nil0 Tryz.underlying24 rfl rfl rfl fun q4=>?_)
  refine at_nil<|x_tn ?_
  refine at_cond rfl (fun hc4=>?_) (fun hc4=>?_)
  ·skip
   refine at_seq<|at_region<|s1 (y_p rfl) rfl ?_
   refine at_nil<|x_tn<|at_ret<|x_tr ?_
   refine at_ph 9 rfl 2 71 rfl ?_
   refine at_result (rs:= [.tmp 2]) rfl (r_tmp rfl r_nil) ⟨9,rfl,rfl⟩
  ·skip
   refine at_skip<|x_tn<|at_seq<|at_region ?_
   refine at_op rfl (n_bs 5 rfl Tryz.underlying24 ti45 rfl rfl rfl (by first|(simp [cellsA];done)|(simp [cellsA, *];done)) (show flatA []= []from rfl) rfl rfl rfl ?_)
   refine s1 (y_p rfl) rfl ?_
   refine at_op rfl (n_app 7 rfl Tryz.underlying24 ti45 rfl (.sl rfl (by simp)) rfl rfl (by first|rfl|omega) (by simp only [maxLen];omega) (by omega) rfl rfl rfl ?_)
   refine s1 (y_p rfl) rfl ?_
   refine at_nil<|x_tn<|at_ret ?_
   refine at_result (rs:= [.tmp 2]) rfl (r_tmp rfl r_nil) ⟨7,rfl,rfl⟩
 ·skip
  have hel:=len_epsC h
  refine at_region<|s1 (y_p rfl) rfl<|s1 (y_fznil Tryz.underlying24 rfl rfl hcs) rfl ?_
  refine at_nil<|x_tn ?_
  refine at_else rfl ?_
  refine at_skip<|x_tn<|at_seq<|at_region ?_
  refine at_op rfl (n_bs 5 rfl Tryz.underlying24 ti45 rfl rfl rfl (by first|(simp [cellsA];done)|(simp [cellsA, *];done)) (show flatA []= []from rfl) rfl rfl rfl ?_)
  refine s1 (y_p rfl) rfl ?_
  refine at_op rfl (n_app 7 rfl Tryz.underlying24 ti45 rfl (.sl rfl (by simp)) rfl rfl (by first|rfl|omega) (by simp only [maxLen];omega) (by omega) rfl rfl rfl ?_)
  refine s1 (y_p rfl) rfl ?_
  refine at_nil<|x_tn<|at_ret ?_
  refine at_result (rs:= [.tmp 2]) rfl (r_tmp rfl r_nil) ⟨7,congrArg (A.sl 7 71 0) (Nat.zero_add _),rfl⟩
theorem four_ok (a:Int):Con Tryz.prog 52 [.i .i64 a] (Ret (.fz 4 ((seedBs a 4).map u8))):=by
 refine enter Tryz.func52 rfl Tryz.ntmps52 (by kernel_rfl) (Nat.le_of_ble_eq_true rfl) fun w0 X0 hI=>?_
 refine at_seq<|at_region<|s1 (y_p rfl) rfl ?_
 refine at_nil<|x_tn<|at_seq<|at_region<|s1 (y_p rfl) rfl<|s1 (y_shr rfl rfl (by decide)) rfl<|s1 ((y_conv Tryz.underlying3 Tryz.underlying5 rfl).v (four_b0 a)) rfl<|s1 (y_p rfl) rfl<|s1 (y_shr rfl rfl (by decide)) rfl<|s1 ((y_conv Tryz.underlying3 Tryz.underlying5 rfl).v (four_b1 a)) rfl<|s1 (y_p rfl) rfl<|s1 (y_shr rfl rfl (by decide)) rfl<|s1 ((y_conv Tryz.underlying3 Tryz.underlying5 rfl).v (four_b2 a)) rfl<|s1 (y_p rfl) rfl ?_
 refine s1 ((y_conv Tryz.underlying3 Tryz.underlying5 rfl).v (four_b3 a)) rfl ?_
 refine at_op rfl (n_bsZ Tryz.underlying68 ti5 rfl rfl rfl (len_one rfl) (flatA_one rfl) pul rfl rfl rfl ?_)
 refine s1 (y_p rfl) rfl ?_
 refine at_nil<|x_tn<|at_ret ?_
 refine at_result (rs:= [.tmp 2]) rfl (r_tmp rfl r_nil) ?_
 rfl
theorem split35_E (b:Nat) (σ:Int→Int) (hs:Sup σ) (ids:List Int) (hn:ids.length≤1000):ConE Tryz.prog 49 [.raw (.map (some b)),.fz ids.length (ids.map (A.i .i64))] ⟨[(700,some [.mc b (mapOf σ)])]⟩ (fun r st=>splB σ ids=true∧RetS (.tu [.fz (badS σ ids).length ((badS σ ids).map (A.i .i64)),.fz (goodS σ ids).length ((goodS σ ids).map (A.i .i64))]) [] r st) (fun u=>splB σ ids=false∧u=misV 136 351):=by
 refine enterE Tryz.func49 rfl Tryz.ntmps49 (by kernel_rfl) (Nat.le_of_ble_eq_true rfl) fun w0 X0 hI=>?_
 refine at_seq<|at_region<|s1 (y_p rfl) rfl<|s1 (y_p rfl) rfl ?_
 refine at_nil<|x_tn<|at_seq<|at_region<|s1 ((y_p rfl).v (v':= .i .i64 (-1)) rfl) rfl ?_
 refine at_nil<|x_tn<|at_seq<|at_seq<|at_region<|s1 (y_p rfl) rfl<|s1 (y_len Tryz.underlying30 rfl rfl rfl) rfl<|s1 ((y_p rfl).v (v':= .i .i64 0) rfl) rfl ?_
 refine at_nil<|x_tn<|at_block ?_
 refine at_loop (ι:=Nat) (fun i=> [(0,.raw (.map (some b))),(4,.sl 131 1 0 (badS σ (ids.take i)).length),(5,.sl 135 1 0 (goodS σ (ids.take i)).length),(6,.i .i64 (lastI ids i)),(9,.fz ids.length (ids.map (A.i .i64))),(10,nJ ids.length),(11,nJ i)]) (fun i=>⟨[(131,some ((badS σ (ids.take i)).map (A.i .i64))),(135,some ((goodS σ (ids.take i)).map (A.i .i64))),(700,some ([.mc b (mapOf σ)]))]⟩) (fun i=>i≤ids.length∧listedB ids=ascB (lastI ids i) (ids.drop i)) (fun i=>ids.length - i) ?_ ?_
 ·exact at_ex (0) (⟨Nat.zero_le _,asc_start ids⟩) [(131,none),(135,none),(700,some 700)] hI rfl rfl ⟨⟨_,rfl,.pure pu⟩,⟨_,rfl,.nl rfl⟩,⟨_,rfl,.nl rfl⟩,⟨_,rfl,.pure pu⟩,⟨_,rfl,.pure pu⟩,⟨_,rfl,.pure pu⟩,⟨_,rfl,.pure pu⟩,trivial⟩ ⟨.inl ⟨rfl,rfl⟩,.inl ⟨rfl,rfl⟩,.inr ⟨_,_,rfl,rfl,.pure pul⟩,trivial⟩
 rintro i ⟨hi,hl⟩
 have hlb:=len_bad σ (ids.take i)
 have hlg:=len_good σ (ids.take i)
 rw [List.length_take]at hlb hlg
 refine at_seq<|at_region<|s1 (y_p rfl) rfl ?_
 refine at_nil<|x_tn<|at_seq ?_
 refine at_cond rfl (fun hc12=>?_) (fun hc12=>?_)
 ·have h12 : i < ids.length := by have := of_decide_eq_true hc12; omega
  obtain⟨q,hq⟩:∃q,ids[i]? =some q:=⟨_,List.getElem?_eq_getElem h12⟩
  refine at_skip<|x_tn<|at_seq<|at_block<|at_seq<|at_region<|s1 (y_ixf i Tryz.underlying30 ti3 rfl rfl rfl (by omega) rfl) rfl<|s1 (y_load ti3 rfl rfl (getI4 hq)) rfl<|s1 (y_p rfl) rfl ?_
  refine at_nil<|x_tn<|at_seq<|at_region<|s1 (y_p rfl) rfl<|s1 (y_p rfl) rfl<|s1 (y_p rfl) rfl<|s1 (y_p rfl) rfl ?_
  refine g_and 2 rfl rfl rfl rfl (fun hb18=> .step (y_p rfl) rfl rfl<| .step (y_p rfl) rfl rfl<| .done) rfl rfl ?_
  refine at_bc 21 rfl (fun hc21=>?_) (fun hc21=>?_)
  ·have h21 : lastI ids i < q ∧ q < 1024 := by simp at hc21; omega
   refine at_op rfl (n_call false rfl (.cons (.pure pu) (.cons (.pure pu) .nil)) (eneed_ok 351) pu (.inl rfl) rfl ?_)
   refine at_nil<|x_tn<|at_seq<|at_region<|s1 ((y_p rfl).v (v':= .i .i64 (lastI ids (i+1))) (congrArg (A.i .i64) (lastI_next hq).symm)) rfl<|s1 (y_p rfl) rfl ?_
   refine at_nil<|x_tn<|at_seq<|at_region<|s1 (y_p rfl) rfl<|s1 (y_p rfl) rfl<|s1 (y_lookup Tryz.underlying80 Tryz.underlying3 zero_int rfl rfl rfl (mapOf_get _ _)) rfl<|s1 (y_p rfl) rfl ?_
   refine at_nil<|x_tn ?_
   refine at_cond rfl (fun hc27=>?_) (fun hc27=>?_)
   ·have h27 : σ q ≠ 0 := by simpa using hc27
    obtain⟨hb1,hb2⟩:=bad_hit hq h27
    refine at_region<|s1 (y_p rfl) rfl<|s1 (y_p rfl) rfl ?_
    refine at_op rfl (n_bs1 30 rfl Tryz.underlying30 ti3 rfl rfl rfl rfl rfl ?_)
    refine at_op rfl (n_app 31 rfl Tryz.underlying30 ti3 rfl (.sl rfl (by simp)) rfl (SM_full rfl (by first|rfl|omega|(simp<;>omega)|(simp [*]<;>omega))) (by simp) (by simp only [maxLen];omega) (by omega) rfl rfl rfl ?_)
    refine s1 (y_p rfl) rfl ?_
    refine at_nil<|x_bn<|x_tn<|at_region<|s1 (addN _ 1 rfl rfl rfl rfl (by omega)) rfl<|s1 (y_p rfl) rfl ?_
    refine at_nil ?_
    exact at_end (i+1) (⟨by omega,asc_next hl hq h21⟩) (by omega) [(131,some 31),(135,some 135),(700,some 700)] hI rfl rfl ⟨⟨_,rfl,.pure pu⟩,⟨_,rfl,.sl rfl (by first|rfl|omega|(simp<;>omega)|(simp [*]<;>omega))⟩,⟨_,rfl,.sl rfl (by first|rfl|omega|(simp<;>omega)|(simp [*]<;>omega))⟩,⟨_,rfl,.pure pu⟩,⟨_,rfl,.pure pu⟩,⟨_,rfl,.pure pu⟩,⟨_,rfl,.pure pu⟩,trivial⟩ ⟨.inr ⟨_,_,rfl,rfl,.of (by rw [hb1,List.map_append];rfl) (.pure pul)⟩,.inr ⟨_,_,rfl,rfl,.of (by rw [hb2]) (.pure pul)⟩,.inr ⟨_,_,rfl,rfl,.pure pul⟩,trivial⟩
   ·have h27 : σ q = 0 := by simpa using hc27
    obtain⟨hb1,hb2⟩:=bad_miss hq h27
    refine at_region<|s1 (y_p rfl) rfl<|s1 (y_p rfl) rfl ?_
    refine at_op rfl (n_bs1 34 rfl Tryz.underlying30 ti3 rfl rfl rfl rfl rfl ?_)
    refine at_op rfl (n_app 35 rfl Tryz.underlying30 ti3 rfl (.sl rfl (by simp)) rfl (SM_full rfl (by first|rfl|omega|(simp<;>omega)|(simp [*]<;>omega))) (by simp) (by simp only [maxLen];omega) (by omega) rfl rfl rfl ?_)
    refine s1 (y_p rfl) rfl ?_
    refine at_nil<|x_bn<|x_tn<|at_region<|s1 (addN _ 1 rfl rfl rfl rfl (by omega)) rfl<|s1 (y_p rfl) rfl ?_
    refine at_nil ?_
    exact at_end (i+1) (⟨by omega,asc_next hl hq h21⟩) (by omega) [(131,some 131),(135,some 35),(700,some 700)] hI rfl rfl ⟨⟨_,rfl,.pure pu⟩,⟨_,rfl,.sl rfl (by first|rfl|omega|(simp<;>omega)|(simp [*]<;>omega))⟩,⟨_,rfl,.sl rfl (by first|rfl|omega|(simp<;>omega)|(simp [*]<;>omega))⟩,⟨_,rfl,.pure pu⟩,⟨_,rfl,.pure pu⟩,⟨_,rfl,.pure pu⟩,⟨_,rfl,.pure pu⟩,trivial⟩ ⟨.inr ⟨_,_,rfl,rfl,.of (by rw [hb1]) (.pure pul)⟩,.inr ⟨_,_,rfl,rfl,.of (by rw [hb2,List.map_append];rfl) (.pure pul)⟩,.inr ⟨_,_,rfl,rfl,.pure pul⟩,trivial⟩
  ·have h21 : ¬ (lastI ids i < q ∧ q < 1024) := by simp at hc21; omega
   refine p_call ⟨[]⟩ false rfl trivial (.cons (.pure pu) (.cons (.pure pu) .nil)) (eneed_px 351) (fun u hu=>?_)
   refine x_tp ?_
   refine x_bp ?_
   refine x_tp ?_
   refine x_tp ?_
   refine x_bp ?_
   refine x_tp ?_
   exact at_panicked ⟨spl_1 (asc_no hl hq h21),hu⟩
 ·have h12 : i = ids.length := by have := of_decide_eq_false hc12; omega
  subst h12
  refine at_exit<|x_te<|x_te<|x_be<|x_tn<|at_seq ?_
  refine at_sayO 131 (cs':=(badS σ ids).map (A.i .i64)) rfl (by rw [List.take_length]) ?_
  refine at_sayO 135 (cs':=(goodS σ ids).map (A.i .i64)) rfl (by rw [List.take_length]) ?_
  refine at_region<|s1 (y_p rfl) rfl<|s1 (y_len Tryz.underlying30 rfl rfl rfl) rfl<|s1 (y_p rfl) rfl<|s1 (y_lenM (keysS σ) Tryz.underlying80 rfl rfl (keysS_nodup σ) (keysS_mem hs)) rfl<|s1 (y_p rfl) rfl ?_
  refine at_bc 41 rfl (fun hc41=>?_) (fun hc41=>?_)
  ·have h41 : (badS σ ids).length = (keysS σ).length := by have := of_decide_eq_true hc41; rw [List.take_length] at this; omega
   refine at_op rfl (n_call false rfl (.cons (.pure pu) (.cons (.pure pu) .nil)) (eneed_ok 351) pu (.inl rfl) rfl ?_)
   refine at_nil<|x_tn<|at_seq<|at_region<|s1 (y_p rfl) rfl<|s1 (y_p rfl) rfl<|s1 (y_p rfl) rfl<|s1 (y_p rfl) rfl ?_
   refine at_nil<|x_tn<|at_ret ?_
   refine at_frz 4 rfl rfl pul (view_eq (by simp) rfl) ?_
   refine at_frz 5 rfl rfl pul (view_eq (by simp) rfl) ?_
   refine at_resultE (rs:= [.tmp 4,.tmp 5]) rfl (r_tmp rfl (r_tmp rfl r_nil)) ⟨spl_3 (asc_end hl) h41,?_,fun p hp=>by cases hp⟩
   show A.tu _=A.tu _
   rw [List.take_length]
  ·have h41 : (badS σ ids).length ≠ (keysS σ).length := by have := of_decide_eq_false hc41; rw [List.take_length] at this; omega
   refine p_call ⟨[]⟩ false rfl trivial (.cons (.pure pu) (.cons (.pure pu) .nil)) (eneed_px 351) (fun u hu=>?_)
   refine x_tp ?_
   exact at_panicked ⟨spl_2 h41,hu⟩
theorem split35_ok {b:Nat} {σ:Int→Int} (hs:Sup σ) {ids:List Int} (hn:ids.length≤1000) (h:splB σ ids=true):ConS Tryz.prog 49 [.raw (.map (some b)),.fz ids.length (ids.map (A.i .i64))] ⟨[(700,some [.mc b (mapOf σ)])]⟩ (RetS (.tu [.fz (badS σ ids).length ((badS σ ids).map (A.i .i64)),.fz (goodS σ ids).length ((goodS σ ids).map (A.i .i64))]) []):=(split35_E b σ hs ids hn).ret (fun _ _ h=>h.2) fun u hu=>by rw [h]at hu;cases hu.1
theorem split35_px {b:Nat} {σ:Int→Int} (hs:Sup σ) {ids:List Int} (hn:ids.length≤1000) (h:splB σ ids=false):ConX Tryz.prog 49 [.raw (.map (some b)),.fz ids.length (ids.map (A.i .i64))] ⟨[(700,some [.mc b (mapOf σ)])]⟩ (fun u=>splB σ ids=false∧u=misV 136 351):=(split35_E b σ hs ids hn).pan fun r st hu=>by rw [h]at hu;cases hu.1
end Go.Abs.D2
-- K6C
namespace Go.Abs.D2
open Go Go.Eng Go.Abs Go.Proofs
theorem signW_ok (x:List UInt8) (k:Nat) (a:Int) (m:List UInt8) (hx:x.length=32) (hm:m.length=32) (hk:sizeK (k:Int)):Con Tryz.prog 53 [.ag (x.map u8),dgs (kpubs x k),.i .i64 a,.ag (m.map u8)] (Ret (signA x k a m)):=by
 refine enter Tryz.func53 rfl Tryz.ntmps53 (by kernel_rfl) (Nat.le_of_ble_eq_true rfl) fun w0 X0 hI=>?_
 refine at_seq<|at_region ?_
 refine at_op rfl (n_boxA 4 rfl rfl rfl ?_)
 refine at_op rfl (n_boxA 7 rfl rfl rfl ?_)
 refine at_op rfl (n_alloc 8 rfl ti43 rfl rfl ?_)
 refine s1 ((y_p rfl).v (v':= .i .i64 0) rfl) rfl ?_
 refine at_nil<|x_tn<|at_seq ?_
 rcases(Decidable.em (atK (k:Int) a)).symm with hcs|hcs
 ·skip
  have hk2:k≤256:=by unfold sizeK at hk;omega
  refine at_region<|s1 (y_p rfl) rfl<|s1 (y_p rfl) rfl ?_
  refine at_op rfl (n_call false rfl (.cons (.pure pu) (.cons (.pure pu) (.nil))) (Con.cast (pathI_ok (kpubs x k) a (D32_kpubs x k) (by simp;omega)) (pathA_no (by rw [len_kpubs];exact hcs))) pu (.inl rfl) rfl ?_)
  refine s1 (y_p rfl) rfl<|s1 (y_p rfl) rfl<|s1 (y_p rfl) rfl<|s1 (y_p rfl) rfl<|s1 (y_p rfl) rfl ?_
  refine at_nil<|x_tn<|at_seq<|at_seq<|at_region<|s1 (y_p rfl) rfl<|s1 ((y_p rfl).v (v':= .b true) (rfl)) rfl ?_
  refine at_nil<|x_tn ?_
  refine at_then rfl ?_
  refine at_seq<|at_region<|s1 (y_loadA0 ti43 rfl rfl (by first|rfl|omega|(simp<;>omega)|(simp [*]<;>omega))) rfl ?_
  refine at_op rfl (n_storeA ti43 rfl rfl rfl (by first|rfl|omega|(simp<;>omega)|(simp [*]<;>omega)) (by first|rfl|omega|(simp<;>omega)|(simp [*]<;>omega)) ?_)
  refine s1 ((y_p rfl).v (v':= .i .i64 60) rfl) rfl ?_
  refine at_nil<|x_tn<|at_ret<|x_tr ?_
  refine at_wkO 8 rfl (.cons (.eq rfl) (.cons .nl (.cons .nl .nil))) ?_
  refine at_result (rs:= [.cell 8 43,.tmp 9]) rfl (r_cellA ti43 rfl rfl rfl rfl (r_tmp rfl r_nil)) ?_
  exact(signA_no (fun h=>hcs h.2)).symm
 ·have hat := hcs
  obtain⟨i,rfl,hi⟩:∃i:Nat,a=(i:Int)∧i<k:=⟨a.toNat,by unfold atK at hcs;omega,by unfold atK at hcs;omega⟩
  have hk2:k≤256:=by unfold sizeK at hk;omega
  refine at_region<|s1 (y_p rfl) rfl<|s1 (y_p rfl) rfl ?_
  refine at_op rfl (n_call false rfl (.cons (.pure pu) (.cons (.pure pu) (.nil))) (Con.cast (pathI_ok (kpubs x k) (i:Nat) (D32_kpubs x k) (by simp;omega)) (pathA_yes (by rw [len_kpubs];exact hi))) pu (.inl rfl) rfl ?_)
  refine s1 (y_p rfl) rfl<|s1 (y_p rfl) rfl<|s1 (y_p rfl) rfl<|s1 (y_p rfl) rfl<|s1 (y_p rfl) rfl ?_
  refine at_nil<|x_tn<|at_seq<|at_seq<|at_region<|s1 (y_p rfl) rfl<|s1 ((y_p rfl).v (v':= .b false) (rfl)) rfl ?_
  refine at_nil<|x_tn ?_
  refine at_else rfl ?_
  refine at_skip<|x_tn<|at_seq ?_
  refine at_fs ⟨_, [], []⟩ 8 4 hmix (le_refl rfl) ?_
  refine fs_q 0 [] [] (y_p rfl) rfl rfl ?_
  refine fs_q 1 [] [(4,none)] (y_loadA0 ti23 rfl rfl (by first|rfl|omega|(simp<;>omega)|(simp [*]<;>omega))) rfl rfl ?_
  refine fs_q 2 [] [] (y_p rfl) rfl rfl ?_
  refine fs_call false 3 [1,2] [] gy0 rfl (.cons (.pure pu) (.cons (.pure pu) (.nil))) (seed_ok x (i:Nat) hx) pu (.inl rfl) rfl rfl ?_
  refine fs_q 4 [] [(7,none)] (y_loadA0 ti23 rfl rfl (by first|rfl|omega|(simp<;>omega)|(simp [*]<;>omega))) rfl rfl ?_
  refine fs_call false 5 [3,4] [] gy0 rfl (.cons (.pure pu) (.cons (.pure pu) (.nil))) (sign_ok (seedL x (i:Nat)) m (by simp) hm) pu (.inl rfl) rfl rfl ?_
  refine fs_q 6 [] [] (y_p rfl) rfl rfl ?_
  refine fs_q 7 [0,5,6] [] (y_bld (out:= [_,_,_]) [[evC (.int .i64 0)], [evC (.slice none 0 0)], [evC (.slice none 0 0)]] ti43 rfl Tryz.underlying43 (by kernel_rfl) rfl rfl ⟨⟨by(first|rfl|omega|(simp;done)|(simp [*];done)|(simp [cellsA, *];done)),rfl⟩,⟨⟨by(first|rfl|omega|(simp;done)|(simp [*];done)|(simp [cellsA, *];done)),rfl⟩,⟨⟨by(first|rfl|omega|(simp;done)|(simp [*];done)|(simp [cellsA, *];done)),rfl⟩,trivial⟩⟩⟩ rfl) rfl rfl ?_
  refine fs_end (by kernel_rfl) ?_
  refine at_op rfl (n_storeA ti43 rfl rfl rfl (by first|rfl|omega|(simp<;>omega)|(simp [*]<;>omega)) (by first|rfl|omega|(simp<;>omega)|(simp [*]<;>omega)) ?_)
  refine s1 ((y_p rfl).v (v':= .i .i64 0) rfl) rfl ?_
  refine at_nil<|x_tn<|at_ret ?_
  refine at_result (rs:= [.cell 8 43,.tmp 9]) rfl (r_cellA ti43 rfl rfl rfl rfl (r_tmp rfl r_nil)) ?_
  exact(signA_yes hk hi).symm
end Go.Abs.D2
