/-
  The engine, the plain laws and the walks that the rows need, part 14. Conditions: none.
-/
import Derived.Test.YteempkifmbclgaaGreatDoorM13
set_option linter.unusedVariables false
set_option linter.unusedSimpArgs false
set_option maxHeartbeats 1000000
set_option maxRecDepth 10000
-- C4B
namespace Go.Abs.D2
open Go Go.Eng Go.Abs Go.Proofs
theorem listed_ok (l:List Int) (hn:l.length≤maxLen):Con Tryz.prog 72 [.fz l.length (l.map (A.i .i64))] (Ret (.b (listedB l))):=by
 refine enter Tryz.func72 rfl Tryz.ntmps72 (by kernel_rfl) (Nat.le_of_ble_eq_true rfl) fun w0 X0 hI=>?_
 refine at_seq<|at_region<|s1 (y_p rfl) rfl ?_
 refine at_nil<|x_tn<|at_seq ?_
 simp only [maxLen]at hn
 refine at_region<|s1 ((y_p rfl).v (v':= .i .i64 (-1)) rfl) rfl ?_
 refine at_nil<|x_tn<|at_seq<|at_seq<|at_region<|s1 (y_p rfl) rfl<|s1 (y_len Tryz.underlying30 rfl rfl rfl) rfl<|s1 ((y_p rfl).v (v':= .i .i64 0) rfl) rfl ?_
 refine at_nil<|x_tn<|at_block ?_
 refine at_loop (ι:=Nat) (fun i=> [(3,.i .i64 (lastI l i)),(6,.fz l.length (l.map (A.i .i64))),(7,nJ l.length),(8,nJ i)]) (fun i=>⟨[]⟩) (fun i=>i≤l.length∧listedB l=ascB (lastI l i) (l.drop i)) (fun i=>l.length - i) ?_ ?_
 ·exact at_ex (0) (⟨Nat.zero_le _,asc_start l⟩) [] hI rfl rfl ⟨⟨_,rfl,.pure pu⟩,⟨_,rfl,.pure pu⟩,⟨_,rfl,.pure pu⟩,⟨_,rfl,.pure pu⟩,trivial⟩ trivial
 rintro i ⟨hi,hl⟩
 refine at_seq<|at_region<|s1 (y_p rfl) rfl ?_
 refine at_nil<|x_tn<|at_seq ?_
 refine at_cond rfl (fun hc9=>?_) (fun hc9=>?_)
 ·have h9 : i < l.length := by have := of_decide_eq_true hc9; omega
  obtain⟨q,hq⟩:∃q,l[i]? =some q:=⟨_,List.getElem?_eq_getElem h9⟩
  refine at_skip<|x_tn<|at_seq<|at_block<|at_seq<|at_region<|s1 (y_ixf i Tryz.underlying30 ti3 rfl rfl rfl (by omega) rfl) rfl<|s1 (y_load ti3 rfl rfl (getI4 hq)) rfl<|s1 (y_p rfl) rfl ?_
  refine at_nil<|x_tn<|at_seq<|at_seq<|at_region<|s1 (y_p rfl) rfl<|s1 (y_p rfl) rfl<|s1 (y_p rfl) rfl<|s1 (y_p rfl) rfl ?_
  refine g_or 2 rfl rfl rfl rfl (fun hb15=> .step (y_p rfl) rfl rfl<| .step (y_p rfl) rfl rfl<| .done) rfl rfl ?_
  refine at_nil<|x_tn ?_
  refine at_cond rfl (fun hc18=>?_) (fun hc18=>?_)
  ·have h18 : ¬ (lastI l i < q ∧ q < 1024) := by simp at hc18; omega
   refine at_seq<|at_region<|s1 (y_p rfl) rfl ?_
   refine at_nil<|x_tn<|at_ret<|x_tr<|x_br<|x_tr<|x_tr<|x_br<|x_tr ?_
   refine at_result (rs:= [.tmp 2]) rfl (r_tmp rfl r_nil) ?_
   exact congrArg A.b (asc_no hl hq h18).symm
  ·have h18 : lastI l i < q ∧ q < 1024 := by simp at hc18; omega
   refine at_skip<|x_tn<|at_region<|s1 ((y_p rfl).v (v':= .i .i64 (lastI l (i+1))) (congrArg (A.i .i64) (lastI_next hq).symm)) rfl<|s1 (y_p rfl) rfl ?_
   refine at_nil<|x_bn<|x_tn<|at_region<|s1 (addN _ 1 rfl rfl rfl rfl (by omega)) rfl<|s1 (y_p rfl) rfl ?_
   refine at_nil ?_
   exact at_end (i+1) (⟨by omega,asc_next hl hq h18⟩) (by omega) [] hI rfl rfl ⟨⟨_,rfl,.pure pu⟩,⟨_,rfl,.pure pu⟩,⟨_,rfl,.pure pu⟩,⟨_,rfl,.pure pu⟩,trivial⟩ trivial
 ·have h9 : i = l.length := by have := of_decide_eq_false hc9; omega
  subst h9
  refine at_exit<|x_te<|x_te<|x_be<|x_tn<|at_seq<|at_region<|s1 (y_p rfl) rfl ?_
  refine at_nil<|x_tn<|at_ret ?_
  refine at_result (rs:= [.tmp 2]) rfl (r_tmp rfl r_nil) ?_
  exact congrArg A.b (asc_end hl).symm
theorem cchk_ok (c:Cas) (hx:c.x.length=32) (hn:c.E.length≤maxLen):Con Tryz.prog 80 [.ag (casL c)] (Ret (.i .i64 (errC (chkC c)))):=by
 refine enter Tryz.func80 rfl Tryz.ntmps80 (by kernel_rfl) (Nat.le_of_ble_eq_true rfl) fun w0 X0 hI=>?_
 refine at_seq<|at_region ?_
 refine at_op rfl (n_boxA 1 rfl rfl rfl ?_)
 refine s1 ((y_p rfl).v (v':= .i .i64 0) rfl) rfl ?_
 refine at_nil<|x_tn<|at_seq<|at_seq<|at_region<|s1 (y_fld Tryz.underlying60 rfl ti58 (by decide) rfl rfl) rfl<|s1 (y_load ti58 rfl rfl (cas_F hx)) rfl<|s1 (y_len Tryz.underlying58 rfl rfl rfl) rfl<|s1 (y_p rfl) rfl<|s1 (y_p rfl) rfl ?_
 refine at_bc 9 rfl (fun hc9=>?_) (fun hc9=>?_)
 ·have h4 : ¬ c.F.length ≤ 16 := by simp at hc9; omega
  refine g0 rfl rfl rfl rfl<|g0 rfl rfl rfl rfl<|g0 rfl rfl rfl rfl<|g0 rfl rfl rfl rfl<|s1 (y_p rfl) rfl ?_
  refine at_nil<|x_tn ?_
  refine at_then rfl ?_
  refine at_seq<|at_region<|s1 ((y_p rfl).v (v':= .i .i64 340) rfl) rfl ?_
  refine at_nil<|x_tn<|at_ret<|x_tr ?_
  refine at_result (rs:= [.tmp 2]) rfl (r_tmp rfl r_nil) ?_
  exact congrArg (A.i .i64) (by rw [chkC_no1 h4];rfl)
 ·have h4 : c.F.length ≤ 16 := by simp at hc9; omega
  refine g1 rfl rfl (y_fld Tryz.underlying60 rfl ti30 (by decide) rfl rfl) rfl<|g1 rfl rfl (y_load ti30 rfl rfl (cas_E hx)) rfl ?_
  refine at_opg rfl rfl rfl (n_call false rfl (.cons (.pure pu) (.nil)) (listed_ok c.E hn) pu (.inl rfl) rfl ?_)
  refine g1 rfl rfl (y_p rfl) rfl<|s1 (y_p rfl) rfl ?_
  refine at_nil<|x_tn ?_
  refine at_cond rfl (fun hc14=>?_) (fun hc14=>?_)
  ·have h14 : listedB c.E = false := by simpa using hc14
   refine at_seq<|at_region<|s1 ((y_p rfl).v (v':= .i .i64 340) rfl) rfl ?_
   refine at_nil<|x_tn<|at_ret<|x_tr ?_
   refine at_result (rs:= [.tmp 2]) rfl (r_tmp rfl r_nil) ?_
   exact congrArg (A.i .i64) (by rw [chkC_no2 h14];rfl)
  ·have h14 : listedB c.E = true := by simpa using hc14
   refine at_skip<|x_tn<|at_seq<|at_seq<|at_region<|s1 (y_fld Tryz.underlying60 rfl ti58 (by decide) rfl rfl) rfl<|s1 (y_load ti58 rfl rfl (cas_F hx)) rfl<|s1 (y_len Tryz.underlying58 rfl rfl rfl) rfl<|s1 ((y_p rfl).v (v':= .i .i64 0) rfl) rfl ?_
   refine at_nil<|x_tn<|at_block ?_
   refine at_loop (ι:=Nat) (fun i=> [(16,filsA c.F),(17,nJ c.F.length),(18,nJ i)]) (fun i=>⟨[]⟩) (fun i=>i≤c.F.length∧levB 0 c.F=levB i (c.F.drop i)) (fun i=>c.F.length - i) ?_ ?_
   ·exact at_ex (0) (⟨Nat.zero_le _,rfl⟩) [] hI rfl rfl ⟨⟨_,rfl,.pure pu⟩,⟨_,rfl,.pure pu⟩,⟨_,rfl,.pure pu⟩,trivial⟩ trivial
   rintro i ⟨hi,hl⟩
   refine at_seq<|at_region<|s1 (y_p rfl) rfl ?_
   refine at_nil<|x_tn<|at_seq ?_
   refine at_cond rfl (fun hc19=>?_) (fun hc19=>?_)
   ·have h19 : i < c.F.length := by have := of_decide_eq_true hc19; omega
    obtain⟨f,hf⟩:∃f,c.F[i]? =some f:=⟨_,List.getElem?_eq_getElem h19⟩
    refine at_skip<|x_tn<|at_seq<|at_block<|at_seq<|at_region<|s1 (y_p rfl) rfl<|s1 (y_ixf i Tryz.underlying58 ti120 rfl rfl rfl (by omega) rfl) rfl<|s1 (y_loadA ti120 rfl rfl (flat_get hf) rfl) rfl ?_
    refine at_op rfl (n_alloc 4 rfl ti120 rfl rfl ?_)
    refine s1 (y_p rfl) rfl ?_
    refine at_op rfl (n_storeA ti120 rfl rfl rfl (by first|rfl|omega|(simp<;>omega)|(simp [*]<;>omega)) (by first|rfl|omega|(simp<;>omega)|(simp [*]<;>omega)) ?_)
    refine at_nil<|x_tn<|at_seq<|at_region<|s1 (y_fld Tryz.underlying120 rfl ti3 (by decide) rfl rfl) rfl<|s1 (y_load ti3 rfl rfl rfl) rfl<|s1 (y_p rfl) rfl<|s1 (y_p rfl) rfl<|s1 (y_p rfl) rfl ?_
    refine at_bc 27 rfl (fun hc27=>?_) (fun hc27=>?_)
    ·have h27 : ¬ f.lv = i := by simpa using hc27
     refine g0 rfl rfl rfl rfl<|g0 rfl rfl rfl rfl<|g0 rfl rfl rfl rfl<|s1 (y_p rfl) rfl ?_
     refine at_nil<|x_tn ?_
     refine at_then rfl ?_
     refine at_seq<|at_region<|s1 ((y_p rfl).v (v':= .i .i64 340) rfl) rfl ?_
     refine at_nil<|x_tn<|at_ret<|x_br<|x_tr<|x_tr<|x_br<|x_tr ?_
     refine at_result (rs:= [.tmp 2]) rfl (r_tmp rfl r_nil) ?_
     exact congrArg (A.i .i64) (by rw [chkC_no3 (lev_no hl hf (fun h=>h27 h.1))];rfl)
    ·have h27 : f.lv = i := by simpa using hc27
     refine g1 rfl rfl (y_loadA0 ti120 rfl rfl rfl) rfl ?_
     refine at_opg rfl rfl rfl (n_call false rfl (.cons (.pure pu) (.nil)) (fchk_ok f.lv f.nb f.D) pu (.inl rfl) rfl ?_)
     refine g1 rfl rfl (y_p rfl) rfl<|s1 (y_p rfl) rfl ?_
     refine at_nil<|x_tn ?_
     refine at_cond rfl (fun hc31=>?_) (fun hc31=>?_)
     ·have h31 : ¬ (f.lv = i ∧ chkB f.lv f.nb f.D = true) := by intro h; simp [h.2, errF] at hc31
      refine at_seq<|at_region<|s1 ((y_p rfl).v (v':= .i .i64 340) rfl) rfl ?_
      refine at_nil<|x_tn<|at_ret<|x_br<|x_tr<|x_tr<|x_br<|x_tr ?_
      refine at_result (rs:= [.tmp 2]) rfl (r_tmp rfl r_nil) ?_
      exact congrArg (A.i .i64) (by rw [chkC_no3 (lev_no hl hf h31)];rfl)
     ·have h31 : f.lv = i ∧ chkB f.lv f.nb f.D = true := ⟨h27, by cases hk : chkB f.lv f.nb f.D with | true => rfl | false => simp [hk, errF] at hc31⟩
      refine at_skip<|x_bn<|x_tn<|at_region<|s1 (addN _ 1 rfl rfl rfl rfl (by omega)) rfl<|s1 (y_p rfl) rfl ?_
      refine at_nil ?_
      exact at_end (i+1) (⟨by omega,lev_next hl hf h31.1 h31.2⟩) (by omega) [] hI rfl rfl ⟨⟨_,rfl,.pure pu⟩,⟨_,rfl,.pure pu⟩,⟨_,rfl,.pure pu⟩,trivial⟩ trivial
   ·have h19 : i = c.F.length := by have := of_decide_eq_false hc19; omega
    subst h19
    refine at_exit<|x_te<|x_te<|x_be<|x_tn<|at_seq<|at_region<|s1 ((y_p rfl).v (v':= .i .i64 0) rfl) rfl ?_
    refine at_nil<|x_tn<|at_ret ?_
    refine at_result (rs:= [.tmp 2]) rfl (r_tmp rfl r_nil) ?_
    exact congrArg (A.i .i64) (by rw [chkC_yes h4 h14 (lev_end hl)];rfl)
end Go.Abs.D2
-- C4C
namespace Go.Abs.D2
open Go Go.Eng Go.Abs Go.Proofs
theorem cpassed_ok (c:Cas) (j:Nat):Con Tryz.prog 81 [.ag (casL c),nJ j] (Ret (.fn (.func 124) [] [.fp (casL c),.fp [nJ j]])):=by
 refine enter Tryz.func81 rfl Tryz.ntmps81 (by kernel_rfl) (Nat.le_of_ble_eq_true rfl) fun w0 X0 hI=>?_
 refine at_seq<|at_region ?_
 refine at_op rfl (n_boxA 2 rfl rfl rfl ?_)
 refine at_op rfl (n_box1 3 rfl rfl rfl rfl ?_)
 refine s1 (y_p rfl) rfl ?_
 refine at_nil<|x_tn<|at_seq ?_
 refine at_frzP 2 rfl rfl pul ?_
 refine at_frzP 3 rfl rfl pul ?_
 refine at_region<|s1 (y_func (us:= []) (vs:= [.fp (casL c),.fp [nJ j]]) rfl rfl) rfl<|s1 (y_p rfl) rfl ?_
 refine at_nil<|x_tn<|at_ret ?_
 refine at_result (rs:= [.tmp 4]) rfl (r_tmp rfl r_nil) ?_
 rfl
theorem chas_ok (c:Cas) (hx:c.x.length=32) (hn:c.E.length≤maxLen) (id:Int):Con Tryz.prog 32 [.ag (casL c),.i .i64 id] (Ret (hasCA c id)):=by
 refine enterM Tryz.func32 rfl Tryz.ntmps32 (by kernel_rfl) (Nat.le_of_ble_eq_true rfl) fun w0 X0 hI hS=>?_
 refine at_seq<|at_region ?_
 refine at_op rfl (n_boxA 2 rfl rfl rfl ?_)
 refine at_op rfl (n_alloc 4 rfl ti4 rfl rfl ?_)
 refine s1 ((y_p rfl).v (v':= .i .i64 0) rfl) rfl ?_
 refine at_nil<|x_tn<|at_seq<|at_seq ?_
 rcases hs_cases c id with hcs|hcs|hcs
 ·skip
  refine at_region<|s1 (y_loadA0 ti60 rfl rfl (cas_len hx)) rfl ?_
  refine at_op rfl (n_call false rfl (.cons (.pure pu) (.nil)) (Con.cast (cchk_ok c hx hn) (congrArg (fun b=>A.i .i64 (errC b)) hcs)) pu (.inl rfl) rfl ?_)
  refine s1 (y_p rfl) rfl ?_
  refine at_nil<|x_tn<|at_seq<|at_region<|s1 (y_p rfl) rfl<|s1 ((y_p rfl).v (v':= .b true) (rfl)) rfl ?_
  refine at_nil<|x_tn ?_
  refine at_then rfl ?_
  refine at_seq<|at_region<|s1 (y_p rfl) rfl ?_
  refine at_op rfl (n_store1 ti4 rfl rfl rfl rfl (by first|rfl|omega|(simp<;>omega)|(simp [*]<;>omega)) rfl ?_)
  refine s1 (y_p rfl) rfl ?_
  refine at_nil<|x_tn<|at_ret<|x_tr ?_
  refine at_resultM (rs:= [.cell 4 4,.tmp 5]) rfl rfl rfl hS (dn:= []) rfl hS List.nodup_nil rfl (r_cell ti4 rfl rfl rfl (r_tmp rfl r_nil)) ?_
  show A.tu _=_;rw [hasc_no (by rw [hcs];rfl)];rfl
 ·obtain ⟨hck, hnb⟩ := hcs
  refine at_region<|s1 (y_loadA0 ti60 rfl rfl (cas_len hx)) rfl ?_
  refine at_op rfl (n_call false rfl (.cons (.pure pu) (.nil)) (Con.cast (cchk_ok c hx hn) (congrArg (fun b=>A.i .i64 (errC b)) hck)) pu (.inl rfl) rfl ?_)
  refine s1 (y_p rfl) rfl ?_
  refine at_nil<|x_tn<|at_seq<|at_region<|s1 (y_p rfl) rfl<|s1 ((y_p rfl).v (v':= .b false) (rfl)) rfl ?_
  refine at_nil<|x_tn ?_
  refine at_else rfl ?_
  refine at_skip<|x_tn<|at_seq<|at_seq<|at_region<|s1 (y_p rfl) rfl<|s1 (y_p rfl) rfl<|s1 (y_p rfl) rfl ?_
  refine g_or 2 rfl rfl rfl rfl (fun hb16=> .step (y_p rfl) rfl rfl<| .step (y_p rfl) rfl rfl<| .done) rfl rfl ?_
  refine at_say 19 rfl (v':= .b true) (congrArg A.b (by have:=of_decide_eq_false hnb;simp;omega)) ?_
  refine at_nil<|x_tn ?_
  refine at_then rfl ?_
  refine at_seq<|at_region ?_
  refine at_op rfl (n_store1 ti4 rfl rfl rfl rfl (by first|rfl|omega|(simp<;>omega)|(simp [*]<;>omega)) rfl ?_)
  refine s1 ((y_p rfl).v (v':= .i .i64 340) rfl) rfl ?_
  refine at_nil<|x_tn<|at_ret<|x_tr ?_
  refine at_resultM (rs:= [.cell 4 4,.tmp 5]) rfl rfl rfl hS (dn:= []) rfl hS List.nodup_nil rfl (r_cell ti4 rfl rfl rfl (r_tmp rfl r_nil)) ?_
  show A.tu _=_;rw [hasc_no (by rw [hck,hnb];rfl)];rfl
 ·obtain ⟨hck, j, rfl, hj, hnb⟩ := hcs
  obtain⟨_,hle,_⟩:=chkC_all hck
  have hen:=hn
  simp only [maxLen]at hen
  refine at_region<|s1 (y_loadA0 ti60 rfl rfl (cas_len hx)) rfl ?_
  refine at_op rfl (n_call false rfl (.cons (.pure pu) (.nil)) (Con.cast (cchk_ok c hx hn) (congrArg (fun b=>A.i .i64 (errC b)) hck)) pu (.inl rfl) rfl ?_)
  refine s1 (y_p rfl) rfl ?_
  refine at_nil<|x_tn<|at_seq<|at_region<|s1 (y_p rfl) rfl<|s1 ((y_p rfl).v (v':= .b false) (rfl)) rfl ?_
  refine at_nil<|x_tn ?_
  refine at_else rfl ?_
  refine at_skip<|x_tn<|at_seq<|at_seq<|at_region<|s1 (y_p rfl) rfl<|s1 (y_p rfl) rfl<|s1 (y_p rfl) rfl ?_
  refine g_or 2 rfl rfl rfl rfl (fun hb16=> .step (y_p rfl) rfl rfl<| .step (y_p rfl) rfl rfl<| .done) rfl rfl ?_
  refine at_say 19 rfl (v':= .b false) (congrArg A.b (by simp;omega)) ?_
  refine at_nil<|x_tn ?_
  refine at_else rfl ?_
  refine at_skip<|x_tn<|at_seq<|at_seq<|at_region<|s1 (y_loadA0 ti60 rfl rfl (cas_len hx)) rfl<|s1 (y_p rfl) rfl ?_
  refine at_op rfl (n_call false rfl (.cons (.pure pu) (.cons (.pure pu) (.nil))) (cpassed_ok c j) pu (.inl rfl) rfl ?_)
  refine at_nil<|x_tn<|at_block ?_
  refine at_range [2,4] [(0,_),(1,_),(2,_),(4,_),(5,_),(6,_),(9,_),(10,_),(11,_),(12,_),(14,_),(15,_),(16,_),(19,_),(20,_),(21,_),(22,_)] hI rfl ⟨rfl,⟨rfl,⟨rfl,⟨rfl,⟨rfl,⟨rfl,⟨rfl,⟨rfl,⟨rfl,⟨rfl,⟨rfl,⟨rfl,⟨rfl,⟨rfl,⟨rfl,⟨rfl,⟨rfl,trivial⟩⟩⟩⟩⟩⟩⟩⟩⟩⟩⟩⟩⟩⟩⟩⟩⟩ (by first|rfl|(simp [onlyE,refsE,refs,refsL,refsL_pul,refs_pu,memN];done)) rfl Tryz.func124 rfl Tryz.ntmps124 (by kernel_rfl) (Nat.le_of_ble_eq_true rfl) fun w1 l1 D1 rc1 hR1=>?_
  refine at_seq<|at_region<|s1 (y_fldf Tryz.underlying60 rfl ti58 (by decide) rfl rfl) rfl<|s1 (y_load ti58 rfl rfl (cas_F hx)) rfl<|s1 (y_len Tryz.underlying58 rfl rfl rfl) rfl<|s1 ((y_p rfl).v (v':= .i .i64 0) rfl) rfl ?_
  refine at_nil<|x_tn<|at_block ?_
  refine at_loop (ι:=Nat) (fun i=> [(0,yv l1),(1,.fp (casL c)),(2,.fp [nJ j]),(9,filsA c.F),(10,nJ c.F.length),(11,nJ i)]) (fun i=>⟨[(2,some (casL c)),(4,some ([.b (i % 2==1)]))]⟩) (fun i=>i≤c.F.length∧∀t,t<i→hasAt c j t=true) (fun i=>c.F.length - i) ?_ ?_
  ·exact at_ex (0) (⟨Nat.zero_le _,fun t ht=>absurd ht (by omega)⟩) [(2,some 2),(4,some 4)] hR1.sub.ids rfl rfl ⟨⟨_,rfl,.pure trivial⟩,⟨_,rfl,.pure pu⟩,⟨_,rfl,.pure pu⟩,⟨_,rfl,.pure pu⟩,⟨_,rfl,.pure pu⟩,⟨_,rfl,.pure pu⟩,trivial⟩ ⟨.inr ⟨_,_,rfl,rfl,.pure pul⟩,.inr ⟨_,_,rfl,rfl,.pure pul⟩,trivial⟩
  rintro i ⟨hi,hp⟩
  refine at_seq<|at_region<|s1 (y_p rfl) rfl ?_
  refine at_nil<|x_tn<|at_seq ?_
  refine at_cond rfl (fun hc12=>?_) (fun hc12=>?_)
  ·have h12 : i < c.F.length := by have := of_decide_eq_true hc12; omega
   obtain⟨f,hf⟩:∃f,c.F[i]? =some f:=⟨_,List.getElem?_eq_getElem h12⟩
   refine at_skip<|x_tn<|at_seq<|at_block<|at_seq<|at_region<|s1 (y_ixf i Tryz.underlying58 ti120 rfl rfl rfl (by omega) rfl) rfl<|s1 (y_loadA ti120 rfl rfl (flat_get hf) rfl) rfl ?_
   refine at_op rfl (n_alloc 1005 rfl ti120 rfl rfl ?_)
   refine at_op rfl (n_storeA ti120 rfl rfl rfl (by first|rfl|omega|(simp<;>omega)|(simp [*]<;>omega)) (by first|rfl|omega|(simp<;>omega)|(simp [*]<;>omega)) ?_)
   refine at_nil<|x_tn<|at_seq<|at_region<|s1 (y_fldf Tryz.underlying60 rfl ti23 (by decide) rfl rfl) rfl<|s1 (y_loadA ti23 rfl rfl (cas_x hx) (by simp [hx])) rfl<|s1 (y_loadA0 ti120 rfl rfl rfl) rfl<|s1 (y_load ti3 rfl rfl rfl) rfl ?_
   refine at_op rfl (n_call false rfl (.cons (.pure pu) (.cons (.pure pu) (.cons (.pure pu) (.nil)))) (Con.cast (fhas_ok c.x f.lv f.nb (j:Int) f.D hx) (has_at hck hf hj)) pu (.inl rfl) rfl ?_)
   refine s1 (y_p rfl) rfl<|s1 (y_p rfl) rfl<|s1 (y_p rfl) rfl<|s1 (y_p rfl) rfl<|s1 (y_p rfl) rfl ?_
   refine at_nil<|x_tn<|at_seq<|at_region<|s1 (y_p rfl) rfl<|s1 (y_p rfl) rfl<|s1 (y_p rfl) rfl ?_
   refine at_bc 25 rfl (fun hc25=>?_) (fun hc25=>?_)
   ·have h25 : hasAt c j i = false := by simpa using hc25
    have hps:=passT_no h12 hp h25
    refine g0 rfl rfl rfl rfl<|g0 rfl rfl rfl rfl<|g0 rfl rfl rfl rfl<|g0 rfl rfl rfl rfl<|s1 (y_p rfl) rfl ?_
    refine at_nil<|x_tn ?_
    refine at_then rfl ?_
    refine at_ret<|x_br<|x_tr<|x_tr<|x_br ?_
    refine at_itret rfl hR1 hS ?_
    refine x_bn<|x_tn<|at_seq<|at_seq ?_
    refine at_sayO 4 (cs':= [.b (passT (hasAt c j) c.F.length % 2==1)]) rfl (by rw [hps]) ?_
    refine at_region<|s1 (y_fld Tryz.underlying60 rfl ti30 (by decide) rfl rfl) rfl<|s1 (y_load ti30 rfl rfl (cas_E hx)) rfl<|s1 (y_len Tryz.underlying30 rfl rfl rfl) rfl<|s1 ((y_p rfl).v (v':= .i .i64 0) rfl) rfl ?_
    refine at_nil<|x_tn<|at_block ?_
    refine at_loop (ι:=Nat) (fun k=> [(1,nJ j),(4,.p 4 0),(27,intsA c.E),(28,nJ c.E.length),(29,nJ k)]) (fun k=>⟨[(4,some ([.b ((passT (hasAt c j) c.F.length % 2==1) !=inE (c.E.take k) j)]))]⟩) (fun k=>k≤c.E.length) (fun k=>c.E.length - k) ?_ ?_
    ·exact at_ex (0) (Nat.zero_le _) [(4,some 4)] hI rfl rfl ⟨⟨_,rfl,.pure pu⟩,⟨_,rfl,.p rfl⟩,⟨_,rfl,.pure pu⟩,⟨_,rfl,.pure pu⟩,⟨_,rfl,.pure pu⟩,trivial⟩ ⟨.inr ⟨_,_,rfl,rfl,.of (by rw [←exc_0]) (.pure pul)⟩,trivial⟩
    rintro k hk
    refine at_seq<|at_region<|s1 (y_p rfl) rfl ?_
    refine at_nil<|x_tn<|at_seq ?_
    refine at_cond rfl (fun hc30=>?_) (fun hc30=>?_)
    ·have h30 : k < c.E.length := by have := of_decide_eq_true hc30; omega
     obtain⟨q,hq⟩:∃q,c.E[k]? =some q:=⟨_,List.getElem?_eq_getElem h30⟩
     refine at_skip<|x_tn<|at_seq<|at_block<|at_seq<|at_region<|s1 (y_ixf k Tryz.underlying30 ti3 rfl rfl rfl (by omega) rfl) rfl<|s1 (y_load ti3 rfl rfl (getI4 hq)) rfl<|s1 (y_p rfl) rfl ?_
     refine at_nil<|x_tn<|at_seq<|at_region<|s1 (y_p rfl) rfl<|s1 (y_p rfl) rfl<|s1 (y_p rfl) rfl ?_
     refine at_nil<|x_tn ?_
     refine at_cond rfl (fun hc35=>?_) (fun hc35=>?_)
     ·have h35 : q = (j : Int) := by have := of_decide_eq_true hc35; omega
      refine at_region<|s1 (y_load ti4 rfl rfl rfl) rfl<|s1 (y_p rfl) rfl ?_
      refine at_op rfl (n_store1 ti4 rfl rfl rfl rfl (by first|rfl|omega|(simp<;>omega)|(simp [*]<;>omega)) rfl ?_)
      refine at_nil<|x_bn<|x_tn<|at_region<|s1 (addN _ 1 rfl rfl rfl rfl (by omega)) rfl<|s1 (y_p rfl) rfl ?_
      refine at_nil ?_
      exact at_end (k+1) (by omega) (by omega) [(4,some 4)] hI rfl rfl ⟨⟨_,rfl,.pure pu⟩,⟨_,rfl,.p rfl⟩,⟨_,rfl,.pure pu⟩,⟨_,rfl,.pure pu⟩,⟨_,rfl,.pure pu⟩,trivial⟩ ⟨.inr ⟨_,_,rfl,rfl,.of (by rw [←exc_hit hle hq h35];rfl) (.pure pul)⟩,trivial⟩
     ·have h35 : ¬ q = (j : Int) := by have := of_decide_eq_false hc35; omega
      refine at_skip<|x_bn<|x_tn<|at_region<|s1 (addN _ 1 rfl rfl rfl rfl (by omega)) rfl<|s1 (y_p rfl) rfl ?_
      refine at_nil ?_
      exact at_end (k+1) (by omega) (by omega) [(4,some 4)] hI rfl rfl ⟨⟨_,rfl,.pure pu⟩,⟨_,rfl,.p rfl⟩,⟨_,rfl,.pure pu⟩,⟨_,rfl,.pure pu⟩,⟨_,rfl,.pure pu⟩,trivial⟩ ⟨.inr ⟨_,_,rfl,rfl,.of (by rw [←exc_miss hq h35]) (.pure pul)⟩,trivial⟩
    ·have h30 : k = c.E.length := by have := of_decide_eq_false hc30; omega
     subst h30
     refine at_exit<|x_te<|x_te<|x_be<|x_tn<|at_seq<|at_region<|s1 (y_load ti4 rfl rfl rfl) rfl ?_
     refine at_op rfl (n_store1 ti4 rfl rfl rfl rfl (by first|rfl|omega|(simp<;>omega)|(simp [*]<;>omega)) rfl ?_)
     refine s1 ((y_p rfl).v (v':= .i .i64 0) rfl) rfl ?_
     refine at_nil<|x_tn<|at_ret ?_
     refine at_resultM (rs:= [.cell 4 4,.tmp 5]) rfl rfl rfl hS (dn:= [D1]) rfl rfl (by simp) rfl (r_cell ti4 rfl rfl rfl (r_tmp rfl r_nil)) ?_
     show A.tu _=_;rw [hasc_yes hck hnb,hasC,List.take_length]
   ·have h25 : hasAt c j i = true := by simpa using hc25
    refine g1 rfl rfl (y_p rfl) rfl<|g1 rfl rfl (y_loadA0 ti120 rfl rfl rfl) rfl ?_
    refine at_ung rfl rfl ?_
    refine at_yield [2,4,1005] [(0,_),(1,_),(2,_),(5,_),(6,_),(9,_),(10,_),(11,_),(12,_),(13,_),(14,_),(15,_),(16,_),(17,_),(18,_),(19,_),(20,_),(21,_),(22,_),(23,_),(24,_),(25,_),(26,_),(27,_)] hR1 hR1.sub.ids rfl ⟨rfl,⟨rfl,⟨rfl,⟨rfl,⟨rfl,⟨rfl,⟨rfl,⟨rfl,⟨rfl,⟨rfl,⟨rfl,⟨rfl,⟨rfl,⟨rfl,⟨rfl,⟨rfl,⟨rfl,⟨rfl,⟨rfl,⟨rfl,⟨rfl,⟨rfl,⟨rfl,⟨rfl,trivial⟩⟩⟩⟩⟩⟩⟩⟩⟩⟩⟩⟩⟩⟩⟩⟩⟩⟩⟩⟩⟩⟩⟩⟩ (by first|rfl|(simp [onlyE,refsE,refs,refsL,refsL_pul,refs_pu,memN];done)) rfl rfl rfl rfl rfl fun w2 tm2 hd2=>?_
    refine at_skip ?_
    refine at_begin hd2 fun w3 hd3=>?_
    refine at_block<|at_region<|s1 (y_load ti4 rfl rfl rfl) rfl<|s1 (y_p rfl) rfl ?_
    refine at_op rfl (n_store1 ti4 rfl rfl rfl rfl (by first|rfl|omega|(simp<;>omega)|(simp [*]<;>omega)) rfl ?_)
    refine at_nil<|x_bn ?_
    refine at_rend hR1 hd3 rfl ?_
    refine g1 rfl rfl (y_p rfl) rfl<|s1 (y_p rfl) rfl ?_
    refine at_nil<|x_tn ?_
    refine at_else rfl ?_
    refine at_skip<|x_bn<|x_tn<|at_region<|s1 (addN _ 1 rfl rfl rfl rfl (by omega)) rfl<|s1 (y_p rfl) rfl ?_
    refine at_nil ?_
    exact at_end (i+1) (⟨by omega,all_next hp h25⟩) (by omega) [(2,some 2),(4,some 4)] hR1.sub.ids rfl rfl ⟨⟨_,rfl,.pure trivial⟩,⟨_,rfl,.pure pu⟩,⟨_,rfl,.pure pu⟩,⟨_,rfl,.pure pu⟩,⟨_,rfl,.pure pu⟩,⟨_,rfl,.pure pu⟩,trivial⟩ ⟨.inr ⟨_,_,rfl,rfl,.pure pul⟩,.inr ⟨_,_,rfl,rfl,.of (by rw [←odd_next i];rfl) (.pure pul)⟩,trivial⟩
  ·have h12 : i = c.F.length := by have := of_decide_eq_false hc12; omega
   subst h12
   have hps:passT (hasAt c j) c.F.length=c.F.length:=passT_all hp
   refine at_exit<|x_te<|x_te<|x_be ?_
   refine at_itnil rfl hR1 hS ?_
   refine x_bn<|x_tn<|at_seq<|at_seq ?_
   refine at_sayO 4 (cs':= [.b (passT (hasAt c j) c.F.length % 2==1)]) rfl (by rw [hps]) ?_
   refine at_region<|s1 (y_fld Tryz.underlying60 rfl ti30 (by decide) rfl rfl) rfl<|s1 (y_load ti30 rfl rfl (cas_E hx)) rfl<|s1 (y_len Tryz.underlying30 rfl rfl rfl) rfl<|s1 ((y_p rfl).v (v':= .i .i64 0) rfl) rfl ?_
   refine at_nil<|x_tn<|at_block ?_
   refine at_loop (ι:=Nat) (fun k=> [(1,nJ j),(4,.p 4 0),(27,intsA c.E),(28,nJ c.E.length),(29,nJ k)]) (fun k=>⟨[(4,some ([.b ((passT (hasAt c j) c.F.length % 2==1) !=inE (c.E.take k) j)]))]⟩) (fun k=>k≤c.E.length) (fun k=>c.E.length - k) ?_ ?_
   ·exact at_ex (0) (Nat.zero_le _) [(4,some 4)] hI rfl rfl ⟨⟨_,rfl,.pure pu⟩,⟨_,rfl,.p rfl⟩,⟨_,rfl,.pure pu⟩,⟨_,rfl,.pure pu⟩,⟨_,rfl,.pure pu⟩,trivial⟩ ⟨.inr ⟨_,_,rfl,rfl,.of (by rw [←exc_0]) (.pure pul)⟩,trivial⟩
   rintro k hk
   refine at_seq<|at_region<|s1 (y_p rfl) rfl ?_
   refine at_nil<|x_tn<|at_seq ?_
   refine at_cond rfl (fun hc30=>?_) (fun hc30=>?_)
   ·have h30 : k < c.E.length := by have := of_decide_eq_true hc30; omega
    obtain⟨q,hq⟩:∃q,c.E[k]? =some q:=⟨_,List.getElem?_eq_getElem h30⟩
    refine at_skip<|x_tn<|at_seq<|at_block<|at_seq<|at_region<|s1 (y_ixf k Tryz.underlying30 ti3 rfl rfl rfl (by omega) rfl) rfl<|s1 (y_load ti3 rfl rfl (getI4 hq)) rfl<|s1 (y_p rfl) rfl ?_
    refine at_nil<|x_tn<|at_seq<|at_region<|s1 (y_p rfl) rfl<|s1 (y_p rfl) rfl<|s1 (y_p rfl) rfl ?_
    refine at_nil<|x_tn ?_
    refine at_cond rfl (fun hc35=>?_) (fun hc35=>?_)
    ·have h35 : q = (j : Int) := by have := of_decide_eq_true hc35; omega
     refine at_region<|s1 (y_load ti4 rfl rfl rfl) rfl<|s1 (y_p rfl) rfl ?_
     refine at_op rfl (n_store1 ti4 rfl rfl rfl rfl (by first|rfl|omega|(simp<;>omega)|(simp [*]<;>omega)) rfl ?_)
     refine at_nil<|x_bn<|x_tn<|at_region<|s1 (addN _ 1 rfl rfl rfl rfl (by omega)) rfl<|s1 (y_p rfl) rfl ?_
     refine at_nil ?_
     exact at_end (k+1) (by omega) (by omega) [(4,some 4)] hI rfl rfl ⟨⟨_,rfl,.pure pu⟩,⟨_,rfl,.p rfl⟩,⟨_,rfl,.pure pu⟩,⟨_,rfl,.pure pu⟩,⟨_,rfl,.pure pu⟩,trivial⟩ ⟨.inr ⟨_,_,rfl,rfl,.of (by rw [←exc_hit hle hq h35];rfl) (.pure pul)⟩,trivial⟩
    ·have h35 : ¬ q = (j : Int) := by have := of_decide_eq_false hc35; omega
     refine at_skip<|x_bn<|x_tn<|at_region<|s1 (addN _ 1 rfl rfl rfl rfl (by omega)) rfl<|s1 (y_p rfl) rfl ?_
     refine at_nil ?_
     exact at_end (k+1) (by omega) (by omega) [(4,some 4)] hI rfl rfl ⟨⟨_,rfl,.pure pu⟩,⟨_,rfl,.p rfl⟩,⟨_,rfl,.pure pu⟩,⟨_,rfl,.pure pu⟩,⟨_,rfl,.pure pu⟩,trivial⟩ ⟨.inr ⟨_,_,rfl,rfl,.of (by rw [←exc_miss hq h35]) (.pure pul)⟩,trivial⟩
   ·have h30 : k = c.E.length := by have := of_decide_eq_false hc30; omega
    subst h30
    refine at_exit<|x_te<|x_te<|x_be<|x_tn<|at_seq<|at_region<|s1 (y_load ti4 rfl rfl rfl) rfl ?_
    refine at_op rfl (n_store1 ti4 rfl rfl rfl rfl (by first|rfl|omega|(simp<;>omega)|(simp [*]<;>omega)) rfl ?_)
    refine s1 ((y_p rfl).v (v':= .i .i64 0) rfl) rfl ?_
    refine at_nil<|x_tn<|at_ret ?_
    refine at_resultM (rs:= [.cell 4 4,.tmp 5]) rfl rfl rfl hS (dn:= [D1]) rfl rfl (by simp) rfl (r_cell ti4 rfl rfl rfl (r_tmp rfl r_nil)) ?_
    show A.tu _=_;rw [hasc_yes hck hnb,hasC,List.take_length]
end Go.Abs.D2
-- C4D
namespace Go.Abs.D2
open Go Go.Eng Go.Abs Go.Proofs
end Go.Abs.D2
namespace Go.Eng
open Go Go.Eng Go.Proofs Go.Abs
theorem zero_bool (w:World):(zeroValue 4).run Tryz.prog w= .ok (.bool false) w:=by kernel_rfl
theorem offAll_of {w:World} {b blk clk:Nat} {es:Array MapEntry} (h:w.heap.size≤b):offAll [(b,.map es clk)] w blk:=⟨.inr h,trivial⟩
theorem disj_raw (w:World) (a1 a2:Option Addr) (c1 c2:Nat) (l1 l2:List Int) (h1:RI w a1 l1) (h2:RI w a2 l2) (hn1:l1.length≤maxLen) (hn2:l2.length≤maxLen):Fn Tryz.prog 73 #[.slice a1 l1.length c1,.slice a2 l2.length c2] w (fun v w2=>v= .bool (disjB l1 l2)∧RowKit.Below w.heap.size w w2):=by
 simp only [maxLen]at hn1 hn2
 have hlt0:True:=trivial
 refine enter Tryz.func73 rfl Tryz.ntmps73 (by kernel_rfl) rfl ?_
 refine at_seq<|at_region<|s1 (y_p rfl) rfl ?_
 refine at_nil<|x_tn<|at_seq<|at_region ?_
 refine at_op rfl (n_makeMap rfl fun b hbS hbH=>?_)
 have hlb:w.heap.size≤b:=hbS.1
 refine s1 (y_p rfl) rfl ?_
 refine at_nil<|x_tn<|at_seq<|at_seq<|at_region<|s1 (y_p rfl) rfl<|s1 (y_len Tryz.underlying30 rfl rfl) rfl<|s1 (y_p rfl) rfl ?_
 refine at_nil<|x_tn<|at_block ?_
 refine at_loop (ι:=Nat×Array MapEntry×Nat) (fun⟨i,es,clk⟩=> [(1,.slice a2 l2.length c2),(5,.map (some b)),(11,.slice a1 l1.length c1),(12,.int .i64 (l1.length:Nat)),(13,.int .i64 (i:Nat))]) (fun⟨i,es,clk⟩=> [w]) (fun⟨i,es,clk⟩=> [(b,.map es clk)]) (fun⟨i,es,clk⟩=>i≤l1.length∧MapF es clk (setF (l1.take i))) (fun⟨i,es,clk⟩=>l1.length - i) ?_ ?_
 ·exact at_ex (0, #[],0) ⟨Nat.zero_le _,MapF.empty 0⟩ ⟨rfl,rfl,rfl,rfl,rfl,trivial⟩ (fun _ h=>h)
 rintro⟨i,es,clk⟩ ⟨hi,hF⟩
 dsimp only
 refine at_seq<|at_region<|s1 (y_p rfl) rfl ?_
 refine at_nil<|x_tn<|at_seq ?_
 refine at_cond rfl (fun hc14=>?_) (fun hc14=>?_)
 ·have h14 : i < l1.length := by have := of_decide_eq_true hc14; omega
  obtain⟨q,hq⟩:∃q,l1[i]? =some q:=⟨_,List.getElem?_eq_getElem h14⟩
  have hr:=h1 i q hq
  refine at_skip<|x_tn<|at_seq<|at_block<|at_seq<|at_region<|s1 (y_idx1 i Tryz.underlying30 ti3 rfl rfl rfl (by omega) hr.1) rfl<|s1 (y_load ti3 rfl (fun w2 hG2=>hG2.cell' (.head _) hr.2 (offAll_of hlb))) rfl<|s1 (y_p rfl) rfl ?_
  refine at_nil<|x_tn<|at_region<|s1 (y_p rfl) rfl<|s1 (y_p rfl) rfl ?_
  refine at_op rfl (n_mapUpdate 0 Tryz.underlying161 Tryz.underlying3 rfl rfl rfl rfl hF fun es2 clk2 hF2=>?_)
  refine at_nil<|x_bn<|x_tn<|at_region<|s1 (addN i 1 rfl rfl rfl rfl (by omega)) rfl<|s1 (y_p rfl) rfl ?_
  refine at_nil ?_
  exact at_end (x:=(i,es,clk)) (i+1,es2,clk2) ⟨(show i+1≤l1.length from by omega),by rw [←setF_next hq];exact hF2⟩ (show l1.length - (i+1)<l1.length - i from by omega) ⟨rfl,rfl,rfl,rfl,rfl,trivial⟩ (fun _ h=>h)
 ·have h14 : i = l1.length := by have := of_decide_eq_false hc14; omega
  subst h14
  rw [List.take_length]at hF
  refine at_exit<|x_te<|x_te<|x_be<|x_tn<|at_seq<|at_seq<|at_region<|s1 (y_p rfl) rfl<|s1 (y_len Tryz.underlying30 rfl rfl) rfl<|s1 (y_p rfl) rfl ?_
  refine at_nil<|x_tn<|at_block ?_
  refine at_loop (ι:=Nat) (fun j=> [(5,.map (some b)),(20,.slice a2 l2.length c2),(21,.int .i64 (l2.length:Nat)),(22,.int .i64 (j:Nat))]) (fun j=> [w]) (fun j=> [(b,.map es clk)]) (fun j=>j≤l2.length∧(l2.take j).all (fun n=>!decide (n∈l1))=true) (fun j=>l2.length - j) ?_ ?_
  ·exact at_ex 0 ⟨Nat.zero_le _,rfl⟩ ⟨rfl,rfl,rfl,rfl,trivial⟩ (fun _ h=>h)
  rintro j ⟨hj,hall⟩
  refine at_seq<|at_region<|s1 (y_p rfl) rfl ?_
  refine at_nil<|x_tn<|at_seq ?_
  refine at_cond rfl (fun hc23=>?_) (fun hc23=>?_)
  ·have h23 : j < l2.length := by have := of_decide_eq_true hc23; omega
   obtain⟨q,hq⟩:∃q,l2[j]? =some q:=⟨_,List.getElem?_eq_getElem h23⟩
   have hr:=h2 j q hq
   refine at_skip<|x_tn<|at_seq<|at_block<|at_seq<|at_region<|s1 (y_idx1 j Tryz.underlying30 ti3 rfl rfl rfl (by omega) hr.1) rfl<|s1 (y_load ti3 rfl (fun w2 hG2=>hG2.cell' (.head _) hr.2 (offAll_of hlb))) rfl<|s1 (y_p rfl) rfl ?_
   refine at_nil<|x_tn<|at_seq<|at_region<|s1 (y_p rfl) rfl<|s1 (y_p rfl) rfl<|s1 ((y_lookup 0 Tryz.underlying161 Tryz.underlying3 zero_bool rfl rfl rfl hF).v (setF_look l1 q)) rfl ?_
   refine at_nil<|x_tn ?_
   refine at_cond rfl (fun hc28=>?_) (fun hc28=>?_)
   ·skip
    refine at_seq<|at_region<|s1 (y_p rfl) rfl ?_
    refine at_nil<|x_tn<|at_ret<|x_br<|x_tr<|x_tr<|x_br<|x_tr ?_
    refine at_result (rs:= [.tmp 4]) rfl (r_tmp rfl r_nil) fun w1 hG1=>⟨congrArg Value.bool (disj_no hq (of_decide_eq_true hc28)).symm,hG1.below (.head _) (by intro p hp;rw [List.mem_singleton.1 hp];exact hlb)⟩
   ·skip
    refine at_skip<|x_bn<|x_tn<|at_region<|s1 (addN j 1 rfl rfl rfl rfl (by omega)) rfl<|s1 (y_p rfl) rfl ?_
    refine at_nil ?_
    exact at_end (x:=j) (j+1) ⟨(show j+1≤l2.length from by omega),all_next2 hq hall (by rw [hc28];rfl)⟩ (show l2.length - (j+1)<l2.length - j from by omega) ⟨rfl,rfl,rfl,rfl,trivial⟩ (fun _ h=>h)
  ·have h23 : j = l2.length := by have := of_decide_eq_false hc23; omega
   subst h23
   rw [List.take_length]at hall
   refine at_exit<|x_te<|x_te<|x_be<|x_tn<|at_seq<|at_region<|s1 (y_p rfl) rfl ?_
   refine at_nil<|x_tn<|at_ret ?_
   refine at_result (rs:= [.tmp 4]) rfl (r_tmp rfl r_nil) fun w1 hG1=>⟨congrArg Value.bool hall.symm,hG1.below (.head _) (by intro p hp;rw [List.mem_singleton.1 hp];exact hlb)⟩
end Go.Eng
namespace Go.Abs.D2
open Go Go.Eng Go.Abs Go.Proofs
theorem ri_of {X:Xs} {w:World} {a:Option Addr} {cap:Nat} {l:List Int} (h2:l.length≤cap) (h4:a=none→cap=0) (h5:0<cap→∀x,a=some x→x.spot=none) (h6:VM X w (l.map (A.i .i64)) (ab a) (ao a)):Go.Eng.RI w a l:=fun i v hi=>by
 have hlt:=(List.getElem?_eq_some_iff.1 hi).1
 obtain⟨_,u,e1,e2,_⟩:=VM_get h6 (j:=i) (c:= .i .i64 v) (by rw [List.getElem?_map,hi];rfl)
 rw [V_i]at e2
 subst e2
 refine⟨?_,e1⟩
 cases a with
 |none=>exact absurd (h4 rfl) (by omega)
 |some x=>
  have:=h5 (by omega) x rfl
  obtain⟨b,o,s⟩:=x
  simp only at this
  subst this;rfl
theorem disjoint_ok (a b:List Int) (hn1:a.length≤maxLen) (hn2:b.length≤maxLen):Con Tryz.prog 73 [.fz a.length (a.map (A.i .i64)),.fz b.length (b.map (A.i .i64))] (Ret (.b (Go.Eng.disjB a b))):=by
 intro w X β us hd hX hgl ho hi hv
 simp only [VS]at hv
 obtain⟨u1,r1,rfl,v1,u2,r2,rfl,v2,rfl⟩:=hv
 simp only [V]at v1 v2
 obtain⟨a1,c1,rfl,e2,e3,e4,e5,e6⟩:=v1
 obtain⟨a2,c2,rfl,g2,g3,g4,g5,g6⟩:=v2
 refine Eng.Fn.mono (Go.Eng.disj_raw w a1 a2 c1 c2 a b (ri_of e2 e4 e5 e6) (ri_of g2 g4 g5 g6) hn1 hn2) fun v w' ⟨hv,hb⟩=>?_
 subst hv
 refine⟨.b (Go.Eng.disjB a b),β,X,⟨[]⟩,rfl,fun _ _ h=>h,fun _ _ h=> .inl h,.of ⟨hb.os,hb.tape,hb.output,hb.size,fun k hk _=>hb.block k hk,fun s hs=>by cases hs⟩ (ExtB.refl β) (fun q o h=>Nat.lt_of_lt_of_le (hX q o h) hb.size) hd (fun id cs h=>by cases h) (fun i j ci cj q M N _ h _ _ _=>by cases h),by simp only [V]⟩
end Go.Abs.D2
-- C4E
namespace Go.Abs.D2
open Go Go.Eng Go.Abs Go.Proofs
theorem cbuild1_ok (x:List UInt8) (hx:x.length=32) (f:Fil) (q:Int):Con Tryz.prog 77 [.i .i64 q,.fp (x.map u8),.fp (filC f)] (Ret (.b (hasV x f.lv f.nb f.D q))):=by
 refine enter Tryz.func77 rfl Tryz.ntmps77 (by kernel_rfl) (Nat.le_of_ble_eq_true rfl) fun w0 X0 hI=>?_
 refine at_seq<|at_region<|s1 (y_p rfl) rfl ?_
 refine at_nil<|x_tn<|at_seq<|at_region<|s1 (y_loadA ti23 rfl rfl (List.take_of_length_le (by simp [hx])) (by simp [hx])) rfl<|s1 (y_loadA ti120 rfl rfl rfl rfl) rfl<|s1 (y_p rfl) rfl ?_
 refine at_op rfl (n_call false rfl (.cons (.pure pu) (.cons (.pure pu) (.cons (.pure pu) (.nil)))) (Con.cast (fhas_ok x f.lv f.nb q f.D hx) (has_form ..)) pu (.inl rfl) rfl ?_)
 refine s1 (y_p rfl) rfl<|s1 (y_p rfl) rfl<|s1 (y_p rfl) rfl<|s1 (y_p rfl) rfl<|s1 (y_p rfl) rfl ?_
 refine at_nil<|x_tn<|at_seq<|at_region<|s1 (y_p rfl) rfl<|s1 (y_p rfl) rfl ?_
 refine at_nil<|x_tn<|at_ret ?_
 refine at_result (rs:= [.tmp 4]) rfl (r_tmp rfl r_nil) ?_
 rfl
theorem cchoose_ok (x:List UInt8) (hx:x.length=32) (f:Fil) (l:List Int) (hn:l.length≤100):Con Tryz.prog 76 [.fz l.length (l.map (A.i .i64)),.fn (.func 77) [] [.fp (x.map u8),.fp (filC f)]] (Ret (intsA (wrongL x f l))):=by
 refine enter Tryz.func76 rfl Tryz.ntmps76 (by kernel_rfl) (Nat.le_of_ble_eq_true rfl) fun w0 X0 hI=>?_
 refine at_seq<|at_region<|s1 (y_p rfl) rfl ?_
 refine at_nil<|x_tn<|at_seq<|at_seq<|at_region<|s1 (y_p rfl) rfl<|s1 (y_len Tryz.underlying30 rfl rfl rfl) rfl<|s1 ((y_p rfl).v (v':= .i .i64 0) rfl) rfl ?_
 refine at_nil<|x_tn<|at_block ?_
 refine at_loop (ι:=Nat) (fun i=> [(1,.fn (.func 77) [] [.fp (x.map u8),.fp (filC f)]),(4,.sl 119 1 0 (wrongL x f (l.take i)).length),(7,.fz l.length (l.map (A.i .i64))),(8,nJ l.length),(9,nJ i)]) (fun i=>⟨[(119,some ((wrongL x f (l.take i)).map iA))]⟩) (fun i=>i≤l.length) (fun i=>l.length - i) ?_ ?_
 ·exact at_ex (0) (Nat.zero_le _) [(119,none)] hI rfl rfl ⟨⟨_,rfl,.pure pu⟩,⟨_,rfl,.nl rfl⟩,⟨_,rfl,.pure pu⟩,⟨_,rfl,.pure pu⟩,⟨_,rfl,.pure pu⟩,trivial⟩ ⟨.inl ⟨rfl,rfl⟩,trivial⟩
 rintro i hi
 have hwl:=len_wrong x f (l.take i)
 rw [List.length_take]at hwl
 refine at_seq<|at_region<|s1 (y_p rfl) rfl ?_
 refine at_nil<|x_tn<|at_seq ?_
 refine at_cond rfl (fun hc10=>?_) (fun hc10=>?_)
 ·have h10 : i < l.length := by have := of_decide_eq_true hc10; omega
  obtain⟨q,hq⟩:∃q,l[i]? =some q:=⟨_,List.getElem?_eq_getElem h10⟩
  refine at_skip<|x_tn<|at_seq<|at_block<|at_seq<|at_region<|s1 (y_ixf i Tryz.underlying30 ti3 rfl rfl rfl (by omega) rfl) rfl<|s1 (y_load ti3 rfl rfl (getI4 hq)) rfl<|s1 (y_p rfl) rfl ?_
  refine at_nil<|x_tn<|at_seq<|at_region<|s1 (y_p rfl) rfl<|s1 (y_p rfl) rfl ?_
  refine at_op rfl (n_callv false rfl rfl (.cons (.pure pu) (.cons (.pure pu) (.cons (.pure pu) .nil))) (cbuild1_ok x hx f q) pu (.inl rfl) rfl ?_)
  refine at_nil<|x_tn ?_
  refine at_cond rfl (fun hc15=>?_) (fun hc15=>?_)
  ·have hwn := wrong_len hq hc15
   refine at_region<|s1 (y_p rfl) rfl<|s1 (y_p rfl) rfl ?_
   refine at_op rfl (n_bs1 18 rfl Tryz.underlying30 ti3 rfl rfl rfl rfl rfl ?_)
   refine at_op rfl (n_app 19 rfl Tryz.underlying30 ti3 rfl (.sl rfl (by simp)) rfl (SM_full rfl (by first|rfl|omega|(simp<;>omega)|(simp [*]<;>omega))) (by simp) (by simp only [maxLen];omega) (by omega) rfl (wrong_next hq hc15) rfl ?_)
   refine s1 (y_p rfl) rfl ?_
   refine at_nil<|x_bn<|x_tn<|at_region<|s1 (addN _ 1 rfl rfl rfl rfl (by omega)) rfl<|s1 (y_p rfl) rfl ?_
   refine at_nil ?_
   exact at_end (i+1) (by omega) (by omega) [(119,some 19)] hI rfl rfl ⟨⟨_,rfl,.pure pu⟩,⟨_,rfl,.sl rfl (by first|rfl|omega|(simp<;>omega)|(simp [*]<;>omega))⟩,⟨_,rfl,.pure pu⟩,⟨_,rfl,.pure pu⟩,⟨_,rfl,.pure pu⟩,trivial⟩ ⟨.inr ⟨_,_,rfl,rfl,.pure pul⟩,trivial⟩
  ·have hfm := wrong_miss hq hc15
   have hwn:(wrongL x f (l.take i)).length=(wrongL x f (l.take (i+1))).length:=by rw [hfm]
   refine at_skip<|x_bn<|x_tn<|at_region<|s1 (addN _ 1 rfl rfl rfl rfl (by omega)) rfl<|s1 (y_p rfl) rfl ?_
   refine at_nil ?_
   exact at_end (i+1) (by omega) (by omega) [(119,some 119)] hI rfl rfl ⟨⟨_,rfl,.pure pu⟩,⟨_,rfl,.sl rfl (by first|rfl|omega|(simp<;>omega)|(simp [*]<;>omega))⟩,⟨_,rfl,.pure pu⟩,⟨_,rfl,.pure pu⟩,⟨_,rfl,.pure pu⟩,trivial⟩ ⟨.inr ⟨_,_,rfl,rfl,.of (by rw [hfm]) (.pure pul)⟩,trivial⟩
 ·obtain rfl : i = l.length := by have := of_decide_eq_false hc10; omega
  refine at_exit<|x_te<|x_te<|x_be<|x_tn<|at_seq ?_
  refine at_frz 4 rfl rfl pul (view_eq (by simp) rfl) ?_
  refine at_say 4 rfl (v':=intsA (wrongL x f l)) (by rw [List.take_length]) ?_
  refine at_region<|s1 (y_p rfl) rfl<|s1 (y_p rfl) rfl ?_
  refine at_nil<|x_tn<|at_ret ?_
  refine at_result (rs:= [.tmp 4]) rfl (r_tmp rfl r_nil) ?_
  rfl
theorem cbuild_ok (x:List UInt8) (hx:x.length=32) (p q:List Int) (hp:p.length≤100) (hq100:q.length≤100):Con Tryz.prog 29 [.ag (x.map u8),.fz p.length (p.map (A.i .i64)),.fz q.length (q.map (A.i .i64))] (Ret (buildA x p q)):=by
 refine enter Tryz.func29 rfl Tryz.ntmps29 (by kernel_rfl) (Nat.le_of_ble_eq_true rfl) fun w0 X0 hI=>?_
 refine at_seq<|at_region ?_
 refine at_op rfl (n_boxA 3 rfl rfl rfl ?_)
 refine at_op rfl (n_alloc 6 rfl ti60 rfl rfl ?_)
 refine s1 ((y_p rfl).v (v':= .i .i64 0) rfl) rfl ?_
 refine at_nil<|x_tn<|at_seq<|at_seq ?_
 rcases ok2_cases p q with hcs|hcs|hcs|hcs
 ·obtain ⟨h1, hb⟩ := hcs
  refine at_frzP 3 rfl rfl pul ?_
  refine at_region<|s1 (y_p rfl) rfl ?_
  refine at_op rfl (n_call false rfl (.cons (.pure pu) (.nil)) (Con.cast (listed_ok p (by simp only [maxLen];omega)) (congrArg A.b h1)) pu (.inl rfl) rfl ?_)
  refine s1 ((y_p rfl).v (v':= .b true) (rfl)) rfl<|s1 (y_p rfl) rfl<|g0 rfl rfl rfl rfl<|g0 rfl rfl rfl rfl<|g0 rfl rfl rfl rfl<|s1 (y_p rfl) rfl<|s1 (y_p rfl) rfl<|g0 rfl rfl rfl rfl<|g0 rfl rfl rfl rfl<|g0 rfl rfl rfl rfl ?_
  refine g0 rfl rfl rfl rfl<|s1 (y_p rfl) rfl ?_
  refine at_nil<|x_tn ?_
  refine at_then rfl ?_
  refine at_seq<|at_region<|s1 (y_loadA0 ti60 rfl rfl rfl) rfl ?_
  refine at_op rfl (n_storeA ti60 rfl rfl rfl (by first|rfl|omega|(simp<;>omega)|(simp [*]<;>omega)) (by first|rfl|omega|(simp<;>omega)|(simp [*]<;>omega)) ?_)
  refine s1 ((y_p rfl).v (v':= .i .i64 340) rfl) rfl ?_
  refine at_nil<|x_tn<|at_ret<|x_tr ?_
  refine at_sayO 6 (cs':=Z32.map u8++ [.nl,.nl]) rfl rfl ?_
  refine at_wkO 6 rfl wk_cas0 ?_
  refine at_result (rs:= [.cell 6 60,.tmp 7]) rfl (r_cellA ti60 rfl rfl rfl rfl (r_tmp rfl r_nil)) ?_
  show A.tu _=_;rw [build_no hb];rfl
 ·obtain ⟨h1, h2, hb⟩ := hcs
  refine at_frzP 3 rfl rfl pul ?_
  refine at_region<|s1 (y_p rfl) rfl ?_
  refine at_op rfl (n_call false rfl (.cons (.pure pu) (.nil)) (Con.cast (listed_ok p (by simp only [maxLen];omega)) (congrArg A.b h1)) pu (.inl rfl) rfl ?_)
  refine s1 ((y_p rfl).v (v':= .b false) (rfl)) rfl<|s1 (y_p rfl) rfl<|g1 rfl rfl (y_p rfl) rfl ?_
  refine at_opg rfl rfl rfl (n_call false rfl (.cons (.pure pu) (.nil)) (Con.cast (listed_ok q (by simp only [maxLen];omega)) (congrArg A.b h2)) pu (.inl rfl) rfl ?_)
  refine g1 rfl rfl ((y_p rfl).v (v':= .b true) (rfl)) rfl<|s1 (y_p rfl) rfl<|s1 (y_p rfl) rfl<|g0 rfl rfl rfl rfl<|g0 rfl rfl rfl rfl<|g0 rfl rfl rfl rfl<|g0 rfl rfl rfl rfl<|s1 (y_p rfl) rfl ?_
  refine at_nil<|x_tn ?_
  refine at_then rfl ?_
  refine at_seq<|at_region<|s1 (y_loadA0 ti60 rfl rfl rfl) rfl ?_
  refine at_op rfl (n_storeA ti60 rfl rfl rfl (by first|rfl|omega|(simp<;>omega)|(simp [*]<;>omega)) (by first|rfl|omega|(simp<;>omega)|(simp [*]<;>omega)) ?_)
  refine s1 ((y_p rfl).v (v':= .i .i64 340) rfl) rfl ?_
  refine at_nil<|x_tn<|at_ret<|x_tr ?_
  refine at_sayO 6 (cs':=Z32.map u8++ [.nl,.nl]) rfl rfl ?_
  refine at_wkO 6 rfl wk_cas0 ?_
  refine at_result (rs:= [.cell 6 60,.tmp 7]) rfl (r_cellA ti60 rfl rfl rfl rfl (r_tmp rfl r_nil)) ?_
  show A.tu _=_;rw [build_no hb];rfl
 ·obtain ⟨h1, h2, h3, hb⟩ := hcs
  refine at_frzP 3 rfl rfl pul ?_
  refine at_region<|s1 (y_p rfl) rfl ?_
  refine at_op rfl (n_call false rfl (.cons (.pure pu) (.nil)) (Con.cast (listed_ok p (by simp only [maxLen];omega)) (congrArg A.b h1)) pu (.inl rfl) rfl ?_)
  refine s1 ((y_p rfl).v (v':= .b false) (rfl)) rfl<|s1 (y_p rfl) rfl<|g1 rfl rfl (y_p rfl) rfl ?_
  refine at_opg rfl rfl rfl (n_call false rfl (.cons (.pure pu) (.nil)) (Con.cast (listed_ok q (by simp only [maxLen];omega)) (congrArg A.b h2)) pu (.inl rfl) rfl ?_)
  refine g1 rfl rfl ((y_p rfl).v (v':= .b false) (rfl)) rfl<|s1 (y_p rfl) rfl<|s1 (y_p rfl) rfl<|g1 rfl rfl (y_p rfl) rfl<|g1 rfl rfl (y_p rfl) rfl ?_
  refine at_opg rfl rfl rfl (n_call false rfl (.cons (.pure pu) (.cons (.pure pu) (.nil))) (Con.cast (disjoint_ok p q (by simp only [maxLen];omega) (by simp only [maxLen];omega)) (congrArg A.b h3)) pu (.inl rfl) rfl ?_)
  refine g1 rfl rfl ((y_p rfl).v (v':= .b true) (rfl)) rfl<|s1 (y_p rfl) rfl ?_
  refine at_nil<|x_tn ?_
  refine at_then rfl ?_
  refine at_seq<|at_region<|s1 (y_loadA0 ti60 rfl rfl rfl) rfl ?_
  refine at_op rfl (n_storeA ti60 rfl rfl rfl (by first|rfl|omega|(simp<;>omega)|(simp [*]<;>omega)) (by first|rfl|omega|(simp<;>omega)|(simp [*]<;>omega)) ?_)
  refine s1 ((y_p rfl).v (v':= .i .i64 340) rfl) rfl ?_
  refine at_nil<|x_tn<|at_ret<|x_tr ?_
  refine at_sayO 6 (cs':=Z32.map u8++ [.nl,.nl]) rfl rfl ?_
  refine at_wkO 6 rfl wk_cas0 ?_
  refine at_result (rs:= [.cell 6 60,.tmp 7]) rfl (r_cellA ti60 rfl rfl rfl rfl (r_tmp rfl r_nil)) ?_
  show A.tu _=_;rw [build_no hb];rfl
 ·obtain ⟨h1, h2, h3, hb⟩ := hcs
  refine at_frzP 3 rfl rfl pul ?_
  refine at_region<|s1 (y_p rfl) rfl ?_
  refine at_op rfl (n_call false rfl (.cons (.pure pu) (.nil)) (Con.cast (listed_ok p (by simp only [maxLen];omega)) (congrArg A.b h1)) pu (.inl rfl) rfl ?_)
  refine s1 ((y_p rfl).v (v':= .b false) (rfl)) rfl<|s1 (y_p rfl) rfl<|g1 rfl rfl (y_p rfl) rfl ?_
  refine at_opg rfl rfl rfl (n_call false rfl (.cons (.pure pu) (.nil)) (Con.cast (listed_ok q (by simp only [maxLen];omega)) (congrArg A.b h2)) pu (.inl rfl) rfl ?_)
  refine g1 rfl rfl ((y_p rfl).v (v':= .b false) (rfl)) rfl<|s1 (y_p rfl) rfl<|s1 (y_p rfl) rfl<|g1 rfl rfl (y_p rfl) rfl<|g1 rfl rfl (y_p rfl) rfl ?_
  refine at_opg rfl rfl rfl (n_call false rfl (.cons (.pure pu) (.cons (.pure pu) (.nil))) (Con.cast (disjoint_ok p q (by simp only [maxLen];omega) (by simp only [maxLen];omega)) (congrArg A.b h3)) pu (.inl rfl) rfl ?_)
  refine g1 rfl rfl ((y_p rfl).v (v':= .b false) (rfl)) rfl<|s1 (y_p rfl) rfl ?_
  refine at_nil<|x_tn ?_
  refine at_else rfl ?_
  refine at_skip<|x_tn<|at_seq ?_
  refine at_sayO 6 (cs':=Z32.map u8++ [.nl,.nl]) rfl rfl ?_
  refine at_region<|s1 (y_loadA ti23 rfl rfl (List.take_of_length_le (by simp [hx])) (by simp [hx])) rfl<|s1 (y_fld Tryz.underlying60 rfl ti23 (by decide) rfl rfl) rfl ?_
  refine at_say 30 rfl (v':= .p 6 0) rfl ?_
  refine at_op rfl (n_store ti23 rfl rfl rfl rfl rfl (by rw [show cellsA (A.ag (x.map u8))=x.map u8 from rfl,List.length_map,hx]) (Nat.le_of_ble_eq_true rfl) st_salt ?_)
  refine at_nil<|x_tn<|at_seq<|at_region<|s1 (y_p rfl) rfl<|s1 (y_p rfl) rfl<|s1 (y_p rfl) rfl<|s1 (y_p rfl) rfl ?_
  refine at_nil<|x_tn<|at_seq<|at_block ?_
  refine at_loop (ι:=Nat) (fun n=> [(3,.fp (x.map u8)),(6,.p 6 0),(8,intsA (bS x p q n).2.1),(9,intsA (bS x p q n).2.2)]) (fun n=>⟨[(6,some (x.map u8++ [.sl 180 3 0 n,.nl])),(180,some ((bS x p q n).1.flatMap filC))]⟩) (fun n=>n≤16∧∀t,t<n→goB x p q t=true) (fun n=>16 - n) ?_ ?_
  ·exact at_ex (0) (⟨by omega,fun t ht=>absurd ht (by omega)⟩) [(6,some 6),(180,none)] hI rfl rfl ⟨⟨_,rfl,.pure pu⟩,⟨_,rfl,.p rfl⟩,⟨_,rfl,.pure pu⟩,⟨_,rfl,.pure pu⟩,trivial⟩ ⟨.inr ⟨_,_,rfl,rfl,.app (.pure pul) (.cons (.nl rfl) (.cons (.pure pu) .nil))⟩,.inl ⟨rfl,rfl⟩,trivial⟩
  rintro n ⟨hn,hgo⟩
  obtain⟨hal,hbl⟩:=bS_len (x:=x) hp hq100 n
  have hfl:((bS x p q n).1.flatMap filC).length=n*3:=by rw [flat_len,len_bS]
  have hnb:=nbOf_ok (bS x p q n).2.1
  have hnum:=(bS_num (x:=x) hb n).1
  refine at_seq<|at_seq<|at_region<|s1 (y_p rfl) rfl<|s1 (y_len Tryz.underlying30 rfl rfl rfl) rfl<|s1 (y_p rfl) rfl<|s1 (y_p rfl) rfl ?_
  refine at_bc 36 rfl (fun hc36=>?_) (fun hc36=>?_)
  ·have h36 : 0 < (bS x p q n).2.1.length := by have := of_decide_eq_true hc36; omega
   refine g1 rfl rfl (y_fld Tryz.underlying60 rfl ti58 (by decide) rfl rfl) rfl<|g1 rfl rfl (y_load ti58 rfl rfl (congrArg (fun l=>l[0]?) (tail_get hx _))) rfl<|g1 rfl rfl (y_len Tryz.underlying58 rfl rfl rfl) rfl<|g1 rfl rfl (y_p rfl) rfl<|s1 (y_p rfl) rfl ?_
   refine at_nil<|x_tn ?_
   refine at_cond rfl (fun hc41=>?_) (fun hc41=>?_)
   ·have h41 : n < 16 := by have := of_decide_eq_true hc41; omega
    refine at_skip<|x_tn<|at_block<|at_seq<|at_region<|s1 (y_fld Tryz.underlying60 rfl ti58 (by decide) rfl rfl) rfl<|s1 (y_load ti58 rfl rfl (congrArg (fun l=>l[0]?) (tail_get hx _))) rfl<|s1 (y_len Tryz.underlying58 rfl rfl rfl) rfl<|s1 (y_p rfl) rfl<|s1 (y_len Tryz.underlying30 rfl rfl rfl) rfl<|s1 (mulN 4 _ rfl rfl rfl rfl (by omega)) rfl<|s1 (y_maxN (a:=4*(bS x p q n).2.1.length) (b:=8) rfl rfl rfl) rfl<|s1 (y_minN (a:=max (4*(bS x p q n).2.1.length) 8) (b:=4096) (c:=nbOf (bS x p q n).2.1) rfl rfl rfl) rfl ?_
    refine at_op rfl (n_call false rfl (.cons (.pure pu) (.cons (.pure pu) (.nil))) (Con.cast (fnew_ok n (nbOf (bS x p q n).2.1)) (new_yes (nat_sized h41 hnb.1 hnb.2))) pu (.inl rfl) rfl ?_)
    refine s1 (y_p rfl) rfl<|s1 (y_p rfl) rfl<|s1 (y_p rfl) rfl ?_
    refine at_op rfl (n_alloc 10 rfl ti120 rfl rfl ?_)
    refine at_op rfl (n_storeA ti120 rfl rfl rfl (by first|rfl|omega|(simp<;>omega)|(simp [*]<;>omega)) (by first|rfl|omega|(simp<;>omega)|(simp [*]<;>omega)) ?_)
    refine s1 (y_p rfl) rfl ?_
    refine at_nil<|x_tn<|at_seq<|at_seq<|at_region<|s1 (y_p rfl) rfl<|s1 ((y_p rfl).v (v':= .b false) (rfl)) rfl ?_
    refine at_nil<|x_tn ?_
    refine at_else rfl ?_
    refine at_skip<|x_tn<|at_seq<|at_seq<|at_region<|s1 (y_p rfl) rfl<|s1 (y_len Tryz.underlying30 rfl rfl rfl) rfl<|s1 ((y_p rfl).v (v':= .i .i64 0) rfl) rfl ?_
    refine at_nil<|x_tn<|at_block ?_
    refine at_loop (ι:=Nat) (fun k=> [(3,.fp (x.map u8)),(6,.p 6 0),(8,intsA (bS x p q n).2.1),(9,intsA (bS x p q n).2.2),(10,.p 10 0),(58,intsA (bS x p q n).2.1),(59,nJ (bS x p q n).2.1.length),(60,nJ k)]) (fun k=>⟨[(6,some (x.map u8++ [.sl 180 3 0 n,.nl])),(180,some ((bS x p q n).1.flatMap filC)),(10,some ([nJ n,nJ (nbOf (bS x p q n).2.1),slA (addsI x (n:Nat) (nbOf (bS x p q n).2.1:Nat) (zeroD (nbOf (bS x p q n).2.1)) ((bS x p q n).2.1.take k))]))]⟩) (fun k=>k≤(bS x p q n).2.1.length) (fun k=>(bS x p q n).2.1.length - k) ?_ ?_
    ·exact at_ex (0) (Nat.zero_le _) [(6,some 6),(10,some 10),(180,some 180)] hI rfl rfl ⟨⟨_,rfl,.pure pu⟩,⟨_,rfl,.p rfl⟩,⟨_,rfl,.pure pu⟩,⟨_,rfl,.pure pu⟩,⟨_,rfl,.p rfl⟩,⟨_,rfl,.pure pu⟩,⟨_,rfl,.pure pu⟩,⟨_,rfl,.pure pu⟩,trivial⟩ ⟨.inr ⟨_,_,rfl,rfl,.app (.pure pul) (.cons (.sl rfl rfl) (.cons (.pure pu) .nil))⟩,.inr ⟨_,_,rfl,rfl,.pure pul⟩,.inr ⟨_,_,rfl,rfl,.of (by rfl) (.pure pul)⟩,trivial⟩
    rintro k hk
    refine at_seq<|at_region<|s1 (y_p rfl) rfl ?_
    refine at_nil<|x_tn<|at_seq ?_
    refine at_cond rfl (fun hc61=>?_) (fun hc61=>?_)
    ·have h61 : k < (bS x p q n).2.1.length := by have := of_decide_eq_true hc61; omega
     obtain⟨v,hv⟩:∃v,(bS x p q n).2.1[k]? =some v:=⟨_,List.getElem?_eq_getElem h61⟩
     have hv0:=hnum v (List.mem_of_getElem? hv)
     refine at_skip<|x_tn<|at_seq<|at_block<|at_seq<|at_region<|s1 (y_ixf k Tryz.underlying30 ti3 rfl rfl rfl (by omega) rfl) rfl<|s1 (y_load ti3 rfl rfl (getI4 hv)) rfl<|s1 (y_p rfl) rfl ?_
     refine at_nil<|x_tn<|at_seq<|at_region<|s1 (y_loadA ti23 rfl rfl (List.take_of_length_le (by simp [hx])) (by simp [hx])) rfl<|s1 (y_loadA0 ti120 rfl rfl rfl) rfl<|s1 (y_p rfl) rfl ?_
     refine at_op rfl (n_call false rfl (.cons (.pure pu) (.cons (.pure pu) (.cons (.pure pu) (.nil)))) (Con.cast (fadd_ok x (n:Nat) (nbOf (bS x p q n).2.1:Nat) v (addsI x (n:Nat) (nbOf (bS x p q n).2.1:Nat) (zeroD (nbOf (bS x p q n).2.1)) ((bS x p q n).2.1.take k)) hx) (add_fil h41 hv hv0)) pu (.inl rfl) rfl ?_)
     refine s1 (y_p rfl) rfl<|s1 (y_p rfl) rfl<|s1 (y_p rfl) rfl ?_
     refine at_op rfl (n_storeA ti120 rfl rfl rfl (by first|rfl|omega|(simp<;>omega)|(simp [*]<;>omega)) (by first|rfl|omega|(simp<;>omega)|(simp [*]<;>omega)) ?_)
     refine s1 (y_p rfl) rfl ?_
     refine at_nil<|x_tn<|at_seq<|at_region<|s1 (y_p rfl) rfl<|s1 ((y_p rfl).v (v':= .b false) (rfl)) rfl ?_
     refine at_nil<|x_tn ?_
     refine at_else rfl ?_
     refine at_skip<|x_bn<|x_tn<|at_region<|s1 (addN _ 1 rfl rfl rfl rfl (by omega)) rfl<|s1 (y_p rfl) rfl ?_
     refine at_nil ?_
     exact at_end (k+1) (by omega) (by omega) [(6,some 6),(10,some 10),(180,some 180)] hI rfl rfl ⟨⟨_,rfl,.pure pu⟩,⟨_,rfl,.p rfl⟩,⟨_,rfl,.pure pu⟩,⟨_,rfl,.pure pu⟩,⟨_,rfl,.p rfl⟩,⟨_,rfl,.pure pu⟩,⟨_,rfl,.pure pu⟩,⟨_,rfl,.pure pu⟩,trivial⟩ ⟨.inr ⟨_,_,rfl,rfl,.app (.pure pul) (.cons (.sl rfl rfl) (.cons (.pure pu) .nil))⟩,.inr ⟨_,_,rfl,rfl,.pure pul⟩,.inr ⟨_,_,rfl,rfl,.pure pul⟩,trivial⟩
    ·have h61 : k = (bS x p q n).2.1.length := by have := of_decide_eq_false hc61; omega
     subst h61
     refine at_exit<|x_te<|x_te<|x_be<|x_tn<|at_seq ?_
     refine at_sayO 10 (cs':=filC (filO x n (bS x p q n).2.1)) rfl (by rw [List.take_length];rfl) ?_
     refine at_region<|s1 (y_fld Tryz.underlying60 rfl ti58 (by decide) rfl rfl) rfl<|s1 (y_load ti58 rfl rfl (congrArg (fun l=>l[0]?) (tail_get hx _))) rfl<|s1 (y_loadA0 ti120 rfl rfl rfl) rfl ?_
     refine at_op rfl (n_bs 79 rfl Tryz.underlying58 ti120 rfl rfl rfl (by first|(simp [cellsA];done)|(simp [cellsA, *];done)) rfl rfl rfl rfl ?_)
     refine at_op rfl (n_app 80 rfl Tryz.underlying58 ti120 rfl (.sl rfl (by rw [hfl])) rfl (SM_full rfl (by first|rfl|omega|(simp<;>omega)|(simp [*]<;>omega))) rfl (by simp only [maxLen];omega) (by omega) rfl (bS_flat x p q n) rfl ?_)
     refine s1 (y_fld Tryz.underlying60 rfl ti58 (by decide) rfl rfl) rfl ?_
     refine at_op rfl (n_store1 ti58 rfl rfl rfl rfl (by simp [hx]) (tail_set hx _ _ _) ?_)
     refine at_nil<|x_tn ?_
     refine at_frzP 10 rfl rfl pul ?_
     refine at_region<|s1 (y_p rfl) rfl<|s1 (y_func (us:= []) (vs:= [.fp (x.map u8),.fp (filC (filO x n (bS x p q n).2.1))]) rfl rfl) rfl ?_
     refine at_op rfl (n_call false rfl (.cons (.pure pu) (.cons (.pure pu) .nil)) (cchoose_ok x hx (filO x n (bS x p q n).2.1) (bS x p q n).2.2 hbl) pu (.inl rfl) rfl ?_)
     refine s1 (y_p rfl) rfl<|s1 (y_p rfl) rfl<|s1 (y_p rfl) rfl ?_
     refine at_nil<|x_bn ?_
     exact at_end (n+1) (⟨by omega,all_next hgo (goB_yes h36)⟩) (by omega) [(6,some 6),(180,some 80)] hI rfl rfl ⟨⟨_,rfl,.pure pu⟩,⟨_,rfl,.p rfl⟩,⟨_,rfl,.pure pu⟩,⟨_,rfl,.pure pu⟩,trivial⟩ ⟨.inr ⟨_,_,rfl,rfl,.app (.pure pul) (.cons (.sl rfl (by first|rfl|omega|(simp<;>omega)|(simp [*]<;>omega))) (.cons (.pure pu) .nil))⟩,.inr ⟨_,_,rfl,rfl,.pure pul⟩,trivial⟩
   ·have h41 : n = 16 := by have := of_decide_eq_false hc41; omega
    subst h41
    have hend:=end_all hgo
    refine at_exit<|x_te<|x_te<|x_be<|x_tn<|at_seq<|at_region<|s1 (y_fld Tryz.underlying60 rfl ti30 (by decide) rfl rfl) rfl<|s1 (y_load ti30 rfl rfl (congrArg (fun l=>l[0]?) (tail_get1 hx _ _))) rfl<|s1 (y_p rfl) rfl ?_
    refine at_op rfl (n_app 89 rfl Tryz.underlying30 ti3 rfl .nl rfl rfl (by simp) (by simp only [maxLen];omega) (by omega) rfl rfl rfl ?_)
    refine s1 (y_fld Tryz.underlying60 rfl ti30 (by decide) rfl rfl) rfl ?_
    refine at_op rfl (n_store1 ti30 rfl rfl rfl rfl (by simp [hx]) (tail_set1 hx _ _ _) ?_)
    refine at_nil<|x_tn<|at_seq ?_
    refine at_frzO 6 32 rfl (by rw [List.getElem?_append_right (by simp [hx]),List.length_map,hx];rfl) rfl rfl pul (view_eq (by rw [flat_len,len_bS]) rfl) (tail_set hx _ _ _) ?_
    refine at_frzO 6 33 rfl (by rw [List.getElem?_append_right (by simp [hx]),List.length_map,hx];rfl) rfl rfl pul (view_eq (by simp) rfl) (tail_set1 hx _ _ _) ?_
    refine at_sayO 6 (cs':=casL (casB x p q)) rfl (by rw [Nat.zero_add,List.nil_append];exact cas_end hend) ?_
    refine at_region<|s1 (y_loadA0 ti60 rfl rfl (cas_len (c:=casB x p q) hx)) rfl ?_
    refine at_op rfl (n_storeA ti60 rfl rfl rfl (cas_len (c:=casB x p q) hx) (cas_len (c:=casB x p q) hx) ?_)
    refine s1 ((y_p rfl).v (v':= .i .i64 0) rfl) rfl ?_
    refine at_nil<|x_tn<|at_ret ?_
    refine at_result (rs:= [.cell 6 60,.tmp 7]) rfl (r_cellA ti60 rfl rfl (cas_all (c:=casB x p q) hx) (cas_len (c:=casB x p q) hx) (r_tmp rfl r_nil)) ?_
    show A.tu _=_;rw [build_yes hb]
  ·have h36 : ¬ 0 < (bS x p q n).2.1.length := by have := of_decide_eq_false hc36; omega
   have hend:=end_any hn hgo h36
   refine g0 rfl rfl rfl rfl<|g0 rfl rfl rfl rfl<|g0 rfl rfl rfl rfl<|g0 rfl rfl rfl rfl<|s1 (y_p rfl) rfl ?_
   refine at_nil<|x_tn ?_
   refine at_else rfl ?_
   refine at_exit<|x_te<|x_te<|x_be<|x_tn<|at_seq<|at_region<|s1 (y_fld Tryz.underlying60 rfl ti30 (by decide) rfl rfl) rfl<|s1 (y_load ti30 rfl rfl (congrArg (fun l=>l[0]?) (tail_get1 hx _ _))) rfl<|s1 (y_p rfl) rfl ?_
   refine at_op rfl (n_app 89 rfl Tryz.underlying30 ti3 rfl .nl rfl rfl (by simp) (by simp only [maxLen];omega) (by omega) rfl rfl rfl ?_)
   refine s1 (y_fld Tryz.underlying60 rfl ti30 (by decide) rfl rfl) rfl ?_
   refine at_op rfl (n_store1 ti30 rfl rfl rfl rfl (by simp [hx]) (tail_set1 hx _ _ _) ?_)
   refine at_nil<|x_tn<|at_seq ?_
   refine at_frzO 6 32 rfl (by rw [List.getElem?_append_right (by simp [hx]),List.length_map,hx];rfl) rfl rfl pul (view_eq (by rw [flat_len,len_bS]) rfl) (tail_set hx _ _ _) ?_
   refine at_frzO 6 33 rfl (by rw [List.getElem?_append_right (by simp [hx]),List.length_map,hx];rfl) rfl rfl pul (view_eq (by simp) rfl) (tail_set1 hx _ _ _) ?_
   refine at_sayO 6 (cs':=casL (casB x p q)) rfl (by rw [Nat.zero_add,List.nil_append];exact cas_end hend) ?_
   refine at_region<|s1 (y_loadA0 ti60 rfl rfl (cas_len (c:=casB x p q) hx)) rfl ?_
   refine at_op rfl (n_storeA ti60 rfl rfl rfl (cas_len (c:=casB x p q) hx) (cas_len (c:=casB x p q) hx) ?_)
   refine s1 ((y_p rfl).v (v':= .i .i64 0) rfl) rfl ?_
   refine at_nil<|x_tn<|at_ret ?_
   refine at_result (rs:= [.cell 6 60,.tmp 7]) rfl (r_cellA ti60 rfl rfl (cas_all (c:=casB x p q) hx) (cas_len (c:=casB x p q) hx) (r_tmp rfl r_nil)) ?_
   show A.tu _=_;rw [build_yes hb]
end Go.Abs.D2
-- C4F
namespace Go.Abs.D2
open Go Go.Eng Go.Abs Go.Proofs
end Go.Abs.D2
-- C4G
namespace Go.Abs.D2
open Go Go.Eng Go.Abs Go.Proofs
theorem cnumV_ok (n:Int):Con Tryz.prog 121 [.i .i64 n] (Ret (.ag (CV.cells (intV n)))):=by
 refine enter Tryz.func121 rfl Tryz.ntmps121 (by kernel_rfl) (Nat.le_of_ble_eq_true rfl) fun w0 X0 hI=>?_
 refine at_seq<|at_region ?_
 refine at_op rfl (n_alloc 2 rfl ti109 rfl rfl ?_)
 refine at_nil<|x_tn<|at_seq<|at_region<|s1 (y_p rfl) rfl<|s1 (y_bld (out:= [_,_,_,_]) [[evC (.int .i64 0)], [evC (.int .i64 0)], [evC (.string ByteArray.empty)], [evC (.slice none 0 0)]] ti109 rfl Tryz.underlying109 (by kernel_rfl) rfl rfl ⟨⟨by(first|rfl|omega|(simp;done)|(simp [*];done)|(simp [cellsA, *];done)),rfl⟩,⟨⟨by(first|rfl|omega|(simp;done)|(simp [*];done)|(simp [cellsA, *];done)),rfl⟩,trivial⟩⟩ rfl) rfl ?_
 refine at_op rfl (n_storeA ti109 rfl rfl rfl (by first|rfl|omega|(simp<;>omega)|(simp [*]<;>omega)) (by first|rfl|omega|(simp<;>omega)|(simp [*]<;>omega)) ?_)
 refine at_nil<|x_tn<|at_ret ?_
 refine at_wkO 2 rfl wk_cv ?_
 refine at_result (rs:= [.cell 2 109]) rfl (r_cellA ti109 rfl rfl rfl rfl r_nil) ?_
 rfl
theorem ctxtV_ok (l:List UInt8):Con Tryz.prog 122 [.fz l.length (l.map u8)] (Ret (.ag (CV.cells (txtV l)))):=by
 refine enter Tryz.func122 rfl Tryz.ntmps122 (by kernel_rfl) (Nat.le_of_ble_eq_true rfl) fun w0 X0 hI=>?_
 refine at_seq<|at_region ?_
 refine at_op rfl (n_alloc 2 rfl ti109 rfl rfl ?_)
 refine at_nil<|x_tn<|at_seq<|at_region<|s1 (y_p rfl) rfl<|s1 (y_str Tryz.underlying68 Tryz.underlying5 Tryz.underlying9 rfl rfl (by simp)) rfl<|s1 (y_bld (out:= [_,_,_,_]) [[evC (.int .i64 0)], [evC (.int .i64 0)], [evC (.string ByteArray.empty)], [evC (.slice none 0 0)]] ti109 rfl Tryz.underlying109 (by kernel_rfl) rfl rfl ⟨⟨by(first|rfl|omega|(simp;done)|(simp [*];done)|(simp [cellsA, *];done)),rfl⟩,⟨⟨by(first|rfl|omega|(simp;done)|(simp [*];done)|(simp [cellsA, *];done)),rfl⟩,trivial⟩⟩ rfl) rfl ?_
 refine at_op rfl (n_storeA ti109 rfl rfl rfl (by first|rfl|omega|(simp<;>omega)|(simp [*]<;>omega)) (by first|rfl|omega|(simp<;>omega)|(simp [*]<;>omega)) ?_)
 refine at_nil<|x_tn<|at_ret ?_
 refine at_wkO 2 rfl wk_cv ?_
 refine at_result (rs:= [.cell 2 109]) rfl (r_cellA ti109 rfl rfl rfl rfl r_nil) ?_
 rfl
theorem clstV_ok (l:List CV):Con Tryz.prog 120 [.fz l.length (CV.cellsL l)] (Ret (.ag (CV.cells (lstV l)))):=by
 refine enter Tryz.func120 rfl Tryz.ntmps120 (by kernel_rfl) (Nat.le_of_ble_eq_true rfl) fun w0 X0 hI=>?_
 refine at_seq<|at_region ?_
 refine at_op rfl (n_alloc 2 rfl ti109 rfl rfl ?_)
 refine at_nil<|x_tn<|at_seq<|at_region<|s1 (y_p rfl) rfl<|s1 (y_bld (out:= [_,_,_,_]) [[evC (.int .i64 0)], [evC (.int .i64 0)], [evC (.string ByteArray.empty)], [evC (.slice none 0 0)]] ti109 rfl Tryz.underlying109 (by kernel_rfl) rfl rfl ⟨⟨by(first|rfl|omega|(simp;done)|(simp [*];done)|(simp [cellsA, *];done)),rfl⟩,⟨⟨by(first|rfl|omega|(simp;done)|(simp [*];done)|(simp [cellsA, *];done)),rfl⟩,trivial⟩⟩ rfl) rfl ?_
 refine at_op rfl (n_storeA ti109 rfl rfl rfl (by first|rfl|omega|(simp<;>omega)|(simp [*]<;>omega)) (by first|rfl|omega|(simp<;>omega)|(simp [*]<;>omega)) ?_)
 refine at_nil<|x_tn<|at_ret ?_
 refine at_result (rs:= [.cell 2 109]) rfl (r_cellA ti109 rfl rfl rfl rfl r_nil) ?_
 rfl
theorem cencC_ok (c:Cas) (hx:c.x.length=32) (hn:c.E.length≤maxLen):Con Tryz.prog 79 [.ag (casL c)] (Ret (encCA c)):=by
 refine enter Tryz.func79 rfl Tryz.ntmps79 (by kernel_rfl) (Nat.le_of_ble_eq_true rfl) fun w0 X0 hI=>?_
 refine at_seq<|at_region ?_
 refine at_op rfl (n_boxA 1 rfl rfl rfl ?_)
 refine s1 (y_p rfl) rfl<|s1 ((y_p rfl).v (v':= .i .i64 0) rfl) rfl ?_
 refine at_nil<|x_tn<|at_seq<|at_seq ?_
 rcases tfC (chkC c)with hcs|hcs
 ·skip
  refine at_region<|s1 (y_loadA0 ti60 rfl rfl (cas_len hx)) rfl ?_
  refine at_op rfl (n_call false rfl (.cons (.pure pu) (.nil)) (Con.cast (cchk_ok c hx hn) (congrArg (fun b=>A.i .i64 (errC b)) hcs)) pu (.inl rfl) rfl ?_)
  refine s1 (y_p rfl) rfl ?_
  refine at_nil<|x_tn<|at_seq<|at_region<|s1 (y_p rfl) rfl<|s1 ((y_p rfl).v (v':= .b true) (rfl)) rfl ?_
  refine at_nil<|x_tn ?_
  refine at_then rfl ?_
  refine at_seq<|at_region<|s1 (y_p rfl) rfl<|s1 (y_p rfl) rfl<|s1 (y_p rfl) rfl ?_
  refine at_nil<|x_tn<|at_ret<|x_tr ?_
  refine at_result (rs:= [.tmp 2,.tmp 3]) rfl (r_tmp rfl (r_tmp rfl r_nil)) ?_
  exact(encCA_n hcs).symm
 ·obtain ⟨hF, hE, _⟩ := chkC_all hcs
  have hEl:=listed_len hE
  have hel:=enc_cas hcs hx
  refine at_region<|s1 (y_loadA0 ti60 rfl rfl (cas_len hx)) rfl ?_
  refine at_op rfl (n_call false rfl (.cons (.pure pu) (.nil)) (Con.cast (cchk_ok c hx hn) (congrArg (fun b=>A.i .i64 (errC b)) hcs)) pu (.inl rfl) rfl ?_)
  refine s1 (y_p rfl) rfl ?_
  refine at_nil<|x_tn<|at_seq<|at_region<|s1 (y_p rfl) rfl<|s1 ((y_p rfl).v (v':= .b false) (rfl)) rfl ?_
  refine at_nil<|x_tn ?_
  refine at_else rfl ?_
  refine at_skip<|x_tn<|at_seq<|at_region<|s1 (y_p rfl) rfl<|s1 (y_p rfl) rfl ?_
  refine at_nil<|x_tn<|at_seq<|at_seq<|at_region<|s1 (y_fld Tryz.underlying60 rfl ti58 (by decide) rfl rfl) rfl<|s1 (y_load ti58 rfl rfl (cas_F hx)) rfl<|s1 (y_len Tryz.underlying58 rfl rfl rfl) rfl<|s1 ((y_p rfl).v (v':= .i .i64 0) rfl) rfl ?_
  refine at_nil<|x_tn<|at_block ?_
  refine at_loop (ι:=Nat) (fun i=> [(1,.p 1 0),(5,.sl 133 4 0 i),(6,.nl),(17,filsA c.F),(18,nJ c.F.length),(19,nJ i)]) (fun i=>⟨[(1,some (casL c)),(133,some (CV.cellsL ((c.F.take i).map filV)))]⟩) (fun i=>i≤c.F.length) (fun i=>c.F.length - i) ?_ ?_
  ·exact at_ex (0) (Nat.zero_le _) [(1,some 1),(133,none)] hI rfl rfl ⟨⟨_,rfl,.p rfl⟩,⟨_,rfl,.nl rfl⟩,⟨_,rfl,.pure pu⟩,⟨_,rfl,.pure pu⟩,⟨_,rfl,.pure pu⟩,⟨_,rfl,.pure pu⟩,trivial⟩ ⟨.inr ⟨_,_,rfl,rfl,.pure pul⟩,.inl ⟨rfl,rfl⟩,trivial⟩
  rintro i hi
  refine at_seq<|at_region<|s1 (y_p rfl) rfl ?_
  refine at_nil<|x_tn<|at_seq ?_
  refine at_cond rfl (fun hc20=>?_) (fun hc20=>?_)
  ·have h19 : i < c.F.length := by have := of_decide_eq_true hc20; omega
   obtain⟨f,hf⟩:∃f,c.F[i]? =some f:=⟨_,List.getElem?_eq_getElem h19⟩
   refine at_skip<|x_tn<|at_seq<|at_block<|at_seq<|at_region<|s1 (y_ixf i Tryz.underlying58 ti120 rfl rfl rfl (by omega) rfl) rfl<|s1 (y_loadA ti120 rfl rfl (flat_get hf) rfl) rfl ?_
   refine at_op rfl (n_alloc 8 rfl ti120 rfl rfl ?_)
   refine at_op rfl (n_storeA ti120 rfl rfl rfl (by first|rfl|omega|(simp<;>omega)|(simp [*]<;>omega)) (by first|rfl|omega|(simp<;>omega)|(simp [*]<;>omega)) ?_)
   refine at_nil<|x_tn ?_
   refine at_fs ⟨_, [], []⟩ 11 4 hmix (le_refl rfl) ?_
   refine fs_q 0 [] [(133,none)] (y_p rfl) rfl rfl ?_
   refine fs_q 1 [] [(8,none)] (y_fld Tryz.underlying120 rfl ti3 (by decide) rfl rfl) rfl rfl ?_
   refine fs_q 2 [1] [(8,none)] (y_load ti3 rfl rfl rfl) rfl rfl ?_
   refine fs_call false 3 [2] [] gy0 rfl (.cons (.pure pu) (.nil)) (cnumV_ok f.nb) pu (.inl rfl) rfl rfl ?_
   refine fs_q 4 [] [(8,none)] (y_fld Tryz.underlying120 rfl ti68 (by decide) rfl rfl) rfl rfl ?_
   refine fs_q 5 [4] [(8,none)] (y_load ti68 rfl rfl rfl) rfl rfl ?_
   refine fs_call false 6 [5] [] gy0 rfl (.cons (.pure pu) (.nil)) (ctxtV_ok f.D) pu (.inl rfl) rfl rfl ?_
   refine fs_bs 30 7 [3,6] gy0 Tryz.underlying107 ti109 rfl rfl rfl (by simp [cellsA]) (show _=CV.cellsL [intV f.nb,txtV f.D]from rfl) rfl rfl rfl rfl ?_
   refine fs_callF 30 8 [7] [(30,some 7)] gy0 rfl rfl pul rfl (CV.cellsL_all [intV f.nb,txtV f.D]) rfl (by exact pul) (clstV_ok [intV f.nb,txtV f.D]) pu rfl rfl ?_
   refine fs_bs 32 9 [8] gy0 Tryz.underlying107 ti109 rfl rfl rfl (by simp [cellsA]) (one_cv (filV f)) rfl rfl rfl rfl ?_
   refine fs_app 33 10 [0,9] [(32,some 9),(133,none)] gy0 Tryz.underlying107 ti109 rfl (.sl rfl (by simp;omega)) rfl (SM_full rfl (by first|rfl|omega|(simp<;>omega)|(simp [*]<;>omega))) (by simp) (by simp only [maxLen];omega) (by omega) rfl rfl rfl rfl ?_
   refine fs_end (by kernel_rfl) ?_
   refine s1 (y_p rfl) rfl ?_
   refine at_nil<|x_bn<|x_tn<|at_region<|s1 (addN _ 1 rfl rfl rfl rfl (by omega)) rfl<|s1 (y_p rfl) rfl ?_
   refine at_nil ?_
   exact at_end (i+1) (by omega) (by omega) [(1,some 1),(133,some 33)] hI rfl rfl ⟨⟨_,rfl,.p rfl⟩,⟨_,rfl,.sl rfl (by first|rfl|omega|(simp<;>omega)|(simp [*]<;>omega))⟩,⟨_,rfl,.pure pu⟩,⟨_,rfl,.pure pu⟩,⟨_,rfl,.pure pu⟩,⟨_,rfl,.pure pu⟩,trivial⟩ ⟨.inr ⟨_,_,rfl,rfl,.pure pul⟩,.inr ⟨_,_,rfl,rfl,.of (fil_nextV hf) (.pure pul)⟩,trivial⟩
  ·obtain rfl : i = c.F.length := by have := of_decide_eq_false hc20; omega
   refine at_exit<|x_te<|x_te<|x_be<|x_tn<|at_seq<|at_seq ?_
   refine at_sayO 133 (cs':=CV.cellsL (c.F.map filV)) rfl (by rw [List.take_length]) ?_
   refine at_region<|s1 (y_fld Tryz.underlying60 rfl ti30 (by decide) rfl rfl) rfl<|s1 (y_load ti30 rfl rfl (cas_E hx)) rfl<|s1 (y_len Tryz.underlying30 rfl rfl rfl) rfl<|s1 ((y_p rfl).v (v':= .i .i64 0) rfl) rfl ?_
   refine at_nil<|x_tn<|at_block ?_
   refine at_loop (ι:=Nat) (fun k=> [(1,.p 1 0),(5,.sl 133 4 0 c.F.length),(6,.sl 146 4 0 k),(36,intsA c.E),(37,nJ c.E.length),(38,nJ k)]) (fun k=>⟨[(1,some (casL c)),(133,some (CV.cellsL (c.F.map filV))),(146,some (CV.cellsL ((c.E.take k).map intV)))]⟩) (fun k=>k≤c.E.length) (fun k=>c.E.length - k) ?_ ?_
   ·exact at_ex (0) (Nat.zero_le _) [(1,some 1),(133,some 133),(146,none)] hI rfl rfl ⟨⟨_,rfl,.p rfl⟩,⟨_,rfl,.sl rfl (by first|rfl|omega|(simp<;>omega)|(simp [*]<;>omega))⟩,⟨_,rfl,.nl rfl⟩,⟨_,rfl,.pure pu⟩,⟨_,rfl,.pure pu⟩,⟨_,rfl,.pure pu⟩,trivial⟩ ⟨.inr ⟨_,_,rfl,rfl,.pure pul⟩,.inr ⟨_,_,rfl,rfl,.pure pul⟩,.inl ⟨rfl,rfl⟩,trivial⟩
   rintro k hk
   refine at_seq<|at_region<|s1 (y_p rfl) rfl ?_
   refine at_nil<|x_tn<|at_seq ?_
   refine at_cond rfl (fun hc39=>?_) (fun hc39=>?_)
   ·have h30 : k < c.E.length := by have := of_decide_eq_true hc39; omega
    obtain⟨q,hq⟩:∃q,c.E[k]? =some q:=⟨_,List.getElem?_eq_getElem h30⟩
    refine at_skip<|x_tn<|at_seq<|at_block<|at_seq<|at_region<|s1 (y_ixf k Tryz.underlying30 ti3 rfl rfl rfl (by omega) rfl) rfl<|s1 (y_load ti3 rfl rfl (getI4 hq)) rfl<|s1 (y_p rfl) rfl ?_
    refine at_nil<|x_tn<|at_region<|s1 (y_p rfl) rfl<|s1 (y_p rfl) rfl ?_
    refine at_op rfl (n_call false rfl (.cons (.pure pu) (.nil)) (cnumV_ok q) pu (.inl rfl) rfl ?_)
    refine at_op rfl (n_bs 45 rfl Tryz.underlying107 ti109 rfl rfl rfl (by simp [cellsA]) (one_cv (intV q)) rfl rfl rfl ?_)
    refine at_op rfl (n_app 46 rfl Tryz.underlying107 ti109 rfl (.sl rfl (by simp;omega)) rfl (SM_full rfl (by first|rfl|omega|(simp<;>omega)|(simp [*]<;>omega))) (by simp) (by simp only [maxLen];omega) (by omega) rfl rfl rfl ?_)
    refine s1 (y_p rfl) rfl ?_
    refine at_nil<|x_bn<|x_tn<|at_region<|s1 (addN _ 1 rfl rfl rfl rfl (by omega)) rfl<|s1 (y_p rfl) rfl ?_
    refine at_nil ?_
    exact at_end (k+1) (by omega) (by omega) [(1,some 1),(133,some 133),(146,some 46)] hI rfl rfl ⟨⟨_,rfl,.p rfl⟩,⟨_,rfl,.sl rfl (by first|rfl|omega|(simp<;>omega)|(simp [*]<;>omega))⟩,⟨_,rfl,.sl rfl (by first|rfl|omega|(simp<;>omega)|(simp [*]<;>omega))⟩,⟨_,rfl,.pure pu⟩,⟨_,rfl,.pure pu⟩,⟨_,rfl,.pure pu⟩,trivial⟩ ⟨.inr ⟨_,_,rfl,rfl,.pure pul⟩,.inr ⟨_,_,rfl,rfl,.pure pul⟩,.inr ⟨_,_,rfl,rfl,.of (int_nextV hq) (.pure pul)⟩,trivial⟩
   ·obtain rfl : k = c.E.length := by have := of_decide_eq_false hc39; omega
    refine at_exit<|x_te<|x_te<|x_be<|x_tn<|at_seq ?_
    refine at_sayO 146 (cs':=CV.cellsL (c.E.map intV)) rfl (by rw [List.take_length]) ?_
    refine at_frzP 1 rfl rfl pul ?_
    refine at_region<|s1 (y_fldf Tryz.underlying60 rfl ti23 (by decide) rfl rfl) rfl<|s1 ((y_cutfa (ds:=((casL c).drop (0*1)).take (32*1)) 32 Tryz.underlying23 ti5 rfl (by simp [maxLen]) bn bn (Nat.zero_le _) (Nat.le_refl _) (by simp [hx]) rfl rfl).v (cas_cut hx)) rfl ?_
    refine at_op rfl (n_call false rfl (.cons (.pure pu) (.nil)) (ctxtV_ok c.x) pu (.inl rfl) rfl ?_)
    refine s1 (y_p rfl) rfl ?_
    refine at_op rfl (n_callF 51 rfl rfl pul (by simp) (view_cv (by simp)) rfl (by exact pul) (clstV_ok (c.F.map filV)) pu rfl ?_)
    refine s1 (y_p rfl) rfl ?_
    refine at_op rfl (n_callF 53 rfl rfl pul (by simp) (view_cv (by simp)) rfl (by exact pul) (clstV_ok (c.E.map intV)) pu rfl ?_)
    refine at_op rfl (n_bs 55 rfl Tryz.underlying107 ti109 rfl rfl rfl (by simp [cellsA]) (show _=CV.cellsL [txtV c.x,lstV (c.F.map filV),lstV (c.E.map intV)]from rfl) rfl rfl rfl ?_)
    refine at_op rfl (n_callF 55 rfl rfl pul rfl (CV.cellsL_all [txtV c.x,lstV (c.F.map filV),lstV (c.E.map intV)]) rfl (by exact pul) (clstV_ok [txtV c.x,lstV (c.F.map filV),lstV (c.E.map intV)]) pu rfl ?_)
    refine at_op rfl (n_call false rfl (.cons (.pure pu) (.nil)) (Con.cast (cencode_ok 3 0 [] [txtV c.x,lstV (c.F.map filV),lstV (c.E.map intV)] (size_cas hcs hx) (rng_cas hcs) (Nat.le_trans hel (by omega))) (encA_cas hcs)) pu (.inl rfl) rfl ?_)
    refine s1 (y_p rfl) rfl<|s1 (y_p rfl) rfl<|s1 (y_p rfl) rfl<|s1 (y_p rfl) rfl ?_
    refine at_nil<|x_tn<|at_ret ?_
    refine at_result (rs:= [.tmp 2,.tmp 3]) rfl (r_tmp rfl (r_tmp rfl r_nil)) ?_
    exact(encCA_y hcs).symm
theorem cdigC_ok (c:Cas) (hx:c.x.length=32) (hn:c.E.length≤maxLen):Con Tryz.prog 31 [.ag (casL c)] (Ret (digCA c)):=by
 refine enter Tryz.func31 rfl Tryz.ntmps31 (by kernel_rfl) (Nat.le_of_ble_eq_true rfl) fun w0 X0 hI=>?_
 refine at_seq<|at_region ?_
 refine at_op rfl (n_boxA 1 rfl rfl rfl ?_)
 refine at_op rfl (n_alloc 2 rfl ti23 rfl rfl ?_)
 refine s1 ((y_p rfl).v (v':= .i .i64 0) rfl) rfl ?_
 refine at_nil<|x_tn<|at_seq ?_
 rcases tfC (chkC c)with hcs|hcs
 ·skip
  refine at_region<|s1 (y_loadA0 ti60 rfl rfl (cas_len hx)) rfl ?_
  refine at_op rfl (n_call false rfl (.cons (.pure pu) (.nil)) (Con.cast (cencC_ok c hx hn) (encCA_n hcs)) pu (.inl rfl) rfl ?_)
  refine s1 (y_p rfl) rfl<|s1 (y_p rfl) rfl<|s1 (y_p rfl) rfl<|s1 (y_p rfl) rfl<|s1 (y_p rfl) rfl ?_
  refine at_nil<|x_tn<|at_seq<|at_seq<|at_region<|s1 (y_p rfl) rfl<|s1 ((y_p rfl).v (v':= .b true) (rfl)) rfl ?_
  refine at_nil<|x_tn ?_
  refine at_then rfl ?_
  refine at_seq<|at_region<|s1 (y_loadA0 ti23 rfl rfl rfl) rfl<|s1 (y_p rfl) rfl ?_
  refine at_op rfl (n_storeA ti23 rfl rfl rfl (by first|rfl|omega|(simp<;>omega)|(simp [*]<;>omega)) (by first|rfl|omega|(simp<;>omega)|(simp [*]<;>omega)) ?_)
  refine s1 (y_p rfl) rfl ?_
  refine at_nil<|x_tn<|at_ret<|x_tr ?_
  refine at_result (rs:= [.cell 2 23,.tmp 3]) rfl (r_cellA ti23 rfl rfl rfl rfl (r_tmp rfl r_nil)) ?_
  exact(digCA_n hcs).symm
 ·have hel := enc_cas hcs hx
  refine at_region<|s1 (y_loadA0 ti60 rfl rfl (cas_len hx)) rfl ?_
  refine at_op rfl (n_call false rfl (.cons (.pure pu) (.nil)) (Con.cast (cencC_ok c hx hn) (encCA_y hcs)) pu (.inl rfl) rfl ?_)
  refine s1 (y_p rfl) rfl<|s1 (y_p rfl) rfl<|s1 (y_p rfl) rfl<|s1 (y_p rfl) rfl<|s1 (y_p rfl) rfl ?_
  refine at_nil<|x_tn<|at_seq<|at_seq<|at_region<|s1 (y_p rfl) rfl<|s1 ((y_p rfl).v (v':= .b false) (rfl)) rfl ?_
  refine at_nil<|x_tn ?_
  refine at_else rfl ?_
  refine at_skip<|x_tn<|at_seq<|at_region<|s1 (y_p rfl) rfl ?_
  refine at_op rfl (n_call false rfl (.cons (.pure pu) (.cons (.pure pu) (.nil))) (Con.cast (tagged_ok tagC (casV c).enc (by omega) (by decide)) (congrArg (fun l:List UInt8=>A.ag (l.map u8)) (digC_eq c).symm)) pu (.inl rfl) rfl ?_)
  refine at_op rfl (n_storeA ti23 rfl rfl rfl (by first|rfl|omega|(simp<;>omega)|(simp [*]<;>omega)) (by first|rfl|omega|(simp<;>omega)|(simp [*]<;>omega)) ?_)
  refine s1 ((y_p rfl).v (v':= .i .i64 0) rfl) rfl ?_
  refine at_nil<|x_tn<|at_ret ?_
  refine at_result (rs:= [.cell 2 23,.tmp 3]) rfl (r_cellA ti23 rfl rfl (List.take_of_length_le (by simp)) (by simp) (r_tmp rfl r_nil)) ?_
  exact(digCA_y hcs).symm
end Go.Abs.D2
-- E5C
namespace Go.Abs.D2
open Go Go.Eng Go.Abs Go.Proofs
theorem enumV_ok (n:Int):Con Tryz.prog 68 [.i .i64 n] (Ret (.ag (CV.cells (intV n)))):=by
 refine enter Tryz.func68 rfl Tryz.ntmps68 (by kernel_rfl) (Nat.le_of_ble_eq_true rfl) fun w0 X0 hI=>?_
 refine at_seq<|at_region ?_
 refine at_op rfl (n_alloc 2 rfl ti109 rfl rfl ?_)
 refine at_nil<|x_tn<|at_seq<|at_region<|s1 (y_p rfl) rfl<|s1 (y_bld (out:= [_,_,_,_]) [[evC (.int .i64 0)], [evC (.int .i64 0)], [evC (.string ByteArray.empty)], [evC (.slice none 0 0)]] ti109 rfl Tryz.underlying109 (by kernel_rfl) rfl rfl ⟨⟨by(first|rfl|omega|(simp;done)|(simp [*];done)|(simp [cellsA, *];done)),rfl⟩,⟨⟨by(first|rfl|omega|(simp;done)|(simp [*];done)|(simp [cellsA, *];done)),rfl⟩,trivial⟩⟩ rfl) rfl ?_
 refine at_op rfl (n_storeA ti109 rfl rfl rfl (by first|rfl|omega|(simp<;>omega)|(simp [*]<;>omega)) (by first|rfl|omega|(simp<;>omega)|(simp [*]<;>omega)) ?_)
 refine at_nil<|x_tn<|at_ret ?_
 refine at_wkO 2 rfl wk_cv ?_
 refine at_result (rs:= [.cell 2 109]) rfl (r_cellA ti109 rfl rfl rfl rfl r_nil) ?_
 rfl
theorem elstV_ok (l:List CV):Con Tryz.prog 67 [.fz l.length (CV.cellsL l)] (Ret (.ag (CV.cells (lstV l)))):=by
 refine enter Tryz.func67 rfl Tryz.ntmps67 (by kernel_rfl) (Nat.le_of_ble_eq_true rfl) fun w0 X0 hI=>?_
 refine at_seq<|at_region ?_
 refine at_op rfl (n_alloc 2 rfl ti109 rfl rfl ?_)
 refine at_nil<|x_tn<|at_seq<|at_region<|s1 (y_p rfl) rfl<|s1 (y_bld (out:= [_,_,_,_]) [[evC (.int .i64 0)], [evC (.int .i64 0)], [evC (.string ByteArray.empty)], [evC (.slice none 0 0)]] ti109 rfl Tryz.underlying109 (by kernel_rfl) rfl rfl ⟨⟨by(first|rfl|omega|(simp;done)|(simp [*];done)|(simp [cellsA, *];done)),rfl⟩,⟨⟨by(first|rfl|omega|(simp;done)|(simp [*];done)|(simp [cellsA, *];done)),rfl⟩,trivial⟩⟩ rfl) rfl ?_
 refine at_op rfl (n_storeA ti109 rfl rfl rfl (by first|rfl|omega|(simp<;>omega)|(simp [*]<;>omega)) (by first|rfl|omega|(simp<;>omega)|(simp [*]<;>omega)) ?_)
 refine at_nil<|x_tn<|at_ret ?_
 refine at_result (rs:= [.cell 2 109]) rfl (r_cellA ti109 rfl rfl rfl rfl r_nil) ?_
 rfl
theorem elst0_ok:Con Tryz.prog 67 [.nl] (Ret (.ag [.i .i64 3,.i .i64 0,.s [],.nl])):=by
 refine enter Tryz.func67 rfl Tryz.ntmps67 (by kernel_rfl) (Nat.le_of_ble_eq_true rfl) fun w0 X0 hI=>?_
 refine at_seq<|at_region ?_
 refine at_op rfl (n_alloc 2 rfl ti109 rfl rfl ?_)
 refine at_nil<|x_tn<|at_seq<|at_region<|s1 (y_p rfl) rfl<|s1 (y_bld (out:= [_,_,_,_]) [[evC (.int .i64 0)], [evC (.int .i64 0)], [evC (.string ByteArray.empty)], [evC (.slice none 0 0)]] ti109 rfl Tryz.underlying109 (by kernel_rfl) rfl rfl ⟨⟨by(first|rfl|omega|(simp;done)|(simp [*];done)|(simp [cellsA, *];done)),rfl⟩,⟨⟨by(first|rfl|omega|(simp;done)|(simp [*];done)|(simp [cellsA, *];done)),rfl⟩,trivial⟩⟩ rfl) rfl ?_
 refine at_op rfl (n_storeA ti109 rfl rfl rfl (by first|rfl|omega|(simp<;>omega)|(simp [*]<;>omega)) (by first|rfl|omega|(simp<;>omega)|(simp [*]<;>omega)) ?_)
 refine at_nil<|x_tn<|at_ret ?_
 refine at_result (rs:= [.cell 2 109]) rfl (r_cellA ti109 rfl rfl rfl rfl r_nil) ?_
 rfl
theorem etxtV_ok (x:List UInt8) (hx:x.length=32):Con Tryz.prog 70 [.ag (x.map u8)] (Ret (.ag (CV.cells (txtV x)))):=by
 refine enter Tryz.func70 rfl Tryz.ntmps70 (by kernel_rfl) (Nat.le_of_ble_eq_true rfl) fun w0 X0 hI=>?_
 refine at_seq<|at_region ?_
 refine at_op rfl (n_boxA 1 rfl rfl rfl ?_)
 refine at_op rfl (n_alloc 2 rfl ti109 rfl rfl ?_)
 refine at_nil<|x_tn<|at_seq ?_
 refine at_frzP 1 rfl rfl pul ?_
 refine at_region<|s1 ((y_cutfa (ds:=((x.map u8).drop (0*1)).take (32*1)) 32 Tryz.underlying23 ti5 rfl (by simp [maxLen]) bn bn (Nat.zero_le _) (Nat.le_refl _) (by simp [hx]) rfl rfl).v (cut_all hx)) rfl<|s1 (y_str Tryz.underlying68 Tryz.underlying5 Tryz.underlying9 rfl rfl (by rw [hx])) rfl<|s1 (y_bld (out:= [_,_,_,_]) [[evC (.int .i64 0)], [evC (.int .i64 0)], [evC (.string ByteArray.empty)], [evC (.slice none 0 0)]] ti109 rfl Tryz.underlying109 (by kernel_rfl) rfl rfl ⟨⟨by(first|rfl|omega|(simp;done)|(simp [*];done)|(simp [cellsA, *];done)),rfl⟩,⟨⟨by(first|rfl|omega|(simp;done)|(simp [*];done)|(simp [cellsA, *];done)),rfl⟩,trivial⟩⟩ rfl) rfl ?_
 refine at_op rfl (n_storeA ti109 rfl rfl rfl (by first|rfl|omega|(simp<;>omega)|(simp [*]<;>omega)) (by first|rfl|omega|(simp<;>omega)|(simp [*]<;>omega)) ?_)
 refine at_nil<|x_tn<|at_ret ?_
 refine at_wkO 2 rfl wk_cv ?_
 refine at_result (rs:= [.cell 2 109]) rfl (r_cellA ti109 rfl rfl rfl rfl r_nil) ?_
 rfl
theorem edig_ok (e:Ep) (h:e.ok):Con Tryz.prog 22 [.ag e.cells] (Ret (.ag ((digE e).map u8))):=by
 refine enter Tryz.func22 rfl Tryz.ntmps22 (by kernel_rfl) (Nat.le_of_ble_eq_true rfl) fun w0 X0 hI=>?_
 refine at_seq<|at_region ?_
 refine at_op rfl (n_boxA 1 rfl rfl rfl ?_)
 refine at_op rfl (n_alloc 2 rfl ti23 rfl rfl ?_)
 refine at_nil<|x_tn<|at_seq ?_
 have hfew:=h.few
 refine at_region ?_
 refine at_op rfl (n_call false rfl (.cons (.pure pu) .nil) (elst0_ok) pu (.inl rfl) rfl ?_)
 refine at_op rfl (n_alloc 3 rfl ti109 rfl rfl ?_)
 refine at_op rfl (n_storeA ti109 rfl rfl rfl (by first|rfl|omega|(simp<;>omega)|(simp [*]<;>omega)) (by first|rfl|omega|(simp<;>omega)|(simp [*]<;>omega)) ?_)
 refine at_nil<|x_tn<|at_seq<|at_seq<|at_region<|s1 (y_fld Tryz.underlying45 rfl ti31 (by decide) rfl rfl) rfl<|s1 (y_load ti31 rfl rfl rfl) rfl<|s1 (y_len Tryz.underlying31 rfl rfl rfl) rfl<|s1 ((y_p rfl).v (v':= .i .i64 0) rfl) rfl ?_
 refine at_nil<|x_tn<|at_block ?_
 refine at_loop (ι:=Nat) (fun i=> [(1,.p 1 0),(2,.p 2 0),(3,.p 3 0),(10,chsA e.ch),(11,nJ e.ch.length),(12,nJ i)]) (fun i=>⟨[(1,some (e.cells)),(2,some (zD.map u8)),(3,some ([.i .i64 3,.i .i64 0,.s [],.sl 127 4 0 i])),(127,some (CV.cellsL ((e.ch.take i).map chV)))]⟩) (fun i=>i≤e.ch.length) (fun i=>e.ch.length - i) ?_ ?_
 ·exact at_ex (0) (Nat.zero_le _) [(1,some 1),(2,some 2),(3,some 3),(127,none)] hI rfl rfl ⟨⟨_,rfl,.p rfl⟩,⟨_,rfl,.p rfl⟩,⟨_,rfl,.p rfl⟩,⟨_,rfl,.pure pu⟩,⟨_,rfl,.pure pu⟩,⟨_,rfl,.pure pu⟩,trivial⟩ ⟨.inr ⟨_,_,rfl,rfl,.pure pul⟩,.inr ⟨_,_,rfl,rfl,.pure pul⟩,.inr ⟨_,_,rfl,rfl,.cons (.pure pu) (.cons (.pure pu) (.cons (.pure pu) (.cons (.nl rfl) .nil)))⟩,.inl ⟨rfl,rfl⟩,trivial⟩
 rintro i hi
 refine at_seq<|at_region<|s1 (y_p rfl) rfl ?_
 refine at_nil<|x_tn<|at_seq ?_
 refine at_cond rfl (fun hc13=>?_) (fun hc13=>?_)
 ·have h13 : i < e.ch.length := by have := of_decide_eq_true hc13; omega
  obtain⟨c,hc⟩:∃c,e.ch[i]? =some c:=⟨_,List.getElem?_eq_getElem h13⟩
  refine at_skip<|x_tn<|at_seq<|at_block<|at_seq<|at_region<|s1 (y_ixf i Tryz.underlying31 ti55 rfl rfl rfl (by omega) rfl) rfl<|s1 (y_loadA ti55 rfl rfl (chs_get hc) rfl) rfl ?_
  refine at_op rfl (n_alloc 5 rfl ti55 rfl rfl ?_)
  refine at_op rfl (n_storeA ti55 rfl rfl rfl (by first|rfl|omega|(simp<;>omega)|(simp [*]<;>omega)) (by first|rfl|omega|(simp<;>omega)|(simp [*]<;>omega)) ?_)
  refine at_nil<|x_tn ?_
  refine at_fs ⟨_, [], []⟩ 13 4 hmix (le_refl rfl) ?_
  refine fs_q 0 [] [(3,none)] (y_fld Tryz.underlying109 rfl ti107 (by decide) rfl rfl) rfl rfl ?_
  refine fs_q 1 [0] [(3,none)] (y_load ti107 rfl rfl rfl) rfl rfl ?_
  refine fs_q 2 [] [(5,none)] (y_fld Tryz.underlying55 rfl ti3 (by decide) rfl rfl) rfl rfl ?_
  refine fs_q 3 [2] [(5,none)] (y_load ti3 rfl rfl rfl) rfl rfl ?_
  refine fs_call false 4 [3] [] gy0 rfl (.cons (.pure pu) (.nil)) (enumV_ok c.id) pu (.inl rfl) rfl rfl ?_
  refine fs_q 5 [] [(5,none)] (y_fld Tryz.underlying55 rfl ti3 (by decide) rfl rfl) rfl rfl ?_
  refine fs_q 6 [5] [(5,none)] (y_load ti3 rfl rfl rfl) rfl rfl ?_
  refine fs_call false 7 [6] [] gy0 rfl (.cons (.pure pu) (.nil)) (enumV_ok c.st) pu (.inl rfl) rfl rfl ?_
  refine fs_bs 24 8 [4,7] gy0 Tryz.underlying107 ti109 rfl rfl rfl (by simp [cellsA]) (show _=CV.cellsL [intV c.id,intV c.st]from rfl) rfl rfl rfl rfl ?_
  refine fs_callF 24 9 [8] [(24,some 8)] gy0 rfl rfl pul rfl (CV.cellsL_all [intV c.id,intV c.st]) rfl (by exact pul) (elstV_ok [intV c.id,intV c.st]) pu rfl rfl ?_
  refine fs_bs 26 10 [9] gy0 Tryz.underlying107 ti109 rfl rfl rfl (by simp [cellsA]) (one_cv (chV c)) rfl rfl rfl rfl ?_
  refine fs_app 27 11 [1,10] [(26,some 10),(127,none)] gy0 Tryz.underlying107 ti109 rfl (.sl rfl (by simp;omega)) rfl (SM_full rfl (by first|rfl|omega|(simp<;>omega)|(simp [*]<;>omega))) (by simp) (by simp only [maxLen];omega) (by omega) rfl rfl rfl rfl ?_
  refine fs_q 12 [] [(3,none)] (y_fld Tryz.underlying109 rfl ti107 (by decide) rfl rfl) rfl rfl ?_
  refine fs_end (by kernel_rfl) ?_
  refine at_op rfl (n_store1 ti107 rfl rfl rfl rfl (by first|rfl|omega|(simp<;>omega)|(simp [*]<;>omega)) rfl ?_)
  refine at_nil<|x_bn<|x_tn<|at_region<|s1 (addN _ 1 rfl rfl rfl rfl (by omega)) rfl<|s1 (y_p rfl) rfl ?_
  refine at_nil ?_
  exact at_end (i+1) (by omega) (by omega) [(1,some 1),(2,some 2),(3,some 3),(127,some 27)] hI rfl rfl ⟨⟨_,rfl,.p rfl⟩,⟨_,rfl,.p rfl⟩,⟨_,rfl,.p rfl⟩,⟨_,rfl,.pure pu⟩,⟨_,rfl,.pure pu⟩,⟨_,rfl,.pure pu⟩,trivial⟩ ⟨.inr ⟨_,_,rfl,rfl,.pure pul⟩,.inr ⟨_,_,rfl,rfl,.pure pul⟩,.inr ⟨_,_,rfl,rfl,.cons (.pure pu) (.cons (.pure pu) (.cons (.pure pu) (.cons (.sl rfl (by simp)) .nil)))⟩,.inr ⟨_,_,rfl,rfl,.of (ch_nextV hc) (.pure pul)⟩,trivial⟩
 ·obtain rfl : i = e.ch.length := by have := of_decide_eq_false hc13; omega
  refine at_exit<|x_te<|x_te<|x_be<|x_tn<|at_seq ?_
  refine at_sayO 127 (cs':=CV.cellsL (e.ch.map chV)) rfl (by rw [List.take_length]) ?_
  refine at_frzO 3 3 rfl rfl rfl rfl pul (view_cv (by simp)) rfl ?_
  refine at_fs ⟨_, [], []⟩ 23 4 hmix (le_refl rfl) ?_
  refine fs_q 0 [] [(1,none)] (y_fld Tryz.underlying45 rfl ti3 (by decide) rfl rfl) rfl rfl ?_
  refine fs_q 1 [0] [(1,none)] (y_load ti3 rfl rfl rfl) rfl rfl ?_
  refine fs_call false 2 [1] [] gy0 rfl (.cons (.pure pu) (.nil)) (enumV_ok e.iss) pu (.inl rfl) rfl rfl ?_
  refine fs_q 3 [] [(1,none)] (y_fld Tryz.underlying45 rfl ti3 (by decide) rfl rfl) rfl rfl ?_
  refine fs_q 4 [3] [(1,none)] (y_load ti3 rfl rfl rfl) rfl rfl ?_
  refine fs_call false 5 [4] [] gy0 rfl (.cons (.pure pu) (.nil)) (enumV_ok e.no) pu (.inl rfl) rfl rfl ?_
  refine fs_q 6 [] [(1,none)] (y_fld Tryz.underlying45 rfl ti3 (by decide) rfl rfl) rfl rfl ?_
  refine fs_q 7 [6] [(1,none)] (y_load ti3 rfl rfl rfl) rfl rfl ?_
  refine fs_call false 8 [7] [] gy0 rfl (.cons (.pure pu) (.nil)) (enumV_ok e.day) pu (.inl rfl) rfl rfl ?_
  refine fs_q 9 [] [(3,none)] ((y_loadA0 ti109 rfl rfl rfl).v (v':= .ag (CV.cells (lstV (e.ch.map chV)))) (congrArg (fun n:Nat=>A.ag [.i .i64 3,.i .i64 0,.s [],.fz n (CV.cellsL (e.ch.map chV))]) (show e.ch.length=(e.ch.map chV).length by rw [List.length_map]))) rfl rfl ?_
  refine fs_q 10 [] [(1,none)] (y_fld Tryz.underlying45 rfl ti23 (by decide) rfl rfl) rfl rfl ?_
  refine fs_q 11 [10] [(1,none)] (y_loadA ti23 rfl rfl (ep_cas h) (by simp [h.cas])) rfl rfl ?_
  refine fs_call false 12 [11] [] gy0 rfl (.cons (.pure pu) (.nil)) (etxtV_ok e.cas h.cas) pu (.inl rfl) rfl rfl ?_
  refine fs_q 13 [] [(1,none)] (y_fld Tryz.underlying45 rfl ti23 (by decide) rfl rfl) rfl rfl ?_
  refine fs_q 14 [13] [(1,none)] (y_loadA ti23 rfl rfl (ep_prev h) (by simp [h.prev])) rfl rfl ?_
  refine fs_call false 15 [14] [] gy0 rfl (.cons (.pure pu) (.nil)) (etxtV_ok e.prev h.prev) pu (.inl rfl) rfl rfl ?_
  refine fs_bs 47 16 [2,5,8,9,12,15] gy0 Tryz.underlying107 ti109 rfl rfl rfl (by simp [cellsA]) (show _=CV.cellsL [intV e.iss,intV e.no,intV e.day,lstV (e.ch.map chV),txtV e.cas,txtV e.prev]from rfl) rfl rfl rfl rfl ?_
  refine fs_callF 47 17 [16] [(47,some 16)] gy0 rfl rfl pul rfl (CV.cellsL_all [intV e.iss,intV e.no,intV e.day,lstV (e.ch.map chV),txtV e.cas,txtV e.prev]) rfl (by exact pul) (elstV_ok [intV e.iss,intV e.no,intV e.day,lstV (e.ch.map chV),txtV e.cas,txtV e.prev]) pu rfl rfl ?_
  refine fs_call false 18 [17] [] gy0 rfl (.cons (.pure pu) (.nil)) (Con.cast (cencode_ok 3 0 [] [intV e.iss,intV e.no,intV e.day,lstV (e.ch.map chV),txtV e.cas,txtV e.prev] (size_ep h) (rng_ep h) (Nat.le_trans (enc_ep h) (by omega))) (encA_ep e)) pu (.inl rfl) rfl rfl ?_
  refine fs_q 19 [18] [] (y_p rfl) rfl rfl ?_
  refine fs_q 20 [19] [] (y_p rfl) rfl rfl ?_
  refine fs_q 21 [19] [] (y_p rfl) rfl rfl ?_
  refine fs_q 22 [20] [] (y_p rfl) rfl rfl ?_
  refine fs_end (by kernel_rfl) ?_
  refine s1 (y_p rfl) rfl ?_
  refine at_nil<|x_tn<|at_seq ?_
  have hel:=enc_ep h
  refine at_region<|s1 (y_p rfl) rfl ?_
  refine at_op rfl (n_call false rfl (.cons (.pure pu) (.cons (.pure pu) (.nil))) (Con.cast (tagged_ok tagE (epV e).enc (by omega) (by decide)) (congrArg (fun l:List UInt8=>A.ag (l.map u8)) (digE_eq e).symm)) pu (.inl rfl) rfl ?_)
  refine at_op rfl (n_storeA ti23 rfl rfl rfl (by first|rfl|omega|(simp<;>omega)|(simp [*]<;>omega)) (by first|rfl|omega|(simp<;>omega)|(simp [*]<;>omega)) ?_)
  refine at_nil<|x_tn<|at_ret ?_
  refine at_result (rs:= [.cell 2 23]) rfl (r_cellA ti23 rfl rfl (List.take_of_length_le (by simp)) (by simp) r_nil) ?_
  rfl
end Go.Abs.D2
-- E5D
namespace Go.Abs.D2
open Go Go.Eng Go.Abs Go.Proofs
theorem eformed_E (l:List Ep) (hl:EpsOk l) (hn:l.length≤maxLen):ConE Tryz.prog 64 [epsA l] ⟨[]⟩ (fun r st=>∃σ,formS l=some σ∧RetMp (mapOf σ) r st) (fun u=>formS l=none∧u=misV 136 351):=by
 refine enterEM Tryz.func64 rfl Tryz.ntmps64 (by kernel_rfl) (Nat.le_of_ble_eq_true rfl) fun w0 X0 hI hS=>?_
 refine at_fseq ?_
 refine at_fin ?_
 simp only [maxLen]at hn
 refine at_region ?_
 refine at_op rfl (n_box1 1 rfl rfl rfl rfl ?_)
 refine s1 (y_p rfl) rfl ?_
 refine at_nil<|x_tn ?_
 refine at_fseq ?_
 refine at_fin ?_
 refine at_region ?_
 refine at_op rfl (n_makeMap rfl rfl fun b8=>?_)
 refine at_sayO 700 (cs':= [.mc b8 (mapOf σ0)]) rfl (congrArg (fun f=> [A.mc b8 f]) mapOf_nil) ?_
 refine s1 (y_p rfl) rfl ?_
 refine at_nil<|x_tn ?_
 refine at_fseq ?_
 refine at_fin ?_
 refine at_region ?_
 refine at_op rfl (n_alloc 4 rfl ti23 rfl rfl ?_)
 refine at_nil<|x_tn ?_
 refine at_fseq ?_
 refine at_fin ?_
 refine at_region ?_
 refine at_op rfl (n_alloc 5 rfl ti3 rfl rfl ?_)
 refine at_op rfl (n_alloc 6 rfl ti3 rfl rfl ?_)
 refine at_op rfl (n_store1 ti3 rfl rfl rfl rfl (by first|rfl|omega|(simp<;>omega)|(simp [*]<;>omega)) rfl ?_)
 refine at_op rfl (n_store1 ti3 rfl rfl rfl rfl (by first|rfl|omega|(simp<;>omega)|(simp [*]<;>omega)) rfl ?_)
 refine at_nil<|x_tn ?_
 refine at_fseq ?_
 refine at_fseq ?_
 refine at_fin ?_
 refine at_region<|s1 (y_load ti24 rfl rfl rfl) rfl<|s1 (y_p rfl) rfl ?_
 refine at_op rfl (n_call false rfl (.cons (.pure pu) (.cons (.pure pu) (.nil))) (eafter_ok l b8) pu (.inl rfl) rfl ?_)
 refine at_nil<|x_tn ?_
 refine at_fblock ?_
 refine at_rangeF [1,4,5,6,700] [(0,_),(1,_),(3,_),(4,_),(5,_),(6,_),(8,_),(9,_),(10,_),(11,_)] hI rfl ⟨rfl,⟨rfl,⟨rfl,⟨rfl,⟨rfl,⟨rfl,⟨rfl,⟨rfl,⟨rfl,⟨rfl,trivial⟩⟩⟩⟩⟩⟩⟩⟩⟩⟩ (by first|rfl|(simp [onlyE,refsE,refs,refsL,refsL_pul,refs_pu,memN];done)) rfl Tryz.func163 rfl Tryz.ntmps163 (by kernel_rfl) (Nat.le_of_ble_eq_true rfl) fun w1 l1 D1 rc1 hR1 hF1=>?_
 refine at_seq<|at_region<|s1 (y_load ti24 rfl rfl rfl) rfl<|s1 (y_len Tryz.underlying24 rfl rfl rfl) rfl<|s1 ((y_p rfl).v (v':= .i .i64 0) rfl) rfl ?_
 refine at_nil<|x_tn<|at_block ?_
 refine at_loop (ι:=Nat×(Int→Int)×Int×List UInt8) (fun⟨i,τ,day,prev⟩=> [(0,yv l1),(1,.fp [epsA l]),(2,.fp [.raw (.map (some b8))]),(6,epsA l),(7,nJ l.length),(8,nJ i)]) (fun⟨i,τ,day,prev⟩=>⟨[(1,some ([epsA l])),(4,some (prev.map u8)),(5,some ([nJ i])),(6,some ([.i .i64 day])),(700,some ([.mc b8 (mapOf τ)]))]⟩) (fun⟨i,τ,day,prev⟩=>i≤l.length∧prev.length=32∧formS l=frm (issL l) i day prev τ (l.drop i)) (fun⟨i,τ,day,prev⟩=>l.length - i) ?_ ?_
 ·exact at_ex ((0,σ0, -1,zD)) (⟨Nat.zero_le _,rfl,formS_eq l⟩) [(1,some 1),(4,some 4),(5,some 5),(6,some 6),(700,some 700)] hR1.sub.ids rfl rfl ⟨⟨_,rfl,.pure trivial⟩,⟨_,rfl,.pure pu⟩,⟨_,rfl,.pure pu⟩,⟨_,rfl,.pure pu⟩,⟨_,rfl,.pure pu⟩,⟨_,rfl,.pure pu⟩,trivial⟩ ⟨.inr ⟨_,_,rfl,rfl,.pure pul⟩,.inr ⟨_,_,rfl,rfl,.of rfl (.pure pul)⟩,.inr ⟨_,_,rfl,rfl,.of (rfl:_= [nJ 0]) (.pure pul)⟩,.inr ⟨_,_,rfl,rfl,.of (rfl:_= [A.i .i64 (-1)]) (.pure pul)⟩,.inr ⟨_,_,rfl,rfl,.pure pul⟩,trivial⟩
 rintro⟨i,τ,day,prev⟩ ⟨hi,hpl,hst⟩
 dsimp only
 refine at_seq<|at_region<|s1 (y_p rfl) rfl ?_
 refine at_nil<|x_tn<|at_seq ?_
 refine at_cond rfl (fun hc9=>?_) (fun hc9=>?_)
 ·have h9 : i < l.length := by have := of_decide_eq_true hc9; omega
  obtain⟨e,he⟩:∃e,l[i]? =some e:=⟨_,List.getElem?_eq_getElem h9⟩
  have hok:=hl e (List.mem_of_getElem? he)
  obtain⟨e0,he0⟩:∃e0,l[0]? =some e0:=⟨_,List.getElem?_eq_getElem (by omega)⟩
  have hi0:=issL_get he0
  have hpv:=hok.prev
  refine at_skip<|x_tn<|at_seq<|at_block<|at_seq<|at_region<|s1 (y_ixf i Tryz.underlying24 ti45 rfl rfl rfl (by omega) rfl) rfl<|s1 (y_loadA ti45 rfl rfl (eps_get hl he) hok.len) rfl ?_
  refine at_op rfl (n_alloc 1005 rfl ti45 rfl rfl ?_)
  refine at_op rfl (n_storeA ti45 rfl rfl rfl hok.len (by simp) ?_)
  refine at_nil<|x_tn<|at_seq<|at_seq<|at_region<|s1 (y_p rfl) rfl<|s1 (y_loadA0 ti45 rfl rfl hok.len) rfl<|s1 (y_load ti80 rfl rfl rfl) rfl ?_
  refine at_yield [1,4,5,6,700,1005] [(0,_),(1,_),(2,_),(5,_),(6,_),(7,_),(8,_),(9,_),(10,_),(11,_),(12,_),(13,_),(14,_)] hR1 hR1.sub.ids rfl ⟨rfl,⟨rfl,⟨rfl,⟨rfl,⟨rfl,⟨rfl,⟨rfl,⟨rfl,⟨rfl,⟨rfl,⟨rfl,⟨rfl,⟨rfl,trivial⟩⟩⟩⟩⟩⟩⟩⟩⟩⟩⟩⟩⟩ (by first|rfl|(simp [onlyE,refsE,refs,refsL,refsL_pul,refs_pu,memN];done)) rfl rfl rfl rfl rfl fun w2 tm2 hd2=>?_
  refine at_region ?_
  refine at_op rfl (n_alloc 7 rfl ti45 rfl rfl ?_)
  refine at_op rfl (n_storeA ti45 rfl rfl rfl hok.len (by simp) ?_)
  refine at_nil ?_
  refine at_begin hd2 fun w3 hd3=>?_
  refine at_block<|at_seq ?_
  rcases iss_ways e.iss e0.iss with hcs|hcs|hcs|hcs
  ·have hq := hcs
   refine at_draw_tail 17 hmix (by kernel_rfl) ?_
   refine t1 (y_fld Tryz.underlying45 rfl ti3 (by decide) rfl rfl) rfl<|t1 (y_load ti3 rfl rfl rfl) rfl<|t1 (y_load ti24 rfl rfl rfl) rfl<|t1 (y_ixf 0 Tryz.underlying24 ti45 rfl rfl rfl (by omega) rfl) rfl<|t1 (y_fldf Tryz.underlying45 rfl ti3 (by decide) rfl rfl) rfl<|t1 (y_load ti3 rfl rfl (eps_fld hl he0 (k:=0) rfl (by decide))) rfl<|t1 ((y_p rfl).v (v':= .b false) (congrArg A.b (beq_eq_false_iff_ne.2 (by omega)))) rfl<|t1 (y_p rfl) rfl<|t0g rfl rfl rfl rfl<|t0g rfl rfl rfl rfl ?_
   refine t0g rfl rfl rfl rfl<|t1 (y_p rfl) rfl<|t1 (y_p rfl) rfl<|t0g rfl rfl rfl rfl<|t0g rfl rfl rfl rfl<|t0g rfl rfl rfl rfl<|t1 (y_p rfl) rfl ?_
   refine at_snil ?_
   refine p_call ⟨[]⟩ false rfl trivial (.cons (.pure pu) (.cons (.pure pu) .nil)) (eneed_px 351) (fun u hu=>?_)
   refine x_tp ?_
   refine x_bp ?_
   refine at_rpanic ((congrArg (fun f=>Tryz.prog.funcs[f]?) hF1).trans Tryz.func64) hR1 hd3 fun w4 hR4=>?_
   refine x_tp ?_
   refine x_tp ?_
   refine x_bp ?_
   refine x_tp ?_
   refine x_tp ?_
   refine x_bp ?_
   refine at_itpanic hR4 hS ?_
   refine x_bp ?_
   refine x_tp ?_
   exact at_panickedM rfl rfl rfl hS (dn:= [D1]) rfl rfl (by simp) ⟨hst.trans (frm_no he (.inl (epB_f1 (by omega)))),hu⟩
  ·obtain ⟨hq, h0⟩ := hcs
   refine at_draw_tail 17 hmix (by kernel_rfl) ?_
   refine t1 (y_fld Tryz.underlying45 rfl ti3 (by decide) rfl rfl) rfl<|t1 (y_load ti3 rfl rfl rfl) rfl<|t1 (y_load ti24 rfl rfl rfl) rfl<|t1 (y_ixf 0 Tryz.underlying24 ti45 rfl rfl rfl (by omega) rfl) rfl<|t1 (y_fldf Tryz.underlying45 rfl ti3 (by decide) rfl rfl) rfl<|t1 (y_load ti3 rfl rfl (eps_fld hl he0 (k:=0) rfl (by decide))) rfl<|t1 ((y_p rfl).v (v':= .b true) (congrArg A.b (beq_iff_eq.2 (by omega)))) rfl<|t1 (y_p rfl) rfl<|t1g rfl rfl (y_fld Tryz.underlying45 rfl ti3 (by decide) rfl rfl) rfl<|t1g rfl rfl (y_load ti3 rfl rfl rfl) rfl ?_
   refine t1g rfl rfl ((y_p rfl).v (v':= .b false) (congrArg A.b (decide_eq_false (by omega)))) rfl<|t1 (y_p rfl) rfl<|t1 (y_p rfl) rfl<|t0g rfl rfl rfl rfl<|t0g rfl rfl rfl rfl<|t0g rfl rfl rfl rfl<|t1 (y_p rfl) rfl ?_
   refine at_snil ?_
   refine p_call ⟨[]⟩ false rfl trivial (.cons (.pure pu) (.cons (.pure pu) .nil)) (eneed_px 351) (fun u hu=>?_)
   refine x_tp ?_
   refine x_bp ?_
   refine at_rpanic ((congrArg (fun f=>Tryz.prog.funcs[f]?) hF1).trans Tryz.func64) hR1 hd3 fun w5 hR5=>?_
   refine x_tp ?_
   refine x_tp ?_
   refine x_bp ?_
   refine x_tp ?_
   refine x_tp ?_
   refine x_bp ?_
   refine at_itpanic hR5 hS ?_
   refine x_bp ?_
   refine x_tp ?_
   exact at_panickedM rfl rfl rfl hS (dn:= [D1]) rfl rfl (by simp) ⟨hst.trans (frm_no he (.inl (epB_f1 (by omega)))),hu⟩
  ·obtain ⟨hq, h0, h8⟩ := hcs
   refine at_draw_tail 17 hmix (by kernel_rfl) ?_
   refine t1 (y_fld Tryz.underlying45 rfl ti3 (by decide) rfl rfl) rfl<|t1 (y_load ti3 rfl rfl rfl) rfl<|t1 (y_load ti24 rfl rfl rfl) rfl<|t1 (y_ixf 0 Tryz.underlying24 ti45 rfl rfl rfl (by omega) rfl) rfl<|t1 (y_fldf Tryz.underlying45 rfl ti3 (by decide) rfl rfl) rfl<|t1 (y_load ti3 rfl rfl (eps_fld hl he0 (k:=0) rfl (by decide))) rfl<|t1 ((y_p rfl).v (v':= .b true) (congrArg A.b (beq_iff_eq.2 (by omega)))) rfl<|t1 (y_p rfl) rfl<|t1g rfl rfl (y_fld Tryz.underlying45 rfl ti3 (by decide) rfl rfl) rfl<|t1g rfl rfl (y_load ti3 rfl rfl rfl) rfl ?_
   refine t1g rfl rfl ((y_p rfl).v (v':= .b true) (congrArg A.b (decide_eq_true (by omega)))) rfl<|t1 (y_p rfl) rfl<|t1 (y_p rfl) rfl<|t1g rfl rfl (y_fld Tryz.underlying45 rfl ti3 (by decide) rfl rfl) rfl<|t1g rfl rfl (y_load ti3 rfl rfl rfl) rfl<|t1g rfl rfl ((y_p rfl).v (v':= .b false) (congrArg A.b (decide_eq_false (by omega)))) rfl<|t1 (y_p rfl) rfl ?_
   refine at_snil ?_
   refine p_call ⟨[]⟩ false rfl trivial (.cons (.pure pu) (.cons (.pure pu) .nil)) (eneed_px 351) (fun u hu=>?_)
   refine x_tp ?_
   refine x_bp ?_
   refine at_rpanic ((congrArg (fun f=>Tryz.prog.funcs[f]?) hF1).trans Tryz.func64) hR1 hd3 fun w6 hR6=>?_
   refine x_tp ?_
   refine x_tp ?_
   refine x_bp ?_
   refine x_tp ?_
   refine x_tp ?_
   refine x_bp ?_
   refine at_itpanic hR6 hS ?_
   refine x_bp ?_
   refine x_tp ?_
   exact at_panickedM rfl rfl rfl hS (dn:= [D1]) rfl rfl (by simp) ⟨hst.trans (frm_no he (.inl (epB_f1 (by omega)))),hu⟩
  ·have hq := hcs
   obtain⟨hq1,h0,h8⟩:=hcs
   refine at_draw_tail 17 hmix (by kernel_rfl) ?_
   refine t1 (y_fld Tryz.underlying45 rfl ti3 (by decide) rfl rfl) rfl<|t1 (y_load ti3 rfl rfl rfl) rfl<|t1 (y_load ti24 rfl rfl rfl) rfl<|t1 (y_ixf 0 Tryz.underlying24 ti45 rfl rfl rfl (by omega) rfl) rfl<|t1 (y_fldf Tryz.underlying45 rfl ti3 (by decide) rfl rfl) rfl<|t1 (y_load ti3 rfl rfl (eps_fld hl he0 (k:=0) rfl (by decide))) rfl<|t1 ((y_p rfl).v (v':= .b true) (congrArg A.b (beq_iff_eq.2 (by omega)))) rfl<|t1 (y_p rfl) rfl<|t1g rfl rfl (y_fld Tryz.underlying45 rfl ti3 (by decide) rfl rfl) rfl<|t1g rfl rfl (y_load ti3 rfl rfl rfl) rfl ?_
   refine t1g rfl rfl ((y_p rfl).v (v':= .b true) (congrArg A.b (decide_eq_true (by omega)))) rfl<|t1 (y_p rfl) rfl<|t1 (y_p rfl) rfl<|t1g rfl rfl (y_fld Tryz.underlying45 rfl ti3 (by decide) rfl rfl) rfl<|t1g rfl rfl (y_load ti3 rfl rfl rfl) rfl<|t1g rfl rfl ((y_p rfl).v (v':= .b true) (congrArg A.b (decide_eq_true (by omega)))) rfl<|t1 (y_p rfl) rfl ?_
   refine at_snil ?_
   refine at_op rfl (n_call false rfl (.cons (.pure pu) (.cons (.pure pu) .nil)) (eneed_ok 351) pu (.inl rfl) rfl ?_)
   refine at_nil<|x_tn<|at_seq<|at_region<|s1 (y_fld Tryz.underlying45 rfl ti3 (by decide) rfl rfl) rfl<|s1 (y_load ti3 rfl rfl rfl) rfl<|s1 (y_load ti3 rfl rfl rfl) rfl<|s1 (y_p rfl) rfl<|s1 (y_p rfl) rfl ?_
   refine g_and 5 rfl rfl rfl rfl (fun hb36=> .step (y_fld Tryz.underlying45 rfl ti43 (by decide) rfl rfl) rfl rfl<| .step (y_fld Tryz.underlying43 rfl ti3 (by decide) rfl rfl) rfl rfl<| .step (y_load ti3 rfl rfl (ep_sga hok)) rfl rfl<| .step (y_load ti3 rfl rfl rfl) rfl rfl<| .step (y_p rfl) rfl rfl<| .done) rfl rfl ?_
   refine s1 (y_p rfl) rfl ?_
   refine g_and 4 rfl rfl rfl rfl (fun hb43=> .step (y_fld Tryz.underlying45 rfl ti23 (by decide) rfl rfl) rfl rfl<| .step (y_loadA ti23 rfl rfl (ep_prev hok) (by simp [hok.prev])) rfl rfl<| .step (y_loadA0 ti23 rfl rfl (by rw [List.length_map,hpl])) rfl rfl<| .step (y_aq Tryz.underlying23 Tryz.underlying5 ti5 (by kernel_rfl) rfl rfl (by first|assumption|(simp;done)|(simp [*];done)) (by first|assumption|(simp;done)|(simp [*];done))) rfl rfl<| .done) rfl rfl ?_
   refine at_bc 48 rfl (fun hc48=>?_) (fun hc48=>?_)
   ·skip
    refine at_op rfl (n_call false rfl (.cons (.pure pu) (.cons (.pure pu) .nil)) (eneed_ok 351) pu (.inl rfl) rfl ?_)
    refine at_nil<|x_tn<|at_seq<|at_region<|s1 (y_fld Tryz.underlying45 rfl ti3 (by decide) rfl rfl) rfl<|s1 (y_load ti3 rfl rfl rfl) rfl<|s1 (y_load ti3 rfl rfl rfl) rfl<|s1 (y_p rfl) rfl<|s1 (y_p rfl) rfl ?_
    refine g_and 3 rfl rfl rfl rfl (fun hb54=> .step (y_fld Tryz.underlying45 rfl ti3 (by decide) rfl rfl) rfl rfl<| .step (y_load ti3 rfl rfl rfl) rfl rfl<| .step (y_p rfl) rfl rfl<| .done) rfl rfl ?_
    refine at_bc 58 rfl (fun hc58=>?_) (fun hc58=>?_)
    ·skip
     refine at_op rfl (n_call false rfl (.cons (.pure pu) (.cons (.pure pu) .nil)) (eneed_ok 351) pu (.inl rfl) rfl ?_)
     refine at_nil<|x_tn ?_
     refine at_fs ⟨_, [], []⟩ 7 4 hmix (le_refl rfl) ?_
     refine fs_q 0 [] [(5,none)] (y_load ti3 rfl rfl rfl) rfl rfl ?_
     refine fs_q 1 [0] [] (addN i 1 rfl rfl rfl rfl (by omega)) rfl rfl ?_
     refine fs_q 2 [] [(7,none)] (y_fld Tryz.underlying45 rfl ti3 (by decide) rfl rfl) rfl rfl ?_
     refine fs_q 3 [2] [(7,none)] (y_load ti3 rfl rfl rfl) rfl rfl ?_
     refine fs_q 4 [] [(7,none)] (y_loadA0 ti45 rfl rfl hok.len) rfl rfl ?_
     refine fs_call false 5 [4] [] gy0 rfl (.cons (.pure pu) (.nil)) (edig_ok e hok) pu (.inl rfl) rfl rfl ?_
     refine fs_sto1 0 6 [1] [(5,none)] rfl gy0 ti3 rfl rfl rfl rfl (by first|rfl|omega|(simp<;>omega)|(simp [*]<;>omega)) rfl rfl ?_
     refine fs_end (by kernel_rfl) ?_
     refine at_op rfl (n_store1 ti3 rfl rfl rfl rfl (by first|rfl|omega|(simp<;>omega)|(simp [*]<;>omega)) rfl ?_)
     refine at_op rfl (n_storeA ti23 rfl rfl rfl (by simp) (by simp [hpl]) ?_)
     refine at_nil<|x_bn ?_
     refine at_rend hR1 hd3 rfl ?_
     refine s1 (y_p rfl) rfl ?_
     refine at_nil<|x_tn ?_
     refine at_else rfl ?_
     refine at_skip<|x_tn ?_
     rcases tfC (chOk τ (-1) e.ch)with hcs|hcs
     ·skip
      refine at_region<|s1 (y_load ti80 rfl rfl rfl) rfl<|s1 (y_fld Tryz.underlying45 rfl ti31 (by decide) rfl rfl) rfl<|s1 (y_load ti31 rfl rfl rfl) rfl ?_
      refine p_call ⟨[(700,some [.mc b8 (mapOf τ)])]⟩ false rfl ⟨⟨rfl,VwL.pure pul⟩,trivial⟩ (.cons (.pure pu) (.cons (.pure pu) .nil)) (echange_px (Nat.le_trans hok.few (by decide)) hcs) (fun u hu=>?_)
      refine x_bp ?_
      refine x_tp ?_
      refine x_tp ?_
      refine x_bp ?_
      refine at_itpanic hR1 hS ?_
      refine x_bp ?_
      refine x_tp ?_
      exact at_panickedM rfl rfl rfl hS (dn:= [D1]) rfl rfl (by simp) ⟨hst.trans (frm_no he (.inr hcs)),hu.2⟩
     ·skip
      refine at_region<|s1 (y_load ti80 rfl rfl rfl) rfl<|s1 (y_fld Tryz.underlying45 rfl ti31 (by decide) rfl rfl) rfl<|s1 (y_load ti31 rfl rfl rfl) rfl ?_
      refine at_op rfl (n_callGd ⟨[(700,some [.mc b8 (mapOf τ)])]⟩ [(700, [.mc b8 (mapOf (chg τ e.ch))])] false rfl ⟨⟨rfl,VwL.pure pul⟩,trivial⟩ (.cons (.pure pu) (.cons (.pure pu) .nil)) (echange_ok (Nat.le_trans hok.few (by decide)) hcs) pu (.inl rfl) (fun p hp=>by rw [List.mem_singleton.1 hp];exact⟨⟨_,rfl⟩,pul,.inl rfl⟩) rfl ?_)
      refine at_nil<|x_bn<|x_tn<|at_region<|s1 (addN _ 1 rfl rfl rfl rfl (by omega)) rfl<|s1 (y_p rfl) rfl ?_
      refine at_nil ?_
      exact at_end (x:=(i,τ,day,prev)) ((i+1,chg τ e.ch,e.day,digE e)) (⟨show i+1≤l.length by omega,len_digE e,hst.trans (frm_yes he (epB_t hi0 hq (by simpa using hc48) (by simpa using hc58)) hcs)⟩) (show l.length - (i+1)<l.length - i by omega) [(1,some 1),(4,some 4),(5,some 5),(6,some 6),(700,some 700)] hR1.sub.ids rfl rfl ⟨⟨_,rfl,.pure trivial⟩,⟨_,rfl,.pure pu⟩,⟨_,rfl,.pure pu⟩,⟨_,rfl,.pure pu⟩,⟨_,rfl,.pure pu⟩,⟨_,rfl,.pure pu⟩,trivial⟩ ⟨.inr ⟨_,_,rfl,rfl,.pure pul⟩,.inr ⟨_,_,rfl,rfl,.pure pul⟩,.inr ⟨_,_,rfl,rfl,.of (rfl:_= [nJ (i+1)]) (.pure pul)⟩,.inr ⟨_,_,rfl,rfl,.of (rfl:_= [A.i .i64 e.day]) (.pure pul)⟩,.inr ⟨_,_,rfl,rfl,.pure pul⟩,trivial⟩
    ·skip
     refine p_call ⟨[]⟩ false rfl trivial (.cons (.pure pu) (.cons (.pure pu) .nil)) (eneed_px 351) (fun u hu=>?_)
     refine x_tp ?_
     refine x_bp ?_
     refine at_rpanic ((congrArg (fun f=>Tryz.prog.funcs[f]?) hF1).trans Tryz.func64) hR1 hd3 fun w7 hR7=>?_
     refine x_tp ?_
     refine x_tp ?_
     refine x_bp ?_
     refine x_tp ?_
     refine x_tp ?_
     refine x_bp ?_
     refine at_itpanic hR7 hS ?_
     refine x_bp ?_
     refine x_tp ?_
     exact at_panickedM rfl rfl rfl hS (dn:= [D1]) rfl rfl (by simp) ⟨hst.trans (frm_no he (.inl (epB_f3 (by simpa using hc58)))),hu⟩
   ·skip
    refine p_call ⟨[]⟩ false rfl trivial (.cons (.pure pu) (.cons (.pure pu) .nil)) (eneed_px 351) (fun u hu=>?_)
    refine x_tp ?_
    refine x_bp ?_
    refine at_rpanic ((congrArg (fun f=>Tryz.prog.funcs[f]?) hF1).trans Tryz.func64) hR1 hd3 fun w8 hR8=>?_
    refine x_tp ?_
    refine x_tp ?_
    refine x_bp ?_
    refine x_tp ?_
    refine x_tp ?_
    refine x_bp ?_
    refine at_itpanic hR8 hS ?_
    refine x_bp ?_
    refine x_tp ?_
    exact at_panickedM rfl rfl rfl hS (dn:= [D1]) rfl rfl (by simp) ⟨hst.trans (frm_no he (.inl (epB_f2 (by simpa using hc48)))),hu⟩
 ·obtain rfl : i = l.length := by have := of_decide_eq_false hc9; omega
  rw [List.drop_length]at hst
  refine at_exit<|x_te<|x_te<|x_be ?_
  refine at_itnil rfl hR1 hS ?_
  refine x_bn<|x_tn ?_
  refine at_fin ?_
  refine at_seq<|at_region<|s1 (y_p rfl) rfl<|s1 (y_p rfl) rfl ?_
  refine at_nil<|x_tn<|at_ret ?_
  refine at_resultME (rs:= [.tmp 2]) rfl rfl rfl hS (dn:= [D1]) rfl rfl (by simp) rfl (r_tmp rfl r_nil) ?_
  exact⟨τ,hst,b8,rfl,rfl⟩
theorem eformed_ok {l:List Ep} (hl:EpsOk l) (hn:l.length≤maxLen) {σ:Int→Int} (h:formS l=some σ):Con Tryz.prog 64 [epsA l] (RetMp (mapOf σ)):=(eformed_E l hl hn).ret (fun r st ⟨τ,h1,h2⟩=>by rw [h]at h1;cases h1;exact h2) fun u hu=>by rw [h]at hu;cases hu.1
theorem eformed_px {l:List Ep} (hl:EpsOk l) (hn:l.length≤maxLen) (h:formS l=none):ConX Tryz.prog 64 [epsA l] ⟨[]⟩ (fun u=>formS l=none∧u=misV 136 351):=(eformed_E l hl hn).pan fun r st ⟨τ,h1,_⟩=>by rw [h]at h1;cases h1
end Go.Abs.D2
-- C5B
namespace Go.Abs.D2
open Go Go.Eng Go.Abs Go.Proofs
theorem elements_ok (x:List UInt8) (hx:x.length=32):Con Tryz.prog 183 [.ag (x.map u8)] (RetM (fun i=> .fn (.func 209) [] [.p i 0]) (x.map u8)):=by
 refine enter Tryz.func183 rfl Tryz.ntmps183 (by kernel_rfl) (Nat.le_of_ble_eq_true rfl) fun w0 X0 hI=>?_
 refine at_seq<|at_region ?_
 refine at_op rfl (n_boxA 1 rfl rfl rfl ?_)
 refine s1 (y_p rfl) rfl ?_
 refine at_nil<|x_tn<|at_seq<|at_region<|s1 (y_func (us:= []) (vs:= [.p 1 0]) rfl rfl) rfl<|s1 (y_p rfl) rfl ?_
 refine at_nil<|x_tn<|at_ret ?_
 refine at_result (rs:= [.tmp 2]) rfl (r_tmp rfl r_nil) ⟨1,rfl,rfl⟩
theorem after_ok (x:List UInt8) (n:Nat) (hx:x.length=32) (hn:n≤1000):Con Tryz.prog 136 [.ag (x.map u8),.i .i64 (n:Nat)] (Ret (.ag ((iterD n x).map u8))):=by
 refine enterM Tryz.func136 rfl Tryz.ntmps136 (by kernel_rfl) (Nat.le_of_ble_eq_true rfl) fun w0 X0 hI hS=>?_
 refine at_seq<|at_region ?_
 refine at_op rfl (n_boxA 2 rfl rfl rfl ?_)
 refine at_op rfl (n_box1 3 rfl rfl rfl rfl ?_)
 refine at_op rfl (n_alloc 4 rfl ti23 rfl rfl ?_)
 refine at_nil<|x_tn<|at_seq<|at_seq<|at_region<|s1 (y_loadA0 ti23 rfl rfl (by first|rfl|omega|(simp<;>omega)|(simp [*]<;>omega))) rfl ?_
 refine at_op rfl (n_callM (mk:=fun i=> .fn (.func 209) [] [.p i 0]) oneB_fn 7 rfl false rfl (.cons (.pure pu) (.nil)) (elements_ok x hx) pul (.inl rfl) rfl ?_)
 refine at_nil<|x_tn<|at_block ?_
 refine at_range [2,3,4,7] [(0,_),(1,_),(2,_),(3,_),(4,_),(6,_),(7,_)] hI rfl ⟨rfl,⟨rfl,⟨rfl,⟨rfl,⟨rfl,⟨rfl,⟨rfl,trivial⟩⟩⟩⟩⟩⟩⟩ (by first|rfl|(simp [onlyE,refsE,refs,refsL,refsL_pul,refs_pu,memN];done)) rfl Tryz.func209 rfl Tryz.ntmps209 (by kernel_rfl) (Nat.le_of_ble_eq_true rfl) fun w1 l1 D1 rc1 hR1=>?_
 refine at_block ?_
 refine at_loop (ι:=Nat) (fun k=> [(0,yv l1),(1,.p 7 0)]) (fun k=>⟨[(2,some (x.map u8)),(3,some ([.i .i64 ((n - k:Nat):Int)])),(4,some (List.replicate 32 (u8 0))),(7,some (((iterD k x).map u8)))]⟩) (fun k=>k≤n) (fun k=>n - k) ?_ ?_
 ·exact at_ex (0) (Nat.zero_le _) [(2,some 2),(3,some 3),(4,some 4),(7,some 7)] hR1.sub.ids rfl rfl ⟨⟨_,rfl,.pure trivial⟩,⟨_,rfl,.p rfl⟩,trivial⟩ ⟨.inr ⟨_,_,rfl,rfl,.pure pul⟩,.inr ⟨_,_,rfl,rfl,.pure pul⟩,.inr ⟨_,_,rfl,rfl,.pure pul⟩,.inr ⟨_,_,rfl,rfl,.pure pul⟩,trivial⟩
 rintro k hk
 have hxk:=len_iterD hx k
 refine at_seq<|at_seq<|at_region<|s1 (y_p rfl) rfl<|s1 (y_loadA0 ti23 rfl rfl (by first|rfl|omega|(simp<;>omega)|(simp [*]<;>omega))) rfl ?_
 refine at_yield [2,3,4,7] [(0,_),(1,_),(3,_),(4,_)] hR1 hR1.sub.ids rfl ⟨rfl,⟨rfl,⟨rfl,⟨rfl,trivial⟩⟩⟩⟩ (by first|rfl|(simp [onlyE,refsE,refs,refsL,refsL_pul,refs_pu,memN];done)) rfl rfl rfl rfl rfl fun w2 tm2 hd2=>?_
 refine at_region ?_
 refine at_op rfl (n_alloc 5 rfl ti23 rfl rfl ?_)
 refine at_op rfl (n_storeA ti23 rfl rfl rfl (by first|rfl|omega|(simp<;>omega)|(simp [*]<;>omega)) (by first|rfl|omega|(simp<;>omega)|(simp [*]<;>omega)) ?_)
 refine at_nil ?_
 refine at_begin hd2 fun w3 hd3=>?_
 refine at_block<|at_seq<|at_seq<|at_region<|s1 (y_load ti3 rfl rfl rfl) rfl<|s1 (y_p rfl) rfl ?_
 refine at_nil<|x_tn ?_
 refine at_cond rfl (fun hc10=>?_) (fun hc10=>?_)
 ·have h10 : k = n := by have := of_decide_eq_true hc10; omega
  subst h10
  refine at_seq<|at_region<|s1 (y_loadA0 ti23 rfl rfl (by first|rfl|omega|(simp<;>omega)|(simp [*]<;>omega))) rfl ?_
  refine at_op rfl (n_storeA ti23 rfl rfl rfl (by first|rfl|omega|(simp<;>omega)|(simp [*]<;>omega)) (by first|rfl|omega|(simp<;>omega)|(simp [*]<;>omega)) ?_)
  refine at_nil<|x_tn<|at_ret<|x_tr<|x_br ?_
  refine at_rret hR1 hd3 rfl fun w4 hR4=>?_
  refine at_nil<|x_tn ?_
  refine at_else rfl ?_
  refine at_exit<|x_te<|x_te<|x_be ?_
  refine at_itnilJ rfl hR4 hS ?_
  refine at_ret<|x_br<|x_tr ?_
  refine at_resultM (rs:= [.cell 4 23]) rfl rfl rfl hS (dn:= [D1]) rfl rfl (by simp) rfl (r_cellA ti23 rfl rfl (List.take_of_length_le (by simp [hxk])) (by simp [hxk]) r_nil) rfl
 ·have h10 : k < n := by have := of_decide_eq_false hc10; omega
  refine at_skip<|x_tn<|at_region<|s1 (y_load ti3 rfl rfl rfl) rfl<|s1 (subN (n - k) 1 rfl rfl rfl rfl (by omega) (by omega)) rfl ?_
  refine at_op rfl (n_store1 ti3 rfl rfl rfl rfl (by first|rfl|omega|(simp<;>omega)|(simp [*]<;>omega)) rfl ?_)
  refine at_nil<|x_bn ?_
  refine at_rend hR1 hd3 rfl ?_
  refine at_nil<|x_tn ?_
  refine at_then rfl ?_
  refine at_skip<|x_tn<|at_block<|at_region<|s1 (y_cuta0 Tryz.underlying23 ti5 rfl rfl (by first|rfl|omega|(simp<;>omega)|(simp [*]<;>omega)) (by simp [maxLen])) rfl ?_
  refine at_op rfl (n_call true rfl (.cons (.pure pu) (.cons (.sl rfl rfl (by first|rfl|omega|(simp<;>omega)|(simp [*]<;>omega)) (view_eq (by first|rfl|omega|(simp<;>omega)|(simp [*]<;>omega)) (by first|rfl|(simp;done)|(simp [*];done))) (VwL.pure pul) pul) (.nil))) (tagged_ok [115,116,101,112] (iterD k x) (by omega) (by simp)) pu (.inr fu) rfl ?_)
  refine at_op rfl (n_storeA ti23 rfl rfl rfl (by first|rfl|omega|(simp<;>omega)|(simp [*]<;>omega)) (by first|rfl|omega|(simp<;>omega)|(simp [*]<;>omega)) ?_)
  refine at_nil<|x_bn ?_
  exact at_end (k+1) (by omega) (by omega) [(2,some 2),(3,some 3),(4,some 4),(7,some 7)] hR1.sub.ids rfl rfl ⟨⟨_,rfl,.pure trivial⟩,⟨_,rfl,.p rfl⟩,trivial⟩ ⟨.inr ⟨_,_,rfl,rfl,.pure pul⟩,.inr ⟨_,_,rfl,rfl,.of (by rfl) (.pure pul)⟩,.inr ⟨_,_,rfl,rfl,.pure pul⟩,.inr ⟨_,_,rfl,rfl,.of (by rw [iterD,stepD_eq]) (.pure pul)⟩,trivial⟩
end Go.Abs.D2
-- C5C
namespace Go.Abs.D2
open Go Go.Eng Go.Abs Go.Proofs
theorem split_ok (m:List UInt8) (hm:m.length=32):Con Tryz.prog 133 [.ag (m.map u8)] (Ret (.ag ((digits m).map nI))):=by
 refine enter Tryz.func133 rfl Tryz.ntmps133 (by kernel_rfl) (Nat.le_of_ble_eq_true rfl) fun w0 X0 hI=>?_
 refine at_seq<|at_region ?_
 refine at_op rfl (n_boxA 1 rfl rfl rfl ?_)
 refine at_op rfl (n_alloc 2 rfl ti170 rfl rfl ?_)
 refine at_nil<|x_tn<|at_seq<|at_region<|s1 ((y_p rfl).v (v':= .i .i64 0) rfl) rfl ?_
 refine at_nil<|x_tn<|at_seq<|at_seq<|at_region<|s1 ((y_p rfl).v (v':= .i .i64 0) rfl) rfl ?_
 refine at_nil<|x_tn<|at_block ?_
 refine at_loop (ι:=Nat) (fun k=> [(1,.p 1 0),(2,.p 2 0),(3,nI (sumK m k)),(6,nI k)]) (fun k=>⟨[(1,some (m.map u8)),(2,some ((dl m k).map nI++List.replicate (19 - k) (nI 0)))]⟩) (fun k=>k≤16) (fun k=>16 - k) ?_ ?_
 ·exact at_ex (0) (Nat.zero_le _) [(1,some 1),(2,some 2)] hI rfl rfl ⟨⟨_,rfl,.p rfl⟩,⟨_,rfl,.p rfl⟩,⟨_,rfl,.of (by rw [sumK_0];rfl) (.pure pu)⟩,⟨_,rfl,.pure pu⟩,trivial⟩ ⟨.inr ⟨_,_,rfl,rfl,.pure pul⟩,.inr ⟨_,_,rfl,rfl,.of (by rw [dl_0];rfl) (.pure pul)⟩,trivial⟩
 rintro k hk
 have hsk:=sumK_le m k
 have hdk:=dgt_lt m k
 refine at_seq<|at_region<|s1 (y_p rfl) rfl ?_
 refine at_nil<|x_tn<|at_seq ?_
 refine at_cond rfl (fun hc7=>?_) (fun hc7=>?_)
 ·have h7 : k < 16 := by have := of_decide_eq_true hc7; omega
  refine at_skip<|x_tn<|at_seq<|at_block<|at_seq<|at_region<|s1 (y_p rfl) rfl<|s1 (y_p rfl) rfl ?_
  refine at_nil<|x_tn<|at_seq<|at_region<|s1 (y_p rfl) rfl<|s1 (y_p rfl) rfl<|s1 (quoN k 4 rfl rfl rfl rfl (by decide) (by omega)) rfl<|s1 (y_ixa (k / 4) Tryz.underlying23 ti5 rfl rfl rfl (by omega) rfl) rfl<|s1 (y_load ti5 rfl rfl (getO (k / 4) (by omega))) rfl<|s1 (y_p rfl) rfl<|s1 (remN k 4 rfl rfl rfl rfl (by decide)) rfl<|s1 (mulN 2 (k % 4) rfl rfl rfl rfl (by omega)) rfl<|s1 (subN 6 (2*(k % 4)) rfl rfl rfl rfl (by omega) (by omega)) rfl<|s1 (shrB _ (6 - 2*(k % 4)) rfl rfl rfl (by omega)) rfl ?_
  refine s1 (y_conv Tryz.underlying5 Tryz.underlying3 rfl) rfl<|s1 ((y_bits rfl rfl (.inl rfl)).v (dgt_and m k)) rfl<|s1 (y_ixa k Tryz.underlying170 ti3 rfl rfl rfl (by omega) rfl) rfl ?_
  refine at_op rfl (n_store1 ti3 rfl rfl rfl rfl (by simp;omega) (set_dl m k h7) ?_)
  refine at_nil<|x_tn<|at_region<|s1 (y_p rfl) rfl<|s1 (y_p rfl) rfl<|s1 (y_ixa k Tryz.underlying170 ti3 rfl rfl rfl (by omega) rfl) rfl<|s1 (y_load ti3 rfl rfl (get_dl m k rfl)) rfl<|s1 (subN 3 (dgt m k) rfl rfl rfl rfl (by omega) (by omega)) rfl<|s1 (addN (sumK m k) (3 - dgt m k) rfl rfl rfl rfl (by omega)) rfl<|s1 (y_p rfl) rfl ?_
  refine at_nil<|x_bn<|x_tn<|at_region<|s1 (addN _ 1 rfl rfl rfl rfl (by omega)) rfl<|s1 (y_p rfl) rfl ?_
  refine at_nil ?_
  exact at_end (k+1) (by omega) (by omega) [(1,some 1),(2,some 2)] hI rfl rfl ⟨⟨_,rfl,.p rfl⟩,⟨_,rfl,.p rfl⟩,⟨_,rfl,.of (by rw [sumK_succ]) (.pure pu)⟩,⟨_,rfl,.pure pu⟩,trivial⟩ ⟨.inr ⟨_,_,rfl,rfl,.pure pul⟩,.inr ⟨_,_,rfl,rfl,.pure pul⟩,trivial⟩
 ·have h7 : k = 16 := by have := of_decide_eq_false hc7; omega
  subst h7
  refine at_exit<|x_te<|x_te<|x_be<|x_tn<|at_seq<|at_seq<|at_region<|s1 ((y_p rfl).v (v':= .i .i64 18) rfl) rfl ?_
  refine at_nil<|x_tn<|at_block ?_
  refine at_loop (ι:=Nat) (fun j=> [(1,.p 1 0),(2,.p 2 0),(3,nI (sumK m 16 / 4 ^ j)),(5,nI (18 - j))]) (fun j=>⟨[(1,some (m.map u8)),(2,some (tailC m j))]⟩) (fun j=>j≤3) (fun j=>3 - j) ?_ ?_
  ·exact at_ex (0) (Nat.zero_le _) [(1,some 1),(2,some 2)] hI rfl rfl ⟨⟨_,rfl,.p rfl⟩,⟨_,rfl,.p rfl⟩,⟨_,rfl,.of (by simp) (.pure pu)⟩,⟨_,rfl,.pure pu⟩,trivial⟩ ⟨.inr ⟨_,_,rfl,rfl,.pure pul⟩,.inr ⟨_,_,rfl,rfl,.of (tail_0 m) (.pure pul)⟩,trivial⟩
  rintro j hj
  have hs16:=sumK_le m 16
  have hsj:sumK m 16 / 4 ^ j≤48:=Nat.le_trans (Nat.div_le_self _ _) (by omega)
  refine at_seq<|at_seq<|at_region<|s1 (y_p rfl) rfl<|s1 (y_p rfl) rfl ?_
  refine at_nil<|x_tn ?_
  refine at_cond rfl (fun hc30=>?_) (fun hc30=>?_)
  ·have h30 : j < 3 := by have := of_decide_eq_true hc30; omega
   refine at_skip<|x_tn<|at_seq<|at_block<|at_seq<|at_region<|s1 (y_p rfl) rfl<|s1 (y_p rfl) rfl<|s1 (remN (sumK m 16 / 4 ^ j) 4 rfl rfl rfl rfl (by decide)) rfl<|s1 (y_ixa (18 - j) Tryz.underlying170 ti3 rfl rfl rfl (by omega) rfl) rfl ?_
   refine at_op rfl (n_store1 ti3 rfl rfl rfl rfl (by simp [len_tl4];omega) rfl ?_)
   refine at_nil<|x_tn<|at_region<|s1 (y_p rfl) rfl<|s1 (quoN (sumK m 16 / 4 ^ j) 4 rfl rfl rfl rfl (by decide) (by omega)) rfl<|s1 (y_p rfl) rfl ?_
   refine at_nil<|x_bn<|x_tn<|at_region<|s1 (y_p rfl) rfl<|s1 (subN (18 - j) 1 rfl rfl rfl rfl (by omega) (by omega)) rfl<|s1 (y_p rfl) rfl ?_
   refine at_nil ?_
   exact at_end (j+1) (by omega) (by omega) [(1,some 1),(2,some 2)] hI rfl rfl ⟨⟨_,rfl,.p rfl⟩,⟨_,rfl,.p rfl⟩,⟨_,rfl,.of (by rw [Nat.div_div_eq_div_mul, ←Nat.pow_succ]) (.pure pu)⟩,⟨_,rfl,.of (congrArg nI (by omega)) (.pure pu)⟩,trivial⟩ ⟨.inr ⟨_,_,rfl,rfl,.pure pul⟩,.inr ⟨_,_,rfl,rfl,.of (set_tl m j h30) (.pure pul)⟩,trivial⟩
  ·have h30 : j = 3 := by have := of_decide_eq_false hc30; omega
   subst h30
   refine at_sayO 2 rfl (tail_3 m) ?_
   refine at_exit<|x_te<|x_te<|x_be<|x_tn<|at_seq<|at_region<|s1 (y_loadA0 ti170 rfl rfl (by first|rfl|omega|(simp<;>omega)|(simp [*]<;>omega))) rfl ?_
   refine at_op rfl (n_storeA ti170 rfl rfl rfl (by first|rfl|omega|(simp<;>omega)|(simp [*]<;>omega)) (by first|rfl|omega|(simp<;>omega)|(simp [*]<;>omega)) ?_)
   refine at_nil<|x_tn<|at_ret ?_
   refine at_result (rs:= [.cell 2 170]) rfl (r_cellA ti170 rfl rfl (List.take_of_length_le (by simp)) (by simp) r_nil) rfl
theorem join_ok (parts:List (List UInt8)) (hk:parts.length≤1048576) (ht:parts.flatten.length≤140737488300000):Con Tryz.prog 184 [.fz parts.length (parts.map slA)] (RetO 1 parts.flatten.length (parts.flatten.map u8)):=by
 refine enter Tryz.func184 rfl Tryz.ntmps184 (by kernel_rfl) (Nat.le_of_ble_eq_true rfl) fun w0 X0 hI=>?_
 refine at_seq<|at_region<|s1 (y_p rfl) rfl ?_
 refine at_nil<|x_tn<|at_seq<|at_seq<|at_region<|s1 (y_p rfl) rfl<|s1 (y_len Tryz.underlying182 rfl rfl rfl) rfl<|s1 ((y_p rfl).v (v':= .i .i64 0) rfl) rfl ?_
 refine at_nil<|x_tn<|at_block ?_
 refine at_loop (ι:=Nat) (fun i=> [(2,.sl 2 1 0 (parts.take i).flatten.length),(5,.fz parts.length (parts.map slA)),(6,nI parts.length),(7,nI i)]) (fun i=>⟨[(2,some ((parts.take i).flatten.map u8))]⟩) (fun i=>i≤parts.length) (fun i=>parts.length - i) ?_ ?_
 ·exact at_ex (0) (Nat.zero_le _) [(2,none)] hI rfl rfl ⟨⟨_,rfl,.nl rfl⟩,⟨_,rfl,.pure pu⟩,⟨_,rfl,.pure pu⟩,⟨_,rfl,.pure pu⟩,trivial⟩ ⟨.inl ⟨rfl,rfl⟩,trivial⟩
 rintro i hi
 refine at_seq<|at_region<|s1 (y_p rfl) rfl ?_
 refine at_nil<|x_tn<|at_seq ?_
 refine at_cond rfl (fun hc8=>?_) (fun hc8=>?_)
 ·have hi2 : i < parts.length := by have := of_decide_eq_true hc8; omega
  obtain⟨p,hp⟩:∃p,parts[i]? =some p:=⟨_,List.getElem?_eq_getElem hi2⟩
  have hpl:=len_next hp
  refine at_skip<|x_tn<|at_seq<|at_block<|at_seq<|at_region<|s1 (y_ixf i Tryz.underlying182 ti68 rfl rfl rfl (by omega) rfl) rfl<|s1 (y_load ti68 rfl rfl (getP hp)) rfl<|s1 (y_p rfl) rfl ?_
  refine at_nil<|x_tn<|at_region<|s1 (y_p rfl) rfl<|s1 (y_p rfl) rfl ?_
  refine at_op rfl (n_app 13 rfl Tryz.underlying68 ti5 rfl (.sl rfl (by rw [List.length_map,Nat.mul_one])) rfl rfl (by simp) (by simp only [maxLen];omega) (by omega) rfl rfl rfl ?_)
  refine s1 (y_p rfl) rfl ?_
  refine at_nil<|x_bn<|x_tn<|at_region<|s1 (addN _ 1 rfl rfl rfl rfl (by omega)) rfl<|s1 (y_p rfl) rfl ?_
  refine at_nil ?_
  exact at_end (i+1) (by omega) (by omega) [(2,some 13)] hI rfl rfl ⟨⟨_,rfl,.sl rfl (by first|rfl|omega|(simp<;>omega)|(simp [*]<;>omega))⟩,⟨_,rfl,.pure pu⟩,⟨_,rfl,.pure pu⟩,⟨_,rfl,.pure pu⟩,trivial⟩ ⟨.inr ⟨_,_,rfl,rfl,.of (by rw [←List.map_append,take_next hp]) (.pure pul)⟩,trivial⟩
 ·have hi2 : i = parts.length := by have := of_decide_eq_false hc8; omega
  subst hi2
  refine at_exit<|x_te<|x_te<|x_be<|x_tn<|at_seq<|at_region<|s1 (y_p rfl) rfl<|s1 (y_p rfl) rfl ?_
  refine at_nil<|x_tn<|at_ret ?_
  refine at_result (rs:= [.tmp 2]) rfl (r_tmp rfl r_nil) ⟨2,?_,?_⟩
  ·rw [List.take_length];rfl
  ·rw [List.take_length];rfl
theorem tag_first (x:List UInt8) (i:Nat) (hx:x.length=32):Con Tryz.prog 50 [.s [99,104,97,105,110],.fz 33 (x.map u8++ [u8 (UInt8.ofNat i)])] (Ret (.ag ((firstD x i).map u8))):=by
  rw [firstD_eq];simpa [hx]using tagged_ok [99,104,97,105,110] (x++ [UInt8.ofNat i]) (by simp [hx]) (by simp)
theorem begin_ok (x:List UInt8) (i:Nat) (hx:x.length=32):Con Tryz.prog 137 [.ag (x.map u8),nI i] (Ret (.ag ((firstD x i).map u8))):=by
 refine enter Tryz.func137 rfl Tryz.ntmps137 (by kernel_rfl) (Nat.le_of_ble_eq_true rfl) fun w0 X0 hI=>?_
 refine at_seq<|at_region ?_
 refine at_op rfl (n_boxA 2 rfl rfl rfl ?_)
 refine at_op rfl (n_alloc 4 rfl ti23 rfl rfl ?_)
 refine at_nil<|x_tn<|at_seq<|at_region<|s1 (y_cuta0 Tryz.underlying23 ti5 rfl rfl (by first|rfl|omega|(simp<;>omega)|(simp [*]<;>omega)) (by simp [maxLen])) rfl<|s1 (y_p rfl) rfl<|s1 (ofN_u8 i Tryz.underlying3 Tryz.underlying5 rfl rfl) rfl ?_
 refine at_op rfl (n_bs1 8 rfl Tryz.underlying68 ti5 rfl rfl rfl rfl rfl ?_)
 refine at_op rfl (n_bs1 9 rfl Tryz.underlying182 ti68 rfl rfl rfl rfl rfl ?_)
 refine at_op rfl (n_callO 10 rfl true rfl (.cons (.sl rfl rfl rfl rfl (.cons (.sl rfl rfl (by first|rfl|omega|(simp<;>omega)|(simp [*]<;>omega)) (view_eq (by simp [hx]) rfl) (VwL.pure pul) pul) (.cons (.sl rfl rfl rfl (view_eq rfl rfl) (VwL.pure pul) pul) .nil)) pul) .nil) (by simpa [slA,hx]using join_ok [x, [UInt8.ofNat i]] (by simp) (by simp [hx])) pul (.inr ful) rfl ?_)
 refine at_op rfl (n_call true rfl (.cons (.pure pu) (.cons (.sl rfl rfl (by first|rfl|omega|(simp<;>omega)|(simp [*]<;>omega)) (view_eq (by first|rfl|omega|(simp<;>omega)|(simp [*]<;>omega)) (by first|rfl|(simp;done)|(simp [*];done))) (VwL.pure pul) pul) (.nil))) (tag_first x i hx) pu (.inr fu) rfl ?_)
 refine at_op rfl (n_storeA ti23 rfl rfl rfl (by first|rfl|omega|(simp<;>omega)|(simp [*]<;>omega)) (by first|rfl|omega|(simp<;>omega)|(simp [*]<;>omega)) ?_)
 refine at_nil<|x_tn<|at_ret ?_
 refine at_result (rs:= [.cell 4 23]) rfl (r_cellA ti23 rfl rfl (List.take_of_length_le (by simp)) (by simp) r_nil) rfl
end Go.Abs.D2
-- C5D
namespace Go.Abs.D2
open Go Go.Eng Go.Abs Go.Proofs
theorem tag_key (L:List (List UInt8)) (hD:D32 L) (hl:L.length=19):Con Tryz.prog 50 [.s [112,117,98,108,105,99],.fz L.flatten.length (L.flatten.map u8)] (Ret (.ag ((keyD L).map u8))):=by
  rw [keyD_eq];exact tagged_ok [112,117,98,108,105,99] L.flatten (by rw [hD.len,hl];omega) (by simp)
theorem join_key (L:List (List UInt8)) (hD:D32 L) (hl:L.length=19):Con Tryz.prog 184 [.fz 19 (L.map slA)] (RetO 1 L.flatten.length (L.flatten.map u8)):=by
  have:=join_ok L (by omega) (by rw [hD.len,hl];omega)
  rwa [hl]at this
theorem publicOf_ok (L:List (List UInt8)) (hD:D32 L) (hl:L.length=19):Con Tryz.prog 180 [.ag (L.flatten.map u8)] (Ret (.ag ((keyD L).map u8))):=by
 refine enter Tryz.func180 rfl Tryz.ntmps180 (by kernel_rfl) (Nat.le_of_ble_eq_true rfl) fun w0 X0 hI=>?_
 refine at_seq<|at_region ?_
 refine at_op rfl (n_boxA 1 rfl rfl rfl ?_)
 refine at_op rfl (n_alloc 2 rfl ti23 rfl rfl ?_)
 refine at_nil<|x_tn<|at_seq<|at_region ?_
 refine at_op rfl (n_make 5 rfl 19 19 Tryz.underlying182 ti68 rfl rfl rfl rfl rfl (by first|omega|(simp only [maxLen];omega)|(simp [maxLen];done)|(simp [maxLen];omega)|(simp [maxLen, *];omega)) (by first|omega|(simp only [maxLen];omega)|(simp [maxLen];done)|(simp [maxLen];omega)|(simp [maxLen, *];omega)) (by first|omega|(simp only [maxLen];omega)|(simp [maxLen];done)|(simp [maxLen];omega)|(simp [maxLen, *];omega)) rfl ?_)
 refine s1 (y_p rfl) rfl ?_
 refine at_nil<|x_tn<|at_seq<|at_seq ?_
 have hfl:(L.flatten.map u8).length=608:=by rw [List.length_map,hD.len,hl]
 refine at_region<|s1 ((y_p rfl).v (v':= .i .i64 0) rfl) rfl ?_
 refine at_nil<|x_tn<|at_block ?_
 refine at_loop (ι:=Nat) (fun i=> [(1,.p 1 0),(2,.p 2 0),(3,.sl 5 1 0 19),(6,nI i)]) (fun i=>⟨[(1,some (L.flatten.map u8)),(2,some (List.replicate 32 (u8 0))),(5,some (slotsC i))]⟩) (fun i=>i≤19) (fun i=>19 - i) ?_ ?_
 ·exact at_ex (0) (Nat.zero_le _) [(1,some 1),(2,some 2),(5,some 5)] hI rfl rfl ⟨⟨_,rfl,.p rfl⟩,⟨_,rfl,.p rfl⟩,⟨_,rfl,.sl rfl (by first|rfl|omega|(simp<;>omega)|(simp [*]<;>omega))⟩,⟨_,rfl,.pure pu⟩,trivial⟩ ⟨.inr ⟨_,_,rfl,rfl,.pure pul⟩,.inr ⟨_,_,rfl,rfl,.pure pul⟩,.inr ⟨_,_,rfl,rfl,.of (by rfl) (.pure (by simp [slotsC];exact pul))⟩,trivial⟩
 rintro i hi
 refine at_seq<|at_region<|s1 (y_p rfl) rfl ?_
 refine at_nil<|x_tn<|at_seq ?_
 refine at_cond rfl (fun hc7=>?_) (fun hc7=>?_)
 ·have h7 : i < 19 := by have := of_decide_eq_true hc7; omega
  refine at_skip<|x_tn<|at_seq<|at_block<|at_seq<|at_region<|s1 (y_p rfl) rfl<|s1 (y_p rfl) rfl ?_
  refine at_nil<|x_tn<|at_region<|s1 (y_p rfl) rfl<|s1 (y_p rfl) rfl<|s1 (y_p rfl) rfl<|s1 (y_ixa i Tryz.underlying203 ti23 rfl rfl rfl (by omega) rfl) rfl<|s1 (y_cuta 32 Tryz.underlying23 ti5 rfl rfl (by omega) (by simp [maxLen]) bn bn (by omega) (by omega) rfl rfl) rfl<|s1 (y_ixs i Tryz.underlying182 ti68 rfl rfl rfl rfl (by omega) rfl) rfl ?_
  refine at_op rfl (n_store1 ti68 rfl rfl rfl rfl (by simp;omega) rfl ?_)
  refine at_nil<|x_bn<|x_tn<|at_region<|s1 (addN _ 1 rfl rfl rfl rfl (by omega)) rfl<|s1 (y_p rfl) rfl ?_
  refine at_nil ?_
  exact at_end (i+1) (by omega) (by omega) [(1,some 1),(2,some 2),(5,some 5)] hI rfl rfl ⟨⟨_,rfl,.p rfl⟩,⟨_,rfl,.p rfl⟩,⟨_,rfl,.sl rfl (by first|rfl|omega|(simp<;>omega)|(simp [*]<;>omega))⟩,⟨_,rfl,.pure pu⟩,trivial⟩ ⟨.inr ⟨_,_,rfl,rfl,.pure pul⟩,.inr ⟨_,_,rfl,rfl,.pure pul⟩,.inr ⟨_,_,rfl,rfl,.of (set_slots i h7) (ren_slots rfl _)⟩,trivial⟩
 ·have h7 : i = 19 := by have := of_decide_eq_false hc7; omega
  subst h7
  refine at_exit<|x_te<|x_te<|x_be<|x_tn<|at_seq<|at_region<|s1 (y_p rfl) rfl ?_
  refine at_op rfl (n_callO 17 rfl true rfl (.cons (.sl rfl rfl rfl (view_all (by simp)) (vw_slots hD hl rfl) pul) .nil) (join_key L hD hl) pul (.inr ful) rfl ?_)
  refine at_op rfl (n_call true rfl (.cons (.pure pu) (.cons (.sl rfl rfl rfl (view_eq (by rw [List.length_map,Nat.mul_one]) rfl) (VwL.pure pul) pul) .nil)) (tag_key L hD hl) pu (.inr fu) rfl ?_)
  refine at_op rfl (n_storeA ti23 rfl rfl rfl (by first|rfl|omega|(simp<;>omega)|(simp [*]<;>omega)) (by first|rfl|omega|(simp<;>omega)|(simp [*]<;>omega)) ?_)
  refine at_nil<|x_tn<|at_ret ?_
  refine at_result (rs:= [.cell 2 23]) rfl (r_cellA ti23 rfl rfl (List.take_of_length_le (by simp)) (by simp) r_nil) rfl
theorem public_ok (x:List UInt8) (hx:x.length=32):Con Tryz.prog 145 [.ag (x.map u8)] (Ret (.ag ((pubD x).map u8))):=by
 refine enter Tryz.func145 rfl Tryz.ntmps145 (by kernel_rfl) (Nat.le_of_ble_eq_true rfl) fun w0 X0 hI=>?_
 refine at_seq<|at_region ?_
 refine at_op rfl (n_boxA 1 rfl rfl rfl ?_)
 refine at_op rfl (n_alloc 2 rfl ti23 rfl rfl ?_)
 refine at_nil<|x_tn<|at_seq<|at_region ?_
 refine at_op rfl (n_alloc 3 rfl ti203 (by kernel_rfl) rfl ?_)
 refine at_nil<|x_tn<|at_seq<|at_seq<|at_region<|s1 ((y_p rfl).v (v':= .i .i64 0) rfl) rfl ?_
 refine at_nil<|x_tn<|at_block ?_
 refine at_loop (ι:=Nat) (fun i=> [(1,.p 1 0),(2,.p 2 0),(3,.p 3 0),(5,nI i)]) (fun i=>⟨[(1,some (x.map u8)),(2,some (List.replicate 32 (u8 0))),(3,some (arrC 19 (pubL x i)))]⟩) (fun i=>i≤19) (fun i=>19 - i) ?_ ?_
 ·exact at_ex (0) (Nat.zero_le _) [(1,some 1),(2,some 2),(3,some 3)] hI rfl rfl ⟨⟨_,rfl,.p rfl⟩,⟨_,rfl,.p rfl⟩,⟨_,rfl,.p rfl⟩,⟨_,rfl,.pure pu⟩,trivial⟩ ⟨.inr ⟨_,_,rfl,rfl,.pure pul⟩,.inr ⟨_,_,rfl,rfl,.pure pul⟩,.inr ⟨_,_,rfl,rfl,.of (by rw [pubL_0,List.map_replicate];exact arr_0 19) (.pure pul)⟩,trivial⟩
 rintro i hi
 have hDi:=D32_pubL x i
 refine at_seq<|at_region<|s1 (y_p rfl) rfl ?_
 refine at_nil<|x_tn<|at_seq ?_
 refine at_cond rfl (fun hc6=>?_) (fun hc6=>?_)
 ·have h6 : i < 19 := by have := of_decide_eq_true hc6; omega
  refine at_skip<|x_tn<|at_seq<|at_block<|at_seq<|at_region<|s1 (y_p rfl) rfl<|s1 (y_p rfl) rfl ?_
  refine at_nil<|x_tn<|at_region<|s1 (y_p rfl) rfl<|s1 (y_loadA0 ti23 rfl rfl (by first|rfl|omega|(simp<;>omega)|(simp [*]<;>omega))) rfl<|s1 (y_p rfl) rfl ?_
  refine at_op rfl (n_call false rfl (.cons (.pure pu) (.cons (.pure pu) (.nil))) (begin_ok x i hx) pu (.inl rfl) rfl ?_)
  refine at_op rfl (n_call false rfl (.cons (.pure pu) (.cons (.pure pu) (.nil))) (after_ok (firstD x i) 3 (by simp) (by omega)) pu (.inl rfl) rfl ?_)
  refine s1 (y_ixa i Tryz.underlying203 ti23 rfl rfl rfl (by omega) rfl) rfl ?_
  refine at_op rfl (n_store ti23 rfl rfl rfl rfl rfl (len_it (by simp)) (by rw [len_arr hDi (by rw [len_pubL];omega)];omega) (put_arr hDi (by rw [len_pubL];omega) (by rw [len_pubL])) ?_)
  refine at_nil<|x_bn<|x_tn<|at_region<|s1 (addN _ 1 rfl rfl rfl rfl (by omega)) rfl<|s1 (y_p rfl) rfl ?_
  refine at_nil ?_
  exact at_end (i+1) (by omega) (by omega) [(1,some 1),(2,some 2),(3,some 3)] hI rfl rfl ⟨⟨_,rfl,.p rfl⟩,⟨_,rfl,.p rfl⟩,⟨_,rfl,.p rfl⟩,⟨_,rfl,.pure pu⟩,trivial⟩ ⟨.inr ⟨_,_,rfl,rfl,.pure pul⟩,.inr ⟨_,_,rfl,rfl,.pure pul⟩,.inr ⟨_,_,rfl,rfl,.of (by rw [pubL_succ]) (.pure pul)⟩,trivial⟩
 ·have h6 : i = 19 := by have := of_decide_eq_false hc6; omega
  subst h6
  refine at_sayO 3 rfl (arr_full (len_pubL x 19)) ?_
  refine at_exit<|x_te<|x_te<|x_be<|x_tn<|at_seq<|at_region<|s1 (y_loadA0 ti203 rfl rfl (by rw [List.length_map,(D32_pubL x 19).len,len_pubL])) rfl ?_
  refine at_op rfl (n_call false rfl (.cons (.pure pu) (.nil)) (publicOf_ok (pubL x 19) (D32_pubL x 19) (len_pubL x 19)) pu (.inl rfl) rfl ?_)
  refine at_op rfl (n_storeA ti23 rfl rfl rfl (by first|rfl|omega|(simp<;>omega)|(simp [*]<;>omega)) (by first|rfl|omega|(simp<;>omega)|(simp [*]<;>omega)) ?_)
  refine at_nil<|x_tn<|at_ret ?_
  refine at_result (rs:= [.cell 2 23]) rfl (r_cellA ti23 rfl rfl (List.take_of_length_le (by simp)) (by simp) r_nil) rfl
theorem sign_ok (x m:List UInt8) (hx:x.length=32) (hm:m.length=32):Con Tryz.prog 88 [.ag (x.map u8),.ag (m.map u8)] (Ret (dgs (signD x m))):=by
 refine enter Tryz.func88 rfl Tryz.ntmps88 (by kernel_rfl) (Nat.le_of_ble_eq_true rfl) fun w0 X0 hI=>?_
 refine at_seq<|at_region ?_
 refine at_op rfl (n_boxA 2 rfl rfl rfl ?_)
 refine at_op rfl (n_boxA 3 rfl rfl rfl ?_)
 refine s1 (y_p rfl) rfl ?_
 refine at_nil<|x_tn<|at_seq<|at_seq<|at_region<|s1 (y_loadA0 ti23 rfl rfl (by first|rfl|omega|(simp<;>omega)|(simp [*]<;>omega))) rfl ?_
 refine at_op rfl (n_call false rfl (.cons (.pure pu) (.nil)) (split_ok m hm) pu (.inl rfl) rfl ?_)
 refine s1 ((y_p rfl).v (v':= .i .i64 0) rfl) rfl ?_
 refine at_nil<|x_tn<|at_block ?_
 refine at_loop (ι:=Nat) (fun i=> [(2,.p 2 0),(4,.sl 4 32 0 i),(8,.ag ((digits m).map nI)),(9,nI i)]) (fun i=>⟨[(2,some (x.map u8)),(4,some ((signL x m i).flatten.map u8))]⟩) (fun i=>i≤19) (fun i=>19 - i) ?_ ?_
 ·exact at_ex (0) (Nat.zero_le _) [(2,some 2),(4,none)] hI rfl rfl ⟨⟨_,rfl,.p rfl⟩,⟨_,rfl,.nl rfl⟩,⟨_,rfl,.pure pu⟩,⟨_,rfl,.pure pu⟩,trivial⟩ ⟨.inr ⟨_,_,rfl,rfl,.pure pul⟩,.inl ⟨rfl,rfl⟩,trivial⟩
 rintro i hi
 have hDi:=D32_signL x m i
 have hdi:=dg_lt m i
 refine at_seq<|at_region<|s1 (y_p rfl) rfl ?_
 refine at_nil<|x_tn<|at_seq ?_
 refine at_cond rfl (fun hc10=>?_) (fun hc10=>?_)
 ·have h10 : i < 19 := by have := of_decide_eq_true hc10; omega
  refine at_skip<|x_tn<|at_seq<|at_block<|at_seq<|at_region<|s1 (y_p rfl) rfl<|s1 (y_ixv i Tryz.underlying170 ti3 rfl rfl rfl h10 (get_dig m i h10)) rfl<|s1 (y_p rfl) rfl<|s1 (y_p rfl) rfl ?_
  refine at_nil<|x_tn<|at_region<|s1 (y_p rfl) rfl<|s1 (y_loadA0 ti23 rfl rfl (by first|rfl|omega|(simp<;>omega)|(simp [*]<;>omega))) rfl<|s1 (y_p rfl) rfl ?_
  refine at_op rfl (n_call false rfl (.cons (.pure pu) (.cons (.pure pu) (.nil))) (begin_ok x i hx) pu (.inl rfl) rfl ?_)
  refine s1 (y_p rfl) rfl ?_
  refine at_op rfl (n_call false rfl (.cons (.pure pu) (.cons (.pure pu) (.nil))) (after_ok (firstD x i) (dg m i) (by simp) (by omega)) pu (.inl rfl) rfl ?_)
  refine at_op rfl (n_bs 19 rfl Tryz.underlying41 ti23 rfl rfl rfl (by simp [cellsA,len_iterD]) (List.append_nil ((iterD (dg m i) (firstD x i)).map u8)) rfl rfl rfl ?_)
  refine at_op rfl (n_app 20 rfl Tryz.underlying41 ti23 rfl (.sl rfl (by rw [List.length_map,hDi.len,len_signL])) rfl (SM_full rfl (by rw [List.length_map,len_iterD (by simp)])) (by simp [len_iterD]) (by simp only [maxLen];omega) (by omega) rfl rfl rfl ?_)
  refine s1 (y_p rfl) rfl ?_
  refine at_nil<|x_bn<|x_tn<|at_region<|s1 (addN _ 1 rfl rfl rfl rfl (by omega)) rfl<|s1 (y_p rfl) rfl ?_
  refine at_nil ?_
  exact at_end (i+1) (by omega) (by omega) [(2,some 2),(4,some 20)] hI rfl rfl ⟨⟨_,rfl,.p rfl⟩,⟨_,rfl,.sl rfl (by first|rfl|omega|(simp<;>omega)|(simp [*]<;>omega))⟩,⟨_,rfl,.pure pu⟩,⟨_,rfl,.pure pu⟩,trivial⟩ ⟨.inr ⟨_,_,rfl,rfl,.pure pul⟩,.inr ⟨_,_,rfl,rfl,.of (sign_flat x m i) (.pure pul)⟩,trivial⟩
 ·have h10 : i = 19 := by have := of_decide_eq_false hc10; omega
  subst h10
  refine at_exit<|x_te<|x_te<|x_be<|x_tn<|at_seq<|at_region<|s1 (y_p rfl) rfl<|s1 (y_p rfl) rfl ?_
  refine at_nil<|x_tn<|at_ret ?_
  refine at_frz 4 rfl rfl pul (view_eq (by rw [List.length_map,(D32_signL x m _).len,len_signL]) rfl) ?_
  refine at_result (rs:= [.tmp 4]) rfl (r_tmp rfl r_nil) ?_
  show A.fz _ _=dgs (signL x m 19)
  rw [dgs,len_signL]
theorem recover_ok (m:List UInt8) (S:List (List UInt8)) (hm:m.length=32) (hS:D32 S):Con Tryz.prog 130 [.ag (m.map u8),dgs S] (Ret (.tu [.ag ((recD m S).map u8),nI (recE S)])):=by
 refine enter Tryz.func130 rfl Tryz.ntmps130 (by kernel_rfl) (Nat.le_of_ble_eq_true rfl) fun w0 X0 hI=>?_
 refine at_seq<|at_region ?_
 refine at_op rfl (n_boxA 2 rfl rfl rfl ?_)
 refine at_op rfl (n_alloc 4 rfl ti23 rfl rfl ?_)
 refine s1 ((y_p rfl).v (v':= .i .i64 0) rfl) rfl ?_
 refine at_nil<|x_tn<|at_seq<|at_seq<|at_region<|s1 (y_p rfl) rfl<|s1 (y_len Tryz.underlying41 rfl rfl rfl) rfl<|s1 (y_p rfl) rfl ?_
 refine at_nil<|x_tn ?_
 refine at_cond rfl (fun hc11=>?_) (fun hc11=>?_)
 ·have h11 : S.length ≠ 19 := by have := bne_iff_ne.1 hc11; omega
  refine at_seq<|at_region<|s1 (y_loadA0 ti23 rfl rfl (by first|rfl|omega|(simp<;>omega)|(simp [*]<;>omega))) rfl ?_
  refine at_op rfl (n_storeA ti23 rfl rfl rfl (by first|rfl|omega|(simp<;>omega)|(simp [*]<;>omega)) (by first|rfl|omega|(simp<;>omega)|(simp [*]<;>omega)) ?_)
  refine s1 ((y_p rfl).v (v':= .i .i64 50) rfl) rfl ?_
  refine at_nil<|x_tn<|at_ret<|x_tr ?_
  refine at_result (rs:= [.cell 4 23,.tmp 5]) rfl (r_cellA ti23 rfl rfl (List.take_of_length_le (by simp)) (by simp) (r_tmp rfl r_nil)) ?_
  rw [(rec_no h11).1,(rec_no (m:=m) h11).2]
  rfl
 ·have h11 : S.length = 19 := by have := bne_eq_false_iff_eq.1 hc11; omega
  refine at_skip<|x_tn<|at_seq<|at_region ?_
  refine at_op rfl (n_alloc 6 rfl ti203 (by kernel_rfl) rfl ?_)
  refine at_nil<|x_tn<|at_seq<|at_seq<|at_region<|s1 (y_loadA0 ti23 rfl rfl (by first|rfl|omega|(simp<;>omega)|(simp [*]<;>omega))) rfl ?_
  refine at_op rfl (n_call false rfl (.cons (.pure pu) (.nil)) (split_ok m hm) pu (.inl rfl) rfl ?_)
  refine s1 ((y_p rfl).v (v':= .i .i64 0) rfl) rfl ?_
  refine at_nil<|x_tn<|at_block ?_
  refine at_loop (ι:=Nat) (fun i=> [(1,dgs S),(4,.p 4 0),(6,.p 6 0),(14,.ag ((digits m).map nI)),(15,nI i)]) (fun i=>⟨[(4,some (List.replicate 32 (u8 0))),(6,some (arrC 19 (recL m S i)))]⟩) (fun i=>i≤19) (fun i=>19 - i) ?_ ?_
  ·exact at_ex (0) (Nat.zero_le _) [(4,some 4),(6,some 6)] hI rfl rfl ⟨⟨_,rfl,.pure pu⟩,⟨_,rfl,.p rfl⟩,⟨_,rfl,.p rfl⟩,⟨_,rfl,.pure pu⟩,⟨_,rfl,.pure pu⟩,trivial⟩ ⟨.inr ⟨_,_,rfl,rfl,.pure pul⟩,.inr ⟨_,_,rfl,rfl,.of (by rw [recL_0,List.map_replicate];exact arr_0 19) (.pure pul)⟩,trivial⟩
  rintro i hi
  have hDi:=D32_recL (m:=m) hS i (by omega)
  have hdi:=dg_lt m i
  refine at_seq<|at_region<|s1 (y_p rfl) rfl ?_
  refine at_nil<|x_tn<|at_seq ?_
  refine at_cond rfl (fun hc16=>?_) (fun hc16=>?_)
  ·have h16 : i < 19 := by have := of_decide_eq_true hc16; omega
   obtain⟨q,hq⟩:∃q,S[i]? =some q:=⟨_,List.getElem?_eq_getElem (by omega)⟩
   have hq32:=hS q (List.mem_of_getElem? hq)
   have hq2:S.getD i []=q:=by simp [hq]
   refine at_skip<|x_tn<|at_seq<|at_block<|at_seq<|at_region<|s1 (y_p rfl) rfl<|s1 (y_ixv i Tryz.underlying170 ti3 rfl rfl rfl h16 (get_dig m i h16)) rfl<|s1 (y_p rfl) rfl<|s1 (y_p rfl) rfl ?_
   refine at_nil<|x_tn<|at_region<|s1 (y_p rfl) rfl<|s1 (y_p rfl) rfl<|s1 (y_p rfl) rfl<|s1 (y_ixf i Tryz.underlying41 ti23 rfl rfl rfl (by omega) rfl) rfl<|s1 (y_loadA ti23 rfl rfl (get_d5 hS hq) (by simp [hq32])) rfl<|s1 (y_p rfl) rfl<|s1 (subN 3 (dg m i) rfl rfl rfl rfl (by omega) (by omega)) rfl ?_
   refine at_op rfl (n_call false rfl (.cons (.pure pu) (.cons (.pure pu) (.nil))) (after_ok q (3 - dg m i) hq32 (by omega)) pu (.inl rfl) rfl ?_)
   refine s1 (y_ixa i Tryz.underlying203 ti23 rfl rfl rfl (by omega) rfl) rfl ?_
   refine at_op rfl (n_store ti23 rfl rfl rfl rfl rfl (len_it hq32) (by rw [len_arr hDi (by rw [len_recL];omega)];omega) (put_arr hDi (by rw [len_recL];omega) (by rw [len_recL])) ?_)
   refine at_nil<|x_bn<|x_tn<|at_region<|s1 (addN _ 1 rfl rfl rfl rfl (by omega)) rfl<|s1 (y_p rfl) rfl ?_
   refine at_nil ?_
   exact at_end (i+1) (by omega) (by omega) [(4,some 4),(6,some 6)] hI rfl rfl ⟨⟨_,rfl,.pure pu⟩,⟨_,rfl,.p rfl⟩,⟨_,rfl,.p rfl⟩,⟨_,rfl,.pure pu⟩,⟨_,rfl,.pure pu⟩,trivial⟩ ⟨.inr ⟨_,_,rfl,rfl,.pure pul⟩,.inr ⟨_,_,rfl,rfl,.of (by rw [recL_succ,hq2]) (.pure pul)⟩,trivial⟩
  ·have h16 : i = 19 := by have := of_decide_eq_false hc16; omega
   subst h16
   refine at_sayO 6 rfl (arr_full (len_recL m S 19)) ?_
   refine at_exit<|x_te<|x_te<|x_be<|x_tn<|at_seq<|at_region<|s1 (y_loadA0 ti203 rfl rfl (by rw [List.length_map,hDi.len,len_recL])) rfl ?_
   refine at_op rfl (n_call false rfl (.cons (.pure pu) (.nil)) (publicOf_ok (recL m S 19) hDi (len_recL m S 19)) pu (.inl rfl) rfl ?_)
   refine at_op rfl (n_storeA ti23 rfl rfl rfl (by first|rfl|omega|(simp<;>omega)|(simp [*]<;>omega)) (by first|rfl|omega|(simp<;>omega)|(simp [*]<;>omega)) ?_)
   refine s1 ((y_p rfl).v (v':= .i .i64 0) rfl) rfl ?_
   refine at_nil<|x_tn<|at_ret ?_
   refine at_result (rs:= [.cell 4 23,.tmp 5]) rfl (r_cellA ti23 rfl rfl (List.take_of_length_le (by simp)) (by simp) (r_tmp rfl r_nil)) ?_
   rw [(rec_yes h11).1,(rec_yes (m:=m) h11).2]
   rfl
end Go.Abs.D2
-- D2H
namespace Go.Abs.D2
open Go Go.Eng Go.Abs Go.Proofs
theorem len64_ok (X:BitVec 64):Con Tryz.prog 187 [w64 X] (Ret (.i .i64 (lenN X.toNat:Nat))):=by
 refine enter Tryz.func187 rfl Tryz.ntmps187 (by kernel_rfl) (Nat.le_of_ble_eq_true rfl) fun w0 X0 hI=>?_
 refine at_seq<|at_region<|s1 ((y_p rfl).v (v':= .i .i64 0) rfl) rfl ?_
 refine at_nil<|x_tn<|at_seq<|at_seq<|at_region<|s1 (y_p rfl) rfl<|s1 (y_p rfl) rfl ?_
 refine at_nil<|x_tn ?_
 refine at_cond rfl (fun hc4=>?_) (fun hc4=>?_)
 ·have e4 := lenN_sh X 32 (by have := of_decide_eq_true hc4; omega)
  have y4:=sh_lt X 32 32 X.isLt
  refine at_seq<|at_region<|s1 (y_p rfl) rfl<|s1 (shr64 _ 32 rfl rfl rfl (by decide)) rfl<|s1 (y_p rfl) rfl ?_
  refine at_nil<|x_tn<|at_region<|s1 ((y_p rfl).v (v':= .i .i64 32) rfl) rfl ?_
  refine at_nil<|x_tn<|at_seq<|at_seq<|at_region<|s1 (y_p rfl) rfl<|s1 (y_p rfl) rfl ?_
  refine at_nil<|x_tn ?_
  refine at_cond rfl (fun hc8=>?_) (fun hc8=>?_)
  ·have e8 := lenN_sh (X >>> 32) 16 (by have := of_decide_eq_true hc8; omega)
   have y8:=sh_lt (X>>>32) 16 16 y4
   refine at_seq<|at_region<|s1 (y_p rfl) rfl<|s1 (shr64 _ 16 rfl rfl rfl (by decide)) rfl<|s1 (y_p rfl) rfl ?_
   refine at_nil<|x_tn<|at_region<|s1 ((y_p rfl).v (v':= .i .i64 32) rfl) rfl<|s1 (addN 32 16 rfl rfl rfl rfl (by omega)) rfl<|s1 (y_p rfl) rfl ?_
   refine at_nil<|x_tn<|at_seq<|at_seq<|at_region<|s1 (y_p rfl) rfl<|s1 (y_p rfl) rfl ?_
   refine at_nil<|x_tn ?_
   refine at_cond rfl (fun hc14=>?_) (fun hc14=>?_)
   ·have e14 := lenN_sh ((X >>> 32) >>> 16) 8 (by have := of_decide_eq_true hc14; omega)
    have y14:=sh_lt ((X>>>32)>>>16) 8 8 y8
    refine at_seq<|at_region<|s1 (y_p rfl) rfl<|s1 (shr64 _ 8 rfl rfl rfl (by decide)) rfl<|s1 (y_p rfl) rfl ?_
    refine at_nil<|x_tn<|at_region<|s1 (y_p rfl) rfl<|s1 (addN _ 8 rfl rfl rfl rfl (by omega)) rfl<|s1 (y_p rfl) rfl ?_
    refine at_nil<|x_tn<|at_seq<|at_region<|s1 (y_p rfl) rfl<|s1 (y_p rfl) rfl<|s1 (to8_64 _ Tryz.underlying198 Tryz.underlying5 rfl) rfl<|s1 (y_sidT (((X>>>32)>>>16)>>>8).toNat (UInt8.ofNat (lenN (((X>>>32)>>>16)>>>8).toNat)) Tryz.underlying9 rfl (by kernel_rfl) rfl (tab_idx y14) (tab_at _ y14)) rfl<|s1 ((y_conv Tryz.underlying5 Tryz.underlying3 rfl).v (v':= .i .i64 (lenN (((X>>>32)>>>16)>>>8).toNat:Nat)) (tab_conv y14)) rfl<|s1 (addN _ _ rfl rfl rfl rfl (by have:=lenN_small y14;omega)) rfl<|s1 (y_p rfl) rfl ?_
    refine at_nil<|x_tn<|at_ret ?_
    refine at_result (rs:= [.tmp 2]) rfl (r_tmp rfl r_nil) ?_
    exact congrArg (fun k:Nat=>A.i .i64 (k:Int)) (by omega)
   ·have e14 : ((X >>> 32) >>> 16).toNat < 2 ^ 8 := by have := of_decide_eq_false hc14; omega
    have y14:=e14
    refine at_skip<|x_tn<|at_seq<|at_region<|s1 (y_p rfl) rfl<|s1 (y_p rfl) rfl<|s1 (to8_64 _ Tryz.underlying198 Tryz.underlying5 rfl) rfl<|s1 (y_sidT ((X>>>32)>>>16).toNat (UInt8.ofNat (lenN ((X>>>32)>>>16).toNat)) Tryz.underlying9 rfl (by kernel_rfl) rfl (tab_idx y14) (tab_at _ y14)) rfl<|s1 ((y_conv Tryz.underlying5 Tryz.underlying3 rfl).v (v':= .i .i64 (lenN ((X>>>32)>>>16).toNat:Nat)) (tab_conv y14)) rfl<|s1 (addN _ _ rfl rfl rfl rfl (by have:=lenN_small y14;omega)) rfl<|s1 (y_p rfl) rfl ?_
    refine at_nil<|x_tn<|at_ret ?_
    refine at_result (rs:= [.tmp 2]) rfl (r_tmp rfl r_nil) ?_
    exact congrArg (fun k:Nat=>A.i .i64 (k:Int)) (by omega)
  ·have e8 : (X >>> 32).toNat < 2 ^ 16 := by have := of_decide_eq_false hc8; omega
   have y8:=e8
   refine at_skip<|x_tn<|at_seq<|at_seq<|at_region<|s1 (y_p rfl) rfl<|s1 (y_p rfl) rfl ?_
   refine at_nil<|x_tn ?_
   refine at_cond rfl (fun hc14=>?_) (fun hc14=>?_)
   ·have e14 := lenN_sh (X >>> 32) 8 (by have := of_decide_eq_true hc14; omega)
    have y14:=sh_lt (X>>>32) 8 8 y8
    refine at_seq<|at_region<|s1 (y_p rfl) rfl<|s1 (shr64 _ 8 rfl rfl rfl (by decide)) rfl<|s1 (y_p rfl) rfl ?_
    refine at_nil<|x_tn<|at_region<|s1 ((y_p rfl).v (v':= .i .i64 32) rfl) rfl<|s1 (addN 32 8 rfl rfl rfl rfl (by omega)) rfl<|s1 (y_p rfl) rfl ?_
    refine at_nil<|x_tn<|at_seq<|at_region<|s1 (y_p rfl) rfl<|s1 (y_p rfl) rfl<|s1 (to8_64 _ Tryz.underlying198 Tryz.underlying5 rfl) rfl<|s1 (y_sidT ((X>>>32)>>>8).toNat (UInt8.ofNat (lenN ((X>>>32)>>>8).toNat)) Tryz.underlying9 rfl (by kernel_rfl) rfl (tab_idx y14) (tab_at _ y14)) rfl<|s1 ((y_conv Tryz.underlying5 Tryz.underlying3 rfl).v (v':= .i .i64 (lenN ((X>>>32)>>>8).toNat:Nat)) (tab_conv y14)) rfl<|s1 (addN _ _ rfl rfl rfl rfl (by have:=lenN_small y14;omega)) rfl<|s1 (y_p rfl) rfl ?_
    refine at_nil<|x_tn<|at_ret ?_
    refine at_result (rs:= [.tmp 2]) rfl (r_tmp rfl r_nil) ?_
    exact congrArg (fun k:Nat=>A.i .i64 (k:Int)) (by omega)
   ·have e14 : (X >>> 32).toNat < 2 ^ 8 := by have := of_decide_eq_false hc14; omega
    have y14:=e14
    refine at_skip<|x_tn<|at_seq<|at_region<|s1 ((y_p rfl).v (v':= .i .i64 32) rfl) rfl<|s1 (y_p rfl) rfl<|s1 (to8_64 _ Tryz.underlying198 Tryz.underlying5 rfl) rfl<|s1 (y_sidT (X>>>32).toNat (UInt8.ofNat (lenN (X>>>32).toNat)) Tryz.underlying9 rfl (by kernel_rfl) rfl (tab_idx y14) (tab_at _ y14)) rfl<|s1 ((y_conv Tryz.underlying5 Tryz.underlying3 rfl).v (v':= .i .i64 (lenN (X>>>32).toNat:Nat)) (tab_conv y14)) rfl<|s1 (addN 32 _ rfl rfl rfl rfl (by have:=lenN_small y14;omega)) rfl<|s1 (y_p rfl) rfl ?_
    refine at_nil<|x_tn<|at_ret ?_
    refine at_result (rs:= [.tmp 2]) rfl (r_tmp rfl r_nil) ?_
    exact congrArg (fun k:Nat=>A.i .i64 (k:Int)) (by omega)
 ·have e4 : X.toNat < 2 ^ 32 := by have := of_decide_eq_false hc4; omega
  have y4:=e4
  refine at_skip<|x_tn<|at_seq<|at_seq<|at_region<|s1 (y_p rfl) rfl<|s1 (y_p rfl) rfl ?_
  refine at_nil<|x_tn ?_
  refine at_cond rfl (fun hc8=>?_) (fun hc8=>?_)
  ·have e8 := lenN_sh X 16 (by have := of_decide_eq_true hc8; omega)
   have y8:=sh_lt X 16 16 y4
   refine at_seq<|at_region<|s1 (y_p rfl) rfl<|s1 (shr64 _ 16 rfl rfl rfl (by decide)) rfl<|s1 (y_p rfl) rfl ?_
   refine at_nil<|x_tn<|at_region<|s1 ((y_p rfl).v (v':= .i .i64 0) rfl) rfl<|s1 (addN 0 16 rfl rfl rfl rfl (by omega)) rfl<|s1 (y_p rfl) rfl ?_
   refine at_nil<|x_tn<|at_seq<|at_seq<|at_region<|s1 (y_p rfl) rfl<|s1 (y_p rfl) rfl ?_
   refine at_nil<|x_tn ?_
   refine at_cond rfl (fun hc14=>?_) (fun hc14=>?_)
   ·have e14 := lenN_sh (X >>> 16) 8 (by have := of_decide_eq_true hc14; omega)
    have y14:=sh_lt (X>>>16) 8 8 y8
    refine at_seq<|at_region<|s1 (y_p rfl) rfl<|s1 (shr64 _ 8 rfl rfl rfl (by decide)) rfl<|s1 (y_p rfl) rfl ?_
    refine at_nil<|x_tn<|at_region<|s1 (y_p rfl) rfl<|s1 (addN _ 8 rfl rfl rfl rfl (by omega)) rfl<|s1 (y_p rfl) rfl ?_
    refine at_nil<|x_tn<|at_seq<|at_region<|s1 (y_p rfl) rfl<|s1 (y_p rfl) rfl<|s1 (to8_64 _ Tryz.underlying198 Tryz.underlying5 rfl) rfl<|s1 (y_sidT ((X>>>16)>>>8).toNat (UInt8.ofNat (lenN ((X>>>16)>>>8).toNat)) Tryz.underlying9 rfl (by kernel_rfl) rfl (tab_idx y14) (tab_at _ y14)) rfl<|s1 ((y_conv Tryz.underlying5 Tryz.underlying3 rfl).v (v':= .i .i64 (lenN ((X>>>16)>>>8).toNat:Nat)) (tab_conv y14)) rfl<|s1 (addN _ _ rfl rfl rfl rfl (by have:=lenN_small y14;omega)) rfl<|s1 (y_p rfl) rfl ?_
    refine at_nil<|x_tn<|at_ret ?_
    refine at_result (rs:= [.tmp 2]) rfl (r_tmp rfl r_nil) ?_
    exact congrArg (fun k:Nat=>A.i .i64 (k:Int)) (by omega)
   ·have e14 : (X >>> 16).toNat < 2 ^ 8 := by have := of_decide_eq_false hc14; omega
    have y14:=e14
    refine at_skip<|x_tn<|at_seq<|at_region<|s1 (y_p rfl) rfl<|s1 (y_p rfl) rfl<|s1 (to8_64 _ Tryz.underlying198 Tryz.underlying5 rfl) rfl<|s1 (y_sidT (X>>>16).toNat (UInt8.ofNat (lenN (X>>>16).toNat)) Tryz.underlying9 rfl (by kernel_rfl) rfl (tab_idx y14) (tab_at _ y14)) rfl<|s1 ((y_conv Tryz.underlying5 Tryz.underlying3 rfl).v (v':= .i .i64 (lenN (X>>>16).toNat:Nat)) (tab_conv y14)) rfl<|s1 (addN _ _ rfl rfl rfl rfl (by have:=lenN_small y14;omega)) rfl<|s1 (y_p rfl) rfl ?_
    refine at_nil<|x_tn<|at_ret ?_
    refine at_result (rs:= [.tmp 2]) rfl (r_tmp rfl r_nil) ?_
    exact congrArg (fun k:Nat=>A.i .i64 (k:Int)) (by omega)
  ·have e8 : X.toNat < 2 ^ 16 := by have := of_decide_eq_false hc8; omega
   have y8:=e8
   refine at_skip<|x_tn<|at_seq<|at_seq<|at_region<|s1 (y_p rfl) rfl<|s1 (y_p rfl) rfl ?_
   refine at_nil<|x_tn ?_
   refine at_cond rfl (fun hc14=>?_) (fun hc14=>?_)
   ·have e14 := lenN_sh X 8 (by have := of_decide_eq_true hc14; omega)
    have y14:=sh_lt X 8 8 y8
    refine at_seq<|at_region<|s1 (y_p rfl) rfl<|s1 (shr64 _ 8 rfl rfl rfl (by decide)) rfl<|s1 (y_p rfl) rfl ?_
    refine at_nil<|x_tn<|at_region<|s1 ((y_p rfl).v (v':= .i .i64 0) rfl) rfl<|s1 (addN 0 8 rfl rfl rfl rfl (by omega)) rfl<|s1 (y_p rfl) rfl ?_
    refine at_nil<|x_tn<|at_seq<|at_region<|s1 (y_p rfl) rfl<|s1 (y_p rfl) rfl<|s1 (to8_64 _ Tryz.underlying198 Tryz.underlying5 rfl) rfl<|s1 (y_sidT (X>>>8).toNat (UInt8.ofNat (lenN (X>>>8).toNat)) Tryz.underlying9 rfl (by kernel_rfl) rfl (tab_idx y14) (tab_at _ y14)) rfl<|s1 ((y_conv Tryz.underlying5 Tryz.underlying3 rfl).v (v':= .i .i64 (lenN (X>>>8).toNat:Nat)) (tab_conv y14)) rfl<|s1 (addN _ _ rfl rfl rfl rfl (by have:=lenN_small y14;omega)) rfl<|s1 (y_p rfl) rfl ?_
    refine at_nil<|x_tn<|at_ret ?_
    refine at_result (rs:= [.tmp 2]) rfl (r_tmp rfl r_nil) ?_
    exact congrArg (fun k:Nat=>A.i .i64 (k:Int)) (by omega)
   ·have e14 : X.toNat < 2 ^ 8 := by have := of_decide_eq_false hc14; omega
    have y14:=e14
    refine at_skip<|x_tn<|at_seq<|at_region<|s1 ((y_p rfl).v (v':= .i .i64 0) rfl) rfl<|s1 (y_p rfl) rfl<|s1 (to8_64 _ Tryz.underlying198 Tryz.underlying5 rfl) rfl<|s1 (y_sidT X.toNat (UInt8.ofNat (lenN X.toNat)) Tryz.underlying9 rfl (by kernel_rfl) rfl (tab_idx y14) (tab_at _ y14)) rfl<|s1 ((y_conv Tryz.underlying5 Tryz.underlying3 rfl).v (v':= .i .i64 (lenN X.toNat:Nat)) (tab_conv y14)) rfl<|s1 (addN 0 _ rfl rfl rfl rfl (by have:=lenN_small y14;omega)) rfl<|s1 (y_p rfl) rfl ?_
    refine at_nil<|x_tn<|at_ret ?_
    refine at_result (rs:= [.tmp 2]) rfl (r_tmp rfl r_nil) ?_
    exact congrArg (fun k:Nat=>A.i .i64 (k:Int)) (by omega)
theorem len_ok (X:BitVec 64):Con Tryz.prog 146 [w64 X] (Ret (.i .i64 (lenN X.toNat:Nat))):=by
 refine enter Tryz.func146 rfl Tryz.ntmps146 (by kernel_rfl) (Nat.le_of_ble_eq_true rfl) fun w0 X0 hI=>?_
 refine at_seq<|at_region<|s1 ((y_p rfl).v (v':= .i .i64 0) rfl) rfl ?_
 refine at_nil<|x_tn<|at_seq ?_
 refine at_else rfl ?_
 refine at_skip<|x_tn<|at_seq<|at_region<|s1 (y_p rfl) rfl ?_
 refine at_op rfl (n_call false rfl (.cons (.pure pu) (.nil)) (len64_ok X) pu (.inl rfl) rfl ?_)
 refine s1 (y_p rfl) rfl ?_
 refine at_nil<|x_tn<|at_ret ?_
 refine at_result (rs:= [.tmp 2]) rfl (r_tmp rfl (r_nil)) rfl
theorem half_ok (n:Nat) (h:2≤n) (hn:n≤1099511627776):Con Tryz.prog 95 [.i .i64 (n:Nat)] (Ret (.i .i64 (halfN n:Nat))):=by
 refine enter Tryz.func95 rfl Tryz.ntmps95 (by kernel_rfl) (Nat.le_of_ble_eq_true rfl) fun w0 X0 hI=>?_
 refine at_seq<|at_region<|s1 ((y_p rfl).v (v':= .i .i64 0) rfl) rfl ?_
 refine at_nil<|x_tn<|at_seq<|at_region<|s1 (y_p rfl) rfl<|s1 (subN n 1 rfl rfl rfl rfl (by omega) (by omega)) rfl<|s1 (ofN_64 (n - 1) Tryz.underlying3 Tryz.underlying74 rfl rfl) rfl ?_
 refine at_op rfl (n_call false rfl (.cons (.pure pu) (.nil)) (len_ok (c64 (n - 1))) pu (.inl rfl) rfl ?_)
 refine s1 ((subN (lenN (c64 (n - 1)).toNat) 1 rfl rfl rfl rfl (by rw [c64_n (n:=n - 1) (by omega),lenN_pos (by omega)];omega) (by rw [c64_n (n:=n - 1) (by omega)];have:=lenN_le (x:=n - 1) (by omega);omega)).v (v':= .i .i64 ((n - 1).log2:Nat)) (congrArg (fun k:Nat=>A.i .i64 (k:Int)) (by rw [c64_n (n:=n - 1) (by omega),lenN_pos (by omega)];omega))) rfl<|s1 ((y_shl rfl rfl (by omega)).v (v':= .i .i64 (halfN n:Nat)) (shl_pow h hn)) rfl<|s1 (y_p rfl) rfl ?_
 refine at_nil<|x_tn<|at_ret ?_
 refine at_result (rs:= [.tmp 2]) rfl (r_tmp rfl (r_nil)) rfl
end Go.Abs.D2
-- D2T1
namespace Go.Abs.D2
open Go Go.Eng Go.Abs Go.Proofs
theorem tree_step (L:List (List UInt8)) (hD:D32 L) (hl:L.length≤1048576) (ih:∀M:List (List UInt8),M.length<L.length→D32 M→Con Tryz.prog 46 [dgs M] (Ret (.ag ((tree M).map u8)))):Con Tryz.prog 46 [dgs L] (Ret (.ag ((tree L).map u8))):=by
 refine enter Tryz.func46 rfl Tryz.ntmps46 (by kernel_rfl) (Nat.le_of_ble_eq_true rfl) fun w0 X0 hI=>?_
 refine at_seq<|at_region ?_
 refine at_op rfl (n_alloc 2 rfl ti23 rfl rfl ?_)
 refine at_nil<|x_tn<|at_seq<|at_seq<|at_region<|s1 (y_p rfl) rfl<|s1 (y_len Tryz.underlying41 rfl rfl rfl) rfl ?_
 refine at_nil<|x_tn<|at_block<|at_seq<|at_region<|s1 (y_p rfl) rfl<|s1 (y_p rfl) rfl ?_
 refine at_nil<|x_tn ?_
 refine at_cond rfl (fun hc6=>?_) (fun hc6=>?_)
 ·have h6 : L.length = 0 := by have := of_decide_eq_true hc6; omega
  obtain rfl:=List.eq_nil_of_length_eq_zero h6
  refine at_seq<|at_region ?_
  refine at_op rfl (n_call false rfl (.cons (.pure pu) (.cons .nl (.nil))) (tagged_ok _ [] (by simp) (by simp)) pu (.inl rfl) rfl ?_)
  refine at_op rfl (n_storeA ti23 rfl rfl rfl (by first|rfl|omega|(simp<;>omega)|(simp [*]<;>omega)|(simp [D32.len, -List.length_flatten, *]<;>omega)) (by first|rfl|omega|(simp<;>omega)|(simp [*]<;>omega)|(simp [D32.len, -List.length_flatten, *]<;>omega)) ?_)
  refine at_nil<|x_tn<|at_ret<|x_br<|x_tr ?_
  refine at_result (rs:= [.cell 2 23]) rfl (r_cellA ti23 rfl rfl (List.take_of_length_le (by simp [len_tree])) (by simp [len_tree]) r_nil) ?_
  rw [tree_nil]
  rfl
 ·have h6 : ¬ L.length = 0 := by have := of_decide_eq_false hc6; omega
  refine at_seq<|at_region<|s1 (y_p rfl) rfl<|s1 (y_p rfl) rfl ?_
  refine at_nil<|x_tn ?_
  refine at_cond rfl (fun hc9=>?_) (fun hc9=>?_)
  ·have h9 : L.length = 1 := by have := of_decide_eq_true hc9; omega
   obtain⟨x,rfl⟩:=List.length_eq_one_iff.1 h9
   have hx:=hD x (.head _)
   refine at_seq<|at_region<|s1 (y_p rfl) rfl<|s1 (y_ixf 0 Tryz.underlying41 ti23 rfl rfl rfl (by simp) rfl) rfl<|s1 ((y_cutfa 32 Tryz.underlying23 ti5 rfl (by simp [maxLen]) bn bn (Nat.zero_le _) (Nat.le_refl _) (by simp) rfl rfl).v (cut_one hx)) rfl ?_
   refine at_op rfl (n_call false rfl (.cons (.pure pu) (.cons (.pure pu) (.nil))) (tagged_ok _ x (by omega) (by simp)) pu (.inl rfl) rfl ?_)
   refine at_op rfl (n_storeA ti23 rfl rfl rfl (by first|rfl|omega|(simp<;>omega)|(simp [*]<;>omega)|(simp [D32.len, -List.length_flatten, *]<;>omega)) (by first|rfl|omega|(simp<;>omega)|(simp [*]<;>omega)|(simp [D32.len, -List.length_flatten, *]<;>omega)) ?_)
   refine at_nil<|x_tn<|at_ret<|x_br<|x_tr ?_
   refine at_result (rs:= [.cell 2 23]) rfl (r_cellA ti23 rfl rfl (List.take_of_length_le (by simp [len_tree])) (by simp [len_tree]) r_nil) ?_
   rw [tree_one]
   rfl
  ·have h9 : ¬ L.length = 1 := by have := of_decide_eq_false hc9; omega
   refine at_skip<|x_bn<|x_tn<|at_seq<|at_region<|s1 (y_p rfl) rfl<|s1 (y_len Tryz.underlying41 rfl rfl rfl) rfl ?_
   refine at_op rfl (n_call false rfl (.cons (.pure pu) (.nil)) (half_ok L.length (by omega) (by omega)) pu (.inl rfl) rfl ?_)
   refine s1 (y_p rfl) rfl ?_
   refine at_nil<|x_tn<|at_seq ?_
   refine at_fs ⟨_, [], []⟩ 9 4 hmix (le_refl rfl) ?_
   have hh:=halfN_lt (n:=L.length) (by omega)
   refine fs_q 0 [] [] (y_p rfl) rfl rfl ?_
   refine fs_q 1 [] [] (y_p rfl) rfl rfl ?_
   refine fs_q 2 [0,1] [] ((y_cutf (halfN L.length) Tryz.underlying41 ti23 rfl (by rw [List.length_map,hD.len]) bn (bs rfl rfl) (by omega) (by omega) rfl rfl).v (v':=dgs (L.take (halfN L.length))) (cut_take hD (by omega))) rfl rfl ?_
   refine fs_call false 3 [2] [] gy0 rfl (.cons (.pure pu) (.nil)) (ih (L.take (halfN L.length)) (by rw [List.length_take];omega) (hD.take _)) pu (.inl rfl) rfl rfl ?_
   refine fs_q 4 [] [] (y_p rfl) rfl rfl ?_
   refine fs_q 5 [] [] (y_p rfl) rfl rfl ?_
   refine fs_q 6 [4,5] [] ((y_cutf (L.length - halfN L.length) Tryz.underlying41 ti23 rfl (by rw [List.length_map,hD.len]) (bs rfl rfl) bn (by omega) (by omega) rfl rfl).v (v':=dgs (L.drop (halfN L.length))) (cut_drop hD rfl)) rfl rfl ?_
   refine fs_call false 7 [6] [] gy0 rfl (.cons (.pure pu) (.nil)) (ih (L.drop (halfN L.length)) (by rw [List.length_drop];omega) (hD.drop _)) pu (.inl rfl) rfl rfl ?_
   refine fs_call false 8 [3,7] [] gy0 rfl (.cons (.pure pu) (.cons (.pure pu) (.nil))) (node_ok (fun t b h1 h2=>tagged_ok t b (by omega) (by omega)) _ _ (len_tree _) (len_tree _)) pu (.inl rfl) rfl rfl ?_
   refine fs_end (by kernel_rfl) ?_
   refine at_op rfl (n_storeA ti23 rfl rfl rfl (by first|rfl|omega|(simp<;>omega)|(simp [*]<;>omega)|(simp [D32.len, -List.length_flatten, *]<;>omega)) (by first|rfl|omega|(simp<;>omega)|(simp [*]<;>omega)|(simp [D32.len, -List.length_flatten, *]<;>omega)) ?_)
   refine at_nil<|x_tn<|at_ret ?_
   refine at_result (rs:= [.cell 2 23]) rfl (r_cellA ti23 rfl rfl (List.take_of_length_le (by simp [len_tree])) (by simp [len_tree]) r_nil) ?_
   rw [tree_two (L:=L) (by omega)]
   rfl
theorem tree_ok:∀(n:Nat) (L:List (List UInt8)),L.length≤n→D32 L→L.length≤1048576→Con Tryz.prog 46 [dgs L] (Ret (.ag ((tree L).map u8)))
  |0,L,h,hD,hl=>tree_step L hD hl (fun M hM=>absurd hM (by omega))
  |n+1,L,h,hD,hl=>tree_step L hD hl (fun M hM hM2=>tree_ok n M (by omega) hM2 (by omega))
end Go.Abs.D2
-- D2T2
namespace Go.Abs.D2
open Go Go.Eng Go.Abs Go.Proofs
theorem trace_step (L:List (List UInt8)) (i:Nat) (hD:D32 L) (hi:i<L.length) (hl:L.length≤1048576) (ih:∀(M:List (List UInt8)) (i:Nat),M.length<L.length→D32 M→i<M.length→Con Tryz.prog 149 [dgs M,.i .i64 (i:Nat)] (RetO 32 (path M i).length ((path M i).flatten.map u8))):Con Tryz.prog 149 [dgs L,.i .i64 (i:Nat)] (RetO 32 (path L i).length ((path L i).flatten.map u8)):=by
 refine enter Tryz.func149 rfl Tryz.ntmps149 (by kernel_rfl) (Nat.le_of_ble_eq_true rfl) fun w0 X0 hI=>?_
 refine at_seq<|at_region<|s1 (y_p rfl) rfl ?_
 refine at_nil<|x_tn<|at_seq<|at_seq<|at_region<|s1 (y_p rfl) rfl<|s1 (y_len Tryz.underlying41 rfl rfl rfl) rfl<|s1 (y_p rfl) rfl ?_
 refine at_nil<|x_tn ?_
 refine at_cond rfl (fun hc8=>?_) (fun hc8=>?_)
 ·have h8 : L.length = 1 := by have := of_decide_eq_true hc8; omega
  refine at_seq<|at_region<|s1 (y_p rfl) rfl ?_
  refine at_nil<|x_tn<|at_ret<|x_tr ?_
  refine at_ph 99 rfl 4 32 rfl ?_
  refine at_result (rs:= [.tmp 4]) rfl (r_tmp rfl r_nil) ⟨99,?_,?_⟩
  ·rw [path_one i (by omega)];rfl
  ·rw [path_one i (by omega)];rfl
 ·have h8 : ¬ L.length = 1 := by have := of_decide_eq_false hc8; omega
  refine at_skip<|x_tn<|at_seq<|at_region<|s1 (y_p rfl) rfl<|s1 (y_len Tryz.underlying41 rfl rfl rfl) rfl ?_
  refine at_op rfl (n_call false rfl (.cons (.pure pu) (.nil)) (half_ok L.length (by omega) (by omega)) pu (.inl rfl) rfl ?_)
  refine s1 (y_p rfl) rfl ?_
  refine at_nil<|x_tn<|at_seq<|at_seq<|at_region<|s1 (y_p rfl) rfl<|s1 (y_p rfl) rfl<|s1 (y_p rfl) rfl ?_
  refine at_nil<|x_tn ?_
  refine at_cond rfl (fun hc14=>?_) (fun hc14=>?_)
  ·have h14 : i < (halfN L.length) := by have := of_decide_eq_true hc14; omega
   have hh:=halfN_lt (n:=L.length) (by omega)
   have hpl:=len_path L.length (L.take (halfN L.length)) i (by rw [List.length_take];omega)
   refine at_seq ?_
   refine at_fs ⟨_, [], []⟩ 11 4 hmix (le_refl rfl) ?_
   refine fs_q 0 [] [] (y_p rfl) rfl rfl ?_
   refine fs_q 1 [] [] (y_p rfl) rfl rfl ?_
   refine fs_q 2 [0,1] [] ((y_cutf (halfN L.length) Tryz.underlying41 ti23 rfl (by rw [List.length_map,hD.len]) bn (bs rfl rfl) (by omega) (by omega) rfl rfl).v (v':=dgs (L.take (halfN L.length))) (cut_take hD (by omega))) rfl rfl ?_
   refine fs_q 3 [] [] (y_p rfl) rfl rfl ?_
   refine fs_callO 19 false 4 [2,3] [] gy0 rfl (.cons (.pure pu) (.cons (.pure pu) (.nil))) (ih (L.take (halfN L.length)) i (by rw [List.length_take];omega) (hD.take _) (by rw [List.length_take];omega)) pul (.inl rfl) rfl rfl ?_
   refine fs_q 5 [] [] (y_p rfl) rfl rfl ?_
   refine fs_q 6 [] [] (y_p rfl) rfl rfl ?_
   refine fs_q 7 [5,6] [] ((y_cutf (L.length - (halfN L.length)) Tryz.underlying41 ti23 rfl (by rw [List.length_map,hD.len]) (bs rfl rfl) bn (by omega) (by omega) rfl rfl).v (v':=dgs (L.drop (halfN L.length))) (cut_drop hD rfl)) rfl rfl ?_
   refine fs_call false 8 [7] [] gy0 rfl (.cons (.pure pu) (.nil)) (tree_ok _ (L.drop (halfN L.length)) (Nat.le_refl _) (hD.drop _) (by rw [List.length_drop];omega)) pu (.inl rfl) rfl rfl ?_
   refine fs_bs 24 9 [8] gy0 Tryz.underlying41 ti23 rfl rfl rfl (by first|(simp [cellsA];done)|(simp [cellsA, *];done)) (List.append_nil ((tree (L.drop (halfN L.length))).map u8)) rfl rfl rfl rfl ?_
   refine fs_app 25 10 [4,9] [(19,some 4),(24,some 9)] gy0 Tryz.underlying41 ti23 rfl (.sl rfl (by rw [List.length_map,(D32_path _ (L.take (halfN L.length)) i (Nat.le_refl _)).len])) rfl (SM_full rfl (by first|rfl|omega|(simp<;>omega)|(simp [*]<;>omega)|(simp [D32.len, -List.length_flatten, *]<;>omega))) (by simp [len_tree]) (by simp only [maxLen];omega) (by omega) rfl rfl rfl rfl ?_
   refine fs_end (by kernel_rfl) ?_
   refine s1 (y_p rfl) rfl ?_
   refine at_nil<|x_tn<|at_ret<|x_tr ?_
   refine at_result (rs:= [.tmp 4]) rfl (r_tmp rfl r_nil) ⟨25,?_,?_⟩
   ·rw [path_left (by omega) h14,List.length_append];rfl
   ·rw [path_left (by omega) h14]
    exact congrArg some (by simp)
  ·have h14 : ¬ i < (halfN L.length) := by have := of_decide_eq_false hc14; omega
   have hh:=halfN_lt (n:=L.length) (by omega)
   have hpl:=len_path L.length (L.drop (halfN L.length)) (i - (halfN L.length)) (by rw [List.length_drop];omega)
   refine at_skip<|x_tn<|at_seq ?_
   refine at_fs ⟨_, [], []⟩ 13 4 hmix (le_refl rfl) ?_
   refine fs_q 0 [] [] (y_p rfl) rfl rfl ?_
   refine fs_q 1 [] [] (y_p rfl) rfl rfl ?_
   refine fs_q 2 [0,1] [] ((y_cutf (L.length - (halfN L.length)) Tryz.underlying41 ti23 rfl (by rw [List.length_map,hD.len]) (bs rfl rfl) bn (by omega) (by omega) rfl rfl).v (v':=dgs (L.drop (halfN L.length))) (cut_drop hD rfl)) rfl rfl ?_
   refine fs_q 3 [] [] (y_p rfl) rfl rfl ?_
   refine fs_q 4 [] [] (y_p rfl) rfl rfl ?_
   refine fs_q 5 [3,4] [] (subN i (halfN L.length) rfl rfl rfl rfl (by omega) (by omega)) rfl rfl ?_
   refine fs_callO 32 false 6 [2,5] [] gy0 rfl (.cons (.pure pu) (.cons (.pure pu) (.nil))) (ih (L.drop (halfN L.length)) (i - (halfN L.length)) (by rw [List.length_drop];omega) (hD.drop _) (by rw [List.length_drop];omega)) pul (.inl rfl) rfl rfl ?_
   refine fs_q 7 [] [] (y_p rfl) rfl rfl ?_
   refine fs_q 8 [] [] (y_p rfl) rfl rfl ?_
   refine fs_q 9 [7,8] [] ((y_cutf (halfN L.length) Tryz.underlying41 ti23 rfl (by rw [List.length_map,hD.len]) bn (bs rfl rfl) (by omega) (by omega) rfl rfl).v (v':=dgs (L.take (halfN L.length))) (cut_take hD (by omega))) rfl rfl ?_
   refine fs_call false 10 [9] [] gy0 rfl (.cons (.pure pu) (.nil)) (tree_ok _ (L.take (halfN L.length)) (Nat.le_refl _) (hD.take _) (by rw [List.length_take];omega)) pu (.inl rfl) rfl rfl ?_
   refine fs_bs 37 11 [10] gy0 Tryz.underlying41 ti23 rfl rfl rfl (by first|(simp [cellsA];done)|(simp [cellsA, *];done)) (List.append_nil ((tree (L.take (halfN L.length))).map u8)) rfl rfl rfl rfl ?_
   refine fs_app 38 12 [6,11] [(32,some 6),(37,some 11)] gy0 Tryz.underlying41 ti23 rfl (.sl rfl (by rw [List.length_map,(D32_path _ (L.drop (halfN L.length)) (i - (halfN L.length)) (Nat.le_refl _)).len])) rfl (SM_full rfl (by first|rfl|omega|(simp<;>omega)|(simp [*]<;>omega)|(simp [D32.len, -List.length_flatten, *]<;>omega))) (by simp [len_tree]) (by simp only [maxLen];omega) (by omega) rfl rfl rfl rfl ?_
   refine fs_end (by kernel_rfl) ?_
   refine s1 (y_p rfl) rfl ?_
   refine at_nil<|x_tn<|at_ret ?_
   refine at_result (rs:= [.tmp 4]) rfl (r_tmp rfl r_nil) ⟨38,?_,?_⟩
   ·rw [path_right (by omega) h14,List.length_append];rfl
   ·rw [path_right (by omega) h14]
    exact congrArg some (by simp)
theorem trace_ok:∀(n:Nat) (L:List (List UInt8)) (i:Nat),L.length≤n→D32 L→i<L.length→L.length≤1048576→Con Tryz.prog 149 [dgs L,.i .i64 (i:Nat)] (RetO 32 (path L i).length ((path L i).flatten.map u8))
  |0,L,i,h,hD,hi,hl=>absurd hi (by omega)
  |n+1,L,i,h,hD,hi,hl=>trace_step L i hD hi hl (fun M i hM hM2 hi=>trace_ok n M i (by omega) hM2 hi (by omega))
end Go.Abs.D2
-- D2T3
namespace Go.Abs.D2
open Go Go.Eng Go.Abs Go.Proofs
theorem pathI_ok (L:List (List UInt8)) (a:Int) (hD:D32 L) (hl:L.length≤1048576):Con Tryz.prog 98 [dgs L,.i .i64 a] (Ret (pathA L a)):=by
 refine enter Tryz.func98 rfl Tryz.ntmps98 (by kernel_rfl) (Nat.le_of_ble_eq_true rfl) fun w0 X0 hI=>?_
 refine at_seq<|at_region<|s1 (y_p rfl) rfl<|s1 ((y_p rfl).v (v':= .i .i64 0) rfl) rfl ?_
 refine at_nil<|x_tn<|at_seq<|at_seq<|at_region<|s1 (y_p rfl) rfl<|s1 (y_p rfl) rfl<|s1 (y_p rfl) rfl ?_
 refine g_or 4 rfl rfl rfl rfl (fun hb8=> .step (y_p rfl) rfl rfl<| .step (y_p rfl) rfl rfl<| .step (y_len Tryz.underlying41 rfl rfl rfl) rfl rfl<| .step (y_p rfl) rfl rfl<| .done) rfl rfl ?_
 refine at_nil<|x_tn ?_
 refine at_cond rfl (fun hc13=>?_) (fun hc13=>?_)
 ·have h13 : ¬ (0 ≤ a ∧ a < L.length) := by simp at hc13; omega
  refine at_seq<|at_region<|s1 (y_p rfl) rfl<|s1 ((y_p rfl).v (v':= .i .i64 1) rfl) rfl ?_
  refine at_nil<|x_tn<|at_ret<|x_tr ?_
  refine at_result (rs:= [.tmp 4,.tmp 5]) rfl (r_tmp rfl (r_tmp rfl r_nil)) ?_
  rw [pathA,if_neg h13]
  rfl
 ·have h13 : 0 ≤ a ∧ a < L.length := by simp at hc13; omega
  obtain⟨i,rfl⟩:∃i:Nat,a=(i:Int):=⟨a.toNat,by omega⟩
  refine at_skip<|x_tn<|at_seq<|at_region<|s1 (y_p rfl) rfl<|s1 (y_p rfl) rfl ?_
  refine at_op rfl (n_callO 16 rfl false rfl (.cons (.pure pu) (.cons (.pure pu) (.nil))) (trace_ok _ L i (Nat.le_refl _) hD (by omega) hl) pul (.inl rfl) rfl ?_)
  refine s1 (y_p rfl) rfl<|s1 ((y_p rfl).v (v':= .i .i64 0) rfl) rfl ?_
  refine at_nil<|x_tn<|at_ret ?_
  refine at_frz 4 rfl rfl pul (view_eq (by rw [List.length_map,(D32_path _ L i (Nat.le_refl _)).len]) rfl) ?_
  refine at_result (rs:= [.tmp 4,.tmp 5]) rfl (r_tmp rfl (r_tmp rfl r_nil)) ?_
  rw [pathA,if_pos h13,Int.toNat_natCast]
  rfl
end Go.Abs.D2
-- D2T5
namespace Go.Abs.D2
open Go Go.Eng Go.Abs Go.Proofs
end Go.Abs.D2
-- D2T4
namespace Go.Abs.D2
open Go Go.Eng Go.Abs Go.Proofs
theorem climbI_ok (d:List UInt8) (hd:d.length=32) (a nn:Int) (P:List (List UInt8)) (hD:D32 P):Con Tryz.prog 132 [.ag (d.map u8),.i .i64 a,.i .i64 nn,dgs P] (Ret (climbA d a nn P)):=by
 refine enter Tryz.func132 rfl Tryz.ntmps132 (by kernel_rfl) (Nat.le_of_ble_eq_true rfl) fun w0 X0 hI=>?_
 refine at_seq<|at_region ?_
 refine at_op rfl (n_boxA 4 rfl rfl rfl ?_)
 refine at_op rfl (n_alloc 8 rfl ti23 rfl rfl ?_)
 refine s1 ((y_p rfl).v (v':= .i .i64 0) rfl) rfl ?_
 refine at_nil<|x_tn<|at_seq<|at_seq<|at_region<|s1 (y_p rfl) rfl<|s1 (y_p rfl) rfl<|s1 (y_p rfl) rfl ?_
 refine g_or 2 rfl rfl rfl rfl (fun hb16=> .step (y_p rfl) rfl rfl<| .step (y_p rfl) rfl rfl<| .done) rfl rfl ?_
 refine s1 (y_p rfl) rfl ?_
 refine g_or 2 rfl rfl rfl rfl (fun hb20=> .step (y_p rfl) rfl rfl<| .step (y_p rfl) rfl rfl<| .done) rfl rfl ?_
 refine s1 (y_p rfl) rfl ?_
 refine g_or 3 rfl rfl rfl rfl (fun hb24=> .step (y_p rfl) rfl rfl<| .step (y_p rfl) rfl rfl<| .step (y_p rfl) rfl rfl<| .done) rfl rfl ?_
 refine at_nil<|x_tn ?_
 refine at_cond rfl (fun hc28=>?_) (fun hc28=>?_)
 ·have hbad : ¬ fits a nn P.length := by intro h; unfold fits at h; simp at hc28; omega
  refine at_seq<|at_region<|s1 (y_loadA0 ti23 rfl rfl (by simp)) rfl ?_
  refine at_op rfl (n_storeA ti23 rfl rfl rfl (by simp) (by simp) ?_)
  refine s1 ((y_p rfl).v (v':= .i .i64 1) rfl) rfl ?_
  refine at_nil<|x_tn<|at_ret<|x_tr ?_
  refine at_result (rs:= [.cell 8 23,.tmp 9]) rfl (r_cellA ti23 rfl rfl (List.take_of_length_le (by simp)) (by simp) (r_tmp rfl r_nil)) ?_
  rw [climbA,if_neg hbad]
  rfl
 ·have h28 : 1 ≤ nn ∧ nn ≤ 1099511627776 ∧ 0 ≤ a ∧ a < nn := by simp at hc28; omega
  obtain⟨i,rfl⟩:∃i:Nat,a=(i:Int):=⟨a.toNat,by omega⟩
  obtain⟨n,rfl⟩:∃n:Nat,nn=(n:Int):=⟨nn.toNat,by omega⟩
  have hn1:1≤n:=by omega
  have hn:n≤1099511627776:=by omega
  have hi:i<n:=by omega
  refine at_skip<|x_tn<|at_seq<|at_region<|s1 (y_p rfl) rfl ?_
  refine at_nil<|x_tn<|at_seq<|at_block ?_
  refine at_loop (ι:=List Bool×Nat×Nat) (fun⟨ds,i2,n2⟩=> [(1,.i .i64 (i2:Nat)),(2,.i .i64 (n2:Nat)),(3,dgs P),(4,.p 4 0),(8,.p 8 0),(10,.sl 10 1 0 ds.length)]) (fun⟨ds,i2,n2⟩=>⟨[(4,some (d.map u8)),(8,some (List.replicate 32 (u8 0))),(10,some (ds.map A.b))]⟩) (fun⟨ds,i2,n2⟩=>rights i n=ds++rights i2 n2∧1≤n2∧i2<n2∧n2≤n∧ds.length+(rights i2 n2).length≤n) (fun⟨ds,i2,n2⟩=>n2) ?_ ?_
  ·exact at_ex (([],i,n)) (⟨rfl,hn1,hi,Nat.le_refl _,by have:=rights_le _ i n (Nat.le_refl _);simpa using this⟩) [(4,some 4),(8,some 8),(10,none)] hI rfl rfl ⟨⟨_,rfl,.pure pu⟩,⟨_,rfl,.pure pu⟩,⟨_,rfl,.pure pu⟩,⟨_,rfl,.p rfl⟩,⟨_,rfl,.p rfl⟩,⟨_,rfl,.nl rfl⟩,trivial⟩ ⟨.inr ⟨_,_,rfl,rfl,.pure pul⟩,.inr ⟨_,_,rfl,rfl,.pure pul⟩,.inl ⟨rfl,rfl⟩,trivial⟩
  rintro⟨ds,i2,n2⟩ ⟨hr,h1,hi2,hn2,hlen⟩
  dsimp only
  refine at_seq<|at_seq<|at_region<|s1 (y_p rfl) rfl<|s1 (y_p rfl) rfl ?_
  refine at_nil<|x_tn ?_
  refine at_cond rfl (fun hc31=>?_) (fun hc31=>?_)
  ·have h31 : 2 ≤ n2 := by have := of_decide_eq_true hc31; omega
   have hh:=halfN_lt h31
   refine at_skip<|x_tn<|at_block<|at_seq<|at_region<|s1 (y_p rfl) rfl ?_
   refine at_op rfl (n_call false rfl (.cons (.pure pu) (.nil)) (half_ok n2 (by omega) (by omega)) pu (.inl rfl) rfl ?_)
   refine s1 (y_p rfl) rfl ?_
   refine at_nil<|x_tn<|at_seq<|at_region<|s1 (y_p rfl) rfl<|s1 (y_p rfl) rfl<|s1 (y_p rfl) rfl<|s1 (y_p rfl) rfl ?_
   refine at_op rfl (n_bs1 38 rfl Tryz.underlying205 ti4 rfl rfl rfl rfl rfl ?_)
   refine at_op rfl (n_app 39 rfl Tryz.underlying205 ti4 rfl (.sl rfl (by simp)) rfl (SM_full rfl (by first|rfl|omega|(simp<;>omega)|(simp [*]<;>omega)|(simp [D32.len, -List.length_flatten, *]<;>omega))) (by first|rfl|omega|(simp<;>omega)|(simp [*]<;>omega)|(simp [D32.len, -List.length_flatten, *]<;>omega)) (by simp only [maxLen];omega) (by omega) rfl rfl rfl ?_)
   refine s1 (y_p rfl) rfl ?_
   refine at_nil<|x_tn<|at_seq<|at_region<|s1 (y_p rfl) rfl<|s1 (y_p rfl) rfl<|s1 (y_p rfl) rfl ?_
   refine at_nil<|x_tn ?_
   refine at_cond rfl (fun hc42=>?_) (fun hc42=>?_)
   ·have h42 : (i2 : Int) ≥ (halfN n2) := of_decide_eq_true hc42
    have h42n:¬i2<(halfN n2):=by omega
    refine at_region<|s1 (y_p rfl) rfl<|s1 (y_p rfl) rfl<|s1 (subN i2 (halfN n2) rfl rfl rfl rfl (by omega) (by omega)) rfl<|s1 (y_p rfl) rfl<|s1 (y_p rfl) rfl<|s1 (subN n2 (halfN n2) rfl rfl rfl rfl (by omega) (by omega)) rfl<|s1 (y_p rfl) rfl<|s1 (y_p rfl) rfl ?_
    refine at_nil<|x_bn ?_
    exact at_end (x:=(ds,i2,n2)) ((ds++ [true],i2 - (halfN n2),n2 - (halfN n2))) (⟨by rw [hr,rights_right (by omega) h42n];simp,by dsimp only;omega,by dsimp only;omega,by dsimp only;omega,by rw [rights_right (by omega) h42n,List.length_cons]at hlen;dsimp only;rw [List.length_append];simp;omega⟩) (by dsimp only;omega) [(4,some 4),(8,some 8),(10,some 39)] hI rfl rfl ⟨⟨_,rfl,.pure pu⟩,⟨_,rfl,.pure pu⟩,⟨_,rfl,.pure pu⟩,⟨_,rfl,.p rfl⟩,⟨_,rfl,.p rfl⟩,⟨_,rfl,.sl rfl (by first|rfl|omega|(simp<;>omega)|(simp [*]<;>omega)|(simp [D32.len, -List.length_flatten, *]<;>omega))⟩,trivial⟩ ⟨.inr ⟨_,_,rfl,rfl,.pure pul⟩,.inr ⟨_,_,rfl,rfl,.pure pul⟩,.inr ⟨_,_,rfl,rfl,.of (by simp [h42]) (.pure pul)⟩,trivial⟩
   ·have h42 : ¬ (i2 : Int) ≥ (halfN n2) := of_decide_eq_false hc42
    have h42n:i2<(halfN n2):=by omega
    refine at_region<|s1 (y_p rfl) rfl<|s1 (y_p rfl) rfl ?_
    refine at_nil<|x_bn ?_
    exact at_end (x:=(ds,i2,n2)) ((ds++ [false],i2,(halfN n2))) (⟨by rw [hr,rights_left (by omega) h42n];simp,by dsimp only;omega,by dsimp only;omega,by dsimp only;omega,by rw [rights_left (by omega) h42n,List.length_cons]at hlen;dsimp only;rw [List.length_append];simp;omega⟩) (by dsimp only;omega) [(4,some 4),(8,some 8),(10,some 39)] hI rfl rfl ⟨⟨_,rfl,.pure pu⟩,⟨_,rfl,.pure pu⟩,⟨_,rfl,.pure pu⟩,⟨_,rfl,.p rfl⟩,⟨_,rfl,.p rfl⟩,⟨_,rfl,.sl rfl (by first|rfl|omega|(simp<;>omega)|(simp [*]<;>omega)|(simp [D32.len, -List.length_flatten, *]<;>omega))⟩,trivial⟩ ⟨.inr ⟨_,_,rfl,rfl,.pure pul⟩,.inr ⟨_,_,rfl,rfl,.pure pul⟩,.inr ⟨_,_,rfl,rfl,.of (by simp [h42]) (.pure pul)⟩,trivial⟩
  ·have h31 : n2 = 1 := by have := of_decide_eq_false hc31; omega
   subst h31
   rw [rights_one (Nat.le_refl _),List.append_nil]at hr
   subst hr
   refine at_exit<|x_te<|x_te<|x_be<|x_tn<|at_seq<|at_seq<|at_region<|s1 (y_p rfl) rfl<|s1 (y_len Tryz.underlying41 rfl rfl rfl) rfl<|s1 (y_p rfl) rfl<|s1 (y_len Tryz.underlying205 rfl rfl rfl) rfl<|s1 (y_p rfl) rfl ?_
   refine at_nil<|x_tn ?_
   refine at_cond rfl (fun hc54=>?_) (fun hc54=>?_)
   ·have hbad : ¬ fits (i : Int) (n : Int) P.length := by
     intro h
     unfold fits at h
     have h5:=h.2.2.2.2
     rw [Int.toNat_natCast,Int.toNat_natCast]at h5
     have:=bne_iff_ne.1 hc54
     omega
    refine at_seq<|at_region<|s1 (y_loadA0 ti23 rfl rfl (by simp)) rfl ?_
    refine at_op rfl (n_storeA ti23 rfl rfl rfl (by simp) (by simp) ?_)
    refine s1 ((y_p rfl).v (v':= .i .i64 1) rfl) rfl ?_
    refine at_nil<|x_tn<|at_ret<|x_tr ?_
    refine at_result (rs:= [.cell 8 23,.tmp 9]) rfl (r_cellA ti23 rfl rfl (List.take_of_length_le (by simp)) (by simp) (r_tmp rfl r_nil)) ?_
    rw [climbA,if_neg hbad]
    rfl
   ·have hP : P.length = (rights i n).length := by have := bne_eq_false_iff_eq.1 hc54; omega
    have hfit:fits (i:Int) (n:Int) P.length:=⟨by omega,by omega,by omega,by omega,by rw [Int.toNat_natCast,Int.toNat_natCast];exact hP⟩
    refine at_skip<|x_tn<|at_seq<|at_region<|s1 (y_cuta0 Tryz.underlying23 ti5 rfl rfl (by simp [hd]) (by simp [maxLen])) rfl ?_
    refine at_op rfl (n_call true rfl (.cons (.pure pu) (.cons (.sl rfl rfl (by first|rfl|omega|(simp<;>omega)|(simp [*]<;>omega)|(simp [D32.len, -List.length_flatten, *]<;>omega)) (view_eq (by first|rfl|omega|(simp<;>omega)|(simp [*]<;>omega)|(simp [D32.len, -List.length_flatten, *]<;>omega)) (by first|rfl|(simp;done)|(simp [*];done))) (VwL.pure pul) pul) (.nil))) (by have h:=tagged_ok [108,101,97,102] d (by omega) (by simp);rw [hd]at h;exact h) pu (.inr fu) rfl ?_)
    refine at_op rfl (n_storeA ti23 rfl rfl rfl (by simp) (by simp) ?_)
    refine at_nil<|x_tn<|at_seq<|at_seq<|at_region<|s1 (y_p rfl) rfl<|s1 (y_len Tryz.underlying41 rfl rfl rfl) rfl<|s1 ((y_p rfl).v (v':= .i .i64 0) rfl) rfl ?_
    refine at_nil<|x_tn<|at_block ?_
    refine at_loop (ι:=Nat) (fun j=> [(8,.p 8 0),(10,.sl 10 1 0 (rights i n).length),(58,dgs P),(59,.i .i64 (P.length:Nat)),(60,.i .i64 (j:Nat))]) (fun j=>⟨[(8,some ((fold ((rights i n).reverse.take j) (P.take j) (leafD d)).map u8)),(10,some ((rights i n).map A.b))]⟩) (fun j=>j≤P.length) (fun j=>P.length - j) ?_ ?_
    ·exact at_ex (0) (Nat.zero_le _) [(8,some 8),(10,some 10)] hI rfl rfl ⟨⟨_,rfl,.p rfl⟩,⟨_,rfl,.sl rfl (by first|rfl|omega|(simp<;>omega)|(simp [*]<;>omega)|(simp [D32.len, -List.length_flatten, *]<;>omega))⟩,⟨_,rfl,.pure pu⟩,⟨_,rfl,.pure pu⟩,⟨_,rfl,.pure pu⟩,trivial⟩ ⟨.inr ⟨_,_,rfl,rfl,.of (by rw [List.take_zero];rfl) (.pure pul)⟩,.inr ⟨_,_,rfl,rfl,.pure pul⟩,trivial⟩
    rintro j hj
    have hlf:(fold ((rights i n).reverse.take j) (P.take j) (leafD d)).length=32:=len_fold _ _ _ (len_tagged _ _)
    have hrl:=rights_le _ i n (Nat.le_refl _)
    refine at_seq<|at_region<|s1 (y_p rfl) rfl ?_
    refine at_nil<|x_tn<|at_seq ?_
    refine at_cond rfl (fun hc61=>?_) (fun hc61=>?_)
    ·have hj2 : j < P.length := by have := of_decide_eq_true hc61; omega
     obtain⟨q,hq⟩:∃q,P[j]? =some q:=⟨_,List.getElem?_eq_getElem hj2⟩
     have hq32:q.length=32:=hD q (List.mem_of_getElem? hq)
     obtain⟨b,hb⟩:∃b,(rights i n).reverse[j]? =some b:=⟨_,List.getElem?_eq_getElem (by simp;omega)⟩
     have hb2:(rights i n)[(rights i n).length - 1 - j]? =some b:=by rw [List.getElem?_reverse (by omega)]at hb;exact hb
     refine at_skip<|x_tn<|at_seq<|at_block<|at_seq<|at_region<|s1 (y_p rfl) rfl<|s1 (y_ixf j Tryz.underlying41 ti23 rfl rfl rfl (by omega) rfl) rfl<|s1 (y_loadA ti23 rfl rfl (get_d hD hq) (by simp [hq32])) rfl ?_
     refine at_op rfl (n_alloc 13 rfl ti23 rfl rfl ?_)
     refine s1 (y_p rfl) rfl ?_
     refine at_op rfl (n_storeA ti23 rfl rfl rfl (by simp [hq32]) (by simp) ?_)
     refine at_nil<|x_tn<|at_seq<|at_region<|s1 (y_p rfl) rfl<|s1 (y_p rfl) rfl<|s1 (y_len Tryz.underlying205 rfl rfl rfl) rfl<|s1 (subN (rights i n).length 1 rfl rfl rfl rfl (by omega) (by omega)) rfl<|s1 (y_p rfl) rfl<|s1 (subN ((rights i n).length - 1) j rfl rfl rfl rfl (by omega) (by omega)) rfl<|s1 (y_ixs ((rights i n).length - 1 - j) Tryz.underlying205 ti4 rfl rfl rfl rfl (by omega) rfl) rfl<|s1 (y_load ti4 rfl rfl (get_b hb2)) rfl ?_
     refine at_nil<|x_tn ?_
     refine at_cond rfl (fun hc72=>?_) (fun hc72=>?_)
     ·skip
      refine at_region<|s1 (y_loadA0 ti23 rfl rfl (by simp [hq32])) rfl<|s1 (y_loadA0 ti23 rfl rfl (by simp [hlf])) rfl ?_
      refine at_op rfl (n_call false rfl (.cons (.pure pu) (.cons (.pure pu) (.nil))) (node_ok (fun t b h1 h2=>tagged_ok t b (by omega) (by omega)) q _ hq32 hlf) pu (.inl rfl) rfl ?_)
      refine at_op rfl (n_storeA ti23 rfl rfl rfl (by simp) (by simp [hlf]) ?_)
      refine at_nil<|x_bn<|x_tn<|at_region<|s1 (addN _ 1 rfl rfl rfl rfl (by omega)) rfl<|s1 (y_p rfl) rfl ?_
      refine at_nil ?_
      exact at_end (j+1) (by omega) (by omega) [(8,some 8),(10,some 10)] hI rfl rfl ⟨⟨_,rfl,.p rfl⟩,⟨_,rfl,.sl rfl (by first|rfl|omega|(simp<;>omega)|(simp [*]<;>omega)|(simp [D32.len, -List.length_flatten, *]<;>omega))⟩,⟨_,rfl,.pure pu⟩,⟨_,rfl,.pure pu⟩,⟨_,rfl,.pure pu⟩,trivial⟩ ⟨.inr ⟨_,_,rfl,rfl,.of (by rw [fold_take hb hq,if_pos hc72];rfl) (.pure pul)⟩,.inr ⟨_,_,rfl,rfl,.pure pul⟩,trivial⟩
     ·skip
      refine at_region<|s1 (y_loadA0 ti23 rfl rfl (by simp [hlf])) rfl<|s1 (y_loadA0 ti23 rfl rfl (by simp [hq32])) rfl ?_
      refine at_op rfl (n_call false rfl (.cons (.pure pu) (.cons (.pure pu) (.nil))) (node_ok (fun t b h1 h2=>tagged_ok t b (by omega) (by omega)) _ q hlf hq32) pu (.inl rfl) rfl ?_)
      refine at_op rfl (n_storeA ti23 rfl rfl rfl (by simp) (by simp [hlf]) ?_)
      refine at_nil<|x_bn<|x_tn<|at_region<|s1 (addN _ 1 rfl rfl rfl rfl (by omega)) rfl<|s1 (y_p rfl) rfl ?_
      refine at_nil ?_
      exact at_end (j+1) (by omega) (by omega) [(8,some 8),(10,some 10)] hI rfl rfl ⟨⟨_,rfl,.p rfl⟩,⟨_,rfl,.sl rfl (by first|rfl|omega|(simp<;>omega)|(simp [*]<;>omega)|(simp [D32.len, -List.length_flatten, *]<;>omega))⟩,⟨_,rfl,.pure pu⟩,⟨_,rfl,.pure pu⟩,⟨_,rfl,.pure pu⟩,trivial⟩ ⟨.inr ⟨_,_,rfl,rfl,.of (by rw [fold_take hb hq,if_neg (by rw [hc72];decide)];rfl) (.pure pul)⟩,.inr ⟨_,_,rfl,rfl,.pure pul⟩,trivial⟩
    ·have hj2 : j = P.length := by have := of_decide_eq_false hc61; omega
     subst hj2
     have hct:fold ((rights i n).reverse.take P.length) (P.take P.length) (leafD d)=climb d i n P:=by rw [List.take_length,List.take_of_length_le (by simp;omega)];rfl
     refine at_exit<|x_te<|x_te<|x_be<|x_tn<|at_seq ?_
     refine at_sayO 8 rfl (cs':=(climb d i n P).map u8) (by rw [hct]) ?_
     refine at_region<|s1 (y_loadA0 ti23 rfl rfl (by simp)) rfl ?_
     refine at_op rfl (n_storeA ti23 rfl rfl rfl (by simp) (by simp) ?_)
     refine s1 ((y_p rfl).v (v':= .i .i64 0) rfl) rfl ?_
     refine at_nil<|x_tn<|at_ret ?_
     refine at_result (rs:= [.cell 8 23,.tmp 9]) rfl (r_cellA ti23 rfl rfl (List.take_of_length_le (by simp)) (by simp) (r_tmp rfl r_nil)) ?_
     rw [climbA,if_pos hfit,Int.toNat_natCast,Int.toNat_natCast]
     rfl
end Go.Abs.D2
-- K6B
namespace Go.Abs.D2
open Go Go.Eng Go.Abs Go.Proofs
theorem tag_seed (x:List UInt8) (a:Int) (hx:x.length=32):Con Tryz.prog 50 [.s [108,101,97,102],.fz 36 ((x++seedBs a 4).map u8)] (Ret (.ag ((seedL x a).map u8))):=by
  have e2:(x++seedBs a 4).length=36:=by simp [hx]
  rw [seedL_eq, ←e2];exact tagged_ok _ _ (by omega) (by simp)
theorem seed_ok (x:List UInt8) (a:Int) (hx:x.length=32):Con Tryz.prog 89 [.ag (x.map u8),.i .i64 a] (Ret (.ag ((seedL x a).map u8))):=by
 refine enter Tryz.func89 rfl Tryz.ntmps89 (by kernel_rfl) (Nat.le_of_ble_eq_true rfl) fun w0 X0 hI=>?_
 refine at_seq<|at_region ?_
 refine at_op rfl (n_boxA 2 rfl rfl rfl ?_)
 refine at_op rfl (n_alloc 4 rfl ti23 rfl rfl ?_)
 refine at_nil<|x_tn<|at_seq<|at_region ?_
 refine at_op rfl (n_alloc 5 rfl ti175 rfl rfl ?_)
 refine at_nil<|x_tn<|at_seq ?_
 refine at_draw_tail 2 hmix (by kernel_rfl) ?_
 refine t1 (y_cuta0 Tryz.underlying175 ti5 rfl rfl (by simp) (by simp [maxLen])) rfl<|t1 (y_cuta0 Tryz.underlying23 ti5 rfl rfl (by simp [hx]) (by simp [maxLen])) rfl ?_
 refine at_snil ?_
 refine at_op rfl (n_copy Tryz.underlying68 ti5 rfl rfl rfl (SM_full rfl (by simp [hx])) (by first|rfl|omega|(simp<;>omega)|(simp [*]<;>omega)) (by first|omega|(simp only [maxLen];omega)|(simp [maxLen];done)|(simp [maxLen];omega)|(simp [maxLen, *];omega)) (by first|omega|(simp only [maxLen];omega)|(simp [maxLen];done)|(simp [maxLen];omega)|(simp [maxLen, *];omega)) (by first|omega|(simp only [maxLen];omega)|(simp [maxLen];done)|(simp [maxLen];omega)|(simp [maxLen, *];omega)) (copy_seed (a:=a)) rfl ?_)
 refine at_nil<|x_tn<|at_seq<|at_seq<|at_region<|s1 ((y_p rfl).v (v':= .i .i64 0) rfl) rfl ?_
 refine at_nil<|x_tn<|at_block ?_
 refine at_loop (ι:=Nat) (fun i=> [(1,.i .i64 a),(4,.p 4 0),(5,.p 5 0),(10,.i .i64 (i:Nat))]) (fun i=>⟨[(4,some (zD.map u8)),(5,some ((x++seedBs a i++List.replicate (4 - i) 0).map u8))]⟩) (fun i=>i≤4) (fun i=>4 - i) ?_ ?_
 ·exact at_ex (0) (Nat.zero_le _) [(4,some 4),(5,some 5)] hI rfl rfl ⟨⟨_,rfl,.pure pu⟩,⟨_,rfl,.p rfl⟩,⟨_,rfl,.p rfl⟩,⟨_,rfl,.pure pu⟩,trivial⟩ ⟨.inr ⟨_,_,rfl,rfl,.pure pul⟩,.inr ⟨_,_,rfl,rfl,.pure pul⟩,trivial⟩
 rintro i hi
 refine at_seq<|at_region<|s1 (y_p rfl) rfl ?_
 refine at_nil<|x_tn<|at_seq ?_
 refine at_cond rfl (fun hc11=>?_) (fun hc11=>?_)
 ·have h11 : i < 4 := by have := of_decide_eq_true hc11; omega
  refine at_skip<|x_tn<|at_seq<|at_block<|at_seq<|at_region<|s1 (y_p rfl) rfl<|s1 (y_p rfl) rfl ?_
  refine at_nil<|x_tn<|at_region<|s1 (y_p rfl) rfl<|s1 (addN 32 i rfl rfl rfl rfl (by omega)) rfl<|s1 (y_p rfl) rfl<|s1 (y_p rfl) rfl<|s1 (mulN 8 i rfl rfl rfl rfl (by omega)) rfl<|s1 (subN 24 (8*i) rfl rfl rfl rfl (by omega) (by omega)) rfl<|s1 (y_shr rfl rfl (by omega)) rfl<|s1 ((y_conv Tryz.underlying3 Tryz.underlying5 rfl).v (shr_byte a i h11)) rfl<|s1 (y_ixa (32+i) Tryz.underlying175 ti5 rfl rfl rfl (by omega) rfl) rfl ?_
  refine at_op rfl (n_store1 ti5 rfl rfl rfl rfl (by simp [hx];omega) (set_seed hx a i h11) ?_)
  refine at_nil<|x_bn<|x_tn<|at_region<|s1 (addN _ 1 rfl rfl rfl rfl (by omega)) rfl<|s1 (y_p rfl) rfl ?_
  refine at_nil ?_
  exact at_end (i+1) (by omega) (by omega) [(4,some 4),(5,some 5)] hI rfl rfl ⟨⟨_,rfl,.pure pu⟩,⟨_,rfl,.p rfl⟩,⟨_,rfl,.p rfl⟩,⟨_,rfl,.pure pu⟩,trivial⟩ ⟨.inr ⟨_,_,rfl,rfl,.pure pul⟩,.inr ⟨_,_,rfl,rfl,.of (by rfl) (.pure pul)⟩,trivial⟩
 ·have h11 : i = 4 := by have := of_decide_eq_false hc11; omega
  subst h11
  refine at_exit<|x_te<|x_te<|x_be<|x_tn<|at_seq<|at_region<|s1 (y_cuta0 Tryz.underlying175 ti5 rfl rfl (by simp [hx]) (by simp [maxLen])) rfl ?_
  refine at_op rfl (n_call true rfl (.cons (.pure pu) (.cons (.sl rfl rfl rfl (view_eq (by simp [hx]) (by simp)) (VwL.pure pul) pul) .nil)) (tag_seed x a hx) pu (.inr fu) rfl ?_)
  refine at_op rfl (n_storeA ti23 rfl rfl rfl (by first|rfl|omega|(simp<;>omega)|(simp [*]<;>omega)) (by first|rfl|omega|(simp<;>omega)|(simp [*]<;>omega)) ?_)
  refine at_nil<|x_tn<|at_ret ?_
  refine at_result (rs:= [.cell 4 23]) rfl (r_cellA ti23 rfl rfl (List.take_of_length_le (by simp)) (by simp) r_nil) rfl
theorem publics_ok (x:List UInt8) (n:Nat):Con Tryz.prog 94 [.ag (x.map u8),nI n] (Ret (.fn (.func 144) [] [.fp [nI n],.fp (x.map u8)])):=by
 refine enter Tryz.func94 rfl Tryz.ntmps94 (by kernel_rfl) (Nat.le_of_ble_eq_true rfl) fun w0 X0 hI=>?_
 refine at_seq<|at_region ?_
 refine at_op rfl (n_boxA 2 rfl rfl rfl ?_)
 refine at_op rfl (n_box1 3 rfl rfl rfl rfl ?_)
 refine s1 (y_p rfl) rfl ?_
 refine at_nil<|x_tn<|at_seq ?_
 refine at_frzP 2 rfl rfl pul ?_
 refine at_frzP 3 rfl rfl pul ?_
 refine at_region<|s1 (y_func (us:= []) (vs:= [.fp [nI n],.fp (x.map u8)]) rfl rfl) rfl<|s1 (y_p rfl) rfl ?_
 refine at_nil<|x_tn<|at_ret ?_
 refine at_result (rs:= [.tmp 4]) rfl (r_tmp rfl r_nil) rfl
theorem appendSeqD_ok (x:List UInt8) (n:Nat) (hx:x.length=32) (hn:n≤256):Con Tryz.prog 143 [.nl,.fn (.func 144) [] [.fp [nI n],.fp (x.map u8)]] (RetO 32 n ((kpubs x n).flatten.map u8)):=by
 refine enterM Tryz.func143 rfl Tryz.ntmps143 (by kernel_rfl) (Nat.le_of_ble_eq_true rfl) fun w0 X0 hI hS=>?_
 refine at_seq<|at_region ?_
 refine at_op rfl (n_box1 2 rfl rfl rfl rfl ?_)
 refine s1 (y_p rfl) rfl ?_
 refine at_nil<|x_tn<|at_seq<|at_seq<|at_region<|s1 (y_p rfl) rfl ?_
 refine at_nil<|x_tn<|at_block ?_
 refine at_range [2] [(0,_),(1,_),(2,_),(4,_),(6,_)] hI rfl ⟨rfl,⟨rfl,⟨rfl,⟨rfl,⟨rfl,trivial⟩⟩⟩⟩⟩ (by first|rfl|(simp [onlyE,refsE,refs,refsL,refsL_pul,refs_pu,memN];done)) rfl Tryz.func144 rfl Tryz.ntmps144 (by kernel_rfl) (Nat.le_of_ble_eq_true rfl) fun w1 l1 D1 rc1 hR1=>?_
 refine at_seq<|at_region<|s1 (y_load ti3 rfl rfl rfl) rfl<|s1 ((y_p rfl).v (v':= .i .i64 0) rfl) rfl ?_
 refine at_nil<|x_tn<|at_block ?_
 refine at_loop (ι:=Nat) (fun i=> [(0,yv l1),(1,.fp [nI n]),(2,.fp (x.map u8)),(5,nI n),(6,nI i)]) (fun i=>⟨[(2,some ([.sl 11 32 0 i])),(11,some ((kpubs x i).flatten.map u8))]⟩) (fun i=>i≤n) (fun i=>n - i) ?_ ?_
 ·exact at_ex (0) (Nat.zero_le _) [(2,some 2),(11,none)] hR1.sub.ids rfl rfl ⟨⟨_,rfl,.pure trivial⟩,⟨_,rfl,.pure pu⟩,⟨_,rfl,.pure pu⟩,⟨_,rfl,.pure pu⟩,⟨_,rfl,.pure pu⟩,trivial⟩ ⟨.inr ⟨_,_,rfl,rfl,.cons (.nl rfl) .nil⟩,.inl ⟨rfl,rfl⟩,trivial⟩
 rintro i hi
 have hfl:=(D32_kpubs x i).len
 rw [len_kpubs]at hfl
 refine at_seq<|at_region<|s1 (y_p rfl) rfl ?_
 refine at_nil<|x_tn<|at_seq ?_
 refine at_cond rfl (fun hc7=>?_) (fun hc7=>?_)
 ·have h7 : i < n := by have := of_decide_eq_true hc7; omega
  refine at_skip<|x_tn<|at_seq<|at_block<|at_seq<|at_region<|s1 (y_p rfl) rfl<|s1 (y_p rfl) rfl ?_
  refine at_nil<|x_tn<|at_seq<|at_region<|s1 (y_p rfl) rfl<|s1 (y_loadA ti23 rfl rfl (List.take_of_length_le (by simp [hx])) (by simp [hx])) rfl<|s1 (y_p rfl) rfl ?_
  refine at_op rfl (n_call false rfl (.cons (.pure pu) (.cons (.pure pu) (.nil))) (seed_ok x (i:Nat) hx) pu (.inl rfl) rfl ?_)
  refine at_op rfl (n_call false rfl (.cons (.pure pu) (.nil)) (public_ok (seedL x (i:Nat)) (by simp)) pu (.inl rfl) rfl ?_)
  refine at_yield [2] [(0,_),(1,_),(2,_),(4,_),(5,_),(6,_),(7,_),(8,_),(9,_),(10,_),(11,_),(12,_),(13,_)] hR1 hR1.sub.ids rfl ⟨rfl,⟨rfl,⟨rfl,⟨rfl,⟨rfl,⟨rfl,⟨rfl,⟨rfl,⟨rfl,⟨rfl,⟨rfl,⟨rfl,⟨rfl,trivial⟩⟩⟩⟩⟩⟩⟩⟩⟩⟩⟩⟩⟩ (by first|rfl|(simp [onlyE,refsE,refs,refsL,refsL_pul,refs_pu,memN];done)) rfl rfl rfl rfl rfl fun w2 tm2 hd2=>?_
  refine at_region ?_
  refine at_op rfl (n_alloc 5 rfl ti23 rfl rfl ?_)
  refine at_op rfl (n_storeA ti23 rfl rfl rfl (by first|rfl|omega|(simp<;>omega)|(simp [*]<;>omega)) (by first|rfl|omega|(simp<;>omega)|(simp [*]<;>omega)) ?_)
  refine at_nil ?_
  refine at_begin hd2 fun w3 hd3=>?_
  refine at_block<|at_region<|s1 (y_load ti41 rfl rfl rfl) rfl<|s1 (y_loadA0 ti23 rfl rfl (by first|rfl|omega|(simp<;>omega)|(simp [*]<;>omega))) rfl ?_
  refine at_op rfl (n_bs 10 rfl Tryz.underlying41 ti23 rfl rfl rfl (by first|(simp [cellsA];done)|(simp [cellsA, *];done)) (List.append_nil ((pubD (seedL x (i:Nat))).map u8)) rfl rfl rfl ?_)
  refine at_op rfl (n_app 111 rfl Tryz.underlying41 ti23 rfl (.sl rfl (by rw [List.length_map];exact hfl)) rfl (SM_full rfl (by first|rfl|omega|(simp<;>omega)|(simp [*]<;>omega))) (by simp) (by simp only [maxLen];omega) (by omega) rfl rfl rfl ?_)
  refine at_op rfl (n_store1 ti41 rfl rfl rfl rfl (by first|rfl|omega|(simp<;>omega)|(simp [*]<;>omega)) rfl ?_)
  refine at_nil<|x_bn ?_
  refine at_rend hR1 hd3 rfl ?_
  refine s1 (y_p rfl) rfl ?_
  refine at_nil<|x_tn ?_
  refine at_else rfl ?_
  refine at_skip<|x_bn<|x_tn<|at_region<|s1 (addN _ 1 rfl rfl rfl rfl (by omega)) rfl<|s1 (y_p rfl) rfl ?_
  refine at_nil ?_
  exact at_end (i+1) (by omega) (by omega) [(2,some 2),(11,some 111)] hR1.sub.ids rfl rfl ⟨⟨_,rfl,.pure trivial⟩,⟨_,rfl,.pure pu⟩,⟨_,rfl,.pure pu⟩,⟨_,rfl,.pure pu⟩,⟨_,rfl,.pure pu⟩,trivial⟩ ⟨.inr ⟨_,_,rfl,rfl,.cons (.sl rfl (by first|rfl|omega|(simp<;>omega)|(simp [*]<;>omega))) .nil⟩,.inr ⟨_,_,rfl,rfl,.of (kpubs_flat x i) (.pure pul)⟩,trivial⟩
 ·have h7 : i = n := by have := of_decide_eq_false hc7; omega
  subst h7
  refine at_exit<|x_te<|x_te<|x_be ?_
  refine at_itnil rfl hR1 hS ?_
  refine x_bn<|x_tn<|at_seq<|at_region<|s1 (y_load ti41 rfl rfl rfl) rfl<|s1 (y_p rfl) rfl ?_
  refine at_nil<|x_tn<|at_ret ?_
  refine at_resultM (rs:= [.tmp 4]) rfl rfl rfl hS (dn:= [D1]) rfl rfl (by simp) rfl (r_tmp rfl r_nil) ⟨11,rfl,rfl⟩
theorem collectD_ok (x:List UInt8) (n:Nat) (hx:x.length=32) (hn:n≤256):Con Tryz.prog 93 [.fn (.func 144) [] [.fp [nI n],.fp (x.map u8)]] (Ret (dgs (kpubs x n))):=by
 refine enter Tryz.func93 rfl Tryz.ntmps93 (by kernel_rfl) (Nat.le_of_ble_eq_true rfl) fun w0 X0 hI=>?_
 refine at_seq<|at_region<|s1 (y_p rfl) rfl ?_
 refine at_nil<|x_tn<|at_seq<|at_region<|s1 (y_p rfl) rfl ?_
 refine at_op rfl (n_callO 4 rfl false rfl (.cons (.pure pu) (.cons (.pure pu) .nil)) (appendSeqD_ok x n hx hn) pul (.inl rfl) rfl ?_)
 refine s1 (y_p rfl) rfl ?_
 refine at_nil<|x_tn<|at_ret ?_
 refine at_frz 2 rfl rfl pul (view_eq (by rw [List.length_map,(D32_kpubs x n).len,len_kpubs]) rfl) ?_
 refine at_result (rs:= [.tmp 2]) rfl (r_tmp rfl r_nil) ?_
 exact congrArg (fun z=>A.fz z _) (len_kpubs x n).symm
theorem pubs_ok (x:List UInt8) (n:Int) (hx:x.length=32):Con Tryz.prog 44 [.ag (x.map u8),.i .i64 n] (Ret (if sizeK n then .tu [dgs (kpubs x n.toNat),.i .i64 0]else .tu [.nl,.i .i64 60])):=by
 refine enter Tryz.func44 rfl Tryz.ntmps44 (by kernel_rfl) (Nat.le_of_ble_eq_true rfl) fun w0 X0 hI=>?_
 refine at_seq<|at_region ?_
 refine at_op rfl (n_boxA 2 rfl rfl rfl ?_)
 refine s1 (y_p rfl) rfl<|s1 ((y_p rfl).v (v':= .i .i64 0) rfl) rfl ?_
 refine at_nil<|x_tn<|at_seq<|at_seq<|at_region<|s1 (y_p rfl) rfl<|s1 (y_p rfl) rfl<|s1 (y_p rfl) rfl ?_
 refine g_or 2 rfl rfl rfl rfl (fun hb8=> .step (y_p rfl) rfl rfl<| .step (y_p rfl) rfl rfl<| .done) rfl rfl ?_
 refine at_nil<|x_tn ?_
 refine at_cond rfl (fun hc11=>?_) (fun hc11=>?_)
 ·have hcs : ¬ sizeK n := by intro h; unfold sizeK at h; simp at hc11; omega
  refine at_seq<|at_region<|s1 (y_p rfl) rfl<|s1 ((y_p rfl).v (v':= .i .i64 60) rfl) rfl ?_
  refine at_nil<|x_tn<|at_ret<|x_tr ?_
  refine at_result (rs:= [.tmp 4,.tmp 5]) rfl (r_tmp rfl (r_tmp rfl r_nil)) ?_
  exact(if_neg hcs).symm
 ·have hcs : sizeK n := by unfold sizeK; simp at hc11; omega
  have hsz:=hcs
  obtain⟨k,rfl,h1,h2⟩:=sizeK_nat hcs
  refine at_skip<|x_tn<|at_seq<|at_region<|s1 (y_loadA0 ti23 rfl rfl (by first|rfl|omega|(simp<;>omega)|(simp [*]<;>omega))) rfl<|s1 (y_p rfl) rfl ?_
  refine at_op rfl (n_call false rfl (.cons (.pure pu) (.cons (.pure pu) (.nil))) (publics_ok x k) pu (.inl rfl) rfl ?_)
  refine at_op rfl (n_call false rfl (.cons (.pure pu) (.nil)) (collectD_ok x k hx h2) pu (.inl rfl) rfl ?_)
  refine s1 (y_p rfl) rfl<|s1 ((y_p rfl).v (v':= .i .i64 0) rfl) rfl ?_
  refine at_nil<|x_tn<|at_ret ?_
  refine at_result (rs:= [.tmp 4,.tmp 5]) rfl (r_tmp rfl (r_tmp rfl r_nil)) ?_
  exact(if_pos hsz).symm
theorem root_ok (x:List UInt8) (n:Int) (hx:x.length=32):Con Tryz.prog 27 [.ag (x.map u8),.i .i64 n] (Ret (rootA x n)):=by
 refine enter Tryz.func27 rfl Tryz.ntmps27 (by kernel_rfl) (Nat.le_of_ble_eq_true rfl) fun w0 X0 hI=>?_
 refine at_seq<|at_region ?_
 refine at_op rfl (n_boxA 2 rfl rfl rfl ?_)
 refine at_op rfl (n_alloc 4 rfl ti23 rfl rfl ?_)
 refine s1 ((y_p rfl).v (v':= .i .i64 0) rfl) rfl ?_
 refine at_nil<|x_tn<|at_seq ?_
 rcases(Decidable.em (sizeK n)).symm with hcs|hcs
 ·skip
  refine at_region<|s1 (y_loadA0 ti23 rfl rfl (by first|rfl|omega|(simp<;>omega)|(simp [*]<;>omega))) rfl<|s1 (y_p rfl) rfl ?_
  refine at_op rfl (n_call false rfl (.cons (.pure pu) (.cons (.pure pu) (.nil))) (Con.cast (pubs_ok x n hx) (if_neg hcs)) pu (.inl rfl) rfl ?_)
  refine s1 (y_p rfl) rfl<|s1 (y_p rfl) rfl<|s1 (y_p rfl) rfl<|s1 (y_p rfl) rfl<|s1 (y_p rfl) rfl ?_
  refine at_nil<|x_tn<|at_seq<|at_seq<|at_region<|s1 (y_p rfl) rfl<|s1 ((y_p rfl).v (v':= .b true) (rfl)) rfl ?_
  refine at_nil<|x_tn ?_
  refine at_then rfl ?_
  refine at_seq<|at_region<|s1 (y_loadA0 ti23 rfl rfl (by first|rfl|omega|(simp<;>omega)|(simp [*]<;>omega))) rfl<|s1 (y_p rfl) rfl ?_
  refine at_op rfl (n_storeA ti23 rfl rfl rfl (by first|rfl|omega|(simp<;>omega)|(simp [*]<;>omega)) (by first|rfl|omega|(simp<;>omega)|(simp [*]<;>omega)) ?_)
  refine s1 (y_p rfl) rfl ?_
  refine at_nil<|x_tn<|at_ret<|x_tr ?_
  refine at_result (rs:= [.cell 4 23,.tmp 5]) rfl (r_cellA ti23 rfl rfl (List.take_of_length_le (by simp)) (by simp) (r_tmp rfl r_nil)) ?_
  exact(rootA_no hcs).symm
 ·have hsz := hcs
  obtain⟨k,rfl,h1,h2⟩:=sizeK_nat hcs
  refine at_region<|s1 (y_loadA0 ti23 rfl rfl (by first|rfl|omega|(simp<;>omega)|(simp [*]<;>omega))) rfl<|s1 (y_p rfl) rfl ?_
  refine at_op rfl (n_call false rfl (.cons (.pure pu) (.cons (.pure pu) (.nil))) (Con.cast (pubs_ok x k hx) (if_pos hsz)) pu (.inl rfl) rfl ?_)
  refine s1 (y_p rfl) rfl<|s1 (y_p rfl) rfl<|s1 (y_p rfl) rfl<|s1 (y_p rfl) rfl<|s1 (y_p rfl) rfl ?_
  refine at_nil<|x_tn<|at_seq<|at_seq<|at_region<|s1 (y_p rfl) rfl<|s1 ((y_p rfl).v (v':= .b false) (rfl)) rfl ?_
  refine at_nil<|x_tn ?_
  refine at_else rfl ?_
  refine at_skip<|x_tn<|at_seq<|at_region<|s1 (y_p rfl) rfl ?_
  refine at_op rfl (n_call false rfl (.cons (.pure pu) (.nil)) (tree_ok _ (kpubs x k) (Nat.le_refl _) (D32_kpubs x k) (by simp;omega)) pu (.inl rfl) rfl ?_)
  refine at_op rfl (n_storeA ti23 rfl rfl rfl (by first|rfl|omega|(simp<;>omega)|(simp [*]<;>omega)) (by first|rfl|omega|(simp<;>omega)|(simp [*]<;>omega)) ?_)
  refine s1 ((y_p rfl).v (v':= .i .i64 0) rfl) rfl ?_
  refine at_nil<|x_tn<|at_ret ?_
  refine at_result (rs:= [.cell 4 23,.tmp 5]) rfl (r_cellA ti23 rfl rfl (List.take_of_length_le (by simp)) (by simp) (r_tmp rfl r_nil)) ?_
  exact(rootA_yes hsz).symm
end Go.Abs.D2
-- C5E
namespace Go.Abs.D2
open Go Go.Eng Go.Abs Go.Proofs
end Go.Abs.D2
-- K6D
namespace Go.Abs.D2
open Go Go.Eng Go.Abs Go.Proofs
theorem vc1_ok (n:Int):Con Tryz.prog 127 [.fp [.i .i64 n]] (Ret (.b (decide (sizeK n)))):=by
 refine enter Tryz.func127 rfl Tryz.ntmps127 (by kernel_rfl) (Nat.le_of_ble_eq_true rfl) fun w0 X0 hI=>?_
 refine at_seq<|at_region<|s1 (y_p rfl) rfl ?_
 refine at_nil<|x_tn<|at_seq<|at_region<|s1 (y_load ti3 rfl rfl rfl) rfl<|s1 (y_p rfl) rfl<|s1 (y_p rfl) rfl ?_
 refine g_and 2 rfl rfl rfl rfl (fun hb4=> .step (y_load ti3 rfl rfl rfl) rfl rfl<| .step (y_p rfl) rfl rfl<| .done) rfl rfl ?_
 refine s1 (y_p rfl) rfl ?_
 refine at_nil<|x_tn<|at_ret ?_
 refine at_result (rs:= [.tmp 1]) rfl (r_tmp rfl r_nil) ?_
 exact congrArg A.b (by rw [Bool.eq_iff_iff,decide_eq_true_eq];simp [sizeK])
theorem vc2_ok (a n:Int) (S P:List (List UInt8)):Con Tryz.prog 128 [.fp [.i .i64 a,dgs S,dgs P],.fp [.i .i64 n]] (Ret (.b (decide (atK n a)))):=by
 refine enter Tryz.func128 rfl Tryz.ntmps128 (by kernel_rfl) (Nat.le_of_ble_eq_true rfl) fun w0 X0 hI=>?_
 refine at_seq<|at_region<|s1 (y_p rfl) rfl ?_
 refine at_nil<|x_tn<|at_seq<|at_region<|s1 (y_fldf Tryz.underlying43 rfl ti3 (by decide) rfl rfl) rfl<|s1 (y_load ti3 rfl rfl rfl) rfl<|s1 (y_p rfl) rfl<|s1 (y_p rfl) rfl ?_
 refine g_and 4 rfl rfl rfl rfl (fun hb6=> .step (y_fldf Tryz.underlying43 rfl ti3 (by decide) rfl rfl) rfl rfl<| .step (y_load ti3 rfl rfl rfl) rfl rfl<| .step (y_load ti3 rfl rfl rfl) rfl rfl<| .step (y_p rfl) rfl rfl<| .done) rfl rfl ?_
 refine s1 (y_p rfl) rfl ?_
 refine at_nil<|x_tn<|at_ret ?_
 refine at_result (rs:= [.tmp 2]) rfl (r_tmp rfl r_nil) ?_
 exact congrArg A.b (atK_b n a)
theorem vc3_ok (m:List UInt8) (a:Int) (S P:List (List UInt8)) (hm:m.length=32) (hS:D32 S):ConS Tryz.prog 129 [.fp (m.map u8),.fp [.i .i64 a,dgs S,dgs P],.p 9 0] ⟨[(9,some (zD.map u8))]⟩ (RetS (.b (decide (recE S=0))) [(9,(recD m S).map u8)]):=by
 refine enterS Tryz.func129 rfl Tryz.ntmps129 (by kernel_rfl) (Nat.le_of_ble_eq_true rfl) fun w0 X0 hI=>?_
 refine at_seq<|at_region<|s1 (y_p rfl) rfl ?_
 refine at_nil<|x_tn<|at_seq<|at_region<|s1 (y_loadA ti23 rfl rfl (List.take_of_length_le (by simp [hm])) (by simp [hm])) rfl<|s1 (y_fldf Tryz.underlying43 rfl ti41 (by decide) rfl rfl) rfl<|s1 (y_load ti41 rfl rfl rfl) rfl ?_
 refine at_op rfl (n_call false rfl (.cons (.pure pu) (.cons (.pure pu) (.nil))) (recover_ok m S hm hS) pu (.inl rfl) rfl ?_)
 refine s1 (y_p rfl) rfl<|s1 (y_p rfl) rfl<|s1 (y_p rfl) rfl ?_
 refine at_op rfl (n_alloc 4 rfl ti23 rfl rfl ?_)
 refine at_op rfl (n_storeA ti23 rfl rfl rfl (by first|rfl|omega|(simp<;>omega)|(simp [*]<;>omega)) (by first|rfl|omega|(simp<;>omega)|(simp [*]<;>omega)) ?_)
 refine s1 (y_p rfl) rfl ?_
 refine at_nil<|x_tn<|at_seq<|at_region<|s1 (y_loadA0 ti23 rfl rfl (by first|rfl|omega|(simp<;>omega)|(simp [*]<;>omega))) rfl ?_
 refine at_op rfl (n_storeA ti23 rfl rfl rfl (by first|rfl|omega|(simp<;>omega)|(simp [*]<;>omega)) (by first|rfl|omega|(simp<;>omega)|(simp [*]<;>omega)) ?_)
 refine at_nil<|x_tn<|at_seq<|at_region<|s1 (y_p rfl) rfl<|s1 ((y_p rfl).v (v':= .b (decide (recE S=0))) (congrArg A.b (recE_b S))) rfl<|s1 (y_p rfl) rfl ?_
 refine at_nil<|x_tn<|at_ret ?_
 refine at_result (rs:= [.tmp 3]) rfl (r_tmp rfl r_nil) (retS_1 rfl)
theorem vc4_ok (r m:List UInt8) (n a:Int) (S P:List (List UInt8)) (hr:r.length=32) (hP:D32 P):ConS Tryz.prog 131 [.p 9 0,.fp [.i .i64 a,dgs S,dgs P],.fp [.i .i64 n],.fp (r.map u8)] ⟨[(9,some ((recD m S).map u8))]⟩ (RetS (.b ((climbE a n P.length==0)&&(climbD (recD m S) a n P==r))) [(9,(recD m S).map u8)]):=by
 refine enterS Tryz.func131 rfl Tryz.ntmps131 (by kernel_rfl) (Nat.le_of_ble_eq_true rfl) fun w0 X0 hI=>?_
 refine at_seq<|at_region<|s1 (y_p rfl) rfl ?_
 refine at_nil<|x_tn<|at_seq<|at_region<|s1 (y_loadA0 ti23 rfl rfl (by first|rfl|omega|(simp<;>omega)|(simp [*]<;>omega))) rfl<|s1 (y_fldf Tryz.underlying43 rfl ti3 (by decide) rfl rfl) rfl<|s1 (y_load ti3 rfl rfl rfl) rfl<|s1 (y_load ti3 rfl rfl rfl) rfl<|s1 (y_fldf Tryz.underlying43 rfl ti41 (by decide) rfl rfl) rfl<|s1 (y_load ti41 rfl rfl rfl) rfl ?_
 refine at_op rfl (n_call false rfl (.cons (.pure pu) (.cons (.pure pu) (.cons (.pure pu) (.cons (.pure pu) (.nil))))) (Con.cast (climbI_ok (recD m S) (by simp) a n P hP) (climbA_eq ..)) pu (.inl rfl) rfl ?_)
 refine s1 (y_p rfl) rfl<|s1 (y_p rfl) rfl<|s1 (y_p rfl) rfl ?_
 refine at_op rfl (n_alloc 5 rfl ti23 rfl rfl ?_)
 refine at_op rfl (n_storeA ti23 rfl rfl rfl (by first|rfl|omega|(simp<;>omega)|(simp [*]<;>omega)) (by first|rfl|omega|(simp<;>omega)|(simp [*]<;>omega)) ?_)
 refine s1 (y_p rfl) rfl ?_
 refine at_nil<|x_tn<|at_seq<|at_region<|s1 (y_p rfl) rfl<|s1 (y_p rfl) rfl<|s1 (y_p rfl) rfl ?_
 refine g_and 3 rfl rfl rfl rfl (fun hb19=> .step (y_loadA0 ti23 rfl rfl (by first|rfl|omega|(simp<;>omega)|(simp [*]<;>omega))) rfl rfl<| .step (y_loadA ti23 rfl rfl (List.take_of_length_le (by simp [hr])) (by simp [hr])) rfl rfl<| .step (y_aq Tryz.underlying23 Tryz.underlying5 ti5 (by kernel_rfl) rfl rfl (by first|assumption|(simp;done)|(simp [*];done)) (by first|assumption|(simp;done)|(simp [*];done))) rfl rfl<| .done) rfl rfl ?_
 refine s1 (y_p rfl) rfl ?_
 refine at_nil<|x_tn<|at_ret ?_
 refine at_result (rs:= [.tmp 4]) rfl (r_tmp rfl r_nil) (retS_1 rfl)
theorem kver_ok (r m:List UInt8) (n a:Int) (S P:List (List UInt8)) (hr:r.length=32) (hm:m.length=32) (hS:D32 S) (hP:D32 P):Con Tryz.prog 84 [.ag (r.map u8),.i .i64 n,.ag (m.map u8),.ag [.i .i64 a,dgs S,dgs P]] (Ret (.i .i64 (errK (verK r n m a S P)))):=by
 refine enter Tryz.func84 rfl Tryz.ntmps84 (by kernel_rfl) (Nat.le_of_ble_eq_true rfl) fun w0 X0 hI=>?_
 refine at_seq<|at_region ?_
 refine at_op rfl (n_boxA 4 rfl rfl rfl ?_)
 refine at_op rfl (n_box1 5 rfl rfl rfl rfl ?_)
 refine at_op rfl (n_boxA 6 rfl rfl rfl ?_)
 refine at_op rfl (n_boxA 7 rfl rfl rfl ?_)
 refine s1 ((y_p rfl).v (v':= .i .i64 0) rfl) rfl ?_
 refine at_nil<|x_tn<|at_seq<|at_region ?_
 refine at_op rfl (n_alloc 9 rfl ti23 rfl rfl ?_)
 refine at_nil<|x_tn<|at_seq ?_
 refine at_frzP 4 rfl rfl pul ?_
 refine at_frzP 5 rfl rfl pul ?_
 refine at_frzP 6 rfl rfl pul ?_
 refine at_frzP 7 rfl rfl pul ?_
 refine at_region<|s1 (y_func (us:= []) (vs:= [.fp [.i .i64 n]]) rfl rfl) rfl<|s1 (y_func (us:= []) (vs:= [.fp [.i .i64 a,dgs S,dgs P],.fp [.i .i64 n]]) rfl rfl) rfl<|s1 (y_func (us:= []) (vs:= [.fp (m.map u8),.fp [.i .i64 a,dgs S,dgs P],.p 9 0]) rfl rfl) rfl<|s1 (y_func (us:= []) (vs:= [.p 9 0,.fp [.i .i64 a,dgs S,dgs P],.fp [.i .i64 n],.fp (r.map u8)]) rfl rfl) rfl ?_
 refine at_op rfl (n_bs1 17 rfl Tryz.underlying169 ti25 rfl rfl rfl rfl rfl ?_)
 refine s1 (y_p rfl) rfl ?_
 refine at_nil<|x_tn<|at_seq<|at_seq<|at_region<|s1 (y_p rfl) rfl<|s1 (y_len Tryz.underlying169 rfl rfl rfl) rfl<|s1 ((y_p rfl).v (v':= .i .i64 0) rfl) rfl ?_
 refine at_nil<|x_tn<|at_block ?_
 refine at_loop (ι:=Nat) (fun i=> [(18,.sl 17 1 0 4),(19,nI 4),(20,nI i)]) (fun i=>⟨[(9,some ((pubK m S i).map u8)),(17,some ([.fn (.func 127) [] [.fp [.i .i64 n]],.fn (.func 128) [] [.fp [.i .i64 a,dgs S,dgs P],.fp [.i .i64 n]],.fn (.func 129) [] [.fp (m.map u8),.fp [.i .i64 a,dgs S,dgs P],.p 9 0],.fn (.func 131) [] [.p 9 0,.fp [.i .i64 a,dgs S,dgs P],.fp [.i .i64 n],.fp (r.map u8)]]))]⟩) (fun i=>i≤4∧(0<i→sizeK n)∧(1<i→atK n a)∧(2<i→recE S=0)∧(3<i→((climbE a n P.length==0)&&(climbD (recD m S) a n P==r))=true)) (fun i=>4 - i) ?_ ?_
 ·exact at_ex (0) (⟨by omega,fun h=>absurd h (by omega),fun h=>absurd h (by omega),fun h=>absurd h (by omega),fun h=>absurd h (by omega)⟩) [(9,some 9),(17,some 17)] hI rfl rfl ⟨⟨_,rfl,.sl rfl (by first|rfl|omega|(simp<;>omega)|(simp [*]<;>omega))⟩,⟨_,rfl,.pure pu⟩,⟨_,rfl,.pure pu⟩,trivial⟩ ⟨.inr ⟨_,_,rfl,rfl,.of (by rfl) (.pure pul)⟩,.inr ⟨_,_,rfl,rfl,.cons (.pure pu) (.cons (.pure pu) (.cons (.fn .nil (.cons (.pure pu) (.cons (.pure pu) (.cons (.p rfl) .nil)))) (.cons (.fn .nil (.cons (.p rfl) (.cons (.pure pu) (.cons (.pure pu) (.cons (.pure pu) .nil))))) .nil)))⟩,trivial⟩
 rintro i ⟨hi,p1,p2,p3,p4⟩
 refine at_seq<|at_region<|s1 (y_p rfl) rfl ?_
 refine at_nil<|x_tn<|at_seq ?_
 refine at_cond rfl (fun hc21=>?_) (fun hc21=>?_)
 ·have h21 : i < 4 := by have := of_decide_eq_true hc21; omega
  refine at_skip<|x_tn<|at_seq<|at_block<|at_seq ?_
  rcases show i=0∨i=1∨i=2∨i=3 by omega with hcs|hcs|hcs|hcs
  ·subst hcs
   refine at_region<|s1 (y_ixs 0 Tryz.underlying169 ti25 rfl rfl rfl rfl (by omega) rfl) rfl<|s1 (y_load ti25 rfl rfl rfl) rfl<|s1 (y_p rfl) rfl ?_
   refine at_nil<|x_tn<|at_seq<|at_region<|s1 (y_p rfl) rfl ?_
   refine at_op rfl (n_callv false rfl rfl (.cons (.pure pu) .nil) (vc1_ok n) pu (.inl rfl) rfl ?_)
   refine s1 (y_p rfl) rfl ?_
   refine at_nil<|x_tn ?_
   refine at_cond rfl (fun hc26=>?_) (fun hc26=>?_)
   ·skip
    refine at_seq<|at_region<|s1 ((y_p rfl).v (v':= .i .i64 60) rfl) rfl ?_
    refine at_nil<|x_tn<|at_ret<|x_br<|x_tr<|x_tr<|x_br<|x_tr ?_
    refine at_result (rs:= [.tmp 8]) rfl (r_tmp rfl r_nil) ?_
    exact congrArg (A.i .i64) (by rw [ver_k1 (by simpa using hc26)];rfl)
   ·skip
    refine at_skip<|x_bn<|x_tn<|at_region<|s1 (addN _ 1 rfl rfl rfl rfl (by omega)) rfl<|s1 (y_p rfl) rfl ?_
    refine at_nil ?_
    exact at_end (0+1) (⟨by omega,fun _=>by simpa using hc26,fun h=>absurd h (by omega),fun h=>absurd h (by omega),fun h=>absurd h (by omega)⟩) (by omega) [(9,some 9),(17,some 17)] hI rfl rfl ⟨⟨_,rfl,.sl rfl (by first|rfl|omega|(simp<;>omega)|(simp [*]<;>omega))⟩,⟨_,rfl,.pure pu⟩,⟨_,rfl,.pure pu⟩,trivial⟩ ⟨.inr ⟨_,_,rfl,rfl,.of (by rfl) (.pure pul)⟩,.inr ⟨_,_,rfl,rfl,.cons (.pure pu) (.cons (.pure pu) (.cons (.fn .nil (.cons (.pure pu) (.cons (.pure pu) (.cons (.p rfl) .nil)))) (.cons (.fn .nil (.cons (.p rfl) (.cons (.pure pu) (.cons (.pure pu) (.cons (.pure pu) .nil))))) .nil)))⟩,trivial⟩
  ·subst hcs
   refine at_region<|s1 (y_ixs 1 Tryz.underlying169 ti25 rfl rfl rfl rfl (by omega) rfl) rfl<|s1 (y_load ti25 rfl rfl rfl) rfl<|s1 (y_p rfl) rfl ?_
   refine at_nil<|x_tn<|at_seq<|at_region<|s1 (y_p rfl) rfl ?_
   refine at_op rfl (n_callv false rfl rfl (.cons (.pure pu) (.cons (.pure pu) .nil)) (vc2_ok a n S P) pu (.inl rfl) rfl ?_)
   refine s1 (y_p rfl) rfl ?_
   refine at_nil<|x_tn ?_
   refine at_cond rfl (fun hc26=>?_) (fun hc26=>?_)
   ·skip
    refine at_seq<|at_region<|s1 ((y_p rfl).v (v':= .i .i64 60) rfl) rfl ?_
    refine at_nil<|x_tn<|at_ret<|x_br<|x_tr<|x_tr<|x_br<|x_tr ?_
    refine at_result (rs:= [.tmp 8]) rfl (r_tmp rfl r_nil) ?_
    exact congrArg (A.i .i64) (by rw [ver_k2 (by simpa using hc26)];rfl)
   ·skip
    refine at_skip<|x_bn<|x_tn<|at_region<|s1 (addN _ 1 rfl rfl rfl rfl (by omega)) rfl<|s1 (y_p rfl) rfl ?_
    refine at_nil ?_
    exact at_end (1+1) (⟨by omega,fun _=>p1 (by omega),fun _=>by simpa using hc26,fun h=>absurd h (by omega),fun h=>absurd h (by omega)⟩) (by omega) [(9,some 9),(17,some 17)] hI rfl rfl ⟨⟨_,rfl,.sl rfl (by first|rfl|omega|(simp<;>omega)|(simp [*]<;>omega))⟩,⟨_,rfl,.pure pu⟩,⟨_,rfl,.pure pu⟩,trivial⟩ ⟨.inr ⟨_,_,rfl,rfl,.of (by rfl) (.pure pul)⟩,.inr ⟨_,_,rfl,rfl,.cons (.pure pu) (.cons (.pure pu) (.cons (.fn .nil (.cons (.pure pu) (.cons (.pure pu) (.cons (.p rfl) .nil)))) (.cons (.fn .nil (.cons (.p rfl) (.cons (.pure pu) (.cons (.pure pu) (.cons (.pure pu) .nil))))) .nil)))⟩,trivial⟩
  ·subst hcs
   refine at_region<|s1 (y_ixs 2 Tryz.underlying169 ti25 rfl rfl rfl rfl (by omega) rfl) rfl<|s1 (y_load ti25 rfl rfl rfl) rfl<|s1 (y_p rfl) rfl ?_
   refine at_nil<|x_tn<|at_seq<|at_region<|s1 (y_p rfl) rfl ?_
   refine at_op rfl (n_callG ⟨[(9,some (zD.map u8))]⟩ [(9,(recD m S).map u8)] false rfl rfl ⟨⟨rfl,VwL.pure pul⟩,trivial⟩ (.cons (.pure pu) (.cons (.pure pu) (.cons (.kp rfl) .nil))) (vc3_ok m a S P hm hS) trivial (.inl rfl) (upd_1 (c0:=zD.map u8) rfl pul ful) rfl ?_)
   refine s1 (y_p rfl) rfl ?_
   refine at_nil<|x_tn ?_
   refine at_cond rfl (fun hc26=>?_) (fun hc26=>?_)
   ·skip
    refine at_seq<|at_region<|s1 ((y_p rfl).v (v':= .i .i64 60) rfl) rfl ?_
    refine at_nil<|x_tn<|at_ret<|x_br<|x_tr<|x_tr<|x_br<|x_tr ?_
    refine at_result (rs:= [.tmp 8]) rfl (r_tmp rfl r_nil) ?_
    exact congrArg (A.i .i64) (by rw [ver_k3 (by simpa using hc26)];rfl)
   ·skip
    refine at_skip<|x_bn<|x_tn<|at_region<|s1 (addN _ 1 rfl rfl rfl rfl (by omega)) rfl<|s1 (y_p rfl) rfl ?_
    refine at_nil ?_
    exact at_end (2+1) (⟨by omega,fun _=>p1 (by omega),fun _=>p2 (by omega),fun _=>by simpa using hc26,fun h=>absurd h (by omega)⟩) (by omega) [(9,some 9),(17,some 17)] hI rfl rfl ⟨⟨_,rfl,.sl rfl (by first|rfl|omega|(simp<;>omega)|(simp [*]<;>omega))⟩,⟨_,rfl,.pure pu⟩,⟨_,rfl,.pure pu⟩,trivial⟩ ⟨.inr ⟨_,_,rfl,rfl,.of (by rfl) (.pure pul)⟩,.inr ⟨_,_,rfl,rfl,.cons (.pure pu) (.cons (.pure pu) (.cons (.fn .nil (.cons (.pure pu) (.cons (.pure pu) (.cons (.p rfl) .nil)))) (.cons (.fn .nil (.cons (.p rfl) (.cons (.pure pu) (.cons (.pure pu) (.cons (.pure pu) .nil))))) .nil)))⟩,trivial⟩
  ·subst hcs
   refine at_region<|s1 (y_ixs 3 Tryz.underlying169 ti25 rfl rfl rfl rfl (by omega) rfl) rfl<|s1 (y_load ti25 rfl rfl rfl) rfl<|s1 (y_p rfl) rfl ?_
   refine at_nil<|x_tn<|at_seq<|at_region<|s1 (y_p rfl) rfl ?_
   refine at_op rfl (n_callG ⟨[(9,some ((recD m S).map u8))]⟩ [(9,(recD m S).map u8)] false rfl rfl ⟨⟨rfl,VwL.pure pul⟩,trivial⟩ (.cons (.kp rfl) (.cons (.pure pu) (.cons (.pure pu) (.cons (.pure pu) .nil)))) (vc4_ok r m n a S P hr hP) trivial (.inl rfl) (upd_1 (c0:=(recD m S).map u8) rfl pul ful) rfl ?_)
   refine s1 (y_p rfl) rfl ?_
   refine at_nil<|x_tn ?_
   refine at_cond rfl (fun hc26=>?_) (fun hc26=>?_)
   ·skip
    refine at_seq<|at_region<|s1 ((y_p rfl).v (v':= .i .i64 60) rfl) rfl ?_
    refine at_nil<|x_tn<|at_ret<|x_br<|x_tr<|x_tr<|x_br<|x_tr ?_
    refine at_result (rs:= [.tmp 8]) rfl (r_tmp rfl r_nil) ?_
    exact congrArg (A.i .i64) (by rw [ver_k4 (by rwa [Bool.not_eq_true']at hc26)];rfl)
   ·skip
    refine at_skip<|x_bn<|x_tn<|at_region<|s1 (addN _ 1 rfl rfl rfl rfl (by omega)) rfl<|s1 (y_p rfl) rfl ?_
    refine at_nil ?_
    exact at_end (3+1) (⟨by omega,fun _=>p1 (by omega),fun _=>p2 (by omega),fun _=>p3 (by omega),fun _=>by simpa using hc26⟩) (by omega) [(9,some 9),(17,some 17)] hI rfl rfl ⟨⟨_,rfl,.sl rfl (by first|rfl|omega|(simp<;>omega)|(simp [*]<;>omega))⟩,⟨_,rfl,.pure pu⟩,⟨_,rfl,.pure pu⟩,trivial⟩ ⟨.inr ⟨_,_,rfl,rfl,.of (by rfl) (.pure pul)⟩,.inr ⟨_,_,rfl,rfl,.cons (.pure pu) (.cons (.pure pu) (.cons (.fn .nil (.cons (.pure pu) (.cons (.pure pu) (.cons (.p rfl) .nil)))) (.cons (.fn .nil (.cons (.p rfl) (.cons (.pure pu) (.cons (.pure pu) (.cons (.pure pu) .nil))))) .nil)))⟩,trivial⟩
 ·have h21 : i = 4 := by have := of_decide_eq_false hc21; omega
  subst h21
  refine at_exit<|x_te<|x_te<|x_be<|x_tn<|at_seq<|at_region<|s1 ((y_p rfl).v (v':= .i .i64 0) rfl) rfl ?_
  refine at_nil<|x_tn<|at_ret ?_
  refine at_result (rs:= [.tmp 8]) rfl (r_tmp rfl r_nil) ?_
  exact congrArg (A.i .i64) (by rw [ver_kt (p1 (by omega)) (p2 (by omega)) (p3 (by omega)) (p4 (by omega))];rfl)
end Go.Abs.D2
-- E5E
namespace Go.Abs.D2
open Go Go.Eng Go.Abs Go.Proofs
theorem echeck_E (r:List UInt8) (n:Int) (l:List Ep) (hr:r.length=32) (hl:EpsOk l) (hn:l.length≤maxLen):ConE Tryz.prog 40 [.ag (r.map u8),.i .i64 n,epsA l] ⟨[]⟩ (fun q st=>∃σ,formS l=some σ∧chkE r n l=0∧RetMp (mapOf σ) q st) (fun u=>chkE r n l≠0∧u=misV 136 (chkE r n l)):=by
 refine enterE Tryz.func40 rfl Tryz.ntmps40 (by kernel_rfl) (Nat.le_of_ble_eq_true rfl) fun w0 X0 hI=>?_
 refine at_seq ?_
 have hn2:=hn
 simp only [maxLen]at hn2
 refine at_region ?_
 refine at_op rfl (n_boxA 3 rfl rfl rfl ?_)
 refine s1 (y_p rfl) rfl ?_
 refine at_nil<|x_tn<|at_seq ?_
 rcases opt_ways (formS l)with hcs|hcs
 ·have hf := hcs
  refine at_region<|s1 (y_p rfl) rfl ?_
  refine p_call ⟨[]⟩ false rfl trivial (.cons (.pure pu) .nil) (eformed_px hl hn hf) (fun u hu=>?_)
  refine x_tp ?_
  exact at_panicked (show chkE r n l≠0∧_=misV 136 (chkE r n l) by rw [chkE_no hf];exact⟨by decide,hu.2⟩)
 ·obtain ⟨σ, hf⟩ := hcs
  refine at_region<|s1 (y_p rfl) rfl ?_
  refine at_op rfl (n_callMp (F:=mapOf σ) rfl (.cons (.pure pu) (.nil)) (eformed_ok hl hn hf) rfl rfl fun b12=>?_)
  refine s1 (y_p rfl) rfl ?_
  refine at_nil<|x_tn<|at_seq<|at_seq<|at_region<|s1 (y_p rfl) rfl<|s1 (y_len Tryz.underlying24 rfl rfl rfl) rfl<|s1 ((y_p rfl).v (v':= .i .i64 0) rfl) rfl ?_
  refine at_nil<|x_tn<|at_block ?_
  refine at_loop (ι:=Nat) (fun i=> [(1,.i .i64 n),(3,.p 3 0),(7,.raw (.map (some b12))),(13,epsA l),(14,nJ l.length),(15,nJ i)]) (fun i=>⟨[(3,some (r.map u8)),(700,some ([.mc b12 (mapOf σ)]))]⟩) (fun i=>i≤l.length∧∀e∈l.take i,verK r n (digE e) e.sg.a e.sg.S e.sg.P=true) (fun i=>l.length - i) ?_ ?_
  ·exact at_ex (0) (⟨Nat.zero_le _,fun e he=>by simp at he⟩) [(3,some 3),(700,some 700)] hI rfl rfl ⟨⟨_,rfl,.pure pu⟩,⟨_,rfl,.p rfl⟩,⟨_,rfl,.pure pu⟩,⟨_,rfl,.pure pu⟩,⟨_,rfl,.pure pu⟩,⟨_,rfl,.pure pu⟩,trivial⟩ ⟨.inr ⟨_,_,rfl,rfl,.pure pul⟩,.inr ⟨_,_,rfl,rfl,.pure pul⟩,trivial⟩
  rintro i ⟨hi,hall⟩
  refine at_seq<|at_region<|s1 (y_p rfl) rfl ?_
  refine at_nil<|x_tn<|at_seq ?_
  refine at_cond rfl (fun hc16=>?_) (fun hc16=>?_)
  ·have h16 : i < l.length := by have := of_decide_eq_true hc16; omega
   obtain⟨e,he⟩:∃e,l[i]? =some e:=⟨_,List.getElem?_eq_getElem h16⟩
   have hem:=List.mem_of_getElem? he
   have hok:=hl e hem
   refine at_skip<|x_tn<|at_seq<|at_block<|at_seq<|at_region<|s1 (y_ixf i Tryz.underlying24 ti45 rfl rfl rfl (by omega) rfl) rfl<|s1 (y_loadA ti45 rfl rfl (eps_get hl he) hok.len) rfl ?_
   refine at_op rfl (n_alloc 9 rfl ti45 rfl rfl ?_)
   refine at_op rfl (n_storeA ti45 rfl rfl rfl hok.len (by simp) ?_)
   refine at_nil<|x_tn<|at_seq ?_
   rcases tfC (verK r n (digE e) e.sg.a e.sg.S e.sg.P)with hcs|hcs
   ·skip
    refine at_fs ⟨_, [], []⟩ 7 4 hmix (le_refl rfl) ?_
    refine fs_q 0 [] [(3,none)] (y_loadA0 ti23 rfl rfl (by rw [List.length_map,hr])) rfl rfl ?_
    refine fs_q 1 [] [] (y_p rfl) rfl rfl ?_
    refine fs_q 2 [] [(9,none)] (y_loadA0 ti45 rfl rfl hok.len) rfl rfl ?_
    refine fs_call false 3 [2] [] gy0 rfl (.cons (.pure pu) (.nil)) (edig_ok e hok) pu (.inl rfl) rfl rfl ?_
    refine fs_q 4 [] [(9,none)] (y_fld Tryz.underlying45 rfl ti43 (by decide) rfl rfl) rfl rfl ?_
    refine fs_q 5 [4] [(9,none)] (y_loadA ti43 rfl rfl (ep_sg3 hok) rfl) rfl rfl ?_
    refine fs_call false 6 [0,1,3,5] [] gy0 rfl (.cons (.pure pu) (.cons (.pure pu) (.cons (.pure pu) (.cons (.pure pu) (.nil))))) (Con.cast (kver_ok r (digE e) n e.sg.a e.sg.S e.sg.P hr (by simp) hok.S hok.P) (show _=A.i .i64 60 by rw [hcs];rfl)) pu (.inl rfl) rfl rfl ?_
    refine fs_end (by kernel_rfl) ?_
    refine s1 (y_p rfl) rfl ?_
    refine at_nil<|x_tn<|at_region<|s1 (y_p rfl) rfl<|s1 ((y_p rfl).v (v':= .b false) (rfl)) rfl<|s1 (y_p rfl) rfl ?_
    refine p_call ⟨[]⟩ false rfl trivial (.cons (.pure pu) (.cons (.pure pu) .nil)) (eneed_px 60) (fun u hu=>?_)
    refine x_bp ?_
    refine x_tp ?_
    refine x_tp ?_
    refine x_bp ?_
    refine x_tp ?_
    exact at_panicked (show chkE r n l≠0∧_=misV 136 (chkE r n l) by rw [chkE_bad hf hem hcs];exact⟨by decide,hu⟩)
   ·skip
    refine at_fs ⟨_, [], []⟩ 7 4 hmix (le_refl rfl) ?_
    refine fs_q 0 [] [(3,none)] (y_loadA0 ti23 rfl rfl (by rw [List.length_map,hr])) rfl rfl ?_
    refine fs_q 1 [] [] (y_p rfl) rfl rfl ?_
    refine fs_q 2 [] [(9,none)] (y_loadA0 ti45 rfl rfl hok.len) rfl rfl ?_
    refine fs_call false 3 [2] [] gy0 rfl (.cons (.pure pu) (.nil)) (edig_ok e hok) pu (.inl rfl) rfl rfl ?_
    refine fs_q 4 [] [(9,none)] (y_fld Tryz.underlying45 rfl ti43 (by decide) rfl rfl) rfl rfl ?_
    refine fs_q 5 [4] [(9,none)] (y_loadA ti43 rfl rfl (ep_sg3 hok) rfl) rfl rfl ?_
    refine fs_call false 6 [0,1,3,5] [] gy0 rfl (.cons (.pure pu) (.cons (.pure pu) (.cons (.pure pu) (.cons (.pure pu) (.nil))))) (Con.cast (kver_ok r (digE e) n e.sg.a e.sg.S e.sg.P hr (by simp) hok.S hok.P) (show _=A.i .i64 0 by rw [hcs];rfl)) pu (.inl rfl) rfl rfl ?_
    refine fs_end (by kernel_rfl) ?_
    refine s1 (y_p rfl) rfl ?_
    refine at_nil<|x_tn<|at_region<|s1 (y_p rfl) rfl<|s1 ((y_p rfl).v (v':= .b true) (rfl)) rfl<|s1 (y_p rfl) rfl ?_
    refine at_op rfl (n_call false rfl (.cons (.pure pu) (.cons (.pure pu) .nil)) (eneed_ok 0) pu (.inl rfl) rfl ?_)
    refine at_nil<|x_bn<|x_tn<|at_region<|s1 (addN _ 1 rfl rfl rfl rfl (by omega)) rfl<|s1 (y_p rfl) rfl ?_
    refine at_nil ?_
    exact at_end (i+1) (⟨by omega,all_takeE he hall hcs⟩) (by omega) [(3,some 3),(700,some 700)] hI rfl rfl ⟨⟨_,rfl,.pure pu⟩,⟨_,rfl,.p rfl⟩,⟨_,rfl,.pure pu⟩,⟨_,rfl,.pure pu⟩,⟨_,rfl,.pure pu⟩,⟨_,rfl,.pure pu⟩,trivial⟩ ⟨.inr ⟨_,_,rfl,rfl,.pure pul⟩,.inr ⟨_,_,rfl,rfl,.pure pul⟩,trivial⟩
  ·obtain rfl : i = l.length := by have := of_decide_eq_false hc16; omega
   rw [List.take_length]at hall
   refine at_exit<|x_te<|x_te<|x_be<|x_tn<|at_seq<|at_region<|s1 (y_p rfl) rfl<|s1 (y_p rfl) rfl ?_
   refine at_nil<|x_tn<|at_ret ?_
   refine at_resultE (rs:= [.tmp 6]) rfl (r_tmp rfl r_nil) ?_
   exact⟨σ,hf,chkE_yes hf hall,b12,rfl,rfl⟩
theorem echeck_ok {r:List UInt8} {n:Int} {l:List Ep} (hr:r.length=32) (hl:EpsOk l) (hn:l.length≤maxLen) {σ:Int→Int} (h:formS l=some σ) (h0:chkE r n l=0):Con Tryz.prog 40 [.ag (r.map u8),.i .i64 n,epsA l] (RetMp (mapOf σ)):=(echeck_E r n l hr hl hn).ret (fun q st ⟨τ,h1,_,h2⟩=>by rw [h]at h1;cases h1;exact h2) fun u hu=>hu.1 h0
theorem echeck_px {r:List UInt8} {n:Int} {l:List Ep} (hr:r.length=32) (hl:EpsOk l) (hn:l.length≤maxLen) (h:chkE r n l≠0):ConX Tryz.prog 40 [.ag (r.map u8),.i .i64 n,epsA l] ⟨[]⟩ (fun u=>chkE r n l≠0∧u=misV 136 (chkE r n l)):=(echeck_E r n l hr hl hn).pan fun q st ⟨_,_,h1,_⟩=>h h1
theorem echk1_D (c0:A) (e:Int):ConD Tryz.prog 38 [.p 6 0] ⟨[(6,some [c0])]⟩ (fun u=>u=misV 136 e) [(6, [.i .i64 e])]:=by
 refine conD (.ic 136 (.ag [.i .i64 e])) (fun u hu X w β=>by rw [hu];exact V_mis _ _) Tryz.func38 rfl Tryz.ntmps38 (Nat.le_of_ble_eq_true rfl) rfl rfl fun w0 X0 hI=>?_
 refine at_seq<|at_region<|s1 (y_p rfl) rfl<|s1 (y_icne Tryz.underlying20 rfl) rfl ?_
 refine at_nil<|x_tn ?_
 refine at_then rfl ?_
 refine at_region<|s1 (y_p rfl) rfl ?_
 refine at_op rfl (n_call false rfl (.cons (.pure pu) (.nil)) (efail_ok e) pu (.inl rfl) rfl ?_)
 refine at_op rfl (n_store1 ti27 rfl rfl rfl rfl (by first|rfl|omega|(simp<;>omega)|(simp [*]<;>omega)) rfl ?_)
 refine at_nil ?_
 refine at_result' (rs:= []) rfl r_nil (retS_1 rfl)
theorem echk1_R:ConR Tryz.prog 38 1:=conR Tryz.func38 rfl (fun w=>run_nnil Tryz.underlying20 w) rfl ⟨Nat.le_of_ble_eq_true rfl,Nat.le_of_ble_eq_true rfl,Nat.le_of_ble_eq_true rfl,Nat.le_of_ble_eq_true rfl,Nat.le_of_ble_eq_true rfl⟩
theorem echk1_C:Callable Tryz.prog 38:=⟨_,Tryz.func38,rfl,by kernel_rfl⟩
theorem eChk_ok (r:List UInt8) (n:Int) (l:List Ep) (hr:r.length=32) (hl:EpsOk l) (hn:l.length≤maxLen):Con Tryz.prog 13 [.ag (r.map u8),.i .i64 n,epsA l] (Ret (.i .i64 (chkE r n l))):=by
 refine enterM Tryz.func13 rfl Tryz.ntmps13 (by kernel_rfl) (Nat.le_of_ble_eq_true rfl) fun w0 X0 hI hS=>?_
 refine at_seq<|at_region ?_
 refine at_op rfl (n_boxA 3 rfl rfl rfl ?_)
 refine at_op rfl (n_alloc 6 rfl ti27 rfl rfl ?_)
 refine at_nil<|x_tn<|at_seq<|at_region<|s1 (y_func (us:= []) (vs:= [.p 6 0]) rfl rfl) rfl ?_
 refine at_defer [6] hI rfl rfl trivial rfl fun w1 us hdf=>?_
 refine at_nil<|x_tn<|at_seq ?_
 rcases chk_ways r n l with hcs|hcs
 ·have h0 := hcs
  refine at_region<|s1 (y_loadA0 ti23 rfl rfl (by rw [List.length_map,hr])) rfl<|s1 (y_p rfl) rfl<|s1 (y_p rfl) rfl ?_
  refine p_call ⟨[]⟩ false rfl trivial (.cons (.pure pu) (.cons (.pure pu) (.cons (.pure pu) .nil))) (echeck_px hr hl hn h0) (fun u hu=>?_)
  refine x_tp ?_
  refine at_leaveX ⟨[(6,some [.i .i64 0])]⟩ hdf hS echk1_C ⟨⟨rfl,VwL.pure pul⟩,trivial⟩ (.cons (.kp rfl) .nil) (echk1_D _ (chkE r n l)) (hu.2) (one_upd rfl pul) rfl (r_cell ti27 rfl rfl rfl r_nil) ?_
  exact rfl
 ·obtain ⟨σ, hf, h0⟩ := hcs
  refine at_region<|s1 (y_loadA0 ti23 rfl rfl (by rw [List.length_map,hr])) rfl<|s1 (y_p rfl) rfl<|s1 (y_p rfl) rfl ?_
  refine at_op rfl (n_callMp (F:=mapOf σ) rfl (.cons (.pure pu) (.cons (.pure pu) (.cons (.pure pu) (.nil)))) (echeck_ok hr hl hn hf h0) rfl rfl fun b11=>?_)
  refine at_nil<|x_tn<|at_seq<|at_region ?_
  refine at_op rfl (n_store1 ti27 rfl rfl rfl rfl (by first|rfl|omega|(simp<;>omega)|(simp [*]<;>omega)) rfl ?_)
  refine at_nil<|x_tn<|at_ret ?_
  refine at_leaveR hdf hS echk1_C echk1_R rfl (r_cell ti27 rfl rfl rfl r_nil) ?_
  exact congrArg (A.i .i64) h0.symm
end Go.Abs.D2
-- C4T
namespace Go.Abs.D2
open Go Go.Eng Go.Abs
def two (e:CV):Bool:=decide (e.ls.length=2)
theorem wk_app {l:List A} {m m':List A} (h:WkL m m'):WkL (l++m) (l++m'):=by
  induction l with
  |nil=>exact h
  |cons a l ih=>exact .cons (.eq rfl) ih
def Sm (N:Nat) (u:CV):Prop:=(u.okB=true∧u.enc.length≤N)∨u=zV
theorem Sm.parts {N:Nat} {u:CV} (h:Sm N u):(∀e∈u.ls,Sm N e)∧u.st.length≤N∧u.ls.length≤N:=by
  rcases h with ⟨ho,hl⟩|rfl
  · obtain ⟨k, n, s, l⟩ := u
    rcases okV_kind ho with rfl|rfl|⟨rfl,h1⟩
    · rw [CV.okB, if_pos rfl] at ho
      simp only [Bool.and_eq_true,List.isEmpty_iff]at ho
      obtain⟨rfl,rfl⟩:=ho
      exact⟨(fun e he=>by cases he),Nat.zero_le _,Nat.zero_le _⟩
    · rw [CV.okB, if_neg (by decide), if_pos rfl] at ho
      simp only [Bool.and_eq_true,List.isEmpty_iff]at ho
      obtain⟨_,rfl⟩:=ho
      have:=enc_2 n s []
      exact⟨(fun e he=>by cases he),show s.length≤N by omega,Nat.zero_le _⟩
    · rw [CV.okB, if_neg (by decide), if_neg (by decide), if_pos rfl] at ho
      simp only [Bool.and_eq_true,List.isEmpty_iff]at ho
      obtain⟨⟨_,rfl⟩,_⟩:=ho
      rw [CV.okBL_all]at h1
      have e1:=enc_3 n [] l
      have e2:=CV.len_encL l
      exact⟨fun e he=> .inl ⟨List.all_eq_true.1 h1 e he,by have:=mem_enc (show e∈l from he);omega⟩,Nat.zero_le _,show l.length≤N by omega⟩
  · exact⟨(fun e he=>by cases he),Nat.zero_le _,Nat.zero_le _⟩
theorem Sm.nth {N:Nat} {u:CV} (h:Sm N u) (i:Nat):Sm N (nthV u i):=by
  unfold nthV
  rw [List.getD_eq_getElem?_getD]
  cases hi:u.ls[i]? with
  |none=>exact .inr rfl
  |some e=>exact h.parts.1 e (List.mem_of_getElem? hi)
theorem Sm.cas {N:Nat} {v:CV} (h:Sm N v):(∀f∈(readC v).F,f.D.length≤N)∧(readC v).E.length≤N∧(readC v).F.length≤N:=by
  refine⟨fun f hf=>?_,?_,?_⟩
  · obtain ⟨i, hi⟩ := List.mem_iff_getElem?.1 hf
    have hi:(List.mapIdx filR (nthV v 1).ls)[i]? =some f:=hi
    rw [List.getElem?_mapIdx]at hi
    obtain⟨e,he,rfl⟩:=Option.map_eq_some_iff.1 hi
    exact(((h.nth 1).parts.1 e (List.mem_of_getElem? he)).nth 1).parts.2.1
  · show ((nthV v 2).ls.map CV.nm).length ≤ N
    rw [List.length_map];exact(h.nth 2).parts.2.2
  · show (filsR (nthV v 1).ls).length ≤ N
    rw [len_filsR];exact(h.nth 1).parts.2.2
end Go.Abs.D2
-- V6S
namespace Go.Abs.D2
open Go Go.Eng Go.Abs
def joinT (p q:List UInt8):Nat→List UInt8
  |0=>List.replicate 16 0
  |i+1=>(joinT p q i).set i (p.getD i 0 ^^^ q.getD i 0)
@[simp] theorem len_joinT (p q : List UInt8) : ∀ i, (joinT p q i).length = 16
  |0=>by simp [joinT]
  |i+1=>by rw [joinT,List.length_set,len_joinT p q i]
theorem getB {l:List Bool} {i:Nat} {b:Bool} (h:l[i]? =some b):((l.map A.b).drop (i*1))[0]? =some (.b b):=by
  rw [List.getElem?_drop,show i*1+0=i by omega,List.getElem?_map,h];rfl
end Go.Abs.D2
-- S7V
namespace Go.Abs.D2
open Go Go.Eng Go.Abs
theorem chkC_casB {x : List UInt8} {p q : List Int} (h : okB2 p q = true) : chkC (casB x p q) = true := by
  have hsub:=bS_sub x p q (endB x p q)
  have hE:=end_le x p q
  have hasc : ∀ n, listedB (bS x p q n).2.1 = true ∧ listedB (bS x p q n).2.2 = true := by
    intro n
    induction n with
    | zero =>
      unfold okB2 at h
      simp only [Bool.and_eq_true]at h
      exact⟨h.1.1,h.1.2⟩
    | succ n ih =>
      refine⟨?_,ih.1⟩
      rw [bS]
      have key:∀(l:List Int) (f:Int→Bool) (last:Int),ascB last l=true→ascB last (l.filter f)=true:=by
        intro l f
        induction l with
        |nil=>intro last _;rfl
        | cons a l ih2 =>
          intro last hl
          simp only [ascB,Bool.and_eq_true,decide_eq_true_eq]at hl
          cases hf:f a with
          | true =>
            rw [List.filter_cons_of_pos hf]
            simp only [ascB,Bool.and_eq_true,decide_eq_true_eq]
            exact⟨hl.1,ih2 _ hl.2⟩
          | false =>
            rw [List.filter_cons_of_neg (by rw [hf];simp)]
            have h3:=ih2 a hl.2
            have mono:∀(m:List Int) (u v:Int),u≤v→ascB v m=true→ascB u m=true:=by
              intro m u v huv hm
              cases m with
              |nil=>rfl
              | cons b m =>
                simp only [ascB,Bool.and_eq_true,decide_eq_true_eq]at hm ⊢
                exact⟨⟨by omega,hm.1.2⟩,hm.2⟩
            exact mono _ _ _ (by omega) h3
      exact key _ _ _ ih.2
  have hlev:∀n,n≤16→∀F:List Fil,(∀i,i<F.length→∃a,F[i]? =some (filO x (n+i) a))→n+F.length≤16→levB n F=true:=by
    intro n hn F
    induction F generalizing n with
    |nil=>intro _ _;rfl
    | cons f F ih =>
      intro hF hl
      rw [List.length_cons]at hl
      obtain⟨a,ha⟩:=hF 0 (by simp)
      simp only [List.getElem?_cons_zero,Option.some.injEq,Nat.add_zero]at ha
      subst ha
      simp only [levB,Bool.and_eq_true,decide_eq_true_eq]
      refine⟨⟨rfl,chk_filO x n a (by omega)⟩,ih (n+1) (by omega) (fun i hi=>?_) (by omega)⟩
      obtain⟨b,hb⟩:=hF (i+1) (by rw [List.length_cons];omega)
      exact⟨b,by rw [List.getElem?_cons_succ]at hb;rw [hb,show n+1+i=n+(i+1) by omega]⟩
  refine chkC_yes ?_ (hasc _).1 ?_
  · show (bS x p q (endB x p q)).1.length ≤ 16
    rw [len_bS];exact hE
  · refine hlev 0 (by omega) _ (fun i hi => ?_) ?_
    · have hi' : i < endB x p q := by
        have:i<(bS x p q (endB x p q)).1.length:=hi
        rwa [len_bS]at this
      exact⟨_,by rw [Nat.zero_add];exact bS_get x p q _ i hi'⟩
    · show 0 + (bS x p q (endB x p q)).1.length ≤ 16
      rw [len_bS];omega
end Go.Abs.D2
-- C4U
namespace Go.Abs.D2
open Go Go.Eng Go.Abs
theorem casB_small {x:List UInt8} {p q:List Int} (hp:p.length≤100) (hq:q.length≤100):(casB x p q).E.length≤100∧(casB x p q).F.length≤16:=by
  refine⟨(bS_len hp hq _).1,?_⟩
  show(bS x p q (endB x p q)).1.length≤16
  rw [len_bS];exact end_le x p q
end Go.Abs.D2
-- E5Q
namespace Go.Abs.D2
open Go Go.Eng Go.Abs
def badS (σ:Int→Int) (l:List Int):List Int:=l.filter fun n=>σ n !=0
def goodS (σ:Int→Int) (l:List Int):List Int:=l.filter fun n=>!(σ n !=0)
def keysS (σ:Int→Int):List Int:=((List.range 1024).map fun k:Nat=>(k:Int)).filter fun n=>σ n !=0
def Sup (σ:Int→Int):Prop:=∀k,σ k≠0→0≤k∧k<1024
theorem sup0:Sup σ0:=fun _ h=>absurd rfl h
theorem keysS_nodup (σ:Int→Int):(keysS σ).Nodup:=by
  refine List.Nodup.sublist List.filter_sublist ?_
  rw [List.nodup_iff_pairwise_ne,List.pairwise_map]
  exact List.nodup_iff_pairwise_ne.1 List.nodup_range |>.imp fun h e=>h (by omega)
theorem keysS_mem {σ:Int→Int} (h:Sup σ) (k:Int):(mapOf σ k).isSome=true↔k∈keysS σ:=by
  unfold keysS mapOf
  rw [List.mem_filter]
  constructor
  · intro hs
    by_cases h0:σ k=0
    · rw [if_pos h0]at hs;cases hs
    · obtain ⟨h1, h2⟩ := h k h0
      exact⟨List.mem_map.2 ⟨k.toNat,List.mem_range.2 (by omega),by omega⟩,bne_iff_ne.2 h0⟩
  · rintro ⟨_, h0⟩
    rw [if_neg (bne_iff_ne.1 h0)];rfl
@[irreducible] def splB (σ:Int→Int) (l:List Int):Bool:=listedB l&&decide ((badS σ l).length=(keysS σ).length)
theorem spl_1 {σ:Int→Int} {l:List Int} (h:listedB l=false):splB σ l=false:=by unfold splB;rw [h];rfl
theorem spl_2 {σ:Int→Int} {l:List Int} (h:(badS σ l).length≠(keysS σ).length):splB σ l=false:=by unfold splB;rw [decide_eq_false h,Bool.and_false]
theorem spl_3 {σ:Int→Int} {l:List Int} (h1:listedB l=true) (h:(badS σ l).length=(keysS σ).length):splB σ l=true:=by unfold splB;rw [h1,decide_eq_true h];rfl
theorem spl_listed {σ:Int→Int} {l:List Int} (h:splB σ l=true):listedB l=true:=by
  cases hl:listedB l with
  |true=>rfl
  |false=>rw [spl_1 hl]at h;cases h
theorem bad_hit {σ:Int→Int} {l:List Int} {i:Nat} {n:Int} (h:l[i]? =some n) (hn:σ n≠0):badS σ (l.take (i+1))=badS σ (l.take i)++ [n]∧goodS σ (l.take (i+1))=goodS σ (l.take i):=by
  unfold badS goodS
  rw [List.take_add_one,h,List.filter_append,List.filter_append]
  simp [hn]
theorem bad_miss {σ:Int→Int} {l:List Int} {i:Nat} {n:Int} (h:l[i]? =some n) (hn:σ n=0):badS σ (l.take (i+1))=badS σ (l.take i)∧goodS σ (l.take (i+1))=goodS σ (l.take i)++ [n]:=by
  unfold badS goodS
  rw [List.take_add_one,h,List.filter_append,List.filter_append]
  simp [hn]
theorem len_bad (σ:Int→Int) (l:List Int):(badS σ l).length≤l.length:=List.length_filter_le ..
theorem len_good (σ:Int→Int) (l:List Int):(goodS σ l).length≤l.length:=List.length_filter_le ..
theorem asc_filter {p:Int→Bool}:∀ {l:List Int} {a b:Int},a≤b→ascB b l=true→ascB a (l.filter p)=true
  | [],_,_,_,_=>rfl
  | n :: l, a, b, hab, h => by
    simp only [ascB,Bool.and_eq_true,decide_eq_true_eq]at h
    rw [List.filter_cons]
    split
    · simp only [ascB, Bool.and_eq_true, decide_eq_true_eq]
      exact⟨⟨by omega,h.1.2⟩,asc_filter (Int.le_refl _) h.2⟩
    · exact asc_filter (b:=n) (by omega) h.2
theorem ok2_split {σ:Int→Int} {l:List Int} (h:listedB l=true):okB2 (badS σ l) (goodS σ l)=true:=by
  unfold okB2
  have h1:listedB (badS σ l)=true:=asc_filter (Int.le_refl _) h
  have h2:listedB (goodS σ l)=true:=asc_filter (Int.le_refl _) h
  rw [h1,h2]
  show Go.Eng.disjB _ _=true
  unfold Go.Eng.disjB
  rw [List.all_eq_true]
  intro n hn
  have h3:=(List.mem_filter.1 hn).2
  rw [Bool.not_eq_true',decide_eq_false_iff_not]
  intro hb
  have h4:=(List.mem_filter.1 hb).2
  rw [h4]at h3;cases h3
abbrev tagS:List UInt8:= [115,97,108,116]
@[irreducible] def saltD (x:List UInt8) (no:Nat):List UInt8:=tagged tagS (x++seedBs (no:Int) 4)
theorem saltD_eq (x:List UInt8) (no:Nat):saltD x no=tagged tagS (x++seedBs (no:Int) 4):=by unfold saltD;rfl
@[simp] theorem len_saltD (x:List UInt8) (no:Nat):(saltD x no).length=32:=by rw [saltD_eq];simp
def casE (x:List UInt8) (no:Nat) (σ:Int→Int) (ids:List Int):Cas:=casB (saltD x no) (badS σ ids) (goodS σ ids)
def lastD (l:List Ep):List UInt8:=match l.getLast? with
  |none=>zD
  |some e=>digE e
def next0 (x:List UInt8) (l:List Ep) (iss day:Int) (ids:List Int) (c:List Ch) (σ:Int→Int):Ep:=⟨iss,(l.length:Nat),day,c,digC (casE x l.length σ ids),lastD l,⟨0, [], []⟩⟩
def nextE (x:List UInt8) (k:Nat) (l:List Ep) (iss day:Int) (ids:List Int) (c:List Ch) (σ:Int→Int):Ep:=
  {next0 x l iss day ids c σ with sg:=⟨(l.length:Nat),signD (seedL x (l.length:Nat)) (digE (next0 x l iss day ids c σ)),path (kpubs x k) l.length⟩}
theorem digE_sg (e:Ep) (s:Lf):digE {e with sg:=s}=digE e:=by rw [digE_eq,digE_eq];rfl
def argE (iss day:Int):Bool:=((decide (iss≥0)&&decide (iss<8))&&decide (day≥0))&&decide (day<1024)
def lastE (l:List Ep) (iss day:Int):Bool:=match l.getLast? with
  |none=>true
  |some e=>(iss==e.iss)&&decide (day>e.day)
@[irreducible] def pubX (x : List UInt8) (n : Int) (l : List Ep) (iss day : Int) (ids : List Int) (c : List Ch) : Int ⊕ Ep :=
  if sizeK n then
    match formS l with
    |none=> .inl 351
    | some σ => if chkE (rootD x n) n l = 0 then
        if(l.length:Int)=n then .inl 2 else if argE iss day&&(lastE l iss day&&(chOk σ (-1) c&&splB (chg σ c) ids))then .inr (nextE x n.toNat l iss day ids c (chg σ c))else .inl 351
      else .inl (chkE (rootD x n) n l)
  else .inl 60
def resE (l:List Ep):Int ⊕ Ep→A
  | .inl e=> .tu [.nl,.i .i64 e]
  | .inr e=> .tu [epsA (l++ [e]),.i .i64 0]
section
variable {x:List UInt8} {n:Int} {l:List Ep} {iss day:Int} {ids:List Int} {c:List Ch} {σ:Int→Int}
theorem pub_1 (h:¬sizeK n):pubX x n l iss day ids c= .inl 60:=by unfold pubX;rw [if_neg h]
theorem pub_2 (h:sizeK n) (h2:chkE (rootD x n) n l≠0):pubX x n l iss day ids c= .inl (chkE (rootD x n) n l):=by
  unfold pubX
  rw [if_pos h]
  cases hf:formS l with
  |none=>simp only;rw [chkE_no hf]
  |some σ=>simp only;rw [if_neg h2]
theorem pub_3 (h:sizeK n) (hf:formS l=some σ) (h2:chkE (rootD x n) n l=0) (h3:(l.length:Int)=n):pubX x n l iss day ids c= .inl 2:=by
  unfold pubX;rw [if_pos h,hf];simp only;rw [if_pos h2,if_pos h3]
theorem pub_4 (h:sizeK n) (hf:formS l=some σ) (h2:chkE (rootD x n) n l=0) (h3:¬(l.length:Int)=n) (h4:argE iss day=false∨lastE l iss day=false∨chOk σ (-1) c=false∨splB (chg σ c) ids=false):pubX x n l iss day ids c= .inl 351:=by
  unfold pubX;rw [if_pos h,hf];simp only;rw [if_pos h2,if_neg h3,if_neg]
  rcases h4 with h4|h4|h4|h4<;>simp [h4]
theorem pub_5 (h:sizeK n) (hf:formS l=some σ) (h2:chkE (rootD x n) n l=0) (h3:¬(l.length:Int)=n) (h4:argE iss day=true) (h5:lastE l iss day=true) (h6:chOk σ (-1) c=true) (h7:splB (chg σ c) ids=true):pubX x n l iss day ids c= .inr (nextE x n.toNat l iss day ids c (chg σ c)):=by
  unfold pubX;rw [if_pos h,hf];simp only;rw [if_pos h2,if_neg h3,if_pos (by simp [h4,h5,h6,h7])]
theorem last_nil (h:l= []):lastE l iss day=true∧lastD l=zD:=by subst h;exact⟨rfl,rfl⟩
theorem last_get {e:Ep} (h:l[l.length - 1]? =some e):lastE l iss day=((iss==e.iss)&&decide (day>e.day))∧lastD l=digE e:=by
  have:l.getLast?=some e:=by rw [List.getLast?_eq_getElem?];exact h
  unfold lastE lastD;rw [this];exact⟨rfl,rfl⟩
end
theorem sup_chg:∀ {c:List Ch} {σ:Int→Int} {la:Int},Sup σ→ -1≤la→chOk σ la c=true→Sup (chg σ c)
  | [],_,_,h,_,_=>h
  | c :: r, σ, la, h, hla, hk => by
    simp only [chOk,chB,Bool.and_eq_true,decide_eq_true_eq]at hk
    obtain⟨⟨⟨⟨⟨h1,h2⟩,_⟩,_⟩,_⟩,h3⟩:=hk
    refine sup_chg (c:=r) (la:=c.id) (fun k hk=>?_) (by omega) h3
    unfold updσ at hk
    split at hk
    · omega
    · exact h k hk
theorem sup_frm:∀ {l:List Ep} {iss:Int} {no:Nat} {day:Int} {prev:List UInt8} {σ τ:Int→Int},Sup σ→frm iss no day prev σ l=some τ→Sup τ
  | [],_,_,_,_,_,_,h,hf=>by cases hf;exact h
  | e :: r, iss, no, day, prev, σ, τ, h, hf => by
    rw [frm]at hf
    split at hf
    · rename_i hb
      simp only [Bool.and_eq_true]at hb
      exact sup_frm (sup_chg h (by omega) hb.2) hf
    · cases hf
theorem sup_form {l:List Ep} {σ:Int→Int} (h:formS l=some σ):Sup σ:=by rw [formS_eq]at h;exact sup_frm sup0 h
theorem frm_sg : ∀ {l : List Ep} {iss : Int} {no : Nat} {day : Int} {prev : List UInt8} {σ τ : Int → Int}, frm iss no day prev σ l = some τ → ∀ i e, l[i]? = some e → e.sg.a = ((no + i : Nat) : Int)
  | [],_,_,_,_,_,_,_,i,e,h=>by simp at h
  | e :: r, iss, no, day, prev, σ, τ, hf, i, a, h => by
    rw [frm]at hf
    split at hf
    · rename_i hb
      simp only [Bool.and_eq_true,epB,beq_iff_eq]at hb
      cases i with
      |zero=>simp at h;subst h;simpa using hb.1.1.2.1.2
      | succ i =>
        have:=frm_sg hf i a (by simpa using h)
        rw [this];congr 1;omega
    · cases hf
theorem chkE_len {r:List UInt8} {k:Nat} {l:List Ep} {σ:Int→Int} (hf:formS l=some σ) (h:chkE r (k:Int) l=0):l.length≤k:=by
  rcases Nat.eq_zero_or_pos l.length with h0|h0
  · omega
  · obtain ⟨e, he⟩ : ∃ e, l[l.length - 1]? = some e := ⟨_, List.getElem?_eq_getElem (by omega)⟩
    have hv:verK r k (digE e) e.sg.a e.sg.S e.sg.P=true:=by
      cases hv:verK r k (digE e) e.sg.a e.sg.S e.sg.P with
      |true=>rfl
      |false=>rw [chkE_bad hf (List.mem_of_getElem? he) hv]at h;cases h
    have h1:=(ver_spec hv).2.1
    rw [formS_eq]at hf
    have h2:=frm_sg hf _ e he
    unfold atK at h1
    omega
def nxC (iss no day:Int) (c:List Ch) (cas prev:List UInt8):List A:= .i .i64 iss:: .i .i64 no:: .i .i64 day::chsA c::(cas.map u8++(prev.map u8++ [.i .i64 0,.nl,.nl]))
instance {iss no day:Int} {c:List Ch} {cas prev:List UInt8}:IsPureL (nxC iss no day c cas prev):=by unfold nxC;infer_instance
theorem nx_len {iss no day:Int} {c:List Ch} {cas prev:List UInt8} (h1:cas.length=32) (h2:prev.length=32):(nxC iss no day c cas prev).length=71:=by simp [nxC,h1,h2]
theorem nx_prev {iss no day:Int} {c:List Ch} {cas prev q:List UInt8} (h1:cas.length=32) (h2:prev.length=32):(nxC iss no day c cas prev).take 36++q.map u8++(nxC iss no day c cas prev).drop 68=nxC iss no day c cas q:=by
  have e1:(nxC iss no day c cas prev).take 36= .i .i64 iss:: .i .i64 no:: .i .i64 day::chsA c::cas.map u8:=by
    show _::_::_::_::((cas.map u8++_).take 32)=_
    rw [List.take_left' (by rw [List.length_map,h1])]
  have e2:(nxC iss no day c cas prev).drop 68= [.i .i64 0,.nl,.nl]:=by
    show((cas.map u8++(prev.map u8++_)).drop 64)=_
    rw [←List.append_assoc,List.drop_left' (by rw [List.length_append,List.length_map,List.length_map,h1,h2])]
  rw [e1,e2]
  simp [nxC]
theorem nx_cas {iss no day:Int} {c:List Ch} {cas prev q:List UInt8} (h1:cas.length=32):(nxC iss no day c cas prev).take 4++q.map u8++(nxC iss no day c cas prev).drop 36=nxC iss no day c q prev:=by
  have e2:(nxC iss no day c cas prev).drop 36=prev.map u8++ [.i .i64 0,.nl,.nl]:=by
    show((cas.map u8++_).drop 32)=_
    rw [List.drop_left' (by rw [List.length_map,h1])]
  rw [e2]
  simp [nxC]
theorem nx_wk {x:List UInt8} {l:List Ep} {iss day:Int} {ids:List Int} {c:List Ch} {σ:Int→Int}:WkL (nxC iss (l.length:Nat) day c (digC (casE x l.length σ ids)) (lastD l)) (next0 x l iss day ids c σ).cells:=by
  unfold nxC next0 Ep.cells
  exact .cons (.eq rfl) (.cons (.eq rfl) (.cons (.eq rfl) (.cons (.eq rfl) (wk_app (wk_app (.cons (.eq rfl) (.cons .nl (.cons .nl .nil))))))))
@[simp] theorem len_lastD (l : List Ep) : (lastD l).length = 32 := by
  unfold lastD
  split
  · rfl
  · simp
theorem D32_nil5:D32 []:=fun y hy=>by cases hy
theorem next0_ok {x:List UInt8} {l:List Ep} {iss day:Int} {ids:List Int} {c:List Ch} {σ:Int→Int} (hn:l.length≤1000) (hi:rg iss) (hd:rg day) (hc:c.length≤1000) (hcr:∀e∈c,rg e.id∧rg e.st):(next0 x l iss day ids c σ).ok:=
  ⟨hi,⟨by show(-9223372036854775808:Int)≤(l.length:Nat);omega,by show((l.length:Nat):Int)≤9223372036854775807;omega⟩,hd,hcr,hc,len_digC _,len_lastD _,D32_nil5,D32_nil5⟩
theorem nextE_ok {x:List UInt8} {k:Nat} {l:List Ep} {iss day:Int} {ids:List Int} {c:List Ch} {σ:Int→Int} (hn:l.length≤1000) (hi:rg iss) (hd:rg day) (hc:c.length≤1000) (hcr:∀e∈c,rg e.id∧rg e.st):(nextE x k l iss day ids c σ).ok:=
  ⟨hi,⟨by show(-9223372036854775808:Int)≤(l.length:Nat);omega,by show((l.length:Nat):Int)≤9223372036854775807;omega⟩,hd,hcr,hc,len_digC _,len_lastD _,D32_signD _ _,D32_path _ _ _ (Nat.le_refl _)⟩
theorem nx_sg {e:Ep} {s:Lf} (h:e.ok):e.cells.take 68++ [.i .i64 s.a,dgs s.S,dgs s.P]++e.cells.drop 71=({e with sg:=s}:Ep).cells:=by
  have e1:e.cells.take 68= .i .i64 e.iss:: .i .i64 e.no:: .i .i64 e.day::chsA e.ch::(e.cas.map u8++e.prev.map u8):=by
    show _::_::_::_::((e.cas.map u8++(e.prev.map u8++_)).take 64)=_
    rw [←List.append_assoc,List.take_left' (by rw [List.length_append,List.length_map,List.length_map,h.cas,h.prev])]
  rw [e1,List.drop_of_length_le (by rw [h.len];omega)]
  simp [Ep.cells]
theorem eps_snoc (l:List Ep) (e:Ep):epsC l++e.cells=epsC (l++ [e]):=by simp [epsC]
theorem epsOk_snoc {l:List Ep} {e:Ep} (h:EpsOk l) (he:e.ok):EpsOk (l++ [e]):=fun x hx=>by
  rcases List.mem_append.1 hx with hx|hx
  · exact h x hx
  · rw [List.mem_singleton.1 hx];exact he
theorem four_b0 (a:Int):A.i .u8 (IntKind.u8.wrap (a.fdiv (2 ^ min ((24:Int).toNat) IntKind.i64.bits)))=u8 (seedB a 0):=shr_byte a 0 (by omega)
theorem four_b1 (a:Int):A.i .u8 (IntKind.u8.wrap (a.fdiv (2 ^ min ((16:Int).toNat) IntKind.i64.bits)))=u8 (seedB a 1):=shr_byte a 1 (by omega)
theorem four_b2 (a:Int):A.i .u8 (IntKind.u8.wrap (a.fdiv (2 ^ min ((8:Int).toNat) IntKind.i64.bits)))=u8 (seedB a 2):=shr_byte a 2 (by omega)
theorem four_b3 (a:Int):A.i .u8 (IntKind.u8.wrap a)=u8 (seedB a 3):=by
  refine congrArg (A.i .u8) ?_
  unfold seedB
  rw [UInt8.toNat_ofNat']
  show a % 256=_
  omega
theorem len_zero_pos (n:Nat):n=0∨0<n:=Nat.eq_zero_or_pos n
end Go.Abs.D2
-- E5F
namespace Go.Abs.D2
open Go Go.Eng Go.Abs Go.Proofs
theorem clC_ok (l:List Ch) (hl:l.length≤1000000):Con Tryz.prog 47 [chsA l] (Ret (chsA l)):=by
 refine enter Tryz.func47 rfl Tryz.ntmps47 (by kernel_rfl) (Nat.le_of_ble_eq_true rfl) fun w0 X0 hI=>?_
 refine at_seq<|at_region<|s1 (y_p rfl) rfl ?_
 refine at_nil<|x_tn<|at_seq<|at_seq ?_
 rcases len_zero_pos l.length with hcs|hcs
 ·obtain rfl := List.length_eq_zero_iff.1 hcs
  refine at_region<|s1 (y_p rfl) rfl ?_
  refine at_op rfl (n_nil0 Tryz.underlying31 rfl rfl rfl fun q4=>?_)
  refine at_nil<|x_tn ?_
  refine at_cond rfl (fun hc4=>?_) (fun hc4=>?_)
  ·skip
   refine at_seq<|at_region<|s1 (y_p rfl) rfl ?_
   refine at_nil<|x_tn<|at_ret<|x_tr ?_
   refine at_wk 2 rfl .nl ?_
   refine at_result (rs:= [.tmp 2]) rfl (r_tmp rfl r_nil) ?_
   rfl
  ·skip
   refine at_skip<|x_tn<|at_seq<|at_region ?_
   refine at_op rfl (n_bs 5 rfl Tryz.underlying31 ti55 rfl rfl rfl (by first|(simp [cellsA];done)|(simp [cellsA, *];done)) (show flatA []= []from rfl) rfl rfl rfl ?_)
   refine s1 (y_p rfl) rfl ?_
   refine at_op rfl (n_app 7 rfl Tryz.underlying31 ti55 rfl (.sl rfl (by simp)) rfl rfl (by simp) (by simp only [maxLen];omega) (by omega) rfl rfl rfl ?_)
   refine s1 (y_p rfl) rfl ?_
   refine at_nil<|x_tn<|at_ret ?_
   refine at_frz 2 rfl rfl pul (view_eq (by simp) rfl) ?_
   refine at_result (rs:= [.tmp 2]) rfl (r_tmp rfl r_nil) ?_
   rfl
 ·skip
  refine at_region<|s1 (y_p rfl) rfl<|s1 (y_fznil Tryz.underlying31 rfl rfl hcs) rfl ?_
  refine at_nil<|x_tn ?_
  refine at_else rfl ?_
  refine at_skip<|x_tn<|at_seq<|at_region ?_
  refine at_op rfl (n_bs 5 rfl Tryz.underlying31 ti55 rfl rfl rfl (by first|(simp [cellsA];done)|(simp [cellsA, *];done)) (show flatA []= []from rfl) rfl rfl rfl ?_)
  refine s1 (y_p rfl) rfl ?_
  refine at_op rfl (n_app 7 rfl Tryz.underlying31 ti55 rfl (.sl rfl (by simp)) rfl rfl (by simp) (by simp only [maxLen];omega) (by omega) rfl rfl rfl ?_)
  refine s1 (y_p rfl) rfl ?_
  refine at_nil<|x_tn<|at_ret ?_
  refine at_frz 2 rfl rfl pul (view_eq (by simp) rfl) ?_
  refine at_result (rs:= [.tmp 2]) rfl (r_tmp rfl r_nil) ?_
  exact congrArg (fun n=>A.fz n (chsC l)) (Nat.zero_add _)
theorem clE_ok (l:List Ep) (h:EpsOk l) (hl:l.length≤1000000):Con Tryz.prog 54 [epsA l] (RetO 71 l.length (epsC l)):=by
 refine enter Tryz.func54 rfl Tryz.ntmps54 (by kernel_rfl) (Nat.le_of_ble_eq_true rfl) fun w0 X0 hI=>?_
 refine at_seq<|at_region<|s1 (y_p rfl) rfl ?_
 refine at_nil<|x_tn<|at_seq<|at_seq ?_
 rcases len_zero_pos l.length with hcs|hcs
 ·obtain rfl := List.length_eq_zero_iff.1 hcs
  have hel:=len_epsC h
  refine at_region<|s1 (y_p rfl) rfl ?_
  refine at_op rfl (n_nil0 Tryz.underlying24 rfl rfl rfl fun q4=>?_)
  refine at_nil<|x_tn ?_
  refine at_cond rfl (fun hc4=>?_) (fun hc4=>?_)
  ·skip
   refine at_seq<|at_region<|s1 (y_p rfl) rfl ?_
   refine at_nil<|x_tn<|at_ret<|x_tr ?_
   refine at_ph 9 rfl 2 71 rfl ?_
   refine at_result (rs:= [.tmp 2]) rfl (r_tmp rfl r_nil) ⟨9,rfl,rfl⟩
  ·skip
   refine at_skip<|x_tn<|at_seq<|at_region ?_
   refine at_op rfl (n_bs 5 rfl Tryz.underlying24 ti45 rfl rfl rfl (by first|(simp [cellsA];done)|(simp [cellsA, *];done)) (show flatA []= []from rfl) rfl rfl rfl ?_)
   refine s1 (y_p rfl) rfl ?_
   refine at_op rfl (n_app 7 rfl Tryz.underlying24 ti45 rfl (.sl rfl (by simp)) rfl rfl (by first|rfl|omega) (by simp only [maxLen];omega) (by omega) rfl rfl rfl ?_)
   refine s1 (y_p rfl) rfl ?_
   refine at_nil<|x_tn<|at_ret ?_
   refine at_result (rs:= [.tmp 2]) rfl (r_tmp rfl r_nil) ⟨7,rfl,rfl⟩
 ·skip
  have hel:=len_epsC h
  refine at_region<|s1 (y_p rfl) rfl<|s1 (y_fznil Tryz.underlying24 rfl rfl hcs) rfl ?_
  refine at_nil<|x_tn ?_
  refine at_else rfl ?_
  refine at_skip<|x_tn<|at_seq<|at_region ?_
  refine at_op rfl (n_bs 5 rfl Tryz.underlying24 ti45 rfl rfl rfl (by first|(simp [cellsA];done)|(simp [cellsA, *];done)) (show flatA []= []from rfl) rfl rfl rfl ?_)
  refine s1 (y_p rfl) rfl ?_
  refine at_op rfl (n_app 7 rfl Tryz.underlying24 ti45 rfl (.sl rfl (by simp)) rfl rfl (by first|rfl|omega) (by simp only [maxLen];omega) (by omega) rfl rfl rfl ?_)
  refine s1 (y_p rfl) rfl ?_
  refine at_nil<|x_tn<|at_ret ?_
  refine at_result (rs:= [.tmp 2]) rfl (r_tmp rfl r_nil) ⟨7,congrArg (A.sl 7 71 0) (Nat.zero_add _),rfl⟩
theorem four_ok (a:Int):Con Tryz.prog 52 [.i .i64 a] (Ret (.fz 4 ((seedBs a 4).map u8))):=by
 refine enter Tryz.func52 rfl Tryz.ntmps52 (by kernel_rfl) (Nat.le_of_ble_eq_true rfl) fun w0 X0 hI=>?_
 refine at_seq<|at_region<|s1 (y_p rfl) rfl ?_
 refine at_nil<|x_tn<|at_seq<|at_region<|s1 (y_p rfl) rfl<|s1 (y_shr rfl rfl (by decide)) rfl<|s1 ((y_conv Tryz.underlying3 Tryz.underlying5 rfl).v (four_b0 a)) rfl<|s1 (y_p rfl) rfl<|s1 (y_shr rfl rfl (by decide)) rfl<|s1 ((y_conv Tryz.underlying3 Tryz.underlying5 rfl).v (four_b1 a)) rfl<|s1 (y_p rfl) rfl<|s1 (y_shr rfl rfl (by decide)) rfl<|s1 ((y_conv Tryz.underlying3 Tryz.underlying5 rfl).v (four_b2 a)) rfl<|s1 (y_p rfl) rfl ?_
 refine s1 ((y_conv Tryz.underlying3 Tryz.underlying5 rfl).v (four_b3 a)) rfl ?_
 refine at_op rfl (n_bsZ Tryz.underlying68 ti5 rfl rfl rfl (len_one rfl) (flatA_one rfl) pul rfl rfl rfl ?_)
 refine s1 (y_p rfl) rfl ?_
 refine at_nil<|x_tn<|at_ret ?_
 refine at_result (rs:= [.tmp 2]) rfl (r_tmp rfl r_nil) ?_
 rfl
theorem split35_E (b:Nat) (σ:Int→Int) (hs:Sup σ) (ids:List Int) (hn:ids.length≤1000):ConE Tryz.prog 49 [.raw (.map (some b)),.fz ids.length (ids.map (A.i .i64))] ⟨[(700,some [.mc b (mapOf σ)])]⟩ (fun r st=>splB σ ids=true∧RetS (.tu [.fz (badS σ ids).length ((badS σ ids).map (A.i .i64)),.fz (goodS σ ids).length ((goodS σ ids).map (A.i .i64))]) [] r st) (fun u=>splB σ ids=false∧u=misV 136 351):=by
 refine enterE Tryz.func49 rfl Tryz.ntmps49 (by kernel_rfl) (Nat.le_of_ble_eq_true rfl) fun w0 X0 hI=>?_
 refine at_seq<|at_region<|s1 (y_p rfl) rfl<|s1 (y_p rfl) rfl ?_
 refine at_nil<|x_tn<|at_seq<|at_region<|s1 ((y_p rfl).v (v':= .i .i64 (-1)) rfl) rfl ?_
 refine at_nil<|x_tn<|at_seq<|at_seq<|at_region<|s1 (y_p rfl) rfl<|s1 (y_len Tryz.underlying30 rfl rfl rfl) rfl<|s1 ((y_p rfl).v (v':= .i .i64 0) rfl) rfl ?_
 refine at_nil<|x_tn<|at_block ?_
 refine at_loop (ι:=Nat) (fun i=> [(0,.raw (.map (some b))),(4,.sl 131 1 0 (badS σ (ids.take i)).length),(5,.sl 135 1 0 (goodS σ (ids.take i)).length),(6,.i .i64 (lastI ids i)),(9,.fz ids.length (ids.map (A.i .i64))),(10,nJ ids.length),(11,nJ i)]) (fun i=>⟨[(131,some ((badS σ (ids.take i)).map (A.i .i64))),(135,some ((goodS σ (ids.take i)).map (A.i .i64))),(700,some ([.mc b (mapOf σ)]))]⟩) (fun i=>i≤ids.length∧listedB ids=ascB (lastI ids i) (ids.drop i)) (fun i=>ids.length - i) ?_ ?_
 ·exact at_ex (0) (⟨Nat.zero_le _,asc_start ids⟩) [(131,none),(135,none),(700,some 700)] hI rfl rfl ⟨⟨_,rfl,.pure pu⟩,⟨_,rfl,.nl rfl⟩,⟨_,rfl,.nl rfl⟩,⟨_,rfl,.pure pu⟩,⟨_,rfl,.pure pu⟩,⟨_,rfl,.pure pu⟩,⟨_,rfl,.pure pu⟩,trivial⟩ ⟨.inl ⟨rfl,rfl⟩,.inl ⟨rfl,rfl⟩,.inr ⟨_,_,rfl,rfl,.pure pul⟩,trivial⟩
 rintro i ⟨hi,hl⟩
 have hlb:=len_bad σ (ids.take i)
 have hlg:=len_good σ (ids.take i)
 rw [List.length_take]at hlb hlg
 refine at_seq<|at_region<|s1 (y_p rfl) rfl ?_
 refine at_nil<|x_tn<|at_seq ?_
 refine at_cond rfl (fun hc12=>?_) (fun hc12=>?_)
 ·have h12 : i < ids.length := by have := of_decide_eq_true hc12; omega
  obtain⟨q,hq⟩:∃q,ids[i]? =some q:=⟨_,List.getElem?_eq_getElem h12⟩
  refine at_skip<|x_tn<|at_seq<|at_block<|at_seq<|at_region<|s1 (y_ixf i Tryz.underlying30 ti3 rfl rfl rfl (by omega) rfl) rfl<|s1 (y_load ti3 rfl rfl (getI4 hq)) rfl<|s1 (y_p rfl) rfl ?_
  refine at_nil<|x_tn<|at_seq<|at_region<|s1 (y_p rfl) rfl<|s1 (y_p rfl) rfl<|s1 (y_p rfl) rfl<|s1 (y_p rfl) rfl ?_
  refine g_and 2 rfl rfl rfl rfl (fun hb18=> .step (y_p rfl) rfl rfl<| .step (y_p rfl) rfl rfl<| .done) rfl rfl ?_
  refine at_bc 21 rfl (fun hc21=>?_) (fun hc21=>?_)
  ·have h21 : lastI ids i < q ∧ q < 1024 := by simp at hc21; omega
   refine at_op rfl (n_call false rfl (.cons (.pure pu) (.cons (.pure pu) .nil)) (eneed_ok 351) pu (.inl rfl) rfl ?_)
   refine at_nil<|x_tn<|at_seq<|at_region<|s1 ((y_p rfl).v (v':= .i .i64 (lastI ids (i+1))) (congrArg (A.i .i64) (lastI_next hq).symm)) rfl<|s1 (y_p rfl) rfl ?_
   refine at_nil<|x_tn<|at_seq<|at_region<|s1 (y_p rfl) rfl<|s1 (y_p rfl) rfl<|s1 (y_lookup Tryz.underlying80 Tryz.underlying3 zero_int rfl rfl rfl (mapOf_get _ _)) rfl<|s1 (y_p rfl) rfl ?_
   refine at_nil<|x_tn ?_
   refine at_cond rfl (fun hc27=>?_) (fun hc27=>?_)
   ·have h27 : σ q ≠ 0 := by simpa using hc27
    obtain⟨hb1,hb2⟩:=bad_hit hq h27
    refine at_region<|s1 (y_p rfl) rfl<|s1 (y_p rfl) rfl ?_
    refine at_op rfl (n_bs1 30 rfl Tryz.underlying30 ti3 rfl rfl rfl rfl rfl ?_)
    refine at_op rfl (n_app 31 rfl Tryz.underlying30 ti3 rfl (.sl rfl (by simp)) rfl (SM_full rfl (by first|rfl|omega|(simp<;>omega)|(simp [*]<;>omega))) (by simp) (by simp only [maxLen];omega) (by omega) rfl rfl rfl ?_)
    refine s1 (y_p rfl) rfl ?_
    refine at_nil<|x_bn<|x_tn<|at_region<|s1 (addN _ 1 rfl rfl rfl rfl (by omega)) rfl<|s1 (y_p rfl) rfl ?_
    refine at_nil ?_
    exact at_end (i+1) (⟨by omega,asc_next hl hq h21⟩) (by omega) [(131,some 31),(135,some 135),(700,some 700)] hI rfl rfl ⟨⟨_,rfl,.pure pu⟩,⟨_,rfl,.sl rfl (by first|rfl|omega|(simp<;>omega)|(simp [*]<;>omega))⟩,⟨_,rfl,.sl rfl (by first|rfl|omega|(simp<;>omega)|(simp [*]<;>omega))⟩,⟨_,rfl,.pure pu⟩,⟨_,rfl,.pure pu⟩,⟨_,rfl,.pure pu⟩,⟨_,rfl,.pure pu⟩,trivial⟩ ⟨.inr ⟨_,_,rfl,rfl,.of (by rw [hb1,List.map_append];rfl) (.pure pul)⟩,.inr ⟨_,_,rfl,rfl,.of (by rw [hb2]) (.pure pul)⟩,.inr ⟨_,_,rfl,rfl,.pure pul⟩,trivial⟩
   ·have h27 : σ q = 0 := by simpa using hc27
    obtain⟨hb1,hb2⟩:=bad_miss hq h27
    refine at_region<|s1 (y_p rfl) rfl<|s1 (y_p rfl) rfl ?_
    refine at_op rfl (n_bs1 34 rfl Tryz.underlying30 ti3 rfl rfl rfl rfl rfl ?_)
    refine at_op rfl (n_app 35 rfl Tryz.underlying30 ti3 rfl (.sl rfl (by simp)) rfl (SM_full rfl (by first|rfl|omega|(simp<;>omega)|(simp [*]<;>omega))) (by simp) (by simp only [maxLen];omega) (by omega) rfl rfl rfl ?_)
    refine s1 (y_p rfl) rfl ?_
    refine at_nil<|x_bn<|x_tn<|at_region<|s1 (addN _ 1 rfl rfl rfl rfl (by omega)) rfl<|s1 (y_p rfl) rfl ?_
    refine at_nil ?_
    exact at_end (i+1) (⟨by omega,asc_next hl hq h21⟩) (by omega) [(131,some 131),(135,some 35),(700,some 700)] hI rfl rfl ⟨⟨_,rfl,.pure pu⟩,⟨_,rfl,.sl rfl (by first|rfl|omega|(simp<;>omega)|(simp [*]<;>omega))⟩,⟨_,rfl,.sl rfl (by first|rfl|omega|(simp<;>omega)|(simp [*]<;>omega))⟩,⟨_,rfl,.pure pu⟩,⟨_,rfl,.pure pu⟩,⟨_,rfl,.pure pu⟩,⟨_,rfl,.pure pu⟩,trivial⟩ ⟨.inr ⟨_,_,rfl,rfl,.of (by rw [hb1]) (.pure pul)⟩,.inr ⟨_,_,rfl,rfl,.of (by rw [hb2,List.map_append];rfl) (.pure pul)⟩,.inr ⟨_,_,rfl,rfl,.pure pul⟩,trivial⟩
  ·have h21 : ¬ (lastI ids i < q ∧ q < 1024) := by simp at hc21; omega
   refine p_call ⟨[]⟩ false rfl trivial (.cons (.pure pu) (.cons (.pure pu) .nil)) (eneed_px 351) (fun u hu=>?_)
   refine x_tp ?_
   refine x_bp ?_
   refine x_tp ?_
   refine x_tp ?_
   refine x_bp ?_
   refine x_tp ?_
   exact at_panicked ⟨spl_1 (asc_no hl hq h21),hu⟩
 ·have h12 : i = ids.length := by have := of_decide_eq_false hc12; omega
  subst h12
  refine at_exit<|x_te<|x_te<|x_be<|x_tn<|at_seq ?_
  refine at_sayO 131 (cs':=(badS σ ids).map (A.i .i64)) rfl (by rw [List.take_length]) ?_
  refine at_sayO 135 (cs':=(goodS σ ids).map (A.i .i64)) rfl (by rw [List.take_length]) ?_
  refine at_region<|s1 (y_p rfl) rfl<|s1 (y_len Tryz.underlying30 rfl rfl rfl) rfl<|s1 (y_p rfl) rfl<|s1 (y_lenM (keysS σ) Tryz.underlying80 rfl rfl (keysS_nodup σ) (keysS_mem hs)) rfl<|s1 (y_p rfl) rfl ?_
  refine at_bc 41 rfl (fun hc41=>?_) (fun hc41=>?_)
  ·have h41 : (badS σ ids).length = (keysS σ).length := by have := of_decide_eq_true hc41; rw [List.take_length] at this; omega
   refine at_op rfl (n_call false rfl (.cons (.pure pu) (.cons (.pure pu) .nil)) (eneed_ok 351) pu (.inl rfl) rfl ?_)
   refine at_nil<|x_tn<|at_seq<|at_region<|s1 (y_p rfl) rfl<|s1 (y_p rfl) rfl<|s1 (y_p rfl) rfl<|s1 (y_p rfl) rfl ?_
   refine at_nil<|x_tn<|at_ret ?_
   refine at_frz 4 rfl rfl pul (view_eq (by simp) rfl) ?_
   refine at_frz 5 rfl rfl pul (view_eq (by simp) rfl) ?_
   refine at_resultE (rs:= [.tmp 4,.tmp 5]) rfl (r_tmp rfl (r_tmp rfl r_nil)) ⟨spl_3 (asc_end hl) h41,?_,fun p hp=>by cases hp⟩
   show A.tu _=A.tu _
   rw [List.take_length]
  ·have h41 : (badS σ ids).length ≠ (keysS σ).length := by have := of_decide_eq_false hc41; rw [List.take_length] at this; omega
   refine p_call ⟨[]⟩ false rfl trivial (.cons (.pure pu) (.cons (.pure pu) .nil)) (eneed_px 351) (fun u hu=>?_)
   refine x_tp ?_
   exact at_panicked ⟨spl_2 h41,hu⟩
theorem split35_ok {b:Nat} {σ:Int→Int} (hs:Sup σ) {ids:List Int} (hn:ids.length≤1000) (h:splB σ ids=true):ConS Tryz.prog 49 [.raw (.map (some b)),.fz ids.length (ids.map (A.i .i64))] ⟨[(700,some [.mc b (mapOf σ)])]⟩ (RetS (.tu [.fz (badS σ ids).length ((badS σ ids).map (A.i .i64)),.fz (goodS σ ids).length ((goodS σ ids).map (A.i .i64))]) []):=(split35_E b σ hs ids hn).ret (fun _ _ h=>h.2) fun u hu=>by rw [h]at hu;cases hu.1
theorem split35_px {b:Nat} {σ:Int→Int} (hs:Sup σ) {ids:List Int} (hn:ids.length≤1000) (h:splB σ ids=false):ConX Tryz.prog 49 [.raw (.map (some b)),.fz ids.length (ids.map (A.i .i64))] ⟨[(700,some [.mc b (mapOf σ)])]⟩ (fun u=>splB σ ids=false∧u=misV 136 351):=(split35_E b σ hs ids hn).pan fun r st hu=>by rw [h]at hu;cases hu.1
end Go.Abs.D2
-- K6C
namespace Go.Abs.D2
open Go Go.Eng Go.Abs Go.Proofs
theorem signW_ok (x:List UInt8) (k:Nat) (a:Int) (m:List UInt8) (hx:x.length=32) (hm:m.length=32) (hk:sizeK (k:Int)):Con Tryz.prog 53 [.ag (x.map u8),dgs (kpubs x k),.i .i64 a,.ag (m.map u8)] (Ret (signA x k a m)):=by
 refine enter Tryz.func53 rfl Tryz.ntmps53 (by kernel_rfl) (Nat.le_of_ble_eq_true rfl) fun w0 X0 hI=>?_
 refine at_seq<|at_region ?_
 refine at_op rfl (n_boxA 4 rfl rfl rfl ?_)
 refine at_op rfl (n_boxA 7 rfl rfl rfl ?_)
 refine at_op rfl (n_alloc 8 rfl ti43 rfl rfl ?_)
 refine s1 ((y_p rfl).v (v':= .i .i64 0) rfl) rfl ?_
 refine at_nil<|x_tn<|at_seq ?_
 rcases(Decidable.em (atK (k:Int) a)).symm with hcs|hcs
 ·skip
  have hk2:k≤256:=by unfold sizeK at hk;omega
  refine at_region<|s1 (y_p rfl) rfl<|s1 (y_p rfl) rfl ?_
  refine at_op rfl (n_call false rfl (.cons (.pure pu) (.cons (.pure pu) (.nil))) (Con.cast (pathI_ok (kpubs x k) a (D32_kpubs x k) (by simp;omega)) (pathA_no (by rw [len_kpubs];exact hcs))) pu (.inl rfl) rfl ?_)
  refine s1 (y_p rfl) rfl<|s1 (y_p rfl) rfl<|s1 (y_p rfl) rfl<|s1 (y_p rfl) rfl<|s1 (y_p rfl) rfl ?_
  refine at_nil<|x_tn<|at_seq<|at_seq<|at_region<|s1 (y_p rfl) rfl<|s1 ((y_p rfl).v (v':= .b true) (rfl)) rfl ?_
  refine at_nil<|x_tn ?_
  refine at_then rfl ?_
  refine at_seq<|at_region<|s1 (y_loadA0 ti43 rfl rfl (by first|rfl|omega|(simp<;>omega)|(simp [*]<;>omega))) rfl ?_
  refine at_op rfl (n_storeA ti43 rfl rfl rfl (by first|rfl|omega|(simp<;>omega)|(simp [*]<;>omega)) (by first|rfl|omega|(simp<;>omega)|(simp [*]<;>omega)) ?_)
  refine s1 ((y_p rfl).v (v':= .i .i64 60) rfl) rfl ?_
  refine at_nil<|x_tn<|at_ret<|x_tr ?_
  refine at_wkO 8 rfl (.cons (.eq rfl) (.cons .nl (.cons .nl .nil))) ?_
  refine at_result (rs:= [.cell 8 43,.tmp 9]) rfl (r_cellA ti43 rfl rfl rfl rfl (r_tmp rfl r_nil)) ?_
  exact(signA_no (fun h=>hcs h.2)).symm
 ·have hat := hcs
  obtain⟨i,rfl,hi⟩:∃i:Nat,a=(i:Int)∧i<k:=⟨a.toNat,by unfold atK at hcs;omega,by unfold atK at hcs;omega⟩
  have hk2:k≤256:=by unfold sizeK at hk;omega
  refine at_region<|s1 (y_p rfl) rfl<|s1 (y_p rfl) rfl ?_
  refine at_op rfl (n_call false rfl (.cons (.pure pu) (.cons (.pure pu) (.nil))) (Con.cast (pathI_ok (kpubs x k) (i:Nat) (D32_kpubs x k) (by simp;omega)) (pathA_yes (by rw [len_kpubs];exact hi))) pu (.inl rfl) rfl ?_)
  refine s1 (y_p rfl) rfl<|s1 (y_p rfl) rfl<|s1 (y_p rfl) rfl<|s1 (y_p rfl) rfl<|s1 (y_p rfl) rfl ?_
  refine at_nil<|x_tn<|at_seq<|at_seq<|at_region<|s1 (y_p rfl) rfl<|s1 ((y_p rfl).v (v':= .b false) (rfl)) rfl ?_
  refine at_nil<|x_tn ?_
  refine at_else rfl ?_
  refine at_skip<|x_tn<|at_seq ?_
  refine at_fs ⟨_, [], []⟩ 8 4 hmix (le_refl rfl) ?_
  refine fs_q 0 [] [] (y_p rfl) rfl rfl ?_
  refine fs_q 1 [] [(4,none)] (y_loadA0 ti23 rfl rfl (by first|rfl|omega|(simp<;>omega)|(simp [*]<;>omega))) rfl rfl ?_
  refine fs_q 2 [] [] (y_p rfl) rfl rfl ?_
  refine fs_call false 3 [1,2] [] gy0 rfl (.cons (.pure pu) (.cons (.pure pu) (.nil))) (seed_ok x (i:Nat) hx) pu (.inl rfl) rfl rfl ?_
  refine fs_q 4 [] [(7,none)] (y_loadA0 ti23 rfl rfl (by first|rfl|omega|(simp<;>omega)|(simp [*]<;>omega))) rfl rfl ?_
  refine fs_call false 5 [3,4] [] gy0 rfl (.cons (.pure pu) (.cons (.pure pu) (.nil))) (sign_ok (seedL x (i:Nat)) m (by simp) hm) pu (.inl rfl) rfl rfl ?_
  refine fs_q 6 [] [] (y_p rfl) rfl rfl ?_
  refine fs_q 7 [0,5,6] [] (y_bld (out:= [_,_,_]) [[evC (.int .i64 0)], [evC (.slice none 0 0)], [evC (.slice none 0 0)]] ti43 rfl Tryz.underlying43 (by kernel_rfl) rfl rfl ⟨⟨by(first|rfl|omega|(simp;done)|(simp [*];done)|(simp [cellsA, *];done)),rfl⟩,⟨⟨by(first|rfl|omega|(simp;done)|(simp [*];done)|(simp [cellsA, *];done)),rfl⟩,⟨⟨by(first|rfl|omega|(simp;done)|(simp [*];done)|(simp [cellsA, *];done)),rfl⟩,trivial⟩⟩⟩ rfl) rfl rfl ?_
  refine fs_end (by kernel_rfl) ?_
  refine at_op rfl (n_storeA ti43 rfl rfl rfl (by first|rfl|omega|(simp<;>omega)|(simp [*]<;>omega)) (by first|rfl|omega|(simp<;>omega)|(simp [*]<;>omega)) ?_)
  refine s1 ((y_p rfl).v (v':= .i .i64 0) rfl) rfl ?_
  refine at_nil<|x_tn<|at_ret ?_
  refine at_result (rs:= [.cell 8 43,.tmp 9]) rfl (r_cellA ti43 rfl rfl rfl rfl (r_tmp rfl r_nil)) ?_
  exact(signA_yes hk hi).symm
end Go.Abs.D2
