/-
  The engine, the plain laws and the walks that the rows need, part 15. Conditions: none.
-/
import Derived.Test.YteempkifmbclgaaGreatDoorM14
set_option linter.unusedVariables false
set_option linter.unusedSimpArgs false
set_option maxHeartbeats 1000000
set_option maxRecDepth 10000
-- E5G
namespace Go.Abs.D2
open Go Go.Eng Go.Abs Go.Proofs
theorem epub1_D (c0 c1:A) (e:Int):ConD Tryz.prog 43 [.p 14 0,.p 15 0] ⟨[(14,some [c0]),(15,some [c1])]⟩ (fun u=>u=misV 136 e) [(14, [.nl]),(15, [.i .i64 e])]:=by
 refine conD (.ic 136 (.ag [.i .i64 e])) (fun u hu X w β=>by rw [hu];exact V_mis _ _) Tryz.func43 rfl Tryz.ntmps43 (Nat.le_of_ble_eq_true rfl) rfl rfl fun w0 X0 hI=>?_
 refine at_seq<|at_region<|s1 (y_p rfl) rfl<|s1 (y_icne Tryz.underlying20 rfl) rfl ?_
 refine at_nil<|x_tn ?_
 refine at_then rfl ?_
 refine at_region<|s1 (y_p rfl) rfl ?_
 refine at_op rfl (n_call false rfl (.cons (.pure pu) (.nil)) (efail_ok e) pu (.inl rfl) rfl ?_)
 refine at_op rfl (n_store1 ti24 rfl rfl rfl rfl (by first|rfl|omega|(simp<;>omega)|(simp [*]<;>omega)) rfl ?_)
 refine at_op rfl (n_store1 ti27 rfl rfl rfl rfl (by first|rfl|omega|(simp<;>omega)|(simp [*]<;>omega)) rfl ?_)
 refine at_nil ?_
 refine at_result' (rs:= []) rfl r_nil (retS_2 rfl rfl)
theorem epub1_R:ConR Tryz.prog 43 2:=conR Tryz.func43 rfl (fun w=>run_nnil Tryz.underlying20 w) rfl ⟨Nat.le_of_ble_eq_true rfl,Nat.le_of_ble_eq_true rfl,Nat.le_of_ble_eq_true rfl,Nat.le_of_ble_eq_true rfl,Nat.le_of_ble_eq_true rfl⟩
theorem epub1_C:Callable Tryz.prog 43:=⟨_,Tryz.func43,rfl,by kernel_rfl⟩
theorem epub_ok (x : List UInt8) (n : Int) (l : List Ep) (iss day : Int) (ids : List Int) (c : List Ch) (hx : x.length = 32) (hl : EpsOk l) (hn : l.length ≤ 1000) (hi : rg iss) (hd : rg day) (hids : ids.length ≤ 100) (hc : c.length ≤ 1000) (hcr : ∀ e ∈ c, rg e.id ∧ rg e.st) : Con Tryz.prog 15 [.ag (x.map u8), .i .i64 n, epsA l, .i .i64 iss, .i .i64 day, .fz ids.length (ids.map (A.i .i64)), chsA c] (Ret (resE l (pubX x n l iss day ids c))) := by
 refine enterM Tryz.func15 rfl Tryz.ntmps15 (by kernel_rfl) (Nat.le_of_ble_eq_true rfl) fun w0 X0 hI hS=>?_
 refine at_seq<|at_region ?_
 refine at_op rfl (n_boxA 7 rfl rfl rfl ?_)
 refine at_op rfl (n_alloc 14 rfl ti24 rfl rfl ?_)
 refine at_op rfl (n_alloc 15 rfl ti27 rfl rfl ?_)
 refine at_nil<|x_tn<|at_seq<|at_region<|s1 (y_func (us:= []) (vs:= [.p 14 0,.p 15 0]) rfl rfl) rfl ?_
 refine at_defer [14,15] hI rfl rfl trivial rfl fun w1 us hdf=>?_
 refine at_nil<|x_tn<|at_seq ?_
 rcases(Decidable.em (sizeK n)).symm with hcs|hcs
 ·skip
  refine at_region<|s1 (y_loadA0 ti23 rfl rfl (by rw [List.length_map,hx])) rfl<|s1 (y_p rfl) rfl ?_
  refine at_op rfl (n_call false rfl (.cons (.pure pu) (.cons (.pure pu) (.nil))) (Con.cast (pubs_ok x n hx) (if_neg hcs)) pu (.inl rfl) rfl ?_)
  refine s1 (y_p rfl) rfl<|s1 (y_p rfl) rfl<|s1 (y_p rfl) rfl<|s1 (y_p rfl) rfl ?_
  refine at_op rfl (n_store1 ti27 rfl rfl rfl rfl (by first|rfl|omega|(simp<;>omega)|(simp [*]<;>omega)) rfl ?_)
  refine at_nil<|x_tn<|at_seq<|at_region<|s1 (y_load ti27 rfl rfl rfl) rfl<|s1 ((y_p rfl).v (v':= .b false) (rfl)) rfl<|s1 (y_load ti27 rfl rfl rfl) rfl ?_
  refine p_call ⟨[]⟩ false rfl trivial (.cons (.pure pu) (.cons (.pure pu) .nil)) (eneed_px 60) (fun u hu=>?_)
  refine x_tp ?_
  refine at_leaveX ⟨[(14,some [.nl]),(15,some [.i .i64 60])]⟩ hdf hS epub1_C ⟨⟨rfl,VwL.pure pul⟩,⟨rfl,VwL.pure pul⟩,trivial⟩ (.cons (.kp rfl) (.cons (.kp rfl) .nil)) (epub1_D _ _ 60) (hu) (two_upd rfl rfl pul pul) rfl (r_cell ti24 rfl rfl rfl (r_cell ti27 rfl rfl rfl r_nil)) ?_
  rw [pub_1 hcs];rfl
 ·have hsz := hcs
  obtain⟨k,rfl,hk1,hk2⟩:=sizeK_nat hcs
  refine at_region<|s1 (y_loadA0 ti23 rfl rfl (by rw [List.length_map,hx])) rfl<|s1 (y_p rfl) rfl ?_
  refine at_op rfl (n_call false rfl (.cons (.pure pu) (.cons (.pure pu) (.nil))) (Con.cast (pubs_ok x k hx) (if_pos hsz)) pu (.inl rfl) rfl ?_)
  refine s1 (y_p rfl) rfl<|s1 (y_p rfl) rfl<|s1 (y_p rfl) rfl<|s1 (y_p rfl) rfl ?_
  refine at_op rfl (n_store1 ti27 rfl rfl rfl rfl (by first|rfl|omega|(simp<;>omega)|(simp [*]<;>omega)) rfl ?_)
  refine at_nil<|x_tn<|at_seq<|at_region<|s1 (y_load ti27 rfl rfl rfl) rfl<|s1 ((y_p rfl).v (v':= .b true) (rfl)) rfl<|s1 (y_load ti27 rfl rfl rfl) rfl ?_
  refine at_op rfl (n_call false rfl (.cons (.pure pu) (.cons (.pure pu) .nil)) (eneed_ok 0) pu (.inl rfl) rfl ?_)
  refine at_nil<|x_tn<|at_seq ?_
  rcases chk_ways (rootD x (k:Int)) k l with hcs|hcs
  ·have h0 := hcs
   refine at_region<|s1 (y_p rfl) rfl ?_
   refine at_op rfl (n_call false rfl (.cons (.pure pu) (.nil)) (Con.cast (tree_ok _ (kpubs x k) (Nat.le_refl _) (D32_kpubs x k) (by simp;omega)) (congrArg (fun l:List UInt8=>A.ag (l.map u8)) (rootD_yes hsz).symm)) pu (.inl rfl) rfl ?_)
   refine s1 (y_p rfl) rfl<|s1 (y_p rfl) rfl ?_
   refine p_call ⟨[]⟩ false rfl trivial (.cons (.pure pu) (.cons (.pure pu) (.cons (.pure pu) .nil))) (echeck_px (by simp) hl (by simp only [maxLen];omega) h0) (fun u hu=>?_)
   refine x_tp ?_
   refine at_leaveX ⟨[(14,some [.nl]),(15,some [.i .i64 0])]⟩ hdf hS epub1_C ⟨⟨rfl,VwL.pure pul⟩,⟨rfl,VwL.pure pul⟩,trivial⟩ (.cons (.kp rfl) (.cons (.kp rfl) .nil)) (epub1_D _ _ (chkE (rootD x (k:Int)) k l)) (hu.2) (two_upd rfl rfl pul pul) rfl (r_cell ti24 rfl rfl rfl (r_cell ti27 rfl rfl rfl r_nil)) ?_
   rw [pub_2 hsz h0];rfl
  ·obtain ⟨σ, hf, h0⟩ := hcs
   have hsup:=sup_form hf
   have hlk:=chkE_len hf h0
   refine at_region<|s1 (y_p rfl) rfl ?_
   refine at_op rfl (n_call false rfl (.cons (.pure pu) (.nil)) (Con.cast (tree_ok _ (kpubs x k) (Nat.le_refl _) (D32_kpubs x k) (by simp;omega)) (congrArg (fun l:List UInt8=>A.ag (l.map u8)) (rootD_yes hsz).symm)) pu (.inl rfl) rfl ?_)
   refine s1 (y_p rfl) rfl<|s1 (y_p rfl) rfl ?_
   refine at_op rfl (n_callMp (F:=mapOf σ) rfl (.cons (.pure pu) (.cons (.pure pu) (.cons (.pure pu) (.nil)))) (echeck_ok (by simp) hl (by simp only [maxLen];omega) hf h0) rfl rfl fun b39=>?_)
   refine s1 (y_p rfl) rfl ?_
   refine at_nil<|x_tn<|at_seq<|at_region<|s1 (y_p rfl) rfl<|s1 (y_len Tryz.underlying24 rfl rfl rfl) rfl<|s1 (y_p rfl) rfl<|s1 (y_p rfl) rfl ?_
   refine at_bc 43 rfl (fun hc43=>?_) (fun hc43=>?_)
   ·have h43 : ¬ (l.length : Int) = (k : Int) := by simpa using hc43
    refine at_op rfl (n_call false rfl (.cons (.pure pu) (.cons (.pure pu) .nil)) (eneed_ok 2) pu (.inl rfl) rfl ?_)
    refine at_nil<|x_tn<|at_seq<|at_region<|s1 (y_p rfl) rfl<|s1 (y_p rfl) rfl<|s1 (y_p rfl) rfl ?_
    refine g_and 2 rfl rfl rfl rfl (fun hb47=> .step (y_p rfl) rfl rfl<| .step (y_p rfl) rfl rfl<| .done) rfl rfl ?_
    refine s1 (y_p rfl) rfl ?_
    refine g_and 2 rfl rfl rfl rfl (fun hb51=> .step (y_p rfl) rfl rfl<| .step (y_p rfl) rfl rfl<| .done) rfl rfl ?_
    refine s1 (y_p rfl) rfl ?_
    refine g_and 2 rfl rfl rfl rfl (fun hb55=> .step (y_p rfl) rfl rfl<| .step (y_p rfl) rfl rfl<| .done) rfl rfl ?_
    refine at_bc 58 rfl (fun hc58=>?_) (fun hc58=>?_)
    ·skip
     refine at_op rfl (n_call false rfl (.cons (.pure pu) (.cons (.pure pu) .nil)) (eneed_ok 351) pu (.inl rfl) rfl ?_)
     refine at_nil<|x_tn<|at_seq<|at_region<|s1 (y_p rfl) rfl<|s1 (y_p rfl) rfl<|s1 (y_len Tryz.underlying24 rfl rfl rfl) rfl<|s1 (y_p rfl) rfl<|s1 (y_p rfl) rfl ?_
     refine at_op rfl (n_call false rfl (.cons (.pure pu) (.nil)) (clC_ok c (by omega)) pu (.inl rfl) rfl ?_)
     refine s1 (y_bld (out:=_) [[evC (.int .i64 0)], [evC (.int .i64 0)], [evC (.int .i64 0)], [evC (.slice none 0 0)],(List.replicate 32 (.int .u8 0)).map evC,(List.replicate 32 (.int .u8 0)).map evC, [evC (.int .i64 0),evC (.slice none 0 0),evC (.slice none 0 0)]] ti45 rfl Tryz.underlying45 (by kernel_rfl) rfl rfl ⟨⟨by(first|rfl|omega|(simp;done)|(simp [*];done)|(simp [cellsA, *];done)),rfl⟩,⟨⟨by(first|rfl|omega|(simp;done)|(simp [*];done)|(simp [cellsA, *];done)),rfl⟩,⟨⟨by(first|rfl|omega|(simp;done)|(simp [*];done)|(simp [cellsA, *];done)),rfl⟩,⟨⟨by(first|rfl|omega|(simp;done)|(simp [*];done)|(simp [cellsA, *];done)),rfl⟩,trivial⟩⟩⟩⟩ rfl) rfl ?_
     refine at_op rfl (n_alloc 18 rfl ti45 rfl rfl ?_)
     refine at_op rfl (n_storeA ti45 rfl rfl rfl rfl rfl ?_)
     refine at_nil<|x_tn<|at_seq<|at_seq ?_
     refine at_sayO 18 (cs':=nxC iss (l.length:Nat) day c zD zD) rfl rfl ?_
     refine at_region<|s1 (y_p rfl) rfl<|s1 (y_len Tryz.underlying24 rfl rfl rfl) rfl<|s1 (y_p rfl) rfl ?_
     refine at_nil<|x_tn ?_
     refine at_cond rfl (fun hc69=>?_) (fun hc69=>?_)
     ·have h69 : 0 < l.length := by have := of_decide_eq_true hc69; omega
      obtain⟨e,he⟩:∃e,l[l.length - 1]? =some e:=⟨_,List.getElem?_eq_getElem (by omega)⟩
      have hok:=hl e (List.mem_of_getElem? he)
      obtain⟨hlb,hld⟩:=last_get (iss:=iss) (day:=day) he
      refine at_seq<|at_region<|s1 (y_p rfl) rfl<|s1 (y_p rfl) rfl<|s1 (y_len Tryz.underlying24 rfl rfl rfl) rfl<|s1 (subN _ 1 rfl rfl rfl rfl (by omega) (by omega)) rfl<|s1 (y_ixf (l.length - 1) Tryz.underlying24 ti45 rfl rfl rfl (by omega) rfl) rfl<|s1 (y_loadA ti45 rfl rfl (eps_get hl he) hok.len) rfl ?_
      refine at_op rfl (n_alloc 19 rfl ti45 rfl rfl ?_)
      refine at_op rfl (n_storeA ti45 rfl rfl rfl hok.len (by simp) ?_)
      refine at_nil<|x_tn<|at_seq<|at_region<|s1 (y_p rfl) rfl<|s1 (y_fld Tryz.underlying45 rfl ti3 (by decide) rfl rfl) rfl<|s1 (y_load ti3 rfl rfl rfl) rfl<|s1 (y_p rfl) rfl<|s1 (y_p rfl) rfl ?_
      refine g_and 4 rfl rfl rfl rfl (fun hb80=> .step (y_p rfl) rfl rfl<| .step (y_fld Tryz.underlying45 rfl ti3 (by decide) rfl rfl) rfl rfl<| .step (y_load ti3 rfl rfl rfl) rfl rfl<| .step (y_p rfl) rfl rfl<| .done) rfl rfl ?_
      refine at_bc 85 rfl (fun hc85=>?_) (fun hc85=>?_)
      ·skip
       refine at_op rfl (n_call false rfl (.cons (.pure pu) (.cons (.pure pu) .nil)) (eneed_ok 351) pu (.inl rfl) rfl ?_)
       refine at_nil<|x_tn<|at_region<|s1 (y_loadA0 ti45 rfl rfl hok.len) rfl ?_
       refine at_op rfl (n_call false rfl (.cons (.pure pu) (.nil)) (edig_ok e hok) pu (.inl rfl) rfl ?_)
       refine s1 (y_fld Tryz.underlying45 rfl ti23 (by decide) rfl rfl) rfl ?_
       refine at_op rfl (n_store ti23 rfl rfl rfl rfl rfl (show((digE e).map u8).length=32 by simp) (by rw [nx_len rfl rfl];decide) (nx_prev rfl rfl) ?_)
       refine at_nil<|x_tn<|at_seq ?_
       rcases tfC (chOk σ (-1) c)with hcs|hcs
       ·have hk := hcs
        refine at_sayO 18 (cs':=nxC iss (l.length:Nat) day c zD (lastD l)) rfl (by rw [hld]) ?_
        refine at_region<|s1 (y_p rfl) rfl<|s1 (y_p rfl) rfl ?_
        refine p_call ⟨[(700,some [.mc b39 (mapOf σ)])]⟩ false rfl ⟨⟨rfl,VwL.pure pul⟩,trivial⟩ (.cons (.pure pu) (.cons (.pure pu) .nil)) (echange_px (by simp only [maxLen];omega) hk) (fun u hu=>?_)
        refine x_tp ?_
        refine at_leaveX ⟨[(14,some [.nl]),(15,some [.i .i64 0])]⟩ hdf hS epub1_C ⟨⟨rfl,VwL.pure pul⟩,⟨rfl,VwL.pure pul⟩,trivial⟩ (.cons (.kp rfl) (.cons (.kp rfl) .nil)) (epub1_D _ _ 351) (hu.2) (two_upd rfl rfl pul pul) rfl (r_cell ti24 rfl rfl rfl (r_cell ti27 rfl rfl rfl r_nil)) ?_
        rw [pub_4 hsz hf h0 h43 (.inr (.inr (.inl hk)))];rfl
       ·have hk := hcs
        refine at_sayO 18 (cs':=nxC iss (l.length:Nat) day c zD (lastD l)) rfl (by rw [hld]) ?_
        refine at_region<|s1 (y_p rfl) rfl<|s1 (y_p rfl) rfl ?_
        refine at_op rfl (n_callGd ⟨[(700,some [.mc b39 (mapOf σ)])]⟩ [(700, [.mc b39 (mapOf (chg σ c))])] false rfl ⟨⟨rfl,VwL.pure pul⟩,trivial⟩ (.cons (.pure pu) (.cons (.pure pu) .nil)) (echange_ok (by simp only [maxLen];omega) hk) pu (.inl rfl) (fun p hp=>by rw [List.mem_singleton.1 hp];exact⟨⟨_,rfl⟩,pul,.inl rfl⟩) rfl ?_)
        refine at_nil<|x_tn<|at_seq ?_
        rcases tfC (splB (chg σ c) ids)with hcs|hcs
        ·have hs := hcs
         refine at_region<|s1 (y_p rfl) rfl<|s1 (y_p rfl) rfl ?_
         refine p_call ⟨[(700,some [.mc b39 (mapOf (chg σ c))])]⟩ false rfl ⟨⟨rfl,VwL.pure pul⟩,trivial⟩ (.cons (.pure pu) (.cons (.pure pu) .nil)) (split35_px (sup_chg hsup (by omega) hk) (by omega) hs) (fun u hu=>?_)
         refine x_tp ?_
         refine at_leaveX ⟨[(14,some [.nl]),(15,some [.i .i64 0])]⟩ hdf hS epub1_C ⟨⟨rfl,VwL.pure pul⟩,⟨rfl,VwL.pure pul⟩,trivial⟩ (.cons (.kp rfl) (.cons (.kp rfl) .nil)) (epub1_D _ _ 351) (hu.2) (two_upd rfl rfl pul pul) rfl (r_cell ti24 rfl rfl rfl (r_cell ti27 rfl rfl rfl r_nil)) ?_
         rw [pub_4 hsz hf h0 h43 (.inr (.inr (.inr hs)))];rfl
        ·have hs := hcs
         have hlis:=spl_listed hs
         have hbl:=len_bad (chg σ c) ids
         have hgl:=len_good (chg σ c) ids
         obtain⟨hbE,hbF⟩:=casB_small (x:=saltD x l.length) (p:=(badS (chg σ c) ids)) (q:=(goodS (chg σ c) ids)) (by omega) (by omega)
         have hok0:(next0 x l iss day ids c (chg σ c)).ok:=next0_ok hn hi hd hc hcr
         have hokN:(nextE x k l iss day ids c (chg σ c)).ok:=nextE_ok hn hi hd hc hcr
         have hlt:l.length<k:=by omega
         have hNl:=hokN.len
         refine at_region<|s1 (y_p rfl) rfl<|s1 (y_p rfl) rfl ?_
         refine at_op rfl (n_callGd ⟨[(700,some [.mc b39 (mapOf (chg σ c))])]⟩ [] false rfl ⟨⟨rfl,VwL.pure pul⟩,trivial⟩ (.cons (.pure pu) (.cons (.pure pu) .nil)) (split35_ok (sup_chg hsup (by omega) hk) (by omega) hs) pu (.inl rfl) (fun p hp=>by cases hp) rfl ?_)
         refine s1 (y_p rfl) rfl<|s1 (y_p rfl) rfl<|s1 (y_p rfl) rfl<|s1 (y_p rfl) rfl<|s1 (y_p rfl) rfl ?_
         refine at_nil<|x_tn<|at_seq ?_
         refine at_frzP 7 rfl rfl pul ?_
         refine at_fs ⟨_, [], []⟩ 8 4 hmix (le_refl rfl) ?_
         refine fs_q 0 [] [] ((y_cutfa (ds:=((x.map u8).drop (0*1)).take (32*1)) 32 Tryz.underlying23 ti5 rfl (by simp [maxLen]) bn bn (Nat.zero_le _) (Nat.le_refl _) (by simp [hx]) rfl rfl).v (cut_all hx)) rfl rfl ?_
         refine fs_callO 100 false 1 [0] [] gy0 rfl (.cons (.pure pu) (.nil)) (fclone_ok x (by omega) (by omega)) pul (.inl rfl) rfl rfl ?_
         refine fs_q 2 [] [(18,none)] (y_fld Tryz.underlying45 rfl ti3 (by decide) rfl rfl) rfl rfl ?_
         refine fs_q 3 [2] [(18,none)] (y_load ti3 rfl rfl rfl) rfl rfl ?_
         refine fs_call false 4 [3] [] gy0 rfl (.cons (.pure pu) (.nil)) (four_ok (l.length:Nat)) pu (.inl rfl) rfl rfl ?_
         refine fs_app 104 5 [1,4] [(100,some 1)] gy0 Tryz.underlying68 ti5 rfl (.sl rfl (by simp)) rfl rfl (by simp) (by simp only [maxLen];omega) (by omega) rfl (List.map_append (l₁:=x) (l₂:=seedBs (l.length:Nat) 4)).symm rfl rfl ?_
         refine fs_call true 6 [5] [(104,some 5)] gy0 rfl (.cons (.pure pu) (.cons (.sl rfl rfl (by simp [hx]) (view_eq (by simp [hx]) rfl) (VwL.pure pul) pul) .nil)) (Con.cast (tagged_ok tagS (x++seedBs (l.length:Nat) 4) (by simp [hx]) (by decide)) (congrArg (fun l:List UInt8=>A.ag (l.map u8)) (saltD_eq x l.length).symm)) pu (.inr fu) rfl rfl ?_
         refine fs_alloc 22 7 [] gy0 ti23 rfl rfl rfl ?_
         refine fs_end (by kernel_rfl) ?_
         refine at_op rfl (n_storeA ti23 rfl rfl rfl (by first|rfl|omega|(simp<;>omega)|(simp [*]<;>omega)) (by first|rfl|omega|(simp<;>omega)|(simp [*]<;>omega)) ?_)
         refine at_nil<|x_tn<|at_seq<|at_region<|s1 (y_loadA0 ti23 rfl rfl (by simp)) rfl<|s1 (y_p rfl) rfl<|s1 (y_p rfl) rfl ?_
         refine at_op rfl (n_call false rfl (.cons (.pure pu) (.cons (.pure pu) (.cons (.pure pu) (.nil)))) (Con.cast (cbuild_ok (saltD x l.length) (by simp) (badS (chg σ c) ids) (goodS (chg σ c) ids) (by omega) (by omega)) (build_yes (ok2_split hlis))) pu (.inl rfl) rfl ?_)
         refine s1 (y_p rfl) rfl<|s1 (y_p rfl) rfl<|s1 (y_p rfl) rfl ?_
         refine at_op rfl (n_alloc 23 rfl ti60 rfl rfl ?_)
         refine at_op rfl (n_storeA ti60 rfl rfl rfl (cas_len (c:=(casE x l.length (chg σ c) ids)) (len_saltD _ _)) rfl ?_)
         refine at_op rfl (n_store1 ti27 rfl rfl rfl rfl (by first|rfl|omega|(simp<;>omega)|(simp [*]<;>omega)) rfl ?_)
         refine at_nil<|x_tn<|at_seq<|at_region<|s1 (y_load ti27 rfl rfl rfl) rfl<|s1 ((y_p rfl).v (v':= .b true) (rfl)) rfl<|s1 (y_load ti27 rfl rfl rfl) rfl ?_
         refine at_op rfl (n_call false rfl (.cons (.pure pu) (.cons (.pure pu) .nil)) (eneed_ok 0) pu (.inl rfl) rfl ?_)
         refine at_nil<|x_tn<|at_seq<|at_region<|s1 (y_loadA0 ti60 rfl rfl (cas_len (c:=(casE x l.length (chg σ c) ids)) (len_saltD _ _))) rfl ?_
         refine at_op rfl (n_call false rfl (.cons (.pure pu) (.nil)) (Con.cast (cdigC_ok (casE x l.length (chg σ c) ids) (len_saltD _ _) (show(casE x l.length (chg σ c) ids).E.length≤maxLen by simp only [maxLen];exact Nat.le_trans hbE (by decide))) (digCA_y (chkC_casB (ok2_split hlis)))) pu (.inl rfl) rfl ?_)
         refine s1 (y_p rfl) rfl<|s1 (y_p rfl) rfl<|s1 (y_p rfl) rfl<|s1 (y_fld Tryz.underlying45 rfl ti23 (by decide) rfl rfl) rfl ?_
         refine at_op rfl (n_store ti23 rfl rfl rfl rfl rfl (show((digC (casE x l.length (chg σ c) ids)).map u8).length=32 by simp) (by rw [nx_len rfl (len_lastD _)];decide) (nx_cas rfl) ?_)
         refine at_op rfl (n_store1 ti27 rfl rfl rfl rfl (by first|rfl|omega|(simp<;>omega)|(simp [*]<;>omega)) rfl ?_)
         refine at_nil<|x_tn<|at_seq<|at_region<|s1 (y_load ti27 rfl rfl rfl) rfl<|s1 ((y_p rfl).v (v':= .b true) (rfl)) rfl<|s1 (y_load ti27 rfl rfl rfl) rfl ?_
         refine at_op rfl (n_call false rfl (.cons (.pure pu) (.cons (.pure pu) .nil)) (eneed_ok 0) pu (.inl rfl) rfl ?_)
         refine at_nil<|x_tn<|at_seq ?_
         refine at_wkO 18 rfl nx_wk ?_
         refine at_fs ⟨_, [], []⟩ 12 4 hmix (le_refl rfl) ?_
         refine fs_q 0 [] [] (y_loadA ti23 rfl rfl (List.take_of_length_le (by simp [hx])) (by simp [hx])) rfl rfl ?_
         refine fs_q 1 [] [] (y_p rfl) rfl rfl ?_
         refine fs_q 2 [] [(18,none)] (y_fld Tryz.underlying45 rfl ti3 (by decide) rfl rfl) rfl rfl ?_
         refine fs_q 3 [2] [(18,none)] (y_load ti3 rfl rfl rfl) rfl rfl ?_
         refine fs_q 4 [] [(18,none)] (y_loadA0 ti45 rfl rfl hok0.len) rfl rfl ?_
         refine fs_call false 5 [4] [] gy0 rfl (.cons (.pure pu) (.nil)) (edig_ok (next0 x l iss day ids c (chg σ c)) hok0) pu (.inl rfl) rfl rfl ?_
         refine fs_call false 6 [0,1,3,5] [] gy0 rfl (.cons (.pure pu) (.cons (.pure pu) (.cons (.pure pu) (.cons (.pure pu) (.nil))))) (Con.cast (signW_ok x k (l.length:Nat) (digE (next0 x l iss day ids c (chg σ c))) hx (by simp) hsz) (signA_yes hsz hlt)) pu (.inl rfl) rfl rfl ?_
         refine fs_q 7 [6] [] (y_p rfl) rfl rfl ?_
         refine fs_q 8 [7] [] (y_p rfl) rfl rfl ?_
         refine fs_q 9 [7] [] (y_p rfl) rfl rfl ?_
         refine fs_q 10 [] [(18,none)] (y_fld Tryz.underlying45 rfl ti43 (by decide) rfl rfl) rfl rfl ?_
         refine fs_sto 0 11 [8,10] [(18,none)] rfl gy0 ti43 rfl rfl rfl rfl rfl rfl (by rw [hok0.len];decide) (show _=(nextE x k l iss day ids c (chg σ c)).cells from nx_sg (s:=⟨(l.length:Nat),signD (seedL x (l.length:Nat)) (digE (next0 x l iss day ids c (chg σ c))),path (kpubs x k) l.length⟩) hok0) rfl ?_
         refine fs_end (by kernel_rfl) ?_
         refine at_op rfl (n_store1 ti27 rfl rfl rfl rfl (by first|rfl|omega|(simp<;>omega)|(simp [*]<;>omega)) rfl ?_)
         refine at_nil<|x_tn<|at_seq<|at_region<|s1 (y_load ti27 rfl rfl rfl) rfl<|s1 ((y_p rfl).v (v':= .b true) (rfl)) rfl<|s1 (y_load ti27 rfl rfl rfl) rfl ?_
         refine at_op rfl (n_call false rfl (.cons (.pure pu) (.cons (.pure pu) .nil)) (eneed_ok 0) pu (.inl rfl) rfl ?_)
         refine at_nil<|x_tn<|at_seq ?_
         refine at_fs ⟨_, [], []⟩ 5 4 hmix (le_refl rfl) ?_
         refine fs_q 0 [] [] (y_p rfl) rfl rfl ?_
         refine fs_callO 143 false 1 [0] [] gy0 rfl (.cons (.pure pu) (.nil)) (clE_ok l hl (by omega)) pul (.inl rfl) rfl rfl ?_
         refine fs_q 2 [] [(18,none)] (y_loadA0 ti45 rfl rfl hokN.len) rfl rfl ?_
         refine fs_bs 145 3 [2] gy0 Tryz.underlying24 ti45 rfl rfl rfl (by simp [cellsA,hokN.len]) (show cellsA (A.ag (nextE x k l iss day ids c (chg σ c)).cells)++ []=(nextE x k l iss day ids c (chg σ c)).cells from List.append_nil _) rfl rfl rfl rfl ?_
         refine fs_app 146 4 [1,3] [(143,some 1),(145,some 3)] gy0 Tryz.underlying24 ti45 rfl (.sl rfl (by rw [len_epsC hl])) rfl (SM_full rfl (by first|rfl|omega|(simp<;>omega)|(simp [*]<;>omega))) (by rw [hokN.len]) (by simp only [maxLen];omega) (by omega) rfl (eps_snoc l (nextE x k l iss day ids c (chg σ c))) rfl rfl ?_
         refine fs_end (by kernel_rfl) ?_
         refine at_op rfl (n_store1 ti24 rfl rfl rfl rfl (by first|rfl|omega|(simp<;>omega)|(simp [*]<;>omega)) rfl ?_)
         refine at_op rfl (n_store1 ti27 rfl rfl rfl rfl (by first|rfl|omega|(simp<;>omega)|(simp [*]<;>omega)) rfl ?_)
         refine at_nil<|x_tn<|at_ret ?_
         refine at_frzO 14 0 rfl rfl rfl rfl pul (view_eq (by rw [len_epsC (epsOk_snoc hl hokN),List.length_append];rfl) rfl) rfl ?_
         refine at_leaveR hdf hS epub1_C epub1_R rfl (r_cell ti24 rfl rfl rfl (r_cell ti27 rfl rfl rfl r_nil)) ?_
         rw [pub_5 hsz hf h0 h43 hc58 (hlb.trans hc85) hk hs];exact congrArg (fun n=>A.tu [.fz n (epsC (l++ [(nextE x k l iss day ids c (chg σ c))])),.i .i64 0]) (show l.length+1=(l++ [(nextE x k l iss day ids c (chg σ c))]).length by simp)
      ·skip
       refine p_call ⟨[]⟩ false rfl trivial (.cons (.pure pu) (.cons (.pure pu) .nil)) (eneed_px 351) (fun u hu=>?_)
       refine x_tp ?_
       refine x_tp ?_
       refine at_leaveX ⟨[(14,some [.nl]),(15,some [.i .i64 0])]⟩ hdf hS epub1_C ⟨⟨rfl,VwL.pure pul⟩,⟨rfl,VwL.pure pul⟩,trivial⟩ (.cons (.kp rfl) (.cons (.kp rfl) .nil)) (epub1_D _ _ 351) (hu) (two_upd rfl rfl pul pul) rfl (r_cell ti24 rfl rfl rfl (r_cell ti27 rfl rfl rfl r_nil)) ?_
       rw [pub_4 hsz hf h0 h43 (.inr (.inl (hlb.trans hc85)))];rfl
     ·have h69 : l = [] := List.length_eq_zero_iff.1 (by have := of_decide_eq_false hc69; omega)
      obtain⟨hlb,hld⟩:=last_nil (iss:=iss) (day:=day) h69
      refine at_skip<|x_tn<|at_seq ?_
      rcases tfC (chOk σ (-1) c)with hcs|hcs
      ·have hk := hcs
       refine at_sayO 18 (cs':=nxC iss (l.length:Nat) day c zD (lastD l)) rfl (by rw [hld]) ?_
       refine at_region<|s1 (y_p rfl) rfl<|s1 (y_p rfl) rfl ?_
       refine p_call ⟨[(700,some [.mc b39 (mapOf σ)])]⟩ false rfl ⟨⟨rfl,VwL.pure pul⟩,trivial⟩ (.cons (.pure pu) (.cons (.pure pu) .nil)) (echange_px (by simp only [maxLen];omega) hk) (fun u hu=>?_)
       refine x_tp ?_
       refine at_leaveX ⟨[(14,some [.nl]),(15,some [.i .i64 0])]⟩ hdf hS epub1_C ⟨⟨rfl,VwL.pure pul⟩,⟨rfl,VwL.pure pul⟩,trivial⟩ (.cons (.kp rfl) (.cons (.kp rfl) .nil)) (epub1_D _ _ 351) (hu.2) (two_upd rfl rfl pul pul) rfl (r_cell ti24 rfl rfl rfl (r_cell ti27 rfl rfl rfl r_nil)) ?_
       rw [pub_4 hsz hf h0 h43 (.inr (.inr (.inl hk)))];rfl
      ·have hk := hcs
       refine at_sayO 18 (cs':=nxC iss (l.length:Nat) day c zD (lastD l)) rfl (by rw [hld]) ?_
       refine at_region<|s1 (y_p rfl) rfl<|s1 (y_p rfl) rfl ?_
       refine at_op rfl (n_callGd ⟨[(700,some [.mc b39 (mapOf σ)])]⟩ [(700, [.mc b39 (mapOf (chg σ c))])] false rfl ⟨⟨rfl,VwL.pure pul⟩,trivial⟩ (.cons (.pure pu) (.cons (.pure pu) .nil)) (echange_ok (by simp only [maxLen];omega) hk) pu (.inl rfl) (fun p hp=>by rw [List.mem_singleton.1 hp];exact⟨⟨_,rfl⟩,pul,.inl rfl⟩) rfl ?_)
       refine at_nil<|x_tn<|at_seq ?_
       rcases tfC (splB (chg σ c) ids)with hcs|hcs
       ·have hs := hcs
        refine at_region<|s1 (y_p rfl) rfl<|s1 (y_p rfl) rfl ?_
        refine p_call ⟨[(700,some [.mc b39 (mapOf (chg σ c))])]⟩ false rfl ⟨⟨rfl,VwL.pure pul⟩,trivial⟩ (.cons (.pure pu) (.cons (.pure pu) .nil)) (split35_px (sup_chg hsup (by omega) hk) (by omega) hs) (fun u hu=>?_)
        refine x_tp ?_
        refine at_leaveX ⟨[(14,some [.nl]),(15,some [.i .i64 0])]⟩ hdf hS epub1_C ⟨⟨rfl,VwL.pure pul⟩,⟨rfl,VwL.pure pul⟩,trivial⟩ (.cons (.kp rfl) (.cons (.kp rfl) .nil)) (epub1_D _ _ 351) (hu.2) (two_upd rfl rfl pul pul) rfl (r_cell ti24 rfl rfl rfl (r_cell ti27 rfl rfl rfl r_nil)) ?_
        rw [pub_4 hsz hf h0 h43 (.inr (.inr (.inr hs)))];rfl
       ·have hs := hcs
        have hlis:=spl_listed hs
        have hbl:=len_bad (chg σ c) ids
        have hgl:=len_good (chg σ c) ids
        obtain⟨hbE,hbF⟩:=casB_small (x:=saltD x l.length) (p:=(badS (chg σ c) ids)) (q:=(goodS (chg σ c) ids)) (by omega) (by omega)
        have hok0:(next0 x l iss day ids c (chg σ c)).ok:=next0_ok hn hi hd hc hcr
        have hokN:(nextE x k l iss day ids c (chg σ c)).ok:=nextE_ok hn hi hd hc hcr
        have hlt:l.length<k:=by omega
        have hNl:=hokN.len
        refine at_region<|s1 (y_p rfl) rfl<|s1 (y_p rfl) rfl ?_
        refine at_op rfl (n_callGd ⟨[(700,some [.mc b39 (mapOf (chg σ c))])]⟩ [] false rfl ⟨⟨rfl,VwL.pure pul⟩,trivial⟩ (.cons (.pure pu) (.cons (.pure pu) .nil)) (split35_ok (sup_chg hsup (by omega) hk) (by omega) hs) pu (.inl rfl) (fun p hp=>by cases hp) rfl ?_)
        refine s1 (y_p rfl) rfl<|s1 (y_p rfl) rfl<|s1 (y_p rfl) rfl<|s1 (y_p rfl) rfl<|s1 (y_p rfl) rfl ?_
        refine at_nil<|x_tn<|at_seq ?_
        refine at_frzP 7 rfl rfl pul ?_
        refine at_fs ⟨_, [], []⟩ 8 4 hmix (le_refl rfl) ?_
        refine fs_q 0 [] [] ((y_cutfa (ds:=((x.map u8).drop (0*1)).take (32*1)) 32 Tryz.underlying23 ti5 rfl (by simp [maxLen]) bn bn (Nat.zero_le _) (Nat.le_refl _) (by simp [hx]) rfl rfl).v (cut_all hx)) rfl rfl ?_
        refine fs_callO 100 false 1 [0] [] gy0 rfl (.cons (.pure pu) (.nil)) (fclone_ok x (by omega) (by omega)) pul (.inl rfl) rfl rfl ?_
        refine fs_q 2 [] [(18,none)] (y_fld Tryz.underlying45 rfl ti3 (by decide) rfl rfl) rfl rfl ?_
        refine fs_q 3 [2] [(18,none)] (y_load ti3 rfl rfl rfl) rfl rfl ?_
        refine fs_call false 4 [3] [] gy0 rfl (.cons (.pure pu) (.nil)) (four_ok (l.length:Nat)) pu (.inl rfl) rfl rfl ?_
        refine fs_app 104 5 [1,4] [(100,some 1)] gy0 Tryz.underlying68 ti5 rfl (.sl rfl (by simp)) rfl rfl (by simp) (by simp only [maxLen];omega) (by omega) rfl (List.map_append (l₁:=x) (l₂:=seedBs (l.length:Nat) 4)).symm rfl rfl ?_
        refine fs_call true 6 [5] [(104,some 5)] gy0 rfl (.cons (.pure pu) (.cons (.sl rfl rfl (by simp [hx]) (view_eq (by simp [hx]) rfl) (VwL.pure pul) pul) .nil)) (Con.cast (tagged_ok tagS (x++seedBs (l.length:Nat) 4) (by simp [hx]) (by decide)) (congrArg (fun l:List UInt8=>A.ag (l.map u8)) (saltD_eq x l.length).symm)) pu (.inr fu) rfl rfl ?_
        refine fs_alloc 22 7 [] gy0 ti23 rfl rfl rfl ?_
        refine fs_end (by kernel_rfl) ?_
        refine at_op rfl (n_storeA ti23 rfl rfl rfl (by first|rfl|omega|(simp<;>omega)|(simp [*]<;>omega)) (by first|rfl|omega|(simp<;>omega)|(simp [*]<;>omega)) ?_)
        refine at_nil<|x_tn<|at_seq<|at_region<|s1 (y_loadA0 ti23 rfl rfl (by simp)) rfl<|s1 (y_p rfl) rfl<|s1 (y_p rfl) rfl ?_
        refine at_op rfl (n_call false rfl (.cons (.pure pu) (.cons (.pure pu) (.cons (.pure pu) (.nil)))) (Con.cast (cbuild_ok (saltD x l.length) (by simp) (badS (chg σ c) ids) (goodS (chg σ c) ids) (by omega) (by omega)) (build_yes (ok2_split hlis))) pu (.inl rfl) rfl ?_)
        refine s1 (y_p rfl) rfl<|s1 (y_p rfl) rfl<|s1 (y_p rfl) rfl ?_
        refine at_op rfl (n_alloc 23 rfl ti60 rfl rfl ?_)
        refine at_op rfl (n_storeA ti60 rfl rfl rfl (cas_len (c:=(casE x l.length (chg σ c) ids)) (len_saltD _ _)) rfl ?_)
        refine at_op rfl (n_store1 ti27 rfl rfl rfl rfl (by first|rfl|omega|(simp<;>omega)|(simp [*]<;>omega)) rfl ?_)
        refine at_nil<|x_tn<|at_seq<|at_region<|s1 (y_load ti27 rfl rfl rfl) rfl<|s1 ((y_p rfl).v (v':= .b true) (rfl)) rfl<|s1 (y_load ti27 rfl rfl rfl) rfl ?_
        refine at_op rfl (n_call false rfl (.cons (.pure pu) (.cons (.pure pu) .nil)) (eneed_ok 0) pu (.inl rfl) rfl ?_)
        refine at_nil<|x_tn<|at_seq<|at_region<|s1 (y_loadA0 ti60 rfl rfl (cas_len (c:=(casE x l.length (chg σ c) ids)) (len_saltD _ _))) rfl ?_
        refine at_op rfl (n_call false rfl (.cons (.pure pu) (.nil)) (Con.cast (cdigC_ok (casE x l.length (chg σ c) ids) (len_saltD _ _) (show(casE x l.length (chg σ c) ids).E.length≤maxLen by simp only [maxLen];exact Nat.le_trans hbE (by decide))) (digCA_y (chkC_casB (ok2_split hlis)))) pu (.inl rfl) rfl ?_)
        refine s1 (y_p rfl) rfl<|s1 (y_p rfl) rfl<|s1 (y_p rfl) rfl<|s1 (y_fld Tryz.underlying45 rfl ti23 (by decide) rfl rfl) rfl ?_
        refine at_op rfl (n_store ti23 rfl rfl rfl rfl rfl (show((digC (casE x l.length (chg σ c) ids)).map u8).length=32 by simp) (by rw [nx_len rfl (len_lastD _)];decide) (nx_cas rfl) ?_)
        refine at_op rfl (n_store1 ti27 rfl rfl rfl rfl (by first|rfl|omega|(simp<;>omega)|(simp [*]<;>omega)) rfl ?_)
        refine at_nil<|x_tn<|at_seq<|at_region<|s1 (y_load ti27 rfl rfl rfl) rfl<|s1 ((y_p rfl).v (v':= .b true) (rfl)) rfl<|s1 (y_load ti27 rfl rfl rfl) rfl ?_
        refine at_op rfl (n_call false rfl (.cons (.pure pu) (.cons (.pure pu) .nil)) (eneed_ok 0) pu (.inl rfl) rfl ?_)
        refine at_nil<|x_tn<|at_seq ?_
        refine at_wkO 18 rfl nx_wk ?_
        refine at_fs ⟨_, [], []⟩ 12 4 hmix (le_refl rfl) ?_
        refine fs_q 0 [] [] (y_loadA ti23 rfl rfl (List.take_of_length_le (by simp [hx])) (by simp [hx])) rfl rfl ?_
        refine fs_q 1 [] [] (y_p rfl) rfl rfl ?_
        refine fs_q 2 [] [(18,none)] (y_fld Tryz.underlying45 rfl ti3 (by decide) rfl rfl) rfl rfl ?_
        refine fs_q 3 [2] [(18,none)] (y_load ti3 rfl rfl rfl) rfl rfl ?_
        refine fs_q 4 [] [(18,none)] (y_loadA0 ti45 rfl rfl hok0.len) rfl rfl ?_
        refine fs_call false 5 [4] [] gy0 rfl (.cons (.pure pu) (.nil)) (edig_ok (next0 x l iss day ids c (chg σ c)) hok0) pu (.inl rfl) rfl rfl ?_
        refine fs_call false 6 [0,1,3,5] [] gy0 rfl (.cons (.pure pu) (.cons (.pure pu) (.cons (.pure pu) (.cons (.pure pu) (.nil))))) (Con.cast (signW_ok x k (l.length:Nat) (digE (next0 x l iss day ids c (chg σ c))) hx (by simp) hsz) (signA_yes hsz hlt)) pu (.inl rfl) rfl rfl ?_
        refine fs_q 7 [6] [] (y_p rfl) rfl rfl ?_
        refine fs_q 8 [7] [] (y_p rfl) rfl rfl ?_
        refine fs_q 9 [7] [] (y_p rfl) rfl rfl ?_
        refine fs_q 10 [] [(18,none)] (y_fld Tryz.underlying45 rfl ti43 (by decide) rfl rfl) rfl rfl ?_
        refine fs_sto 0 11 [8,10] [(18,none)] rfl gy0 ti43 rfl rfl rfl rfl rfl rfl (by rw [hok0.len];decide) (show _=(nextE x k l iss day ids c (chg σ c)).cells from nx_sg (s:=⟨(l.length:Nat),signD (seedL x (l.length:Nat)) (digE (next0 x l iss day ids c (chg σ c))),path (kpubs x k) l.length⟩) hok0) rfl ?_
        refine fs_end (by kernel_rfl) ?_
        refine at_op rfl (n_store1 ti27 rfl rfl rfl rfl (by first|rfl|omega|(simp<;>omega)|(simp [*]<;>omega)) rfl ?_)
        refine at_nil<|x_tn<|at_seq<|at_region<|s1 (y_load ti27 rfl rfl rfl) rfl<|s1 ((y_p rfl).v (v':= .b true) (rfl)) rfl<|s1 (y_load ti27 rfl rfl rfl) rfl ?_
        refine at_op rfl (n_call false rfl (.cons (.pure pu) (.cons (.pure pu) .nil)) (eneed_ok 0) pu (.inl rfl) rfl ?_)
        refine at_nil<|x_tn<|at_seq ?_
        refine at_fs ⟨_, [], []⟩ 5 4 hmix (le_refl rfl) ?_
        refine fs_q 0 [] [] (y_p rfl) rfl rfl ?_
        refine fs_callO 143 false 1 [0] [] gy0 rfl (.cons (.pure pu) (.nil)) (clE_ok l hl (by omega)) pul (.inl rfl) rfl rfl ?_
        refine fs_q 2 [] [(18,none)] (y_loadA0 ti45 rfl rfl hokN.len) rfl rfl ?_
        refine fs_bs 145 3 [2] gy0 Tryz.underlying24 ti45 rfl rfl rfl (by simp [cellsA,hokN.len]) (show cellsA (A.ag (nextE x k l iss day ids c (chg σ c)).cells)++ []=(nextE x k l iss day ids c (chg σ c)).cells from List.append_nil _) rfl rfl rfl rfl ?_
        refine fs_app 146 4 [1,3] [(143,some 1),(145,some 3)] gy0 Tryz.underlying24 ti45 rfl (.sl rfl (by rw [len_epsC hl])) rfl (SM_full rfl (by first|rfl|omega|(simp<;>omega)|(simp [*]<;>omega))) (by rw [hokN.len]) (by simp only [maxLen];omega) (by omega) rfl (eps_snoc l (nextE x k l iss day ids c (chg σ c))) rfl rfl ?_
        refine fs_end (by kernel_rfl) ?_
        refine at_op rfl (n_store1 ti24 rfl rfl rfl rfl (by first|rfl|omega|(simp<;>omega)|(simp [*]<;>omega)) rfl ?_)
        refine at_op rfl (n_store1 ti27 rfl rfl rfl rfl (by first|rfl|omega|(simp<;>omega)|(simp [*]<;>omega)) rfl ?_)
        refine at_nil<|x_tn<|at_ret ?_
        refine at_frzO 14 0 rfl rfl rfl rfl pul (view_eq (by rw [len_epsC (epsOk_snoc hl hokN),List.length_append];rfl) rfl) rfl ?_
        refine at_leaveR hdf hS epub1_C epub1_R rfl (r_cell ti24 rfl rfl rfl (r_cell ti27 rfl rfl rfl r_nil)) ?_
        rw [pub_5 hsz hf h0 h43 hc58 (hlb) hk hs];exact congrArg (fun n=>A.tu [.fz n (epsC (l++ [(nextE x k l iss day ids c (chg σ c))])),.i .i64 0]) (show l.length+1=(l++ [(nextE x k l iss day ids c (chg σ c))]).length by simp)
    ·skip
     refine p_call ⟨[]⟩ false rfl trivial (.cons (.pure pu) (.cons (.pure pu) .nil)) (eneed_px 351) (fun u hu=>?_)
     refine x_tp ?_
     refine at_leaveX ⟨[(14,some [.nl]),(15,some [.i .i64 0])]⟩ hdf hS epub1_C ⟨⟨rfl,VwL.pure pul⟩,⟨rfl,VwL.pure pul⟩,trivial⟩ (.cons (.kp rfl) (.cons (.kp rfl) .nil)) (epub1_D _ _ 351) (hu) (two_upd rfl rfl pul pul) rfl (r_cell ti24 rfl rfl rfl (r_cell ti27 rfl rfl rfl r_nil)) ?_
     rw [pub_4 hsz hf h0 h43 (.inl hc58)];rfl
   ·have h43 : (l.length : Int) = (k : Int) := by simpa using hc43
    refine p_call ⟨[]⟩ false rfl trivial (.cons (.pure pu) (.cons (.pure pu) .nil)) (eneed_px 2) (fun u hu=>?_)
    refine x_tp ?_
    refine at_leaveX ⟨[(14,some [.nl]),(15,some [.i .i64 0])]⟩ hdf hS epub1_C ⟨⟨rfl,VwL.pure pul⟩,⟨rfl,VwL.pure pul⟩,trivial⟩ (.cons (.kp rfl) (.cons (.kp rfl) .nil)) (epub1_D _ _ 2) (hu) (two_upd rfl rfl pul pul) rfl (r_cell ti24 rfl rfl rfl (r_cell ti27 rfl rfl rfl r_nil)) ?_
    rw [pub_3 hsz hf h0 h43];rfl
end Go.Abs.D2
-- E5R
namespace Go.Abs.D2
open Go Go.Eng Go.Abs
def atJ (l : List Ep) (day : Int) : Nat → Option Nat
  |0=>none
  | j + 1 => match l[j]? with
    |some e=>if e.day≤day then some j else atJ l day j
    |none=>atJ l day j
@[irreducible] def atE (l:List Ep) (day:Int):Option Nat:=atJ l day l.length
theorem atE_eq (l:List Ep) (day:Int):atE l day=atJ l day l.length:=by unfold atE;rfl
def atA:Option Nat→A
  |none=> .tu [.i .i64 0,.b false]
  |some j=> .tu [nJ j,.b true]
theorem atJ_yes {l:List Ep} {day:Int} {j:Nat} {e:Ep} (h:l[j]? =some e) (hd:e.day≤day):atJ l day (j+1)=some j:=by rw [atJ,h];simp only;rw [if_pos hd]
theorem atJ_no {l:List Ep} {day:Int} {j:Nat} {e:Ep} (h:l[j]? =some e) (hd:¬e.day≤day):atJ l day (j+1)=atJ l day j:=by rw [atJ,h];simp only;rw [if_neg hd]
end Go.Abs.D2
-- E5S
namespace Go.Abs.D2
open Go Go.Eng Go.Abs
def chS (σ:Int→Int):List Ch:=(keysS σ).map fun k=>⟨k,σ k⟩
theorem chS_next {σ:Int→Int} {i:Nat} {q:Int} (h:(keysS σ)[i]? =some q):chsC ((chS σ).take i)++Ch.cells ⟨q,σ q⟩=chsC ((chS σ).take (i+1)):=by
  have:(chS σ)[i]? =some ⟨q,σ q⟩:=by unfold chS;rw [List.getElem?_map,h];rfl
  rw [List.take_add_one,this];simp [chsC]
theorem eps_take {l:List Ep} (h:EpsOk l) (k:Nat):((epsC l).drop (0*71)).take (k*71)=epsC (l.take k):=by
  rw [Nat.zero_mul,List.drop_zero]
  unfold epsC
  induction l generalizing k with
  |nil=>simp
  | cons e l ih =>
    cases k with
    |zero=>simp
    | succ k =>
      have he:=(h e (.head _)).len
      rw [List.flatMap_cons,List.take_succ_cons,List.flatMap_cons,show(k+1)*71=e.cells.length+k*71 by rw [he];omega,List.take_append,List.take_of_length_le (by omega),Nat.add_sub_cancel_left,ih (fun x hx=>h x (.tail _ hx))]
@[irreducible] def stsX (l : List Ep) (no : Int) : Int ⊕ List Ch :=
  if no< -1∨(l.length:Int)≤no then .inl 1 else match formS (l.take (no+1).toNat)with
    |none=> .inl 351
    |some σ=> .inr (chS σ)
def resS:Int ⊕ List Ch→A
  | .inl e=> .tu [.nl,.i .i64 e]
  | .inr c=> .tu [chsA c,.i .i64 0]
theorem sts_1 {l:List Ep} {no:Int} (h:no< -1∨(l.length:Int)≤no):stsX l no= .inl 1:=by unfold stsX;rw [if_pos h]
theorem sts_2 {l:List Ep} {no:Int} (h:¬(no< -1∨(l.length:Int)≤no)) (hf:formS (l.take (no+1).toNat)=none):stsX l no= .inl 351:=by unfold stsX;rw [if_neg h,hf]
theorem sts_3 {l:List Ep} {no:Int} {σ:Int→Int} (h:¬(no< -1∨(l.length:Int)≤no)) (hf:formS (l.take (no+1).toNat)=some σ):stsX l no= .inr (chS σ):=by unfold stsX;rw [if_neg h,hf]
def lastY (d0:Int) (l:List Ep):Int:=match l.getLast? with
  |none=>d0
  |some e=>e.day
def lastP (p0:List UInt8) (l:List Ep):List UInt8:=match l.getLast? with
  |none=>p0
  |some e=>digE e
theorem lastY_cons (d0:Int) (e:Ep) (l:List Ep):lastY d0 (e::l)=lastY e.day l:=by
  unfold lastY
  cases l with
  |nil=>rfl
  |cons a r=>simp [List.getLast?_cons]
theorem lastP_cons (p0:List UInt8) (e:Ep) (l:List Ep):lastP p0 (e::l)=lastP (digE e) l:=by
  unfold lastP
  cases l with
  |nil=>rfl
  |cons a r=>simp [List.getLast?_cons]
theorem frm_app:∀ {l r:List Ep} {iss:Int} {no:Nat} {day:Int} {prev:List UInt8} {σ:Int→Int},
    frm iss no day prev σ (l++r)=match frm iss no day prev σ l with
      |none=>none
      |some τ=>frm iss (no+l.length) (lastY day l) (lastP prev l) τ r
  | [],r,iss,no,day,prev,σ=>rfl
  | e :: l, r, iss, no, day, prev, σ => by
    rw [List.cons_append,frm,frm]
    by_cases hb:(epB iss no day prev e&&chOk σ (-1) e.ch)=true
    · rw [if_pos hb,if_pos hb,frm_app,lastY_cons,lastP_cons,List.length_cons,show no+1+l.length=no+(l.length+1) by omega]
    · rw [if_neg hb,if_neg hb]
theorem issL_app {l r:List Ep} (h:l≠ []):issL (l++r)=issL l:=by
  cases l with
  |nil=>exact absurd rfl h
  |cons a l=>rfl
theorem form_take {l : List Ep} {σ : Int → Int} (h : formS l = some σ) (k : Nat) : ∃ τ, formS (l.take k) = some τ := by
  rcases Nat.eq_zero_or_pos k with h0|h0
  · subst h0
    exact⟨σ0,by rw [formS_eq];rfl⟩
  · rw [formS_eq] at h ⊢
    have e:l=l.take k++l.drop k:=(List.take_append_drop k l).symm
    cases l with
    |nil=>exact⟨σ,by simpa using h⟩
    | cons a r =>
      have hi:issL ((a::r).take k)=issL (a::r):=by
        cases k with
        |zero=>omega
        |succ k=>rfl
      rw [e,frm_app]at h
      rw [←e]at h
      rw [hi]
      cases hf:frm (issL (a::r)) 0 (-1) zD σ0 ((a::r).take k)with
      |none=>rw [hf]at h;cases h
      |some τ=>exact⟨τ,rfl⟩
theorem lastD_P (l:List Ep):lastD l=lastP zD l:=rfl
theorem lastE_spec {l:List Ep} {iss day:Int} (h:lastE l iss day=true) (hl:l≠ []):∃e,l.getLast?=some e∧iss=e.iss∧e.day<day:=by
  unfold lastE at h
  cases hg:l.getLast? with
  |none=>exact absurd (List.getLast?_eq_none_iff.1 hg) hl
  | some e =>
    rw [hg]at h
    simp only [Bool.and_eq_true,decide_eq_true_eq,beq_iff_eq]at h
    exact⟨e,rfl,h.1,h.2⟩
theorem frm_iss:∀ {l:List Ep} {iss:Int} {no:Nat} {day:Int} {prev:List UInt8} {σ τ:Int→Int},frm iss no day prev σ l=some τ→∀e∈l,e.iss=iss
  | [],_,_,_,_,_,_,_,e,h=>by cases h
  | a :: r, iss, no, day, prev, σ, τ, hf, e, h => by
    rw [frm]at hf
    split at hf
    · rename_i hb
      simp only [Bool.and_eq_true,epB,beq_iff_eq]at hb
      rcases List.mem_cons.1 h with rfl|h
      · exact hb.1.1.1.1.1
      · exact frm_iss hf e h
    · cases hf
section
variable {x:List UInt8} {n:Int} {l:List Ep} {iss day:Int} {ids:List Int} {c:List Ch} {e:Ep}
theorem pub_spec (h : pubX x n l iss day ids c = .inr e) : sizeK n ∧ ∃ σ, formS l = some σ ∧ chkE (rootD x n) n l = 0 ∧ ¬ (l.length : Int) = n ∧ argE iss day = true ∧ lastE l iss day = true ∧ chOk σ (-1) c = true ∧ splB (chg σ c) ids = true ∧ e = nextE x n.toNat l iss day ids c (chg σ c) := by
  by_cases h1:sizeK n
  · refine ⟨h1, ?_⟩
    cases hf:formS l with
    |none=>rw [pub_2 h1 (by rw [chkE_no hf];decide)]at h;cases h
    | some σ =>
      by_cases h2:chkE (rootD x n) n l=0
      · by_cases h3 : (l.length : Int) = n
        · rw [pub_3 h1 hf h2 h3]at h;cases h
        · have key : ∀ b : Bool, b = false ∨ b = true := fun b => by cases b <;> simp
          rcases key (argE iss day)with h4|h4
          · rw [pub_4 h1 hf h2 h3 (.inl h4)]at h;cases h
          rcases key (lastE l iss day)with h5|h5
          · rw [pub_4 h1 hf h2 h3 (.inr (.inl h5))]at h;cases h
          rcases key (chOk σ (-1) c)with h6|h6
          · rw [pub_4 h1 hf h2 h3 (.inr (.inr (.inl h6)))]at h;cases h
          rcases key (splB (chg σ c) ids)with h7|h7
          · rw [pub_4 h1 hf h2 h3 (.inr (.inr (.inr h7)))]at h;cases h
          rw [pub_5 h1 hf h2 h3 h4 h5 h6 h7]at h
          exact⟨σ,rfl,h2,h3,h4,h5,h6,h7,by cases h;rfl⟩
      · rw [pub_2 h1 h2]at h;cases h
  · rw [pub_1 h1]at h;cases h
theorem pub_form (h:pubX x n l iss day ids c= .inr e):∃σ,formS l=some σ∧formS (l++ [e])=some (chg σ c)∧chkE (rootD x n) n (l++ [e])=0:=by
  obtain⟨h1,σ,hf,h2,h3,h4,h5,h6,h7,he⟩:=pub_spec h
  obtain⟨k,rfl,hk1,hk2⟩:=sizeK_nat h1
  have hlk:=chkE_len hf h2
  have hlt:l.length<k:=by omega
  have hem:e.iss=iss∧e.no=(l.length:Nat)∧e.day=day∧e.ch=c∧e.prev=lastD l∧e.sg=⟨(l.length:Nat),signD (seedL x (l.length:Nat)) (digE (next0 x l iss day ids c (chg σ c))),path (kpubs x k) l.length⟩:=by subst he;exact⟨rfl,rfl,rfl,rfl,rfl,rfl⟩
  have hdg:digE e=digE (next0 x l iss day ids c (chg σ c)):=by subst he;exact digE_sg _ _
  obtain⟨e1,e2,e3,e4,e5,e6⟩:=hem
  unfold argE at h4
  simp only [Bool.and_eq_true,decide_eq_true_eq]at h4
  have hform:formS (l++ [e])=some (chg σ c):=by
    rw [formS_eq]at hf ⊢
    have hi:issL (l++ [e])=if l= []then iss else issL l:=by
      split
      · rename_i h0;subst h0;exact e1
      · rename_i h0;exact issL_app h0
    by_cases h0:l= []
    · subst h0
      cases hf
      rw [hi,if_pos rfl]
      show frm iss 0 (-1) zD σ0 [e]=_
      rw [frm,if_pos,frm,e4]
      rw [e4,h6,Bool.and_true]
      unfold epB
      simp only [Bool.and_eq_true,decide_eq_true_eq,beq_iff_eq]
      refine⟨⟨⟨⟨e1,?_⟩,?_⟩,⟨e2,by rw [e6];rfl⟩,e5⟩,?_,?_⟩<;>first|omega|(rw [e1];omega)|(rw [e3];omega)
    · obtain ⟨q, hq, hqi, hqd⟩ := lastE_spec h5 h0
      rw [hi,if_neg h0,frm_app,hf]
      simp only
      have hY:lastY (-1) l=q.day:=by unfold lastY;rw [hq]
      have hql:=frm_iss hf q (List.mem_of_getLast? hq)
      rw [frm,if_pos,frm,e4]
      rw [e4,h6,Bool.and_true]
      unfold epB
      simp only [Bool.and_eq_true,decide_eq_true_eq,beq_iff_eq]
      refine⟨⟨⟨⟨by rw [e1,hqi,hql],by rw [e1];omega⟩,by rw [e1];omega⟩,⟨by rw [e2,Nat.zero_add],by rw [e6,Nat.zero_add]⟩,by rw [e5];exact lastD_P l⟩,by rw [hY,e3];exact hqd,by rw [e3];omega⟩
  refine⟨σ,hf,hform,chkE_yes hform fun a ha=>?_⟩
  rcases List.mem_append.1 ha with ha|ha
  · cases hv : verK (rootD x (k : Int)) k (digE a) a.sg.a a.sg.S a.sg.P with
    |true=>rfl
    |false=>rw [chkE_bad hf ha hv]at h2;cases h2
  · rw [List.mem_singleton.1 ha, e6, hdg]
    exact ver_signed _ h1 hlt
end
structure Sp where
  day:Int
  ch:List Ch
def Sp.cells (s:Sp):List A:= [.i .i64 s.day,chsA s.ch]
def spsC (l:List Sp):List A:=l.flatMap Sp.cells
instance {s:Sp}:IsPureL s.cells:=by unfold Sp.cells;infer_instance
instance {l:List Sp}:IsPureL (spsC l):=by unfold spsC;infer_instance
def Sp.ok (s:Sp):Prop:=rg s.day∧∀c∈s.ch,rg c.id∧rg c.st
theorem sps_get {l:List Sp} {i:Nat} {s:Sp} (h:l[i]? =some s):((spsC l).drop (i*2)).take 2=s.cells:=by
  unfold spsC
  induction l generalizing i with
  |nil=>simp at h
  | cons d l ih =>
    rw [List.flatMap_cons]
    cases i with
    |zero=>simp at h;subst h;rfl
    |succ i=>rw [show(i+1)*2=d.cells.length+i*2 by show _=2+_;omega, ←List.drop_drop,List.drop_left];exact ih (by simpa using h)
theorem sps_fld {l:List Sp} {i:Nat} {s:Sp} (h:l[i]? =some s) {k:Nat} {v:A} (hv:s.cells[k]? =some v) (hk:k<2):(((spsC l).drop (i*2)).drop k)[0]? =some v:=by
  have e1:(((spsC l).drop (i*2)).take 2)[k]? =some v:=by rw [sps_get h];exact hv
  rw [List.getElem?_take,if_pos hk]at e1
  rw [List.getElem?_drop,Nat.add_zero];exact e1
def addE (l:List Ep):Int ⊕ Ep→List Ep
  | .inl _=>l
  | .inr e=>l++ [e]
def pubLs (x:List UInt8) (n iss:Int) (ids:List Int):List Ep→List Sp→List Ep
  |l, []=>l
  |l,s::r=>pubLs x n iss ids (addE l (pubX x n l iss s.day ids s.ch)) r
theorem pubLs_next {x:List UInt8} {n iss:Int} {ids:List Int} {l:List Ep} {S:List Sp} {i:Nat} {s:Sp} (h:S[i]? =some s):pubLs x n iss ids l (S.drop i)=pubLs x n iss ids (addE l (pubX x n l iss s.day ids s.ch)) (S.drop (i+1)):=by
  rw [List.drop_eq_getElem_cons (List.getElem?_eq_some_iff.1 h).1,(List.getElem?_eq_some_iff.1 h).2,pubLs]
theorem addE_ok {x:List UInt8} {n:Int} {l:List Ep} {iss day:Int} {ids:List Int} {c:List Ch} (hl:EpsOk l) (hn:l.length≤1000) (hi:rg iss) (hd:rg day) (hc:c.length≤1000) (hcr:∀e∈c,rg e.id∧rg e.st):EpsOk (addE l (pubX x n l iss day ids c))∧(addE l (pubX x n l iss day ids c)).length≤l.length+1:=by
  cases h:pubX x n l iss day ids c with
  |inl v=>exact⟨hl,Nat.le_succ _⟩
  | inr e =>
    obtain⟨_,σ,_,_,_,_,_,_,_,rfl⟩:=pub_spec h
    exact⟨epsOk_snoc hl (nextE_ok hn hi hd hc hcr),by simp [addE]⟩
@[irreducible] def fewE (n:Int) (ids:List Int) (S:List Sp):Bool:=(S.all fun s=>decide (s.ch.length≤10))&&((decide ((S.length:Int)≤5)&&decide (n≤6))&&decide ((ids.length:Int)≤24))
theorem fewE_no {n:Int} {ids:List Int} {S:List Sp} {s:Sp} (h:s∈S) (hc:¬s.ch.length≤10):fewE n ids S=false:=by
  unfold fewE
  rw [show(S.all fun s=>decide (s.ch.length≤10))=false from List.all_eq_false.2 ⟨s,h,by simp [hc]⟩];rfl
theorem fewE_all {n:Int} {ids:List Int} {S:List Sp} (h:∀s∈S,s.ch.length≤10):fewE n ids S=((decide ((S.length:Int)≤5)&&decide (n≤6))&&decide ((ids.length:Int)≤24)):=by
  unfold fewE
  rw [List.all_eq_true.2 fun s hs=>decide_eq_true (h s hs),Bool.true_and]
theorem fewE_spec {n:Int} {ids:List Int} {S:List Sp} (h:fewE n ids S=true):(∀s∈S,s.ch.length≤10)∧S.length≤5∧n≤6∧ids.length≤24:=by
  unfold fewE at h
  simp only [Bool.and_eq_true,decide_eq_true_eq,List.all_eq_true]at h
  exact⟨h.1,by omega,h.2.1.2,by omega⟩
end Go.Abs.D2
-- E5U
namespace Go.Abs.D2
open Go Go.Eng Go.Abs
def stC:List Ch→Int→Int
  | [],_=>0
  |c::r,id=>if c.id=id then c.st else stC r id
theorem stC_yes {l:List Ch} {id:Int} {i:Nat} {c:Ch} (h:l[i]? =some c) (hc:c.id=id):stC (l.drop i) id=c.st:=by
  rw [List.drop_eq_getElem_cons (List.getElem?_eq_some_iff.1 h).1,(List.getElem?_eq_some_iff.1 h).2,stC,if_pos hc]
theorem stC_no {l:List Ch} {id:Int} {i:Nat} {c:Ch} (h:l[i]? =some c) (hc:¬c.id=id):stC (l.drop i) id=stC (l.drop (i+1)) id:=by
  rw [List.drop_eq_getElem_cons (List.getElem?_eq_some_iff.1 h).1,(List.getElem?_eq_some_iff.1 h).2,stC,if_neg hc]
theorem chs_fld {l:List Ch} {i:Nat} {c:Ch} (h:l[i]? =some c) {k:Nat} {v:A} (hv:c.cells[k]? =some v) (hk:k<2):(((chsC l).drop (i*2)).drop k)[0]? =some v:=by
  have e1:(((chsC l).drop (i*2)).take 2)[k]? =some v:=by rw [chs_get h];exact hv
  rw [List.getElem?_take,if_pos hk]at e1
  rw [List.getElem?_drop,Nat.add_zero];exact e1
def sameC5:List Ch→List Ch→Bool
  | [], []=>true
  |a::r,b::s=>(a.id==b.id&&a.st==b.st)&&sameC5 r s
  |_,_=>false
theorem sameC5_self:∀l:List Ch,sameC5 l l=true
  | []=>rfl
  |c::l=>by rw [sameC5,sameC5_self l];simp
theorem sameC5_len:∀ {a b:List Ch},sameC5 a b=true→a.length=b.length
  | [], [],_=>rfl
  | _ :: a, _ :: b, h => by
    rw [sameC5,Bool.and_eq_true]at h
    rw [List.length_cons,List.length_cons,sameC5_len h.2]
  | [],_::_,h=>by cases h
  |_::_, [],h=>by cases h
theorem sameC5_lne {a b:List Ch} (h:a.length≠b.length):sameC5 a b=false:=by
  cases hs:sameC5 a b with
  |false=>rfl
  |true=>exact absurd (sameC5_len hs) h
theorem sameC5_at {a b:List Ch} {i:Nat} {c d:Ch} (h1:a[i]? =some c) (h2:b[i]? =some d):sameC5 (a.drop i) (b.drop i)=((c.id==d.id&&c.st==d.st)&&sameC5 (a.drop (i+1)) (b.drop (i+1))):=by
  rw [List.drop_eq_getElem_cons (List.getElem?_eq_some_iff.1 h1).1,(List.getElem?_eq_some_iff.1 h1).2,List.drop_eq_getElem_cons (List.getElem?_eq_some_iff.1 h2).1,(List.getElem?_eq_some_iff.1 h2).2,sameC5]
theorem sum_ways (o:Int ⊕ Ep):(∃v,o= .inl v)∨∃e,o= .inr e:=by
  cases o with
  |inl v=>exact .inl ⟨v,rfl⟩
  |inr e=>exact .inr ⟨e,rfl⟩
theorem pub_err {x : List UInt8} {n : Int} {l : List Ep} {iss day : Int} {ids : List Int} {c : List Ch} {v : Int} (h : pubX x n l iss day ids c = .inl v) : v ≠ 0 := by
  unfold pubX at h
  split at h
  · split at h
    · cases h;decide
    · split at h
      · split at h
        · cases h;decide
        · split at h
          · cases h
          · cases h;decide
      · rename_i h0;cases h;exact h0
  · cases h;decide
theorem all_takeS {S:List Sp} {i:Nat} {s:Sp} {p:Sp→Prop} (h:S[i]? =some s) (ha:∀x∈S.take i,p x) (he:p s):∀x∈S.take (i+1),p x:=fun x hx=>by
  rw [List.take_add_one,h]at hx
  rcases List.mem_append.1 hx with hx|hx
  · exact ha x hx
  · rw [List.mem_singleton.1 hx];exact he
end Go.Abs.D2
