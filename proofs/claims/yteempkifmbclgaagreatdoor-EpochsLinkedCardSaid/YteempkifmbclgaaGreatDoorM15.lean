/-
  The engine, the plain laws and the walks that the rows need, part 15. Conditions: none.
-/
import Derived.Test.YteempkifmbclgaaGreatDoorM14
set_option linter.unusedVariables false
set_option linter.unusedSimpArgs false
set_option maxHeartbeats 1000000
set_option maxRecDepth 10000
-- E5G
namespace Go.Abs.D2
open Go Go.Eng Go.Abs Go.Proofs
theorem epub1_D (c0 c1:A) (e:Int):ConD Tryz.prog 43 [.p 14 0,.p 15 0] ⟨[(14,some [c0]),(15,some [c1])]⟩ (fun u=>u=misV 136 e) [(14, [.nl]),(15, [.i .i64 e])]:=by
 refine conD (.ic 136 (.ag [.i .i64 e])) (fun u hu X w β=>by rw [hu];exact V_mis _ _) Tryz.func43 rfl Tryz.ntmps43 (Nat.le_of_ble_eq_true rfl) rfl rfl fun w0 X0 hI=>?_
 refine at_seq<|at_region<|s1 (y_p rfl) rfl<|s1 (y_icne Tryz.underlying20 rfl) rfl ?_
 refine at_nil<|x_tn ?_
 refine at_then rfl ?_
 refine at_region<|s1 (y_p rfl) rfl ?_
 refine at_op rfl (n_call false rfl (.cons (.pure pu) (.nil)) (efail_ok e) pu (.inl rfl) rfl ?_)
 refine at_op rfl (n_store1 ti24 rfl rfl rfl rfl (by first|rfl|omega|(simp<;>omega)|(simp [*]<;>omega)) rfl ?_)
 refine at_op rfl (n_store1 ti27 rfl rfl rfl rfl (by first|rfl|omega|(simp<;>omega)|(simp [*]<;>omega)) rfl ?_)
 refine at_nil ?_
 refine at_result' (rs:= []) rfl r_nil (retS_2 rfl rfl)
theorem epub1_R:ConR Tryz.prog 43 2:=conR Tryz.func43 rfl (fun w=>run_nnil Tryz.underlying20 w) rfl ⟨Nat.le_of_ble_eq_true rfl,Nat.le_of_ble_eq_true rfl,Nat.le_of_ble_eq_true rfl,Nat.le_of_ble_eq_true rfl,Nat.le_of_ble_eq_true rfl⟩
theorem epub1_C:Callable Tryz.prog 43:=⟨_,Tryz.func43,rfl,by kernel_rfl⟩
theorem epub_ok (x : List UInt8) (n : Int) (l : List Ep) (iss day : Int) (ids : List Int) (c : List Ch) (hx : x.length = 32) (hl : EpsOk l) (hn : l.length ≤ 1000) (hi : rg iss) (hd : rg day) (hids : ids.length ≤ 100) (hc : c.length ≤ 1000) (hcr : ∀ e ∈ c, rg e.id ∧ rg e.st) : Con Tryz.prog 15 [.ag (x.map u8), .i .i64 n, epsA l, .i .i64 iss, .i .i64 day, .fz ids.length (ids.map (A.i .i64)), chsA c] (Ret (resE l (pubX x n l iss day ids c))) := by
 refine enterM Tryz.func15 rfl Tryz.ntmps15 (by kernel_rfl) (Nat.le_of_ble_eq_true rfl) fun w0 X0 hI hS=>?_
 refine at_seq<|at_region ?_
 refine at_op rfl (n_boxA 7 rfl rfl rfl ?_)
 refine at_op rfl (n_alloc 14 rfl ti24 rfl rfl ?_)
 refine at_op rfl (n_alloc 15 rfl ti27 rfl rfl ?_)
 refine at_nil<|x_tn<|at_seq<|at_region<|s1 (y_func (us:= []) (vs:= [.p 14 0,.p 15 0]) rfl rfl) rfl ?_
 refine at_defer [14,15] hI rfl rfl trivial rfl fun w1 us hdf=>?_
 refine at_nil<|x_tn<|at_seq ?_
 rcases(Decidable.em (sizeK n)).symm with hcs|hcs
 ·skip
  refine at_region<|s1 (y_loadA0 ti23 rfl rfl (by rw [List.length_map,hx])) rfl<|s1 (y_p rfl) rfl ?_
  refine at_op rfl (n_call false rfl (.cons (.pure pu) (.cons (.pure pu) (.nil))) (Con.cast (pubs_ok x n hx) (if_neg hcs)) pu (.inl rfl) rfl ?_)
  refine s1 (y_p rfl) rfl<|s1 (y_p rfl) rfl<|s1 (y_p rfl) rfl<|s1 (y_p rfl) rfl ?_
  refine at_op rfl (n_store1 ti27 rfl rfl rfl rfl (by first|rfl|omega|(simp<;>omega)|(simp [*]<;>omega)) rfl ?_)
  refine at_nil<|x_tn<|at_seq<|at_region<|s1 (y_load ti27 rfl rfl rfl) rfl<|s1 ((y_p rfl).v (v':= .b false) (rfl)) rfl<|s1 (y_load ti27 rfl rfl rfl) rfl ?_
  refine p_call ⟨[]⟩ false rfl trivial (.cons (.pure pu) (.cons (.pure pu) .nil)) (eneed_px 60) (fun u hu=>?_)
  refine x_tp ?_
  refine at_leaveX ⟨[(14,some [.nl]),(15,some [.i .i64 60])]⟩ hdf hS epub1_C ⟨⟨rfl,VwL.pure pul⟩,⟨rfl,VwL.pure pul⟩,trivial⟩ (.cons (.kp rfl) (.cons (.kp rfl) .nil)) (epub1_D _ _ 60) (hu) (two_upd rfl rfl pul pul) rfl (r_cell ti24 rfl rfl rfl (r_cell ti27 rfl rfl rfl r_nil)) ?_
  rw [pub_1 hcs];rfl
 ·have hsz := hcs
  obtain⟨k,rfl,hk1,hk2⟩:=sizeK_nat hcs
  refine at_region<|s1 (y_loadA0 ti23 rfl rfl (by rw [List.length_map,hx])) rfl<|s1 (y_p rfl) rfl ?_
  refine at_op rfl (n_call false rfl (.cons (.pure pu) (.cons (.pure pu) (.nil))) (Con.cast (pubs_ok x k hx) (if_pos hsz)) pu (.inl rfl) rfl ?_)
  refine s1 (y_p rfl) rfl<|s1 (y_p rfl) rfl<|s1 (y_p rfl) rfl<|s1 (y_p rfl) rfl ?_
  refine at_op rfl (n_store1 ti27 rfl rfl rfl rfl (by first|rfl|omega|(simp<;>omega)|(simp [*]<;>omega)) rfl ?_)
  refine at_nil<|x_tn<|at_seq<|at_region<|s1 (y_load ti27 rfl rfl rfl) rfl<|s1 ((y_p rfl).v (v':= .b true) (rfl)) rfl<|s1 (y_load ti27 rfl rfl rfl) rfl ?_
  refine at_op rfl (n_call false rfl (.cons (.pure pu) (.cons (.pure pu) .nil)) (eneed_ok 0) pu (.inl rfl) rfl ?_)
  refine at_nil<|x_tn<|at_seq ?_
  rcases chk_ways (rootD x (k:Int)) k l with hcs|hcs
  ·have h0 := hcs
   refine at_region<|s1 (y_p rfl) rfl ?_
   refine at_op rfl (n_call false rfl (.cons (.pure pu) (.nil)) (Con.cast (tree_ok _ (kpubs x k) (Nat.le_refl _) (D32_kpubs x k) (by simp;omega)) (congrArg (fun l:List UInt8=>A.ag (l.map u8)) (rootD_yes hsz).symm)) pu (.inl rfl) rfl ?_)
   refine s1 (y_p rfl) rfl<|s1 (y_p rfl) rfl ?_
   refine p_call ⟨[]⟩ false rfl trivial (.cons (.pure pu) (.cons (.pure pu) (.cons (.pure pu) .nil))) (echeck_px (by simp) hl (by simp only [maxLen];omega) h0) (fun u hu=>?_)
   refine x_tp ?_
   refine at_leaveX ⟨[(14,some [.nl]),(15,some [.i .i64 0])]⟩ hdf hS epub1_C ⟨⟨rfl,VwL.pure pul⟩,⟨rfl,VwL.pure pul⟩,trivial⟩ (.cons (.kp rfl) (.cons (.kp rfl) .nil)) (epub1_D _ _ (chkE (rootD x (k:Int)) k l)) (hu.2) (two_upd rfl rfl pul pul) rfl (r_cell ti24 rfl rfl rfl (r_cell ti27 rfl rfl rfl r_nil)) ?_
   rw [pub_2 hsz h0];rfl
  ·obtain ⟨σ, hf, h0⟩ := hcs
   have hsup:=sup_form hf
   have hlk:=chkE_len hf h0
   refine at_region<|s1 (y_p rfl) rfl ?_
   refine at_op rfl (n_call false rfl (.cons (.pure pu) (.nil)) (Con.cast (tree_ok _ (kpubs x k) (Nat.le_refl _) (D32_kpubs x k) (by simp;omega)) (congrArg (fun l:List UInt8=>A.ag (l.map u8)) (rootD_yes hsz).symm)) pu (.inl rfl) rfl ?_)
   refine s1 (y_p rfl) rfl<|s1 (y_p rfl) rfl ?_
   refine at_op rfl (n_callMp (F:=mapOf σ) rfl (.cons (.pure pu) (.cons (.pure pu) (.cons (.pure pu) (.nil)))) (echeck_ok (by simp) hl (by simp only [maxLen];omega) hf h0) rfl rfl fun b39=>?_)
   refine s1 (y_p rfl) rfl ?_
   refine at_nil<|x_tn<|at_seq<|at_region<|s1 (y_p rfl) rfl<|s1 (y_len Tryz.underlying24 rfl rfl rfl) rfl<|s1 (y_p rfl) rfl<|s1 (y_p rfl) rfl ?_
   refine at_bc 43 rfl (fun hc43=>?_) (fun hc43=>?_)
   ·have h43 : ¬ (l.length : Int) = (k : Int) := by simpa using hc43
    refine at_op rfl (n_call false rfl (.cons (.pure pu) (.cons (.pure pu) .nil)) (eneed_ok 2) pu (.inl rfl) rfl ?_)
    refine at_nil<|x_tn<|at_seq<|at_region<|s1 (y_p rfl) rfl<|s1 (y_p rfl) rfl<|s1 (y_p rfl) rfl ?_
    refine g_and 2 rfl rfl rfl rfl (fun hb47=> .step (y_p rfl) rfl rfl<| .step (y_p rfl) rfl rfl<| .done) rfl rfl ?_
    refine s1 (y_p rfl) rfl ?_
    refine g_and 2 rfl rfl rfl rfl (fun hb51=> .step (y_p rfl) rfl rfl<| .step (y_p rfl) rfl rfl<| .done) rfl rfl ?_
    refine s1 (y_p rfl) rfl ?_
    refine g_and 2 rfl rfl rfl rfl (fun hb55=> .step (y_p rfl) rfl rfl<| .step (y_p rfl) rfl rfl<| .done) rfl rfl ?_
    refine at_bc 58 rfl (fun hc58=>?_) (fun hc58=>?_)
    ·skip
     refine at_op rfl (n_call false rfl (.cons (.pure pu) (.cons (.pure pu) .nil)) (eneed_ok 351) pu (.inl rfl) rfl ?_)
     refine at_nil<|x_tn<|at_seq<|at_region<|s1 (y_p rfl) rfl<|s1 (y_p rfl) rfl<|s1 (y_len Tryz.underlying24 rfl rfl rfl) rfl<|s1 (y_p rfl) rfl<|s1 (y_p rfl) rfl ?_
     refine at_op rfl (n_call false rfl (.cons (.pure pu) (.nil)) (clC_ok c (by omega)) pu (.inl rfl) rfl ?_)
     refine s1 (y_bld (out:=_) [[evC (.int .i64 0)], [evC (.int .i64 0)], [evC (.int .i64 0)], [evC (.slice none 0 0)],(List.replicate 32 (.int .u8 0)).map evC,(List.replicate 32 (.int .u8 0)).map evC, [evC (.int .i64 0),evC (.slice none 0 0),evC (.slice none 0 0)]] ti45 rfl Tryz.underlying45 (by kernel_rfl) rfl rfl ⟨⟨by(first|rfl|omega|(simp;done)|(simp [*];done)|(simp [cellsA, *];done)),rfl⟩,⟨⟨by(first|rfl|omega|(simp;done)|(simp [*];done)|(simp [cellsA, *];done)),rfl⟩,⟨⟨by(first|rfl|omega|(simp;done)|(simp [*];done)|(simp [cellsA, *];done)),rfl⟩,⟨⟨by(first|rfl|omega|(simp;done)|(simp [*];done)|(simp [cellsA, *];done)),rfl⟩,trivial⟩⟩⟩⟩ rfl) rfl ?_
     refine at_op rfl (n_alloc 18 rfl ti45 rfl rfl ?_)
     refine at_op rfl (n_storeA ti45 rfl rfl rfl rfl rfl ?_)
     refine at_nil<|x_tn<|at_seq<|at_seq ?_
     refine at_sayO 18 (cs':=nxC iss (l.length:Nat) day c zD zD) rfl rfl ?_
     refine at_region<|s1 (y_p rfl) rfl<|s1 (y_len Tryz.underlying24 rfl rfl rfl) rfl<|s1 (y_p rfl) rfl ?_
     refine at_nil<|x_tn ?_
     refine at_cond rfl (fun hc69=>?_) (fun hc69=>?_)
     ·have h69 : 0 < l.length := by have := of_decide_eq_true hc69; omega
      obtain⟨e,he⟩:∃e,l[l.length - 1]? =some e:=⟨_,List.getElem?_eq_getElem (by omega)⟩
      have hok:=hl e (List.mem_of_getElem? he)
      obtain⟨hlb,hld⟩:=last_get (iss:=iss) (day:=day) he
      refine at_seq<|at_region<|s1 (y_p rfl) rfl<|s1 (y_p rfl) rfl<|s1 (y_len Tryz.underlying24 rfl rfl rfl) rfl<|s1 (subN _ 1 rfl rfl rfl rfl (by omega) (by omega)) rfl<|s1 (y_ixf (l.length - 1) Tryz.underlying24 ti45 rfl rfl rfl (by omega) rfl) rfl<|s1 (y_loadA ti45 rfl rfl (eps_get hl he) hok.len) rfl ?_
      refine at_op rfl (n_alloc 19 rfl ti45 rfl rfl ?_)
      refine at_op rfl (n_storeA ti45 rfl rfl rfl hok.len (by simp) ?_)
      refine at_nil<|x_tn<|at_seq<|at_region<|s1 (y_p rfl) rfl<|s1 (y_fld Tryz.underlying45 rfl ti3 (by decide) rfl rfl) rfl<|s1 (y_load ti3 rfl rfl rfl) rfl<|s1 (y_p rfl) rfl<|s1 (y_p rfl) rfl ?_
      refine g_and 4 rfl rfl rfl rfl (fun hb80=> .step (y_p rfl) rfl rfl<| .step (y_fld Tryz.underlying45 rfl ti3 (by decide) rfl rfl) rfl rfl<| .step (y_load ti3 rfl rfl rfl) rfl rfl<| .step (y_p rfl) rfl rfl<| .done) rfl rfl ?_
      refine at_bc 85 rfl (fun hc85=>?_) (fun hc85=>?_)
      ·skip
       refine at_op rfl (n_call false rfl (.cons (.pure pu) (.cons (.pure pu) .nil)) (eneed_ok 351) pu (.inl rfl) rfl ?_)
       refine at_nil<|x_tn<|at_region<|s1 (y_loadA0 ti45 rfl rfl hok.len) rfl ?_
       refine at_op rfl (n_call false rfl (.cons (.pure pu) (.nil)) (edig_ok e hok) pu (.inl rfl) rfl ?_)
       refine s1 (y_fld Tryz.underlying45 rfl ti23 (by decide) rfl rfl) rfl ?_
       refine at_op rfl (n_store ti23 rfl rfl rfl rfl rfl (show((digE e).map u8).length=32 by simp) (by rw [nx_len rfl rfl];decide) (nx_prev rfl rfl) ?_)
       refine at_nil<|x_tn<|at_seq ?_
       rcases tfC (chOk σ (-1) c)with hcs|hcs
       ·have hk := hcs
        refine at_sayO 18 (cs':=nxC iss (l.length:Nat) day c zD (lastD l)) rfl (by rw [hld]) ?_
        refine at_region<|s1 (y_p rfl) rfl<|s1 (y_p rfl) rfl ?_
        refine p_call ⟨[(700,some [.mc b39 (mapOf σ)])]⟩ false rfl ⟨⟨rfl,VwL.pure pul⟩,trivial⟩ (.cons (.pure pu) (.cons (.pure pu) .nil)) (echange_px (by simp only [maxLen];omega) hk) (fun u hu=>?_)
        refine x_tp ?_
        refine at_leaveX ⟨[(14,some [.nl]),(15,some [.i .i64 0])]⟩ hdf hS epub1_C ⟨⟨rfl,VwL.pure pul⟩,⟨rfl,VwL.pure pul⟩,trivial⟩ (.cons (.kp rfl) (.cons (.kp rfl) .nil)) (epub1_D _ _ 351) (hu.2) (two_upd rfl rfl pul pul) rfl (r_cell ti24 rfl rfl rfl (r_cell ti27 rfl rfl rfl r_nil)) ?_
        rw [pub_4 hsz hf h0 h43 (.inr (.inr (.inl hk)))];rfl
       ·have hk := hcs
        refine at_sayO 18 (cs':=nxC iss (l.length:Nat) day c zD (lastD l)) rfl (by rw [hld]) ?_
        refine at_region<|s1 (y_p rfl) rfl<|s1 (y_p rfl) rfl ?_
        refine at_op rfl (n_callGd ⟨[(700,some [.mc b39 (mapOf σ)])]⟩ [(700, [.mc b39 (mapOf (chg σ c))])] false rfl ⟨⟨rfl,VwL.pure pul⟩,trivial⟩ (.cons (.pure pu) (.cons (.pure pu) .nil)) (echange_ok (by simp only [maxLen];omega) hk) pu (.inl rfl) (fun p hp=>by rw [List.mem_singleton.1 hp];exact⟨⟨_,rfl⟩,pul,.inl rfl⟩) rfl ?_)
        refine at_nil<|x_tn<|at_seq ?_
        rcases tfC (splB (chg σ c) ids)with hcs|hcs
        ·have hs := hcs
         refine at_region<|s1 (y_p rfl) rfl<|s1 (y_p rfl) rfl ?_
         refine p_call ⟨[(700,some [.mc b39 (mapOf (chg σ c))])]⟩ false rfl ⟨⟨rfl,VwL.pure pul⟩,trivial⟩ (.cons (.pure pu) (.cons (.pure pu) .nil)) (split35_px (sup_chg hsup (by omega) hk) (by omega) hs) (fun u hu=>?_)
         refine x_tp ?_
         refine at_leaveX ⟨[(14,some [.nl]),(15,some [.i .i64 0])]⟩ hdf hS epub1_C ⟨⟨rfl,VwL.pure pul⟩,⟨rfl,VwL.pure pul⟩,trivial⟩ (.cons (.kp rfl) (.cons (.kp rfl) .nil)) (epub1_D _ _ 351) (hu.2) (two_upd rfl rfl pul pul) rfl (r_cell ti24 rfl rfl rfl (r_cell ti27 rfl rfl rfl r_nil)) ?_
         rw [pub_4 hsz hf h0 h43 (.inr (.inr (.inr hs)))];rfl
        ·have hs := hcs
         have hlis:=spl_listed hs
         have hbl:=len_bad (chg σ c) ids
         have hgl:=len_good (chg σ c) ids
         obtain⟨hbE,hbF⟩:=casB_small (x:=saltD x l.length) (p:=(badS (chg σ c) ids)) (q:=(goodS (chg σ c) ids)) (by omega) (by omega)
         have hok0:(next0 x l iss day ids c (chg σ c)).ok:=next0_ok hn hi hd hc hcr
         have hokN:(nextE x k l iss day ids c (chg σ c)).ok:=nextE_ok hn hi hd hc hcr
         have hlt:l.length<k:=by omega
         have hNl:=hokN.len
         refine at_region<|s1 (y_p rfl) rfl<|s1 (y_p rfl) rfl ?_
         refine at_op rfl (n_callGd ⟨[(700,some [.mc b39 (mapOf (chg σ c))])]⟩ [] false rfl ⟨⟨rfl,VwL.pure pul⟩,trivial⟩ (.cons (.pure pu) (.cons (.pure pu) .nil)) (split35_ok (sup_chg hsup (by omega) hk) (by omega) hs) pu (.inl rfl) (fun p hp=>by cases hp) rfl ?_)
         refine s1 (y_p rfl) rfl<|s1 (y_p rfl) rfl<|s1 (y_p rfl) rfl<|s1 (y_p rfl) rfl<|s1 (y_p rfl) rfl ?_
         refine at_nil<|x_tn<|at_seq ?_
         refine at_frzP 7 rfl rfl pul ?_
         refine at_fs ⟨_, [], []⟩ 8 4 hmix (le_refl rfl) ?_
         refine fs_q 0 [] [] ((y_cutfa (ds:=((x.map u8).drop (0*1)).take (32*1)) 32 Tryz.underlying23 ti5 rfl (by simp [maxLen]) bn bn (Nat.zero_le _) (Nat.le_refl _) (by simp [hx]) rfl rfl).v (cut_all hx)) rfl rfl ?_
         refine fs_callO 100 false 1 [0] [] gy0 rfl (.cons (.pure pu) (.nil)) (fclone_ok x (by omega) (by omega)) pul (.inl rfl) rfl rfl ?_
         refine fs_q 2 [] [(18,none)] (y_fld Tryz.underlying45 rfl ti3 (by decide) rfl rfl) rfl rfl ?_
         refine fs_q 3 [2] [(18,none)] (y_load ti3 rfl rfl rfl) rfl rfl ?_
         refine fs_call false 4 [3] [] gy0 rfl (.cons (.pure pu) (.nil)) (four_ok (l.length:Nat)) pu (.inl rfl) rfl rfl ?_
         refine fs_app 104 5 [1,4] [(100,some 1)] gy0 Tryz.underlying68 ti5 rfl (.sl rfl (by simp)) rfl rfl (by simp) (by simp only [maxLen];omega) (by omega) rfl (List.map_append (l₁:=x) (l₂:=seedBs (l.length:Nat) 4)).symm rfl rfl ?_
         refine fs_call true 6 [5] [(104,some 5)] gy0 rfl (.cons (.pure pu) (.cons (.sl rfl rfl (by simp [hx]) (view_eq (by simp [hx]) rfl) (VwL.pure pul) pul) .nil)) (Con.cast (tagged_ok tagS (x++seedBs (l.length:Nat) 4) (by simp [hx]) (by decide)) (congrArg (fun l:List UInt8=>A.ag (l.map u8)) (saltD_eq x l.length).symm)) pu (.inr fu) rfl rfl ?_
         refine fs_alloc 22 7 [] gy0 ti23 rfl rfl rfl ?_
         refine fs_end (by kernel_rfl) ?_
         refine at_op rfl (n_storeA ti23 rfl rfl rfl (by first|rfl|omega|(simp<;>omega)|(simp [*]<;>omega)) (by first|rfl|omega|(simp<;>omega)|(simp [*]<;>omega)) ?_)
         refine at_nil<|x_tn<|at_seq<|at_region<|s1 (y_loadA0 ti23 rfl rfl (by simp)) rfl<|s1 (y_p rfl) rfl<|s1 (y_p rfl) rfl ?_
         refine at_op rfl (n_call false rfl (.cons (.pure pu) (.cons (.pure pu) (.cons (.pure pu) (.nil)))) (Con.cast (cbuild_ok (saltD x l.length) (by simp) (badS (chg σ c) ids) (goodS (chg σ c) ids) (by omega) (by omega)) (build_yes (ok2_split hlis))) pu (.inl rfl) rfl ?_)
         refine s1 (y_p rfl) rfl<|s1 (y_p rfl) rfl<|s1 (y_p rfl) rfl ?_
         refine at_op rfl (n_alloc 23 rfl ti60 rfl rfl ?_)
         refine at_op rfl (n_storeA ti60 rfl rfl rfl (cas_len (c:=(casE x l.length (chg σ c) ids)) (len_saltD _ _)) rfl ?_)
         refine at_op rfl (n_store1 ti27 rfl rfl rfl rfl (by first|rfl|omega|(simp<;>omega)|(simp [*]<;>omega)) rfl ?_)
         refine at_nil<|x_tn<|at_seq<|at_region<|s1 (y_load ti27 rfl rfl rfl) rfl<|s1 ((y_p rfl).v (v':= .b true) (rfl)) rfl<|s1 (y_load ti27 rfl rfl rfl) rfl ?_
         refine at_op rfl (n_call false rfl (.cons (.pure pu) (.cons (.pure pu) .nil)) (eneed_ok 0) pu (.inl rfl) rfl ?_)
         refine at_nil<|x_tn<|at_seq<|at_region<|s1 (y_loadA0 ti60 rfl rfl (cas_len (c:=(casE x l.length (chg σ c) ids)) (len_saltD _ _))) rfl ?_
         refine at_op rfl (n_call false rfl (.cons (.pure pu) (.nil)) (Con.cast (cdigC_ok (casE x l.length (chg σ c) ids) (len_saltD _ _) (show(casE x l.length (chg σ c) ids).E.length≤maxLen by simp only [maxLen];exact Nat.le_trans hbE (by decide))) (digCA_y (chkC_casB (ok2_split hlis)))) pu (.inl rfl) rfl ?_)
         refine s1 (y_p rfl) rfl<|s1 (y_p rfl) rfl<|s1 (y_p rfl) rfl<|s1 (y_fld Tryz.underlying45 rfl ti23 (by decide) rfl rfl) rfl ?_
         refine at_op rfl (n_store ti23 rfl rfl rfl rfl rfl (show((digC (casE x l.length (chg σ c) ids)).map u8).length=32 by simp) (by rw [nx_len rfl (len_lastD _)];decide) (nx_cas rfl) ?_)
         refine at_op rfl (n_store1 ti27 rfl rfl rfl rfl (by first|rfl|omega|(simp<;>omega)|(simp [*]<;>omega)) rfl ?_)
         refine at_nil<|x_tn<|at_seq<|at_region<|s1 (y_load ti27 rfl rfl rfl) rfl<|s1 ((y_p rfl).v (v':= .b true) (rfl)) rfl<|s1 (y_load ti27 rfl rfl rfl) rfl ?_
         refine at_op rfl (n_call false rfl (.cons (.pure pu) (.cons (.pure pu) .nil)) (eneed_ok 0) pu (.inl rfl) rfl ?_)
         refine at_nil<|x_tn<|at_seq ?_
         refine at_wkO 18 rfl nx_wk ?_
         refine at_fs ⟨_, [], []⟩ 12 4 hmix (le_refl rfl) ?_
         refine fs_q 0 [] [] (y_loadA ti23 rfl rfl (List.take_of_length_le (by simp [hx])) (by simp [hx])) rfl rfl ?_
         refine fs_q 1 [] [] (y_p rfl) rfl rfl ?_
         refine fs_q 2 [] [(18,none)] (y_fld Tryz.underlying45 rfl ti3 (by decide) rfl rfl) rfl rfl ?_
         refine fs_q 3 [2] [(18,none)] (y_load ti3 rfl rfl rfl) rfl rfl ?_
         refine fs_q 4 [] [(18,none)] (y_loadA0 ti45 rfl rfl hok0.len) rfl rfl ?_
         refine fs_call false 5 [4] [] gy0 rfl (.cons (.pure pu) (.nil)) (edig_ok (next0 x l iss day ids c (chg σ c)) hok0) pu (.inl rfl) rfl rfl ?_
         refine fs_call false 6 [0,1,3,5] [] gy0 rfl (.cons (.pure pu) (.cons (.pure pu) (.cons (.pure pu) (.cons (.pure pu) (.nil))))) (Con.cast (signW_ok x k (l.length:Nat) (digE (next0 x l iss day ids c (chg σ c))) hx (by simp) hsz) (signA_yes hsz hlt)) pu (.inl rfl) rfl rfl ?_
         refine fs_q 7 [6] [] (y_p rfl) rfl rfl ?_
         refine fs_q 8 [7] [] (y_p rfl) rfl rfl ?_
         refine fs_q 9 [7] [] (y_p rfl) rfl rfl ?_
         refine fs_q 10 [] [(18,none)] (y_fld Tryz.underlying45 rfl ti43 (by decide) rfl rfl) rfl rfl ?_
         refine fs_sto 0 11 [8,10] [(18,none)] rfl gy0 ti43 rfl rfl rfl rfl rfl rfl (by rw [hok0.len];decide) (show _=(nextE x k l iss day ids c (chg σ c)).cells from nx_sg (s:=⟨(l.length:Nat),signD (seedL x (l.length:Nat)) (digE (next0 x l iss day ids c (chg σ c))),path (kpubs x k) l.length⟩) hok0) rfl ?_
         refine fs_end (by kernel_rfl) ?_
         refine at_op rfl (n_store1 ti27 rfl rfl rfl rfl (by first|rfl|omega|(simp<;>omega)|(simp [*]<;>omega)) rfl ?_)
         refine at_nil<|x_tn<|at_seq<|at_region<|s1 (y_load ti27 rfl rfl rfl) rfl<|s1 ((y_p rfl).v (v':= .b true) (rfl)) rfl<|s1 (y_load ti27 rfl rfl rfl) rfl ?_
         refine at_op rfl (n_call false rfl (.cons (.pure pu) (.cons (.pure pu) .nil)) (eneed_ok 0) pu (.inl rfl) rfl ?_)
         refine at_nil<|x_tn<|at_seq ?_
         refine at_fs ⟨_, [], []⟩ 5 4 hmix (le_refl rfl) ?_
         refine fs_q 0 [] [] (y_p rfl) rfl rfl ?_
         refine fs_callO 143 false 1 [0] [] gy0 rfl (.cons (.pure pu) (.nil)) (clE_ok l hl (by omega)) pul (.inl rfl) rfl rfl ?_
         refine fs_q 2 [] [(18,none)] (y_loadA0 ti45 rfl rfl hokN.len) rfl rfl ?_
         refine fs_bs 145 3 [2] gy0 Tryz.underlying24 ti45 rfl rfl rfl (by simp [cellsA,hokN.len]) (show cellsA (A.ag (nextE x k l iss day ids c (chg σ c)).cells)++ []=(nextE x k l iss day ids c (chg σ c)).cells from List.append_nil _) rfl rfl rfl rfl ?_
         refine fs_app 146 4 [1,3] [(143,some 1),(145,some 3)] gy0 Tryz.underlying24 ti45 rfl (.sl rfl (by rw [len_epsC hl])) rfl (SM_full rfl (by first|rfl|omega|(simp<;>omega)|(simp [*]<;>omega))) (by rw [hokN.len]) (by simp only [maxLen];omega) (by omega) rfl (eps_snoc l (nextE x k l iss day ids c (chg σ c))) rfl rfl ?_
         refine fs_end (by kernel_rfl) ?_
         refine at_op rfl (n_store1 ti24 rfl rfl rfl rfl (by first|rfl|omega|(simp<;>omega)|(simp [*]<;>omega)) rfl ?_)
         refine at_op rfl (n_store1 ti27 rfl rfl rfl rfl (by first|rfl|omega|(simp<;>omega)|(simp [*]<;>omega)) rfl ?_)
         refine at_nil<|x_tn<|at_ret ?_
         refine at_frzO 14 0 rfl rfl rfl rfl pul (view_eq (by rw [len_epsC (epsOk_snoc hl hokN),List.length_append];rfl) rfl) rfl ?_
         refine at_leaveR hdf hS epub1_C epub1_R rfl (r_cell ti24 rfl rfl rfl (r_cell ti27 rfl rfl rfl r_nil)) ?_
         rw [pub_5 hsz hf h0 h43 hc58 (hlb.trans hc85) hk hs];exact congrArg (fun n=>A.tu [.fz n (epsC (l++ [(nextE x k l iss day ids c (chg σ c))])),.i .i64 0]) (show l.length+1=(l++ [(nextE x k l iss day ids c (chg σ c))]).length by simp)
      ·skip
       refine p_call ⟨[]⟩ false rfl trivial (.cons (.pure pu) (.cons (.pure pu) .nil)) (eneed_px 351) (fun u hu=>?_)
       refine x_tp ?_
       refine x_tp ?_
       refine at_leaveX ⟨[(14,some [.nl]),(15,some [.i .i64 0])]⟩ hdf hS epub1_C ⟨⟨rfl,VwL.pure pul⟩,⟨rfl,VwL.pure pul⟩,trivial⟩ (.cons (.kp rfl) (.cons (.kp rfl) .nil)) (epub1_D _ _ 351) (hu) (two_upd rfl rfl pul pul) rfl (r_cell ti24 rfl rfl rfl (r_cell ti27 rfl rfl rfl r_nil)) ?_
       rw [pub_4 hsz hf h0 h43 (.inr (.inl (hlb.trans hc85)))];rfl
     ·have h69 : l = [] := List.length_eq_zero_iff.1 (by have := of_decide_eq_false hc69; omega)
      obtain⟨hlb,hld⟩:=last_nil (iss:=iss) (day:=day) h69
      refine at_skip<|x_tn<|at_seq ?_
      rcases tfC (chOk σ (-1) c)with hcs|hcs
      ·have hk := hcs
       refine at_sayO 18 (cs':=nxC iss (l.length:Nat) day c zD (lastD l)) rfl (by rw [hld]) ?_
       refine at_region<|s1 (y_p rfl) rfl<|s1 (y_p rfl) rfl ?_
       refine p_call ⟨[(700,some [.mc b39 (mapOf σ)])]⟩ false rfl ⟨⟨rfl,VwL.pure pul⟩,trivial⟩ (.cons (.pure pu) (.cons (.pure pu) .nil)) (echange_px (by simp only [maxLen];omega) hk) (fun u hu=>?_)
       refine x_tp ?_
       refine at_leaveX ⟨[(14,some [.nl]),(15,some [.i .i64 0])]⟩ hdf hS epub1_C ⟨⟨rfl,VwL.pure pul⟩,⟨rfl,VwL.pure pul⟩,trivial⟩ (.cons (.kp rfl) (.cons (.kp rfl) .nil)) (epub1_D _ _ 351) (hu.2) (two_upd rfl rfl pul pul) rfl (r_cell ti24 rfl rfl rfl (r_cell ti27 rfl rfl rfl r_nil)) ?_
       rw [pub_4 hsz hf h0 h43 (.inr (.inr (.inl hk)))];rfl
      ·have hk := hcs
       refine at_sayO 18 (cs':=nxC iss (l.length:Nat) day c zD (lastD l)) rfl (by rw [hld]) ?_
       refine at_region<|s1 (y_p rfl) rfl<|s1 (y_p rfl) rfl ?_
       refine at_op rfl (n_callGd ⟨[(700,some [.mc b39 (mapOf σ)])]⟩ [(700, [.mc b39 (mapOf (chg σ c))])] false rfl ⟨⟨rfl,VwL.pure pul⟩,trivial⟩ (.cons (.pure pu) (.cons (.pure pu) .nil)) (echange_ok (by simp only [maxLen];omega) hk) pu (.inl rfl) (fun p hp=>by rw [List.mem_singleton.1 hp];exact⟨⟨_,rfl⟩,pul,.inl rfl⟩) rfl ?_)
       refine at_nil<|x_tn<|at_seq ?_
       rcases tfC (splB (chg σ c) ids)with hcs|hcs
       ·have hs := hcs
        refine at_region<|s1 (y_p rfl) rfl<|s1 (y_p rfl) rfl ?_
        refine p_call ⟨[(700,some [.mc b39 (mapOf (chg σ c))])]⟩ false rfl ⟨⟨rfl,VwL.pure pul⟩,trivial⟩ (.cons (.pure pu) (.cons (.pure pu) .nil)) (split35_px (sup_chg hsup (by omega) hk) (by omega) hs) (fun u hu=>?_)
        refine x_tp ?_
        refine at_leaveX ⟨[(14,some [.nl]),(15,some [.i .i64 0])]⟩ hdf hS epub1_C ⟨⟨rfl,VwL.pure pul⟩,⟨rfl,VwL.pure pul⟩,trivial⟩ (.cons (.kp rfl) (.cons (.kp rfl) .nil)) (epub1_D _ _ 351) (hu.2) (two_upd rfl rfl pul pul) rfl (r_cell ti24 rfl rfl rfl (r_cell ti27 rfl rfl rfl r_nil)) ?_
        rw [pub_4 hsz hf h0 h43 (.inr (.inr (.inr hs)))];rfl
       ·have hs := hcs
        have hlis:=spl_listed hs
        have hbl:=len_bad (chg σ c) ids
        have hgl:=len_good (chg σ c) ids
        obtain⟨hbE,hbF⟩:=casB_small (x:=saltD x l.length) (p:=(badS (chg σ c) ids)) (q:=(goodS (chg σ c) ids)) (by omega) (by omega)
        have hok0:(next0 x l iss day ids c (chg σ c)).ok:=next0_ok hn hi hd hc hcr
        have hokN:(nextE x k l iss day ids c (chg σ c)).ok:=nextE_ok hn hi hd hc hcr
        have hlt:l.length<k:=by omega
        have hNl:=hokN.len
        refine at_region<|s1 (y_p rfl) rfl<|s1 (y_p rfl) rfl ?_
        refine at_op rfl (n_callGd ⟨[(700,some [.mc b39 (mapOf (chg σ c))])]⟩ [] false rfl ⟨⟨rfl,VwL.pure pul⟩,trivial⟩ (.cons (.pure pu) (.cons (.pure pu) .nil)) (split35_ok (sup_chg hsup (by omega) hk) (by omega) hs) pu (.inl rfl) (fun p hp=>by cases hp) rfl ?_)
        refine s1 (y_p rfl) rfl<|s1 (y_p rfl) rfl<|s1 (y_p rfl) rfl<|s1 (y_p rfl) rfl<|s1 (y_p rfl) rfl ?_
        refine at_nil<|x_tn<|at_seq ?_
        refine at_frzP 7 rfl rfl pul ?_
        refine at_fs ⟨_, [], []⟩ 8 4 hmix (le_refl rfl) ?_
        refine fs_q 0 [] [] ((y_cutfa (ds:=((x.map u8).drop (0*1)).take (32*1)) 32 Tryz.underlying23 ti5 rfl (by simp [maxLen]) bn bn (Nat.zero_le _) (Nat.le_refl _) (by simp [hx]) rfl rfl).v (cut_all hx)) rfl rfl ?_
        refine fs_callO 100 false 1 [0] [] gy0 rfl (.cons (.pure pu) (.nil)) (fclone_ok x (by omega) (by omega)) pul (.inl rfl) rfl rfl ?_
        refine fs_q 2 [] [(18,none)] (y_fld Tryz.underlying45 rfl ti3 (by decide) rfl rfl) rfl rfl ?_
        refine fs_q 3 [2] [(18,none)] (y_load ti3 rfl rfl rfl) rfl rfl ?_
        refine fs_call false 4 [3] [] gy0 rfl (.cons (.pure pu) (.nil)) (four_ok (l.length:Nat)) pu (.inl rfl) rfl rfl ?_
        refine fs_app 104 5 [1,4] [(100,some 1)] gy0 Tryz.underlying68 ti5 rfl (.sl rfl (by simp)) rfl rfl (by simp) (by simp only [maxLen];omega) (by omega) rfl (List.map_append (l₁:=x) (l₂:=seedBs (l.length:Nat) 4)).symm rfl rfl ?_
        refine fs_call true 6 [5] [(104,some 5)] gy0 rfl (.cons (.pure pu) (.cons (.sl rfl rfl (by simp [hx]) (view_eq (by simp [hx]) rfl) (VwL.pure pul) pul) .nil)) (Con.cast (tagged_ok tagS (x++seedBs (l.length:Nat) 4) (by simp [hx]) (by decide)) (congrArg (fun l:List UInt8=>A.ag (l.map u8)) (saltD_eq x l.length).symm)) pu (.inr fu) rfl rfl ?_
        refine fs_alloc 22 7 [] gy0 ti23 rfl rfl rfl ?_
        refine fs_end (by kernel_rfl) ?_
        refine at_op rfl (n_storeA ti23 rfl rfl rfl (by first|rfl|omega|(simp<;>omega)|(simp [*]<;>omega)) (by first|rfl|omega|(simp<;>omega)|(simp [*]<;>omega)) ?_)
        refine at_nil<|x_tn<|at_seq<|at_region<|s1 (y_loadA0 ti23 rfl rfl (by simp)) rfl<|s1 (y_p rfl) rfl<|s1 (y_p rfl) rfl ?_
        refine at_op rfl (n_call false rfl (.cons (.pure pu) (.cons (.pure pu) (.cons (.pure pu) (.nil)))) (Con.cast (cbuild_ok (saltD x l.length) (by simp) (badS (chg σ c) ids) (goodS (chg σ c) ids) (by omega) (by omega)) (build_yes (ok2_split hlis))) pu (.inl rfl) rfl ?_)
        refine s1 (y_p rfl) rfl<|s1 (y_p rfl) rfl<|s1 (y_p rfl) rfl ?_
        refine at_op rfl (n_alloc 23 rfl ti60 rfl rfl ?_)
        refine at_op rfl (n_storeA ti60 rfl rfl rfl (cas_len (c:=(casE x l.length (chg σ c) ids)) (len_saltD _ _)) rfl ?_)
        refine at_op rfl (n_store1 ti27 rfl rfl rfl rfl (by first|rfl|omega|(simp<;>omega)|(simp [*]<;>omega)) rfl ?_)
        refine at_nil<|x_tn<|at_seq<|at_region<|s1 (y_load ti27 rfl rfl rfl) rfl<|s1 ((y_p rfl).v (v':= .b true) (rfl)) rfl<|s1 (y_load ti27 rfl rfl rfl) rfl ?_
        refine at_op rfl (n_call false rfl (.cons (.pure pu) (.cons (.pure pu) .nil)) (eneed_ok 0) pu (.inl rfl) rfl ?_)
        refine at_nil<|x_tn<|at_seq<|at_region<|s1 (y_loadA0 ti60 rfl rfl (cas_len (c:=(casE x l.length (chg σ c) ids)) (len_saltD _ _))) rfl ?_
        refine at_op rfl (n_call false rfl (.cons (.pure pu) (.nil)) (Con.cast (cdigC_ok (casE x l.length (chg σ c) ids) (len_saltD _ _) (show(casE x l.length (chg σ c) ids).E.length≤maxLen by simp only [maxLen];exact Nat.le_trans hbE (by decide))) (digCA_y (chkC_casB (ok2_split hlis)))) pu (.inl rfl) rfl ?_)
        refine s1 (y_p rfl) rfl<|s1 (y_p rfl) rfl<|s1 (y_p rfl) rfl<|s1 (y_fld Tryz.underlying45 rfl ti23 (by decide) rfl rfl) rfl ?_
        refine at_op rfl (n_store ti23 rfl rfl rfl rfl rfl (show((digC (casE x l.length (chg σ c) ids)).map u8).length=32 by simp) (by rw [nx_len rfl (len_lastD _)];decide) (nx_cas rfl) ?_)
        refine at_op rfl (n_store1 ti27 rfl rfl rfl rfl (by first|rfl|omega|(simp<;>omega)|(simp [*]<;>omega)) rfl ?_)
        refine at_nil<|x_tn<|at_seq<|at_region<|s1 (y_load ti27 rfl rfl rfl) rfl<|s1 ((y_p rfl).v (v':= .b true) (rfl)) rfl<|s1 (y_load ti27 rfl rfl rfl) rfl ?_
        refine at_op rfl (n_call false rfl (.cons (.pure pu) (.cons (.pure pu) .nil)) (eneed_ok 0) pu (.inl rfl) rfl ?_)
        refine at_nil<|x_tn<|at_seq ?_
        refine at_wkO 18 rfl nx_wk ?_
        refine at_fs ⟨_, [], []⟩ 12 4 hmix (le_refl rfl) ?_
        refine fs_q 0 [] [] (y_loadA ti23 rfl rfl (List.take_of_length_le (by simp [hx])) (by simp [hx])) rfl rfl ?_
        refine fs_q 1 [] [] (y_p rfl) rfl rfl ?_
        refine fs_q 2 [] [(18,none)] (y_fld Tryz.underlying45 rfl ti3 (by decide) rfl rfl) rfl rfl ?_
        refine fs_q 3 [2] [(18,none)] (y_load ti3 rfl rfl rfl) rfl rfl ?_
        refine fs_q 4 [] [(18,none)] (y_loadA0 ti45 rfl rfl hok0.len) rfl rfl ?_
        refine fs_call false 5 [4] [] gy0 rfl (.cons (.pure pu) (.nil)) (edig_ok (next0 x l iss day ids c (chg σ c)) hok0) pu (.inl rfl) rfl rfl ?_
        refine fs_call false 6 [0,1,3,5] [] gy0 rfl (.cons (.pure pu) (.cons (.pure pu) (.cons (.pure pu) (.cons (.pure pu) (.nil))))) (Con.cast (signW_ok x k (l.length:Nat) (digE (next0 x l iss day ids c (chg σ c))) hx (by simp) hsz) (signA_yes hsz hlt)) pu (.inl rfl) rfl rfl ?_
        refine fs_q 7 [6] [] (y_p rfl) rfl rfl ?_
        refine fs_q 8 [7] [] (y_p rfl) rfl rfl ?_
        refine fs_q 9 [7] [] (y_p rfl) rfl rfl ?_
        refine fs_q 10 [] [(18,none)] (y_fld Tryz.underlying45 rfl ti43 (by decide) rfl rfl) rfl rfl ?_
        refine fs_sto 0 11 [8,10] [(18,none)] rfl gy0 ti43 rfl rfl rfl rfl rfl rfl (by rw [hok0.len];decide) (show _=(nextE x k l iss day ids c (chg σ c)).cells from nx_sg (s:=⟨(l.length:Nat),signD (seedL x (l.length:Nat)) (digE (next0 x l iss day ids c (chg σ c))),path (kpubs x k) l.length⟩) hok0) rfl ?_
        refine fs_end (by kernel_rfl) ?_
        refine at_op rfl (n_store1 ti27 rfl rfl rfl rfl (by first|rfl|omega|(simp<;>omega)|(simp [*]<;>omega)) rfl ?_)
        refine at_nil<|x_tn<|at_seq<|at_region<|s1 (y_load ti27 rfl rfl rfl) rfl<|s1 ((y_p rfl).v (v':= .b true) (rfl)) rfl<|s1 (y_load ti27 rfl rfl rfl) rfl ?_
        refine at_op rfl (n_call false rfl (.cons (.pure pu) (.cons (.pure pu) .nil)) (eneed_ok 0) pu (.inl rfl) rfl ?_)
        refine at_nil<|x_tn<|at_seq ?_
        refine at_fs ⟨_, [], []⟩ 5 4 hmix (le_refl rfl) ?_
        refine fs_q 0 [] [] (y_p rfl) rfl rfl ?_
        refine fs_callO 143 false 1 [0] [] gy0 rfl (.cons (.pure pu) (.nil)) (clE_ok l hl (by omega)) pul (.inl rfl) rfl rfl ?_
        refine fs_q 2 [] [(18,none)] (y_loadA0 ti45 rfl rfl hokN.len) rfl rfl ?_
        refine fs_bs 145 3 [2] gy0 Tryz.underlying24 ti45 rfl rfl rfl (by simp [cellsA,hokN.len]) (show cellsA (A.ag (nextE x k l iss day ids c (chg σ c)).cells)++ []=(nextE x k l iss day ids c (chg σ c)).cells from List.append_nil _) rfl rfl rfl rfl ?_
        refine fs_app 146 4 [1,3] [(143,some 1),(145,some 3)] gy0 Tryz.underlying24 ti45 rfl (.sl rfl (by rw [len_epsC hl])) rfl (SM_full rfl (by first|rfl|omega|(simp<;>omega)|(simp [*]<;>omega))) (by rw [hokN.len]) (by simp only [maxLen];omega) (by omega) rfl (eps_snoc l (nextE x k l iss day ids c (chg σ c))) rfl rfl ?_
        refine fs_end (by kernel_rfl) ?_
        refine at_op rfl (n_store1 ti24 rfl rfl rfl rfl (by first|rfl|omega|(simp<;>omega)|(simp [*]<;>omega)) rfl ?_)
        refine at_op rfl (n_store1 ti27 rfl rfl rfl rfl (by first|rfl|omega|(simp<;>omega)|(simp [*]<;>omega)) rfl ?_)
        refine at_nil<|x_tn<|at_ret ?_
        refine at_frzO 14 0 rfl rfl rfl rfl pul (view_eq (by rw [len_epsC (epsOk_snoc hl hokN),List.length_append];rfl) rfl) rfl ?_
        refine at_leaveR hdf hS epub1_C epub1_R rfl (r_cell ti24 rfl rfl rfl (r_cell ti27 rfl rfl rfl r_nil)) ?_
        rw [pub_5 hsz hf h0 h43 hc58 (hlb) hk hs];exact congrArg (fun n=>A.tu [.fz n (epsC (l++ [(nextE x k l iss day ids c (chg σ c))])),.i .i64 0]) (show l.length+1=(l++ [(nextE x k l iss day ids c (chg σ c))]).length by simp)
    ·skip
     refine p_call ⟨[]⟩ false rfl trivial (.cons (.pure pu) (.cons (.pure pu) .nil)) (eneed_px 351) (fun u hu=>?_)
     refine x_tp ?_
     refine at_leaveX ⟨[(14,some [.nl]),(15,some [.i .i64 0])]⟩ hdf hS epub1_C ⟨⟨rfl,VwL.pure pul⟩,⟨rfl,VwL.pure pul⟩,trivial⟩ (.cons (.kp rfl) (.cons (.kp rfl) .nil)) (epub1_D _ _ 351) (hu) (two_upd rfl rfl pul pul) rfl (r_cell ti24 rfl rfl rfl (r_cell ti27 rfl rfl rfl r_nil)) ?_
     rw [pub_4 hsz hf h0 h43 (.inl hc58)];rfl
   ·have h43 : (l.length : Int) = (k : Int) := by simpa using hc43
    refine p_call ⟨[]⟩ false rfl trivial (.cons (.pure pu) (.cons (.pure pu) .nil)) (eneed_px 2) (fun u hu=>?_)
    refine x_tp ?_
    refine at_leaveX ⟨[(14,some [.nl]),(15,some [.i .i64 0])]⟩ hdf hS epub1_C ⟨⟨rfl,VwL.pure pul⟩,⟨rfl,VwL.pure pul⟩,trivial⟩ (.cons (.kp rfl) (.cons (.kp rfl) .nil)) (epub1_D _ _ 2) (hu) (two_upd rfl rfl pul pul) rfl (r_cell ti24 rfl rfl rfl (r_cell ti27 rfl rfl rfl r_nil)) ?_
    rw [pub_3 hsz hf h0 h43];rfl
end Go.Abs.D2
