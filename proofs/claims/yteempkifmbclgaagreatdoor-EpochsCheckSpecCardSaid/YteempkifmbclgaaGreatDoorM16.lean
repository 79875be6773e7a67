/-
  The engine, the plain laws and the walks that the rows need, part 16. Conditions: none.
-/
import Derived.Test.YteempkifmbclgaaGreatDoorM15
set_option linter.unusedVariables false
set_option linter.unusedSimpArgs false
set_option maxHeartbeats 1000000
set_option maxRecDepth 10000
-- E5G
namespace Go.Abs.D2
open Go Go.Eng Go.Abs Go.Proofs
theorem lz (c0 c1:A) (e:Int):oZ Tryz.prog 43 [.p 14 0,.p 15 0] ⟨[(14,some [c0]),(15,some [c1])]⟩ (fun u=>u=gY 136 e) [(14, [.nl]),(15, [.i .i64 e])]:=by
 refine vn (.ic 136 (.ag [.i .i64 e])) (fun u hu X w β=>by rw [hu];exact uG _ _) Tryz.func43 rfl Tryz.ntmps43 (Nat.le_of_ble_eq_true rfl) rfl rfl fun w0 X0 hI=>?_
 refine af<|ai<|s1 (aa rfl) rfl<|s1 (xZ Tryz.underlying20 rfl) rfl ?_
 refine ah<|ae ?_
 refine bR rfl ?_
 refine ai<|s1 (aa rfl) rfl ?_
 refine ak rfl (aI false rfl (.cons (.pure pu) (.nil)) (vL e) pu (.inl rfl) rfl ?_)
 refine ak rfl (bZ fw rfl rfl rfl rfl (by first|rfl|omega|(simp<;>omega)|(simp [*]<;>omega)) rfl ?_)
 refine ak rfl (bZ b5 rfl rfl rfl rfl (by first|rfl|omega|(simp<;>omega)|(simp [*]<;>omega)) rfl ?_)
 refine ah ?_
 refine lU (rs:= []) rfl aB (CW rfl rfl)
theorem AA:o9 Tryz.prog 43 2:=vo Tryz.func43 rfl (fun w=>xu Tryz.underlying20 w) rfl ⟨Nat.le_of_ble_eq_true rfl,Nat.le_of_ble_eq_true rfl,Nat.le_of_ble_eq_true rfl,Nat.le_of_ble_eq_true rfl,Nat.le_of_ble_eq_true rfl⟩
theorem jQ:ko Tryz.prog 43:=⟨_,Tryz.func43,rfl,by kernel_rfl⟩
theorem sa (x : List UInt8) (n : Int) (l : List Ep) (iss day : Int) (ids : List Int) (c : List Ch) (hx : x.length = 32) (hl : dB l) (hn : l.length ≤ 1000) (hi : rg iss) (hd : rg day) (hids : ids.length ≤ 100) (hc : c.length ≤ 1000) (hcr : ∀ e ∈ c, rg e.id ∧ rg e.st) : aA Tryz.prog 15 [.ag (x.map u8), .i .i64 n, cO l, .i .i64 iss, .i .i64 day, .fz ids.length (ids.map (A.i .i64)), cC c] (aN (Kw l (gw x n l iss day ids c))) := by
 refine nZ Tryz.func15 rfl Tryz.ntmps15 (by kernel_rfl) (Nat.le_of_ble_eq_true rfl) fun w0 X0 hI hS=>?_
 refine af<|ai ?_
 refine ak rfl (bK 7 rfl rfl rfl ?_)
 refine ak rfl (bp 14 rfl fw rfl rfl ?_)
 refine ak rfl (bp 15 rfl b5 rfl rfl ?_)
 refine ah<|ae<|af<|ai<|s1 (gA (us:= []) (vs:= [.p 14 0,.p 15 0]) rfl rfl) rfl ?_
 refine uX [14,15] hI rfl rfl trivial rfl fun w1 us hdf=>?_
 refine ah<|ae<|af ?_
 rcases(Decidable.em (cn n)).symm with hcs|hcs
 ·skip
  refine ai<|s1 (aV az rfl rfl (by rw [List.length_map,hx])) rfl<|s1 (aa rfl) rfl ?_
  refine ak rfl (aI false rfl (.cons (.pure pu) (.cons (.pure pu) (.nil))) (aA.cast (tz x n hx) (if_neg hcs)) pu (.inl rfl) rfl ?_)
  refine s1 (aa rfl) rfl<|s1 (aa rfl) rfl<|s1 (aa rfl) rfl<|s1 (aa rfl) rfl ?_
  refine ak rfl (bZ b5 rfl rfl rfl rfl (by first|rfl|omega|(simp<;>omega)|(simp [*]<;>omega)) rfl ?_)
  refine ah<|ae<|af<|ai<|s1 (au b5 rfl rfl rfl) rfl<|s1 ((aa rfl).v (v':= .b false) (rfl)) rfl<|s1 (au b5 rfl rfl rfl) rfl ?_
  refine eQ ⟨[]⟩ false rfl trivial (.cons (.pure pu) (.cons (.pure pu) .nil)) (iw 60) (fun u hu=>?_)
  refine bU ?_
  refine jM ⟨[(14,some [.nl]),(15,some [.i .i64 60])]⟩ hdf hS jQ ⟨⟨rfl,a8.pure aq⟩,⟨rfl,a8.pure aq⟩,trivial⟩ (.cons (.kp rfl) (.cons (.kp rfl) .nil)) (lz _ _ 60) (hu) (kW rfl rfl aq aq) rfl (dD fw rfl rfl rfl (dD b5 rfl rfl rfl aB)) ?_
  rw [CF hcs];rfl
 ·have hsz := hcs
  obtain⟨k,rfl,hk1,hk2⟩:=tP hcs
  refine ai<|s1 (aV az rfl rfl (by rw [List.length_map,hx])) rfl<|s1 (aa rfl) rfl ?_
  refine ak rfl (aI false rfl (.cons (.pure pu) (.cons (.pure pu) (.nil))) (aA.cast (tz x k hx) (if_pos hsz)) pu (.inl rfl) rfl ?_)
  refine s1 (aa rfl) rfl<|s1 (aa rfl) rfl<|s1 (aa rfl) rfl<|s1 (aa rfl) rfl ?_
  refine ak rfl (bZ b5 rfl rfl rfl rfl (by first|rfl|omega|(simp<;>omega)|(simp [*]<;>omega)) rfl ?_)
  refine ah<|ae<|af<|ai<|s1 (au b5 rfl rfl rfl) rfl<|s1 ((aa rfl).v (v':= .b true) (rfl)) rfl<|s1 (au b5 rfl rfl rfl) rfl ?_
  refine ak rfl (aI false rfl (.cons (.pure pu) (.cons (.pure pu) .nil)) (fT 0) pu (.inl rfl) rfl ?_)
  refine ah<|ae<|af ?_
  rcases zF (dL x (k:Int)) k l with hcs|hcs
  ·have h0 := hcs
   refine ai<|s1 (aa rfl) rfl ?_
   refine ak rfl (aI false rfl (.cons (.pure pu) (.nil)) (aA.cast (oW _ (dw x k) (Nat.le_refl _) (mE x k) (by simp;omega)) (congrArg (fun l:List UInt8=>A.ag (l.map u8)) (tN hsz).symm)) pu (.inl rfl) rfl ?_)
   refine s1 (aa rfl) rfl<|s1 (aa rfl) rfl ?_
   refine eQ ⟨[]⟩ false rfl trivial (.cons (.pure pu) (.cons (.pure pu) (.cons (.pure pu) .nil))) (Ae (by simp) hl (by simp only [maxLen];omega) h0) (fun u hu=>?_)
   refine bU ?_
   refine jM ⟨[(14,some [.nl]),(15,some [.i .i64 0])]⟩ hdf hS jQ ⟨⟨rfl,a8.pure aq⟩,⟨rfl,a8.pure aq⟩,trivial⟩ (.cons (.kp rfl) (.cons (.kp rfl) .nil)) (lz _ _ (cN (dL x (k:Int)) k l)) (hu.2) (kW rfl rfl aq aq) rfl (dD fw rfl rfl rfl (dD b5 rfl rfl rfl aB)) ?_
   rw [xf hsz h0];rfl
  ·obtain ⟨σ, hf, h0⟩ := hcs
   have hsup:=DJ hf
   have hlk:=zr hf h0
   refine ai<|s1 (aa rfl) rfl ?_
   refine ak rfl (aI false rfl (.cons (.pure pu) (.nil)) (aA.cast (oW _ (dw x k) (Nat.le_refl _) (mE x k) (by simp;omega)) (congrArg (fun l:List UInt8=>A.ag (l.map u8)) (tN hsz).symm)) pu (.inl rfl) rfl ?_)
   refine s1 (aa rfl) rfl<|s1 (aa rfl) rfl ?_
   refine ak rfl (sU (F:=mapOf σ) rfl (.cons (.pure pu) (.cons (.pure pu) (.cons (.pure pu) (.nil)))) (Ad (by simp) hl (by simp only [maxLen];omega) hf h0) rfl rfl fun b39=>?_)
   refine s1 (aa rfl) rfl ?_
   refine ah<|ae<|af<|ai<|s1 (aa rfl) rfl<|s1 (bu Tryz.underlying24 rfl rfl rfl) rfl<|s1 (aa rfl) rfl<|s1 (aa rfl) rfl ?_
   refine il 43 rfl (fun hc43=>?_) (fun hc43=>?_)
   ·have h43 : ¬ (l.length : Int) = (k : Int) := by simpa using hc43
    refine ak rfl (aI false rfl (.cons (.pure pu) (.cons (.pure pu) .nil)) (fT 2) pu (.inl rfl) rfl ?_)
    refine ah<|ae<|af<|ai<|s1 (aa rfl) rfl<|s1 (aa rfl) rfl<|s1 (aa rfl) rfl ?_
    refine dC 2 rfl rfl rfl rfl (fun hb47=> .step (aa rfl) rfl rfl<| .step (aa rfl) rfl rfl<| .done) rfl rfl ?_
    refine s1 (aa rfl) rfl ?_
    refine dC 2 rfl rfl rfl rfl (fun hb51=> .step (aa rfl) rfl rfl<| .step (aa rfl) rfl rfl<| .done) rfl rfl ?_
    refine s1 (aa rfl) rfl ?_
    refine dC 2 rfl rfl rfl rfl (fun hb55=> .step (aa rfl) rfl rfl<| .step (aa rfl) rfl rfl<| .done) rfl rfl ?_
    refine il 58 rfl (fun hc58=>?_) (fun hc58=>?_)
    ·skip
     refine ak rfl (aI false rfl (.cons (.pure pu) (.cons (.pure pu) .nil)) (fT 351) pu (.inl rfl) rfl ?_)
     refine ah<|ae<|af<|ai<|s1 (aa rfl) rfl<|s1 (aa rfl) rfl<|s1 (bu Tryz.underlying24 rfl rfl rfl) rfl<|s1 (aa rfl) rfl<|s1 (aa rfl) rfl ?_
     refine ak rfl (aI false rfl (.cons (.pure pu) (.nil)) (FY c (by omega)) pu (.inl rfl) rfl ?_)
     refine s1 (ey (out:=_) [[a6 (.int .i64 0)], [a6 (.int .i64 0)], [a6 (.int .i64 0)], [a6 (.slice none 0 0)],(List.replicate 32 (.int .u8 0)).map a6,(List.replicate 32 (.int .u8 0)).map a6, [a6 (.int .i64 0),a6 (.slice none 0 0),a6 (.slice none 0 0)]] bA rfl Tryz.underlying45 (by kernel_rfl) rfl rfl ⟨⟨by(first|rfl|omega|(simp;done)|(simp [*];done)|(simp [aY, *];done)),rfl⟩,⟨⟨by(first|rfl|omega|(simp;done)|(simp [*];done)|(simp [aY, *];done)),rfl⟩,⟨⟨by(first|rfl|omega|(simp;done)|(simp [*];done)|(simp [aY, *];done)),rfl⟩,⟨⟨by(first|rfl|omega|(simp;done)|(simp [*];done)|(simp [aY, *];done)),rfl⟩,trivial⟩⟩⟩⟩ rfl) rfl ?_
     refine ak rfl (bp 18 rfl bA rfl rfl ?_)
     refine ak rfl (bb bA rfl rfl rfl rfl rfl ?_)
     refine ah<|ae<|af<|af ?_
     refine cX 18 (cs':=eZ iss (l.length:Nat) day c zD zD) rfl rfl ?_
     refine ai<|s1 (aa rfl) rfl<|s1 (bu Tryz.underlying24 rfl rfl rfl) rfl<|s1 (aa rfl) rfl ?_
     refine ah<|ae ?_
     refine aO rfl (fun hc69=>?_) (fun hc69=>?_)
     ·have h69 : 0 < l.length := by have := of_decide_eq_true hc69; omega
      obtain⟨e,he⟩:∃e,l[l.length - 1]? =some e:=⟨_,List.getElem?_eq_getElem (by omega)⟩
      have hok:=hl e (List.mem_of_getElem? he)
      obtain⟨hlb,hld⟩:=Ic (iss:=iss) (day:=day) he
      refine af<|ai<|s1 (aa rfl) rfl<|s1 (aa rfl) rfl<|s1 (bu Tryz.underlying24 rfl rfl rfl) rfl<|s1 (cQ _ 1 rfl rfl rfl rfl (by omega) (by omega)) rfl<|s1 (aT (l.length - 1) Tryz.underlying24 bA rfl rfl rfl (by omega) rfl) rfl<|s1 (bY bA rfl rfl (iM hl he) hok.len) rfl ?_
      refine ak rfl (bp 19 rfl bA rfl rfl ?_)
      refine ak rfl (bb bA rfl rfl rfl hok.len (by simp) ?_)
      refine ah<|ae<|af<|ai<|s1 (aa rfl) rfl<|s1 (aC Tryz.underlying45 rfl an (by decide) rfl rfl) rfl<|s1 (au an rfl rfl rfl) rfl<|s1 (aa rfl) rfl<|s1 (aa rfl) rfl ?_
      refine dC 4 rfl rfl rfl rfl (fun hb80=> .step (aa rfl) rfl rfl<| .step (aC Tryz.underlying45 rfl an (by decide) rfl rfl) rfl rfl<| .step (au an rfl rfl rfl) rfl rfl<| .step (aa rfl) rfl rfl<| .done) rfl rfl ?_
      refine il 85 rfl (fun hc85=>?_) (fun hc85=>?_)
      ·skip
       refine ak rfl (aI false rfl (.cons (.pure pu) (.cons (.pure pu) .nil)) (fT 351) pu (.inl rfl) rfl ?_)
       refine ah<|ae<|ai<|s1 (aV bA rfl rfl hok.len) rfl ?_
       refine ak rfl (aI false rfl (.cons (.pure pu) (.nil)) (lW e hok) pu (.inl rfl) rfl ?_)
       refine s1 (aC Tryz.underlying45 rfl az (by decide) rfl rfl) rfl ?_
       refine ak rfl (jZ az rfl rfl rfl rfl rfl (show((cu e).map u8).length=32 by simp) (by rw [wU rfl rfl];decide) (Jf rfl rfl) ?_)
       refine ah<|ae<|af ?_
       rcases kf (cR σ (-1) c)with hcs|hcs
       ·have hk := hcs
        refine cX 18 (cs':=eZ iss (l.length:Nat) day c zD (iN l)) rfl (by rw [hld]) ?_
        refine ai<|s1 (aa rfl) rfl<|s1 (aa rfl) rfl ?_
        refine eQ ⟨[(700,some [.mc b39 (mapOf σ)])]⟩ false rfl ⟨⟨rfl,a8.pure aq⟩,trivial⟩ (.cons (.pure pu) (.cons (.pure pu) .nil)) (vK (by simp only [maxLen];omega) hk) (fun u hu=>?_)
        refine bU ?_
        refine jM ⟨[(14,some [.nl]),(15,some [.i .i64 0])]⟩ hdf hS jQ ⟨⟨rfl,a8.pure aq⟩,⟨rfl,a8.pure aq⟩,trivial⟩ (.cons (.kp rfl) (.cons (.kp rfl) .nil)) (lz _ _ 351) (hu.2) (kW rfl rfl aq aq) rfl (dD fw rfl rfl rfl (dD b5 rfl rfl rfl aB)) ?_
        rw [j5 hsz hf h0 h43 (.inr (.inr (.inl hk)))];rfl
       ·have hk := hcs
        refine cX 18 (cs':=eZ iss (l.length:Nat) day c zD (iN l)) rfl (by rw [hld]) ?_
        refine ai<|s1 (aa rfl) rfl<|s1 (aa rfl) rfl ?_
        refine ak rfl (oz ⟨[(700,some [.mc b39 (mapOf σ)])]⟩ [(700, [.mc b39 (mapOf (aX σ c))])] false rfl ⟨⟨rfl,a8.pure aq⟩,trivial⟩ (.cons (.pure pu) (.cons (.pure pu) .nil)) (vJ (by simp only [maxLen];omega) hk) pu (.inl rfl) (fun p hp=>by rw [List.mem_singleton.1 hp];exact⟨⟨_,rfl⟩,aq,.inl rfl⟩) rfl ?_)
        refine ah<|ae<|af ?_
        rcases kf (fN (aX σ c) ids)with hcs|hcs
        ·have hs := hcs
         refine ai<|s1 (aa rfl) rfl<|s1 (aa rfl) rfl ?_
         refine eQ ⟨[(700,some [.mc b39 (mapOf (aX σ c))])]⟩ false rfl ⟨⟨rfl,a8.pure aq⟩,trivial⟩ (.cons (.pure pu) (.cons (.pure pu) .nil)) (DC (mu hsup (by omega) hk) (by omega) hs) (fun u hu=>?_)
         refine bU ?_
         refine jM ⟨[(14,some [.nl]),(15,some [.i .i64 0])]⟩ hdf hS jQ ⟨⟨rfl,a8.pure aq⟩,⟨rfl,a8.pure aq⟩,trivial⟩ (.cons (.kp rfl) (.cons (.kp rfl) .nil)) (lz _ _ 351) (hu.2) (kW rfl rfl aq aq) rfl (dD fw rfl rfl rfl (dD b5 rfl rfl rfl aB)) ?_
         rw [j5 hsz hf h0 h43 (.inr (.inr (.inr hs)))];rfl
        ·have hs := hcs
         have hlis:=Dz hs
         have hbl:=wG (aX σ c) ids
         have hgl:=wJ (aX σ c) ids
         obtain⟨hbE,hbF⟩:=yT (x:=mo x l.length) (p:=(dX (aX σ c) ids)) (q:=(fm (aX σ c) ids)) (by omega) (by omega)
         have hok0:(eP x l iss day ids c (aX σ c)).ok:=B4 hn hi hd hc hcr
         have hokN:(eY x k l iss day ids c (aX σ c)).ok:=sX hn hi hd hc hcr
         have hlt:l.length<k:=by omega
         have hNl:=hokN.len
         refine ai<|s1 (aa rfl) rfl<|s1 (aa rfl) rfl ?_
         refine ak rfl (oz ⟨[(700,some [.mc b39 (mapOf (aX σ c))])]⟩ [] false rfl ⟨⟨rfl,a8.pure aq⟩,trivial⟩ (.cons (.pure pu) (.cons (.pure pu) .nil)) (DB (mu hsup (by omega) hk) (by omega) hs) pu (.inl rfl) (fun p hp=>by cases hp) rfl ?_)
         refine s1 (aa rfl) rfl<|s1 (aa rfl) rfl<|s1 (aa rfl) rfl<|s1 (aa rfl) rfl<|s1 (aa rfl) rfl ?_
         refine ah<|ae<|af ?_
         refine fh 7 rfl rfl aq ?_
         refine bP ⟨_, [], []⟩ 8 4 bx (le_refl rfl) ?_
         refine aj 0 [] [] ((mB (ds:=((x.map u8).drop (0*1)).take (32*1)) 32 Tryz.underlying23 aQ rfl (by simp [maxLen]) bn bn (Nat.zero_le _) (Nat.le_refl _) (by simp [hx]) rfl rfl).v (vq hx)) rfl rfl<|mT 100 false 1 [0] [] aW rfl (.cons (.pure pu) (.nil)) (vU x (by omega) (by omega)) aq (.inl rfl) rfl rfl<|aj 2 [] [(18,none)] (aC Tryz.underlying45 rfl an (by decide) rfl rfl) rfl rfl<|aj 3 [2] [(18,none)] (au an rfl rfl rfl) rfl rfl<|bL false 4 [3] [] aW rfl (.cons (.pure pu) (.nil)) (AT (l.length:Nat)) pu (.inl rfl) rfl rfl<|fV 104 5 [1,4] [(100,some 1)] aW Tryz.underlying68 aQ rfl (.sl rfl (by simp)) rfl rfl (by simp) (by simp only [maxLen];omega) (by omega) rfl (List.map_append (l₁:=x) (l₂:=eF (l.length:Nat) 4)).symm rfl rfl ?_
         refine bL true 6 [5] [(104,some 5)] aW rfl (.cons (.pure pu) (.cons (.sl rfl rfl (by simp [hx]) (cm (by simp [hx]) rfl) (a8.pure aq) aq) .nil)) (aA.cast (g9 tV (x++eF (l.length:Nat) 4) (by simp [hx]) (by decide)) (congrArg (fun l:List UInt8=>A.ag (l.map u8)) (xv x l.length).symm)) pu (.inr fu) rfl rfl ?_
         refine AX 22 7 [] aW az rfl rfl rfl<|bQ (by kernel_rfl) ?_
         refine ak rfl (bb az rfl rfl rfl (by first|rfl|omega|(simp<;>omega)|(simp [*]<;>omega)) (by first|rfl|omega|(simp<;>omega)|(simp [*]<;>omega)) ?_)
         refine ah<|ae<|af<|ai<|s1 (aV az rfl rfl (by simp)) rfl<|s1 (aa rfl) rfl<|s1 (aa rfl) rfl ?_
         refine ak rfl (aI false rfl (.cons (.pure pu) (.cons (.pure pu) (.cons (.pure pu) (.nil)))) (aA.cast (yX (mo x l.length) (by simp) (dX (aX σ c) ids) (fm (aX σ c) ids) (by omega) (by omega)) (rI (s6 hlis))) pu (.inl rfl) rfl ?_)
         refine s1 (aa rfl) rfl<|s1 (aa rfl) rfl<|s1 (aa rfl) rfl ?_
         refine ak rfl (bp 23 rfl ee rfl rfl ?_)
         refine ak rfl (bb ee rfl rfl rfl (gq (c:=(jf x l.length (aX σ c) ids)) (ox _ _)) rfl ?_)
         refine ak rfl (bZ b5 rfl rfl rfl rfl (by first|rfl|omega|(simp<;>omega)|(simp [*]<;>omega)) rfl ?_)
         refine ah<|ae<|af<|ai<|s1 (au b5 rfl rfl rfl) rfl<|s1 ((aa rfl).v (v':= .b true) (rfl)) rfl<|s1 (au b5 rfl rfl rfl) rfl ?_
         refine ak rfl (aI false rfl (.cons (.pure pu) (.cons (.pure pu) .nil)) (fT 0) pu (.inl rfl) rfl ?_)
         refine ah<|ae<|af<|ai<|s1 (aV ee rfl rfl (gq (c:=(jf x l.length (aX σ c) ids)) (ox _ _))) rfl ?_
         refine ak rfl (aI false rfl (.cons (.pure pu) (.nil)) (aA.cast (yZ (jf x l.length (aX σ c) ids) (ox _ _) (show(jf x l.length (aX σ c) ids).E.length≤maxLen by simp only [maxLen];exact Nat.le_trans hbE (by decide))) (vF (zm (s6 hlis)))) pu (.inl rfl) rfl ?_)
         refine s1 (aa rfl) rfl<|s1 (aa rfl) rfl<|s1 (aa rfl) rfl<|s1 (aC Tryz.underlying45 rfl az (by decide) rfl rfl) rfl ?_
         refine ak rfl (jZ az rfl rfl rfl rfl rfl (show((lq (jf x l.length (aX σ c) ids)).map u8).length=32 by simp) (by rw [wU rfl (sH _)];decide) (Cg rfl) ?_)
         refine ak rfl (bZ b5 rfl rfl rfl rfl (by first|rfl|omega|(simp<;>omega)|(simp [*]<;>omega)) rfl ?_)
         refine ah<|ae<|af<|ai<|s1 (au b5 rfl rfl rfl) rfl<|s1 ((aa rfl).v (v':= .b true) (rfl)) rfl<|s1 (au b5 rfl rfl rfl) rfl ?_
         refine ak rfl (aI false rfl (.cons (.pure pu) (.cons (.pure pu) .nil)) (fT 0) pu (.inl rfl) rfl ?_)
         refine ah<|ae<|af ?_
         refine iK 18 rfl Cj ?_
         refine bP ⟨_, [], []⟩ 12 4 bx (le_refl rfl) ?_
         refine aj 0 [] [] (bY az rfl rfl (List.take_of_length_le (by simp [hx])) (by simp [hx])) rfl rfl<|aj 1 [] [] (aa rfl) rfl rfl<|aj 2 [] [(18,none)] (aC Tryz.underlying45 rfl an (by decide) rfl rfl) rfl rfl<|aj 3 [2] [(18,none)] (au an rfl rfl rfl) rfl rfl<|aj 4 [] [(18,none)] (aV bA rfl rfl hok0.len) rfl rfl<|bL false 5 [4] [] aW rfl (.cons (.pure pu) (.nil)) (lW (eP x l iss day ids c (aX σ c)) hok0) pu (.inl rfl) rfl rfl<|bL false 6 [0,1,3,5] [] aW rfl (.cons (.pure pu) (.cons (.pure pu) (.cons (.pure pu) (.cons (.pure pu) (.nil))))) (aA.cast (Ds x k (l.length:Nat) (cu (eP x l iss day ids c (aX σ c))) hx (by simp) hsz) (xB hsz hlt)) pu (.inl rfl) rfl rfl<|aj 7 [6] [] (aa rfl) rfl rfl<|aj 8 [7] [] (aa rfl) rfl rfl<|aj 9 [7] [] (aa rfl) rfl rfl ?_
         refine aj 10 [] [(18,none)] (aC Tryz.underlying45 rfl dS (by decide) rfl rfl) rfl rfl<|wq 0 11 [8,10] [(18,none)] rfl aW dS rfl rfl rfl rfl rfl rfl (by rw [hok0.len];decide) (show _=(eY x k l iss day ids c (aX σ c)).cells from Ci (s:=⟨(l.length:Nat),iW (fD x (l.length:Nat)) (cu (eP x l iss day ids c (aX σ c))),path (dw x k) l.length⟩) hok0) rfl<|bQ (by kernel_rfl) ?_
         refine ak rfl (bZ b5 rfl rfl rfl rfl (by first|rfl|omega|(simp<;>omega)|(simp [*]<;>omega)) rfl ?_)
         refine ah<|ae<|af<|ai<|s1 (au b5 rfl rfl rfl) rfl<|s1 ((aa rfl).v (v':= .b true) (rfl)) rfl<|s1 (au b5 rfl rfl rfl) rfl ?_
         refine ak rfl (aI false rfl (.cons (.pure pu) (.cons (.pure pu) .nil)) (fT 0) pu (.inl rfl) rfl ?_)
         refine ah<|ae<|af ?_
         refine bP ⟨_, [], []⟩ 5 4 bx (le_refl rfl) ?_
         refine aj 0 [] [] (aa rfl) rfl rfl<|mT 143 false 1 [0] [] aW rfl (.cons (.pure pu) (.nil)) (zH l hl (by omega)) aq (.inl rfl) rfl rfl<|aj 2 [] [(18,none)] (aV bA rfl rfl hokN.len) rfl rfl<|jS 145 3 [2] aW Tryz.underlying24 bA rfl rfl rfl (by simp [aY,hokN.len]) (show aY (A.ag (eY x k l iss day ids c (aX σ c)).cells)++ []=(eY x k l iss day ids c (aX σ c)).cells from List.append_nil _) rfl rfl rfl rfl<|fV 146 4 [1,3] [(143,some 1),(145,some 3)] aW Tryz.underlying24 bA rfl (.sl rfl (by rw [kF hl])) rfl (cE rfl (by first|rfl|omega|(simp<;>omega)|(simp [*]<;>omega))) (by rw [hokN.len]) (by simp only [maxLen];omega) (by omega) rfl (Az l (eY x k l iss day ids c (aX σ c))) rfl rfl<|bQ (by kernel_rfl) ?_
         refine ak rfl (bZ fw rfl rfl rfl rfl (by first|rfl|omega|(simp<;>omega)|(simp [*]<;>omega)) rfl ?_)
         refine ak rfl (bZ b5 rfl rfl rfl rfl (by first|rfl|omega|(simp<;>omega)|(simp [*]<;>omega)) rfl ?_)
         refine ah<|ae<|aE ?_
         refine jL 14 0 rfl rfl rfl rfl aq (cm (by rw [kF (Av hl hokN),List.length_append];rfl) rfl) rfl ?_
         refine rA hdf hS jQ AA rfl (dD fw rfl rfl rfl (dD b5 rfl rfl rfl aB)) ?_
         rw [qv hsz hf h0 h43 hc58 (hlb.trans hc85) hk hs];exact congrArg (fun n=>A.tu [.fz n (cY (l++ [(eY x k l iss day ids c (aX σ c))])),.i .i64 0]) (show l.length+1=(l++ [(eY x k l iss day ids c (aX σ c))]).length by simp)
      ·skip
       refine eQ ⟨[]⟩ false rfl trivial (.cons (.pure pu) (.cons (.pure pu) .nil)) (iw 351) (fun u hu=>?_)
       refine bU ?_
       refine bU ?_
       refine jM ⟨[(14,some [.nl]),(15,some [.i .i64 0])]⟩ hdf hS jQ ⟨⟨rfl,a8.pure aq⟩,⟨rfl,a8.pure aq⟩,trivial⟩ (.cons (.kp rfl) (.cons (.kp rfl) .nil)) (lz _ _ 351) (hu) (kW rfl rfl aq aq) rfl (dD fw rfl rfl rfl (dD b5 rfl rfl rfl aB)) ?_
       rw [j5 hsz hf h0 h43 (.inr (.inl (hlb.trans hc85)))];rfl
     ·have h69 : l = [] := List.length_eq_zero_iff.1 (by have := of_decide_eq_false hc69; omega)
      obtain⟨hlb,hld⟩:=Ie (iss:=iss) (day:=day) h69
      refine aL<|ae<|af ?_
      rcases kf (cR σ (-1) c)with hcs|hcs
      ·have hk := hcs
       refine cX 18 (cs':=eZ iss (l.length:Nat) day c zD (iN l)) rfl (by rw [hld]) ?_
       refine ai<|s1 (aa rfl) rfl<|s1 (aa rfl) rfl ?_
       refine eQ ⟨[(700,some [.mc b39 (mapOf σ)])]⟩ false rfl ⟨⟨rfl,a8.pure aq⟩,trivial⟩ (.cons (.pure pu) (.cons (.pure pu) .nil)) (vK (by simp only [maxLen];omega) hk) (fun u hu=>?_)
       refine bU ?_
       refine jM ⟨[(14,some [.nl]),(15,some [.i .i64 0])]⟩ hdf hS jQ ⟨⟨rfl,a8.pure aq⟩,⟨rfl,a8.pure aq⟩,trivial⟩ (.cons (.kp rfl) (.cons (.kp rfl) .nil)) (lz _ _ 351) (hu.2) (kW rfl rfl aq aq) rfl (dD fw rfl rfl rfl (dD b5 rfl rfl rfl aB)) ?_
       rw [j5 hsz hf h0 h43 (.inr (.inr (.inl hk)))];rfl
      ·have hk := hcs
       refine cX 18 (cs':=eZ iss (l.length:Nat) day c zD (iN l)) rfl (by rw [hld]) ?_
       refine ai<|s1 (aa rfl) rfl<|s1 (aa rfl) rfl ?_
       refine ak rfl (oz ⟨[(700,some [.mc b39 (mapOf σ)])]⟩ [(700, [.mc b39 (mapOf (aX σ c))])] false rfl ⟨⟨rfl,a8.pure aq⟩,trivial⟩ (.cons (.pure pu) (.cons (.pure pu) .nil)) (vJ (by simp only [maxLen];omega) hk) pu (.inl rfl) (fun p hp=>by rw [List.mem_singleton.1 hp];exact⟨⟨_,rfl⟩,aq,.inl rfl⟩) rfl ?_)
       refine ah<|ae<|af ?_
       rcases kf (fN (aX σ c) ids)with hcs|hcs
       ·have hs := hcs
        refine ai<|s1 (aa rfl) rfl<|s1 (aa rfl) rfl ?_
        refine eQ ⟨[(700,some [.mc b39 (mapOf (aX σ c))])]⟩ false rfl ⟨⟨rfl,a8.pure aq⟩,trivial⟩ (.cons (.pure pu) (.cons (.pure pu) .nil)) (DC (mu hsup (by omega) hk) (by omega) hs) (fun u hu=>?_)
        refine bU ?_
        refine jM ⟨[(14,some [.nl]),(15,some [.i .i64 0])]⟩ hdf hS jQ ⟨⟨rfl,a8.pure aq⟩,⟨rfl,a8.pure aq⟩,trivial⟩ (.cons (.kp rfl) (.cons (.kp rfl) .nil)) (lz _ _ 351) (hu.2) (kW rfl rfl aq aq) rfl (dD fw rfl rfl rfl (dD b5 rfl rfl rfl aB)) ?_
        rw [j5 hsz hf h0 h43 (.inr (.inr (.inr hs)))];rfl
       ·have hs := hcs
        have hlis:=Dz hs
        have hbl:=wG (aX σ c) ids
        have hgl:=wJ (aX σ c) ids
        obtain⟨hbE,hbF⟩:=yT (x:=mo x l.length) (p:=(dX (aX σ c) ids)) (q:=(fm (aX σ c) ids)) (by omega) (by omega)
        have hok0:(eP x l iss day ids c (aX σ c)).ok:=B4 hn hi hd hc hcr
        have hokN:(eY x k l iss day ids c (aX σ c)).ok:=sX hn hi hd hc hcr
        have hlt:l.length<k:=by omega
        have hNl:=hokN.len
        refine ai<|s1 (aa rfl) rfl<|s1 (aa rfl) rfl ?_
        refine ak rfl (oz ⟨[(700,some [.mc b39 (mapOf (aX σ c))])]⟩ [] false rfl ⟨⟨rfl,a8.pure aq⟩,trivial⟩ (.cons (.pure pu) (.cons (.pure pu) .nil)) (DB (mu hsup (by omega) hk) (by omega) hs) pu (.inl rfl) (fun p hp=>by cases hp) rfl ?_)
        refine s1 (aa rfl) rfl<|s1 (aa rfl) rfl<|s1 (aa rfl) rfl<|s1 (aa rfl) rfl<|s1 (aa rfl) rfl ?_
        refine ah<|ae<|af ?_
        refine fh 7 rfl rfl aq ?_
        refine bP ⟨_, [], []⟩ 8 4 bx (le_refl rfl) ?_
        refine aj 0 [] [] ((mB (ds:=((x.map u8).drop (0*1)).take (32*1)) 32 Tryz.underlying23 aQ rfl (by simp [maxLen]) bn bn (Nat.zero_le _) (Nat.le_refl _) (by simp [hx]) rfl rfl).v (vq hx)) rfl rfl<|mT 100 false 1 [0] [] aW rfl (.cons (.pure pu) (.nil)) (vU x (by omega) (by omega)) aq (.inl rfl) rfl rfl<|aj 2 [] [(18,none)] (aC Tryz.underlying45 rfl an (by decide) rfl rfl) rfl rfl<|aj 3 [2] [(18,none)] (au an rfl rfl rfl) rfl rfl<|bL false 4 [3] [] aW rfl (.cons (.pure pu) (.nil)) (AT (l.length:Nat)) pu (.inl rfl) rfl rfl<|fV 104 5 [1,4] [(100,some 1)] aW Tryz.underlying68 aQ rfl (.sl rfl (by simp)) rfl rfl (by simp) (by simp only [maxLen];omega) (by omega) rfl (List.map_append (l₁:=x) (l₂:=eF (l.length:Nat) 4)).symm rfl rfl ?_
        refine bL true 6 [5] [(104,some 5)] aW rfl (.cons (.pure pu) (.cons (.sl rfl rfl (by simp [hx]) (cm (by simp [hx]) rfl) (a8.pure aq) aq) .nil)) (aA.cast (g9 tV (x++eF (l.length:Nat) 4) (by simp [hx]) (by decide)) (congrArg (fun l:List UInt8=>A.ag (l.map u8)) (xv x l.length).symm)) pu (.inr fu) rfl rfl ?_
        refine AX 22 7 [] aW az rfl rfl rfl<|bQ (by kernel_rfl) ?_
        refine ak rfl (bb az rfl rfl rfl (by first|rfl|omega|(simp<;>omega)|(simp [*]<;>omega)) (by first|rfl|omega|(simp<;>omega)|(simp [*]<;>omega)) ?_)
        refine ah<|ae<|af<|ai<|s1 (aV az rfl rfl (by simp)) rfl<|s1 (aa rfl) rfl<|s1 (aa rfl) rfl ?_
        refine ak rfl (aI false rfl (.cons (.pure pu) (.cons (.pure pu) (.cons (.pure pu) (.nil)))) (aA.cast (yX (mo x l.length) (by simp) (dX (aX σ c) ids) (fm (aX σ c) ids) (by omega) (by omega)) (rI (s6 hlis))) pu (.inl rfl) rfl ?_)
        refine s1 (aa rfl) rfl<|s1 (aa rfl) rfl<|s1 (aa rfl) rfl ?_
        refine ak rfl (bp 23 rfl ee rfl rfl ?_)
        refine ak rfl (bb ee rfl rfl rfl (gq (c:=(jf x l.length (aX σ c) ids)) (ox _ _)) rfl ?_)
        refine ak rfl (bZ b5 rfl rfl rfl rfl (by first|rfl|omega|(simp<;>omega)|(simp [*]<;>omega)) rfl ?_)
        refine ah<|ae<|af<|ai<|s1 (au b5 rfl rfl rfl) rfl<|s1 ((aa rfl).v (v':= .b true) (rfl)) rfl<|s1 (au b5 rfl rfl rfl) rfl ?_
        refine ak rfl (aI false rfl (.cons (.pure pu) (.cons (.pure pu) .nil)) (fT 0) pu (.inl rfl) rfl ?_)
        refine ah<|ae<|af<|ai<|s1 (aV ee rfl rfl (gq (c:=(jf x l.length (aX σ c) ids)) (ox _ _))) rfl ?_
        refine ak rfl (aI false rfl (.cons (.pure pu) (.nil)) (aA.cast (yZ (jf x l.length (aX σ c) ids) (ox _ _) (show(jf x l.length (aX σ c) ids).E.length≤maxLen by simp only [maxLen];exact Nat.le_trans hbE (by decide))) (vF (zm (s6 hlis)))) pu (.inl rfl) rfl ?_)
        refine s1 (aa rfl) rfl<|s1 (aa rfl) rfl<|s1 (aa rfl) rfl<|s1 (aC Tryz.underlying45 rfl az (by decide) rfl rfl) rfl ?_
        refine ak rfl (jZ az rfl rfl rfl rfl rfl (show((lq (jf x l.length (aX σ c) ids)).map u8).length=32 by simp) (by rw [wU rfl (sH _)];decide) (Cg rfl) ?_)
        refine ak rfl (bZ b5 rfl rfl rfl rfl (by first|rfl|omega|(simp<;>omega)|(simp [*]<;>omega)) rfl ?_)
        refine ah<|ae<|af<|ai<|s1 (au b5 rfl rfl rfl) rfl<|s1 ((aa rfl).v (v':= .b true) (rfl)) rfl<|s1 (au b5 rfl rfl rfl) rfl ?_
        refine ak rfl (aI false rfl (.cons (.pure pu) (.cons (.pure pu) .nil)) (fT 0) pu (.inl rfl) rfl ?_)
        refine ah<|ae<|af ?_
        refine iK 18 rfl Cj ?_
        refine bP ⟨_, [], []⟩ 12 4 bx (le_refl rfl) ?_
        refine aj 0 [] [] (bY az rfl rfl (List.take_of_length_le (by simp [hx])) (by simp [hx])) rfl rfl<|aj 1 [] [] (aa rfl) rfl rfl<|aj 2 [] [(18,none)] (aC Tryz.underlying45 rfl an (by decide) rfl rfl) rfl rfl<|aj 3 [2] [(18,none)] (au an rfl rfl rfl) rfl rfl<|aj 4 [] [(18,none)] (aV bA rfl rfl hok0.len) rfl rfl<|bL false 5 [4] [] aW rfl (.cons (.pure pu) (.nil)) (lW (eP x l iss day ids c (aX σ c)) hok0) pu (.inl rfl) rfl rfl<|bL false 6 [0,1,3,5] [] aW rfl (.cons (.pure pu) (.cons (.pure pu) (.cons (.pure pu) (.cons (.pure pu) (.nil))))) (aA.cast (Ds x k (l.length:Nat) (cu (eP x l iss day ids c (aX σ c))) hx (by simp) hsz) (xB hsz hlt)) pu (.inl rfl) rfl rfl<|aj 7 [6] [] (aa rfl) rfl rfl<|aj 8 [7] [] (aa rfl) rfl rfl<|aj 9 [7] [] (aa rfl) rfl rfl ?_
        refine aj 10 [] [(18,none)] (aC Tryz.underlying45 rfl dS (by decide) rfl rfl) rfl rfl<|wq 0 11 [8,10] [(18,none)] rfl aW dS rfl rfl rfl rfl rfl rfl (by rw [hok0.len];decide) (show _=(eY x k l iss day ids c (aX σ c)).cells from Ci (s:=⟨(l.length:Nat),iW (fD x (l.length:Nat)) (cu (eP x l iss day ids c (aX σ c))),path (dw x k) l.length⟩) hok0) rfl<|bQ (by kernel_rfl) ?_
        refine ak rfl (bZ b5 rfl rfl rfl rfl (by first|rfl|omega|(simp<;>omega)|(simp [*]<;>omega)) rfl ?_)
        refine ah<|ae<|af<|ai<|s1 (au b5 rfl rfl rfl) rfl<|s1 ((aa rfl).v (v':= .b true) (rfl)) rfl<|s1 (au b5 rfl rfl rfl) rfl ?_
        refine ak rfl (aI false rfl (.cons (.pure pu) (.cons (.pure pu) .nil)) (fT 0) pu (.inl rfl) rfl ?_)
        refine ah<|ae<|af ?_
        refine bP ⟨_, [], []⟩ 5 4 bx (le_refl rfl) ?_
        refine aj 0 [] [] (aa rfl) rfl rfl<|mT 143 false 1 [0] [] aW rfl (.cons (.pure pu) (.nil)) (zH l hl (by omega)) aq (.inl rfl) rfl rfl<|aj 2 [] [(18,none)] (aV bA rfl rfl hokN.len) rfl rfl<|jS 145 3 [2] aW Tryz.underlying24 bA rfl rfl rfl (by simp [aY,hokN.len]) (show aY (A.ag (eY x k l iss day ids c (aX σ c)).cells)++ []=(eY x k l iss day ids c (aX σ c)).cells from List.append_nil _) rfl rfl rfl rfl<|fV 146 4 [1,3] [(143,some 1),(145,some 3)] aW Tryz.underlying24 bA rfl (.sl rfl (by rw [kF hl])) rfl (cE rfl (by first|rfl|omega|(simp<;>omega)|(simp [*]<;>omega))) (by rw [hokN.len]) (by simp only [maxLen];omega) (by omega) rfl (Az l (eY x k l iss day ids c (aX σ c))) rfl rfl<|bQ (by kernel_rfl) ?_
        refine ak rfl (bZ fw rfl rfl rfl rfl (by first|rfl|omega|(simp<;>omega)|(simp [*]<;>omega)) rfl ?_)
        refine ak rfl (bZ b5 rfl rfl rfl rfl (by first|rfl|omega|(simp<;>omega)|(simp [*]<;>omega)) rfl ?_)
        refine ah<|ae<|aE ?_
        refine jL 14 0 rfl rfl rfl rfl aq (cm (by rw [kF (Av hl hokN),List.length_append];rfl) rfl) rfl ?_
        refine rA hdf hS jQ AA rfl (dD fw rfl rfl rfl (dD b5 rfl rfl rfl aB)) ?_
        rw [qv hsz hf h0 h43 hc58 (hlb) hk hs];exact congrArg (fun n=>A.tu [.fz n (cY (l++ [(eY x k l iss day ids c (aX σ c))])),.i .i64 0]) (show l.length+1=(l++ [(eY x k l iss day ids c (aX σ c))]).length by simp)
    ·skip
     refine eQ ⟨[]⟩ false rfl trivial (.cons (.pure pu) (.cons (.pure pu) .nil)) (iw 351) (fun u hu=>?_)
     refine bU ?_
     refine jM ⟨[(14,some [.nl]),(15,some [.i .i64 0])]⟩ hdf hS jQ ⟨⟨rfl,a8.pure aq⟩,⟨rfl,a8.pure aq⟩,trivial⟩ (.cons (.kp rfl) (.cons (.kp rfl) .nil)) (lz _ _ 351) (hu) (kW rfl rfl aq aq) rfl (dD fw rfl rfl rfl (dD b5 rfl rfl rfl aB)) ?_
     rw [j5 hsz hf h0 h43 (.inl hc58)];rfl
   ·have h43 : (l.length : Int) = (k : Int) := by simpa using hc43
    refine eQ ⟨[]⟩ false rfl trivial (.cons (.pure pu) (.cons (.pure pu) .nil)) (iw 2) (fun u hu=>?_)
    refine bU ?_
    refine jM ⟨[(14,some [.nl]),(15,some [.i .i64 0])]⟩ hdf hS jQ ⟨⟨rfl,a8.pure aq⟩,⟨rfl,a8.pure aq⟩,trivial⟩ (.cons (.kp rfl) (.cons (.kp rfl) .nil)) (lz _ _ 2) (hu) (kW rfl rfl aq aq) rfl (dD fw rfl rfl rfl (dD b5 rfl rfl rfl aB)) ?_
    rw [xg hsz hf h0 h43];rfl
end Go.Abs.D2
