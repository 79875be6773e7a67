/-
  The engine, the plain laws and the walks that the rows need, part 15. Conditions: none.
-/
import Derived.Test.YteempkifmbclgaaGreatDoorM14
set_option linter.unusedVariables false
set_option linter.unusedSimpArgs false
set_option maxHeartbeats 1000000
set_option maxRecDepth 10000
-- E5F
namespace Go.Abs.D2
open Go Go.Eng Go.Abs Go.Proofs
theorem GQ (l:List Ch) (hl:l.length≤1000000):aw Tryz.prog 47 [dS l] (aO (dS l)):=by
 refine enter Tryz.func47 rfl Tryz.ntmps47 (by kernel_rfl) (Nat.le_of_ble_eq_true rfl) fun w0 X0 hI=>?_
 refine af<|ai<|s1 (aa rfl) rfl ?_
 refine ah<|ae<|af<|af ?_
 rcases Cp l.length with hcs|hcs
 ·obtain rfl := List.length_eq_zero_iff.1 hcs
  refine ai<|s1 (aa rfl) rfl ?_
  refine aj rfl (CM Tryz.underlying31 rfl rfl rfl fun q4=>?_)
  refine ah<|ae ?_
  refine aK rfl (fun hc4=>?_) (fun hc4=>?_)
  ·skip
   refine af<|ai<|s1 (aa rfl) rfl ?_
   refine ah<|ae<|aB<|aN ?_
   refine F6 2 rfl .nl ?_
   refine aC (rs:= [.tmp 2]) rfl (aA rfl az) ?_
   rfl
  ·skip
   refine aE<|ae<|af<|ai ?_
   refine aj rfl (gC 5 rfl Tryz.underlying31 dD rfl rfl rfl (by first|(simp [aU];done)|(simp [aU, *];done)) (show gU []= []from rfl) rfl rfl rfl ?_)
   refine s1 (aa rfl) rfl ?_
   refine aj rfl (dB 7 rfl Tryz.underlying31 dD rfl (.sl rfl (by simp)) rfl rfl (by simp) (by simp only [maxLen];omega) (by omega) rfl rfl rfl ?_)
   refine s1 (aa rfl) rfl ?_
   refine ah<|ae<|aB ?_
   refine fQ 2 rfl rfl ak (cm (by simp) rfl) ?_
   refine aC (rs:= [.tmp 2]) rfl (aA rfl az) ?_
   rfl
 ·skip
  refine ai<|s1 (aa rfl) rfl<|s1 (uT Tryz.underlying31 rfl rfl hcs) rfl ?_
  refine ah<|ae ?_
  refine bO rfl ?_
  refine aE<|ae<|af<|ai ?_
  refine aj rfl (gC 5 rfl Tryz.underlying31 dD rfl rfl rfl (by first|(simp [aU];done)|(simp [aU, *];done)) (show gU []= []from rfl) rfl rfl rfl ?_)
  refine s1 (aa rfl) rfl ?_
  refine aj rfl (dB 7 rfl Tryz.underlying31 dD rfl (.sl rfl (by simp)) rfl rfl (by simp) (by simp only [maxLen];omega) (by omega) rfl rfl rfl ?_)
  refine s1 (aa rfl) rfl ?_
  refine ah<|ae<|aB ?_
  refine fQ 2 rfl rfl ak (cm (by simp) rfl) ?_
  refine aC (rs:= [.tmp 2]) rfl (aA rfl az) ?_
  exact congrArg (fun n=>A.fz n (fA l)) (Nat.zero_add _)
theorem As (l:List Ep) (h:c6 l) (hl:l.length≤1000000):aw Tryz.prog 54 [cQ l] (cU 71 l.length (cZ l)):=by
 refine enter Tryz.func54 rfl Tryz.ntmps54 (by kernel_rfl) (Nat.le_of_ble_eq_true rfl) fun w0 X0 hI=>?_
 refine af<|ai<|s1 (aa rfl) rfl ?_
 refine ah<|ae<|af<|af ?_
 rcases Cp l.length with hcs|hcs
 ·obtain rfl := List.length_eq_zero_iff.1 hcs
  have hel:=mn h
  refine ai<|s1 (aa rfl) rfl ?_
  refine aj rfl (CM Tryz.underlying24 rfl rfl rfl fun q4=>?_)
  refine ah<|ae ?_
  refine aK rfl (fun hc4=>?_) (fun hc4=>?_)
  ·skip
   refine af<|ai<|s1 (aa rfl) rfl ?_
   refine ah<|ae<|aB<|aN ?_
   refine zB 9 rfl 2 71 rfl ?_
   refine aC (rs:= [.tmp 2]) rfl (aA rfl az) ⟨9,rfl,rfl⟩
  ·skip
   refine aE<|ae<|af<|ai ?_
   refine aj rfl (gC 5 rfl Tryz.underlying24 bu rfl rfl rfl (by first|(simp [aU];done)|(simp [aU, *];done)) (show gU []= []from rfl) rfl rfl rfl ?_)
   refine s1 (aa rfl) rfl ?_
   refine aj rfl (dB 7 rfl Tryz.underlying24 bu rfl (.sl rfl (by simp)) rfl rfl (by first|rfl|omega) (by simp only [maxLen];omega) (by omega) rfl rfl rfl ?_)
   refine s1 (aa rfl) rfl ?_
   refine ah<|ae<|aB ?_
   refine aC (rs:= [.tmp 2]) rfl (aA rfl az) ⟨7,rfl,rfl⟩
 ·skip
  have hel:=mn h
  refine ai<|s1 (aa rfl) rfl<|s1 (uT Tryz.underlying24 rfl rfl hcs) rfl ?_
  refine ah<|ae ?_
  refine bO rfl ?_
  refine aE<|ae<|af<|ai ?_
  refine aj rfl (gC 5 rfl Tryz.underlying24 bu rfl rfl rfl (by first|(simp [aU];done)|(simp [aU, *];done)) (show gU []= []from rfl) rfl rfl rfl ?_)
  refine s1 (aa rfl) rfl ?_
  refine aj rfl (dB 7 rfl Tryz.underlying24 bu rfl (.sl rfl (by simp)) rfl rfl (by first|rfl|omega) (by simp only [maxLen];omega) (by omega) rfl rfl rfl ?_)
  refine s1 (aa rfl) rfl ?_
  refine ah<|ae<|aB ?_
  refine aC (rs:= [.tmp 2]) rfl (aA rfl az) ⟨7,congrArg (A.sl 7 71 0) (Nat.zero_add _),rfl⟩
theorem BD (a:Int):aw Tryz.prog 52 [.i .i64 a] (aO (.fz 4 ((eC a 4).map u8))):=by
 refine enter Tryz.func52 rfl Tryz.ntmps52 (by kernel_rfl) (Nat.le_of_ble_eq_true rfl) fun w0 X0 hI=>?_
 refine af<|ai<|s1 (aa rfl) rfl ?_
 refine ah<|ae<|af<|ai<|s1 (aa rfl) rfl<|s1 (k5 rfl rfl (by decide)) rfl<|s1 ((cK Tryz.underlying3 Tryz.underlying5 rfl).v (Ix a)) rfl<|s1 (aa rfl) rfl<|s1 (k5 rfl rfl (by decide)) rfl<|s1 ((cK Tryz.underlying3 Tryz.underlying5 rfl).v (Iy a)) rfl<|s1 (aa rfl) rfl<|s1 (k5 rfl rfl (by decide)) rfl<|s1 ((cK Tryz.underlying3 Tryz.underlying5 rfl).v (Iz a)) rfl<|s1 (aa rfl) rfl ?_
 refine s1 ((cK Tryz.underlying3 Tryz.underlying5 rfl).v (IA a)) rfl ?_
 refine aj rfl (kJ Tryz.underlying68 aR rfl rfl rfl (nk rfl) (mf rfl) ak rfl rfl rfl ?_)
 refine s1 (aa rfl) rfl ?_
 refine ah<|ae<|aB ?_
 refine aC (rs:= [.tmp 2]) rfl (aA rfl az) ?_
 rfl
theorem Es (b:Nat) (σ:Int→Int) (hs:iL σ) (ids:List Int) (hn:ids.length≤1000):iY Tryz.prog 49 [.raw (.map (some b)),.fz ids.length (ids.map (A.i .i64))] ⟨[(700,some [.mc b (mapOf σ)])]⟩ (fun r st=>fN σ ids=true∧gP (.tu [.fz (dR σ ids).length ((dR σ ids).map (A.i .i64)),.fz (fh σ ids).length ((fh σ ids).map (A.i .i64))]) [] r st) (fun u=>fN σ ids=false∧u=gZ 136 351):=by
 refine sS Tryz.func49 rfl Tryz.ntmps49 (by kernel_rfl) (Nat.le_of_ble_eq_true rfl) fun w0 X0 hI=>?_
 refine af<|ai<|s1 (aa rfl) rfl<|s1 (aa rfl) rfl ?_
 refine ah<|ae<|af<|ai<|s1 ((aa rfl).v (v':= .i .i64 (-1)) rfl) rfl ?_
 refine ah<|ae<|af<|af<|ai<|s1 (aa rfl) rfl<|s1 (a7 Tryz.underlying30 rfl rfl rfl) rfl<|s1 ((aa rfl).v (v':= .i .i64 0) rfl) rfl ?_
 refine ah<|ae<|aI ?_
 refine bD (ι:=Nat) (fun i=> [(0,.raw (.map (some b))),(4,.sl 131 1 0 (dR σ (ids.take i)).length),(5,.sl 135 1 0 (fh σ (ids.take i)).length),(6,.i .i64 (fL ids i)),(9,.fz ids.length (ids.map (A.i .i64))),(10,nJ ids.length),(11,nJ i)]) (fun i=>⟨[(131,some ((dR σ (ids.take i)).map (A.i .i64))),(135,some ((fh σ (ids.take i)).map (A.i .i64))),(700,some ([.mc b (mapOf σ)]))]⟩) (fun i=>i≤ids.length∧cH ids=dQ (fL ids i) (ids.drop i)) (fun i=>ids.length - i) ?_ ?_
 ·exact bC (0) (⟨Nat.zero_le _,zx ids⟩) [(131,none),(135,none),(700,some 700)] hI rfl rfl ⟨⟨_,rfl,.pure pu⟩,⟨_,rfl,.nl rfl⟩,⟨_,rfl,.nl rfl⟩,⟨_,rfl,.pure pu⟩,⟨_,rfl,.pure pu⟩,⟨_,rfl,.pure pu⟩,⟨_,rfl,.pure pu⟩,trivial⟩ ⟨.inl ⟨rfl,rfl⟩,.inl ⟨rfl,rfl⟩,.inr ⟨_,_,rfl,rfl,.pure ak⟩,trivial⟩
 rintro i ⟨hi,hl⟩
 have hlb:=xm σ (ids.take i)
 have hlg:=xp σ (ids.take i)
 rw [List.length_take]at hlb hlg
 refine af<|ai<|s1 (aa rfl) rfl ?_
 refine ah<|ae<|af ?_
 refine aK rfl (fun hc12=>?_) (fun hc12=>?_)
 ·have h12 : i < ids.length := by have := of_decide_eq_true hc12; omega
  obtain⟨q,hq⟩:∃q,ids[i]? =some q:=⟨_,List.getElem?_eq_getElem h12⟩
  refine aE<|ae<|af<|aI<|af<|ai<|s1 (bb i Tryz.underlying30 an rfl rfl rfl (by omega) rfl) rfl<|s1 (au an rfl rfl (oM hq)) rfl<|s1 (aa rfl) rfl ?_
  refine ah<|ae<|af<|ai<|s1 (aa rfl) rfl<|s1 (aa rfl) rfl<|s1 (aa rfl) rfl<|s1 (aa rfl) rfl ?_
  refine cT 2 rfl rfl rfl rfl (fun hb18=> .step (aa rfl) rfl rfl<| .step (aa rfl) rfl rfl<| .done) rfl rfl ?_
  refine gw 21 rfl (fun hc21=>?_) (fun hc21=>?_)
  ·have h21 : fL ids i < q ∧ q < 1024 := by simp at hc21; omega
   refine aj rfl (aF false rfl (.cons (.pure pu) (.cons (.pure pu) .nil)) (fS 351) pu (.inl rfl) rfl ?_)
   refine ah<|ae<|af<|ai<|s1 ((aa rfl).v (v':= .i .i64 (fL ids (i+1))) (congrArg (A.i .i64) (xk hq).symm)) rfl<|s1 (aa rfl) rfl ?_
   refine ah<|ae<|af<|ai<|s1 (aa rfl) rfl<|s1 (aa rfl) rfl<|s1 (nR Tryz.underlying80 Tryz.underlying3 u4 rfl rfl rfl (tL _ _)) rfl<|s1 (aa rfl) rfl ?_
   refine ah<|ae ?_
   refine aK rfl (fun hc27=>?_) (fun hc27=>?_)
   ·have h27 : σ q ≠ 0 := by simpa using hc27
    obtain⟨hb1,hb2⟩:=F9 hq h27
    refine ai<|s1 (aa rfl) rfl<|s1 (aa rfl) rfl ?_
    refine aj rfl (ey 30 rfl Tryz.underlying30 an rfl rfl rfl rfl rfl ?_)
    refine aj rfl (dB 31 rfl Tryz.underlying30 an rfl (.sl rfl (by simp)) rfl (c8 rfl (by first|rfl|omega|(simp<;>omega)|(simp [*]<;>omega))) (by simp) (by simp only [maxLen];omega) (by omega) rfl rfl rfl ?_)
    refine s1 (aa rfl) rfl ?_
    refine ah<|a8<|ae<|ai<|s1 (aZ _ 1 rfl rfl rfl rfl (by omega)) rfl<|s1 (aa rfl) rfl ?_
    refine ah ?_
    exact bf (i+1) (⟨by omega,vw hl hq h21⟩) (by omega) [(131,some 31),(135,some 135),(700,some 700)] hI rfl rfl ⟨⟨_,rfl,.pure pu⟩,⟨_,rfl,.sl rfl (by first|rfl|omega|(simp<;>omega)|(simp [*]<;>omega))⟩,⟨_,rfl,.sl rfl (by first|rfl|omega|(simp<;>omega)|(simp [*]<;>omega))⟩,⟨_,rfl,.pure pu⟩,⟨_,rfl,.pure pu⟩,⟨_,rfl,.pure pu⟩,⟨_,rfl,.pure pu⟩,trivial⟩ ⟨.inr ⟨_,_,rfl,rfl,.of (by rw [hb1,List.map_append];rfl) (.pure ak)⟩,.inr ⟨_,_,rfl,rfl,.of (by rw [hb2]) (.pure ak)⟩,.inr ⟨_,_,rfl,rfl,.pure ak⟩,trivial⟩
   ·have h27 : σ q = 0 := by simpa using hc27
    obtain⟨hb1,hb2⟩:=Ga hq h27
    refine ai<|s1 (aa rfl) rfl<|s1 (aa rfl) rfl ?_
    refine aj rfl (ey 34 rfl Tryz.underlying30 an rfl rfl rfl rfl rfl ?_)
    refine aj rfl (dB 35 rfl Tryz.underlying30 an rfl (.sl rfl (by simp)) rfl (c8 rfl (by first|rfl|omega|(simp<;>omega)|(simp [*]<;>omega))) (by simp) (by simp only [maxLen];omega) (by omega) rfl rfl rfl ?_)
    refine s1 (aa rfl) rfl ?_
    refine ah<|a8<|ae<|ai<|s1 (aZ _ 1 rfl rfl rfl rfl (by omega)) rfl<|s1 (aa rfl) rfl ?_
    refine ah ?_
    exact bf (i+1) (⟨by omega,vw hl hq h21⟩) (by omega) [(131,some 131),(135,some 35),(700,some 700)] hI rfl rfl ⟨⟨_,rfl,.pure pu⟩,⟨_,rfl,.sl rfl (by first|rfl|omega|(simp<;>omega)|(simp [*]<;>omega))⟩,⟨_,rfl,.sl rfl (by first|rfl|omega|(simp<;>omega)|(simp [*]<;>omega))⟩,⟨_,rfl,.pure pu⟩,⟨_,rfl,.pure pu⟩,⟨_,rfl,.pure pu⟩,⟨_,rfl,.pure pu⟩,trivial⟩ ⟨.inr ⟨_,_,rfl,rfl,.of (by rw [hb1]) (.pure ak)⟩,.inr ⟨_,_,rfl,rfl,.of (by rw [hb2,List.map_append];rfl) (.pure ak)⟩,.inr ⟨_,_,rfl,rfl,.pure ak⟩,trivial⟩
  ·have h21 : ¬ (fL ids i < q ∧ q < 1024) := by simp at hc21; omega
   refine eS ⟨[]⟩ false rfl trivial (.cons (.pure pu) (.cons (.pure pu) .nil)) (iw 351) (fun u hu=>?_)
   refine bJ ?_
   refine dw ?_
   refine bJ ?_
   refine bJ ?_
   refine dw ?_
   refine bJ ?_
   exact mX ⟨En (zw hl hq h21),hu⟩
 ·have h12 : i = ids.length := by have := of_decide_eq_false hc12; omega
  subst h12
  refine bx<|aM<|aM<|bA<|ae<|af ?_
  refine cI 131 (cs':=(dR σ ids).map (A.i .i64)) rfl (by rw [List.take_length]) ?_
  refine cI 135 (cs':=(fh σ ids).map (A.i .i64)) rfl (by rw [List.take_length]) ?_
  refine ai<|s1 (aa rfl) rfl<|s1 (a7 Tryz.underlying30 rfl rfl rfl) rfl<|s1 (aa rfl) rfl<|s1 (N6 (c9 σ) Tryz.underlying80 rfl rfl (xj σ) (xh hs)) rfl<|s1 (aa rfl) rfl ?_
  refine gw 41 rfl (fun hc41=>?_) (fun hc41=>?_)
  ·have h41 : (dR σ ids).length = (c9 σ).length := by have := of_decide_eq_true hc41; rw [List.take_length] at this; omega
   refine aj rfl (aF false rfl (.cons (.pure pu) (.cons (.pure pu) .nil)) (fS 351) pu (.inl rfl) rfl ?_)
   refine ah<|ae<|af<|ai<|s1 (aa rfl) rfl<|s1 (aa rfl) rfl<|s1 (aa rfl) rfl<|s1 (aa rfl) rfl ?_
   refine ah<|ae<|aB ?_
   refine fQ 4 rfl rfl ak (cm (by simp) rfl) ?_
   refine fQ 5 rfl rfl ak (cm (by simp) rfl) ?_
   refine zC (rs:= [.tmp 4,.tmp 5]) rfl (aA rfl (aA rfl az)) ⟨yq (zr hl) h41,?_,fun p hp=>by cases hp⟩
   show A.tu _=A.tu _
   rw [List.take_length]
  ·have h41 : (dR σ ids).length ≠ (c9 σ).length := by have := of_decide_eq_false hc41; rw [List.take_length] at this; omega
   refine eS ⟨[]⟩ false rfl trivial (.cons (.pure pu) (.cons (.pure pu) .nil)) (iw 351) (fun u hu=>?_)
   refine bJ ?_
   exact mX ⟨M5 h41,hu⟩
theorem Et {b:Nat} {σ:Int→Int} (hs:iL σ) {ids:List Int} (hn:ids.length≤1000) (h:fN σ ids=true):cv Tryz.prog 49 [.raw (.map (some b)),.fz ids.length (ids.map (A.i .i64))] ⟨[(700,some [.mc b (mapOf σ)])]⟩ (gP (.tu [.fz (dR σ ids).length ((dR σ ids).map (A.i .i64)),.fz (fh σ ids).length ((fh σ ids).map (A.i .i64))]) []):=(Es b σ hs ids hn).ret (fun _ _ h=>h.2) fun u hu=>by rw [h]at hu;cases hu.1
theorem Eu {b:Nat} {σ:Int→Int} (hs:iL σ) {ids:List Int} (hn:ids.length≤1000) (h:fN σ ids=false):iZ Tryz.prog 49 [.raw (.map (some b)),.fz ids.length (ids.map (A.i .i64))] ⟨[(700,some [.mc b (mapOf σ)])]⟩ (fun u=>fN σ ids=false∧u=gZ 136 351):=(Es b σ hs ids hn).um fun r st hu=>by rw [h]at hu;cases hu.1
end Go.Abs.D2
-- K6C
namespace Go.Abs.D2
open Go Go.Eng Go.Abs Go.Proofs
theorem Eg (x:List UInt8) (k:Nat) (a:Int) (m:List UInt8) (hx:x.length=32) (hm:m.length=32) (hk:cd (k:Int)):aw Tryz.prog 53 [.ag (x.map u8),a6 (dq x k),.i .i64 a,.ag (m.map u8)] (aO (signA x k a m)):=by
 refine enter Tryz.func53 rfl Tryz.ntmps53 (by kernel_rfl) (Nat.le_of_ble_eq_true rfl) fun w0 X0 hI=>?_
 refine af<|ai ?_
 refine aj rfl (bF 4 rfl rfl rfl ?_)
 refine aj rfl (bF 7 rfl rfl rfl ?_)
 refine aj rfl (bg 8 rfl c4 rfl rfl ?_)
 refine s1 ((aa rfl).v (v':= .i .i64 0) rfl) rfl ?_
 refine ah<|ae<|af ?_
 rcases(Decidable.em (fF (k:Int) a)).symm with hcs|hcs
 ·skip
  have hk2:k≤256:=by unfold cd at hk;omega
  refine ai<|s1 (aa rfl) rfl<|s1 (aa rfl) rfl ?_
  refine aj rfl (aF false rfl (.cons (.pure pu) (.cons (.pure pu) (.nil))) (aw.cast (Dn (dq x k) a (mP x k) (by simp;omega)) (La (by rw [len_kpubs];exact hcs))) pu (.inl rfl) rfl ?_)
  refine s1 (aa rfl) rfl<|s1 (aa rfl) rfl<|s1 (aa rfl) rfl<|s1 (aa rfl) rfl<|s1 (aa rfl) rfl ?_
  refine ah<|ae<|af<|af<|ai<|s1 (aa rfl) rfl<|s1 ((aa rfl).v (v':= .b true) (rfl)) rfl ?_
  refine ah<|ae ?_
  refine cN rfl ?_
  refine af<|ai<|s1 (aG c4 rfl rfl (by first|rfl|omega|(simp<;>omega)|(simp [*]<;>omega))) rfl ?_
  refine aj rfl (ba c4 rfl rfl rfl (by first|rfl|omega|(simp<;>omega)|(simp [*]<;>omega)) (by first|rfl|omega|(simp<;>omega)|(simp [*]<;>omega)) ?_)
  refine s1 ((aa rfl).v (v':= .i .i64 60) rfl) rfl ?_
  refine ah<|ae<|aB<|aN ?_
  refine iM 8 rfl (.cons (.eq rfl) (.cons .nl (.cons .nl .nil))) ?_
  refine aC (rs:= [.cell 8 43,.tmp 9]) rfl (cw c4 rfl rfl rfl rfl (aA rfl az)) ?_
  exact(MV (fun h=>hcs h.2)).symm
 ·have hat := hcs
  obtain⟨i,rfl,hi⟩:∃i:Nat,a=(i:Int)∧i<k:=⟨a.toNat,by unfold fF at hcs;omega,by unfold fF at hcs;omega⟩
  have hk2:k≤256:=by unfold cd at hk;omega
  refine ai<|s1 (aa rfl) rfl<|s1 (aa rfl) rfl ?_
  refine aj rfl (aF false rfl (.cons (.pure pu) (.cons (.pure pu) (.nil))) (aw.cast (Dn (dq x k) (i:Nat) (mP x k) (by simp;omega)) (Lb (by rw [len_kpubs];exact hi))) pu (.inl rfl) rfl ?_)
  refine s1 (aa rfl) rfl<|s1 (aa rfl) rfl<|s1 (aa rfl) rfl<|s1 (aa rfl) rfl<|s1 (aa rfl) rfl ?_
  refine ah<|ae<|af<|af<|ai<|s1 (aa rfl) rfl<|s1 ((aa rfl).v (v':= .b false) (rfl)) rfl ?_
  refine ah<|ae ?_
  refine bO rfl ?_
  refine aE<|ae<|af ?_
  refine cr ⟨_, [], []⟩ 8 4 br (le_refl rfl) ?_
  refine aq 0 [] [] (aa rfl) rfl rfl ?_
  refine aq 1 [] [(4,none)] (aG ar rfl rfl (by first|rfl|omega|(simp<;>omega)|(simp [*]<;>omega))) rfl rfl ?_
  refine aq 2 [] [] (aa rfl) rfl rfl ?_
  refine bL false 3 [1,2] [] aV rfl (.cons (.pure pu) (.cons (.pure pu) (.nil))) (pF x (i:Nat) hx) pu (.inl rfl) rfl rfl ?_
  refine aq 4 [] [(7,none)] (aG ar rfl rfl (by first|rfl|omega|(simp<;>omega)|(simp [*]<;>omega))) rfl rfl ?_
  refine bL false 5 [3,4] [] aV rfl (.cons (.pure pu) (.cons (.pure pu) (.nil))) (rq (b7 x (i:Nat)) m (by simp) hm) pu (.inl rfl) rfl rfl ?_
  refine aq 6 [] [] (aa rfl) rfl rfl ?_
  refine aq 7 [0,5,6] [] (eE (out:= [_,_,_]) [[aQ (.int .i64 0)], [aQ (.slice none 0 0)], [aQ (.slice none 0 0)]] c4 rfl Tryz.underlying43 (by kernel_rfl) rfl rfl ⟨⟨by(first|rfl|omega|(simp;done)|(simp [*];done)|(simp [aU, *];done)),rfl⟩,⟨⟨by(first|rfl|omega|(simp;done)|(simp [*];done)|(simp [aU, *];done)),rfl⟩,⟨⟨by(first|rfl|omega|(simp;done)|(simp [*];done)|(simp [aU, *];done)),rfl⟩,trivial⟩⟩⟩ rfl) rfl rfl ?_
  refine ct (by kernel_rfl) ?_
  refine aj rfl (ba c4 rfl rfl rfl (by first|rfl|omega|(simp<;>omega)|(simp [*]<;>omega)) (by first|rfl|omega|(simp<;>omega)|(simp [*]<;>omega)) ?_)
  refine s1 ((aa rfl).v (v':= .i .i64 0) rfl) rfl ?_
  refine ah<|ae<|aB ?_
  refine aC (rs:= [.cell 8 43,.tmp 9]) rfl (cw c4 rfl rfl rfl rfl (aA rfl az)) ?_
  exact(ym hk hi).symm
end Go.Abs.D2
-- E5G
namespace Go.Abs.D2
open Go Go.Eng Go.Abs Go.Proofs
theorem lu (c0 c1:A) (e:Int):pR Tryz.prog 43 [.p 14 0,.p 15 0] ⟨[(14,some [c0]),(15,some [c1])]⟩ (fun u=>u=gZ 136 e) [(14, [.nl]),(15, [.i .i64 e])]:=by
 refine vY (.ic 136 (.ag [.i .i64 e])) (fun u hu X w β=>by rw [hu];exact vk _ _) Tryz.func43 rfl Tryz.ntmps43 (Nat.le_of_ble_eq_true rfl) rfl rfl fun w0 X0 hI=>?_
 refine af<|ai<|s1 (aa rfl) rfl<|s1 (yK Tryz.underlying20 rfl) rfl ?_
 refine ah<|ae ?_
 refine cN rfl ?_
 refine ai<|s1 (aa rfl) rfl ?_
 refine aj rfl (aF false rfl (.cons (.pure pu) (.nil)) (wD e) pu (.inl rfl) rfl ?_)
 refine aj rfl (bX fw rfl rfl rfl rfl (by first|rfl|omega|(simp<;>omega)|(simp [*]<;>omega)) rfl ?_)
 refine aj rfl (bX bV rfl rfl rfl rfl (by first|rfl|omega|(simp<;>omega)|(simp [*]<;>omega)) rfl ?_)
 refine ah ?_
 refine ld (rs:= []) rfl az (DN rfl rfl)
theorem Bc:pS Tryz.prog 43 2:=vZ Tryz.func43 rfl (fun w=>yd Tryz.underlying20 w) rfl ⟨Nat.le_of_ble_eq_true rfl,Nat.le_of_ble_eq_true rfl,Nat.le_of_ble_eq_true rfl,Nat.le_of_ble_eq_true rfl,Nat.le_of_ble_eq_true rfl⟩
theorem jS:ko Tryz.prog 43:=⟨_,Tryz.func43,rfl,by kernel_rfl⟩
theorem oD (x : List UInt8) (n : Int) (l : List Ep) (iss day : Int) (ids : List Int) (c : List Ch) (hx : x.length = 32) (hl : c6 l) (hn : l.length ≤ 1000) (hi : rg iss) (hd : rg day) (hids : ids.length ≤ 100) (hc : c.length ≤ 1000) (hcr : ∀ e ∈ c, rg e.id ∧ rg e.st) : aw Tryz.prog 15 [.ag (x.map u8), .i .i64 n, cQ l, .i .i64 iss, .i .i64 day, .fz ids.length (ids.map (A.i .i64)), dS c] (aO (LX l (dY x n l iss day ids c))) := by
 refine oC Tryz.func15 rfl Tryz.ntmps15 (by kernel_rfl) (Nat.le_of_ble_eq_true rfl) fun w0 X0 hI hS=>?_
 refine af<|ai ?_
 refine aj rfl (bF 7 rfl rfl rfl ?_)
 refine aj rfl (bg 14 rfl fw rfl rfl ?_)
 refine aj rfl (bg 15 rfl bV rfl rfl ?_)
 refine ah<|ae<|af<|ai<|s1 (gu (us:= []) (vs:= [.p 14 0,.p 15 0]) rfl rfl) rfl ?_
 refine vC [14,15] hI rfl rfl trivial rfl fun w1 us hdf=>?_
 refine ah<|ae<|af ?_
 rcases(Decidable.em (cd n)).symm with hcs|hcs
 ·skip
  refine ai<|s1 (aG ar rfl rfl (by rw [List.length_map,hx])) rfl<|s1 (aa rfl) rfl ?_
  refine aj rfl (aF false rfl (.cons (.pure pu) (.cons (.pure pu) (.nil))) (aw.cast (uq x n hx) (if_neg hcs)) pu (.inl rfl) rfl ?_)
  refine s1 (aa rfl) rfl<|s1 (aa rfl) rfl<|s1 (aa rfl) rfl<|s1 (aa rfl) rfl ?_
  refine aj rfl (bX bV rfl rfl rfl rfl (by first|rfl|omega|(simp<;>omega)|(simp [*]<;>omega)) rfl ?_)
  refine ah<|ae<|af<|ai<|s1 (au bV rfl rfl rfl) rfl<|s1 ((aa rfl).v (v':= .b false) (rfl)) rfl<|s1 (au bV rfl rfl rfl) rfl ?_
  refine eS ⟨[]⟩ false rfl trivial (.cons (.pure pu) (.cons (.pure pu) .nil)) (iw 60) (fun u hu=>?_)
  refine bJ ?_
  refine jQ ⟨[(14,some [.nl]),(15,some [.i .i64 60])]⟩ hdf hS jS ⟨⟨rfl,aW.pure ak⟩,⟨rfl,aW.pure ak⟩,trivial⟩ (.cons (.kp rfl) (.cons (.kp rfl) .nil)) (lu _ _ 60) (hu) (kY rfl rfl ak ak) rfl (dr fw rfl rfl rfl (dr bV rfl rfl rfl az)) ?_
  rw [Du hcs];rfl
 ·have hsz := hcs
  obtain⟨k,rfl,hk1,hk2⟩:=pI hcs
  refine ai<|s1 (aG ar rfl rfl (by rw [List.length_map,hx])) rfl<|s1 (aa rfl) rfl ?_
  refine aj rfl (aF false rfl (.cons (.pure pu) (.cons (.pure pu) (.nil))) (aw.cast (uq x k hx) (if_pos hsz)) pu (.inl rfl) rfl ?_)
  refine s1 (aa rfl) rfl<|s1 (aa rfl) rfl<|s1 (aa rfl) rfl<|s1 (aa rfl) rfl ?_
  refine aj rfl (bX bV rfl rfl rfl rfl (by first|rfl|omega|(simp<;>omega)|(simp [*]<;>omega)) rfl ?_)
  refine ah<|ae<|af<|ai<|s1 (au bV rfl rfl rfl) rfl<|s1 ((aa rfl).v (v':= .b true) (rfl)) rfl<|s1 (au bV rfl rfl rfl) rfl ?_
  refine aj rfl (aF false rfl (.cons (.pure pu) (.cons (.pure pu) .nil)) (fS 0) pu (.inl rfl) rfl ?_)
  refine ah<|ae<|af ?_
  rcases Ap (cq x (k:Int)) k l with hcs|hcs
  ·have h0 := hcs
   refine ai<|s1 (aa rfl) rfl ?_
   refine aj rfl (aF false rfl (.cons (.pure pu) (.nil)) (aw.cast (pP _ (dq x k) (Nat.le_refl _) (mP x k) (by simp;omega)) (congrArg (fun l:List UInt8=>A.ag (l.map u8)) (uz hsz).symm)) pu (.inl rfl) rfl ?_)
   refine s1 (aa rfl) rfl<|s1 (aa rfl) rfl ?_
   refine eS ⟨[]⟩ false rfl trivial (.cons (.pure pu) (.cons (.pure pu) (.cons (.pure pu) .nil))) (AT (by simp) hl (by simp only [maxLen];omega) h0) (fun u hu=>?_)
   refine bJ ?_
   refine jQ ⟨[(14,some [.nl]),(15,some [.i .i64 0])]⟩ hdf hS jS ⟨⟨rfl,aW.pure ak⟩,⟨rfl,aW.pure ak⟩,trivial⟩ (.cons (.kp rfl) (.cons (.kp rfl) .nil)) (lu _ _ (cz (cq x (k:Int)) k l)) (hu.2) (kY rfl rfl ak ak) rfl (dr fw rfl rfl rfl (dr bV rfl rfl rfl az)) ?_
   rw [xR hsz h0];rfl
  ·obtain ⟨σ, hf, h0⟩ := hcs
   have hsup:=EA hf
   have hlk:=vT hf h0
   refine ai<|s1 (aa rfl) rfl ?_
   refine aj rfl (aF false rfl (.cons (.pure pu) (.nil)) (aw.cast (pP _ (dq x k) (Nat.le_refl _) (mP x k) (by simp;omega)) (congrArg (fun l:List UInt8=>A.ag (l.map u8)) (uz hsz).symm)) pu (.inl rfl) rfl ?_)
   refine s1 (aa rfl) rfl<|s1 (aa rfl) rfl ?_
   refine aj rfl (tQ (F:=mapOf σ) rfl (.cons (.pure pu) (.cons (.pure pu) (.cons (.pure pu) (.nil)))) (AS (by simp) hl (by simp only [maxLen];omega) hf h0) rfl rfl fun b39=>?_)
   refine s1 (aa rfl) rfl ?_
   refine ah<|ae<|af<|ai<|s1 (aa rfl) rfl<|s1 (a7 Tryz.underlying24 rfl rfl rfl) rfl<|s1 (aa rfl) rfl<|s1 (aa rfl) rfl ?_
   refine gw 43 rfl (fun hc43=>?_) (fun hc43=>?_)
   ·have h43 : ¬ (l.length : Int) = (k : Int) := by simpa using hc43
    refine aj rfl (aF false rfl (.cons (.pure pu) (.cons (.pure pu) .nil)) (fS 2) pu (.inl rfl) rfl ?_)
    refine ah<|ae<|af<|ai<|s1 (aa rfl) rfl<|s1 (aa rfl) rfl<|s1 (aa rfl) rfl ?_
    refine cT 2 rfl rfl rfl rfl (fun hb47=> .step (aa rfl) rfl rfl<| .step (aa rfl) rfl rfl<| .done) rfl rfl ?_
    refine s1 (aa rfl) rfl ?_
    refine cT 2 rfl rfl rfl rfl (fun hb51=> .step (aa rfl) rfl rfl<| .step (aa rfl) rfl rfl<| .done) rfl rfl ?_
    refine s1 (aa rfl) rfl ?_
    refine cT 2 rfl rfl rfl rfl (fun hb55=> .step (aa rfl) rfl rfl<| .step (aa rfl) rfl rfl<| .done) rfl rfl ?_
    refine gw 58 rfl (fun hc58=>?_) (fun hc58=>?_)
    ·skip
     refine aj rfl (aF false rfl (.cons (.pure pu) (.cons (.pure pu) .nil)) (fS 351) pu (.inl rfl) rfl ?_)
     refine ah<|ae<|af<|ai<|s1 (aa rfl) rfl<|s1 (aa rfl) rfl<|s1 (a7 Tryz.underlying24 rfl rfl rfl) rfl<|s1 (aa rfl) rfl<|s1 (aa rfl) rfl ?_
     refine aj rfl (aF false rfl (.cons (.pure pu) (.nil)) (GQ c (by omega)) pu (.inl rfl) rfl ?_)
     refine s1 (eE (out:=_) [[aQ (.int .i64 0)], [aQ (.int .i64 0)], [aQ (.int .i64 0)], [aQ (.slice none 0 0)],(List.replicate 32 (.int .u8 0)).map aQ,(List.replicate 32 (.int .u8 0)).map aQ, [aQ (.int .i64 0),aQ (.slice none 0 0),aQ (.slice none 0 0)]] bu rfl Tryz.underlying45 (by kernel_rfl) rfl rfl ⟨⟨by(first|rfl|omega|(simp;done)|(simp [*];done)|(simp [aU, *];done)),rfl⟩,⟨⟨by(first|rfl|omega|(simp;done)|(simp [*];done)|(simp [aU, *];done)),rfl⟩,⟨⟨by(first|rfl|omega|(simp;done)|(simp [*];done)|(simp [aU, *];done)),rfl⟩,⟨⟨by(first|rfl|omega|(simp;done)|(simp [*];done)|(simp [aU, *];done)),rfl⟩,trivial⟩⟩⟩⟩ rfl) rfl ?_
     refine aj rfl (bg 18 rfl bu rfl rfl ?_)
     refine aj rfl (ba bu rfl rfl rfl rfl rfl ?_)
     refine ah<|ae<|af<|af ?_
     refine cI 18 (cs':=fa iss (l.length:Nat) day c zD zD) rfl rfl ?_
     refine ai<|s1 (aa rfl) rfl<|s1 (a7 Tryz.underlying24 rfl rfl rfl) rfl<|s1 (aa rfl) rfl ?_
     refine ah<|ae ?_
     refine aK rfl (fun hc69=>?_) (fun hc69=>?_)
     ·have h69 : 0 < l.length := by have := of_decide_eq_true hc69; omega
      obtain⟨e,he⟩:∃e,l[l.length - 1]? =some e:=⟨_,List.getElem?_eq_getElem (by omega)⟩
      have hok:=hl e (List.mem_of_getElem? he)
      obtain⟨hlb,hld⟩:=Ju (iss:=iss) (day:=day) he
      refine af<|ai<|s1 (aa rfl) rfl<|s1 (aa rfl) rfl<|s1 (a7 Tryz.underlying24 rfl rfl rfl) rfl<|s1 (eD _ 1 rfl rfl rfl rfl (by omega) (by omega)) rfl<|s1 (bb (l.length - 1) Tryz.underlying24 bu rfl rfl rfl (by omega) rfl) rfl<|s1 (bp bu rfl rfl (gh hl he) hok.len) rfl ?_
      refine aj rfl (bg 19 rfl bu rfl rfl ?_)
      refine aj rfl (ba bu rfl rfl rfl hok.len (by simp) ?_)
      refine ah<|ae<|af<|ai<|s1 (aa rfl) rfl<|s1 (aD Tryz.underlying45 rfl an (by decide) rfl rfl) rfl<|s1 (au an rfl rfl rfl) rfl<|s1 (aa rfl) rfl<|s1 (aa rfl) rfl ?_
      refine cT 4 rfl rfl rfl rfl (fun hb80=> .step (aa rfl) rfl rfl<| .step (aD Tryz.underlying45 rfl an (by decide) rfl rfl) rfl rfl<| .step (au an rfl rfl rfl) rfl rfl<| .step (aa rfl) rfl rfl<| .done) rfl rfl ?_
      refine gw 85 rfl (fun hc85=>?_) (fun hc85=>?_)
      ·skip
       refine aj rfl (aF false rfl (.cons (.pure pu) (.cons (.pure pu) .nil)) (fS 351) pu (.inl rfl) rfl ?_)
       refine ah<|ae<|ai<|s1 (aG bu rfl rfl hok.len) rfl ?_
       refine aj rfl (aF false rfl (.cons (.pure pu) (.nil)) (lq e hok) pu (.inl rfl) rfl ?_)
       refine s1 (aD Tryz.underlying45 rfl ar (by decide) rfl rfl) rfl ?_
       refine aj rfl (iD ar rfl rfl rfl rfl rfl (show((bR e).map u8).length=32 by simp) (by rw [xF rfl rfl];decide) (KC rfl rfl) ?_)
       refine ah<|ae<|af ?_
       rcases mI (dJ σ (-1) c)with hcs|hcs
       ·have hk := hcs
        refine cI 18 (cs':=fa iss (l.length:Nat) day c zD (iO l)) rfl (by rw [hld]) ?_
        refine ai<|s1 (aa rfl) rfl<|s1 (aa rfl) rfl ?_
        refine eS ⟨[(700,some [.mc b39 (mapOf σ)])]⟩ false rfl ⟨⟨rfl,aW.pure ak⟩,trivial⟩ (.cons (.pure pu) (.cons (.pure pu) .nil)) (wC (by simp only [maxLen];omega) hk) (fun u hu=>?_)
        refine bJ ?_
        refine jQ ⟨[(14,some [.nl]),(15,some [.i .i64 0])]⟩ hdf hS jS ⟨⟨rfl,aW.pure ak⟩,⟨rfl,aW.pure ak⟩,trivial⟩ (.cons (.kp rfl) (.cons (.kp rfl) .nil)) (lu _ _ 351) (hu.2) (kY rfl rfl ak ak) rfl (dr fw rfl rfl rfl (dr bV rfl rfl rfl az)) ?_
        rw [j6 hsz hf h0 h43 (.inr (.inr (.inl hk)))];rfl
       ·have hk := hcs
        refine cI 18 (cs':=fa iss (l.length:Nat) day c zD (iO l)) rfl (by rw [hld]) ?_
        refine ai<|s1 (aa rfl) rfl<|s1 (aa rfl) rfl ?_
        refine aj rfl (oV ⟨[(700,some [.mc b39 (mapOf σ)])]⟩ [(700, [.mc b39 (mapOf (aX σ c))])] false rfl ⟨⟨rfl,aW.pure ak⟩,trivial⟩ (.cons (.pure pu) (.cons (.pure pu) .nil)) (wA (by simp only [maxLen];omega) hk) pu (.inl rfl) (fun p hp=>by rw [List.mem_singleton.1 hp];exact⟨⟨_,rfl⟩,ak,.inl rfl⟩) rfl ?_)
        refine ah<|ae<|af ?_
        rcases mI (fN (aX σ c) ids)with hcs|hcs
        ·have hs := hcs
         refine ai<|s1 (aa rfl) rfl<|s1 (aa rfl) rfl ?_
         refine eS ⟨[(700,some [.mc b39 (mapOf (aX σ c))])]⟩ false rfl ⟨⟨rfl,aW.pure ak⟩,trivial⟩ (.cons (.pure pu) (.cons (.pure pu) .nil)) (Eu (pL hsup (by omega) hk) (by omega) hs) (fun u hu=>?_)
         refine bJ ?_
         refine jQ ⟨[(14,some [.nl]),(15,some [.i .i64 0])]⟩ hdf hS jS ⟨⟨rfl,aW.pure ak⟩,⟨rfl,aW.pure ak⟩,trivial⟩ (.cons (.kp rfl) (.cons (.kp rfl) .nil)) (lu _ _ 351) (hu.2) (kY rfl rfl ak ak) rfl (dr fw rfl rfl rfl (dr bV rfl rfl rfl az)) ?_
         rw [j6 hsz hf h0 h43 (.inr (.inr (.inr hs)))];rfl
        ·have hs := hcs
         have hlis:=Eo hs
         have hbl:=xm (aX σ c) ids
         have hgl:=xp (aX σ c) ids
         obtain⟨hbE,hbF⟩:=zO (x:=mC x l.length) (p:=(dR (aX σ c) ids)) (q:=(fh (aX σ c) ids)) (by omega) (by omega)
         have hok0:(eP x l iss day ids c (aX σ c)).ok:=CO hn hi hd hc hcr
         have hokN:(eY x k l iss day ids c (aX σ c)).ok:=qS hn hi hd hc hcr
         have hlt:l.length<k:=by omega
         have hNl:=hokN.len
         refine ai<|s1 (aa rfl) rfl<|s1 (aa rfl) rfl ?_
         refine aj rfl (oV ⟨[(700,some [.mc b39 (mapOf (aX σ c))])]⟩ [] false rfl ⟨⟨rfl,aW.pure ak⟩,trivial⟩ (.cons (.pure pu) (.cons (.pure pu) .nil)) (Et (pL hsup (by omega) hk) (by omega) hs) pu (.inl rfl) (fun p hp=>by cases hp) rfl ?_)
         refine s1 (aa rfl) rfl<|s1 (aa rfl) rfl<|s1 (aa rfl) rfl<|s1 (aa rfl) rfl<|s1 (aa rfl) rfl ?_
         refine ah<|ae<|af ?_
         refine fe 7 rfl rfl ak ?_
         refine cr ⟨_, [], []⟩ 8 4 br (le_refl rfl) ?_
         refine aq 0 [] [] ((nQ (ds:=((x.map u8).drop (0*1)).take (32*1)) 32 Tryz.underlying23 aR rfl (by simp [maxLen]) bn bn (Nat.zero_le _) (Nat.le_refl _) (by simp [hx]) rfl rfl).v (v8 hx)) rfl rfl ?_
         refine na 100 false 1 [0] [] aV rfl (.cons (.pure pu) (.nil)) (wO x (by omega) (by omega)) ak (.inl rfl) rfl rfl ?_
         refine aq 2 [] [(18,none)] (aD Tryz.underlying45 rfl an (by decide) rfl rfl) rfl rfl ?_
         refine aq 3 [2] [(18,none)] (au an rfl rfl rfl) rfl rfl ?_
         refine bL false 4 [3] [] aV rfl (.cons (.pure pu) (.nil)) (BD (l.length:Nat)) pu (.inl rfl) rfl rfl ?_
         refine gV 104 5 [1,4] [(100,some 1)] aV Tryz.underlying68 aR rfl (.sl rfl (by simp)) rfl rfl (by simp) (by simp only [maxLen];omega) (by omega) rfl (List.map_append (l₁:=x) (l₂:=eC (l.length:Nat) 4)).symm rfl rfl ?_
         refine bL true 6 [5] [(104,some 5)] aV rfl (.cons (.pure pu) (.cons (.sl rfl rfl (by simp [hx]) (cm (by simp [hx]) rfl) (aW.pure ak) ak) .nil)) (aw.cast (ib uH (x++eC (l.length:Nat) 4) (by simp [hx]) (by decide)) (congrArg (fun l:List UInt8=>A.ag (l.map u8)) (ye x l.length).symm)) pu (.inr fu) rfl rfl ?_
         refine BI 22 7 [] aV ar rfl rfl rfl ?_
         refine ct (by kernel_rfl) ?_
         refine aj rfl (ba ar rfl rfl rfl (by first|rfl|omega|(simp<;>omega)|(simp [*]<;>omega)) (by first|rfl|omega|(simp<;>omega)|(simp [*]<;>omega)) ?_)
         refine ah<|ae<|af<|ai<|s1 (aG ar rfl rfl (by simp)) rfl<|s1 (aa rfl) rfl<|s1 (aa rfl) rfl ?_
         refine aj rfl (aF false rfl (.cons (.pure pu) (.cons (.pure pu) (.cons (.pure pu) (.nil)))) (aw.cast (zS (mC x l.length) (by simp) (dR (aX σ c) ids) (fh (aX σ c) ids) (by omega) (by omega)) (sy (tY hlis))) pu (.inl rfl) rfl ?_)
         refine s1 (aa rfl) rfl<|s1 (aa rfl) rfl<|s1 (aa rfl) rfl ?_
         refine aj rfl (bg 23 rfl dZ rfl rfl ?_)
         refine aj rfl (ba dZ rfl rfl rfl (gf (c:=(jg x l.length (aX σ c) ids)) (oT _ _)) rfl ?_)
         refine aj rfl (bX bV rfl rfl rfl rfl (by first|rfl|omega|(simp<;>omega)|(simp [*]<;>omega)) rfl ?_)
         refine ah<|ae<|af<|ai<|s1 (au bV rfl rfl rfl) rfl<|s1 ((aa rfl).v (v':= .b true) (rfl)) rfl<|s1 (au bV rfl rfl rfl) rfl ?_
         refine aj rfl (aF false rfl (.cons (.pure pu) (.cons (.pure pu) .nil)) (fS 0) pu (.inl rfl) rfl ?_)
         refine ah<|ae<|af<|ai<|s1 (aG dZ rfl rfl (gf (c:=(jg x l.length (aX σ c) ids)) (oT _ _))) rfl ?_
         refine aj rfl (aF false rfl (.cons (.pure pu) (.nil)) (aw.cast (zU (jg x l.length (aX σ c) ids) (oT _ _) (show(jg x l.length (aX σ c) ids).E.length≤maxLen by simp only [maxLen];exact Nat.le_trans hbE (by decide))) (wx (Ac (tY hlis)))) pu (.inl rfl) rfl ?_)
         refine s1 (aa rfl) rfl<|s1 (aa rfl) rfl<|s1 (aa rfl) rfl<|s1 (aD Tryz.underlying45 rfl ar (by decide) rfl rfl) rfl ?_
         refine aj rfl (iD ar rfl rfl rfl rfl rfl (show((lj (jg x l.length (aX σ c) ids)).map u8).length=32 by simp) (by rw [xF rfl (tG _)];decide) (CZ rfl) ?_)
         refine aj rfl (bX bV rfl rfl rfl rfl (by first|rfl|omega|(simp<;>omega)|(simp [*]<;>omega)) rfl ?_)
         refine ah<|ae<|af<|ai<|s1 (au bV rfl rfl rfl) rfl<|s1 ((aa rfl).v (v':= .b true) (rfl)) rfl<|s1 (au bV rfl rfl rfl) rfl ?_
         refine aj rfl (aF false rfl (.cons (.pure pu) (.cons (.pure pu) .nil)) (fS 0) pu (.inl rfl) rfl ?_)
         refine ah<|ae<|af ?_
         refine iM 18 rfl C1 ?_
         refine cr ⟨_, [], []⟩ 12 4 br (le_refl rfl) ?_
         refine aq 0 [] [] (bp ar rfl rfl (List.take_of_length_le (by simp [hx])) (by simp [hx])) rfl rfl ?_
         refine aq 1 [] [] (aa rfl) rfl rfl ?_
         refine aq 2 [] [(18,none)] (aD Tryz.underlying45 rfl an (by decide) rfl rfl) rfl rfl ?_
         refine aq 3 [2] [(18,none)] (au an rfl rfl rfl) rfl rfl ?_
         refine aq 4 [] [(18,none)] (aG bu rfl rfl hok0.len) rfl rfl ?_
         refine bL false 5 [4] [] aV rfl (.cons (.pure pu) (.nil)) (lq (eP x l iss day ids c (aX σ c)) hok0) pu (.inl rfl) rfl rfl ?_
         refine bL false 6 [0,1,3,5] [] aV rfl (.cons (.pure pu) (.cons (.pure pu) (.cons (.pure pu) (.cons (.pure pu) (.nil))))) (aw.cast (Eg x k (l.length:Nat) (bR (eP x l iss day ids c (aX σ c))) hx (by simp) hsz) (ym hsz hlt)) pu (.inl rfl) rfl rfl ?_
         refine aq 7 [6] [] (aa rfl) rfl rfl ?_
         refine aq 8 [7] [] (aa rfl) rfl rfl ?_
         refine aq 9 [7] [] (aa rfl) rfl rfl ?_
         refine aq 10 [] [(18,none)] (aD Tryz.underlying45 rfl c4 (by decide) rfl rfl) rfl rfl ?_
         refine w9 0 11 [8,10] [(18,none)] rfl aV c4 rfl rfl rfl rfl rfl rfl (by rw [hok0.len];decide) (show _=(eY x k l iss day ids c (aX σ c)).cells from C0 (s:=⟨(l.length:Nat),eT (b7 x (l.length:Nat)) (bR (eP x l iss day ids c (aX σ c))),path (dq x k) l.length⟩) hok0) rfl ?_
         refine ct (by kernel_rfl) ?_
         refine aj rfl (bX bV rfl rfl rfl rfl (by first|rfl|omega|(simp<;>omega)|(simp [*]<;>omega)) rfl ?_)
         refine ah<|ae<|af<|ai<|s1 (au bV rfl rfl rfl) rfl<|s1 ((aa rfl).v (v':= .b true) (rfl)) rfl<|s1 (au bV rfl rfl rfl) rfl ?_
         refine aj rfl (aF false rfl (.cons (.pure pu) (.cons (.pure pu) .nil)) (fS 0) pu (.inl rfl) rfl ?_)
         refine ah<|ae<|af ?_
         refine cr ⟨_, [], []⟩ 5 4 br (le_refl rfl) ?_
         refine aq 0 [] [] (aa rfl) rfl rfl ?_
         refine na 143 false 1 [0] [] aV rfl (.cons (.pure pu) (.nil)) (As l hl (by omega)) ak (.inl rfl) rfl rfl ?_
         refine aq 2 [] [(18,none)] (aG bu rfl rfl hokN.len) rfl rfl ?_
         refine kE 145 3 [2] aV Tryz.underlying24 bu rfl rfl rfl (by simp [aU,hokN.len]) (show aU (A.ag (eY x k l iss day ids c (aX σ c)).cells)++ []=(eY x k l iss day ids c (aX σ c)).cells from List.append_nil _) rfl rfl rfl rfl ?_
         refine gV 146 4 [1,3] [(143,some 1),(145,some 3)] aV Tryz.underlying24 bu rfl (.sl rfl (by rw [mn hl])) rfl (c8 rfl (by first|rfl|omega|(simp<;>omega)|(simp [*]<;>omega))) (by rw [hokN.len]) (by simp only [maxLen];omega) (by omega) rfl (Ba l (eY x k l iss day ids c (aX σ c))) rfl rfl ?_
         refine ct (by kernel_rfl) ?_
         refine aj rfl (bX fw rfl rfl rfl rfl (by first|rfl|omega|(simp<;>omega)|(simp [*]<;>omega)) rfl ?_)
         refine aj rfl (bX bV rfl rfl rfl rfl (by first|rfl|omega|(simp<;>omega)|(simp [*]<;>omega)) rfl ?_)
         refine ah<|ae<|aB ?_
         refine jP 14 0 rfl rfl rfl rfl ak (cm (by rw [mn (wK hl hokN),List.length_append];rfl) rfl) rfl ?_
         refine sm hdf hS jS Bc rfl (dr fw rfl rfl rfl (dr bV rfl rfl rfl az)) ?_
         rw [qW hsz hf h0 h43 hc58 (hlb.trans hc85) hk hs];exact congrArg (fun n=>A.tu [.fz n (cZ (l++ [(eY x k l iss day ids c (aX σ c))])),.i .i64 0]) (show l.length+1=(l++ [(eY x k l iss day ids c (aX σ c))]).length by simp)
      ·skip
       refine eS ⟨[]⟩ false rfl trivial (.cons (.pure pu) (.cons (.pure pu) .nil)) (iw 351) (fun u hu=>?_)
       refine bJ ?_
       refine bJ ?_
       refine jQ ⟨[(14,some [.nl]),(15,some [.i .i64 0])]⟩ hdf hS jS ⟨⟨rfl,aW.pure ak⟩,⟨rfl,aW.pure ak⟩,trivial⟩ (.cons (.kp rfl) (.cons (.kp rfl) .nil)) (lu _ _ 351) (hu) (kY rfl rfl ak ak) rfl (dr fw rfl rfl rfl (dr bV rfl rfl rfl az)) ?_
       rw [j6 hsz hf h0 h43 (.inr (.inl (hlb.trans hc85)))];rfl
     ·have h69 : l = [] := List.length_eq_zero_iff.1 (by have := of_decide_eq_false hc69; omega)
      obtain⟨hlb,hld⟩:=Jv (iss:=iss) (day:=day) h69
      refine aE<|ae<|af ?_
      rcases mI (dJ σ (-1) c)with hcs|hcs
      ·have hk := hcs
       refine cI 18 (cs':=fa iss (l.length:Nat) day c zD (iO l)) rfl (by rw [hld]) ?_
       refine ai<|s1 (aa rfl) rfl<|s1 (aa rfl) rfl ?_
       refine eS ⟨[(700,some [.mc b39 (mapOf σ)])]⟩ false rfl ⟨⟨rfl,aW.pure ak⟩,trivial⟩ (.cons (.pure pu) (.cons (.pure pu) .nil)) (wC (by simp only [maxLen];omega) hk) (fun u hu=>?_)
       refine bJ ?_
       refine jQ ⟨[(14,some [.nl]),(15,some [.i .i64 0])]⟩ hdf hS jS ⟨⟨rfl,aW.pure ak⟩,⟨rfl,aW.pure ak⟩,trivial⟩ (.cons (.kp rfl) (.cons (.kp rfl) .nil)) (lu _ _ 351) (hu.2) (kY rfl rfl ak ak) rfl (dr fw rfl rfl rfl (dr bV rfl rfl rfl az)) ?_
       rw [j6 hsz hf h0 h43 (.inr (.inr (.inl hk)))];rfl
      ·have hk := hcs
       refine cI 18 (cs':=fa iss (l.length:Nat) day c zD (iO l)) rfl (by rw [hld]) ?_
       refine ai<|s1 (aa rfl) rfl<|s1 (aa rfl) rfl ?_
       refine aj rfl (oV ⟨[(700,some [.mc b39 (mapOf σ)])]⟩ [(700, [.mc b39 (mapOf (aX σ c))])] false rfl ⟨⟨rfl,aW.pure ak⟩,trivial⟩ (.cons (.pure pu) (.cons (.pure pu) .nil)) (wA (by simp only [maxLen];omega) hk) pu (.inl rfl) (fun p hp=>by rw [List.mem_singleton.1 hp];exact⟨⟨_,rfl⟩,ak,.inl rfl⟩) rfl ?_)
       refine ah<|ae<|af ?_
       rcases mI (fN (aX σ c) ids)with hcs|hcs
       ·have hs := hcs
        refine ai<|s1 (aa rfl) rfl<|s1 (aa rfl) rfl ?_
        refine eS ⟨[(700,some [.mc b39 (mapOf (aX σ c))])]⟩ false rfl ⟨⟨rfl,aW.pure ak⟩,trivial⟩ (.cons (.pure pu) (.cons (.pure pu) .nil)) (Eu (pL hsup (by omega) hk) (by omega) hs) (fun u hu=>?_)
        refine bJ ?_
        refine jQ ⟨[(14,some [.nl]),(15,some [.i .i64 0])]⟩ hdf hS jS ⟨⟨rfl,aW.pure ak⟩,⟨rfl,aW.pure ak⟩,trivial⟩ (.cons (.kp rfl) (.cons (.kp rfl) .nil)) (lu _ _ 351) (hu.2) (kY rfl rfl ak ak) rfl (dr fw rfl rfl rfl (dr bV rfl rfl rfl az)) ?_
        rw [j6 hsz hf h0 h43 (.inr (.inr (.inr hs)))];rfl
       ·have hs := hcs
        have hlis:=Eo hs
        have hbl:=xm (aX σ c) ids
        have hgl:=xp (aX σ c) ids
        obtain⟨hbE,hbF⟩:=zO (x:=mC x l.length) (p:=(dR (aX σ c) ids)) (q:=(fh (aX σ c) ids)) (by omega) (by omega)
        have hok0:(eP x l iss day ids c (aX σ c)).ok:=CO hn hi hd hc hcr
        have hokN:(eY x k l iss day ids c (aX σ c)).ok:=qS hn hi hd hc hcr
        have hlt:l.length<k:=by omega
        have hNl:=hokN.len
        refine ai<|s1 (aa rfl) rfl<|s1 (aa rfl) rfl ?_
        refine aj rfl (oV ⟨[(700,some [.mc b39 (mapOf (aX σ c))])]⟩ [] false rfl ⟨⟨rfl,aW.pure ak⟩,trivial⟩ (.cons (.pure pu) (.cons (.pure pu) .nil)) (Et (pL hsup (by omega) hk) (by omega) hs) pu (.inl rfl) (fun p hp=>by cases hp) rfl ?_)
        refine s1 (aa rfl) rfl<|s1 (aa rfl) rfl<|s1 (aa rfl) rfl<|s1 (aa rfl) rfl<|s1 (aa rfl) rfl ?_
        refine ah<|ae<|af ?_
        refine fe 7 rfl rfl ak ?_
        refine cr ⟨_, [], []⟩ 8 4 br (le_refl rfl) ?_
        refine aq 0 [] [] ((nQ (ds:=((x.map u8).drop (0*1)).take (32*1)) 32 Tryz.underlying23 aR rfl (by simp [maxLen]) bn bn (Nat.zero_le _) (Nat.le_refl _) (by simp [hx]) rfl rfl).v (v8 hx)) rfl rfl ?_
        refine na 100 false 1 [0] [] aV rfl (.cons (.pure pu) (.nil)) (wO x (by omega) (by omega)) ak (.inl rfl) rfl rfl ?_
        refine aq 2 [] [(18,none)] (aD Tryz.underlying45 rfl an (by decide) rfl rfl) rfl rfl ?_
        refine aq 3 [2] [(18,none)] (au an rfl rfl rfl) rfl rfl ?_
        refine bL false 4 [3] [] aV rfl (.cons (.pure pu) (.nil)) (BD (l.length:Nat)) pu (.inl rfl) rfl rfl ?_
        refine gV 104 5 [1,4] [(100,some 1)] aV Tryz.underlying68 aR rfl (.sl rfl (by simp)) rfl rfl (by simp) (by simp only [maxLen];omega) (by omega) rfl (List.map_append (l₁:=x) (l₂:=eC (l.length:Nat) 4)).symm rfl rfl ?_
        refine bL true 6 [5] [(104,some 5)] aV rfl (.cons (.pure pu) (.cons (.sl rfl rfl (by simp [hx]) (cm (by simp [hx]) rfl) (aW.pure ak) ak) .nil)) (aw.cast (ib uH (x++eC (l.length:Nat) 4) (by simp [hx]) (by decide)) (congrArg (fun l:List UInt8=>A.ag (l.map u8)) (ye x l.length).symm)) pu (.inr fu) rfl rfl ?_
        refine BI 22 7 [] aV ar rfl rfl rfl ?_
        refine ct (by kernel_rfl) ?_
        refine aj rfl (ba ar rfl rfl rfl (by first|rfl|omega|(simp<;>omega)|(simp [*]<;>omega)) (by first|rfl|omega|(simp<;>omega)|(simp [*]<;>omega)) ?_)
        refine ah<|ae<|af<|ai<|s1 (aG ar rfl rfl (by simp)) rfl<|s1 (aa rfl) rfl<|s1 (aa rfl) rfl ?_
        refine aj rfl (aF false rfl (.cons (.pure pu) (.cons (.pure pu) (.cons (.pure pu) (.nil)))) (aw.cast (zS (mC x l.length) (by simp) (dR (aX σ c) ids) (fh (aX σ c) ids) (by omega) (by omega)) (sy (tY hlis))) pu (.inl rfl) rfl ?_)
        refine s1 (aa rfl) rfl<|s1 (aa rfl) rfl<|s1 (aa rfl) rfl ?_
        refine aj rfl (bg 23 rfl dZ rfl rfl ?_)
        refine aj rfl (ba dZ rfl rfl rfl (gf (c:=(jg x l.length (aX σ c) ids)) (oT _ _)) rfl ?_)
        refine aj rfl (bX bV rfl rfl rfl rfl (by first|rfl|omega|(simp<;>omega)|(simp [*]<;>omega)) rfl ?_)
        refine ah<|ae<|af<|ai<|s1 (au bV rfl rfl rfl) rfl<|s1 ((aa rfl).v (v':= .b true) (rfl)) rfl<|s1 (au bV rfl rfl rfl) rfl ?_
        refine aj rfl (aF false rfl (.cons (.pure pu) (.cons (.pure pu) .nil)) (fS 0) pu (.inl rfl) rfl ?_)
        refine ah<|ae<|af<|ai<|s1 (aG dZ rfl rfl (gf (c:=(jg x l.length (aX σ c) ids)) (oT _ _))) rfl ?_
        refine aj rfl (aF false rfl (.cons (.pure pu) (.nil)) (aw.cast (zU (jg x l.length (aX σ c) ids) (oT _ _) (show(jg x l.length (aX σ c) ids).E.length≤maxLen by simp only [maxLen];exact Nat.le_trans hbE (by decide))) (wx (Ac (tY hlis)))) pu (.inl rfl) rfl ?_)
        refine s1 (aa rfl) rfl<|s1 (aa rfl) rfl<|s1 (aa rfl) rfl<|s1 (aD Tryz.underlying45 rfl ar (by decide) rfl rfl) rfl ?_
        refine aj rfl (iD ar rfl rfl rfl rfl rfl (show((lj (jg x l.length (aX σ c) ids)).map u8).length=32 by simp) (by rw [xF rfl (tG _)];decide) (CZ rfl) ?_)
        refine aj rfl (bX bV rfl rfl rfl rfl (by first|rfl|omega|(simp<;>omega)|(simp [*]<;>omega)) rfl ?_)
        refine ah<|ae<|af<|ai<|s1 (au bV rfl rfl rfl) rfl<|s1 ((aa rfl).v (v':= .b true) (rfl)) rfl<|s1 (au bV rfl rfl rfl) rfl ?_
        refine aj rfl (aF false rfl (.cons (.pure pu) (.cons (.pure pu) .nil)) (fS 0) pu (.inl rfl) rfl ?_)
        refine ah<|ae<|af ?_
        refine iM 18 rfl C1 ?_
        refine cr ⟨_, [], []⟩ 12 4 br (le_refl rfl) ?_
        refine aq 0 [] [] (bp ar rfl rfl (List.take_of_length_le (by simp [hx])) (by simp [hx])) rfl rfl ?_
        refine aq 1 [] [] (aa rfl) rfl rfl ?_
        refine aq 2 [] [(18,none)] (aD Tryz.underlying45 rfl an (by decide) rfl rfl) rfl rfl ?_
        refine aq 3 [2] [(18,none)] (au an rfl rfl rfl) rfl rfl ?_
        refine aq 4 [] [(18,none)] (aG bu rfl rfl hok0.len) rfl rfl ?_
        refine bL false 5 [4] [] aV rfl (.cons (.pure pu) (.nil)) (lq (eP x l iss day ids c (aX σ c)) hok0) pu (.inl rfl) rfl rfl ?_
        refine bL false 6 [0,1,3,5] [] aV rfl (.cons (.pure pu) (.cons (.pure pu) (.cons (.pure pu) (.cons (.pure pu) (.nil))))) (aw.cast (Eg x k (l.length:Nat) (bR (eP x l iss day ids c (aX σ c))) hx (by simp) hsz) (ym hsz hlt)) pu (.inl rfl) rfl rfl ?_
        refine aq 7 [6] [] (aa rfl) rfl rfl ?_
        refine aq 8 [7] [] (aa rfl) rfl rfl ?_
        refine aq 9 [7] [] (aa rfl) rfl rfl ?_
        refine aq 10 [] [(18,none)] (aD Tryz.underlying45 rfl c4 (by decide) rfl rfl) rfl rfl ?_
        refine w9 0 11 [8,10] [(18,none)] rfl aV c4 rfl rfl rfl rfl rfl rfl (by rw [hok0.len];decide) (show _=(eY x k l iss day ids c (aX σ c)).cells from C0 (s:=⟨(l.length:Nat),eT (b7 x (l.length:Nat)) (bR (eP x l iss day ids c (aX σ c))),path (dq x k) l.length⟩) hok0) rfl ?_
        refine ct (by kernel_rfl) ?_
        refine aj rfl (bX bV rfl rfl rfl rfl (by first|rfl|omega|(simp<;>omega)|(simp [*]<;>omega)) rfl ?_)
        refine ah<|ae<|af<|ai<|s1 (au bV rfl rfl rfl) rfl<|s1 ((aa rfl).v (v':= .b true) (rfl)) rfl<|s1 (au bV rfl rfl rfl) rfl ?_
        refine aj rfl (aF false rfl (.cons (.pure pu) (.cons (.pure pu) .nil)) (fS 0) pu (.inl rfl) rfl ?_)
        refine ah<|ae<|af ?_
        refine cr ⟨_, [], []⟩ 5 4 br (le_refl rfl) ?_
        refine aq 0 [] [] (aa rfl) rfl rfl ?_
        refine na 143 false 1 [0] [] aV rfl (.cons (.pure pu) (.nil)) (As l hl (by omega)) ak (.inl rfl) rfl rfl ?_
        refine aq 2 [] [(18,none)] (aG bu rfl rfl hokN.len) rfl rfl ?_
        refine kE 145 3 [2] aV Tryz.underlying24 bu rfl rfl rfl (by simp [aU,hokN.len]) (show aU (A.ag (eY x k l iss day ids c (aX σ c)).cells)++ []=(eY x k l iss day ids c (aX σ c)).cells from List.append_nil _) rfl rfl rfl rfl ?_
        refine gV 146 4 [1,3] [(143,some 1),(145,some 3)] aV Tryz.underlying24 bu rfl (.sl rfl (by rw [mn hl])) rfl (c8 rfl (by first|rfl|omega|(simp<;>omega)|(simp [*]<;>omega))) (by rw [hokN.len]) (by simp only [maxLen];omega) (by omega) rfl (Ba l (eY x k l iss day ids c (aX σ c))) rfl rfl ?_
        refine ct (by kernel_rfl) ?_
        refine aj rfl (bX fw rfl rfl rfl rfl (by first|rfl|omega|(simp<;>omega)|(simp [*]<;>omega)) rfl ?_)
        refine aj rfl (bX bV rfl rfl rfl rfl (by first|rfl|omega|(simp<;>omega)|(simp [*]<;>omega)) rfl ?_)
        refine ah<|ae<|aB ?_
        refine jP 14 0 rfl rfl rfl rfl ak (cm (by rw [mn (wK hl hokN),List.length_append];rfl) rfl) rfl ?_
        refine sm hdf hS jS Bc rfl (dr fw rfl rfl rfl (dr bV rfl rfl rfl az)) ?_
        rw [qW hsz hf h0 h43 hc58 (hlb) hk hs];exact congrArg (fun n=>A.tu [.fz n (cZ (l++ [(eY x k l iss day ids c (aX σ c))])),.i .i64 0]) (show l.length+1=(l++ [(eY x k l iss day ids c (aX σ c))]).length by simp)
    ·skip
     refine eS ⟨[]⟩ false rfl trivial (.cons (.pure pu) (.cons (.pure pu) .nil)) (iw 351) (fun u hu=>?_)
     refine bJ ?_
     refine jQ ⟨[(14,some [.nl]),(15,some [.i .i64 0])]⟩ hdf hS jS ⟨⟨rfl,aW.pure ak⟩,⟨rfl,aW.pure ak⟩,trivial⟩ (.cons (.kp rfl) (.cons (.kp rfl) .nil)) (lu _ _ 351) (hu) (kY rfl rfl ak ak) rfl (dr fw rfl rfl rfl (dr bV rfl rfl rfl az)) ?_
     rw [j6 hsz hf h0 h43 (.inl hc58)];rfl
   ·have h43 : (l.length : Int) = (k : Int) := by simpa using hc43
    refine eS ⟨[]⟩ false rfl trivial (.cons (.pure pu) (.cons (.pure pu) .nil)) (iw 2) (fun u hu=>?_)
    refine bJ ?_
    refine jQ ⟨[(14,some [.nl]),(15,some [.i .i64 0])]⟩ hdf hS jS ⟨⟨rfl,aW.pure ak⟩,⟨rfl,aW.pure ak⟩,trivial⟩ (.cons (.kp rfl) (.cons (.kp rfl) .nil)) (lu _ _ 2) (hu) (kY rfl rfl ak ak) rfl (dr fw rfl rfl rfl (dr bV rfl rfl rfl az)) ?_
    rw [xS hsz hf h0 h43];rfl
end Go.Abs.D2
