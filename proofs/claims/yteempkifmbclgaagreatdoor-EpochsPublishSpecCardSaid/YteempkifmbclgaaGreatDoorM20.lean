/-
  The engine, the plain laws and the walks that the rows need, part 20. Conditions: none.
-/
import Derived.Test.YteempkifmbclgaaGreatDoorM19
set_option linter.unusedVariables false
set_option linter.unusedSimpArgs false
set_option maxHeartbeats 1000000
set_option maxRecDepth 10000
-- F3E
namespace Go.Abs.D2
open Go Go.Eng Go.Abs Go.Proofs
theorem uo (D:List UInt8) (k:Nat) (hk:k / 8<D.length) (hD:D.length≤1000000):bU Tryz.prog 191 [eU D,nJ k] (cl (.b (fH D k))):=by
 refine enter Tryz.func191 rfl Tryz.ntmps191 aw (Nat.le_of_ble_eq_true rfl) fun w0 X0 hI=>?_
 refine aa [645,660,280] ?_
 refine s1 (cf (k / 8) Tryz.underlying68 cr rfl rfl rfl hk rfl) rfl <| s1 (bM cr rfl rfl (z7 hk)) rfl ?_
 refine aa [277,690] ?_
 refine c5 (ι:=Nat) (fun i=> [(1,nJ k),(5,nJ ((D.getD (k / 8) 0).toNat / 2 ^ i)),(6,nJ i)]) (fun i=>⟨[]⟩) (fun i=>i≤k % 8) (fun i=>k % 8 - i) ?_ ?_
 ·exact c4 (0) (Nat.zero_le _) [] hI rfl rfl ⟨⟨_,rfl,.pure pu⟩,⟨_,rfl,.of (congrArg nJ (div_zero _)) (.pure pu)⟩,⟨_,rfl,.pure pu⟩,trivial⟩ trivial
 rintro i hi
 have hb:=(D.getD (k / 8) 0).toNat_lt
 have hb2:(D.getD (k / 8) 0).toNat / 2 ^ i≤(D.getD (k / 8) 0).toNat:=Nat.div_le_self _ _
 refine aa [674] ?_
 refine s1 (iS k 8 rfl rfl rfl rfl aq) rfl ?_
 refine aa [646] ?_
 refine cm rfl (fun hc16=>?_) (fun hc16=>?_)
 ·have h16 : i < k % 8 := by have := of_decide_eq_true hc16; omega
  refine aa [655,649] ?_
  refine s1 (iR _ 2 rfl rfl rfl rfl aq aq) rfl ?_
  refine aa [686] ?_
  exact cO (i+1) aq aq [] hI rfl rfl ⟨⟨_,rfl,.pure pu⟩,⟨_,rfl,.of (congrArg nJ (Kq _ i)) (.pure pu)⟩,⟨_,rfl,.pure pu⟩,trivial⟩ trivial
 ·have h16 : i = k % 8 := by have := of_decide_eq_false hc16; omega
  subst h16
  refine aa [722] ?_
  refine s1 (iS _ 2 rfl rfl rfl rfl aq) rfl <| s1 ((bE rfl).v (v':= .b (fH D k)) (congrArg A.b (Ob _ _))) rfl ?_
  refine aa [650] ?_
  refine bZ (rs:= [.tmp 4]) rfl (bV rfl (bW)) rfl
theorem AK (lv nb:Int) (D:List UInt8) (hD:D.length≤1000000):bU Tryz.prog 192 [.ag [.i .i64 lv,.i .i64 nb,eU D]] (cl (.i .i64 (mg (eu lv nb D)))):=by
 refine enter Tryz.func192 rfl Tryz.ntmps192 aw (Nat.le_of_ble_eq_true rfl) fun w0 X0 hI=>?_
 refine aa [670,659,645,762,647] ?_
 refine gr 3 rfl rfl rfl rfl (fun hb7=> .step (bX Tryz.underlying120 rfl bL az rfl rfl) rfl rfl<| .step (bM bL rfl rfl rfl) rfl rfl<| .step (bE rfl) rfl rfl<| .done) rfl rfl <| s1 (bE rfl) rfl <| gr 3 rfl rfl rfl rfl (fun hb12=> .step (bX Tryz.underlying120 rfl bL az rfl rfl) rfl rfl<| .step (bM bL rfl rfl rfl) rfl rfl<| .step (bE rfl) rfl rfl<| .done) rfl rfl <| s1 (bE rfl) rfl <| gr 3 rfl rfl rfl rfl (fun hb17=> .step (bX Tryz.underlying120 rfl bL az rfl rfl) rfl rfl<| .step (bM bL rfl rfl rfl) rfl rfl<| .step (bE rfl) rfl rfl<| .done) rfl rfl ?_
 refine ji 21 rfl (fun hc21=>?_) (fun hc21=>?_)
 ·have hcs : ¬ fW lv nb := by intro h; unfold fW at h; simp at hc21; omega
  refine aa [0,688,688,679,48,709] ?_
  exact congrArg (A.i .i64) (by rw [zb hcs];rfl)
 ·have hcs : fW lv nb := by simp at hc21; unfold fW; omega
  obtain⟨l,n,rfl,rfl,h1,h2,h3⟩:=uB hcs
  refine aa [0,374] ?_
  refine g1 rfl rfl (bM eM rfl rfl rfl) rfl ?_
  refine aa [375,376,176,377,378,763] ?_
  refine cm rfl (fun hc31=>?_) (fun hc31=>?_)
  ·have hl : D.length ≠ (n + 7) / 8 := by intro h; rw [h] at hc31; simp at hc31
   refine aa [645,48,709] ?_
   exact congrArg (A.i .i64) (by rw [y9 hl];rfl)
  ·have hl : D.length = (n + 7) / 8 := by simp at hc31; omega
   refine aa [675,645,762,739] ?_
   refine c5 (ι:=Nat) (fun k=> [(1,.p 1 0),(3,nJ k)]) (fun k=>⟨[(1,some ([nJ l,nJ n,eU D]))]⟩) (fun k=>(n≤k∧k≤8*D.length)∧∀t,n≤t→t<k→fH D t=false) (fun k=>8*D.length - k) ?_ ?_
   ·exact c4 (n) (⟨⟨Nat.le_refl _,by omega⟩,fun t h1 h2=>absurd h1 aq⟩) [(1,some 1)] hI rfl rfl ⟨⟨_,rfl,.p rfl⟩,⟨_,rfl,.pure pu⟩,trivial⟩ ⟨.inr ⟨_,_,rfl,rfl,.pure bO⟩,trivial⟩
   rintro k ⟨⟨hk1,hk2⟩,hall⟩
   refine aa [699,139,177,104] ?_
   refine s1 (iK 8 _ rfl rfl rfl rfl aq) rfl ?_
   refine aa [646] ?_
   refine cm rfl (fun hc39=>?_) (fun hc39=>?_)
   ·have h39 : k < 8 * D.length := by have := of_decide_eq_true hc39; omega
    refine aa [672,139,177,0] ?_
    refine bJ rfl (b7 false rfl (.cons (.pure pu) (.cons (.pure pu) (.nil))) (uo D k aq hD) pu (.inl rfl) rfl ?_)
    refine bH <| bF ?_
    refine cm rfl (fun hc45=>?_) (fun hc45=>?_)
    ·skip
     refine aa [645,48,700,4] ?_
     exact congrArg (A.i .i64) (by rw [JH h1 h2 h3 hl hk1 h39 hc45];rfl)
    ·skip
     refine aa [676] ?_
     exact cO (k+1) (⟨⟨by omega,by omega⟩,Qf hall hc45⟩) aq [(1,some 1)] hI rfl rfl ⟨⟨_,rfl,.p rfl⟩,⟨_,rfl,.pure pu⟩,trivial⟩ ⟨.inr ⟨_,_,rfl,rfl,.pure bO⟩,trivial⟩
   ·have h39 : k = 8 * D.length := by have := of_decide_eq_false hc39; omega
    subst h39
    refine aa [683,657,4] ?_
    exact congrArg (A.i .i64) (by rw [wN h1 h2 h3 hl hall];rfl)
theorem OA (lv nb:Int):bU Tryz.prog 154 [.i .i64 lv,.i .i64 nb] (cl (rT lv nb)):=by
 refine enter Tryz.func154 rfl Tryz.ntmps154 aw (Nat.le_of_ble_eq_true rfl) fun w0 X0 hI=>?_
 refine aa [645,278,659,680,384,0,281,0,138,656] ?_
 refine cm rfl (fun hc19=>?_) (fun hc19=>?_)
 ·have hcs : ¬ fW lv nb := by intro h; unfold fW at h; simp at hc19; omega
  refine aa [645,385,18,48,668,373,175] ?_
  show A.tu _=_
  exact(FE hcs).symm
 ·have hcs : fW lv nb := by simp at hc19; unfold fW; omega
  obtain⟨l,n,rfl,rfl,h1,h2,h3⟩:=uB hcs
  refine aa [681,680] ?_
  refine s1 (cE n 7 rfl rfl rfl rfl aq) rfl ?_
  refine aa [369] ?_
  refine bJ rfl (rS 26 rfl _ _ Tryz.underlying68 cr rfl rfl rfl rfl rfl av av av rfl ?_)
  refine aa [370,18,657,371,175] ?_
  show A.tu _=_
  rw [wO hcs,kW,eU,List.length_replicate];rfl
theorem GJ (d:List UInt8) (o:Nat) (h:o+4≤d.length):bU Tryz.prog 210 [.fz 4 (((d.map u8).drop o).take 4)] (cl (nJ (js d o 4))):=by
 refine enter Tryz.func210 rfl Tryz.ntmps210 aw (Nat.le_of_ble_eq_true rfl) fun w0 X0 hI=>?_
 refine aa [645,749,645,659,697] ?_
 refine c5 (ι:=Nat) (fun i=> [(0,.fz 4 (((d.map u8).drop o).take 4)),(3,nJ (js d o i)),(4,nJ i)]) (fun i=>⟨[]⟩) (fun i=>i≤4) (fun i=>4 - i) ?_ ?_
 ·exact c4 (0) (Nat.zero_le _) [] hI rfl rfl ⟨⟨_,rfl,.pure pu⟩,⟨_,rfl,.of aX (.pure pu)⟩,⟨_,rfl,.pure pu⟩,trivial⟩ trivial
 rintro i hi
 have hnl:=Au d o i
 have h4:256 ^ i≤256 ^ 4:=Nat.pow_le_pow_right aq hi
 refine aa [695] ?_
 refine cm rfl (fun hc6=>?_) (fun hc6=>?_)
 ·have h6 : i < 4 := by have := of_decide_eq_true hc6; omega
  have hb:=(d.getD (o+i) 0).toNat_lt
  refine aa [655,649] ?_
  refine s1 (iK 256 _ rfl rfl rfl rfl aq) rfl ?_
  refine aa [647] ?_
  refine s1 (cf i Tryz.underlying68 cr rfl rfl rfl aq rfl) rfl <| s1 (bM cr rfl rfl (Lm aq h6)) rfl ?_
  refine aa [277] ?_
  refine s1 (cE _ _ rfl rfl rfl rfl aq) rfl ?_
  refine aa [686] ?_
  exact cO (i+1) aq aq [] hI rfl rfl ⟨⟨_,rfl,.pure pu⟩,⟨_,rfl,.of (congrArg nJ (MZ d o i)) (.pure pu)⟩,⟨_,rfl,.pure pu⟩,trivial⟩ trivial
 ·have h6 : i = 4 := by have := of_decide_eq_false hc6; omega
  subst h6
  refine aa [719] ?_
  refine bZ (rs:= [.tmp 2]) rfl (bV rfl (bW)) rfl
theorem OZ (x:List UInt8) (l j:Nat) (hx:x.length=32):bU Tryz.prog 71 [.s [102,105,108,116,101,114],.fz 37 ((x++UInt8.ofNat l::iG (BitVec.ofNat 32 j)).map u8)] (cl (.ag ((iW x l j).map u8))):=by
  have e2:(x++UInt8.ofNat l::iG (BitVec.ofNat 32 j)).length=37:=by simp [iG,hx]
  rw [zQ, ←e2];exact kQ _ _ aq aA
theorem xq (x:List UInt8) (lv nb id:Int) (D:List UInt8) (hx:x.length=32) (hD:D.length≤1000000):bU Tryz.prog 189 [.ag (x.map u8),.ag [.i .i64 lv,.i .i64 nb,eU D],.i .i64 id] (cl (qU x lv nb D id)):=by
 refine enter Tryz.func189 rfl Tryz.ntmps189 aw (Nat.le_of_ble_eq_true rfl) fun w0 X0 hI=>?_
 refine aa [689,55,0,659] ?_
 rcases tf (eu lv nb D)with hcs|hcs
 ·skip
  refine aa [1,57] ?_
  refine bJ rfl (b7 false rfl (.cons (.pure pu) (.nil)) (bU.cast (AK _ _ _ hD) (congrArg (A.i .i64) (by rw [hcs];rfl:mg (eu lv nb D)=330))) pu (.inl rfl) rfl ?_)
  refine aa [692,714,757,36] ?_
  show A.tu _=_
  exact(oz (F3 hcs)).symm
 ·skip
  refine aa [1,57] ?_
  refine bJ rfl (b7 false rfl (.cons (.pure pu) (.nil)) (bU.cast (AK _ _ _ hD) (congrArg (A.i .i64) (by rw [hcs];rfl:mg (eu lv nb D)=0))) pu (.inl rfl) rfl ?_)
  refine aa [692,710,680] ?_
  refine gr 2 rfl rfl rfl rfl (fun hb18=> .step (bE rfl) rfl rfl<| .step (bE rfl) rfl rfl<| .done) rfl rfl <| bH <| bF ?_
  refine cm rfl (fun hc21=>?_) (fun hc21=>?_)
  ·have h19 : ¬ (0 ≤ id ∧ id < 1024) := by simp at hc21; omega
   refine aa [648,48,668,36] ?_
   show A.tu _=_
   exact(oz (F4 h19)).symm
  ·have h19 : 0 ≤ id ∧ id < 1024 := by simp at hc21; omega
   have hk:=Ax hcs h19
   obtain⟨l,n,j,rfl,rfl,rfl,h1,h2,h3,h4,h5,h6⟩:=qi hk
   refine b9 <| bF <| bG <| bI <| bJ rfl (eF 22 rfl Tryz.underlying68 cr rfl rfl rfl rfl rfl ?_)
   refine aa [282] ?_
   refine bJ rfl (dR 24 rfl Tryz.underlying68 cr rfl (.sl rfl ar) rfl (dH rfl aH) aH aI aA rfl rfl rfl ?_)
   refine aa [664,762] ?_
   refine s1 (qc l Tryz.underlying3 Tryz.underlying5 rfl rfl) rfl <| s1 (bE rfl) rfl <| s1 (iR j 256 rfl rfl rfl rfl aq aq) rfl <| s1 (qc (j / 256) Tryz.underlying3 Tryz.underlying5 rfl rfl) rfl <| s1 (bE rfl) rfl <| s1 (iS j 256 rfl rfl rfl rfl aq) rfl <| s1 (qc (j % 256) Tryz.underlying3 Tryz.underlying5 rfl rfl) rfl <| bJ rfl (eF 35 rfl Tryz.underlying68 cr rfl rfl rfl rfl rfl ?_)
   refine bJ rfl (dR 36 rfl Tryz.underlying68 cr rfl (.sl rfl aH) rfl (dH rfl aX) ar aI aA rfl rfl rfl ?_)
   refine aa [664] ?_
   refine bJ rfl (b7 true rfl (.cons (.pure pu) (.cons (.sl rfl rfl rfl (dD aH (Lx h4)) (cK.pure bO) bO) .nil)) (OZ x l j hx) pu (.inr fu) rfl ?_)
   refine bJ rfl (cI 10 rfl bR rfl rfl ?_)
   refine aa [5,654,30] ?_
   refine bK 0 [] [(10,none)] (qF 4 Tryz.underlying23 cr rfl rfl aA aI bn (bs (v:=4) rfl rfl) aq aq rfl rfl) rfl rfl <| c7 true 1 [0] [(10,none)] cz rfl (.cons (.sl rfl rfl rfl rfl (cK.pure bO) bO) .nil) (GJ (iW x l j) 0 aA) pu (.inr fu) rfl rfl <| bK 2 [] [(4,none)] (bX Tryz.underlying120 rfl bL az rfl rfl) rfl rfl <| bK 3 [2] [(4,none)] (bM bL rfl rfl rfl) rfl rfl <| bK 4 [1,3] [] (iS (js (iW x l j) 0 4) n rfl rfl rfl rfl aq) rfl rfl <| bK 5 [] [(10,none)] (qF 4 Tryz.underlying23 cr rfl rfl aA aI (bs (v:=4) rfl rfl) (bs (v:=8) rfl rfl) aq aq rfl rfl) rfl rfl <| c7 true 6 [5] [(10,none)] cz rfl (.cons (.sl rfl rfl rfl rfl (cK.pure bO) bO) .nil) (GJ (iW x l j) 4 aA) pu (.inr fu) rfl rfl <| bK 7 [] [(4,none)] (bX Tryz.underlying120 rfl bL az rfl rfl) rfl rfl <| bK 8 [7] [(4,none)] (bM bL rfl rfl rfl) rfl rfl <| bK 9 [6,8] [] (iS (js (iW x l j) 4 4) n rfl rfl rfl rfl aq) rfl rfl <| rE 49 10 [4,9] cz Tryz.underlying30 bL rfl rfl rfl rfl rfl rfl ?_
   refine aa [2,726] ?_
   refine gm 6 rfl rfl bO (dD rfl rfl) ?_
   refine aa [36] ?_
   show A.tu _=_
   rw [qV hk,I9,s4,s4];rfl
theorem GV (D:List UInt8) (k:Nat) (hk:k / 8<D.length) (hD:D.length≤1000000):bU Tryz.prog 190 [eU D,nJ k] (cl (eU (kS D k))):=by
 refine enter Tryz.func190 rfl Tryz.ntmps190 aw (Nat.le_of_ble_eq_true rfl) fun w0 X0 hI=>?_
 refine aa [651,661] ?_
 refine bJ rfl (b7 false rfl (.cons (.pure pu) (.cons (.pure pu) (.nil))) (uo D k hk hD) pu (.inl rfl) rfl ?_)
 refine bH <| bF ?_
 refine cm rfl (fun hc10=>?_) (fun hc10=>?_)
 ·skip
  refine aa [778,21,15] ?_
  exact congrArg eU (Pv hc10).symm
 ·skip
  refine aa [669,170,0] ?_
  refine bJ rfl (dR 14 rfl Tryz.underlying68 cr rfl (.sl rfl ar) rfl rfl ar aC av rfl rfl rfl ?_)
  refine aa [662,45,720] ?_
  refine c5 (ι:=Nat) (fun i=> [(1,nJ k),(5,.sl 14 1 0 D.length),(6,nJ (2 ^ i)),(7,nJ i)]) (fun i=>⟨[(14,some (D.map u8))]⟩) (fun i=>i≤k % 8) (fun i=>k % 8 - i) ?_ ?_
  ·exact c4 (0) (Nat.zero_le _) [(14,some 14)] hI rfl rfl ⟨⟨_,rfl,.pure pu⟩,⟨_,rfl,.sl rfl ar⟩,⟨_,rfl,.of aX (.pure pu)⟩,⟨_,rfl,.pure pu⟩,trivial⟩ ⟨.inr ⟨_,_,rfl,rfl,.of aX (.pure bO)⟩,trivial⟩
  rintro i hi
  have hp:2 ^ i≤2 ^ 8:=Nat.pow_le_pow_right aq aq
  refine aa [674] ?_
  refine s1 (iS k 8 rfl rfl rfl rfl aq) rfl ?_
  refine aa [646] ?_
  refine cm rfl (fun hc18=>?_) (fun hc18=>?_)
  ·have h18 : i < k % 8 := by have := of_decide_eq_true hc18; omega
   refine aa [655,649] ?_
   refine s1 (iK 2 (2 ^ i) rfl rfl rfl rfl aq) rfl ?_
   refine aa [686] ?_
   exact cO (i+1) aq aq [(14,some 14)] hI rfl rfl ⟨⟨_,rfl,.pure pu⟩,⟨_,rfl,.sl rfl ar⟩,⟨_,rfl,.of (congrArg nJ (ND i)) (.pure pu)⟩,⟨_,rfl,.pure pu⟩,trivial⟩ ⟨.inr ⟨_,_,rfl,rfl,.pure bO⟩,trivial⟩
  ·have h18 : i = k % 8 := by have := of_decide_eq_false hc18; omega
   subst h18
   refine aa [687,661,280,647,280,386] ?_
   refine s1 (bM cr rfl rfl (Eh hk)) rfl <| s1 (bE rfl) rfl <| s1 (qc (2 ^ (k % 8)) Tryz.underlying3 Tryz.underlying5 rfl rfl) rfl <| s1 ((bE rfl).v (Pr hc10)) rfl ?_
   refine aa [386] ?_
   refine bJ rfl (dI cr rfl rfl rfl rfl aE (Hd _ _) ?_)
   refine aa [656,778,180,15] ?_
   exact congrArg (fun z=>A.fz z ((kS D k).map u8)) (E7 D k).symm
theorem NT (x:List UInt8) (lv nb id:Int) (D:List UInt8) (hx:x.length=32) (hD:D.length≤1000000):bU Tryz.prog 155 [.ag (x.map u8),.ag [.i .i64 lv,.i .i64 nb,eU D],.i .i64 id] (cl (nB x lv nb D id)):=by
 refine enter Tryz.func155 rfl Tryz.ntmps155 aw (Nat.le_of_ble_eq_true rfl) fun w0 X0 hI=>?_
 refine aa [689,55,279,659] ?_
 rcases tf (okB lv nb D id)with hcs|hcs
 ·skip
  refine aa [728,740,387,764,645,385,0,18,715,381,179] ?_
  show A.tu _=_
  exact(BS hcs).symm
 ·obtain ⟨l, n, j, rfl, rfl, rfl, h1, h2, h3, h4, h5, h6⟩ := qi hcs
  have hb0:=mK (x:=x) (lv:=l) (id:=j) (show 0<n by omega) 0
  have hb1:=mK (x:=x) (lv:=l) (id:=j) (show 0<n by omega) 1
  have hok:=hcs
  refine aa [728,740,388,708,710,30,283,284,17,285,286] ?_
  refine c7 false 5 [1,4] [] cz rfl (.cons (.pure pu) (.cons (.pure pu) (.nil))) (GV D (bN x l n j 0) aq hD) pu (.inl rfl) rfl rfl ?_
  refine aa [56] ?_
  refine bK 7 [6] [] (cf 1 Tryz.underlying30 bL rfl rfl rfl aq rfl) rfl rfl <| bK 8 [7] [] (bM bL rfl rfl (pK x l n j 1 aq)) rfl rfl <| c7 false 9 [5,8] [] cz rfl (.cons (.pure pu) (.cons (.pure pu) (.nil))) (GV (kS D (bN x l n j 0)) (bN x l n j 1) aE aE) pu (.inl rfl) rfl rfl <| bK 10 [] [(4,none)] (bX Tryz.underlying120 rfl eM az rfl rfl) rfl rfl ?_
  refine aa [2,382,653,57,18,657,179] ?_
  show A.tu _=_
  exact(BU hcs).symm
theorem Ov (x:List UInt8) (lv nb id:Int) (D:List UInt8) (hx:x.length=32) (hD:D.length≤1000000):bU Tryz.prog 156 [.ag (x.map u8),.ag [.i .i64 lv,.i .i64 nb,eU D],.i .i64 id] (cl (oK x lv nb D id)):=by
 refine enter Tryz.func156 rfl Tryz.ntmps156 aw (Nat.le_of_ble_eq_true rfl) fun w0 X0 hI=>?_
 refine aa [689,55,0,659] ?_
 rcases tf (okB lv nb D id)with hcs|hcs
 ·skip
  refine aa [728,740,387,764,757,36] ?_
  show A.tu _=_
  exact(Ew hcs).symm
 ·obtain ⟨l, n, j, rfl, rfl, rfl, h1, h2, h3, h4, h5, h6⟩ := qi hcs
  have hb0:=mK (x:=x) (lv:=l) (id:=j) (show 0<n by omega) 0
  have hb1:=mK (x:=x) (lv:=l) (id:=j) (show 0<n by omega) 1
  have hok:=hcs
  refine aa [728,740,388,708,710] ?_
  rcases tf (fH D (bN x l n j 0))with hcs|hcs
  ·have h0 := hcs
   refine dh ⟨_, [], []⟩ 14 4 cL (le_refl rfl) ?_
   refine aa [283,284,17,285,286,389,181] ?_
   refine bT 7 [6] rfl rfl rfl rfl rfl <| bT 8 [6,7] rfl rfl rfl rfl rfl <| bT 9 [6] rfl rfl rfl rfl rfl <| bT 10 [6,9] rfl rfl rfl rfl rfl <| bT 11 [6,10] rfl rfl rfl rfl rfl <| bT 12 [6,8,11] rfl rfl rfl rfl rfl <| bK 13 [6,12] [] (bE rfl) rfl rfl ?_
   refine aa [2,726,36] ?_
   show A.tu _=_
   rw [wi hok,nV,hcs];rfl
  ·skip
   refine dh ⟨_, [], []⟩ 14 4 cL (le_refl rfl) ?_
   refine aa [283,284,17,285,286,389,181] ?_
   refine bP 7 [6] [(4,none)] rfl rfl (bX Tryz.underlying120 rfl eM az rfl rfl) rfl rfl <| bP 8 [6,7] [(4,none)] rfl rfl (bM eM rfl rfl rfl) rfl rfl <| bP 9 [6] [] rfl rfl (bE rfl) rfl rfl <| bP 10 [6,9] [] rfl rfl (cf 1 Tryz.underlying30 bL rfl rfl rfl aq rfl) rfl rfl <| bP 11 [6,10] [] rfl rfl (bM bL rfl rfl (pK x l n j 1 aq)) rfl rfl <| c7 false 12 [6,8,11] [] (oJ rfl rfl) rfl (.cons (.pure pu) (.cons (.pure pu) (.nil))) (uo D (bN x l n j 1) aq hD) pu (.inl rfl) rfl rfl <| bK 13 [6,12] [] (bE rfl) rfl rfl ?_
   refine aa [2,726,36] ?_
   show A.tu _=_
   rw [wi hok,nV,hcs];rfl
-- C4B
theorem oN (l:List Int) (hn:l.length≤maxLen):bU Tryz.prog 72 [.fz l.length (l.map (A.i .i64))] (cl (.b (eD l))):=by
 refine enter Tryz.func72 rfl Tryz.ntmps72 aw (Nat.le_of_ble_eq_true rfl) fun w0 X0 hI=>?_
 refine aa [651] ?_
 simp only [maxLen]at hn
 refine aa [1,252,727,19,667] ?_
 refine c5 (ι:=Nat) (fun i=> [(3,.i .i64 (fA l i)),(6,.fz l.length (l.map (A.i .i64))),(7,nJ l.length),(8,nJ i)]) (fun i=>⟨[]⟩) (fun i=>i≤l.length∧eD l=fZ (fA l i) (l.drop i)) (fun i=>l.length - i) ?_ ?_
 ·exact c4 (0) (⟨Nat.zero_le _,sW l⟩) [] hI rfl rfl ⟨⟨_,rfl,.pure pu⟩,⟨_,rfl,.pure pu⟩,⟨_,rfl,.pure pu⟩,⟨_,rfl,.pure pu⟩,trivial⟩ trivial
 rintro i ⟨hi,hl⟩
 refine aa [651] ?_
 refine cm rfl (fun hc9=>?_) (fun hc9=>?_)
 ·have h9 : i < l.length := by have := of_decide_eq_true hc9; omega
  obtain⟨q,hq⟩:∃q,l[i]? =some q:=⟨_,List.getElem?_eq_getElem h9⟩
  refine aa [672,58,39,652,661,647] ?_
  refine gr 2 rfl rfl rfl rfl (fun hb15=> .step (bE rfl) rfl rfl<| .step (bE rfl) rfl rfl<| .done) rfl rfl <| bH <| bF ?_
  refine cm rfl (fun hc18=>?_) (fun hc18=>?_)
  ·have h18 : ¬ (fA l i < q ∧ q < 1024) := by simp at hc18; omega
   refine aa [707,824,4] ?_
   exact congrArg A.b (l6 hl hq h18).symm
  ·have h18 : fA l i < q ∧ q < 1024 := by simp at hc18; omega
   refine b9 <| bF <| bI <| s1 ((bE rfl).v (v':= .i .i64 (fA l (i+1))) (congrArg (A.i .i64) (mm hq).symm)) rfl ?_
   refine aa [704] ?_
   exact cO (i+1) (⟨by omega,nD hl hq h18⟩) aq [] hI rfl rfl ⟨⟨_,rfl,.pure pu⟩,⟨_,rfl,.pure pu⟩,⟨_,rfl,.pure pu⟩,⟨_,rfl,.pure pu⟩,trivial⟩ trivial
 ·have h9 : i = l.length := by have := of_decide_eq_false hc9; omega
  subst h9
  refine aa [734,4] ?_
  exact congrArg A.b (sV hl).symm
theorem Cn (c:dL) (hx:c.x.length=32) (hn:c.E.length≤maxLen):bU Tryz.prog 80 [.ag (fE c)] (cl (.i .i64 (ru (fO c)))):=by
 refine enter Tryz.func80 rfl Tryz.ntmps80 aw (Nat.le_of_ble_eq_true rfl) fun w0 X0 hI=>?_
 refine aa [670,659,645,29,72,73,647] ?_
 refine ji 9 rfl (fun hc9=>?_) (fun hc9=>?_)
 ·have h4 : ¬ c.F.length ≤ 16 := by simp at hc9; omega
  refine aa [688,679,24,709] ?_
  exact congrArg (A.i .i64) (by rw [CG h4];rfl)
 ·have h4 : c.F.length ≤ 16 := by simp at hc9; omega
  refine aa [390] ?_
  refine g1 rfl rfl (bM gN rfl rfl (s6 hx)) rfl <| fN rfl rfl rfl (b7 false rfl (.cons (.pure pu) (.nil)) (oN c.E hn) pu (.inl rfl) rfl ?_)
  refine aa [763] ?_
  refine cm rfl (fun hc14=>?_) (fun hc14=>?_)
  ·have h14 : eD c.E = false := by simpa using hc14
   refine aa [645,24,709] ?_
   exact congrArg (A.i .i64) (by rw [CH h14];rfl)
  ·have h14 : eD c.E = true := by simpa using hc14
   refine aa [675,645,29,72,73,667] ?_
   refine c5 (ι:=Nat) (fun i=> [(16,tK c.F),(17,nJ c.F.length),(18,nJ i)]) (fun i=>⟨[]⟩) (fun i=>i≤c.F.length∧gI 0 c.F=gI i (c.F.drop i)) (fun i=>c.F.length - i) ?_ ?_
   ·exact c4 (0) (⟨Nat.zero_le _,rfl⟩) [] hI rfl rfl ⟨⟨_,rfl,.pure pu⟩,⟨_,rfl,.pure pu⟩,⟨_,rfl,.pure pu⟩,trivial⟩ trivial
   rintro i ⟨hi,hl⟩
   refine aa [651] ?_
   refine cm rfl (fun hc19=>?_) (fun hc19=>?_)
   ·have h19 : i < c.F.length := by have := of_decide_eq_true hc19; omega
    obtain⟨f,hf⟩:∃f,c.F[i]? =some f:=⟨_,List.getElem?_eq_getElem h19⟩
    refine aa [655,648,182,287,278,0,18,653,762,671] ?_
    refine ji 27 rfl (fun hc27=>?_) (fun hc27=>?_)
    ·have h27 : ¬ f.lv = i := by simpa using hc27
     refine aa [725,12,679,24,700,4] ?_
     exact congrArg (A.i .i64) (by rw [vw (wA hl hf (fun h=>h27 h.1))];rfl)
    ·have h27 : f.lv = i := by simpa using hc27
     refine g1 rfl rfl (cu de rfl rfl rfl) rfl <| fN rfl rfl rfl (b7 false rfl (.cons (.pure pu) (.nil)) (zN f.lv f.nb f.D) pu (.inl rfl) rfl ?_)
     refine aa [763] ?_
     refine cm rfl (fun hc31=>?_) (fun hc31=>?_)
     ·have h31 : ¬ (f.lv = i ∧ eu f.lv f.nb f.D = true) := by intro h; simp [h.2, mg] at hc31
      refine aa [645,24,700,4] ?_
      exact congrArg (A.i .i64) (by rw [vw (wA hl hf h31)];rfl)
     ·have h31 : f.lv = i ∧ eu f.lv f.nb f.D = true := ⟨h27, by cases hk : eu f.lv f.nb f.D with | true => rfl | false => simp [hk, mg] at hc31⟩
      refine aa [717] ?_
      exact cO (i+1) (⟨by omega,Fi hl hf h31.1 h31.2⟩) aq [] hI rfl rfl ⟨⟨_,rfl,.pure pu⟩,⟨_,rfl,.pure pu⟩,⟨_,rfl,.pure pu⟩,trivial⟩ trivial
   ·have h19 : i = c.F.length := by have := of_decide_eq_false hc19; omega
    subst h19
    refine aa [683,657,4] ?_
    exact congrArg (A.i .i64) (by rw [y5 h4 h14 (Fg hl)];rfl)
theorem oY (l:List Int) (hn:l.length≤maxLen):bU Tryz.prog 102 [.fz l.length (l.map (A.i .i64))] (cl (.b (eD l))):=by
 refine enter Tryz.func102 rfl Tryz.ntmps102 aw (Nat.le_of_ble_eq_true rfl) fun w0 X0 hI=>?_
 refine aa [651,3] ?_
 simp only [maxLen]at hn
 refine aa [761] ?_
 refine c5 (ι:=Nat) (fun i=> [(0,.fz l.length (l.map (A.i .i64))),(3,nJ i)]) (fun i=>⟨[]⟩) (fun i=>i≤l.length∧ -1≤fA l i∧eD l=fZ (fA l i) (l.drop i)) (fun i=>l.length - i) ?_ ?_
 ·exact c4 (0) (⟨Nat.zero_le _,Int.le_refl _,sW l⟩) [] hI rfl rfl ⟨⟨_,rfl,.pure pu⟩,⟨_,rfl,.pure pu⟩,trivial⟩ trivial
 rintro i ⟨hi,hl0,hl⟩
 refine aa [674,765] ?_
 refine cm rfl (fun hc7=>?_) (fun hc7=>?_)
 ·have h7 : i < l.length := by have := of_decide_eq_true hc7; omega
  obtain⟨q,hq⟩:∃q,l[i]? =some q:=⟨_,List.getElem?_eq_getElem h7⟩
  refine b9 <| bF <| bG <| cd <| bG ?_
  rcases Qs q i with hcs|hcs|hcs|hcs
  ·have hw := hcs
   refine aa [802] ?_
   refine t1 ((bE rfl).v (v':= .b true) (congrArg A.b (decide_eq_true hw))) rfl ?_
   refine aa [6,693,14,741,775,14,754,751,4] ?_
   exact congrArg A.b (l6 hl hq aq).symm
  ·obtain ⟨hq0, hq1⟩ := hcs
   refine aa [742,32,741,775,14,754,751,4] ?_
   exact congrArg A.b (l6 hl hq aq).symm
  ·obtain ⟨hq0, hq1, hi0⟩ := hcs
   have hla:=LW l hi0
   refine aa [742,787,729,693,797,10,11,673,676] ?_
   exact cO (i+1) (⟨by omega,by rw [mm hq];omega,nD hl hq aq⟩) aq [] hI rfl rfl ⟨⟨_,rfl,.pure pu⟩,⟨_,rfl,.pure pu⟩,trivial⟩ trivial
  ·obtain ⟨hq0, hq1, hi0⟩ := hcs
   obtain⟨i,rfl⟩:∃k,i=k+1:=⟨i - 1,by omega⟩
   obtain⟨r,hr⟩:∃r,l[i]? =some r:=⟨_,List.getElem?_eq_getElem aq⟩
   have hla:=mm hr
   refine aa [826] ?_
   refine t1 (cf (i+1) Tryz.underlying30 bL rfl rfl rfl aq rfl) rfl ?_
   refine aa [391,804,789,394,288,766] ?_
   refine bQ rfl rfl ((eW (i+1) 1 rfl rfl rfl rfl aq aq).v (congrArg (A.i .i64) (by omega:_=((i:Nat):Int)))) rfl ?_
   refine aa [393] ?_
   refine bQ rfl rfl (bM bL rfl rfl (ee hr)) rfl ?_
   refine aa [789,394,288,789,11,646] ?_
   refine cm rfl (fun hc37=>?_) (fun hc37=>?_)
   ·have h37 : q ≤ r := by have := of_decide_eq_true hc37; omega
    refine aa [751,4] ?_
    exact congrArg A.b (l6 hl hq aq).symm
   ·have h37 : r < q := by have := of_decide_eq_false hc37; omega
    refine aa [676] ?_
    exact cO (i+1+1) (⟨by omega,by rw [mm hq];omega,nD hl hq aq⟩) aq [] hI rfl rfl ⟨⟨_,rfl,.pure pu⟩,⟨_,rfl,.pure pu⟩,trivial⟩ trivial
 ·have h7 : i = l.length := by have := of_decide_eq_false hc7; omega
  subst h7
  refine aa [734,4] ?_
  exact congrArg A.b (sV hl).symm
theorem Gn (c:dL) (hx:c.x.length=32) (hn:c.E.length≤maxLen) (hD:∀f∈c.F,f.D.length≤1000000):bU Tryz.prog 157 [.ag (fE c)] (cl (.i .i64 (ru (fO c)))):=by
 refine enter Tryz.func157 rfl Tryz.ntmps157 aw (Nat.le_of_ble_eq_true rfl) fun w0 X0 hI=>?_
 refine aa [670,659,645,29,72,73,647] ?_
 refine ji 8 rfl (fun hc8=>?_) (fun hc8=>?_)
 ·have h4 : ¬ c.F.length ≤ 16 := by simp at hc8; omega
  refine aa [688,679,24,709] ?_
  exact congrArg (A.i .i64) (by rw [CG h4];rfl)
 ·have h4 : c.F.length ≤ 16 := by simp at hc8; omega
  refine aa [390] ?_
  refine g1 rfl rfl (bM gN rfl rfl (s6 hx)) rfl <| fN rfl rfl rfl (b7 false rfl (.cons (.pure pu) (.nil)) (oY c.E hn) pu (.inl rfl) rfl ?_)
  refine aa [763] ?_
  refine cm rfl (fun hc13=>?_) (fun hc13=>?_)
  ·have h14 : eD c.E = false := by simpa using hc13
   refine aa [645,24,709] ?_
   exact congrArg (A.i .i64) (by rw [CH h14];rfl)
  ·have h14 : eD c.E = true := by simpa using hc13
   refine aa [675,697] ?_
   refine c5 (ι:=Nat) (fun i=> [(1,.p 1 0),(3,nJ i)]) (fun i=>⟨[(1,some (fE c))]⟩) (fun i=>i≤c.F.length∧gI 0 c.F=gI i (c.F.drop i)) (fun i=>c.F.length - i) ?_ ?_
   ·exact c4 (0) (⟨Nat.zero_le _,rfl⟩) [(1,some 1)] hI rfl rfl ⟨⟨_,rfl,.p rfl⟩,⟨_,rfl,.pure pu⟩,trivial⟩ ⟨.inr ⟨_,_,rfl,rfl,.pure bO⟩,trivial⟩
   rintro i ⟨hi,hl⟩
   refine aa [699,29,72,73,646] ?_
   refine cm rfl (fun hc18=>?_) (fun hc18=>?_)
   ·have h19 : i < c.F.length := by have := of_decide_eq_true hc18; omega
    obtain⟨f,hf⟩:∃f,c.F[i]? =some f:=⟨_,List.getElem?_eq_getElem h19⟩
    refine aa [672,29,72,0,182,276] ?_
    refine s1 (bM bL rfl rfl (K3 hf)) rfl ?_
    refine aa [671] ?_
    refine ji 29 rfl (fun hc29=>?_) (fun hc29=>?_)
    ·have h27 : ¬ f.lv = i := by simpa using hc29
     refine aa [688,725,12,679,24,700,4] ?_
     exact congrArg (A.i .i64) (by rw [vw (wA hl hf (fun h=>h27 h.1))];rfl)
    ·have h27 : f.lv = i := by simpa using hc29
     refine aa [290] ?_
     refine g1 rfl rfl (bM fD rfl rfl (nH hx)) rfl <| g1 rfl rfl (bE rfl) rfl <| g1 rfl rfl (cf i Tryz.underlying58 de rfl rfl rfl aq rfl) rfl <| g1 rfl rfl (dw de rfl rfl (tL hf) rfl) rfl <| fN rfl rfl rfl (b7 false rfl (.cons (.pure pu) (.nil)) (AK f.lv f.nb f.D (hD f (List.mem_of_getElem? hf))) pu (.inl rfl) rfl ?_)
     refine aa [763] ?_
     refine cm rfl (fun hc37=>?_) (fun hc37=>?_)
     ·have h31 : ¬ (f.lv = i ∧ eu f.lv f.nb f.D = true) := by intro h; simp [h.2, mg] at hc37
      refine aa [645,24,700,4] ?_
      exact congrArg (A.i .i64) (by rw [vw (wA hl hf h31)];rfl)
     ·have h31 : f.lv = i ∧ eu f.lv f.nb f.D = true := ⟨h27, by cases hk : eu f.lv f.nb f.D with | true => rfl | false => simp [hk, mg] at hc37⟩
      refine aa [676] ?_
      exact cO (i+1) (⟨by omega,Fi hl hf h31.1 h31.2⟩) aq [(1,some 1)] hI rfl rfl ⟨⟨_,rfl,.p rfl⟩,⟨_,rfl,.pure pu⟩,trivial⟩ ⟨.inr ⟨_,_,rfl,rfl,.pure bO⟩,trivial⟩
   ·have h19 : i = c.F.length := by have := of_decide_eq_false hc18; omega
    subst h19
    refine aa [683,657,4] ?_
    exact congrArg (A.i .i64) (by rw [y5 h4 h14 (Fg hl)];rfl)
-- C4C
-- C4D
end Go.Abs.D2
namespace Go.Eng
open Go Go.Eng Go.Proofs Go.Abs
theorem Q2 (w:World):(zeroValue 4).run Tryz.prog w= .ok (.bool false) w:=by kernel_rfl
theorem FT {w:World} {b blk clk:Nat} {es:Array MapEntry} (h:w.heap.size≤b):qd [(b,.map es clk)] w blk:=⟨.inr h,trivial⟩
theorem Ko (w:World) (a1 a2:Option Addr) (c1 c2:Nat) (l1 l2:List Int) (h1:RI w a1 l1) (h2:RI w a2 l2) (hn1:l1.length≤maxLen) (hn2:l2.length≤maxLen):Fn Tryz.prog 73 #[.slice a1 l1.length c1,.slice a2 l2.length c2] w (fun v w2=>v= .bool (kV l1 l2)∧RowKit.Below w.heap.size w w2):=by
 simp only [maxLen]at hn1 hn2
 have hlt0:True:=trivial
 refine enter Tryz.func73 rfl Tryz.ntmps73 aw rfl ?_
 refine aa [645,662] ?_
 refine bJ rfl (Ap rfl fun b hbS hbH=>?_)
 have hlb:w.heap.size≤b:=hbS.1
 refine aa [692] ?_
 refine s1 (cJ Tryz.underlying30 rfl rfl) rfl ?_
 refine aa [739] ?_
 refine c5 (ι:=Nat×Array MapEntry×Nat) (fun⟨i,es,clk⟩=> [(1,.slice a2 l2.length c2),(5,.map (some b)),(11,.slice a1 l1.length c1),(12,.int .i64 (l1.length:Nat)),(13,.int .i64 (i:Nat))]) (fun⟨i,es,clk⟩=> [w]) (fun⟨i,es,clk⟩=> [(b,.map es clk)]) (fun⟨i,es,clk⟩=>i≤l1.length∧fG es clk (sr (l1.take i))) (fun⟨i,es,clk⟩=>l1.length - i) ?_ ?_
 ·exact c4 (0, #[],0) ⟨Nat.zero_le _,fG.empty 0⟩ ⟨rfl,rfl,rfl,rfl,rfl,trivial⟩ (fun _ h=>h)
 rintro⟨i,es,clk⟩ ⟨hi,hF⟩
 dsimp only
 refine aa [651] ?_
 refine cm rfl (fun hc14=>?_) (fun hc14=>?_)
 ·have h14 : i < l1.length := by have := of_decide_eq_true hc14; omega
  obtain⟨q,hq⟩:∃q,l1[i]? =some q:=⟨_,List.getElem?_eq_getElem h14⟩
  have hr:=h1 i q hq
  refine aa [672] ?_
  refine s1 (H3 i Tryz.underlying30 bL rfl rfl rfl aq hr.1) rfl ?_
  refine aa [395,646,658] ?_
  refine bJ rfl (wM 0 Tryz.underlying161 Tryz.underlying3 rfl rfl rfl rfl hF fun es2 clk2 hF2=>?_)
  refine bH <| cH <| bF <| bI <| s1 (cE i 1 rfl rfl rfl rfl aq) rfl ?_
  refine aa [682] ?_
  exact cO (x:=(i,es,clk)) (i+1,es2,clk2) ⟨(show i+1≤l1.length from by omega),by rw [←Po hq];exact hF2⟩ (show l1.length - (i+1)<l1.length - i from by omega) ⟨rfl,rfl,rfl,rfl,rfl,trivial⟩ (fun _ h=>h)
 ·have h14 : i = l1.length := by have := of_decide_eq_false hc14; omega
  subst h14
  rw [List.take_length]at hF
  refine aa [684,648] ?_
  refine s1 (cJ Tryz.underlying30 rfl rfl) rfl ?_
  refine aa [739] ?_
  refine c5 (ι:=Nat) (fun j=> [(5,.map (some b)),(20,.slice a2 l2.length c2),(21,.int .i64 (l2.length:Nat)),(22,.int .i64 (j:Nat))]) (fun j=> [w]) (fun j=> [(b,.map es clk)]) (fun j=>j≤l2.length∧(l2.take j).all (fun n=>!decide (n∈l1))=true) (fun j=>l2.length - j) ?_ ?_
  ·exact c4 0 ⟨Nat.zero_le _,rfl⟩ ⟨rfl,rfl,rfl,rfl,trivial⟩ (fun _ h=>h)
  rintro j ⟨hj,hall⟩
  refine aa [651] ?_
  refine cm rfl (fun hc23=>?_) (fun hc23=>?_)
  ·have h23 : j < l2.length := by have := of_decide_eq_true hc23; omega
   obtain⟨q,hq⟩:∃q,l2[j]? =some q:=⟨_,List.getElem?_eq_getElem h23⟩
   have hr:=h2 j q hq
   refine aa [672] ?_
   refine s1 (H3 j Tryz.underlying30 bL rfl rfl rfl aq hr.1) rfl ?_
   refine aa [395,660] ?_
   refine s1 ((qG 0 Tryz.underlying161 Tryz.underlying3 Q2 rfl rfl rfl hF).v (Pn l1 q)) rfl <| bH <| bF ?_
   refine cm rfl (fun hc28=>?_) (fun hc28=>?_)
   ·skip
    refine aa [751] ?_
    refine bZ (rs:= [.tmp 4]) rfl (bV rfl bW) fun w1 hG1=>⟨congrArg Value.bool (Kn hq (of_decide_eq_true hc28)).symm,hG1.below (.head _) (by intro p hp;rw [List.mem_singleton.1 hp];exact hlb)⟩
   ·skip
    refine b9 <| cH <| bF <| bI <| s1 (cE j 1 rfl rfl rfl rfl aq) rfl ?_
    refine aa [682] ?_
    exact cO (x:=j) (j+1) ⟨(show j+1≤l2.length from by omega),IB hq hall (by rw [hc28];rfl)⟩ (show l2.length - (j+1)<l2.length - j from by omega) ⟨rfl,rfl,rfl,rfl,trivial⟩ (fun _ h=>h)
  ·have h23 : j = l2.length := by have := of_decide_eq_false hc23; omega
   subst h23
   rw [List.take_length]at hall
   refine aa [734] ?_
   refine bZ (rs:= [.tmp 4]) rfl (bV rfl bW) fun w1 hG1=>⟨congrArg Value.bool hall.symm,hG1.below (.head _) (by intro p hp;rw [List.mem_singleton.1 hp];exact hlb)⟩
end Go.Eng
namespace Go.Abs.D2
open Go Go.Eng Go.Abs Go.Proofs
theorem GC {X:Xs} {w:World} {a:Option Addr} {cap:Nat} {l:List Int} (h2:l.length≤cap) (h4:a=none→cap=0) (h5:0<cap→∀x,a=some x→x.spot=none) (h6:VM X w (l.map (A.i .i64)) (ab a) (ao a)):Go.Eng.RI w a l:=fun i v hi=>by
 have hlt:=(List.getElem?_eq_some_iff.1 hi).1
 obtain⟨_,u,e1,e2,_⟩:=pF h6 (j:=i) (c:= .i .i64 v) (by rw [List.getElem?_map,hi];rfl)
 rw [iE]at e2
 subst e2
 refine⟨?_,e1⟩
 cases a with
 |none=>exact absurd (h4 rfl) aq
 |some x=>
  have:=h5 aq x rfl
  obtain⟨b,o,s⟩:=x
  simp only at this
  subst this;rfl
theorem Dh (a b:List Int) (hn1:a.length≤maxLen) (hn2:b.length≤maxLen):bU Tryz.prog 73 [.fz a.length (a.map (A.i .i64)),.fz b.length (b.map (A.i .i64))] (cl (.b (Go.Eng.kV a b))):=by
 intro w X β us hd hX hgl ho hi hv
 simp only [VS]at hv
 obtain⟨u1,r1,rfl,v1,u2,r2,rfl,v2,rfl⟩:=hv
 simp only [V]at v1 v2
 obtain⟨a1,c1,rfl,e2,e3,e4,e5,e6⟩:=v1
 obtain⟨a2,c2,rfl,g2,g3,g4,g5,g6⟩:=v2
 refine Eng.Fn.mono (Go.Eng.Ko w a1 a2 c1 c2 a b (GC e2 e4 e5 e6) (GC g2 g4 g5 g6) hn1 hn2) fun v w' ⟨hv,hb⟩=>?_
 subst hv
 refine⟨.b (Go.Eng.kV a b),β,X,⟨[]⟩,rfl,fun _ _ h=>h,fun _ _ h=> .inl h,.of ⟨hb.os,hb.tape,hb.output,hb.size,fun k hk _=>hb.block k hk,fun s hs=>by cases hs⟩ (dE.refl β) (fun q o h=>Nat.lt_of_lt_of_le (hX q o h) hb.size) hd (fun id cs h=>by cases h) (fun i j ci cj q M N _ h _ _ _=>by cases h),by simp only [V]⟩
-- C4E
theorem Jr (x:List UInt8) (hx:x.length=32) (f:eX) (q:Int):bU Tryz.prog 77 [.i .i64 q,.fp (x.map u8),.fp (gV f)] (cl (.b (pU x f.lv f.nb f.D q))):=by
 refine enter Tryz.func77 rfl Tryz.ntmps77 aw (Nat.le_of_ble_eq_true rfl) fun w0 X0 hI=>?_
 refine aa [645,662,71] ?_
 refine s1 (dw de rfl rfl rfl rfl) rfl <| s1 (bE rfl) rfl <| bJ rfl (b7 false rfl (.cons (.pure pu) (.cons (.pure pu) (.cons (.pure pu) (.nil)))) (bU.cast (KU x f.lv f.nb q f.D hx) (Eu ..)) pu (.inl rfl) rfl ?_)
 refine aa [663,646,778,15] ?_
 rfl
theorem Jt (x:List UInt8) (hx:x.length=32) (f:eX) (l:List Int) (hn:l.length≤100):bU Tryz.prog 76 [.fz l.length (l.map (A.i .i64)),.fn (.func 77) [] [.fp (x.map u8),.fp (gV f)]] (cl (kg (iU x f l))):=by
 refine enter Tryz.func76 rfl Tryz.ntmps76 aw (Nat.le_of_ble_eq_true rfl) fun w0 X0 hI=>?_
 refine aa [651,648,19,667] ?_
 refine c5 (ι:=Nat) (fun i=> [(1,.fn (.func 77) [] [.fp (x.map u8),.fp (gV f)]),(4,.sl 119 1 0 (iU x f (l.take i)).length),(7,.fz l.length (l.map (A.i .i64))),(8,nJ l.length),(9,nJ i)]) (fun i=>⟨[(119,some ((iU x f (l.take i)).map iA))]⟩) (fun i=>i≤l.length) (fun i=>l.length - i) ?_ ?_
 ·exact c4 (0) (Nat.zero_le _) [(119,none)] hI rfl rfl ⟨⟨_,rfl,.pure pu⟩,⟨_,rfl,.nl rfl⟩,⟨_,rfl,.pure pu⟩,⟨_,rfl,.pure pu⟩,⟨_,rfl,.pure pu⟩,trivial⟩ ⟨.inl ⟨rfl,rfl⟩,trivial⟩
 rintro i hi
 have hwl:=Fa x f (l.take i)
 rw [List.length_take]at hwl
 refine aa [651] ?_
 refine cm rfl (fun hc10=>?_) (fun hc10=>?_)
 ·have h10 : i < l.length := by have := of_decide_eq_true hc10; omega
  obtain⟨q,hq⟩:∃q,l[i]? =some q:=⟨_,List.getElem?_eq_getElem h10⟩
  refine aa [672,58,39,660] ?_
  refine bJ rfl (p7 false rfl rfl (.cons (.pure pu) (.cons (.pure pu) (.cons (.pure pu) .nil))) (Jr x hx f q) pu (.inl rfl) rfl ?_)
  refine bH <| bF ?_
  refine cm rfl (fun hc15=>?_) (fun hc15=>?_)
  ·have hwn := HY hq hc15
   refine aa [658] ?_
   refine bJ rfl (eF 18 rfl Tryz.underlying30 bL rfl rfl rfl rfl rfl ?_)
   refine bJ rfl (dR 19 rfl Tryz.underlying30 bL rfl (.sl rfl aA) rfl (dH rfl ar) aA aC aq rfl (Bp hq hc15) rfl ?_)
   refine aa [704] ?_
   exact cO (i+1) aq aq [(119,some 19)] hI rfl rfl ⟨⟨_,rfl,.pure pu⟩,⟨_,rfl,.sl rfl ar⟩,⟨_,rfl,.pure pu⟩,⟨_,rfl,.pure pu⟩,⟨_,rfl,.pure pu⟩,trivial⟩ ⟨.inr ⟨_,_,rfl,rfl,.pure bO⟩,trivial⟩
  ·have hfm := HZ hq hc15
   have hwn:(iU x f (l.take i)).length=(iU x f (l.take (i+1))).length:=by rw [hfm]
   refine aa [717] ?_
   exact cO (i+1) aq aq [(119,some 119)] hI rfl rfl ⟨⟨_,rfl,.pure pu⟩,⟨_,rfl,.sl rfl ar⟩,⟨_,rfl,.pure pu⟩,⟨_,rfl,.pure pu⟩,⟨_,rfl,.pure pu⟩,trivial⟩ ⟨.inr ⟨_,_,rfl,rfl,.of (by rw [hfm]) (.pure bO)⟩,trivial⟩
 ·obtain rfl : i = l.length := by have := of_decide_eq_false hc10; omega
  refine aa [684,180] ?_
  refine lu 4 rfl (v':=kg (iU x f l)) aN ?_
  refine aa [649,702] ?_
  rfl
theorem Cm (x:List UInt8) (hx:x.length=32) (p q:List Int) (hp:p.length≤100) (hq100:q.length≤100):bU Tryz.prog 29 [.ag (x.map u8),.fz p.length (p.map (A.i .i64)),.fz q.length (q.map (A.i .i64))] (cl (qY x p q)):=by
 refine enter Tryz.func29 rfl Tryz.ntmps29 aw (Nat.le_of_ble_eq_true rfl) fun w0 X0 hI=>?_
 refine aa [689] ?_
 refine bJ rfl (cI 6 rfl dO rfl rfl ?_)
 refine aa [703] ?_
 rcases FV p q with hcs|hcs|hcs|hcs
 ·obtain ⟨h1, hb⟩ := hcs
  refine aa [137,649,183,37,0,725,677,679,291,90,24,668,91,107,108] ?_
  show A.tu _=_;rw [qZ hb];rfl
 ·obtain ⟨h1, h2, hb⟩ := hcs
  refine aa [137,649,183,43,716,292,140,732,679,291,90,24,668,91,107,108] ?_
  show A.tu _=_;rw [qZ hb];rfl
 ·obtain ⟨h1, h2, h3, hb⟩ := hcs
  refine aa [137,649,183,43,716,292,723,7,396,140,679,291,90,24,668,91,107,108] ?_
  show A.tu _=_;rw [qZ hb];rfl
 ·obtain ⟨h1, h2, h3, hb⟩ := hcs
  refine aa [137,649,183,43,716,292,723,7,396,92,673,675,91,1,71] ?_
  refine s1 (bX Tryz.underlying60 rfl bR az rfl rfl) rfl <| lu 30 rfl (v':= .p 6 0) rfl <| bJ rfl (ky bR rfl rfl rfl rfl rfl (by rw [show cw (A.ag (x.map u8))=x.map u8 from rfl,List.length_map,hx]) (Nat.le_of_ble_eq_true rfl) PV ?_)
  refine aa [656,680,652,9] ?_
  refine c5 (ι:=Nat) (fun n=> [(3,.fp (x.map u8)),(6,.p 6 0),(8,kg (bS x p q n).2.1),(9,kg (bS x p q n).2.2)]) (fun n=>⟨[(6,some (x.map u8++ [.sl 180 3 0 n,.nl])),(180,some ((bS x p q n).1.flatMap gV))]⟩) (fun n=>n≤16∧∀t,t<n→lH x p q t=true) (fun n=>16 - n) ?_ ?_
  ·exact c4 (0) (⟨by omega,fun t ht=>absurd ht aq⟩) [(6,some 6),(180,none)] hI rfl rfl ⟨⟨_,rfl,.pure pu⟩,⟨_,rfl,.p rfl⟩,⟨_,rfl,.pure pu⟩,⟨_,rfl,.pure pu⟩,trivial⟩ ⟨.inr ⟨_,_,rfl,rfl,.app (.pure bO) (.cons (.nl rfl) (.cons (.pure pu) .nil))⟩,.inl ⟨rfl,rfl⟩,trivial⟩
  rintro n ⟨hn,hgo⟩
  obtain⟨hal,hbl⟩:=s5 (x:=x) hp hq100 n
  have hfl:((bS x p q n).1.flatMap gV).length=n*3:=by rw [rC,ko]
  have hnb:=p8 (bS x p q n).2.1
  have hnum:=(Cc (x:=x) hb n).1
  refine aa [699,19,647] ?_
  refine ji 36 rfl (fun hc36=>?_) (fun hc36=>?_)
  ·have h36 : 0 < (bS x p q n).2.1.length := by have := of_decide_eq_true hc36; omega
   refine aa [290,397,398,763] ?_
   refine cm rfl (fun hc41=>?_) (fun hc41=>?_)
   ·have h41 : n < 16 := by have := of_decide_eq_true hc41; omega
    refine aa [681,9,645,29,184,73,0,19,101] ?_
    refine s1 (x8 (a:=4*(bS x p q n).2.1.length) (b:=8) rfl rfl rfl) rfl <| s1 (H6 (a:=max (4*(bS x p q n).2.1.length) 8) (b:=4096) (c:=ff (bS x p q n).2.1) rfl rfl rfl) rfl <| bJ rfl (b7 false rfl (.cons (.pure pu) (.cons (.pure pu) (.nil))) (bU.cast (K5 n (ff (bS x p q n).2.1)) (wO (ub h41 hnb.1 hnb.2))) pu (.inl rfl) rfl ?_)
    refine aa [671] ?_
    refine bJ rfl (cI 10 rfl de rfl rfl ?_)
    refine aa [18,692,710,648,19,667] ?_
    refine c5 (ι:=Nat) (fun k=> [(3,.fp (x.map u8)),(6,.p 6 0),(8,kg (bS x p q n).2.1),(9,kg (bS x p q n).2.2),(10,.p 10 0),(58,kg (bS x p q n).2.1),(59,nJ (bS x p q n).2.1.length),(60,nJ k)]) (fun k=>⟨[(6,some (x.map u8++ [.sl 180 3 0 n,.nl])),(180,some ((bS x p q n).1.flatMap gV)),(10,some ([nJ n,nJ (ff (bS x p q n).2.1),eU (jz x (n:Nat) (ff (bS x p q n).2.1:Nat) (mD (ff (bS x p q n).2.1)) ((bS x p q n).2.1.take k))]))]⟩) (fun k=>k≤(bS x p q n).2.1.length) (fun k=>(bS x p q n).2.1.length - k) ?_ ?_
    ·exact c4 (0) (Nat.zero_le _) [(6,some 6),(10,some 10),(180,some 180)] hI rfl rfl ⟨⟨_,rfl,.pure pu⟩,⟨_,rfl,.p rfl⟩,⟨_,rfl,.pure pu⟩,⟨_,rfl,.pure pu⟩,⟨_,rfl,.p rfl⟩,⟨_,rfl,.pure pu⟩,⟨_,rfl,.pure pu⟩,⟨_,rfl,.pure pu⟩,trivial⟩ ⟨.inr ⟨_,_,rfl,rfl,.app (.pure bO) (.cons (.sl rfl rfl) (.cons (.pure pu) .nil))⟩,.inr ⟨_,_,rfl,rfl,.pure bO⟩,.inr ⟨_,_,rfl,rfl,.of aX (.pure bO)⟩,trivial⟩
    rintro k hk
    refine aa [651] ?_
    refine cm rfl (fun hc61=>?_) (fun hc61=>?_)
    ·have h61 : k < (bS x p q n).2.1.length := by have := of_decide_eq_true hc61; omega
     obtain⟨v,hv⟩:∃v,(bS x p q n).2.1[k]? =some v:=⟨_,List.getElem?_eq_getElem h61⟩
     have hv0:=hnum v (List.mem_of_getElem? hv)
     refine aa [672,141] ?_
     refine s1 (bM bL rfl rfl (ee hv)) rfl ?_
     refine aa [662,71,142,0] ?_
     refine bJ rfl (b7 false rfl (.cons (.pure pu) (.cons (.pure pu) (.cons (.pure pu) (.nil)))) (bU.cast (KS x (n:Nat) (ff (bS x p q n).2.1:Nat) v (jz x (n:Nat) (ff (bS x p q n).2.1:Nat) (mD (ff (bS x p q n).2.1)) ((bS x p q n).2.1.take k)) hx) (BR h41 hv hv0)) pu (.inl rfl) rfl ?_)
     refine aa [671,18,664,694,717] ?_
     exact cO (k+1) aq aq [(6,some 6),(10,some 10),(180,some 180)] hI rfl rfl ⟨⟨_,rfl,.pure pu⟩,⟨_,rfl,.p rfl⟩,⟨_,rfl,.pure pu⟩,⟨_,rfl,.pure pu⟩,⟨_,rfl,.p rfl⟩,⟨_,rfl,.pure pu⟩,⟨_,rfl,.pure pu⟩,⟨_,rfl,.pure pu⟩,trivial⟩ ⟨.inr ⟨_,_,rfl,rfl,.app (.pure bO) (.cons (.sl rfl rfl) (.cons (.pure pu) .nil))⟩,.inr ⟨_,_,rfl,rfl,.pure bO⟩,.inr ⟨_,_,rfl,rfl,.pure bO⟩,trivial⟩
    ·have h61 : k = (bS x p q n).2.1.length := by have := of_decide_eq_false hc61; omega
     subst h61
     refine aa [684] ?_
     refine dP 10 (cs':=gV (lG x n (bS x p q n).2.1)) rfl (by rw [List.take_length];rfl) ?_
     refine aa [1,29,184,142] ?_
     refine bJ rfl (gC 79 rfl Tryz.underlying58 de rfl rfl rfl aD rfl rfl rfl rfl ?_)
     refine bJ rfl (dR 80 rfl Tryz.underlying58 de rfl (.sl rfl (by rw [hfl])) rfl (dH rfl ar) rfl aC aq rfl (Ca x p q n) rfl ?_)
     refine aa [29,399,656] ?_
     refine iy 10 rfl rfl bO <| bI <| s1 (bE rfl) rfl <| s1 (jJ (us:= []) (vs:= [.fp (x.map u8),.fp (gV (lG x n (bS x p q n).2.1))]) rfl rfl) rfl <| bJ rfl (b7 false rfl (.cons (.pure pu) (.cons (.pure pu) .nil)) (Jt x hx (lG x n (bS x p q n).2.1) (bS x p q n).2.2 hbl) pu (.inl rfl) rfl ?_)
     refine aa [647,682,54] ?_
     exact cO (n+1) (⟨by omega,u9 hgo (Em h36)⟩) aq [(6,some 6),(180,some 80)] hI rfl rfl ⟨⟨_,rfl,.pure pu⟩,⟨_,rfl,.p rfl⟩,⟨_,rfl,.pure pu⟩,⟨_,rfl,.pure pu⟩,trivial⟩ ⟨.inr ⟨_,_,rfl,rfl,.app (.pure bO) (.cons (.sl rfl ar) (.cons (.pure pu) .nil))⟩,.inr ⟨_,_,rfl,rfl,.pure bO⟩,trivial⟩
   ·have h41 : n = 16 := by have := of_decide_eq_false hc41; omega
    subst h41
    have hend:=zI hgo
    refine aa [683,74,400,0,401,74,185,654] ?_
    refine jL 6 32 rfl aK rfl rfl bO (dD (by rw [rC,ko]) rfl) (sy hx _ _ _) ?_
    refine jL 6 33 rfl aK rfl rfl bO (dD aA rfl) (sA hx _ _ _) ?_
    refine aa [402,1,186,403,657,187] ?_
    show A.tu _=_;rw [oA hb]
  ·have h36 : ¬ 0 < (bS x p q n).2.1.length := by have := of_decide_eq_false hc36; omega
   have hend:=DA hn hgo h36
   refine aa [688,673,683,74,400,0,401,74,185,654] ?_
   refine jL 6 32 rfl aK rfl rfl bO (dD (by rw [rC,ko]) rfl) (sy hx _ _ _) ?_
   refine jL 6 33 rfl aK rfl rfl bO (dD aA rfl) (sA hx _ _ _) ?_
   refine aa [402,1,186,403,657,187] ?_
   show A.tu _=_;rw [oA hb]
-- C4F
theorem Ox (l:List Int) (v:Int) (hn:l.length≤maxLen):bU Tryz.prog 153 [.fz l.length (l.map (A.i .i64)),.i .i64 v] (cl (.b (decide (v∈l)))):=by
 refine enter Tryz.func153 rfl Tryz.ntmps153 aw (Nat.le_of_ble_eq_true rfl) fun w0 X0 hI=>?_
 refine aa [651,3] ?_
 simp only [maxLen]at hn
 refine aa [761] ?_
 refine c5 (ι:=Nat) (fun i=> [(0,.fz l.length (l.map (A.i .i64))),(1,.i .i64 v),(5,nJ i)]) (fun i=>⟨[]⟩) (fun i=>i≤l.length∧(l.take i).any (fun e=>e==v)=false) (fun i=>l.length - i) ?_ ?_
 ·exact c4 (0) (⟨Nat.zero_le _,rfl⟩) [] hI rfl rfl ⟨⟨_,rfl,.pure pu⟩,⟨_,rfl,.pure pu⟩,⟨_,rfl,.pure pu⟩,trivial⟩ trivial
 rintro i ⟨hi,hi2⟩
 refine aa [674,765] ?_
 refine cm rfl (fun hc9=>?_) (fun hc9=>?_)
 ·have h9 : i < l.length := by have := of_decide_eq_true hc9; omega
  obtain⟨q,hq⟩:∃q,l[i]? =some q:=⟨_,List.getElem?_eq_getElem h9⟩
  refine aa [655,661,58,39,0,646] ?_
  refine cm rfl (fun hc17=>?_) (fun hc17=>?_)
  ·have h17 : q = v := by simpa using hc17
   refine aa [799] ?_
   exact congrArg A.b (decide_eq_true (h17 ▸ List.mem_of_getElem? hq)).symm
  ·skip
   refine aa [676] ?_
   exact cO (i+1) (⟨by omega,Qh hq hi2 hc17⟩) aq [] hI rfl rfl ⟨⟨_,rfl,.pure pu⟩,⟨_,rfl,.pure pu⟩,⟨_,rfl,.pure pu⟩,trivial⟩ trivial
 ·have h9 : i = l.length := by have := of_decide_eq_false hc9; omega
  subst h9
  rw [List.take_length]at hi2
  refine aa [734,15] ?_
  exact congrArg A.b (decide_eq_false (fun h=>by have:=List.any_eq_false.1 hi2 v h;simp at this)).symm
-- C4G
theorem CX (n:Int):bU Tryz.prog 121 [.i .i64 n] (cl (.ag (CV.cells (dB n)))):=by
 refine enter Tryz.func121 rfl Tryz.ntmps121 aw (Nat.le_of_ble_eq_true rfl) fun w0 X0 hI=>?_
 refine aa [767,743,93,40] ?_
 rfl
theorem C0 (l:List UInt8):bU Tryz.prog 122 [.fz l.length (l.map u8)] (cl (.ag (CV.cells (fh l)))):=by
 refine enter Tryz.func122 rfl Tryz.ntmps122 aw (Nat.le_of_ble_eq_true rfl) fun w0 X0 hI=>?_
 refine aa [767,404,743,93,40] ?_
 rfl
theorem vC (l:List CV):bU Tryz.prog 120 [.fz l.length (CV.dt l)] (cl (.ag (CV.cells (eT l)))):=by
 refine enter Tryz.func120 rfl Tryz.ntmps120 aw (Nat.le_of_ble_eq_true rfl) fun w0 X0 hI=>?_
 refine aa [767,743,40] ?_
 rfl
theorem Cr (c:dL) (hx:c.x.length=32) (hn:c.E.length≤maxLen):bU Tryz.prog 79 [.ag (fE c)] (cl (rp c)):=by
 refine enter Tryz.func79 rfl Tryz.ntmps79 aw (Nat.le_of_ble_eq_true rfl) fun w0 X0 hI=>?_
 refine aa [670,0,703] ?_
 rcases k9 (fO c)with hcs|hcs
 ·skip
  refine aa [1,59,405,664,714,757,35] ?_
  exact(vI hcs).symm
 ·obtain ⟨hF, hE, _⟩ := q9 hcs
  have hEl:=wC hE
  have hel:=tC hcs hx
  refine aa [1,59,405,664,694,711,652,645,29,72,73,667] ?_
  refine c5 (ι:=Nat) (fun i=> [(1,.p 1 0),(5,.sl 133 4 0 i),(6,.nl),(17,tK c.F),(18,nJ c.F.length),(19,nJ i)]) (fun i=>⟨[(1,some (fE c)),(133,some (CV.dt ((c.F.take i).map gf)))]⟩) (fun i=>i≤c.F.length) (fun i=>c.F.length - i) ?_ ?_
  ·exact c4 (0) (Nat.zero_le _) [(1,some 1),(133,none)] hI rfl rfl ⟨⟨_,rfl,.p rfl⟩,⟨_,rfl,.nl rfl⟩,⟨_,rfl,.pure pu⟩,⟨_,rfl,.pure pu⟩,⟨_,rfl,.pure pu⟩,⟨_,rfl,.pure pu⟩,trivial⟩ ⟨.inr ⟨_,_,rfl,rfl,.pure bO⟩,.inl ⟨rfl,rfl⟩,trivial⟩
  rintro i hi
  refine aa [651] ?_
  refine cm rfl (fun hc20=>?_) (fun hc20=>?_)
  ·have h19 : i < c.F.length := by have := of_decide_eq_true hc20; omega
   obtain⟨f,hf⟩:∃f,c.F[i]? =some f:=⟨_,List.getElem?_eq_getElem h19⟩
   refine aa [672,182,287] ?_
   refine bJ rfl (cI 8 rfl de rfl rfl ?_)
   refine aa [18,656,30] ?_
   refine bK 0 [] [(133,none)] (bE rfl) rfl rfl <| bK 1 [] [(8,none)] (bX Tryz.underlying120 rfl bL az rfl rfl) rfl rfl <| bK 2 [1] [(8,none)] (bM bL rfl rfl rfl) rfl rfl <| c7 false 3 [2] [] cz rfl (.cons (.pure pu) (.nil)) (CX f.nb) pu (.inl rfl) rfl rfl <| bK 4 [] [(8,none)] (bX Tryz.underlying120 rfl eM az rfl rfl) rfl rfl <| bK 5 [4] [(8,none)] (bM eM rfl rfl rfl) rfl rfl <| c7 false 6 [5] [] cz rfl (.cons (.pure pu) (.nil)) (C0 f.D) pu (.inl rfl) rfl rfl <| jl 30 7 [3,6] cz Tryz.underlying107 cP rfl rfl rfl aQ (show _=CV.dt [dB f.nb,fh f.D]from rfl) rfl rfl rfl rfl <| z2 30 8 [7] [(30,some 7)] cz rfl rfl bO rfl (CV.s7 [dB f.nb,fh f.D]) rfl (by exact bO) (vC [dB f.nb,fh f.D]) pu rfl rfl <| jl 32 9 [8] cz Tryz.underlying107 cP rfl rfl rfl aQ (rX (gf f)) rfl rfl rfl rfl <| gp 33 10 [0,9] [(32,some 9),(133,none)] cz Tryz.underlying107 cP rfl (.sl rfl aE) rfl (dH rfl ar) aA aC aq rfl rfl rfl rfl ?_
   refine aa [2,704] ?_
   exact cO (i+1) aq aq [(1,some 1),(133,some 33)] hI rfl rfl ⟨⟨_,rfl,.p rfl⟩,⟨_,rfl,.sl rfl ar⟩,⟨_,rfl,.pure pu⟩,⟨_,rfl,.pure pu⟩,⟨_,rfl,.pure pu⟩,⟨_,rfl,.pure pu⟩,trivial⟩ ⟨.inr ⟨_,_,rfl,rfl,.pure bO⟩,.inr ⟨_,_,rfl,rfl,.of (DQ hf) (.pure bO)⟩,trivial⟩
  ·obtain rfl : i = c.F.length := by have := of_decide_eq_false hc20; omega
   refine aa [684,3] ?_
   refine dP 133 (cs':=CV.dt (c.F.map gf)) rfl aN ?_
   refine aa [1,74] ?_
   refine s1 (bM gN rfl rfl (s6 hx)) rfl ?_
   refine aa [19,667] ?_
   refine c5 (ι:=Nat) (fun k=> [(1,.p 1 0),(5,.sl 133 4 0 c.F.length),(6,.sl 146 4 0 k),(36,kg c.E),(37,nJ c.E.length),(38,nJ k)]) (fun k=>⟨[(1,some (fE c)),(133,some (CV.dt (c.F.map gf))),(146,some (CV.dt ((c.E.take k).map dB)))]⟩) (fun k=>k≤c.E.length) (fun k=>c.E.length - k) ?_ ?_
   ·exact c4 (0) (Nat.zero_le _) [(1,some 1),(133,some 133),(146,none)] hI rfl rfl ⟨⟨_,rfl,.p rfl⟩,⟨_,rfl,.sl rfl ar⟩,⟨_,rfl,.nl rfl⟩,⟨_,rfl,.pure pu⟩,⟨_,rfl,.pure pu⟩,⟨_,rfl,.pure pu⟩,trivial⟩ ⟨.inr ⟨_,_,rfl,rfl,.pure bO⟩,.inr ⟨_,_,rfl,rfl,.pure bO⟩,.inl ⟨rfl,rfl⟩,trivial⟩
   rintro k hk
   refine aa [651] ?_
   refine cm rfl (fun hc39=>?_) (fun hc39=>?_)
   ·have h30 : k < c.E.length := by have := of_decide_eq_true hc39; omega
    obtain⟨q,hq⟩:∃q,c.E[k]? =some q:=⟨_,List.getElem?_eq_getElem h30⟩
    refine aa [672,141,39,646,658] ?_
    refine bJ rfl (b7 false rfl (.cons (.pure pu) (.nil)) (CX q) pu (.inl rfl) rfl ?_)
    refine bJ rfl (gC 45 rfl Tryz.underlying107 cP rfl rfl rfl aQ (rX (dB q)) rfl rfl rfl ?_)
    refine bJ rfl (dR 46 rfl Tryz.underlying107 cP rfl (.sl rfl aE) rfl (dH rfl ar) aA aC aq rfl rfl rfl ?_)
    refine aa [704] ?_
    exact cO (k+1) aq aq [(1,some 1),(133,some 133),(146,some 46)] hI rfl rfl ⟨⟨_,rfl,.p rfl⟩,⟨_,rfl,.sl rfl ar⟩,⟨_,rfl,.sl rfl ar⟩,⟨_,rfl,.pure pu⟩,⟨_,rfl,.pure pu⟩,⟨_,rfl,.pure pu⟩,trivial⟩ ⟨.inr ⟨_,_,rfl,rfl,.pure bO⟩,.inr ⟨_,_,rfl,rfl,.pure bO⟩,.inr ⟨_,_,rfl,rfl,.of (EA hq) (.pure bO)⟩,trivial⟩
   ·obtain rfl : k = c.E.length := by have := of_decide_eq_false hc39; omega
    refine aa [684,406,188,1] ?_
    refine s1 (cR Tryz.underlying60 rfl bR az rfl rfl) rfl <| s1 ((nv (ds:=((fE c).drop (0*1)).take (32*1)) 32 Tryz.underlying23 cr rfl aI bn bn (Nat.zero_le _) (Nat.le_refl _) aH rfl rfl).v (Cl hx)) rfl <| bJ rfl (b7 false rfl (.cons (.pure pu) (.nil)) (C0 c.x) pu (.inl rfl) rfl ?_)
    refine s1 (bE rfl) rfl <| bJ rfl (wK 51 rfl rfl bO aA (sE aA) rfl (by exact bO) (vC (c.F.map gf)) pu rfl ?_)
    refine s1 (bE rfl) rfl <| bJ rfl (wK 53 rfl rfl bO aA (sE aA) rfl (by exact bO) (vC (c.E.map dB)) pu rfl ?_)
    refine bJ rfl (gC 55 rfl Tryz.underlying107 cP rfl rfl rfl aQ (show _=CV.dt [fh c.x,eT (c.F.map gf),eT (c.E.map dB)]from rfl) rfl rfl rfl ?_)
    refine bJ rfl (wK 55 rfl rfl bO rfl (CV.s7 [fh c.x,eT (c.F.map gf),eT (c.E.map dB)]) rfl (by exact bO) (vC [fh c.x,eT (c.F.map gf),eT (c.E.map dB)]) pu rfl ?_)
    refine bJ rfl (b7 false rfl (.cons (.pure pu) (.nil)) (bU.cast (Cs 3 0 [] [fh c.x,eT (c.F.map gf),eT (c.E.map dB)] (Hm hcs hx) (AP hcs) (Nat.le_trans hel aq)) (Dx hcs)) pu (.inl rfl) rfl ?_)
    refine aa [671,650,35] ?_
    exact(vJ hcs).symm
theorem Co (c:dL) (hx:c.x.length=32) (hn:c.E.length≤maxLen):bU Tryz.prog 31 [.ag (fE c)] (cl (rk c)):=by
 refine enter Tryz.func31 rfl Tryz.ntmps31 aw (Nat.le_of_ble_eq_true rfl) fun w0 X0 hI=>?_
 refine aa [670,28,659] ?_
 rcases k9 (fO c)with hcs|hcs
 ·skip
  refine aa [1,59] ?_
  refine bJ rfl (b7 false rfl (.cons (.pure pu) (.nil)) (bU.cast (Cr c hx hn) (vI hcs)) pu (.inl rfl) rfl ?_)
  refine aa [764,645] ?_
  refine s1 (cu bR rfl rfl rfl) rfl ?_
  refine aa [0,5,715,407] ?_
  exact(Dd hcs).symm
 ·have hel := tC hcs hx
  refine aa [1,59] ?_
  refine bJ rfl (b7 false rfl (.cons (.pure pu) (.nil)) (bU.cast (Cr c hx hn) (vJ hcs)) pu (.inl rfl) rfl ?_)
  refine aa [708,694,711] ?_
  refine bJ rfl (b7 false rfl (.cons (.pure pu) (.cons (.pure pu) (.nil))) (bU.cast (kB xO (iH c).enc aq az) (congrArg (fun l:List UInt8=>A.ag (l.map u8)) (zx c).symm)) pu (.inl rfl) rfl ?_)
  refine aa [5,657,408] ?_
  exact(rl hcs).symm
end Go.Abs.D2
