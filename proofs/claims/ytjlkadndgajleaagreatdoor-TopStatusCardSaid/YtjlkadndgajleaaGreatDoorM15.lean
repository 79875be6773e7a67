/-
  The engine, the plain laws and the walks that the rows need, part 15. Conditions: none.
-/
import Derived.Test.YtjlkadndgajleaaGreatDoorM14
set_option linter.unusedVariables false
set_option linter.unusedSimpArgs false
set_option maxHeartbeats 1000000
set_option maxRecDepth 10000
-- E5C
namespace Go.Abs.D2
open Go Go.Eng Go.Abs Go.Proofs
theorem tM (n:Int):bO Tryz.prog 51 [.i .i64 n] (cn (.ag (CV.cells (dF n)))):=by
 refine enter Tryz.func51 rfl Tryz.ntmps51 aw (Nat.le_of_ble_eq_true rfl) fun w0 X0 hI=>?_
 refine aa [444,75,486,76,44,457] ?_
 refine lL 2 rfl yo ?_
 refine aa [77] ?_
 rfl
theorem Et (l:List CV):bO Tryz.prog 50 [.fz l.length (CV.dA l)] (cn (.ag (CV.cells (fc l)))):=by
 refine enter Tryz.func50 rfl Tryz.ntmps50 aw (Nat.le_of_ble_eq_true rfl) fun w0 X0 hI=>?_
 refine aa [444,75,486,76,44,457,77] ?_
 rfl
theorem Me:bO Tryz.prog 50 [.nl] (cn (.ag [.i .i64 3,.i .i64 0,.s [],.nl])):=by
 refine enter Tryz.func50 rfl Tryz.ntmps50 aw (Nat.le_of_ble_eq_true rfl) fun w0 X0 hI=>?_
 refine aa [444,75,486,76,44,457,77] ?_
 rfl
theorem EI (x:List UInt8) (hx:x.length=32):bO Tryz.prog 53 [.ag (x.map u8)] (cn (.ag (CV.cells (fK x)))):=by
 refine enter Tryz.func53 rfl Tryz.ntmps53 aw (Nat.le_of_ble_eq_true rfl) fun w0 X0 hI=>?_
 refine aa [496,75,456] ?_
 refine fS 1 rfl rfl bL <| bJ <| s1 ((uR (ds:=((x.map u8).drop (0*1)).take (32*1)) 32 Tryz.underlying23 cc rfl aJ bn bn (Nat.zero_le _) (Nat.le_refl _) aI rfl rfl).v (zK hx)) rfl <| s1 (sQ Tryz.underlying47 Tryz.underlying5 Tryz.underlying9 rfl rfl (by rw [hx])) rfl ?_
 refine aa [76,44,457] ?_
 refine lL 2 rfl yo ?_
 refine aa [77] ?_
 rfl
theorem rv (e:Ep) (h:e.ok):bO Tryz.prog 22 [.ag e.cells] (cn (.ag ((fk e).map u8))):=by
 refine enter Tryz.func22 rfl Tryz.ntmps22 aw (Nat.le_of_ble_eq_true rfl) fun w0 X0 hI=>?_
 refine aa [496,68,456] ?_
 have hfew:=h.k5
 refine bJ <| bK rfl (bX false rfl (.cons (.pure pu) .nil) (Me) pu (.inl rfl) rfl ?_)
 refine bK rfl (cB 3 rfl da rfl rfl ?_)
 refine aa [44,456,444,221,111,125,459] ?_
 refine cO (ι:=Nat) (fun i=> [(1,.p 1 0),(2,.p 2 0),(3,.p 3 0),(10,gD e.ch),(11,nJ e.ch.length),(12,nJ i)]) (fun i=>⟨[(1,some (e.cells)),(2,some (zD.map u8)),(3,some ([.i .i64 3,.i .i64 0,.s [],.sl 127 4 0 i])),(127,some (CV.dA ((e.ch.take i).map iE)))]⟩) (fun i=>i≤e.ch.length) (fun i=>e.ch.length - i) ?_ ?_
 ·exact cN (0) (Nat.zero_le _) [(1,some 1),(2,some 2),(3,some 3),(127,none)] hI rfl rfl ⟨⟨_,rfl,.p rfl⟩,⟨_,rfl,.p rfl⟩,⟨_,rfl,.p rfl⟩,⟨_,rfl,.pure pu⟩,⟨_,rfl,.pure pu⟩,⟨_,rfl,.pure pu⟩,trivial⟩ ⟨.inr ⟨_,_,rfl,rfl,.pure bL⟩,.inr ⟨_,_,rfl,rfl,.pure bL⟩,.inr ⟨_,_,rfl,rfl,.cons (.pure pu) (.cons (.pure pu) (.cons (.pure pu) (.cons (.nl rfl) .nil)))⟩,.inl ⟨rfl,rfl⟩,trivial⟩
 rintro i hi
 refine aa [448] ?_
 refine b7 rfl (fun hc13=>?_) (fun hc13=>?_)
 ·have h13 : i < e.ch.length := by have := of_decide_eq_true hc13; omega
  obtain⟨c,hc⟩:∃c,e.ch[i]? =some c:=⟨_,List.getElem?_eq_getElem h13⟩
  refine aa [462,126] ?_
  refine s1 (eX jc rfl rfl (zE hc) rfl) rfl <| bK rfl (cB 5 rfl jc rfl rfl ?_)
  refine aa [264,460] ?_
  refine eG ⟨_, [], []⟩ 13 4 c8 (le_refl rfl) <| bQ 0 [] [(3,none)] (ct Tryz.underlying118 rfl j4 az rfl rfl) rfl rfl <| bQ 1 [0] [(3,none)] (bM j4 rfl rfl rfl) rfl rfl <| bQ 2 [] [(5,none)] (ct Tryz.underlying57 rfl bP az rfl rfl) rfl rfl <| bQ 3 [2] [(5,none)] (bM bP rfl rfl rfl) rfl rfl <| ee false 4 [3] [] cK rfl (.cons (.pure pu) (.nil)) (tM c.id) pu (.inl rfl) rfl rfl <| bQ 5 [] [(5,none)] (ct Tryz.underlying57 rfl bP az rfl rfl) rfl rfl <| bQ 6 [5] [(5,none)] (bM bP rfl rfl rfl) rfl rfl <| ee false 7 [6] [] cK rfl (.cons (.pure pu) (.nil)) (tM c.st) pu (.inl rfl) rfl rfl <| ni 24 8 [4,7] cK Tryz.underlying116 da rfl rfl rfl (by simp [cU]) (show _=CV.dA [dF c.id,dF c.st]from rfl) rfl rfl rfl rfl <| Ax 24 9 [8] [(24,some 8)] cK rfl rfl bL rfl (CV.tz [dF c.id,dF c.st]) rfl (by exact bL) (Et [dF c.id,dF c.st]) pu rfl rfl <| ni 26 10 [9] cK Tryz.underlying116 da rfl rfl rfl (by simp [cU]) (Bb (iE c)) rfl rfl rfl rfl <| k6 27 11 [1,10] [(26,some 10),(127,none)] cK Tryz.underlying116 da rfl (.sl rfl aE) rfl (dE rfl aq) aB aC ar rfl rfl rfl rfl <| bQ 12 [] [(3,none)] (ct Tryz.underlying118 rfl j4 az rfl rfl) rfl rfl <| eH aw <| bK rfl (cV j4 rfl rfl rfl rfl aq rfl ?_)
  refine aa [472] ?_
  exact cz (i+1) ar ar [(1,some 1),(2,some 2),(3,some 3),(127,some 27)] hI rfl rfl ⟨⟨_,rfl,.p rfl⟩,⟨_,rfl,.p rfl⟩,⟨_,rfl,.p rfl⟩,⟨_,rfl,.pure pu⟩,⟨_,rfl,.pure pu⟩,⟨_,rfl,.pure pu⟩,trivial⟩ ⟨.inr ⟨_,_,rfl,rfl,.pure bL⟩,.inr ⟨_,_,rfl,rfl,.pure bL⟩,.inr ⟨_,_,rfl,rfl,.cons (.pure pu) (.cons (.pure pu) (.cons (.pure pu) (.cons (.sl rfl aB) .nil)))⟩,.inr ⟨_,_,rfl,rfl,.of (KY hc) (.pure bL)⟩,trivial⟩
 ·obtain rfl : i = e.ch.length := by have := of_decide_eq_false hc13; omega
  refine aa [463] ?_
  refine ep 127 (cs':=CV.dA (e.ch.map iE)) rfl aG <| kY 3 3 rfl rfl rfl rfl bL (B6 aB) rfl <| eG ⟨_, [], []⟩ 23 4 c8 (le_refl rfl) <| bQ 0 [] [(1,none)] (ct Tryz.underlying42 rfl bP az rfl rfl) rfl rfl ?_
  refine aa [136] ?_
  refine ee false 2 [1] [] cK rfl (.cons (.pure pu) (.nil)) (tM e.iss) pu (.inl rfl) rfl rfl <| bQ 3 [] [(1,none)] (ct Tryz.underlying42 rfl bP az rfl rfl) rfl rfl <| bQ 4 [3] [(1,none)] (bM bP rfl rfl rfl) rfl rfl <| ee false 5 [4] [] cK rfl (.cons (.pure pu) (.nil)) (tM e.no) pu (.inl rfl) rfl rfl <| bQ 6 [] [(1,none)] (ct Tryz.underlying42 rfl bP az rfl rfl) rfl rfl <| bQ 7 [6] [(1,none)] (bM bP rfl rfl rfl) rfl rfl <| ee false 8 [7] [] cK rfl (.cons (.pure pu) (.nil)) (tM e.day) pu (.inl rfl) rfl rfl <| bQ 9 [] [(3,none)] ((cg da rfl rfl rfl).v (v':= .ag (CV.cells (fc (e.ch.map iE)))) (congrArg (fun n:Nat=>A.ag [.i .i64 3,.i .i64 0,.s [],.fz n (CV.dA (e.ch.map iE))]) (show e.ch.length=(e.ch.map iE).length by rw [List.length_map]))) rfl rfl <| bQ 10 [] [(1,none)] (ct Tryz.underlying42 rfl b5 az rfl rfl) rfl rfl <| bQ 11 [10] [(1,none)] (eX b5 rfl rfl (Ez h) (by simp [h.dw])) rfl rfl <| ee false 12 [11] [] cK rfl (.cons (.pure pu) (.nil)) (EI e.dw h.dw) pu (.inl rfl) rfl rfl <| bQ 13 [] [(1,none)] (ct Tryz.underlying42 rfl b5 az rfl rfl) rfl rfl <| bQ 14 [13] [(1,none)] (eX b5 rfl rfl (EA h) (by simp [h.prev])) rfl rfl <| ee false 15 [14] [] cK rfl (.cons (.pure pu) (.nil)) (EI e.prev h.prev) pu (.inl rfl) rfl rfl <| ni 47 16 [2,5,8,9,12,15] cK Tryz.underlying116 da rfl rfl rfl (by simp [cU]) (show _=CV.dA [dF e.iss,dF e.no,dF e.day,fc (e.ch.map iE),fK e.dw,fK e.prev]from rfl) rfl rfl rfl rfl <| Ax 47 17 [16] [(47,some 16)] cK rfl rfl bL rfl (CV.tz [dF e.iss,dF e.no,dF e.day,fc (e.ch.map iE),fK e.dw,fK e.prev]) rfl (by exact bL) (Et [dF e.iss,dF e.no,dF e.day,fc (e.ch.map iE),fK e.dw,fK e.prev]) pu rfl rfl <| ee false 18 [17] [] cK rfl (.cons (.pure pu) (.nil)) (bO.cast (Du 3 0 [] [dF e.iss,dF e.no,dF e.day,fc (e.ch.map iE),fK e.dw,fK e.prev] (Sc h) (QP h) (Nat.le_trans (Ac h) ar)) (Mg e)) pu (.inl rfl) rfl rfl <| bQ 19 [18] [] (bF rfl) rfl rfl <| bQ 20 [19] [] (bF rfl) rfl rfl <| bQ 21 [19] [] (bF rfl) rfl rfl <| bQ 22 [20] [] (bF rfl) rfl rfl ?_
  refine aa [4,452] ?_
  have hel:=Ac h
  refine aa [450] ?_
  refine bK rfl (bX false rfl (.cons (.pure pu) (.cons (.pure pu) (.nil))) (bO.cast (kB BR (kZ e).enc ar az) (congrArg (fun l:List UInt8=>A.ag (l.map u8)) (vX e).symm)) pu (.inl rfl) rfl ?_)
  refine aa [9,457] ?_
  refine bW (rs:= [.cell 2 23]) rfl (c9 b5 rfl rfl (List.take_of_length_le aB) aB bR) ?_
  rfl
-- E5H
theorem Ef (l:List Ep) (day:Int) (hl:ga l) (hn:l.length≤maxLen):bO Tryz.prog 7 [fa l,.i .i64 day] (cn (za (oT l day))):=by
 refine enter Tryz.func7 rfl Tryz.ntmps7 aw (Nat.le_of_ble_eq_true rfl) fun w0 X0 hI=>?_
 refine bH ?_
 simp only [maxLen]at hn
 refine aa [1,39,491,38] ?_
 refine s1 (uI rfl rfl ar ar) rfl ?_
 refine aa [510] ?_
 refine cO (ι:=Nat) (fun j=> [(0,fa l),(1,.i .i64 day),(6,.i .i64 ((j:Int) - 1))]) (fun j=>⟨[]⟩) (fun j=>j≤l.length∧oT l day=lK l day j) (fun j=>j) ?_ ?_
 ·exact cN (l.length) (⟨Nat.le_refl _,zb l day⟩) [] hI rfl rfl ⟨⟨_,rfl,.pure pu⟩,⟨_,rfl,.pure pu⟩,⟨_,rfl,.pure pu⟩,trivial⟩ trivial
 rintro j ⟨hj,hst⟩
 refine aa [533] ?_
 refine b7 rfl (fun hc11=>?_) (fun hc11=>?_)
 ·have h11 : 0 < j := by have := of_decide_eq_true hc11; omega
  obtain⟨m,rfl⟩:∃m,j=m+1:=⟨j - 1,by omega⟩
  obtain⟨e,he⟩:∃e,l[m]? =some e:=⟨_,List.getElem?_eq_getElem ar⟩
  refine bY <| bG <| bH <| bZ <| bH <| gr 6 rfl (v':=nJ m) (congrArg (A.i .i64) ar) ?_
  refine aa [451] ?_
  refine s1 (cD m Tryz.underlying29 eo rfl rfl rfl ar rfl) rfl <| s1 (fV Tryz.underlying42 rfl bP az rfl rfl) rfl <| s1 (bM bP rfl rfl (ry hl he (k:=2) rfl az)) rfl ?_
  refine aa [0,447] ?_
  refine b7 rfl (fun hc20=>?_) (fun hc20=>?_)
  ·have h20 : e.day ≤ day := by have := of_decide_eq_true hc20; omega
   refine aa [453,449,495,35] ?_
   exact congrArg za (hst.trans (C3 he h20)).symm
  ·have h20 : ¬ e.day ≤ day := by have := of_decide_eq_false hc20; omega
   refine aa [19,552] ?_
   refine s1 (uI rfl rfl ar ar) rfl ?_
   refine aa [476] ?_
   exact cz (m) (⟨by omega,hst.trans (C2 he h20)⟩) ar [] hI rfl rfl ⟨⟨_,rfl,.pure pu⟩,⟨_,rfl,.pure pu⟩,⟨_,rfl,.of (rfl:_=A.i .i64 ((m:Int) - 1)) (.pure pu)⟩,trivial⟩ trivial
 ·have h11 : j = 0 := by have := of_decide_eq_false hc11; omega
  subst h11
  refine aa [483,39,449,35] ?_
  exact congrArg za hst.symm
-- E5D
theorem En (l:List Ep) (hl:ga l) (hn:l.length≤maxLen):lE Tryz.prog 39 [fa l] ⟨[]⟩ (fun r st=>∃σ,dU l=some σ∧qX (mapOf σ) r st) (fun u=>dU l=none∧u=ku 107 351):=by
 refine Mn Tryz.func39 rfl Tryz.ntmps39 aw (Nat.le_of_ble_eq_true rfl) fun w0 X0 hI hS=>?_
 refine ri <| rh ?_
 simp only [maxLen]at hn
 refine bJ <| bK rfl (kx 1 rfl rfl rfl rfl ?_)
 refine s1 (bF rfl) rfl <| bI <| bG <| ri <| rh <| bJ ?_
 refine bK rfl (A2 rfl rfl fun b8=>?_)
 refine ep 700 (cs':= [.mc b8 (mapOf σ0)]) rfl (congrArg (fun f=> [A.mc b8 f]) ON) <| s1 (bF rfl) rfl <| bI <| bG <| ri <| rh ?_
 refine aa [1,29,460] ?_
 refine ri <| rh <| bJ <| bK rfl (cB 5 rfl bP rfl rfl ?_)
 refine bK rfl (cB 6 rfl bP rfl rfl ?_)
 refine aa [145,145,460] ?_
 refine ri <| ri <| rh <| bJ <| s1 (bM iy rfl rfl rfl) rfl <| s1 (bF rfl) rfl <| bK rfl (bX false rfl (.cons (.pure pu) (.cons (.pure pu) (.nil))) (L9 l b8) pu (.inl rfl) rfl ?_)
 refine bI <| bG <| JW ?_
 refine J3 [1,4,5,6,700] [(0,_),(1,_),(3,_),(4,_),(5,_),(6,_),(8,_),(9,_),(10,_),(11,_)] hI rfl ⟨rfl,⟨rfl,⟨rfl,⟨rfl,⟨rfl,⟨rfl,⟨rfl,⟨rfl,⟨rfl,⟨rfl,trivial⟩⟩⟩⟩⟩⟩⟩⟩⟩⟩ aD rfl Tryz.func126 rfl Tryz.ntmps126 aw (Nat.le_of_ble_eq_true rfl) fun w1 l1 D1 rc1 hR1 hF1=>?_
 refine bH <| bJ <| s1 (bM iy rfl rfl rfl) rfl ?_
 refine aa [38,459] ?_
 refine cO (ι:=Nat×(Int→Int)×Int×List UInt8) (fun⟨i,τ,day,prev⟩=> [(0,yv l1),(1,.fp [fa l]),(2,.fp [.raw (.map (some b8))]),(6,fa l),(7,nJ l.length),(8,nJ i)]) (fun⟨i,τ,day,prev⟩=>⟨[(1,some ([fa l])),(4,some (prev.map u8)),(5,some ([nJ i])),(6,some ([.i .i64 day])),(700,some ([.mc b8 (mapOf τ)]))]⟩) (fun⟨i,τ,day,prev⟩=>i≤l.length∧prev.length=32∧dU l=fN (lX l) i day prev τ (l.drop i)) (fun⟨i,τ,day,prev⟩=>l.length - i) ?_ ?_
 ·exact cN ((0,σ0, -1,zD)) (⟨Nat.zero_le _,rfl,lU l⟩) [(1,some 1),(4,some 4),(5,some 5),(6,some 6),(700,some 700)] hR1.sub.ids rfl rfl ⟨⟨_,rfl,.pure trivial⟩,⟨_,rfl,.pure pu⟩,⟨_,rfl,.pure pu⟩,⟨_,rfl,.pure pu⟩,⟨_,rfl,.pure pu⟩,⟨_,rfl,.pure pu⟩,trivial⟩ ⟨.inr ⟨_,_,rfl,rfl,.pure bL⟩,.inr ⟨_,_,rfl,rfl,.of rfl (.pure bL)⟩,.inr ⟨_,_,rfl,rfl,.of (rfl:_= [nJ 0]) (.pure bL)⟩,.inr ⟨_,_,rfl,rfl,.of (rfl:_= [A.i .i64 (-1)]) (.pure bL)⟩,.inr ⟨_,_,rfl,rfl,.pure bL⟩,trivial⟩
 rintro⟨i,τ,day,prev⟩ ⟨hi,hpl,hst⟩
 dsimp only
 refine aa [448] ?_
 refine b7 rfl (fun hc9=>?_) (fun hc9=>?_)
 ·have h9 : i < l.length := by have := of_decide_eq_true hc9; omega
  obtain⟨e,he⟩:∃e,l[i]? =some e:=⟨_,List.getElem?_eq_getElem h9⟩
  have hok:=hl e (List.mem_of_getElem? he)
  obtain⟨e0,he0⟩:∃e0,l[0]? =some e0:=⟨_,List.getElem?_eq_getElem ar⟩
  have hi0:=NP he0
  have hpv:=hok.prev
  refine aa [462,318,222] ?_
  refine bK rfl (cB 1005 rfl eo rfl rfl ?_)
  refine aa [146,456,445] ?_
  refine s1 (cg eo rfl rfl hok.len) rfl ?_
  refine aa [223] ?_
  refine nc [1,4,5,6,700,1005] [(0,_),(1,_),(2,_),(5,_),(6,_),(7,_),(8,_),(9,_),(10,_),(11,_),(12,_),(13,_),(14,_)] hR1 hR1.sub.ids rfl ⟨rfl,⟨rfl,⟨rfl,⟨rfl,⟨rfl,⟨rfl,⟨rfl,⟨rfl,⟨rfl,⟨rfl,⟨rfl,⟨rfl,⟨rfl,trivial⟩⟩⟩⟩⟩⟩⟩⟩⟩⟩⟩⟩⟩ aD rfl rfl rfl rfl rfl fun w2 tm2 hd2=>?_
  refine bJ <| bK rfl (cB 7 rfl eo rfl rfl ?_)
  refine aa [146,8] ?_
  refine m9 hd2 fun w3 hd3=>?_
  refine bZ <| bH ?_
  rcases NQ e.iss e0.iss with hcs|hcs|hcs|hcs
  ·have hq := hcs
   refine aa [147,148,149,150,151,152,153] ?_
   refine t1 ((bF rfl).v (v':= .b false) (congrArg A.b (beq_eq_false_iff_ne.2 ar))) rfl ?_
   refine aa [6,45,45,45,473,45,45,45,6,10] ?_
   refine gS ⟨[]⟩ false rfl trivial (.cons (.pure pu) (.cons (.pure pu) .nil)) (kH 351) (fun u hu=>?_)
   refine dt <| fE ?_
   refine th ((congrArg (fun f=>Tryz.prog.funcs[f]?) hF1).trans Tryz.func39) hR1 hd3 fun w4 hR4=>?_
   refine aa [517,517] ?_
   refine rj hR4 hS <| fE <| dt ?_
   exact rk rfl rfl rfl hS (dn:= [D1]) rfl rfl aB ⟨hst.trans (rE he (.inl (Af ar))),hu⟩
  ·obtain ⟨hq, h0⟩ := hcs
   refine aa [147,148,149,150,151,152,153,224,6,112,113,320,473,45,45,45,6,10] ?_
   refine gS ⟨[]⟩ false rfl trivial (.cons (.pure pu) (.cons (.pure pu) .nil)) (kH 351) (fun u hu=>?_)
   refine dt <| fE ?_
   refine th ((congrArg (fun f=>Tryz.prog.funcs[f]?) hF1).trans Tryz.func39) hR1 hd3 fun w5 hR5=>?_
   refine aa [517,517] ?_
   refine rj hR5 hS <| fE <| dt ?_
   exact rk rfl rfl rfl hS (dn:= [D1]) rfl rfl aB ⟨hst.trans (rE he (.inl (Af ar))),hu⟩
  ·obtain ⟨hq, h0, h8⟩ := hcs
   refine aa [147,148,149,150,151,152,153,224,6,112,113,225,473,112,113,320,6,10] ?_
   refine gS ⟨[]⟩ false rfl trivial (.cons (.pure pu) (.cons (.pure pu) .nil)) (kH 351) (fun u hu=>?_)
   refine dt <| fE ?_
   refine th ((congrArg (fun f=>Tryz.prog.funcs[f]?) hF1).trans Tryz.func39) hR1 hd3 fun w6 hR6=>?_
   refine aa [517,517] ?_
   refine rj hR6 hS <| fE <| dt ?_
   exact rk rfl rfl rfl hS (dn:= [D1]) rfl rfl aB ⟨hst.trans (rE he (.inl (Af ar))),hu⟩
  ·have hq := hcs
   obtain⟨hq1,h0,h8⟩:=hcs
   refine aa [147,148,149,150,151,152,153,224,6,112,113,225,473,112,113,225,6,10,40,454,226,2,2,446] ?_
   refine gF 5 rfl rfl rfl rfl (fun hb36=> .step (ct Tryz.underlying42 rfl j5 az rfl rfl) rfl rfl<| .step (ct Tryz.underlying40 rfl bP az rfl rfl) rfl rfl<| .step (bM bP rfl rfl (Mu hok)) rfl rfl<| .step (bM bP rfl rfl rfl) rfl rfl<| .step (bF rfl) rfl rfl<| .done) rfl rfl <| s1 (bF rfl) rfl <| gF 4 rfl rfl rfl rfl (fun hb43=> .step (ct Tryz.underlying42 rfl b5 az rfl rfl) rfl rfl<| .step (eX b5 rfl rfl (EA hok) (by simp [hok.prev])) rfl rfl<| .step (cg b5 rfl rfl (by rw [List.length_map,hpl])) rfl rfl<| .step (IN Tryz.underlying23 Tryz.underlying5 cc aw rfl rfl aU aU) rfl rfl<| .done) rfl rfl ?_
   refine kX 48 rfl (fun hc48=>?_) (fun hc48=>?_)
   ·skip
    refine aa [40,454,226,2,2,446] ?_
    refine gF 3 rfl rfl rfl rfl (fun hb54=> .step (ct Tryz.underlying42 rfl bP az rfl rfl) rfl rfl<| .step (bM bP rfl rfl rfl) rfl rfl<| .step (bF rfl) rfl rfl<| .done) rfl rfl ?_
    refine kX 58 rfl (fun hc58=>?_) (fun hc58=>?_)
    ·skip
     refine aa [40,460,55] ?_
     refine bQ 0 [] [(5,none)] (bM bP rfl rfl rfl) rfl rfl <| bQ 1 [0] [] (cl i 1 rfl rfl rfl rfl ar) rfl rfl <| bQ 2 [] [(7,none)] (ct Tryz.underlying42 rfl bP az rfl rfl) rfl rfl <| bQ 3 [2] [(7,none)] (bM bP rfl rfl rfl) rfl rfl <| bQ 4 [] [(7,none)] (cg eo rfl rfl hok.len) rfl rfl <| ee false 5 [4] [] cK rfl (.cons (.pure pu) (.nil)) (rv e hok) pu (.inl rfl) rfl rfl <| M6 0 6 [1] [(5,none)] rfl cK bP rfl rfl rfl rfl aq rfl rfl ?_
     refine aa [4,145] ?_
     refine bK rfl (cu b5 rfl rfl rfl aB (by simp [hpl]) ?_)
     refine aa [503,90,468,461] ?_
     rcases nL (fy τ (-1) e.ch)with hcs|hcs
     ·skip
      refine aa [1,223,221,111] ?_
      refine gS ⟨[(700,some [.mc b8 (mapOf τ)])]⟩ false rfl ⟨⟨rfl,cv.pure bL⟩,trivial⟩ (.cons (.pure pu) (.cons (.pure pu) .nil)) (z6 (Nat.le_trans hok.k5 az) hcs) (fun u hu=>?_)
      refine fE <| dt <| dt <| fE <| rj hR1 hS <| fE <| dt ?_
      exact rk rfl rfl rfl hS (dn:= [D1]) rfl rfl aB ⟨hst.trans (rE he (.inr hcs)),hu.2⟩
     ·skip
      refine aa [1,223,221,111] ?_
      refine bK rfl (oz ⟨[(700,some [.mc b8 (mapOf τ)])]⟩ [(700, [.mc b8 (mapOf (cF τ e.ch))])] false rfl ⟨⟨rfl,cv.pure bL⟩,trivial⟩ (.cons (.pure pu) (.cons (.pure pu) .nil)) (zZ (Nat.le_trans hok.k5 az) hcs) pu (.inl rfl) (fun p hp=>by rw [List.mem_singleton.1 hp];exact⟨⟨_,rfl⟩,bL,.inl rfl⟩) rfl ?_)
      refine aa [472] ?_
      exact cz (x:=(i,τ,day,prev)) ((i+1,cF τ e.ch,e.day,fk e)) (⟨show i+1≤l.length by omega,Ol e,hst.trans (M1 he (Mt hi0 hq (by simpa using hc48) (by simpa using hc58)) hcs)⟩) (show l.length - (i+1)<l.length - i by omega) [(1,some 1),(4,some 4),(5,some 5),(6,some 6),(700,some 700)] hR1.sub.ids rfl rfl ⟨⟨_,rfl,.pure trivial⟩,⟨_,rfl,.pure pu⟩,⟨_,rfl,.pure pu⟩,⟨_,rfl,.pure pu⟩,⟨_,rfl,.pure pu⟩,⟨_,rfl,.pure pu⟩,trivial⟩ ⟨.inr ⟨_,_,rfl,rfl,.pure bL⟩,.inr ⟨_,_,rfl,rfl,.pure bL⟩,.inr ⟨_,_,rfl,rfl,.of (rfl:_= [nJ (i+1)]) (.pure bL)⟩,.inr ⟨_,_,rfl,rfl,.of (rfl:_= [A.i .i64 e.day]) (.pure bL)⟩,.inr ⟨_,_,rfl,rfl,.pure bL⟩,trivial⟩
    ·skip
     refine gS ⟨[]⟩ false rfl trivial (.cons (.pure pu) (.cons (.pure pu) .nil)) (kH 351) (fun u hu=>?_)
     refine dt <| fE ?_
     refine th ((congrArg (fun f=>Tryz.prog.funcs[f]?) hF1).trans Tryz.func39) hR1 hd3 fun w7 hR7=>?_
     refine aa [517,517] ?_
     refine rj hR7 hS <| fE <| dt ?_
     exact rk rfl rfl rfl hS (dn:= [D1]) rfl rfl aB ⟨hst.trans (rE he (.inl (Ms (by simpa using hc58)))),hu⟩
   ·skip
    refine gS ⟨[]⟩ false rfl trivial (.cons (.pure pu) (.cons (.pure pu) .nil)) (kH 351) (fun u hu=>?_)
    refine dt <| fE ?_
    refine th ((congrArg (fun f=>Tryz.prog.funcs[f]?) hF1).trans Tryz.func39) hR1 hd3 fun w8 hR8=>?_
    refine aa [517,517] ?_
    refine rj hR8 hS <| fE <| dt ?_
    exact rk rfl rfl rfl hS (dn:= [D1]) rfl rfl aB ⟨hst.trans (rE he (.inl (Mr (by simpa using hc48)))),hu⟩
 ·obtain rfl : i = l.length := by have := of_decide_eq_false hc9; omega
  rw [List.drop_length]at hst
  refine aa [527,108,545] ?_
  refine rh ?_
  refine aa [445,449] ?_
  refine J5 (rs:= [.tmp 2]) rfl rfl rfl hS (dn:= [D1]) rfl rfl aB rfl (bT rfl bR) ?_
  exact⟨τ,hst,b8,rfl,rfl⟩
theorem Eo {l:List Ep} (hl:ga l) (hn:l.length≤maxLen) {σ:Int→Int} (h:dU l=some σ):bO Tryz.prog 39 [fa l] (qX (mapOf σ)):=(En l hl hn).ret (fun r st ⟨τ,h1,h2⟩=>by rw [h]at h1;cases h1;exact h2) fun u hu=>by rw [h]at hu;cases hu.1
theorem Es {l:List Ep} (hl:ga l) (hn:l.length≤maxLen) (h:dU l=none):lF Tryz.prog 39 [fa l] ⟨[]⟩ (fun u=>dU l=none∧u=ku 107 351):=(En l hl hn).xB fun r st ⟨τ,h1,_⟩=>by rw [h]at h1;cases h1
end Go.Abs.D2
