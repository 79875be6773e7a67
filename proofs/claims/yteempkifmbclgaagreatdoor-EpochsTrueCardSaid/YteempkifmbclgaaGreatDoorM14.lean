/-
  The engine, the plain laws and the walks that the rows need, part 14. Conditions: none.
-/
import Derived.Test.YteempkifmbclgaaGreatDoorM13
set_option linter.unusedVariables false
set_option linter.unusedSimpArgs false
set_option maxHeartbeats 1000000
set_option maxRecDepth 10000
-- C4G
namespace Go.Abs.D2
open Go Go.Eng Go.Abs Go.Proofs
theorem Au (n:Int):aw Tryz.prog 121 [.i .i64 n] (aO (.ag (CV.cells (bH n)))):=by
 refine enter Tryz.func121 rfl Tryz.ntmps121 (by kernel_rfl) (Nat.le_of_ble_eq_true rfl) fun w0 X0 hI=>?_
 refine af<|ai ?_
 refine aj rfl (bg 2 rfl bd rfl rfl ?_)
 refine ah<|ae<|af<|ai<|s1 (aa rfl) rfl<|s1 (eE (out:= [_,_,_,_]) [[aQ (.int .i64 0)], [aQ (.int .i64 0)], [aQ (.string ByteArray.empty)], [aQ (.slice none 0 0)]] bd rfl Tryz.underlying109 (by kernel_rfl) rfl rfl ⟨⟨by(first|rfl|omega|(simp;done)|(simp [*];done)|(simp [aU, *];done)),rfl⟩,⟨⟨by(first|rfl|omega|(simp;done)|(simp [*];done)|(simp [aU, *];done)),rfl⟩,trivial⟩⟩ rfl) rfl ?_
 refine aj rfl (ba bd rfl rfl rfl (by first|rfl|omega|(simp<;>omega)|(simp [*]<;>omega)) (by first|rfl|omega|(simp<;>omega)|(simp [*]<;>omega)) ?_)
 refine ah<|ae<|aB ?_
 refine iM 2 rfl rE ?_
 refine aC (rs:= [.cell 2 109]) rfl (cw bd rfl rfl rfl rfl az) ?_
 rfl
theorem Av (l:List UInt8):aw Tryz.prog 122 [.fz l.length (l.map u8)] (aO (.ag (CV.cells (cY l)))):=by
 refine enter Tryz.func122 rfl Tryz.ntmps122 (by kernel_rfl) (Nat.le_of_ble_eq_true rfl) fun w0 X0 hI=>?_
 refine af<|ai ?_
 refine aj rfl (bg 2 rfl bd rfl rfl ?_)
 refine ah<|ae<|af<|ai<|s1 (aa rfl) rfl<|s1 (k6 Tryz.underlying68 Tryz.underlying5 Tryz.underlying9 rfl rfl (by simp)) rfl<|s1 (eE (out:= [_,_,_,_]) [[aQ (.int .i64 0)], [aQ (.int .i64 0)], [aQ (.string ByteArray.empty)], [aQ (.slice none 0 0)]] bd rfl Tryz.underlying109 (by kernel_rfl) rfl rfl ⟨⟨by(first|rfl|omega|(simp;done)|(simp [*];done)|(simp [aU, *];done)),rfl⟩,⟨⟨by(first|rfl|omega|(simp;done)|(simp [*];done)|(simp [aU, *];done)),rfl⟩,trivial⟩⟩ rfl) rfl ?_
 refine aj rfl (ba bd rfl rfl rfl (by first|rfl|omega|(simp<;>omega)|(simp [*]<;>omega)) (by first|rfl|omega|(simp<;>omega)|(simp [*]<;>omega)) ?_)
 refine ah<|ae<|aB ?_
 refine iM 2 rfl rE ?_
 refine aC (rs:= [.cell 2 109]) rfl (cw bd rfl rfl rfl rfl az) ?_
 rfl
theorem sG (l:List CV):aw Tryz.prog 120 [.fz l.length (CV.bz l)] (aO (.ag (CV.cells (cR l)))):=by
 refine enter Tryz.func120 rfl Tryz.ntmps120 (by kernel_rfl) (Nat.le_of_ble_eq_true rfl) fun w0 X0 hI=>?_
 refine af<|ai ?_
 refine aj rfl (bg 2 rfl bd rfl rfl ?_)
 refine ah<|ae<|af<|ai<|s1 (aa rfl) rfl<|s1 (eE (out:= [_,_,_,_]) [[aQ (.int .i64 0)], [aQ (.int .i64 0)], [aQ (.string ByteArray.empty)], [aQ (.slice none 0 0)]] bd rfl Tryz.underlying109 (by kernel_rfl) rfl rfl ⟨⟨by(first|rfl|omega|(simp;done)|(simp [*];done)|(simp [aU, *];done)),rfl⟩,⟨⟨by(first|rfl|omega|(simp;done)|(simp [*];done)|(simp [aU, *];done)),rfl⟩,trivial⟩⟩ rfl) rfl ?_
 refine aj rfl (ba bd rfl rfl rfl (by first|rfl|omega|(simp<;>omega)|(simp [*]<;>omega)) (by first|rfl|omega|(simp<;>omega)|(simp [*]<;>omega)) ?_)
 refine ah<|ae<|aB ?_
 refine aC (rs:= [.cell 2 109]) rfl (cw bd rfl rfl rfl rfl az) ?_
 rfl
theorem zY (c:bQ) (hx:c.x.length=32) (hn:c.E.length≤maxLen):aw Tryz.prog 79 [.ag (eH c)] (aO (encCA c)):=by
 refine enter Tryz.func79 rfl Tryz.ntmps79 (by kernel_rfl) (Nat.le_of_ble_eq_true rfl) fun w0 X0 hI=>?_
 refine af<|ai ?_
 refine aj rfl (bF 1 rfl rfl rfl ?_)
 refine s1 (aa rfl) rfl<|s1 ((aa rfl).v (v':= .i .i64 0) rfl) rfl ?_
 refine ah<|ae<|af<|af ?_
 rcases mI (dK c)with hcs|hcs
 ·skip
  refine ai<|s1 (aG dZ rfl rfl (gf hx)) rfl ?_
  refine aj rfl (aF false rfl (.cons (.pure pu) (.nil)) (aw.cast (zT c hx hn) (congrArg (fun b=>A.i .i64 (wL b)) hcs)) pu (.inl rfl) rfl ?_)
  refine s1 (aa rfl) rfl ?_
  refine ah<|ae<|af<|ai<|s1 (aa rfl) rfl<|s1 ((aa rfl).v (v':= .b true) (rfl)) rfl ?_
  refine ah<|ae ?_
  refine cN rfl ?_
  refine af<|ai<|s1 (aa rfl) rfl<|s1 (aa rfl) rfl<|s1 (aa rfl) rfl ?_
  refine ah<|ae<|aB<|aN ?_
  refine aC (rs:= [.tmp 2,.tmp 3]) rfl (aA rfl (aA rfl az)) ?_
  exact(A2 hcs).symm
 ·obtain ⟨hF, hE, _⟩ := sD hcs
  have hEl:=Cu hE
  have hel:=wF hcs hx
  refine ai<|s1 (aG dZ rfl rfl (gf hx)) rfl ?_
  refine aj rfl (aF false rfl (.cons (.pure pu) (.nil)) (aw.cast (zT c hx hn) (congrArg (fun b=>A.i .i64 (wL b)) hcs)) pu (.inl rfl) rfl ?_)
  refine s1 (aa rfl) rfl ?_
  refine ah<|ae<|af<|ai<|s1 (aa rfl) rfl<|s1 ((aa rfl).v (v':= .b false) (rfl)) rfl ?_
  refine ah<|ae ?_
  refine bO rfl ?_
  refine aE<|ae<|af<|ai<|s1 (aa rfl) rfl<|s1 (aa rfl) rfl ?_
  refine ah<|ae<|af<|af<|ai<|s1 (aD Tryz.underlying60 rfl iH (by decide) rfl rfl) rfl<|s1 (au iH rfl rfl (vQ hx)) rfl<|s1 (a7 Tryz.underlying58 rfl rfl rfl) rfl<|s1 ((aa rfl).v (v':= .i .i64 0) rfl) rfl ?_
  refine ah<|ae<|aI ?_
  refine bD (ι:=Nat) (fun i=> [(1,.p 1 0),(5,.sl 133 4 0 i),(6,.nl),(17,qD c.F),(18,nJ c.F.length),(19,nJ i)]) (fun i=>⟨[(1,some (eH c)),(133,some (CV.bz ((c.F.take i).map fI)))]⟩) (fun i=>i≤c.F.length) (fun i=>c.F.length - i) ?_ ?_
  ·exact bC (0) (Nat.zero_le _) [(1,some 1),(133,none)] hI rfl rfl ⟨⟨_,rfl,.p rfl⟩,⟨_,rfl,.nl rfl⟩,⟨_,rfl,.pure pu⟩,⟨_,rfl,.pure pu⟩,⟨_,rfl,.pure pu⟩,⟨_,rfl,.pure pu⟩,trivial⟩ ⟨.inr ⟨_,_,rfl,rfl,.pure ak⟩,.inl ⟨rfl,rfl⟩,trivial⟩
  rintro i hi
  refine af<|ai<|s1 (aa rfl) rfl ?_
  refine ah<|ae<|af ?_
  refine aK rfl (fun hc20=>?_) (fun hc20=>?_)
  ·have h19 : i < c.F.length := by have := of_decide_eq_true hc20; omega
   obtain⟨f,hf⟩:∃f,c.F[i]? =some f:=⟨_,List.getElem?_eq_getElem h19⟩
   refine aE<|ae<|af<|aI<|af<|ai<|s1 (bb i Tryz.underlying58 cD rfl rfl rfl (by omega) rfl) rfl<|s1 (bp cD rfl rfl (Bu hf) rfl) rfl ?_
   refine aj rfl (bg 8 rfl cD rfl rfl ?_)
   refine aj rfl (ba cD rfl rfl rfl (by first|rfl|omega|(simp<;>omega)|(simp [*]<;>omega)) (by first|rfl|omega|(simp<;>omega)|(simp [*]<;>omega)) ?_)
   refine ah<|ae ?_
   refine cr ⟨_, [], []⟩ 11 4 br (le_refl rfl) ?_
   refine aq 0 [] [(133,none)] (aa rfl) rfl rfl ?_
   refine aq 1 [] [(8,none)] (aD Tryz.underlying120 rfl an (by decide) rfl rfl) rfl rfl ?_
   refine aq 2 [1] [(8,none)] (au an rfl rfl rfl) rfl rfl ?_
   refine bL false 3 [2] [] aV rfl (.cons (.pure pu) (.nil)) (Au f.nb) pu (.inl rfl) rfl rfl ?_
   refine aq 4 [] [(8,none)] (aD Tryz.underlying120 rfl ec (by decide) rfl rfl) rfl rfl ?_
   refine aq 5 [4] [(8,none)] (au ec rfl rfl rfl) rfl rfl ?_
   refine bL false 6 [5] [] aV rfl (.cons (.pure pu) (.nil)) (Av f.D) pu (.inl rfl) rfl rfl ?_
   refine kE 30 7 [3,6] aV Tryz.underlying107 bd rfl rfl rfl (by simp [aU]) (show _=CV.bz [bH f.nb,cY f.D]from rfl) rfl rfl rfl rfl ?_
   refine wY 30 8 [7] [(30,some 7)] aV rfl rfl ak rfl (CV.qh [bH f.nb,cY f.D]) rfl (by exact ak) (sG [bH f.nb,cY f.D]) pu rfl rfl ?_
   refine kE 32 9 [8] aV Tryz.underlying107 bd rfl rfl rfl (by simp [aU]) (ud (fI f)) rfl rfl rfl rfl ?_
   refine gV 33 10 [0,9] [(32,some 9),(133,none)] aV Tryz.underlying107 bd rfl (.sl rfl (by simp;omega)) rfl (c8 rfl (by first|rfl|omega|(simp<;>omega)|(simp [*]<;>omega))) (by simp) (by simp only [maxLen];omega) (by omega) rfl rfl rfl rfl ?_
   refine ct (by kernel_rfl) ?_
   refine s1 (aa rfl) rfl ?_
   refine ah<|a8<|ae<|ai<|s1 (aZ _ 1 rfl rfl rfl rfl (by omega)) rfl<|s1 (aa rfl) rfl ?_
   refine ah ?_
   exact bf (i+1) (by omega) (by omega) [(1,some 1),(133,some 33)] hI rfl rfl ⟨⟨_,rfl,.p rfl⟩,⟨_,rfl,.sl rfl (by first|rfl|omega|(simp<;>omega)|(simp [*]<;>omega))⟩,⟨_,rfl,.pure pu⟩,⟨_,rfl,.pure pu⟩,⟨_,rfl,.pure pu⟩,⟨_,rfl,.pure pu⟩,trivial⟩ ⟨.inr ⟨_,_,rfl,rfl,.pure ak⟩,.inr ⟨_,_,rfl,rfl,.of (Ij hf) (.pure ak)⟩,trivial⟩
  ·obtain rfl : i = c.F.length := by have := of_decide_eq_false hc20; omega
   refine bx<|aM<|aM<|bA<|ae<|af<|af ?_
   refine cI 133 (cs':=CV.bz (c.F.map fI)) rfl (by rw [List.take_length]) ?_
   refine ai<|s1 (aD Tryz.underlying60 rfl ie (by decide) rfl rfl) rfl<|s1 (au ie rfl rfl (zP hx)) rfl<|s1 (a7 Tryz.underlying30 rfl rfl rfl) rfl<|s1 ((aa rfl).v (v':= .i .i64 0) rfl) rfl ?_
   refine ah<|ae<|aI ?_
   refine bD (ι:=Nat) (fun k=> [(1,.p 1 0),(5,.sl 133 4 0 c.F.length),(6,.sl 146 4 0 k),(36,jV c.E),(37,nJ c.E.length),(38,nJ k)]) (fun k=>⟨[(1,some (eH c)),(133,some (CV.bz (c.F.map fI))),(146,some (CV.bz ((c.E.take k).map bH)))]⟩) (fun k=>k≤c.E.length) (fun k=>c.E.length - k) ?_ ?_
   ·exact bC (0) (Nat.zero_le _) [(1,some 1),(133,some 133),(146,none)] hI rfl rfl ⟨⟨_,rfl,.p rfl⟩,⟨_,rfl,.sl rfl (by first|rfl|omega|(simp<;>omega)|(simp [*]<;>omega))⟩,⟨_,rfl,.nl rfl⟩,⟨_,rfl,.pure pu⟩,⟨_,rfl,.pure pu⟩,⟨_,rfl,.pure pu⟩,trivial⟩ ⟨.inr ⟨_,_,rfl,rfl,.pure ak⟩,.inr ⟨_,_,rfl,rfl,.pure ak⟩,.inl ⟨rfl,rfl⟩,trivial⟩
   rintro k hk
   refine af<|ai<|s1 (aa rfl) rfl ?_
   refine ah<|ae<|af ?_
   refine aK rfl (fun hc39=>?_) (fun hc39=>?_)
   ·have h30 : k < c.E.length := by have := of_decide_eq_true hc39; omega
    obtain⟨q,hq⟩:∃q,c.E[k]? =some q:=⟨_,List.getElem?_eq_getElem h30⟩
    refine aE<|ae<|af<|aI<|af<|ai<|s1 (bb k Tryz.underlying30 an rfl rfl rfl (by omega) rfl) rfl<|s1 (au an rfl rfl (oM hq)) rfl<|s1 (aa rfl) rfl ?_
    refine ah<|ae<|ai<|s1 (aa rfl) rfl<|s1 (aa rfl) rfl ?_
    refine aj rfl (aF false rfl (.cons (.pure pu) (.nil)) (Au q) pu (.inl rfl) rfl ?_)
    refine aj rfl (gC 45 rfl Tryz.underlying107 bd rfl rfl rfl (by simp [aU]) (ud (bH q)) rfl rfl rfl ?_)
    refine aj rfl (dB 46 rfl Tryz.underlying107 bd rfl (.sl rfl (by simp;omega)) rfl (c8 rfl (by first|rfl|omega|(simp<;>omega)|(simp [*]<;>omega))) (by simp) (by simp only [maxLen];omega) (by omega) rfl rfl rfl ?_)
    refine s1 (aa rfl) rfl ?_
    refine ah<|a8<|ae<|ai<|s1 (aZ _ 1 rfl rfl rfl rfl (by omega)) rfl<|s1 (aa rfl) rfl ?_
    refine ah ?_
    exact bf (k+1) (by omega) (by omega) [(1,some 1),(133,some 133),(146,some 46)] hI rfl rfl ⟨⟨_,rfl,.p rfl⟩,⟨_,rfl,.sl rfl (by first|rfl|omega|(simp<;>omega)|(simp [*]<;>omega))⟩,⟨_,rfl,.sl rfl (by first|rfl|omega|(simp<;>omega)|(simp [*]<;>omega))⟩,⟨_,rfl,.pure pu⟩,⟨_,rfl,.pure pu⟩,⟨_,rfl,.pure pu⟩,trivial⟩ ⟨.inr ⟨_,_,rfl,rfl,.pure ak⟩,.inr ⟨_,_,rfl,rfl,.pure ak⟩,.inr ⟨_,_,rfl,rfl,.of (I8 hq) (.pure ak)⟩,trivial⟩
   ·obtain rfl : k = c.E.length := by have := of_decide_eq_false hc39; omega
    refine bx<|aM<|aM<|bA<|ae<|af ?_
    refine cI 146 (cs':=CV.bz (c.E.map bH)) rfl (by rw [List.take_length]) ?_
    refine fe 1 rfl rfl ak ?_
    refine ai<|s1 (dz Tryz.underlying60 rfl ar (by decide) rfl rfl) rfl<|s1 ((nQ (ds:=((eH c).drop (0*1)).take (32*1)) 32 Tryz.underlying23 aR rfl (by simp [maxLen]) bn bn (Nat.zero_le _) (Nat.le_refl _) (by simp [hx]) rfl rfl).v (Gr hx)) rfl ?_
    refine aj rfl (aF false rfl (.cons (.pure pu) (.nil)) (Av c.x) pu (.inl rfl) rfl ?_)
    refine s1 (aa rfl) rfl ?_
    refine aj rfl (tP 51 rfl rfl ak (by simp) (uP (by simp)) rfl (by exact ak) (sG (c.F.map fI)) pu rfl ?_)
    refine s1 (aa rfl) rfl ?_
    refine aj rfl (tP 53 rfl rfl ak (by simp) (uP (by simp)) rfl (by exact ak) (sG (c.E.map bH)) pu rfl ?_)
    refine aj rfl (gC 55 rfl Tryz.underlying107 bd rfl rfl rfl (by simp [aU]) (show _=CV.bz [cY c.x,cR (c.F.map fI),cR (c.E.map bH)]from rfl) rfl rfl rfl ?_)
    refine aj rfl (tP 55 rfl rfl ak rfl (CV.qh [cY c.x,cR (c.F.map fI),cR (c.E.map bH)]) rfl (by exact ak) (sG [cY c.x,cR (c.F.map fI),cR (c.E.map bH)]) pu rfl ?_)
    refine aj rfl (aF false rfl (.cons (.pure pu) (.nil)) (aw.cast (zZ 3 0 [] [cY c.x,cR (c.F.map fI),cR (c.E.map bH)] (MZ hcs hx) (DQ hcs) (Nat.le_trans hel (by omega))) (HK hcs)) pu (.inl rfl) rfl ?_)
    refine s1 (aa rfl) rfl<|s1 (aa rfl) rfl<|s1 (aa rfl) rfl<|s1 (aa rfl) rfl ?_
    refine ah<|ae<|aB ?_
    refine aC (rs:= [.tmp 2,.tmp 3]) rfl (aA rfl (aA rfl az)) ?_
    exact(A3 hcs).symm
theorem zU (c:bQ) (hx:c.x.length=32) (hn:c.E.length≤maxLen):aw Tryz.prog 31 [.ag (eH c)] (aO (digCA c)):=by
 refine enter Tryz.func31 rfl Tryz.ntmps31 (by kernel_rfl) (Nat.le_of_ble_eq_true rfl) fun w0 X0 hI=>?_
 refine af<|ai ?_
 refine aj rfl (bF 1 rfl rfl rfl ?_)
 refine aj rfl (bg 2 rfl ar rfl rfl ?_)
 refine s1 ((aa rfl).v (v':= .i .i64 0) rfl) rfl ?_
 refine ah<|ae<|af ?_
 rcases mI (dK c)with hcs|hcs
 ·skip
  refine ai<|s1 (aG dZ rfl rfl (gf hx)) rfl ?_
  refine aj rfl (aF false rfl (.cons (.pure pu) (.nil)) (aw.cast (zY c hx hn) (A2 hcs)) pu (.inl rfl) rfl ?_)
  refine s1 (aa rfl) rfl<|s1 (aa rfl) rfl<|s1 (aa rfl) rfl<|s1 (aa rfl) rfl<|s1 (aa rfl) rfl ?_
  refine ah<|ae<|af<|af<|ai<|s1 (aa rfl) rfl<|s1 ((aa rfl).v (v':= .b true) (rfl)) rfl ?_
  refine ah<|ae ?_
  refine cN rfl ?_
  refine af<|ai<|s1 (aG ar rfl rfl rfl) rfl<|s1 (aa rfl) rfl ?_
  refine aj rfl (ba ar rfl rfl rfl (by first|rfl|omega|(simp<;>omega)|(simp [*]<;>omega)) (by first|rfl|omega|(simp<;>omega)|(simp [*]<;>omega)) ?_)
  refine s1 (aa rfl) rfl ?_
  refine ah<|ae<|aB<|aN ?_
  refine aC (rs:= [.cell 2 23,.tmp 3]) rfl (cw ar rfl rfl rfl rfl (aA rfl az)) ?_
  exact(Hv hcs).symm
 ·have hel := wF hcs hx
  refine ai<|s1 (aG dZ rfl rfl (gf hx)) rfl ?_
  refine aj rfl (aF false rfl (.cons (.pure pu) (.nil)) (aw.cast (zY c hx hn) (A3 hcs)) pu (.inl rfl) rfl ?_)
  refine s1 (aa rfl) rfl<|s1 (aa rfl) rfl<|s1 (aa rfl) rfl<|s1 (aa rfl) rfl<|s1 (aa rfl) rfl ?_
  refine ah<|ae<|af<|af<|ai<|s1 (aa rfl) rfl<|s1 ((aa rfl).v (v':= .b false) (rfl)) rfl ?_
  refine ah<|ae ?_
  refine bO rfl ?_
  refine aE<|ae<|af<|ai<|s1 (aa rfl) rfl ?_
  refine aj rfl (aF false rfl (.cons (.pure pu) (.cons (.pure pu) (.nil))) (aw.cast (ib yx (fR c).enc (by omega) (by decide)) (congrArg (fun l:List UInt8=>A.ag (l.map u8)) (AK c).symm)) pu (.inl rfl) rfl ?_)
  refine aj rfl (ba ar rfl rfl rfl (by first|rfl|omega|(simp<;>omega)|(simp [*]<;>omega)) (by first|rfl|omega|(simp<;>omega)|(simp [*]<;>omega)) ?_)
  refine s1 ((aa rfl).v (v':= .i .i64 0) rfl) rfl ?_
  refine ah<|ae<|aB ?_
  refine aC (rs:= [.cell 2 23,.tmp 3]) rfl (cw ar rfl rfl (List.take_of_length_le (by simp)) (by simp) (aA rfl az)) ?_
  exact(wx hcs).symm
end Go.Abs.D2
-- E5C
namespace Go.Abs.D2
open Go Go.Eng Go.Abs Go.Proofs
theorem qy (n:Int):aw Tryz.prog 68 [.i .i64 n] (aO (.ag (CV.cells (bH n)))):=by
 refine enter Tryz.func68 rfl Tryz.ntmps68 (by kernel_rfl) (Nat.le_of_ble_eq_true rfl) fun w0 X0 hI=>?_
 refine af<|ai ?_
 refine aj rfl (bg 2 rfl bd rfl rfl ?_)
 refine ah<|ae<|af<|ai<|s1 (aa rfl) rfl<|s1 (eE (out:= [_,_,_,_]) [[aQ (.int .i64 0)], [aQ (.int .i64 0)], [aQ (.string ByteArray.empty)], [aQ (.slice none 0 0)]] bd rfl Tryz.underlying109 (by kernel_rfl) rfl rfl ⟨⟨by(first|rfl|omega|(simp;done)|(simp [*];done)|(simp [aU, *];done)),rfl⟩,⟨⟨by(first|rfl|omega|(simp;done)|(simp [*];done)|(simp [aU, *];done)),rfl⟩,trivial⟩⟩ rfl) rfl ?_
 refine aj rfl (ba bd rfl rfl rfl (by first|rfl|omega|(simp<;>omega)|(simp [*]<;>omega)) (by first|rfl|omega|(simp<;>omega)|(simp [*]<;>omega)) ?_)
 refine ah<|ae<|aB ?_
 refine iM 2 rfl rE ?_
 refine aC (rs:= [.cell 2 109]) rfl (cw bd rfl rfl rfl rfl az) ?_
 rfl
theorem AY (l:List CV):aw Tryz.prog 67 [.fz l.length (CV.bz l)] (aO (.ag (CV.cells (cR l)))):=by
 refine enter Tryz.func67 rfl Tryz.ntmps67 (by kernel_rfl) (Nat.le_of_ble_eq_true rfl) fun w0 X0 hI=>?_
 refine af<|ai ?_
 refine aj rfl (bg 2 rfl bd rfl rfl ?_)
 refine ah<|ae<|af<|ai<|s1 (aa rfl) rfl<|s1 (eE (out:= [_,_,_,_]) [[aQ (.int .i64 0)], [aQ (.int .i64 0)], [aQ (.string ByteArray.empty)], [aQ (.slice none 0 0)]] bd rfl Tryz.underlying109 (by kernel_rfl) rfl rfl ⟨⟨by(first|rfl|omega|(simp;done)|(simp [*];done)|(simp [aU, *];done)),rfl⟩,⟨⟨by(first|rfl|omega|(simp;done)|(simp [*];done)|(simp [aU, *];done)),rfl⟩,trivial⟩⟩ rfl) rfl ?_
 refine aj rfl (ba bd rfl rfl rfl (by first|rfl|omega|(simp<;>omega)|(simp [*]<;>omega)) (by first|rfl|omega|(simp<;>omega)|(simp [*]<;>omega)) ?_)
 refine ah<|ae<|aB ?_
 refine aC (rs:= [.cell 2 109]) rfl (cw bd rfl rfl rfl rfl az) ?_
 rfl
theorem HJ:aw Tryz.prog 67 [.nl] (aO (.ag [.i .i64 3,.i .i64 0,.s [],.nl])):=by
 refine enter Tryz.func67 rfl Tryz.ntmps67 (by kernel_rfl) (Nat.le_of_ble_eq_true rfl) fun w0 X0 hI=>?_
 refine af<|ai ?_
 refine aj rfl (bg 2 rfl bd rfl rfl ?_)
 refine ah<|ae<|af<|ai<|s1 (aa rfl) rfl<|s1 (eE (out:= [_,_,_,_]) [[aQ (.int .i64 0)], [aQ (.int .i64 0)], [aQ (.string ByteArray.empty)], [aQ (.slice none 0 0)]] bd rfl Tryz.underlying109 (by kernel_rfl) rfl rfl ⟨⟨by(first|rfl|omega|(simp;done)|(simp [*];done)|(simp [aU, *];done)),rfl⟩,⟨⟨by(first|rfl|omega|(simp;done)|(simp [*];done)|(simp [aU, *];done)),rfl⟩,trivial⟩⟩ rfl) rfl ?_
 refine aj rfl (ba bd rfl rfl rfl (by first|rfl|omega|(simp<;>omega)|(simp [*]<;>omega)) (by first|rfl|omega|(simp<;>omega)|(simp [*]<;>omega)) ?_)
 refine ah<|ae<|aB ?_
 refine aC (rs:= [.cell 2 109]) rfl (cw bd rfl rfl rfl rfl az) ?_
 rfl
theorem Bf (x:List UInt8) (hx:x.length=32):aw Tryz.prog 70 [.ag (x.map u8)] (aO (.ag (CV.cells (cY x)))):=by
 refine enter Tryz.func70 rfl Tryz.ntmps70 (by kernel_rfl) (Nat.le_of_ble_eq_true rfl) fun w0 X0 hI=>?_
 refine af<|ai ?_
 refine aj rfl (bF 1 rfl rfl rfl ?_)
 refine aj rfl (bg 2 rfl bd rfl rfl ?_)
 refine ah<|ae<|af ?_
 refine fe 1 rfl rfl ak ?_
 refine ai<|s1 ((nQ (ds:=((x.map u8).drop (0*1)).take (32*1)) 32 Tryz.underlying23 aR rfl (by simp [maxLen]) bn bn (Nat.zero_le _) (Nat.le_refl _) (by simp [hx]) rfl rfl).v (v8 hx)) rfl<|s1 (k6 Tryz.underlying68 Tryz.underlying5 Tryz.underlying9 rfl rfl (by rw [hx])) rfl<|s1 (eE (out:= [_,_,_,_]) [[aQ (.int .i64 0)], [aQ (.int .i64 0)], [aQ (.string ByteArray.empty)], [aQ (.slice none 0 0)]] bd rfl Tryz.underlying109 (by kernel_rfl) rfl rfl ⟨⟨by(first|rfl|omega|(simp;done)|(simp [*];done)|(simp [aU, *];done)),rfl⟩,⟨⟨by(first|rfl|omega|(simp;done)|(simp [*];done)|(simp [aU, *];done)),rfl⟩,trivial⟩⟩ rfl) rfl ?_
 refine aj rfl (ba bd rfl rfl rfl (by first|rfl|omega|(simp<;>omega)|(simp [*]<;>omega)) (by first|rfl|omega|(simp<;>omega)|(simp [*]<;>omega)) ?_)
 refine ah<|ae<|aB ?_
 refine iM 2 rfl rE ?_
 refine aC (rs:= [.cell 2 109]) rfl (cw bd rfl rfl rfl rfl az) ?_
 rfl
theorem lq (e:Ep) (h:e.ok):aw Tryz.prog 22 [.ag e.cells] (aO (.ag ((bR e).map u8))):=by
 refine enter Tryz.func22 rfl Tryz.ntmps22 (by kernel_rfl) (Nat.le_of_ble_eq_true rfl) fun w0 X0 hI=>?_
 refine af<|ai ?_
 refine aj rfl (bF 1 rfl rfl rfl ?_)
 refine aj rfl (bg 2 rfl ar rfl rfl ?_)
 refine ah<|ae<|af ?_
 have hfew:=h.gy
 refine ai ?_
 refine aj rfl (aF false rfl (.cons (.pure pu) .nil) (HJ) pu (.inl rfl) rfl ?_)
 refine aj rfl (bg 3 rfl bd rfl rfl ?_)
 refine aj rfl (ba bd rfl rfl rfl (by first|rfl|omega|(simp<;>omega)|(simp [*]<;>omega)) (by first|rfl|omega|(simp<;>omega)|(simp [*]<;>omega)) ?_)
 refine ah<|ae<|af<|af<|ai<|s1 (aD Tryz.underlying45 rfl cl (by decide) rfl rfl) rfl<|s1 (au cl rfl rfl rfl) rfl<|s1 (a7 Tryz.underlying31 rfl rfl rfl) rfl<|s1 ((aa rfl).v (v':= .i .i64 0) rfl) rfl ?_
 refine ah<|ae<|aI ?_
 refine bD (ι:=Nat) (fun i=> [(1,.p 1 0),(2,.p 2 0),(3,.p 3 0),(10,dS e.ch),(11,nJ e.ch.length),(12,nJ i)]) (fun i=>⟨[(1,some (e.cells)),(2,some (zD.map u8)),(3,some ([.i .i64 3,.i .i64 0,.s [],.sl 127 4 0 i])),(127,some (CV.bz ((e.ch.take i).map dh)))]⟩) (fun i=>i≤e.ch.length) (fun i=>e.ch.length - i) ?_ ?_
 ·exact bC (0) (Nat.zero_le _) [(1,some 1),(2,some 2),(3,some 3),(127,none)] hI rfl rfl ⟨⟨_,rfl,.p rfl⟩,⟨_,rfl,.p rfl⟩,⟨_,rfl,.p rfl⟩,⟨_,rfl,.pure pu⟩,⟨_,rfl,.pure pu⟩,⟨_,rfl,.pure pu⟩,trivial⟩ ⟨.inr ⟨_,_,rfl,rfl,.pure ak⟩,.inr ⟨_,_,rfl,rfl,.pure ak⟩,.inr ⟨_,_,rfl,rfl,.cons (.pure pu) (.cons (.pure pu) (.cons (.pure pu) (.cons (.nl rfl) .nil)))⟩,.inl ⟨rfl,rfl⟩,trivial⟩
 rintro i hi
 refine af<|ai<|s1 (aa rfl) rfl ?_
 refine ah<|ae<|af ?_
 refine aK rfl (fun hc13=>?_) (fun hc13=>?_)
 ·have h13 : i < e.ch.length := by have := of_decide_eq_true hc13; omega
  obtain⟨c,hc⟩:∃c,e.ch[i]? =some c:=⟨_,List.getElem?_eq_getElem h13⟩
  refine aE<|ae<|af<|aI<|af<|ai<|s1 (bb i Tryz.underlying31 dD rfl rfl rfl (by omega) rfl) rfl<|s1 (bp dD rfl rfl (ql hc) rfl) rfl ?_
  refine aj rfl (bg 5 rfl dD rfl rfl ?_)
  refine aj rfl (ba dD rfl rfl rfl (by first|rfl|omega|(simp<;>omega)|(simp [*]<;>omega)) (by first|rfl|omega|(simp<;>omega)|(simp [*]<;>omega)) ?_)
  refine ah<|ae ?_
  refine cr ⟨_, [], []⟩ 13 4 br (le_refl rfl) ?_
  refine aq 0 [] [(3,none)] (aD Tryz.underlying109 rfl cJ (by decide) rfl rfl) rfl rfl ?_
  refine aq 1 [0] [(3,none)] (au cJ rfl rfl rfl) rfl rfl ?_
  refine aq 2 [] [(5,none)] (aD Tryz.underlying55 rfl an (by decide) rfl rfl) rfl rfl ?_
  refine aq 3 [2] [(5,none)] (au an rfl rfl rfl) rfl rfl ?_
  refine bL false 4 [3] [] aV rfl (.cons (.pure pu) (.nil)) (qy c.id) pu (.inl rfl) rfl rfl ?_
  refine aq 5 [] [(5,none)] (aD Tryz.underlying55 rfl an (by decide) rfl rfl) rfl rfl ?_
  refine aq 6 [5] [(5,none)] (au an rfl rfl rfl) rfl rfl ?_
  refine bL false 7 [6] [] aV rfl (.cons (.pure pu) (.nil)) (qy c.st) pu (.inl rfl) rfl rfl ?_
  refine kE 24 8 [4,7] aV Tryz.underlying107 bd rfl rfl rfl (by simp [aU]) (show _=CV.bz [bH c.id,bH c.st]from rfl) rfl rfl rfl rfl ?_
  refine wY 24 9 [8] [(24,some 8)] aV rfl rfl ak rfl (CV.qh [bH c.id,bH c.st]) rfl (by exact ak) (AY [bH c.id,bH c.st]) pu rfl rfl ?_
  refine kE 26 10 [9] aV Tryz.underlying107 bd rfl rfl rfl (by simp [aU]) (ud (dh c)) rfl rfl rfl rfl ?_
  refine gV 27 11 [1,10] [(26,some 10),(127,none)] aV Tryz.underlying107 bd rfl (.sl rfl (by simp;omega)) rfl (c8 rfl (by first|rfl|omega|(simp<;>omega)|(simp [*]<;>omega))) (by simp) (by simp only [maxLen];omega) (by omega) rfl rfl rfl rfl ?_
  refine aq 12 [] [(3,none)] (aD Tryz.underlying109 rfl cJ (by decide) rfl rfl) rfl rfl ?_
  refine ct (by kernel_rfl) ?_
  refine aj rfl (bX cJ rfl rfl rfl rfl (by first|rfl|omega|(simp<;>omega)|(simp [*]<;>omega)) rfl ?_)
  refine ah<|a8<|ae<|ai<|s1 (aZ _ 1 rfl rfl rfl rfl (by omega)) rfl<|s1 (aa rfl) rfl ?_
  refine ah ?_
  exact bf (i+1) (by omega) (by omega) [(1,some 1),(2,some 2),(3,some 3),(127,some 27)] hI rfl rfl ⟨⟨_,rfl,.p rfl⟩,⟨_,rfl,.p rfl⟩,⟨_,rfl,.p rfl⟩,⟨_,rfl,.pure pu⟩,⟨_,rfl,.pure pu⟩,⟨_,rfl,.pure pu⟩,trivial⟩ ⟨.inr ⟨_,_,rfl,rfl,.pure ak⟩,.inr ⟨_,_,rfl,rfl,.pure ak⟩,.inr ⟨_,_,rfl,rfl,.cons (.pure pu) (.cons (.pure pu) (.cons (.pure pu) (.cons (.sl rfl (by simp)) .nil)))⟩,.inr ⟨_,_,rfl,rfl,.of (z8 hc) (.pure ak)⟩,trivial⟩
 ·obtain rfl : i = e.ch.length := by have := of_decide_eq_false hc13; omega
  refine bx<|aM<|aM<|bA<|ae<|af ?_
  refine cI 127 (cs':=CV.bz (e.ch.map dh)) rfl (by rw [List.take_length]) ?_
  refine jP 3 3 rfl rfl rfl rfl ak (uP (by simp)) rfl ?_
  refine cr ⟨_, [], []⟩ 23 4 br (le_refl rfl) ?_
  refine aq 0 [] [(1,none)] (aD Tryz.underlying45 rfl an (by decide) rfl rfl) rfl rfl ?_
  refine aq 1 [0] [(1,none)] (au an rfl rfl rfl) rfl rfl ?_
  refine bL false 2 [1] [] aV rfl (.cons (.pure pu) (.nil)) (qy e.iss) pu (.inl rfl) rfl rfl ?_
  refine aq 3 [] [(1,none)] (aD Tryz.underlying45 rfl an (by decide) rfl rfl) rfl rfl ?_
  refine aq 4 [3] [(1,none)] (au an rfl rfl rfl) rfl rfl ?_
  refine bL false 5 [4] [] aV rfl (.cons (.pure pu) (.nil)) (qy e.no) pu (.inl rfl) rfl rfl ?_
  refine aq 6 [] [(1,none)] (aD Tryz.underlying45 rfl an (by decide) rfl rfl) rfl rfl ?_
  refine aq 7 [6] [(1,none)] (au an rfl rfl rfl) rfl rfl ?_
  refine bL false 8 [7] [] aV rfl (.cons (.pure pu) (.nil)) (qy e.day) pu (.inl rfl) rfl rfl ?_
  refine aq 9 [] [(3,none)] ((aG bd rfl rfl rfl).v (v':= .ag (CV.cells (cR (e.ch.map dh)))) (congrArg (fun n:Nat=>A.ag [.i .i64 3,.i .i64 0,.s [],.fz n (CV.bz (e.ch.map dh))]) (show e.ch.length=(e.ch.map dh).length by rw [List.length_map]))) rfl rfl ?_
  refine aq 10 [] [(1,none)] (aD Tryz.underlying45 rfl ar (by decide) rfl rfl) rfl rfl ?_
  refine aq 11 [10] [(1,none)] (bp ar rfl rfl (l6 h) (by simp [h.bh])) rfl rfl ?_
  refine bL false 12 [11] [] aV rfl (.cons (.pure pu) (.nil)) (Bf e.bh h.bh) pu (.inl rfl) rfl rfl ?_
  refine aq 13 [] [(1,none)] (aD Tryz.underlying45 rfl ar (by decide) rfl rfl) rfl rfl ?_
  refine aq 14 [13] [(1,none)] (bp ar rfl rfl (l7 h) (by simp [h.prev])) rfl rfl ?_
  refine bL false 15 [14] [] aV rfl (.cons (.pure pu) (.nil)) (Bf e.prev h.prev) pu (.inl rfl) rfl rfl ?_
  refine kE 47 16 [2,5,8,9,12,15] aV Tryz.underlying107 bd rfl rfl rfl (by simp [aU]) (show _=CV.bz [bH e.iss,bH e.no,bH e.day,cR (e.ch.map dh),cY e.bh,cY e.prev]from rfl) rfl rfl rfl rfl ?_
  refine wY 47 17 [16] [(47,some 16)] aV rfl rfl ak rfl (CV.qh [bH e.iss,bH e.no,bH e.day,cR (e.ch.map dh),cY e.bh,cY e.prev]) rfl (by exact ak) (AY [bH e.iss,bH e.no,bH e.day,cR (e.ch.map dh),cY e.bh,cY e.prev]) pu rfl rfl ?_
  refine bL false 18 [17] [] aV rfl (.cons (.pure pu) (.nil)) (aw.cast (zZ 3 0 [] [bH e.iss,bH e.no,bH e.day,cR (e.ch.map dh),cY e.bh,cY e.prev] (Eh h) (x9 h) (Nat.le_trans (oB h) (by omega))) (AZ e)) pu (.inl rfl) rfl rfl ?_
  refine aq 19 [18] [] (aa rfl) rfl rfl ?_
  refine aq 20 [19] [] (aa rfl) rfl rfl ?_
  refine aq 21 [19] [] (aa rfl) rfl rfl ?_
  refine aq 22 [20] [] (aa rfl) rfl rfl ?_
  refine ct (by kernel_rfl) ?_
  refine s1 (aa rfl) rfl ?_
  refine ah<|ae<|af ?_
  have hel:=oB h
  refine ai<|s1 (aa rfl) rfl ?_
  refine aj rfl (aF false rfl (.cons (.pure pu) (.cons (.pure pu) (.nil))) (aw.cast (ib yy (cP e).enc (by omega) (by decide)) (congrArg (fun l:List UInt8=>A.ag (l.map u8)) (sM e).symm)) pu (.inl rfl) rfl ?_)
  refine aj rfl (ba ar rfl rfl rfl (by first|rfl|omega|(simp<;>omega)|(simp [*]<;>omega)) (by first|rfl|omega|(simp<;>omega)|(simp [*]<;>omega)) ?_)
  refine ah<|ae<|aB ?_
  refine aC (rs:= [.cell 2 23]) rfl (cw ar rfl rfl (List.take_of_length_le (by simp)) (by simp) az) ?_
  rfl
end Go.Abs.D2
-- C4T
namespace Go.Abs.D2
open Go Go.Eng Go.Abs
def two (e:CV):Bool:=decide (e.ls.length=2)
theorem ES {l:List A} {m m':List A} (h:gv m m'):gv (l++m) (l++m'):=by
  induction l with
  |nil=>exact h
  |cons a l ih=>exact .cons (.eq rfl) ih
def Sm (N:Nat) (u:CV):Prop:=(u.okB=true∧u.enc.length≤N)∨u=zV
theorem Sm.parts {N:Nat} {u:CV} (h:Sm N u):(∀e∈u.ls,Sm N e)∧u.st.length≤N∧u.ls.length≤N:=by
  rcases h with ⟨ho,hl⟩|rfl
  · obtain ⟨k, n, s, l⟩ := u
    rcases nA ho with rfl|rfl|⟨rfl,h1⟩
    · rw [CV.okB, if_pos rfl] at ho
      simp only [Bool.and_eq_true,List.isEmpty_iff]at ho
      obtain⟨rfl,rfl⟩:=ho
      exact⟨(fun e he=>by cases he),Nat.zero_le _,Nat.zero_le _⟩
    · rw [CV.okB, if_neg (by decide), if_pos rfl] at ho
      simp only [Bool.and_eq_true,List.isEmpty_iff]at ho
      obtain⟨_,rfl⟩:=ho
      have:=HL n s []
      exact⟨(fun e he=>by cases he),show s.length≤N by omega,Nat.zero_le _⟩
    · rw [CV.okB, if_neg (by decide), if_neg (by decide), if_pos rfl] at ho
      simp only [Bool.and_eq_true,List.isEmpty_iff]at ho
      obtain⟨⟨_,rfl⟩,_⟩:=ho
      rw [CV.lI]at h1
      have e1:=HM n [] l
      have e2:=CV.qJ l
      exact⟨fun e he=> .inl ⟨List.all_eq_true.1 h1 e he,by have:=CF (show e∈l from he);omega⟩,Nat.zero_le _,show l.length≤N by omega⟩
  · exact⟨(fun e he=>by cases he),Nat.zero_le _,Nat.zero_le _⟩
theorem Sm.nth {N:Nat} {u:CV} (h:Sm N u) (i:Nat):Sm N (dM u i):=by
  unfold dM
  rw [List.getD_eq_getElem?_getD]
  cases hi:u.ls[i]? with
  |none=>exact .inr rfl
  |some e=>exact h.parts.1 e (List.mem_of_getElem? hi)
theorem Sm.bh {N:Nat} {v:CV} (h:Sm N v):(∀f∈(xX v).F,f.D.length≤N)∧(xX v).E.length≤N∧(xX v).F.length≤N:=by
  refine⟨fun f hf=>?_,?_,?_⟩
  · obtain ⟨i, hi⟩ := List.mem_iff_getElem?.1 hf
    have hi:(List.mapIdx Bk (dM v 1).ls)[i]? =some f:=hi
    rw [List.getElem?_mapIdx]at hi
    obtain⟨e,he,rfl⟩:=Option.map_eq_some_iff.1 hi
    exact(((h.nth 1).parts.1 e (List.mem_of_getElem? he)).nth 1).parts.2.1
  · show ((dM v 2).ls.map CV.nm).length ≤ N
    rw [List.length_map];exact(h.nth 2).parts.2.2
  · show (sY (dM v 1).ls).length ≤ N
    rw [len_filsR];exact(h.nth 1).parts.2.2
end Go.Abs.D2
-- V6S
namespace Go.Abs.D2
open Go Go.Eng Go.Abs
def tw (p q:List UInt8):Nat→List UInt8
  |0=>List.replicate 16 0
  |i+1=>(tw p q i).set i (p.getD i 0 ^^^ q.getD i 0)
@[simp] theorem JG (p q : List UInt8) : ∀ i, (tw p q i).length = 16
  |0=>by simp [tw]
  |i+1=>by rw [tw,List.length_set,JG p q i]
theorem BM {l:List Bool} {i:Nat} {b:Bool} (h:l[i]? =some b):((l.map A.b).drop (i*1))[0]? =some (.b b):=by
  rw [List.getElem?_drop,show i*1+0=i by omega,List.getElem?_map,h];rfl
end Go.Abs.D2
-- S7V
namespace Go.Abs.D2
open Go Go.Eng Go.Abs
theorem Ac {x : List UInt8} {p q : List Int} (h : iF p q = true) : dK (fy x p q) = true := by
  have hsub:=su x p q (gx x p q)
  have hE:=A5 x p q
  have hasc : ∀ n, cH (bS x p q n).2.1 = true ∧ cH (bS x p q n).2.2 = true := by
    intro n
    induction n with
    | zero =>
      unfold iF at h
      simp only [Bool.and_eq_true]at h
      exact⟨h.1.1,h.1.2⟩
    | succ n ih =>
      refine⟨?_,ih.1⟩
      rw [bS]
      have key:∀(l:List Int) (f:Int→Bool) (last:Int),dQ last l=true→dQ last (l.filter f)=true:=by
        intro l f
        induction l with
        |nil=>intro last _;rfl
        | cons a l ih2 =>
          intro last hl
          simp only [dQ,Bool.and_eq_true,decide_eq_true_eq]at hl
          cases hf:f a with
          | true =>
            rw [List.filter_cons_of_pos hf]
            simp only [dQ,Bool.and_eq_true,decide_eq_true_eq]
            exact⟨hl.1,ih2 _ hl.2⟩
          | false =>
            rw [List.filter_cons_of_neg (by rw [hf];simp)]
            have h3:=ih2 a hl.2
            have mono:∀(m:List Int) (u v:Int),u≤v→dQ v m=true→dQ u m=true:=by
              intro m u v huv hm
              cases m with
              |nil=>rfl
              | cons b m =>
                simp only [dQ,Bool.and_eq_true,decide_eq_true_eq]at hm ⊢
                exact⟨⟨by omega,hm.1.2⟩,hm.2⟩
            exact mono _ _ _ (by omega) h3
      exact key _ _ _ ih.2
  have hlev:∀n,n≤16→∀F:List cL,(∀i,i<F.length→∃a,F[i]? =some (l9 x (n+i) a))→n+F.length≤16→eO n F=true:=by
    intro n hn F
    induction F generalizing n with
    |nil=>intro _ _;rfl
    | cons f F ih =>
      intro hF hl
      rw [List.length_cons]at hl
      obtain⟨a,ha⟩:=hF 0 (by simp)
      simp only [List.getElem?_cons_zero,Option.some.injEq,Nat.add_zero]at ha
      subst ha
      simp only [eO,Bool.and_eq_true,decide_eq_true_eq]
      refine⟨⟨rfl,GM x n a (by omega)⟩,ih (n+1) (by omega) (fun i hi=>?_) (by omega)⟩
      obtain⟨b,hb⟩:=hF (i+1) (by rw [List.length_cons];omega)
      exact⟨b,by rw [List.getElem?_cons_succ]at hb;rw [hb,show n+1+i=n+(i+1) by omega]⟩
  refine Af ?_ (hasc _).1 ?_
  · show (bS x p q (gx x p q)).1.length ≤ 16
    rw [jq];exact hE
  · refine hlev 0 (by omega) _ (fun i hi => ?_) ?_
    · have hi' : i < gx x p q := by
        have:i<(bS x p q (gx x p q)).1.length:=hi
        rwa [jq]at this
      exact⟨_,by rw [Nat.zero_add];exact zG x p q _ i hi'⟩
    · show 0 + (bS x p q (gx x p q)).1.length ≤ 16
      rw [jq];omega
end Go.Abs.D2
-- C4U
namespace Go.Abs.D2
open Go Go.Eng Go.Abs
theorem zO {x:List UInt8} {p q:List Int} (hp:p.length≤100) (hq:q.length≤100):(fy x p q).E.length≤100∧(fy x p q).F.length≤16:=by
  refine⟨(sr hp hq _).1,?_⟩
  show(bS x p q (gx x p q)).1.length≤16
  rw [jq];exact A5 x p q
end Go.Abs.D2
-- E5Q
namespace Go.Abs.D2
open Go Go.Eng Go.Abs
def dR (σ:Int→Int) (l:List Int):List Int:=l.filter fun n=>σ n !=0
def fh (σ:Int→Int) (l:List Int):List Int:=l.filter fun n=>!(σ n !=0)
def c9 (σ:Int→Int):List Int:=((List.range 1024).map fun k:Nat=>(k:Int)).filter fun n=>σ n !=0
def iL (σ:Int→Int):Prop:=∀k,σ k≠0→0≤k∧k<1024
theorem Nh:iL σ0:=fun _ h=>absurd rfl h
theorem xj (σ:Int→Int):(c9 σ).Nodup:=by
  refine List.Nodup.sublist List.filter_sublist ?_
  rw [List.nodup_iff_pairwise_ne,List.pairwise_map]
  exact List.nodup_iff_pairwise_ne.1 List.nodup_range |>.imp fun h e=>h (by omega)
theorem xh {σ:Int→Int} (h:iL σ) (k:Int):(mapOf σ k).isSome=true↔k∈c9 σ:=by
  unfold c9 mapOf
  rw [List.mem_filter]
  constructor
  · intro hs
    by_cases h0:σ k=0
    · rw [if_pos h0]at hs;cases hs
    · obtain ⟨h1, h2⟩ := h k h0
      exact⟨List.mem_map.2 ⟨k.toNat,List.mem_range.2 (by omega),by omega⟩,bne_iff_ne.2 h0⟩
  · rintro ⟨_, h0⟩
    rw [if_neg (bne_iff_ne.1 h0)];rfl
@[irreducible] def fN (σ:Int→Int) (l:List Int):Bool:=cH l&&decide ((dR σ l).length=(c9 σ).length)
theorem En {σ:Int→Int} {l:List Int} (h:cH l=false):fN σ l=false:=by unfold fN;rw [h];rfl
theorem M5 {σ:Int→Int} {l:List Int} (h:(dR σ l).length≠(c9 σ).length):fN σ l=false:=by unfold fN;rw [decide_eq_false h,Bool.and_false]
theorem yq {σ:Int→Int} {l:List Int} (h1:cH l=true) (h:(dR σ l).length=(c9 σ).length):fN σ l=true:=by unfold fN;rw [h1,decide_eq_true h];rfl
theorem Eo {σ:Int→Int} {l:List Int} (h:fN σ l=true):cH l=true:=by
  cases hl:cH l with
  |true=>rfl
  |false=>rw [En hl]at h;cases h
theorem F9 {σ:Int→Int} {l:List Int} {i:Nat} {n:Int} (h:l[i]? =some n) (hn:σ n≠0):dR σ (l.take (i+1))=dR σ (l.take i)++ [n]∧fh σ (l.take (i+1))=fh σ (l.take i):=by
  unfold dR fh
  rw [List.take_add_one,h,List.filter_append,List.filter_append]
  simp [hn]
theorem Ga {σ:Int→Int} {l:List Int} {i:Nat} {n:Int} (h:l[i]? =some n) (hn:σ n=0):dR σ (l.take (i+1))=dR σ (l.take i)∧fh σ (l.take (i+1))=fh σ (l.take i)++ [n]:=by
  unfold dR fh
  rw [List.take_add_one,h,List.filter_append,List.filter_append]
  simp [hn]
theorem xm (σ:Int→Int) (l:List Int):(dR σ l).length≤l.length:=List.length_filter_le ..
theorem xp (σ:Int→Int) (l:List Int):(fh σ l).length≤l.length:=List.length_filter_le ..
theorem r9 {p:Int→Bool}:∀ {l:List Int} {a b:Int},a≤b→dQ b l=true→dQ a (l.filter p)=true
  | [],_,_,_,_=>rfl
  | n :: l, a, b, hab, h => by
    simp only [dQ,Bool.and_eq_true,decide_eq_true_eq]at h
    rw [List.filter_cons]
    split
    · simp only [dQ, Bool.and_eq_true, decide_eq_true_eq]
      exact⟨⟨by omega,h.1.2⟩,r9 (Int.le_refl _) h.2⟩
    · exact r9 (b:=n) (by omega) h.2
theorem tY {σ:Int→Int} {l:List Int} (h:cH l=true):iF (dR σ l) (fh σ l)=true:=by
  unfold iF
  have h1:cH (dR σ l)=true:=r9 (Int.le_refl _) h
  have h2:cH (fh σ l)=true:=r9 (Int.le_refl _) h
  rw [h1,h2]
  show Go.Eng.jR _ _=true
  unfold Go.Eng.jR
  rw [List.all_eq_true]
  intro n hn
  have h3:=(List.mem_filter.1 hn).2
  rw [Bool.not_eq_true',decide_eq_false_iff_not]
  intro hb
  have h4:=(List.mem_filter.1 hb).2
  rw [h4]at h3;cases h3
abbrev uH:List UInt8:= [115,97,108,116]
@[irreducible] def mC (x:List UInt8) (no:Nat):List UInt8:=tagged uH (x++eC (no:Int) 4)
theorem ye (x:List UInt8) (no:Nat):mC x no=tagged uH (x++eC (no:Int) 4):=by unfold mC;rfl
@[simp] theorem oT (x:List UInt8) (no:Nat):(mC x no).length=32:=by rw [ye];simp
def jg (x:List UInt8) (no:Nat) (σ:Int→Int) (ids:List Int):bQ:=fy (mC x no) (dR σ ids) (fh σ ids)
def iO (l:List Ep):List UInt8:=match l.getLast? with
  |none=>zD
  |some e=>bR e
def eP (x:List UInt8) (l:List Ep) (iss day:Int) (ids:List Int) (c:List Ch) (σ:Int→Int):Ep:=⟨iss,(l.length:Nat),day,c,lj (jg x l.length σ ids),iO l,⟨0, [], []⟩⟩
def eY (x:List UInt8) (k:Nat) (l:List Ep) (iss day:Int) (ids:List Int) (c:List Ch) (σ:Int→Int):Ep:=
  {eP x l iss day ids c σ with sg:=⟨(l.length:Nat),eT (b7 x (l.length:Nat)) (bR (eP x l iss day ids c σ)),path (dq x k) l.length⟩}
theorem AL (e:Ep) (s:Lf):bR {e with sg:=s}=bR e:=by rw [sM,sM];rfl
def od (iss day:Int):Bool:=((decide (iss≥0)&&decide (iss<8))&&decide (day≥0))&&decide (day<1024)
def jX (l:List Ep) (iss day:Int):Bool:=match l.getLast? with
  |none=>true
  |some e=>(iss==e.iss)&&decide (day>e.day)
@[irreducible] def dY (x : List UInt8) (n : Int) (l : List Ep) (iss day : Int) (ids : List Int) (c : List Ch) : Int ⊕ Ep :=
  if cd n then
    match cC l with
    |none=> .inl 351
    | some σ => if cz (cq x n) n l = 0 then
        if(l.length:Int)=n then .inl 2 else if od iss day&&(jX l iss day&&(dJ σ (-1) c&&fN (aX σ c) ids))then .inr (eY x n.toNat l iss day ids c (aX σ c))else .inl 351
      else .inl (cz (cq x n) n l)
  else .inl 60
def LX (l:List Ep):Int ⊕ Ep→A
  | .inl e=> .tu [.nl,.i .i64 e]
  | .inr e=> .tu [cQ (l++ [e]),.i .i64 0]
section
variable {x:List UInt8} {n:Int} {l:List Ep} {iss day:Int} {ids:List Int} {c:List Ch} {σ:Int→Int}
theorem Du (h:¬cd n):dY x n l iss day ids c= .inl 60:=by unfold dY;rw [if_neg h]
theorem xR (h:cd n) (h2:cz (cq x n) n l≠0):dY x n l iss day ids c= .inl (cz (cq x n) n l):=by
  unfold dY
  rw [if_pos h]
  cases hf:cC l with
  |none=>simp only;rw [qj hf]
  |some σ=>simp only;rw [if_neg h2]
theorem xS (h:cd n) (hf:cC l=some σ) (h2:cz (cq x n) n l=0) (h3:(l.length:Int)=n):dY x n l iss day ids c= .inl 2:=by
  unfold dY;rw [if_pos h,hf];simp only;rw [if_pos h2,if_pos h3]
theorem j6 (h:cd n) (hf:cC l=some σ) (h2:cz (cq x n) n l=0) (h3:¬(l.length:Int)=n) (h4:od iss day=false∨jX l iss day=false∨dJ σ (-1) c=false∨fN (aX σ c) ids=false):dY x n l iss day ids c= .inl 351:=by
  unfold dY;rw [if_pos h,hf];simp only;rw [if_pos h2,if_neg h3,if_neg]
  rcases h4 with h4|h4|h4|h4<;>simp [h4]
theorem qW (h:cd n) (hf:cC l=some σ) (h2:cz (cq x n) n l=0) (h3:¬(l.length:Int)=n) (h4:od iss day=true) (h5:jX l iss day=true) (h6:dJ σ (-1) c=true) (h7:fN (aX σ c) ids=true):dY x n l iss day ids c= .inr (eY x n.toNat l iss day ids c (aX σ c)):=by
  unfold dY;rw [if_pos h,hf];simp only;rw [if_pos h2,if_neg h3,if_pos (by simp [h4,h5,h6,h7])]
theorem Jv (h:l= []):jX l iss day=true∧iO l=zD:=by subst h;exact⟨rfl,rfl⟩
theorem Ju {e:Ep} (h:l[l.length - 1]? =some e):jX l iss day=((iss==e.iss)&&decide (day>e.day))∧iO l=bR e:=by
  have:l.getLast?=some e:=by rw [List.getLast?_eq_getElem?];exact h
  unfold jX iO;rw [this];exact⟨rfl,rfl⟩
end
theorem pL:∀ {c:List Ch} {σ:Int→Int} {la:Int},iL σ→ -1≤la→dJ σ la c=true→iL (aX σ c)
  | [],_,_,h,_,_=>h
  | c :: r, σ, la, h, hla, hk => by
    simp only [dJ,kA,Bool.and_eq_true,decide_eq_true_eq]at hk
    obtain⟨⟨⟨⟨⟨h1,h2⟩,_⟩,_⟩,_⟩,h3⟩:=hk
    refine pL (c:=r) (la:=c.id) (fun k hk=>?_) (by omega) h3
    unfold kf at hk
    split at hk
    · omega
    · exact h k hk
theorem EB:∀ {l:List Ep} {iss:Int} {no:Nat} {day:Int} {prev:List UInt8} {σ τ:Int→Int},iL σ→ek iss no day prev σ l=some τ→iL τ
  | [],_,_,_,_,_,_,h,hf=>by cases hf;exact h
  | e :: r, iss, no, day, prev, σ, τ, h, hf => by
    rw [ek]at hf
    split at hf
    · rename_i hb
      simp only [Bool.and_eq_true]at hb
      exact EB (pL h (by omega) hb.2) hf
    · cases hf
theorem EA {l:List Ep} {σ:Int→Int} (h:cC l=some σ):iL σ:=by rw [mg]at h;exact EB Nh h
theorem wW : ∀ {l : List Ep} {iss : Int} {no : Nat} {day : Int} {prev : List UInt8} {σ τ : Int → Int}, ek iss no day prev σ l = some τ → ∀ i e, l[i]? = some e → e.sg.a = ((no + i : Nat) : Int)
  | [],_,_,_,_,_,_,_,i,e,h=>by simp at h
  | e :: r, iss, no, day, prev, σ, τ, hf, i, a, h => by
    rw [ek]at hf
    split at hf
    · rename_i hb
      simp only [Bool.and_eq_true,fH,beq_iff_eq]at hb
      cases i with
      |zero=>simp at h;subst h;simpa using hb.1.1.2.1.2
      | succ i =>
        have:=wW hf i a (by simpa using h)
        rw [this];congr 1;omega
    · cases hf
theorem vT {r:List UInt8} {k:Nat} {l:List Ep} {σ:Int→Int} (hf:cC l=some σ) (h:cz r (k:Int) l=0):l.length≤k:=by
  rcases Nat.eq_zero_or_pos l.length with h0|h0
  · omega
  · obtain ⟨e, he⟩ : ∃ e, l[l.length - 1]? = some e := ⟨_, List.getElem?_eq_getElem (by omega)⟩
    have hv:c5 r k (bR e) e.sg.a e.sg.S e.sg.P=true:=by
      cases hv:c5 r k (bR e) e.sg.a e.sg.S e.sg.P with
      |true=>rfl
      |false=>rw [sE hf (List.mem_of_getElem? he) hv]at h;cases h
    have h1:=(EL hv).2.1
    rw [mg]at hf
    have h2:=wW hf _ e he
    unfold fF at h1
    omega
def fa (iss no day:Int) (c:List Ch) (bh prev:List UInt8):List A:= .i .i64 iss:: .i .i64 no:: .i .i64 day::dS c::(bh.map u8++(prev.map u8++ [.i .i64 0,.nl,.nl]))
instance {iss no day:Int} {c:List Ch} {bh prev:List UInt8}:dE (fa iss no day c bh prev):=by unfold fa;infer_instance
theorem xF {iss no day:Int} {c:List Ch} {bh prev:List UInt8} (h1:bh.length=32) (h2:prev.length=32):(fa iss no day c bh prev).length=71:=by simp [fa,h1,h2]
theorem KC {iss no day:Int} {c:List Ch} {bh prev q:List UInt8} (h1:bh.length=32) (h2:prev.length=32):(fa iss no day c bh prev).take 36++q.map u8++(fa iss no day c bh prev).drop 68=fa iss no day c bh q:=by
  have e1:(fa iss no day c bh prev).take 36= .i .i64 iss:: .i .i64 no:: .i .i64 day::dS c::bh.map u8:=by
    show _::_::_::_::((bh.map u8++_).take 32)=_
    rw [List.take_left' (by rw [List.length_map,h1])]
  have e2:(fa iss no day c bh prev).drop 68= [.i .i64 0,.nl,.nl]:=by
    show((bh.map u8++(prev.map u8++_)).drop 64)=_
    rw [←List.append_assoc,List.drop_left' (by rw [List.length_append,List.length_map,List.length_map,h1,h2])]
  rw [e1,e2]
  simp [fa]
theorem CZ {iss no day:Int} {c:List Ch} {bh prev q:List UInt8} (h1:bh.length=32):(fa iss no day c bh prev).take 4++q.map u8++(fa iss no day c bh prev).drop 36=fa iss no day c q prev:=by
  have e2:(fa iss no day c bh prev).drop 36=prev.map u8++ [.i .i64 0,.nl,.nl]:=by
    show((bh.map u8++_).drop 32)=_
    rw [List.drop_left' (by rw [List.length_map,h1])]
  rw [e2]
  simp [fa]
theorem C1 {x:List UInt8} {l:List Ep} {iss day:Int} {ids:List Int} {c:List Ch} {σ:Int→Int}:gv (fa iss (l.length:Nat) day c (lj (jg x l.length σ ids)) (iO l)) (eP x l iss day ids c σ).cells:=by
  unfold fa eP Ep.cells
  exact .cons (.eq rfl) (.cons (.eq rfl) (.cons (.eq rfl) (.cons (.eq rfl) (ES (ES (.cons (.eq rfl) (.cons .nl (.cons .nl .nil))))))))
@[simp] theorem tG (l : List Ep) : (iO l).length = 32 := by
  unfold iO
  split
  · rfl
  · simp
theorem yO:aT []:=fun y hy=>by cases hy
theorem CO {x:List UInt8} {l:List Ep} {iss day:Int} {ids:List Int} {c:List Ch} {σ:Int→Int} (hn:l.length≤1000) (hi:rg iss) (hd:rg day) (hc:c.length≤1000) (hcr:∀e∈c,rg e.id∧rg e.st):(eP x l iss day ids c σ).ok:=
  ⟨hi,⟨by show(-9223372036854775808:Int)≤(l.length:Nat);omega,by show((l.length:Nat):Int)≤9223372036854775807;omega⟩,hd,hcr,hc,Cj _,tG _,yO,yO⟩
theorem qS {x:List UInt8} {k:Nat} {l:List Ep} {iss day:Int} {ids:List Int} {c:List Ch} {σ:Int→Int} (hn:l.length≤1000) (hi:rg iss) (hd:rg day) (hc:c.length≤1000) (hcr:∀e∈c,rg e.id∧rg e.st):(eY x k l iss day ids c σ).ok:=
  ⟨hi,⟨by show(-9223372036854775808:Int)≤(l.length:Nat);omega,by show((l.length:Nat):Int)≤9223372036854775807;omega⟩,hd,hcr,hc,Cj _,tG _,pT _ _,nW _ _ _ (Nat.le_refl _)⟩
theorem C0 {e:Ep} {s:Lf} (h:e.ok):e.cells.take 68++ [.i .i64 s.a,a6 s.S,a6 s.P]++e.cells.drop 71=({e with sg:=s}:Ep).cells:=by
  have e1:e.cells.take 68= .i .i64 e.iss:: .i .i64 e.no:: .i .i64 e.day::dS e.ch::(e.bh.map u8++e.prev.map u8):=by
    show _::_::_::_::((e.bh.map u8++(e.prev.map u8++_)).take 64)=_
    rw [←List.append_assoc,List.take_left' (by rw [List.length_append,List.length_map,List.length_map,h.bh,h.prev])]
  rw [e1,List.drop_of_length_le (by rw [h.len];omega)]
  simp [Ep.cells]
theorem Ba (l:List Ep) (e:Ep):cZ l++e.cells=cZ (l++ [e]):=by simp [cZ]
theorem wK {l:List Ep} {e:Ep} (h:c6 l) (he:e.ok):c6 (l++ [e]):=fun x hx=>by
  rcases List.mem_append.1 hx with hx|hx
  · exact h x hx
  · rw [List.mem_singleton.1 hx];exact he
theorem Ix (a:Int):A.i .u8 (IntKind.u8.wrap (a.fdiv (2 ^ min ((24:Int).toNat) IntKind.i64.bits)))=u8 (kS a 0):=uC a 0 (by omega)
theorem Iy (a:Int):A.i .u8 (IntKind.u8.wrap (a.fdiv (2 ^ min ((16:Int).toNat) IntKind.i64.bits)))=u8 (kS a 1):=uC a 1 (by omega)
theorem Iz (a:Int):A.i .u8 (IntKind.u8.wrap (a.fdiv (2 ^ min ((8:Int).toNat) IntKind.i64.bits)))=u8 (kS a 2):=uC a 2 (by omega)
theorem IA (a:Int):A.i .u8 (IntKind.u8.wrap a)=u8 (kS a 3):=by
  refine congrArg (A.i .u8) ?_
  unfold kS
  rw [UInt8.toNat_ofNat']
  show a % 256=_
  omega
theorem Cp (n:Nat):n=0∨0<n:=Nat.eq_zero_or_pos n
end Go.Abs.D2
-- E5R
namespace Go.Abs.D2
open Go Go.Eng Go.Abs
def jO (l : List Ep) (day : Int) : Nat → Option Nat
  |0=>none
  | j + 1 => match l[j]? with
    |some e=>if e.day≤day then some j else jO l day j
    |none=>jO l day j
@[irreducible] def oe (l:List Ep) (day:Int):Option Nat:=jO l day l.length
theorem vB (l:List Ep) (day:Int):oe l day=jO l day l.length:=by unfold oe;rfl
def vz:Option Nat→A
  |none=> .tu [.i .i64 0,.b false]
  |some j=> .tu [nJ j,.b true]
theorem zA {l:List Ep} {day:Int} {j:Nat} {e:Ep} (h:l[j]? =some e) (hd:e.day≤day):jO l day (j+1)=some j:=by rw [jO,h];simp only;rw [if_pos hd]
theorem zy {l:List Ep} {day:Int} {j:Nat} {e:Ep} (h:l[j]? =some e) (hd:¬e.day≤day):jO l day (j+1)=jO l day j:=by rw [jO,h];simp only;rw [if_neg hd]
end Go.Abs.D2
-- E5S
namespace Go.Abs.D2
open Go Go.Eng Go.Abs
def gT (σ:Int→Int):List Ch:=(c9 σ).map fun k=>⟨k,σ k⟩
theorem GG {σ:Int→Int} {i:Nat} {q:Int} (h:(c9 σ)[i]? =some q):fA ((gT σ).take i)++Ch.cells ⟨q,σ q⟩=fA ((gT σ).take (i+1)):=by
  have:(gT σ)[i]? =some ⟨q,σ q⟩:=by unfold gT;rw [List.getElem?_map,h];rfl
  rw [List.take_add_one,this];simp [fA]
theorem Bb {l:List Ep} (h:c6 l) (k:Nat):((cZ l).drop (0*71)).take (k*71)=cZ (l.take k):=by
  rw [Nat.zero_mul,List.drop_zero]
  unfold cZ
  induction l generalizing k with
  |nil=>simp
  | cons e l ih =>
    cases k with
    |zero=>simp
    | succ k =>
      have he:=(h e (.head _)).len
      rw [List.flatMap_cons,List.take_succ_cons,List.flatMap_cons,show(k+1)*71=e.cells.length+k*71 by rw [he];omega,List.take_append,List.take_of_length_le (by omega),Nat.add_sub_cancel_left,ih (fun x hx=>h x (.tail _ hx))]
@[irreducible] def kV (l : List Ep) (no : Int) : Int ⊕ List Ch :=
  if no< -1∨(l.length:Int)≤no then .inl 1 else match cC (l.take (no+1).toNat)with
    |none=> .inl 351
    |some σ=> .inr (gT σ)
def LY:Int ⊕ List Ch→A
  | .inl e=> .tu [.nl,.i .i64 e]
  | .inr c=> .tu [dS c,.i .i64 0]
theorem Ex {l:List Ep} {no:Int} (h:no< -1∨(l.length:Int)≤no):kV l no= .inl 1:=by unfold kV;rw [if_pos h]
theorem Na {l:List Ep} {no:Int} (h:¬(no< -1∨(l.length:Int)≤no)) (hf:cC (l.take (no+1).toNat)=none):kV l no= .inl 351:=by unfold kV;rw [if_neg h,hf]
theorem yu {l:List Ep} {no:Int} {σ:Int→Int} (h:¬(no< -1∨(l.length:Int)≤no)) (hf:cC (l.take (no+1).toNat)=some σ):kV l no= .inr (gT σ):=by unfold kV;rw [if_neg h,hf]
def oQ (d0:Int) (l:List Ep):Int:=match l.getLast? with
  |none=>d0
  |some e=>e.day
def qI (p0:List UInt8) (l:List Ep):List UInt8:=match l.getLast? with
  |none=>p0
  |some e=>bR e
theorem Js (d0:Int) (e:Ep) (l:List Ep):oQ d0 (e::l)=oQ e.day l:=by
  unfold oQ
  cases l with
  |nil=>rfl
  |cons a r=>simp [List.getLast?_cons]
theorem Jr (p0:List UInt8) (e:Ep) (l:List Ep):qI p0 (e::l)=qI (bR e) l:=by
  unfold qI
  cases l with
  |nil=>rfl
  |cons a r=>simp [List.getLast?_cons]
theorem BG:∀ {l r:List Ep} {iss:Int} {no:Nat} {day:Int} {prev:List UInt8} {σ:Int→Int},
    ek iss no day prev σ (l++r)=match ek iss no day prev σ l with
      |none=>none
      |some τ=>ek iss (no+l.length) (oQ day l) (qI prev l) τ r
  | [],r,iss,no,day,prev,σ=>rfl
  | e :: l, r, iss, no, day, prev, σ => by
    rw [List.cons_append,ek,ek]
    by_cases hb:(fH iss no day prev e&&dJ σ (-1) e.ch)=true
    · rw [if_pos hb,if_pos hb,BG,Js,Jr,List.length_cons,show no+1+l.length=no+(l.length+1) by omega]
    · rw [if_neg hb,if_neg hb]
theorem I9 {l r:List Ep} (h:l≠ []):ml (l++r)=ml l:=by
  cases l with
  |nil=>exact absurd rfl h
  |cons a l=>rfl
theorem Jp (l:List Ep):iO l=qI zD l:=rfl
theorem Jq {l:List Ep} {iss day:Int} (h:jX l iss day=true) (hl:l≠ []):∃e,l.getLast?=some e∧iss=e.iss∧e.day<day:=by
  unfold jX at h
  cases hg:l.getLast? with
  |none=>exact absurd (List.getLast?_eq_none_iff.1 hg) hl
  | some e =>
    rw [hg]at h
    simp only [Bool.and_eq_true,decide_eq_true_eq,beq_iff_eq]at h
    exact⟨e,rfl,h.1,h.2⟩
theorem BH:∀ {l:List Ep} {iss:Int} {no:Nat} {day:Int} {prev:List UInt8} {σ τ:Int→Int},ek iss no day prev σ l=some τ→∀e∈l,e.iss=iss
  | [],_,_,_,_,_,_,_,e,h=>by cases h
  | a :: r, iss, no, day, prev, σ, τ, hf, e, h => by
    rw [ek]at hf
    split at hf
    · rename_i hb
      simp only [Bool.and_eq_true,fH,beq_iff_eq]at hb
      rcases List.mem_cons.1 h with rfl|h
      · exact hb.1.1.1.1.1
      · exact BH hf e h
    · cases hf
section
variable {x:List UInt8} {n:Int} {l:List Ep} {iss day:Int} {ids:List Int} {c:List Ch} {e:Ep}
theorem xU (h : dY x n l iss day ids c = .inr e) : cd n ∧ ∃ σ, cC l = some σ ∧ cz (cq x n) n l = 0 ∧ ¬ (l.length : Int) = n ∧ od iss day = true ∧ jX l iss day = true ∧ dJ σ (-1) c = true ∧ fN (aX σ c) ids = true ∧ e = eY x n.toNat l iss day ids c (aX σ c) := by
  by_cases h1:cd n
  · refine ⟨h1, ?_⟩
    cases hf:cC l with
    |none=>rw [xR h1 (by rw [qj hf];decide)]at h;cases h
    | some σ =>
      by_cases h2:cz (cq x n) n l=0
      · by_cases h3 : (l.length : Int) = n
        · rw [xS h1 hf h2 h3]at h;cases h
        · have key : ∀ b : Bool, b = false ∨ b = true := fun b => by cases b <;> simp
          rcases key (od iss day)with h4|h4
          · rw [j6 h1 hf h2 h3 (.inl h4)]at h;cases h
          rcases key (jX l iss day)with h5|h5
          · rw [j6 h1 hf h2 h3 (.inr (.inl h5))]at h;cases h
          rcases key (dJ σ (-1) c)with h6|h6
          · rw [j6 h1 hf h2 h3 (.inr (.inr (.inl h6)))]at h;cases h
          rcases key (fN (aX σ c) ids)with h7|h7
          · rw [j6 h1 hf h2 h3 (.inr (.inr (.inr h7)))]at h;cases h
          rw [qW h1 hf h2 h3 h4 h5 h6 h7]at h
          exact⟨σ,rfl,h2,h3,h4,h5,h6,h7,by cases h;rfl⟩
      · rw [xR h1 h2]at h;cases h
  · rw [Du h1]at h;cases h
theorem xT (h:dY x n l iss day ids c= .inr e):∃σ,cC l=some σ∧cC (l++ [e])=some (aX σ c)∧cz (cq x n) n (l++ [e])=0:=by
  obtain⟨h1,σ,hf,h2,h3,h4,h5,h6,h7,he⟩:=xU h
  obtain⟨k,rfl,hk1,hk2⟩:=pI h1
  have hlk:=vT hf h2
  have hlt:l.length<k:=by omega
  have hem:e.iss=iss∧e.no=(l.length:Nat)∧e.day=day∧e.ch=c∧e.prev=iO l∧e.sg=⟨(l.length:Nat),eT (b7 x (l.length:Nat)) (bR (eP x l iss day ids c (aX σ c))),path (dq x k) l.length⟩:=by subst he;exact⟨rfl,rfl,rfl,rfl,rfl,rfl⟩
  have hdg:bR e=bR (eP x l iss day ids c (aX σ c)):=by subst he;exact AL _ _
  obtain⟨e1,e2,e3,e4,e5,e6⟩:=hem
  unfold od at h4
  simp only [Bool.and_eq_true,decide_eq_true_eq]at h4
  have hform:cC (l++ [e])=some (aX σ c):=by
    rw [mg]at hf ⊢
    have hi:ml (l++ [e])=if l= []then iss else ml l:=by
      split
      · rename_i h0;subst h0;exact e1
      · rename_i h0;exact I9 h0
    by_cases h0:l= []
    · subst h0
      cases hf
      rw [hi,if_pos rfl]
      show ek iss 0 (-1) zD σ0 [e]=_
      rw [ek,if_pos,ek,e4]
      rw [e4,h6,Bool.and_true]
      unfold fH
      simp only [Bool.and_eq_true,decide_eq_true_eq,beq_iff_eq]
      refine⟨⟨⟨⟨e1,?_⟩,?_⟩,⟨e2,by rw [e6];rfl⟩,e5⟩,?_,?_⟩<;>first|omega|(rw [e1];omega)|(rw [e3];omega)
    · obtain ⟨q, hq, hqi, hqd⟩ := Jq h5 h0
      rw [hi,if_neg h0,BG,hf]
      simp only
      have hY:oQ (-1) l=q.day:=by unfold oQ;rw [hq]
      have hql:=BH hf q (List.mem_of_getLast? hq)
      rw [ek,if_pos,ek,e4]
      rw [e4,h6,Bool.and_true]
      unfold fH
      simp only [Bool.and_eq_true,decide_eq_true_eq,beq_iff_eq]
      refine⟨⟨⟨⟨by rw [e1,hqi,hql],by rw [e1];omega⟩,by rw [e1];omega⟩,⟨by rw [e2,Nat.zero_add],by rw [e6,Nat.zero_add]⟩,by rw [e5];exact Jp l⟩,by rw [hY,e3];exact hqd,by rw [e3];omega⟩
  refine⟨σ,hf,hform,sF hform fun a ha=>?_⟩
  rcases List.mem_append.1 ha with ha|ha
  · cases hv : c5 (cq x (k : Int)) k (bR a) a.sg.a a.sg.S a.sg.P with
    |true=>rfl
    |false=>rw [sE hf ha hv]at h2;cases h2
  · rw [List.mem_singleton.1 ha, e6, hdg]
    exact NI _ h1 hlt
end
structure Sp where
  day:Int
  ch:List Ch
def Sp.cells (s:Sp):List A:= [.i .i64 s.day,dS s.ch]
def jI (l:List Sp):List A:=l.flatMap Sp.cells
instance {s:Sp}:dE s.cells:=by unfold Sp.cells;infer_instance
instance {l:List Sp}:dE (jI l):=by unfold jI;infer_instance
def Sp.ok (s:Sp):Prop:=rg s.day∧∀c∈s.ch,rg c.id∧rg c.st
theorem M6 {l:List Sp} {i:Nat} {s:Sp} (h:l[i]? =some s):((jI l).drop (i*2)).take 2=s.cells:=by
  unfold jI
  induction l generalizing i with
  |nil=>simp at h
  | cons d l ih =>
    rw [List.flatMap_cons]
    cases i with
    |zero=>simp at h;subst h;rfl
    |succ i=>rw [show(i+1)*2=d.cells.length+i*2 by show _=2+_;omega, ←List.drop_drop,List.drop_left];exact ih (by simpa using h)
theorem rv {l:List Sp} {i:Nat} {s:Sp} (h:l[i]? =some s) {k:Nat} {v:A} (hv:s.cells[k]? =some v) (hk:k<2):(((jI l).drop (i*2)).drop k)[0]? =some v:=by
  have e1:(((jI l).drop (i*2)).take 2)[k]? =some v:=by rw [M6 h];exact hv
  rw [List.getElem?_take,if_pos hk]at e1
  rw [List.getElem?_drop,Nat.add_zero];exact e1
def oc (l:List Ep):Int ⊕ Ep→List Ep
  | .inl _=>l
  | .inr e=>l++ [e]
def jA (x:List UInt8) (n iss:Int) (ids:List Int):List Ep→List Sp→List Ep
  |l, []=>l
  |l,s::r=>jA x n iss ids (oc l (dY x n l iss s.day ids s.ch)) r
theorem Ds {x:List UInt8} {n iss:Int} {ids:List Int} {l:List Ep} {S:List Sp} {i:Nat} {s:Sp} (h:S[i]? =some s):jA x n iss ids l (S.drop i)=jA x n iss ids (oc l (dY x n l iss s.day ids s.ch)) (S.drop (i+1)):=by
  rw [List.drop_eq_getElem_cons (List.getElem?_eq_some_iff.1 h).1,(List.getElem?_eq_some_iff.1 h).2,jA]
theorem zf {x:List UInt8} {n:Int} {l:List Ep} {iss day:Int} {ids:List Int} {c:List Ch} (hl:c6 l) (hn:l.length≤1000) (hi:rg iss) (hd:rg day) (hc:c.length≤1000) (hcr:∀e∈c,rg e.id∧rg e.st):c6 (oc l (dY x n l iss day ids c))∧(oc l (dY x n l iss day ids c)).length≤l.length+1:=by
  cases h:dY x n l iss day ids c with
  |inl v=>exact⟨hl,Nat.le_succ _⟩
  | inr e =>
    obtain⟨_,σ,_,_,_,_,_,_,_,rfl⟩:=xU h
    exact⟨wK hl (qS hn hi hd hc hcr),by simp [oc]⟩
@[irreducible] def l8 (n:Int) (ids:List Int) (S:List Sp):Bool:=(S.all fun s=>decide (s.ch.length≤10))&&((decide ((S.length:Int)≤5)&&decide (n≤6))&&decide ((ids.length:Int)≤24))
theorem Ie {n:Int} {ids:List Int} {S:List Sp} {s:Sp} (h:s∈S) (hc:¬s.ch.length≤10):l8 n ids S=false:=by
  unfold l8
  rw [show(S.all fun s=>decide (s.ch.length≤10))=false from List.all_eq_false.2 ⟨s,h,by simp [hc]⟩];rfl
theorem Ic {n:Int} {ids:List Int} {S:List Sp} (h:∀s∈S,s.ch.length≤10):l8 n ids S=((decide ((S.length:Int)≤5)&&decide (n≤6))&&decide ((ids.length:Int)≤24)):=by
  unfold l8
  rw [List.all_eq_true.2 fun s hs=>decide_eq_true (h s hs),Bool.true_and]
theorem Ig {n:Int} {ids:List Int} {S:List Sp} (h:l8 n ids S=true):(∀s∈S,s.ch.length≤10)∧S.length≤5∧n≤6∧ids.length≤24:=by
  unfold l8 at h
  simp only [Bool.and_eq_true,decide_eq_true_eq,List.all_eq_true]at h
  exact⟨h.1,by omega,h.2.1.2,by omega⟩
end Go.Abs.D2
-- E5U
namespace Go.Abs.D2
open Go Go.Eng Go.Abs
theorem Ar {l:List Ch} {i:Nat} {c:Ch} (h:l[i]? =some c) {k:Nat} {v:A} (hv:c.cells[k]? =some v) (hk:k<2):(((fA l).drop (i*2)).drop k)[0]? =some v:=by
  have e1:(((fA l).drop (i*2)).take 2)[k]? =some v:=by rw [ql h];exact hv
  rw [List.getElem?_take,if_pos hk]at e1
  rw [List.getElem?_drop,Nat.add_zero];exact e1
def fq:List Ch→List Ch→Bool
  | [], []=>true
  |a::r,b::s=>(a.id==b.id&&a.st==b.st)&&fq r s
  |_,_=>false
theorem yf:∀l:List Ch,fq l l=true
  | []=>rfl
  |c::l=>by rw [fq,yf l];simp
theorem D3:∀ {a b:List Ch},fq a b=true→a.length=b.length
  | [], [],_=>rfl
  | _ :: a, _ :: b, h => by
    rw [fq,Bool.and_eq_true]at h
    rw [List.length_cons,List.length_cons,D3 h.2]
  | [],_::_,h=>by cases h
  |_::_, [],h=>by cases h
theorem Mt {a b:List Ch} (h:a.length≠b.length):fq a b=false:=by
  cases hs:fq a b with
  |false=>rfl
  |true=>exact absurd (D3 hs) h
theorem DY {a b:List Ch} {i:Nat} {c d:Ch} (h1:a[i]? =some c) (h2:b[i]? =some d):fq (a.drop i) (b.drop i)=((c.id==d.id&&c.st==d.st)&&fq (a.drop (i+1)) (b.drop (i+1))):=by
  rw [List.drop_eq_getElem_cons (List.getElem?_eq_some_iff.1 h1).1,(List.getElem?_eq_some_iff.1 h1).2,List.drop_eq_getElem_cons (List.getElem?_eq_some_iff.1 h2).1,(List.getElem?_eq_some_iff.1 h2).2,fq]
theorem Ng (o:Int ⊕ Ep):(∃v,o= .inl v)∨∃e,o= .inr e:=by
  cases o with
  |inl v=>exact .inl ⟨v,rfl⟩
  |inr e=>exact .inr ⟨e,rfl⟩
theorem Lp {x : List UInt8} {n : Int} {l : List Ep} {iss day : Int} {ids : List Int} {c : List Ch} {v : Int} (h : dY x n l iss day ids c = .inl v) : v ≠ 0 := by
  unfold dY at h
  split at h
  · split at h
    · cases h;decide
    · split at h
      · split at h
        · cases h;decide
        · split at h
          · cases h
          · cases h;decide
      · rename_i h0;cases h;exact h0
  · cases h;decide
theorem FF {S:List Sp} {i:Nat} {s:Sp} {p:Sp→Prop} (h:S[i]? =some s) (ha:∀x∈S.take i,p x) (he:p s):∀x∈S.take (i+1),p x:=fun x hx=>by
  rw [List.take_add_one,h]at hx
  rcases List.mem_append.1 hx with hx|hx
  · exact ha x hx
  · rw [List.mem_singleton.1 hx];exact he
end Go.Abs.D2
-- E5W
namespace Go.Abs.D2
open Go Go.Eng Go.Abs
abbrev qn:D:= .st [.int .i64,.int .i64]
abbrev sI:D:= .st [.int .i64,.sl qn]
abbrev sH:D:= .st [.int .i64,.int .i64,.int .i64,.sl qn,.arr 32 (.int .u8),.arr 32 (.int .u8),.st [.int .i64,.sl (.arr 32 (.int .u8)),.sl (.arr 32 (.int .u8))]]
theorem Hi (aS:List A) (h:Den qn aS):∃c:Ch,aS=c.cells∧(rg c.id∧rg c.st):=by
  simp only [Den,iK]at h
  obtain⟨a,r,h1,⟨b,r2,h2,rfl,rfl⟩,rfl⟩:=h
  obtain⟨n,rfl,hn⟩:=kC a (by simpa only [Den]using h1)
  obtain⟨m,rfl,hm⟩:=kC b (by simpa only [Den]using h2)
  exact⟨⟨n,m⟩,rfl,hn,hm⟩
theorem AB (aS:List A) (h:Den (.sl qn) aS):∃l:List Ch,aS= [dS l]∧l.length≤maxLen∧∀c∈l,rg c.id∧rg c.st:=by
  simp only [Den]at h
  obtain⟨ls,h1,h2,rfl⟩:=h
  obtain⟨ys,rfl,h3⟩:=mY (f:=Ch.cells) (e:=qn) Hi ls (fun x hx=>by simpa only [Den]using h1 x hx)
  exact⟨ys,by rw [List.length_map, ←List.flatMap_def];rfl,by simpa using h2,h3⟩
theorem Hn (aS:List A) (h:Den sI aS):∃s:Sp,aS=s.cells∧s.ok∧s.ch.length≤maxLen:=by
  simp only [Den,iK]at h
  obtain⟨a,r,h1,⟨b,r2,h2,rfl,rfl⟩,rfl⟩:=h
  obtain⟨n,rfl,hn⟩:=kC a (by simpa only [Den]using h1)
  obtain⟨l,rfl,hl,hc⟩:=AB b (by simpa only [Den,iK]using h2)
  exact⟨⟨n,l⟩,rfl,⟨hn,hc⟩,hl⟩
theorem Ho (aS:List A) (h:Den (.sl sI) aS):∃S:List Sp,aS= [.fz S.length (jI S)]∧S.length≤maxLen∧∀s∈S,s.ok∧s.ch.length≤maxLen:=by
  simp only [Den]at h
  obtain⟨ls,h1,h2,rfl⟩:=h
  obtain⟨ys,rfl,h3⟩:=mY (f:=Sp.cells) (e:=sI) Hn ls (fun x hx=>by simpa only [Den]using h1 x hx)
  exact⟨ys,by rw [List.length_map, ←List.flatMap_def];rfl,by simpa using h2,h3⟩
structure Ep.typed (e:Ep):Prop where
  iss:rg e.iss
  no:rg e.no
  day:rg e.day
  ch:∀c∈e.ch,rg c.id∧rg c.st
  bh:e.bh.length=32
  prev:e.prev.length=32
  S:aT e.sg.S
  P:aT e.sg.P
  gy:e.ch.length≤maxLen
theorem Ep.typed.ok {e:Ep} (h:e.typed) (hf:e.ch.length≤1000):e.ok:=⟨h.iss,h.no,h.day,h.ch,hf,h.bh,h.prev,h.S,h.P⟩
theorem Ep.typed.len {e:Ep} (h:e.typed):e.cells.length=71:=by simp [Ep.cells,h.bh,h.prev]
theorem Hj (aS:List A) (h:Den sH aS):∃e:Ep,aS=e.cells∧e.typed:=by
  simp only [Den,iK]at h
  obtain⟨a,_,h1,⟨b,_,h2,⟨c,_,h3,⟨d,_,h4,⟨e,_,h5,⟨f,_,h6,⟨g,_,h7,rfl,rfl⟩,rfl⟩,rfl⟩,rfl⟩,rfl⟩,rfl⟩,rfl⟩:=h
  obtain⟨n1,rfl,g1⟩:=kC a (by simpa only [Den]using h1)
  obtain⟨n2,rfl,g2⟩:=kC b (by simpa only [Den]using h2)
  obtain⟨n3,rfl,g3⟩:=kC c (by simpa only [Den]using h3)
  obtain⟨l,rfl,hl,hc⟩:=AB d (by simpa only [Den,iK]using h4)
  obtain⟨x,rfl,hx⟩:=sJ (n:=32) e (by simpa only [Den]using h5)
  obtain⟨y,rfl,hy⟩:=sJ (n:=32) f (by simpa only [Den]using h6)
  obtain⟨s,rfl,h8,h9⟩:=Hm g (by simpa only [Den,iK]using h7)
  exact⟨⟨n1,n2,n3,l,x,y,s⟩,by simp [Ep.cells],g1,g2,g3,hc,hx,hy,h8,h9,hl⟩
theorem Hk (aS:List A) (h:Den (.sl sH) aS):∃l:List Ep,aS= [cQ l]∧l.length≤maxLen∧∀e∈l,e.typed:=by
  simp only [Den]at h
  obtain⟨ls,h1,h2,rfl⟩:=h
  obtain⟨ys,rfl,h3⟩:=mY (f:=Ep.cells) (e:=sH) Hj ls (fun x hx=>by simpa only [Den]using h1 x hx)
  exact⟨ys,by rw [List.length_map, ←List.flatMap_def];rfl,by simpa using h2,h3⟩
theorem Dt {x:List UInt8} {n iss:Int} {ids:List Int} (hi:rg iss):∀ {S:List Sp} {l:List Ep},c6 l→l.length+S.length≤1000→(∀s∈S,s.ok)→(∀s∈S,s.ch.length≤10)→c6 (jA x n iss ids l S)∧(jA x n iss ids l S).length≤l.length+S.length
  | [],l,hl,_,_,_=>⟨hl,Nat.le_refl _⟩
  | s :: r, l, hl, hn, hS, hc => by
    rw [List.length_cons]at hn
    have hs:=hS s (.head _)
    have ha:=zf (x:=x) (n:=n) (ids:=ids) (c:=s.ch) (day:=s.day) hl (by omega) hi hs.1 (by have:=hc s (.head _);omega) hs.2
    have ih:=Dt (x:=x) (n:=n) (ids:=ids) hi (S:=r) ha.1 (by omega) (fun t ht=>hS t (.tail _ ht)) (fun t ht=>hc t (.tail _ ht))
    exact⟨ih.1,Nat.le_trans ih.2 (by rw [List.length_cons];omega)⟩
end Go.Abs.D2
-- E5V
namespace Go.Abs.D2
open Go Go.Eng Go.Abs
abbrev fM:List UInt8:=3::List.replicate 31 0
abbrev cA:List Ch:= [⟨5,2⟩]
abbrev cB:List Ch:= [⟨4,1⟩]
@[irreducible] def eA:Ep:=eY fM 2 [] 1 10 [4,5] cA (aX σ0 cA)
theorem qu:eA=eY fM 2 [] 1 10 [4,5] cA (aX σ0 cA):=by unfold eA;rfl
@[irreducible] def eB:Ep:=eY fM 2 [eA] 1 11 [4,5] cB (aX (aX σ0 cA) cB)
theorem sP:eB=eY fM 2 [eA] 1 11 [4,5] cB (aX (aX σ0 cA) cB):=by unfold eB;rfl
theorem rg_of {n:Int} (h0: -9223372036854775808≤n) (h1:n≤9223372036854775807):rg n:=⟨h0,h1⟩
theorem uD:cd ((2:Nat):Int):=by decide
theorem s9:cC []=some σ0:=by rw [mg];rfl
theorem Aj (r:List UInt8) (n:Int):cz r n []=0:=sF s9 fun e he=>by cases he
theorem Dv:dY fM 2 [] 1 10 [4,5] cA= .inr eA:=by
  rw [qu]
  exact qW (n:=((2:Nat):Int)) uD s9 (Aj _ _) (by decide) (by decide) rfl (by decide) (yq (by decide) (by decide+kernel))
theorem qE:cC [eA]=some (aX σ0 cA)∧cz (cq fM 2) 2 [eA]=0:=by
  obtain⟨σ,h1,h2,h3⟩:=xT Dv
  rw [s9]at h1
  cases h1
  exact⟨h2,h3⟩
theorem Jt {iss day:Int}:jX [eA] iss day=((iss==1)&&decide (day>10)):=by
  have h:eA.iss=1∧eA.day=10:=by rw [qu];exact⟨rfl,rfl⟩
  show((iss==eA.iss)&&decide (day>eA.day))=_
  rw [h.1,h.2]
theorem Dw:dY fM 2 [eA] 1 11 [4,5] cB= .inr eB:=by
  rw [sP]
  exact qW (n:=((2:Nat):Int)) uD qE.1 qE.2 (by decide) (by decide) (by rw [Jt];rfl) (by decide+kernel) (yq (by decide) (by decide+kernel))
theorem td:cC [eA,eB]=some (aX (aX σ0 cA) cB)∧cz (cq fM 2) 2 [eA,eB]=0:=by
  obtain⟨σ,h1,h2,h3⟩:=xT Dw
  rw [qE.1]at h1
  cases h1
  exact⟨h2,h3⟩
theorem Ln:dY fM 2 [eA] 1 11 [4,5] [⟨5,0⟩]= .inl 351:=j6 (n:=((2:Nat):Int)) uD qE.1 qE.2 (by decide) (.inr (.inr (.inl (by decide+kernel))))
theorem Lo:dY fM 2 [eA,eB] 1 12 [4,5] []= .inl 2:=xS (n:=((2:Nat):Int)) uD td.1 td.2 rfl
theorem Nb:kV [eA,eB] 1= .inr [⟨4,1⟩,⟨5,2⟩]:=by
  rw [yu (σ:=aX (aX σ0 cA) cB) (by decide) (by exact td.1)]
  have hk:c9 (aX (aX σ0 cA) cB)= [4,5]:=by decide+kernel
  unfold gT
  rw [hk]
  rfl
theorem Nc:kV [] (-1)= .inr []:=by
  rw [yu (l:= []) (no:= -1) (σ:=σ0) (by decide) (by exact s9)]
  have hk:c9 σ0= []:=by decide+kernel
  unfold gT
  rw [hk]
  rfl
theorem Nd:kV [] 0= .inl 1:=Ex (by decide)
theorem FP:oe [] 5=none:=by rw [vB];rfl
theorem FQ:oe [eA,eB] 10=some 0:=by
  have h1:eA.day=10:=by rw [qu];rfl
  have h2:eB.day=11:=by rw [sP];rfl
  rw [vB]
  show jO [eA,eB] 10 (0+1+1)=_
  rw [zy (e:=eB) rfl (by rw [h2];decide),zA (e:=eA) rfl (by rw [h1];decide)]
theorem L2 {l:List Ch} (h:∀e∈l, -9223372036854775808≤e.id∧e.id≤9223372036854775807∧ -9223372036854775808≤e.st∧e.st≤9223372036854775807):∀e∈l,rg e.id∧rg e.st:=fun e he=>let ⟨a,b,c,d⟩:=h e he;⟨⟨a,b⟩,⟨c,d⟩⟩
theorem q8 {a b:Int} (h: -9223372036854775808≤a∧a≤9223372036854775807∧ -9223372036854775808≤b∧b≤9223372036854775807):∀e∈([⟨a,b⟩]:List Ch),rg e.id∧rg e.st:=L2 fun e he=>by rw [List.mem_singleton.1 he];exact h
theorem oZ:eA.ok:=by rw [qu];exact qS (by decide) (rg_of (by decide) (by decide)) (rg_of (by decide) (by decide)) (by decide) (q8 (by decide))
theorem xH:eB.ok:=by rw [sP];exact qS (by decide) (rg_of (by decide) (by decide)) (rg_of (by decide) (by decide)) (by decide) (q8 (by decide))
theorem qT:c6 []:=fun e he=>by cases he
theorem Da:c6 [eA]:=fun e he=>by rw [List.mem_singleton.1 he];exact oZ
theorem ny:c6 [eA,eB]:=fun e he=>by
  rcases List.mem_cons.1 he with rfl|he
  · exact oZ
  · rw [List.mem_singleton.1 he];exact xH
theorem Lj:eA.prev=zD:=by rw [qu];rfl
theorem Ll:eB.prev=bR eA:=by rw [sP];rfl
theorem A8 {l:List Ep} {i:Nat} {e:Ep} (hl:c6 l) (h:l[i]? =some e):(((cZ l).drop (i*71)).drop 36).take 32=e.prev.map u8:=by
  have hok:=hl e (List.mem_of_getElem? h)
  have h1:((((cZ l).drop (i*71)).take 71).drop 36).take 32=e.prev.map u8:=by rw [gh hl h];exact l7 hok
  rw [List.drop_take,List.take_take]at h1
  exact h1
end Go.Abs.D2
-- E5X
namespace Go.Abs.D2
open Go Go.Eng Go.Abs
structure Good (x:List UInt8) (n:Int) (l:List Ep):Prop where
  form:∃τ,cC l=some τ
  vS:cz (cq x n) n l=0
  size:l≠ []→cd n
theorem I0 (x:List UInt8) (n:Int):Good x n []:=⟨⟨σ0,by rw [mg];rfl⟩,sF (show cC []=some σ0 by rw [mg];rfl) (fun e he=>by cases he),fun h=>absurd rfl h⟩
theorem Dr {x:List UInt8} {n iss:Int} {ids:List Int}:∀ {S:List Sp} {l:List Ep},Good x n l→Good x n (jA x n iss ids l S)
  | [],_,h=>h
  | s :: r, l, h => by
    rw [jA]
    refine Dr (S:=r) ?_
    cases hp:dY x n l iss s.day ids s.ch with
    |inl v=>exact h
    | inr e =>
      obtain⟨σ,h1,h2,h3⟩:=xT hp
      exact⟨⟨_,h2⟩,h3,fun _=>(xU hp).1⟩
end Go.Abs.D2
-- E6A
namespace Go.Abs.D2
open Go Go.Eng Go.Abs
def ir (l:List Ep) (i:Nat):List UInt8:=match l[i]? with
  |some e=>bR e
  |none=>zD
theorem kH (l:List Ep) (i:Nat):(ir l i).length=32:=by
  unfold ir
  split
  · simp
  · simp
theorem wv {l:List Ep} {i:Nat} {e:Ep} (h:l[i]? =some e):ir l i=bR e:=by unfold ir;rw [h]
def jl (l:List Ep) (k j:Nat):List (List UInt8):=(List.range k).map fun i=>if i<j then ir l i else zD
@[irreducible] def iu (l:List Ep) (k:Nat):List (List UInt8):=(List.range k).map (ir l)
theorem qq (l:List Ep) (k:Nat):iu l k=(List.range k).map (ir l):=by unfold iu;rfl
@[simp] theorem len_digsJ (l:List Ep) (k j:Nat):(jl l k j).length=k:=by simp [jl]
@[simp] theorem len_digsE (l:List Ep) (k:Nat):(iu l k).length=k:=by simp [qq]
theorem u5 (l:List Ep) (k j:Nat):aT (jl l k j):=fun d hd=>by
  obtain⟨i,_,rfl⟩:=List.mem_map.1 hd
  split
  · exact kH _ _
  · simp
theorem nV (l:List Ep) (k:Nat):aT (iu l k):=fun d hd=>by
  rw [qq]at hd
  obtain⟨i,_,rfl⟩:=List.mem_map.1 hd
  exact kH _ _
theorem Hw {l:List Ep} {k j:Nat} (h:¬(j<l.length∧j<k)):jl l k j=iu l k:=by
  rw [qq]
  unfold jl
  refine List.map_congr_left fun i hi=>?_
  have hk:=List.mem_range.1 hi
  split
  · rfl
  · unfold ir
    rw [List.getElem?_eq_none (by omega)]
theorem Hx {l : List Ep} {k j : Nat} {e : Ep} (h : l[j]? = some e) : (jl l k j).set j (bR e) = jl l k (j + 1) := by
  apply List.ext_getElem?
  intro i
  unfold jl
  rw [List.getElem?_set]
  by_cases hij:j=i
  · subst hij
    rw [if_pos rfl,List.length_map,List.length_range]
    by_cases hk:j<k
    · rw [if_pos hk, List.getElem?_map, List.getElem?_range hk]
      simp [wv h]
    · rw [if_neg hk,List.getElem?_eq_none (by simp;omega)]
  · rw [if_neg hij, List.getElem?_map, List.getElem?_map]
    cases hr:(List.range k)[i]? with
    |none=>rfl
    | some m =>
      have:m=i:=by
        rw [List.getElem?_range (by have:=(List.getElem?_eq_some_iff.1 hr).1;simpa using this)]at hr
        cases hr;rfl
      subst this
      simp only [Option.map_some,Option.some.injEq]
      by_cases hm:m<j
      · rw [if_pos hm,if_pos (by omega)]
      · rw [if_neg hm,if_neg (by omega)]
theorem Bv:∀ {L:List (List UInt8)} {j:Nat} {d:List UInt8},aT L→j<L.length→(L.flatten.map u8).take (j*32)++d.map u8++(L.flatten.map u8).drop (j*32+32)=(L.set j d).flatten.map u8
  | [],_,_,_,h=>by simp at h
  | a :: L, 0, d, hD, _ => by
    have ha:(a.map u8).length=32:=by rw [List.length_map];exact hD a (.head _)
    rw [List.flatten_cons,List.map_append,Nat.zero_mul,List.take_zero,Nat.zero_add,List.drop_left' ha]
    simp
  | a :: L, j + 1, d, hD, h => by
    have ha:(a.map u8).length=32:=by rw [List.length_map];exact hD a (.head _)
    have ih:=Bv (L:=L) (j:=j) (d:=d) (fun q hq=>hD q (.tail _ hq)) (by simpa using h)
    rw [List.flatten_cons,List.map_append,show(j+1)*32=(a.map u8).length+j*32 by rw [ha];omega,Nat.add_assoc,List.take_length_add_append,List.drop_length_add_append,List.set_cons_succ,List.flatten_cons,List.map_append, ←ih]
    simp only [List.append_assoc]
theorem J6 (l:List Ep) (k:Nat):List.replicate (k*32) (u8 0)=(jl l k 0).flatten.map u8:=by
  have h:jl l k 0=List.replicate k zD:=by
    unfold jl
    rw [show(fun i=>if i<0 then ir l i else zD)=fun _=>zD from funext fun i=>if_neg (by omega)]
    rw [List.map_const',List.length_range]
  rw [h]
  clear h
  induction k with
  |zero=>rfl
  |succ k ih=>rw [List.replicate_succ,List.flatten_cons,List.map_append, ←ih,show(k+1)*32=32+k*32 by omega, ←List.replicate_append_replicate];rfl
theorem H3 {l:List Ep} {i:Nat} {e:Ep} (hl:c6 l) (h:l[i]? =some e):((cZ l).drop (i*71+68)).take 3= [.i .i64 e.sg.a,a6 e.sg.S,a6 e.sg.P]:=by
  have hok:=hl e (List.mem_of_getElem? h)
  have h1:(((cZ l).drop (i*71)).take 71).drop 68= [.i .i64 e.sg.a,a6 e.sg.S,a6 e.sg.P]:=by rw [gh hl h];exact wJ hok
  rw [List.drop_take,List.drop_drop]at h1
  exact h1
theorem A9 {l:List Ep} {i:Nat} {e:Ep} (hl:c6 l) (h:l[i]? =some e):(((cZ l).drop (i*71)).drop 68).take 3= [.i .i64 e.sg.a,a6 e.sg.S,a6 e.sg.P]:=by
  rw [List.drop_drop];exact H3 hl h
theorem Iw {x:List UInt8} {k:Nat} {l:List Ep} (h:Good x (k:Int) l):l.length≤k:=by
  obtain⟨τ,hf⟩:=h.form
  exact vT hf h.vS
theorem GO {r:List UInt8} {n:Int} {l:List Ep} (h:cz r n l=0):(∃σ,cC l=some σ)∧∀e∈l,c5 r n (bR e) e.sg.a e.sg.S e.sg.P=true:=by
  cases hf:cC l with
  |none=>rw [qj hf]at h;cases h
  | some σ =>
    refine⟨⟨σ,rfl⟩,fun e he=>?_⟩
    cases hv:c5 r n (bR e) e.sg.a e.sg.S e.sg.P with
    |true=>rfl
    |false=>rw [sE hf he hv]at h;cases h
theorem Iv {x : List UInt8} {n a : Int} {L : List (List UInt8)} {m : List UInt8} {S P : List (List UInt8)} (hv : c5 (cq x n) n m a S P = true) (h : (fC x n L m a S P).1 = 0) : bj L a.toNat = m := by
  by_cases h1:(!(bj L a.toNat==zD)&&bj L a.toNat==m)=true
  · rw [Bool.and_eq_true,beq_iff_eq]at h1;exact h1.2
  · have h1 := Bool.not_eq_true _ ▸ h1
    exfalso
    unfold fC at h
    simp only [hv,h1,if_true]at h
    split at h
    · rename_i hc;cases hc
    · split at h
      · exact absurd h (by decide)
      · split at h
        · exact absurd (show(2:Int)=0 from h) (by decide)
        · exact absurd h (by decide)
theorem Bz {x:List UInt8} {n:Int} {l o:List Ep} {k i:Nat} {f:Ep} (ho:cz (cq x n) n o=0) (hf:o[i]? =some f) (hi:i<k) (hd:bR f≠ir l i):(fC x n (iu l k) (bR f) f.sg.a f.sg.S f.sg.P).1≠0:=by
  obtain⟨⟨σ,hs⟩,hv⟩:=GO ho
  intro h
  have h1:=Iv (hv f (List.mem_of_getElem? hf)) h
  rw [mg]at hs
  have ha:=wW hs i f hf
  rw [ha,Int.toNat_natCast,Nat.zero_add,Ed (q:=ir l i) (by rw [qq,List.getElem?_map,List.getElem?_range hi];rfl)]at h1
  exact hd h1.symm
end Go.Abs.D2
-- E6P
namespace Go.Abs
open Go Go.Eng
theorem YO.wk {P:Program} {E:Ev} {st:St} {op:Op} {ty:TypeId} {v v':A} (h:YO P E st op ty v) (hw:Wk v v'):YO P E st op ty v':=fun w0 X0 n β X a w hr=>let ⟨u,h1,h2⟩:=h w0 X0 n β X a w hr;⟨u,rZ hw h1,h2⟩
end Go.Abs
namespace Go.Abs.D2
open Go Go.Eng Go.Abs
def fb (a b:Ep):Bool:=((((a.iss==b.iss&&a.no==b.no)&&a.day==b.day)&&fq a.ch b.ch)&&a.bh==b.bh)&&a.prev==b.prev
theorem DZ:∀ {a b:List Ch},fq a b=true→a=b
  | [], [],_=>rfl
  | ⟨i, s⟩ :: a, ⟨j, t⟩ :: b, h => by
    simp only [fq,Bool.and_eq_true,beq_iff_eq]at h
    obtain⟨⟨rfl,rfl⟩,h⟩:=h
    rw [DZ h]
  | [],_::_,h=>by cases h
  |_::_, [],h=>by cases h
def Ep.oO (e:Ep) (s:Lf):Ep:= {e with sg:=s}
theorem BY {e:Ep} (h:e.ok) {f:Ep} (hf:f.ok):(e.oO f.sg).ok:=⟨h.iss,h.no,h.day,h.ch,h.gy,h.bh,h.prev,hf.S,hf.P⟩
theorem I7 (e:Ep) (s:Lf):bR (e.oO s)=bR e:=AL e s
theorem Mv {a b:Ep} (h:fb a b=true):a.oO b.sg=b:=by
  simp only [fb,Bool.and_eq_true,beq_iff_eq]at h
  obtain⟨⟨⟨⟨⟨h1,h2⟩,h3⟩,h4⟩,h5⟩,h6⟩:=h
  replace h4:=DZ h4
  cases a;cases b
  simp only at h1 h2 h3 h4 h5 h6
  subst h1 h2 h3 h4 h5 h6
  rfl
theorem Mu {a b:Ep} (h:bR a≠bR b):fb a b=false:=by
  cases hs:fb a b with
  |false=>rfl
  |true=>exact absurd (by rw [←Mv hs,I7]) h
theorem DE {e:Ep} (h:e.ok):Rd 16 (cP e):=⟨xG e,AD e,x9 h⟩
def qi (v:CV):Ch:=⟨(dM v 0).nm,(dM v 1).nm⟩
theorem z7 (l:List Ch):(l.map dh).map qi=l:=by
  rw [List.map_map]
  refine(List.map_congr_left fun c _=>?_).trans (List.map_id l)
  rfl
theorem HW {a b:Ep} (ha:a.ok) (hb:b.ok) (h:(cP a).enc=(cP b).enc):fb a b=true:=by
  have h1:=Az (DE ha) (by have:=oB ha;omega)
  have h2:=Az (DE hb) (by have:=oB hb;omega)
  rw [h,h2]at h1
  have he:cP b=cP a:=Option.some.inj h1
  have e1:(dM (cP b) 0).nm=(dM (cP a) 0).nm:=by rw [he]
  have e2:(dM (cP b) 1).nm=(dM (cP a) 1).nm:=by rw [he]
  have e3:(dM (cP b) 2).nm=(dM (cP a) 2).nm:=by rw [he]
  have e4:(dM (cP b) 3).ls.map qi=(dM (cP a) 3).ls.map qi:=by rw [he]
  have e5:(dM (cP b) 4).st=(dM (cP a) 4).st:=by rw [he]
  have e6:(dM (cP b) 5).st=(dM (cP a) 5).st:=by rw [he]
  change b.iss=a.iss at e1
  change b.no=a.no at e2
  change b.day=a.day at e3
  change (b.ch.map dh).map qi=(a.ch.map dh).map qi at e4
  rw [z7,z7]at e4
  change b.bh=a.bh at e5
  change b.prev=a.prev at e6
  unfold fb
  rw [e1,e2,e3,e4,e5,e6,yf]
  simp
theorem Mw (a b : Ep) : (a.iss ≠ b.iss ∧ fb a b = false) ∨ (a.iss = b.iss ∧ a.no ≠ b.no ∧ fb a b = false) ∨ (a.iss = b.iss ∧ a.no = b.no ∧ a.day ≠ b.day ∧ fb a b = false) ∨ (a.iss = b.iss ∧ a.no = b.no ∧ a.day = b.day ∧ fq a.ch b.ch = false ∧ fb a b = false)
    ∨(a.iss=b.iss∧a.no=b.no∧a.day=b.day∧fq a.ch b.ch=true∧a.bh≠b.bh∧fb a b=false)∨(a.iss=b.iss∧a.no=b.no∧a.day=b.day∧fq a.ch b.ch=true∧a.bh=b.bh∧a.prev≠b.prev∧fb a b=false)∨(a.iss=b.iss∧a.no=b.no∧a.day=b.day∧fq a.ch b.ch=true∧a.bh=b.bh∧a.prev=b.prev∧fb a b=true):=by
  by_cases h1:a.iss=b.iss
  · by_cases h2 : a.no = b.no
    · by_cases h3 : a.day = b.day
      · cases h4 : fq a.ch b.ch with
        |false=>exact .inr (.inr (.inr (.inl ⟨h1,h2,h3,rfl,by simp [fb,h4]⟩)))
        | true =>
          by_cases h5:a.bh=b.bh
          · by_cases h6 : a.prev = b.prev
            · exact .inr (.inr (.inr (.inr (.inr (.inr ⟨h1,h2,h3,rfl,h5,h6,by simp [fb,h1,h2,h3,h4,h5,h6]⟩)))))
            · exact .inr (.inr (.inr (.inr (.inr (.inl ⟨h1,h2,h3,rfl,h5,h6,by simp [fb,h6]⟩)))))
          · exact .inr (.inr (.inr (.inr (.inl ⟨h1,h2,h3,rfl,h5,by simp [fb,h5]⟩))))
      · exact .inr (.inr (.inl ⟨h1,h2,h3,by simp [fb,h3]⟩))
    · exact .inr (.inl ⟨h1,h2,by simp [fb,h2]⟩)
  · exact .inl ⟨h1,by simp [fb,h1]⟩
theorem HX {e:Ep} (h:e.ok) (s:Lf):e.cells.take 68++ [.i .i64 s.a,a6 s.S,a6 s.P]++e.cells.drop 71=(e.oO s).cells:=by
  have h1:e.cells.drop 71= []:=List.drop_eq_nil_of_le (by rw [h.len];omega)
  have h2:e.cells.take 68= .i .i64 e.iss:: .i .i64 e.no:: .i .i64 e.day::dS e.ch::(e.bh.map u8++e.prev.map u8):=by
    unfold Ep.cells
    show _::_::_::_::(List.take 64 _)=_
    rw [←List.append_assoc,List.take_left' (by simp [h.bh,h.prev])]
  rw [h1,h2]
  simp [Ep.cells,Ep.oO]
theorem G8 {e:Ep} (h:e.ok):A.fz 32 (((e.cells.drop 4).drop (0*1)).take (32*1))= .fz e.bh.length (e.bh.map u8):=by rw [Nat.zero_mul,List.drop_zero,Nat.mul_one,l6 h,h.bh]
theorem Hb {e:Ep} (h:e.ok):A.fz 32 (((e.cells.drop 36).drop (0*1)).take (32*1))= .fz e.prev.length (e.prev.map u8):=by rw [Nat.zero_mul,List.drop_zero,Nat.mul_one,l7 h,h.prev]
def nX (l:List Ep):Prop:=∀e∈l,e.typed
theorem A7 {l:List Ep} {i:Nat} {e:Ep} (hl:nX l) (h:l[i]? =some e):((cZ l).drop (i*71)).take 71=e.cells:=by
  unfold cZ
  induction l generalizing i with
  |nil=>simp at h
  | cons d l ih =>
    rw [List.flatMap_cons]
    have hd:=(hl d (.head _)).len
    cases i with
    |zero=>simp at h;subst h;rw [Nat.zero_mul,List.drop_zero,List.take_left' hd]
    |succ i=>rw [show(i+1)*71=d.cells.length+i*71 by rw [hd];omega, ←List.drop_drop,List.drop_left];exact ih (fun x hx=>hl x (.tail _ hx)) (by simpa using h)
theorem HZ {l:List Ep} {i:Nat} {e:Ep} (hl:nX l) (h:l[i]? =some e):(((cZ l).drop (i*71)).drop 3)[0]? =some (dS e.ch):=by
  have e1:(((cZ l).drop (i*71)).take 71)[3]? =some (dS e.ch):=by rw [A7 hl h];rfl
  rw [List.getElem?_take,if_pos (by decide)]at e1
  rw [List.getElem?_drop,Nat.add_zero];exact e1
theorem H2 {l:List Ep} {i:Nat} {e:Ep} (hl:nX l) (h:l[i]? =some e):(((cZ l).drop (i*71)).drop 68).take 3= [.i .i64 e.sg.a,a6 e.sg.S,a6 e.sg.P]:=by
  have ht:=hl e (List.mem_of_getElem? h)
  have h1:(((cZ l).drop (i*71)).take 71).drop 68= [.i .i64 e.sg.a,a6 e.sg.S,a6 e.sg.P]:=by
    rw [A7 hl h,show 68=36+32 from rfl, ←List.drop_drop]
    have:e.cells.drop 36=e.prev.map u8++ [.i .i64 e.sg.a,a6 e.sg.S,a6 e.sg.P]:=by
      show(e.bh.map u8++_).drop 32=_
      rw [List.drop_left' (by rw [List.length_map,ht.bh])]
    rw [this,List.drop_left' (by rw [List.length_map,ht.prev])]
  rw [List.drop_take]at h1
  exact h1
def lB (n:Int) (e:Ep):Bool:=decide (e.ch.length≤10)&&m9 n e.sg.S.length e.sg.P.length
@[irreducible] def lz (n:Int) (l:List Ep) (ids:List Int) (c:List Ch):Bool:=l.all (lB n)&&(((m9 n 0 0&&decide ((l.length:Int)≤6))&&decide ((ids.length:Int)≤24))&&decide ((c.length:Int)≤10))
theorem Bg {n:Int} {l:List Ep} {ids:List Int} {c:List Ch} {e:Ep} (h:e∈l) (hc:lB n e=false):lz n l ids c=false:=by
  unfold lz
  rw [show l.all (lB n)=false from List.all_eq_false.2 ⟨e,h,by simp [hc]⟩];rfl
theorem Ia {n:Int} {l:List Ep} {ids:List Int} {c:List Ch} (h:∀e∈l,lB n e=true):lz n l ids c=(((m9 n 0 0&&decide ((l.length:Int)≤6))&&decide ((ids.length:Int)≤24))&&decide ((c.length:Int)≤10)):=by
  unfold lz
  rw [List.all_eq_true.2 h,Bool.true_and]
theorem Bh {n:Int} {l:List Ep} {ids:List Int} {c:List Ch} (h:lz n l ids c=true):(∀e∈l,e.ch.length≤10)∧(n≤10∨256<n)∧l.length≤6∧ids.length≤24∧c.length≤10:=by
  unfold lz at h
  simp only [Bool.and_eq_true,decide_eq_true_eq,List.all_eq_true,lB,m9,Bool.or_eq_true]at h
  exact⟨fun e he=>(h.1 e he).1,by have:=h.2.1.1.1.1.1;omega,by omega,by omega,by omega⟩
theorem Ib {n:Int} {l:List Ep} {ids:List Int} {c:List Ch} (h:lz n l ids c=true) (hl:nX l):c6 l:=fun e he=>(hl e he).ok (Nat.le_trans ((Bh h).1 e he) (by decide))
theorem Ih (a b:Bool):a=false∨(a=true∧b=false)∨(a=true∧b=true):=by cases a<;>cases b<;>simp
theorem F5 (l:List Ep) (i:Nat) (d:List UInt8):l.length≤i∨(∃e,l[i]? =some e∧d=bR e)∨∃e,l[i]? =some e∧d≠bR e:=by
  rcases Nat.lt_or_ge i l.length with h|h
  · rcases Decidable.em (d = bR l[i]) with hd | hd
    · exact .inr (.inl ⟨_,List.getElem?_eq_getElem h,hd⟩)
    · exact .inr (.inr ⟨_,List.getElem?_eq_getElem h,hd⟩)
  · exact .inl h
theorem sO {l:List Ep} {k i:Nat} (h:i<k):(iu l k)[i]? =some (ir l i):=by rw [qq,List.getElem?_map,List.getElem?_range h];rfl
end Go.Abs.D2
-- C1E
namespace Go.Abs.D2
open Go Go.Eng Go.Abs Go.Proofs
theorem L1 (k n:Int) (s:List UInt8) (l:List CV) (hl:CV.eo l<1000000) (ih:∀v∈l,aw Tryz.prog 176 [.ag v.cells] (aO (.b v.okB))):aw Tryz.prog 176 [.ag [.i .i64 k,.i .i64 n,.s s,.fz l.length (CV.bz l)]] (aO (.b (CV.okB (.mk k n s l)))):=by
 refine enter Tryz.func176 rfl Tryz.ntmps176 (by kernel_rfl) (Nat.le_of_ble_eq_true rfl) fun w0 X0 hI=>?_
 refine af<|ai ?_
 refine aj rfl (bF 1 rfl rfl rfl ?_)
 refine s1 (aa rfl) rfl ?_
 refine ah<|ae<|af<|af ?_
 have hll:=CV.qL l
 refine ai<|s1 (aD Tryz.underlying109 rfl an (by decide) rfl rfl) rfl<|s1 (au an rfl rfl rfl) rfl ?_
 refine ah<|ae<|aI<|af<|ai<|s1 (aa rfl) rfl<|s1 (aa rfl) rfl ?_
 refine ah<|ae ?_
 refine aK rfl (fun hc6=>?_) (fun hc6=>?_)
 ·have hk1 : k = 1 := by simpa using hc6
  refine af<|ai<|s1 (aD Tryz.underlying109 rfl gJ (by decide) rfl rfl) rfl<|s1 (au gJ rfl rfl rfl) rfl<|s1 ((aa rfl).v (v':= .b s.isEmpty) (congrArg A.b (by cases s<;>rfl))) rfl<|s1 (aa rfl) rfl ?_
  refine cT 4 rfl rfl rfl rfl (fun hb11=> .step (aD Tryz.underlying109 rfl cJ (by decide) rfl rfl) rfl rfl<| .step (au cJ rfl rfl rfl) rfl rfl<| .step (a7 Tryz.underlying107 rfl rfl rfl) rfl rfl<| .step (aa rfl) rfl rfl<| .done) rfl rfl ?_
  refine s1 (aa rfl) rfl ?_
  refine ah<|ae<|aB<|bI<|aN ?_
  refine aC (rs:= [.tmp 2]) rfl (aA rfl az) ?_
  exact congrArg A.b (Dc hk1)
 ·have hk1 : ¬ k = 1 := by simpa using hc6
  refine af<|ai<|s1 (aa rfl) rfl<|s1 (aa rfl) rfl ?_
  refine ah<|ae ?_
  refine aK rfl (fun hc17=>?_) (fun hc17=>?_)
  ·have hk2 : k = 2 := by simpa using hc17
   refine af<|ai<|s1 (aD Tryz.underlying109 rfl an (by decide) rfl rfl) rfl<|s1 (au an rfl rfl rfl) rfl<|s1 (aa rfl) rfl<|s1 (aa rfl) rfl ?_
   refine cT 4 rfl rfl rfl rfl (fun hb22=> .step (aD Tryz.underlying109 rfl cJ (by decide) rfl rfl) rfl rfl<| .step (au cJ rfl rfl rfl) rfl rfl<| .step (a7 Tryz.underlying107 rfl rfl rfl) rfl rfl<| .step (aa rfl) rfl rfl<| .done) rfl rfl ?_
   refine s1 (aa rfl) rfl ?_
   refine ah<|ae<|aB<|bI<|aN ?_
   refine aC (rs:= [.tmp 2]) rfl (aA rfl az) ?_
   exact congrArg A.b (Dd hk2)
  ·have hk2 : ¬ k = 2 := by simpa using hc17
   refine af<|ai<|s1 (aa rfl) rfl<|s1 (aa rfl) rfl ?_
   refine ah<|ae ?_
   refine aK rfl (fun hc28=>?_) (fun hc28=>?_)
   ·have hk3 : k = 3 := by simpa using hc28
    refine af<|af<|ai<|s1 ((aa rfl).v (v':= .i .i64 0) rfl) rfl ?_
    refine ah<|ae<|aI ?_
    refine bD (ι:=Nat) (fun i=> [(1,.p 1 0),(3,nJ i)]) (fun i=>⟨[(1,some ([.i .i64 k,.i .i64 n,.s s,.fz l.length (CV.bz l)]))]⟩) (fun i=>i≤l.length∧(l.take i).all CV.okB=true) (fun i=>l.length - i) ?_ ?_
    ·exact bC (0) (⟨Nat.zero_le _,rfl⟩) [(1,some 1)] hI rfl rfl ⟨⟨_,rfl,.p rfl⟩,⟨_,rfl,.pure pu⟩,trivial⟩ ⟨.inr ⟨_,_,rfl,rfl,.pure ak⟩,trivial⟩
    rintro i ⟨hi,hi2⟩
    refine af<|af<|ai<|s1 (aa rfl) rfl<|s1 (aD Tryz.underlying109 rfl cJ (by decide) rfl rfl) rfl<|s1 (au cJ rfl rfl rfl) rfl<|s1 (a7 Tryz.underlying107 rfl rfl rfl) rfl<|s1 (aa rfl) rfl ?_
    refine ah<|ae ?_
    refine aK rfl (fun hc34=>?_) (fun hc34=>?_)
    ·have h43 : i < l.length := by have := of_decide_eq_true hc34; omega
     obtain⟨v,hv⟩:∃v,l[i]? =some v:=⟨_,List.getElem?_eq_getElem h43⟩
     have hvm:=List.mem_of_getElem? hv
     refine aE<|ae<|af<|aI<|af<|ai<|s1 (aD Tryz.underlying109 rfl cJ (by decide) rfl rfl) rfl<|s1 (au cJ rfl rfl rfl) rfl<|s1 (aa rfl) rfl<|s1 (bb i Tryz.underlying107 bd rfl rfl rfl (by omega) rfl) rfl<|s1 (bp bd rfl rfl (CV.get hv) (CV.len_cells v)) rfl ?_
     refine aj rfl (aF false rfl (.cons (.pure pu) (.nil)) (ih v hvm) pu (.inl rfl) rfl ?_)
     refine s1 (aa rfl) rfl ?_
     refine ah<|ae ?_
     refine aK rfl (fun hc43=>?_) (fun hc43=>?_)
     ·have h43 : v.okB = false := by simpa using hc43
      refine af<|ai<|s1 (aa rfl) rfl ?_
      refine ah<|ae<|aB<|bI<|aN<|aN<|bI<|aN<|bI<|aN ?_
      refine aC (rs:= [.tmp 2]) rfl (aA rfl az) ?_
      exact congrArg A.b (De hk3 hv h43)
     ·have h43 : v.okB = true := by simpa using hc43
      refine aE<|a8<|ae<|ai<|s1 (aa rfl) rfl<|s1 (aZ _ 1 rfl rfl rfl rfl (by omega)) rfl<|s1 (aa rfl) rfl ?_
      refine ah ?_
      exact bf (i+1) (⟨by omega,zi hv hi2 h43⟩) (by omega) [(1,some 1)] hI rfl rfl ⟨⟨_,rfl,.p rfl⟩,⟨_,rfl,.pure pu⟩,trivial⟩ ⟨.inr ⟨_,_,rfl,rfl,.pure ak⟩,trivial⟩
    ·obtain rfl : i = l.length := by have := of_decide_eq_false hc34; omega
     refine bx<|aM<|aM<|bA<|ae<|af<|ai<|s1 (aD Tryz.underlying109 rfl an (by decide) rfl rfl) rfl<|s1 (au an rfl rfl rfl) rfl<|s1 (aa rfl) rfl<|s1 (aa rfl) rfl ?_
     refine cT 3 rfl rfl rfl rfl (fun hb47=> .step (aD Tryz.underlying109 rfl gJ (by decide) rfl rfl) rfl rfl<| .step (au gJ rfl rfl rfl) rfl rfl<| .step ((aa rfl).v (v':= .b s.isEmpty) (congrArg A.b (by cases s<;>rfl))) rfl rfl<| .done) rfl rfl ?_
     refine s1 (aa rfl) rfl ?_
     refine ah<|ae<|aB<|bI<|aN ?_
     refine aC (rs:= [.tmp 2]) rfl (aA rfl az) ?_
     exact congrArg A.b (KM hk3 hi2)
   ·have hk3 : ¬ k = 3 := by simpa using hc28
    refine aE<|a8<|ae<|af<|ai<|s1 (aa rfl) rfl ?_
    refine ah<|ae<|aB ?_
    refine aC (rs:= [.tmp 2]) rfl (aA rfl az) ?_
    exact congrArg A.b (Db hk1 hk2 hk3)
theorem L0 (v:CV) (h:v.size≤1000000):aw Tryz.prog 176 [.ag v.cells] (aO (.b v.okB)):=CV.pq (p:=fun v=>aw Tryz.prog 176 [.ag v.cells] (aO (.b v.okB))) 1000000 (fun k n s l hl ih=>L1 k n s l hl ih) v h
theorem LF (k n:Int) (s:List UInt8) (l:List CV) (hl:CV.eo l<1000000) (ih:∀v∈l,aw Tryz.prog 177 [.ag v.cells] (aO (nJ v.depth))):aw Tryz.prog 177 [.ag [.i .i64 k,.i .i64 n,.s s,.fz l.length (CV.bz l)]] (aO (nJ (CV.depth (.mk k n s l)))):=by
 refine enter Tryz.func177 rfl Tryz.ntmps177 (by kernel_rfl) (Nat.le_of_ble_eq_true rfl) fun w0 X0 hI=>?_
 refine af<|ai ?_
 refine aj rfl (bF 1 rfl rfl rfl ?_)
 refine s1 ((aa rfl).v (v':= .i .i64 0) rfl) rfl ?_
 refine ah<|ae<|af<|af ?_
 have hll:=CV.qL l
 have hdl:=CV.wu l
 refine ai<|s1 (aD Tryz.underlying109 rfl an (by decide) rfl rfl) rfl<|s1 (au an rfl rfl rfl) rfl<|s1 (aa rfl) rfl ?_
 refine ah<|ae ?_
 refine aK rfl (fun hc7=>?_) (fun hc7=>?_)
 ·have hk3 : ¬ k = 3 := by simpa using hc7
  refine af<|ai<|s1 ((aa rfl).v (v':= .i .i64 0) rfl) rfl ?_
  refine ah<|ae<|aB<|aN ?_
  refine aC (rs:= [.tmp 2]) rfl (aA rfl az) ?_
  exact congrArg nJ (show 0=CV.depth (.mk k n s l) by rw [CV.depth,if_neg hk3])
 ·have hk3 : k = 3 := by simpa using hc7
  refine aE<|ae<|af<|ai<|s1 ((aa rfl).v (v':= .i .i64 0) rfl) rfl ?_
  refine ah<|ae<|af<|af<|ai<|s1 ((aa rfl).v (v':= .i .i64 0) rfl) rfl ?_
  refine ah<|ae<|aI ?_
  refine bD (ι:=Nat) (fun i=> [(1,.p 1 0),(3,nJ (CV.dF (l.take i))),(4,nJ i)]) (fun i=>⟨[(1,some ([.i .i64 k,.i .i64 n,.s s,.fz l.length (CV.bz l)]))]⟩) (fun i=>i≤l.length) (fun i=>l.length - i) ?_ ?_
  ·exact bC (0) (Nat.zero_le _) [(1,some 1)] hI rfl rfl ⟨⟨_,rfl,.p rfl⟩,⟨_,rfl,.pure pu⟩,⟨_,rfl,.pure pu⟩,trivial⟩ ⟨.inr ⟨_,_,rfl,rfl,.pure ak⟩,trivial⟩
  rintro i hi
  refine af<|af<|ai<|s1 (aa rfl) rfl<|s1 (aD Tryz.underlying109 rfl cJ (by decide) rfl rfl) rfl<|s1 (au cJ rfl rfl rfl) rfl<|s1 (a7 Tryz.underlying107 rfl rfl rfl) rfl<|s1 (aa rfl) rfl ?_
  refine ah<|ae ?_
  refine aK rfl (fun hc12=>?_) (fun hc12=>?_)
  ·have h43 : i < l.length := by have := of_decide_eq_true hc12; omega
   obtain⟨v,hv⟩:∃v,l[i]? =some v:=⟨_,List.getElem?_eq_getElem h43⟩
   have hvm:=List.mem_of_getElem? hv
   refine aE<|ae<|af<|aI<|ai<|s1 (aa rfl) rfl<|s1 (aD Tryz.underlying109 rfl cJ (by decide) rfl rfl) rfl<|s1 (au cJ rfl rfl rfl) rfl<|s1 (aa rfl) rfl<|s1 (bb i Tryz.underlying107 bd rfl rfl rfl (by omega) rfl) rfl<|s1 (bp bd rfl rfl (CV.get hv) (CV.len_cells v)) rfl ?_
   refine aj rfl (aF false rfl (.cons (.pure pu) (.nil)) (ih v hvm) pu (.inl rfl) rfl ?_)
   refine s1 ((uV (a:=CV.dF (l.take i)) (b:=v.depth) rfl rfl rfl).v (v':=nJ (CV.dF (l.take (i+1)))) (congrArg nJ (CV.AF hv))) rfl<|s1 (aa rfl) rfl ?_
   refine ah<|a8<|ae<|ai<|s1 (aa rfl) rfl<|s1 (aZ _ 1 rfl rfl rfl rfl (by omega)) rfl<|s1 (aa rfl) rfl ?_
   refine ah ?_
   exact bf (i+1) (by omega) (by omega) [(1,some 1)] hI rfl rfl ⟨⟨_,rfl,.p rfl⟩,⟨_,rfl,.pure pu⟩,⟨_,rfl,.pure pu⟩,trivial⟩ ⟨.inr ⟨_,_,rfl,rfl,.pure ak⟩,trivial⟩
  ·obtain rfl : i = l.length := by have := of_decide_eq_false hc12; omega
   refine bx<|aM<|aM<|bA<|ae<|af<|ai<|s1 ((aa rfl).v (v':=nJ (CV.dF l)) (by rw [List.take_length])) rfl<|s1 (aZ _ 1 rfl rfl rfl rfl (by omega)) rfl<|s1 (aa rfl) rfl ?_
   refine ah<|ae<|aB ?_
   refine aC (rs:= [.tmp 2]) rfl (aA rfl az) ?_
   exact congrArg nJ (show CV.dF l+1=CV.depth (.mk k n s l) by rw [CV.depth,if_pos hk3])
theorem LD (v:CV) (h:v.size≤1000000):aw Tryz.prog 177 [.ag v.cells] (aO (nJ v.depth)):=CV.pq (p:=fun v=>aw Tryz.prog 177 [.ag v.cells] (aO (nJ v.depth))) 1000000 (fun k n s l hl ih=>LF k n s l hl ih) v h
theorem Lx (v:CV) (h:v.size≤1000000):aw Tryz.prog 125 [.ag v.cells] (aO (.i .i64 (fg v))):=by
 refine enter Tryz.func125 rfl Tryz.ntmps125 (by kernel_rfl) (Nat.le_of_ble_eq_true rfl) fun w0 X0 hI=>?_
 refine af<|ai ?_
 refine aj rfl (bF 1 rfl rfl rfl ?_)
 refine s1 ((aa rfl).v (v':= .i .i64 0) rfl) rfl ?_
 refine ah<|ae<|af<|af<|ai<|s1 (aG bd rfl rfl (CV.len_cells v)) rfl ?_
 refine aj rfl (aF false rfl (.cons (.pure pu) (.nil)) (L0 v h) pu (.inl rfl) rfl ?_)
 refine s1 (aa rfl) rfl ?_
 refine ah<|ae ?_
 refine aK rfl (fun hc5=>?_) (fun hc5=>?_)
 ·have h5 : v.okB = false := by simpa using hc5
  refine af<|ai<|s1 ((aa rfl).v (v':= .i .i64 1) rfl) rfl ?_
  refine ah<|ae<|aB<|aN ?_
  refine aC (rs:= [.tmp 2]) rfl (aA rfl az) ?_
  exact congrArg (A.i .i64) (Ag h5).symm
 ·have h5 : v.okB = true := by simpa using hc5
  refine aE<|ae<|af<|af<|ai<|s1 (aG bd rfl rfl (CV.len_cells v)) rfl ?_
  refine aj rfl (aF false rfl (.cons (.pure pu) (.nil)) (LD v h) pu (.inl rfl) rfl ?_)
  refine s1 (aa rfl) rfl ?_
  refine ah<|ae ?_
  refine aK rfl (fun hc8=>?_) (fun hc8=>?_)
  ·have h8 : 16 < v.depth := by have := of_decide_eq_true hc8; omega
   refine af<|ai<|s1 ((aa rfl).v (v':= .i .i64 2) rfl) rfl ?_
   refine ah<|ae<|aB<|aN ?_
   refine aC (rs:= [.tmp 2]) rfl (aA rfl az) ?_
   exact congrArg (A.i .i64) (Ah h5 h8).symm
  ·have h8 : ¬ 16 < v.depth := by have := of_decide_eq_false hc8; omega
   refine aE<|ae<|af<|ai<|s1 ((aa rfl).v (v':= .i .i64 0) rfl) rfl ?_
   refine ah<|ae<|aB ?_
   refine aC (rs:= [.tmp 2]) rfl (aA rfl az) ?_
   exact congrArg (A.i .i64) (vU h5 h8).symm
theorem Ms (n:Int) (h0: -9223372036854775808≤n) (h1:n≤9223372036854775807):aw Tryz.prog 179 [.i .i64 n] (aO (aH (aL (ep n)))):=by
 refine enter Tryz.func179 rfl Tryz.ntmps179 (by kernel_rfl) (Nat.le_of_ble_eq_true rfl) fun w0 X0 hI=>?_
 refine af<|ai<|s1 ((aa rfl).v (v':= .i .u64 0) rfl) rfl ?_
 refine ah<|ae<|af<|af<|ai<|s1 (aa rfl) rfl<|s1 (aa rfl) rfl ?_
 refine ah<|ae ?_
 refine aK rfl (fun hc4=>?_) (fun hc4=>?_)
 ·have h4 : 0 ≤ n := by have := of_decide_eq_true hc4; omega
  refine af<|ai<|s1 (aa rfl) rfl<|s1 ((cK Tryz.underlying3 Tryz.underlying198 rfl).v (v':=aH (BitVec.ofInt 64 (n))) (congrArg (A.i .u64) (yH _))) rfl<|s1 ((lG (aL 2) _ rfl rfl).v (v':=aH (aL (ep n))) (congrArg aH (Nw h4 h1))) rfl<|s1 (aa rfl) rfl ?_
  refine ah<|ae<|aB<|aN ?_
  refine aC (rs:= [.tmp 2]) rfl (aA rfl (az)) rfl
 ·have h4 : ¬ 0 ≤ n := by have := of_decide_eq_false hc4; omega
  refine aE<|ae<|af<|ai<|s1 (aa rfl) rfl<|s1 (p8 rfl rfl (by omega) (by omega)) rfl<|s1 ((Ob rfl).v (v':= .i .i64 (-(n+1))) (congrArg (A.i .i64) (Km h0 h4))) rfl<|s1 ((cK Tryz.underlying3 Tryz.underlying198 rfl).v (v':=aH (BitVec.ofInt 64 (-(n+1)))) (congrArg (A.i .u64) (yH _))) rfl<|s1 (lG (aL 2) _ rfl rfl) rfl<|s1 ((mV _ (aL 1) rfl rfl).v (v':=aH (aL (ep n))) (congrArg aH (Nv h0 h4))) rfl<|s1 (aa rfl) rfl ?_
  refine ah<|ae<|aB ?_
  refine aC (rs:= [.tmp 2]) rfl (aA rfl (az)) rfl
theorem DR (u:BitVec 64) (ih:128≤u.toNat→aw Tryz.prog 178 [aH (u / aL 128)] (cU 1 (bo (u.toNat / 128)).length ((bo (u.toNat / 128)).map u8))):aw Tryz.prog 178 [aH u] (cU 1 (bo u.toNat).length ((bo u.toNat).map u8)):=by
 refine enter Tryz.func178 rfl Tryz.ntmps178 (by kernel_rfl) (Nat.le_of_ble_eq_true rfl) fun w0 X0 hI=>?_
 refine af<|ai<|s1 (aa rfl) rfl ?_
 refine ah<|ae<|af<|af<|ai<|s1 (aa rfl) rfl<|s1 ((aa rfl).v (v':= .b (decide (u.toNat<128))) (congrArg A.b (decide_eq_decide.2 (by omega)))) rfl ?_
 refine ah<|ae ?_
 refine aK rfl (fun hc4=>?_) (fun hc4=>?_)
 ·have h4 : u.toNat < 128 := of_decide_eq_true hc4
  refine af<|ai<|s1 (aa rfl) rfl<|s1 (iI _ Tryz.underlying198 Tryz.underlying5 rfl) rfl ?_
  refine aj rfl (ey 7 rfl Tryz.underlying68 aR rfl rfl rfl rfl rfl ?_)
  refine s1 (aa rfl) rfl ?_
  refine ah<|ae<|aB<|aN ?_
  rw [nt h4]
  refine aC (rs:= [.tmp 2]) rfl (aA rfl az) ⟨7,rfl,rfl⟩
 ·have h4 : ¬ u.toNat < 128 := of_decide_eq_false hc4
  have hnl:=qK (u:=u.toNat / 128) (by omega)
  refine aE<|ae<|af<|ai<|s1 (aa rfl) rfl<|s1 (LK _ (aL 128) rfl rfl (by decide)) rfl<|s1 (mV _ (aL 128) rfl rfl) rfl<|s1 ((iI _ Tryz.underlying198 Tryz.underlying5 rfl).v (v':=u8 (UInt8.ofNat (u.toNat % 128+128))) (congrArg u8 (KA u))) rfl ?_
  refine aj rfl (ey 12 rfl Tryz.underlying68 aR rfl rfl rfl rfl rfl ?_)
  refine s1 (aa rfl) rfl<|s1 (Lw _ (aL 128) rfl rfl (by decide)) rfl ?_
  refine aj rfl (gD 15 rfl false rfl (.cons (.pure pu) (.nil)) (ih (by omega)) ak (.inl rfl) rfl ?_)
  refine aj rfl (dB 16 rfl Tryz.underlying68 aR rfl (.sl rfl rfl) rfl (c8 rfl (by first|rfl|omega|(simp<;>omega)|(simp [*]<;>omega))) (by simp) (by simp only [maxLen];omega) (by omega) rfl (show [u8 (UInt8.ofNat (u.toNat % 128+128))]++(bo (u.toNat / 128)).map u8=(bo u.toNat).map u8 by rw [oY h4];rfl) rfl ?_)
  refine s1 (aa rfl) rfl ?_
  refine ah<|ae<|aB ?_
  have hlb:1+(bo (u.toNat / 128)).length=(bo u.toNat).length:=by rw [oY h4,List.length_cons,Nat.add_comm]
  refine aC (rs:= [.tmp 2]) rfl (aA rfl az) ⟨16,?_,rfl⟩
  rw [←hlb];rfl
theorem L5 (u:BitVec 64):aw Tryz.prog 178 [aH u] (cU 1 (bo u.toNat).length ((bo u.toNat).map u8)):=by
  have key:∀(q:Nat) (u:BitVec 64),u.toNat≤q→aw Tryz.prog 178 [aH u] (cU 1 (bo u.toNat).length ((bo u.toNat).map u8)):=by
    intro q
    induction q with
    |zero=>intro u hu;exact DR u fun h=>absurd h (by omega)
    |succ q ih=>intro u hu;exact DR u fun h=>by have:=ih (u / aL 128) (by rw [CY];omega);rw [CY]at this;exact this
  exact key u.toNat u (Nat.le_refl _)
theorem ya (R:List UInt8) (u:BitVec 64) (h:bo u.toNat=R):aw Tryz.prog 178 [aH u] (cU 1 R.length (R.map u8)):=by subst h;exact L5 u
end Go.Abs.D2
-- C1F
namespace Go.Abs.D2
open Go Go.Eng Go.Abs Go.Proofs
theorem LQ (k n:Int) (s:List UInt8) (l:List CV) (hk:k=1∨k=2∨(k=3∧CV.jw l=true)) (hrg:(CV.mk k n s l).dN=true) (R:List UInt8) (hR:(CV.mk k n s l).enc=R) (hl:R.length≤100000000) (ih:∀v∈l,v.okB=true→v.dN=true→v.enc.length≤100000000→aw Tryz.prog 126 [.ag v.cells] (cU 1 v.enc.length (v.enc.map u8))):aw Tryz.prog 126 [.ag [.i .i64 k,.i .i64 n,.s s,.fz l.length (CV.bz l)]] (cU 1 R.length (R.map u8)):=by
 refine enter Tryz.func126 rfl Tryz.ntmps126 (by kernel_rfl) (Nat.le_of_ble_eq_true rfl) fun w0 X0 hI=>?_
 refine af<|ai ?_
 refine aj rfl (bF 1 rfl rfl rfl ?_)
 refine s1 (aa rfl) rfl ?_
 refine ah<|ae<|af<|af ?_
 rcases hk with hcs|hcs|hcs
 ·subst hcs
  simp only [CV.dN,Bool.and_eq_true,decide_eq_true_eq]at hrg
  have hR1:1::bo (ep n)=R:=by rw [←hR];rfl
  have hR1l:R.length=(bo (ep n)).length+1:=by rw [←hR1];rfl
  have hnl:=qK (lR hrg.1.1 hrg.1.2)
  refine ai<|s1 (aD Tryz.underlying109 rfl an (by decide) rfl rfl) rfl<|s1 (au an rfl rfl rfl) rfl ?_
  refine ah<|ae<|aI<|af<|ai<|s1 (aa rfl) rfl<|s1 ((aa rfl).v (v':= .b true) (rfl)) rfl ?_
  refine ah<|ae ?_
  refine cN rfl ?_
  refine af<|ai ?_
  refine aj rfl (ey 9 rfl Tryz.underlying68 aR rfl rfl rfl rfl rfl ?_)
  refine s1 (aD Tryz.underlying109 rfl an (by decide) rfl rfl) rfl<|s1 (au an rfl rfl rfl) rfl ?_
  refine aj rfl (aF false rfl (.cons (.pure pu) (.nil)) (Ms n hrg.1.1 hrg.1.2) pu (.inl rfl) rfl ?_)
  refine aj rfl (gD 13 rfl false rfl (.cons (.pure pu) (.nil)) (ya (bo (ep n)) _ (by rw [iN (lR hrg.1.1 hrg.1.2)])) ak (.inl rfl) rfl ?_)
  refine aj rfl (dB 14 rfl Tryz.underlying68 aR rfl (.sl rfl (by simp)) rfl (c8 rfl (by first|rfl|omega|(simp<;>omega)|(simp [*]<;>omega))) (by simp) (by simp only [maxLen];omega) (by omega) rfl (show [u8 1]++(bo (ep n)).map u8=R.map u8 by rw [←hR1];rfl) rfl ?_)
  refine s1 (aa rfl) rfl ?_
  refine ah<|ae<|aB<|bI<|aN ?_
  refine aC (rs:= [.tmp 2]) rfl (aA rfl az) ⟨14,?_,rfl⟩
  rw [hR1l,Nat.add_comm];rfl
 ·subst hcs
  have hR2:2::(bo s.length++s)=R:=by rw [←hR];rfl
  have hR2l:R.length=1+(bo s.length).length+s.length:=by rw [←hR2];simp;omega
  refine ai<|s1 (aD Tryz.underlying109 rfl an (by decide) rfl rfl) rfl<|s1 (au an rfl rfl rfl) rfl ?_
  refine ah<|ae<|aI<|af<|ai<|s1 (aa rfl) rfl<|s1 ((aa rfl).v (v':= .b false) (rfl)) rfl ?_
  refine ah<|ae ?_
  refine bO rfl ?_
  refine af<|ai<|s1 (aa rfl) rfl<|s1 ((aa rfl).v (v':= .b true) (rfl)) rfl ?_
  refine ah<|ae ?_
  refine cN rfl ?_
  refine af ?_
  refine cr ⟨_, [], []⟩ 10 4 br (le_refl rfl) ?_
  refine tg 17 0 [] aV Tryz.underlying68 aR rfl rfl rfl rfl rfl rfl ?_
  refine aq 1 [] [(1,none)] (aD Tryz.underlying109 rfl gJ (by decide) rfl rfl) rfl rfl ?_
  refine aq 2 [1] [(1,none)] (au gJ rfl rfl rfl) rfl rfl ?_
  refine aq 3 [2] [] (uU Tryz.underlying9 rfl rfl) rfl rfl ?_
  refine aq 4 [3] [] (mw _ Tryz.underlying3 Tryz.underlying198 rfl rfl) rfl rfl ?_
  refine na 22 false 5 [4] [] aV rfl (.cons (.pure pu) (.nil)) (ya (bo s.length) _ (by rw [iN (by omega)])) ak (.inl rfl) rfl rfl ?_
  refine gV 23 6 [0,5] [(17,some 0),(22,some 5)] aV Tryz.underlying68 aR rfl (.sl rfl (by simp)) rfl (c8 rfl (by first|rfl|omega|(simp<;>omega)|(simp [*]<;>omega))) (by simp) (by simp only [maxLen];omega) (by omega) rfl (show [u8 2]++(bo s.length).map u8=(2::bo s.length).map u8 from rfl) rfl rfl ?_
  refine aq 7 [] [(1,none)] (aD Tryz.underlying109 rfl gJ (by decide) rfl rfl) rfl rfl ?_
  refine aq 8 [7] [(1,none)] (au gJ rfl rfl rfl) rfl rfl ?_
  refine BJ 26 9 [6,8] [(23,some 6)] aV Tryz.underlying68 Tryz.underlying9 aR rfl rfl (by simp;omega) (by omega) rfl (by simp only [maxLen];omega) (by omega) (show(2::bo s.length).map u8++s.map u8=R.map u8 by rw [←hR2];simp) rfl rfl ?_
  refine ct (by kernel_rfl) ?_
  refine s1 (aa rfl) rfl ?_
  refine ah<|ae<|aB<|bI<|aN ?_
  refine aC (rs:= [.tmp 2]) rfl (aA rfl az) ⟨26,?_,rfl⟩
  rw [hR2l];rfl
 ·obtain ⟨rfl, hok⟩ := hcs
  simp only [CV.dN,Bool.and_eq_true,decide_eq_true_eq]at hrg
  have hR3:3::(bo l.length++CV.bK l)=R:=by rw [←hR];rfl
  have hRl:R.length=1+(bo l.length).length+(CV.bK l).length:=by rw [←hR3];simp;omega
  have hnl:=CV.qJ l
  rw [CV.lI]at hok
  have hrl:=hrg.2
  rw [CV.ri]at hrl
  refine ai<|s1 (aD Tryz.underlying109 rfl an (by decide) rfl rfl) rfl<|s1 (au an rfl rfl rfl) rfl ?_
  refine ah<|ae<|aI<|af<|ai<|s1 (aa rfl) rfl<|s1 ((aa rfl).v (v':= .b false) (rfl)) rfl ?_
  refine ah<|ae ?_
  refine bO rfl ?_
  refine af<|ai<|s1 (aa rfl) rfl<|s1 ((aa rfl).v (v':= .b false) (rfl)) rfl ?_
  refine ah<|ae ?_
  refine bO rfl ?_
  refine aE<|a8<|ae<|af<|ai ?_
  refine aj rfl (ey 27 rfl Tryz.underlying68 aR rfl rfl rfl rfl rfl ?_)
  refine s1 (aD Tryz.underlying109 rfl cJ (by decide) rfl rfl) rfl<|s1 (au cJ rfl rfl rfl) rfl<|s1 (a7 Tryz.underlying107 rfl rfl rfl) rfl<|s1 (mw _ Tryz.underlying3 Tryz.underlying198 rfl rfl) rfl ?_
  refine aj rfl (gD 32 rfl false rfl (.cons (.pure pu) (.nil)) (ya (bo l.length) _ (by rw [iN (by omega)])) ak (.inl rfl) rfl ?_)
  refine aj rfl (dB 33 rfl Tryz.underlying68 aR rfl (.sl rfl (by simp)) rfl (c8 rfl (by first|rfl|omega|(simp<;>omega)|(simp [*]<;>omega))) (by simp) (by simp only [maxLen];omega) (by omega) rfl (show [u8 3]++(bo l.length).map u8=(3::(bo l.length++CV.bK (l.take 0))).map u8 by simp [CV.bK]) rfl ?_)
  refine s1 (aa rfl) rfl ?_
  refine ah<|ae<|af<|af<|ai<|s1 ((aa rfl).v (v':= .i .i64 0) rfl) rfl ?_
  refine ah<|ae<|aI ?_
  refine bD (ι:=Nat) (fun i=> [(1,.p 1 0),(3,.sl 140 1 0 (1+(bo l.length).length+(CV.bK (l.take i)).length)),(4,nJ i)]) (fun i=>⟨[(1,some ([.i .i64 3,.i .i64 n,.s s,.fz l.length (CV.bz l)])),(140,some ((3::(bo l.length++CV.bK (l.take i))).map u8))]⟩) (fun i=>i≤l.length) (fun i=>l.length - i) ?_ ?_
  ·exact bC (0) (Nat.zero_le _) [(1,some 1),(140,some 33)] hI rfl rfl ⟨⟨_,rfl,.p rfl⟩,⟨_,rfl,.sl rfl (by first|rfl|omega|(simp<;>omega)|(simp [*]<;>omega))⟩,⟨_,rfl,.pure pu⟩,trivial⟩ ⟨.inr ⟨_,_,rfl,rfl,.pure ak⟩,.inr ⟨_,_,rfl,rfl,.pure ak⟩,trivial⟩
  rintro i hi
  have hli:=CV.qw l i
  have hli2:=CV.qw l (i+1)
  have hCl:(3::(bo l.length++CV.bK (l.take i))).length=1+(bo l.length).length+(CV.bK (l.take i)).length:=by simp;omega
  refine af<|af<|ai<|s1 (aa rfl) rfl<|s1 (aD Tryz.underlying109 rfl cJ (by decide) rfl rfl) rfl<|s1 (au cJ rfl rfl rfl) rfl<|s1 (a7 Tryz.underlying107 rfl rfl rfl) rfl<|s1 (aa rfl) rfl ?_
  refine ah<|ae ?_
  refine aK rfl (fun hc38=>?_) (fun hc38=>?_)
  ·have h38 : i < l.length := by have := of_decide_eq_true hc38; omega
   obtain⟨v,hv⟩:∃v,l[i]? =some v:=⟨_,List.getElem?_eq_getElem h38⟩
   have hvm:=List.mem_of_getElem? hv
   have hvo:=List.all_eq_true.1 hok _ hvm
   have hvr:=List.all_eq_true.1 hrl _ hvm
   have hvl:(CV.bK (l.take i)).length+v.enc.length=(CV.bK (l.take (i+1))).length:=by rw [←CV.oA hv,List.length_append]
   refine aE<|ae<|af<|aI<|ai<|s1 (aa rfl) rfl<|s1 (aD Tryz.underlying109 rfl cJ (by decide) rfl rfl) rfl<|s1 (au cJ rfl rfl rfl) rfl<|s1 (aa rfl) rfl<|s1 (bb i Tryz.underlying107 bd rfl rfl rfl (by omega) rfl) rfl<|s1 (bp bd rfl rfl (CV.get hv) (CV.len_cells v)) rfl ?_
   refine aj rfl (gD 47 rfl false rfl (.cons (.pure pu) (.nil)) (ih v hvm hvo hvr (by omega)) ak (.inl rfl) rfl ?_)
   refine aj rfl (dB 48 rfl Tryz.underlying68 aR rfl (.sl rfl (by rw [List.length_map,hCl];omega)) rfl (c8 rfl (by first|rfl|omega|(simp<;>omega)|(simp [*]<;>omega))) (by simp) (by simp only [maxLen];omega) (by omega) rfl (show(3::(bo l.length++CV.bK (l.take i))).map u8++v.enc.map u8=(3::(bo l.length++CV.bK (l.take (i+1)))).map u8 by rw [←CV.oA hv];simp) rfl ?_)
   refine s1 (aa rfl) rfl ?_
   refine ah<|a8<|ae<|ai<|s1 (aa rfl) rfl<|s1 (aZ _ 1 rfl rfl rfl rfl (by omega)) rfl<|s1 (aa rfl) rfl ?_
   refine ah ?_
   exact bf (i+1) (by omega) (by omega) [(1,some 1),(140,some 48)] hI rfl rfl ⟨⟨_,rfl,.p rfl⟩,⟨_,rfl,.sl rfl (by first|rfl|omega|(simp<;>omega)|(simp [*]<;>omega))⟩,⟨_,rfl,.pure pu⟩,trivial⟩ ⟨.inr ⟨_,_,rfl,rfl,.pure ak⟩,.inr ⟨_,_,rfl,rfl,.pure ak⟩,trivial⟩
  ·obtain rfl : i = l.length := by have := of_decide_eq_false hc38; omega
   refine bx<|aM<|aM<|bA<|ae<|af<|ai<|s1 (aa rfl) rfl<|s1 (aa rfl) rfl ?_
   refine ah<|ae<|aB ?_
   refine cI 140 (cs':=R.map u8) rfl (by rw [List.take_length,hR3]) ?_
   refine aC (rs:= [.tmp 2]) rfl (aA rfl az) ⟨140,?_,rfl⟩
   rw [hRl,List.take_length];rfl
theorem LP (v:CV) (ho:v.okB=true) (hr:v.dN=true) (hl:v.enc.length≤100000000):aw Tryz.prog 126 [.ag v.cells] (cU 1 v.enc.length (v.enc.map u8)):=by
 have key:∀u:CV,u.size≤v.size→u.okB=true→u.dN=true→u.enc.length≤100000000→aw Tryz.prog 126 [.ag u.cells] (cU 1 u.enc.length (u.enc.map u8)):=by
  refine CV.pq _ fun k n s l _ ih=>?_
  intro h1 h2 h3
  exact LQ k n s l (nA h1) h2 _ rfl h3 ih
 exact key v (Nat.le_refl _) ho hr hl
theorem LO (v:CV) (hs:v.size≤1000000) (hrg:v.dN=true) (hl:v.enc.length≤100000000):aw Tryz.prog 83 [.ag v.cells] (aO (encA v)):=by
 refine enter Tryz.func83 rfl Tryz.ntmps83 (by kernel_rfl) (Nat.le_of_ble_eq_true rfl) fun w0 X0 hI=>?_
 refine af<|ai ?_
 refine aj rfl (bF 1 rfl rfl rfl ?_)
 refine s1 (aa rfl) rfl<|s1 ((aa rfl).v (v':= .i .i64 0) rfl) rfl ?_
 refine ah<|ae<|af<|ai<|s1 (aG bd rfl rfl (CV.len_cells v)) rfl ?_
 refine aj rfl (aF false rfl (.cons (.pure pu) (.nil)) (Lx v hs) pu (.inl rfl) rfl ?_)
 refine s1 (aa rfl) rfl ?_
 refine ah<|ae<|af<|af<|ai<|s1 (aa rfl) rfl<|s1 (aa rfl) rfl ?_
 refine ah<|ae ?_
 refine aK rfl (fun hc8=>?_) (fun hc8=>?_)
 ·have h9 : fg v ≠ 0 := by simpa using hc8
  refine af<|ai<|s1 (aa rfl) rfl<|s1 (aa rfl) rfl<|s1 (aa rfl) rfl ?_
  refine ah<|ae<|aB<|aN ?_
  refine aC (rs:= [.tmp 2,.tmp 3]) rfl (aA rfl (aA rfl az)) ?_
  exact(A1 h9).symm
 ·have h9 : fg v = 0 := by simpa using hc8
  have hok:=Ai h9
  refine aE<|ae<|af<|ai<|s1 (aG bd rfl rfl (CV.len_cells v)) rfl ?_
  refine aj rfl (gD 11 rfl false rfl (.cons (.pure pu) (.nil)) (LP v hok hrg hl) ak (.inl rfl) rfl ?_)
  refine s1 (aa rfl) rfl<|s1 ((aa rfl).v (v':= .i .i64 0) rfl) rfl ?_
  refine ah<|ae<|aB ?_
  refine fQ 2 rfl rfl ak (cm (by simp) rfl) ?_
  refine aC (rs:= [.tmp 2,.tmp 3]) rfl (aA rfl (aA rfl az)) ?_
  exact(oz h9).symm
end Go.Abs.D2
-- E6F
namespace Go.Abs.D2
open Go Go.Eng Go.Abs Go.Proofs
theorem rh (n:Int):aw Tryz.prog 82 [.i .i64 n] (aO (.ag (CV.cells (bH n)))):=by
 refine enter Tryz.func82 rfl Tryz.ntmps82 (by kernel_rfl) (Nat.le_of_ble_eq_true rfl) fun w0 X0 hI=>?_
 refine af<|ai ?_
 refine aj rfl (bg 2 rfl bd rfl rfl ?_)
 refine ah<|ae<|af<|ai<|s1 (aa rfl) rfl<|s1 (eE (out:= [_,_,_,_]) [[aQ (.int .i64 0)], [aQ (.int .i64 0)], [aQ (.string ByteArray.empty)], [aQ (.slice none 0 0)]] bd rfl Tryz.underlying109 (by kernel_rfl) rfl rfl ⟨⟨by(first|rfl|omega|(simp;done)|(simp [*];done)|(simp [aU, *];done)),rfl⟩,⟨⟨by(first|rfl|omega|(simp;done)|(simp [*];done)|(simp [aU, *];done)),rfl⟩,trivial⟩⟩ rfl) rfl ?_
 refine aj rfl (ba bd rfl rfl rfl (by first|rfl|omega|(simp<;>omega)|(simp [*]<;>omega)) (by first|rfl|omega|(simp<;>omega)|(simp [*]<;>omega)) ?_)
 refine ah<|ae<|aB ?_
 refine iM 2 rfl rE ?_
 refine aC (rs:= [.cell 2 109]) rfl (cw bd rfl rfl rfl rfl az) ?_
 rfl
theorem uu (e:Ep) (h:e.ok):aw Tryz.prog 34 [.ag e.cells] (aO (.fz (cP e).enc.length ((cP e).enc.map u8))):=by
 refine enter Tryz.func34 rfl Tryz.ntmps34 (by kernel_rfl) (Nat.le_of_ble_eq_true rfl) fun w0 X0 hI=>?_
 refine af<|ai ?_
 refine aj rfl (bF 1 rfl rfl rfl ?_)
 refine s1 (aa rfl) rfl ?_
 refine ah<|ae<|af ?_
 have hfew:=h.gy
 refine ai<|s1 (eE (out:= [_,_,_,_]) [[aQ (.int .i64 0)], [aQ (.int .i64 0)], [aQ (.string ByteArray.empty)], [aQ (.slice none 0 0)]] bd rfl Tryz.underlying109 (by kernel_rfl) rfl rfl ⟨⟨by(first|rfl|omega|(simp;done)|(simp [*];done)|(simp [aU, *];done)),rfl⟩,trivial⟩ rfl) rfl ?_
 refine aj rfl (bg 3 rfl bd rfl rfl ?_)
 refine aj rfl (ba bd rfl rfl rfl (by first|rfl|omega|(simp<;>omega)|(simp [*]<;>omega)) (by first|rfl|omega|(simp<;>omega)|(simp [*]<;>omega)) ?_)
 refine ah<|ae<|af<|af<|ai<|s1 ((aa rfl).v (v':= .i .i64 0) rfl) rfl ?_
 refine ah<|ae<|aI ?_
 refine bD (ι:=Nat) (fun i=> [(1,.p 1 0),(3,.p 3 0),(4,nJ i)]) (fun i=>⟨[(1,some (e.cells)),(3,some ([.i .i64 3,.i .i64 0,.s [],.sl 134 4 0 i])),(134,some (CV.bz ((e.ch.take i).map dh)))]⟩) (fun i=>i≤e.ch.length) (fun i=>e.ch.length - i) ?_ ?_
 ·exact bC (0) (Nat.zero_le _) [(1,some 1),(3,some 3),(134,none)] hI rfl rfl ⟨⟨_,rfl,.p rfl⟩,⟨_,rfl,.p rfl⟩,⟨_,rfl,.pure pu⟩,trivial⟩ ⟨.inr ⟨_,_,rfl,rfl,.pure ak⟩,.inr ⟨_,_,rfl,rfl,.cons (.pure pu) (.cons (.pure pu) (.cons (.pure pu) (.cons (.nl rfl) .nil)))⟩,.inl ⟨rfl,rfl⟩,trivial⟩
 rintro i hi
 refine af<|af<|ai<|s1 (aa rfl) rfl<|s1 (aD Tryz.underlying45 rfl cl (by decide) rfl rfl) rfl<|s1 (au cl rfl rfl rfl) rfl<|s1 (a7 Tryz.underlying31 rfl rfl rfl) rfl<|s1 (aa rfl) rfl ?_
 refine ah<|ae ?_
 refine aK rfl (fun hc12=>?_) (fun hc12=>?_)
 ·have h12 : i < e.ch.length := by have := of_decide_eq_true hc12; omega
  obtain⟨c,hc⟩:∃c,e.ch[i]? =some c:=⟨_,List.getElem?_eq_getElem h12⟩
  refine aE<|ae<|af<|aI ?_
  refine cr ⟨_, [], []⟩ 21 4 br (le_refl rfl) ?_
  refine aq 0 [] [(3,none)] (aD Tryz.underlying109 rfl cJ (by decide) rfl rfl) rfl rfl ?_
  refine aq 1 [0] [(3,none)] (au cJ rfl rfl rfl) rfl rfl ?_
  refine aq 2 [] [(1,none)] (aD Tryz.underlying45 rfl cl (by decide) rfl rfl) rfl rfl ?_
  refine aq 3 [2] [(1,none)] (au cl rfl rfl rfl) rfl rfl ?_
  refine aq 4 [] [] (aa rfl) rfl rfl ?_
  refine aq 5 [3,4] [] (bb i Tryz.underlying31 dD rfl rfl rfl (by omega) rfl) rfl rfl ?_
  refine aq 6 [5] [] (dz Tryz.underlying55 rfl an (by decide) rfl rfl) rfl rfl ?_
  refine aq 7 [6] [] (au an rfl rfl (Ar hc (k:=0) rfl (by decide))) rfl rfl ?_
  refine bL false 8 [7] [] aV rfl (.cons (.pure pu) (.nil)) (rh c.id) pu (.inl rfl) rfl rfl ?_
  refine aq 9 [] [(1,none)] (aD Tryz.underlying45 rfl cl (by decide) rfl rfl) rfl rfl ?_
  refine aq 10 [9] [(1,none)] (au cl rfl rfl rfl) rfl rfl ?_
  refine aq 11 [] [] (aa rfl) rfl rfl ?_
  refine aq 12 [10,11] [] (bb i Tryz.underlying31 dD rfl rfl rfl (by omega) rfl) rfl rfl ?_
  refine aq 13 [12] [] (dz Tryz.underlying55 rfl an (by decide) rfl rfl) rfl rfl ?_
  refine aq 14 [13] [] (au an rfl rfl (Ar hc (k:=1) rfl (by decide))) rfl rfl ?_
  refine bL false 15 [14] [] aV rfl (.cons (.pure pu) (.nil)) (rh c.st) pu (.inl rfl) rfl rfl ?_
  refine th 16 [8,15] aV Tryz.underlying107 bd rfl rfl rfl (by simp [aU]) (show _=CV.bz [bH c.id,bH c.st]from rfl) ak rfl rfl rfl rfl ?_
  refine aq 17 [16] [] (YO.v (v':= .ag (CV.cells (dh c))) (eE (out:= [_,_,_,_]) [[aQ (.int .i64 0)], [aQ (.int .i64 0)], [aQ (.string ByteArray.empty)], [aQ (.slice none 0 0)]] bd rfl Tryz.underlying109 (by kernel_rfl) rfl rfl ⟨⟨by(first|rfl|omega|(simp;done)|(simp [*];done)|(simp [aU, *];done)),rfl⟩,⟨⟨by(first|rfl|omega|(simp;done)|(simp [*];done)|(simp [aU, *];done)),rfl⟩,trivial⟩⟩ rfl) (rfl)) rfl rfl ?_
  refine th 18 [17] aV Tryz.underlying107 bd rfl rfl rfl (by simp [aU]) (ud (dh c)) ak rfl rfl rfl rfl ?_
  refine gV 34 19 [1,18] [(134,none)] aV Tryz.underlying107 bd rfl (.sl rfl (by simp;omega)) rfl rfl (by simp) (by simp only [maxLen];omega) (by omega) rfl rfl rfl rfl ?_
  refine aq 20 [] [(3,none)] (aD Tryz.underlying109 rfl cJ (by decide) rfl rfl) rfl rfl ?_
  refine ct (by kernel_rfl) ?_
  refine aj rfl (bX cJ rfl rfl rfl rfl (by first|rfl|omega|(simp<;>omega)|(simp [*]<;>omega)) rfl ?_)
  refine ah<|a8<|ae<|ai<|s1 (aa rfl) rfl<|s1 (aZ _ 1 rfl rfl rfl rfl (by omega)) rfl<|s1 (aa rfl) rfl ?_
  refine ah ?_
  exact bf (i+1) (by omega) (by omega) [(1,some 1),(3,some 3),(134,some 34)] hI rfl rfl ⟨⟨_,rfl,.p rfl⟩,⟨_,rfl,.p rfl⟩,⟨_,rfl,.pure pu⟩,trivial⟩ ⟨.inr ⟨_,_,rfl,rfl,.pure ak⟩,.inr ⟨_,_,rfl,rfl,.cons (.pure pu) (.cons (.pure pu) (.cons (.pure pu) (.cons (.sl rfl (by simp)) .nil)))⟩,.inr ⟨_,_,rfl,rfl,.of (z8 hc) (.pure ak)⟩,trivial⟩
 ·obtain rfl : i = e.ch.length := by have := of_decide_eq_false hc12; omega
  refine bx<|aM<|aM<|bA<|ae<|af ?_
  refine cI 134 (cs':=CV.bz (e.ch.map dh)) rfl (by rw [List.take_length]) ?_
  refine jP 3 3 rfl rfl rfl rfl ak (uP (by simp)) rfl ?_
  refine fe 1 rfl rfl ak ?_
  refine cr ⟨_, [], []⟩ 25 4 br (le_refl rfl) ?_
  refine aq 0 [] [] (dz Tryz.underlying45 rfl an (by decide) rfl rfl) rfl rfl ?_
  refine aq 1 [0] [] (au an rfl rfl rfl) rfl rfl ?_
  refine bL false 2 [1] [] aV rfl (.cons (.pure pu) (.nil)) (rh e.iss) pu (.inl rfl) rfl rfl ?_
  refine aq 3 [] [] (dz Tryz.underlying45 rfl an (by decide) rfl rfl) rfl rfl ?_
  refine aq 4 [3] [] (au an rfl rfl rfl) rfl rfl ?_
  refine bL false 5 [4] [] aV rfl (.cons (.pure pu) (.nil)) (rh e.no) pu (.inl rfl) rfl rfl ?_
  refine aq 6 [] [] (dz Tryz.underlying45 rfl an (by decide) rfl rfl) rfl rfl ?_
  refine aq 7 [6] [] (au an rfl rfl rfl) rfl rfl ?_
  refine bL false 8 [7] [] aV rfl (.cons (.pure pu) (.nil)) (rh e.day) pu (.inl rfl) rfl rfl ?_
  refine aq 9 [] [(3,none)] ((aG bd rfl rfl rfl).v (v':= .ag (CV.cells (cR (e.ch.map dh)))) (congrArg (fun n:Nat=>A.ag [.i .i64 3,.i .i64 0,.s [],.fz n (CV.bz (e.ch.map dh))]) (show e.ch.length=(e.ch.map dh).length by rw [List.length_map]))) rfl rfl ?_
  refine aq 10 [] [] (dz Tryz.underlying45 rfl ar (by decide) rfl rfl) rfl rfl ?_
  refine aq 11 [10] [] ((nQ (ds:=((e.cells.drop 4).drop (0*1)).take (32*1)) 32 Tryz.underlying23 aR rfl (by simp [maxLen]) bn bn (Nat.zero_le _) (Nat.le_refl _) (by decide) rfl rfl).v (G8 h)) rfl rfl ?_
  refine aq 12 [11] [] (k6 Tryz.underlying68 Tryz.underlying5 Tryz.underlying9 rfl rfl (by rw [h.bh])) rfl rfl ?_
  refine aq 13 [12] [] (YO.wk (v':= .ag (CV.cells (cY e.bh))) (eE (out:= [_,_,_,_]) [[aQ (.int .i64 0)], [aQ (.int .i64 0)], [aQ (.string ByteArray.empty)], [aQ (.slice none 0 0)]] bd rfl Tryz.underlying109 (by kernel_rfl) rfl rfl ⟨⟨by(first|rfl|omega|(simp;done)|(simp [*];done)|(simp [aU, *];done)),rfl⟩,⟨⟨by(first|rfl|omega|(simp;done)|(simp [*];done)|(simp [aU, *];done)),rfl⟩,trivial⟩⟩ rfl) (.ag (.cons (.eq rfl) (.cons (.eq rfl) (.cons (.eq rfl) (.cons .nl .nil)))))) rfl rfl ?_
  refine aq 14 [] [] (dz Tryz.underlying45 rfl ar (by decide) rfl rfl) rfl rfl ?_
  refine aq 15 [14] [] ((nQ (ds:=((e.cells.drop 36).drop (0*1)).take (32*1)) 32 Tryz.underlying23 aR rfl (by simp [maxLen]) bn bn (Nat.zero_le _) (Nat.le_refl _) (by decide) rfl rfl).v (Hb h)) rfl rfl ?_
  refine aq 16 [15] [] (k6 Tryz.underlying68 Tryz.underlying5 Tryz.underlying9 rfl rfl (by rw [h.prev])) rfl rfl ?_
  refine aq 17 [16] [] (YO.wk (v':= .ag (CV.cells (cY e.prev))) (eE (out:= [_,_,_,_]) [[aQ (.int .i64 0)], [aQ (.int .i64 0)], [aQ (.string ByteArray.empty)], [aQ (.slice none 0 0)]] bd rfl Tryz.underlying109 (by kernel_rfl) rfl rfl ⟨⟨by(first|rfl|omega|(simp;done)|(simp [*];done)|(simp [aU, *];done)),rfl⟩,⟨⟨by(first|rfl|omega|(simp;done)|(simp [*];done)|(simp [aU, *];done)),rfl⟩,trivial⟩⟩ rfl) (.ag (.cons (.eq rfl) (.cons (.eq rfl) (.cons (.eq rfl) (.cons .nl .nil)))))) rfl rfl ?_
  refine th 18 [2,5,8,9,13,17] aV Tryz.underlying107 bd rfl rfl rfl (by simp [aU]) (show _=CV.bz [bH e.iss,bH e.no,bH e.day,cR (e.ch.map dh),cY e.bh,cY e.prev]from rfl) ak rfl rfl rfl rfl ?_
  refine aq 19 [18] [] (YO.v (v':= .ag (CV.cells (cP e))) (eE (out:= [_,_,_,_]) [[aQ (.int .i64 0)], [aQ (.int .i64 0)], [aQ (.string ByteArray.empty)], [aQ (.slice none 0 0)]] bd rfl Tryz.underlying109 (by kernel_rfl) rfl rfl ⟨⟨by(first|rfl|omega|(simp;done)|(simp [*];done)|(simp [aU, *];done)),rfl⟩,⟨⟨by(first|rfl|omega|(simp;done)|(simp [*];done)|(simp [aU, *];done)),rfl⟩,trivial⟩⟩ rfl) (rfl)) rfl rfl ?_
  refine bL false 20 [19] [] aV rfl (.cons (.pure pu) (.nil)) (aw.cast (LO (cP e) (Eh h) (x9 h) (Nat.le_trans (oB h) (by omega))) (AZ e)) pu (.inl rfl) rfl rfl ?_
  refine aq 21 [20] [] (aa rfl) rfl rfl ?_
  refine aq 22 [21] [] (aa rfl) rfl rfl ?_
  refine aq 23 [21] [] (aa rfl) rfl rfl ?_
  refine aq 24 [22] [] (aa rfl) rfl rfl ?_
  refine ct (by kernel_rfl) ?_
  refine s1 (aa rfl) rfl ?_
  refine ah<|ae<|af<|ai<|s1 (aa rfl) rfl<|s1 (aa rfl) rfl ?_
  refine ah<|ae<|aB ?_
  refine aC (rs:= [.tmp 2]) rfl (aA rfl az) ?_
  rfl
end Go.Abs.D2
-- E5D
namespace Go.Abs.D2
open Go Go.Eng Go.Abs Go.Proofs
theorem AV (l:List Ep) (hl:c6 l) (hn:l.length≤maxLen):iY Tryz.prog 64 [cQ l] ⟨[]⟩ (fun r st=>∃σ,cC l=some σ∧nZ (mapOf σ) r st) (fun u=>cC l=none∧u=gZ 136 351):=by
 refine HQ Tryz.func64 rfl Tryz.ntmps64 (by kernel_rfl) (Nat.le_of_ble_eq_true rfl) fun w0 X0 hI hS=>?_
 refine oh ?_
 refine og ?_
 simp only [maxLen]at hn
 refine ai ?_
 refine aj rfl (kI 1 rfl rfl rfl rfl ?_)
 refine s1 (aa rfl) rfl ?_
 refine ah<|ae ?_
 refine oh ?_
 refine og ?_
 refine ai ?_
 refine aj rfl (xz rfl rfl fun b8=>?_)
 refine cI 700 (cs':= [.mc b8 (mapOf σ0)]) rfl (congrArg (fun f=> [A.mc b8 f]) J1) ?_
 refine s1 (aa rfl) rfl ?_
 refine ah<|ae ?_
 refine oh ?_
 refine og ?_
 refine ai ?_
 refine aj rfl (bg 4 rfl ar rfl rfl ?_)
 refine ah<|ae ?_
 refine oh ?_
 refine og ?_
 refine ai ?_
 refine aj rfl (bg 5 rfl an rfl rfl ?_)
 refine aj rfl (bg 6 rfl an rfl rfl ?_)
 refine aj rfl (bX an rfl rfl rfl rfl (by first|rfl|omega|(simp<;>omega)|(simp [*]<;>omega)) rfl ?_)
 refine aj rfl (bX an rfl rfl rfl rfl (by first|rfl|omega|(simp<;>omega)|(simp [*]<;>omega)) rfl ?_)
 refine ah<|ae ?_
 refine oh ?_
 refine oh ?_
 refine og ?_
 refine ai<|s1 (au fw rfl rfl rfl) rfl<|s1 (aa rfl) rfl ?_
 refine aj rfl (aF false rfl (.cons (.pure pu) (.cons (.pure pu) (.nil))) (HD l b8) pu (.inl rfl) rfl ?_)
 refine ah<|ae ?_
 refine FR ?_
 refine FY [1,4,5,6,700] [(0,_),(1,_),(3,_),(4,_),(5,_),(6,_),(8,_),(9,_),(10,_),(11,_)] hI rfl ⟨rfl,⟨rfl,⟨rfl,⟨rfl,⟨rfl,⟨rfl,⟨rfl,⟨rfl,⟨rfl,⟨rfl,trivial⟩⟩⟩⟩⟩⟩⟩⟩⟩⟩ (by first|rfl|(simp [jy,jE,refs,en,mA,mB,cn];done)) rfl Tryz.func163 rfl Tryz.ntmps163 (by kernel_rfl) (Nat.le_of_ble_eq_true rfl) fun w1 l1 D1 rc1 hR1 hF1=>?_
 refine af<|ai<|s1 (au fw rfl rfl rfl) rfl<|s1 (a7 Tryz.underlying24 rfl rfl rfl) rfl<|s1 ((aa rfl).v (v':= .i .i64 0) rfl) rfl ?_
 refine ah<|ae<|aI ?_
 refine bD (ι:=Nat×(Int→Int)×Int×List UInt8) (fun⟨i,τ,day,prev⟩=> [(0,yv l1),(1,.fp [cQ l]),(2,.fp [.raw (.map (some b8))]),(6,cQ l),(7,nJ l.length),(8,nJ i)]) (fun⟨i,τ,day,prev⟩=>⟨[(1,some ([cQ l])),(4,some (prev.map u8)),(5,some ([nJ i])),(6,some ([.i .i64 day])),(700,some ([.mc b8 (mapOf τ)]))]⟩) (fun⟨i,τ,day,prev⟩=>i≤l.length∧prev.length=32∧cC l=ek (ml l) i day prev τ (l.drop i)) (fun⟨i,τ,day,prev⟩=>l.length - i) ?_ ?_
 ·exact bC ((0,σ0, -1,zD)) (⟨Nat.zero_le _,rfl,mg l⟩) [(1,some 1),(4,some 4),(5,some 5),(6,some 6),(700,some 700)] hR1.sub.ids rfl rfl ⟨⟨_,rfl,.pure trivial⟩,⟨_,rfl,.pure pu⟩,⟨_,rfl,.pure pu⟩,⟨_,rfl,.pure pu⟩,⟨_,rfl,.pure pu⟩,⟨_,rfl,.pure pu⟩,trivial⟩ ⟨.inr ⟨_,_,rfl,rfl,.pure ak⟩,.inr ⟨_,_,rfl,rfl,.of rfl (.pure ak)⟩,.inr ⟨_,_,rfl,rfl,.of (rfl:_= [nJ 0]) (.pure ak)⟩,.inr ⟨_,_,rfl,rfl,.of (rfl:_= [A.i .i64 (-1)]) (.pure ak)⟩,.inr ⟨_,_,rfl,rfl,.pure ak⟩,trivial⟩
 rintro⟨i,τ,day,prev⟩ ⟨hi,hpl,hst⟩
 dsimp only
 refine af<|ai<|s1 (aa rfl) rfl ?_
 refine ah<|ae<|af ?_
 refine aK rfl (fun hc9=>?_) (fun hc9=>?_)
 ·have h9 : i < l.length := by have := of_decide_eq_true hc9; omega
  obtain⟨e,he⟩:∃e,l[i]? =some e:=⟨_,List.getElem?_eq_getElem h9⟩
  have hok:=hl e (List.mem_of_getElem? he)
  obtain⟨e0,he0⟩:∃e0,l[0]? =some e0:=⟨_,List.getElem?_eq_getElem (by omega)⟩
  have hi0:=Ja he0
  have hpv:=hok.prev
  refine aE<|ae<|af<|aI<|af<|ai<|s1 (bb i Tryz.underlying24 bu rfl rfl rfl (by omega) rfl) rfl<|s1 (bp bu rfl rfl (gh hl he) hok.len) rfl ?_
  refine aj rfl (bg 1005 rfl bu rfl rfl ?_)
  refine aj rfl (ba bu rfl rfl rfl hok.len (by simp) ?_)
  refine ah<|ae<|af<|af<|ai<|s1 (aa rfl) rfl<|s1 (aG bu rfl rfl hok.len) rfl<|s1 (au yD rfl rfl rfl) rfl ?_
  refine sq [1,4,5,6,700,1005] [(0,_),(1,_),(2,_),(5,_),(6,_),(7,_),(8,_),(9,_),(10,_),(11,_),(12,_),(13,_),(14,_)] hR1 hR1.sub.ids rfl ⟨rfl,⟨rfl,⟨rfl,⟨rfl,⟨rfl,⟨rfl,⟨rfl,⟨rfl,⟨rfl,⟨rfl,⟨rfl,⟨rfl,⟨rfl,trivial⟩⟩⟩⟩⟩⟩⟩⟩⟩⟩⟩⟩⟩ (by first|rfl|(simp [jy,jE,refs,en,mA,mB,cn];done)) rfl rfl rfl rfl rfl fun w2 tm2 hd2=>?_
  refine ai ?_
  refine aj rfl (bg 7 rfl bu rfl rfl ?_)
  refine aj rfl (ba bu rfl rfl rfl hok.len (by simp) ?_)
  refine ah ?_
  refine sk hd2 fun w3 hd3=>?_
  refine aI<|af ?_
  rcases Jb e.iss e0.iss with hcs|hcs|hcs|hcs
  ·have hq := hcs
   refine dc 17 br (by kernel_rfl) ?_
   refine t1 (aD Tryz.underlying45 rfl an (by decide) rfl rfl) rfl<|t1 (au an rfl rfl rfl) rfl<|t1 (au fw rfl rfl rfl) rfl<|t1 (bb 0 Tryz.underlying24 bu rfl rfl rfl (by omega) rfl) rfl<|t1 (dz Tryz.underlying45 rfl an (by decide) rfl rfl) rfl<|t1 (au an rfl rfl (qA hl he0 (k:=0) rfl (by decide))) rfl<|t1 ((aa rfl).v (v':= .b false) (congrArg A.b (beq_eq_false_iff_ne.2 (by omega)))) rfl<|t1 (aa rfl) rfl<|bP rfl rfl rfl rfl<|bP rfl rfl rfl rfl ?_
   refine bP rfl rfl rfl rfl<|t1 (aa rfl) rfl<|t1 (aa rfl) rfl<|bP rfl rfl rfl rfl<|bP rfl rfl rfl rfl<|bP rfl rfl rfl rfl<|t1 (aa rfl) rfl ?_
   refine de ?_
   refine eS ⟨[]⟩ false rfl trivial (.cons (.pure pu) (.cons (.pure pu) .nil)) (iw 351) (fun u hu=>?_)
   refine bJ ?_
   refine dw ?_
   refine qf ((congrArg (fun f=>Tryz.prog.funcs[f]?) hF1).trans Tryz.func64) hR1 hd3 fun w4 hR4=>?_
   refine bJ ?_
   refine bJ ?_
   refine dw ?_
   refine bJ ?_
   refine bJ ?_
   refine dw ?_
   refine oo hR4 hS ?_
   refine dw ?_
   refine bJ ?_
   exact oq rfl rfl rfl hS (dn:= [D1]) rfl rfl (by simp) ⟨hst.trans (oJ he (.inl (wI (by omega)))),hu⟩
  ·obtain ⟨hq, h0⟩ := hcs
   refine dc 17 br (by kernel_rfl) ?_
   refine t1 (aD Tryz.underlying45 rfl an (by decide) rfl rfl) rfl<|t1 (au an rfl rfl rfl) rfl<|t1 (au fw rfl rfl rfl) rfl<|t1 (bb 0 Tryz.underlying24 bu rfl rfl rfl (by omega) rfl) rfl<|t1 (dz Tryz.underlying45 rfl an (by decide) rfl rfl) rfl<|t1 (au an rfl rfl (qA hl he0 (k:=0) rfl (by decide))) rfl<|t1 ((aa rfl).v (v':= .b true) (congrArg A.b (beq_iff_eq.2 (by omega)))) rfl<|t1 (aa rfl) rfl<|bB rfl rfl (aD Tryz.underlying45 rfl an (by decide) rfl rfl) rfl<|bB rfl rfl (au an rfl rfl rfl) rfl ?_
   refine bB rfl rfl ((aa rfl).v (v':= .b false) (congrArg A.b (decide_eq_false (by omega)))) rfl<|t1 (aa rfl) rfl<|t1 (aa rfl) rfl<|bP rfl rfl rfl rfl<|bP rfl rfl rfl rfl<|bP rfl rfl rfl rfl<|t1 (aa rfl) rfl ?_
   refine de ?_
   refine eS ⟨[]⟩ false rfl trivial (.cons (.pure pu) (.cons (.pure pu) .nil)) (iw 351) (fun u hu=>?_)
   refine bJ ?_
   refine dw ?_
   refine qf ((congrArg (fun f=>Tryz.prog.funcs[f]?) hF1).trans Tryz.func64) hR1 hd3 fun w5 hR5=>?_
   refine bJ ?_
   refine bJ ?_
   refine dw ?_
   refine bJ ?_
   refine bJ ?_
   refine dw ?_
   refine oo hR5 hS ?_
   refine dw ?_
   refine bJ ?_
   exact oq rfl rfl rfl hS (dn:= [D1]) rfl rfl (by simp) ⟨hst.trans (oJ he (.inl (wI (by omega)))),hu⟩
  ·obtain ⟨hq, h0, h8⟩ := hcs
   refine dc 17 br (by kernel_rfl) ?_
   refine t1 (aD Tryz.underlying45 rfl an (by decide) rfl rfl) rfl<|t1 (au an rfl rfl rfl) rfl<|t1 (au fw rfl rfl rfl) rfl<|t1 (bb 0 Tryz.underlying24 bu rfl rfl rfl (by omega) rfl) rfl<|t1 (dz Tryz.underlying45 rfl an (by decide) rfl rfl) rfl<|t1 (au an rfl rfl (qA hl he0 (k:=0) rfl (by decide))) rfl<|t1 ((aa rfl).v (v':= .b true) (congrArg A.b (beq_iff_eq.2 (by omega)))) rfl<|t1 (aa rfl) rfl<|bB rfl rfl (aD Tryz.underlying45 rfl an (by decide) rfl rfl) rfl<|bB rfl rfl (au an rfl rfl rfl) rfl ?_
   refine bB rfl rfl ((aa rfl).v (v':= .b true) (congrArg A.b (decide_eq_true (by omega)))) rfl<|t1 (aa rfl) rfl<|t1 (aa rfl) rfl<|bB rfl rfl (aD Tryz.underlying45 rfl an (by decide) rfl rfl) rfl<|bB rfl rfl (au an rfl rfl rfl) rfl<|bB rfl rfl ((aa rfl).v (v':= .b false) (congrArg A.b (decide_eq_false (by omega)))) rfl<|t1 (aa rfl) rfl ?_
   refine de ?_
   refine eS ⟨[]⟩ false rfl trivial (.cons (.pure pu) (.cons (.pure pu) .nil)) (iw 351) (fun u hu=>?_)
   refine bJ ?_
   refine dw ?_
   refine qf ((congrArg (fun f=>Tryz.prog.funcs[f]?) hF1).trans Tryz.func64) hR1 hd3 fun w6 hR6=>?_
   refine bJ ?_
   refine bJ ?_
   refine dw ?_
   refine bJ ?_
   refine bJ ?_
   refine dw ?_
   refine oo hR6 hS ?_
   refine dw ?_
   refine bJ ?_
   exact oq rfl rfl rfl hS (dn:= [D1]) rfl rfl (by simp) ⟨hst.trans (oJ he (.inl (wI (by omega)))),hu⟩
  ·have hq := hcs
   obtain⟨hq1,h0,h8⟩:=hcs
   refine dc 17 br (by kernel_rfl) ?_
   refine t1 (aD Tryz.underlying45 rfl an (by decide) rfl rfl) rfl<|t1 (au an rfl rfl rfl) rfl<|t1 (au fw rfl rfl rfl) rfl<|t1 (bb 0 Tryz.underlying24 bu rfl rfl rfl (by omega) rfl) rfl<|t1 (dz Tryz.underlying45 rfl an (by decide) rfl rfl) rfl<|t1 (au an rfl rfl (qA hl he0 (k:=0) rfl (by decide))) rfl<|t1 ((aa rfl).v (v':= .b true) (congrArg A.b (beq_iff_eq.2 (by omega)))) rfl<|t1 (aa rfl) rfl<|bB rfl rfl (aD Tryz.underlying45 rfl an (by decide) rfl rfl) rfl<|bB rfl rfl (au an rfl rfl rfl) rfl ?_
   refine bB rfl rfl ((aa rfl).v (v':= .b true) (congrArg A.b (decide_eq_true (by omega)))) rfl<|t1 (aa rfl) rfl<|t1 (aa rfl) rfl<|bB rfl rfl (aD Tryz.underlying45 rfl an (by decide) rfl rfl) rfl<|bB rfl rfl (au an rfl rfl rfl) rfl<|bB rfl rfl ((aa rfl).v (v':= .b true) (congrArg A.b (decide_eq_true (by omega)))) rfl<|t1 (aa rfl) rfl ?_
   refine de ?_
   refine aj rfl (aF false rfl (.cons (.pure pu) (.cons (.pure pu) .nil)) (fS 351) pu (.inl rfl) rfl ?_)
   refine ah<|ae<|af<|ai<|s1 (aD Tryz.underlying45 rfl an (by decide) rfl rfl) rfl<|s1 (au an rfl rfl rfl) rfl<|s1 (au an rfl rfl rfl) rfl<|s1 (aa rfl) rfl<|s1 (aa rfl) rfl ?_
   refine cT 5 rfl rfl rfl rfl (fun hb36=> .step (aD Tryz.underlying45 rfl c4 (by decide) rfl rfl) rfl rfl<| .step (aD Tryz.underlying43 rfl an (by decide) rfl rfl) rfl rfl<| .step (au an rfl rfl (HY hok)) rfl rfl<| .step (au an rfl rfl rfl) rfl rfl<| .step (aa rfl) rfl rfl<| .done) rfl rfl ?_
   refine s1 (aa rfl) rfl ?_
   refine cT 4 rfl rfl rfl rfl (fun hb43=> .step (aD Tryz.underlying45 rfl ar (by decide) rfl rfl) rfl rfl<| .step (bp ar rfl rfl (l7 hok) (by simp [hok.prev])) rfl rfl<| .step (aG ar rfl rfl (by rw [List.length_map,hpl])) rfl rfl<| .step (gr Tryz.underlying23 Tryz.underlying5 aR (by kernel_rfl) rfl rfl (by first|assumption|(simp;done)|(simp [*];done)) (by first|assumption|(simp;done)|(simp [*];done))) rfl rfl<| .done) rfl rfl ?_
   refine gw 48 rfl (fun hc48=>?_) (fun hc48=>?_)
   ·skip
    refine aj rfl (aF false rfl (.cons (.pure pu) (.cons (.pure pu) .nil)) (fS 351) pu (.inl rfl) rfl ?_)
    refine ah<|ae<|af<|ai<|s1 (aD Tryz.underlying45 rfl an (by decide) rfl rfl) rfl<|s1 (au an rfl rfl rfl) rfl<|s1 (au an rfl rfl rfl) rfl<|s1 (aa rfl) rfl<|s1 (aa rfl) rfl ?_
    refine cT 3 rfl rfl rfl rfl (fun hb54=> .step (aD Tryz.underlying45 rfl an (by decide) rfl rfl) rfl rfl<| .step (au an rfl rfl rfl) rfl rfl<| .step (aa rfl) rfl rfl<| .done) rfl rfl ?_
    refine gw 58 rfl (fun hc58=>?_) (fun hc58=>?_)
    ·skip
     refine aj rfl (aF false rfl (.cons (.pure pu) (.cons (.pure pu) .nil)) (fS 351) pu (.inl rfl) rfl ?_)
     refine ah<|ae ?_
     refine cr ⟨_, [], []⟩ 7 4 br (le_refl rfl) ?_
     refine aq 0 [] [(5,none)] (au an rfl rfl rfl) rfl rfl ?_
     refine aq 1 [0] [] (aZ i 1 rfl rfl rfl rfl (by omega)) rfl rfl ?_
     refine aq 2 [] [(7,none)] (aD Tryz.underlying45 rfl an (by decide) rfl rfl) rfl rfl ?_
     refine aq 3 [2] [(7,none)] (au an rfl rfl rfl) rfl rfl ?_
     refine aq 4 [] [(7,none)] (aG bu rfl rfl hok.len) rfl rfl ?_
     refine bL false 5 [4] [] aV rfl (.cons (.pure pu) (.nil)) (lq e hok) pu (.inl rfl) rfl rfl ?_
     refine IJ 0 6 [1] [(5,none)] rfl aV an rfl rfl rfl rfl (by first|rfl|omega|(simp<;>omega)|(simp [*]<;>omega)) rfl rfl ?_
     refine ct (by kernel_rfl) ?_
     refine aj rfl (bX an rfl rfl rfl rfl (by first|rfl|omega|(simp<;>omega)|(simp [*]<;>omega)) rfl ?_)
     refine aj rfl (ba ar rfl rfl rfl (by simp) (by simp [hpl]) ?_)
     refine ah<|a8 ?_
     refine sn hR1 hd3 rfl ?_
     refine s1 (aa rfl) rfl ?_
     refine ah<|ae ?_
     refine bO rfl ?_
     refine aE<|ae ?_
     rcases mI (dJ τ (-1) e.ch)with hcs|hcs
     ·skip
      refine ai<|s1 (au yD rfl rfl rfl) rfl<|s1 (aD Tryz.underlying45 rfl cl (by decide) rfl rfl) rfl<|s1 (au cl rfl rfl rfl) rfl ?_
      refine eS ⟨[(700,some [.mc b8 (mapOf τ)])]⟩ false rfl ⟨⟨rfl,aW.pure ak⟩,trivial⟩ (.cons (.pure pu) (.cons (.pure pu) .nil)) (wC (Nat.le_trans hok.gy (by decide)) hcs) (fun u hu=>?_)
      refine dw ?_
      refine bJ ?_
      refine bJ ?_
      refine dw ?_
      refine oo hR1 hS ?_
      refine dw ?_
      refine bJ ?_
      exact oq rfl rfl rfl hS (dn:= [D1]) rfl rfl (by simp) ⟨hst.trans (oJ he (.inr hcs)),hu.2⟩
     ·skip
      refine ai<|s1 (au yD rfl rfl rfl) rfl<|s1 (aD Tryz.underlying45 rfl cl (by decide) rfl rfl) rfl<|s1 (au cl rfl rfl rfl) rfl ?_
      refine aj rfl (oV ⟨[(700,some [.mc b8 (mapOf τ)])]⟩ [(700, [.mc b8 (mapOf (aX τ e.ch))])] false rfl ⟨⟨rfl,aW.pure ak⟩,trivial⟩ (.cons (.pure pu) (.cons (.pure pu) .nil)) (wA (Nat.le_trans hok.gy (by decide)) hcs) pu (.inl rfl) (fun p hp=>by rw [List.mem_singleton.1 hp];exact⟨⟨_,rfl⟩,ak,.inl rfl⟩) rfl ?_)
      refine ah<|a8<|ae<|ai<|s1 (aZ _ 1 rfl rfl rfl rfl (by omega)) rfl<|s1 (aa rfl) rfl ?_
      refine ah ?_
      exact bf (x:=(i,τ,day,prev)) ((i+1,aX τ e.ch,e.day,bR e)) (⟨show i+1≤l.length by omega,JC e,hst.trans (IE he (HV hi0 hq (by simpa using hc48) (by simpa using hc58)) hcs)⟩) (show l.length - (i+1)<l.length - i by omega) [(1,some 1),(4,some 4),(5,some 5),(6,some 6),(700,some 700)] hR1.sub.ids rfl rfl ⟨⟨_,rfl,.pure trivial⟩,⟨_,rfl,.pure pu⟩,⟨_,rfl,.pure pu⟩,⟨_,rfl,.pure pu⟩,⟨_,rfl,.pure pu⟩,⟨_,rfl,.pure pu⟩,trivial⟩ ⟨.inr ⟨_,_,rfl,rfl,.pure ak⟩,.inr ⟨_,_,rfl,rfl,.pure ak⟩,.inr ⟨_,_,rfl,rfl,.of (rfl:_= [nJ (i+1)]) (.pure ak)⟩,.inr ⟨_,_,rfl,rfl,.of (rfl:_= [A.i .i64 e.day]) (.pure ak)⟩,.inr ⟨_,_,rfl,rfl,.pure ak⟩,trivial⟩
    ·skip
     refine eS ⟨[]⟩ false rfl trivial (.cons (.pure pu) (.cons (.pure pu) .nil)) (iw 351) (fun u hu=>?_)
     refine bJ ?_
     refine dw ?_
     refine qf ((congrArg (fun f=>Tryz.prog.funcs[f]?) hF1).trans Tryz.func64) hR1 hd3 fun w7 hR7=>?_
     refine bJ ?_
     refine bJ ?_
     refine dw ?_
     refine bJ ?_
     refine bJ ?_
     refine dw ?_
     refine oo hR7 hS ?_
     refine dw ?_
     refine bJ ?_
     exact oq rfl rfl rfl hS (dn:= [D1]) rfl rfl (by simp) ⟨hst.trans (oJ he (.inl (HU (by simpa using hc58)))),hu⟩
   ·skip
    refine eS ⟨[]⟩ false rfl trivial (.cons (.pure pu) (.cons (.pure pu) .nil)) (iw 351) (fun u hu=>?_)
    refine bJ ?_
    refine dw ?_
    refine qf ((congrArg (fun f=>Tryz.prog.funcs[f]?) hF1).trans Tryz.func64) hR1 hd3 fun w8 hR8=>?_
    refine bJ ?_
    refine bJ ?_
    refine dw ?_
    refine bJ ?_
    refine bJ ?_
    refine dw ?_
    refine oo hR8 hS ?_
    refine dw ?_
    refine bJ ?_
    exact oq rfl rfl rfl hS (dn:= [D1]) rfl rfl (by simp) ⟨hst.trans (oJ he (.inl (HT (by simpa using hc48)))),hu⟩
 ·obtain rfl : i = l.length := by have := of_decide_eq_false hc9; omega
  rw [List.drop_length]at hst
  refine bx<|aM<|aM<|bA ?_
  refine vD rfl hR1 hS ?_
  refine a8<|ae ?_
  refine og ?_
  refine af<|ai<|s1 (aa rfl) rfl<|s1 (aa rfl) rfl ?_
  refine ah<|ae<|aB ?_
  refine F0 (rs:= [.tmp 2]) rfl rfl rfl hS (dn:= [D1]) rfl rfl (by simp) rfl (aA rfl az) ?_
  exact⟨τ,hst,b8,rfl,rfl⟩
theorem AW {l:List Ep} (hl:c6 l) (hn:l.length≤maxLen) {σ:Int→Int} (h:cC l=some σ):aw Tryz.prog 64 [cQ l] (nZ (mapOf σ)):=(AV l hl hn).ret (fun r st ⟨τ,h1,h2⟩=>by rw [h]at h1;cases h1;exact h2) fun u hu=>by rw [h]at hu;cases hu.1
theorem AX {l:List Ep} (hl:c6 l) (hn:l.length≤maxLen) (h:cC l=none):iZ Tryz.prog 64 [cQ l] ⟨[]⟩ (fun u=>cC l=none∧u=gZ 136 351):=(AV l hl hn).um fun r st ⟨τ,h1,_⟩=>by rw [h]at h1;cases h1
end Go.Abs.D2
-- C5B
namespace Go.Abs.D2
open Go Go.Eng Go.Abs Go.Proofs
theorem HI (x:List UInt8) (hx:x.length=32):aw Tryz.prog 183 [.ag (x.map u8)] (rS (fun i=> .fn (.func 209) [] [.p i 0]) (x.map u8)):=by
 refine enter Tryz.func183 rfl Tryz.ntmps183 (by kernel_rfl) (Nat.le_of_ble_eq_true rfl) fun w0 X0 hI=>?_
 refine af<|ai ?_
 refine aj rfl (bF 1 rfl rfl rfl ?_)
 refine s1 (aa rfl) rfl ?_
 refine ah<|ae<|af<|ai<|s1 (gu (us:= []) (vs:= [.p 1 0]) rfl rfl) rfl<|s1 (aa rfl) rfl ?_
 refine ah<|ae<|aB ?_
 refine aC (rs:= [.tmp 2]) rfl (aA rfl az) ⟨1,rfl,rfl⟩
theorem vq (x:List UInt8) (n:Nat) (hx:x.length=32) (hn:n≤1000):aw Tryz.prog 136 [.ag (x.map u8),.i .i64 (n:Nat)] (aO (.ag ((eM n x).map u8))):=by
 refine oC Tryz.func136 rfl Tryz.ntmps136 (by kernel_rfl) (Nat.le_of_ble_eq_true rfl) fun w0 X0 hI hS=>?_
 refine af<|ai ?_
 refine aj rfl (bF 2 rfl rfl rfl ?_)
 refine aj rfl (kI 3 rfl rfl rfl rfl ?_)
 refine aj rfl (bg 4 rfl ar rfl rfl ?_)
 refine ah<|ae<|af<|af<|ai<|s1 (aG ar rfl rfl (by first|rfl|omega|(simp<;>omega)|(simp [*]<;>omega))) rfl ?_
 refine aj rfl (CK (mk:=fun i=> .fn (.func 209) [] [.p i 0]) ub 7 rfl false rfl (.cons (.pure pu) (.nil)) (HI x hx) ak (.inl rfl) rfl ?_)
 refine ah<|ae<|aI ?_
 refine vF [2,3,4,7] [(0,_),(1,_),(2,_),(3,_),(4,_),(6,_),(7,_)] hI rfl ⟨rfl,⟨rfl,⟨rfl,⟨rfl,⟨rfl,⟨rfl,⟨rfl,trivial⟩⟩⟩⟩⟩⟩⟩ (by first|rfl|(simp [jy,jE,refs,en,mA,mB,cn];done)) rfl Tryz.func209 rfl Tryz.ntmps209 (by kernel_rfl) (Nat.le_of_ble_eq_true rfl) fun w1 l1 D1 rc1 hR1=>?_
 refine aI ?_
 refine bD (ι:=Nat) (fun k=> [(0,yv l1),(1,.p 7 0)]) (fun k=>⟨[(2,some (x.map u8)),(3,some ([.i .i64 ((n - k:Nat):Int)])),(4,some (List.replicate 32 (u8 0))),(7,some (((eM k x).map u8)))]⟩) (fun k=>k≤n) (fun k=>n - k) ?_ ?_
 ·exact bC (0) (Nat.zero_le _) [(2,some 2),(3,some 3),(4,some 4),(7,some 7)] hR1.sub.ids rfl rfl ⟨⟨_,rfl,.pure trivial⟩,⟨_,rfl,.p rfl⟩,trivial⟩ ⟨.inr ⟨_,_,rfl,rfl,.pure ak⟩,.inr ⟨_,_,rfl,rfl,.pure ak⟩,.inr ⟨_,_,rfl,rfl,.pure ak⟩,.inr ⟨_,_,rfl,rfl,.pure ak⟩,trivial⟩
 rintro k hk
 have hxk:=jr hx k
 refine af<|af<|ai<|s1 (aa rfl) rfl<|s1 (aG ar rfl rfl (by first|rfl|omega|(simp<;>omega)|(simp [*]<;>omega))) rfl ?_
 refine sq [2,3,4,7] [(0,_),(1,_),(3,_),(4,_)] hR1 hR1.sub.ids rfl ⟨rfl,⟨rfl,⟨rfl,⟨rfl,trivial⟩⟩⟩⟩ (by first|rfl|(simp [jy,jE,refs,en,mA,mB,cn];done)) rfl rfl rfl rfl rfl fun w2 tm2 hd2=>?_
 refine ai ?_
 refine aj rfl (bg 5 rfl ar rfl rfl ?_)
 refine aj rfl (ba ar rfl rfl rfl (by first|rfl|omega|(simp<;>omega)|(simp [*]<;>omega)) (by first|rfl|omega|(simp<;>omega)|(simp [*]<;>omega)) ?_)
 refine ah ?_
 refine sk hd2 fun w3 hd3=>?_
 refine aI<|af<|af<|ai<|s1 (au an rfl rfl rfl) rfl<|s1 (aa rfl) rfl ?_
 refine ah<|ae ?_
 refine aK rfl (fun hc10=>?_) (fun hc10=>?_)
 ·have h10 : k = n := by have := of_decide_eq_true hc10; omega
  subst h10
  refine af<|ai<|s1 (aG ar rfl rfl (by first|rfl|omega|(simp<;>omega)|(simp [*]<;>omega))) rfl ?_
  refine aj rfl (ba ar rfl rfl rfl (by first|rfl|omega|(simp<;>omega)|(simp [*]<;>omega)) (by first|rfl|omega|(simp<;>omega)|(simp [*]<;>omega)) ?_)
  refine ah<|ae<|aB<|aN<|bI ?_
  refine F1 hR1 hd3 rfl fun w4 hR4=>?_
  refine ah<|ae ?_
  refine bO rfl ?_
  refine bx<|aM<|aM<|bA ?_
  refine FU rfl hR4 hS ?_
  refine aB<|bI<|aN ?_
  refine qd (rs:= [.cell 4 23]) rfl rfl rfl hS (dn:= [D1]) rfl rfl (by simp) rfl (cw ar rfl rfl (List.take_of_length_le (by simp [hxk])) (by simp [hxk]) az) rfl
 ·have h10 : k < n := by have := of_decide_eq_false hc10; omega
  refine aE<|ae<|ai<|s1 (au an rfl rfl rfl) rfl<|s1 (eD (n - k) 1 rfl rfl rfl rfl (by omega) (by omega)) rfl ?_
  refine aj rfl (bX an rfl rfl rfl rfl (by first|rfl|omega|(simp<;>omega)|(simp [*]<;>omega)) rfl ?_)
  refine ah<|a8 ?_
  refine sn hR1 hd3 rfl ?_
  refine ah<|ae ?_
  refine cN rfl ?_
  refine aE<|ae<|aI<|ai<|s1 (gN Tryz.underlying23 aR rfl rfl (by first|rfl|omega|(simp<;>omega)|(simp [*]<;>omega)) (by simp [maxLen])) rfl ?_
  refine aj rfl (aF true rfl (.cons (.pure pu) (.cons (.sl rfl rfl (by first|rfl|omega|(simp<;>omega)|(simp [*]<;>omega)) (cm (by first|rfl|omega|(simp<;>omega)|(simp [*]<;>omega)) (by first|rfl|(simp;done)|(simp [*];done))) (aW.pure ak) ak) (.nil))) (ib [115,116,101,112] (eM k x) (by omega) (by simp)) pu (.inr fu) rfl ?_)
  refine aj rfl (ba ar rfl rfl rfl (by first|rfl|omega|(simp<;>omega)|(simp [*]<;>omega)) (by first|rfl|omega|(simp<;>omega)|(simp [*]<;>omega)) ?_)
  refine ah<|a8 ?_
  exact bf (k+1) (by omega) (by omega) [(2,some 2),(3,some 3),(4,some 4),(7,some 7)] hR1.sub.ids rfl rfl ⟨⟨_,rfl,.pure trivial⟩,⟨_,rfl,.p rfl⟩,trivial⟩ ⟨.inr ⟨_,_,rfl,rfl,.pure ak⟩,.inr ⟨_,_,rfl,rfl,.of (by rfl) (.pure ak)⟩,.inr ⟨_,_,rfl,rfl,.pure ak⟩,.inr ⟨_,_,rfl,rfl,.of (by rw [eM,Ew]) (.pure ak)⟩,trivial⟩
end Go.Abs.D2
-- C5C
namespace Go.Abs.D2
open Go Go.Eng Go.Abs Go.Proofs
theorem yt (m:List UInt8) (hm:m.length=32):aw Tryz.prog 133 [.ag (m.map u8)] (aO (.ag ((digits m).map nI))):=by
 refine enter Tryz.func133 rfl Tryz.ntmps133 (by kernel_rfl) (Nat.le_of_ble_eq_true rfl) fun w0 X0 hI=>?_
 refine af<|ai ?_
 refine aj rfl (bF 1 rfl rfl rfl ?_)
 refine aj rfl (bg 2 rfl pN rfl rfl ?_)
 refine ah<|ae<|af<|ai<|s1 ((aa rfl).v (v':= .i .i64 0) rfl) rfl ?_
 refine ah<|ae<|af<|af<|ai<|s1 ((aa rfl).v (v':= .i .i64 0) rfl) rfl ?_
 refine ah<|ae<|aI ?_
 refine bD (ι:=Nat) (fun k=> [(1,.p 1 0),(2,.p 2 0),(3,nI (gI m k)),(6,nI k)]) (fun k=>⟨[(1,some (m.map u8)),(2,some ((dl m k).map nI++List.replicate (19 - k) (nI 0)))]⟩) (fun k=>k≤16) (fun k=>16 - k) ?_ ?_
 ·exact bC (0) (Nat.zero_le _) [(1,some 1),(2,some 2)] hI rfl rfl ⟨⟨_,rfl,.p rfl⟩,⟨_,rfl,.p rfl⟩,⟨_,rfl,.of (by rw [Ey];rfl) (.pure pu)⟩,⟨_,rfl,.pure pu⟩,trivial⟩ ⟨.inr ⟨_,_,rfl,rfl,.pure ak⟩,.inr ⟨_,_,rfl,rfl,.of (by rw [HA];rfl) (.pure ak)⟩,trivial⟩
 rintro k hk
 have hsk:=yw m k
 have hdk:=AJ m k
 refine af<|ai<|s1 (aa rfl) rfl ?_
 refine ah<|ae<|af ?_
 refine aK rfl (fun hc7=>?_) (fun hc7=>?_)
 ·have h7 : k < 16 := by have := of_decide_eq_true hc7; omega
  refine aE<|ae<|af<|aI<|af<|ai<|s1 (aa rfl) rfl<|s1 (aa rfl) rfl ?_
  refine ah<|ae<|af<|ai<|s1 (aa rfl) rfl<|s1 (aa rfl) rfl<|s1 (lJ k 4 rfl rfl rfl rfl (by decide) (by omega)) rfl<|s1 (cu (k / 4) Tryz.underlying23 aR rfl rfl rfl (by omega) rfl) rfl<|s1 (au aR rfl rfl (BO (k / 4) (by omega))) rfl<|s1 (aa rfl) rfl<|s1 (lL k 4 rfl rfl rfl rfl (by decide)) rfl<|s1 (jY 2 (k % 4) rfl rfl rfl rfl (by omega)) rfl<|s1 (eD 6 (2*(k % 4)) rfl rfl rfl rfl (by omega) (by omega)) rfl<|s1 (rp _ (6 - 2*(k % 4)) rfl rfl rfl (by omega)) rfl ?_
  refine s1 (cK Tryz.underlying5 Tryz.underlying3 rfl) rfl<|s1 ((kj rfl rfl (.inl rfl)).v (Hu m k)) rfl<|s1 (cu k Tryz.underlying170 an rfl rfl rfl (by omega) rfl) rfl ?_
  refine aj rfl (bX an rfl rfl rfl rfl (by simp;omega) (ME m k h7) ?_)
  refine ah<|ae<|ai<|s1 (aa rfl) rfl<|s1 (aa rfl) rfl<|s1 (cu k Tryz.underlying170 an rfl rfl rfl (by omega) rfl) rfl<|s1 (au an rfl rfl (IV m k rfl)) rfl<|s1 (eD 3 (jk m k) rfl rfl rfl rfl (by omega) (by omega)) rfl<|s1 (aZ (gI m k) (3 - jk m k) rfl rfl rfl rfl (by omega)) rfl<|s1 (aa rfl) rfl ?_
  refine ah<|a8<|ae<|ai<|s1 (aZ _ 1 rfl rfl rfl rfl (by omega)) rfl<|s1 (aa rfl) rfl ?_
  refine ah ?_
  exact bf (k+1) (by omega) (by omega) [(1,some 1),(2,some 2)] hI rfl rfl ⟨⟨_,rfl,.p rfl⟩,⟨_,rfl,.p rfl⟩,⟨_,rfl,.of (by rw [Ez]) (.pure pu)⟩,⟨_,rfl,.pure pu⟩,trivial⟩ ⟨.inr ⟨_,_,rfl,rfl,.pure ak⟩,.inr ⟨_,_,rfl,rfl,.pure ak⟩,trivial⟩
 ·have h7 : k = 16 := by have := of_decide_eq_false hc7; omega
  subst h7
  refine bx<|aM<|aM<|bA<|ae<|af<|af<|ai<|s1 ((aa rfl).v (v':= .i .i64 18) rfl) rfl ?_
  refine ah<|ae<|aI ?_
  refine bD (ι:=Nat) (fun j=> [(1,.p 1 0),(2,.p 2 0),(3,nI (gI m 16 / 4 ^ j)),(5,nI (18 - j))]) (fun j=>⟨[(1,some (m.map u8)),(2,some (mH m j))]⟩) (fun j=>j≤3) (fun j=>3 - j) ?_ ?_
  ·exact bC (0) (Nat.zero_le _) [(1,some 1),(2,some 2)] hI rfl rfl ⟨⟨_,rfl,.p rfl⟩,⟨_,rfl,.p rfl⟩,⟨_,rfl,.of (by simp) (.pure pu)⟩,⟨_,rfl,.pure pu⟩,trivial⟩ ⟨.inr ⟨_,_,rfl,rfl,.pure ak⟩,.inr ⟨_,_,rfl,rfl,.of (Nm m) (.pure ak)⟩,trivial⟩
  rintro j hj
  have hs16:=yw m 16
  have hsj:gI m 16 / 4 ^ j≤48:=Nat.le_trans (Nat.div_le_self _ _) (by omega)
  refine af<|af<|ai<|s1 (aa rfl) rfl<|s1 (aa rfl) rfl ?_
  refine ah<|ae ?_
  refine aK rfl (fun hc30=>?_) (fun hc30=>?_)
  ·have h30 : j < 3 := by have := of_decide_eq_true hc30; omega
   refine aE<|ae<|af<|aI<|af<|ai<|s1 (aa rfl) rfl<|s1 (aa rfl) rfl<|s1 (lL (gI m 16 / 4 ^ j) 4 rfl rfl rfl rfl (by decide)) rfl<|s1 (cu (18 - j) Tryz.underlying170 an rfl rfl rfl (by omega) rfl) rfl ?_
   refine aj rfl (bX an rfl rfl rfl rfl (by simp [xu];omega) rfl ?_)
   refine ah<|ae<|ai<|s1 (aa rfl) rfl<|s1 (lJ (gI m 16 / 4 ^ j) 4 rfl rfl rfl rfl (by decide) (by omega)) rfl<|s1 (aa rfl) rfl ?_
   refine ah<|a8<|ae<|ai<|s1 (aa rfl) rfl<|s1 (eD (18 - j) 1 rfl rfl rfl rfl (by omega) (by omega)) rfl<|s1 (aa rfl) rfl ?_
   refine ah ?_
   exact bf (j+1) (by omega) (by omega) [(1,some 1),(2,some 2)] hI rfl rfl ⟨⟨_,rfl,.p rfl⟩,⟨_,rfl,.p rfl⟩,⟨_,rfl,.of (by rw [Nat.div_div_eq_div_mul, ←Nat.pow_succ]) (.pure pu)⟩,⟨_,rfl,.of (congrArg nI (by omega)) (.pure pu)⟩,trivial⟩ ⟨.inr ⟨_,_,rfl,rfl,.pure ak⟩,.inr ⟨_,_,rfl,rfl,.of (MM m j h30) (.pure ak)⟩,trivial⟩
  ·have h30 : j = 3 := by have := of_decide_eq_false hc30; omega
   subst h30
   refine cI 2 rfl (Nn m) ?_
   refine bx<|aM<|aM<|bA<|ae<|af<|ai<|s1 (aG pN rfl rfl (by first|rfl|omega|(simp<;>omega)|(simp [*]<;>omega))) rfl ?_
   refine aj rfl (ba pN rfl rfl rfl (by first|rfl|omega|(simp<;>omega)|(simp [*]<;>omega)) (by first|rfl|omega|(simp<;>omega)|(simp [*]<;>omega)) ?_)
   refine ah<|ae<|aB ?_
   refine aC (rs:= [.cell 2 170]) rfl (cw pN rfl rfl (List.take_of_length_le (by simp)) (by simp) az) rfl
theorem GZ (l:List Nat) (h0:0<l.length) (hl:l.length≤1000):aw Tryz.prog 134 [.fz l.length (l.map nI)] (cU 1 l.length (l.map nI)):=by
 refine enter Tryz.func134 rfl Tryz.ntmps134 (by kernel_rfl) (Nat.le_of_ble_eq_true rfl) fun w0 X0 hI=>?_
 refine af<|ai<|s1 (aa rfl) rfl ?_
 refine ah<|ae<|af<|af<|ai<|s1 (aa rfl) rfl<|s1 ((uT Tryz.underlying30 rfl rfl h0).v (v':= .b false) (rfl)) rfl ?_
 refine ah<|ae ?_
 refine bO rfl ?_
 refine aE<|ae<|af<|ai ?_
 refine aj rfl (ey 5 rfl Tryz.underlying30 an rfl rfl rfl rfl rfl ?_)
 refine s1 (aa rfl) rfl ?_
 refine aj rfl (dB 7 rfl Tryz.underlying30 an rfl (.sl rfl (by first|rfl|omega|(simp<;>omega)|(simp [*]<;>omega))) rfl rfl (by simp) (by first|omega|(simp only [maxLen];omega)|(simp [maxLen];done)|(simp [maxLen];omega)|(simp [maxLen, *];omega)) (by first|omega|(simp only [maxLen];omega)|(simp [maxLen];done)|(simp [maxLen];omega)|(simp [maxLen, *];omega)) rfl rfl rfl ?_)
 refine s1 (aa rfl) rfl ?_
 refine ah<|ae<|aB ?_
 refine aC (rs:= [.tmp 2]) rfl (aA rfl az) ⟨7,by simp [jF],by rfl⟩
theorem sN (m:List UInt8) (hm:m.length=32):aw Tryz.prog 85 [.ag (m.map u8)] (aO (.fz 19 ((digits m).map nI))):=by
 refine enter Tryz.func85 rfl Tryz.ntmps85 (by kernel_rfl) (Nat.le_of_ble_eq_true rfl) fun w0 X0 hI=>?_
 refine af<|ai ?_
 refine aj rfl (bF 1 rfl rfl rfl ?_)
 refine s1 (aa rfl) rfl ?_
 refine ah<|ae<|af<|ai<|s1 (aG ar rfl rfl (by first|rfl|omega|(simp<;>omega)|(simp [*]<;>omega))) rfl ?_
 refine aj rfl (aF false rfl (.cons (.pure pu) (.nil)) (yt m hm) pu (.inl rfl) rfl ?_)
 refine aj rfl (bg 3 rfl pN rfl rfl ?_)
 refine aj rfl (ba pN rfl rfl rfl (by first|rfl|omega|(simp<;>omega)|(simp [*]<;>omega)) (by first|rfl|omega|(simp<;>omega)|(simp [*]<;>omega)) ?_)
 refine ah<|ae<|af<|ai<|s1 (gN Tryz.underlying170 an rfl rfl (by first|rfl|omega|(simp<;>omega)|(simp [*]<;>omega)) (by simp [maxLen])) rfl ?_
 refine aj rfl (gD 7 rfl true rfl (.cons (.sl rfl rfl (by first|rfl|omega|(simp<;>omega)|(simp [*]<;>omega)) (cm (by first|rfl|omega|(simp<;>omega)|(simp [*]<;>omega)) (by first|rfl|(simp;done)|(simp [*];done))) (aW.pure ak) ak) (.nil)) (by simpa using GZ (digits m) (by simp) (by simp)) ak (.inr eX) rfl ?_)
 refine s1 (aa rfl) rfl ?_
 refine ah<|ae<|aB ?_
 refine fQ 2 rfl rfl ak (cm (by simp) rfl) ?_
 refine aC (rs:= [.tmp 2]) rfl (aA rfl az) rfl
theorem B4 (parts:List (List UInt8)) (hk:parts.length≤1048576) (ht:parts.flatten.length≤140737488300000):aw Tryz.prog 184 [.fz parts.length (parts.map dt)] (cU 1 parts.flatten.length (parts.flatten.map u8)):=by
 refine enter Tryz.func184 rfl Tryz.ntmps184 (by kernel_rfl) (Nat.le_of_ble_eq_true rfl) fun w0 X0 hI=>?_
 refine af<|ai<|s1 (aa rfl) rfl ?_
 refine ah<|ae<|af<|af<|ai<|s1 (aa rfl) rfl<|s1 (a7 Tryz.underlying182 rfl rfl rfl) rfl<|s1 ((aa rfl).v (v':= .i .i64 0) rfl) rfl ?_
 refine ah<|ae<|aI ?_
 refine bD (ι:=Nat) (fun i=> [(2,.sl 2 1 0 (parts.take i).flatten.length),(5,.fz parts.length (parts.map dt)),(6,nI parts.length),(7,nI i)]) (fun i=>⟨[(2,some ((parts.take i).flatten.map u8))]⟩) (fun i=>i≤parts.length) (fun i=>parts.length - i) ?_ ?_
 ·exact bC (0) (Nat.zero_le _) [(2,none)] hI rfl rfl ⟨⟨_,rfl,.nl rfl⟩,⟨_,rfl,.pure pu⟩,⟨_,rfl,.pure pu⟩,⟨_,rfl,.pure pu⟩,trivial⟩ ⟨.inl ⟨rfl,rfl⟩,trivial⟩
 rintro i hi
 refine af<|ai<|s1 (aa rfl) rfl ?_
 refine ah<|ae<|af ?_
 refine aK rfl (fun hc8=>?_) (fun hc8=>?_)
 ·have hi2 : i < parts.length := by have := of_decide_eq_true hc8; omega
  obtain⟨p,hp⟩:∃p,parts[i]? =some p:=⟨_,List.getElem?_eq_getElem hi2⟩
  have hpl:=JI hp
  refine aE<|ae<|af<|aI<|af<|ai<|s1 (bb i Tryz.underlying182 ec rfl rfl rfl (by omega) rfl) rfl<|s1 (au ec rfl rfl (BP hp)) rfl<|s1 (aa rfl) rfl ?_
  refine ah<|ae<|ai<|s1 (aa rfl) rfl<|s1 (aa rfl) rfl ?_
  refine aj rfl (dB 13 rfl Tryz.underlying68 aR rfl (.sl rfl (by rw [List.length_map,Nat.mul_one])) rfl rfl (by simp) (by simp only [maxLen];omega) (by omega) rfl rfl rfl ?_)
  refine s1 (aa rfl) rfl ?_
  refine ah<|a8<|ae<|ai<|s1 (aZ _ 1 rfl rfl rfl rfl (by omega)) rfl<|s1 (aa rfl) rfl ?_
  refine ah ?_
  exact bf (i+1) (by omega) (by omega) [(2,some 13)] hI rfl rfl ⟨⟨_,rfl,.sl rfl (by first|rfl|omega|(simp<;>omega)|(simp [*]<;>omega))⟩,⟨_,rfl,.pure pu⟩,⟨_,rfl,.pure pu⟩,⟨_,rfl,.pure pu⟩,trivial⟩ ⟨.inr ⟨_,_,rfl,rfl,.of (by rw [←List.map_append,yA hp]) (.pure ak)⟩,trivial⟩
 ·have hi2 : i = parts.length := by have := of_decide_eq_false hc8; omega
  subst hi2
  refine bx<|aM<|aM<|bA<|ae<|af<|ai<|s1 (aa rfl) rfl<|s1 (aa rfl) rfl ?_
  refine ah<|ae<|aB ?_
  refine aC (rs:= [.tmp 2]) rfl (aA rfl az) ⟨2,?_,?_⟩
  ·rw [List.take_length];rfl
  ·rw [List.take_length];rfl
theorem Nj (x:List UInt8) (i:Nat) (hx:x.length=32):aw Tryz.prog 50 [.s [99,104,97,105,110],.fz 33 (x.map u8++ [u8 (UInt8.ofNat i)])] (aO (.ag ((gi x i).map u8))):=by
  rw [Br];simpa [hx]using ib [99,104,97,105,110] (x++ [UInt8.ofNat i]) (by simp [hx]) (by simp)
theorem zI (x:List UInt8) (i:Nat) (hx:x.length=32):aw Tryz.prog 137 [.ag (x.map u8),nI i] (aO (.ag ((gi x i).map u8))):=by
 refine enter Tryz.func137 rfl Tryz.ntmps137 (by kernel_rfl) (Nat.le_of_ble_eq_true rfl) fun w0 X0 hI=>?_
 refine af<|ai ?_
 refine aj rfl (bF 2 rfl rfl rfl ?_)
 refine aj rfl (bg 4 rfl ar rfl rfl ?_)
 refine ah<|ae<|af<|ai<|s1 (gN Tryz.underlying23 aR rfl rfl (by first|rfl|omega|(simp<;>omega)|(simp [*]<;>omega)) (by simp [maxLen])) rfl<|s1 (aa rfl) rfl<|s1 (C5 i Tryz.underlying3 Tryz.underlying5 rfl rfl) rfl ?_
 refine aj rfl (ey 8 rfl Tryz.underlying68 aR rfl rfl rfl rfl rfl ?_)
 refine aj rfl (ey 9 rfl Tryz.underlying182 ec rfl rfl rfl rfl rfl ?_)
 refine aj rfl (gD 10 rfl true rfl (.cons (.sl rfl rfl rfl rfl (.cons (.sl rfl rfl (by first|rfl|omega|(simp<;>omega)|(simp [*]<;>omega)) (cm (by simp [hx]) rfl) (aW.pure ak) ak) (.cons (.sl rfl rfl rfl (cm rfl rfl) (aW.pure ak) ak) .nil)) ak) .nil) (by simpa [dt,hx]using B4 [x, [UInt8.ofNat i]] (by simp) (by simp [hx])) ak (.inr eX) rfl ?_)
 refine aj rfl (aF true rfl (.cons (.pure pu) (.cons (.sl rfl rfl (by first|rfl|omega|(simp<;>omega)|(simp [*]<;>omega)) (cm (by first|rfl|omega|(simp<;>omega)|(simp [*]<;>omega)) (by first|rfl|(simp;done)|(simp [*];done))) (aW.pure ak) ak) (.nil))) (Nj x i hx) pu (.inr fu) rfl ?_)
 refine aj rfl (ba ar rfl rfl rfl (by first|rfl|omega|(simp<;>omega)|(simp [*]<;>omega)) (by first|rfl|omega|(simp<;>omega)|(simp [*]<;>omega)) ?_)
 refine ah<|ae<|aB ?_
 refine aC (rs:= [.cell 4 23]) rfl (cw ar rfl rfl (List.take_of_length_le (by simp)) (by simp) az) rfl
end Go.Abs.D2
-- C5D
namespace Go.Abs.D2
open Go Go.Eng Go.Abs Go.Proofs
theorem Nk (L:List (List UInt8)) (hD:aT L) (hl:L.length=19):aw Tryz.prog 50 [.s [112,117,98,108,105,99],.fz L.flatten.length (L.flatten.map u8)] (aO (.ag ((mm L).map u8))):=by
  rw [B5];exact ib [112,117,98,108,105,99] L.flatten (by rw [hD.len,hl];omega) (by simp)
theorem Jc (L:List (List UInt8)) (hD:aT L) (hl:L.length=19):aw Tryz.prog 184 [.fz 19 (L.map dt)] (cU 1 L.flatten.length (L.flatten.map u8)):=by
  have:=B4 L (by omega) (by rw [hD.len,hl];omega)
  rwa [hl]at this
theorem Dx (L:List (List UInt8)) (hD:aT L) (hl:L.length=19):aw Tryz.prog 180 [.ag (L.flatten.map u8)] (aO (.ag ((mm L).map u8))):=by
 refine enter Tryz.func180 rfl Tryz.ntmps180 (by kernel_rfl) (Nat.le_of_ble_eq_true rfl) fun w0 X0 hI=>?_
 refine af<|ai ?_
 refine aj rfl (bF 1 rfl rfl rfl ?_)
 refine aj rfl (bg 2 rfl ar rfl rfl ?_)
 refine ah<|ae<|af<|ai ?_
 refine aj rfl (oW 5 rfl 19 19 Tryz.underlying182 ec rfl rfl rfl rfl rfl (by first|omega|(simp only [maxLen];omega)|(simp [maxLen];done)|(simp [maxLen];omega)|(simp [maxLen, *];omega)) (by first|omega|(simp only [maxLen];omega)|(simp [maxLen];done)|(simp [maxLen];omega)|(simp [maxLen, *];omega)) (by first|omega|(simp only [maxLen];omega)|(simp [maxLen];done)|(simp [maxLen];omega)|(simp [maxLen, *];omega)) rfl ?_)
 refine s1 (aa rfl) rfl ?_
 refine ah<|ae<|af<|af ?_
 have hfl:(L.flatten.map u8).length=608:=by rw [List.length_map,hD.len,hl]
 refine ai<|s1 ((aa rfl).v (v':= .i .i64 0) rfl) rfl ?_
 refine ah<|ae<|aI ?_
 refine bD (ι:=Nat) (fun i=> [(1,.p 1 0),(2,.p 2 0),(3,.sl 5 1 0 19),(6,nI i)]) (fun i=>⟨[(1,some (L.flatten.map u8)),(2,some (List.replicate 32 (u8 0))),(5,some (lP i))]⟩) (fun i=>i≤19) (fun i=>19 - i) ?_ ?_
 ·exact bC (0) (Nat.zero_le _) [(1,some 1),(2,some 2),(5,some 5)] hI rfl rfl ⟨⟨_,rfl,.p rfl⟩,⟨_,rfl,.p rfl⟩,⟨_,rfl,.sl rfl (by first|rfl|omega|(simp<;>omega)|(simp [*]<;>omega))⟩,⟨_,rfl,.pure pu⟩,trivial⟩ ⟨.inr ⟨_,_,rfl,rfl,.pure ak⟩,.inr ⟨_,_,rfl,rfl,.pure ak⟩,.inr ⟨_,_,rfl,rfl,.of (by rfl) (.pure (by simp [lP];exact ak))⟩,trivial⟩
 rintro i hi
 refine af<|ai<|s1 (aa rfl) rfl ?_
 refine ah<|ae<|af ?_
 refine aK rfl (fun hc7=>?_) (fun hc7=>?_)
 ·have h7 : i < 19 := by have := of_decide_eq_true hc7; omega
  refine aE<|ae<|af<|aI<|af<|ai<|s1 (aa rfl) rfl<|s1 (aa rfl) rfl ?_
  refine ah<|ae<|ai<|s1 (aa rfl) rfl<|s1 (aa rfl) rfl<|s1 (aa rfl) rfl<|s1 (cu i Tryz.underlying203 ar rfl rfl rfl (by omega) rfl) rfl<|s1 (rH 32 Tryz.underlying23 aR rfl rfl (by omega) (by simp [maxLen]) bn bn (by omega) (by omega) rfl rfl) rfl<|s1 (kZ i Tryz.underlying182 ec rfl rfl rfl rfl (by omega) rfl) rfl ?_
  refine aj rfl (bX ec rfl rfl rfl rfl (by simp;omega) rfl ?_)
  refine ah<|a8<|ae<|ai<|s1 (aZ _ 1 rfl rfl rfl rfl (by omega)) rfl<|s1 (aa rfl) rfl ?_
  refine ah ?_
  exact bf (i+1) (by omega) (by omega) [(1,some 1),(2,some 2),(5,some 5)] hI rfl rfl ⟨⟨_,rfl,.p rfl⟩,⟨_,rfl,.p rfl⟩,⟨_,rfl,.sl rfl (by first|rfl|omega|(simp<;>omega)|(simp [*]<;>omega))⟩,⟨_,rfl,.pure pu⟩,trivial⟩ ⟨.inr ⟨_,_,rfl,rfl,.pure ak⟩,.inr ⟨_,_,rfl,rfl,.pure ak⟩,.inr ⟨_,_,rfl,rfl,.of (MK i h7) (LN rfl _)⟩,trivial⟩
 ·have h7 : i = 19 := by have := of_decide_eq_false hc7; omega
  subst h7
  refine bx<|aM<|aM<|bA<|ae<|af<|ai<|s1 (aa rfl) rfl ?_
  refine aj rfl (gD 17 rfl true rfl (.cons (.sl rfl rfl rfl (EM (by simp)) (NJ hD hl rfl) ak) .nil) (Jc L hD hl) ak (.inr eX) rfl ?_)
  refine aj rfl (aF true rfl (.cons (.pure pu) (.cons (.sl rfl rfl rfl (cm (by rw [List.length_map,Nat.mul_one]) rfl) (aW.pure ak) ak) .nil)) (Nk L hD hl) pu (.inr fu) rfl ?_)
  refine aj rfl (ba ar rfl rfl rfl (by first|rfl|omega|(simp<;>omega)|(simp [*]<;>omega)) (by first|rfl|omega|(simp<;>omega)|(simp [*]<;>omega)) ?_)
  refine ah<|ae<|aB ?_
  refine aC (rs:= [.cell 2 23]) rfl (cw ar rfl rfl (List.take_of_length_le (by simp)) (by simp) az) rfl
theorem Lr (x:List UInt8) (hx:x.length=32):aw Tryz.prog 145 [.ag (x.map u8)] (aO (.ag ((mz x).map u8))):=by
 refine enter Tryz.func145 rfl Tryz.ntmps145 (by kernel_rfl) (Nat.le_of_ble_eq_true rfl) fun w0 X0 hI=>?_
 refine af<|ai ?_
 refine aj rfl (bF 1 rfl rfl rfl ?_)
 refine aj rfl (bg 2 rfl ar rfl rfl ?_)
 refine ah<|ae<|af<|ai ?_
 refine aj rfl (bg 3 rfl uL (by kernel_rfl) rfl ?_)
 refine ah<|ae<|af<|af<|ai<|s1 ((aa rfl).v (v':= .i .i64 0) rfl) rfl ?_
 refine ah<|ae<|aI ?_
 refine bD (ι:=Nat) (fun i=> [(1,.p 1 0),(2,.p 2 0),(3,.p 3 0),(5,nI i)]) (fun i=>⟨[(1,some (x.map u8)),(2,some (List.replicate 32 (u8 0))),(3,some (je 19 (jz x i)))]⟩) (fun i=>i≤19) (fun i=>19 - i) ?_ ?_
 ·exact bC (0) (Nat.zero_le _) [(1,some 1),(2,some 2),(3,some 3)] hI rfl rfl ⟨⟨_,rfl,.p rfl⟩,⟨_,rfl,.p rfl⟩,⟨_,rfl,.p rfl⟩,⟨_,rfl,.pure pu⟩,trivial⟩ ⟨.inr ⟨_,_,rfl,rfl,.pure ak⟩,.inr ⟨_,_,rfl,rfl,.pure ak⟩,.inr ⟨_,_,rfl,rfl,.of (by rw [xP,List.map_replicate];exact zn 19) (.pure ak)⟩,trivial⟩
 rintro i hi
 have hDi:=rK x i
 refine af<|ai<|s1 (aa rfl) rfl ?_
 refine ah<|ae<|af ?_
 refine aK rfl (fun hc6=>?_) (fun hc6=>?_)
 ·have h6 : i < 19 := by have := of_decide_eq_true hc6; omega
  refine aE<|ae<|af<|aI<|af<|ai<|s1 (aa rfl) rfl<|s1 (aa rfl) rfl ?_
  refine ah<|ae<|ai<|s1 (aa rfl) rfl<|s1 (aG ar rfl rfl (by first|rfl|omega|(simp<;>omega)|(simp [*]<;>omega))) rfl<|s1 (aa rfl) rfl ?_
  refine aj rfl (aF false rfl (.cons (.pure pu) (.cons (.pure pu) (.nil))) (zI x i hx) pu (.inl rfl) rfl ?_)
  refine aj rfl (aF false rfl (.cons (.pure pu) (.cons (.pure pu) (.nil))) (vq (gi x i) 3 (by simp) (by omega)) pu (.inl rfl) rfl ?_)
  refine s1 (cu i Tryz.underlying203 ar rfl rfl rfl (by omega) rfl) rfl ?_
  refine aj rfl (iD ar rfl rfl rfl rfl rfl (Ck (by simp)) (by rw [Cf hDi (by rw [oS];omega)];omega) (Dz hDi (by rw [oS];omega) (by rw [oS])) ?_)
  refine ah<|a8<|ae<|ai<|s1 (aZ _ 1 rfl rfl rfl rfl (by omega)) rfl<|s1 (aa rfl) rfl ?_
  refine ah ?_
  exact bf (i+1) (by omega) (by omega) [(1,some 1),(2,some 2),(3,some 3)] hI rfl rfl ⟨⟨_,rfl,.p rfl⟩,⟨_,rfl,.p rfl⟩,⟨_,rfl,.p rfl⟩,⟨_,rfl,.pure pu⟩,trivial⟩ ⟨.inr ⟨_,_,rfl,rfl,.pure ak⟩,.inr ⟨_,_,rfl,rfl,.pure ak⟩,.inr ⟨_,_,rfl,rfl,.of (by rw [xQ]) (.pure ak)⟩,trivial⟩
 ·have h6 : i = 19 := by have := of_decide_eq_false hc6; omega
  subst h6
  refine cI 3 rfl (zo (oS x 19)) ?_
  refine bx<|aM<|aM<|bA<|ae<|af<|ai<|s1 (aG uL rfl rfl (by rw [List.length_map,(rK x 19).len,oS])) rfl ?_
  refine aj rfl (aF false rfl (.cons (.pure pu) (.nil)) (Dx (jz x 19) (rK x 19) (oS x 19)) pu (.inl rfl) rfl ?_)
  refine aj rfl (ba ar rfl rfl rfl (by first|rfl|omega|(simp<;>omega)|(simp [*]<;>omega)) (by first|rfl|omega|(simp<;>omega)|(simp [*]<;>omega)) ?_)
  refine ah<|ae<|aB ?_
  refine aC (rs:= [.cell 2 23]) rfl (cw ar rfl rfl (List.take_of_length_le (by simp)) (by simp) az) rfl
theorem rq (x m:List UInt8) (hx:x.length=32) (hm:m.length=32):aw Tryz.prog 88 [.ag (x.map u8),.ag (m.map u8)] (aO (a6 (eT x m))):=by
 refine enter Tryz.func88 rfl Tryz.ntmps88 (by kernel_rfl) (Nat.le_of_ble_eq_true rfl) fun w0 X0 hI=>?_
 refine af<|ai ?_
 refine aj rfl (bF 2 rfl rfl rfl ?_)
 refine aj rfl (bF 3 rfl rfl rfl ?_)
 refine s1 (aa rfl) rfl ?_
 refine ah<|ae<|af<|af<|ai<|s1 (aG ar rfl rfl (by first|rfl|omega|(simp<;>omega)|(simp [*]<;>omega))) rfl ?_
 refine aj rfl (aF false rfl (.cons (.pure pu) (.nil)) (yt m hm) pu (.inl rfl) rfl ?_)
 refine s1 ((aa rfl).v (v':= .i .i64 0) rfl) rfl ?_
 refine ah<|ae<|aI ?_
 refine bD (ι:=Nat) (fun i=> [(2,.p 2 0),(4,.sl 4 32 0 i),(8,.ag ((digits m).map nI)),(9,nI i)]) (fun i=>⟨[(2,some (x.map u8)),(4,some ((ia x m i).flatten.map u8))]⟩) (fun i=>i≤19) (fun i=>19 - i) ?_ ?_
 ·exact bC (0) (Nat.zero_le _) [(2,some 2),(4,none)] hI rfl rfl ⟨⟨_,rfl,.p rfl⟩,⟨_,rfl,.nl rfl⟩,⟨_,rfl,.pure pu⟩,⟨_,rfl,.pure pu⟩,trivial⟩ ⟨.inr ⟨_,_,rfl,rfl,.pure ak⟩,.inl ⟨rfl,rfl⟩,trivial⟩
 rintro i hi
 have hDi:=rL x m i
 have hdi:=l5 m i
 refine af<|ai<|s1 (aa rfl) rfl ?_
 refine ah<|ae<|af ?_
 refine aK rfl (fun hc10=>?_) (fun hc10=>?_)
 ·have h10 : i < 19 := by have := of_decide_eq_true hc10; omega
  refine aE<|ae<|af<|aI<|af<|ai<|s1 (aa rfl) rfl<|s1 (E7 i Tryz.underlying170 an rfl rfl rfl h10 (xa m i h10)) rfl<|s1 (aa rfl) rfl<|s1 (aa rfl) rfl ?_
  refine ah<|ae<|ai<|s1 (aa rfl) rfl<|s1 (aG ar rfl rfl (by first|rfl|omega|(simp<;>omega)|(simp [*]<;>omega))) rfl<|s1 (aa rfl) rfl ?_
  refine aj rfl (aF false rfl (.cons (.pure pu) (.cons (.pure pu) (.nil))) (zI x i hx) pu (.inl rfl) rfl ?_)
  refine s1 (aa rfl) rfl ?_
  refine aj rfl (aF false rfl (.cons (.pure pu) (.cons (.pure pu) (.nil))) (vq (gi x i) (dg m i) (by simp) (by omega)) pu (.inl rfl) rfl ?_)
  refine aj rfl (gC 19 rfl Tryz.underlying41 ar rfl rfl rfl (by simp [aU,jr]) (List.append_nil ((eM (dg m i) (gi x i)).map u8)) rfl rfl rfl ?_)
  refine aj rfl (dB 20 rfl Tryz.underlying41 ar rfl (.sl rfl (by rw [List.length_map,hDi.len,len_signL])) rfl (c8 rfl (by rw [List.length_map,jr (by simp)])) (by simp [jr]) (by simp only [maxLen];omega) (by omega) rfl rfl rfl ?_)
  refine s1 (aa rfl) rfl ?_
  refine ah<|a8<|ae<|ai<|s1 (aZ _ 1 rfl rfl rfl rfl (by omega)) rfl<|s1 (aa rfl) rfl ?_
  refine ah ?_
  exact bf (i+1) (by omega) (by omega) [(2,some 2),(4,some 20)] hI rfl rfl ⟨⟨_,rfl,.p rfl⟩,⟨_,rfl,.sl rfl (by first|rfl|omega|(simp<;>omega)|(simp [*]<;>omega))⟩,⟨_,rfl,.pure pu⟩,⟨_,rfl,.pure pu⟩,trivial⟩ ⟨.inr ⟨_,_,rfl,rfl,.pure ak⟩,.inr ⟨_,_,rfl,rfl,.of (MY x m i) (.pure ak)⟩,trivial⟩
 ·have h10 : i = 19 := by have := of_decide_eq_false hc10; omega
  subst h10
  refine bx<|aM<|aM<|bA<|ae<|af<|ai<|s1 (aa rfl) rfl<|s1 (aa rfl) rfl ?_
  refine ah<|ae<|aB ?_
  refine fQ 4 rfl rfl ak (cm (by rw [List.length_map,(rL x m _).len,len_signL]) rfl) ?_
  refine aC (rs:= [.tmp 4]) rfl (aA rfl az) ?_
  show A.fz _ _=a6 (ia x m 19)
  rw [a6,len_signL]
theorem LJ (m:List UInt8) (S:List (List UInt8)) (hm:m.length=32) (hS:aT S):aw Tryz.prog 130 [.ag (m.map u8),a6 S] (aO (.tu [.ag ((fl m S).map u8),nI (g8 S)])):=by
 refine enter Tryz.func130 rfl Tryz.ntmps130 (by kernel_rfl) (Nat.le_of_ble_eq_true rfl) fun w0 X0 hI=>?_
 refine af<|ai ?_
 refine aj rfl (bF 2 rfl rfl rfl ?_)
 refine aj rfl (bg 4 rfl ar rfl rfl ?_)
 refine s1 ((aa rfl).v (v':= .i .i64 0) rfl) rfl ?_
 refine ah<|ae<|af<|af<|ai<|s1 (aa rfl) rfl<|s1 (a7 Tryz.underlying41 rfl rfl rfl) rfl<|s1 (aa rfl) rfl ?_
 refine ah<|ae ?_
 refine aK rfl (fun hc11=>?_) (fun hc11=>?_)
 ·have h11 : S.length ≠ 19 := by have := bne_iff_ne.1 hc11; omega
  refine af<|ai<|s1 (aG ar rfl rfl (by first|rfl|omega|(simp<;>omega)|(simp [*]<;>omega))) rfl ?_
  refine aj rfl (ba ar rfl rfl rfl (by first|rfl|omega|(simp<;>omega)|(simp [*]<;>omega)) (by first|rfl|omega|(simp<;>omega)|(simp [*]<;>omega)) ?_)
  refine s1 ((aa rfl).v (v':= .i .i64 50) rfl) rfl ?_
  refine ah<|ae<|aB<|aN ?_
  refine aC (rs:= [.cell 4 23,.tmp 5]) rfl (cw ar rfl rfl (List.take_of_length_le (by simp)) (by simp) (aA rfl az)) ?_
  rw [(DG h11).1,(DG (m:=m) h11).2]
  rfl
 ·have h11 : S.length = 19 := by have := bne_eq_false_iff_eq.1 hc11; omega
  refine aE<|ae<|af<|ai ?_
  refine aj rfl (bg 6 rfl uL (by kernel_rfl) rfl ?_)
  refine ah<|ae<|af<|af<|ai<|s1 (aG ar rfl rfl (by first|rfl|omega|(simp<;>omega)|(simp [*]<;>omega))) rfl ?_
  refine aj rfl (aF false rfl (.cons (.pure pu) (.nil)) (yt m hm) pu (.inl rfl) rfl ?_)
  refine s1 ((aa rfl).v (v':= .i .i64 0) rfl) rfl ?_
  refine ah<|ae<|aI ?_
  refine bD (ι:=Nat) (fun i=> [(1,a6 S),(4,.p 4 0),(6,.p 6 0),(14,.ag ((digits m).map nI)),(15,nI i)]) (fun i=>⟨[(4,some (List.replicate 32 (u8 0))),(6,some (je 19 (jD m S i)))]⟩) (fun i=>i≤19) (fun i=>19 - i) ?_ ?_
  ·exact bC (0) (Nat.zero_le _) [(4,some 4),(6,some 6)] hI rfl rfl ⟨⟨_,rfl,.pure pu⟩,⟨_,rfl,.p rfl⟩,⟨_,rfl,.p rfl⟩,⟨_,rfl,.pure pu⟩,⟨_,rfl,.pure pu⟩,trivial⟩ ⟨.inr ⟨_,_,rfl,rfl,.pure ak⟩,.inr ⟨_,_,rfl,rfl,.of (by rw [xY,List.map_replicate];exact zn 19) (.pure ak)⟩,trivial⟩
  rintro i hi
  have hDi:=yP (m:=m) hS i (by omega)
  have hdi:=l5 m i
  refine af<|ai<|s1 (aa rfl) rfl ?_
  refine ah<|ae<|af ?_
  refine aK rfl (fun hc16=>?_) (fun hc16=>?_)
  ·have h16 : i < 19 := by have := of_decide_eq_true hc16; omega
   obtain⟨q,hq⟩:∃q,S[i]? =some q:=⟨_,List.getElem?_eq_getElem (by omega)⟩
   have hq32:=hS q (List.mem_of_getElem? hq)
   have hq2:S.getD i []=q:=by simp [hq]
   refine aE<|ae<|af<|aI<|af<|ai<|s1 (aa rfl) rfl<|s1 (E7 i Tryz.underlying170 an rfl rfl rfl h16 (xa m i h16)) rfl<|s1 (aa rfl) rfl<|s1 (aa rfl) rfl ?_
   refine ah<|ae<|ai<|s1 (aa rfl) rfl<|s1 (aa rfl) rfl<|s1 (aa rfl) rfl<|s1 (bb i Tryz.underlying41 ar rfl rfl rfl (by omega) rfl) rfl<|s1 (bp ar rfl rfl (IU hS hq) (by simp [hq32])) rfl<|s1 (aa rfl) rfl<|s1 (eD 3 (dg m i) rfl rfl rfl rfl (by omega) (by omega)) rfl ?_
   refine aj rfl (aF false rfl (.cons (.pure pu) (.cons (.pure pu) (.nil))) (vq q (3 - dg m i) hq32 (by omega)) pu (.inl rfl) rfl ?_)
   refine s1 (cu i Tryz.underlying203 ar rfl rfl rfl (by omega) rfl) rfl ?_
   refine aj rfl (iD ar rfl rfl rfl rfl rfl (Ck hq32) (by rw [Cf hDi (by rw [len_recL];omega)];omega) (Dz hDi (by rw [len_recL];omega) (by rw [len_recL])) ?_)
   refine ah<|a8<|ae<|ai<|s1 (aZ _ 1 rfl rfl rfl rfl (by omega)) rfl<|s1 (aa rfl) rfl ?_
   refine ah ?_
   exact bf (i+1) (by omega) (by omega) [(4,some 4),(6,some 6)] hI rfl rfl ⟨⟨_,rfl,.pure pu⟩,⟨_,rfl,.p rfl⟩,⟨_,rfl,.p rfl⟩,⟨_,rfl,.pure pu⟩,⟨_,rfl,.pure pu⟩,trivial⟩ ⟨.inr ⟨_,_,rfl,rfl,.pure ak⟩,.inr ⟨_,_,rfl,rfl,.of (by rw [xZ,hq2]) (.pure ak)⟩,trivial⟩
  ·have h16 : i = 19 := by have := of_decide_eq_false hc16; omega
   subst h16
   refine cI 6 rfl (zo (len_recL m S 19)) ?_
   refine bx<|aM<|aM<|bA<|ae<|af<|ai<|s1 (aG uL rfl rfl (by rw [List.length_map,hDi.len,len_recL])) rfl ?_
   refine aj rfl (aF false rfl (.cons (.pure pu) (.nil)) (Dx (jD m S 19) hDi (len_recL m S 19)) pu (.inl rfl) rfl ?_)
   refine aj rfl (ba ar rfl rfl rfl (by first|rfl|omega|(simp<;>omega)|(simp [*]<;>omega)) (by first|rfl|omega|(simp<;>omega)|(simp [*]<;>omega)) ?_)
   refine s1 ((aa rfl).v (v':= .i .i64 0) rfl) rfl ?_
   refine ah<|ae<|aB ?_
   refine aC (rs:= [.cell 4 23,.tmp 5]) rfl (cw ar rfl rfl (List.take_of_length_le (by simp)) (by simp) (aA rfl az)) ?_
   rw [(x6 h11).1,(x6 (m:=m) h11).2]
   rfl
end Go.Abs.D2
-- D2H
namespace Go.Abs.D2
open Go Go.Eng Go.Abs Go.Proofs
theorem Jy (X:BitVec 64):aw Tryz.prog 187 [aH X] (aO (.i .i64 (cW X.toNat:Nat))):=by
 refine enter Tryz.func187 rfl Tryz.ntmps187 (by kernel_rfl) (Nat.le_of_ble_eq_true rfl) fun w0 X0 hI=>?_
 refine af<|ai<|s1 ((aa rfl).v (v':= .i .i64 0) rfl) rfl ?_
 refine ah<|ae<|af<|af<|ai<|s1 (aa rfl) rfl<|s1 (aa rfl) rfl ?_
 refine ah<|ae ?_
 refine aK rfl (fun hc4=>?_) (fun hc4=>?_)
 ·have e4 := nj X 32 (by have := of_decide_eq_true hc4; omega)
  have y4:=nH X 32 32 X.isLt
  refine af<|ai<|s1 (aa rfl) rfl<|s1 (g9 _ 32 rfl rfl rfl (by decide)) rfl<|s1 (aa rfl) rfl ?_
  refine ah<|ae<|ai<|s1 ((aa rfl).v (v':= .i .i64 32) rfl) rfl ?_
  refine ah<|ae<|af<|af<|ai<|s1 (aa rfl) rfl<|s1 (aa rfl) rfl ?_
  refine ah<|ae ?_
  refine aK rfl (fun hc8=>?_) (fun hc8=>?_)
  ·have e8 := nj (X >>> 32) 16 (by have := of_decide_eq_true hc8; omega)
   have y8:=nH (X>>>32) 16 16 y4
   refine af<|ai<|s1 (aa rfl) rfl<|s1 (g9 _ 16 rfl rfl rfl (by decide)) rfl<|s1 (aa rfl) rfl ?_
   refine ah<|ae<|ai<|s1 ((aa rfl).v (v':= .i .i64 32) rfl) rfl<|s1 (aZ 32 16 rfl rfl rfl rfl (by omega)) rfl<|s1 (aa rfl) rfl ?_
   refine ah<|ae<|af<|af<|ai<|s1 (aa rfl) rfl<|s1 (aa rfl) rfl ?_
   refine ah<|ae ?_
   refine aK rfl (fun hc14=>?_) (fun hc14=>?_)
   ·have e14 := nj ((X >>> 32) >>> 16) 8 (by have := of_decide_eq_true hc14; omega)
    have y14:=nH ((X>>>32)>>>16) 8 8 y8
    refine af<|ai<|s1 (aa rfl) rfl<|s1 (g9 _ 8 rfl rfl rfl (by decide)) rfl<|s1 (aa rfl) rfl ?_
    refine ah<|ae<|ai<|s1 (aa rfl) rfl<|s1 (aZ _ 8 rfl rfl rfl rfl (by omega)) rfl<|s1 (aa rfl) rfl ?_
    refine ah<|ae<|af<|ai<|s1 (aa rfl) rfl<|s1 (aa rfl) rfl<|s1 (iI _ Tryz.underlying198 Tryz.underlying5 rfl) rfl<|s1 (mM (((X>>>32)>>>16)>>>8).toNat (UInt8.ofNat (cW (((X>>>32)>>>16)>>>8).toNat)) Tryz.underlying9 rfl (by kernel_rfl) rfl (mG y14) (mE _ y14)) rfl<|s1 ((cK Tryz.underlying5 Tryz.underlying3 rfl).v (v':= .i .i64 (cW (((X>>>32)>>>16)>>>8).toNat:Nat)) (mF y14)) rfl<|s1 (aZ _ _ rfl rfl rfl rfl (by have:=lF y14;omega)) rfl<|s1 (aa rfl) rfl ?_
    refine ah<|ae<|aB ?_
    refine aC (rs:= [.tmp 2]) rfl (aA rfl az) ?_
    exact congrArg (fun k:Nat=>A.i .i64 (k:Int)) (by omega)
   ·have e14 : ((X >>> 32) >>> 16).toNat < 2 ^ 8 := by have := of_decide_eq_false hc14; omega
    have y14:=e14
    refine aE<|ae<|af<|ai<|s1 (aa rfl) rfl<|s1 (aa rfl) rfl<|s1 (iI _ Tryz.underlying198 Tryz.underlying5 rfl) rfl<|s1 (mM ((X>>>32)>>>16).toNat (UInt8.ofNat (cW ((X>>>32)>>>16).toNat)) Tryz.underlying9 rfl (by kernel_rfl) rfl (mG y14) (mE _ y14)) rfl<|s1 ((cK Tryz.underlying5 Tryz.underlying3 rfl).v (v':= .i .i64 (cW ((X>>>32)>>>16).toNat:Nat)) (mF y14)) rfl<|s1 (aZ _ _ rfl rfl rfl rfl (by have:=lF y14;omega)) rfl<|s1 (aa rfl) rfl ?_
    refine ah<|ae<|aB ?_
    refine aC (rs:= [.tmp 2]) rfl (aA rfl az) ?_
    exact congrArg (fun k:Nat=>A.i .i64 (k:Int)) (by omega)
  ·have e8 : (X >>> 32).toNat < 2 ^ 16 := by have := of_decide_eq_false hc8; omega
   have y8:=e8
   refine aE<|ae<|af<|af<|ai<|s1 (aa rfl) rfl<|s1 (aa rfl) rfl ?_
   refine ah<|ae ?_
   refine aK rfl (fun hc14=>?_) (fun hc14=>?_)
   ·have e14 := nj (X >>> 32) 8 (by have := of_decide_eq_true hc14; omega)
    have y14:=nH (X>>>32) 8 8 y8
    refine af<|ai<|s1 (aa rfl) rfl<|s1 (g9 _ 8 rfl rfl rfl (by decide)) rfl<|s1 (aa rfl) rfl ?_
    refine ah<|ae<|ai<|s1 ((aa rfl).v (v':= .i .i64 32) rfl) rfl<|s1 (aZ 32 8 rfl rfl rfl rfl (by omega)) rfl<|s1 (aa rfl) rfl ?_
    refine ah<|ae<|af<|ai<|s1 (aa rfl) rfl<|s1 (aa rfl) rfl<|s1 (iI _ Tryz.underlying198 Tryz.underlying5 rfl) rfl<|s1 (mM ((X>>>32)>>>8).toNat (UInt8.ofNat (cW ((X>>>32)>>>8).toNat)) Tryz.underlying9 rfl (by kernel_rfl) rfl (mG y14) (mE _ y14)) rfl<|s1 ((cK Tryz.underlying5 Tryz.underlying3 rfl).v (v':= .i .i64 (cW ((X>>>32)>>>8).toNat:Nat)) (mF y14)) rfl<|s1 (aZ _ _ rfl rfl rfl rfl (by have:=lF y14;omega)) rfl<|s1 (aa rfl) rfl ?_
    refine ah<|ae<|aB ?_
    refine aC (rs:= [.tmp 2]) rfl (aA rfl az) ?_
    exact congrArg (fun k:Nat=>A.i .i64 (k:Int)) (by omega)
   ·have e14 : (X >>> 32).toNat < 2 ^ 8 := by have := of_decide_eq_false hc14; omega
    have y14:=e14
    refine aE<|ae<|af<|ai<|s1 ((aa rfl).v (v':= .i .i64 32) rfl) rfl<|s1 (aa rfl) rfl<|s1 (iI _ Tryz.underlying198 Tryz.underlying5 rfl) rfl<|s1 (mM (X>>>32).toNat (UInt8.ofNat (cW (X>>>32).toNat)) Tryz.underlying9 rfl (by kernel_rfl) rfl (mG y14) (mE _ y14)) rfl<|s1 ((cK Tryz.underlying5 Tryz.underlying3 rfl).v (v':= .i .i64 (cW (X>>>32).toNat:Nat)) (mF y14)) rfl<|s1 (aZ 32 _ rfl rfl rfl rfl (by have:=lF y14;omega)) rfl<|s1 (aa rfl) rfl ?_
    refine ah<|ae<|aB ?_
    refine aC (rs:= [.tmp 2]) rfl (aA rfl az) ?_
    exact congrArg (fun k:Nat=>A.i .i64 (k:Int)) (by omega)
 ·have e4 : X.toNat < 2 ^ 32 := by have := of_decide_eq_false hc4; omega
  have y4:=e4
  refine aE<|ae<|af<|af<|ai<|s1 (aa rfl) rfl<|s1 (aa rfl) rfl ?_
  refine ah<|ae ?_
  refine aK rfl (fun hc8=>?_) (fun hc8=>?_)
  ·have e8 := nj X 16 (by have := of_decide_eq_true hc8; omega)
   have y8:=nH X 16 16 y4
   refine af<|ai<|s1 (aa rfl) rfl<|s1 (g9 _ 16 rfl rfl rfl (by decide)) rfl<|s1 (aa rfl) rfl ?_
   refine ah<|ae<|ai<|s1 ((aa rfl).v (v':= .i .i64 0) rfl) rfl<|s1 (aZ 0 16 rfl rfl rfl rfl (by omega)) rfl<|s1 (aa rfl) rfl ?_
   refine ah<|ae<|af<|af<|ai<|s1 (aa rfl) rfl<|s1 (aa rfl) rfl ?_
   refine ah<|ae ?_
   refine aK rfl (fun hc14=>?_) (fun hc14=>?_)
   ·have e14 := nj (X >>> 16) 8 (by have := of_decide_eq_true hc14; omega)
    have y14:=nH (X>>>16) 8 8 y8
    refine af<|ai<|s1 (aa rfl) rfl<|s1 (g9 _ 8 rfl rfl rfl (by decide)) rfl<|s1 (aa rfl) rfl ?_
    refine ah<|ae<|ai<|s1 (aa rfl) rfl<|s1 (aZ _ 8 rfl rfl rfl rfl (by omega)) rfl<|s1 (aa rfl) rfl ?_
    refine ah<|ae<|af<|ai<|s1 (aa rfl) rfl<|s1 (aa rfl) rfl<|s1 (iI _ Tryz.underlying198 Tryz.underlying5 rfl) rfl<|s1 (mM ((X>>>16)>>>8).toNat (UInt8.ofNat (cW ((X>>>16)>>>8).toNat)) Tryz.underlying9 rfl (by kernel_rfl) rfl (mG y14) (mE _ y14)) rfl<|s1 ((cK Tryz.underlying5 Tryz.underlying3 rfl).v (v':= .i .i64 (cW ((X>>>16)>>>8).toNat:Nat)) (mF y14)) rfl<|s1 (aZ _ _ rfl rfl rfl rfl (by have:=lF y14;omega)) rfl<|s1 (aa rfl) rfl ?_
    refine ah<|ae<|aB ?_
    refine aC (rs:= [.tmp 2]) rfl (aA rfl az) ?_
    exact congrArg (fun k:Nat=>A.i .i64 (k:Int)) (by omega)
   ·have e14 : (X >>> 16).toNat < 2 ^ 8 := by have := of_decide_eq_false hc14; omega
    have y14:=e14
    refine aE<|ae<|af<|ai<|s1 (aa rfl) rfl<|s1 (aa rfl) rfl<|s1 (iI _ Tryz.underlying198 Tryz.underlying5 rfl) rfl<|s1 (mM (X>>>16).toNat (UInt8.ofNat (cW (X>>>16).toNat)) Tryz.underlying9 rfl (by kernel_rfl) rfl (mG y14) (mE _ y14)) rfl<|s1 ((cK Tryz.underlying5 Tryz.underlying3 rfl).v (v':= .i .i64 (cW (X>>>16).toNat:Nat)) (mF y14)) rfl<|s1 (aZ _ _ rfl rfl rfl rfl (by have:=lF y14;omega)) rfl<|s1 (aa rfl) rfl ?_
    refine ah<|ae<|aB ?_
    refine aC (rs:= [.tmp 2]) rfl (aA rfl az) ?_
    exact congrArg (fun k:Nat=>A.i .i64 (k:Int)) (by omega)
  ·have e8 : X.toNat < 2 ^ 16 := by have := of_decide_eq_false hc8; omega
   have y8:=e8
   refine aE<|ae<|af<|af<|ai<|s1 (aa rfl) rfl<|s1 (aa rfl) rfl ?_
   refine ah<|ae ?_
   refine aK rfl (fun hc14=>?_) (fun hc14=>?_)
   ·have e14 := nj X 8 (by have := of_decide_eq_true hc14; omega)
    have y14:=nH X 8 8 y8
    refine af<|ai<|s1 (aa rfl) rfl<|s1 (g9 _ 8 rfl rfl rfl (by decide)) rfl<|s1 (aa rfl) rfl ?_
    refine ah<|ae<|ai<|s1 ((aa rfl).v (v':= .i .i64 0) rfl) rfl<|s1 (aZ 0 8 rfl rfl rfl rfl (by omega)) rfl<|s1 (aa rfl) rfl ?_
    refine ah<|ae<|af<|ai<|s1 (aa rfl) rfl<|s1 (aa rfl) rfl<|s1 (iI _ Tryz.underlying198 Tryz.underlying5 rfl) rfl<|s1 (mM (X>>>8).toNat (UInt8.ofNat (cW (X>>>8).toNat)) Tryz.underlying9 rfl (by kernel_rfl) rfl (mG y14) (mE _ y14)) rfl<|s1 ((cK Tryz.underlying5 Tryz.underlying3 rfl).v (v':= .i .i64 (cW (X>>>8).toNat:Nat)) (mF y14)) rfl<|s1 (aZ _ _ rfl rfl rfl rfl (by have:=lF y14;omega)) rfl<|s1 (aa rfl) rfl ?_
    refine ah<|ae<|aB ?_
    refine aC (rs:= [.tmp 2]) rfl (aA rfl az) ?_
    exact congrArg (fun k:Nat=>A.i .i64 (k:Int)) (by omega)
   ·have e14 : X.toNat < 2 ^ 8 := by have := of_decide_eq_false hc14; omega
    have y14:=e14
    refine aE<|ae<|af<|ai<|s1 ((aa rfl).v (v':= .i .i64 0) rfl) rfl<|s1 (aa rfl) rfl<|s1 (iI _ Tryz.underlying198 Tryz.underlying5 rfl) rfl<|s1 (mM X.toNat (UInt8.ofNat (cW X.toNat)) Tryz.underlying9 rfl (by kernel_rfl) rfl (mG y14) (mE _ y14)) rfl<|s1 ((cK Tryz.underlying5 Tryz.underlying3 rfl).v (v':= .i .i64 (cW X.toNat:Nat)) (mF y14)) rfl<|s1 (aZ 0 _ rfl rfl rfl rfl (by have:=lF y14;omega)) rfl<|s1 (aa rfl) rfl ?_
    refine ah<|ae<|aB ?_
    refine aC (rs:= [.tmp 2]) rfl (aA rfl az) ?_
    exact congrArg (fun k:Nat=>A.i .i64 (k:Int)) (by omega)
theorem JJ (X:BitVec 64):aw Tryz.prog 146 [aH X] (aO (.i .i64 (cW X.toNat:Nat))):=by
 refine enter Tryz.func146 rfl Tryz.ntmps146 (by kernel_rfl) (Nat.le_of_ble_eq_true rfl) fun w0 X0 hI=>?_
 refine af<|ai<|s1 ((aa rfl).v (v':= .i .i64 0) rfl) rfl ?_
 refine ah<|ae<|af ?_
 refine bO rfl ?_
 refine aE<|ae<|af<|ai<|s1 (aa rfl) rfl ?_
 refine aj rfl (aF false rfl (.cons (.pure pu) (.nil)) (Jy X) pu (.inl rfl) rfl ?_)
 refine s1 (aa rfl) rfl ?_
 refine ah<|ae<|aB ?_
 refine aC (rs:= [.tmp 2]) rfl (aA rfl (az)) rfl
theorem xc (n:Nat) (h:2≤n) (hn:n≤1099511627776):aw Tryz.prog 95 [.i .i64 (n:Nat)] (aO (.i .i64 (aY n:Nat))):=by
 refine enter Tryz.func95 rfl Tryz.ntmps95 (by kernel_rfl) (Nat.le_of_ble_eq_true rfl) fun w0 X0 hI=>?_
 refine af<|ai<|s1 ((aa rfl).v (v':= .i .i64 0) rfl) rfl ?_
 refine ah<|ae<|af<|ai<|s1 (aa rfl) rfl<|s1 (eD n 1 rfl rfl rfl rfl (by omega) (by omega)) rfl<|s1 (mw (n - 1) Tryz.underlying3 Tryz.underlying74 rfl rfl) rfl ?_
 refine aj rfl (aF false rfl (.cons (.pure pu) (.nil)) (JJ (aL (n - 1))) pu (.inl rfl) rfl ?_)
 refine s1 ((eD (cW (aL (n - 1)).toNat) 1 rfl rfl rfl rfl (by rw [vP (n:=n - 1) (by omega),Cd (by omega)];omega) (by rw [vP (n:=n - 1) (by omega)];have:=Jz (x:=n - 1) (by omega);omega)).v (v':= .i .i64 ((n - 1).log2:Nat)) (congrArg (fun k:Nat=>A.i .i64 (k:Int)) (by rw [vP (n:=n - 1) (by omega),Cd (by omega)];omega))) rfl<|s1 ((nS rfl rfl (by omega)).v (v':= .i .i64 (aY n:Nat)) (MS h hn)) rfl<|s1 (aa rfl) rfl ?_
 refine ah<|ae<|aB ?_
 refine aC (rs:= [.tmp 2]) rfl (aA rfl (az)) rfl
end Go.Abs.D2
-- D2T1
namespace Go.Abs.D2
open Go Go.Eng Go.Abs Go.Proofs
theorem EI (L:List (List UInt8)) (hD:aT L) (hl:L.length≤1048576) (ih:∀M:List (List UInt8),M.length<L.length→aT M→aw Tryz.prog 46 [a6 M] (aO (.ag ((tree M).map u8)))):aw Tryz.prog 46 [a6 L] (aO (.ag ((tree L).map u8))):=by
 refine enter Tryz.func46 rfl Tryz.ntmps46 (by kernel_rfl) (Nat.le_of_ble_eq_true rfl) fun w0 X0 hI=>?_
 refine af<|ai ?_
 refine aj rfl (bg 2 rfl ar rfl rfl ?_)
 refine ah<|ae<|af<|af<|ai<|s1 (aa rfl) rfl<|s1 (a7 Tryz.underlying41 rfl rfl rfl) rfl ?_
 refine ah<|ae<|aI<|af<|ai<|s1 (aa rfl) rfl<|s1 (aa rfl) rfl ?_
 refine ah<|ae ?_
 refine aK rfl (fun hc6=>?_) (fun hc6=>?_)
 ·have h6 : L.length = 0 := by have := of_decide_eq_true hc6; omega
  obtain rfl:=List.eq_nil_of_length_eq_zero h6
  refine af<|ai ?_
  refine aj rfl (aF false rfl (.cons (.pure pu) (.cons .nl (.nil))) (ib _ [] (by simp) (by simp)) pu (.inl rfl) rfl ?_)
  refine aj rfl (ba ar rfl rfl rfl (by first|rfl|omega|(simp<;>omega)|(simp [*]<;>omega)|(simp [aT.len, -List.length_flatten, *]<;>omega)) (by first|rfl|omega|(simp<;>omega)|(simp [*]<;>omega)|(simp [aT.len, -List.length_flatten, *]<;>omega)) ?_)
  refine ah<|ae<|aB<|bI<|aN ?_
  refine aC (rs:= [.cell 2 23]) rfl (cw ar rfl rfl (List.take_of_length_le (by simp [js])) (by simp [js]) az) ?_
  rw [EH]
  rfl
 ·have h6 : ¬ L.length = 0 := by have := of_decide_eq_false hc6; omega
  refine af<|ai<|s1 (aa rfl) rfl<|s1 (aa rfl) rfl ?_
  refine ah<|ae ?_
  refine aK rfl (fun hc9=>?_) (fun hc9=>?_)
  ·have h9 : L.length = 1 := by have := of_decide_eq_true hc9; omega
   obtain⟨x,rfl⟩:=List.length_eq_one_iff.1 h9
   have hx:=hD x (.head _)
   refine af<|ai<|s1 (aa rfl) rfl<|s1 (bb 0 Tryz.underlying41 ar rfl rfl rfl (by simp) rfl) rfl<|s1 ((nQ 32 Tryz.underlying23 aR rfl (by simp [maxLen]) bn bn (Nat.zero_le _) (Nat.le_refl _) (by simp) rfl rfl).v (G9 hx)) rfl ?_
   refine aj rfl (aF false rfl (.cons (.pure pu) (.cons (.pure pu) (.nil))) (ib _ x (by omega) (by simp)) pu (.inl rfl) rfl ?_)
   refine aj rfl (ba ar rfl rfl rfl (by first|rfl|omega|(simp<;>omega)|(simp [*]<;>omega)|(simp [aT.len, -List.length_flatten, *]<;>omega)) (by first|rfl|omega|(simp<;>omega)|(simp [*]<;>omega)|(simp [aT.len, -List.length_flatten, *]<;>omega)) ?_)
   refine ah<|ae<|aB<|bI<|aN ?_
   refine aC (rs:= [.cell 2 23]) rfl (cw ar rfl rfl (List.take_of_length_le (by simp [js])) (by simp [js]) az) ?_
   rw [yF]
   rfl
  ·have h9 : ¬ L.length = 1 := by have := of_decide_eq_false hc9; omega
   refine aE<|a8<|ae<|af<|ai<|s1 (aa rfl) rfl<|s1 (a7 Tryz.underlying41 rfl rfl rfl) rfl ?_
   refine aj rfl (aF false rfl (.cons (.pure pu) (.nil)) (xc L.length (by omega) (by omega)) pu (.inl rfl) rfl ?_)
   refine s1 (aa rfl) rfl ?_
   refine ah<|ae<|af ?_
   refine cr ⟨_, [], []⟩ 9 4 br (le_refl rfl) ?_
   have hh:=fT (n:=L.length) (by omega)
   refine aq 0 [] [] (aa rfl) rfl rfl ?_
   refine aq 1 [] [] (aa rfl) rfl rfl ?_
   refine aq 2 [0,1] [] ((lT (aY L.length) Tryz.underlying41 ar rfl (by rw [List.length_map,hD.len]) bn (bs rfl rfl) (by omega) (by omega) rfl rfl).v (v':=a6 (L.take (aY L.length))) (wh hD (by omega))) rfl rfl ?_
   refine bL false 3 [2] [] aV rfl (.cons (.pure pu) (.nil)) (ih (L.take (aY L.length)) (by rw [List.length_take];omega) (hD.take _)) pu (.inl rfl) rfl rfl ?_
   refine aq 4 [] [] (aa rfl) rfl rfl ?_
   refine aq 5 [] [] (aa rfl) rfl rfl ?_
   refine aq 6 [4,5] [] ((lT (L.length - aY L.length) Tryz.underlying41 ar rfl (by rw [List.length_map,hD.len]) (bs rfl rfl) bn (by omega) (by omega) rfl rfl).v (v':=a6 (L.drop (aY L.length))) (wg hD rfl)) rfl rfl ?_
   refine bL false 7 [6] [] aV rfl (.cons (.pure pu) (.nil)) (ih (L.drop (aY L.length)) (by rw [List.length_drop];omega) (hD.drop _)) pu (.inl rfl) rfl rfl ?_
   refine bL false 8 [3,7] [] aV rfl (.cons (.pure pu) (.cons (.pure pu) (.nil))) (xD (fun t b h1 h2=>ib t b (by omega) (by omega)) _ _ (js _) (js _)) pu (.inl rfl) rfl rfl ?_
   refine ct (by kernel_rfl) ?_
   refine aj rfl (ba ar rfl rfl rfl (by first|rfl|omega|(simp<;>omega)|(simp [*]<;>omega)|(simp [aT.len, -List.length_flatten, *]<;>omega)) (by first|rfl|omega|(simp<;>omega)|(simp [*]<;>omega)|(simp [aT.len, -List.length_flatten, *]<;>omega)) ?_)
   refine ah<|ae<|aB ?_
   refine aC (rs:= [.cell 2 23]) rfl (cw ar rfl rfl (List.take_of_length_le (by simp [js])) (by simp [js]) az) ?_
   rw [uO (L:=L) (by omega)]
   rfl
theorem pP:∀(n:Nat) (L:List (List UInt8)),L.length≤n→aT L→L.length≤1048576→aw Tryz.prog 46 [a6 L] (aO (.ag ((tree L).map u8)))
  |0,L,h,hD,hl=>EI L hD hl (fun M hM=>absurd hM (by omega))
  |n+1,L,h,hD,hl=>EI L hD hl (fun M hM hM2=>pP n M (by omega) hM2 (by omega))
end Go.Abs.D2
-- D2T2
namespace Go.Abs.D2
open Go Go.Eng Go.Abs Go.Proofs
theorem Nt (L:List (List UInt8)) (i:Nat) (hD:aT L) (hi:i<L.length) (hl:L.length≤1048576) (ih:∀(M:List (List UInt8)) (i:Nat),M.length<L.length→aT M→i<M.length→aw Tryz.prog 149 [a6 M,.i .i64 (i:Nat)] (cU 32 (path M i).length ((path M i).flatten.map u8))):aw Tryz.prog 149 [a6 L,.i .i64 (i:Nat)] (cU 32 (path L i).length ((path L i).flatten.map u8)):=by
 refine enter Tryz.func149 rfl Tryz.ntmps149 (by kernel_rfl) (Nat.le_of_ble_eq_true rfl) fun w0 X0 hI=>?_
 refine af<|ai<|s1 (aa rfl) rfl ?_
 refine ah<|ae<|af<|af<|ai<|s1 (aa rfl) rfl<|s1 (a7 Tryz.underlying41 rfl rfl rfl) rfl<|s1 (aa rfl) rfl ?_
 refine ah<|ae ?_
 refine aK rfl (fun hc8=>?_) (fun hc8=>?_)
 ·have h8 : L.length = 1 := by have := of_decide_eq_true hc8; omega
  refine af<|ai<|s1 (aa rfl) rfl ?_
  refine ah<|ae<|aB<|aN ?_
  refine zB 99 rfl 4 32 rfl ?_
  refine aC (rs:= [.tmp 4]) rfl (aA rfl az) ⟨99,?_,?_⟩
  ·rw [my i (by omega)];rfl
  ·rw [my i (by omega)];rfl
 ·have h8 : ¬ L.length = 1 := by have := of_decide_eq_false hc8; omega
  refine aE<|ae<|af<|ai<|s1 (aa rfl) rfl<|s1 (a7 Tryz.underlying41 rfl rfl rfl) rfl ?_
  refine aj rfl (aF false rfl (.cons (.pure pu) (.nil)) (xc L.length (by omega) (by omega)) pu (.inl rfl) rfl ?_)
  refine s1 (aa rfl) rfl ?_
  refine ah<|ae<|af<|af<|ai<|s1 (aa rfl) rfl<|s1 (aa rfl) rfl<|s1 (aa rfl) rfl ?_
  refine ah<|ae ?_
  refine aK rfl (fun hc14=>?_) (fun hc14=>?_)
  ·have h14 : i < (aY L.length) := by have := of_decide_eq_true hc14; omega
   have hh:=fT (n:=L.length) (by omega)
   have hpl:=tH L.length (L.take (aY L.length)) i (by rw [List.length_take];omega)
   refine af ?_
   refine cr ⟨_, [], []⟩ 11 4 br (le_refl rfl) ?_
   refine aq 0 [] [] (aa rfl) rfl rfl ?_
   refine aq 1 [] [] (aa rfl) rfl rfl ?_
   refine aq 2 [0,1] [] ((lT (aY L.length) Tryz.underlying41 ar rfl (by rw [List.length_map,hD.len]) bn (bs rfl rfl) (by omega) (by omega) rfl rfl).v (v':=a6 (L.take (aY L.length))) (wh hD (by omega))) rfl rfl ?_
   refine aq 3 [] [] (aa rfl) rfl rfl ?_
   refine na 19 false 4 [2,3] [] aV rfl (.cons (.pure pu) (.cons (.pure pu) (.nil))) (ih (L.take (aY L.length)) i (by rw [List.length_take];omega) (hD.take _) (by rw [List.length_take];omega)) ak (.inl rfl) rfl rfl ?_
   refine aq 5 [] [] (aa rfl) rfl rfl ?_
   refine aq 6 [] [] (aa rfl) rfl rfl ?_
   refine aq 7 [5,6] [] ((lT (L.length - (aY L.length)) Tryz.underlying41 ar rfl (by rw [List.length_map,hD.len]) (bs rfl rfl) bn (by omega) (by omega) rfl rfl).v (v':=a6 (L.drop (aY L.length))) (wg hD rfl)) rfl rfl ?_
   refine bL false 8 [7] [] aV rfl (.cons (.pure pu) (.nil)) (pP _ (L.drop (aY L.length)) (Nat.le_refl _) (hD.drop _) (by rw [List.length_drop];omega)) pu (.inl rfl) rfl rfl ?_
   refine kE 24 9 [8] aV Tryz.underlying41 ar rfl rfl rfl (by first|(simp [aU];done)|(simp [aU, *];done)) (List.append_nil ((tree (L.drop (aY L.length))).map u8)) rfl rfl rfl rfl ?_
   refine gV 25 10 [4,9] [(19,some 4),(24,some 9)] aV Tryz.underlying41 ar rfl (.sl rfl (by rw [List.length_map,(nW _ (L.take (aY L.length)) i (Nat.le_refl _)).len])) rfl (c8 rfl (by first|rfl|omega|(simp<;>omega)|(simp [*]<;>omega)|(simp [aT.len, -List.length_flatten, *]<;>omega))) (by simp [js]) (by simp only [maxLen];omega) (by omega) rfl rfl rfl rfl ?_
   refine ct (by kernel_rfl) ?_
   refine s1 (aa rfl) rfl ?_
   refine ah<|ae<|aB<|aN ?_
   refine aC (rs:= [.tmp 4]) rfl (aA rfl az) ⟨25,?_,?_⟩
   ·rw [pb (by omega) h14,List.length_append];rfl
   ·rw [pb (by omega) h14]
    exact congrArg some (by simp)
  ·have h14 : ¬ i < (aY L.length) := by have := of_decide_eq_false hc14; omega
   have hh:=fT (n:=L.length) (by omega)
   have hpl:=tH L.length (L.drop (aY L.length)) (i - (aY L.length)) (by rw [List.length_drop];omega)
   refine aE<|ae<|af ?_
   refine cr ⟨_, [], []⟩ 13 4 br (le_refl rfl) ?_
   refine aq 0 [] [] (aa rfl) rfl rfl ?_
   refine aq 1 [] [] (aa rfl) rfl rfl ?_
   refine aq 2 [0,1] [] ((lT (L.length - (aY L.length)) Tryz.underlying41 ar rfl (by rw [List.length_map,hD.len]) (bs rfl rfl) bn (by omega) (by omega) rfl rfl).v (v':=a6 (L.drop (aY L.length))) (wg hD rfl)) rfl rfl ?_
   refine aq 3 [] [] (aa rfl) rfl rfl ?_
   refine aq 4 [] [] (aa rfl) rfl rfl ?_
   refine aq 5 [3,4] [] (eD i (aY L.length) rfl rfl rfl rfl (by omega) (by omega)) rfl rfl ?_
   refine na 32 false 6 [2,5] [] aV rfl (.cons (.pure pu) (.cons (.pure pu) (.nil))) (ih (L.drop (aY L.length)) (i - (aY L.length)) (by rw [List.length_drop];omega) (hD.drop _) (by rw [List.length_drop];omega)) ak (.inl rfl) rfl rfl ?_
   refine aq 7 [] [] (aa rfl) rfl rfl ?_
   refine aq 8 [] [] (aa rfl) rfl rfl ?_
   refine aq 9 [7,8] [] ((lT (aY L.length) Tryz.underlying41 ar rfl (by rw [List.length_map,hD.len]) bn (bs rfl rfl) (by omega) (by omega) rfl rfl).v (v':=a6 (L.take (aY L.length))) (wh hD (by omega))) rfl rfl ?_
   refine bL false 10 [9] [] aV rfl (.cons (.pure pu) (.nil)) (pP _ (L.take (aY L.length)) (Nat.le_refl _) (hD.take _) (by rw [List.length_take];omega)) pu (.inl rfl) rfl rfl ?_
   refine kE 37 11 [10] aV Tryz.underlying41 ar rfl rfl rfl (by first|(simp [aU];done)|(simp [aU, *];done)) (List.append_nil ((tree (L.take (aY L.length))).map u8)) rfl rfl rfl rfl ?_
   refine gV 38 12 [6,11] [(32,some 6),(37,some 11)] aV Tryz.underlying41 ar rfl (.sl rfl (by rw [List.length_map,(nW _ (L.drop (aY L.length)) (i - (aY L.length)) (Nat.le_refl _)).len])) rfl (c8 rfl (by first|rfl|omega|(simp<;>omega)|(simp [*]<;>omega)|(simp [aT.len, -List.length_flatten, *]<;>omega))) (by simp [js]) (by simp only [maxLen];omega) (by omega) rfl rfl rfl rfl ?_
   refine ct (by kernel_rfl) ?_
   refine s1 (aa rfl) rfl ?_
   refine ah<|ae<|aB ?_
   refine aC (rs:= [.tmp 4]) rfl (aA rfl az) ⟨38,?_,?_⟩
   ·rw [pc (by omega) h14,List.length_append];rfl
   ·rw [pc (by omega) h14]
    exact congrArg some (by simp)
theorem EG:∀(n:Nat) (L:List (List UInt8)) (i:Nat),L.length≤n→aT L→i<L.length→L.length≤1048576→aw Tryz.prog 149 [a6 L,.i .i64 (i:Nat)] (cU 32 (path L i).length ((path L i).flatten.map u8))
  |0,L,i,h,hD,hi,hl=>absurd hi (by omega)
  |n+1,L,i,h,hD,hi,hl=>Nt L i hD hi hl (fun M i hM hM2 hi=>EG n M i (by omega) hM2 hi (by omega))
end Go.Abs.D2
-- D2T3
namespace Go.Abs.D2
open Go Go.Eng Go.Abs Go.Proofs
theorem Dn (L:List (List UInt8)) (a:Int) (hD:aT L) (hl:L.length≤1048576):aw Tryz.prog 98 [a6 L,.i .i64 a] (aO (nC L a)):=by
 refine enter Tryz.func98 rfl Tryz.ntmps98 (by kernel_rfl) (Nat.le_of_ble_eq_true rfl) fun w0 X0 hI=>?_
 refine af<|ai<|s1 (aa rfl) rfl<|s1 ((aa rfl).v (v':= .i .i64 0) rfl) rfl ?_
 refine ah<|ae<|af<|af<|ai<|s1 (aa rfl) rfl<|s1 (aa rfl) rfl<|s1 (aa rfl) rfl ?_
 refine kF 4 rfl rfl rfl rfl (fun hb8=> .step (aa rfl) rfl rfl<| .step (aa rfl) rfl rfl<| .step (a7 Tryz.underlying41 rfl rfl rfl) rfl rfl<| .step (aa rfl) rfl rfl<| .done) rfl rfl ?_
 refine ah<|ae ?_
 refine aK rfl (fun hc13=>?_) (fun hc13=>?_)
 ·have h13 : ¬ (0 ≤ a ∧ a < L.length) := by simp at hc13; omega
  refine af<|ai<|s1 (aa rfl) rfl<|s1 ((aa rfl).v (v':= .i .i64 1) rfl) rfl ?_
  refine ah<|ae<|aB<|aN ?_
  refine aC (rs:= [.tmp 4,.tmp 5]) rfl (aA rfl (aA rfl az)) ?_
  rw [nC,if_neg h13]
  rfl
 ·have h13 : 0 ≤ a ∧ a < L.length := by simp at hc13; omega
  obtain⟨i,rfl⟩:∃i:Nat,a=(i:Int):=⟨a.toNat,by omega⟩
  refine aE<|ae<|af<|ai<|s1 (aa rfl) rfl<|s1 (aa rfl) rfl ?_
  refine aj rfl (gD 16 rfl false rfl (.cons (.pure pu) (.cons (.pure pu) (.nil))) (EG _ L i (Nat.le_refl _) hD (by omega) hl) ak (.inl rfl) rfl ?_)
  refine s1 (aa rfl) rfl<|s1 ((aa rfl).v (v':= .i .i64 0) rfl) rfl ?_
  refine ah<|ae<|aB ?_
  refine fQ 4 rfl rfl ak (cm (by rw [List.length_map,(nW _ L i (Nat.le_refl _)).len]) rfl) ?_
  refine aC (rs:= [.tmp 4,.tmp 5]) rfl (aA rfl (aA rfl az)) ?_
  rw [nC,if_pos h13,Int.toNat_natCast]
  rfl
end Go.Abs.D2
-- D2T5
namespace Go.Abs.D2
open Go Go.Eng Go.Abs Go.Proofs
end Go.Abs.D2
-- D2T4
namespace Go.Abs.D2
open Go Go.Eng Go.Abs Go.Proofs
theorem GU (d:List UInt8) (hd:d.length=32) (a nn:Int) (P:List (List UInt8)) (hD:aT P):aw Tryz.prog 132 [.ag (d.map u8),.i .i64 a,.i .i64 nn,a6 P] (aO (oy d a nn P)):=by
 refine enter Tryz.func132 rfl Tryz.ntmps132 (by kernel_rfl) (Nat.le_of_ble_eq_true rfl) fun w0 X0 hI=>?_
 refine af<|ai ?_
 refine aj rfl (bF 4 rfl rfl rfl ?_)
 refine aj rfl (bg 8 rfl ar rfl rfl ?_)
 refine s1 ((aa rfl).v (v':= .i .i64 0) rfl) rfl ?_
 refine ah<|ae<|af<|af<|ai<|s1 (aa rfl) rfl<|s1 (aa rfl) rfl<|s1 (aa rfl) rfl ?_
 refine kF 2 rfl rfl rfl rfl (fun hb16=> .step (aa rfl) rfl rfl<| .step (aa rfl) rfl rfl<| .done) rfl rfl ?_
 refine s1 (aa rfl) rfl ?_
 refine kF 2 rfl rfl rfl rfl (fun hb20=> .step (aa rfl) rfl rfl<| .step (aa rfl) rfl rfl<| .done) rfl rfl ?_
 refine s1 (aa rfl) rfl ?_
 refine kF 3 rfl rfl rfl rfl (fun hb24=> .step (aa rfl) rfl rfl<| .step (aa rfl) rfl rfl<| .step (aa rfl) rfl rfl<| .done) rfl rfl ?_
 refine ah<|ae ?_
 refine aK rfl (fun hc28=>?_) (fun hc28=>?_)
 ·have hbad : ¬ fits a nn P.length := by intro h; unfold fits at h; simp at hc28; omega
  refine af<|ai<|s1 (aG ar rfl rfl (by simp)) rfl ?_
  refine aj rfl (ba ar rfl rfl rfl (by simp) (by simp) ?_)
  refine s1 ((aa rfl).v (v':= .i .i64 1) rfl) rfl ?_
  refine ah<|ae<|aB<|aN ?_
  refine aC (rs:= [.cell 8 23,.tmp 9]) rfl (cw ar rfl rfl (List.take_of_length_le (by simp)) (by simp) (aA rfl az)) ?_
  rw [oy,if_neg hbad]
  rfl
 ·have h28 : 1 ≤ nn ∧ nn ≤ 1099511627776 ∧ 0 ≤ a ∧ a < nn := by simp at hc28; omega
  obtain⟨i,rfl⟩:∃i:Nat,a=(i:Int):=⟨a.toNat,by omega⟩
  obtain⟨n,rfl⟩:∃n:Nat,nn=(n:Int):=⟨nn.toNat,by omega⟩
  have hn1:1≤n:=by omega
  have hn:n≤1099511627776:=by omega
  have hi:i<n:=by omega
  refine aE<|ae<|af<|ai<|s1 (aa rfl) rfl ?_
  refine ah<|ae<|af<|aI ?_
  refine bD (ι:=List Bool×Nat×Nat) (fun⟨ds,i2,n2⟩=> [(1,.i .i64 (i2:Nat)),(2,.i .i64 (n2:Nat)),(3,a6 P),(4,.p 4 0),(8,.p 8 0),(10,.sl 10 1 0 ds.length)]) (fun⟨ds,i2,n2⟩=>⟨[(4,some (d.map u8)),(8,some (List.replicate 32 (u8 0))),(10,some (ds.map A.b))]⟩) (fun⟨ds,i2,n2⟩=>dC i n=ds++dC i2 n2∧1≤n2∧i2<n2∧n2≤n∧ds.length+(dC i2 n2).length≤n) (fun⟨ds,i2,n2⟩=>n2) ?_ ?_
  ·exact bC (([],i,n)) (⟨rfl,hn1,hi,Nat.le_refl _,by have:=ux _ i n (Nat.le_refl _);simpa using this⟩) [(4,some 4),(8,some 8),(10,none)] hI rfl rfl ⟨⟨_,rfl,.pure pu⟩,⟨_,rfl,.pure pu⟩,⟨_,rfl,.pure pu⟩,⟨_,rfl,.p rfl⟩,⟨_,rfl,.p rfl⟩,⟨_,rfl,.nl rfl⟩,trivial⟩ ⟨.inr ⟨_,_,rfl,rfl,.pure ak⟩,.inr ⟨_,_,rfl,rfl,.pure ak⟩,.inl ⟨rfl,rfl⟩,trivial⟩
  rintro⟨ds,i2,n2⟩ ⟨hr,h1,hi2,hn2,hlen⟩
  dsimp only
  refine af<|af<|ai<|s1 (aa rfl) rfl<|s1 (aa rfl) rfl ?_
  refine ah<|ae ?_
  refine aK rfl (fun hc31=>?_) (fun hc31=>?_)
  ·have h31 : 2 ≤ n2 := by have := of_decide_eq_true hc31; omega
   have hh:=fT h31
   refine aE<|ae<|aI<|af<|ai<|s1 (aa rfl) rfl ?_
   refine aj rfl (aF false rfl (.cons (.pure pu) (.nil)) (xc n2 (by omega) (by omega)) pu (.inl rfl) rfl ?_)
   refine s1 (aa rfl) rfl ?_
   refine ah<|ae<|af<|ai<|s1 (aa rfl) rfl<|s1 (aa rfl) rfl<|s1 (aa rfl) rfl<|s1 (aa rfl) rfl ?_
   refine aj rfl (ey 38 rfl Tryz.underlying205 uM rfl rfl rfl rfl rfl ?_)
   refine aj rfl (dB 39 rfl Tryz.underlying205 uM rfl (.sl rfl (by simp)) rfl (c8 rfl (by first|rfl|omega|(simp<;>omega)|(simp [*]<;>omega)|(simp [aT.len, -List.length_flatten, *]<;>omega))) (by first|rfl|omega|(simp<;>omega)|(simp [*]<;>omega)|(simp [aT.len, -List.length_flatten, *]<;>omega)) (by simp only [maxLen];omega) (by omega) rfl rfl rfl ?_)
   refine s1 (aa rfl) rfl ?_
   refine ah<|ae<|af<|ai<|s1 (aa rfl) rfl<|s1 (aa rfl) rfl<|s1 (aa rfl) rfl ?_
   refine ah<|ae ?_
   refine aK rfl (fun hc42=>?_) (fun hc42=>?_)
   ·have h42 : (i2 : Int) ≥ (aY n2) := of_decide_eq_true hc42
    have h42n:¬i2<(aY n2):=by omega
    refine ai<|s1 (aa rfl) rfl<|s1 (aa rfl) rfl<|s1 (eD i2 (aY n2) rfl rfl rfl rfl (by omega) (by omega)) rfl<|s1 (aa rfl) rfl<|s1 (aa rfl) rfl<|s1 (eD n2 (aY n2) rfl rfl rfl rfl (by omega) (by omega)) rfl<|s1 (aa rfl) rfl<|s1 (aa rfl) rfl ?_
    refine ah<|a8 ?_
    exact bf (x:=(ds,i2,n2)) ((ds++ [true],i2 - (aY n2),n2 - (aY n2))) (⟨by rw [hr,rf (by omega) h42n];simp,by dsimp only;omega,by dsimp only;omega,by dsimp only;omega,by rw [rf (by omega) h42n,List.length_cons]at hlen;dsimp only;rw [List.length_append];simp;omega⟩) (by dsimp only;omega) [(4,some 4),(8,some 8),(10,some 39)] hI rfl rfl ⟨⟨_,rfl,.pure pu⟩,⟨_,rfl,.pure pu⟩,⟨_,rfl,.pure pu⟩,⟨_,rfl,.p rfl⟩,⟨_,rfl,.p rfl⟩,⟨_,rfl,.sl rfl (by first|rfl|omega|(simp<;>omega)|(simp [*]<;>omega)|(simp [aT.len, -List.length_flatten, *]<;>omega))⟩,trivial⟩ ⟨.inr ⟨_,_,rfl,rfl,.pure ak⟩,.inr ⟨_,_,rfl,rfl,.pure ak⟩,.inr ⟨_,_,rfl,rfl,.of (by simp [h42]) (.pure ak)⟩,trivial⟩
   ·have h42 : ¬ (i2 : Int) ≥ (aY n2) := of_decide_eq_false hc42
    have h42n:i2<(aY n2):=by omega
    refine ai<|s1 (aa rfl) rfl<|s1 (aa rfl) rfl ?_
    refine ah<|a8 ?_
    exact bf (x:=(ds,i2,n2)) ((ds++ [false],i2,(aY n2))) (⟨by rw [hr,q9 (by omega) h42n];simp,by dsimp only;omega,by dsimp only;omega,by dsimp only;omega,by rw [q9 (by omega) h42n,List.length_cons]at hlen;dsimp only;rw [List.length_append];simp;omega⟩) (by dsimp only;omega) [(4,some 4),(8,some 8),(10,some 39)] hI rfl rfl ⟨⟨_,rfl,.pure pu⟩,⟨_,rfl,.pure pu⟩,⟨_,rfl,.pure pu⟩,⟨_,rfl,.p rfl⟩,⟨_,rfl,.p rfl⟩,⟨_,rfl,.sl rfl (by first|rfl|omega|(simp<;>omega)|(simp [*]<;>omega)|(simp [aT.len, -List.length_flatten, *]<;>omega))⟩,trivial⟩ ⟨.inr ⟨_,_,rfl,rfl,.pure ak⟩,.inr ⟨_,_,rfl,rfl,.pure ak⟩,.inr ⟨_,_,rfl,rfl,.of (by simp [h42]) (.pure ak)⟩,trivial⟩
  ·have h31 : n2 = 1 := by have := of_decide_eq_false hc31; omega
   subst h31
   rw [px (Nat.le_refl _),List.append_nil]at hr
   subst hr
   refine bx<|aM<|aM<|bA<|ae<|af<|af<|ai<|s1 (aa rfl) rfl<|s1 (a7 Tryz.underlying41 rfl rfl rfl) rfl<|s1 (aa rfl) rfl<|s1 (a7 Tryz.underlying205 rfl rfl rfl) rfl<|s1 (aa rfl) rfl ?_
   refine ah<|ae ?_
   refine aK rfl (fun hc54=>?_) (fun hc54=>?_)
   ·have hbad : ¬ fits (i : Int) (n : Int) P.length := by
     intro h
     unfold fits at h
     have h5:=h.2.2.2.2
     rw [Int.toNat_natCast,Int.toNat_natCast]at h5
     have:=bne_iff_ne.1 hc54
     omega
    refine af<|ai<|s1 (aG ar rfl rfl (by simp)) rfl ?_
    refine aj rfl (ba ar rfl rfl rfl (by simp) (by simp) ?_)
    refine s1 ((aa rfl).v (v':= .i .i64 1) rfl) rfl ?_
    refine ah<|ae<|aB<|aN ?_
    refine aC (rs:= [.cell 8 23,.tmp 9]) rfl (cw ar rfl rfl (List.take_of_length_le (by simp)) (by simp) (aA rfl az)) ?_
    rw [oy,if_neg hbad]
    rfl
   ·have hP : P.length = (dC i n).length := by have := bne_eq_false_iff_eq.1 hc54; omega
    have hfit:fits (i:Int) (n:Int) P.length:=⟨by omega,by omega,by omega,by omega,by rw [Int.toNat_natCast,Int.toNat_natCast];exact hP⟩
    refine aE<|ae<|af<|ai<|s1 (gN Tryz.underlying23 aR rfl rfl (by simp [hd]) (by simp [maxLen])) rfl ?_
    refine aj rfl (aF true rfl (.cons (.pure pu) (.cons (.sl rfl rfl (by first|rfl|omega|(simp<;>omega)|(simp [*]<;>omega)|(simp [aT.len, -List.length_flatten, *]<;>omega)) (cm (by first|rfl|omega|(simp<;>omega)|(simp [*]<;>omega)|(simp [aT.len, -List.length_flatten, *]<;>omega)) (by first|rfl|(simp;done)|(simp [*];done))) (aW.pure ak) ak) (.nil))) (by have h:=ib [108,101,97,102] d (by omega) (by simp);rw [hd]at h;exact h) pu (.inr fu) rfl ?_)
    refine aj rfl (ba ar rfl rfl rfl (by simp) (by simp) ?_)
    refine ah<|ae<|af<|af<|ai<|s1 (aa rfl) rfl<|s1 (a7 Tryz.underlying41 rfl rfl rfl) rfl<|s1 ((aa rfl).v (v':= .i .i64 0) rfl) rfl ?_
    refine ah<|ae<|aI ?_
    refine bD (ι:=Nat) (fun j=> [(8,.p 8 0),(10,.sl 10 1 0 (dC i n).length),(58,a6 P),(59,.i .i64 (P.length:Nat)),(60,.i .i64 (j:Nat))]) (fun j=>⟨[(8,some ((fold ((dC i n).reverse.take j) (P.take j) (oR d)).map u8)),(10,some ((dC i n).map A.b))]⟩) (fun j=>j≤P.length) (fun j=>P.length - j) ?_ ?_
    ·exact bC (0) (Nat.zero_le _) [(8,some 8),(10,some 10)] hI rfl rfl ⟨⟨_,rfl,.p rfl⟩,⟨_,rfl,.sl rfl (by first|rfl|omega|(simp<;>omega)|(simp [*]<;>omega)|(simp [aT.len, -List.length_flatten, *]<;>omega))⟩,⟨_,rfl,.pure pu⟩,⟨_,rfl,.pure pu⟩,⟨_,rfl,.pure pu⟩,trivial⟩ ⟨.inr ⟨_,_,rfl,rfl,.of (by rw [List.take_zero];rfl) (.pure ak)⟩,.inr ⟨_,_,rfl,rfl,.pure ak⟩,trivial⟩
    rintro j hj
    have hlf:(fold ((dC i n).reverse.take j) (P.take j) (oR d)).length=32:=xo _ _ _ (mo _ _)
    have hrl:=ux _ i n (Nat.le_refl _)
    refine af<|ai<|s1 (aa rfl) rfl ?_
    refine ah<|ae<|af ?_
    refine aK rfl (fun hc61=>?_) (fun hc61=>?_)
    ·have hj2 : j < P.length := by have := of_decide_eq_true hc61; omega
     obtain⟨q,hq⟩:∃q,P[j]? =some q:=⟨_,List.getElem?_eq_getElem hj2⟩
     have hq32:q.length=32:=hD q (List.mem_of_getElem? hq)
     obtain⟨b,hb⟩:∃b,(dC i n).reverse[j]? =some b:=⟨_,List.getElem?_eq_getElem (by simp;omega)⟩
     have hb2:(dC i n)[(dC i n).length - 1 - j]? =some b:=by rw [List.getElem?_reverse (by omega)]at hb;exact hb
     refine aE<|ae<|af<|aI<|af<|ai<|s1 (aa rfl) rfl<|s1 (bb j Tryz.underlying41 ar rfl rfl rfl (by omega) rfl) rfl<|s1 (bp ar rfl rfl (gA hD hq) (by simp [hq32])) rfl ?_
     refine aj rfl (bg 13 rfl ar rfl rfl ?_)
     refine s1 (aa rfl) rfl ?_
     refine aj rfl (ba ar rfl rfl rfl (by simp [hq32]) (by simp) ?_)
     refine ah<|ae<|af<|ai<|s1 (aa rfl) rfl<|s1 (aa rfl) rfl<|s1 (a7 Tryz.underlying205 rfl rfl rfl) rfl<|s1 (eD (dC i n).length 1 rfl rfl rfl rfl (by omega) (by omega)) rfl<|s1 (aa rfl) rfl<|s1 (eD ((dC i n).length - 1) j rfl rfl rfl rfl (by omega) (by omega)) rfl<|s1 (kZ ((dC i n).length - 1 - j) Tryz.underlying205 uM rfl rfl rfl rfl (by omega) rfl) rfl<|s1 (au uM rfl rfl (IT hb2)) rfl ?_
     refine ah<|ae ?_
     refine aK rfl (fun hc72=>?_) (fun hc72=>?_)
     ·skip
      refine ai<|s1 (aG ar rfl rfl (by simp [hq32])) rfl<|s1 (aG ar rfl rfl (by simp [hlf])) rfl ?_
      refine aj rfl (aF false rfl (.cons (.pure pu) (.cons (.pure pu) (.nil))) (xD (fun t b h1 h2=>ib t b (by omega) (by omega)) q _ hq32 hlf) pu (.inl rfl) rfl ?_)
      refine aj rfl (ba ar rfl rfl rfl (by simp) (by simp [hlf]) ?_)
      refine ah<|a8<|ae<|ai<|s1 (aZ _ 1 rfl rfl rfl rfl (by omega)) rfl<|s1 (aa rfl) rfl ?_
      refine ah ?_
      exact bf (j+1) (by omega) (by omega) [(8,some 8),(10,some 10)] hI rfl rfl ⟨⟨_,rfl,.p rfl⟩,⟨_,rfl,.sl rfl (by first|rfl|omega|(simp<;>omega)|(simp [*]<;>omega)|(simp [aT.len, -List.length_flatten, *]<;>omega))⟩,⟨_,rfl,.pure pu⟩,⟨_,rfl,.pure pu⟩,⟨_,rfl,.pure pu⟩,trivial⟩ ⟨.inr ⟨_,_,rfl,rfl,.of (by rw [By hb hq,if_pos hc72];rfl) (.pure ak)⟩,.inr ⟨_,_,rfl,rfl,.pure ak⟩,trivial⟩
     ·skip
      refine ai<|s1 (aG ar rfl rfl (by simp [hlf])) rfl<|s1 (aG ar rfl rfl (by simp [hq32])) rfl ?_
      refine aj rfl (aF false rfl (.cons (.pure pu) (.cons (.pure pu) (.nil))) (xD (fun t b h1 h2=>ib t b (by omega) (by omega)) _ q hlf hq32) pu (.inl rfl) rfl ?_)
      refine aj rfl (ba ar rfl rfl rfl (by simp) (by simp [hlf]) ?_)
      refine ah<|a8<|ae<|ai<|s1 (aZ _ 1 rfl rfl rfl rfl (by omega)) rfl<|s1 (aa rfl) rfl ?_
      refine ah ?_
      exact bf (j+1) (by omega) (by omega) [(8,some 8),(10,some 10)] hI rfl rfl ⟨⟨_,rfl,.p rfl⟩,⟨_,rfl,.sl rfl (by first|rfl|omega|(simp<;>omega)|(simp [*]<;>omega)|(simp [aT.len, -List.length_flatten, *]<;>omega))⟩,⟨_,rfl,.pure pu⟩,⟨_,rfl,.pure pu⟩,⟨_,rfl,.pure pu⟩,trivial⟩ ⟨.inr ⟨_,_,rfl,rfl,.of (by rw [By hb hq,if_neg (by rw [hc72];decide)];rfl) (.pure ak)⟩,.inr ⟨_,_,rfl,rfl,.pure ak⟩,trivial⟩
    ·have hj2 : j = P.length := by have := of_decide_eq_false hc61; omega
     subst hj2
     have hct:fold ((dC i n).reverse.take P.length) (P.take P.length) (oR d)=iq d i n P:=by rw [List.take_length,List.take_of_length_le (by simp;omega)];rfl
     refine bx<|aM<|aM<|bA<|ae<|af ?_
     refine cI 8 rfl (cs':=(iq d i n P).map u8) (by rw [hct]) ?_
     refine ai<|s1 (aG ar rfl rfl (by simp)) rfl ?_
     refine aj rfl (ba ar rfl rfl rfl (by simp) (by simp) ?_)
     refine s1 ((aa rfl).v (v':= .i .i64 0) rfl) rfl ?_
     refine ah<|ae<|aB ?_
     refine aC (rs:= [.cell 8 23,.tmp 9]) rfl (cw ar rfl rfl (List.take_of_length_le (by simp)) (by simp) (aA rfl az)) ?_
     rw [oy,if_pos hfit,Int.toNat_natCast,Int.toNat_natCast]
     rfl
end Go.Abs.D2
-- K6B
namespace Go.Abs.D2
open Go Go.Eng Go.Abs Go.Proofs
theorem Nl (x:List UInt8) (a:Int) (hx:x.length=32):aw Tryz.prog 50 [.s [108,101,97,102],.fz 36 ((x++eC a 4).map u8)] (aO (.ag ((b7 x a).map u8))):=by
  have e2:(x++eC a 4).length=36:=by simp [hx]
  rw [D8, ←e2];exact ib _ _ (by omega) (by simp)
theorem pF (x:List UInt8) (a:Int) (hx:x.length=32):aw Tryz.prog 89 [.ag (x.map u8),.i .i64 a] (aO (.ag ((b7 x a).map u8))):=by
 refine enter Tryz.func89 rfl Tryz.ntmps89 (by kernel_rfl) (Nat.le_of_ble_eq_true rfl) fun w0 X0 hI=>?_
 refine af<|ai ?_
 refine aj rfl (bF 2 rfl rfl rfl ?_)
 refine aj rfl (bg 4 rfl ar rfl rfl ?_)
 refine ah<|ae<|af<|ai ?_
 refine aj rfl (bg 5 rfl Nq rfl rfl ?_)
 refine ah<|ae<|af ?_
 refine dc 2 br (by kernel_rfl) ?_
 refine t1 (gN Tryz.underlying175 aR rfl rfl (by simp) (by simp [maxLen])) rfl<|t1 (gN Tryz.underlying23 aR rfl rfl (by simp [hx]) (by simp [maxLen])) rfl ?_
 refine de ?_
 refine aj rfl (Ki Tryz.underlying68 aR rfl rfl rfl (c8 rfl (by simp [hx])) (by first|rfl|omega|(simp<;>omega)|(simp [*]<;>omega)) (by first|omega|(simp only [maxLen];omega)|(simp [maxLen];done)|(simp [maxLen];omega)|(simp [maxLen, *];omega)) (by first|omega|(simp only [maxLen];omega)|(simp [maxLen];done)|(simp [maxLen];omega)|(simp [maxLen, *];omega)) (by first|omega|(simp only [maxLen];omega)|(simp [maxLen];done)|(simp [maxLen];omega)|(simp [maxLen, *];omega)) (G6 (a:=a)) rfl ?_)
 refine ah<|ae<|af<|af<|ai<|s1 ((aa rfl).v (v':= .i .i64 0) rfl) rfl ?_
 refine ah<|ae<|aI ?_
 refine bD (ι:=Nat) (fun i=> [(1,.i .i64 a),(4,.p 4 0),(5,.p 5 0),(10,.i .i64 (i:Nat))]) (fun i=>⟨[(4,some (zD.map u8)),(5,some ((x++eC a i++List.replicate (4 - i) 0).map u8))]⟩) (fun i=>i≤4) (fun i=>4 - i) ?_ ?_
 ·exact bC (0) (Nat.zero_le _) [(4,some 4),(5,some 5)] hI rfl rfl ⟨⟨_,rfl,.pure pu⟩,⟨_,rfl,.p rfl⟩,⟨_,rfl,.p rfl⟩,⟨_,rfl,.pure pu⟩,trivial⟩ ⟨.inr ⟨_,_,rfl,rfl,.pure ak⟩,.inr ⟨_,_,rfl,rfl,.pure ak⟩,trivial⟩
 rintro i hi
 refine af<|ai<|s1 (aa rfl) rfl ?_
 refine ah<|ae<|af ?_
 refine aK rfl (fun hc11=>?_) (fun hc11=>?_)
 ·have h11 : i < 4 := by have := of_decide_eq_true hc11; omega
  refine aE<|ae<|af<|aI<|af<|ai<|s1 (aa rfl) rfl<|s1 (aa rfl) rfl ?_
  refine ah<|ae<|ai<|s1 (aa rfl) rfl<|s1 (aZ 32 i rfl rfl rfl rfl (by omega)) rfl<|s1 (aa rfl) rfl<|s1 (aa rfl) rfl<|s1 (jY 8 i rfl rfl rfl rfl (by omega)) rfl<|s1 (eD 24 (8*i) rfl rfl rfl rfl (by omega) (by omega)) rfl<|s1 (k5 rfl rfl (by omega)) rfl<|s1 ((cK Tryz.underlying3 Tryz.underlying5 rfl).v (uC a i h11)) rfl<|s1 (cu (32+i) Tryz.underlying175 aR rfl rfl rfl (by omega) rfl) rfl ?_
  refine aj rfl (bX aR rfl rfl rfl rfl (by simp [hx];omega) (MJ hx a i h11) ?_)
  refine ah<|a8<|ae<|ai<|s1 (aZ _ 1 rfl rfl rfl rfl (by omega)) rfl<|s1 (aa rfl) rfl ?_
  refine ah ?_
  exact bf (i+1) (by omega) (by omega) [(4,some 4),(5,some 5)] hI rfl rfl ⟨⟨_,rfl,.pure pu⟩,⟨_,rfl,.p rfl⟩,⟨_,rfl,.p rfl⟩,⟨_,rfl,.pure pu⟩,trivial⟩ ⟨.inr ⟨_,_,rfl,rfl,.pure ak⟩,.inr ⟨_,_,rfl,rfl,.of (by rfl) (.pure ak)⟩,trivial⟩
 ·have h11 : i = 4 := by have := of_decide_eq_false hc11; omega
  subst h11
  refine bx<|aM<|aM<|bA<|ae<|af<|ai<|s1 (gN Tryz.underlying175 aR rfl rfl (by simp [hx]) (by simp [maxLen])) rfl ?_
  refine aj rfl (aF true rfl (.cons (.pure pu) (.cons (.sl rfl rfl rfl (cm (by simp [hx]) (by simp)) (aW.pure ak) ak) .nil)) (Nl x a hx) pu (.inr fu) rfl ?_)
  refine aj rfl (ba ar rfl rfl rfl (by first|rfl|omega|(simp<;>omega)|(simp [*]<;>omega)) (by first|rfl|omega|(simp<;>omega)|(simp [*]<;>omega)) ?_)
  refine ah<|ae<|aB ?_
  refine aC (rs:= [.cell 4 23]) rfl (cw ar rfl rfl (List.take_of_length_le (by simp)) (by simp) az) rfl
theorem Ls (x:List UInt8) (n:Nat):aw Tryz.prog 94 [.ag (x.map u8),nI n] (aO (.fn (.func 144) [] [.fp [nI n],.fp (x.map u8)])):=by
 refine enter Tryz.func94 rfl Tryz.ntmps94 (by kernel_rfl) (Nat.le_of_ble_eq_true rfl) fun w0 X0 hI=>?_
 refine af<|ai ?_
 refine aj rfl (bF 2 rfl rfl rfl ?_)
 refine aj rfl (kI 3 rfl rfl rfl rfl ?_)
 refine s1 (aa rfl) rfl ?_
 refine ah<|ae<|af ?_
 refine fe 2 rfl rfl ak ?_
 refine fe 3 rfl rfl ak ?_
 refine ai<|s1 (gu (us:= []) (vs:= [.fp [nI n],.fp (x.map u8)]) rfl rfl) rfl<|s1 (aa rfl) rfl ?_
 refine ah<|ae<|aB ?_
 refine aC (rs:= [.tmp 4]) rfl (aA rfl az) rfl
theorem FK (x:List UInt8) (n:Nat) (hx:x.length=32) (hn:n≤256):aw Tryz.prog 143 [.nl,.fn (.func 144) [] [.fp [nI n],.fp (x.map u8)]] (cU 32 n ((dq x n).flatten.map u8)):=by
 refine oC Tryz.func143 rfl Tryz.ntmps143 (by kernel_rfl) (Nat.le_of_ble_eq_true rfl) fun w0 X0 hI hS=>?_
 refine af<|ai ?_
 refine aj rfl (kI 2 rfl rfl rfl rfl ?_)
 refine s1 (aa rfl) rfl ?_
 refine ah<|ae<|af<|af<|ai<|s1 (aa rfl) rfl ?_
 refine ah<|ae<|aI ?_
 refine vF [2] [(0,_),(1,_),(2,_),(4,_),(6,_)] hI rfl ⟨rfl,⟨rfl,⟨rfl,⟨rfl,⟨rfl,trivial⟩⟩⟩⟩⟩ (by first|rfl|(simp [jy,jE,refs,en,mA,mB,cn];done)) rfl Tryz.func144 rfl Tryz.ntmps144 (by kernel_rfl) (Nat.le_of_ble_eq_true rfl) fun w1 l1 D1 rc1 hR1=>?_
 refine af<|ai<|s1 (au an rfl rfl rfl) rfl<|s1 ((aa rfl).v (v':= .i .i64 0) rfl) rfl ?_
 refine ah<|ae<|aI ?_
 refine bD (ι:=Nat) (fun i=> [(0,yv l1),(1,.fp [nI n]),(2,.fp (x.map u8)),(5,nI n),(6,nI i)]) (fun i=>⟨[(2,some ([.sl 11 32 0 i])),(11,some ((dq x i).flatten.map u8))]⟩) (fun i=>i≤n) (fun i=>n - i) ?_ ?_
 ·exact bC (0) (Nat.zero_le _) [(2,some 2),(11,none)] hR1.sub.ids rfl rfl ⟨⟨_,rfl,.pure trivial⟩,⟨_,rfl,.pure pu⟩,⟨_,rfl,.pure pu⟩,⟨_,rfl,.pure pu⟩,⟨_,rfl,.pure pu⟩,trivial⟩ ⟨.inr ⟨_,_,rfl,rfl,.cons (.nl rfl) .nil⟩,.inl ⟨rfl,rfl⟩,trivial⟩
 rintro i hi
 have hfl:=(mP x i).len
 rw [len_kpubs]at hfl
 refine af<|ai<|s1 (aa rfl) rfl ?_
 refine ah<|ae<|af ?_
 refine aK rfl (fun hc7=>?_) (fun hc7=>?_)
 ·have h7 : i < n := by have := of_decide_eq_true hc7; omega
  refine aE<|ae<|af<|aI<|af<|ai<|s1 (aa rfl) rfl<|s1 (aa rfl) rfl ?_
  refine ah<|ae<|af<|ai<|s1 (aa rfl) rfl<|s1 (bp ar rfl rfl (List.take_of_length_le (by simp [hx])) (by simp [hx])) rfl<|s1 (aa rfl) rfl ?_
  refine aj rfl (aF false rfl (.cons (.pure pu) (.cons (.pure pu) (.nil))) (pF x (i:Nat) hx) pu (.inl rfl) rfl ?_)
  refine aj rfl (aF false rfl (.cons (.pure pu) (.nil)) (Lr (b7 x (i:Nat)) (by simp)) pu (.inl rfl) rfl ?_)
  refine sq [2] [(0,_),(1,_),(2,_),(4,_),(5,_),(6,_),(7,_),(8,_),(9,_),(10,_),(11,_),(12,_),(13,_)] hR1 hR1.sub.ids rfl ⟨rfl,⟨rfl,⟨rfl,⟨rfl,⟨rfl,⟨rfl,⟨rfl,⟨rfl,⟨rfl,⟨rfl,⟨rfl,⟨rfl,⟨rfl,trivial⟩⟩⟩⟩⟩⟩⟩⟩⟩⟩⟩⟩⟩ (by first|rfl|(simp [jy,jE,refs,en,mA,mB,cn];done)) rfl rfl rfl rfl rfl fun w2 tm2 hd2=>?_
  refine ai ?_
  refine aj rfl (bg 5 rfl ar rfl rfl ?_)
  refine aj rfl (ba ar rfl rfl rfl (by first|rfl|omega|(simp<;>omega)|(simp [*]<;>omega)) (by first|rfl|omega|(simp<;>omega)|(simp [*]<;>omega)) ?_)
  refine ah ?_
  refine sk hd2 fun w3 hd3=>?_
  refine aI<|ai<|s1 (au dO rfl rfl rfl) rfl<|s1 (aG ar rfl rfl (by first|rfl|omega|(simp<;>omega)|(simp [*]<;>omega))) rfl ?_
  refine aj rfl (gC 10 rfl Tryz.underlying41 ar rfl rfl rfl (by first|(simp [aU];done)|(simp [aU, *];done)) (List.append_nil ((mz (b7 x (i:Nat))).map u8)) rfl rfl rfl ?_)
  refine aj rfl (dB 111 rfl Tryz.underlying41 ar rfl (.sl rfl (by rw [List.length_map];exact hfl)) rfl (c8 rfl (by first|rfl|omega|(simp<;>omega)|(simp [*]<;>omega))) (by simp) (by simp only [maxLen];omega) (by omega) rfl rfl rfl ?_)
  refine aj rfl (bX dO rfl rfl rfl rfl (by first|rfl|omega|(simp<;>omega)|(simp [*]<;>omega)) rfl ?_)
  refine ah<|a8 ?_
  refine sn hR1 hd3 rfl ?_
  refine s1 (aa rfl) rfl ?_
  refine ah<|ae ?_
  refine bO rfl ?_
  refine aE<|a8<|ae<|ai<|s1 (aZ _ 1 rfl rfl rfl rfl (by omega)) rfl<|s1 (aa rfl) rfl ?_
  refine ah ?_
  exact bf (i+1) (by omega) (by omega) [(2,some 2),(11,some 111)] hR1.sub.ids rfl rfl ⟨⟨_,rfl,.pure trivial⟩,⟨_,rfl,.pure pu⟩,⟨_,rfl,.pure pu⟩,⟨_,rfl,.pure pu⟩,⟨_,rfl,.pure pu⟩,trivial⟩ ⟨.inr ⟨_,_,rfl,rfl,.cons (.sl rfl (by first|rfl|omega|(simp<;>omega)|(simp [*]<;>omega))) .nil⟩,.inr ⟨_,_,rfl,rfl,.of (Jj x i) (.pure ak)⟩,trivial⟩
 ·have h7 : i = n := by have := of_decide_eq_false hc7; omega
  subst h7
  refine bx<|aM<|aM<|bA ?_
  refine vD rfl hR1 hS ?_
  refine a8<|ae<|af<|ai<|s1 (au dO rfl rfl rfl) rfl<|s1 (aa rfl) rfl ?_
  refine ah<|ae<|aB ?_
  refine qd (rs:= [.tmp 4]) rfl rfl rfl hS (dn:= [D1]) rfl rfl (by simp) rfl (aA rfl az) ⟨11,rfl,rfl⟩
theorem G1 (x:List UInt8) (n:Nat) (hx:x.length=32) (hn:n≤256):aw Tryz.prog 93 [.fn (.func 144) [] [.fp [nI n],.fp (x.map u8)]] (aO (a6 (dq x n))):=by
 refine enter Tryz.func93 rfl Tryz.ntmps93 (by kernel_rfl) (Nat.le_of_ble_eq_true rfl) fun w0 X0 hI=>?_
 refine af<|ai<|s1 (aa rfl) rfl ?_
 refine ah<|ae<|af<|ai<|s1 (aa rfl) rfl ?_
 refine aj rfl (gD 4 rfl false rfl (.cons (.pure pu) (.cons (.pure pu) .nil)) (FK x n hx hn) ak (.inl rfl) rfl ?_)
 refine s1 (aa rfl) rfl ?_
 refine ah<|ae<|aB ?_
 refine fQ 2 rfl rfl ak (cm (by rw [List.length_map,(mP x n).len,len_kpubs]) rfl) ?_
 refine aC (rs:= [.tmp 2]) rfl (aA rfl az) ?_
 exact congrArg (fun z=>A.fz z _) (len_kpubs x n).symm
theorem uq (x:List UInt8) (n:Int) (hx:x.length=32):aw Tryz.prog 44 [.ag (x.map u8),.i .i64 n] (aO (if cd n then .tu [a6 (dq x n.toNat),.i .i64 0]else .tu [.nl,.i .i64 60])):=by
 refine enter Tryz.func44 rfl Tryz.ntmps44 (by kernel_rfl) (Nat.le_of_ble_eq_true rfl) fun w0 X0 hI=>?_
 refine af<|ai ?_
 refine aj rfl (bF 2 rfl rfl rfl ?_)
 refine s1 (aa rfl) rfl<|s1 ((aa rfl).v (v':= .i .i64 0) rfl) rfl ?_
 refine ah<|ae<|af<|af<|ai<|s1 (aa rfl) rfl<|s1 (aa rfl) rfl<|s1 (aa rfl) rfl ?_
 refine kF 2 rfl rfl rfl rfl (fun hb8=> .step (aa rfl) rfl rfl<| .step (aa rfl) rfl rfl<| .done) rfl rfl ?_
 refine ah<|ae ?_
 refine aK rfl (fun hc11=>?_) (fun hc11=>?_)
 ·have hcs : ¬ cd n := by intro h; unfold cd at h; simp at hc11; omega
  refine af<|ai<|s1 (aa rfl) rfl<|s1 ((aa rfl).v (v':= .i .i64 60) rfl) rfl ?_
  refine ah<|ae<|aB<|aN ?_
  refine aC (rs:= [.tmp 4,.tmp 5]) rfl (aA rfl (aA rfl az)) ?_
  exact(if_neg hcs).symm
 ·have hcs : cd n := by unfold cd; simp at hc11; omega
  have hsz:=hcs
  obtain⟨k,rfl,h1,h2⟩:=pI hcs
  refine aE<|ae<|af<|ai<|s1 (aG ar rfl rfl (by first|rfl|omega|(simp<;>omega)|(simp [*]<;>omega))) rfl<|s1 (aa rfl) rfl ?_
  refine aj rfl (aF false rfl (.cons (.pure pu) (.cons (.pure pu) (.nil))) (Ls x k) pu (.inl rfl) rfl ?_)
  refine aj rfl (aF false rfl (.cons (.pure pu) (.nil)) (G1 x k hx h2) pu (.inl rfl) rfl ?_)
  refine s1 (aa rfl) rfl<|s1 ((aa rfl).v (v':= .i .i64 0) rfl) rfl ?_
  refine ah<|ae<|aB ?_
  refine aC (rs:= [.tmp 4,.tmp 5]) rfl (aA rfl (aA rfl az)) ?_
  exact(if_pos hsz).symm
theorem rk (x:List UInt8) (n:Int) (hx:x.length=32):aw Tryz.prog 27 [.ag (x.map u8),.i .i64 n] (aO (rootA x n)):=by
 refine enter Tryz.func27 rfl Tryz.ntmps27 (by kernel_rfl) (Nat.le_of_ble_eq_true rfl) fun w0 X0 hI=>?_
 refine af<|ai ?_
 refine aj rfl (bF 2 rfl rfl rfl ?_)
 refine aj rfl (bg 4 rfl ar rfl rfl ?_)
 refine s1 ((aa rfl).v (v':= .i .i64 0) rfl) rfl ?_
 refine ah<|ae<|af ?_
 rcases(Decidable.em (cd n)).symm with hcs|hcs
 ·skip
  refine ai<|s1 (aG ar rfl rfl (by first|rfl|omega|(simp<;>omega)|(simp [*]<;>omega))) rfl<|s1 (aa rfl) rfl ?_
  refine aj rfl (aF false rfl (.cons (.pure pu) (.cons (.pure pu) (.nil))) (aw.cast (uq x n hx) (if_neg hcs)) pu (.inl rfl) rfl ?_)
  refine s1 (aa rfl) rfl<|s1 (aa rfl) rfl<|s1 (aa rfl) rfl<|s1 (aa rfl) rfl<|s1 (aa rfl) rfl ?_
  refine ah<|ae<|af<|af<|ai<|s1 (aa rfl) rfl<|s1 ((aa rfl).v (v':= .b true) (rfl)) rfl ?_
  refine ah<|ae ?_
  refine cN rfl ?_
  refine af<|ai<|s1 (aG ar rfl rfl (by first|rfl|omega|(simp<;>omega)|(simp [*]<;>omega))) rfl<|s1 (aa rfl) rfl ?_
  refine aj rfl (ba ar rfl rfl rfl (by first|rfl|omega|(simp<;>omega)|(simp [*]<;>omega)) (by first|rfl|omega|(simp<;>omega)|(simp [*]<;>omega)) ?_)
  refine s1 (aa rfl) rfl ?_
  refine ah<|ae<|aB<|aN ?_
  refine aC (rs:= [.cell 4 23,.tmp 5]) rfl (cw ar rfl rfl (List.take_of_length_le (by simp)) (by simp) (aA rfl az)) ?_
  exact(yb hcs).symm
 ·have hsz := hcs
  obtain⟨k,rfl,h1,h2⟩:=pI hcs
  refine ai<|s1 (aG ar rfl rfl (by first|rfl|omega|(simp<;>omega)|(simp [*]<;>omega))) rfl<|s1 (aa rfl) rfl ?_
  refine aj rfl (aF false rfl (.cons (.pure pu) (.cons (.pure pu) (.nil))) (aw.cast (uq x k hx) (if_pos hsz)) pu (.inl rfl) rfl ?_)
  refine s1 (aa rfl) rfl<|s1 (aa rfl) rfl<|s1 (aa rfl) rfl<|s1 (aa rfl) rfl<|s1 (aa rfl) rfl ?_
  refine ah<|ae<|af<|af<|ai<|s1 (aa rfl) rfl<|s1 ((aa rfl).v (v':= .b false) (rfl)) rfl ?_
  refine ah<|ae ?_
  refine bO rfl ?_
  refine aE<|ae<|af<|ai<|s1 (aa rfl) rfl ?_
  refine aj rfl (aF false rfl (.cons (.pure pu) (.nil)) (pP _ (dq x k) (Nat.le_refl _) (mP x k) (by simp;omega)) pu (.inl rfl) rfl ?_)
  refine aj rfl (ba ar rfl rfl rfl (by first|rfl|omega|(simp<;>omega)|(simp [*]<;>omega)) (by first|rfl|omega|(simp<;>omega)|(simp [*]<;>omega)) ?_)
  refine s1 ((aa rfl).v (v':= .i .i64 0) rfl) rfl ?_
  refine ah<|ae<|aB ?_
  refine aC (rs:= [.cell 4 23,.tmp 5]) rfl (cw ar rfl rfl (List.take_of_length_le (by simp)) (by simp) (aA rfl az)) ?_
  exact(L6 hsz).symm
end Go.Abs.D2
-- C5E
namespace Go.Abs.D2
open Go Go.Eng Go.Abs Go.Proofs
end Go.Abs.D2
-- K6D
namespace Go.Abs.D2
open Go Go.Eng Go.Abs Go.Proofs
theorem NA (n:Int):aw Tryz.prog 127 [.fp [.i .i64 n]] (aO (.b (decide (cd n)))):=by
 refine enter Tryz.func127 rfl Tryz.ntmps127 (by kernel_rfl) (Nat.le_of_ble_eq_true rfl) fun w0 X0 hI=>?_
 refine af<|ai<|s1 (aa rfl) rfl ?_
 refine ah<|ae<|af<|ai<|s1 (au an rfl rfl rfl) rfl<|s1 (aa rfl) rfl<|s1 (aa rfl) rfl ?_
 refine cT 2 rfl rfl rfl rfl (fun hb4=> .step (au an rfl rfl rfl) rfl rfl<| .step (aa rfl) rfl rfl<| .done) rfl rfl ?_
 refine s1 (aa rfl) rfl ?_
 refine ah<|ae<|aB ?_
 refine aC (rs:= [.tmp 1]) rfl (aA rfl az) ?_
 exact congrArg A.b (by rw [Bool.eq_iff_iff,decide_eq_true_eq];simp [cd])
theorem NB (a n:Int) (S P:List (List UInt8)):aw Tryz.prog 128 [.fp [.i .i64 a,a6 S,a6 P],.fp [.i .i64 n]] (aO (.b (decide (fF n a)))):=by
 refine enter Tryz.func128 rfl Tryz.ntmps128 (by kernel_rfl) (Nat.le_of_ble_eq_true rfl) fun w0 X0 hI=>?_
 refine af<|ai<|s1 (aa rfl) rfl ?_
 refine ah<|ae<|af<|ai<|s1 (dz Tryz.underlying43 rfl an (by decide) rfl rfl) rfl<|s1 (au an rfl rfl rfl) rfl<|s1 (aa rfl) rfl<|s1 (aa rfl) rfl ?_
 refine cT 4 rfl rfl rfl rfl (fun hb6=> .step (dz Tryz.underlying43 rfl an (by decide) rfl rfl) rfl rfl<| .step (au an rfl rfl rfl) rfl rfl<| .step (au an rfl rfl rfl) rfl rfl<| .step (aa rfl) rfl rfl<| .done) rfl rfl ?_
 refine s1 (aa rfl) rfl ?_
 refine ah<|ae<|aB ?_
 refine aC (rs:= [.tmp 2]) rfl (aA rfl az) ?_
 exact congrArg A.b (FO n a)
theorem NC (m:List UInt8) (a:Int) (S P:List (List UInt8)) (hm:m.length=32) (hS:aT S):cv Tryz.prog 129 [.fp (m.map u8),.fp [.i .i64 a,a6 S,a6 P],.p 9 0] ⟨[(9,some (zD.map u8))]⟩ (gP (.b (decide (g8 S=0))) [(9,(fl m S).map u8)]):=by
 refine qx Tryz.func129 rfl Tryz.ntmps129 (by kernel_rfl) (Nat.le_of_ble_eq_true rfl) fun w0 X0 hI=>?_
 refine af<|ai<|s1 (aa rfl) rfl ?_
 refine ah<|ae<|af<|ai<|s1 (bp ar rfl rfl (List.take_of_length_le (by simp [hm])) (by simp [hm])) rfl<|s1 (dz Tryz.underlying43 rfl dO (by decide) rfl rfl) rfl<|s1 (au dO rfl rfl rfl) rfl ?_
 refine aj rfl (aF false rfl (.cons (.pure pu) (.cons (.pure pu) (.nil))) (LJ m S hm hS) pu (.inl rfl) rfl ?_)
 refine s1 (aa rfl) rfl<|s1 (aa rfl) rfl<|s1 (aa rfl) rfl ?_
 refine aj rfl (bg 4 rfl ar rfl rfl ?_)
 refine aj rfl (ba ar rfl rfl rfl (by first|rfl|omega|(simp<;>omega)|(simp [*]<;>omega)) (by first|rfl|omega|(simp<;>omega)|(simp [*]<;>omega)) ?_)
 refine s1 (aa rfl) rfl ?_
 refine ah<|ae<|af<|ai<|s1 (aG ar rfl rfl (by first|rfl|omega|(simp<;>omega)|(simp [*]<;>omega))) rfl ?_
 refine aj rfl (ba ar rfl rfl rfl (by first|rfl|omega|(simp<;>omega)|(simp [*]<;>omega)) (by first|rfl|omega|(simp<;>omega)|(simp [*]<;>omega)) ?_)
 refine ah<|ae<|af<|ai<|s1 (aa rfl) rfl<|s1 ((aa rfl).v (v':= .b (decide (g8 S=0))) (congrArg A.b (LH S))) rfl<|s1 (aa rfl) rfl ?_
 refine ah<|ae<|aB ?_
 refine aC (rs:= [.tmp 3]) rfl (aA rfl az) (nD rfl)
theorem ND (r m:List UInt8) (n a:Int) (S P:List (List UInt8)) (hr:r.length=32) (hP:aT P):cv Tryz.prog 131 [.p 9 0,.fp [.i .i64 a,a6 S,a6 P],.fp [.i .i64 n],.fp (r.map u8)] ⟨[(9,some ((fl m S).map u8))]⟩ (gP (.b ((kB a n P.length==0)&&(ji (fl m S) a n P==r))) [(9,(fl m S).map u8)]):=by
 refine qx Tryz.func131 rfl Tryz.ntmps131 (by kernel_rfl) (Nat.le_of_ble_eq_true rfl) fun w0 X0 hI=>?_
 refine af<|ai<|s1 (aa rfl) rfl ?_
 refine ah<|ae<|af<|ai<|s1 (aG ar rfl rfl (by first|rfl|omega|(simp<;>omega)|(simp [*]<;>omega))) rfl<|s1 (dz Tryz.underlying43 rfl an (by decide) rfl rfl) rfl<|s1 (au an rfl rfl rfl) rfl<|s1 (au an rfl rfl rfl) rfl<|s1 (dz Tryz.underlying43 rfl dO (by decide) rfl rfl) rfl<|s1 (au dO rfl rfl rfl) rfl ?_
 refine aj rfl (aF false rfl (.cons (.pure pu) (.cons (.pure pu) (.cons (.pure pu) (.cons (.pure pu) (.nil))))) (aw.cast (GU (fl m S) (by simp) a n P hP) (GS ..)) pu (.inl rfl) rfl ?_)
 refine s1 (aa rfl) rfl<|s1 (aa rfl) rfl<|s1 (aa rfl) rfl ?_
 refine aj rfl (bg 5 rfl ar rfl rfl ?_)
 refine aj rfl (ba ar rfl rfl rfl (by first|rfl|omega|(simp<;>omega)|(simp [*]<;>omega)) (by first|rfl|omega|(simp<;>omega)|(simp [*]<;>omega)) ?_)
 refine s1 (aa rfl) rfl ?_
 refine ah<|ae<|af<|ai<|s1 (aa rfl) rfl<|s1 (aa rfl) rfl<|s1 (aa rfl) rfl ?_
 refine cT 3 rfl rfl rfl rfl (fun hb19=> .step (aG ar rfl rfl (by first|rfl|omega|(simp<;>omega)|(simp [*]<;>omega))) rfl rfl<| .step (bp ar rfl rfl (List.take_of_length_le (by simp [hr])) (by simp [hr])) rfl rfl<| .step (gr Tryz.underlying23 Tryz.underlying5 aR (by kernel_rfl) rfl rfl (by first|assumption|(simp;done)|(simp [*];done)) (by first|assumption|(simp;done)|(simp [*];done))) rfl rfl<| .done) rfl rfl ?_
 refine s1 (aa rfl) rfl ?_
 refine ah<|ae<|aB ?_
 refine aC (rs:= [.tmp 4]) rfl (aA rfl az) (nD rfl)
theorem tC (r m:List UInt8) (n a:Int) (S P:List (List UInt8)) (hr:r.length=32) (hm:m.length=32) (hS:aT S) (hP:aT P):aw Tryz.prog 84 [.ag (r.map u8),.i .i64 n,.ag (m.map u8),.ag [.i .i64 a,a6 S,a6 P]] (aO (.i .i64 (qB (c5 r n m a S P)))):=by
 refine enter Tryz.func84 rfl Tryz.ntmps84 (by kernel_rfl) (Nat.le_of_ble_eq_true rfl) fun w0 X0 hI=>?_
 refine af<|ai ?_
 refine aj rfl (bF 4 rfl rfl rfl ?_)
 refine aj rfl (kI 5 rfl rfl rfl rfl ?_)
 refine aj rfl (bF 6 rfl rfl rfl ?_)
 refine aj rfl (bF 7 rfl rfl rfl ?_)
 refine s1 ((aa rfl).v (v':= .i .i64 0) rfl) rfl ?_
 refine ah<|ae<|af<|ai ?_
 refine aj rfl (bg 9 rfl ar rfl rfl ?_)
 refine ah<|ae<|af ?_
 refine fe 4 rfl rfl ak ?_
 refine fe 5 rfl rfl ak ?_
 refine fe 6 rfl rfl ak ?_
 refine fe 7 rfl rfl ak ?_
 refine ai<|s1 (gu (us:= []) (vs:= [.fp [.i .i64 n]]) rfl rfl) rfl<|s1 (gu (us:= []) (vs:= [.fp [.i .i64 a,a6 S,a6 P],.fp [.i .i64 n]]) rfl rfl) rfl<|s1 (gu (us:= []) (vs:= [.fp (m.map u8),.fp [.i .i64 a,a6 S,a6 P],.p 9 0]) rfl rfl) rfl<|s1 (gu (us:= []) (vs:= [.p 9 0,.fp [.i .i64 a,a6 S,a6 P],.fp [.i .i64 n],.fp (r.map u8)]) rfl rfl) rfl ?_
 refine aj rfl (ey 17 rfl Tryz.underlying169 lQ rfl rfl rfl rfl rfl ?_)
 refine s1 (aa rfl) rfl ?_
 refine ah<|ae<|af<|af<|ai<|s1 (aa rfl) rfl<|s1 (a7 Tryz.underlying169 rfl rfl rfl) rfl<|s1 ((aa rfl).v (v':= .i .i64 0) rfl) rfl ?_
 refine ah<|ae<|aI ?_
 refine bD (ι:=Nat) (fun i=> [(18,.sl 17 1 0 4),(19,nI 4),(20,nI i)]) (fun i=>⟨[(9,some ((Lm m S i).map u8)),(17,some ([.fn (.func 127) [] [.fp [.i .i64 n]],.fn (.func 128) [] [.fp [.i .i64 a,a6 S,a6 P],.fp [.i .i64 n]],.fn (.func 129) [] [.fp (m.map u8),.fp [.i .i64 a,a6 S,a6 P],.p 9 0],.fn (.func 131) [] [.p 9 0,.fp [.i .i64 a,a6 S,a6 P],.fp [.i .i64 n],.fp (r.map u8)]]))]⟩) (fun i=>i≤4∧(0<i→cd n)∧(1<i→fF n a)∧(2<i→g8 S=0)∧(3<i→((kB a n P.length==0)&&(ji (fl m S) a n P==r))=true)) (fun i=>4 - i) ?_ ?_
 ·exact bC (0) (⟨by omega,fun h=>absurd h (by omega),fun h=>absurd h (by omega),fun h=>absurd h (by omega),fun h=>absurd h (by omega)⟩) [(9,some 9),(17,some 17)] hI rfl rfl ⟨⟨_,rfl,.sl rfl (by first|rfl|omega|(simp<;>omega)|(simp [*]<;>omega))⟩,⟨_,rfl,.pure pu⟩,⟨_,rfl,.pure pu⟩,trivial⟩ ⟨.inr ⟨_,_,rfl,rfl,.of (by rfl) (.pure ak)⟩,.inr ⟨_,_,rfl,rfl,.cons (.pure pu) (.cons (.pure pu) (.cons (.fn .nil (.cons (.pure pu) (.cons (.pure pu) (.cons (.p rfl) .nil)))) (.cons (.fn .nil (.cons (.p rfl) (.cons (.pure pu) (.cons (.pure pu) (.cons (.pure pu) .nil))))) .nil)))⟩,trivial⟩
 rintro i ⟨hi,p1,p2,p3,p4⟩
 refine af<|ai<|s1 (aa rfl) rfl ?_
 refine ah<|ae<|af ?_
 refine aK rfl (fun hc21=>?_) (fun hc21=>?_)
 ·have h21 : i < 4 := by have := of_decide_eq_true hc21; omega
  refine aE<|ae<|af<|aI<|af ?_
  rcases show i=0∨i=1∨i=2∨i=3 by omega with hcs|hcs|hcs|hcs
  ·subst hcs
   refine ai<|s1 (kZ 0 Tryz.underlying169 lQ rfl rfl rfl rfl (by omega) rfl) rfl<|s1 (au lQ rfl rfl rfl) rfl<|s1 (aa rfl) rfl ?_
   refine ah<|ae<|af<|ai<|s1 (aa rfl) rfl ?_
   refine aj rfl (nq false rfl rfl (.cons (.pure pu) .nil) (NA n) pu (.inl rfl) rfl ?_)
   refine s1 (aa rfl) rfl ?_
   refine ah<|ae ?_
   refine aK rfl (fun hc26=>?_) (fun hc26=>?_)
   ·skip
    refine af<|ai<|s1 ((aa rfl).v (v':= .i .i64 60) rfl) rfl ?_
    refine ah<|ae<|aB<|bI<|aN<|aN<|bI<|aN ?_
    refine aC (rs:= [.tmp 8]) rfl (aA rfl az) ?_
    exact congrArg (A.i .i64) (by rw [EJ (by simpa using hc26)];rfl)
   ·skip
    refine aE<|a8<|ae<|ai<|s1 (aZ _ 1 rfl rfl rfl rfl (by omega)) rfl<|s1 (aa rfl) rfl ?_
    refine ah ?_
    exact bf (0+1) (⟨by omega,fun _=>by simpa using hc26,fun h=>absurd h (by omega),fun h=>absurd h (by omega),fun h=>absurd h (by omega)⟩) (by omega) [(9,some 9),(17,some 17)] hI rfl rfl ⟨⟨_,rfl,.sl rfl (by first|rfl|omega|(simp<;>omega)|(simp [*]<;>omega))⟩,⟨_,rfl,.pure pu⟩,⟨_,rfl,.pure pu⟩,trivial⟩ ⟨.inr ⟨_,_,rfl,rfl,.of (by rfl) (.pure ak)⟩,.inr ⟨_,_,rfl,rfl,.cons (.pure pu) (.cons (.pure pu) (.cons (.fn .nil (.cons (.pure pu) (.cons (.pure pu) (.cons (.p rfl) .nil)))) (.cons (.fn .nil (.cons (.p rfl) (.cons (.pure pu) (.cons (.pure pu) (.cons (.pure pu) .nil))))) .nil)))⟩,trivial⟩
  ·subst hcs
   refine ai<|s1 (kZ 1 Tryz.underlying169 lQ rfl rfl rfl rfl (by omega) rfl) rfl<|s1 (au lQ rfl rfl rfl) rfl<|s1 (aa rfl) rfl ?_
   refine ah<|ae<|af<|ai<|s1 (aa rfl) rfl ?_
   refine aj rfl (nq false rfl rfl (.cons (.pure pu) (.cons (.pure pu) .nil)) (NB a n S P) pu (.inl rfl) rfl ?_)
   refine s1 (aa rfl) rfl ?_
   refine ah<|ae ?_
   refine aK rfl (fun hc26=>?_) (fun hc26=>?_)
   ·skip
    refine af<|ai<|s1 ((aa rfl).v (v':= .i .i64 60) rfl) rfl ?_
    refine ah<|ae<|aB<|bI<|aN<|aN<|bI<|aN ?_
    refine aC (rs:= [.tmp 8]) rfl (aA rfl az) ?_
    exact congrArg (A.i .i64) (by rw [NF (by simpa using hc26)];rfl)
   ·skip
    refine aE<|a8<|ae<|ai<|s1 (aZ _ 1 rfl rfl rfl rfl (by omega)) rfl<|s1 (aa rfl) rfl ?_
    refine ah ?_
    exact bf (1+1) (⟨by omega,fun _=>p1 (by omega),fun _=>by simpa using hc26,fun h=>absurd h (by omega),fun h=>absurd h (by omega)⟩) (by omega) [(9,some 9),(17,some 17)] hI rfl rfl ⟨⟨_,rfl,.sl rfl (by first|rfl|omega|(simp<;>omega)|(simp [*]<;>omega))⟩,⟨_,rfl,.pure pu⟩,⟨_,rfl,.pure pu⟩,trivial⟩ ⟨.inr ⟨_,_,rfl,rfl,.of (by rfl) (.pure ak)⟩,.inr ⟨_,_,rfl,rfl,.cons (.pure pu) (.cons (.pure pu) (.cons (.fn .nil (.cons (.pure pu) (.cons (.pure pu) (.cons (.p rfl) .nil)))) (.cons (.fn .nil (.cons (.p rfl) (.cons (.pure pu) (.cons (.pure pu) (.cons (.pure pu) .nil))))) .nil)))⟩,trivial⟩
  ·subst hcs
   refine ai<|s1 (kZ 2 Tryz.underlying169 lQ rfl rfl rfl rfl (by omega) rfl) rfl<|s1 (au lQ rfl rfl rfl) rfl<|s1 (aa rfl) rfl ?_
   refine ah<|ae<|af<|ai<|s1 (aa rfl) rfl ?_
   refine aj rfl (mr ⟨[(9,some (zD.map u8))]⟩ [(9,(fl m S).map u8)] false rfl rfl ⟨⟨rfl,aW.pure ak⟩,trivial⟩ (.cons (.pure pu) (.cons (.pure pu) (.cons (.kp rfl) .nil))) (NC m a S P hm hS) trivial (.inl rfl) (nL (c0:=zD.map u8) rfl ak eX) rfl ?_)
   refine s1 (aa rfl) rfl ?_
   refine ah<|ae ?_
   refine aK rfl (fun hc26=>?_) (fun hc26=>?_)
   ·skip
    refine af<|ai<|s1 ((aa rfl).v (v':= .i .i64 60) rfl) rfl ?_
    refine ah<|ae<|aB<|bI<|aN<|aN<|bI<|aN ?_
    refine aC (rs:= [.tmp 8]) rfl (aA rfl az) ?_
    exact congrArg (A.i .i64) (by rw [NG (by simpa using hc26)];rfl)
   ·skip
    refine aE<|a8<|ae<|ai<|s1 (aZ _ 1 rfl rfl rfl rfl (by omega)) rfl<|s1 (aa rfl) rfl ?_
    refine ah ?_
    exact bf (2+1) (⟨by omega,fun _=>p1 (by omega),fun _=>p2 (by omega),fun _=>by simpa using hc26,fun h=>absurd h (by omega)⟩) (by omega) [(9,some 9),(17,some 17)] hI rfl rfl ⟨⟨_,rfl,.sl rfl (by first|rfl|omega|(simp<;>omega)|(simp [*]<;>omega))⟩,⟨_,rfl,.pure pu⟩,⟨_,rfl,.pure pu⟩,trivial⟩ ⟨.inr ⟨_,_,rfl,rfl,.of (by rfl) (.pure ak)⟩,.inr ⟨_,_,rfl,rfl,.cons (.pure pu) (.cons (.pure pu) (.cons (.fn .nil (.cons (.pure pu) (.cons (.pure pu) (.cons (.p rfl) .nil)))) (.cons (.fn .nil (.cons (.p rfl) (.cons (.pure pu) (.cons (.pure pu) (.cons (.pure pu) .nil))))) .nil)))⟩,trivial⟩
  ·subst hcs
   refine ai<|s1 (kZ 3 Tryz.underlying169 lQ rfl rfl rfl rfl (by omega) rfl) rfl<|s1 (au lQ rfl rfl rfl) rfl<|s1 (aa rfl) rfl ?_
   refine ah<|ae<|af<|ai<|s1 (aa rfl) rfl ?_
   refine aj rfl (mr ⟨[(9,some ((fl m S).map u8))]⟩ [(9,(fl m S).map u8)] false rfl rfl ⟨⟨rfl,aW.pure ak⟩,trivial⟩ (.cons (.kp rfl) (.cons (.pure pu) (.cons (.pure pu) (.cons (.pure pu) .nil)))) (ND r m n a S P hr hP) trivial (.inl rfl) (nL (c0:=(fl m S).map u8) rfl ak eX) rfl ?_)
   refine s1 (aa rfl) rfl ?_
   refine ah<|ae ?_
   refine aK rfl (fun hc26=>?_) (fun hc26=>?_)
   ·skip
    refine af<|ai<|s1 ((aa rfl).v (v':= .i .i64 60) rfl) rfl ?_
    refine ah<|ae<|aB<|bI<|aN<|aN<|bI<|aN ?_
    refine aC (rs:= [.tmp 8]) rfl (aA rfl az) ?_
    exact congrArg (A.i .i64) (by rw [NH (by rwa [Bool.not_eq_true']at hc26)];rfl)
   ·skip
    refine aE<|a8<|ae<|ai<|s1 (aZ _ 1 rfl rfl rfl rfl (by omega)) rfl<|s1 (aa rfl) rfl ?_
    refine ah ?_
    exact bf (3+1) (⟨by omega,fun _=>p1 (by omega),fun _=>p2 (by omega),fun _=>p3 (by omega),fun _=>by simpa using hc26⟩) (by omega) [(9,some 9),(17,some 17)] hI rfl rfl ⟨⟨_,rfl,.sl rfl (by first|rfl|omega|(simp<;>omega)|(simp [*]<;>omega))⟩,⟨_,rfl,.pure pu⟩,⟨_,rfl,.pure pu⟩,trivial⟩ ⟨.inr ⟨_,_,rfl,rfl,.of (by rfl) (.pure ak)⟩,.inr ⟨_,_,rfl,rfl,.cons (.pure pu) (.cons (.pure pu) (.cons (.fn .nil (.cons (.pure pu) (.cons (.pure pu) (.cons (.p rfl) .nil)))) (.cons (.fn .nil (.cons (.p rfl) (.cons (.pure pu) (.cons (.pure pu) (.cons (.pure pu) .nil))))) .nil)))⟩,trivial⟩
 ·have h21 : i = 4 := by have := of_decide_eq_false hc21; omega
  subst h21
  refine bx<|aM<|aM<|bA<|ae<|af<|ai<|s1 ((aa rfl).v (v':= .i .i64 0) rfl) rfl ?_
  refine ah<|ae<|aB ?_
  refine aC (rs:= [.tmp 8]) rfl (aA rfl az) ?_
  exact congrArg (A.i .i64) (by rw [EK (p1 (by omega)) (p2 (by omega)) (p3 (by omega)) (p4 (by omega))];rfl)
end Go.Abs.D2
-- E5E
namespace Go.Abs.D2
open Go Go.Eng Go.Abs Go.Proofs
theorem AR (r:List UInt8) (n:Int) (l:List Ep) (hr:r.length=32) (hl:c6 l) (hn:l.length≤maxLen):iY Tryz.prog 40 [.ag (r.map u8),.i .i64 n,cQ l] ⟨[]⟩ (fun q st=>∃σ,cC l=some σ∧cz r n l=0∧nZ (mapOf σ) q st) (fun u=>cz r n l≠0∧u=gZ 136 (cz r n l)):=by
 refine sS Tryz.func40 rfl Tryz.ntmps40 (by kernel_rfl) (Nat.le_of_ble_eq_true rfl) fun w0 X0 hI=>?_
 refine af ?_
 have hn2:=hn
 simp only [maxLen]at hn2
 refine ai ?_
 refine aj rfl (bF 3 rfl rfl rfl ?_)
 refine s1 (aa rfl) rfl ?_
 refine ah<|ae<|af ?_
 rcases xL (cC l)with hcs|hcs
 ·have hf := hcs
  refine ai<|s1 (aa rfl) rfl ?_
  refine eS ⟨[]⟩ false rfl trivial (.cons (.pure pu) .nil) (AX hl hn hf) (fun u hu=>?_)
  refine bJ ?_
  exact mX (show cz r n l≠0∧_=gZ 136 (cz r n l) by rw [qj hf];exact⟨by decide,hu.2⟩)
 ·obtain ⟨σ, hf⟩ := hcs
  refine ai<|s1 (aa rfl) rfl ?_
  refine aj rfl (tQ (F:=mapOf σ) rfl (.cons (.pure pu) (.nil)) (AW hl hn hf) rfl rfl fun b12=>?_)
  refine s1 (aa rfl) rfl ?_
  refine ah<|ae<|af<|af<|ai<|s1 (aa rfl) rfl<|s1 (a7 Tryz.underlying24 rfl rfl rfl) rfl<|s1 ((aa rfl).v (v':= .i .i64 0) rfl) rfl ?_
  refine ah<|ae<|aI ?_
  refine bD (ι:=Nat) (fun i=> [(1,.i .i64 n),(3,.p 3 0),(7,.raw (.map (some b12))),(13,cQ l),(14,nJ l.length),(15,nJ i)]) (fun i=>⟨[(3,some (r.map u8)),(700,some ([.mc b12 (mapOf σ)]))]⟩) (fun i=>i≤l.length∧∀e∈l.take i,c5 r n (bR e) e.sg.a e.sg.S e.sg.P=true) (fun i=>l.length - i) ?_ ?_
  ·exact bC (0) (⟨Nat.zero_le _,fun e he=>by simp at he⟩) [(3,some 3),(700,some 700)] hI rfl rfl ⟨⟨_,rfl,.pure pu⟩,⟨_,rfl,.p rfl⟩,⟨_,rfl,.pure pu⟩,⟨_,rfl,.pure pu⟩,⟨_,rfl,.pure pu⟩,⟨_,rfl,.pure pu⟩,trivial⟩ ⟨.inr ⟨_,_,rfl,rfl,.pure ak⟩,.inr ⟨_,_,rfl,rfl,.pure ak⟩,trivial⟩
  rintro i ⟨hi,hall⟩
  refine af<|ai<|s1 (aa rfl) rfl ?_
  refine ah<|ae<|af ?_
  refine aK rfl (fun hc16=>?_) (fun hc16=>?_)
  ·have h16 : i < l.length := by have := of_decide_eq_true hc16; omega
   obtain⟨e,he⟩:∃e,l[i]? =some e:=⟨_,List.getElem?_eq_getElem h16⟩
   have hem:=List.mem_of_getElem? he
   have hok:=hl e hem
   refine aE<|ae<|af<|aI<|af<|ai<|s1 (bb i Tryz.underlying24 bu rfl rfl rfl (by omega) rfl) rfl<|s1 (bp bu rfl rfl (gh hl he) hok.len) rfl ?_
   refine aj rfl (bg 9 rfl bu rfl rfl ?_)
   refine aj rfl (ba bu rfl rfl rfl hok.len (by simp) ?_)
   refine ah<|ae<|af ?_
   rcases mI (c5 r n (bR e) e.sg.a e.sg.S e.sg.P)with hcs|hcs
   ·skip
    refine cr ⟨_, [], []⟩ 7 4 br (le_refl rfl) ?_
    refine aq 0 [] [(3,none)] (aG ar rfl rfl (by rw [List.length_map,hr])) rfl rfl ?_
    refine aq 1 [] [] (aa rfl) rfl rfl ?_
    refine aq 2 [] [(9,none)] (aG bu rfl rfl hok.len) rfl rfl ?_
    refine bL false 3 [2] [] aV rfl (.cons (.pure pu) (.nil)) (lq e hok) pu (.inl rfl) rfl rfl ?_
    refine aq 4 [] [(9,none)] (aD Tryz.underlying45 rfl c4 (by decide) rfl rfl) rfl rfl ?_
    refine aq 5 [4] [(9,none)] (bp c4 rfl rfl (qz hok) rfl) rfl rfl ?_
    refine bL false 6 [0,1,3,5] [] aV rfl (.cons (.pure pu) (.cons (.pure pu) (.cons (.pure pu) (.cons (.pure pu) (.nil))))) (aw.cast (tC r (bR e) n e.sg.a e.sg.S e.sg.P hr (by simp) hok.S hok.P) (show _=A.i .i64 60 by rw [hcs];rfl)) pu (.inl rfl) rfl rfl ?_
    refine ct (by kernel_rfl) ?_
    refine s1 (aa rfl) rfl ?_
    refine ah<|ae<|ai<|s1 (aa rfl) rfl<|s1 ((aa rfl).v (v':= .b false) (rfl)) rfl<|s1 (aa rfl) rfl ?_
    refine eS ⟨[]⟩ false rfl trivial (.cons (.pure pu) (.cons (.pure pu) .nil)) (iw 60) (fun u hu=>?_)
    refine dw ?_
    refine bJ ?_
    refine bJ ?_
    refine dw ?_
    refine bJ ?_
    exact mX (show cz r n l≠0∧_=gZ 136 (cz r n l) by rw [sE hf hem hcs];exact⟨by decide,hu⟩)
   ·skip
    refine cr ⟨_, [], []⟩ 7 4 br (le_refl rfl) ?_
    refine aq 0 [] [(3,none)] (aG ar rfl rfl (by rw [List.length_map,hr])) rfl rfl ?_
    refine aq 1 [] [] (aa rfl) rfl rfl ?_
    refine aq 2 [] [(9,none)] (aG bu rfl rfl hok.len) rfl rfl ?_
    refine bL false 3 [2] [] aV rfl (.cons (.pure pu) (.nil)) (lq e hok) pu (.inl rfl) rfl rfl ?_
    refine aq 4 [] [(9,none)] (aD Tryz.underlying45 rfl c4 (by decide) rfl rfl) rfl rfl ?_
    refine aq 5 [4] [(9,none)] (bp c4 rfl rfl (qz hok) rfl) rfl rfl ?_
    refine bL false 6 [0,1,3,5] [] aV rfl (.cons (.pure pu) (.cons (.pure pu) (.cons (.pure pu) (.cons (.pure pu) (.nil))))) (aw.cast (tC r (bR e) n e.sg.a e.sg.S e.sg.P hr (by simp) hok.S hok.P) (show _=A.i .i64 0 by rw [hcs];rfl)) pu (.inl rfl) rfl rfl ?_
    refine ct (by kernel_rfl) ?_
    refine s1 (aa rfl) rfl ?_
    refine ah<|ae<|ai<|s1 (aa rfl) rfl<|s1 ((aa rfl).v (v':= .b true) (rfl)) rfl<|s1 (aa rfl) rfl ?_
    refine aj rfl (aF false rfl (.cons (.pure pu) (.cons (.pure pu) .nil)) (fS 0) pu (.inl rfl) rfl ?_)
    refine ah<|a8<|ae<|ai<|s1 (aZ _ 1 rfl rfl rfl rfl (by omega)) rfl<|s1 (aa rfl) rfl ?_
    refine ah ?_
    exact bf (i+1) (⟨by omega,zk he hall hcs⟩) (by omega) [(3,some 3),(700,some 700)] hI rfl rfl ⟨⟨_,rfl,.pure pu⟩,⟨_,rfl,.p rfl⟩,⟨_,rfl,.pure pu⟩,⟨_,rfl,.pure pu⟩,⟨_,rfl,.pure pu⟩,⟨_,rfl,.pure pu⟩,trivial⟩ ⟨.inr ⟨_,_,rfl,rfl,.pure ak⟩,.inr ⟨_,_,rfl,rfl,.pure ak⟩,trivial⟩
  ·obtain rfl : i = l.length := by have := of_decide_eq_false hc16; omega
   rw [List.take_length]at hall
   refine bx<|aM<|aM<|bA<|ae<|af<|ai<|s1 (aa rfl) rfl<|s1 (aa rfl) rfl ?_
   refine ah<|ae<|aB ?_
   refine zC (rs:= [.tmp 6]) rfl (aA rfl az) ?_
   exact⟨σ,hf,sF hf hall,b12,rfl,rfl⟩
theorem AS {r:List UInt8} {n:Int} {l:List Ep} (hr:r.length=32) (hl:c6 l) (hn:l.length≤maxLen) {σ:Int→Int} (h:cC l=some σ) (h0:cz r n l=0):aw Tryz.prog 40 [.ag (r.map u8),.i .i64 n,cQ l] (nZ (mapOf σ)):=(AR r n l hr hl hn).ret (fun q st ⟨τ,h1,_,h2⟩=>by rw [h]at h1;cases h1;exact h2) fun u hu=>hu.1 h0
theorem AT {r:List UInt8} {n:Int} {l:List Ep} (hr:r.length=32) (hl:c6 l) (hn:l.length≤maxLen) (h:cz r n l≠0):iZ Tryz.prog 40 [.ag (r.map u8),.i .i64 n,cQ l] ⟨[]⟩ (fun u=>cz r n l≠0∧u=gZ 136 (cz r n l)):=(AR r n l hr hl hn).um fun q st ⟨_,_,h1,_⟩=>h h1
theorem HE (c0:A) (e:Int):pR Tryz.prog 38 [.p 6 0] ⟨[(6,some [c0])]⟩ (fun u=>u=gZ 136 e) [(6, [.i .i64 e])]:=by
 refine vY (.ic 136 (.ag [.i .i64 e])) (fun u hu X w β=>by rw [hu];exact vk _ _) Tryz.func38 rfl Tryz.ntmps38 (Nat.le_of_ble_eq_true rfl) rfl rfl fun w0 X0 hI=>?_
 refine af<|ai<|s1 (aa rfl) rfl<|s1 (yK Tryz.underlying20 rfl) rfl ?_
 refine ah<|ae ?_
 refine cN rfl ?_
 refine ai<|s1 (aa rfl) rfl ?_
 refine aj rfl (aF false rfl (.cons (.pure pu) (.nil)) (wD e) pu (.inl rfl) rfl ?_)
 refine aj rfl (bX bV rfl rfl rfl rfl (by first|rfl|omega|(simp<;>omega)|(simp [*]<;>omega)) rfl ?_)
 refine ah ?_
 refine ld (rs:= []) rfl az (nD rfl)
theorem HF:pS Tryz.prog 38 1:=vZ Tryz.func38 rfl (fun w=>yd Tryz.underlying20 w) rfl ⟨Nat.le_of_ble_eq_true rfl,Nat.le_of_ble_eq_true rfl,Nat.le_of_ble_eq_true rfl,Nat.le_of_ble_eq_true rfl,Nat.le_of_ble_eq_true rfl⟩
theorem AU:ko Tryz.prog 38:=⟨_,Tryz.func38,rfl,by kernel_rfl⟩
theorem sQ (r:List UInt8) (n:Int) (l:List Ep) (hr:r.length=32) (hl:c6 l) (hn:l.length≤maxLen):aw Tryz.prog 13 [.ag (r.map u8),.i .i64 n,cQ l] (aO (.i .i64 (cz r n l))):=by
 refine oC Tryz.func13 rfl Tryz.ntmps13 (by kernel_rfl) (Nat.le_of_ble_eq_true rfl) fun w0 X0 hI hS=>?_
 refine af<|ai ?_
 refine aj rfl (bF 3 rfl rfl rfl ?_)
 refine aj rfl (bg 6 rfl bV rfl rfl ?_)
 refine ah<|ae<|af<|ai<|s1 (gu (us:= []) (vs:= [.p 6 0]) rfl rfl) rfl ?_
 refine vC [6] hI rfl rfl trivial rfl fun w1 us hdf=>?_
 refine ah<|ae<|af ?_
 rcases Ap r n l with hcs|hcs
 ·have h0 := hcs
  refine ai<|s1 (aG ar rfl rfl (by rw [List.length_map,hr])) rfl<|s1 (aa rfl) rfl<|s1 (aa rfl) rfl ?_
  refine eS ⟨[]⟩ false rfl trivial (.cons (.pure pu) (.cons (.pure pu) (.cons (.pure pu) .nil))) (AT hr hl hn h0) (fun u hu=>?_)
  refine bJ ?_
  refine jQ ⟨[(6,some [.i .i64 0])]⟩ hdf hS AU ⟨⟨rfl,aW.pure ak⟩,trivial⟩ (.cons (.kp rfl) .nil) (HE _ (cz r n l)) (hu.2) (KU rfl ak) rfl (dr bV rfl rfl rfl az) ?_
  exact rfl
 ·obtain ⟨σ, hf, h0⟩ := hcs
  refine ai<|s1 (aG ar rfl rfl (by rw [List.length_map,hr])) rfl<|s1 (aa rfl) rfl<|s1 (aa rfl) rfl ?_
  refine aj rfl (tQ (F:=mapOf σ) rfl (.cons (.pure pu) (.cons (.pure pu) (.cons (.pure pu) (.nil)))) (AS hr hl hn hf h0) rfl rfl fun b11=>?_)
  refine ah<|ae<|af<|ai ?_
  refine aj rfl (bX bV rfl rfl rfl rfl (by first|rfl|omega|(simp<;>omega)|(simp [*]<;>omega)) rfl ?_)
  refine ah<|ae<|aB ?_
  refine sm hdf hS AU HF rfl (dr bV rfl rfl rfl az) ?_
  exact congrArg (A.i .i64) h0.symm
end Go.Abs.D2
