/-
  The engine, the plain laws and the walks that the rows need, part 19. Conditions: none.
-/
import Derived.Test.YteempkifmbclgaaGreatDoorM18
import Derived.Test.YteempkifmbclgaaGreatDoorRows
import Derived.LaidHandle
import Derived.LaidLaws
import Derived.MakeChecks
set_option linter.unusedVariables false
set_option linter.unusedSimpArgs false
set_option maxHeartbeats 1000000
set_option maxRecDepth 10000
-- Laid
namespace Go.Proofs.YteempkifmbclgaaGreatDoor
open Go Go.Abs
open Go.ChangeShapes Go.WideShapes Go.ChangeAt Go.RowKit
abbrev l6:List (String×DataW Unit):= [("testamur/digest.constants",Rows.laid_testamur_digest_constants)]
theorem Tryz.CA:ownKnob Tryz.prog.godebug=none:=by kernel_rfl
theorem Tryz.Bo:laidOutB Tryz.prog=true:=by kernel_rfl
theorem z7 (os:Os) (args:Array Value):laidMetH Tryz.prog l6 ((World.doorLaid Tryz.prog 400 os).forCall (fun _ _=>0) ⟨#[],args, []⟩).memory:=
  laidMetH_of_parts3 (fuel:=8) (laidMet_of_run' 8 (by kernel_rfl) (by kernel_rfl)) (by kernel_rfl) (by kernel_rfl)
theorem z8 (os:Os) (args:Array Value):((World.doorLaid Tryz.prog 400 os).forCall (fun _ _=>0) ⟨#[],args, []⟩).Shaped Tryz.prog:=World.shaped_of_RefB (by kernel_rfl) (by kernel_rfl)
theorem A5 {W:World} (h:laidMetH Tryz.prog l6 W):GL (XW W) W:=by
 rw [MakeChecks.laidMetH_plain _ _ _ (by kernel_rfl)]at h
 obtain⟨ps,⟨g0,t0,cs0,f0,p0,q0,hg0,ht0,hv0,hd0,_,_⟩,_,_⟩:=h
 obtain rfl:=Option.some.inj ((show Tryz.prog.globalNamed "testamur/digest.constants" =some 0 by kernel_rfl).symm.trans hg0)
 obtain rfl:=Option.some.inj ((show(Tryz.prog.globals[0]?).map (·.type)=some 216 by kernel_rfl).symm.trans ht0)
 obtain⟨l,hl⟩:∃l:List Int,sC= [(0,l.map (Value.int .u32))]∧(Rows.laid_testamur_digest_constants:DataW Unit)= .agg (l.map fun i=> .lit (.int .u32 i)):=⟨[1116352408,1899447441,3049323471,3921009573,961987163,1508970993,2453635748,2870763221,3624381080,310598401,607225278,1426881987,1925078388,2162078206,2614888103,3248222580,3835390401,4022224774,264347078,604807628,770255983,1249150122,1555081692,1996064986,2554220882,2821834349,2952996808,3210313671,3336571891,3584528711,113926993,338241895,666307205,773529912,1294757372,1396182291,1695183700,1986661051,2177026350,2456956037,2730485921,2820302411,3259730800,3345764771,3516065817,3600352804,4094571909,275423344,430227734,506948616,659060556,883997877,958139571,1322822218,1537002063,1747873779,1955562222,2024104815,2227730452,2361852424,2428436474,2756734187,3204031479,3329325298],by kernel_rfl,by kernel_rfl⟩
 rw [hl.2]at hd0
 have hcs:=ET (P:=Tryz.prog) Tryz.underlying216 Tryz.underlying183 (by kernel_rfl) (by kernel_rfl) hd0
 intro g vs hg j v hj
 rw [hl.1]at hg
 simp only [List.mem_singleton,Prod.mk.injEq]at hg
 obtain⟨rfl,rfl⟩:=hg
 have hc:W.cell? ⟨0,j,none⟩=some v:=by
  rw [World.var?_cell hg0 hv0 j, ←Array.getElem?_toList,hcs];exact hj
 obtain⟨i,_,rfl⟩:=List.mem_map.1 (List.mem_of_getElem? hj)
 exact⟨⟨_,hc⟩,hc,rfl⟩
end Go.Proofs.YteempkifmbclgaaGreatDoor
-- E6K
namespace Go.Abs.D2
open Go Go.Eng Go.Abs Go.Proofs
theorem Ih (l:List Ep) (no day:Int) (hn:l.length≤maxLen) (hT:mF l):aA Tryz.prog 5 [cO l,.i .i64 no,.i .i64 day] (aN (.b true)):=by
 refine enter Tryz.func5 rfl Tryz.ntmps5 (by kernel_rfl) (Nat.le_of_ble_eq_true rfl) fun w0 X0 hI=>?_
 refine af<|ai<|s1 (aa rfl) rfl ?_
 refine ah<|ae<|af<|af<|ai ?_
 refine ak rfl (aI false rfl (.nil) (BQ) pu (.inl rfl) rfl ?_)
 refine s1 ((aa rfl).v (v':= .b false) (rfl)) rfl ?_
 refine ah<|ae ?_
 refine cF rfl ?_
 refine aL<|ae<|af<|af ?_
 rcases kf (kC 1 l [] [])with hcs|hcs
 ·skip
  refine ai<|s1 (aa rfl) rfl ?_
  refine ak rfl (aI false rfl (.cons (.pure pu) (.cons (.pure pu) (.cons .nl (.cons .nl .nil)))) (aA.cast (tH 1 l [] [] hT hn) (congrArg A.b hcs)) pu (.inl rfl) rfl ?_)
  refine s1 ((aa rfl).v (v':= .b true) (rfl)) rfl ?_
  refine ah<|ae ?_
  refine bR rfl ?_
  refine af<|ai<|s1 (aa rfl) rfl ?_
  refine ah<|ae<|aE<|aH ?_
  refine aF (rs:= [.tmp 6]) rfl (aD rfl aB) ?_
  rfl
 ·obtain ⟨hlc, _, hl6, _⟩ := vV hcs
  have hl:=AF hcs hT
  obtain⟨C,v,hCl,hC⟩:=LY l no
  obtain⟨N,B,hNB⟩:=Fa (k8 l day)
  refine ai<|s1 (aa rfl) rfl ?_
  refine ak rfl (aI false rfl (.cons (.pure pu) (.cons (.pure pu) (.cons .nl (.cons .nl .nil)))) (aA.cast (tH 1 l [] [] hT hn) (congrArg A.b hcs)) pu (.inl rfl) rfl ?_)
  refine s1 ((aa rfl).v (v':= .b false) (rfl)) rfl ?_
  refine ah<|ae ?_
  refine cF rfl ?_
  refine aL<|ae<|af<|ai<|s1 (aa rfl) rfl<|s1 (aa rfl) rfl ?_
  refine ak rfl (aI false rfl (.cons (.pure pu) (.cons (.pure pu) (.nil))) (aA.wk (sj l no hl (by omega)) hC) pu (.inl rfl) rfl ?_)
  refine s1 (aa rfl) rfl<|s1 (aa rfl) rfl<|s1 (aa rfl) rfl<|s1 (aa rfl) rfl<|s1 (aa rfl) rfl ?_
  refine ah<|ae<|af<|ai<|s1 (aa rfl) rfl<|s1 (aa rfl) rfl ?_
  refine ak rfl (aI false rfl (.cons (.pure pu) (.cons (.pure pu) (.nil))) (aA.wk (K0 l no hl (by omega)) hC) pu (.inl rfl) rfl ?_)
  refine s1 (aa rfl) rfl<|s1 (aa rfl) rfl<|s1 (aa rfl) rfl<|s1 (aa rfl) rfl<|s1 (aa rfl) rfl ?_
  refine ah<|ae<|af<|ai<|s1 (aa rfl) rfl<|s1 (aa rfl) rfl ?_
  refine ak rfl (aI false rfl (.cons (.pure pu) (.cons (.pure pu) (.nil))) (aA.cast (vH l day hl hn) hNB) pu (.inl rfl) rfl ?_)
  refine s1 (aa rfl) rfl<|s1 (aa rfl) rfl<|s1 (aa rfl) rfl<|s1 (aa rfl) rfl<|s1 (aa rfl) rfl ?_
  refine ah<|ae<|af<|ai<|s1 (aa rfl) rfl<|s1 (aa rfl) rfl ?_
  refine ak rfl (aI false rfl (.cons (.pure pu) (.cons (.pure pu) (.nil))) (aA.cast (J8 l day hl hn) hNB) pu (.inl rfl) rfl ?_)
  refine s1 (aa rfl) rfl<|s1 (aa rfl) rfl<|s1 (aa rfl) rfl<|s1 (aa rfl) rfl<|s1 (aa rfl) rfl ?_
  refine ah<|ae<|af<|af<|ai<|s1 ((aa rfl).v (v':= .i .i64 0) rfl) rfl ?_
  refine ah<|ae<|aM ?_
  refine bF (ι:=Nat) (fun i=> [(0,cO l),(7,cC C),(8,.i .i64 v),(9,cC C),(10,.i .i64 v),(11,.i .i64 N),(12,.b B),(13,.i .i64 N),(14,.b B),(15,nJ i)]) (fun i=>⟨[]⟩) (fun i=>i≤l.length) (fun i=>l.length - i) ?_ ?_
  ·exact bE (0) (Nat.zero_le _) [] hI rfl rfl ⟨⟨_,rfl,.pure pu⟩,⟨_,rfl,.pure pu⟩,⟨_,rfl,.pure pu⟩,⟨_,rfl,.pure pu⟩,⟨_,rfl,.pure pu⟩,⟨_,rfl,.pure pu⟩,⟨_,rfl,.pure pu⟩,⟨_,rfl,.pure pu⟩,⟨_,rfl,.pure pu⟩,⟨_,rfl,.pure pu⟩,trivial⟩ trivial
  intro i hi
  refine af<|af<|ai<|s1 (aa rfl) rfl<|s1 (aa rfl) rfl<|s1 (bu Tryz.underlying24 rfl rfl rfl) rfl<|s1 (aa rfl) rfl ?_
  refine ah<|ae ?_
  refine aO rfl (fun hc48=>?_) (fun hc48=>?_)
  ·have h48 : i < l.length := by have := of_decide_eq_true hc48; omega
   obtain⟨e,he⟩:∃e,l[i]? =some e:=⟨_,List.getElem?_eq_getElem h48⟩
   have hok:=hl e (List.mem_of_getElem? he)
   refine aL<|ae<|af<|aM<|af ?_
   refine bP ⟨_, [], []⟩ 10 4 bx (le_refl rfl) ?_
   refine aj 0 [] [] (aa rfl) rfl rfl<|aj 1 [] [] (aa rfl) rfl rfl<|aj 2 [0,1] [] (aT i Tryz.underlying24 bA rfl rfl rfl (by omega) rfl) rfl rfl<|aj 3 [2] [] (bY bA rfl rfl (iM hl he) hok.len) rfl rfl<|bL false 4 [3] [] aW rfl (.cons (.pure pu) (.nil)) (lW e hok) pu (.inl rfl) rfl rfl<|aj 5 [] [] (aa rfl) rfl rfl<|aj 6 [] [] (aa rfl) rfl rfl<|aj 7 [5,6] [] (aT i Tryz.underlying24 bA rfl rfl rfl (by omega) rfl) rfl rfl<|aj 8 [7] [] (bY bA rfl rfl (iM hl he) hok.len) rfl rfl<|bL false 9 [8] [] aW rfl (.cons (.pure pu) (.nil)) (tC e hok) pu (.inl rfl) rfl rfl ?_
   refine bQ (by kernel_rfl) ?_
   refine s1 (((kX Tryz.underlying23 Tryz.underlying5 aQ (by kernel_rfl) rfl rfl (by simp) (by simp))).v (v':= .b false) (congrArg A.b (by simp))) rfl ?_
   refine ah<|ae ?_
   refine cF rfl ?_
   refine aL<|bh<|ae<|ai<|s1 (aa rfl) rfl<|s1 (bc _ 1 rfl rfl rfl rfl (by omega)) rfl<|s1 (aa rfl) rfl ?_
   refine ah ?_
   exact br (i+1) (by omega) (by omega) [] hI rfl rfl ⟨⟨_,rfl,.pure pu⟩,⟨_,rfl,.pure pu⟩,⟨_,rfl,.pure pu⟩,⟨_,rfl,.pure pu⟩,⟨_,rfl,.pure pu⟩,⟨_,rfl,.pure pu⟩,⟨_,rfl,.pure pu⟩,⟨_,rfl,.pure pu⟩,⟨_,rfl,.pure pu⟩,⟨_,rfl,.pure pu⟩,trivial⟩ trivial
  ·skip
   refine bC<|aP<|aP<|bD<|ae<|af<|ai<|s1 (aa rfl) rfl<|s1 (aa rfl) rfl ?_
   refine ak rfl (aI false rfl (.cons (.pure pu) (.cons (.pure pu) (.nil))) (aA.cast (C4 C C (by simp only [maxLen];omega) (by simp only [maxLen];omega)) (congrArg A.b (xw C))) pu (.inl rfl) rfl ?_)
   refine s1 (aa rfl) rfl<|g1 rfl rfl (aa rfl) rfl<|g1 rfl rfl (aa rfl) rfl<|g1 rfl rfl ((aa rfl).v (v':= .b true) (congrArg A.b (by simp))) rfl<|s1 (aa rfl) rfl<|s1 (aa rfl) rfl<|g1 rfl rfl (aa rfl) rfl<|g1 rfl rfl (aa rfl) rfl<|g1 rfl rfl ((aa rfl).v (v':= .b true) (congrArg A.b (by simp))) rfl<|s1 (aa rfl) rfl ?_
   refine s1 (aa rfl) rfl<|g1 rfl rfl (aa rfl) rfl<|g1 rfl rfl (aa rfl) rfl<|g1 rfl rfl ((xX Tryz.underlying4 rfl rfl).v (v':= .b true) (congrArg A.b (by simp))) rfl<|s1 (aa rfl) rfl<|s1 (aa rfl) rfl ?_
   refine ah<|ae<|aE ?_
   refine aF (rs:= [.tmp 6]) rfl (aD rfl aB) ?_
   rfl
end Go.Abs.D2
