/-
  The engine, the plain laws and the walks that the rows need, part 30. Conditions: none.
-/
import Derived.Test.YteempkifmbclgaaGreatDoorM29
import Derived.Test.YteempkifmbclgaaGreatDoorRows
import Derived.LaidHandle
import Derived.LaidLaws
import Derived.MakeChecks
set_option linter.unusedVariables false
set_option linter.unusedSimpArgs false
set_option maxHeartbeats 1000000
set_option maxRecDepth 10000
-- Laid
namespace Go.Proofs.YteempkifmbclgaaGreatDoor
open Go Go.Abs
open Go.ChangeShapes Go.WideShapes Go.ChangeAt Go.RowKit
abbrev oM:List (String×DataW Unit):= [("testamur/digest.constants",Rows.laid_testamur_digest_constants)]
theorem Tryz.F8:ownKnob Tryz.prog.godebug=none:=by kernel_rfl
theorem Tryz.EM:laidOutB Tryz.prog=true:=by kernel_rfl
theorem Dj (os:Os) (args:Array Value):laidMetH Tryz.prog oM ((World.doorLaid Tryz.prog 400 os).forCall (fun _ _=>0) ⟨#[],args, []⟩).memory:=
  laidMetH_of_parts3 (fuel:=8) (laidMet_of_run' 8 aw aw) aw aw
theorem Dk (os:Os) (args:Array Value):((World.doorLaid Tryz.prog 400 os).forCall (fun _ _=>0) ⟨#[],args, []⟩).Shaped Tryz.prog:=World.shaped_of_RefB aw aw
theorem El {W:World} (h:laidMetH Tryz.prog oM W):GL (XW W) W:=by
 rw [MakeChecks.laidMetH_plain _ _ _ aw]at h
 obtain⟨ps,⟨g0,t0,cs0,f0,p0,q0,hg0,ht0,hv0,hd0,_,_⟩,_,_⟩:=h
 obtain rfl:=Option.some.inj ((show Tryz.prog.globalNamed "testamur/digest.constants" =some 0 by kernel_rfl).symm.trans hg0)
 obtain rfl:=Option.some.inj ((show(Tryz.prog.globals[0]?).map (·.type)=some 216 by kernel_rfl).symm.trans ht0)
 obtain⟨l,hl⟩:∃l:List Int,wg= [(0,l.map (Value.int .u32))]∧(Rows.laid_testamur_digest_constants:DataW Unit)= .agg (l.map fun i=> .lit (.int .u32 i)):=⟨[1116352408,1899447441,3049323471,3921009573,961987163,1508970993,2453635748,2870763221,3624381080,310598401,607225278,1426881987,1925078388,2162078206,2614888103,3248222580,3835390401,4022224774,264347078,604807628,770255983,1249150122,1555081692,1996064986,2554220882,2821834349,2952996808,3210313671,3336571891,3584528711,113926993,338241895,666307205,773529912,1294757372,1396182291,1695183700,1986661051,2177026350,2456956037,2730485921,2820302411,3259730800,3345764771,3516065817,3600352804,4094571909,275423344,430227734,506948616,659060556,883997877,958139571,1322822218,1537002063,1747873779,1955562222,2024104815,2227730452,2361852424,2428436474,2756734187,3204031479,3329325298],by kernel_rfl,by kernel_rfl⟩
 rw [hl.2]at hd0
 have hcs:=IM (P:=Tryz.prog) Tryz.underlying216 Tryz.underlying183 aw aw hd0
 intro g vs hg j v hj
 rw [hl.1]at hg
 simp only [List.mem_singleton,Prod.mk.injEq]at hg
 obtain⟨rfl,rfl⟩:=hg
 have hc:W.cell? ⟨0,j,none⟩=some v:=by
  rw [World.var?_cell hg0 hv0 j, ←Array.getElem?_toList,hcs];exact hj
 obtain⟨i,_,rfl⟩:=List.mem_map.1 (List.mem_of_getElem? hj)
 exact⟨⟨_,hc⟩,hc,rfl⟩
end Go.Proofs.YteempkifmbclgaaGreatDoor
-- E6J
namespace Go.Abs.D2
open Go Go.Eng Go.Abs Go.Proofs
theorem L0 (r:List UInt8) (n:Int) (l:List Ep) (hr:r.length=32) (hn:l.length≤maxLen) (hT:px l):bU Tryz.prog 3 [.ag (r.map u8),.i .i64 n,eS l] (cl (.b true)):=by
 refine enter Tryz.func3 rfl Tryz.ntmps3 aw (Nat.le_of_ble_eq_true rfl) fun w0 X0 hI=>?_
 refine aa [689,652,645,549,710,3] ?_
 rcases k9 (mM n l [] [])with hcs|hcs
 ·skip
  refine aa [658,552,714,707,21,124] ?_
  rfl
 ·obtain ⟨hlc, _, hl6, _⟩ := zP hcs
  have hl:=DN hcs hT
  refine aa [658,552,710,196,159,22,17] ?_
  refine c7 false 3 [0,1,2] [] cz rfl (.cons (.pure pu) (.cons (.pure pu) (.cons (.pure pu) (.nil)))) (zB r n l hr hl hn) pu (.inl rfl) rfl rfl <| bK 4 [] [(3,none)] (cu bR rfl rfl (by rw [List.length_map,hr])) rfl rfl ?_
  refine aa [46,56] ?_
  refine c7 false 7 [4,5,6] [] cz rfl (.cons (.pure pu) (.cons (.pure pu) (.cons (.pure pu) (.nil)))) (AJ r n l hr hl aq) pu (.inl rfl) rfl rfl <| bK 8 [3,7] [] ((bE rfl).v (v':= .b true) (congrArg A.b aA)) rfl rfl ?_
  refine aa [2,650,124] ?_
  rfl
end Go.Abs.D2
