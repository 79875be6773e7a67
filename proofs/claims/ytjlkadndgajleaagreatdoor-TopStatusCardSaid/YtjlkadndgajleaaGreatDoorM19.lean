/-
  The engine, the plain laws and the walks that the rows need, part 19. Conditions: none.
-/
import Derived.Test.YtjlkadndgajleaaGreatDoorM18
import Derived.Test.YtjlkadndgajleaaGreatDoorRows
import Derived.LaidHandle
import Derived.LaidLaws
import Derived.MakeChecks
set_option linter.unusedVariables false
set_option linter.unusedSimpArgs false
set_option maxHeartbeats 1000000
set_option maxRecDepth 10000
-- Laid
namespace Go.Proofs.YtjlkadndgajleaaGreatDoor
open Go Go.Abs
open Go.ChangeShapes Go.WideShapes Go.ChangeAt Go.RowKit
abbrev tX:List (String×DataW Unit):= [("testamur/digest.constants",Rows.laid_testamur_digest_constants)]
theorem Tryz.PX:ownKnob Tryz.prog.godebug=none:=by kernel_rfl
theorem Tryz.N5:laidOutB Tryz.prog=true:=by kernel_rfl
theorem L6 (os:Os) (args:Array Value):laidMetH Tryz.prog tX ((World.doorLaid Tryz.prog 400 os).forCall (fun _ _=>0) ⟨#[],args, []⟩).memory:=
  laidMetH_of_parts3 (fuel:=8) (laidMet_of_run' 8 aw aw) aw aw
theorem L7 (os:Os) (args:Array Value):((World.doorLaid Tryz.prog 400 os).forCall (fun _ _=>0) ⟨#[],args, []⟩).Shaped Tryz.prog:=World.shaped_of_RefB aw aw
theorem Nn {W:World} (h:laidMetH Tryz.prog tX W):GL (XW W) W:=by
 rw [MakeChecks.laidMetH_plain _ _ _ aw]at h
 obtain⟨ps,⟨g0,t0,cs0,f0,p0,q0,hg0,ht0,hv0,hd0,_,_⟩,_,_⟩:=h
 obtain rfl:=Option.some.inj ((show Tryz.prog.globalNamed "testamur/digest.constants" =some 0 by kernel_rfl).symm.trans hg0)
 obtain rfl:=Option.some.inj ((show(Tryz.prog.globals[0]?).map (·.type)=some 209 by kernel_rfl).symm.trans ht0)
 obtain⟨l,hl⟩:∃l:List Int,wD= [(0,l.map (Value.int .u32))]∧(Rows.laid_testamur_digest_constants:DataW Unit)= .agg (l.map fun i=> .lit (.int .u32 i)):=⟨[1116352408,1899447441,3049323471,3921009573,961987163,1508970993,2453635748,2870763221,3624381080,310598401,607225278,1426881987,1925078388,2162078206,2614888103,3248222580,3835390401,4022224774,264347078,604807628,770255983,1249150122,1555081692,1996064986,2554220882,2821834349,2952996808,3210313671,3336571891,3584528711,113926993,338241895,666307205,773529912,1294757372,1396182291,1695183700,1986661051,2177026350,2456956037,2730485921,2820302411,3259730800,3345764771,3516065817,3600352804,4094571909,275423344,430227734,506948616,659060556,883997877,958139571,1322822218,1537002063,1747873779,1955562222,2024104815,2227730452,2361852424,2428436474,2756734187,3204031479,3329325298],by kernel_rfl,by kernel_rfl⟩
 rw [hl.2]at hd0
 have hcs:=JO (P:=Tryz.prog) Tryz.underlying209 Tryz.underlying174 aw aw hd0
 intro g vs hg j v hj
 rw [hl.1]at hg
 simp only [List.mem_singleton,Prod.mk.injEq]at hg
 obtain⟨rfl,rfl⟩:=hg
 have hc:W.cell? ⟨0,j,none⟩=some v:=by
  rw [World.var?_cell hg0 hv0 j, ←Array.getElem?_toList,hcs];exact hj
 obtain⟨i,_,rfl⟩:=List.mem_map.1 (List.mem_of_getElem? hj)
 exact⟨⟨_,hc⟩,hc,rfl⟩
end Go.Proofs.YtjlkadndgajleaaGreatDoor
