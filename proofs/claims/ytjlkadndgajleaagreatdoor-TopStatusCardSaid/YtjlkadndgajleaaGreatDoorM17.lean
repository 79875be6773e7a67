/-
  The engine, the plain laws and the walks that the rows need, part 17. Conditions: none.
-/
import Derived.Test.YtjlkadndgajleaaGreatDoorM16
import Derived.Shelf.SlIterI.Nil
import Derived.Shelf.SortM.Plain
import Derived.Shelf.SortM.SortNone
import Derived.Ground.GgzProg
import Derived.Ground.SlgmProg
import Derived.Test.YtjlkadndgajleaaGreatDoorProg
set_option linter.unusedVariables false
set_option linter.unusedSimpArgs false
set_option maxHeartbeats 1000000
set_option maxRecDepth 10000
-- ShP
namespace Go.Proofs
open Go.Shelf
def Tryz.FP:Go.Shelf.Ren:=⟨fun|7=>41|10=>85|n=>n,fun|23=>63|26=>3|3=>3|28=>99|0=>0|27=>98|33=>135|4=>4|n=>n,fun|n=>n⟩
theorem Tryz.NX:Go.Proofs.SlLaysZI.n7 Tryz.prog Tryz.FP:= {
  mixed:=by kernel_rfl
  f7:=⟨Tryz.f41.name,by decide,Tryz.func41.trans (congrArg some aw)⟩
  f10:=⟨Tryz.f85.name,by decide,Tryz.func85.trans (congrArg some aw)⟩
  t0:=Tryz.underlying0
  a0:=Tryz.isAgg0
  z0:=Tryz.sizeOf0
  v0:=Tryz.zeroValue0
  t4:=Tryz.underlying4
  a4:=Tryz.isAgg4
  z4:=Tryz.sizeOf4
  v4:=Tryz.zeroValue4
  t23:=Tryz.underlying63
  a23:=Tryz.isAgg63
  z23:=Tryz.sizeOf63
  v23:=Tryz.zeroValue63
  t26:=Tryz.underlying3
  a26:=Tryz.isAgg3
  z26:=Tryz.sizeOf3
  v26:=Tryz.zeroValue3
  t27:=Tryz.underlying98
  a27:=Tryz.isAgg98
  z27:=Tryz.sizeOf98
  v27:=Tryz.zeroValue98
  t28:=Tryz.underlying99
  a28:=Tryz.isAgg99
  z28:=Tryz.sizeOf99
  v28:=Tryz.zeroValue99
  t33:=Tryz.underlying135
  a33:=Tryz.isAgg135
  z33:=Tryz.sizeOf135
  v33:=Tryz.zeroValue135}
def Tryz.HY:Go.Shelf.Ren:=⟨fun|6=>40|8=>83|9=>84|11=>70|13=>100|12=>127|23=>130|24=>131|14=>146|15=>147|16=>148|17=>149|18=>150|19=>151|20=>152|21=>153|22=>154|25=>161|26=>162|27=>163|28=>164|29=>165|30=>166|31=>167|n=>n,fun|26=>3|28=>99|24=>24|0=>0|3=>3|37=>124|48=>174|50=>202|4=>4|40=>218|39=>217|45=>36|5=>5|9=>9|51=>226|55=>230|57=>233|58=>234|33=>135|n=>n,fun|n=>n⟩
theorem Tryz.Sh:Go.Proofs.SlLaysZI.n6 Tryz.prog Tryz.HY:= {
  mixed:=by kernel_rfl
  f6:=⟨Tryz.f40.name,by decide,Tryz.func40.trans (congrArg some aw)⟩
  f8:=⟨Tryz.f83.name,by decide,Tryz.func83.trans (congrArg some aw)⟩
  f11:=⟨Tryz.f70.name,by decide,Tryz.func70.trans (congrArg some aw)⟩
  t0:=Tryz.underlying0
  a0:=Tryz.isAgg0
  z0:=Tryz.sizeOf0
  v0:=Tryz.zeroValue0
  t24:=Tryz.underlying24
  a24:=Tryz.isAgg24
  z24:=Tryz.sizeOf24
  v24:=Tryz.zeroValue24
  t26:=Tryz.underlying3
  a26:=Tryz.isAgg3
  z26:=Tryz.sizeOf3
  v26:=Tryz.zeroValue3
  t28:=Tryz.underlying99
  a28:=Tryz.isAgg99
  z28:=Tryz.sizeOf99
  v28:=Tryz.zeroValue99
  i26:=by kernel_rfl}
def Tryz.Sg:Go.Shelf.Ren:=⟨fun|5=>84|8=>100|7=>127|19=>130|20=>131|10=>146|11=>147|12=>148|13=>149|14=>150|15=>151|16=>152|17=>153|18=>154|30=>161|31=>162|32=>163|33=>164|34=>165|35=>166|40=>167|n=>n,fun|23=>24|25=>3|3=>3|32=>124|22=>24|0=>0|44=>174|46=>202|4=>4|36=>218|35=>217|41=>36|5=>5|9=>9|53=>226|57=>230|63=>233|64=>234|n=>n,fun|n=>n⟩
theorem Tryz.HX:Go.Proofs.SlLaysM.n5 Tryz.prog Tryz.Sg:= {
  mixed:=by kernel_rfl
  f5:=⟨Tryz.f84.name,by decide,Tryz.func84.trans (congrArg some aw)⟩
  f7:=⟨Tryz.f127.name,by decide,Tryz.func127.trans (congrArg some aw)⟩
  f8:=Tryz.func100.trans (congrArg some aw)
  f10:=⟨Tryz.f146.name,by decide,Tryz.func146.trans (congrArg some aw)⟩
  f11:=⟨Tryz.f147.name,by decide,Tryz.func147.trans (congrArg some aw)⟩
  f12:=⟨Tryz.f148.name,by decide,Tryz.func148.trans (congrArg some aw)⟩
  f13:=⟨Tryz.f149.name,by decide,Tryz.func149.trans (congrArg some aw)⟩
  f14:=⟨Tryz.f150.name,by decide,Tryz.func150.trans (congrArg some aw)⟩
  f15:=⟨Tryz.f151.name,by decide,Tryz.func151.trans (congrArg some aw)⟩
  f16:=⟨Tryz.f152.name,by decide,Tryz.func152.trans (congrArg some aw)⟩
  f17:=⟨Tryz.f153.name,by decide,Tryz.func153.trans (congrArg some aw)⟩
  f18:=⟨Tryz.f154.name,by decide,Tryz.func154.trans (congrArg some aw)⟩
  f19:=Tryz.func130.trans (congrArg some aw)
  f20:=Tryz.func131.trans (congrArg some aw)
  f30:=⟨Tryz.f161.name,by decide,Tryz.func161.trans (congrArg some aw)⟩
  f31:=Tryz.func162.trans (congrArg some aw)
  f32:=Tryz.func163.trans (congrArg some aw)
  f33:=⟨Tryz.f164.name,by decide,Tryz.func164.trans (congrArg some aw)⟩
  f34:=⟨Tryz.f165.name,by decide,Tryz.func165.trans (congrArg some aw)⟩
  f35:=⟨Tryz.f166.name,by decide,Tryz.func166.trans (congrArg some aw)⟩
  f40:=⟨Tryz.f167.name,by decide,Tryz.func167.trans (congrArg some aw)⟩
  t0:=Tryz.underlying0
  a0:=Tryz.isAgg0
  z0:=Tryz.sizeOf0
  v0:=Tryz.zeroValue0
  t3:=Tryz.underlying3
  a3:=Tryz.isAgg3
  z3:=Tryz.sizeOf3
  v3:=Tryz.zeroValue3
  t4:=Tryz.underlying4
  a4:=Tryz.isAgg4
  z4:=Tryz.sizeOf4
  v4:=Tryz.zeroValue4
  t5:=Tryz.underlying5
  a5:=Tryz.isAgg5
  z5:=Tryz.sizeOf5
  v5:=Tryz.zeroValue5
  t9:=Tryz.underlying9
  a9:=Tryz.isAgg9
  z9:=Tryz.sizeOf9
  v9:=Tryz.zeroValue9
  t22:=Tryz.underlying24
  a22:=Tryz.isAgg24
  z22:=Tryz.sizeOf24
  v22:=Tryz.zeroValue24
  t23:=Tryz.underlying24
  a23:=Tryz.isAgg24
  z23:=Tryz.sizeOf24
  v23:=Tryz.zeroValue24
  t25:=Tryz.underlying3
  a25:=Tryz.isAgg3
  z25:=Tryz.sizeOf3
  v25:=Tryz.zeroValue3
  t32:=Tryz.underlying124
  a32:=Tryz.isAgg124
  z32:=Tryz.sizeOf124
  v32:=Tryz.zeroValue124
  t35:=Tryz.underlying217
  a35:=Tryz.isAgg217
  z35:=Tryz.sizeOf217
  v35:=Tryz.zeroValue217
  t36:=Tryz.underlying218
  a36:=Tryz.isAgg218
  z36:=Tryz.sizeOf218
  v36:=Tryz.zeroValue218
  t41:=Tryz.underlying36
  a41:=Tryz.isAgg36
  z41:=Tryz.sizeOf36
  v41:=Tryz.zeroValue36
  t44:=Tryz.underlying174
  a44:=Tryz.isAgg174
  z44:=Tryz.sizeOf174
  v44:=Tryz.zeroValue174
  t46:=Tryz.underlying202
  a46:=Tryz.isAgg202
  z46:=Tryz.sizeOf202
  v46:=Tryz.zeroValue202
  t53:=Tryz.underlying226
  a53:=Tryz.isAgg226
  z53:=Tryz.sizeOf226
  v53:=Tryz.zeroValue226
  t57:=Tryz.underlying230
  a57:=Tryz.isAgg230
  z57:=Tryz.sizeOf230
  v57:=Tryz.zeroValue230
  t63:=Tryz.underlying233
  a63:=Tryz.isAgg233
  z63:=Tryz.sizeOf233
  v63:=Tryz.zeroValue233
  t64:=Tryz.underlying234
  a64:=Tryz.isAgg234
  z64:=Tryz.sizeOf234
  v64:=Tryz.zeroValue234}
end Go.Proofs
-- E5I
namespace Go.Abs.D2
open Go Go.Eng Go.Abs Go.Proofs
theorem Si (m:Nat):AnyZI.SortsIn Tryz.prog Tryz.HY Fence.wide m:=
  ⟨fun blk off cap ss W hH hblk hsz=>callsIn_wide.2 (AnyM.slices_Sort_int Tryz.HX blk off cap ss W hH hblk hsz),fun p cap W=>callsIn_wide.2 (AnyM.slices_Sort_int_none Tryz.HX p cap W)⟩
theorem Mw {σ:Int→Int} (hs:jB σ) (w:World) (b B:Nat) (es:Array MapEntry) (clk:Nat) (hb:w.heap[b]? =some (.map es clk)) (hF:fm es clk (mapOf σ)) (hBl:B<w.heap.size) (hB:w.cell? ⟨B,0,none⟩=some (.map (some b))):
  Calls Tryz.prog 40 #[.func (.func 85) #[] #[.pointer (some ⟨B,0,none⟩)]] w fun e w'=>∃v,e= .returned v∧w'.ownsRow w.heap.size 3 1 v (fA σ).length ((fA σ).map Go.encZ)∧RowKit.Below w.heap.size w w':=by
 obtain⟨D0,hown,hperm,hsz⟩:=PY (H:=Unit) (k:=3) Tryz.underlying3 hs hb hF
 have hseq:SeqGives Fence.wide 2 Tryz.prog 85 #[.pointer (some ⟨B,0,none⟩)] Go.encZ (fun ss=>ss.Perm (intKeys D0)) (Go.Maps.size D0) w:=AnyZI.keys_gives (ρ:=Tryz.FP) {Tryz.NX with} Fence.wide _ trivial rfl ar B b 1024 D0 w hBl hB hown
 have cS:=AnyZI.sorted_in Tryz.Sh Fence.wide 5 trivial trivial trivial trivial rfl ar (Si _) (enters_of Tryz.func84 aw rfl) 85 #[.pointer (some ⟨B,0,none⟩)] trivial (enters_of Tryz.func85 aw rfl) _ _ (Nat.le_trans hsz az) ar w hseq
 change CallsIn _ _ Tryz.prog 40 _ _ _ at cS
 refine(callsIn_wide (n:=5)).1 (cS.mono ?_)
 rintro e w' ⟨v,ss,rfl,hS,hrow,_,hB⟩
 have e1:ss.mergeSort (fun x y=>decide (x≤y))=fA σ:=(mergeSort_of_perm_i (hS.trans hperm)).trans (NY σ)
 have e2:ss.length=(fA σ).length:=(hS.trans hperm).length_eq
 rw [e1,e2]at hrow
 exact⟨v,rfl,hrow,hB⟩
theorem Mx {b:Nat} {σ:Int→Int} (hs:jB σ):dG Tryz.prog 40 [.fn (.func 85) [] [.p 24 0]] ⟨[(24,some [.raw (.map (some b))]),(700,some [.mc b (mapOf σ)])]⟩ (jA 1 (fA σ).length ((fA σ).map (A.i .i64)) [(700, [.mc b (mapOf σ)])]):=Ls (e:=3) 9 rfl (fun p hp=>by rw [List.mem_singleton.1 hp];rfl) fun w X β us hd hX ho hv=>by
 refine⟨⟨_,Tryz.func40,rfl,by kernel_rfl⟩,?_⟩
 obtain⟨hβ,_,_,es,clk,hb,hF⟩:=(ho 700 _ rfl).Gx
 have h24:=ho 24 _ rfl
 simp only [VS,V]at hv
 obtain⟨u,r,rfl,⟨u1,u2,rfl,rfl,⟨u3,r3,rfl,⟨B,N,hB,rfl⟩,rfl⟩⟩,rfl⟩:=hv
 unfold OB at h24
 rw [hB]at h24
 obtain⟨_,_,us,rest,ty,hrow,_,hvs,_⟩:=h24
 simp only [VS,V]at hvs
 obtain⟨_,_,rfl,rfl,rfl⟩:=hvs
 exact Mw hs w b B es clk hb hF (Array.getElem?_eq_some_iff.1 hrow).1 (by simp [World.cell?,hrow])
theorem Mc (b:Nat):bO Tryz.prog 41 [.raw (.map (some b))] (u5 (fun i=> .fn (.func 85) [] [.p i 0]) [.raw (.map (some b))]):=by
 refine enter Tryz.func41 rfl Tryz.ntmps41 aw (Nat.le_of_ble_eq_true rfl) fun w0 X0 hI=>?_
 refine bH <| bJ <| bK rfl (kx 1 rfl rfl rfl rfl ?_)
 refine aa [487,321,449] ?_
 refine bW (rs:= [.tmp 2]) rfl (bT rfl bR) ⟨1,rfl,rfl⟩
theorem My (c0 c1:A) (e:Int):sS Tryz.prog 38 [.p 4 0,.p 5 0] ⟨[(4,some [c0]),(5,some [c1])]⟩ (fun u=>u=ku 107 e) [(4, [.nl]),(5, [.i .i64 e])]:=by
 refine zH (.ic 107 (.ag [.i .i64 e])) (fun u hu X w β=>by rw [hu];exact yM _ _) Tryz.func38 rfl Tryz.ntmps38 (Nat.le_of_ble_eq_true rfl) rfl rfl fun w0 X0 hI=>?_
 refine aa [445,227,521,450,228,154,18,8] ?_
 refine jO (rs:= []) rfl bR (sq rfl rfl)
theorem Mz:sU Tryz.prog 38 2:=zI Tryz.func38 rfl (fun w=>BC Tryz.underlying20 w) rfl ⟨Nat.le_of_ble_eq_true rfl,Nat.le_of_ble_eq_true rfl,Nat.le_of_ble_eq_true rfl,Nat.le_of_ble_eq_true rfl,Nat.le_of_ble_eq_true rfl⟩
theorem EH:mX Tryz.prog 38:=⟨_,Tryz.func38,rfl,by kernel_rfl⟩
theorem Ak (l:List Ep) (no:Int) (hl:ga l) (hn:l.length≤1000):bO Tryz.prog 12 [fa l,.i .i64 no] (cn (QI (oH l no))):=by
 refine qm Tryz.func12 rfl Tryz.ntmps12 aw (Nat.le_of_ble_eq_true rfl) fun w0 X0 hI hS=>?_
 refine bH <| bJ <| bK rfl (cB 4 rfl ib rfl rfl ?_)
 refine bK rfl (cB 5 rfl dK rfl rfl ?_)
 refine aa [456,489] ?_
 refine jr 4 rfl rfl rfl rfl (fun hb11=> .step (bF rfl) rfl rfl<| .step (bF rfl) rfl rfl<| .step (cf Tryz.underlying29 rfl rfl rfl) rfl rfl<| .step (bF rfl) rfl rfl<| .done) rfl rfl <| bI <| bG ?_
 refine b7 rfl (fun hc16=>?_) (fun hc16=>?_)
 ·have h16 : no < -1 ∨ (l.length : Int) ≤ no := by simpa using hc16
  refine aa [444,154,18,467] ?_
  refine qb (rs:= [.cell 4 30,.cell 5 33]) rfl rfl rfl hS (dn:= []) rfl hS List.nodup_nil rfl (fC ib rfl rfl rfl (fC dK rfl rfl rfl bR)) ?_
  rw [SA h16];rfl
 ·have h16 : ¬ (no < -1 ∨ (l.length : Int) ≤ no) := by simp at hc16; omega
  obtain⟨k,hk⟩:∃k:Nat,no+1=(k:Int):=⟨(no+1).toNat,by omega⟩
  have hkl:k≤l.length:=by omega
  have htk:(no+1).toNat=k:=by omega
  have hlk:ga (l.take k):=fun e he=>hl e (List.mem_of_mem_take he)
  have hlen:(l.take k).length=k:=by rw [List.length_take];omega
  refine bY <| bG <| bH <| bJ <| s1 (iz (us:= []) (vs:= [.p 4 0,.p 5 0]) rfl rfl) rfl ?_
  refine zf [4,5] hI rfl rfl trivial rfl fun w1 us hdf=>?_
  refine bI <| bG <| bH ?_
  rcases xA (dU (l.take k))with hcs|hcs
  ·have hf := hcs
   refine aa [451,322,323] ?_
   refine gS ⟨[]⟩ false rfl trivial (.cons (.pure pu) .nil) (Es hlk aC hf) (fun u hu=>?_)
   refine dt <| mv ⟨[(4,some [.nl]),(5,some [.i .i64 0])]⟩ hdf hS EH ⟨⟨rfl,cv.pure bL⟩,⟨rfl,cv.pure bL⟩,trivial⟩ (.cons (.kp rfl) (.cons (.kp rfl) .nil)) (My _ _ 351) (hu.2) (nP rfl rfl bL bL) rfl (fC ib rfl rfl rfl (fC dK rfl rfl rfl bR)) ?_
   rw [SB h16 (by rw [htk];exact hf)];rfl
  ·obtain ⟨σ, hf⟩ := hcs
   have hsup:=xZ hf
   have hkn:=FQ σ
   refine aa [451,322,323] ?_
   refine bK rfl (xd (F:=mapOf σ) rfl (.cons (.pure pu) (.nil)) (Eo hlk aC hf) rfl rfl fun b22=>?_)
   refine aa [491] ?_
   refine bK rfl (GB (mk:=fun i=> .fn (.func 85) [] [.p i 0]) xu 24 rfl false rfl (.cons (.pure pu) (.nil)) (Mc b22) bL (.inl rfl) rfl ?_)
   refine bK rfl (Gz 25 rfl ⟨[(24,some [.raw (.map (some b22))]),(700,some [.mc b22 (mapOf σ)])]⟩ [(700, [.mc b22 (mapOf σ)])] false rfl rfl ⟨⟨rfl,cv.pure bL⟩,⟨rfl,cv.pure bL⟩,trivial⟩ (.cons (.fn .nil (.cons (.kp rfl) .nil)) .nil) (Mx hsup) bL (.inl rfl) (fun p hp=>by rw [List.mem_singleton.1 hp];exact⟨⟨_,rfl⟩,pU bL (.inl rfl)⟩) rfl ?_)
   refine eR 25 rfl rfl bL (c5 aB rfl) ?_
   refine aa [493] ?_
   refine cO (ι:=Nat) (fun i=> [(4,.p 4 0),(5,.p 5 0),(6,.raw (.map (some b22))),(25,.fz (fA σ).length ((fA σ).map (A.i .i64))),(26,nJ (fA σ).length),(27,nJ i)]) (fun i=>⟨[(4,some ([.sl 138 2 0 i])),(5,some ([.i .i64 0])),(138,some (jC ((fG σ).take i))),(700,some ([.mc b22 (mapOf σ)]))]⟩) (fun i=>i≤(fA σ).length) (fun i=>(fA σ).length - i) ?_ ?_
   ·exact cN (0) (Nat.zero_le _) [(4,some 4),(5,some 5),(138,none),(700,some 700)] hdf.ids rfl rfl ⟨⟨_,rfl,.p rfl⟩,⟨_,rfl,.p rfl⟩,⟨_,rfl,.pure pu⟩,⟨_,rfl,.pure pu⟩,⟨_,rfl,.pure pu⟩,⟨_,rfl,.pure pu⟩,trivial⟩ ⟨.inr ⟨_,_,rfl,rfl,.cons (.nl rfl) .nil⟩,.inr ⟨_,_,rfl,rfl,.of (rfl:_= [A.i .i64 0]) (.pure bL)⟩,.inl ⟨rfl,rfl⟩,.inr ⟨_,_,rfl,rfl,.pure bL⟩,trivial⟩
   rintro i hi
   refine aa [448] ?_
   refine b7 rfl (fun hc28=>?_) (fun hc28=>?_)
   ·have h28 : i < (fA σ).length := by have := of_decide_eq_true hc28; omega
    obtain⟨q,hq⟩:∃q,(fA σ)[i]? =some q:=⟨_,List.getElem?_eq_getElem h28⟩
    refine aa [462,51,52,447,1,111,471,184,324] ?_
    refine bK rfl (jT 37 rfl Tryz.underlying30 jc rfl rfl rfl (by simp [cU]) (show _=Ch.cells ⟨q,σ q⟩from rfl) rfl rfl rfl ?_)
    refine bK rfl (dB 38 rfl Tryz.underlying30 jc rfl (.sl rfl (by simp [fG];omega)) rfl (dE rfl aq) aB aC ar rfl rfl rfl ?_)
    refine aa [154,472] ?_
    exact cz (i+1) ar ar [(4,some 4),(5,some 5),(138,some 38),(700,some 700)] hdf.ids rfl rfl ⟨⟨_,rfl,.p rfl⟩,⟨_,rfl,.p rfl⟩,⟨_,rfl,.pure pu⟩,⟨_,rfl,.pure pu⟩,⟨_,rfl,.pure pu⟩,⟨_,rfl,.pure pu⟩,trivial⟩ ⟨.inr ⟨_,_,rfl,rfl,.cons (.sl rfl aB) .nil⟩,.inr ⟨_,_,rfl,rfl,.pure bL⟩,.inr ⟨_,_,rfl,rfl,.of (KX hq) (.pure bL)⟩,.inr ⟨_,_,rfl,rfl,.pure bL⟩,trivial⟩
   ·obtain rfl : i = (fA σ).length := by have := of_decide_eq_false hc28; omega
    refine aa [463] ?_
    refine ep 138 (cs':=jC (fG σ)) rfl (by rw [List.take_of_length_le (by simp [fG])]) <| kY 4 0 rfl rfl rfl rfl bL (c5 (by simp [fG]) rfl) rfl ?_
    refine aa [1,111,154,18,457] ?_
    refine vq hdf hS EH Mz rfl (fC ib rfl rfl rfl (fC dK rfl rfl rfl bR)) ?_
    rw [H9 h16 (by rw [htk];exact hf)];exact congrArg (fun n=>A.tu [.fz n (jC (fG σ)),.i .i64 0]) (by simp [fG])
-- C5B
theorem Md (x:List UInt8) (hx:x.length=32):bO Tryz.prog 141 [.ag (x.map u8)] (u5 (fun i=> .fn (.func 157) [] [.p i 0]) (x.map u8)):=by
 refine enter Tryz.func141 rfl Tryz.ntmps141 aw (Nat.le_of_ble_eq_true rfl) fun w0 X0 hI=>?_
 refine aa [496,487,321,449] ?_
 refine bW (rs:= [.tmp 2]) rfl (bT rfl bR) ⟨1,rfl,rfl⟩
theorem yU (x:List UInt8) (n:Nat) (hx:x.length=32) (hn:n≤1000):bO Tryz.prog 112 [.ag (x.map u8),.i .i64 (n:Nat)] (cn (.ag ((iJ n x).map u8))):=by
 refine qm Tryz.func112 rfl Tryz.ntmps112 aw (Nat.le_of_ble_eq_true rfl) fun w0 X0 hI hS=>?_
 refine aa [501,129,29,456,444,12] ?_
 refine bK rfl (GB (mk:=fun i=> .fn (.func 157) [] [.p i 0]) xu 7 rfl false rfl (.cons (.pure pu) (.nil)) (Md x hx) bL (.inl rfl) rfl ?_)
 refine bI <| bG <| bZ ?_
 refine tg [2,3,4,7] [(0,_),(1,_),(2,_),(3,_),(4,_),(6,_),(7,_)] hI rfl ⟨rfl,⟨rfl,⟨rfl,⟨rfl,⟨rfl,⟨rfl,⟨rfl,trivial⟩⟩⟩⟩⟩⟩⟩ aD rfl Tryz.func157 rfl Tryz.ntmps157 aw (Nat.le_of_ble_eq_true rfl) fun w1 l1 D1 rc1 hR1=>?_
 refine bZ ?_
 refine cO (ι:=Nat) (fun k=> [(0,yv l1),(1,.p 7 0)]) (fun k=>⟨[(2,some (x.map u8)),(3,some ([.i .i64 ((n - k:Nat):Int)])),(4,some (List.replicate 32 (u8 0))),(7,some (((iJ k x).map u8)))]⟩) (fun k=>k≤n) (fun k=>n - k) ?_ ?_
 ·exact cN (0) (Nat.zero_le _) [(2,some 2),(3,some 3),(4,some 4),(7,some 7)] hR1.sub.ids rfl rfl ⟨⟨_,rfl,.pure trivial⟩,⟨_,rfl,.p rfl⟩,trivial⟩ ⟨.inr ⟨_,_,rfl,rfl,.pure bL⟩,.inr ⟨_,_,rfl,rfl,.pure bL⟩,.inr ⟨_,_,rfl,rfl,.pure bL⟩,.inr ⟨_,_,rfl,rfl,.pure bL⟩,trivial⟩
 rintro k hk
 have hxk:=pd hx k
 refine aa [3,445,12] ?_
 refine nc [2,3,4,7] [(0,_),(1,_),(3,_),(4,_)] hR1 hR1.sub.ids rfl ⟨rfl,⟨rfl,⟨rfl,⟨rfl,trivial⟩⟩⟩⟩ aD rfl rfl rfl rfl rfl fun w2 tm2 hd2=>?_
 refine aa [1,89,9,8] ?_
 refine m9 hd2 fun w3 hd3=>?_
 refine aa [13,3,444,2,447] ?_
 refine b7 rfl (fun hc10=>?_) (fun hc10=>?_)
 ·have h10 : k = n := by have := of_decide_eq_true hc10; omega
  subst h10
  refine aa [444,12,9,467,262] ?_
  refine J6 hR1 hd3 rfl fun w4 hR4=>?_
  refine aa [548,527] ?_
  refine JY rfl hR4 hS <| bV <| c6 <| cd ?_
  refine qb (rs:= [.cell 4 23]) rfl rfl rfl hS (dn:= [D1]) rfl rfl aB rfl (c9 b5 rfl rfl (List.take_of_length_le (by simp [hxk])) (by simp [hxk]) bR) rfl
 ·have h10 : k < n := by have := of_decide_eq_false hc10; omega
  refine aa [461,1,2] ?_
  refine s1 (fJ (n - k) 1 rfl rfl rfl rfl ar ar) rfl ?_
  refine aa [145,503,90,521,461,540,206] ?_
  refine bK rfl (bX true rfl (.cons (.pure pu) (.cons (.sl rfl rfl aq (c5 aq aM) (cv.pure bL) bL) (.nil))) (kB [115,116,101,112] (iJ k x) ar aB) pu (.inr fu) rfl ?_)
  refine aa [9,503] ?_
  exact cz (k+1) ar ar [(2,some 2),(3,some 3),(4,some 4),(7,some 7)] hR1.sub.ids rfl rfl ⟨⟨_,rfl,.pure trivial⟩,⟨_,rfl,.p rfl⟩,trivial⟩ ⟨.inr ⟨_,_,rfl,rfl,.pure bL⟩,.inr ⟨_,_,rfl,rfl,.of aZ (.pure bL)⟩,.inr ⟨_,_,rfl,rfl,.pure bL⟩,.inr ⟨_,_,rfl,rfl,.of (by rw [iJ,H8]) (.pure bL)⟩,trivial⟩
-- C5C
theorem H6 (m:List UInt8) (hm:m.length=32):bO Tryz.prog 111 [.ag (m.map u8)] (cn (.ag ((digits m).map nI))):=by
 refine enter Tryz.func111 rfl Tryz.ntmps111 aw (Nat.le_of_ble_eq_true rfl) fun w0 X0 hI=>?_
 refine aa [496] ?_
 refine bK rfl (cB 2 rfl yc rfl rfl ?_)
 refine aa [454,470,475] ?_
 refine cO (ι:=Nat) (fun k=> [(1,.p 1 0),(2,.p 2 0),(3,nI (j3 m k)),(6,nI k)]) (fun k=>⟨[(1,some (m.map u8)),(2,some ((dl m k).map nI++List.replicate (19 - k) (nI 0)))]⟩) (fun k=>k≤16) (fun k=>16 - k) ?_ ?_
 ·exact cN (0) (Nat.zero_le _) [(1,some 1),(2,some 2)] hI rfl rfl ⟨⟨_,rfl,.p rfl⟩,⟨_,rfl,.p rfl⟩,⟨_,rfl,.of (by rw [Ia];rfl) (.pure pu)⟩,⟨_,rfl,.pure pu⟩,trivial⟩ ⟨.inr ⟨_,_,rfl,rfl,.pure bL⟩,.inr ⟨_,_,rfl,rfl,.of (by rw [L5];rfl) (.pure bL)⟩,trivial⟩
 rintro k hk
 have hsk:=BP m k
 have hdk:=D9 m k
 refine aa [448] ?_
 refine b7 rfl (fun hc7=>?_) (fun hc7=>?_)
 ·have h7 : k < 16 := by have := of_decide_eq_true hc7; omega
  refine aa [477,453] ?_
  refine s1 (gz k 4 rfl rfl rfl rfl az ar) rfl <| s1 (cX (k / 4) Tryz.underlying23 cc rfl rfl rfl ar rfl) rfl <| s1 (bM cc rfl rfl (tU (k / 4) ar)) rfl <| s1 (bF rfl) rfl <| s1 (iQ k 4 rfl rfl rfl rfl az) rfl <| s1 (gp 2 (k % 4) rfl rfl rfl rfl ar) rfl <| s1 (fJ 6 (2*(k % 4)) rfl rfl rfl rfl ar ar) rfl <| s1 (qP _ (6 - 2*(k % 4)) rfl rfl rfl ar) rfl <| s1 (eP Tryz.underlying5 Tryz.underlying3 rfl) rfl <| s1 ((ml rfl rfl (.inl rfl)).v (L0 m k)) rfl ?_
  refine aa [325] ?_
  refine bK rfl (cV bP rfl rfl rfl rfl aE (RK m k h7) ?_)
  refine aa [460,451,325] ?_
  refine s1 (bM bP rfl rfl (Nl m k rfl)) rfl <| s1 (fJ 3 (lQ m k) rfl rfl rfl rfl ar ar) rfl <| s1 (cl (j3 m k) (3 - lQ m k) rfl rfl rfl rfl ar) rfl ?_
  refine aa [488] ?_
  exact cz (k+1) ar ar [(1,some 1),(2,some 2)] hI rfl rfl ⟨⟨_,rfl,.p rfl⟩,⟨_,rfl,.p rfl⟩,⟨_,rfl,.of (by rw [Ib]) (.pure pu)⟩,⟨_,rfl,.pure pu⟩,trivial⟩ ⟨.inr ⟨_,_,rfl,rfl,.pure bL⟩,.inr ⟨_,_,rfl,rfl,.pure bL⟩,trivial⟩
 ·have h7 : k = 16 := by have := of_decide_eq_false hc7; omega
  subst h7
  refine aa [463,444] ?_
  refine s1 ((bF rfl).v (v':= .i .i64 18) rfl) rfl <| bI <| bG <| bZ ?_
  refine cO (ι:=Nat) (fun j=> [(1,.p 1 0),(2,.p 2 0),(3,nI (j3 m 16 / 4 ^ j)),(5,nI (18 - j))]) (fun j=>⟨[(1,some (m.map u8)),(2,some (pJ m j))]⟩) (fun j=>j≤3) (fun j=>3 - j) ?_ ?_
  ·exact cN (0) (Nat.zero_le _) [(1,some 1),(2,some 2)] hI rfl rfl ⟨⟨_,rfl,.p rfl⟩,⟨_,rfl,.p rfl⟩,⟨_,rfl,.of aB (.pure pu)⟩,⟨_,rfl,.pure pu⟩,trivial⟩ ⟨.inr ⟨_,_,rfl,rfl,.pure bL⟩,.inr ⟨_,_,rfl,rfl,.of (SL m) (.pure bL)⟩,trivial⟩
  rintro j hj
  have hs16:=BP m 16
  have hsj:j3 m 16 / 4 ^ j≤48:=Nat.le_trans (Nat.div_le_self _ _) ar
  refine aa [533] ?_
  refine b7 rfl (fun hc30=>?_) (fun hc30=>?_)
  ·have h30 : j < 3 := by have := of_decide_eq_true hc30; omega
   refine aa [482,453] ?_
   refine s1 (iQ (j3 m 16 / 4 ^ j) 4 rfl rfl rfl rfl az) rfl <| s1 (cX (18 - j) Tryz.underlying184 bP rfl rfl rfl ar rfl) rfl <| bK rfl (cV bP rfl rfl rfl rfl (by simp [AV];omega) rfl ?_)
   refine bI <| bG <| bJ <| s1 (bF rfl) rfl <| s1 (gz (j3 m 16 / 4 ^ j) 4 rfl rfl rfl rfl az ar) rfl ?_
   refine aa [476,552] ?_
   refine s1 (fJ (18 - j) 1 rfl rfl rfl rfl ar ar) rfl ?_
   refine aa [476] ?_
   exact cz (j+1) ar ar [(1,some 1),(2,some 2)] hI rfl rfl ⟨⟨_,rfl,.p rfl⟩,⟨_,rfl,.p rfl⟩,⟨_,rfl,.of (by rw [Nat.div_div_eq_div_mul, ←Nat.pow_succ]) (.pure pu)⟩,⟨_,rfl,.of (congrArg nI ar) (.pure pu)⟩,trivial⟩ ⟨.inr ⟨_,_,rfl,rfl,.pure bL⟩,.inr ⟨_,_,rfl,rfl,.of (RQ m j h30) (.pure bL)⟩,trivial⟩
  ·have h30 : j = 3 := by have := of_decide_eq_false hc30; omega
   subst h30
   refine ep 2 rfl (SN m) <| cG <| b6 <| b6 <| cH <| bG <| bH <| bJ <| s1 (cg yc rfl rfl aq) rfl <| bK rfl (cu yc rfl rfl rfl aq aq ?_)
   refine bI <| bG <| bV ?_
   refine bW (rs:= [.cell 2 184]) rfl (c9 yc rfl rfl (List.take_of_length_le aB) aB bR) rfl
theorem FL (parts:List (List UInt8)) (hk:parts.length≤1048576) (ht:parts.flatten.length≤140737488300000):bO Tryz.prog 142 [.fz parts.length (parts.map fw)] (eY 1 parts.flatten.length (parts.flatten.map u8)):=by
 refine enter Tryz.func142 rfl Tryz.ntmps142 aw (Nat.le_of_ble_eq_true rfl) fun w0 X0 hI=>?_
 refine aa [539,538] ?_
 refine cO (ι:=Nat) (fun i=> [(2,.sl 2 1 0 (parts.take i).flatten.length),(5,.fz parts.length (parts.map fw)),(6,nI parts.length),(7,nI i)]) (fun i=>⟨[(2,some ((parts.take i).flatten.map u8))]⟩) (fun i=>i≤parts.length) (fun i=>parts.length - i) ?_ ?_
 ·exact cN (0) (Nat.zero_le _) [(2,none)] hI rfl rfl ⟨⟨_,rfl,.nl rfl⟩,⟨_,rfl,.pure pu⟩,⟨_,rfl,.pure pu⟩,⟨_,rfl,.pure pu⟩,trivial⟩ ⟨.inl ⟨rfl,rfl⟩,trivial⟩
 rintro i hi
 refine aa [448] ?_
 refine b7 rfl (fun hc8=>?_) (fun hc8=>?_)
 ·have hi2 : i < parts.length := by have := of_decide_eq_true hc8; omega
  obtain⟨p,hp⟩:∃p,parts[i]? =some p:=⟨_,List.getElem?_eq_getElem hi2⟩
  have hpl:=Ot hp
  refine aa [462,70] ?_
  refine s1 (bM cL rfl rfl (Fj hp)) rfl ?_
  refine aa [534] ?_
  refine bK rfl (dB 13 rfl Tryz.underlying47 cc rfl (.sl rfl aV) rfl rfl aB aC ar rfl rfl rfl ?_)
  refine aa [488] ?_
  exact cz (i+1) ar ar [(2,some 13)] hI rfl rfl ⟨⟨_,rfl,.sl rfl aq⟩,⟨_,rfl,.pure pu⟩,⟨_,rfl,.pure pu⟩,⟨_,rfl,.pure pu⟩,trivial⟩ ⟨.inr ⟨_,_,rfl,rfl,.of (by rw [←List.map_append,BU hp]) (.pure bL)⟩,trivial⟩
 ·have hi2 : i = parts.length := by have := of_decide_eq_false hc8; omega
  subst hi2
  refine aa [509,449] ?_
  refine bW (rs:= [.tmp 2]) rfl (bT rfl bR) ⟨2,?_,?_⟩
  ·rw [List.take_length];rfl
  ·rw [List.take_length];rfl
theorem SI (x:List UInt8) (i:Nat) (hx:x.length=32):bO Tryz.prog 25 [.s [99,104,97,105,110],.fz 33 (x.map u8++ [u8 (UInt8.ofNat i)])] (cn (.ag ((kK x i).map u8))):=by
  rw [EX];simpa [hx]using kB [99,104,97,105,110] (x++ [UInt8.ofNat i]) aI aB
theorem Db (x:List UInt8) (i:Nat) (hx:x.length=32):bO Tryz.prog 113 [.ag (x.map u8),nI i] (cn (.ag ((kK x i).map u8))):=by
 refine enter Tryz.func113 rfl Tryz.ntmps113 aw (Nat.le_of_ble_eq_true rfl) fun w0 X0 hI=>?_
 refine aa [501,29,454,206,0] ?_
 refine s1 (GY i Tryz.underlying3 Tryz.underlying5 rfl rfl) rfl <| bK rfl (dz 8 rfl Tryz.underlying47 cc rfl rfl rfl rfl rfl ?_)
 refine bK rfl (dz 9 rfl Tryz.underlying26 cL rfl rfl rfl rfl rfl ?_)
 refine bK rfl (kN 10 rfl true rfl (.cons (.sl rfl rfl rfl rfl (.cons (.sl rfl rfl aq (c5 aI rfl) (cv.pure bL) bL) (.cons (.sl rfl rfl rfl (c5 rfl rfl) (cv.pure bL) bL) .nil)) bL) .nil) (by simpa [fw,hx]using FL [x, [UInt8.ofNat i]] aB aI) bL (.inr fT) rfl ?_)
 refine bK rfl (bX true rfl (.cons (.pure pu) (.cons (.sl rfl rfl aq (c5 aq aM) (cv.pure bL) bL) (.nil))) (SI x i hx) pu (.inr fu) rfl ?_)
 refine aa [9,457] ?_
 refine bW (rs:= [.cell 4 23]) rfl (c9 b5 rfl rfl (List.take_of_length_le aB) aB bR) rfl
-- C5D
theorem SJ (L:List (List UInt8)) (hD:cm L) (hl:L.length=19):bO Tryz.prog 25 [.s [112,117,98,108,105,99],.fz L.flatten.length (L.flatten.map u8)] (cn (.ag ((o9 L).map u8))):=by
  rw [FO];exact kB [112,117,98,108,105,99] L.flatten (by rw [hD.len,hl];omega) aB
theorem NT (L:List (List UInt8)) (hD:cm L) (hl:L.length=19):bO Tryz.prog 142 [.fz 19 (L.map fw)] (eY 1 L.flatten.length (L.flatten.map u8)):=by
  have:=FL L ar (by rw [hD.len,hl];omega)
  rwa [hl]at this
theorem Hh (L:List (List UInt8)) (hD:cm L) (hl:L.length=19):bO Tryz.prog 129 [.ag (L.flatten.map u8)] (cn (.ag ((o9 L).map u8))):=by
 refine enter Tryz.func129 rfl Tryz.ntmps129 aw (Nat.le_of_ble_eq_true rfl) fun w0 X0 hI=>?_
 refine aa [496,68,454] ?_
 refine bK rfl (oA 5 rfl 19 19 Tryz.underlying26 cL rfl rfl rfl rfl rfl av av av rfl ?_)
 refine aa [452,3] ?_
 have hfl:(L.flatten.map u8).length=608:=by rw [List.length_map,hD.len,hl]
 refine aa [1,459] ?_
 refine cO (ι:=Nat) (fun i=> [(1,.p 1 0),(2,.p 2 0),(3,.sl 5 1 0 19),(6,nI i)]) (fun i=>⟨[(1,some (L.flatten.map u8)),(2,some (List.replicate 32 (u8 0))),(5,some (oF i))]⟩) (fun i=>i≤19) (fun i=>19 - i) ?_ ?_
 ·exact cN (0) (Nat.zero_le _) [(1,some 1),(2,some 2),(5,some 5)] hI rfl rfl ⟨⟨_,rfl,.p rfl⟩,⟨_,rfl,.p rfl⟩,⟨_,rfl,.sl rfl aq⟩,⟨_,rfl,.pure pu⟩,trivial⟩ ⟨.inr ⟨_,_,rfl,rfl,.pure bL⟩,.inr ⟨_,_,rfl,rfl,.pure bL⟩,.inr ⟨_,_,rfl,rfl,.of aZ (.pure (by simp [oF];exact bL))⟩,trivial⟩
 rintro i hi
 refine aa [448] ?_
 refine b7 rfl (fun hc7=>?_) (fun hc7=>?_)
 ·have h7 : i < 19 := by have := of_decide_eq_true hc7; omega
  refine aa [477,502,229] ?_
  refine s1 (sP 32 Tryz.underlying23 cc rfl rfl ar aJ bn bn ar ar rfl rfl) rfl <| s1 (ij i Tryz.underlying26 cL rfl rfl rfl rfl ar rfl) rfl <| bK rfl (cV cL rfl rfl rfl rfl aE rfl ?_)
  refine aa [472] ?_
  exact cz (i+1) ar ar [(1,some 1),(2,some 2),(5,some 5)] hI rfl rfl ⟨⟨_,rfl,.p rfl⟩,⟨_,rfl,.p rfl⟩,⟨_,rfl,.sl rfl aq⟩,⟨_,rfl,.pure pu⟩,trivial⟩ ⟨.inr ⟨_,_,rfl,rfl,.pure bL⟩,.inr ⟨_,_,rfl,rfl,.pure bL⟩,.inr ⟨_,_,rfl,rfl,.of (RO i h7) (QA rfl _)⟩,trivial⟩
 ·have h7 : i = 19 := by have := of_decide_eq_false hc7; omega
  subst h7
  refine aa [509] ?_
  refine bK rfl (kN 17 rfl true rfl (.cons (.sl rfl rfl rfl (Iu aB) (TA hD hl rfl) bL) .nil) (NT L hD hl) bL (.inr fT) rfl ?_)
  refine bK rfl (bX true rfl (.cons (.pure pu) (.cons (.sl rfl rfl rfl (c5 aV rfl) (cv.pure bL) bL) .nil)) (SJ L hD hl) pu (.inr fu) rfl ?_)
  refine aa [9,457] ?_
  refine bW (rs:= [.cell 2 23]) rfl (c9 b5 rfl rfl (List.take_of_length_le aB) aB bR) rfl
theorem Qi (x:List UInt8) (hx:x.length=32):bO Tryz.prog 93 [.ag (x.map u8)] (cn (.ag ((py x).map u8))):=by
 refine enter Tryz.func93 rfl Tryz.ntmps93 aw (Nat.le_of_ble_eq_true rfl) fun w0 X0 hI=>?_
 refine aa [496,68,454] ?_
 refine bK rfl (cB 3 rfl yd aw rfl ?_)
 refine aa [456,475] ?_
 refine cO (ι:=Nat) (fun i=> [(1,.p 1 0),(2,.p 2 0),(3,.p 3 0),(5,nI i)]) (fun i=>⟨[(1,some (x.map u8)),(2,some (List.replicate 32 (u8 0))),(3,some (lI 19 (l7 x i)))]⟩) (fun i=>i≤19) (fun i=>19 - i) ?_ ?_
 ·exact cN (0) (Nat.zero_le _) [(1,some 1),(2,some 2),(3,some 3)] hI rfl rfl ⟨⟨_,rfl,.p rfl⟩,⟨_,rfl,.p rfl⟩,⟨_,rfl,.p rfl⟩,⟨_,rfl,.pure pu⟩,trivial⟩ ⟨.inr ⟨_,_,rfl,rfl,.pure bL⟩,.inr ⟨_,_,rfl,rfl,.pure bL⟩,.inr ⟨_,_,rfl,rfl,.of (by rw [Bh,List.map_replicate];exact CN 19) (.pure bL)⟩,trivial⟩
 rintro i hi
 have hDi:=uU x i
 refine aa [448] ?_
 refine b7 rfl (fun hc6=>?_) (fun hc6=>?_)
 ·have h6 : i < 19 := by have := of_decide_eq_true hc6; omega
  refine aa [477,450,12,0,326] ?_
  refine bK rfl (bX false rfl (.cons (.pure pu) (.cons (.pure pu) (.nil))) (yU (kK x i) 3 aB ar) pu (.inl rfl) rfl ?_)
  refine aa [229] ?_
  refine bK rfl (l3 b5 rfl rfl rfl rfl rfl (F4 aB) (by rw [FX hDi (by rw [rO];omega)];omega) (Hj hDi (by rw [rO];omega) (by rw [rO])) ?_)
  refine aa [472] ?_
  exact cz (i+1) ar ar [(1,some 1),(2,some 2),(3,some 3)] hI rfl rfl ⟨⟨_,rfl,.p rfl⟩,⟨_,rfl,.p rfl⟩,⟨_,rfl,.p rfl⟩,⟨_,rfl,.pure pu⟩,trivial⟩ ⟨.inr ⟨_,_,rfl,rfl,.pure bL⟩,.inr ⟨_,_,rfl,rfl,.pure bL⟩,.inr ⟨_,_,rfl,rfl,.of (by rw [Bi]) (.pure bL)⟩,trivial⟩
 ·have h6 : i = 19 := by have := of_decide_eq_false hc6; omega
  subst h6
  refine ep 3 rfl (CO (rO x 19)) <| cG <| b6 <| b6 <| cH <| bG <| bH <| bJ <| s1 (cg yd rfl rfl (by rw [List.length_map,(uU x 19).len,rO])) rfl <| bK rfl (bX false rfl (.cons (.pure pu) (.nil)) (Hh (l7 x 19) (uU x 19) (rO x 19)) pu (.inl rfl) rfl ?_)
  refine aa [9,457] ?_
  refine bW (rs:= [.cell 2 23]) rfl (c9 b5 rfl rfl (List.take_of_length_le aB) aB bR) rfl
theorem R6 (x m:List UInt8) (hx:x.length=32) (hm:m.length=32):bO Tryz.prog 64 [.ag (x.map u8),.ag (m.map u8)] (cn (dq (lz x m))):=by
 refine enter Tryz.func64 rfl Tryz.ntmps64 aw (Nat.le_of_ble_eq_true rfl) fun w0 X0 hI=>?_
 refine aa [501,84,508,12,327,459] ?_
 refine cO (ι:=Nat) (fun i=> [(2,.p 2 0),(4,.sl 4 32 0 i),(8,.ag ((digits m).map nI)),(9,nI i)]) (fun i=>⟨[(2,some (x.map u8)),(4,some ((kS x m i).flatten.map u8))]⟩) (fun i=>i≤19) (fun i=>19 - i) ?_ ?_
 ·exact cN (0) (Nat.zero_le _) [(2,some 2),(4,none)] hI rfl rfl ⟨⟨_,rfl,.p rfl⟩,⟨_,rfl,.nl rfl⟩,⟨_,rfl,.pure pu⟩,⟨_,rfl,.pure pu⟩,trivial⟩ ⟨.inr ⟨_,_,rfl,rfl,.pure bL⟩,.inl ⟨rfl,rfl⟩,trivial⟩
 rintro i hi
 have hDi:=uV x m i
 have hdi:=zW m i
 refine aa [448] ?_
 refine b7 rfl (fun hc10=>?_) (fun hc10=>?_)
 ·have h10 : i < 19 := by have := of_decide_eq_true hc10; omega
  refine aa [514] ?_
  refine s1 (IV i Tryz.underlying184 bP rfl rfl rfl h10 (Fl m i h10)) rfl ?_
  refine aa [0,530,12,0,326,0] ?_
  refine bK rfl (bX false rfl (.cons (.pure pu) (.cons (.pure pu) (.nil))) (yU (kK x i) (dg m i) aB ar) pu (.inl rfl) rfl ?_)
  refine bK rfl (jT 19 rfl Tryz.underlying38 b5 rfl rfl rfl (by simp [cU,pd]) (List.append_nil ((iJ (dg m i) (kK x i)).map u8)) rfl rfl rfl ?_)
  refine bK rfl (dB 20 rfl Tryz.underlying38 b5 rfl (.sl rfl (by rw [List.length_map,hDi.len,AT])) rfl (dE rfl (by rw [List.length_map,pd aB])) (by simp [pd]) aC ar rfl rfl rfl ?_)
  refine aa [488] ?_
  exact cz (i+1) ar ar [(2,some 2),(4,some 20)] hI rfl rfl ⟨⟨_,rfl,.p rfl⟩,⟨_,rfl,.sl rfl aq⟩,⟨_,rfl,.pure pu⟩,⟨_,rfl,.pure pu⟩,trivial⟩ ⟨.inr ⟨_,_,rfl,rfl,.pure bL⟩,.inr ⟨_,_,rfl,rfl,.of (R5 x m i) (.pure bL)⟩,trivial⟩
 ·have h10 : i = 19 := by have := of_decide_eq_false hc10; omega
  subst h10
  refine aa [509,449] ?_
  refine eR 4 rfl rfl bL (c5 (by rw [List.length_map,(uV x m _).len,AT]) rfl) ?_
  refine aa [11] ?_
  show A.fz _ _=dq (kS x m 19)
  rw [dq,AT]
theorem Qx (m:List UInt8) (S:List (List UInt8)) (hm:m.length=32) (hS:cm S):bO Tryz.prog 97 [.ag (m.map u8),dq S] (cn (.tu [.ag ((ix m S).map u8),nI (ll S)])):=by
 refine enter Tryz.func97 rfl Tryz.ntmps97 aw (Nat.le_of_ble_eq_true rfl) fun w0 X0 hI=>?_
 refine aa [501,29,470,445,78,447] ?_
 refine b7 rfl (fun hc11=>?_) (fun hc11=>?_)
 ·have h11 : S.length ≠ 19 := by have := bne_iff_ne.1 hc11; omega
  refine aa [444,12,9] ?_
  refine s1 ((bF rfl).v (v':= .i .i64 50) rfl) rfl ?_
  refine aa [467,155] ?_
  rw [(Ho h11).1,(Ho (m:=m) h11).2]
  rfl
 ·have h11 : S.length = 19 := by have := bne_eq_false_iff_eq.1 hc11; omega
  refine bY <| bG <| bH <| bJ <| bK rfl (cB 6 rfl yd aw rfl ?_)
  refine aa [456,444,12,327,459] ?_
  refine cO (ι:=Nat) (fun i=> [(1,dq S),(4,.p 4 0),(6,.p 6 0),(14,.ag ((digits m).map nI)),(15,nI i)]) (fun i=>⟨[(4,some (List.replicate 32 (u8 0))),(6,some (lI 19 (l9 m S i)))]⟩) (fun i=>i≤19) (fun i=>19 - i) ?_ ?_
  ·exact cN (0) (Nat.zero_le _) [(4,some 4),(6,some 6)] hI rfl rfl ⟨⟨_,rfl,.pure pu⟩,⟨_,rfl,.p rfl⟩,⟨_,rfl,.p rfl⟩,⟨_,rfl,.pure pu⟩,⟨_,rfl,.pure pu⟩,trivial⟩ ⟨.inr ⟨_,_,rfl,rfl,.pure bL⟩,.inr ⟨_,_,rfl,rfl,.of (by rw [Br,List.map_replicate];exact CN 19) (.pure bL)⟩,trivial⟩
  rintro i hi
  have hDi:=Cm (m:=m) hS i ar
  have hdi:=zW m i
  refine aa [448] ?_
  refine b7 rfl (fun hc16=>?_) (fun hc16=>?_)
  ·have h16 : i < 19 := by have := of_decide_eq_true hc16; omega
   obtain⟨q,hq⟩:∃q,S[i]? =some q:=⟨_,List.getElem?_eq_getElem ar⟩
   have hq32:=hS q (List.mem_of_getElem? hq)
   have hq2:S.getD i []=q:=by simp [hq]
   refine aa [514] ?_
   refine s1 (IV i Tryz.underlying184 bP rfl rfl rfl h16 (Fl m i h16)) rfl ?_
   refine aa [0,447,502] ?_
   refine s1 (cD i Tryz.underlying38 b5 rfl rfl rfl ar rfl) rfl <| s1 (eX b5 rfl rfl (Nk hS hq) (by simp [hq32])) rfl <| s1 (bF rfl) rfl <| s1 (fJ 3 (dg m i) rfl rfl rfl rfl ar ar) rfl <| bK rfl (bX false rfl (.cons (.pure pu) (.cons (.pure pu) (.nil))) (yU q (3 - dg m i) hq32 ar) pu (.inl rfl) rfl ?_)
   refine aa [229] ?_
   refine bK rfl (l3 b5 rfl rfl rfl rfl rfl (F4 hq32) (by rw [FX hDi (by rw [rP];omega)];omega) (Hj hDi (by rw [rP];omega) (by rw [rP])) ?_)
   refine aa [472] ?_
   exact cz (i+1) ar ar [(4,some 4),(6,some 6)] hI rfl rfl ⟨⟨_,rfl,.pure pu⟩,⟨_,rfl,.p rfl⟩,⟨_,rfl,.p rfl⟩,⟨_,rfl,.pure pu⟩,⟨_,rfl,.pure pu⟩,trivial⟩ ⟨.inr ⟨_,_,rfl,rfl,.pure bL⟩,.inr ⟨_,_,rfl,rfl,.of (by rw [Bt,hq2]) (.pure bL)⟩,trivial⟩
  ·have h16 : i = 19 := by have := of_decide_eq_false hc16; omega
   subst h16
   refine ep 6 rfl (CO (rP m S 19)) <| cG <| b6 <| b6 <| cH <| bG <| bH <| bJ <| s1 (cg yd rfl rfl (by rw [List.length_map,hDi.len,rP])) rfl <| bK rfl (bX false rfl (.cons (.pure pu) (.nil)) (Hh (l9 m S 19) hDi (rP m S 19)) pu (.inl rfl) rfl ?_)
   refine aa [9,464,155] ?_
   rw [(Bv h11).1,(Bv (m:=m) h11).2]
   rfl
-- D2H
theorem Of (X:BitVec 64):bO Tryz.prog 131 [cM X] (cn (.i .i64 (fb X.toNat:Nat))):=by
 refine enter Tryz.func131 rfl Tryz.ntmps131 aw (Nat.le_of_ble_eq_true rfl) fun w0 X0 hI=>?_
 refine aa [444,470,479] ?_
 refine b7 rfl (fun hc4=>?_) (fun hc4=>?_)
 ·have e4 := qw X 32 (by have := of_decide_eq_true hc4; omega)
  have y4:=qN X 32 32 X.isLt
  refine aa [445] ?_
  refine s1 (mS _ 32 rfl rfl rfl az) rfl ?_
  refine aa [447,1,156,456,479] ?_
  refine b7 rfl (fun hc8=>?_) (fun hc8=>?_)
  ·have e8 := qw (X >>> 32) 16 (by have := of_decide_eq_true hc8; omega)
   have y8:=qN (X>>>32) 16 16 y4
   refine aa [445] ?_
   refine s1 (mS _ 16 rfl rfl rfl az) rfl ?_
   refine aa [447,1,156] ?_
   refine s1 (cl 32 16 rfl rfl rfl rfl ar) rfl ?_
   refine aa [452,479] ?_
   refine b7 rfl (fun hc14=>?_) (fun hc14=>?_)
   ·have e14 := qw ((X >>> 32) >>> 16) 8 (by have := of_decide_eq_true hc14; omega)
    have y14:=qN ((X>>>32)>>>16) 8 8 y8
    refine aa [445,157,530] ?_
    refine s1 (cl _ 8 rfl rfl rfl rfl ar) rfl ?_
    refine aa [455,42] ?_
    refine s1 (pP (((X>>>32)>>>16)>>>8).toNat (UInt8.ofNat (fb (((X>>>32)>>>16)>>>8).toNat)) Tryz.underlying9 rfl aw rfl (pI y14) (pG _ y14)) rfl <| s1 ((eP Tryz.underlying5 Tryz.underlying3 rfl).v (v':= .i .i64 (fb (((X>>>32)>>>16)>>>8).toNat:Nat)) (pH y14)) rfl ?_
    refine aa [92,500] ?_
    exact congrArg (fun k:Nat=>A.i .i64 (k:Int)) ar
   ·have e14 : ((X >>> 32) >>> 16).toNat < 2 ^ 8 := by have := of_decide_eq_false hc14; omega
    have y14:=e14
    refine aa [461,453,42] ?_
    refine s1 (pP ((X>>>32)>>>16).toNat (UInt8.ofNat (fb ((X>>>32)>>>16).toNat)) Tryz.underlying9 rfl aw rfl (pI y14) (pG _ y14)) rfl <| s1 ((eP Tryz.underlying5 Tryz.underlying3 rfl).v (v':= .i .i64 (fb ((X>>>32)>>>16).toNat:Nat)) (pH y14)) rfl ?_
    refine aa [92,500] ?_
    exact congrArg (fun k:Nat=>A.i .i64 (k:Int)) ar
  ·have e8 : (X >>> 32).toNat < 2 ^ 16 := by have := of_decide_eq_false hc8; omega
   have y8:=e8
   refine aa [465,479] ?_
   refine b7 rfl (fun hc14=>?_) (fun hc14=>?_)
   ·have e14 := qw (X >>> 32) 8 (by have := of_decide_eq_true hc14; omega)
    have y14:=qN (X>>>32) 8 8 y8
    refine aa [445,157,447,1,156] ?_
    refine s1 (cl 32 8 rfl rfl rfl rfl ar) rfl ?_
    refine aa [455,42] ?_
    refine s1 (pP ((X>>>32)>>>8).toNat (UInt8.ofNat (fb ((X>>>32)>>>8).toNat)) Tryz.underlying9 rfl aw rfl (pI y14) (pG _ y14)) rfl <| s1 ((eP Tryz.underlying5 Tryz.underlying3 rfl).v (v':= .i .i64 (fb ((X>>>32)>>>8).toNat:Nat)) (pH y14)) rfl ?_
    refine aa [92,500] ?_
    exact congrArg (fun k:Nat=>A.i .i64 (k:Int)) ar
   ·have e14 : (X >>> 32).toNat < 2 ^ 8 := by have := of_decide_eq_false hc14; omega
    have y14:=e14
    refine aa [469,156,0,42] ?_
    refine s1 (pP (X>>>32).toNat (UInt8.ofNat (fb (X>>>32).toNat)) Tryz.underlying9 rfl aw rfl (pI y14) (pG _ y14)) rfl <| s1 ((eP Tryz.underlying5 Tryz.underlying3 rfl).v (v':= .i .i64 (fb (X>>>32).toNat:Nat)) (pH y14)) rfl <| s1 (cl 32 _ rfl rfl rfl rfl (by have:=ox y14;omega)) rfl ?_
    refine aa [500] ?_
    exact congrArg (fun k:Nat=>A.i .i64 (k:Int)) ar
 ·have e4 : X.toNat < 2 ^ 32 := by have := of_decide_eq_false hc4; omega
  have y4:=e4
  refine aa [465,479] ?_
  refine b7 rfl (fun hc8=>?_) (fun hc8=>?_)
  ·have e8 := qw X 16 (by have := of_decide_eq_true hc8; omega)
   have y8:=qN X 16 16 y4
   refine aa [445] ?_
   refine s1 (mS _ 16 rfl rfl rfl az) rfl ?_
   refine aa [447,1,39] ?_
   refine s1 (cl 0 16 rfl rfl rfl rfl ar) rfl ?_
   refine aa [452,479] ?_
   refine b7 rfl (fun hc14=>?_) (fun hc14=>?_)
   ·have e14 := qw (X >>> 16) 8 (by have := of_decide_eq_true hc14; omega)
    have y14:=qN (X>>>16) 8 8 y8
    refine aa [445,157,530] ?_
    refine s1 (cl _ 8 rfl rfl rfl rfl ar) rfl ?_
    refine aa [455,42] ?_
    refine s1 (pP ((X>>>16)>>>8).toNat (UInt8.ofNat (fb ((X>>>16)>>>8).toNat)) Tryz.underlying9 rfl aw rfl (pI y14) (pG _ y14)) rfl <| s1 ((eP Tryz.underlying5 Tryz.underlying3 rfl).v (v':= .i .i64 (fb ((X>>>16)>>>8).toNat:Nat)) (pH y14)) rfl ?_
    refine aa [92,500] ?_
    exact congrArg (fun k:Nat=>A.i .i64 (k:Int)) ar
   ·have e14 : (X >>> 16).toNat < 2 ^ 8 := by have := of_decide_eq_false hc14; omega
    have y14:=e14
    refine aa [461,453,42] ?_
    refine s1 (pP (X>>>16).toNat (UInt8.ofNat (fb (X>>>16).toNat)) Tryz.underlying9 rfl aw rfl (pI y14) (pG _ y14)) rfl <| s1 ((eP Tryz.underlying5 Tryz.underlying3 rfl).v (v':= .i .i64 (fb (X>>>16).toNat:Nat)) (pH y14)) rfl ?_
    refine aa [92,500] ?_
    exact congrArg (fun k:Nat=>A.i .i64 (k:Int)) ar
  ·have e8 : X.toNat < 2 ^ 16 := by have := of_decide_eq_false hc8; omega
   have y8:=e8
   refine aa [465,479] ?_
   refine b7 rfl (fun hc14=>?_) (fun hc14=>?_)
   ·have e14 := qw X 8 (by have := of_decide_eq_true hc14; omega)
    have y14:=qN X 8 8 y8
    refine aa [445,157,447,1,39] ?_
    refine s1 (cl 0 8 rfl rfl rfl rfl ar) rfl ?_
    refine aa [455,42] ?_
    refine s1 (pP (X>>>8).toNat (UInt8.ofNat (fb (X>>>8).toNat)) Tryz.underlying9 rfl aw rfl (pI y14) (pG _ y14)) rfl <| s1 ((eP Tryz.underlying5 Tryz.underlying3 rfl).v (v':= .i .i64 (fb (X>>>8).toNat:Nat)) (pH y14)) rfl ?_
    refine aa [92,500] ?_
    exact congrArg (fun k:Nat=>A.i .i64 (k:Int)) ar
   ·have e14 : X.toNat < 2 ^ 8 := by have := of_decide_eq_false hc14; omega
    have y14:=e14
    refine aa [469,39,0,42] ?_
    refine s1 (pP X.toNat (UInt8.ofNat (fb X.toNat)) Tryz.underlying9 rfl aw rfl (pI y14) (pG _ y14)) rfl <| s1 ((eP Tryz.underlying5 Tryz.underlying3 rfl).v (v':= .i .i64 (fb X.toNat:Nat)) (pH y14)) rfl <| s1 (cl 0 _ rfl rfl rfl rfl (by have:=ox y14;omega)) rfl ?_
    refine aa [500] ?_
    exact congrArg (fun k:Nat=>A.i .i64 (k:Int)) ar
theorem Ou (X:BitVec 64):bO Tryz.prog 100 [cM X] (cn (.i .i64 (fb X.toNat:Nat))):=by
 refine enter Tryz.func100 rfl Tryz.ntmps100 aw (Nat.le_of_ble_eq_true rfl) fun w0 X0 hI=>?_
 refine aa [444,470,101,461,445] ?_
 refine bK rfl (bX false rfl (.cons (.pure pu) (.nil)) (Of X) pu (.inl rfl) rfl ?_)
 refine aa [449] ?_
 refine bW (rs:= [.tmp 2]) rfl (bT rfl (bR)) rfl
theorem AB (n:Nat) (h:2≤n) (hn:n≤1099511627776):bO Tryz.prog 48 [.i .i64 (n:Nat)] (cn (.i .i64 (cC n:Nat))):=by
 refine enter Tryz.func48 rfl Tryz.ntmps48 aw (Nat.le_of_ble_eq_true rfl) fun w0 X0 hI=>?_
 refine aa [444,551,445] ?_
 refine s1 (fJ n 1 rfl rfl rfl rfl ar ar) rfl <| s1 (uj (n - 1) Tryz.underlying3 Tryz.underlying124 rfl rfl) rfl <| bK rfl (bX false rfl (.cons (.pure pu) (.nil)) (Ou (cP (n - 1))) pu (.inl rfl) rfl ?_)
 refine s1 ((fJ (fb (cP (n - 1)).toNat) 1 rfl rfl rfl rfl (by rw [zx (n:=n - 1) ar,FV ar];omega) (by rw [zx (n:=n - 1) ar];have:=Og (x:=n - 1) ar;omega)).v (v':= .i .i64 ((n - 1).log2:Nat)) (congrArg (fun k:Nat=>A.i .i64 (k:Int)) (by rw [zx (n:=n - 1) ar,FV ar];omega))) rfl <| s1 ((qU rfl rfl ar).v (v':= .i .i64 (cC n:Nat)) (RY h hn)) rfl ?_
 refine aa [449] ?_
 refine bW (rs:= [.tmp 2]) rfl (bT rfl (bR)) rfl
-- D2T1
theorem Il (L:List (List UInt8)) (hD:cm L) (hl:L.length≤1048576) (ih:∀M:List (List UInt8),M.length<L.length→cm M→bO Tryz.prog 20 [dq M] (cn (.ag ((tree M).map u8)))):bO Tryz.prog 20 [dq L] (cn (.ag ((tree L).map u8))):=by
 refine enter Tryz.func20 rfl Tryz.ntmps20 aw (Nat.le_of_ble_eq_true rfl) fun w0 X0 hI=>?_
 refine aa [444,68,456,445,78,460,13,479] ?_
 refine b7 rfl (fun hc6=>?_) (fun hc6=>?_)
 ·have h6 : L.length = 0 := by have := of_decide_eq_true hc6; omega
  obtain rfl:=List.eq_nil_of_length_eq_zero h6
  refine bH <| bJ <| bK rfl (bX false rfl (.cons (.pure pu) (.cons .nl (.nil))) (kB _ [] aB aB) pu (.inl rfl) rfl ?_)
  refine aa [30,457,546,230] ?_
  rw [Ik]
  rfl
 ·have h6 : ¬ L.length = 0 := by have := of_decide_eq_false hc6; omega
  refine aa [479] ?_
  refine b7 rfl (fun hc9=>?_) (fun hc9=>?_)
  ·have h9 : L.length = 1 := by have := of_decide_eq_true hc9; omega
   obtain⟨x,rfl⟩:=List.length_eq_one_iff.1 h9
   have hx:=hD x (.head _)
   refine aa [445] ?_
   refine s1 (cD 0 Tryz.underlying38 b5 rfl rfl rfl aB rfl) rfl <| s1 ((uR 32 Tryz.underlying23 cc rfl aJ bn bn (Nat.zero_le _) (Nat.le_refl _) aB rfl rfl).v (LD hx)) rfl <| bK rfl (bX false rfl (.cons (.pure pu) (.cons (.pure pu) (.nil))) (kB _ x ar aB) pu (.inl rfl) rfl ?_)
   refine aa [30,457,546,230] ?_
   rw [B2]
   rfl
  ·have h9 : ¬ L.length = 1 := by have := of_decide_eq_false hc9; omega
   refine aa [19,545,445,78,328,452] ?_
   refine eG ⟨_, [], []⟩ 9 4 c8 (le_refl rfl) ?_
   have hh:=js (n:=L.length) ar
   refine aa [31,16,329] ?_
   refine ee false 3 [2] [] cK rfl (.cons (.pure pu) (.nil)) (ih (L.take (cC L.length)) aH (hD.take _)) pu (.inl rfl) rfl rfl ?_
   refine aa [88,85] ?_
   refine bQ 6 [4,5] [] ((mU (L.length - cC L.length) Tryz.underlying38 b5 rfl aY (bs rfl rfl) bn ar ar rfl rfl).v (v':=dq (L.drop (cC L.length))) (zO hD rfl)) rfl rfl <| ee false 7 [6] [] cK rfl (.cons (.pure pu) (.nil)) (ih (L.drop (cC L.length)) aF (hD.drop _)) pu (.inl rfl) rfl rfl <| ee false 8 [3,7] [] cK rfl (.cons (.pure pu) (.cons (.pure pu) (.nil))) (A6 (fun t b h1 h2=>kB t b ar ar) _ _ (lZ _) (lZ _)) pu (.inl rfl) rfl rfl ?_
   refine aa [4,30,457,230] ?_
   rw [yf (L:=L) ar]
   rfl
theorem sL:∀(n:Nat) (L:List (List UInt8)),L.length≤n→cm L→L.length≤1048576→bO Tryz.prog 20 [dq L] (cn (.ag ((tree L).map u8)))
  |0,L,h,hD,hl=>Il L hD hl (fun M hM=>absurd hM ar)
  |n+1,L,h,hD,hl=>Il L hD hl (fun M hM hM2=>sL n M ar hM2 ar)
-- D2T2
theorem S2 (L:List (List UInt8)) (i:Nat) (hD:cm L) (hi:i<L.length) (hl:L.length≤1048576) (ih:∀(M:List (List UInt8)) (i:Nat),M.length<L.length→cm M→i<M.length→bO Tryz.prog 110 [dq M,.i .i64 (i:Nat)] (eY 32 (path M i).length ((path M i).flatten.map u8))):bO Tryz.prog 110 [dq L,.i .i64 (i:Nat)] (eY 32 (path L i).length ((path L i).flatten.map u8)):=by
 refine enter Tryz.func110 rfl Tryz.ntmps110 aw (Nat.le_of_ble_eq_true rfl) fun w0 X0 hI=>?_
 refine aa [539,78,447] ?_
 refine b7 rfl (fun hc8=>?_) (fun hc8=>?_)
 ·have h8 : L.length = 1 := by have := of_decide_eq_true hc8; omega
  refine aa [504] ?_
  refine C6 99 rfl 4 32 rfl ?_
  refine bW (rs:= [.tmp 4]) rfl (bT rfl bR) ⟨99,?_,?_⟩
  ·rw [px i ar];rfl
  ·rw [px i ar];rfl
 ·have h8 : ¬ L.length = 1 := by have := of_decide_eq_false hc8; omega
  refine aa [461,445,78,328,452,453,447] ?_
  refine b7 rfl (fun hc14=>?_) (fun hc14=>?_)
  ·have h14 : i < (cC L.length) := by have := of_decide_eq_true hc14; omega
   have hh:=js (n:=L.length) ar
   have hpl:=wR L.length (L.take (cC L.length)) i aH
   refine aa [3,133,31,16,329,66] ?_
   refine qo 19 false 4 [2,3] [] cK rfl (.cons (.pure pu) (.cons (.pure pu) (.nil))) (ih (L.take (cC L.length)) i aH (hD.take _) aH) bL (.inl rfl) rfl rfl ?_
   refine aa [85,138] ?_
   refine bQ 7 [5,6] [] ((mU (L.length - (cC L.length)) Tryz.underlying38 b5 rfl aY (bs rfl rfl) bn ar ar rfl rfl).v (v':=dq (L.drop (cC L.length))) (zO hD rfl)) rfl rfl <| ee false 8 [7] [] cK rfl (.cons (.pure pu) (.nil)) (sL _ (L.drop (cC L.length)) (Nat.le_refl _) (hD.drop _) aF) pu (.inl rfl) rfl rfl <| ni 24 9 [8] cK Tryz.underlying38 b5 rfl rfl rfl aK (List.append_nil ((tree (L.drop (cC L.length))).map u8)) rfl rfl rfl rfl <| k6 25 10 [4,9] [(19,some 4),(24,some 9)] cK Tryz.underlying38 b5 rfl (.sl rfl (by rw [List.length_map,(qV _ (L.take (cC L.length)) i (Nat.le_refl _)).len])) rfl (dE rfl au) (by simp [lZ]) aC ar rfl rfl rfl rfl ?_
   refine aa [4,531] ?_
   refine bW (rs:= [.tmp 4]) rfl (bT rfl bR) ⟨25,?_,?_⟩
   ·rw [r9 ar h14,List.length_append];rfl
   ·rw [r9 ar h14]
    exact congrArg some aB
  ·have h14 : ¬ i < (cC L.length) := by have := of_decide_eq_false hc14; omega
   have hh:=js (n:=L.length) ar
   have hpl:=wR L.length (L.drop (cC L.length)) (i - (cC L.length)) aF
   refine bY <| bG <| bH <| eG ⟨_, [], []⟩ 13 4 c8 (le_refl rfl) ?_
   refine aa [31,16] ?_
   refine bQ 2 [0,1] [] ((mU (L.length - (cC L.length)) Tryz.underlying38 b5 rfl aY (bs rfl rfl) bn ar ar rfl rfl).v (v':=dq (L.drop (cC L.length))) (zO hD rfl)) rfl rfl ?_
   refine aa [66,88] ?_
   refine bQ 5 [3,4] [] (fJ i (cC L.length) rfl rfl rfl rfl ar ar) rfl rfl <| qo 32 false 6 [2,5] [] cK rfl (.cons (.pure pu) (.cons (.pure pu) (.nil))) (ih (L.drop (cC L.length)) (i - (cC L.length)) aF (hD.drop _) aF) bL (.inl rfl) rfl rfl ?_
   refine aa [200] ?_
   refine bQ 8 [] [] (bF rfl) rfl rfl <| bQ 9 [7,8] [] ((mU (cC L.length) Tryz.underlying38 b5 rfl aY bn (bs rfl rfl) ar ar rfl rfl).v (v':=dq (L.take (cC L.length))) (zP hD ar)) rfl rfl <| ee false 10 [9] [] cK rfl (.cons (.pure pu) (.nil)) (sL _ (L.take (cC L.length)) (Nat.le_refl _) (hD.take _) aH) pu (.inl rfl) rfl rfl <| ni 37 11 [10] cK Tryz.underlying38 b5 rfl rfl rfl aK (List.append_nil ((tree (L.take (cC L.length))).map u8)) rfl rfl rfl rfl <| k6 38 12 [6,11] [(32,some 6),(37,some 11)] cK Tryz.underlying38 b5 rfl (.sl rfl (by rw [List.length_map,(qV _ (L.drop (cC L.length)) (i - (cC L.length)) (Nat.le_refl _)).len])) rfl (dE rfl au) (by simp [lZ]) aC ar rfl rfl rfl rfl ?_
   refine aa [4,449] ?_
   refine bW (rs:= [.tmp 4]) rfl (bT rfl bR) ⟨38,?_,?_⟩
   ·rw [sa ar h14,List.length_append];rfl
   ·rw [sa ar h14]
    exact congrArg some aB
theorem Ij:∀(n:Nat) (L:List (List UInt8)) (i:Nat),L.length≤n→cm L→i<L.length→L.length≤1048576→bO Tryz.prog 110 [dq L,.i .i64 (i:Nat)] (eY 32 (path L i).length ((path L i).flatten.map u8))
  |0,L,i,h,hD,hi,hl=>absurd hi ar
  |n+1,L,i,h,hD,hi,hl=>S2 L i hD hi hl (fun M i hM hM2 hi=>Ij n M i ar hM2 hi ar)
-- D2T3
theorem G9 (L:List (List UInt8)) (a:Int) (hD:cm L) (hl:L.length≤1048576):bO Tryz.prog 63 [dq L,.i .i64 a] (cn (qI L a)):=by
 refine enter Tryz.func63 rfl Tryz.ntmps63 aw (Nat.le_of_ble_eq_true rfl) fun w0 X0 hI=>?_
 refine aa [445,470,489] ?_
 refine jr 4 rfl rfl rfl rfl (fun hb8=> .step (bF rfl) rfl rfl<| .step (bF rfl) rfl rfl<| .step (cf Tryz.underlying38 rfl rfl rfl) rfl rfl<| .step (bF rfl) rfl rfl<| .done) rfl rfl <| bI <| bG ?_
 refine b7 rfl (fun hc13=>?_) (fun hc13=>?_)
 ·have h13 : ¬ (0 ≤ a ∧ a < L.length) := by simp at hc13; omega
  refine aa [445,102,467,35] ?_
  rw [qI,if_neg h13]
  rfl
 ·have h13 : 0 ≤ a ∧ a < L.length := by simp at hc13; omega
  obtain⟨i,rfl⟩:∃i:Nat,a=(i:Int):=⟨a.toNat,by omega⟩
  refine aa [461,453] ?_
  refine bK rfl (kN 16 rfl false rfl (.cons (.pure pu) (.cons (.pure pu) (.nil))) (Ij _ L i (Nat.le_refl _) hD ar hl) bL (.inl rfl) rfl ?_)
  refine aa [532] ?_
  refine eR 4 rfl rfl bL (c5 (by rw [List.length_map,(qV _ L i (Nat.le_refl _)).len]) rfl) ?_
  refine aa [35] ?_
  rw [qI,if_pos h13,Int.toNat_natCast]
  rfl
-- D2T5
-- D2T4
theorem Ld (d:List UInt8) (hd:d.length=32) (a nn:Int) (P:List (List UInt8)) (hD:cm P):bO Tryz.prog 99 [.ag (d.map u8),.i .i64 a,.i .i64 nn,dq P] (cn (rr d a nn P)):=by
 refine enter Tryz.func99 rfl Tryz.ntmps99 aw (Nat.le_of_ble_eq_true rfl) fun w0 X0 hI=>?_
 refine aa [444,43] ?_
 refine bK rfl (cB 8 rfl b5 rfl rfl ?_)
 refine aa [470,489,297,0] ?_
 refine jr 2 rfl rfl rfl rfl (fun hb20=> .step (bF rfl) rfl rfl<| .step (bF rfl) rfl rfl<| .done) rfl rfl <| s1 (bF rfl) rfl <| jr 3 rfl rfl rfl rfl (fun hb24=> .step (bF rfl) rfl rfl<| .step (bF rfl) rfl rfl<| .step (bF rfl) rfl rfl<| .done) rfl rfl <| bI <| bG ?_
 refine b7 rfl (fun hc28=>?_) (fun hc28=>?_)
 ·have hbad : ¬ fits a nn P.length := by intro h; unfold fits at h; simp at hc28; omega
  refine aa [444,114,158,102,467,231] ?_
  rw [rr,if_neg hbad]
  rfl
 ·have h28 : 1 ≤ nn ∧ nn ≤ 1099511627776 ∧ 0 ≤ a ∧ a < nn := by simp at hc28; omega
  obtain⟨i,rfl⟩:∃i:Nat,a=(i:Int):=⟨a.toNat,by omega⟩
  obtain⟨n,rfl⟩:∃n:Nat,nn=(n:Int):=⟨nn.toNat,by omega⟩
  have hn1:1≤n:=by omega
  have hn:n≤1099511627776:=by omega
  have hi:i<n:=by omega
  refine aa [461,448,13] ?_
  refine cO (ι:=List Bool×Nat×Nat) (fun⟨ds,i2,n2⟩=> [(1,.i .i64 (i2:Nat)),(2,.i .i64 (n2:Nat)),(3,dq P),(4,.p 4 0),(8,.p 8 0),(10,.sl 10 1 0 ds.length)]) (fun⟨ds,i2,n2⟩=>⟨[(4,some (d.map u8)),(8,some (List.replicate 32 (u8 0))),(10,some (ds.map A.b))]⟩) (fun⟨ds,i2,n2⟩=>fI i n=ds++fI i2 n2∧1≤n2∧i2<n2∧n2≤n∧ds.length+(fI i2 n2).length≤n) (fun⟨ds,i2,n2⟩=>n2) ?_ ?_
  ·exact cN (([],i,n)) (⟨rfl,hn1,hi,Nat.le_refl _,by have:=xO _ i n (Nat.le_refl _);simpa using this⟩) [(4,some 4),(8,some 8),(10,none)] hI rfl rfl ⟨⟨_,rfl,.pure pu⟩,⟨_,rfl,.pure pu⟩,⟨_,rfl,.pure pu⟩,⟨_,rfl,.p rfl⟩,⟨_,rfl,.p rfl⟩,⟨_,rfl,.nl rfl⟩,trivial⟩ ⟨.inr ⟨_,_,rfl,rfl,.pure bL⟩,.inr ⟨_,_,rfl,rfl,.pure bL⟩,.inl ⟨rfl,rfl⟩,trivial⟩
  rintro⟨ds,i2,n2⟩ ⟨hr,h1,hi2,hn2,hlen⟩
  dsimp only
  refine aa [533] ?_
  refine b7 rfl (fun hc31=>?_) (fun hc31=>?_)
  ·have h31 : 2 ≤ n2 := by have := of_decide_eq_true hc31; omega
   have hh:=js h31
   refine aa [461,13,445] ?_
   refine bK rfl (bX false rfl (.cons (.pure pu) (.nil)) (AB n2 ar ar) pu (.inl rfl) rfl ?_)
   refine aa [455,446] ?_
   refine bK rfl (dz 38 rfl Tryz.underlying48 kU rfl rfl rfl rfl rfl ?_)
   refine bK rfl (dB 39 rfl Tryz.underlying48 kU rfl (.sl rfl aB) rfl (dE rfl au) au aC ar rfl rfl rfl ?_)
   refine aa [455,447] ?_
   refine b7 rfl (fun hc42=>?_) (fun hc42=>?_)
   ·have h42 : (i2 : Int) ≥ (cC n2) := of_decide_eq_true hc42
    have h42n:¬i2<(cC n2):=by omega
    refine aa [451] ?_
    refine s1 (fJ i2 (cC n2) rfl rfl rfl rfl ar ar) rfl ?_
    refine aa [446] ?_
    refine s1 (fJ n2 (cC n2) rfl rfl rfl rfl ar ar) rfl ?_
    refine aa [446,503] ?_
    exact cz (x:=(ds,i2,n2)) ((ds++ [true],i2 - (cC n2),n2 - (cC n2))) (⟨by rw [hr,uy ar h42n];simp,by dsimp only;omega,by dsimp only;omega,by dsimp only;omega,by rw [uy ar h42n,List.length_cons]at hlen;dsimp only;rw [List.length_append];simp;omega⟩) (by dsimp only;omega) [(4,some 4),(8,some 8),(10,some 39)] hI rfl rfl ⟨⟨_,rfl,.pure pu⟩,⟨_,rfl,.pure pu⟩,⟨_,rfl,.pure pu⟩,⟨_,rfl,.p rfl⟩,⟨_,rfl,.p rfl⟩,⟨_,rfl,.sl rfl au⟩,trivial⟩ ⟨.inr ⟨_,_,rfl,rfl,.pure bL⟩,.inr ⟨_,_,rfl,rfl,.pure bL⟩,.inr ⟨_,_,rfl,rfl,.of (by simp [h42]) (.pure bL)⟩,trivial⟩
   ·have h42 : ¬ (i2 : Int) ≥ (cC n2) := of_decide_eq_false hc42
    have h42n:i2<(cC n2):=by omega
    refine aa [451,503] ?_
    exact cz (x:=(ds,i2,n2)) ((ds++ [false],i2,(cC n2))) (⟨by rw [hr,uw ar h42n];simp,by dsimp only;omega,by dsimp only;omega,by dsimp only;omega,by rw [uw ar h42n,List.length_cons]at hlen;dsimp only;rw [List.length_append];simp;omega⟩) (by dsimp only;omega) [(4,some 4),(8,some 8),(10,some 39)] hI rfl rfl ⟨⟨_,rfl,.pure pu⟩,⟨_,rfl,.pure pu⟩,⟨_,rfl,.pure pu⟩,⟨_,rfl,.p rfl⟩,⟨_,rfl,.p rfl⟩,⟨_,rfl,.sl rfl au⟩,trivial⟩ ⟨.inr ⟨_,_,rfl,rfl,.pure bL⟩,.inr ⟨_,_,rfl,rfl,.pure bL⟩,.inr ⟨_,_,rfl,rfl,.of (by simp [h42]) (.pure bL)⟩,trivial⟩
  ·have h31 : n2 = 1 := by have := of_decide_eq_false hc31; omega
   subst h31
   rw [sr (Nat.le_refl _),List.append_nil]at hr
   subst hr
   refine aa [463,445,78,0] ?_
   refine s1 (cf Tryz.underlying48 rfl rfl rfl) rfl ?_
   refine aa [447] ?_
   refine b7 rfl (fun hc54=>?_) (fun hc54=>?_)
   ·have hbad : ¬ fits (i : Int) (n : Int) P.length := by
     intro h
     unfold fits at h
     have h5:=h.2.2.2.2
     rw [Int.toNat_natCast,Int.toNat_natCast]at h5
     have:=bne_iff_ne.1 hc54
     omega
    refine aa [444,114,158,102,467,231] ?_
    rw [rr,if_neg hbad]
    rfl
   ·have hP : P.length = (fI i n).length := by have := bne_eq_false_iff_eq.1 hc54; omega
    have hfit:fits (i:Int) (n:Int) P.length:=⟨by omega,by omega,by omega,by omega,by rw [Int.toNat_natCast,Int.toNat_natCast];exact hP⟩
    refine bY <| bG <| bH <| bJ <| s1 (jL Tryz.underlying23 cc rfl rfl (by simp [hd]) aJ) rfl <| bK rfl (bX true rfl (.cons (.pure pu) (.cons (.sl rfl rfl au (c5 au aM) (cv.pure bL) bL) (.nil))) (by have h:=kB [108,101,97,102] d ar aB;rw [hd]at h;exact h) pu (.inr fu) rfl ?_)
    refine aa [158,456,445,78,459] ?_
    refine cO (ι:=Nat) (fun j=> [(8,.p 8 0),(10,.sl 10 1 0 (fI i n).length),(58,dq P),(59,.i .i64 (P.length:Nat)),(60,.i .i64 (j:Nat))]) (fun j=>⟨[(8,some ((fold ((fI i n).reverse.take j) (P.take j) (rL d)).map u8)),(10,some ((fI i n).map A.b))]⟩) (fun j=>j≤P.length) (fun j=>P.length - j) ?_ ?_
    ·exact cN (0) (Nat.zero_le _) [(8,some 8),(10,some 10)] hI rfl rfl ⟨⟨_,rfl,.p rfl⟩,⟨_,rfl,.sl rfl au⟩,⟨_,rfl,.pure pu⟩,⟨_,rfl,.pure pu⟩,⟨_,rfl,.pure pu⟩,trivial⟩ ⟨.inr ⟨_,_,rfl,rfl,.of (by rw [List.take_zero];rfl) (.pure bL)⟩,.inr ⟨_,_,rfl,rfl,.pure bL⟩,trivial⟩
    rintro j hj
    have hlf:(fold ((fI i n).reverse.take j) (P.take j) (rL d)).length=32:=AP _ _ _ (pf _ _)
    have hrl:=xO _ i n (Nat.le_refl _)
    refine aa [448] ?_
    refine b7 rfl (fun hc61=>?_) (fun hc61=>?_)
    ·have hj2 : j < P.length := by have := of_decide_eq_true hc61; omega
     obtain⟨q,hq⟩:∃q,P[j]? =some q:=⟨_,List.getElem?_eq_getElem hj2⟩
     have hq32:q.length=32:=hD q (List.mem_of_getElem? hq)
     obtain⟨b,hb⟩:∃b,(fI i n).reverse[j]? =some b:=⟨_,List.getElem?_eq_getElem aE⟩
     have hb2:(fI i n)[(fI i n).length - 1 - j]? =some b:=by rw [List.getElem?_reverse ar]at hb;exact hb
     refine aa [514] ?_
     refine s1 (cD j Tryz.underlying38 b5 rfl rfl rfl ar rfl) rfl <| s1 (eX b5 rfl rfl (Nj hD hq) (by simp [hq32])) rfl <| bK rfl (cB 13 rfl b5 rfl rfl ?_)
     refine s1 (bF rfl) rfl <| bK rfl (cu b5 rfl rfl rfl (by simp [hq32]) aB ?_)
     refine aa [460,453] ?_
     refine s1 (cf Tryz.underlying48 rfl rfl rfl) rfl <| s1 (fJ (fI i n).length 1 rfl rfl rfl rfl ar ar) rfl <| s1 (bF rfl) rfl <| s1 (fJ ((fI i n).length - 1) j rfl rfl rfl rfl ar ar) rfl <| s1 (ij ((fI i n).length - 1 - j) Tryz.underlying48 kU rfl rfl rfl rfl ar rfl) rfl <| s1 (bM kU rfl rfl (Ni hb2)) rfl <| bI <| bG ?_
     refine b7 rfl (fun hc72=>?_) (fun hc72=>?_)
     ·skip
      refine bJ <| s1 (cg b5 rfl rfl (by simp [hq32])) rfl <| s1 (cg b5 rfl rfl (by simp [hlf])) rfl <| bK rfl (bX false rfl (.cons (.pure pu) (.cons (.pure pu) (.nil))) (A6 (fun t b h1 h2=>kB t b ar ar) q _ hq32 hlf) pu (.inl rfl) rfl ?_)
      refine aa [330,472] ?_
      exact cz (j+1) ar ar [(8,some 8),(10,some 10)] hI rfl rfl ⟨⟨_,rfl,.p rfl⟩,⟨_,rfl,.sl rfl au⟩,⟨_,rfl,.pure pu⟩,⟨_,rfl,.pure pu⟩,⟨_,rfl,.pure pu⟩,trivial⟩ ⟨.inr ⟨_,_,rfl,rfl,.of (by rw [E4 hb hq,if_pos hc72];rfl) (.pure bL)⟩,.inr ⟨_,_,rfl,rfl,.pure bL⟩,trivial⟩
     ·skip
      refine bJ <| s1 (cg b5 rfl rfl (by simp [hlf])) rfl <| s1 (cg b5 rfl rfl (by simp [hq32])) rfl <| bK rfl (bX false rfl (.cons (.pure pu) (.cons (.pure pu) (.nil))) (A6 (fun t b h1 h2=>kB t b ar ar) _ q hlf hq32) pu (.inl rfl) rfl ?_)
      refine aa [330,472] ?_
      exact cz (j+1) ar ar [(8,some 8),(10,some 10)] hI rfl rfl ⟨⟨_,rfl,.p rfl⟩,⟨_,rfl,.sl rfl au⟩,⟨_,rfl,.pure pu⟩,⟨_,rfl,.pure pu⟩,⟨_,rfl,.pure pu⟩,trivial⟩ ⟨.inr ⟨_,_,rfl,rfl,.of (by rw [E4 hb hq,if_neg (by rw [hc72];decide)];rfl) (.pure bL)⟩,.inr ⟨_,_,rfl,rfl,.pure bL⟩,trivial⟩
    ·have hj2 : j = P.length := by have := of_decide_eq_false hc61; omega
     subst hj2
     have hct:fold ((fI i n).reverse.take P.length) (P.take P.length) (rL d)=kG d i n P:=by rw [List.take_length,List.take_of_length_le aE];rfl
     refine aa [463] ?_
     refine ep 8 rfl (cs':=(kG d i n P).map u8) (by rw [hct]) ?_
     refine aa [1,114,158,464,231] ?_
     rw [rr,if_pos hfit,Int.toNat_natCast,Int.toNat_natCast]
     rfl
-- K6B
theorem SK (x:List UInt8) (a:Int) (hx:x.length=32):bO Tryz.prog 25 [.s [108,101,97,102],.fz 36 ((x++fZ a 4).map u8)] (cn (.ag ((iR x a).map u8))):=by
  have e2:(x++fZ a 4).length=36:=by simp [hx]
  rw [HK, ←e2];exact kB _ _ ar aB
theorem HL (x:List UInt8) (a:Int) (hx:x.length=32):bO Tryz.prog 65 [.ag (x.map u8),.i .i64 a] (cn (.ag ((iR x a).map u8))):=by
 refine enter Tryz.func65 rfl Tryz.ntmps65 aw (Nat.le_of_ble_eq_true rfl) fun w0 X0 hI=>?_
 refine aa [501,29,454] ?_
 refine bK rfl (cB 5 rfl SZ rfl rfl ?_)
 refine bI <| bG <| bH <| gq 2 c8 aw <| t1 (jL Tryz.underlying186 cc rfl rfl aB aJ) rfl <| t1 (jL Tryz.underlying23 cc rfl rfl aI aJ) rfl <| gu <| bK rfl (O7 Tryz.underlying47 cc rfl rfl rfl (dE rfl aI) aq av av av (Lw (a:=a)) rfl ?_)
 refine aa [456,475] ?_
 refine cO (ι:=Nat) (fun i=> [(1,.i .i64 a),(4,.p 4 0),(5,.p 5 0),(10,.i .i64 (i:Nat))]) (fun i=>⟨[(4,some (zD.map u8)),(5,some ((x++fZ a i++List.replicate (4 - i) 0).map u8))]⟩) (fun i=>i≤4) (fun i=>4 - i) ?_ ?_
 ·exact cN (0) (Nat.zero_le _) [(4,some 4),(5,some 5)] hI rfl rfl ⟨⟨_,rfl,.pure pu⟩,⟨_,rfl,.p rfl⟩,⟨_,rfl,.p rfl⟩,⟨_,rfl,.pure pu⟩,trivial⟩ ⟨.inr ⟨_,_,rfl,rfl,.pure bL⟩,.inr ⟨_,_,rfl,rfl,.pure bL⟩,trivial⟩
 rintro i hi
 refine aa [448] ?_
 refine b7 rfl (fun hc11=>?_) (fun hc11=>?_)
 ·have h11 : i < 4 := by have := of_decide_eq_true hc11; omega
  refine aa [477,450] ?_
  refine s1 (cl 32 i rfl rfl rfl rfl ar) rfl ?_
  refine aa [446,205] ?_
  refine s1 (fJ 24 (8*i) rfl rfl rfl rfl ar ar) rfl <| s1 (lD rfl rfl ar) rfl <| s1 ((eP Tryz.underlying3 Tryz.underlying5 rfl).v (xT a i h11)) rfl <| s1 (cX (32+i) Tryz.underlying186 cc rfl rfl rfl ar rfl) rfl <| bK rfl (cV cc rfl rfl rfl rfl (by simp [hx];omega) (RN hx a i h11) ?_)
  refine aa [472] ?_
  exact cz (i+1) ar ar [(4,some 4),(5,some 5)] hI rfl rfl ⟨⟨_,rfl,.pure pu⟩,⟨_,rfl,.p rfl⟩,⟨_,rfl,.p rfl⟩,⟨_,rfl,.pure pu⟩,trivial⟩ ⟨.inr ⟨_,_,rfl,rfl,.pure bL⟩,.inr ⟨_,_,rfl,rfl,.of aZ (.pure bL)⟩,trivial⟩
 ·have h11 : i = 4 := by have := of_decide_eq_false hc11; omega
  subst h11
  refine aa [483] ?_
  refine s1 (jL Tryz.underlying186 cc rfl rfl aI aJ) rfl <| bK rfl (bX true rfl (.cons (.pure pu) (.cons (.sl rfl rfl rfl (c5 aI aB) (cv.pure bL) bL) .nil)) (SK x a hx) pu (.inr fu) rfl ?_)
  refine aa [9,457] ?_
  refine bW (rs:= [.cell 4 23]) rfl (c9 b5 rfl rfl (List.take_of_length_le aB) aB bR) rfl
theorem Qj (x:List UInt8) (n:Nat):bO Tryz.prog 46 [.ag (x.map u8),nI n] (cn (.fn (.func 92) [] [.fp [nI n],.fp (x.map u8)])):=by
 refine enter Tryz.func46 rfl Tryz.ntmps46 aw (Nat.le_of_ble_eq_true rfl) fun w0 X0 hI=>?_
 refine aa [501,129,452,130,41,1] ?_
 refine s1 (iz (us:= []) (vs:= [.fp [nI n],.fp (x.map u8)]) rfl rfl) rfl ?_
 refine aa [449] ?_
 refine bW (rs:= [.tmp 4]) rfl (bT rfl bR) rfl
theorem JL (x:List UInt8) (n:Nat) (hx:x.length=32) (hn:n≤256):bO Tryz.prog 91 [.nl,.fn (.func 92) [] [.fp [nI n],.fp (x.map u8)]] (eY 32 n ((fB x n).flatten.map u8)):=by
 refine qm Tryz.func91 rfl Tryz.ntmps91 aw (Nat.le_of_ble_eq_true rfl) fun w0 X0 hI hS=>?_
 refine aa [444,83,508,510] ?_
 refine tg [2] [(0,_),(1,_),(2,_),(4,_),(6,_)] hI rfl ⟨rfl,⟨rfl,⟨rfl,⟨rfl,⟨rfl,trivial⟩⟩⟩⟩⟩ aD rfl Tryz.func92 rfl Tryz.ntmps92 aw (Nat.le_of_ble_eq_true rfl) fun w1 l1 D1 rc1 hR1=>?_
 refine aa [444,2,459] ?_
 refine cO (ι:=Nat) (fun i=> [(0,yv l1),(1,.fp [nI n]),(2,.fp (x.map u8)),(5,nI n),(6,nI i)]) (fun i=>⟨[(2,some ([.sl 11 32 0 i])),(11,some ((fB x i).flatten.map u8))]⟩) (fun i=>i≤n) (fun i=>n - i) ?_ ?_
 ·exact cN (0) (Nat.zero_le _) [(2,some 2),(11,none)] hR1.sub.ids rfl rfl ⟨⟨_,rfl,.pure trivial⟩,⟨_,rfl,.pure pu⟩,⟨_,rfl,.pure pu⟩,⟨_,rfl,.pure pu⟩,⟨_,rfl,.pure pu⟩,trivial⟩ ⟨.inr ⟨_,_,rfl,rfl,.cons (.nl rfl) .nil⟩,.inl ⟨rfl,rfl⟩,trivial⟩
 rintro i hi
 have hfl:=(pR x i).len
 rw [qz]at hfl
 refine aa [448] ?_
 refine b7 rfl (fun hc7=>?_) (fun hc7=>?_)
 ·have h7 : i < n := by have := of_decide_eq_true hc7; omega
  refine aa [477,445,107,0] ?_
  refine bK rfl (bX false rfl (.cons (.pure pu) (.cons (.pure pu) (.nil))) (HL x (i:Nat) hx) pu (.inl rfl) rfl ?_)
  refine bK rfl (bX false rfl (.cons (.pure pu) (.nil)) (Qi (iR x (i:Nat)) aB) pu (.inl rfl) rfl ?_)
  refine nc [2] [(0,_),(1,_),(2,_),(4,_),(5,_),(6,_),(7,_),(8,_),(9,_),(10,_),(11,_),(12,_),(13,_)] hR1 hR1.sub.ids rfl ⟨rfl,⟨rfl,⟨rfl,⟨rfl,⟨rfl,⟨rfl,⟨rfl,⟨rfl,⟨rfl,⟨rfl,⟨rfl,⟨rfl,⟨rfl,trivial⟩⟩⟩⟩⟩⟩⟩⟩⟩⟩⟩⟩⟩ aD rfl rfl rfl rfl rfl fun w2 tm2 hd2=>?_
  refine aa [1,89,9,8] ?_
  refine m9 hd2 fun w3 hd3=>?_
  refine aa [540,159,12] ?_
  refine bK rfl (jT 10 rfl Tryz.underlying38 b5 rfl rfl rfl aK (List.append_nil ((py (iR x (i:Nat))).map u8)) rfl rfl rfl ?_)
  refine bK rfl (dB 111 rfl Tryz.underlying38 b5 rfl (.sl rfl (by rw [List.length_map];exact hfl)) rfl (dE rfl aq) aB aC ar rfl rfl rfl ?_)
  refine bK rfl (cV qS rfl rfl rfl rfl aq rfl ?_)
  refine aa [503,90,468,474] ?_
  exact cz (i+1) ar ar [(2,some 2),(11,some 111)] hR1.sub.ids rfl rfl ⟨⟨_,rfl,.pure trivial⟩,⟨_,rfl,.pure pu⟩,⟨_,rfl,.pure pu⟩,⟨_,rfl,.pure pu⟩,⟨_,rfl,.pure pu⟩,trivial⟩ ⟨.inr ⟨_,_,rfl,rfl,.cons (.sl rfl aq) .nil⟩,.inr ⟨_,_,rfl,rfl,.of (N1 x i) (.pure bL)⟩,trivial⟩
 ·have h7 : i = n := by have := of_decide_eq_false hc7; omega
  subst h7
  refine aa [527,108,545,444,159,449] ?_
  refine qb (rs:= [.tmp 4]) rfl rfl rfl hS (dn:= [D1]) rfl rfl aB rfl (bT rfl bR) ⟨11,rfl,rfl⟩
theorem Lp (x:List UInt8) (n:Nat) (hx:x.length=32) (hn:n≤256):bO Tryz.prog 45 [.fn (.func 92) [] [.fp [nI n],.fp (x.map u8)]] (cn (dq (fB x n))):=by
 refine enter Tryz.func45 rfl Tryz.ntmps45 aw (Nat.le_of_ble_eq_true rfl) fun w0 X0 hI=>?_
 refine aa [524] ?_
 refine bK rfl (kN 4 rfl false rfl (.cons (.pure pu) (.cons (.pure pu) .nil)) (JL x n hx hn) bL (.inl rfl) rfl ?_)
 refine s1 (bF rfl) rfl <| bI <| bG <| bV <| eR 2 rfl rfl bL (c5 (by rw [List.length_map,(pR x n).len,qz]) rfl) ?_
 refine aa [5] ?_
 exact congrArg (fun z=>A.fz z _) (qz x n).symm
theorem xI (x:List UInt8) (n:Int) (hx:x.length=32):bO Tryz.prog 17 [.ag (x.map u8),.i .i64 n] (cn (if ek n then .tu [dq (fB x n.toNat),.i .i64 0]else .tu [.nl,.i .i64 60])):=by
 refine enter Tryz.func17 rfl Tryz.ntmps17 aw (Nat.le_of_ble_eq_true rfl) fun w0 X0 hI=>?_
 refine aa [501,0,470,489] ?_
 refine jr 2 rfl rfl rfl rfl (fun hb8=> .step (bF rfl) rfl rfl<| .step (bF rfl) rfl rfl<| .done) rfl rfl <| bI <| bG ?_
 refine b7 rfl (fun hc11=>?_) (fun hc11=>?_)
 ·have hcs : ¬ ek n := by intro h; unfold ek at h; simp at hc11; omega
  refine aa [445,93,467,35] ?_
  exact(if_neg hcs).symm
 ·have hcs : ek n := by unfold ek; simp at hc11; omega
  have hsz:=hcs
  obtain⟨k,rfl,h1,h2⟩:=xV hcs
  refine aa [469,12,0] ?_
  refine bK rfl (bX false rfl (.cons (.pure pu) (.cons (.pure pu) (.nil))) (Qj x k) pu (.inl rfl) rfl ?_)
  refine bK rfl (bX false rfl (.cons (.pure pu) (.nil)) (Lp x k hx h2) pu (.inl rfl) rfl ?_)
  refine aa [532,35] ?_
  exact(if_pos hsz).symm
theorem QT (x:List UInt8) (n:Int) (hx:x.length=32):bO Tryz.prog 8 [.ag (x.map u8),.i .i64 n] (cn (uz x n)):=by
 refine enter Tryz.func8 rfl Tryz.ntmps8 aw (Nat.le_of_ble_eq_true rfl) fun w0 X0 hI=>?_
 refine aa [501,29,470] ?_
 rcases(Decidable.em (ek n)).symm with hcs|hcs
 ·skip
  refine aa [1,12,0,331,549,513,444,12,0,9,531,155] ?_
  exact(QQ hcs).symm
 ·have hsz := hcs
  obtain⟨k,rfl,h1,h2⟩:=xV hcs
  refine aa [1,12,0,332,525,461,445] ?_
  refine bK rfl (bX false rfl (.cons (.pure pu) (.nil)) (sL _ (fB x k) (Nat.le_refl _) (pR x k) aE) pu (.inl rfl) rfl ?_)
  refine aa [9,464,155] ?_
  exact(QR hsz).symm
-- C5E
-- K6D
theorem Tg (n:Int):bO Tryz.prog 94 [.fp [.i .i64 n]] (cn (.b (decide (ek n)))):=by
 refine enter Tryz.func94 rfl Tryz.ntmps94 aw (Nat.le_of_ble_eq_true rfl) fun w0 X0 hI=>?_
 refine aa [537,2,446] ?_
 refine gF 2 rfl rfl rfl rfl (fun hb4=> .step (bM bP rfl rfl rfl) rfl rfl<| .step (bF rfl) rfl rfl<| .done) rfl rfl <| s1 (bF rfl) rfl <| bI <| bG <| bV <| bW (rs:= [.tmp 1]) rfl (bT rfl bR) ?_
 exact congrArg A.b (by rw [Bool.eq_iff_iff,decide_eq_true_eq];simp [ek])
theorem Th (a n:Int) (S P:List (List UInt8)):bO Tryz.prog 95 [.fp [.i .i64 a,dq S,dq P],.fp [.i .i64 n]] (cn (.b (decide (ji n a)))):=by
 refine enter Tryz.func95 rfl Tryz.ntmps95 aw (Nat.le_of_ble_eq_true rfl) fun w0 X0 hI=>?_
 refine aa [537,333,2,446] ?_
 refine gF 4 rfl rfl rfl rfl (fun hb6=> .step (fV Tryz.underlying40 rfl bP az rfl rfl) rfl rfl<| .step (bM bP rfl rfl rfl) rfl rfl<| .step (bM bP rfl rfl rfl) rfl rfl<| .step (bF rfl) rfl rfl<| .done) rfl rfl ?_
 refine aa [500] ?_
 exact congrArg A.b (JU n a)
theorem Ti (m:List UInt8) (a:Int) (S P:List (List UInt8)) (hm:m.length=32) (hS:cm S):dG Tryz.prog 96 [.fp (m.map u8),.fp [.i .i64 a,dq S,dq P],.p 9 0] ⟨[(9,some (zD.map u8))]⟩ (gL (.b (decide (ll S=0))) [(9,(ix m S).map u8)]):=by
 refine mB Tryz.func96 rfl Tryz.ntmps96 aw (Nat.le_of_ble_eq_true rfl) fun w0 X0 hI=>?_
 refine aa [537] ?_
 refine s1 (eX b5 rfl rfl (List.take_of_length_le (by simp [hm])) (by simp [hm])) rfl ?_
 refine aa [334,159] ?_
 refine bK rfl (bX false rfl (.cons (.pure pu) (.cons (.pure pu) (.nil))) (Qx m S hm hS) pu (.inl rfl) rfl ?_)
 refine aa [471,29,9,487,12,9,486] ?_
 refine s1 ((bF rfl).v (v':= .b (decide (ll S=0))) (congrArg A.b (Qw S))) rfl ?_
 refine aa [449] ?_
 refine bW (rs:= [.tmp 3]) rfl (bT rfl bR) (nv rfl)
theorem Tj (r m:List UInt8) (n a:Int) (S P:List (List UInt8)) (hr:r.length=32) (hP:cm P):dG Tryz.prog 98 [.p 9 0,.fp [.i .i64 a,dq S,dq P],.fp [.i .i64 n],.fp (r.map u8)] ⟨[(9,some ((ix m S).map u8))]⟩ (gL (.b ((ng a n P.length==0)&&(lN (ix m S) a n P==r))) [(9,(ix m S).map u8)]):=by
 refine mB Tryz.func98 rfl Tryz.ntmps98 aw (Nat.le_of_ble_eq_true rfl) fun w0 X0 hI=>?_
 refine aa [537,12,333,2,2,334,159] ?_
 refine bK rfl (bX false rfl (.cons (.pure pu) (.cons (.pure pu) (.cons (.pure pu) (.cons (.pure pu) (.nil))))) (bO.cast (Ld (ix m S) aB a n P hP) (Lc ..)) pu (.inl rfl) rfl ?_)
 refine aa [471,89,9,455,0] ?_
 refine gF 3 rfl rfl rfl rfl (fun hb19=> .step (cg b5 rfl rfl aq) rfl rfl<| .step (eX b5 rfl rfl (List.take_of_length_le (by simp [hr])) (by simp [hr])) rfl rfl<| .step (IN Tryz.underlying23 Tryz.underlying5 cc aw rfl rfl aU aU) rfl rfl<| .done) rfl rfl ?_
 refine aa [449] ?_
 refine bW (rs:= [.tmp 4]) rfl (bT rfl bR) (nv rfl)
theorem FR (r m:List UInt8) (n a:Int) (S P:List (List UInt8)) (hr:r.length=32) (hm:m.length=32) (hS:cm S) (hP:cm P):bO Tryz.prog 47 [.ag (r.map u8),.i .i64 n,.ag (m.map u8),.ag [.i .i64 a,dq S,dq P]] (cn (.i .i64 (Aj (gU r n m a S P)))):=by
 refine enter Tryz.func47 rfl Tryz.ntmps47 aw (Nat.le_of_ble_eq_true rfl) fun w0 X0 hI=>?_
 refine aa [444,43,207,232,115,551,444] ?_
 refine bK rfl (cB 9 rfl b5 rfl rfl ?_)
 refine bI <| bG <| bH <| fS 4 rfl rfl bL <| fS 5 rfl rfl bL <| fS 6 rfl rfl bL <| fS 7 rfl rfl bL <| bJ <| s1 (iz (us:= []) (vs:= [.fp [.i .i64 n]]) rfl rfl) rfl <| s1 (iz (us:= []) (vs:= [.fp [.i .i64 a,dq S,dq P],.fp [.i .i64 n]]) rfl rfl) rfl <| s1 (iz (us:= []) (vs:= [.fp (m.map u8),.fp [.i .i64 a,dq S,dq P],.p 9 0]) rfl rfl) rfl <| s1 (iz (us:= []) (vs:= [.p 9 0,.fp [.i .i64 a,dq S,dq P],.fp [.i .i64 n],.fp (r.map u8)]) rfl rfl) rfl <| bK rfl (dz 17 rfl Tryz.underlying168 oJ rfl rfl rfl rfl rfl ?_)
 refine aa [491] ?_
 refine s1 (cf Tryz.underlying168 rfl rfl rfl) rfl ?_
 refine aa [459] ?_
 refine cO (ι:=Nat) (fun i=> [(18,.sl 17 1 0 4),(19,nI 4),(20,nI i)]) (fun i=>⟨[(9,some ((Qg m S i).map u8)),(17,some ([.fn (.func 94) [] [.fp [.i .i64 n]],.fn (.func 95) [] [.fp [.i .i64 a,dq S,dq P],.fp [.i .i64 n]],.fn (.func 96) [] [.fp (m.map u8),.fp [.i .i64 a,dq S,dq P],.p 9 0],.fn (.func 98) [] [.p 9 0,.fp [.i .i64 a,dq S,dq P],.fp [.i .i64 n],.fp (r.map u8)]]))]⟩) (fun i=>i≤4∧(0<i→ek n)∧(1<i→ji n a)∧(2<i→ll S=0)∧(3<i→((ng a n P.length==0)&&(lN (ix m S) a n P==r))=true)) (fun i=>4 - i) ?_ ?_
 ·exact cN (0) (⟨by omega,fun h=>absurd h ar,fun h=>absurd h ar,fun h=>absurd h ar,fun h=>absurd h ar⟩) [(9,some 9),(17,some 17)] hI rfl rfl ⟨⟨_,rfl,.sl rfl aq⟩,⟨_,rfl,.pure pu⟩,⟨_,rfl,.pure pu⟩,trivial⟩ ⟨.inr ⟨_,_,rfl,rfl,.of aZ (.pure bL)⟩,.inr ⟨_,_,rfl,rfl,.cons (.pure pu) (.cons (.pure pu) (.cons (.fn .nil (.cons (.pure pu) (.cons (.pure pu) (.cons (.p rfl) .nil)))) (.cons (.fn .nil (.cons (.p rfl) (.cons (.pure pu) (.cons (.pure pu) (.cons (.pure pu) .nil))))) .nil)))⟩,trivial⟩
 rintro i ⟨hi,p1,p2,p3,p4⟩
 refine aa [448] ?_
 refine b7 rfl (fun hc21=>?_) (fun hc21=>?_)
 ·have h21 : i < 4 := by have := of_decide_eq_true hc21; omega
  refine bY <| bG <| bH <| bZ <| bH ?_
  rcases show i=0∨i=1∨i=2∨i=3 by omega with hcs|hcs|hcs|hcs
  ·subst hcs
   refine bJ <| s1 (ij 0 Tryz.underlying168 oJ rfl rfl rfl rfl ar rfl) rfl ?_
   refine aa [160,458] ?_
   refine bK rfl (iw false rfl rfl (.cons (.pure pu) .nil) (Tg n) pu (.inl rfl) rfl ?_)
   refine aa [447] ?_
   refine b7 rfl (fun hc26=>?_) (fun hc26=>?_)
   ·skip
    refine aa [444,93,457,495,116] ?_
    exact congrArg (A.i .i64) (by rw [Tq (by simpa using hc26)];rfl)
   ·skip
    refine aa [474] ?_
    exact cz (0+1) (⟨by omega,fun _=>by simpa using hc26,fun h=>absurd h ar,fun h=>absurd h ar,fun h=>absurd h ar⟩) ar [(9,some 9),(17,some 17)] hI rfl rfl ⟨⟨_,rfl,.sl rfl aq⟩,⟨_,rfl,.pure pu⟩,⟨_,rfl,.pure pu⟩,trivial⟩ ⟨.inr ⟨_,_,rfl,rfl,.of aZ (.pure bL)⟩,.inr ⟨_,_,rfl,rfl,.cons (.pure pu) (.cons (.pure pu) (.cons (.fn .nil (.cons (.pure pu) (.cons (.pure pu) (.cons (.p rfl) .nil)))) (.cons (.fn .nil (.cons (.p rfl) (.cons (.pure pu) (.cons (.pure pu) (.cons (.pure pu) .nil))))) .nil)))⟩,trivial⟩
  ·subst hcs
   refine bJ <| s1 (ij 1 Tryz.underlying168 oJ rfl rfl rfl rfl ar rfl) rfl ?_
   refine aa [160,458] ?_
   refine bK rfl (iw false rfl rfl (.cons (.pure pu) (.cons (.pure pu) .nil)) (Th a n S P) pu (.inl rfl) rfl ?_)
   refine aa [447] ?_
   refine b7 rfl (fun hc26=>?_) (fun hc26=>?_)
   ·skip
    refine aa [444,93,457,495,116] ?_
    exact congrArg (A.i .i64) (by rw [Tr (by simpa using hc26)];rfl)
   ·skip
    refine aa [474] ?_
    exact cz (1+1) (⟨by omega,fun _=>p1 ar,fun _=>by simpa using hc26,fun h=>absurd h ar,fun h=>absurd h ar⟩) ar [(9,some 9),(17,some 17)] hI rfl rfl ⟨⟨_,rfl,.sl rfl aq⟩,⟨_,rfl,.pure pu⟩,⟨_,rfl,.pure pu⟩,trivial⟩ ⟨.inr ⟨_,_,rfl,rfl,.of aZ (.pure bL)⟩,.inr ⟨_,_,rfl,rfl,.cons (.pure pu) (.cons (.pure pu) (.cons (.fn .nil (.cons (.pure pu) (.cons (.pure pu) (.cons (.p rfl) .nil)))) (.cons (.fn .nil (.cons (.p rfl) (.cons (.pure pu) (.cons (.pure pu) (.cons (.pure pu) .nil))))) .nil)))⟩,trivial⟩
  ·subst hcs
   refine bJ <| s1 (ij 2 Tryz.underlying168 oJ rfl rfl rfl rfl ar rfl) rfl ?_
   refine aa [160,458] ?_
   refine bK rfl (pj ⟨[(9,some (zD.map u8))]⟩ [(9,(ix m S).map u8)] false rfl rfl ⟨⟨rfl,cv.pure bL⟩,trivial⟩ (.cons (.pure pu) (.cons (.pure pu) (.cons (.kp rfl) .nil))) (Ti m a S P hm hS) trivial (.inl rfl) (nQ (c0:=zD.map u8) rfl bL fT) rfl ?_)
   refine aa [447] ?_
   refine b7 rfl (fun hc26=>?_) (fun hc26=>?_)
   ·skip
    refine aa [444,93,457,495,116] ?_
    exact congrArg (A.i .i64) (by rw [Ts (by simpa using hc26)];rfl)
   ·skip
    refine aa [474] ?_
    exact cz (2+1) (⟨by omega,fun _=>p1 ar,fun _=>p2 ar,fun _=>by simpa using hc26,fun h=>absurd h ar⟩) ar [(9,some 9),(17,some 17)] hI rfl rfl ⟨⟨_,rfl,.sl rfl aq⟩,⟨_,rfl,.pure pu⟩,⟨_,rfl,.pure pu⟩,trivial⟩ ⟨.inr ⟨_,_,rfl,rfl,.of aZ (.pure bL)⟩,.inr ⟨_,_,rfl,rfl,.cons (.pure pu) (.cons (.pure pu) (.cons (.fn .nil (.cons (.pure pu) (.cons (.pure pu) (.cons (.p rfl) .nil)))) (.cons (.fn .nil (.cons (.p rfl) (.cons (.pure pu) (.cons (.pure pu) (.cons (.pure pu) .nil))))) .nil)))⟩,trivial⟩
  ·subst hcs
   refine bJ <| s1 (ij 3 Tryz.underlying168 oJ rfl rfl rfl rfl ar rfl) rfl ?_
   refine aa [160,458] ?_
   refine bK rfl (pj ⟨[(9,some ((ix m S).map u8))]⟩ [(9,(ix m S).map u8)] false rfl rfl ⟨⟨rfl,cv.pure bL⟩,trivial⟩ (.cons (.kp rfl) (.cons (.pure pu) (.cons (.pure pu) (.cons (.pure pu) .nil)))) (Tj r m n a S P hr hP) trivial (.inl rfl) (nQ (c0:=(ix m S).map u8) rfl bL fT) rfl ?_)
   refine aa [447] ?_
   refine b7 rfl (fun hc26=>?_) (fun hc26=>?_)
   ·skip
    refine aa [444,93,457,495,116] ?_
    exact congrArg (A.i .i64) (by rw [Tt (by rwa [Bool.not_eq_true']at hc26)];rfl)
   ·skip
    refine aa [474] ?_
    exact cz (3+1) (⟨by omega,fun _=>p1 ar,fun _=>p2 ar,fun _=>p3 ar,fun _=>by simpa using hc26⟩) ar [(9,some 9),(17,some 17)] hI rfl rfl ⟨⟨_,rfl,.sl rfl aq⟩,⟨_,rfl,.pure pu⟩,⟨_,rfl,.pure pu⟩,trivial⟩ ⟨.inr ⟨_,_,rfl,rfl,.of aZ (.pure bL)⟩,.inr ⟨_,_,rfl,rfl,.cons (.pure pu) (.cons (.pure pu) (.cons (.fn .nil (.cons (.pure pu) (.cons (.pure pu) (.cons (.p rfl) .nil)))) (.cons (.fn .nil (.cons (.p rfl) (.cons (.pure pu) (.cons (.pure pu) (.cons (.pure pu) .nil))))) .nil)))⟩,trivial⟩
 ·have h21 : i = 4 := by have := of_decide_eq_false hc21; omega
  subst h21
  refine aa [483,464,116] ?_
  exact congrArg (A.i .i64) (by rw [It (p1 ar) (p2 ar) (p3 ar) (p4 ar)];rfl)
-- E5E
theorem Ei (r:List UInt8) (n:Int) (l:List Ep) (hr:r.length=32) (hl:ga l) (hn:l.length≤maxLen):lE Tryz.prog 19 [.ag (r.map u8),.i .i64 n,fa l] ⟨[]⟩ (fun q st=>∃σ,dU l=some σ∧eS r n l=0∧qX (mapOf σ) q st) (fun u=>eS r n l≠0∧u=ku 107 (eS r n l)):=by
 refine vZ Tryz.func19 rfl Tryz.ntmps19 aw (Nat.le_of_ble_eq_true rfl) fun w0 X0 hI=>?_
 refine bH ?_
 have hn2:=hn
 simp only [maxLen]at hn2
 refine aa [1,84,452] ?_
 rcases xA (dU l)with hcs|hcs
 ·have hf := hcs
  refine aa [450] ?_
  refine gS ⟨[]⟩ false rfl trivial (.cons (.pure pu) .nil) (Es hl hn hf) (fun u hu=>?_)
  refine dt ?_
  exact qa (show eS r n l≠0∧_=ku 107 (eS r n l) by rw [vO hf];exact⟨by decide,hu.2⟩)
 ·obtain ⟨σ, hf⟩ := hcs
  refine aa [450] ?_
  refine bK rfl (xd (F:=mapOf σ) rfl (.cons (.pure pu) (.nil)) (Eo hl hn hf) rfl rfl fun b12=>?_)
  refine aa [491,38,459] ?_
  refine cO (ι:=Nat) (fun i=> [(1,.i .i64 n),(3,.p 3 0),(7,.raw (.map (some b12))),(13,fa l),(14,nJ l.length),(15,nJ i)]) (fun i=>⟨[(3,some (r.map u8)),(700,some ([.mc b12 (mapOf σ)]))]⟩) (fun i=>i≤l.length∧∀e∈l.take i,gU r n (fk e) e.sg.a e.sg.S e.sg.P=true) (fun i=>l.length - i) ?_ ?_
  ·exact cN (0) (⟨Nat.zero_le _,fun e he=>by simp at he⟩) [(3,some 3),(700,some 700)] hI rfl rfl ⟨⟨_,rfl,.pure pu⟩,⟨_,rfl,.p rfl⟩,⟨_,rfl,.pure pu⟩,⟨_,rfl,.pure pu⟩,⟨_,rfl,.pure pu⟩,⟨_,rfl,.pure pu⟩,trivial⟩ ⟨.inr ⟨_,_,rfl,rfl,.pure bL⟩,.inr ⟨_,_,rfl,rfl,.pure bL⟩,trivial⟩
  rintro i ⟨hi,hall⟩
  refine aa [448] ?_
  refine b7 rfl (fun hc16=>?_) (fun hc16=>?_)
  ·have h16 : i < l.length := by have := of_decide_eq_true hc16; omega
   obtain⟨e,he⟩:∃e,l[i]? =some e:=⟨_,List.getElem?_eq_getElem h16⟩
   have hem:=List.mem_of_getElem? he
   have hok:=hl e hem
   refine aa [462,318,222] ?_
   refine bK rfl (cB 9 rfl eo rfl rfl ?_)
   refine aa [146,456] ?_
   rcases nL (gU r n (fk e) e.sg.a e.sg.S e.sg.P)with hcs|hcs
   ·skip
    refine aa [55,335,16,336,337,338,339] ?_
    refine ee false 6 [0,1,3,5] [] cK rfl (.cons (.pure pu) (.cons (.pure pu) (.cons (.pure pu) (.cons (.pure pu) (.nil))))) (bO.cast (FR r (fk e) n e.sg.a e.sg.S e.sg.P hr aB hok.S hok.P) (show _=A.i .i64 60 by rw [hcs];rfl)) pu (.inl rfl) rfl rfl ?_
    refine aa [4,530,53,0] ?_
    refine gS ⟨[]⟩ false rfl trivial (.cons (.pure pu) (.cons (.pure pu) .nil)) (kH 60) (fun u hu=>?_)
    refine fE <| dt <| dt <| fE <| dt ?_
    exact qa (show eS r n l≠0∧_=ku 107 (eS r n l) by rw [vN hf hem hcs];exact⟨by decide,hu⟩)
   ·skip
    refine aa [55,335,16,336,337,338,339] ?_
    refine ee false 6 [0,1,3,5] [] cK rfl (.cons (.pure pu) (.cons (.pure pu) (.cons (.pure pu) (.cons (.pure pu) (.nil))))) (bO.cast (FR r (fk e) n e.sg.a e.sg.S e.sg.P hr aB hok.S hok.P) (show _=A.i .i64 0 by rw [hcs];rfl)) pu (.inl rfl) rfl rfl ?_
    refine aa [4,530,14,0,59,472] ?_
    exact cz (i+1) (⟨by omega,Jy he hall hcs⟩) ar [(3,some 3),(700,some 700)] hI rfl rfl ⟨⟨_,rfl,.pure pu⟩,⟨_,rfl,.p rfl⟩,⟨_,rfl,.pure pu⟩,⟨_,rfl,.pure pu⟩,⟨_,rfl,.pure pu⟩,⟨_,rfl,.pure pu⟩,trivial⟩ ⟨.inr ⟨_,_,rfl,rfl,.pure bL⟩,.inr ⟨_,_,rfl,rfl,.pure bL⟩,trivial⟩
  ·obtain rfl : i = l.length := by have := of_decide_eq_false hc16; omega
   rw [List.take_length]at hall
   refine aa [509,449] ?_
   refine C7 (rs:= [.tmp 6]) rfl (bT rfl bR) ?_
   exact⟨σ,hf,tC hf hall,b12,rfl,rfl⟩
theorem Ej {r:List UInt8} {n:Int} {l:List Ep} (hr:r.length=32) (hl:ga l) (hn:l.length≤maxLen) {σ:Int→Int} (h:dU l=some σ) (h0:eS r n l=0):bO Tryz.prog 19 [.ag (r.map u8),.i .i64 n,fa l] (qX (mapOf σ)):=(Ei r n l hr hl hn).ret (fun q st ⟨τ,h1,_,h2⟩=>by rw [h]at h1;cases h1;exact h2) fun u hu=>hu.1 h0
theorem El {r:List UInt8} {n:Int} {l:List Ep} (hr:r.length=32) (hl:ga l) (hn:l.length≤maxLen) (h:eS r n l≠0):lF Tryz.prog 19 [.ag (r.map u8),.i .i64 n,fa l] ⟨[]⟩ (fun u=>eS r n l≠0∧u=ku 107 (eS r n l)):=(Ei r n l hr hl hn).xB fun q st ⟨_,_,h1,_⟩=>h h1
theorem Ma (c0:A) (e:Int):sS Tryz.prog 32 [.p 6 0] ⟨[(6,some [c0])]⟩ (fun u=>u=ku 107 e) [(6, [.i .i64 e])]:=by
 refine zH (.ic 107 (.ag [.i .i64 e])) (fun u hu X w β=>by rw [hu];exact yM _ _) Tryz.func32 rfl Tryz.ntmps32 (Nat.le_of_ble_eq_true rfl) rfl rfl fun w0 X0 hI=>?_
 refine aa [445,227,521,450,228,18,8] ?_
 refine jO (rs:= []) rfl bR (nv rfl)
theorem Mb:sU Tryz.prog 32 1:=zI Tryz.func32 rfl (fun w=>BC Tryz.underlying20 w) rfl ⟨Nat.le_of_ble_eq_true rfl,Nat.le_of_ble_eq_true rfl,Nat.le_of_ble_eq_true rfl,Nat.le_of_ble_eq_true rfl,Nat.le_of_ble_eq_true rfl⟩
theorem Em:mX Tryz.prog 32:=⟨_,Tryz.func32,rfl,by kernel_rfl⟩
theorem L8 (r:List UInt8) (n:Int) (l:List Ep) (hr:r.length=32) (hl:ga l) (hn:l.length≤maxLen):bO Tryz.prog 9 [.ag (r.map u8),.i .i64 n,fa l] (cn (.i .i64 (eS r n l))):=by
 refine qm Tryz.func9 rfl Tryz.ntmps9 aw (Nat.le_of_ble_eq_true rfl) fun w0 X0 hI hS=>?_
 refine aa [522] ?_
 refine bK rfl (cB 6 rfl dK rfl rfl ?_)
 refine bI <| bG <| bH <| bJ <| s1 (iz (us:= []) (vs:= [.p 6 0]) rfl rfl) rfl ?_
 refine zf [6] hI rfl rfl trivial rfl fun w1 us hdf=>?_
 refine bI <| bG <| bH ?_
 rcases DR r n l with hcs|hcs
 ·have h0 := hcs
  refine aa [1,340,446] ?_
  refine gS ⟨[]⟩ false rfl trivial (.cons (.pure pu) (.cons (.pure pu) (.cons (.pure pu) .nil))) (El hr hl hn h0) (fun u hu=>?_)
  refine dt <| mv ⟨[(6,some [.i .i64 0])]⟩ hdf hS Em ⟨⟨rfl,cv.pure bL⟩,trivial⟩ (.cons (.kp rfl) .nil) (Ma _ (eS r n l)) (hu.2) (PL rfl bL) rfl (fC dK rfl rfl rfl bR) ?_
  exact rfl
 ·obtain ⟨σ, hf, h0⟩ := hcs
  refine aa [1,340,446] ?_
  refine bK rfl (xd (F:=mapOf σ) rfl (.cons (.pure pu) (.cons (.pure pu) (.cons (.pure pu) (.nil)))) (Ej hr hl hn hf h0) rfl rfl fun b11=>?_)
  refine aa [454,18,457] ?_
  refine vq hdf hS Em Mb rfl (fC dK rfl rfl rfl bR) ?_
  exact congrArg (A.i .i64) h0.symm
-- E5F
theorem La (l:List Ch) (hl:l.length≤1000000):bO Tryz.prog 21 [gD l] (cn (gD l)):=by
 refine enter Tryz.func21 rfl Tryz.ntmps21 aw (Nat.le_of_ble_eq_true rfl) fun w0 X0 hI=>?_
 refine aa [448,3] ?_
 rcases Gb l.length with hcs|hcs
 ·obtain rfl := List.length_eq_zero_iff.1 hcs
  refine aa [450] ?_
  refine bK rfl (GD Tryz.underlying30 rfl rfl rfl fun q4=>?_)
  refine bI <| bG ?_
  refine b7 rfl (fun hc4=>?_) (fun hc4=>?_)
  ·skip
   refine aa [504] ?_
   refine Kb 2 rfl .nl ?_
   refine aa [5] ?_
   rfl
  ·skip
   refine aa [469,341,0,342,449,57,5] ?_
   rfl
 ·skip
  refine aa [450] ?_
  refine s1 (yw Tryz.underlying30 rfl rfl hcs) rfl ?_
  refine aa [548,469,341,0,342,449,57,5] ?_
  exact congrArg (fun n=>A.fz n (jC l)) (Nat.zero_add _)
theorem DU (l:List Ep) (h:ga l) (hl:l.length≤1000000):bO Tryz.prog 31 [fa l] (eY 71 l.length (gE l)):=by
 refine enter Tryz.func31 rfl Tryz.ntmps31 aw (Nat.le_of_ble_eq_true rfl) fun w0 X0 hI=>?_
 refine aa [448,3] ?_
 rcases Gb l.length with hcs|hcs
 ·obtain rfl := List.length_eq_zero_iff.1 hcs
  have hel:=pc h
  refine aa [450] ?_
  refine bK rfl (GD Tryz.underlying29 rfl rfl rfl fun q4=>?_)
  refine bI <| bG ?_
  refine b7 rfl (fun hc4=>?_) (fun hc4=>?_)
  ·skip
   refine aa [504] ?_
   refine C6 9 rfl 2 71 rfl ?_
   refine bW (rs:= [.tmp 2]) rfl (bT rfl bR) ⟨9,rfl,rfl⟩
  ·skip
   refine aa [469,343,0,344,449] ?_
   refine bW (rs:= [.tmp 2]) rfl (bT rfl bR) ⟨7,rfl,rfl⟩
 ·skip
  have hel:=pc h
  refine aa [450] ?_
  refine s1 (yw Tryz.underlying29 rfl rfl hcs) rfl ?_
  refine aa [548,469,343,0,344,449] ?_
  refine bW (rs:= [.tmp 2]) rfl (bT rfl bR) ⟨7,congrArg (A.sl 7 71 0) (Nat.zero_add _),rfl⟩
theorem E9 (a:Int):bO Tryz.prog 27 [.i .i64 a] (cn (.fz 4 ((fZ a 4).map u8))):=by
 refine enter Tryz.func27 rfl Tryz.ntmps27 aw (Nat.le_of_ble_eq_true rfl) fun w0 X0 hI=>?_
 refine aa [524,94,345,0,94,346,0,94,347,0,348] ?_
 refine bK rfl (rT Tryz.underlying47 cc rfl rfl rfl (rN rfl) (qn rfl) bL rfl rfl rfl ?_)
 refine aa [500] ?_
 rfl
theorem H3 (b:Nat) (σ:Int→Int) (hs:jB σ) (ids:List Int) (hn:ids.length≤1000):lE Tryz.prog 24 [.raw (.map (some b)),.fz ids.length (ids.map (A.i .i64))] ⟨[(700,some [.mc b (mapOf σ)])]⟩ (fun r st=>iT σ ids=true∧gL (.tu [.fz (ec σ ids).length ((ec σ ids).map (A.i .i64)),.fz (eL σ ids).length ((eL σ ids).map (A.i .i64))]) [] r st) (fun u=>iT σ ids=false∧u=ku 107 351):=by
 refine vZ Tryz.func24 rfl Tryz.ntmps24 aw (Nat.le_of_ble_eq_true rfl) fun w0 X0 hI=>?_
 refine aa [479,444,65,456,445,493] ?_
 refine cO (ι:=Nat) (fun i=> [(0,.raw (.map (some b))),(4,.sl 131 1 0 (ec σ (ids.take i)).length),(5,.sl 135 1 0 (eL σ (ids.take i)).length),(6,.i .i64 (ja ids i)),(9,.fz ids.length (ids.map (A.i .i64))),(10,nJ ids.length),(11,nJ i)]) (fun i=>⟨[(131,some ((ec σ (ids.take i)).map (A.i .i64))),(135,some ((eL σ (ids.take i)).map (A.i .i64))),(700,some ([.mc b (mapOf σ)]))]⟩) (fun i=>i≤ids.length∧eD ids=gh (ja ids i) (ids.drop i)) (fun i=>ids.length - i) ?_ ?_
 ·exact cN (0) (⟨Nat.zero_le _,CT ids⟩) [(131,none),(135,none),(700,some 700)] hI rfl rfl ⟨⟨_,rfl,.pure pu⟩,⟨_,rfl,.nl rfl⟩,⟨_,rfl,.nl rfl⟩,⟨_,rfl,.pure pu⟩,⟨_,rfl,.pure pu⟩,⟨_,rfl,.pure pu⟩,⟨_,rfl,.pure pu⟩,trivial⟩ ⟨.inl ⟨rfl,rfl⟩,.inl ⟨rfl,rfl⟩,.inr ⟨_,_,rfl,rfl,.pure bL⟩,trivial⟩
 rintro i ⟨hi,hl⟩
 have hlb:=qx σ (ids.take i)
 have hlg:=qy σ (ids.take i)
 rw [List.length_take]at hlb hlg
 refine aa [448] ?_
 refine b7 rfl (fun hc12=>?_) (fun hc12=>?_)
 ·have h12 : i < ids.length := by have := of_decide_eq_true hc12; omega
  obtain⟨q,hq⟩:∃q,ids[i]? =some q:=⟨_,List.getElem?_eq_getElem h12⟩
  refine aa [462,51,52,455,446] ?_
  refine gF 2 rfl rfl rfl rfl (fun hb18=> .step (bF rfl) rfl rfl<| .step (bF rfl) rfl rfl<| .done) rfl rfl ?_
  refine kX 21 rfl (fun hc21=>?_) (fun hc21=>?_)
  ·have h21 : ja ids i < q ∧ q < 1024 := by simp at hc21; omega
   refine aa [40,454] ?_
   refine s1 ((bF rfl).v (v':= .i .i64 (ja ids (i+1))) (congrArg (A.i .i64) (AM hq).symm)) rfl ?_
   refine aa [455,184,447] ?_
   refine b7 rfl (fun hc27=>?_) (fun hc27=>?_)
   ·have h27 : σ q ≠ 0 := by simpa using hc27
    obtain⟨hb1,hb2⟩:=zj hq h27
    refine aa [451] ?_
    refine bK rfl (dz 30 rfl Tryz.underlying24 bP rfl rfl rfl rfl rfl ?_)
    refine bK rfl (dB 31 rfl Tryz.underlying24 bP rfl (.sl rfl aB) rfl (dE rfl aq) aB aC ar rfl rfl rfl ?_)
    refine aa [488] ?_
    exact cz (i+1) (⟨by omega,y3 hl hq h21⟩) ar [(131,some 31),(135,some 135),(700,some 700)] hI rfl rfl ⟨⟨_,rfl,.pure pu⟩,⟨_,rfl,.sl rfl aq⟩,⟨_,rfl,.sl rfl aq⟩,⟨_,rfl,.pure pu⟩,⟨_,rfl,.pure pu⟩,⟨_,rfl,.pure pu⟩,⟨_,rfl,.pure pu⟩,trivial⟩ ⟨.inr ⟨_,_,rfl,rfl,.of (by rw [hb1,List.map_append];rfl) (.pure bL)⟩,.inr ⟨_,_,rfl,rfl,.of (by rw [hb2]) (.pure bL)⟩,.inr ⟨_,_,rfl,rfl,.pure bL⟩,trivial⟩
   ·have h27 : σ q = 0 := by simpa using hc27
    obtain⟨hb1,hb2⟩:=zk hq h27
    refine aa [451] ?_
    refine bK rfl (dz 34 rfl Tryz.underlying24 bP rfl rfl rfl rfl rfl ?_)
    refine bK rfl (dB 35 rfl Tryz.underlying24 bP rfl (.sl rfl aB) rfl (dE rfl aq) aB aC ar rfl rfl rfl ?_)
    refine aa [488] ?_
    exact cz (i+1) (⟨by omega,y3 hl hq h21⟩) ar [(131,some 131),(135,some 35),(700,some 700)] hI rfl rfl ⟨⟨_,rfl,.pure pu⟩,⟨_,rfl,.sl rfl aq⟩,⟨_,rfl,.sl rfl aq⟩,⟨_,rfl,.pure pu⟩,⟨_,rfl,.pure pu⟩,⟨_,rfl,.pure pu⟩,⟨_,rfl,.pure pu⟩,trivial⟩ ⟨.inr ⟨_,_,rfl,rfl,.of (by rw [hb1]) (.pure bL)⟩,.inr ⟨_,_,rfl,rfl,.of (by rw [hb2,List.map_append];rfl) (.pure bL)⟩,.inr ⟨_,_,rfl,rfl,.pure bL⟩,trivial⟩
  ·have h21 : ¬ (ja ids i < q ∧ q < 1024) := by simp at hc21; omega
   refine gS ⟨[]⟩ false rfl trivial (.cons (.pure pu) (.cons (.pure pu) .nil)) (kH 351) (fun u hu=>?_)
   refine aa [46,319,517,46] ?_
   exact qa ⟨HZ (CS hl hq h21),hu⟩
 ·have h12 : i = ids.length := by have := of_decide_eq_false hc12; omega
  subst h12
  refine aa [463] ?_
  refine ep 131 (cs':=(ec σ ids).map (A.i .i64)) rfl aG <| ep 135 (cs':=(eL σ ids).map (A.i .i64)) rfl aG ?_
  refine aa [450,82,0] ?_
  refine s1 (T4 (fA σ) Tryz.underlying63 rfl rfl (AL σ) (wK hs)) rfl <| s1 (bF rfl) rfl ?_
  refine kX 41 rfl (fun hc41=>?_) (fun hc41=>?_)
  ·have h41 : (ec σ ids).length = (fA σ).length := by have := of_decide_eq_true hc41; rw [List.take_length] at this; omega
   refine aa [40,460,453,520] ?_
   refine eR 4 rfl rfl bL (c5 aB rfl) <| eR 5 rfl rfl bL (c5 aB rfl) <| C7 (rs:= [.tmp 4,.tmp 5]) rfl (bT rfl (bT rfl bR)) ⟨Sk (CQ hl) h41,?_,fun p hp=>by cases hp⟩
   show A.tu _=A.tu _
   rw [List.take_length]
  ·have h41 : (ec σ ids).length ≠ (fA σ).length := by have := of_decide_eq_false hc41; rw [List.take_length] at this; omega
   refine gS ⟨[]⟩ false rfl trivial (.cons (.pure pu) (.cons (.pure pu) .nil)) (kH 351) (fun u hu=>?_)
   refine dt ?_
   exact qa ⟨Sj h41,hu⟩
theorem H4 {b:Nat} {σ:Int→Int} (hs:jB σ) {ids:List Int} (hn:ids.length≤1000) (h:iT σ ids=true):dG Tryz.prog 24 [.raw (.map (some b)),.fz ids.length (ids.map (A.i .i64))] ⟨[(700,some [.mc b (mapOf σ)])]⟩ (gL (.tu [.fz (ec σ ids).length ((ec σ ids).map (A.i .i64)),.fz (eL σ ids).length ((eL σ ids).map (A.i .i64))]) []):=(H3 b σ hs ids hn).ret (fun _ _ h=>h.2) fun u hu=>by rw [h]at hu;cases hu.1
theorem H5 {b:Nat} {σ:Int→Int} (hs:jB σ) {ids:List Int} (hn:ids.length≤1000) (h:iT σ ids=false):lF Tryz.prog 24 [.raw (.map (some b)),.fz ids.length (ids.map (A.i .i64))] ⟨[(700,some [.mc b (mapOf σ)])]⟩ (fun u=>iT σ ids=false∧u=ku 107 351):=(H3 b σ hs ids hn).xB fun r st hu=>by rw [h]at hu;cases hu.1
-- E5N
theorem Rb (x:List UInt8) (a:Nat) (hx:x.length=32):bO Tryz.prog 66 [.s uJ,.fz 36 ((x++fZ (a:Int) 4).map u8)] (cn (.ag ((kz x a).map u8))):=by
  have e2:(x++fZ (a:Int) 4).length=36:=by simp [hx]
  rw [xS, ←e2];exact Rc _ _ ar aB
theorem Hw (x:List UInt8) (a:Nat) (hx:x.length=32):bO Tryz.prog 33 [.ag (x.map u8),nJ a] (cn (.ag ((kz x a).map u8))):=by
 refine enter Tryz.func33 rfl Tryz.ntmps33 aw (Nat.le_of_ble_eq_true rfl) fun w0 X0 hI=>?_
 refine aa [501,29,454,215] ?_
 refine s1 (jL Tryz.underlying23 cc rfl rfl aI aJ) rfl <| bK rfl (dB 7 rfl Tryz.underlying47 cc rfl (.sl rfl aq) rfl (dE rfl aI) aI aJ aB rfl rfl rfl ?_)
 refine aa [0,94,345,0,94,346,0,94,347,0,348,265] ?_
 refine bK rfl (dB 20 rfl Tryz.underlying47 cc rfl (.sl rfl aI) rfl (dE rfl aq) aB aJ aB rfl (show _=(x++fZ (a:Int) 4).map u8 by rw [List.map_append];rfl) rfl ?_)
 refine bK rfl (bX true rfl (.cons (.pure pu) (.cons (.sl rfl rfl rfl (c5 aI aB) (cv.pure bL) bL) .nil)) (Rb x a hx) pu (.inr fu) rfl ?_)
 refine aa [9,457] ?_
 refine bW (rs:= [.cell 4 23]) rfl (c9 b5 rfl rfl (List.take_of_length_le aB) aB bR) rfl
-- V6B
theorem Ll (D:List UInt8) (h:0<D.length) (hD:D.length≤1000000):bO Tryz.prog 26 [.fz D.length (D.map u8)] (eY 1 D.length (D.map u8)):=by
 refine enter Tryz.func26 rfl Tryz.ntmps26 aw (Nat.le_of_ble_eq_true rfl) fun w0 X0 hI=>?_
 refine aa [539] ?_
 refine s1 (yw Tryz.underlying47 rfl rfl h) rfl ?_
 refine aa [548,469,215,0,300,449] ?_
 refine bW (rs:= [.tmp 2]) rfl (bT rfl bR) ⟨7,congrArg (A.sl 7 1 0) (Nat.zero_add _),rfl⟩
theorem ym (many:Int) (l:List UInt8):bO Tryz.prog 121 [.i .i64 many,.fz l.length (l.map u8)] (cn (.b (V6.sized many l.length))):=by
 refine enter Tryz.func121 rfl Tryz.ntmps121 aw (Nat.le_of_ble_eq_true rfl) fun w0 X0 hI=>?_
 refine aa [448] ?_
 rcases Decidable.em (1≤many∧many≤1024)with hcs|hcs
 ·obtain ⟨m, rfl⟩ : ∃ m : Nat, many = (m : Int) := ⟨many.toNat, by omega⟩
  refine aa [502,209] ?_
  refine gr 10 rfl (v':= .b true) (congrArg A.b aE) ?_
  refine aa [494,296,7] ?_
  refine g1 rfl rfl (cl m 7 rfl rfl rfl rfl ar) rfl <| g1 rfl rfl (gz (m+7) 8 rfl rfl rfl rfl ar ar) rfl ?_
  refine aa [7,506] ?_
  exact congrArg A.b ((V6.Se hcs.1 hcs.2).trans rfl).symm
 ·skip
  refine aa [502,209] ?_
  refine gr 10 rfl (v':= .b false) (congrArg A.b aE) ?_
  refine aa [0,505,547,506] ?_
  exact congrArg A.b (V6.Sd hcs).symm
theorem Tn (l:List UInt8) (n m:Nat) (hl:l.length=n) (hm:n=(m+7) / 8) (hm2:m≤1024):dG Tryz.prog 128 [.p 5 0,.i .i64 (m:Nat)] ⟨[(5,some [.sl 7 1 0 n]),(7,some (l.map u8))]⟩ (gL (.tu []) [(5, [.sl 7 1 0 n]),(7,(V6.cut m l).map u8)]):=by
 refine mB Tryz.func128 rfl Tryz.ntmps128 aw (Nat.le_of_ble_eq_true rfl) fun w0 X0 hI=>?_
 refine aa [445] ?_
 refine s1 (iQ m 8 rfl rfl rfl rfl ar) rfl ?_
 refine aa [447,479] ?_
 refine b7 rfl (fun hc8=>?_) (fun hc8=>?_)
 ·have h8 : m % 8 ≠ 0 := by simp at hc8; omega
  refine aa [233,6,67,234,6,235,95,236,6,237] ?_
  refine t1 ((bF rfl).v (congrArg (A.i .u8) (V6.SC _ ar))) rfl <| t1 (ra _ _ rfl rfl) rfl ?_
  refine aa [95,10] ?_
  refine bK rfl (cV cc rfl rfl rfl rfl aE (V6.Lz h8) ?_)
  refine aa [8,79] ?_
  exact sq rfl rfl
 ·have h8 : m % 8 = 0 := by simp at hc8; omega
  refine aa [19,79] ?_
  exact sq rfl (by rw [V6.LA h8];rfl)
theorem Tk (l:List UInt8) (n m:Nat) (hl:l.length=n) (hm:m / 8<n) (hm2:m≤1024):dG Tryz.prog 90 [.p 9 0,.i .i64 (m:Nat)] ⟨[(9,some [.sl 23 1 0 n]),(23,some (l.map u8))]⟩ (gL (.tu []) [(9, [.sl 23 1 0 n]),(23,(V6.change l m).map u8)]):=by
 refine mB Tryz.func90 rfl Tryz.ntmps90 aw (Nat.le_of_ble_eq_true rfl) fun w0 X0 hI=>?_
 refine aa [233,6,67,234,6,235,95,236,6] ?_
 refine t1 (iQ m 8 rfl rfl rfl rfl ar) rfl ?_
 refine aa [237,161,95,10,349,8,79] ?_
 exact sq rfl rfl
theorem Ir (l:List UInt8) (n m:Nat) (hl:l.length=n) (hm:m / 8<n) (hm2:m≤1024):dG Tryz.prog 90 [.p 15 0,.i .i64 (m:Nat)] ⟨[(15,some [.sl 38 1 0 n]),(38,some (l.map u8))]⟩ (gL (.tu []) [(15, [.sl 38 1 0 n]),(38,(V6.change l m).map u8)]):=by
 refine mB Tryz.func90 rfl Tryz.ntmps90 aw (Nat.le_of_ble_eq_true rfl) fun w0 X0 hI=>?_
 refine aa [233,6,67,234,6,235,95,236,6] ?_
 refine t1 (iQ m 8 rfl rfl rfl rfl ar) rfl ?_
 refine aa [237,161,95,10,349,8,79] ?_
 exact sq rfl rfl
theorem Tl (l:List UInt8) (k:Nat) (hk:k / 8<l.length) (hk2:k≤1024):bO Tryz.prog 77 [.fp [.fz l.length (l.map u8)],nV k] (cn (.b (V6.jP l k))):=by
 refine enter Tryz.func77 rfl Tryz.ntmps77 aw (Nat.le_of_ble_eq_true rfl) fun w0 X0 hI=>?_
 refine aa [524] ?_
 refine s1 (mm rfl rfl) rfl ?_
 refine aa [238,0,213] ?_
 refine s1 (cD (k / 8) Tryz.underlying151 cc rfl rfl rfl hk rfl) rfl <| s1 (bM cc rfl rfl (V6.tS hk)) rfl ?_
 refine aa [0,214] ?_
 refine s1 (qP (l.getD (k / 8) 0) (k % 8) rfl rfl rfl ar) rfl <| s1 (ra _ _ rfl rfl) rfl <| s1 ((bF rfl).v (v':= .b (V6.jP l k)) (congrArg A.b (V6.K8 _ _))) rfl ?_
 refine aa [449] ?_
 refine bW (rs:= [.tmp 4]) rfl (bT rfl (bR)) rfl
theorem yl (l:List UInt8) (m:Nat) (hm:l.length=(m+7) / 8) (hm1:1≤m) (hm2:m≤1024):bO Tryz.prog 89 [nV m,.fz l.length (l.map u8)] (eY 1 l.length ((V6.cut m l).map u8)):=by
 refine enter Tryz.func89 rfl Tryz.ntmps89 aw (Nat.le_of_ble_eq_true rfl) fun w0 X0 hI=>?_
 refine aa [524] ?_
 refine bK rfl (kN 7 rfl false rfl (.cons (.pure pu) (.nil)) (Ll l ar ar) bL (.inl rfl) rfl ?_)
 refine bK rfl (cB 5 rfl kC rfl rfl ?_)
 refine aa [162,486] ?_
 refine bK rfl (xc ⟨[(5,some [.sl 7 1 0 l.length]),(7,some (l.map u8))]⟩ [(5, [.sl 7 1 0 l.length]),(7,(V6.cut m l).map u8)] true rfl ⟨⟨rfl,.cons (.ksl rfl) .nil⟩,⟨rfl,cv.pure bL⟩,trivial⟩ (.cons (.kp rfl) (.cons (.pure pu) .nil)) (Tn l l.length m rfl hm hm2) trivial (.inr trivial) (yj rfl rfl (uY rfl) (pU bL (.inr fT))) rfl ?_)
 refine aa [454,238,449] ?_
 refine bW (rs:= [.tmp 4]) rfl (bT rfl bR) ⟨7,rfl,rfl⟩
theorem pN (many a:Int) (l:List UInt8):bO Tryz.prog 88 [.i .i64 many,.i .i64 a,.fz l.length (l.map u8)] (cn (mK many a l)):=by
 refine enter Tryz.func88 rfl Tryz.ntmps88 aw (Nat.le_of_ble_eq_true rfl) fun w0 X0 hI=>?_
 refine aa [453,498] ?_
 rcases BW (V6.sized many l.length)with hcs|hcs
 ·skip
  refine aa [451,350,485,453,96,467,239] ?_
  exact(OU hcs).symm
 ·obtain ⟨m, rfl, h1, h2, h3⟩ := V6.sD hcs
  have hsz:=hcs
  refine aa [451,351,468,465,489] ?_
  refine jr 3 rfl rfl rfl rfl (fun hb16=> .step (bF rfl) rfl rfl<| .step (bF rfl) rfl rfl<| .step (bF rfl) rfl rfl<| .done) rfl rfl <| bI <| bG ?_
  refine b7 rfl (fun hc20=>?_) (fun hc20=>?_)
  ·have h20 : ¬ (0 ≤ a ∧ a < (m : Int)) := by simp at hc20; omega
   refine aa [453,102,467,239] ?_
   exact(OT hsz h20).symm
  ·obtain ⟨k, rfl, hk⟩ : ∃ k : Nat, a = (k : Int) ∧ k < m := ⟨a.toNat, by simp at hc20; omega, by simp at hc20; omega⟩
   refine aa [461,453] ?_
   refine bK rfl (kN 23 rfl false rfl (.cons (.pure pu) (.cons (.pure pu) (.nil))) (yl l m h3 h1 h2) bL (.inl rfl) rfl ?_)
   refine bK rfl (cB 9 rfl kC rfl rfl ?_)
   refine aa [162,486] ?_
   refine bK rfl (xc ⟨[(9,some [.sl 23 1 0 l.length]),(23,some ((V6.cut m l).map u8))]⟩ [(9, [.sl 23 1 0 l.length]),(23,(V6.change (V6.cut m l) k).map u8)] true rfl ⟨⟨rfl,.cons (.ksl rfl) .nil⟩,⟨rfl,cv.pure bL⟩,trivial⟩ (.cons (.kp rfl) (.cons (.pure pu) .nil)) (Tk (V6.cut m l) l.length k (V6.kj m l) ar ar) trivial (.inr trivial) (yj rfl rfl (uY rfl) (pU bL (.inr fT))) rfl ?_)
   refine bI <| bG <| bH <| eG ⟨_, [6], []⟩ 5 4 c8 (le_refl rfl) ?_
   refine aa [31,16] ?_
   refine qo 28 false 2 [0,1] [] cK rfl (.cons (.pure pu) (.cons (.pure pu) (.nil))) (yl l m h3 h1 h2) bL (.inl rfl) rfl rfl <| bQ 3 [] [(9,none)] (bM kC rfl rfl rfl) rfl rfl <| bQ 4 [2] [(28,some 2)] (bF rfl) rfl rfl ?_
   refine aa [4,532] ?_
   refine eR 6 rfl rfl bL (c5 (by rw [List.length_map,V6.kj,Nat.mul_one]) rfl) <| eR 7 rfl rfl bL (c5 (by rw [List.length_map,V6.lY,V6.kj,Nat.mul_one]) rfl) ?_
   refine aa [239] ?_
   show A.tu _=_
   rw [Gq hsz hk,V6.cA,V6.cA,V6.lY,V6.kj]
theorem Td (s:List UInt8) (ls:List (List UInt8)) (hs:s.length=16) (hls:∀q∈ls,q.length=16) (hn:ls.length≤1000):dG Tryz.prog 78 [.sl 14 1 0 16,.fz ls.length (ls.map V6.cA)] ⟨[(14,some (s.map u8))]⟩ (gL (.tu []) [(14,(ls.foldl V6.dR s).map u8)]):=by
 refine mB Tryz.func78 rfl Tryz.ntmps78 aw (Nat.le_of_ble_eq_true rfl) fun w0 X0 hI=>?_
 refine aa [445,538] ?_
 refine cO (ι:=Nat) (fun j=> [(0,.sl 14 1 0 16),(7,.fz ls.length (ls.map V6.cA)),(8,nV ls.length),(9,nV j)]) (fun j=>⟨[(14,some ((V6.iH s ls j).map u8))]⟩) (fun j=>j≤ls.length) (fun j=>ls.length - j) ?_ ?_
 ·exact cN (0) (Nat.zero_le _) [(14,some 14)] hI rfl rfl ⟨⟨_,rfl,.sl rfl aq⟩,⟨_,rfl,.pure pu⟩,⟨_,rfl,.pure pu⟩,⟨_,rfl,.pure pu⟩,trivial⟩ ⟨.inr ⟨_,_,rfl,rfl,.of aZ (.pure bL)⟩,trivial⟩
 rintro j hj
 have hfl:(V6.iH s ls j).length=16:=(V6.wO (fun b hb=>by rw [hs,hls b hb];exact Nat.le_refl _) j hj).trans hs
 refine aa [448] ?_
 refine b7 rfl (fun hc10=>?_) (fun hc10=>?_)
 ·have h10 : j < ls.length := by have := of_decide_eq_true hc10; omega
  obtain⟨q,hq⟩:∃q,ls[j]? =some q:=⟨_,List.getElem?_eq_getElem h10⟩
  have hq16:=hls q (List.mem_of_getElem? hq)
  refine aa [462,240,47,458,24,459] ?_
  refine cO (ι:=Nat) (fun i=> [(0,.sl 14 1 0 16),(5,V6.cA q),(7,.fz ls.length (ls.map V6.cA)),(8,nV ls.length),(9,nV j),(13,.sl 14 1 0 16),(14,nV 16),(15,nV i)]) (fun i=>⟨[(14,some ((V6.iU (V6.iH s ls j) q i).map u8))]⟩) (fun i=>i≤16) (fun i=>16 - i) ?_ ?_
  ·exact cN (0) (Nat.zero_le _) [(14,some 14)] hI rfl rfl ⟨⟨_,rfl,.sl rfl aq⟩,⟨_,rfl,.pure pu⟩,⟨_,rfl,.pure pu⟩,⟨_,rfl,.pure pu⟩,⟨_,rfl,.pure pu⟩,⟨_,rfl,.sl rfl aq⟩,⟨_,rfl,.pure pu⟩,⟨_,rfl,.pure pu⟩,trivial⟩ ⟨.inr ⟨_,_,rfl,rfl,.of (by rw [V6.IM]) (.pure bL)⟩,trivial⟩
  rintro i hi
  have hxl:(V6.iU (V6.iH s ls j) q i).length=16:=(V6.AX ar i ar).trans hfl
  refine aa [448] ?_
  refine b7 rfl (fun hc16=>?_) (fun hc16=>?_)
  ·have h16 : i < (V6.iH s ls j).length := by have := of_decide_eq_true hc16; omega
   refine aa [477,241,473,163,352,473,353,164,161,163,10,354,472] ?_
   exact cz (i+1) ar ar [(14,some 14)] hI rfl rfl ⟨⟨_,rfl,.sl rfl aq⟩,⟨_,rfl,.pure pu⟩,⟨_,rfl,.pure pu⟩,⟨_,rfl,.pure pu⟩,⟨_,rfl,.pure pu⟩,⟨_,rfl,.sl rfl aq⟩,⟨_,rfl,.pure pu⟩,⟨_,rfl,.pure pu⟩,trivial⟩ ⟨.inr ⟨_,_,rfl,rfl,.of (V6.IL ar h16) (.pure bL)⟩,trivial⟩
  ·have h16 : i = 16 := by have := of_decide_eq_false hc16; omega
   subst h16
   refine aa [536] ?_
   exact cz (j+1) ar ar [(14,some 14)] hI rfl rfl ⟨⟨_,rfl,.sl rfl aq⟩,⟨_,rfl,.pure pu⟩,⟨_,rfl,.pure pu⟩,⟨_,rfl,.pure pu⟩,trivial⟩ ⟨.inr ⟨_,_,rfl,rfl,.of (by rw [V6.CF hs hls hq]) (.pure bL)⟩,trivial⟩
 ·have h10 : j = ls.length := by have := of_decide_eq_false hc10; omega
  subst h10
  refine aa [527,79] ?_
  refine nv ?_
  rw [←V6.E2];rfl
theorem Te (s:List UInt8) (ls:List (List UInt8)) (hs:s.length=16) (hls:∀q∈ls,q.length=16) (hn:ls.length≤1000):dG Tryz.prog 78 [.sl 44 1 0 16,.fz ls.length (ls.map V6.cA)] ⟨[(44,some (s.map u8))]⟩ (gL (.tu []) [(44,(ls.foldl V6.dR s).map u8)]):=by
 refine mB Tryz.func78 rfl Tryz.ntmps78 aw (Nat.le_of_ble_eq_true rfl) fun w0 X0 hI=>?_
 refine aa [445,538] ?_
 refine cO (ι:=Nat) (fun j=> [(0,.sl 44 1 0 16),(7,.fz ls.length (ls.map V6.cA)),(8,nV ls.length),(9,nV j)]) (fun j=>⟨[(44,some ((V6.iH s ls j).map u8))]⟩) (fun j=>j≤ls.length) (fun j=>ls.length - j) ?_ ?_
 ·exact cN (0) (Nat.zero_le _) [(44,some 44)] hI rfl rfl ⟨⟨_,rfl,.sl rfl aq⟩,⟨_,rfl,.pure pu⟩,⟨_,rfl,.pure pu⟩,⟨_,rfl,.pure pu⟩,trivial⟩ ⟨.inr ⟨_,_,rfl,rfl,.of aZ (.pure bL)⟩,trivial⟩
 rintro j hj
 have hfl:(V6.iH s ls j).length=16:=(V6.wO (fun b hb=>by rw [hs,hls b hb];exact Nat.le_refl _) j hj).trans hs
 refine aa [448] ?_
 refine b7 rfl (fun hc10=>?_) (fun hc10=>?_)
 ·have h10 : j < ls.length := by have := of_decide_eq_true hc10; omega
  obtain⟨q,hq⟩:∃q,ls[j]? =some q:=⟨_,List.getElem?_eq_getElem h10⟩
  have hq16:=hls q (List.mem_of_getElem? hq)
  refine aa [462,240,47,458,24,459] ?_
  refine cO (ι:=Nat) (fun i=> [(0,.sl 44 1 0 16),(5,V6.cA q),(7,.fz ls.length (ls.map V6.cA)),(8,nV ls.length),(9,nV j),(13,.sl 44 1 0 16),(14,nV 16),(15,nV i)]) (fun i=>⟨[(44,some ((V6.iU (V6.iH s ls j) q i).map u8))]⟩) (fun i=>i≤16) (fun i=>16 - i) ?_ ?_
  ·exact cN (0) (Nat.zero_le _) [(44,some 44)] hI rfl rfl ⟨⟨_,rfl,.sl rfl aq⟩,⟨_,rfl,.pure pu⟩,⟨_,rfl,.pure pu⟩,⟨_,rfl,.pure pu⟩,⟨_,rfl,.pure pu⟩,⟨_,rfl,.sl rfl aq⟩,⟨_,rfl,.pure pu⟩,⟨_,rfl,.pure pu⟩,trivial⟩ ⟨.inr ⟨_,_,rfl,rfl,.of (by rw [V6.IM]) (.pure bL)⟩,trivial⟩
  rintro i hi
  have hxl:(V6.iU (V6.iH s ls j) q i).length=16:=(V6.AX ar i ar).trans hfl
  refine aa [448] ?_
  refine b7 rfl (fun hc16=>?_) (fun hc16=>?_)
  ·have h16 : i < (V6.iH s ls j).length := by have := of_decide_eq_true hc16; omega
   refine aa [477,241,473,163,352,473,353,164,161,163,10,354,472] ?_
   exact cz (i+1) ar ar [(44,some 44)] hI rfl rfl ⟨⟨_,rfl,.sl rfl aq⟩,⟨_,rfl,.pure pu⟩,⟨_,rfl,.pure pu⟩,⟨_,rfl,.pure pu⟩,⟨_,rfl,.pure pu⟩,⟨_,rfl,.sl rfl aq⟩,⟨_,rfl,.pure pu⟩,⟨_,rfl,.pure pu⟩,trivial⟩ ⟨.inr ⟨_,_,rfl,rfl,.of (V6.IL ar h16) (.pure bL)⟩,trivial⟩
  ·have h16 : i = 16 := by have := of_decide_eq_false hc16; omega
   subst h16
   refine aa [536] ?_
   exact cz (j+1) ar ar [(44,some 44)] hI rfl rfl ⟨⟨_,rfl,.sl rfl aq⟩,⟨_,rfl,.pure pu⟩,⟨_,rfl,.pure pu⟩,⟨_,rfl,.pure pu⟩,trivial⟩ ⟨.inr ⟨_,_,rfl,rfl,.of (by rw [V6.CF hs hls hq]) (.pure bL)⟩,trivial⟩
 ·have h10 : j = ls.length := by have := of_decide_eq_false hc10; omega
  subst h10
  refine aa [527,79] ?_
  refine nv ?_
  rw [←V6.E2];rfl
theorem Ty (p q:List UInt8):bO Tryz.prog 80 [.fz p.length (p.map u8),.fz q.length (q.map u8)] (cn (ov p q)):=by
 refine enter Tryz.func80 rfl Tryz.ntmps80 aw (Nat.le_of_ble_eq_true rfl) fun w0 X0 hI=>?_
 refine aa [445,470,445,24,446] ?_
 refine jr 3 rfl rfl rfl rfl (fun hb9=> .step (bF rfl) rfl rfl<| .step (cf Tryz.underlying47 rfl rfl rfl) rfl rfl<| .step (bF rfl) rfl rfl<| .done) rfl rfl <| bI <| bG ?_
 refine b7 rfl (fun hc13=>?_) (fun hc13=>?_)
 ·have hcs : ¬ (p.length = 16 ∧ q.length = 16) := by intro h; simp [h.1, h.2] at hc13
  refine aa [445,96,467,35] ?_
  exact(NR hcs).symm
 ·have hp : p.length = 16 := by simp at hc13; omega
  have hq:q.length=16:=by simp at hc13;omega
  have hpq:∀b∈ [p,q],b.length=16:=by simp [hp,hq]
  refine bY <| bG <| bH <| bJ <| bK rfl (oA 14 rfl 16 16 Tryz.underlying47 cc rfl rfl rfl rfl rfl av av av rfl ?_)
  refine aa [455,0] ?_
  refine bK rfl (dz 18 rfl Tryz.underlying26 cL rfl rfl rfl rfl rfl ?_)
  refine ep 14 rfl (cs':=V6.gV.map u8) aZ <| bK rfl (oz ⟨[(14,some ((V6.gV).map u8))]⟩ [(14,(([p,q]).foldl V6.dR V6.gV).map u8)] true rfl ⟨⟨rfl,cv.pure bL⟩,trivial⟩ (.cons (.ksl rfl) (.cons (.sl rfl rfl rfl rfl (cv.pure bL) bL) .nil)) (Td V6.gV [p,q] rfl hpq aB) trivial (.inr trivial) (nQ (c0:=(V6.gV).map u8) rfl bL fT) rfl ?_)
  refine aa [460,453,464] ?_
  refine eR 4 rfl rfl bL (c5 (V6.SE hp hq) rfl) ?_
  refine aa [35] ?_
  exact(NS hp hq).symm
-- V6C
theorem Tp (p q:List UInt8) (hn:p.length≤1000):bO Tryz.prog 122 [.fz p.length (p.map u8),.fz q.length (q.map u8)] (cn (.b (p==q))):=by
 refine enter Tryz.func122 rfl Tryz.ntmps122 aw (Nat.le_of_ble_eq_true rfl) fun w0 X0 hI=>?_
 refine aa [539,242,0,242,447] ?_
 refine b7 rfl (fun hc10=>?_) (fun hc10=>?_)
 ·have hl : p.length ≠ q.length := by intro h; simp [h] at hc10
  refine aa [504,11] ?_
  exact congrArg A.b (V6.Kh hl).symm
 ·have hl : p.length = q.length := by simp at hc10; omega
  refine aa [465,445,242,459] ?_
  refine cO (ι:=Nat) (fun i=> [(1,.fz q.length (q.map u8)),(0,.fz p.length (p.map u8)),(11,.fz p.length (p.map u8)),(12,nV p.length),(13,nV i)]) (fun i=>⟨[]⟩) (fun i=>i≤p.length∧p.take i=q.take i) (fun i=>p.length - i) ?_ ?_
  ·exact cN (0) (⟨Nat.zero_le _,rfl⟩) [] hI rfl rfl ⟨⟨_,rfl,.pure pu⟩,⟨_,rfl,.pure pu⟩,⟨_,rfl,.pure pu⟩,⟨_,rfl,.pure pu⟩,⟨_,rfl,.pure pu⟩,trivial⟩ trivial
  rintro i ⟨hi,hi2⟩
  refine aa [448] ?_
  refine b7 rfl (fun hc14=>?_) (fun hc14=>?_)
  ·have h14 : i < p.length := by have := of_decide_eq_true hc14; omega
   refine aa [514,452] ?_
   refine gq 8 c8 aw ?_
   refine aa [473,355,164,473,355,164,10,447] ?_
   refine b7 rfl (fun hc24=>?_) (fun hc24=>?_)
   ·skip
    refine aa [480,529] ?_
    exact congrArg A.b (V6.Kg hl h14 (by intro e;rw [e]at hc24;simp at hc24)).symm
   ·skip
    refine aa [474] ?_
    exact cz (i+1) (⟨by omega,V6.SU hl h14 hi2 (V6.KE (by simpa using hc24))⟩) ar [] hI rfl rfl ⟨⟨_,rfl,.pure pu⟩,⟨_,rfl,.pure pu⟩,⟨_,rfl,.pure pu⟩,⟨_,rfl,.pure pu⟩,⟨_,rfl,.pure pu⟩,trivial⟩ trivial
  ·have h14 : i = p.length := by have := of_decide_eq_false hc14; omega
   subst h14
   refine aa [484,480,11] ?_
   exact congrArg A.b (V6.Kf hl hi2).symm
theorem To (m:Nat) (l:List UInt8) (h:l.length≤1000):bO Tryz.prog 122 [.fz l.length (l.map u8),.fz l.length ((V6.cut m l).map u8)] (cn (.b (l==V6.cut m l))):=by
  have:=Tp l (V6.cut m l) h
  rwa [V6.kj]at this
theorem Tz (many:Int) (l:List UInt8):bO Tryz.prog 76 [.i .i64 many,.fz l.length (l.map u8)] (cn (.b (V6.masked many l))):=by
 refine enter Tryz.func76 rfl Tryz.ntmps76 aw (Nat.le_of_ble_eq_true rfl) fun w0 X0 hI=>?_
 refine aa [448] ?_
 rcases BW (V6.sized many l.length)with hcs|hcs
 ·skip
  refine aa [451,350,0,547,528,506] ?_
  exact congrArg A.b (V6.OQ hcs).symm
 ·have hsz := hcs
  obtain⟨m,rfl,h1,h2,h3⟩:=V6.sD hcs
  refine aa [451,351,494,7,7] ?_
  refine fg rfl rfl rfl (kN 12 rfl false rfl (.cons (.pure pu) (.cons (.pure pu) (.nil))) (yl l m h3 h1 h2) bL (.inl rfl) rfl ?_)
  refine fg rfl rfl rfl (bX true rfl (.cons (.pure pu) (.cons (.sl rfl rfl rfl (V6.LG m l) (cv.pure bL) bL) .nil)) (To m l ar) pu (.inr fu) rfl ?_)
  refine aa [506] ?_
  exact congrArg A.b (V6.OR hsz).symm
theorem Tb (q:List UInt8):bO Tryz.prog 74 [.fz q.length (q.map u8)] (cn (.b (fO q))):=by
 refine enter Tryz.func74 rfl Tryz.ntmps74 aw (Nat.le_of_ble_eq_true rfl) fun w0 X0 hI=>?_
 refine aa [524,24,520,5] ?_
 exact congrArg A.b (V6.GH q)
theorem Tc (db:List (List UInt8)) (q:List UInt8):bO Tryz.prog 75 [.fz q.length (q.map u8),.fp [.fz db.length (db.map V6.cA)]] (cn (.b (oK db.length q))):=by
 refine enter Tryz.func75 rfl Tryz.ntmps75 aw (Nat.le_of_ble_eq_true rfl) fun w0 X0 hI=>?_
 refine aa [537,25,23,0] ?_
 refine bK rfl (bX false rfl (.cons (.pure pu) (.cons (.pure pu) (.nil))) (Tz (db.length:Nat) q) pu (.inl rfl) rfl ?_)
 refine aa [520] ?_
 refine bW (rs:= [.tmp 3]) rfl (bT rfl bR) ?_
 rfl
theorem Tw (l:List (List UInt8)) (hn:l.length≤2000):bO Tryz.prog 120 [.fz l.length (l.map V6.cA),.fn (.func 74) [] []] (cn (.i .i64 (ou fO l))):=by
 refine enter Tryz.func120 rfl Tryz.ntmps120 aw (Nat.le_of_ble_eq_true rfl) fun w0 X0 hI=>?_
 refine aa [444,470,445,538] ?_
 refine cO (ι:=Nat) (fun i=> [(0,.fz l.length (l.map V6.cA)),(1,.fn (.func 74) [] []),(7,nV l.length),(8,nV i)]) (fun i=>⟨[]⟩) (fun i=>i≤l.length∧(l.take i).any fO=false) (fun i=>l.length - i) ?_ ?_
 ·exact cN (0) (⟨Nat.zero_le _,rfl⟩) [] hI rfl rfl ⟨⟨_,rfl,.pure pu⟩,⟨_,rfl,.pure pu⟩,⟨_,rfl,.pure pu⟩,⟨_,rfl,.pure pu⟩,trivial⟩ trivial
 rintro i ⟨hi,hi2⟩
 refine aa [448] ?_
 refine b7 rfl (fun hc9=>?_) (fun hc9=>?_)
 ·have h9 : i < l.length := by have := of_decide_eq_true hc9; omega
  obtain⟨q,hq⟩:∃q,l[i]? =some q:=⟨_,List.getElem?_eq_getElem h9⟩
  refine aa [477,489,70,47] ?_
  refine bK rfl (iw false rfl rfl (.cons (.pure pu) .nil) (Tb q) pu (.inl rfl) rfl ?_)
  refine bI <| bG ?_
  refine b7 rfl (fun hc16=>?_) (fun hc16=>?_)
  ·skip
   refine aa [445,449,529] ?_
   exact congrArg (A.i .i64) (AF hq hi2 hc16).symm
  ·skip
   refine aa [474] ?_
   exact cz (i+1) (⟨by omega,BT hq hi2 hc16⟩) ar [] hI rfl rfl ⟨⟨_,rfl,.pure pu⟩,⟨_,rfl,.pure pu⟩,⟨_,rfl,.pure pu⟩,⟨_,rfl,.pure pu⟩,trivial⟩ trivial
 ·have h9 : i = l.length := by have := of_decide_eq_false hc9; omega
  subst h9
  refine aa [483,65,457,11] ?_
  exact congrArg (A.i .i64) (AH hi2).symm
theorem Is (l:List (List UInt8)) (hn:l.length≤2000):bO Tryz.prog 73 [.fz l.length (l.map V6.cA),.fn (.func 74) [] []] (cn (.b (l.any fO))):=by
 refine enter Tryz.func73 rfl Tryz.ntmps73 aw (Nat.le_of_ble_eq_true rfl) fun w0 X0 hI=>?_
 refine aa [444,455] ?_
 refine bK rfl (bX false rfl (.cons (.pure pu) (.cons (.pure pu) .nil)) (Tw l hn) pu (.inl rfl) rfl ?_)
 refine aa [506] ?_
 exact congrArg A.b (AG ..)
theorem Tx (db:List (List UInt8)) (l:List (List UInt8)) (hn:l.length≤2000):bO Tryz.prog 120 [.fz l.length (l.map V6.cA),.fn (.func 75) [] [.fp [.fz db.length (db.map V6.cA)]]] (cn (.i .i64 (ou (oK db.length) l))):=by
 refine enter Tryz.func120 rfl Tryz.ntmps120 aw (Nat.le_of_ble_eq_true rfl) fun w0 X0 hI=>?_
 refine aa [444,470,445,538] ?_
 refine cO (ι:=Nat) (fun i=> [(0,.fz l.length (l.map V6.cA)),(1,.fn (.func 75) [] [.fp [.fz db.length (db.map V6.cA)]]),(7,nV l.length),(8,nV i)]) (fun i=>⟨[]⟩) (fun i=>i≤l.length∧(l.take i).any (oK db.length)=false) (fun i=>l.length - i) ?_ ?_
 ·exact cN (0) (⟨Nat.zero_le _,rfl⟩) [] hI rfl rfl ⟨⟨_,rfl,.pure pu⟩,⟨_,rfl,.pure pu⟩,⟨_,rfl,.pure pu⟩,⟨_,rfl,.pure pu⟩,trivial⟩ trivial
 rintro i ⟨hi,hi2⟩
 refine aa [448] ?_
 refine b7 rfl (fun hc9=>?_) (fun hc9=>?_)
 ·have h9 : i < l.length := by have := of_decide_eq_true hc9; omega
  obtain⟨q,hq⟩:∃q,l[i]? =some q:=⟨_,List.getElem?_eq_getElem h9⟩
  refine aa [477,489,70,47] ?_
  refine bK rfl (iw false rfl rfl (.cons (.pure pu) (.cons (.pure pu) .nil)) (Tc db q) pu (.inl rfl) rfl ?_)
  refine bI <| bG ?_
  refine b7 rfl (fun hc16=>?_) (fun hc16=>?_)
  ·skip
   refine aa [445,449,529] ?_
   exact congrArg (A.i .i64) (AF hq hi2 hc16).symm
  ·skip
   refine aa [474] ?_
   exact cz (i+1) (⟨by omega,BT hq hi2 hc16⟩) ar [] hI rfl rfl ⟨⟨_,rfl,.pure pu⟩,⟨_,rfl,.pure pu⟩,⟨_,rfl,.pure pu⟩,⟨_,rfl,.pure pu⟩,trivial⟩ trivial
 ·have h9 : i = l.length := by have := of_decide_eq_false hc9; omega
  subst h9
  refine aa [483,65,457,11] ?_
  exact congrArg (A.i .i64) (AH hi2).symm
theorem Tm (db:List (List UInt8)) (l:List (List UInt8)) (hn:l.length≤2000):bO Tryz.prog 73 [.fz l.length (l.map V6.cA),.fn (.func 75) [] [.fp [.fz db.length (db.map V6.cA)]]] (cn (.b (l.any (oK db.length)))):=by
 refine enter Tryz.func73 rfl Tryz.ntmps73 aw (Nat.le_of_ble_eq_true rfl) fun w0 X0 hI=>?_
 refine aa [444,455] ?_
 refine bK rfl (bX false rfl (.cons (.pure pu) (.cons (.pure pu) .nil)) (Tx db l hn) pu (.inl rfl) rfl ?_)
 refine aa [506] ?_
 exact congrArg A.b (AG ..)
theorem Ip (db ms:List (List UInt8)):bO Tryz.prog 36 [.fz db.length (db.map V6.cA),.ag [.fz ms.length (ms.map V6.cA)]] (cn (s8 db ms)):=by
 refine enter Tryz.func36 rfl Tryz.ntmps36 aw (Nat.le_of_ble_eq_true rfl) fun w0 X0 hI=>?_
 refine aa [444,83,84] ?_
 refine bK rfl (cB 4 rfl jd rfl rfl ?_)
 refine aa [498,130,41,1,25,23,446] ?_
 refine jr 3 rfl rfl rfl rfl (fun hb15=> .step (bM dC rfl rfl rfl) rfl rfl<| .step (cf Tryz.underlying26 rfl rfl rfl) rfl rfl<| .step (bF rfl) rfl rfl<| .done) rfl rfl <| s1 (bF rfl) rfl <| jr 4 rfl rfl rfl rfl (fun hb20=> .step (fV Tryz.underlying87 rfl dC az rfl rfl) rfl rfl<| .step (bM dC rfl rfl rfl) rfl rfl<| .step (cf Tryz.underlying26 rfl rfl rfl) rfl rfl<| .step (bF rfl) rfl rfl<| .done) rfl rfl <| bI <| bG ?_
 refine b7 rfl (fun hc25=>?_) (fun hc25=>?_)
 ·have h25 : ¬ (1 ≤ db.length ∧ db.length ≤ 1024 ∧ ms.length ≤ 132) := by simp at hc25; omega
  refine aa [444,165,97,96,467,166] ?_
  exact(yX (JE h25)).symm
 ·have h25 : 1 ≤ db.length ∧ db.length ≤ 1024 ∧ ms.length ≤ 132 := by simp at hc25; omega
  refine bY <| bG <| bH <| bH ?_
  rcases(BW (db.any fO)).symm with hcs|hcs
  ·skip
   refine aa [1,25,356,0,505,515,165,97,96,467,166] ?_
   exact(yX (yV hcs)).symm
  ·have hd1 := hcs
   refine aa [1,25,356,0] ?_
   refine g1 rfl rfl (fV Tryz.underlying87 rfl dC az rfl rfl) rfl ?_
   refine aa [28] ?_
   refine g1 rfl rfl (iz (us:= []) (vs:= [.fp [.fz db.length (db.map V6.cA)]]) rfl rfl) rfl <| fg rfl rfl rfl (bX false rfl (.cons (.pure pu) (.cons (.pure pu) .nil)) (Tm db ms ar) pu (.inl rfl) rfl ?_)
   refine aa [447] ?_
   refine b7 rfl (fun hc34=>?_) (fun hc34=>?_)
   ·skip
    refine aa [444,165,97,96,467,166] ?_
    exact(yX (JF hc34)).symm
   ·have hok := CJ h25 hd1 hc34
    obtain⟨hdb,hms⟩:=JG hok
    refine bY <| bG <| bH <| bH <| bJ <| s1 (fV Tryz.underlying87 rfl dC az rfl rfl) rfl ?_
    refine aa [25,538] ?_
    refine cO (ι:=Nat) (fun j=> [(2,.fp [.fz db.length (db.map V6.cA)]),(4,.p 4 0),(37,.fz ms.length (ms.map V6.cA)),(38,nV ms.length),(39,nV j)]) (fun j=>⟨[(4,some ([.sl 167 1 0 j])),(167,some (((ms.take j).map (V6.answer db)).map V6.cA))]⟩) (fun j=>j≤ms.length) (fun j=>ms.length - j) ?_ ?_
    ·exact cN (0) (Nat.zero_le _) [(4,some 4),(167,none)] hI rfl rfl ⟨⟨_,rfl,.pure pu⟩,⟨_,rfl,.p rfl⟩,⟨_,rfl,.pure pu⟩,⟨_,rfl,.pure pu⟩,⟨_,rfl,.pure pu⟩,trivial⟩ ⟨.inr ⟨_,_,rfl,rfl,.cons (.nl rfl) .nil⟩,.inl ⟨rfl,rfl⟩,trivial⟩
    rintro j hj
    refine aa [448] ?_
    refine b7 rfl (fun hc40=>?_) (fun hc40=>?_)
    ·have h40 : j < ms.length := by have := of_decide_eq_true hc40; omega
     obtain⟨q,hq⟩:∃q,ms[j]? =some q:=⟨_,List.getElem?_eq_getElem h40⟩
     have hqm:=hms q (List.mem_of_getElem? hq)
     have hql:=V6.OP hqm
     refine aa [462,240,47,458] ?_
     refine bK rfl (cB 8 rfl kC rfl rfl ?_)
     refine aa [162,456] ?_
     refine ep 8 rfl (cs':= [V6.cA q]) rfl <| fS 8 rfl rfl bL <| bJ <| bK rfl (oA 44 rfl 16 16 Tryz.underlying47 cc rfl rfl rfl rfl rfl av av av rfl ?_)
     refine s1 (iz (us:= [.fp [V6.cA q]]) (vs:= []) rfl rfl) rfl ?_
     refine aa [0,508,25,538] ?_
     refine cO (ι:=Nat) (fun k=> [(2,.fp [.fz db.length (db.map V6.cA)]),(4,.p 4 0),(9,.sl 44 1 0 16),(10,.fn (.func 77) [.fp [V6.cA q]] []),(37,.fz ms.length (ms.map V6.cA)),(38,nV ms.length),(39,nV j),(47,nV db.length),(48,nV k)]) (fun k=>⟨[(4,some ([.sl 167 1 0 j])),(167,some (((ms.take j).map (V6.answer db)).map V6.cA)),(44,some ((V6.iD db q k).map u8))]⟩) (fun k=>k≤db.length) (fun k=>db.length - k) ?_ ?_
     ·exact cN (0) (Nat.zero_le _) [(4,some 4),(44,some 44),(167,some 167)] hI rfl rfl ⟨⟨_,rfl,.pure pu⟩,⟨_,rfl,.p rfl⟩,⟨_,rfl,.sl rfl aq⟩,⟨_,rfl,.pure pu⟩,⟨_,rfl,.pure pu⟩,⟨_,rfl,.pure pu⟩,⟨_,rfl,.pure pu⟩,⟨_,rfl,.pure pu⟩,⟨_,rfl,.pure pu⟩,trivial⟩ ⟨.inr ⟨_,_,rfl,rfl,.cons (.sl rfl rfl) .nil⟩,.inr ⟨_,_,rfl,rfl,.pure bL⟩,.inr ⟨_,_,rfl,rfl,.of aZ (.pure bL)⟩,trivial⟩
     rintro k hk
     have hs16:=V6.tZ hdb q k hk
     refine aa [448] ?_
     refine b7 rfl (fun hc49=>?_) (fun hc49=>?_)
     ·have h49 : k < db.length := by have := of_decide_eq_true hc49; omega
      obtain⟨d,hd⟩:∃d,db[k]? =some d:=⟨_,List.getElem?_eq_getElem h49⟩
      have hd16:=hdb d (List.mem_of_getElem? hd)
      refine aa [477,453] ?_
      refine bK rfl (iw false rfl rfl (.cons (.pure pu) (.cons (.pure pu) .nil)) (Tl q k ar ar) pu (.inl rfl) rfl ?_)
      refine bI <| bG ?_
      refine b7 rfl (fun hc53=>?_) (fun hc53=>?_)
      ·skip
       refine aa [450,25,0,357] ?_
       refine s1 (bM cL rfl rfl (V6.gY hd)) rfl <| bK rfl (dz 59 rfl Tryz.underlying26 cL rfl rfl rfl rfl rfl ?_)
       refine bK rfl (oz ⟨[(44,some ((V6.iD db q k).map u8))]⟩ [(44,([d].foldl V6.dR (V6.iD db q k)).map u8)] true rfl ⟨⟨rfl,cv.pure bL⟩,trivial⟩ (.cons (.ksl rfl) (.cons (.sl rfl rfl rfl rfl (cv.pure bL) bL) .nil)) (Te (V6.iD db q k) [d] hs16 (by simpa using hd16) aB) trivial (.inr trivial) (nQ (c0:=(V6.iD db q k).map u8) rfl bL fT) rfl ?_)
       refine aa [472] ?_
       exact cz (k+1) ar ar [(4,some 4),(44,some 44),(167,some 167)] hI rfl rfl ⟨⟨_,rfl,.pure pu⟩,⟨_,rfl,.p rfl⟩,⟨_,rfl,.sl rfl aq⟩,⟨_,rfl,.pure pu⟩,⟨_,rfl,.pure pu⟩,⟨_,rfl,.pure pu⟩,⟨_,rfl,.pure pu⟩,⟨_,rfl,.pure pu⟩,⟨_,rfl,.pure pu⟩,trivial⟩ ⟨.inr ⟨_,_,rfl,rfl,.cons (.sl rfl rfl) .nil⟩,.inr ⟨_,_,rfl,rfl,.pure bL⟩,.inr ⟨_,_,rfl,rfl,.of (V6.JJ hd hc53) (.pure bL)⟩,trivial⟩
      ·skip
       refine aa [474] ?_
       exact cz (k+1) ar ar [(4,some 4),(44,some 44),(167,some 167)] hI rfl rfl ⟨⟨_,rfl,.pure pu⟩,⟨_,rfl,.p rfl⟩,⟨_,rfl,.sl rfl aq⟩,⟨_,rfl,.pure pu⟩,⟨_,rfl,.pure pu⟩,⟨_,rfl,.pure pu⟩,⟨_,rfl,.pure pu⟩,⟨_,rfl,.pure pu⟩,⟨_,rfl,.pure pu⟩,trivial⟩ ⟨.inr ⟨_,_,rfl,rfl,.cons (.sl rfl rfl) .nil⟩,.inr ⟨_,_,rfl,rfl,.pure bL⟩,.inr ⟨_,_,rfl,rfl,.of (V6.JI hc53) (.pure bL)⟩,trivial⟩
     ·have h49 : k = db.length := by have := of_decide_eq_false hc49; omega
      subst h49
      refine cG <| b6 <| b6 <| cH <| bG ?_
      have hs16:=V6.tZ hdb q db.length (Nat.le_refl _)
      refine eR 9 rfl rfl bL (c5 aL rfl) ?_
      refine aa [1,358,25] ?_
      refine s1 ((bF rfl).v (v':=V6.cA (V6.answer db q)) (yW hdb q)) rfl <| bK rfl (dz 65 rfl Tryz.underlying26 cL rfl rfl rfl rfl rfl ?_)
      refine bK rfl (dB 66 rfl Tryz.underlying26 cL rfl (.sl rfl (by rw [List.length_map,List.length_map,List.length_take];omega)) rfl (dE rfl aq) aB aC ar rfl (V6.Q9 (V6.answer db) hq) rfl ?_)
      refine aa [358,117,472] ?_
      exact cz (j+1) ar ar [(4,some 4),(167,some 66)] hI rfl rfl ⟨⟨_,rfl,.pure pu⟩,⟨_,rfl,.p rfl⟩,⟨_,rfl,.pure pu⟩,⟨_,rfl,.pure pu⟩,⟨_,rfl,.pure pu⟩,trivial⟩ ⟨.inr ⟨_,_,rfl,rfl,.cons (.sl rfl aq) .nil⟩,.inr ⟨_,_,rfl,rfl,.pure bL⟩,trivial⟩
    ·have h40 : j = ms.length := by have := of_decide_eq_false hc40; omega
     subst h40
     refine aa [463] ?_
     refine kY 4 0 rfl rfl rfl rfl bL (c5 (by rw [List.length_map,List.length_map,List.take_length,Nat.mul_one]) rfl) rfl ?_
     refine aa [1,165,97,464,166] ?_
     rw [yY hok,dr,List.length_map,List.take_length];rfl
-- V6D
theorem yn (many i j:Int) (l:List UInt8):bO Tryz.prog 43 [.i .i64 many,.i .i64 i,.i .i64 j,.fz l.length (l.map u8)] (cn (mT many i j l)):=by
 refine enter Tryz.func43 rfl Tryz.ntmps43 aw (Nat.le_of_ble_eq_true rfl) fun w0 X0 hI=>?_
 refine aa [445,470,453,308,493] ?_
 refine cO (ι:=Nat) (fun k=> [(0,.i .i64 many),(1,.i .i64 i),(2,.i .i64 j),(3,.fz l.length (l.map u8)),(18,.sl 18 1 0 2),(19,nV 2),(20,nV k)]) (fun k=>⟨[(18,some ([.i .i64 i,.i .i64 j]))]⟩) (fun k=>k≤2∧(0<k→(V6.dW many i l).2.2=0)∧(1<k→(V6.dW many j l).2.2=0)) (fun k=>2 - k) ?_ ?_
 ·exact cN (0) (⟨by omega,fun h=>absurd h ar,fun h=>absurd h ar⟩) [(18,some 18)] hI rfl rfl ⟨⟨_,rfl,.pure pu⟩,⟨_,rfl,.pure pu⟩,⟨_,rfl,.pure pu⟩,⟨_,rfl,.pure pu⟩,⟨_,rfl,.sl rfl aq⟩,⟨_,rfl,.pure pu⟩,⟨_,rfl,.pure pu⟩,trivial⟩ ⟨.inr ⟨_,_,rfl,rfl,.pure bL⟩,trivial⟩
 rintro k ⟨hk,p1,p2⟩
 refine aa [448] ?_
 refine b7 rfl (fun hc21=>?_) (fun hc21=>?_)
 ·have h21 : k < 2 := by have := of_decide_eq_true hc21; omega
  refine bY <| bG <| bH <| bZ <| bH ?_
  rcases show k=0∨k=1 by omega with hcs|hcs
  ·subst hcs
   refine bJ <| s1 (ij 0 Tryz.underlying24 bP rfl rfl rfl rfl ar rfl) rfl ?_
   refine aa [2,452] ?_
   rcases Decidable.em ((V6.dW many i l).2.2=0)with hcs|hcs
   ·have hz := hcs
    refine aa [502] ?_
    refine bK rfl (bX false rfl (.cons (.pure pu) (.cons (.pure pu) (.cons (.pure pu) (.nil)))) (bO.cast (pN many i l) (wZ hz)) pu (.inl rfl) rfl ?_)
    refine aa [542,458,497,474] ?_
    exact cz (0+1) (⟨by omega,fun _=>hz,fun h=>absurd h ar⟩) ar [(18,some 18)] hI rfl rfl ⟨⟨_,rfl,.pure pu⟩,⟨_,rfl,.pure pu⟩,⟨_,rfl,.pure pu⟩,⟨_,rfl,.pure pu⟩,⟨_,rfl,.sl rfl aq⟩,⟨_,rfl,.pure pu⟩,⟨_,rfl,.pure pu⟩,trivial⟩ ⟨.inr ⟨_,_,rfl,rfl,.pure bL⟩,trivial⟩
   ·have hz := hcs
    refine aa [502] ?_
    refine bK rfl (bX false rfl (.cons (.pure pu) (.cons (.pure pu) (.cons (.pure pu) (.nil)))) (bO.cast (pN many i l) (wY hz)) pu (.inl rfl) rfl ?_)
    refine aa [542,458,167,521,453,449,495,80] ?_
    exact(S4 hz).symm
  ·subst hcs
   refine bJ <| s1 (ij 1 Tryz.underlying24 bP rfl rfl rfl rfl ar rfl) rfl ?_
   refine aa [2,452] ?_
   rcases Decidable.em ((V6.dW many j l).2.2=0)with hcs|hcs
   ·have hz := hcs
    refine aa [502] ?_
    refine bK rfl (bX false rfl (.cons (.pure pu) (.cons (.pure pu) (.cons (.pure pu) (.nil)))) (bO.cast (pN many j l) (wZ hz)) pu (.inl rfl) rfl ?_)
    refine aa [542,458,497,474] ?_
    exact cz (1+1) (⟨by omega,fun _=>p1 ar,fun _=>hz⟩) ar [(18,some 18)] hI rfl rfl ⟨⟨_,rfl,.pure pu⟩,⟨_,rfl,.pure pu⟩,⟨_,rfl,.pure pu⟩,⟨_,rfl,.pure pu⟩,⟨_,rfl,.sl rfl aq⟩,⟨_,rfl,.pure pu⟩,⟨_,rfl,.pure pu⟩,trivial⟩ ⟨.inr ⟨_,_,rfl,rfl,.pure bL⟩,trivial⟩
   ·have hz := hcs
    refine aa [502] ?_
    refine bK rfl (bX false rfl (.cons (.pure pu) (.cons (.pure pu) (.cons (.pure pu) (.nil)))) (bO.cast (pN many j l) (wY hz)) pu (.inl rfl) rfl ?_)
    refine aa [542,458,167,521,453,449,495,80] ?_
    exact(S5 (p1 ar) hz).symm
 ·have h21 : k = 2 := by have := of_decide_eq_false hc21; omega
  subst h21
  have z1:=p1 ar
  have z2:=p2 ar
  obtain⟨m,a,rfl,rfl,h1,h2,h3,h4⟩:=V6.rS z1
  obtain⟨m2,b,e2,rfl,h5,h6,h7,h8⟩:=V6.rS z2
  obtain rfl:m=m2:=by omega
  refine aa [484,453] ?_
  refine bK rfl (kN 38 rfl false rfl (.cons (.pure pu) (.cons (.pure pu) (.nil))) (yl l m h3 h1 h2) bL (.inl rfl) rfl ?_)
  refine bK rfl (cB 15 rfl kC rfl rfl ?_)
  refine aa [162,486] ?_
  refine bK rfl (xc ⟨[(15,some [.sl 38 1 0 l.length]),(38,some ((V6.cut m l).map u8))]⟩ [(15, [.sl 38 1 0 l.length]),(38,(V6.change (V6.cut m l) a).map u8)] true rfl ⟨⟨rfl,.cons (.ksl rfl) .nil⟩,⟨rfl,cv.pure bL⟩,trivial⟩ (.cons (.kp rfl) (.cons (.pure pu) .nil)) (Ir (V6.cut m l) l.length a (V6.kj m l) ar ar) trivial (.inr trivial) (yj rfl rfl (uY rfl) (pU bL (.inr fT))) rfl ?_)
  refine aa [486] ?_
  refine bK rfl (xc ⟨[(15,some [.sl 38 1 0 l.length]),(38,some ((V6.change (V6.cut m l) a).map u8))]⟩ [(15, [.sl 38 1 0 l.length]),(38,(V6.change (V6.change (V6.cut m l) a) b).map u8)] true rfl ⟨⟨rfl,.cons (.ksl rfl) .nil⟩,⟨rfl,cv.pure bL⟩,trivial⟩ (.cons (.kp rfl) (.cons (.pure pu) .nil)) (Ir (V6.change (V6.cut m l) a) l.length b ((V6.lY _ _).trans (V6.kj m l)) ar ar) trivial (.inr trivial) (yj rfl rfl (uY rfl) (pU bL (.inr fT))) rfl ?_)
  refine aa [454,238,532] ?_
  refine eR 8 rfl rfl bL (c5 (by rw [List.length_map,V6.lY,V6.lY,V6.kj,Nat.mul_one]) rfl) ?_
  refine aa [80] ?_
  show A.tu _=_;rw [B3 z1 z2,V6.cA,V6.lY,V6.lY,V6.kj]
theorem Iq (many:Int) (at1:List Int) (batch:Int) (coins:List (List UInt8)):bO Tryz.prog 72 [.i .i64 many,.fz at1.length (at1.map (A.i .i64)),.i .i64 batch,.fz coins.length (coins.map V6.cA)] (cn (m8 many at1 batch coins)):=by
 refine enter Tryz.func72 rfl Tryz.ntmps72 aw (Nat.le_of_ble_eq_true rfl) fun w0 X0 hI=>?_
 refine bH <| bJ <| bK rfl (cB 8 rfl cZ rfl rfl ?_)
 refine bK rfl (cB 9 rfl cZ rfl rfl ?_)
 refine aa [470,489] ?_
 refine jr 2 rfl rfl rfl rfl (fun hb18=> .step (bF rfl) rfl rfl<| .step (bF rfl) rfl rfl<| .done) rfl rfl <| s1 (bF rfl) rfl <| jr 4 rfl rfl rfl rfl (fun hb22=> .step (bF rfl) rfl rfl<| .step (cf Tryz.underlying24 rfl rfl rfl) rfl rfl<| .step (bF rfl) rfl rfl<| .step (bF rfl) rfl rfl<| .done) rfl rfl <| s1 (bF rfl) rfl <| jr 4 rfl rfl rfl rfl (fun hb28=> .step (bF rfl) rfl rfl<| .step (cf Tryz.underlying26 rfl rfl rfl) rfl rfl<| .step (bF rfl) rfl rfl<| .step (bF rfl) rfl rfl<| .done) rfl rfl <| bI <| bG ?_
 refine b7 rfl (fun hc33=>?_) (fun hc33=>?_)
 ·have h33 : batch < 1 ∨ batch > 132 ∨ (at1.length : Int) > batch ∨ (coins.length : Int) ≠ batch := by simp at hc33; omega
  have hbad:=JS (many:=many) h33
  refine aa [3,243,359,360,361,4,118,96,467,168] ?_
  show A.tu _=_;rw [vm (by rw [hbad];decide),hbad];rfl
 ·have h33 : 1 ≤ coins.length ∧ coins.length ≤ 132 ∧ at1.length ≤ coins.length ∧ batch = (coins.length : Int) := by simp at hc33; omega
  obtain⟨b1,b2,b3,rfl⟩:=h33
  refine aa [465,445,459] ?_
  refine cO (ι:=Nat) (fun k=> [(0,.i .i64 many),(1,.fz at1.length (at1.map (A.i .i64))),(3,.fz coins.length (coins.map V6.cA)),(8,.p 8 0),(9,.p 9 0),(36,nV coins.length),(37,nV k)]) (fun k=>⟨[(8,some ([.sl 168 1 0 k])),(168,some ((V6.eO many at1 coins k).1.map V6.cA)),(9,some ([.sl 174 1 0 k])),(174,some ((V6.eO many at1 coins k).2.1.map V6.cA))]⟩) (fun k=>k≤coins.length∧(V6.eO many at1 coins k).2.2=0) (fun k=>coins.length - k) ?_ ?_
  ·exact cN (0) (⟨Nat.zero_le _,rfl⟩) [(8,some 8),(9,some 9),(168,none),(174,none)] hI rfl rfl ⟨⟨_,rfl,.pure pu⟩,⟨_,rfl,.pure pu⟩,⟨_,rfl,.pure pu⟩,⟨_,rfl,.p rfl⟩,⟨_,rfl,.p rfl⟩,⟨_,rfl,.pure pu⟩,⟨_,rfl,.pure pu⟩,trivial⟩ ⟨.inr ⟨_,_,rfl,rfl,.cons (.nl rfl) .nil⟩,.inl ⟨rfl,rfl⟩,.inr ⟨_,_,rfl,rfl,.cons (.nl rfl) .nil⟩,.inl ⟨rfl,rfl⟩,trivial⟩
  rintro k ⟨hk,hk0⟩
  obtain⟨hl1,hl2,_⟩:=V6.y7 k hk0
  refine aa [448] ?_
  refine b7 rfl (fun hc38=>?_) (fun hc38=>?_)
  ·have h38 : k < coins.length := by have := of_decide_eq_true hc38; omega
   obtain⟨q,hq⟩:∃q,coins[k]? =some q:=⟨_,List.getElem?_eq_getElem h38⟩
   have hqd:coins.getD k []=q:=by rw [List.getD,hq];rfl
   refine aa [477,444,470,453,512] ?_
   refine b7 rfl (fun hc43=>?_) (fun hc43=>?_)
   ·have h43 : k < at1.length := by have := of_decide_eq_true hc43; omega
    have hw:=V6.sM h43
    refine aa [451,37] ?_
    refine s1 (bM bP rfl rfl (V6.tT h43)) rfl ?_
    refine aa [452] ?_
    rcases Decidable.em ((V6.dW many (V6.want at1 k) q).2.2=0)with hcs|hcs
    ·have hz := hcs
     have hnx:=V6.y6 hk0 (by rw [hqd];exact hz)
     rw [hqd]at hnx
     refine aa [450,362,446,543,363,542,491,497,469,60,25,0,364,365,60,117,460,1,60,25,0,366,367,60,117,472] ?_
     exact cz (k+1) (⟨by omega,by rw [hnx]⟩) ar [(8,some 8),(9,some 9),(168,some 68),(174,some 74)] hI rfl rfl ⟨⟨_,rfl,.pure pu⟩,⟨_,rfl,.pure pu⟩,⟨_,rfl,.pure pu⟩,⟨_,rfl,.p rfl⟩,⟨_,rfl,.p rfl⟩,⟨_,rfl,.pure pu⟩,⟨_,rfl,.pure pu⟩,trivial⟩ ⟨.inr ⟨_,_,rfl,rfl,.cons (.sl rfl aq) .nil⟩,.inr ⟨_,_,rfl,rfl,.pure bL⟩,.inr ⟨_,_,rfl,rfl,.cons (.sl rfl aq) .nil⟩,.inr ⟨_,_,rfl,rfl,.pure bL⟩,trivial⟩
    ·have hz := hcs
     have hbd:=V6.CX h38 b1 b2 b3 hk0 (by rw [hqd];exact hz)
     rw [hqd]at hbd
     refine aa [450,362,446,543,368,542,491,167,521,444,169,169,0,526,449,519,519,168] ?_
     show A.tu _=_;rw [vm (by rw [hbd];exact hz),hbd];rfl
   ·have h43 : ¬ k < at1.length := by have := of_decide_eq_false hc43; omega
    have hw:=V6.uN h43
    refine bY <| bG <| bH ?_
    rcases Decidable.em ((V6.dW many (V6.want at1 k) q).2.2=0)with hcs|hcs
    ·have hz := hcs
     have hnx:=V6.y6 hk0 (by rw [hqd];exact hz)
     rw [hqd]at hnx
     refine aa [450,369,446,543,363,542,491,497,469,60,25,0,364,365,60,117,460,1,60,25,0,366,367,60,117,472] ?_
     exact cz (k+1) (⟨by omega,by rw [hnx]⟩) ar [(8,some 8),(9,some 9),(168,some 68),(174,some 74)] hI rfl rfl ⟨⟨_,rfl,.pure pu⟩,⟨_,rfl,.pure pu⟩,⟨_,rfl,.pure pu⟩,⟨_,rfl,.p rfl⟩,⟨_,rfl,.p rfl⟩,⟨_,rfl,.pure pu⟩,⟨_,rfl,.pure pu⟩,trivial⟩ ⟨.inr ⟨_,_,rfl,rfl,.cons (.sl rfl aq) .nil⟩,.inr ⟨_,_,rfl,rfl,.pure bL⟩,.inr ⟨_,_,rfl,rfl,.cons (.sl rfl aq) .nil⟩,.inr ⟨_,_,rfl,rfl,.pure bL⟩,trivial⟩
    ·have hz := hcs
     have hbd:=V6.CX h38 b1 b2 b3 hk0 (by rw [hqd];exact hz)
     rw [hqd]at hbd
     refine aa [450,369,446,543,368,542,491,167,521,444,169,169,0,526,449,519,519,168] ?_
     show A.tu _=_;rw [vm (by rw [hbd];exact hz),hbd];rfl
  ·have h38 : k = coins.length := by have := of_decide_eq_false hc38; omega
   subst h38
   refine aa [463] ?_
   have hall:=V6.lJ (many:=many) b1 b2 b3
   refine kY 8 0 rfl rfl rfl rfl bL (c5 aL rfl) rfl <| kY 9 0 rfl rfl rfl rfl bL (c5 aL rfl) rfl ?_
   refine aa [243,359,360,361,4,118,464,168] ?_
   show A.tu _=_;rw [vn (by rw [hall];exact hk0),hall,dr,dr,hl1,hl2];rfl
-- V6E
theorem EJ (l:List (List UInt8)) (most:Int) (hn:l.length≤maxLen):bO Tryz.prog 5 [.fz l.length (l.map V6.cA),.i .i64 most] (cn (.b (V6.k5 l most))):=by
 refine enter Tryz.func5 rfl Tryz.ntmps5 aw (Nat.le_of_ble_eq_true rfl) fun w0 X0 hI=>?_
 refine aa [448,3] ?_
 simp only [maxLen]at hn
 refine aa [1,459] ?_
 refine cO (ι:=Nat) (fun i=> [(0,.fz l.length (l.map V6.cA)),(1,.i .i64 most),(5,nV i)]) (fun i=>⟨[]⟩) (fun i=>i≤l.length∧∀k,k<i→(l.getD k []).length≤130) (fun i=>l.length - i) ?_ ?_
 ·exact cN (0) (⟨Nat.zero_le _,fun k h=>absurd h ar⟩) [] hI rfl rfl ⟨⟨_,rfl,.pure pu⟩,⟨_,rfl,.pure pu⟩,⟨_,rfl,.pure pu⟩,trivial⟩ trivial
 rintro i ⟨hi,hi2⟩
 refine aa [481,23,447] ?_
 refine b7 rfl (fun hc9=>?_) (fun hc9=>?_)
 ·have h9 : i < l.length := by have := of_decide_eq_true hc9; omega
  obtain⟨q,hq⟩:∃q,l[i]? =some q:=⟨_,List.getElem?_eq_getElem h9⟩
  refine aa [482,453,70,47,24,447] ?_
  refine b7 rfl (fun hc17=>?_) (fun hc17=>?_)
  ·have h17 : ¬ q.length ≤ 130 := by have := of_decide_eq_true hc17; omega
   refine aa [480,529] ?_
   exact congrArg A.b (MH hq h17).symm
  ·have h17 : q.length ≤ 130 := by have := of_decide_eq_false hc17; omega
   refine aa [19,492] ?_
   exact cz (i+1) (⟨by omega,MF hq h17 hi2⟩) ar [] hI rfl rfl ⟨⟨_,rfl,.pure pu⟩,⟨_,rfl,.pure pu⟩,⟨_,rfl,.pure pu⟩,trivial⟩ trivial
 ·have h9 : i = l.length := by have := of_decide_eq_false hc9; omega
  subst h9
  refine aa [509,23,446,449,11] ?_
  exact congrArg A.b (V6.EL hi2).symm
theorem HF (a b:List (List UInt8)) (hn:a.length≤maxLen):bO Tryz.prog 44 [.fz a.length (a.map V6.cA),.fz b.length (b.map V6.cA)] (cn (.b (a==b))):=by
 refine enter Tryz.func44 rfl Tryz.ntmps44 aw (Nat.le_of_ble_eq_true rfl) fun w0 X0 hI=>?_
 refine aa [448,3] ?_
 simp only [maxLen]at hn
 refine aa [450,23,0,23,447] ?_
 refine b7 rfl (fun hc10=>?_) (fun hc10=>?_)
 ·have hl : a.length ≠ b.length := by intro h; simp [h] at hc10
  refine aa [504,11] ?_
  exact congrArg A.b (Rs hl).symm
 ·have hl : a.length = b.length := by simp at hc10; omega
  refine aa [465,475] ?_
  refine cO (ι:=Nat) (fun i=> [(0,.fz a.length (a.map V6.cA)),(1,.fz b.length (b.map V6.cA)),(5,nV i)]) (fun i=>⟨[]⟩) (fun i=>i≤a.length∧a.take i=b.take i) (fun i=>a.length - i) ?_ ?_
  ·exact cN (0) (⟨Nat.zero_le _,rfl⟩) [] hI rfl rfl ⟨⟨_,rfl,.pure pu⟩,⟨_,rfl,.pure pu⟩,⟨_,rfl,.pure pu⟩,trivial⟩ trivial
  rintro i ⟨hi,hi2⟩
  refine aa [481,23,447] ?_
  refine b7 rfl (fun hc14=>?_) (fun hc14=>?_)
  ·have h14 : i < a.length := by have := of_decide_eq_true hc14; omega
   obtain⟨p,hp⟩:∃p,a[i]? =some p:=⟨_,List.getElem?_eq_getElem h14⟩
   obtain⟨q,hq⟩:∃q,b[i]? =some q:=⟨_,List.getElem?_eq_getElem ar⟩
   refine aa [482,3,241,473,370] ?_
   refine t1 (bM cL rfl rfl (V6.gY hp)) rfl ?_
   refine aa [371,473,370] ?_
   refine t1 (bM cL rfl rfl (V6.gY hq)) rfl ?_
   refine aa [371,10,447] ?_
   refine b7 rfl (fun hc27=>?_) (fun hc27=>?_)
   ·skip
    refine aa [480,529] ?_
    exact congrArg A.b (Rq hp hq (by simpa using hc27)).symm
   ·skip
    refine aa [19,492] ?_
    exact cz (i+1) (⟨by omega,Ru hi2 hp hq (by simpa using hc27)⟩) ar [] hI rfl rfl ⟨⟨_,rfl,.pure pu⟩,⟨_,rfl,.pure pu⟩,⟨_,rfl,.pure pu⟩,trivial⟩ trivial
  ·have h14 : i = a.length := by have := of_decide_eq_false hc14; omega
   subst h14
   refine aa [484,480,11] ?_
   exact congrArg A.b (Rp hl hi2).symm
end Go.Abs.D2
