/-
  The engine, the plain laws and the walks that the rows need, part 29. Conditions: none.
-/
import Derived.Test.YteempkifmbclgaaGreatDoorM28
import Derived.Shelf.SlIterI.Nil
import Derived.Shelf.SortM.Plain
import Derived.Shelf.SortM.SortNone
import Derived.Ground.GgzProg
import Derived.Ground.SlgmProg
import Derived.Test.YteempkifmbclgaaGreatDoorProg
set_option linter.unusedVariables false
set_option linter.unusedSimpArgs false
set_option maxHeartbeats 1000000
set_option maxRecDepth 10000
-- ShP
namespace Go.Proofs
open Go.Shelf
def Tryz.EI:Go.Shelf.Ren:=⟨fun|7=>66|10=>114|n=>n,fun|23=>80|26=>3|3=>3|28=>105|0=>0|27=>104|33=>126|4=>4|n=>n,fun|n=>n⟩
theorem Tryz.LI:Go.Proofs.SlLaysZI.n7 Tryz.prog Tryz.EI:= {
  mixed:=by kernel_rfl
  f7:=⟨Tryz.f66.name,by decide,Tryz.func66.trans (congrArg some aw)⟩
  f10:=⟨Tryz.f114.name,by decide,Tryz.func114.trans (congrArg some aw)⟩
  t0:=Tryz.underlying0
  a0:=Tryz.isAgg0
  z0:=Tryz.sizeOf0
  v0:=Tryz.zeroValue0
  t4:=Tryz.underlying4
  a4:=Tryz.isAgg4
  z4:=Tryz.sizeOf4
  v4:=Tryz.zeroValue4
  t23:=Tryz.underlying80
  a23:=Tryz.isAgg80
  z23:=Tryz.sizeOf80
  v23:=Tryz.zeroValue80
  t26:=Tryz.underlying3
  a26:=Tryz.isAgg3
  z26:=Tryz.sizeOf3
  v26:=Tryz.zeroValue3
  t27:=Tryz.underlying104
  a27:=Tryz.isAgg104
  z27:=Tryz.sizeOf104
  v27:=Tryz.zeroValue104
  t28:=Tryz.underlying105
  a28:=Tryz.isAgg105
  z28:=Tryz.sizeOf105
  v28:=Tryz.zeroValue105
  t33:=Tryz.underlying126
  a33:=Tryz.isAgg126
  z33:=Tryz.sizeOf126
  v33:=Tryz.zeroValue126}
def Tryz.Hr:Go.Shelf.Ren:=⟨fun|6=>65|8=>112|9=>113|11=>164|13=>146|12=>165|23=>186|24=>187|14=>195|15=>196|16=>197|17=>198|18=>199|19=>200|20=>201|21=>202|22=>203|25=>211|26=>212|27=>213|28=>214|29=>215|30=>216|31=>217|n=>n,fun|26=>3|28=>105|24=>30|0=>0|3=>3|37=>74|48=>183|50=>198|4=>4|40=>222|39=>221|45=>38|5=>5|9=>9|51=>231|55=>235|57=>238|58=>71|33=>126|n=>n,fun|n=>n⟩
theorem Tryz.PR:Go.Proofs.SlLaysZI.n6 Tryz.prog Tryz.Hr:= {
  mixed:=by kernel_rfl
  f6:=⟨Tryz.f65.name,by decide,Tryz.func65.trans (congrArg some aw)⟩
  f8:=⟨Tryz.f112.name,by decide,Tryz.func112.trans (congrArg some aw)⟩
  f11:=⟨Tryz.f164.name,by decide,Tryz.func164.trans (congrArg some aw)⟩
  t0:=Tryz.underlying0
  a0:=Tryz.isAgg0
  z0:=Tryz.sizeOf0
  v0:=Tryz.zeroValue0
  t24:=Tryz.underlying30
  a24:=Tryz.isAgg30
  z24:=Tryz.sizeOf30
  v24:=Tryz.zeroValue30
  t26:=Tryz.underlying3
  a26:=Tryz.isAgg3
  z26:=Tryz.sizeOf3
  v26:=Tryz.zeroValue3
  t28:=Tryz.underlying105
  a28:=Tryz.isAgg105
  z28:=Tryz.sizeOf105
  v28:=Tryz.zeroValue105
  i26:=by kernel_rfl}
def Tryz.PQ:Go.Shelf.Ren:=⟨fun|5=>113|8=>146|7=>165|19=>186|20=>187|10=>195|11=>196|12=>197|13=>198|14=>199|15=>200|16=>201|17=>202|18=>203|30=>211|31=>212|32=>213|33=>214|34=>215|35=>216|40=>217|n=>n,fun|23=>30|25=>3|3=>3|32=>74|22=>30|0=>0|44=>183|46=>198|4=>4|36=>222|35=>221|41=>38|5=>5|9=>9|53=>231|57=>235|63=>238|64=>71|n=>n,fun|n=>n⟩
theorem Tryz.Hq:Go.Proofs.SlLaysM.n5 Tryz.prog Tryz.PQ:= {
  mixed:=by kernel_rfl
  f5:=⟨Tryz.f113.name,by decide,Tryz.func113.trans (congrArg some aw)⟩
  f7:=⟨Tryz.f165.name,by decide,Tryz.func165.trans (congrArg some aw)⟩
  f8:=Tryz.func146.trans (congrArg some aw)
  f10:=⟨Tryz.f195.name,by decide,Tryz.func195.trans (congrArg some aw)⟩
  f11:=⟨Tryz.f196.name,by decide,Tryz.func196.trans (congrArg some aw)⟩
  f12:=⟨Tryz.f197.name,by decide,Tryz.func197.trans (congrArg some aw)⟩
  f13:=⟨Tryz.f198.name,by decide,Tryz.func198.trans (congrArg some aw)⟩
  f14:=⟨Tryz.f199.name,by decide,Tryz.func199.trans (congrArg some aw)⟩
  f15:=⟨Tryz.f200.name,by decide,Tryz.func200.trans (congrArg some aw)⟩
  f16:=⟨Tryz.f201.name,by decide,Tryz.func201.trans (congrArg some aw)⟩
  f17:=⟨Tryz.f202.name,by decide,Tryz.func202.trans (congrArg some aw)⟩
  f18:=⟨Tryz.f203.name,by decide,Tryz.func203.trans (congrArg some aw)⟩
  f19:=Tryz.func186.trans (congrArg some aw)
  f20:=Tryz.func187.trans (congrArg some aw)
  f30:=⟨Tryz.f211.name,by decide,Tryz.func211.trans (congrArg some aw)⟩
  f31:=Tryz.func212.trans (congrArg some aw)
  f32:=Tryz.func213.trans (congrArg some aw)
  f33:=⟨Tryz.f214.name,by decide,Tryz.func214.trans (congrArg some aw)⟩
  f34:=⟨Tryz.f215.name,by decide,Tryz.func215.trans (congrArg some aw)⟩
  f35:=⟨Tryz.f216.name,by decide,Tryz.func216.trans (congrArg some aw)⟩
  f40:=⟨Tryz.f217.name,by decide,Tryz.func217.trans (congrArg some aw)⟩
  t0:=Tryz.underlying0
  a0:=Tryz.isAgg0
  z0:=Tryz.sizeOf0
  v0:=Tryz.zeroValue0
  t3:=Tryz.underlying3
  a3:=Tryz.isAgg3
  z3:=Tryz.sizeOf3
  v3:=Tryz.zeroValue3
  t4:=Tryz.underlying4
  a4:=Tryz.isAgg4
  z4:=Tryz.sizeOf4
  v4:=Tryz.zeroValue4
  t5:=Tryz.underlying5
  a5:=Tryz.isAgg5
  z5:=Tryz.sizeOf5
  v5:=Tryz.zeroValue5
  t9:=Tryz.underlying9
  a9:=Tryz.isAgg9
  z9:=Tryz.sizeOf9
  v9:=Tryz.zeroValue9
  t22:=Tryz.underlying30
  a22:=Tryz.isAgg30
  z22:=Tryz.sizeOf30
  v22:=Tryz.zeroValue30
  t23:=Tryz.underlying30
  a23:=Tryz.isAgg30
  z23:=Tryz.sizeOf30
  v23:=Tryz.zeroValue30
  t25:=Tryz.underlying3
  a25:=Tryz.isAgg3
  z25:=Tryz.sizeOf3
  v25:=Tryz.zeroValue3
  t32:=Tryz.underlying74
  a32:=Tryz.isAgg74
  z32:=Tryz.sizeOf74
  v32:=Tryz.zeroValue74
  t35:=Tryz.underlying221
  a35:=Tryz.isAgg221
  z35:=Tryz.sizeOf221
  v35:=Tryz.zeroValue221
  t36:=Tryz.underlying222
  a36:=Tryz.isAgg222
  z36:=Tryz.sizeOf222
  v36:=Tryz.zeroValue222
  t41:=Tryz.underlying38
  a41:=Tryz.isAgg38
  z41:=Tryz.sizeOf38
  v41:=Tryz.zeroValue38
  t44:=Tryz.underlying183
  a44:=Tryz.isAgg183
  z44:=Tryz.sizeOf183
  v44:=Tryz.zeroValue183
  t46:=Tryz.underlying198
  a46:=Tryz.isAgg198
  z46:=Tryz.sizeOf198
  v46:=Tryz.zeroValue198
  t53:=Tryz.underlying231
  a53:=Tryz.isAgg231
  z53:=Tryz.sizeOf231
  v53:=Tryz.zeroValue231
  t57:=Tryz.underlying235
  a57:=Tryz.isAgg235
  z57:=Tryz.sizeOf235
  v57:=Tryz.zeroValue235
  t63:=Tryz.underlying238
  a63:=Tryz.isAgg238
  z63:=Tryz.sizeOf238
  v63:=Tryz.zeroValue238
  t64:=Tryz.underlying71
  a64:=Tryz.isAgg71
  z64:=Tryz.sizeOf71
  v64:=Tryz.zeroValue71}
end Go.Proofs
-- E5I
namespace Go.Abs.D2
open Go Go.Eng Go.Abs Go.Proofs
theorem PS (m:Nat):AnyZI.SortsIn Tryz.prog Tryz.Hr Fence.wide m:=
  ⟨fun blk off cap ss W hH hblk hsz=>callsIn_wide.2 (AnyM.slices_Sort_int Tryz.Hq blk off cap ss W hH hblk hsz),fun p cap W=>callsIn_wide.2 (AnyM.slices_Sort_int_none Tryz.Hq p cap W)⟩
theorem KO {σ:Int→Int} (hs:jg σ) (w:World) (b B:Nat) (es:Array MapEntry) (clk:Nat) (hb:w.heap[b]? =some (.map es clk)) (hF:fG es clk (mapOf σ)) (hBl:B<w.heap.size) (hB:w.cell? ⟨B,0,none⟩=some (.map (some b))):
  Calls Tryz.prog 65 #[.func (.func 114) #[] #[.pointer (some ⟨B,0,none⟩)]] w fun e w'=>∃v,e= .returned v∧w'.ownsRow w.heap.size 3 1 v (fe σ).length ((fe σ).map Go.encZ)∧RowKit.Below w.heap.size w w':=by
 obtain⟨D0,hown,hperm,hsz⟩:=Nr (H:=Unit) (k:=3) Tryz.underlying3 hs hb hF
 have hseq:SeqGives Fence.wide 2 Tryz.prog 114 #[.pointer (some ⟨B,0,none⟩)] Go.encZ (fun ss=>ss.Perm (intKeys D0)) (Go.Maps.size D0) w:=AnyZI.keys_gives (ρ:=Tryz.EI) {Tryz.LI with} Fence.wide _ trivial rfl aq B b 1024 D0 w hBl hB hown
 have cS:=AnyZI.sorted_in Tryz.PR Fence.wide 5 trivial trivial trivial trivial rfl aq (PS _) (enters_of Tryz.func113 aw rfl) 114 #[.pointer (some ⟨B,0,none⟩)] trivial (enters_of Tryz.func114 aw rfl) _ _ (Nat.le_trans hsz az) aq w hseq
 change CallsIn _ _ Tryz.prog 65 _ _ _ at cS
 refine(callsIn_wide (n:=5)).1 (cS.mono ?_)
 rintro e w' ⟨v,ss,rfl,hS,hrow,_,hB⟩
 have e1:ss.mergeSort (fun x y=>decide (x≤y))=fe σ:=(mergeSort_of_perm_i (hS.trans hperm)).trans (LJ σ)
 have e2:ss.length=(fe σ).length:=(hS.trans hperm).length_eq
 rw [e1,e2]at hrow
 exact⟨v,rfl,hrow,hB⟩
theorem KP {b:Nat} {σ:Int→Int} (hs:jg σ):eQ Tryz.prog 65 [.fn (.func 114) [] [.p 24 0]] ⟨[(24,some [.raw (.map (some b))]),(700,some [.mc b (mapOf σ)])]⟩ (jx 1 (fe σ).length ((fe σ).map (A.i .i64)) [(700, [.mc b (mapOf σ)])]):=JV (e:=3) 9 rfl (fun p hp=>by rw [List.mem_singleton.1 hp];rfl) fun w X β us hd hX ho hv=>by
 refine⟨⟨_,Tryz.func65,rfl,by kernel_rfl⟩,?_⟩
 obtain⟨hβ,_,_,es,clk,hb,hF⟩:=(ho 700 _ rfl).Fx
 have h24:=ho 24 _ rfl
 simp only [VS,V]at hv
 obtain⟨u,r,rfl,⟨u1,u2,rfl,rfl,⟨u3,r3,rfl,⟨B,N,hB,rfl⟩,rfl⟩⟩,rfl⟩:=hv
 unfold OB at h24
 rw [hB]at h24
 obtain⟨_,_,us,rest,ty,hrow,_,hvs,_⟩:=h24
 simp only [VS,V]at hvs
 obtain⟨_,_,rfl,rfl,rfl⟩:=hvs
 exact KO hs w b B es clk hb hF (Array.getElem?_eq_some_iff.1 hrow).1 (by simp [World.cell?,hrow])
theorem Kx (b:Nat):bU Tryz.prog 66 [.raw (.map (some b))] (uU (fun i=> .fn (.func 114) [] [.p i 0]) [.raw (.map (some b))]):=by
 refine enter Tryz.func66 rfl Tryz.ntmps66 aw (Nat.le_of_ble_eq_true rfl) fun w0 X0 hI=>?_
 refine bG <| bI <| bJ rfl (mP 1 rfl rfl rfl rfl ?_)
 refine aa [662,415,650] ?_
 refine bZ (rs:= [.tmp 2]) rfl (bV rfl bW) ⟨1,rfl,rfl⟩
theorem KQ (c0 c1:A) (e:Int):sH Tryz.prog 63 [.p 4 0,.p 5 0] ⟨[(4,some [c0]),(5,some [c1])]⟩ (fun u=>u=ku 136 e) [(4, [.nl]),(5, [.i .i64 e])]:=by
 refine zh (.ic 136 (.ag [.i .i64 e])) (fun u hu X w β=>by rw [hu];exact yx _ _) Tryz.func63 rfl Tryz.ntmps63 (Nat.le_of_ble_eq_true rfl) rfl rfl fun w0 X0 hI=>?_
 refine aa [648,310,782,649,311,249,20,26] ?_
 refine nE (rs:= []) rfl bW (GA rfl rfl)
theorem KR:sI Tryz.prog 63 2:=zi Tryz.func63 rfl (fun w=>AX Tryz.underlying20 w) rfl ⟨Nat.le_of_ble_eq_true rfl,Nat.le_of_ble_eq_true rfl,Nat.le_of_ble_eq_true rfl,Nat.le_of_ble_eq_true rfl,Nat.le_of_ble_eq_true rfl⟩
theorem DK:mF Tryz.prog 63:=⟨_,Tryz.func63,rfl,by kernel_rfl⟩
theorem zM (l:List Ep) (no:Int) (hl:fK l) (hn:l.length≤1000):bU Tryz.prog 18 [eS l,.i .i64 no] (cl (Om (ni l no))):=by
 refine rq Tryz.func18 rfl Tryz.ntmps18 aw (Nat.le_of_ble_eq_true rfl) fun w0 X0 hI hS=>?_
 refine bG <| bI <| bJ rfl (cI 4 rfl dN rfl rfl ?_)
 refine bJ rfl (cI 5 rfl dU rfl rfl ?_)
 refine aa [654,680] ?_
 refine gr 4 rfl rfl rfl rfl (fun hb11=> .step (bE rfl) rfl rfl<| .step (bE rfl) rfl rfl<| .step (cJ Tryz.underlying24 rfl rfl rfl) rfl rfl<| .step (bE rfl) rfl rfl<| .done) rfl rfl <| bH <| bF ?_
 refine cm rfl (fun hc16=>?_) (fun hc16=>?_)
 ·have h16 : no < -1 ∨ (l.length : Int) ≤ no := by simpa using hc16
  refine aa [645,249,20,668] ?_
  refine sX (rs:= [.cell 4 31,.cell 5 27]) rfl rfl rfl hS (dn:= []) rfl hS List.nodup_nil rfl (fR dN rfl rfl rfl (fR dU rfl rfl rfl bW)) ?_
  rw [Hz h16];rfl
 ·have h16 : ¬ (no < -1 ∨ (l.length : Int) ≤ no) := by simp at hc16; omega
  obtain⟨k,hk⟩:∃k:Nat,no+1=(k:Int):=⟨(no+1).toNat,by omega⟩
  have hkl:k≤l.length:=by omega
  have htk:(no+1).toNat=k:=by omega
  have hlk:fK (l.take k):=fun e he=>hl e (List.mem_of_mem_take he)
  have hlen:(l.take k).length=k:=by rw [List.length_take];omega
  refine b9 <| bF <| bG <| bI <| s1 (jJ (us:= []) (vs:= [.p 4 0,.p 5 0]) rfl rfl) rfl ?_
  refine yM [4,5] hI rfl rfl trivial rfl fun w1 us hdf=>?_
  refine bH <| bF <| bG ?_
  rcases xd (eC (l.take k))with hcs|hcs
  ·have hf := hcs
   refine aa [658,547,548] ?_
   refine ik ⟨[]⟩ false rfl trivial (.cons (.pure pu) .nil) (Dv hlk aC hf) (fun u hu=>?_)
   refine dJ <| l8 ⟨[(4,some [.nl]),(5,some [.i .i64 0])]⟩ hdf hS DK ⟨⟨rfl,cK.pure bO⟩,⟨rfl,cK.pure bO⟩,trivial⟩ (.cons (.kp rfl) (.cons (.kp rfl) .nil)) (KQ _ _ 351) (hu.2) (nt rfl rfl bO bO) rfl (fR dN rfl rfl rfl (fR dU rfl rfl rfl bW)) ?_
   rw [PY h16 (by rw [htk];exact hf)];rfl
  ·obtain ⟨σ, hf⟩ := hcs
   have hsup:=Be hf
   have hkn:=EJ σ
   refine aa [658,547,548] ?_
   refine bJ rfl (wL (F:=mapOf σ) rfl (.cons (.pure pu) (.nil)) (Du hlk aC hf) rfl rfl fun b22=>?_)
   refine aa [692] ?_
   refine bJ rfl (FA (mk:=fun i=> .fn (.func 114) [] [.p i 0]) wY 24 rfl false rfl (.cons (.pure pu) (.nil)) (Kx b22) bO (.inl rfl) rfl ?_)
   refine bJ rfl (Fz 25 rfl ⟨[(24,some [.raw (.map (some b22))]),(700,some [.mc b22 (mapOf σ)])]⟩ [(700, [.mc b22 (mapOf σ)])] false rfl rfl ⟨⟨rfl,cK.pure bO⟩,⟨rfl,cK.pure bO⟩,trivial⟩ (.cons (.fn .nil (.cons (.kp rfl) .nil)) .nil) (KP hsup) bO (.inl rfl) (fun p hp=>by rw [List.mem_singleton.1 hp];exact⟨⟨_,rfl⟩,yl bO (.inl rfl)⟩) rfl ?_)
   refine gm 25 rfl rfl bO (dD aA rfl) ?_
   refine aa [19,667] ?_
   refine c5 (ι:=Nat) (fun i=> [(4,.p 4 0),(5,.p 5 0),(6,.raw (.map (some b22))),(25,.fz (fe σ).length ((fe σ).map (A.i .i64))),(26,nJ (fe σ).length),(27,nJ i)]) (fun i=>⟨[(4,some ([.sl 138 2 0 i])),(5,some ([.i .i64 0])),(138,some (gU ((eL σ).take i))),(700,some ([.mc b22 (mapOf σ)]))]⟩) (fun i=>i≤(fe σ).length) (fun i=>(fe σ).length - i) ?_ ?_
   ·exact c4 (0) (Nat.zero_le _) [(4,some 4),(5,some 5),(138,none),(700,some 700)] hdf.ids rfl rfl ⟨⟨_,rfl,.p rfl⟩,⟨_,rfl,.p rfl⟩,⟨_,rfl,.pure pu⟩,⟨_,rfl,.pure pu⟩,⟨_,rfl,.pure pu⟩,⟨_,rfl,.pure pu⟩,trivial⟩ ⟨.inr ⟨_,_,rfl,rfl,.cons (.nl rfl) .nil⟩,.inr ⟨_,_,rfl,rfl,.of (rfl:_= [A.i .i64 0]) (.pure bO)⟩,.inl ⟨rfl,rfl⟩,.inr ⟨_,_,rfl,rfl,.pure bO⟩,trivial⟩
   rintro i hi
   refine aa [651] ?_
   refine cm rfl (fun hc28=>?_) (fun hc28=>?_)
   ·have h28 : i < (fe σ).length := by have := of_decide_eq_true hc28; omega
    obtain⟨q,hq⟩:∃q,(fe σ)[i]? =some q:=⟨_,List.getElem?_eq_getElem h28⟩
    refine aa [672,58,39,646,1,75,671,253,145] ?_
    refine bJ rfl (gC 37 rfl Tryz.underlying31 c8 rfl rfl rfl aQ (show _=Ch.cells ⟨q,σ q⟩from rfl) rfl rfl rfl ?_)
    refine bJ rfl (dR 38 rfl Tryz.underlying31 c8 rfl (.sl rfl (by simp [eL];omega)) rfl (dH rfl ar) aA aC aq rfl rfl rfl ?_)
    refine aa [249,685] ?_
    exact cO (i+1) aq aq [(4,some 4),(5,some 5),(138,some 38),(700,some 700)] hdf.ids rfl rfl ⟨⟨_,rfl,.p rfl⟩,⟨_,rfl,.p rfl⟩,⟨_,rfl,.pure pu⟩,⟨_,rfl,.pure pu⟩,⟨_,rfl,.pure pu⟩,⟨_,rfl,.pure pu⟩,trivial⟩ ⟨.inr ⟨_,_,rfl,rfl,.cons (.sl rfl aA) .nil⟩,.inr ⟨_,_,rfl,rfl,.pure bO⟩,.inr ⟨_,_,rfl,rfl,.of (JE hq) (.pure bO)⟩,.inr ⟨_,_,rfl,rfl,.pure bO⟩,trivial⟩
   ·obtain rfl : i = (fe σ).length := by have := of_decide_eq_false hc28; omega
    refine aa [684] ?_
    refine dP 138 (cs':=gU (eL σ)) rfl (by rw [List.take_of_length_le (by simp [eL])]) <| jL 4 0 rfl rfl rfl rfl bO (dD (by simp [eL]) rfl) rfl ?_
    refine aa [1,75,249,20,724] ?_
    refine vh hdf hS DK KR rfl (fR dN rfl rfl rfl (fR dU rfl rfl rfl bW)) ?_
    rw [Bb h16 (by rw [htk];exact hf)];exact congrArg (fun n=>A.tu [.fz n (gU (eL σ)),.i .i64 0]) (by simp [eL])
-- E5H
theorem Dl (l:List Ep) (day:Int) (hl:fK l) (hn:l.length≤maxLen):bU Tryz.prog 20 [eS l,.i .i64 day] (cl (yK (qP l day))):=by
 refine enter Tryz.func20 rfl Tryz.ntmps20 aw (Nat.le_of_ble_eq_true rfl) fun w0 X0 hI=>?_
 refine bG ?_
 simp only [maxLen]at hn
 refine aa [1,65,692,25] ?_
 refine s1 (iq rfl rfl aq aq) rfl ?_
 refine aa [739] ?_
 refine c5 (ι:=Nat) (fun j=> [(0,eS l),(1,.i .i64 day),(6,.i .i64 ((j:Int) - 1))]) (fun j=>⟨[]⟩) (fun j=>j≤l.length∧qP l day=l7 l day j) (fun j=>j) ?_ ?_
 ·exact c4 (l.length) (⟨Nat.le_refl _,yL l day⟩) [] hI rfl rfl ⟨⟨_,rfl,.pure pu⟩,⟨_,rfl,.pure pu⟩,⟨_,rfl,.pure pu⟩,trivial⟩ trivial
 rintro j ⟨hj,hst⟩
 refine aa [695] ?_
 refine cm rfl (fun hc11=>?_) (fun hc11=>?_)
 ·have h11 : 0 < j := by have := of_decide_eq_true hc11; omega
  obtain⟨m,rfl⟩:∃m,j=m+1:=⟨j - 1,by omega⟩
  obtain⟨e,he⟩:∃e,l[m]? =some e:=⟨_,List.getElem?_eq_getElem aq⟩
  refine b9 <| bF <| bG <| cd <| bG <| lu 6 rfl (v':=nJ m) (congrArg (A.i .i64) aq) ?_
  refine aa [658] ?_
  refine s1 (cf m Tryz.underlying24 cT rfl rfl rfl aq rfl) rfl <| s1 (cR Tryz.underlying45 rfl bL az rfl rfl) rfl <| s1 (bM bL rfl rfl (fw hl he (k:=2) rfl az)) rfl ?_
  refine aa [0,646] ?_
  refine cm rfl (fun hc20=>?_) (fun hc20=>?_)
  ·have h20 : e.day ≤ day := by have := of_decide_eq_true hc20; omega
   refine aa [661,650,790,60] ?_
   exact congrArg yK (hst.trans (B5 he h20)).symm
  ·have h20 : ¬ e.day ≤ day := by have := of_decide_eq_false hc20; omega
   refine aa [52,793] ?_
   refine s1 (iq rfl rfl aq aq) rfl ?_
   refine aa [682] ?_
   exact cO (m) (⟨by omega,hst.trans (B4 he h20)⟩) aq [] hI rfl rfl ⟨⟨_,rfl,.pure pu⟩,⟨_,rfl,.pure pu⟩,⟨_,rfl,.of (rfl:_=A.i .i64 ((m:Int) - 1)) (.pure pu)⟩,trivial⟩ trivial
 ·have h11 : j = 0 := by have := of_decide_eq_false hc11; omega
  subst h11
  refine aa [683,65,650,60] ?_
  exact congrArg yK hst.symm
-- E5K
theorem Fp:bU Tryz.prog 11 [] (cl (.b true)):=by
 refine enter Tryz.func11 rfl Tryz.ntmps11 aw (Nat.le_of_ble_eq_true rfl) fun w0 X0 hI=>?_
 refine aa [645,662] ?_
 refine s1 ((QP (vs:= [_]) bR rfl aw Tryz.underlying23 cr rfl rfl aA rfl rfl).v (v':= .ag (jc.map u8)) aw) rfl <| bJ rfl (cI 1 rfl bR rfl rfl ?_)
 refine aa [5,653,166] ?_
 refine bJ rfl (b7 false rfl (.cons (.pure pu) (.cons (.pure pu) (.nil))) (bU.cast (OF jc 2 az) (show _=A.tu [.ag ((fJ jc 2).map u8),.i .i64 0]from(xF ..).trans (by rw [decide_eq_true (show dY 2 by decide)];rfl))) pu (.inl rfl) rfl ?_)
 refine aa [671,28] ?_
 refine bJ rfl (cD bR rfl rfl rfl aA rfl ?_)
 refine aa [662,166,250,145] ?_
 refine bJ rfl (mQ Tryz.underlying31 c8 rfl rfl rfl aD (show _=gU [⟨5,2⟩]from rfl) bO rfl rfl rfl ?_)
 refine bJ rfl (b7 false rfl (.cons (.pure pu) (.cons (.pure pu) (.cons .nl (.cons (.pure pu) (.cons (.pure pu) (.cons (.pure pu) (.cons (.pure pu) .nil))))))) (bU.cast (rr jc 2 [] 1 10 [4,5] cA az uh az (rg_of az az) (rg_of az az) az az (uu az)) (show _=A.tu [eS [eA],.i .i64 0] by rw [Gd];rfl)) pu (.inl rfl) rfl ?_)
 refine aa [663,662,166,0,250,145] ?_
 refine bJ rfl (mQ Tryz.underlying31 c8 rfl rfl rfl aD (show _=gU [⟨4,1⟩]from rfl) bO rfl rfl rfl ?_)
 refine bJ rfl (b7 false rfl (.cons (.pure pu) (.cons (.pure pu) (.cons (.pure pu) (.cons (.pure pu) (.cons (.pure pu) (.cons (.pure pu) (.cons (.pure pu) .nil))))))) (bU.cast (rr jc 2 [eA] 1 11 [4,5] cB az FY az (rg_of az az) (rg_of az az) az az (uu az)) (show _=A.tu [eS [eA,eB],.i .i64 0] by rw [Ge];rfl)) pu (.inl rfl) rfl ?_)
 refine aa [663,662,166,0,250,145] ?_
 refine bJ rfl (mQ Tryz.underlying31 c8 rfl rfl rfl aD (show _=gU [⟨5,0⟩]from rfl) bO rfl rfl rfl ?_)
 refine bJ rfl (b7 false rfl (.cons (.pure pu) (.cons (.pure pu) (.cons (.pure pu) (.cons (.pure pu) (.cons (.pure pu) (.cons (.pure pu) (.cons (.pure pu) .nil))))))) (bU.cast (rr jc 2 [eA] 1 11 [4,5] [⟨5,0⟩] az FY az (rg_of az az) (rg_of az az) az az (uu az)) (show _=A.tu [.nl,.i .i64 351] by rw [NI];rfl)) pu (.inl rfl) rfl ?_)
 refine aa [663,662,166,0,250] ?_
 refine bJ rfl (b7 false rfl (.cons (.pure pu) (.cons (.pure pu) (.cons (.pure pu) (.cons (.pure pu) (.cons (.pure pu) (.cons (.pure pu) (.cons .nl .nil))))))) (bU.cast (rr jc 2 [eA,eB] 1 12 [4,5] [] az qh az (rg_of az az) (rg_of az az) az az (fun e he=>by cases he)) (show _=A.tu [.nl,.i .i64 2] by rw [NJ];rfl)) pu (.inl rfl) rfl ?_)
 refine aa [663,664] ?_
 refine bJ rfl (b7 false rfl (.cons (.pure pu) (.cons (.pure pu) .nil)) (bU.cast (zM [eA,eB] 1 qh az) (show _=A.tu [eo [⟨4,1⟩,⟨5,2⟩],.i .i64 0] by rw [PZ];rfl)) pu (.inl rfl) rfl ?_)
 refine aa [663,662] ?_
 refine bJ rfl (b7 false rfl (.cons .nl (.cons (.pure pu) .nil)) (bU.cast (zM [] (-1) uh az) (show _=A.tu [eo [],.i .i64 0] by rw [P0];rfl)) pu (.inl rfl) rfl ?_)
 refine aa [663,662] ?_
 refine bJ rfl (b7 false rfl (.cons .nl (.cons (.pure pu) .nil)) (bU.cast (zM [] 0 uh az) (show _=A.tu [.nl,.i .i64 1] by rw [P3];rfl)) pu (.inl rfl) rfl ?_)
 refine aa [663,662] ?_
 refine bJ rfl (b7 false rfl (.cons .nl (.cons (.pure pu) .nil)) (bU.cast (Dl [] 5 uh az) (show _=A.tu [.i .i64 0,.b false] by rw [IP];rfl)) pu (.inl rfl) rfl ?_)
 refine aa [663,664] ?_
 refine bJ rfl (b7 false rfl (.cons (.pure pu) (.cons (.pure pu) .nil)) (bU.cast (Dl [eA,eB] 10 qh az) (show _=A.tu [.i .i64 0,.b true] by rw [IQ];rfl)) pu (.inl rfl) rfl ?_)
 refine aa [708,43,716,723,723,723,723,723,723,723,777,723,92,647] ?_
 refine g1 rfl rfl (cu bR rfl rfl aA) rfl <| g1 rfl rfl (bE rfl) rfl <| fN rfl rfl rfl (b7 false rfl (.cons (.pure pu) (.cons (.pure pu) (.cons (.pure pu) .nil))) (bU.cast (zB (fJ jc 2) 2 [eA,eB] aA qh az) (congrArg (A.i .i64) vY.2)) pu (.inl rfl) rfl ?_)
 refine aa [92,647] ?_
 refine g1 rfl rfl (cu bR rfl rfl aA) rfl <| fN rfl rfl rfl (b7 false rfl (.cons (.pure pu) (.cons (.pure pu) (.cons .nl .nil))) (bU.cast (zB (fJ jc 2) 2 [] aA uh az) (congrArg (A.i .i64) (CL _ _))) pu (.inl rfl) rfl ?_)
 refine aa [92,673,675] ?_
 refine dh ⟨_, [], []⟩ 34 4 cL (le_refl rfl) ?_
 refine aa [102] ?_
 refine bK 1 [] [] (eP (out:= [_,_]) [[cn (.int .i64 0)], [cn (.int .i64 0)]] c8 rfl Tryz.underlying55 aw rfl rfl ⟨⟨by(first|rfl|omega|(simp;done)|(simp [*];done)|(simp [cw, *];done)),rfl⟩,⟨⟨by(first|rfl|omega|(simp;done)|(simp [*];done)|(simp [cw, *];done)),rfl⟩,trivial⟩⟩ rfl) rfl rfl <| bK 2 [] [] (eP (out:= [_,_]) [[cn (.int .i64 0)], [cn (.int .i64 0)]] c8 rfl Tryz.underlying55 aw rfl rfl ⟨⟨by(first|rfl|omega|(simp;done)|(simp [*];done)|(simp [cw, *];done)),rfl⟩,⟨⟨by(first|rfl|omega|(simp;done)|(simp [*];done)|(simp [cw, *];done)),rfl⟩,trivial⟩⟩ rfl) rfl rfl <| oH 3 [1,2] cz Tryz.underlying31 c8 rfl rfl rfl aD (show _=gU [⟨4,1⟩,⟨5,2⟩]from rfl) bO rfl rfl rfl rfl <| c7 false 4 [0,3] [] cz rfl (.cons (.pure pu) (.cons (.pure pu) (.nil))) (bU.cast (ux [⟨4,1⟩,⟨5,2⟩] [⟨4,1⟩,⟨5,2⟩] az az) (congrArg A.b (AY _))) pu (.inl rfl) rfl rfl <| bK 5 [4] [] (bE rfl) rfl rfl <| bP 6 [5] [] rfl rfl (bE rfl) rfl rfl <| bP 7 [5,6] [] rfl rfl (cJ Tryz.underlying31 rfl rfl rfl) rfl rfl <| bP 8 [5,7] [] rfl rfl ((bE rfl).v (v':= .b true) (rfl)) rfl rfl <| bK 9 [5,8] [] (bE rfl) rfl rfl <| bK 10 [9] [] (bE rfl) rfl rfl <| bP 11 [10] [] rfl rfl (bE rfl) rfl rfl <| bP 12 [10,11] [] rfl rfl (cJ Tryz.underlying24 rfl rfl rfl) rfl rfl <| bP 13 [10,12] [] rfl rfl ((bE rfl).v (v':= .b true) (rfl)) rfl rfl <| bK 14 [10,13] [] (bE rfl) rfl rfl <| bK 15 [14] [] (bE rfl) rfl rfl <| bP 16 [15] [] rfl rfl (bE rfl) rfl rfl <| bP 17 [15,16] [] rfl rfl (cf 1 Tryz.underlying24 cT rfl rfl rfl az rfl) rfl rfl <| bP 18 [15,17] [] rfl rfl (cR Tryz.underlying45 rfl bR az rfl rfl) rfl rfl <| bP 19 [15,18] [] rfl rfl (dw bR rfl rfl (DG qh (e:=eB) rfl) (by simp [Aw.prev])) rfl rfl <| bP 20 [15] [] rfl rfl (bE rfl) rfl rfl <| bP 21 [15,20] [] rfl rfl (cf 0 Tryz.underlying24 cT rfl rfl rfl az rfl) rfl rfl <| bP 22 [15,21] [] rfl rfl (dw cT rfl rfl (kI qh (e:=eA) rfl) rW.len) rfl rfl <| c7 false 23 [15,22] [] (oJ rfl rfl) rfl (.cons (.pure pu) (.nil)) (pO eA rW) pu (.inl rfl) rfl rfl <| bP 24 [15,19,23] [] rfl rfl (((oo Tryz.underlying23 Tryz.underlying5 cr aw rfl rfl Aw.prev aA)).v (v':= .b true) (congrArg A.b (beq_iff_eq.2 NG))) rfl rfl <| bK 25 [15,24] [] (bE rfl) rfl rfl <| bK 26 [25] [] (bE rfl) rfl rfl <| bP 27 [26] [] rfl rfl (bE rfl) rfl rfl <| bP 28 [26,27] [] rfl rfl (cf 0 Tryz.underlying24 cT rfl rfl rfl az rfl) rfl rfl <| bP 29 [26,28] [] rfl rfl (cR Tryz.underlying45 rfl bR az rfl rfl) rfl rfl <| bP 30 [26,29] [] rfl rfl (dw bR rfl rfl (DG qh (e:=eA) rfl) (by simp [rW.prev])) rfl rfl <| bP 31 [26] [] rfl rfl ((oq bR rfl Tryz.underlying23 cr rfl).v (v':= .ag (zD.map u8)) (rfl)) rfl rfl <| bP 32 [26,30,31] [] rfl rfl (((oo Tryz.underlying23 Tryz.underlying5 cr aw rfl rfl rW.prev rfl)).v (v':= .b true) (congrArg A.b (beq_iff_eq.2 NF))) rfl rfl <| bK 33 [26,32] [] (bE rfl) rfl rfl ?_
 refine aa [2,650] ?_
 refine bZ (rs:= [.tmp 0]) rfl (bV rfl bW) ?_
 rfl
-- E6O
theorem L1 (x:List UInt8) (n:Int) (l:List Ep) (iss day:Int) (ids:List Int) (c:List Ch) (hx:x.length=32) (hn:l.length≤maxLen) (hT:px l) (hi:rg iss) (hd:rg day) (hcr:∀e∈c,rg e.id∧rg e.st):bU Tryz.prog 4 [.ag (x.map u8),.i .i64 n,eS l,.i .i64 iss,.i .i64 day,.fz ids.length (ids.map (A.i .i64)),eo c] (cl (.b true)):=by
 refine enter Tryz.func4 rfl Tryz.ntmps4 aw (Nat.le_of_ble_eq_true rfl) fun w0 X0 hI=>?_
 refine aa [645,96,652,645,549,710,3] ?_
 rcases k9 (mM n l ids c)with hcs|hcs
 ·skip
  refine aa [1,663,550,714,707,21,325] ?_
  rfl
 ·obtain ⟨hlc, _, hl6, hid, hcl⟩ := zP hcs
  have hl:=DN hcs hT
  have hid2:ids.length≤100:=by omega
  have hcl2:c.length≤1000:=by omega
  have hln:l.length≤1000:=by omega
  refine aa [1,663,550,710] ?_
  rcases P6 (iB x n l iss day ids c)with hcs|hcs
  ·obtain ⟨v, hp⟩ := hcs
   refine aa [1,50,663,647] ?_
   refine bJ rfl (b7 false rfl (.cons (.pure pu) (.cons (.pure pu) (.cons (.pure pu) (.cons (.pure pu) (.cons (.pure pu) (.cons (.pure pu) (.cons (.pure pu) (.nil)))))))) (bU.cast (rr x n l iss day ids c hx hl hln hi hd hid2 hcl2 hcr) (show _=A.tu [.nl,.i .i64 v] by rw [hp];rfl)) pu (.inl rfl) rfl ?_)
   refine aa [663,662,50,663,647] ?_
   refine bJ rfl (b7 false rfl (.cons (.pure pu) (.cons (.pure pu) (.cons (.pure pu) (.cons (.pure pu) (.cons (.pure pu) (.cons (.pure pu) (.cons (.pure pu) (.nil)))))))) (bU.cast (GO x n l iss day ids c hx hl hln hi hd hid2 hcl2 hcr) (show _=A.tu [.nl,.i .i64 v] by rw [hp];rfl)) pu (.inl rfl) rfl ?_)
   refine aa [663,660] ?_
   refine bJ rfl (b7 false rfl (.cons .nl (.cons .nl .nil)) (GS [] (fun e he=>by cases he) az) pu (.inl rfl) rfl ?_)
   refine aa [716,7,551,0,650,325] ?_
   rfl
  ·obtain ⟨e, hp⟩ := hcs
   have hao:=Iv (x:=x) (n:=n) (ids:=ids) hl hln hi hd hcl2 hcr
   rw [hp]at hao
   simp only [u7]at hao
   refine aa [1,50,663,647] ?_
   refine bJ rfl (b7 false rfl (.cons (.pure pu) (.cons (.pure pu) (.cons (.pure pu) (.cons (.pure pu) (.cons (.pure pu) (.cons (.pure pu) (.cons (.pure pu) (.nil)))))))) (bU.cast (rr x n l iss day ids c hx hl hln hi hd hid2 hcl2 hcr) (show _=A.tu [eS (l++ [e]),.i .i64 0] by rw [hp];rfl)) pu (.inl rfl) rfl ?_)
   refine aa [663,662,50,663,647] ?_
   refine bJ rfl (b7 false rfl (.cons (.pure pu) (.cons (.pure pu) (.cons (.pure pu) (.cons (.pure pu) (.cons (.pure pu) (.cons (.pure pu) (.cons (.pure pu) (.nil)))))))) (bU.cast (GO x n l iss day ids c hx hl hln hi hd hid2 hcl2 hcr) (show _=A.tu [eS (l++ [e]),.i .i64 0] by rw [hp];rfl)) pu (.inl rfl) rfl ?_)
   refine aa [663,660] ?_
   refine bJ rfl (b7 false rfl (.cons (.pure pu) (.cons (.pure pu) (.nil))) (GS (l++ [e]) hao.1 (by have:=hao.2;omega)) pu (.inl rfl) rfl ?_)
   refine aa [716,7,551,0,650,325] ?_
   rfl
end Go.Abs.D2
