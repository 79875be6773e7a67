/-
  The engine, the plain laws and the walks that the rows need, part 17. Conditions: none.
-/
import Derived.Test.YteempkifmbclgaaGreatDoorM16
import Derived.Shelf.SlIterI.Nil
import Derived.Shelf.SortM.Plain
import Derived.Shelf.SortM.SortNone
import Derived.Ground.GgzProg
import Derived.Ground.SlgmProg
import Derived.Test.YteempkifmbclgaaGreatDoorProg
set_option linter.unusedVariables false
set_option linter.unusedSimpArgs false
set_option maxHeartbeats 1000000
set_option maxRecDepth 10000
-- ShP
namespace Go.Proofs
open Go.Shelf
def Tryz.BF:Go.Shelf.Ren:=⟨fun|7=>66|10=>114|n=>n,fun|23=>80|26=>3|3=>3|28=>105|0=>0|27=>104|33=>126|4=>4|n=>n,fun|n=>n⟩
theorem Tryz.Iw:Go.Proofs.SlLaysZI.n7 Tryz.prog Tryz.BF:= {
  mixed:=by kernel_rfl
  f7:=⟨Tryz.f66.name,by decide,Tryz.func66.trans (congrArg some (by kernel_rfl))⟩
  f10:=⟨Tryz.f114.name,by decide,Tryz.func114.trans (congrArg some (by kernel_rfl))⟩
  t0:=Tryz.underlying0
  a0:=Tryz.isAgg0
  z0:=Tryz.sizeOf0
  v0:=Tryz.zeroValue0
  t4:=Tryz.underlying4
  a4:=Tryz.isAgg4
  z4:=Tryz.sizeOf4
  v4:=Tryz.zeroValue4
  t23:=Tryz.underlying80
  a23:=Tryz.isAgg80
  z23:=Tryz.sizeOf80
  v23:=Tryz.zeroValue80
  t26:=Tryz.underlying3
  a26:=Tryz.isAgg3
  z26:=Tryz.sizeOf3
  v26:=Tryz.zeroValue3
  t27:=Tryz.underlying104
  a27:=Tryz.isAgg104
  z27:=Tryz.sizeOf104
  v27:=Tryz.zeroValue104
  t28:=Tryz.underlying105
  a28:=Tryz.isAgg105
  z28:=Tryz.sizeOf105
  v28:=Tryz.zeroValue105
  t33:=Tryz.underlying126
  a33:=Tryz.isAgg126
  z33:=Tryz.sizeOf126
  v33:=Tryz.zeroValue126}
def Tryz.DO:Go.Shelf.Ren:=⟨fun|6=>65|8=>112|9=>113|11=>164|13=>146|12=>165|23=>186|24=>187|14=>195|15=>196|16=>197|17=>198|18=>199|19=>200|20=>201|21=>202|22=>203|25=>211|26=>212|27=>213|28=>214|29=>215|30=>216|31=>217|n=>n,fun|26=>3|28=>105|24=>30|0=>0|3=>3|37=>74|48=>183|50=>198|4=>4|40=>222|39=>221|45=>38|5=>5|9=>9|51=>231|55=>235|57=>238|58=>71|33=>126|n=>n,fun|n=>n⟩
theorem Tryz.L9:Go.Proofs.SlLaysZI.n6 Tryz.prog Tryz.DO:= {
  mixed:=by kernel_rfl
  f6:=⟨Tryz.f65.name,by decide,Tryz.func65.trans (congrArg some (by kernel_rfl))⟩
  f8:=⟨Tryz.f112.name,by decide,Tryz.func112.trans (congrArg some (by kernel_rfl))⟩
  f11:=⟨Tryz.f164.name,by decide,Tryz.func164.trans (congrArg some (by kernel_rfl))⟩
  t0:=Tryz.underlying0
  a0:=Tryz.isAgg0
  z0:=Tryz.sizeOf0
  v0:=Tryz.zeroValue0
  t24:=Tryz.underlying30
  a24:=Tryz.isAgg30
  z24:=Tryz.sizeOf30
  v24:=Tryz.zeroValue30
  t26:=Tryz.underlying3
  a26:=Tryz.isAgg3
  z26:=Tryz.sizeOf3
  v26:=Tryz.zeroValue3
  t28:=Tryz.underlying105
  a28:=Tryz.isAgg105
  z28:=Tryz.sizeOf105
  v28:=Tryz.zeroValue105
  i26:=by kernel_rfl}
def Tryz.L8:Go.Shelf.Ren:=⟨fun|5=>113|8=>146|7=>165|19=>186|20=>187|10=>195|11=>196|12=>197|13=>198|14=>199|15=>200|16=>201|17=>202|18=>203|30=>211|31=>212|32=>213|33=>214|34=>215|35=>216|40=>217|n=>n,fun|23=>30|25=>3|3=>3|32=>74|22=>30|0=>0|44=>183|46=>198|4=>4|36=>222|35=>221|41=>38|5=>5|9=>9|53=>231|57=>235|63=>238|64=>71|n=>n,fun|n=>n⟩
theorem Tryz.DN:Go.Proofs.SlLaysM.n5 Tryz.prog Tryz.L8:= {
  mixed:=by kernel_rfl
  f5:=⟨Tryz.f113.name,by decide,Tryz.func113.trans (congrArg some (by kernel_rfl))⟩
  f7:=⟨Tryz.f165.name,by decide,Tryz.func165.trans (congrArg some (by kernel_rfl))⟩
  f8:=Tryz.func146.trans (congrArg some (by kernel_rfl))
  f10:=⟨Tryz.f195.name,by decide,Tryz.func195.trans (congrArg some (by kernel_rfl))⟩
  f11:=⟨Tryz.f196.name,by decide,Tryz.func196.trans (congrArg some (by kernel_rfl))⟩
  f12:=⟨Tryz.f197.name,by decide,Tryz.func197.trans (congrArg some (by kernel_rfl))⟩
  f13:=⟨Tryz.f198.name,by decide,Tryz.func198.trans (congrArg some (by kernel_rfl))⟩
  f14:=⟨Tryz.f199.name,by decide,Tryz.func199.trans (congrArg some (by kernel_rfl))⟩
  f15:=⟨Tryz.f200.name,by decide,Tryz.func200.trans (congrArg some (by kernel_rfl))⟩
  f16:=⟨Tryz.f201.name,by decide,Tryz.func201.trans (congrArg some (by kernel_rfl))⟩
  f17:=⟨Tryz.f202.name,by decide,Tryz.func202.trans (congrArg some (by kernel_rfl))⟩
  f18:=⟨Tryz.f203.name,by decide,Tryz.func203.trans (congrArg some (by kernel_rfl))⟩
  f19:=Tryz.func186.trans (congrArg some (by kernel_rfl))
  f20:=Tryz.func187.trans (congrArg some (by kernel_rfl))
  f30:=⟨Tryz.f211.name,by decide,Tryz.func211.trans (congrArg some (by kernel_rfl))⟩
  f31:=Tryz.func212.trans (congrArg some (by kernel_rfl))
  f32:=Tryz.func213.trans (congrArg some (by kernel_rfl))
  f33:=⟨Tryz.f214.name,by decide,Tryz.func214.trans (congrArg some (by kernel_rfl))⟩
  f34:=⟨Tryz.f215.name,by decide,Tryz.func215.trans (congrArg some (by kernel_rfl))⟩
  f35:=⟨Tryz.f216.name,by decide,Tryz.func216.trans (congrArg some (by kernel_rfl))⟩
  f40:=⟨Tryz.f217.name,by decide,Tryz.func217.trans (congrArg some (by kernel_rfl))⟩
  t0:=Tryz.underlying0
  a0:=Tryz.isAgg0
  z0:=Tryz.sizeOf0
  v0:=Tryz.zeroValue0
  t3:=Tryz.underlying3
  a3:=Tryz.isAgg3
  z3:=Tryz.sizeOf3
  v3:=Tryz.zeroValue3
  t4:=Tryz.underlying4
  a4:=Tryz.isAgg4
  z4:=Tryz.sizeOf4
  v4:=Tryz.zeroValue4
  t5:=Tryz.underlying5
  a5:=Tryz.isAgg5
  z5:=Tryz.sizeOf5
  v5:=Tryz.zeroValue5
  t9:=Tryz.underlying9
  a9:=Tryz.isAgg9
  z9:=Tryz.sizeOf9
  v9:=Tryz.zeroValue9
  t22:=Tryz.underlying30
  a22:=Tryz.isAgg30
  z22:=Tryz.sizeOf30
  v22:=Tryz.zeroValue30
  t23:=Tryz.underlying30
  a23:=Tryz.isAgg30
  z23:=Tryz.sizeOf30
  v23:=Tryz.zeroValue30
  t25:=Tryz.underlying3
  a25:=Tryz.isAgg3
  z25:=Tryz.sizeOf3
  v25:=Tryz.zeroValue3
  t32:=Tryz.underlying74
  a32:=Tryz.isAgg74
  z32:=Tryz.sizeOf74
  v32:=Tryz.zeroValue74
  t35:=Tryz.underlying221
  a35:=Tryz.isAgg221
  z35:=Tryz.sizeOf221
  v35:=Tryz.zeroValue221
  t36:=Tryz.underlying222
  a36:=Tryz.isAgg222
  z36:=Tryz.sizeOf222
  v36:=Tryz.zeroValue222
  t41:=Tryz.underlying38
  a41:=Tryz.isAgg38
  z41:=Tryz.sizeOf38
  v41:=Tryz.zeroValue38
  t44:=Tryz.underlying183
  a44:=Tryz.isAgg183
  z44:=Tryz.sizeOf183
  v44:=Tryz.zeroValue183
  t46:=Tryz.underlying198
  a46:=Tryz.isAgg198
  z46:=Tryz.sizeOf198
  v46:=Tryz.zeroValue198
  t53:=Tryz.underlying231
  a53:=Tryz.isAgg231
  z53:=Tryz.sizeOf231
  v53:=Tryz.zeroValue231
  t57:=Tryz.underlying235
  a57:=Tryz.isAgg235
  z57:=Tryz.sizeOf235
  v57:=Tryz.zeroValue235
  t63:=Tryz.underlying238
  a63:=Tryz.isAgg238
  z63:=Tryz.sizeOf238
  v63:=Tryz.zeroValue238
  t64:=Tryz.underlying71
  a64:=Tryz.isAgg71
  z64:=Tryz.sizeOf71
  v64:=Tryz.zeroValue71}
end Go.Proofs
-- E5I
namespace Go.Abs.D2
open Go Go.Eng Go.Abs Go.Proofs
theorem Ma (m:Nat):AnyZI.SortsIn Tryz.prog Tryz.DO Fence.wide m:=
  ⟨fun blk off cap ss W hH hblk hsz=>callsIn_wide.2 (AnyM.slices_Sort_int Tryz.DN blk off cap ss W hH hblk hsz),fun p cap W=>callsIn_wide.2 (AnyM.slices_Sort_int_none Tryz.DN p cap W)⟩
theorem Ht {σ:Int→Int} (hs:gi σ) (w:World) (b B:Nat) (es:Array MapEntry) (clk:Nat) (hb:w.heap[b]? =some (.map es clk)) (hF:de es clk (mapOf σ)) (hBl:B<w.heap.size) (hB:w.cell? ⟨B,0,none⟩=some (.map (some b))):
  Calls Tryz.prog 65 #[.func (.func 114) #[] #[.pointer (some ⟨B,0,none⟩)]] w fun e w'=>∃v,e= .returned v∧w'.ownsRow w.heap.size 3 1 v (c6 σ).length ((c6 σ).map Go.encZ)∧RowKit.Below w.heap.size w w':=by
 obtain⟨D0,hown,hperm,hsz⟩:=Kg (H:=Unit) (k:=3) Tryz.underlying3 hs hb hF
 have hseq:SeqGives Fence.wide 2 Tryz.prog 114 #[.pointer (some ⟨B,0,none⟩)] Go.encZ (fun ss=>ss.Perm (intKeys D0)) (Go.Maps.size D0) w:=AnyZI.keys_gives (ρ:=Tryz.BF) {Tryz.Iw with} Fence.wide _ trivial rfl (by omega) B b 1024 D0 w hBl hB hown
 have cS:=AnyZI.sorted_in Tryz.L9 Fence.wide 5 trivial trivial trivial trivial rfl (by omega) (Ma _) (enters_of Tryz.func113 (by kernel_rfl) rfl) 114 #[.pointer (some ⟨B,0,none⟩)] trivial (enters_of Tryz.func114 (by kernel_rfl) rfl) _ _ (Nat.le_trans hsz (by decide)) (by omega) w hseq
 change CallsIn _ _ Tryz.prog 65 _ _ _ at cS
 refine(callsIn_wide (n:=5)).1 (cS.mono ?_)
 rintro e w' ⟨v,ss,rfl,hS,hrow,_,hB⟩
 have e1:ss.mergeSort (fun x y=>decide (x≤y))=c6 σ:=(mergeSort_of_perm_i (hS.trans hperm)).trans (Ix σ)
 have e2:ss.length=(c6 σ).length:=(hS.trans hperm).length_eq
 rw [e1,e2]at hrow
 exact⟨v,rfl,hrow,hB⟩
theorem Hu {b:Nat} {σ:Int→Int} (hs:gi σ):cE Tryz.prog 65 [.fn (.func 114) [] [.p 24 0]] ⟨[(24,some [.raw (.map (some b))]),(700,some [.mc b (mapOf σ)])]⟩ (gf 1 (c6 σ).length ((c6 σ).map (A.i .i64)) [(700, [.mc b (mapOf σ)])]):=Gw (e:=3) 9 rfl (fun p hp=>by rw [List.mem_singleton.1 hp];rfl) fun w X β us hd hX ho hv=>by
 refine⟨⟨_,Tryz.func65,rfl,by kernel_rfl⟩,?_⟩
 obtain⟨hβ,_,_,es,clk,hb,hF⟩:=(ho 700 _ rfl).Cc
 have h24:=ho 24 _ rfl
 simp only [VS,V]at hv
 obtain⟨u,r,rfl,⟨u1,u2,rfl,rfl,⟨u3,r3,rfl,⟨B,N,hB,rfl⟩,rfl⟩⟩,rfl⟩:=hv
 unfold OB at h24
 rw [hB]at h24
 obtain⟨_,_,us,rest,ty,hrow,_,hvs,_⟩:=h24
 simp only [VS,V]at hvs
 obtain⟨_,_,rfl,rfl,rfl⟩:=hvs
 exact Ht hs w b B es clk hb hF (Array.getElem?_eq_some_iff.1 hrow).1 (by simp [World.cell?,hrow])
theorem Hb (b:Nat):aB Tryz.prog 66 [.raw (.map (some b))] (rB (fun i=> .fn (.func 114) [] [.p i 0]) [.raw (.map (some b))]):=by
 refine enter Tryz.func66 rfl Tryz.ntmps66 (by kernel_rfl) (Nat.le_of_ble_eq_true rfl) fun w0 X0 hI=>?_
 refine af<|ai ?_
 refine ak rfl (kO 1 rfl rfl rfl rfl ?_)
 refine s1 (aa rfl) rfl ?_
 refine ah<|ae<|af<|ai<|s1 (gx (us:= []) (vs:= [.p 1 0]) rfl rfl) rfl<|s1 (aa rfl) rfl ?_
 refine ah<|ae<|aF ?_
 refine aG (rs:= [.tmp 2]) rfl (aD rfl aC) ⟨1,rfl,rfl⟩
theorem Hv (c0 c1:A) (e:Int):pF Tryz.prog 63 [.p 4 0,.p 5 0] ⟨[(4,some [c0]),(5,some [c1])]⟩ (fun u=>u=gZ 136 e) [(4, [.nl]),(5, [.i .i64 e])]:=by
 refine vM (.ic 136 (.ag [.i .i64 e])) (fun u hu X w β=>by rw [hu];exact uX _ _) Tryz.func63 rfl Tryz.ntmps63 (Nat.le_of_ble_eq_true rfl) rfl rfl fun w0 X0 hI=>?_
 refine af<|ai<|s1 (aa rfl) rfl<|s1 (ym Tryz.underlying20 rfl) rfl ?_
 refine ah<|ae ?_
 refine bT rfl ?_
 refine ai<|s1 (aa rfl) rfl ?_
 refine ak rfl (aJ false rfl (.cons (.pure pu) (.nil)) (wq e) pu (.inl rfl) rfl ?_)
 refine ak rfl (bZ cH rfl rfl rfl rfl (by first|rfl|omega|(simp<;>omega)|(simp [*]<;>omega)) rfl ?_)
 refine ak rfl (bZ b7 rfl rfl rfl rfl (by first|rfl|omega|(simp<;>omega)|(simp [*]<;>omega)) rfl ?_)
 refine ah ?_
 refine lq (rs:= []) rfl aC (Dc rfl rfl)
theorem Hw:pG Tryz.prog 63 2:=vN Tryz.func63 rfl (fun w=>xN Tryz.underlying20 w) rfl ⟨Nat.le_of_ble_eq_true rfl,Nat.le_of_ble_eq_true rfl,Nat.le_of_ble_eq_true rfl,Nat.le_of_ble_eq_true rfl,Nat.le_of_ble_eq_true rfl⟩
theorem AQ:kC Tryz.prog 63:=⟨_,Tryz.func63,rfl,by kernel_rfl⟩
theorem sC (l:List Ep) (no:Int) (hl:dN l) (hn:l.length≤1000):aB Tryz.prog 18 [cW l,.i .i64 no] (aU (xI (jJ l no))):=by
 refine ov Tryz.func18 rfl Tryz.ntmps18 (by kernel_rfl) (Nat.le_of_ble_eq_true rfl) fun w0 X0 hI hS=>?_
 refine af<|ai ?_
 refine ak rfl (bt 4 rfl cH rfl rfl ?_)
 refine ak rfl (bt 5 rfl b7 rfl rfl ?_)
 refine ah<|ae<|af<|af<|ai<|s1 (aa rfl) rfl<|s1 (aa rfl) rfl<|s1 (aa rfl) rfl ?_
 refine jW 4 rfl rfl rfl rfl (fun hb11=> .step (aa rfl) rfl rfl<| .step (aa rfl) rfl rfl<| .step (bx Tryz.underlying24 rfl rfl rfl) rfl rfl<| .step (aa rfl) rfl rfl<| .done) rfl rfl ?_
 refine ah<|ae ?_
 refine aP rfl (fun hc16=>?_) (fun hc16=>?_)
 ·have h16 : no < -1 ∨ (l.length : Int) ≤ no := by simpa using hc16
  refine af<|ai ?_
  refine ak rfl (bZ cH rfl rfl rfl rfl (by first|rfl|omega|(simp<;>omega)|(simp [*]<;>omega)) rfl ?_)
  refine ak rfl (bZ b7 rfl rfl rfl rfl (by first|rfl|omega|(simp<;>omega)|(simp [*]<;>omega)) rfl ?_)
  refine ah<|ae<|aF<|aH ?_
  refine pR (rs:= [.cell 4 31,.cell 5 27]) rfl rfl rfl hS (dn:= []) rfl hS List.nodup_nil rfl (dw cH rfl rfl rfl (dw b7 rfl rfl rfl aC)) ?_
  rw [uk h16];rfl
 ·have h16 : ¬ (no < -1 ∨ (l.length : Int) ≤ no) := by simp at hc16; omega
  obtain⟨k,hk⟩:∃k:Nat,no+1=(k:Int):=⟨(no+1).toNat,by omega⟩
  have hkl:k≤l.length:=by omega
  have htk:(no+1).toNat=k:=by omega
  have hlk:dN (l.take k):=fun e he=>hl e (List.mem_of_mem_take he)
  have hlen:(l.take k).length=k:=by rw [List.length_take];omega
  refine aK<|ae<|af<|ai<|s1 (gx (us:= []) (vs:= [.p 4 0,.p 5 0]) rfl rfl) rfl ?_
  refine vi [4,5] hI rfl rfl trivial rfl fun w1 us hdf=>?_
  refine ah<|ae<|af ?_
  rcases tO (cC (l.take k))with hcs|hcs
  ·have hf := hcs
   refine ai<|s1 (aa rfl) rfl<|s1 (aa rfl) rfl<|s1 ((mU rfl rfl (by omega) (by omega)).v (v':=nJ k) (congrArg (A.i .i64) hk)) rfl<|s1 ((iW (ds:=c4 (l.take k)) k Tryz.underlying24 bA rfl (by rw [kN hl]) bn (bs rfl rfl) (by omega) (by omega) rfl (sA hl k)).v (v':=cW (l.take k)) (congrArg (fun n=>A.fz n (c4 (l.take k))) hlen.symm)) rfl ?_
   refine eS ⟨[]⟩ false rfl trivial (.cons (.pure pu) .nil) (Ax hlk (by simp only [maxLen];omega) hf) (fun u hu=>?_)
   refine bP ?_
   refine jR ⟨[(4,some [.nl]),(5,some [.i .i64 0])]⟩ hdf hS AQ ⟨⟨rfl,a7.pure ar⟩,⟨rfl,a7.pure ar⟩,trivial⟩ (.cons (.kp rfl) (.cons (.kp rfl) .nil)) (Hv _ _ 351) (hu.2) (ld rfl rfl ar ar) rfl (dw cH rfl rfl rfl (dw b7 rfl rfl rfl aC)) ?_
   rw [xZ h16 (by rw [htk];exact hf)];rfl
  ·obtain ⟨σ, hf⟩ := hcs
   have hsup:=D5 hf
   have hkn:=BG σ
   refine ai<|s1 (aa rfl) rfl<|s1 (aa rfl) rfl<|s1 ((mU rfl rfl (by omega) (by omega)).v (v':=nJ k) (congrArg (A.i .i64) hk)) rfl<|s1 ((iW (ds:=c4 (l.take k)) k Tryz.underlying24 bA rfl (by rw [kN hl]) bn (bs rfl rfl) (by omega) (by omega) rfl (sA hl k)).v (v':=cW (l.take k)) (congrArg (fun n=>A.fz n (c4 (l.take k))) hlen.symm)) rfl ?_
   refine ak rfl (tq (F:=mapOf σ) rfl (.cons (.pure pu) (.nil)) (Aw hlk (by simp only [maxLen];omega) hf) rfl rfl fun b22=>?_)
   refine s1 (aa rfl) rfl ?_
   refine ah<|ae<|af<|af<|ai<|s1 (aa rfl) rfl ?_
   refine ak rfl (Cf (mk:=fun i=> .fn (.func 114) [] [.p i 0]) tH 24 rfl false rfl (.cons (.pure pu) (.nil)) (Hb b22) ar (.inl rfl) rfl ?_)
   refine ak rfl (Ce 25 rfl ⟨[(24,some [.raw (.map (some b22))]),(700,some [.mc b22 (mapOf σ)])]⟩ [(700, [.mc b22 (mapOf σ)])] false rfl rfl ⟨⟨rfl,a7.pure ar⟩,⟨rfl,a7.pure ar⟩,trivial⟩ (.cons (.fn .nil (.cons (.kp rfl) .nil)) .nil) (Hu hsup) ar (.inl rfl) (fun p hp=>by rw [List.mem_singleton.1 hp];exact⟨⟨_,rfl⟩,uP ar (.inl rfl)⟩) rfl ?_)
   refine gz 25 rfl rfl ar (cD (by simp) rfl) ?_
   refine s1 (bx Tryz.underlying30 rfl rfl rfl) rfl<|s1 ((aa rfl).v (v':= .i .i64 0) rfl) rfl ?_
   refine ah<|ae<|aM ?_
   refine bH (ι:=Nat) (fun i=> [(4,.p 4 0),(5,.p 5 0),(6,.raw (.map (some b22))),(25,.fz (c6 σ).length ((c6 σ).map (A.i .i64))),(26,nJ (c6 σ).length),(27,nJ i)]) (fun i=>⟨[(4,some ([.sl 138 2 0 i])),(5,some ([.i .i64 0])),(138,some (eD ((dq σ).take i))),(700,some ([.mc b22 (mapOf σ)]))]⟩) (fun i=>i≤(c6 σ).length) (fun i=>(c6 σ).length - i) ?_ ?_
   ·exact bG (0) (Nat.zero_le _) [(4,some 4),(5,some 5),(138,none),(700,some 700)] hdf.ids rfl rfl ⟨⟨_,rfl,.p rfl⟩,⟨_,rfl,.p rfl⟩,⟨_,rfl,.pure pu⟩,⟨_,rfl,.pure pu⟩,⟨_,rfl,.pure pu⟩,⟨_,rfl,.pure pu⟩,trivial⟩ ⟨.inr ⟨_,_,rfl,rfl,.cons (.nl rfl) .nil⟩,.inr ⟨_,_,rfl,rfl,.of (rfl:_= [A.i .i64 0]) (.pure ar)⟩,.inl ⟨rfl,rfl⟩,.inr ⟨_,_,rfl,rfl,.pure ar⟩,trivial⟩
   rintro i hi
   refine af<|ai<|s1 (aa rfl) rfl ?_
   refine ah<|ae<|af ?_
   refine aP rfl (fun hc28=>?_) (fun hc28=>?_)
   ·have h28 : i < (c6 σ).length := by have := of_decide_eq_true hc28; omega
    obtain⟨q,hq⟩:∃q,(c6 σ)[i]? =some q:=⟨_,List.getElem?_eq_getElem h28⟩
    refine aK<|ae<|af<|aM<|af<|ai<|s1 (aT i Tryz.underlying30 an rfl rfl rfl (by omega) rfl) rfl<|s1 (au an rfl rfl (oF hq)) rfl<|s1 (aa rfl) rfl ?_
    refine ah<|ae<|ai<|s1 (au cH rfl rfl rfl) rfl<|s1 (aa rfl) rfl<|s1 (aa rfl) rfl<|s1 (aa rfl) rfl<|s1 (nQ Tryz.underlying80 Tryz.underlying3 uM rfl rfl rfl (s9 _ _)) rfl<|s1 (eu (out:= [_,_]) [[aW (.int .i64 0)], [aW (.int .i64 0)]] bp rfl Tryz.underlying55 (by kernel_rfl) rfl rfl ⟨⟨by(first|rfl|omega|(simp;done)|(simp [*];done)|(simp [aX, *];done)),rfl⟩,⟨⟨by(first|rfl|omega|(simp;done)|(simp [*];done)|(simp [aX, *];done)),rfl⟩,trivial⟩⟩ rfl) rfl ?_
    refine ak rfl (fX 37 rfl Tryz.underlying31 bp rfl rfl rfl (by simp [aX]) (show _=Ch.cells ⟨q,σ q⟩from rfl) rfl rfl rfl ?_)
    refine ak rfl (cY 38 rfl Tryz.underlying31 bp rfl (.sl rfl (by simp [dq];omega)) rfl (cO rfl (by first|rfl|omega|(simp<;>omega)|(simp [*]<;>omega))) (by simp) (by simp only [maxLen];omega) (by omega) rfl rfl rfl ?_)
    refine ak rfl (bZ cH rfl rfl rfl rfl (by first|rfl|omega|(simp<;>omega)|(simp [*]<;>omega)) rfl ?_)
    refine ah<|bj<|ae<|ai<|s1 (bg _ 1 rfl rfl rfl rfl (by omega)) rfl<|s1 (aa rfl) rfl ?_
    refine ah ?_
    exact bu (i+1) (by omega) (by omega) [(4,some 4),(5,some 5),(138,some 38),(700,some 700)] hdf.ids rfl rfl ⟨⟨_,rfl,.p rfl⟩,⟨_,rfl,.p rfl⟩,⟨_,rfl,.pure pu⟩,⟨_,rfl,.pure pu⟩,⟨_,rfl,.pure pu⟩,⟨_,rfl,.pure pu⟩,trivial⟩ ⟨.inr ⟨_,_,rfl,rfl,.cons (.sl rfl (by simp)) .nil⟩,.inr ⟨_,_,rfl,rfl,.pure ar⟩,.inr ⟨_,_,rfl,rfl,.of (Gc hq) (.pure ar)⟩,.inr ⟨_,_,rfl,rfl,.pure ar⟩,trivial⟩
   ·obtain rfl : i = (c6 σ).length := by have := of_decide_eq_false hc28; omega
    refine bE<|aO<|aO<|bF<|ae<|af ?_
    refine cV 138 (cs':=eD (dq σ)) rfl (by rw [List.take_of_length_le (by simp [dq])]) ?_
    refine jQ 4 0 rfl rfl rfl rfl ar (cD (by simp [dq]) rfl) rfl ?_
    refine ai<|s1 (au cH rfl rfl rfl) rfl ?_
    refine ak rfl (bZ cH rfl rfl rfl rfl (by first|rfl|omega|(simp<;>omega)|(simp [*]<;>omega)) rfl ?_)
    refine ak rfl (bZ b7 rfl rfl rfl rfl (by first|rfl|omega|(simp<;>omega)|(simp [*]<;>omega)) rfl ?_)
    refine ah<|ae<|aF ?_
    refine rT hdf hS AQ Hw rfl (dw cH rfl rfl rfl (dw b7 rfl rfl rfl aC)) ?_
    rw [q8 h16 (by rw [htk];exact hf)];exact congrArg (fun n=>A.tu [.fz n (eD (dq σ)),.i .i64 0]) (by simp [dq])
end Go.Abs.D2
-- E5H
namespace Go.Abs.D2
open Go Go.Eng Go.Abs Go.Proofs
theorem wi (l:List Ep) (day:Int) (hl:dN l) (hn:l.length≤maxLen):aB Tryz.prog 20 [cW l,.i .i64 day] (aU (mW (ll l day))):=by
 refine enter Tryz.func20 rfl Tryz.ntmps20 (by kernel_rfl) (Nat.le_of_ble_eq_true rfl) fun w0 X0 hI=>?_
 refine af ?_
 simp only [maxLen]at hn
 refine ai<|s1 ((aa rfl).v (v':= .i .i64 0) rfl) rfl<|s1 (aa rfl) rfl ?_
 refine ah<|ae<|af<|af<|ai<|s1 (aa rfl) rfl<|s1 (bx Tryz.underlying24 rfl rfl rfl) rfl<|s1 (gu rfl rfl (by omega) (by omega)) rfl<|s1 (aa rfl) rfl ?_
 refine ah<|ae<|aM ?_
 refine bH (ι:=Nat) (fun j=> [(0,cW l),(1,.i .i64 day),(6,.i .i64 ((j:Int) - 1))]) (fun j=>⟨[]⟩) (fun j=>j≤l.length∧ll l day=je l day j) (fun j=>j) ?_ ?_
 ·exact bG (l.length) (⟨Nat.le_refl _,rQ l day⟩) [] hI rfl rfl ⟨⟨_,rfl,.pure pu⟩,⟨_,rfl,.pure pu⟩,⟨_,rfl,.pure pu⟩,trivial⟩ trivial
 rintro j ⟨hj,hst⟩
 refine af<|af<|ai<|s1 (aa rfl) rfl<|s1 (aa rfl) rfl ?_
 refine ah<|ae ?_
 refine aP rfl (fun hc11=>?_) (fun hc11=>?_)
 ·have h11 : 0 < j := by have := of_decide_eq_true hc11; omega
  obtain⟨m,rfl⟩:∃m,j=m+1:=⟨j - 1,by omega⟩
  obtain⟨e,he⟩:∃e,l[m]? =some e:=⟨_,List.getElem?_eq_getElem (by omega)⟩
  refine aK<|ae<|af<|aM<|af ?_
  refine mY 6 rfl (v':=nJ m) (congrArg (A.i .i64) (by omega)) ?_
  refine ai<|s1 (aa rfl) rfl<|s1 (aa rfl) rfl<|s1 (aT m Tryz.underlying24 bA rfl rfl rfl (by omega) rfl) rfl<|s1 (bd Tryz.underlying45 rfl an (by decide) rfl rfl) rfl<|s1 (au an rfl rfl (dK hl he (k:=2) rfl (by decide))) rfl<|s1 (aa rfl) rfl<|s1 (aa rfl) rfl ?_
  refine ah<|ae ?_
  refine aP rfl (fun hc20=>?_) (fun hc20=>?_)
  ·have h20 : e.day ≤ day := by have := of_decide_eq_true hc20; omega
   refine af<|ai<|s1 (aa rfl) rfl<|s1 (aa rfl) rfl<|s1 (aa rfl) rfl ?_
   refine ah<|ae<|aF<|bc<|aH<|aH<|bc<|aH ?_
   refine aG (rs:= [.tmp 4,.tmp 5]) rfl (aD rfl (aD rfl aC)) ?_
   exact congrArg mW (hst.trans (vh he h20)).symm
  ·have h20 : ¬ e.day ≤ day := by have := of_decide_eq_false hc20; omega
   refine aK<|bj<|ae<|ai<|s1 (aa rfl) rfl<|s1 (gu rfl rfl (by omega) (by omega)) rfl<|s1 (aa rfl) rfl ?_
   refine ah ?_
   exact bu (m) (⟨by omega,hst.trans (vg he h20)⟩) (by omega) [] hI rfl rfl ⟨⟨_,rfl,.pure pu⟩,⟨_,rfl,.pure pu⟩,⟨_,rfl,.of (rfl:_=A.i .i64 ((m:Int) - 1)) (.pure pu)⟩,trivial⟩ trivial
 ·have h11 : j = 0 := by have := of_decide_eq_false hc11; omega
  subst h11
  refine bE<|aO<|aO<|bF<|ae<|af<|ai<|s1 ((aa rfl).v (v':= .i .i64 0) rfl) rfl<|s1 (aa rfl) rfl ?_
  refine ah<|ae<|aF ?_
  refine aG (rs:= [.tmp 4,.tmp 5]) rfl (aD rfl (aD rfl aC)) ?_
  exact congrArg mW hst.symm
end Go.Abs.D2
-- E5K
namespace Go.Abs.D2
open Go Go.Eng Go.Abs Go.Proofs
theorem Jf:aB Tryz.prog 11 [] (aU (.b true)):=by
 refine enter Tryz.func11 rfl Tryz.ntmps11 (by kernel_rfl) (Nat.le_of_ble_eq_true rfl) fun w0 X0 hI=>?_
 refine af<|ai<|s1 (aa rfl) rfl ?_
 refine ah<|ae<|af<|ai<|s1 ((M6 (vs:= [_]) aE rfl (by kernel_rfl) Tryz.underlying23 aQ rfl rfl (by simp) rfl rfl).v (v':= .ag (fL.map u8)) (by kernel_rfl)) rfl ?_
 refine ak rfl (bt 1 rfl aE rfl rfl ?_)
 refine ak rfl (bo aE rfl rfl rfl (by first|rfl|omega|(simp<;>omega)|(simp [*]<;>omega)) (by first|rfl|omega|(simp<;>omega)|(simp [*]<;>omega)) ?_)
 refine ah<|ae<|af<|ai<|s1 (aZ aE rfl rfl (by decide)) rfl ?_
 refine ak rfl (aJ false rfl (.cons (.pure pu) (.cons (.pure pu) (.nil))) (aB.cast (La fL 2 (by decide)) (show _=A.tu [.ag ((dM fL 2).map u8),.i .i64 0]from(xK ..).trans (by rw [decide_eq_true (show cv 2 by decide)];rfl))) pu (.inl rfl) rfl ?_)
 refine s1 (aa rfl) rfl<|s1 (aa rfl) rfl<|s1 (aa rfl) rfl ?_
 refine ak rfl (bt 2 rfl aE rfl rfl ?_)
 refine ak rfl (bo aE rfl rfl rfl (by simp) rfl ?_)
 refine s1 (aa rfl) rfl ?_
 refine ah<|ae<|af<|ai<|s1 (aZ aE rfl rfl (by decide)) rfl ?_
 refine ak rfl (kP Tryz.underlying30 an rfl rfl rfl (np rfl) (mg rfl) ar rfl rfl rfl ?_)
 refine s1 (eu (out:= [_,_]) [[aW (.int .i64 0)], [aW (.int .i64 0)]] bp rfl Tryz.underlying55 (by kernel_rfl) rfl rfl ⟨⟨by(first|rfl|omega|(simp;done)|(simp [*];done)|(simp [aX, *];done)),rfl⟩,⟨⟨by(first|rfl|omega|(simp;done)|(simp [*];done)|(simp [aX, *];done)),rfl⟩,trivial⟩⟩ rfl) rfl ?_
 refine ak rfl (kP Tryz.underlying31 bp rfl rfl rfl (by first|(simp [aX];done)|(simp [aX, *];done)) (show _=eD [⟨5,2⟩]from rfl) ar rfl rfl rfl ?_)
 refine ak rfl (aJ false rfl (.cons (.pure pu) (.cons (.pure pu) (.cons .nl (.cons (.pure pu) (.cons (.pure pu) (.cons (.pure pu) (.cons (.pure pu) .nil))))))) (aB.cast (sB fL 2 [] 1 10 [4,5] cA (by decide) qH (by decide) (rg_of (by decide) (by decide)) (rg_of (by decide) (by decide)) (by decide) (by decide) (qP (by decide))) (show _=A.tu [cW [eA],.i .i64 0] by rw [CW];rfl)) pu (.inl rfl) rfl ?_)
 refine s1 (aa rfl) rfl<|s1 (aa rfl) rfl<|s1 (aa rfl) rfl<|s1 (aa rfl) rfl<|s1 (aa rfl) rfl ?_
 refine ah<|ae<|af<|ai<|s1 (aZ aE rfl rfl (by decide)) rfl<|s1 (aa rfl) rfl ?_
 refine ak rfl (kP Tryz.underlying30 an rfl rfl rfl (np rfl) (mg rfl) ar rfl rfl rfl ?_)
 refine s1 (eu (out:= [_,_]) [[aW (.int .i64 0)], [aW (.int .i64 0)]] bp rfl Tryz.underlying55 (by kernel_rfl) rfl rfl ⟨⟨by(first|rfl|omega|(simp;done)|(simp [*];done)|(simp [aX, *];done)),rfl⟩,⟨⟨by(first|rfl|omega|(simp;done)|(simp [*];done)|(simp [aX, *];done)),rfl⟩,trivial⟩⟩ rfl) rfl ?_
 refine ak rfl (kP Tryz.underlying31 bp rfl rfl rfl (by first|(simp [aX];done)|(simp [aX, *];done)) (show _=eD [⟨4,1⟩]from rfl) ar rfl rfl rfl ?_)
 refine ak rfl (aJ false rfl (.cons (.pure pu) (.cons (.pure pu) (.cons (.pure pu) (.cons (.pure pu) (.cons (.pure pu) (.cons (.pure pu) (.cons (.pure pu) .nil))))))) (aB.cast (sB fL 2 [eA] 1 11 [4,5] cB (by decide) CH (by decide) (rg_of (by decide) (by decide)) (rg_of (by decide) (by decide)) (by decide) (by decide) (qP (by decide))) (show _=A.tu [cW [eA,eB],.i .i64 0] by rw [CX];rfl)) pu (.inl rfl) rfl ?_)
 refine s1 (aa rfl) rfl<|s1 (aa rfl) rfl<|s1 (aa rfl) rfl<|s1 (aa rfl) rfl<|s1 (aa rfl) rfl ?_
 refine ah<|ae<|af<|ai<|s1 (aZ aE rfl rfl (by decide)) rfl<|s1 (aa rfl) rfl ?_
 refine ak rfl (kP Tryz.underlying30 an rfl rfl rfl (np rfl) (mg rfl) ar rfl rfl rfl ?_)
 refine s1 (eu (out:= [_,_]) [[aW (.int .i64 0)], [aW (.int .i64 0)]] bp rfl Tryz.underlying55 (by kernel_rfl) rfl rfl ⟨⟨by(first|rfl|omega|(simp;done)|(simp [*];done)|(simp [aX, *];done)),rfl⟩,⟨⟨by(first|rfl|omega|(simp;done)|(simp [*];done)|(simp [aX, *];done)),rfl⟩,trivial⟩⟩ rfl) rfl ?_
 refine ak rfl (kP Tryz.underlying31 bp rfl rfl rfl (by first|(simp [aX];done)|(simp [aX, *];done)) (show _=eD [⟨5,0⟩]from rfl) ar rfl rfl rfl ?_)
 refine ak rfl (aJ false rfl (.cons (.pure pu) (.cons (.pure pu) (.cons (.pure pu) (.cons (.pure pu) (.cons (.pure pu) (.cons (.pure pu) (.cons (.pure pu) .nil))))))) (aB.cast (sB fL 2 [eA] 1 11 [4,5] [⟨5,0⟩] (by decide) CH (by decide) (rg_of (by decide) (by decide)) (rg_of (by decide) (by decide)) (by decide) (by decide) (qP (by decide))) (show _=A.tu [.nl,.i .i64 351] by rw [Ky];rfl)) pu (.inl rfl) rfl ?_)
 refine s1 (aa rfl) rfl<|s1 (aa rfl) rfl<|s1 (aa rfl) rfl<|s1 (aa rfl) rfl<|s1 (aa rfl) rfl ?_
 refine ah<|ae<|af<|ai<|s1 (aZ aE rfl rfl (by decide)) rfl<|s1 (aa rfl) rfl ?_
 refine ak rfl (kP Tryz.underlying30 an rfl rfl rfl (np rfl) (mg rfl) ar rfl rfl rfl ?_)
 refine ak rfl (aJ false rfl (.cons (.pure pu) (.cons (.pure pu) (.cons (.pure pu) (.cons (.pure pu) (.cons (.pure pu) (.cons (.pure pu) (.cons .nl .nil))))))) (aB.cast (sB fL 2 [eA,eB] 1 12 [4,5] [] (by decide) nA (by decide) (rg_of (by decide) (by decide)) (rg_of (by decide) (by decide)) (by decide) (by decide) (fun e he=>by cases he)) (show _=A.tu [.nl,.i .i64 2] by rw [Kz];rfl)) pu (.inl rfl) rfl ?_)
 refine s1 (aa rfl) rfl<|s1 (aa rfl) rfl<|s1 (aa rfl) rfl<|s1 (aa rfl) rfl<|s1 (aa rfl) rfl ?_
 refine ah<|ae<|af<|ai<|s1 (aa rfl) rfl ?_
 refine ak rfl (aJ false rfl (.cons (.pure pu) (.cons (.pure pu) .nil)) (aB.cast (sC [eA,eB] 1 nA (by decide)) (show _=A.tu [cz [⟨4,1⟩,⟨5,2⟩],.i .i64 0] by rw [Mh];rfl)) pu (.inl rfl) rfl ?_)
 refine s1 (aa rfl) rfl<|s1 (aa rfl) rfl<|s1 (aa rfl) rfl<|s1 (aa rfl) rfl<|s1 (aa rfl) rfl ?_
 refine ah<|ae<|af<|ai ?_
 refine ak rfl (aJ false rfl (.cons .nl (.cons (.pure pu) .nil)) (aB.cast (sC [] (-1) qH (by decide)) (show _=A.tu [cz [],.i .i64 0] by rw [Mi];rfl)) pu (.inl rfl) rfl ?_)
 refine s1 (aa rfl) rfl<|s1 (aa rfl) rfl<|s1 (aa rfl) rfl<|s1 (aa rfl) rfl<|s1 (aa rfl) rfl ?_
 refine ah<|ae<|af<|ai ?_
 refine ak rfl (aJ false rfl (.cons .nl (.cons (.pure pu) .nil)) (aB.cast (sC [] 0 qH (by decide)) (show _=A.tu [.nl,.i .i64 1] by rw [Mj];rfl)) pu (.inl rfl) rfl ?_)
 refine s1 (aa rfl) rfl<|s1 (aa rfl) rfl<|s1 (aa rfl) rfl<|s1 (aa rfl) rfl<|s1 (aa rfl) rfl ?_
 refine ah<|ae<|af<|ai ?_
 refine ak rfl (aJ false rfl (.cons .nl (.cons (.pure pu) .nil)) (aB.cast (wi [] 5 qH (by decide)) (show _=A.tu [.i .i64 0,.b false] by rw [Fj];rfl)) pu (.inl rfl) rfl ?_)
 refine s1 (aa rfl) rfl<|s1 (aa rfl) rfl<|s1 (aa rfl) rfl<|s1 (aa rfl) rfl<|s1 (aa rfl) rfl ?_
 refine ah<|ae<|af<|ai<|s1 (aa rfl) rfl ?_
 refine ak rfl (aJ false rfl (.cons (.pure pu) (.cons (.pure pu) .nil)) (aB.cast (wi [eA,eB] 10 nA (by decide)) (show _=A.tu [.i .i64 0,.b true] by rw [Fk];rfl)) pu (.inl rfl) rfl ?_)
 refine s1 (aa rfl) rfl<|s1 (aa rfl) rfl<|s1 (aa rfl) rfl<|s1 (aa rfl) rfl<|s1 (aa rfl) rfl ?_
 refine ah<|ae<|af<|af<|ai<|s1 (aa rfl) rfl<|s1 ((aa rfl).v (v':= .b false) (rfl)) rfl<|s1 (aa rfl) rfl<|g1 rfl rfl (aa rfl) rfl<|g1 rfl rfl ((aa rfl).v (v':= .b false) (rfl)) rfl<|s1 (aa rfl) rfl<|s1 (aa rfl) rfl<|g1 rfl rfl (aa rfl) rfl<|g1 rfl rfl ((aa rfl).v (v':= .b false) (rfl)) rfl<|s1 (aa rfl) rfl ?_
 refine s1 (aa rfl) rfl<|g1 rfl rfl (aa rfl) rfl<|g1 rfl rfl ((aa rfl).v (v':= .b false) (rfl)) rfl<|s1 (aa rfl) rfl<|s1 (aa rfl) rfl<|g1 rfl rfl (aa rfl) rfl<|g1 rfl rfl ((aa rfl).v (v':= .b false) (rfl)) rfl<|s1 (aa rfl) rfl<|s1 (aa rfl) rfl<|g1 rfl rfl (aa rfl) rfl ?_
 refine g1 rfl rfl ((aa rfl).v (v':= .b false) (rfl)) rfl<|s1 (aa rfl) rfl<|s1 (aa rfl) rfl<|g1 rfl rfl (aa rfl) rfl<|g1 rfl rfl ((aa rfl).v (v':= .b false) (rfl)) rfl<|s1 (aa rfl) rfl<|s1 (aa rfl) rfl<|g1 rfl rfl (aa rfl) rfl<|g1 rfl rfl ((aa rfl).v (v':= .b false) (rfl)) rfl<|s1 (aa rfl) rfl ?_
 refine s1 (aa rfl) rfl<|g1 rfl rfl (aa rfl) rfl<|s1 (aa rfl) rfl<|s1 (aa rfl) rfl<|g1 rfl rfl (aa rfl) rfl<|g1 rfl rfl ((aa rfl).v (v':= .b false) (rfl)) rfl<|s1 (aa rfl) rfl<|s1 (aa rfl) rfl<|g1 rfl rfl (aa rfl) rfl<|g1 rfl rfl ((aa rfl).v (v':= .b false) (rfl)) rfl ?_
 refine s1 (aa rfl) rfl<|s1 (aa rfl) rfl<|g1 rfl rfl (aZ aE rfl rfl (by simp)) rfl<|g1 rfl rfl (aa rfl) rfl ?_
 refine jf rfl rfl rfl (aJ false rfl (.cons (.pure pu) (.cons (.pure pu) (.cons (.pure pu) .nil))) (aB.cast (Ao (dM fL 2) 2 [eA,eB] (by simp) nA (by decide)) (congrArg (A.i .i64) sM.2)) pu (.inl rfl) rfl ?_)
 refine g1 rfl rfl ((aa rfl).v (v':= .b false) (rfl)) rfl<|s1 (aa rfl) rfl<|s1 (aa rfl) rfl<|g1 rfl rfl (aZ aE rfl rfl (by simp)) rfl ?_
 refine jf rfl rfl rfl (aJ false rfl (.cons (.pure pu) (.cons (.pure pu) (.cons .nl .nil))) (aB.cast (Ao (dM fL 2) 2 [] (by simp) qH (by decide)) (congrArg (A.i .i64) (zU _ _))) pu (.inl rfl) rfl ?_)
 refine g1 rfl rfl ((aa rfl).v (v':= .b false) (rfl)) rfl<|s1 (aa rfl) rfl ?_
 refine ah<|ae ?_
 refine cK rfl ?_
 refine aK<|ae<|af ?_
 refine bU ⟨_, [], []⟩ 34 4 bz (le_refl rfl) ?_
 refine aj 0 [] [] (aa rfl) rfl rfl<|aj 1 [] [] (eu (out:= [_,_]) [[aW (.int .i64 0)], [aW (.int .i64 0)]] bp rfl Tryz.underlying55 (by kernel_rfl) rfl rfl ⟨⟨by(first|rfl|omega|(simp;done)|(simp [*];done)|(simp [aX, *];done)),rfl⟩,⟨⟨by(first|rfl|omega|(simp;done)|(simp [*];done)|(simp [aX, *];done)),rfl⟩,trivial⟩⟩ rfl) rfl rfl<|aj 2 [] [] (eu (out:= [_,_]) [[aW (.int .i64 0)], [aW (.int .i64 0)]] bp rfl Tryz.underlying55 (by kernel_rfl) rfl rfl ⟨⟨by(first|rfl|omega|(simp;done)|(simp [*];done)|(simp [aX, *];done)),rfl⟩,⟨⟨by(first|rfl|omega|(simp;done)|(simp [*];done)|(simp [aX, *];done)),rfl⟩,trivial⟩⟩ rfl) rfl rfl<|sO 3 [1,2] bb Tryz.underlying31 bp rfl rfl rfl (by first|(simp [aX];done)|(simp [aX, *];done)) (show _=eD [⟨4,1⟩,⟨5,2⟩]from rfl) ar rfl rfl rfl rfl<|bV false 4 [0,3] [] bb rfl (.cons (.pure pu) (.cons (.pure pu) (.nil))) (aB.cast (Dk [⟨4,1⟩,⟨5,2⟩] [⟨4,1⟩,⟨5,2⟩] (by decide) (by decide)) (congrArg A.b (xP _))) pu (.inl rfl) rfl rfl<|aj 5 [4] [] (aa rfl) rfl rfl<|aq 6 [5] [] rfl rfl (aa rfl) rfl rfl<|aq 7 [5,6] [] rfl rfl (bx Tryz.underlying31 rfl rfl rfl) rfl rfl<|aq 8 [5,7] [] rfl rfl ((aa rfl).v (v':= .b true) (rfl)) rfl rfl<|aj 9 [5,8] [] (aa rfl) rfl rfl ?_
 refine aj 10 [9] [] (aa rfl) rfl rfl<|aq 11 [10] [] rfl rfl (aa rfl) rfl rfl<|aq 12 [10,11] [] rfl rfl (bx Tryz.underlying24 rfl rfl rfl) rfl rfl<|aq 13 [10,12] [] rfl rfl ((aa rfl).v (v':= .b true) (rfl)) rfl rfl<|aj 14 [10,13] [] (aa rfl) rfl rfl<|aj 15 [14] [] (aa rfl) rfl rfl<|aq 16 [15] [] rfl rfl (aa rfl) rfl rfl<|aq 17 [15,16] [] rfl rfl (aT 1 Tryz.underlying24 bA rfl rfl rfl (by decide) rfl) rfl rfl<|aq 18 [15,17] [] rfl rfl (bd Tryz.underlying45 rfl aE (by decide) rfl rfl) rfl rfl<|aq 19 [15,18] [] rfl rfl (cm aE rfl rfl (AN nA (e:=eB) rfl) (by simp [xl.prev])) rfl rfl ?_
 refine aq 20 [15] [] rfl rfl (aa rfl) rfl rfl<|aq 21 [15,20] [] rfl rfl (aT 0 Tryz.underlying24 bA rfl rfl rfl (by decide) rfl) rfl rfl<|aq 22 [15,21] [] rfl rfl (cm bA rfl rfl (kJ nA (e:=eA) rfl) oP.len) rfl rfl<|bV false 23 [15,22] [] (nf rfl rfl) rfl (.cons (.pure pu) (.nil)) (l9 eA oP) pu (.inl rfl) rfl rfl<|aq 24 [15,19,23] [] rfl rfl (((uE Tryz.underlying23 Tryz.underlying5 aQ (by kernel_rfl) rfl rfl xl.prev (by simp))).v (v':= .b true) (congrArg A.b (beq_iff_eq.2 Kw))) rfl rfl<|aj 25 [15,24] [] (aa rfl) rfl rfl<|aj 26 [25] [] (aa rfl) rfl rfl<|aq 27 [26] [] rfl rfl (aa rfl) rfl rfl<|aq 28 [26,27] [] rfl rfl (aT 0 Tryz.underlying24 bA rfl rfl rfl (by decide) rfl) rfl rfl<|aq 29 [26,28] [] rfl rfl (bd Tryz.underlying45 rfl aE (by decide) rfl rfl) rfl rfl ?_
 refine aq 30 [26,29] [] rfl rfl (cm aE rfl rfl (AN nA (e:=eA) rfl) (by simp [oP.prev])) rfl rfl<|aq 31 [26] [] rfl rfl ((uF aE rfl Tryz.underlying23 aQ rfl).v (v':= .ag (zD.map u8)) (rfl)) rfl rfl<|aq 32 [26,30,31] [] rfl rfl (((uE Tryz.underlying23 Tryz.underlying5 aQ (by kernel_rfl) rfl rfl oP.prev rfl)).v (v':= .b true) (congrArg A.b (beq_iff_eq.2 Kv))) rfl rfl<|aj 33 [26,32] [] (aa rfl) rfl rfl<|bW (by kernel_rfl) ?_
 refine s1 (aa rfl) rfl ?_
 refine ah<|ae<|aF ?_
 refine aG (rs:= [.tmp 0]) rfl (aD rfl aC) ?_
 rfl
end Go.Abs.D2
-- E6K
namespace Go.Abs.D2
open Go Go.Eng Go.Abs Go.Proofs
theorem IP (l:List Ep) (no day:Int) (hn:l.length≤maxLen) (hT:nV l):aB Tryz.prog 5 [cW l,.i .i64 no,.i .i64 day] (aU (.b true)):=by
 refine enter Tryz.func5 rfl Tryz.ntmps5 (by kernel_rfl) (Nat.le_of_ble_eq_true rfl) fun w0 X0 hI=>?_
 refine af<|ai<|s1 (aa rfl) rfl ?_
 refine ah<|ae<|af<|af<|ai ?_
 refine ak rfl (aJ false rfl (.nil) (Jf) pu (.inl rfl) rfl ?_)
 refine s1 ((aa rfl).v (v':= .b false) (rfl)) rfl ?_
 refine ah<|ae ?_
 refine cK rfl ?_
 refine aK<|ae<|af<|af ?_
 rcases lS (lI 1 l [] [])with hcs|hcs
 ·skip
  refine ai<|s1 (aa rfl) rfl ?_
  refine ak rfl (aJ false rfl (.cons (.pure pu) (.cons (.pure pu) (.cons .nl (.cons .nl .nil)))) (aB.cast (Dd 1 l [] [] hT hn) (congrArg A.b hcs)) pu (.inl rfl) rfl ?_)
  refine s1 ((aa rfl).v (v':= .b true) (rfl)) rfl ?_
  refine ah<|ae ?_
  refine bT rfl ?_
  refine af<|ai<|s1 (aa rfl) rfl ?_
  refine ah<|ae<|aF<|aH ?_
  refine aG (rs:= [.tmp 6]) rfl (aD rfl aC) ?_
  rfl
 ·obtain ⟨hlc, _, hl6, _⟩ := AT hcs
  have hl:=Hz hcs hT
  obtain⟨C,v,hCl,hC⟩:=Mk l no
  obtain⟨N,B,hNB⟩:=Fz (ll l day)
  refine ai<|s1 (aa rfl) rfl ?_
  refine ak rfl (aJ false rfl (.cons (.pure pu) (.cons (.pure pu) (.cons .nl (.cons .nl .nil)))) (aB.cast (Dd 1 l [] [] hT hn) (congrArg A.b hcs)) pu (.inl rfl) rfl ?_)
  refine s1 ((aa rfl).v (v':= .b false) (rfl)) rfl ?_
  refine ah<|ae ?_
  refine cK rfl ?_
  refine aK<|ae<|af<|ai<|s1 (aa rfl) rfl<|s1 (aa rfl) rfl ?_
  refine ak rfl (aJ false rfl (.cons (.pure pu) (.cons (.pure pu) (.nil))) (aB.wk (sC l no hl (by omega)) hC) pu (.inl rfl) rfl ?_)
  refine s1 (aa rfl) rfl<|s1 (aa rfl) rfl<|s1 (aa rfl) rfl<|s1 (aa rfl) rfl<|s1 (aa rfl) rfl ?_
  refine ah<|ae<|af<|ai<|s1 (aa rfl) rfl<|s1 (aa rfl) rfl ?_
  refine ak rfl (aJ false rfl (.cons (.pure pu) (.cons (.pure pu) (.nil))) (aB.wk (Lo l no hl (by omega)) hC) pu (.inl rfl) rfl ?_)
  refine s1 (aa rfl) rfl<|s1 (aa rfl) rfl<|s1 (aa rfl) rfl<|s1 (aa rfl) rfl<|s1 (aa rfl) rfl ?_
  refine ah<|ae<|af<|ai<|s1 (aa rfl) rfl<|s1 (aa rfl) rfl ?_
  refine ak rfl (aJ false rfl (.cons (.pure pu) (.cons (.pure pu) (.nil))) (aB.cast (wi l day hl hn) hNB) pu (.inl rfl) rfl ?_)
  refine s1 (aa rfl) rfl<|s1 (aa rfl) rfl<|s1 (aa rfl) rfl<|s1 (aa rfl) rfl<|s1 (aa rfl) rfl ?_
  refine ah<|ae<|af<|ai<|s1 (aa rfl) rfl<|s1 (aa rfl) rfl ?_
  refine ak rfl (aJ false rfl (.cons (.pure pu) (.cons (.pure pu) (.nil))) (aB.cast (KJ l day hl hn) hNB) pu (.inl rfl) rfl ?_)
  refine s1 (aa rfl) rfl<|s1 (aa rfl) rfl<|s1 (aa rfl) rfl<|s1 (aa rfl) rfl<|s1 (aa rfl) rfl ?_
  refine ah<|ae<|af<|af<|ai<|s1 ((aa rfl).v (v':= .i .i64 0) rfl) rfl ?_
  refine ah<|ae<|aM ?_
  refine bH (ι:=Nat) (fun i=> [(0,cW l),(7,cz C),(8,.i .i64 v),(9,cz C),(10,.i .i64 v),(11,.i .i64 N),(12,.b B),(13,.i .i64 N),(14,.b B),(15,nJ i)]) (fun i=>⟨[]⟩) (fun i=>i≤l.length) (fun i=>l.length - i) ?_ ?_
  ·exact bG (0) (Nat.zero_le _) [] hI rfl rfl ⟨⟨_,rfl,.pure pu⟩,⟨_,rfl,.pure pu⟩,⟨_,rfl,.pure pu⟩,⟨_,rfl,.pure pu⟩,⟨_,rfl,.pure pu⟩,⟨_,rfl,.pure pu⟩,⟨_,rfl,.pure pu⟩,⟨_,rfl,.pure pu⟩,⟨_,rfl,.pure pu⟩,⟨_,rfl,.pure pu⟩,trivial⟩ trivial
  intro i hi
  refine af<|af<|ai<|s1 (aa rfl) rfl<|s1 (aa rfl) rfl<|s1 (bx Tryz.underlying24 rfl rfl rfl) rfl<|s1 (aa rfl) rfl ?_
  refine ah<|ae ?_
  refine aP rfl (fun hc48=>?_) (fun hc48=>?_)
  ·have h48 : i < l.length := by have := of_decide_eq_true hc48; omega
   obtain⟨e,he⟩:∃e,l[i]? =some e:=⟨_,List.getElem?_eq_getElem h48⟩
   have hok:=hl e (List.mem_of_getElem? he)
   refine aK<|ae<|af<|aM<|af ?_
   refine bU ⟨_, [], []⟩ 10 4 bz (le_refl rfl) ?_
   refine aj 0 [] [] (aa rfl) rfl rfl<|aj 1 [] [] (aa rfl) rfl rfl<|aj 2 [0,1] [] (aT i Tryz.underlying24 bA rfl rfl rfl (by omega) rfl) rfl rfl<|aj 3 [2] [] (cm bA rfl rfl (kJ hl he) hok.len) rfl rfl<|bV false 4 [3] [] bb rfl (.cons (.pure pu) (.nil)) (l9 e hok) pu (.inl rfl) rfl rfl<|aj 5 [] [] (aa rfl) rfl rfl<|aj 6 [] [] (aa rfl) rfl rfl<|aj 7 [5,6] [] (aT i Tryz.underlying24 bA rfl rfl rfl (by omega) rfl) rfl rfl<|aj 8 [7] [] (cm bA rfl rfl (kJ hl he) hok.len) rfl rfl<|bV false 9 [8] [] bb rfl (.cons (.pure pu) (.nil)) (C5 e hok) pu (.inl rfl) rfl rfl ?_
   refine bW (by kernel_rfl) ?_
   refine s1 (((lW Tryz.underlying23 Tryz.underlying5 aQ (by kernel_rfl) rfl rfl (by simp) (by simp))).v (v':= .b false) (congrArg A.b (by simp))) rfl ?_
   refine ah<|ae ?_
   refine cK rfl ?_
   refine aK<|bj<|ae<|ai<|s1 (aa rfl) rfl<|s1 (bg _ 1 rfl rfl rfl rfl (by omega)) rfl<|s1 (aa rfl) rfl ?_
   refine ah ?_
   exact bu (i+1) (by omega) (by omega) [] hI rfl rfl ⟨⟨_,rfl,.pure pu⟩,⟨_,rfl,.pure pu⟩,⟨_,rfl,.pure pu⟩,⟨_,rfl,.pure pu⟩,⟨_,rfl,.pure pu⟩,⟨_,rfl,.pure pu⟩,⟨_,rfl,.pure pu⟩,⟨_,rfl,.pure pu⟩,⟨_,rfl,.pure pu⟩,⟨_,rfl,.pure pu⟩,trivial⟩ trivial
  ·skip
   refine bE<|aO<|aO<|bF<|ae<|af<|ai<|s1 (aa rfl) rfl<|s1 (aa rfl) rfl ?_
   refine ak rfl (aJ false rfl (.cons (.pure pu) (.cons (.pure pu) (.nil))) (aB.cast (Dk C C (by simp only [maxLen];omega) (by simp only [maxLen];omega)) (congrArg A.b (xP C))) pu (.inl rfl) rfl ?_)
   refine s1 (aa rfl) rfl<|g1 rfl rfl (aa rfl) rfl<|g1 rfl rfl (aa rfl) rfl<|g1 rfl rfl ((aa rfl).v (v':= .b true) (congrArg A.b (by simp))) rfl<|s1 (aa rfl) rfl<|s1 (aa rfl) rfl<|g1 rfl rfl (aa rfl) rfl<|g1 rfl rfl (aa rfl) rfl<|g1 rfl rfl ((aa rfl).v (v':= .b true) (congrArg A.b (by simp))) rfl<|s1 (aa rfl) rfl ?_
   refine s1 (aa rfl) rfl<|g1 rfl rfl (aa rfl) rfl<|g1 rfl rfl (aa rfl) rfl<|g1 rfl rfl ((yj Tryz.underlying4 rfl rfl).v (v':= .b true) (congrArg A.b (by simp))) rfl<|s1 (aa rfl) rfl<|s1 (aa rfl) rfl ?_
   refine ah<|ae<|aF ?_
   refine aG (rs:= [.tmp 6]) rfl (aD rfl aC) ?_
   rfl
end Go.Abs.D2
