/-
  The engine, the plain laws and the walks that the rows need, part 18. Conditions: none.
-/
import Derived.Test.YteempkifmbclgaaGreatDoorM17
import Derived.Shelf.SlIterI.Nil
import Derived.Shelf.SortM.Plain
import Derived.Shelf.SortM.SortNone
import Derived.Ground.GgzProg
import Derived.Ground.SlgmProg
import Derived.Test.YteempkifmbclgaaGreatDoorProg
set_option linter.unusedVariables false
set_option linter.unusedSimpArgs false
set_option maxHeartbeats 1000000
set_option maxRecDepth 10000
-- ShP
namespace Go.Proofs
open Go.Shelf
def Tryz.Bk:Go.Shelf.Ren:=⟨fun|7=>66|10=>114|n=>n,fun|23=>80|26=>3|3=>3|28=>105|0=>0|27=>104|33=>126|4=>4|n=>n,fun|n=>n⟩
theorem Tryz.HW:Go.Proofs.SlLaysZI.n7 Tryz.prog Tryz.Bk:= {
  mixed:=by kernel_rfl
  f7:=⟨Tryz.f66.name,by decide,Tryz.func66.trans (congrArg some (by kernel_rfl))⟩
  f10:=⟨Tryz.f114.name,by decide,Tryz.func114.trans (congrArg some (by kernel_rfl))⟩
  t0:=Tryz.underlying0
  a0:=Tryz.isAgg0
  z0:=Tryz.sizeOf0
  v0:=Tryz.zeroValue0
  t4:=Tryz.underlying4
  a4:=Tryz.isAgg4
  z4:=Tryz.sizeOf4
  v4:=Tryz.zeroValue4
  t23:=Tryz.underlying80
  a23:=Tryz.isAgg80
  z23:=Tryz.sizeOf80
  v23:=Tryz.zeroValue80
  t26:=Tryz.underlying3
  a26:=Tryz.isAgg3
  z26:=Tryz.sizeOf3
  v26:=Tryz.zeroValue3
  t27:=Tryz.underlying104
  a27:=Tryz.isAgg104
  z27:=Tryz.sizeOf104
  v27:=Tryz.zeroValue104
  t28:=Tryz.underlying105
  a28:=Tryz.isAgg105
  z28:=Tryz.sizeOf105
  v28:=Tryz.zeroValue105
  t33:=Tryz.underlying126
  a33:=Tryz.isAgg126
  z33:=Tryz.sizeOf126
  v33:=Tryz.zeroValue126}
def Tryz.Dx:Go.Shelf.Ren:=⟨fun|6=>65|8=>112|9=>113|11=>164|13=>146|12=>165|23=>186|24=>187|14=>195|15=>196|16=>197|17=>198|18=>199|19=>200|20=>201|21=>202|22=>203|25=>211|26=>212|27=>213|28=>214|29=>215|30=>216|31=>217|n=>n,fun|26=>3|28=>105|24=>30|0=>0|3=>3|37=>74|48=>183|50=>198|4=>4|40=>222|39=>221|45=>38|5=>5|9=>9|51=>231|55=>235|57=>238|58=>71|33=>126|n=>n,fun|n=>n⟩
theorem Tryz.LM:Go.Proofs.SlLaysZI.n6 Tryz.prog Tryz.Dx:= {
  mixed:=by kernel_rfl
  f6:=⟨Tryz.f65.name,by decide,Tryz.func65.trans (congrArg some (by kernel_rfl))⟩
  f8:=⟨Tryz.f112.name,by decide,Tryz.func112.trans (congrArg some (by kernel_rfl))⟩
  f11:=⟨Tryz.f164.name,by decide,Tryz.func164.trans (congrArg some (by kernel_rfl))⟩
  t0:=Tryz.underlying0
  a0:=Tryz.isAgg0
  z0:=Tryz.sizeOf0
  v0:=Tryz.zeroValue0
  t24:=Tryz.underlying30
  a24:=Tryz.isAgg30
  z24:=Tryz.sizeOf30
  v24:=Tryz.zeroValue30
  t26:=Tryz.underlying3
  a26:=Tryz.isAgg3
  z26:=Tryz.sizeOf3
  v26:=Tryz.zeroValue3
  t28:=Tryz.underlying105
  a28:=Tryz.isAgg105
  z28:=Tryz.sizeOf105
  v28:=Tryz.zeroValue105
  i26:=by kernel_rfl}
def Tryz.LL:Go.Shelf.Ren:=⟨fun|5=>113|8=>146|7=>165|19=>186|20=>187|10=>195|11=>196|12=>197|13=>198|14=>199|15=>200|16=>201|17=>202|18=>203|30=>211|31=>212|32=>213|33=>214|34=>215|35=>216|40=>217|n=>n,fun|23=>30|25=>3|3=>3|32=>74|22=>30|0=>0|44=>183|46=>198|4=>4|36=>222|35=>221|41=>38|5=>5|9=>9|53=>231|57=>235|63=>238|64=>71|n=>n,fun|n=>n⟩
theorem Tryz.Dw:Go.Proofs.SlLaysM.n5 Tryz.prog Tryz.LL:= {
  mixed:=by kernel_rfl
  f5:=⟨Tryz.f113.name,by decide,Tryz.func113.trans (congrArg some (by kernel_rfl))⟩
  f7:=⟨Tryz.f165.name,by decide,Tryz.func165.trans (congrArg some (by kernel_rfl))⟩
  f8:=Tryz.func146.trans (congrArg some (by kernel_rfl))
  f10:=⟨Tryz.f195.name,by decide,Tryz.func195.trans (congrArg some (by kernel_rfl))⟩
  f11:=⟨Tryz.f196.name,by decide,Tryz.func196.trans (congrArg some (by kernel_rfl))⟩
  f12:=⟨Tryz.f197.name,by decide,Tryz.func197.trans (congrArg some (by kernel_rfl))⟩
  f13:=⟨Tryz.f198.name,by decide,Tryz.func198.trans (congrArg some (by kernel_rfl))⟩
  f14:=⟨Tryz.f199.name,by decide,Tryz.func199.trans (congrArg some (by kernel_rfl))⟩
  f15:=⟨Tryz.f200.name,by decide,Tryz.func200.trans (congrArg some (by kernel_rfl))⟩
  f16:=⟨Tryz.f201.name,by decide,Tryz.func201.trans (congrArg some (by kernel_rfl))⟩
  f17:=⟨Tryz.f202.name,by decide,Tryz.func202.trans (congrArg some (by kernel_rfl))⟩
  f18:=⟨Tryz.f203.name,by decide,Tryz.func203.trans (congrArg some (by kernel_rfl))⟩
  f19:=Tryz.func186.trans (congrArg some (by kernel_rfl))
  f20:=Tryz.func187.trans (congrArg some (by kernel_rfl))
  f30:=⟨Tryz.f211.name,by decide,Tryz.func211.trans (congrArg some (by kernel_rfl))⟩
  f31:=Tryz.func212.trans (congrArg some (by kernel_rfl))
  f32:=Tryz.func213.trans (congrArg some (by kernel_rfl))
  f33:=⟨Tryz.f214.name,by decide,Tryz.func214.trans (congrArg some (by kernel_rfl))⟩
  f34:=⟨Tryz.f215.name,by decide,Tryz.func215.trans (congrArg some (by kernel_rfl))⟩
  f35:=⟨Tryz.f216.name,by decide,Tryz.func216.trans (congrArg some (by kernel_rfl))⟩
  f40:=⟨Tryz.f217.name,by decide,Tryz.func217.trans (congrArg some (by kernel_rfl))⟩
  t0:=Tryz.underlying0
  a0:=Tryz.isAgg0
  z0:=Tryz.sizeOf0
  v0:=Tryz.zeroValue0
  t3:=Tryz.underlying3
  a3:=Tryz.isAgg3
  z3:=Tryz.sizeOf3
  v3:=Tryz.zeroValue3
  t4:=Tryz.underlying4
  a4:=Tryz.isAgg4
  z4:=Tryz.sizeOf4
  v4:=Tryz.zeroValue4
  t5:=Tryz.underlying5
  a5:=Tryz.isAgg5
  z5:=Tryz.sizeOf5
  v5:=Tryz.zeroValue5
  t9:=Tryz.underlying9
  a9:=Tryz.isAgg9
  z9:=Tryz.sizeOf9
  v9:=Tryz.zeroValue9
  t22:=Tryz.underlying30
  a22:=Tryz.isAgg30
  z22:=Tryz.sizeOf30
  v22:=Tryz.zeroValue30
  t23:=Tryz.underlying30
  a23:=Tryz.isAgg30
  z23:=Tryz.sizeOf30
  v23:=Tryz.zeroValue30
  t25:=Tryz.underlying3
  a25:=Tryz.isAgg3
  z25:=Tryz.sizeOf3
  v25:=Tryz.zeroValue3
  t32:=Tryz.underlying74
  a32:=Tryz.isAgg74
  z32:=Tryz.sizeOf74
  v32:=Tryz.zeroValue74
  t35:=Tryz.underlying221
  a35:=Tryz.isAgg221
  z35:=Tryz.sizeOf221
  v35:=Tryz.zeroValue221
  t36:=Tryz.underlying222
  a36:=Tryz.isAgg222
  z36:=Tryz.sizeOf222
  v36:=Tryz.zeroValue222
  t41:=Tryz.underlying38
  a41:=Tryz.isAgg38
  z41:=Tryz.sizeOf38
  v41:=Tryz.zeroValue38
  t44:=Tryz.underlying183
  a44:=Tryz.isAgg183
  z44:=Tryz.sizeOf183
  v44:=Tryz.zeroValue183
  t46:=Tryz.underlying198
  a46:=Tryz.isAgg198
  z46:=Tryz.sizeOf198
  v46:=Tryz.zeroValue198
  t53:=Tryz.underlying231
  a53:=Tryz.isAgg231
  z53:=Tryz.sizeOf231
  v53:=Tryz.zeroValue231
  t57:=Tryz.underlying235
  a57:=Tryz.isAgg235
  z57:=Tryz.sizeOf235
  v57:=Tryz.zeroValue235
  t63:=Tryz.underlying238
  a63:=Tryz.isAgg238
  z63:=Tryz.sizeOf238
  v63:=Tryz.zeroValue238
  t64:=Tryz.underlying71
  a64:=Tryz.isAgg71
  z64:=Tryz.sizeOf71
  v64:=Tryz.zeroValue71}
end Go.Proofs
-- E5I
namespace Go.Abs.D2
open Go Go.Eng Go.Abs Go.Proofs
theorem LN (m:Nat):AnyZI.SortsIn Tryz.prog Tryz.Dx Fence.wide m:=
  ⟨fun blk off cap ss W hH hblk hsz=>callsIn_wide.2 (AnyM.slices_Sort_int Tryz.Dw blk off cap ss W hH hblk hsz),fun p cap W=>callsIn_wide.2 (AnyM.slices_Sort_int_none Tryz.Dw p cap W)⟩
theorem G0 {σ:Int→Int} (hs:gj σ) (w:World) (b B:Nat) (es:Array MapEntry) (clk:Nat) (hb:w.heap[b]? =some (.map es clk)) (hF:dh es clk (mapOf σ)) (hBl:B<w.heap.size) (hB:w.cell? ⟨B,0,none⟩=some (.map (some b))):
  Calls Tryz.prog 65 #[.func (.func 114) #[] #[.pointer (some ⟨B,0,none⟩)]] w fun e w'=>∃v,e= .returned v∧w'.ownsRow w.heap.size 3 1 v (c6 σ).length ((c6 σ).map Go.encZ)∧RowKit.Below w.heap.size w w':=by
 obtain⟨D0,hown,hperm,hsz⟩:=JH (H:=Unit) (k:=3) Tryz.underlying3 hs hb hF
 have hseq:SeqGives Fence.wide 2 Tryz.prog 114 #[.pointer (some ⟨B,0,none⟩)] Go.encZ (fun ss=>ss.Perm (intKeys D0)) (Go.Maps.size D0) w:=AnyZI.keys_gives (ρ:=Tryz.Bk) {Tryz.HW with} Fence.wide _ trivial rfl (by omega) B b 1024 D0 w hBl hB hown
 have cS:=AnyZI.sorted_in Tryz.LM Fence.wide 5 trivial trivial trivial trivial rfl (by omega) (LN _) (enters_of Tryz.func113 (by kernel_rfl) rfl) 114 #[.pointer (some ⟨B,0,none⟩)] trivial (enters_of Tryz.func114 (by kernel_rfl) rfl) _ _ (Nat.le_trans hsz (by decide)) (by omega) w hseq
 change CallsIn _ _ Tryz.prog 65 _ _ _ at cS
 refine(callsIn_wide (n:=5)).1 (cS.mono ?_)
 rintro e w' ⟨v,ss,rfl,hS,hrow,_,hB⟩
 have e1:ss.mergeSort (fun x y=>decide (x≤y))=c6 σ:=(mergeSort_of_perm_i (hS.trans hperm)).trans (HX σ)
 have e2:ss.length=(c6 σ).length:=(hS.trans hperm).length_eq
 rw [e1,e2]at hrow
 exact⟨v,rfl,hrow,hB⟩
theorem G1 {b:Nat} {σ:Int→Int} (hs:gj σ):cH Tryz.prog 65 [.fn (.func 114) [] [.p 24 0]] ⟨[(24,some [.raw (.map (some b))]),(700,some [.mc b (mapOf σ)])]⟩ (gh 1 (c6 σ).length ((c6 σ).map (A.i .i64)) [(700, [.mc b (mapOf σ)])]):=F6 (e:=3) 9 rfl (fun p hp=>by rw [List.mem_singleton.1 hp];rfl) fun w X β us hd hX ho hv=>by
 refine⟨⟨_,Tryz.func65,rfl,by kernel_rfl⟩,?_⟩
 obtain⟨hβ,_,_,es,clk,hb,hF⟩:=(ho 700 _ rfl).BW
 have h24:=ho 24 _ rfl
 simp only [VS,V]at hv
 obtain⟨u,r,rfl,⟨u1,u2,rfl,rfl,⟨u3,r3,rfl,⟨B,N,hB,rfl⟩,rfl⟩⟩,rfl⟩:=hv
 unfold OB at h24
 rw [hB]at h24
 obtain⟨_,_,us,rest,ty,hrow,_,hvs,_⟩:=h24
 simp only [VS,V]at hvs
 obtain⟨_,_,rfl,rfl,rfl⟩:=hvs
 exact G0 hs w b B es clk hb hF (Array.getElem?_eq_some_iff.1 hrow).1 (by simp [World.cell?,hrow])
theorem GI (b:Nat):aA Tryz.prog 66 [.raw (.map (some b))] (ra (fun i=> .fn (.func 114) [] [.p i 0]) [.raw (.map (some b))]):=by
 refine enter Tryz.func66 rfl Tryz.ntmps66 (by kernel_rfl) (Nat.le_of_ble_eq_true rfl) fun w0 X0 hI=>?_
 refine af<|ai ?_
 refine ak rfl (kG 1 rfl rfl rfl rfl ?_)
 refine s1 (aa rfl) rfl ?_
 refine ah<|ae<|af<|ai<|s1 (gA (us:= []) (vs:= [.p 1 0]) rfl rfl) rfl<|s1 (aa rfl) rfl ?_
 refine ah<|ae<|aE ?_
 refine aF (rs:= [.tmp 2]) rfl (aD rfl aB) ⟨1,rfl,rfl⟩
theorem G2 (c0 c1:A) (e:Int):oZ Tryz.prog 63 [.p 4 0,.p 5 0] ⟨[(4,some [c0]),(5,some [c1])]⟩ (fun u=>u=gY 136 e) [(4, [.nl]),(5, [.i .i64 e])]:=by
 refine vn (.ic 136 (.ag [.i .i64 e])) (fun u hu X w β=>by rw [hu];exact uG _ _) Tryz.func63 rfl Tryz.ntmps63 (Nat.le_of_ble_eq_true rfl) rfl rfl fun w0 X0 hI=>?_
 refine af<|ai<|s1 (aa rfl) rfl<|s1 (xZ Tryz.underlying20 rfl) rfl ?_
 refine ah<|ae ?_
 refine bR rfl ?_
 refine ai<|s1 (aa rfl) rfl ?_
 refine ak rfl (aI false rfl (.cons (.pure pu) (.nil)) (vL e) pu (.inl rfl) rfl ?_)
 refine ak rfl (bZ cK rfl rfl rfl rfl (by first|rfl|omega|(simp<;>omega)|(simp [*]<;>omega)) rfl ?_)
 refine ak rfl (bZ b5 rfl rfl rfl rfl (by first|rfl|omega|(simp<;>omega)|(simp [*]<;>omega)) rfl ?_)
 refine ah ?_
 refine lU (rs:= []) rfl aB (CW rfl rfl)
theorem G3:o9 Tryz.prog 63 2:=vo Tryz.func63 rfl (fun w=>xu Tryz.underlying20 w) rfl ⟨Nat.le_of_ble_eq_true rfl,Nat.le_of_ble_eq_true rfl,Nat.le_of_ble_eq_true rfl,Nat.le_of_ble_eq_true rfl,Nat.le_of_ble_eq_true rfl⟩
theorem AB:ko Tryz.prog 63:=⟨_,Tryz.func63,rfl,by kernel_rfl⟩
theorem sj (l:List Ep) (no:Int) (hl:dB l) (hn:l.length≤1000):aA Tryz.prog 18 [cO l,.i .i64 no] (aN (xl (jG l no))):=by
 refine nZ Tryz.func18 rfl Tryz.ntmps18 (by kernel_rfl) (Nat.le_of_ble_eq_true rfl) fun w0 X0 hI hS=>?_
 refine af<|ai ?_
 refine ak rfl (bp 4 rfl cK rfl rfl ?_)
 refine ak rfl (bp 5 rfl b5 rfl rfl ?_)
 refine ah<|ae<|af<|af<|ai<|s1 (aa rfl) rfl<|s1 (aa rfl) rfl<|s1 (aa rfl) rfl ?_
 refine fJ 4 rfl rfl rfl rfl (fun hb11=> .step (aa rfl) rfl rfl<| .step (aa rfl) rfl rfl<| .step (bu Tryz.underlying24 rfl rfl rfl) rfl rfl<| .step (aa rfl) rfl rfl<| .done) rfl rfl ?_
 refine ah<|ae ?_
 refine aO rfl (fun hc16=>?_) (fun hc16=>?_)
 ·have h16 : no < -1 ∨ (l.length : Int) ≤ no := by simpa using hc16
  refine af<|ai ?_
  refine ak rfl (bZ cK rfl rfl rfl rfl (by first|rfl|omega|(simp<;>omega)|(simp [*]<;>omega)) rfl ?_)
  refine ak rfl (bZ b5 rfl rfl rfl rfl (by first|rfl|omega|(simp<;>omega)|(simp [*]<;>omega)) rfl ?_)
  refine ah<|ae<|aE<|aH ?_
  refine px (rs:= [.cell 4 31,.cell 5 27]) rfl rfl rfl hS (dn:= []) rfl hS List.nodup_nil rfl (dD cK rfl rfl rfl (dD b5 rfl rfl rfl aB)) ?_
  rw [tT h16];rfl
 ·have h16 : ¬ (no < -1 ∨ (l.length : Int) ≤ no) := by simp at hc16; omega
  obtain⟨k,hk⟩:∃k:Nat,no+1=(k:Int):=⟨(no+1).toNat,by omega⟩
  have hkl:k≤l.length:=by omega
  have htk:(no+1).toNat=k:=by omega
  have hlk:dB (l.take k):=fun e he=>hl e (List.mem_of_mem_take he)
  have hlen:(l.take k).length=k:=by rw [List.length_take];omega
  refine aL<|ae<|af<|ai<|s1 (gA (us:= []) (vs:= [.p 4 0,.p 5 0]) rfl rfl) rfl ?_
  refine uX [4,5] hI rfl rfl trivial rfl fun w1 us hdf=>?_
  refine ah<|ae<|af ?_
  rcases qq (cv (l.take k))with hcs|hcs
  ·have hf := hcs
   refine ai<|s1 (aa rfl) rfl<|s1 (aa rfl) rfl<|s1 ((mL rfl rfl (by omega) (by omega)).v (v':=nJ k) (congrArg (A.i .i64) hk)) rfl<|s1 ((ij (ds:=cY (l.take k)) k Tryz.underlying24 bA rfl (by rw [kF hl]) bn (bs rfl rfl) (by omega) (by omega) rfl (r9 hl k)).v (v':=cO (l.take k)) (congrArg (fun n=>A.fz n (cY (l.take k))) hlen.symm)) rfl ?_
   refine eQ ⟨[]⟩ false rfl trivial (.cons (.pure pu) .nil) (Ai hlk (by simp only [maxLen];omega) hf) (fun u hu=>?_)
   refine bU ?_
   refine jM ⟨[(4,some [.nl]),(5,some [.i .i64 0])]⟩ hdf hS AB ⟨⟨rfl,a8.pure aq⟩,⟨rfl,a8.pure aq⟩,trivial⟩ (.cons (.kp rfl) (.cons (.kp rfl) .nil)) (G2 _ _ 351) (hu.2) (kW rfl rfl aq aq) rfl (dD cK rfl rfl rfl (dD b5 rfl rfl rfl aB)) ?_
   rw [xH h16 (by rw [htk];exact hf)];rfl
  ·obtain ⟨σ, hf⟩ := hcs
   have hsup:=DJ hf
   have hkn:=Bl σ
   refine ai<|s1 (aa rfl) rfl<|s1 (aa rfl) rfl<|s1 ((mL rfl rfl (by omega) (by omega)).v (v':=nJ k) (congrArg (A.i .i64) hk)) rfl<|s1 ((ij (ds:=cY (l.take k)) k Tryz.underlying24 bA rfl (by rw [kF hl]) bn (bs rfl rfl) (by omega) (by omega) rfl (r9 hl k)).v (v':=cO (l.take k)) (congrArg (fun n=>A.fz n (cY (l.take k))) hlen.symm)) rfl ?_
   refine ak rfl (sU (F:=mapOf σ) rfl (.cons (.pure pu) (.nil)) (Ah hlk (by simp only [maxLen];omega) hf) rfl rfl fun b22=>?_)
   refine s1 (aa rfl) rfl ?_
   refine ah<|ae<|af<|af<|ai<|s1 (aa rfl) rfl ?_
   refine ak rfl (BZ (mk:=fun i=> .fn (.func 114) [] [.p i 0]) td 24 rfl false rfl (.cons (.pure pu) (.nil)) (GI b22) aq (.inl rfl) rfl ?_)
   refine ak rfl (BY 25 rfl ⟨[(24,some [.raw (.map (some b22))]),(700,some [.mc b22 (mapOf σ)])]⟩ [(700, [.mc b22 (mapOf σ)])] false rfl rfl ⟨⟨rfl,a8.pure aq⟩,⟨rfl,a8.pure aq⟩,trivial⟩ (.cons (.fn .nil (.cons (.kp rfl) .nil)) .nil) (G1 hsup) aq (.inl rfl) (fun p hp=>by rw [List.mem_singleton.1 hp];exact⟨⟨_,rfl⟩,uy aq (.inl rfl)⟩) rfl ?_)
   refine gp 25 rfl rfl aq (cm (by simp) rfl) ?_
   refine s1 (bu Tryz.underlying30 rfl rfl rfl) rfl<|s1 ((aa rfl).v (v':= .i .i64 0) rfl) rfl ?_
   refine ah<|ae<|aM ?_
   refine bF (ι:=Nat) (fun i=> [(4,.p 4 0),(5,.p 5 0),(6,.raw (.map (some b22))),(25,.fz (c6 σ).length ((c6 σ).map (A.i .i64))),(26,nJ (c6 σ).length),(27,nJ i)]) (fun i=>⟨[(4,some ([.sl 138 2 0 i])),(5,some ([.i .i64 0])),(138,some (eD ((dr σ).take i))),(700,some ([.mc b22 (mapOf σ)]))]⟩) (fun i=>i≤(c6 σ).length) (fun i=>(c6 σ).length - i) ?_ ?_
   ·exact bE (0) (Nat.zero_le _) [(4,some 4),(5,some 5),(138,none),(700,some 700)] hdf.ids rfl rfl ⟨⟨_,rfl,.p rfl⟩,⟨_,rfl,.p rfl⟩,⟨_,rfl,.pure pu⟩,⟨_,rfl,.pure pu⟩,⟨_,rfl,.pure pu⟩,⟨_,rfl,.pure pu⟩,trivial⟩ ⟨.inr ⟨_,_,rfl,rfl,.cons (.nl rfl) .nil⟩,.inr ⟨_,_,rfl,rfl,.of (rfl:_= [A.i .i64 0]) (.pure aq)⟩,.inl ⟨rfl,rfl⟩,.inr ⟨_,_,rfl,rfl,.pure aq⟩,trivial⟩
   rintro i hi
   refine af<|ai<|s1 (aa rfl) rfl ?_
   refine ah<|ae<|af ?_
   refine aO rfl (fun hc28=>?_) (fun hc28=>?_)
   ·have h28 : i < (c6 σ).length := by have := of_decide_eq_true hc28; omega
    obtain⟨q,hq⟩:∃q,(c6 σ)[i]? =some q:=⟨_,List.getElem?_eq_getElem h28⟩
    refine aL<|ae<|af<|aM<|af<|ai<|s1 (aT i Tryz.underlying30 an rfl rfl rfl (by omega) rfl) rfl<|s1 (au an rfl rfl (oq hq)) rfl<|s1 (aa rfl) rfl ?_
    refine ah<|ae<|ai<|s1 (au cK rfl rfl rfl) rfl<|s1 (aa rfl) rfl<|s1 (aa rfl) rfl<|s1 (aa rfl) rfl<|s1 (nD Tryz.underlying80 Tryz.underlying3 uw rfl rfl rfl (sN _ _)) rfl<|s1 (ey (out:= [_,_]) [[a6 (.int .i64 0)], [a6 (.int .i64 0)]] bt rfl Tryz.underlying55 (by kernel_rfl) rfl rfl ⟨⟨by(first|rfl|omega|(simp;done)|(simp [*];done)|(simp [aY, *];done)),rfl⟩,⟨⟨by(first|rfl|omega|(simp;done)|(simp [*];done)|(simp [aY, *];done)),rfl⟩,trivial⟩⟩ rfl) rfl ?_
    refine ak rfl (fY 37 rfl Tryz.underlying31 bt rfl rfl rfl (by simp [aY]) (show _=Ch.cells ⟨q,σ q⟩from rfl) rfl rfl rfl ?_)
    refine ak rfl (cT 38 rfl Tryz.underlying31 bt rfl (.sl rfl (by simp [dr];omega)) rfl (cE rfl (by first|rfl|omega|(simp<;>omega)|(simp [*]<;>omega))) (by simp) (by simp only [maxLen];omega) (by omega) rfl rfl rfl ?_)
    refine ak rfl (bZ cK rfl rfl rfl rfl (by first|rfl|omega|(simp<;>omega)|(simp [*]<;>omega)) rfl ?_)
    refine ah<|bh<|ae<|ai<|s1 (bc _ 1 rfl rfl rfl rfl (by omega)) rfl<|s1 (aa rfl) rfl ?_
    refine ah ?_
    exact br (i+1) (by omega) (by omega) [(4,some 4),(5,some 5),(138,some 38),(700,some 700)] hdf.ids rfl rfl ⟨⟨_,rfl,.p rfl⟩,⟨_,rfl,.p rfl⟩,⟨_,rfl,.pure pu⟩,⟨_,rfl,.pure pu⟩,⟨_,rfl,.pure pu⟩,⟨_,rfl,.pure pu⟩,trivial⟩ ⟨.inr ⟨_,_,rfl,rfl,.cons (.sl rfl (by simp)) .nil⟩,.inr ⟨_,_,rfl,rfl,.pure aq⟩,.inr ⟨_,_,rfl,rfl,.of (FP hq) (.pure aq)⟩,.inr ⟨_,_,rfl,rfl,.pure aq⟩,trivial⟩
   ·obtain rfl : i = (c6 σ).length := by have := of_decide_eq_false hc28; omega
    refine bC<|aP<|aP<|bD<|ae<|af ?_
    refine cX 138 (cs':=eD (dr σ)) rfl (by rw [List.take_of_length_le (by simp [dr])]) ?_
    refine jL 4 0 rfl rfl rfl rfl aq (cm (by simp [dr]) rfl) rfl ?_
    refine ai<|s1 (au cK rfl rfl rfl) rfl ?_
    refine ak rfl (bZ cK rfl rfl rfl rfl (by first|rfl|omega|(simp<;>omega)|(simp [*]<;>omega)) rfl ?_)
    refine ak rfl (bZ b5 rfl rfl rfl rfl (by first|rfl|omega|(simp<;>omega)|(simp [*]<;>omega)) rfl ?_)
    refine ah<|ae<|aE ?_
    refine rA hdf hS AB G3 rfl (dD cK rfl rfl rfl (dD b5 rfl rfl rfl aB)) ?_
    rw [qJ h16 (by rw [htk];exact hf)];exact congrArg (fun n=>A.tu [.fz n (eD (dr σ)),.i .i64 0]) (by simp [dr])
end Go.Abs.D2
-- E5H
namespace Go.Abs.D2
open Go Go.Eng Go.Abs Go.Proofs
theorem vH (l:List Ep) (day:Int) (hl:dB l) (hn:l.length≤maxLen):aA Tryz.prog 20 [cO l,.i .i64 day] (aN (mM (k8 l day))):=by
 refine enter Tryz.func20 rfl Tryz.ntmps20 (by kernel_rfl) (Nat.le_of_ble_eq_true rfl) fun w0 X0 hI=>?_
 refine af ?_
 simp only [maxLen]at hn
 refine ai<|s1 ((aa rfl).v (v':= .i .i64 0) rfl) rfl<|s1 (aa rfl) rfl ?_
 refine ah<|ae<|af<|af<|ai<|s1 (aa rfl) rfl<|s1 (bu Tryz.underlying24 rfl rfl rfl) rfl<|s1 (gx rfl rfl (by omega) (by omega)) rfl<|s1 (aa rfl) rfl ?_
 refine ah<|ae<|aM ?_
 refine bF (ι:=Nat) (fun j=> [(0,cO l),(1,.i .i64 day),(6,.i .i64 ((j:Int) - 1))]) (fun j=>⟨[]⟩) (fun j=>j≤l.length∧k8 l day=jd l day j) (fun j=>j) ?_ ?_
 ·exact bE (l.length) (⟨Nat.le_refl _,ry l day⟩) [] hI rfl rfl ⟨⟨_,rfl,.pure pu⟩,⟨_,rfl,.pure pu⟩,⟨_,rfl,.pure pu⟩,trivial⟩ trivial
 rintro j ⟨hj,hst⟩
 refine af<|af<|ai<|s1 (aa rfl) rfl<|s1 (aa rfl) rfl ?_
 refine ah<|ae ?_
 refine aO rfl (fun hc11=>?_) (fun hc11=>?_)
 ·have h11 : 0 < j := by have := of_decide_eq_true hc11; omega
  obtain⟨m,rfl⟩:∃m,j=m+1:=⟨j - 1,by omega⟩
  obtain⟨e,he⟩:∃e,l[m]? =some e:=⟨_,List.getElem?_eq_getElem (by omega)⟩
  refine aL<|ae<|af<|aM<|af ?_
  refine k9 6 rfl (v':=nJ m) (congrArg (A.i .i64) (by omega)) ?_
  refine ai<|s1 (aa rfl) rfl<|s1 (aa rfl) rfl<|s1 (aT m Tryz.underlying24 bA rfl rfl rfl (by omega) rfl) rfl<|s1 (bj Tryz.underlying45 rfl an (by decide) rfl rfl) rfl<|s1 (au an rfl rfl (dJ hl he (k:=2) rfl (by decide))) rfl<|s1 (aa rfl) rfl<|s1 (aa rfl) rfl ?_
  refine ah<|ae ?_
  refine aO rfl (fun hc20=>?_) (fun hc20=>?_)
  ·have h20 : e.day ≤ day := by have := of_decide_eq_true hc20; omega
   refine af<|ai<|s1 (aa rfl) rfl<|s1 (aa rfl) rfl<|s1 (aa rfl) rfl ?_
   refine ah<|ae<|aE<|bg<|aH<|aH<|bg<|aH ?_
   refine aF (rs:= [.tmp 4,.tmp 5]) rfl (aD rfl (aD rfl aB)) ?_
   exact congrArg mM (hst.trans (uW he h20)).symm
  ·have h20 : ¬ e.day ≤ day := by have := of_decide_eq_false hc20; omega
   refine aL<|bh<|ae<|ai<|s1 (aa rfl) rfl<|s1 (gx rfl rfl (by omega) (by omega)) rfl<|s1 (aa rfl) rfl ?_
   refine ah ?_
   exact br (m) (⟨by omega,hst.trans (uV he h20)⟩) (by omega) [] hI rfl rfl ⟨⟨_,rfl,.pure pu⟩,⟨_,rfl,.pure pu⟩,⟨_,rfl,.of (rfl:_=A.i .i64 ((m:Int) - 1)) (.pure pu)⟩,trivial⟩ trivial
 ·have h11 : j = 0 := by have := of_decide_eq_false hc11; omega
  subst h11
  refine bC<|aP<|aP<|bD<|ae<|af<|ai<|s1 ((aa rfl).v (v':= .i .i64 0) rfl) rfl<|s1 (aa rfl) rfl ?_
  refine ah<|ae<|aE ?_
  refine aF (rs:= [.tmp 4,.tmp 5]) rfl (aD rfl (aD rfl aB)) ?_
  exact congrArg mM hst.symm
end Go.Abs.D2
-- E5K
namespace Go.Abs.D2
open Go Go.Eng Go.Abs Go.Proofs
theorem BQ:aA Tryz.prog 11 [] (aN (.b true)):=by
 refine enter Tryz.func11 rfl Tryz.ntmps11 (by kernel_rfl) (Nat.le_of_ble_eq_true rfl) fun w0 X0 hI=>?_
 refine af<|ai<|s1 (aa rfl) rfl ?_
 refine ah<|ae<|af<|ai<|s1 ((MG (vs:= [_]) az rfl (by kernel_rfl) Tryz.underlying23 aQ rfl rfl (by simp) rfl rfl).v (v':= .ag (fM.map u8)) (by kernel_rfl)) rfl ?_
 refine ak rfl (bp 1 rfl az rfl rfl ?_)
 refine ak rfl (bb az rfl rfl rfl (by first|rfl|omega|(simp<;>omega)|(simp [*]<;>omega)) (by first|rfl|omega|(simp<;>omega)|(simp [*]<;>omega)) ?_)
 refine ah<|ae<|af<|ai<|s1 (aV az rfl rfl (by decide)) rfl ?_
 refine ak rfl (aI false rfl (.cons (.pure pu) (.cons (.pure pu) (.nil))) (aA.cast (KL fM 2 (by decide)) (show _=A.tu [.ag ((dL fM 2).map u8),.i .i64 0]from(xo ..).trans (by rw [decide_eq_true (show cn 2 by decide)];rfl))) pu (.inl rfl) rfl ?_)
 refine s1 (aa rfl) rfl<|s1 (aa rfl) rfl<|s1 (aa rfl) rfl ?_
 refine ak rfl (bp 2 rfl az rfl rfl ?_)
 refine ak rfl (bb az rfl rfl rfl (by simp) rfl ?_)
 refine s1 (aa rfl) rfl ?_
 refine ah<|ae<|af<|ai<|s1 (aV az rfl rfl (by decide)) rfl ?_
 refine ak rfl (kH Tryz.underlying30 an rfl rfl rfl (m7 rfl) (lZ rfl) aq rfl rfl rfl ?_)
 refine s1 (ey (out:= [_,_]) [[a6 (.int .i64 0)], [a6 (.int .i64 0)]] bt rfl Tryz.underlying55 (by kernel_rfl) rfl rfl ⟨⟨by(first|rfl|omega|(simp;done)|(simp [*];done)|(simp [aY, *];done)),rfl⟩,⟨⟨by(first|rfl|omega|(simp;done)|(simp [*];done)|(simp [aY, *];done)),rfl⟩,trivial⟩⟩ rfl) rfl ?_
 refine ak rfl (kH Tryz.underlying31 bt rfl rfl rfl (by first|(simp [aY];done)|(simp [aY, *];done)) (show _=eD [⟨5,2⟩]from rfl) aq rfl rfl rfl ?_)
 refine ak rfl (aI false rfl (.cons (.pure pu) (.cons (.pure pu) (.cons .nl (.cons (.pure pu) (.cons (.pure pu) (.cons (.pure pu) (.cons (.pure pu) .nil))))))) (aA.cast (sa fM 2 [] 1 10 [4,5] cA (by decide) qp (by decide) (rg_of (by decide) (by decide)) (rg_of (by decide) (by decide)) (by decide) (by decide) (qA (by decide))) (show _=A.tu [cO [eA],.i .i64 0] by rw [CG];rfl)) pu (.inl rfl) rfl ?_)
 refine s1 (aa rfl) rfl<|s1 (aa rfl) rfl<|s1 (aa rfl) rfl<|s1 (aa rfl) rfl<|s1 (aa rfl) rfl ?_
 refine ah<|ae<|af<|ai<|s1 (aV az rfl rfl (by decide)) rfl<|s1 (aa rfl) rfl ?_
 refine ak rfl (kH Tryz.underlying30 an rfl rfl rfl (m7 rfl) (lZ rfl) aq rfl rfl rfl ?_)
 refine s1 (ey (out:= [_,_]) [[a6 (.int .i64 0)], [a6 (.int .i64 0)]] bt rfl Tryz.underlying55 (by kernel_rfl) rfl rfl ⟨⟨by(first|rfl|omega|(simp;done)|(simp [*];done)|(simp [aY, *];done)),rfl⟩,⟨⟨by(first|rfl|omega|(simp;done)|(simp [*];done)|(simp [aY, *];done)),rfl⟩,trivial⟩⟩ rfl) rfl ?_
 refine ak rfl (kH Tryz.underlying31 bt rfl rfl rfl (by first|(simp [aY];done)|(simp [aY, *];done)) (show _=eD [⟨4,1⟩]from rfl) aq rfl rfl rfl ?_)
 refine ak rfl (aI false rfl (.cons (.pure pu) (.cons (.pure pu) (.cons (.pure pu) (.cons (.pure pu) (.cons (.pure pu) (.cons (.pure pu) (.cons (.pure pu) .nil))))))) (aA.cast (sa fM 2 [eA] 1 11 [4,5] cB (by decide) Cs (by decide) (rg_of (by decide) (by decide)) (rg_of (by decide) (by decide)) (by decide) (by decide) (qA (by decide))) (show _=A.tu [cO [eA,eB],.i .i64 0] by rw [CH];rfl)) pu (.inl rfl) rfl ?_)
 refine s1 (aa rfl) rfl<|s1 (aa rfl) rfl<|s1 (aa rfl) rfl<|s1 (aa rfl) rfl<|s1 (aa rfl) rfl ?_
 refine ah<|ae<|af<|ai<|s1 (aV az rfl rfl (by decide)) rfl<|s1 (aa rfl) rfl ?_
 refine ak rfl (kH Tryz.underlying30 an rfl rfl rfl (m7 rfl) (lZ rfl) aq rfl rfl rfl ?_)
 refine s1 (ey (out:= [_,_]) [[a6 (.int .i64 0)], [a6 (.int .i64 0)]] bt rfl Tryz.underlying55 (by kernel_rfl) rfl rfl ⟨⟨by(first|rfl|omega|(simp;done)|(simp [*];done)|(simp [aY, *];done)),rfl⟩,⟨⟨by(first|rfl|omega|(simp;done)|(simp [*];done)|(simp [aY, *];done)),rfl⟩,trivial⟩⟩ rfl) rfl ?_
 refine ak rfl (kH Tryz.underlying31 bt rfl rfl rfl (by first|(simp [aY];done)|(simp [aY, *];done)) (show _=eD [⟨5,0⟩]from rfl) aq rfl rfl rfl ?_)
 refine ak rfl (aI false rfl (.cons (.pure pu) (.cons (.pure pu) (.cons (.pure pu) (.cons (.pure pu) (.cons (.pure pu) (.cons (.pure pu) (.cons (.pure pu) .nil))))))) (aA.cast (sa fM 2 [eA] 1 11 [4,5] [⟨5,0⟩] (by decide) Cs (by decide) (rg_of (by decide) (by decide)) (rg_of (by decide) (by decide)) (by decide) (by decide) (qA (by decide))) (show _=A.tu [.nl,.i .i64 351] by rw [JY];rfl)) pu (.inl rfl) rfl ?_)
 refine s1 (aa rfl) rfl<|s1 (aa rfl) rfl<|s1 (aa rfl) rfl<|s1 (aa rfl) rfl<|s1 (aa rfl) rfl ?_
 refine ah<|ae<|af<|ai<|s1 (aV az rfl rfl (by decide)) rfl<|s1 (aa rfl) rfl ?_
 refine ak rfl (kH Tryz.underlying30 an rfl rfl rfl (m7 rfl) (lZ rfl) aq rfl rfl rfl ?_)
 refine ak rfl (aI false rfl (.cons (.pure pu) (.cons (.pure pu) (.cons (.pure pu) (.cons (.pure pu) (.cons (.pure pu) (.cons (.pure pu) (.cons .nl .nil))))))) (aA.cast (sa fM 2 [eA,eB] 1 12 [4,5] [] (by decide) ng (by decide) (rg_of (by decide) (by decide)) (rg_of (by decide) (by decide)) (by decide) (by decide) (fun e he=>by cases he)) (show _=A.tu [.nl,.i .i64 2] by rw [JZ];rfl)) pu (.inl rfl) rfl ?_)
 refine s1 (aa rfl) rfl<|s1 (aa rfl) rfl<|s1 (aa rfl) rfl<|s1 (aa rfl) rfl<|s1 (aa rfl) rfl ?_
 refine ah<|ae<|af<|ai<|s1 (aa rfl) rfl ?_
 refine ak rfl (aI false rfl (.cons (.pure pu) (.cons (.pure pu) .nil)) (aA.cast (sj [eA,eB] 1 ng (by decide)) (show _=A.tu [cC [⟨4,1⟩,⟨5,2⟩],.i .i64 0] by rw [LV];rfl)) pu (.inl rfl) rfl ?_)
 refine s1 (aa rfl) rfl<|s1 (aa rfl) rfl<|s1 (aa rfl) rfl<|s1 (aa rfl) rfl<|s1 (aa rfl) rfl ?_
 refine ah<|ae<|af<|ai ?_
 refine ak rfl (aI false rfl (.cons .nl (.cons (.pure pu) .nil)) (aA.cast (sj [] (-1) qp (by decide)) (show _=A.tu [cC [],.i .i64 0] by rw [LW];rfl)) pu (.inl rfl) rfl ?_)
 refine s1 (aa rfl) rfl<|s1 (aa rfl) rfl<|s1 (aa rfl) rfl<|s1 (aa rfl) rfl<|s1 (aa rfl) rfl ?_
 refine ah<|ae<|af<|ai ?_
 refine ak rfl (aI false rfl (.cons .nl (.cons (.pure pu) .nil)) (aA.cast (sj [] 0 qp (by decide)) (show _=A.tu [.nl,.i .i64 1] by rw [LX];rfl)) pu (.inl rfl) rfl ?_)
 refine s1 (aa rfl) rfl<|s1 (aa rfl) rfl<|s1 (aa rfl) rfl<|s1 (aa rfl) rfl<|s1 (aa rfl) rfl ?_
 refine ah<|ae<|af<|ai ?_
 refine ak rfl (aI false rfl (.cons .nl (.cons (.pure pu) .nil)) (aA.cast (vH [] 5 qp (by decide)) (show _=A.tu [.i .i64 0,.b false] by rw [EW];rfl)) pu (.inl rfl) rfl ?_)
 refine s1 (aa rfl) rfl<|s1 (aa rfl) rfl<|s1 (aa rfl) rfl<|s1 (aa rfl) rfl<|s1 (aa rfl) rfl ?_
 refine ah<|ae<|af<|ai<|s1 (aa rfl) rfl ?_
 refine ak rfl (aI false rfl (.cons (.pure pu) (.cons (.pure pu) .nil)) (aA.cast (vH [eA,eB] 10 ng (by decide)) (show _=A.tu [.i .i64 0,.b true] by rw [EX];rfl)) pu (.inl rfl) rfl ?_)
 refine s1 (aa rfl) rfl<|s1 (aa rfl) rfl<|s1 (aa rfl) rfl<|s1 (aa rfl) rfl<|s1 (aa rfl) rfl ?_
 refine ah<|ae<|af<|af<|ai<|s1 (aa rfl) rfl<|s1 ((aa rfl).v (v':= .b false) (rfl)) rfl<|s1 (aa rfl) rfl<|g1 rfl rfl (aa rfl) rfl<|g1 rfl rfl ((aa rfl).v (v':= .b false) (rfl)) rfl<|s1 (aa rfl) rfl<|s1 (aa rfl) rfl<|g1 rfl rfl (aa rfl) rfl<|g1 rfl rfl ((aa rfl).v (v':= .b false) (rfl)) rfl<|s1 (aa rfl) rfl ?_
 refine s1 (aa rfl) rfl<|g1 rfl rfl (aa rfl) rfl<|g1 rfl rfl ((aa rfl).v (v':= .b false) (rfl)) rfl<|s1 (aa rfl) rfl<|s1 (aa rfl) rfl<|g1 rfl rfl (aa rfl) rfl<|g1 rfl rfl ((aa rfl).v (v':= .b false) (rfl)) rfl<|s1 (aa rfl) rfl<|s1 (aa rfl) rfl<|g1 rfl rfl (aa rfl) rfl ?_
 refine g1 rfl rfl ((aa rfl).v (v':= .b false) (rfl)) rfl<|s1 (aa rfl) rfl<|s1 (aa rfl) rfl<|g1 rfl rfl (aa rfl) rfl<|g1 rfl rfl ((aa rfl).v (v':= .b false) (rfl)) rfl<|s1 (aa rfl) rfl<|s1 (aa rfl) rfl<|g1 rfl rfl (aa rfl) rfl<|g1 rfl rfl ((aa rfl).v (v':= .b false) (rfl)) rfl<|s1 (aa rfl) rfl ?_
 refine s1 (aa rfl) rfl<|g1 rfl rfl (aa rfl) rfl<|s1 (aa rfl) rfl<|s1 (aa rfl) rfl<|g1 rfl rfl (aa rfl) rfl<|g1 rfl rfl ((aa rfl).v (v':= .b false) (rfl)) rfl<|s1 (aa rfl) rfl<|s1 (aa rfl) rfl<|g1 rfl rfl (aa rfl) rfl<|g1 rfl rfl ((aa rfl).v (v':= .b false) (rfl)) rfl ?_
 refine s1 (aa rfl) rfl<|s1 (aa rfl) rfl<|g1 rfl rfl (aV az rfl rfl (by simp)) rfl<|g1 rfl rfl (aa rfl) rfl ?_
 refine jN rfl rfl rfl (aI false rfl (.cons (.pure pu) (.cons (.pure pu) (.cons (.pure pu) .nil))) (aA.cast (vI (dL fM 2) 2 [eA,eB] (by simp) ng (by decide)) (congrArg (A.i .i64) sx.2)) pu (.inl rfl) rfl ?_)
 refine g1 rfl rfl ((aa rfl).v (v':= .b false) (rfl)) rfl<|s1 (aa rfl) rfl<|s1 (aa rfl) rfl<|g1 rfl rfl (aV az rfl rfl (by simp)) rfl ?_
 refine jN rfl rfl rfl (aI false rfl (.cons (.pure pu) (.cons (.pure pu) (.cons .nl .nil))) (aA.cast (vI (dL fM 2) 2 [] (by simp) qp (by decide)) (congrArg (A.i .i64) (zx _ _))) pu (.inl rfl) rfl ?_)
 refine g1 rfl rfl ((aa rfl).v (v':= .b false) (rfl)) rfl<|s1 (aa rfl) rfl ?_
 refine ah<|ae ?_
 refine cF rfl ?_
 refine aL<|ae<|af ?_
 refine bP ⟨_, [], []⟩ 34 4 bx (le_refl rfl) ?_
 refine aj 0 [] [] (aa rfl) rfl rfl<|aj 1 [] [] (ey (out:= [_,_]) [[a6 (.int .i64 0)], [a6 (.int .i64 0)]] bt rfl Tryz.underlying55 (by kernel_rfl) rfl rfl ⟨⟨by(first|rfl|omega|(simp;done)|(simp [*];done)|(simp [aY, *];done)),rfl⟩,⟨⟨by(first|rfl|omega|(simp;done)|(simp [*];done)|(simp [aY, *];done)),rfl⟩,trivial⟩⟩ rfl) rfl rfl<|aj 2 [] [] (ey (out:= [_,_]) [[a6 (.int .i64 0)], [a6 (.int .i64 0)]] bt rfl Tryz.underlying55 (by kernel_rfl) rfl rfl ⟨⟨by(first|rfl|omega|(simp;done)|(simp [*];done)|(simp [aY, *];done)),rfl⟩,⟨⟨by(first|rfl|omega|(simp;done)|(simp [*];done)|(simp [aY, *];done)),rfl⟩,trivial⟩⟩ rfl) rfl rfl<|sy 3 [1,2] aW Tryz.underlying31 bt rfl rfl rfl (by first|(simp [aY];done)|(simp [aY, *];done)) (show _=eD [⟨4,1⟩,⟨5,2⟩]from rfl) aq rfl rfl rfl rfl<|bL false 4 [0,3] [] aW rfl (.cons (.pure pu) (.cons (.pure pu) (.nil))) (aA.cast (C4 [⟨4,1⟩,⟨5,2⟩] [⟨4,1⟩,⟨5,2⟩] (by decide) (by decide)) (congrArg A.b (xw _))) pu (.inl rfl) rfl rfl<|aj 5 [4] [] (aa rfl) rfl rfl<|ar 6 [5] [] rfl rfl (aa rfl) rfl rfl<|ar 7 [5,6] [] rfl rfl (bu Tryz.underlying31 rfl rfl rfl) rfl rfl<|ar 8 [5,7] [] rfl rfl ((aa rfl).v (v':= .b true) (rfl)) rfl rfl<|aj 9 [5,8] [] (aa rfl) rfl rfl ?_
 refine aj 10 [9] [] (aa rfl) rfl rfl<|ar 11 [10] [] rfl rfl (aa rfl) rfl rfl<|ar 12 [10,11] [] rfl rfl (bu Tryz.underlying24 rfl rfl rfl) rfl rfl<|ar 13 [10,12] [] rfl rfl ((aa rfl).v (v':= .b true) (rfl)) rfl rfl<|aj 14 [10,13] [] (aa rfl) rfl rfl<|aj 15 [14] [] (aa rfl) rfl rfl<|ar 16 [15] [] rfl rfl (aa rfl) rfl rfl<|ar 17 [15,16] [] rfl rfl (aT 1 Tryz.underlying24 bA rfl rfl rfl (by decide) rfl) rfl rfl<|ar 18 [15,17] [] rfl rfl (bj Tryz.underlying45 rfl az (by decide) rfl rfl) rfl rfl<|ar 19 [15,18] [] rfl rfl (bY az rfl rfl (Ax ng (e:=eB) rfl) (by simp [wV.prev])) rfl rfl ?_
 refine ar 20 [15] [] rfl rfl (aa rfl) rfl rfl<|ar 21 [15,20] [] rfl rfl (aT 0 Tryz.underlying24 bA rfl rfl rfl (by decide) rfl) rfl rfl<|ar 22 [15,21] [] rfl rfl (bY bA rfl rfl (iM ng (e:=eA) rfl) oC.len) rfl rfl<|bL false 23 [15,22] [] (mV rfl rfl) rfl (.cons (.pure pu) (.nil)) (lW eA oC) pu (.inl rfl) rfl rfl<|ar 24 [15,19,23] [] rfl rfl (((um Tryz.underlying23 Tryz.underlying5 aQ (by kernel_rfl) rfl rfl wV.prev (by simp))).v (v':= .b true) (congrArg A.b (beq_iff_eq.2 JW))) rfl rfl<|aj 25 [15,24] [] (aa rfl) rfl rfl<|aj 26 [25] [] (aa rfl) rfl rfl<|ar 27 [26] [] rfl rfl (aa rfl) rfl rfl<|ar 28 [26,27] [] rfl rfl (aT 0 Tryz.underlying24 bA rfl rfl rfl (by decide) rfl) rfl rfl<|ar 29 [26,28] [] rfl rfl (bj Tryz.underlying45 rfl az (by decide) rfl rfl) rfl rfl ?_
 refine ar 30 [26,29] [] rfl rfl (bY az rfl rfl (Ax ng (e:=eA) rfl) (by simp [oC.prev])) rfl rfl<|ar 31 [26] [] rfl rfl ((nC az rfl Tryz.underlying23 aQ rfl).v (v':= .ag (zD.map u8)) (rfl)) rfl rfl<|ar 32 [26,30,31] [] rfl rfl (((um Tryz.underlying23 Tryz.underlying5 aQ (by kernel_rfl) rfl rfl oC.prev rfl)).v (v':= .b true) (congrArg A.b (beq_iff_eq.2 JV))) rfl rfl<|aj 33 [26,32] [] (aa rfl) rfl rfl<|bQ (by kernel_rfl) ?_
 refine s1 (aa rfl) rfl ?_
 refine ah<|ae<|aE ?_
 refine aF (rs:= [.tmp 0]) rfl (aD rfl aB) ?_
 rfl
end Go.Abs.D2
-- E6J
namespace Go.Abs.D2
open Go Go.Eng Go.Abs Go.Proofs
theorem Ig (r:List UInt8) (n:Int) (l:List Ep) (hr:r.length=32) (hn:l.length≤maxLen) (hT:mF l):aA Tryz.prog 3 [.ag (r.map u8),.i .i64 n,cO l] (aN (.b true)):=by
 refine enter Tryz.func3 rfl Tryz.ntmps3 (by kernel_rfl) (Nat.le_of_ble_eq_true rfl) fun w0 X0 hI=>?_
 refine af<|ai ?_
 refine ak rfl (bK 3 rfl rfl rfl ?_)
 refine s1 (aa rfl) rfl ?_
 refine ah<|ae<|af<|af<|ai ?_
 refine ak rfl (aI false rfl (.nil) (BQ) pu (.inl rfl) rfl ?_)
 refine s1 ((aa rfl).v (v':= .b false) (rfl)) rfl ?_
 refine ah<|ae ?_
 refine cF rfl ?_
 refine aL<|ae<|af<|af ?_
 rcases kf (kC n l [] [])with hcs|hcs
 ·skip
  refine ai<|s1 (aa rfl) rfl<|s1 (aa rfl) rfl ?_
  refine ak rfl (aI false rfl (.cons (.pure pu) (.cons (.pure pu) (.cons .nl (.cons .nl .nil)))) (aA.cast (tH n l [] [] hT hn) (congrArg A.b hcs)) pu (.inl rfl) rfl ?_)
  refine s1 ((aa rfl).v (v':= .b true) (rfl)) rfl ?_
  refine ah<|ae ?_
  refine bR rfl ?_
  refine af<|ai<|s1 (aa rfl) rfl ?_
  refine ah<|ae<|aE<|aH ?_
  refine aF (rs:= [.tmp 6]) rfl (aD rfl aB) ?_
  rfl
 ·obtain ⟨hlc, _, hl6, _⟩ := vV hcs
  have hl:=AF hcs hT
  refine ai<|s1 (aa rfl) rfl<|s1 (aa rfl) rfl ?_
  refine ak rfl (aI false rfl (.cons (.pure pu) (.cons (.pure pu) (.cons .nl (.cons .nl .nil)))) (aA.cast (tH n l [] [] hT hn) (congrArg A.b hcs)) pu (.inl rfl) rfl ?_)
  refine s1 ((aa rfl).v (v':= .b false) (rfl)) rfl ?_
  refine ah<|ae ?_
  refine cF rfl ?_
  refine aL<|ae<|af ?_
  refine bP ⟨_, [], []⟩ 9 4 bx (le_refl rfl) ?_
  refine aj 0 [] [(3,none)] (aV az rfl rfl (by rw [List.length_map,hr])) rfl rfl<|aj 1 [] [] (aa rfl) rfl rfl<|aj 2 [] [] (aa rfl) rfl rfl<|bL false 3 [0,1,2] [] aW rfl (.cons (.pure pu) (.cons (.pure pu) (.cons (.pure pu) (.nil)))) (vI r n l hr hl hn) pu (.inl rfl) rfl rfl<|aj 4 [] [(3,none)] (aV az rfl rfl (by rw [List.length_map,hr])) rfl rfl<|aj 5 [] [] (aa rfl) rfl rfl<|aj 6 [] [] (aa rfl) rfl rfl<|bL false 7 [4,5,6] [] aW rfl (.cons (.pure pu) (.cons (.pure pu) (.cons (.pure pu) (.nil)))) (Ka r n l hr hl (by omega)) pu (.inl rfl) rfl rfl<|aj 8 [3,7] [] ((aa rfl).v (v':= .b true) (congrArg A.b (by simp))) rfl rfl<|bQ (by kernel_rfl) ?_
  refine s1 (aa rfl) rfl ?_
  refine ah<|ae<|aE ?_
  refine aF (rs:= [.tmp 6]) rfl (aD rfl aB) ?_
  rfl
end Go.Abs.D2
