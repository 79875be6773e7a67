/-
  The engine, the plain laws and the walks that the rows need, part 17. Conditions: none.
-/
import Derived.Test.YteempkifmbclgaaGreatDoorM16
import Derived.Shelf.SlIterI.Nil
import Derived.Shelf.SortM.Plain
import Derived.Shelf.SortM.SortNone
import Derived.Ground.GgzProg
import Derived.Ground.SlgmProg
import Derived.Test.YteempkifmbclgaaGreatDoorProg
set_option linter.unusedVariables false
set_option linter.unusedSimpArgs false
set_option maxHeartbeats 1000000
set_option maxRecDepth 10000
-- ShP
namespace Go.Proofs
open Go.Shelf
def Tryz.B6:Go.Shelf.Ren:=⟨fun|7=>66|10=>114|n=>n,fun|23=>80|26=>3|3=>3|28=>105|0=>0|27=>104|33=>126|4=>4|n=>n,fun|n=>n⟩
theorem Tryz.Jg:Go.Proofs.SlLaysZI.n7 Tryz.prog Tryz.B6:= {
  mixed:=by kernel_rfl
  f7:=⟨Tryz.f66.name,by decide,Tryz.func66.trans (congrArg some (by kernel_rfl))⟩
  f10:=⟨Tryz.f114.name,by decide,Tryz.func114.trans (congrArg some (by kernel_rfl))⟩
  t0:=Tryz.underlying0
  a0:=Tryz.isAgg0
  z0:=Tryz.sizeOf0
  v0:=Tryz.zeroValue0
  t4:=Tryz.underlying4
  a4:=Tryz.isAgg4
  z4:=Tryz.sizeOf4
  v4:=Tryz.zeroValue4
  t23:=Tryz.underlying80
  a23:=Tryz.isAgg80
  z23:=Tryz.sizeOf80
  v23:=Tryz.zeroValue80
  t26:=Tryz.underlying3
  a26:=Tryz.isAgg3
  z26:=Tryz.sizeOf3
  v26:=Tryz.zeroValue3
  t27:=Tryz.underlying104
  a27:=Tryz.isAgg104
  z27:=Tryz.sizeOf104
  v27:=Tryz.zeroValue104
  t28:=Tryz.underlying105
  a28:=Tryz.isAgg105
  z28:=Tryz.sizeOf105
  v28:=Tryz.zeroValue105
  t33:=Tryz.underlying126
  a33:=Tryz.isAgg126
  z33:=Tryz.sizeOf126
  v33:=Tryz.zeroValue126}
def Tryz.Em:Go.Shelf.Ren:=⟨fun|6=>65|8=>112|9=>113|11=>164|13=>146|12=>165|23=>186|24=>187|14=>195|15=>196|16=>197|17=>198|18=>199|19=>200|20=>201|21=>202|22=>203|25=>211|26=>212|27=>213|28=>214|29=>215|30=>216|31=>217|n=>n,fun|26=>3|28=>105|24=>30|0=>0|3=>3|37=>74|48=>183|50=>198|4=>4|40=>222|39=>221|45=>38|5=>5|9=>9|51=>231|55=>235|57=>238|58=>71|33=>126|n=>n,fun|n=>n⟩
theorem Tryz.M3:Go.Proofs.SlLaysZI.n6 Tryz.prog Tryz.Em:= {
  mixed:=by kernel_rfl
  f6:=⟨Tryz.f65.name,by decide,Tryz.func65.trans (congrArg some (by kernel_rfl))⟩
  f8:=⟨Tryz.f112.name,by decide,Tryz.func112.trans (congrArg some (by kernel_rfl))⟩
  f11:=⟨Tryz.f164.name,by decide,Tryz.func164.trans (congrArg some (by kernel_rfl))⟩
  t0:=Tryz.underlying0
  a0:=Tryz.isAgg0
  z0:=Tryz.sizeOf0
  v0:=Tryz.zeroValue0
  t24:=Tryz.underlying30
  a24:=Tryz.isAgg30
  z24:=Tryz.sizeOf30
  v24:=Tryz.zeroValue30
  t26:=Tryz.underlying3
  a26:=Tryz.isAgg3
  z26:=Tryz.sizeOf3
  v26:=Tryz.zeroValue3
  t28:=Tryz.underlying105
  a28:=Tryz.isAgg105
  z28:=Tryz.sizeOf105
  v28:=Tryz.zeroValue105
  i26:=by kernel_rfl}
def Tryz.M1:Go.Shelf.Ren:=⟨fun|5=>113|8=>146|7=>165|19=>186|20=>187|10=>195|11=>196|12=>197|13=>198|14=>199|15=>200|16=>201|17=>202|18=>203|30=>211|31=>212|32=>213|33=>214|34=>215|35=>216|40=>217|n=>n,fun|23=>30|25=>3|3=>3|32=>74|22=>30|0=>0|44=>183|46=>198|4=>4|36=>222|35=>221|41=>38|5=>5|9=>9|53=>231|57=>235|63=>238|64=>71|n=>n,fun|n=>n⟩
theorem Tryz.El:Go.Proofs.SlLaysM.n5 Tryz.prog Tryz.M1:= {
  mixed:=by kernel_rfl
  f5:=⟨Tryz.f113.name,by decide,Tryz.func113.trans (congrArg some (by kernel_rfl))⟩
  f7:=⟨Tryz.f165.name,by decide,Tryz.func165.trans (congrArg some (by kernel_rfl))⟩
  f8:=Tryz.func146.trans (congrArg some (by kernel_rfl))
  f10:=⟨Tryz.f195.name,by decide,Tryz.func195.trans (congrArg some (by kernel_rfl))⟩
  f11:=⟨Tryz.f196.name,by decide,Tryz.func196.trans (congrArg some (by kernel_rfl))⟩
  f12:=⟨Tryz.f197.name,by decide,Tryz.func197.trans (congrArg some (by kernel_rfl))⟩
  f13:=⟨Tryz.f198.name,by decide,Tryz.func198.trans (congrArg some (by kernel_rfl))⟩
  f14:=⟨Tryz.f199.name,by decide,Tryz.func199.trans (congrArg some (by kernel_rfl))⟩
  f15:=⟨Tryz.f200.name,by decide,Tryz.func200.trans (congrArg some (by kernel_rfl))⟩
  f16:=⟨Tryz.f201.name,by decide,Tryz.func201.trans (congrArg some (by kernel_rfl))⟩
  f17:=⟨Tryz.f202.name,by decide,Tryz.func202.trans (congrArg some (by kernel_rfl))⟩
  f18:=⟨Tryz.f203.name,by decide,Tryz.func203.trans (congrArg some (by kernel_rfl))⟩
  f19:=Tryz.func186.trans (congrArg some (by kernel_rfl))
  f20:=Tryz.func187.trans (congrArg some (by kernel_rfl))
  f30:=⟨Tryz.f211.name,by decide,Tryz.func211.trans (congrArg some (by kernel_rfl))⟩
  f31:=Tryz.func212.trans (congrArg some (by kernel_rfl))
  f32:=Tryz.func213.trans (congrArg some (by kernel_rfl))
  f33:=⟨Tryz.f214.name,by decide,Tryz.func214.trans (congrArg some (by kernel_rfl))⟩
  f34:=⟨Tryz.f215.name,by decide,Tryz.func215.trans (congrArg some (by kernel_rfl))⟩
  f35:=⟨Tryz.f216.name,by decide,Tryz.func216.trans (congrArg some (by kernel_rfl))⟩
  f40:=⟨Tryz.f217.name,by decide,Tryz.func217.trans (congrArg some (by kernel_rfl))⟩
  t0:=Tryz.underlying0
  a0:=Tryz.isAgg0
  z0:=Tryz.sizeOf0
  v0:=Tryz.zeroValue0
  t3:=Tryz.underlying3
  a3:=Tryz.isAgg3
  z3:=Tryz.sizeOf3
  v3:=Tryz.zeroValue3
  t4:=Tryz.underlying4
  a4:=Tryz.isAgg4
  z4:=Tryz.sizeOf4
  v4:=Tryz.zeroValue4
  t5:=Tryz.underlying5
  a5:=Tryz.isAgg5
  z5:=Tryz.sizeOf5
  v5:=Tryz.zeroValue5
  t9:=Tryz.underlying9
  a9:=Tryz.isAgg9
  z9:=Tryz.sizeOf9
  v9:=Tryz.zeroValue9
  t22:=Tryz.underlying30
  a22:=Tryz.isAgg30
  z22:=Tryz.sizeOf30
  v22:=Tryz.zeroValue30
  t23:=Tryz.underlying30
  a23:=Tryz.isAgg30
  z23:=Tryz.sizeOf30
  v23:=Tryz.zeroValue30
  t25:=Tryz.underlying3
  a25:=Tryz.isAgg3
  z25:=Tryz.sizeOf3
  v25:=Tryz.zeroValue3
  t32:=Tryz.underlying74
  a32:=Tryz.isAgg74
  z32:=Tryz.sizeOf74
  v32:=Tryz.zeroValue74
  t35:=Tryz.underlying221
  a35:=Tryz.isAgg221
  z35:=Tryz.sizeOf221
  v35:=Tryz.zeroValue221
  t36:=Tryz.underlying222
  a36:=Tryz.isAgg222
  z36:=Tryz.sizeOf222
  v36:=Tryz.zeroValue222
  t41:=Tryz.underlying38
  a41:=Tryz.isAgg38
  z41:=Tryz.sizeOf38
  v41:=Tryz.zeroValue38
  t44:=Tryz.underlying183
  a44:=Tryz.isAgg183
  z44:=Tryz.sizeOf183
  v44:=Tryz.zeroValue183
  t46:=Tryz.underlying198
  a46:=Tryz.isAgg198
  z46:=Tryz.sizeOf198
  v46:=Tryz.zeroValue198
  t53:=Tryz.underlying231
  a53:=Tryz.isAgg231
  z53:=Tryz.sizeOf231
  v53:=Tryz.zeroValue231
  t57:=Tryz.underlying235
  a57:=Tryz.isAgg235
  z57:=Tryz.sizeOf235
  v57:=Tryz.zeroValue235
  t63:=Tryz.underlying238
  a63:=Tryz.isAgg238
  z63:=Tryz.sizeOf238
  v63:=Tryz.zeroValue238
  t64:=Tryz.underlying71
  a64:=Tryz.isAgg71
  z64:=Tryz.sizeOf71
  v64:=Tryz.zeroValue71}
end Go.Proofs
-- E5I
namespace Go.Abs.D2
open Go Go.Eng Go.Abs Go.Proofs
theorem M4 (m:Nat):AnyZI.SortsIn Tryz.prog Tryz.Em Fence.wide m:=
  ⟨fun blk off cap ss W hH hblk hsz=>callsIn_wide.2 (AnyM.slices_Sort_int Tryz.El blk off cap ss W hH hblk hsz),fun p cap W=>callsIn_wide.2 (AnyM.slices_Sort_int_none Tryz.El p cap W)⟩
theorem H5 {σ:Int→Int} (hs:iL σ) (w:World) (b B:Nat) (es:Array MapEntry) (clk:Nat) (hb:w.heap[b]? =some (.map es clk)) (hF:c7 es clk (mapOf σ)) (hBl:B<w.heap.size) (hB:w.cell? ⟨B,0,none⟩=some (.map (some b))):
  Calls Tryz.prog 65 #[.func (.func 114) #[] #[.pointer (some ⟨B,0,none⟩)]] w fun e w'=>∃v,e= .returned v∧w'.ownsRow w.heap.size 3 1 v (c9 σ).length ((c9 σ).map Go.encZ)∧RowKit.Below w.heap.size w w':=by
 obtain⟨D0,hown,hperm,hsz⟩:=K5 (H:=Unit) (k:=3) Tryz.underlying3 hs hb hF
 have hseq:SeqGives Fence.wide 2 Tryz.prog 114 #[.pointer (some ⟨B,0,none⟩)] Go.encZ (fun ss=>ss.Perm (intKeys D0)) (Go.Maps.size D0) w:=AnyZI.keys_gives (ρ:=Tryz.B6) {Tryz.Jg with} Fence.wide _ trivial rfl (by omega) B b 1024 D0 w hBl hB hown
 have cS:=AnyZI.sorted_in Tryz.M3 Fence.wide 5 trivial trivial trivial trivial rfl (by omega) (M4 _) (enters_of Tryz.func113 (by kernel_rfl) rfl) 114 #[.pointer (some ⟨B,0,none⟩)] trivial (enters_of Tryz.func114 (by kernel_rfl) rfl) _ _ (Nat.le_trans hsz (by decide)) (by omega) w hseq
 change CallsIn _ _ Tryz.prog 65 _ _ _ at cS
 refine(callsIn_wide (n:=5)).1 (cS.mono ?_)
 rintro e w' ⟨v,ss,rfl,hS,hrow,_,hB⟩
 have e1:ss.mergeSort (fun x y=>decide (x≤y))=c9 σ:=(mergeSort_of_perm_i (hS.trans hperm)).trans (Jh σ)
 have e2:ss.length=(c9 σ).length:=(hS.trans hperm).length_eq
 rw [e1,e2]at hrow
 exact⟨v,rfl,hrow,hB⟩
theorem H6 {b:Nat} {σ:Int→Int} (hs:iL σ):cv Tryz.prog 65 [.fn (.func 114) [] [.p 24 0]] ⟨[(24,some [.raw (.map (some b))]),(700,some [.mc b (mapOf σ)])]⟩ (fY 1 (c9 σ).length ((c9 σ).map (A.i .i64)) [(700, [.mc b (mapOf σ)])]):=G3 (e:=3) 9 rfl (fun p hp=>by rw [List.mem_singleton.1 hp];rfl) fun w X β us hd hX ho hv=>by
 refine⟨⟨_,Tryz.func65,rfl,by kernel_rfl⟩,?_⟩
 obtain⟨hβ,_,_,es,clk,hb,hF⟩:=(ho 700 _ rfl).CH
 have h24:=ho 24 _ rfl
 simp only [VS,V]at hv
 obtain⟨u,r,rfl,⟨u1,u2,rfl,rfl,⟨u3,r3,rfl,⟨B,N,hB,rfl⟩,rfl⟩⟩,rfl⟩:=hv
 unfold OB at h24
 rw [hB]at h24
 obtain⟨_,_,us,rest,ty,hrow,_,hvs,_⟩:=h24
 simp only [VS,V]at hvs
 obtain⟨_,_,rfl,rfl,rfl⟩:=hvs
 exact H5 hs w b B es clk hb hF (Array.getElem?_eq_some_iff.1 hrow).1 (by simp [World.cell?,hrow])
theorem HG (b:Nat):aw Tryz.prog 66 [.raw (.map (some b))] (rS (fun i=> .fn (.func 114) [] [.p i 0]) [.raw (.map (some b))]):=by
 refine enter Tryz.func66 rfl Tryz.ntmps66 (by kernel_rfl) (Nat.le_of_ble_eq_true rfl) fun w0 X0 hI=>?_
 refine af<|ai ?_
 refine aj rfl (kI 1 rfl rfl rfl rfl ?_)
 refine s1 (aa rfl) rfl ?_
 refine ah<|ae<|af<|ai<|s1 (gu (us:= []) (vs:= [.p 1 0]) rfl rfl) rfl<|s1 (aa rfl) rfl ?_
 refine ah<|ae<|aB ?_
 refine aC (rs:= [.tmp 2]) rfl (aA rfl az) ⟨1,rfl,rfl⟩
theorem H7 (c0 c1:A) (e:Int):pR Tryz.prog 63 [.p 4 0,.p 5 0] ⟨[(4,some [c0]),(5,some [c1])]⟩ (fun u=>u=gZ 136 e) [(4, [.nl]),(5, [.i .i64 e])]:=by
 refine vY (.ic 136 (.ag [.i .i64 e])) (fun u hu X w β=>by rw [hu];exact vk _ _) Tryz.func63 rfl Tryz.ntmps63 (Nat.le_of_ble_eq_true rfl) rfl rfl fun w0 X0 hI=>?_
 refine af<|ai<|s1 (aa rfl) rfl<|s1 (yK Tryz.underlying20 rfl) rfl ?_
 refine ah<|ae ?_
 refine cN rfl ?_
 refine ai<|s1 (aa rfl) rfl ?_
 refine aj rfl (aF false rfl (.cons (.pure pu) (.nil)) (wD e) pu (.inl rfl) rfl ?_)
 refine aj rfl (bX cl rfl rfl rfl rfl (by first|rfl|omega|(simp<;>omega)|(simp [*]<;>omega)) rfl ?_)
 refine aj rfl (bX bV rfl rfl rfl rfl (by first|rfl|omega|(simp<;>omega)|(simp [*]<;>omega)) rfl ?_)
 refine ah ?_
 refine ld (rs:= []) rfl az (DN rfl rfl)
theorem H8:pS Tryz.prog 63 2:=vZ Tryz.func63 rfl (fun w=>yd Tryz.underlying20 w) rfl ⟨Nat.le_of_ble_eq_true rfl,Nat.le_of_ble_eq_true rfl,Nat.le_of_ble_eq_true rfl,Nat.le_of_ble_eq_true rfl,Nat.le_of_ble_eq_true rfl⟩
theorem Be:ko Tryz.prog 63:=⟨_,Tryz.func63,rfl,by kernel_rfl⟩
theorem wM (l:List Ep) (no:Int) (hl:c6 l) (hn:l.length≤1000):aw Tryz.prog 18 [cQ l,.i .i64 no] (aO (LY (kV l no))):=by
 refine oC Tryz.func18 rfl Tryz.ntmps18 (by kernel_rfl) (Nat.le_of_ble_eq_true rfl) fun w0 X0 hI hS=>?_
 refine af<|ai ?_
 refine aj rfl (bg 4 rfl cl rfl rfl ?_)
 refine aj rfl (bg 5 rfl bV rfl rfl ?_)
 refine ah<|ae<|af<|af<|ai<|s1 (aa rfl) rfl<|s1 (aa rfl) rfl<|s1 (aa rfl) rfl ?_
 refine kF 4 rfl rfl rfl rfl (fun hb11=> .step (aa rfl) rfl rfl<| .step (aa rfl) rfl rfl<| .step (a7 Tryz.underlying24 rfl rfl rfl) rfl rfl<| .step (aa rfl) rfl rfl<| .done) rfl rfl ?_
 refine ah<|ae ?_
 refine aK rfl (fun hc16=>?_) (fun hc16=>?_)
 ·have h16 : no < -1 ∨ (l.length : Int) ≤ no := by simpa using hc16
  refine af<|ai ?_
  refine aj rfl (bX cl rfl rfl rfl rfl (by first|rfl|omega|(simp<;>omega)|(simp [*]<;>omega)) rfl ?_)
  refine aj rfl (bX bV rfl rfl rfl rfl (by first|rfl|omega|(simp<;>omega)|(simp [*]<;>omega)) rfl ?_)
  refine ah<|ae<|aB<|aN ?_
  refine qd (rs:= [.cell 4 31,.cell 5 27]) rfl rfl rfl hS (dn:= []) rfl hS List.nodup_nil rfl (dr cl rfl rfl rfl (dr bV rfl rfl rfl az)) ?_
  rw [Ex h16];rfl
 ·have h16 : ¬ (no < -1 ∨ (l.length : Int) ≤ no) := by simp at hc16; omega
  obtain⟨k,hk⟩:∃k:Nat,no+1=(k:Int):=⟨(no+1).toNat,by omega⟩
  have hkl:k≤l.length:=by omega
  have htk:(no+1).toNat=k:=by omega
  have hlk:c6 (l.take k):=fun e he=>hl e (List.mem_of_mem_take he)
  have hlen:(l.take k).length=k:=by rw [List.length_take];omega
  refine aE<|ae<|af<|ai<|s1 (gu (us:= []) (vs:= [.p 4 0,.p 5 0]) rfl rfl) rfl ?_
  refine vC [4,5] hI rfl rfl trivial rfl fun w1 us hdf=>?_
  refine ah<|ae<|af ?_
  rcases xL (cC (l.take k))with hcs|hcs
  ·have hf := hcs
   refine ai<|s1 (aa rfl) rfl<|s1 (aa rfl) rfl<|s1 ((p8 rfl rfl (by omega) (by omega)).v (v':=nJ k) (congrArg (A.i .i64) hk)) rfl<|s1 ((lT (ds:=cZ (l.take k)) k Tryz.underlying24 bu rfl (by rw [mn hl]) bn (bs rfl rfl) (by omega) (by omega) rfl (Bb hl k)).v (v':=cQ (l.take k)) (congrArg (fun n=>A.fz n (cZ (l.take k))) hlen.symm)) rfl ?_
   refine eS ⟨[]⟩ false rfl trivial (.cons (.pure pu) .nil) (AX hlk (by simp only [maxLen];omega) hf) (fun u hu=>?_)
   refine bJ ?_
   refine jQ ⟨[(4,some [.nl]),(5,some [.i .i64 0])]⟩ hdf hS Be ⟨⟨rfl,aW.pure ak⟩,⟨rfl,aW.pure ak⟩,trivial⟩ (.cons (.kp rfl) (.cons (.kp rfl) .nil)) (H7 _ _ 351) (hu.2) (kY rfl rfl ak ak) rfl (dr cl rfl rfl rfl (dr bV rfl rfl rfl az)) ?_
   rw [Na h16 (by rw [htk];exact hf)];rfl
  ·obtain ⟨σ, hf⟩ := hcs
   have hsup:=EA hf
   have hkn:=B7 σ
   refine ai<|s1 (aa rfl) rfl<|s1 (aa rfl) rfl<|s1 ((p8 rfl rfl (by omega) (by omega)).v (v':=nJ k) (congrArg (A.i .i64) hk)) rfl<|s1 ((lT (ds:=cZ (l.take k)) k Tryz.underlying24 bu rfl (by rw [mn hl]) bn (bs rfl rfl) (by omega) (by omega) rfl (Bb hl k)).v (v':=cQ (l.take k)) (congrArg (fun n=>A.fz n (cZ (l.take k))) hlen.symm)) rfl ?_
   refine aj rfl (tQ (F:=mapOf σ) rfl (.cons (.pure pu) (.nil)) (AW hlk (by simp only [maxLen];omega) hf) rfl rfl fun b22=>?_)
   refine s1 (aa rfl) rfl ?_
   refine ah<|ae<|af<|af<|ai<|s1 (aa rfl) rfl ?_
   refine aj rfl (CK (mk:=fun i=> .fn (.func 114) [] [.p i 0]) ub 24 rfl false rfl (.cons (.pure pu) (.nil)) (HG b22) ak (.inl rfl) rfl ?_)
   refine aj rfl (CJ 25 rfl ⟨[(24,some [.raw (.map (some b22))]),(700,some [.mc b22 (mapOf σ)])]⟩ [(700, [.mc b22 (mapOf σ)])] false rfl rfl ⟨⟨rfl,aW.pure ak⟩,⟨rfl,aW.pure ak⟩,trivial⟩ (.cons (.fn .nil (.cons (.kp rfl) .nil)) .nil) (H6 hsup) ak (.inl rfl) (fun p hp=>by rw [List.mem_singleton.1 hp];exact⟨⟨_,rfl⟩,u9 ak (.inl rfl)⟩) rfl ?_)
   refine fQ 25 rfl rfl ak (cm (by simp) rfl) ?_
   refine s1 (a7 Tryz.underlying30 rfl rfl rfl) rfl<|s1 ((aa rfl).v (v':= .i .i64 0) rfl) rfl ?_
   refine ah<|ae<|aI ?_
   refine bD (ι:=Nat) (fun i=> [(4,.p 4 0),(5,.p 5 0),(6,.raw (.map (some b22))),(25,.fz (c9 σ).length ((c9 σ).map (A.i .i64))),(26,nJ (c9 σ).length),(27,nJ i)]) (fun i=>⟨[(4,some ([.sl 138 2 0 i])),(5,some ([.i .i64 0])),(138,some (fA ((gT σ).take i))),(700,some ([.mc b22 (mapOf σ)]))]⟩) (fun i=>i≤(c9 σ).length) (fun i=>(c9 σ).length - i) ?_ ?_
   ·exact bC (0) (Nat.zero_le _) [(4,some 4),(5,some 5),(138,none),(700,some 700)] hdf.ids rfl rfl ⟨⟨_,rfl,.p rfl⟩,⟨_,rfl,.p rfl⟩,⟨_,rfl,.pure pu⟩,⟨_,rfl,.pure pu⟩,⟨_,rfl,.pure pu⟩,⟨_,rfl,.pure pu⟩,trivial⟩ ⟨.inr ⟨_,_,rfl,rfl,.cons (.nl rfl) .nil⟩,.inr ⟨_,_,rfl,rfl,.of (rfl:_= [A.i .i64 0]) (.pure ak)⟩,.inl ⟨rfl,rfl⟩,.inr ⟨_,_,rfl,rfl,.pure ak⟩,trivial⟩
   rintro i hi
   refine af<|ai<|s1 (aa rfl) rfl ?_
   refine ah<|ae<|af ?_
   refine aK rfl (fun hc28=>?_) (fun hc28=>?_)
   ·have h28 : i < (c9 σ).length := by have := of_decide_eq_true hc28; omega
    obtain⟨q,hq⟩:∃q,(c9 σ)[i]? =some q:=⟨_,List.getElem?_eq_getElem h28⟩
    refine aE<|ae<|af<|aI<|af<|ai<|s1 (bb i Tryz.underlying30 an rfl rfl rfl (by omega) rfl) rfl<|s1 (au an rfl rfl (oM hq)) rfl<|s1 (aa rfl) rfl ?_
    refine ah<|ae<|ai<|s1 (au cl rfl rfl rfl) rfl<|s1 (aa rfl) rfl<|s1 (aa rfl) rfl<|s1 (aa rfl) rfl<|s1 (nR Tryz.underlying80 Tryz.underlying3 u4 rfl rfl rfl (tL _ _)) rfl<|s1 (eE (out:= [_,_]) [[aQ (.int .i64 0)], [aQ (.int .i64 0)]] dD rfl Tryz.underlying55 (by kernel_rfl) rfl rfl ⟨⟨by(first|rfl|omega|(simp;done)|(simp [*];done)|(simp [aU, *];done)),rfl⟩,⟨⟨by(first|rfl|omega|(simp;done)|(simp [*];done)|(simp [aU, *];done)),rfl⟩,trivial⟩⟩ rfl) rfl ?_
    refine aj rfl (gC 37 rfl Tryz.underlying31 dD rfl rfl rfl (by simp [aU]) (show _=Ch.cells ⟨q,σ q⟩from rfl) rfl rfl rfl ?_)
    refine aj rfl (dB 38 rfl Tryz.underlying31 dD rfl (.sl rfl (by simp [gT];omega)) rfl (c8 rfl (by first|rfl|omega|(simp<;>omega)|(simp [*]<;>omega))) (by simp) (by simp only [maxLen];omega) (by omega) rfl rfl rfl ?_)
    refine aj rfl (bX cl rfl rfl rfl rfl (by first|rfl|omega|(simp<;>omega)|(simp [*]<;>omega)) rfl ?_)
    refine ah<|a8<|ae<|ai<|s1 (aZ _ 1 rfl rfl rfl rfl (by omega)) rfl<|s1 (aa rfl) rfl ?_
    refine ah ?_
    exact bf (i+1) (by omega) (by omega) [(4,some 4),(5,some 5),(138,some 38),(700,some 700)] hdf.ids rfl rfl ⟨⟨_,rfl,.p rfl⟩,⟨_,rfl,.p rfl⟩,⟨_,rfl,.pure pu⟩,⟨_,rfl,.pure pu⟩,⟨_,rfl,.pure pu⟩,⟨_,rfl,.pure pu⟩,trivial⟩ ⟨.inr ⟨_,_,rfl,rfl,.cons (.sl rfl (by simp)) .nil⟩,.inr ⟨_,_,rfl,rfl,.pure ak⟩,.inr ⟨_,_,rfl,rfl,.of (GG hq) (.pure ak)⟩,.inr ⟨_,_,rfl,rfl,.pure ak⟩,trivial⟩
   ·obtain rfl : i = (c9 σ).length := by have := of_decide_eq_false hc28; omega
    refine bx<|aM<|aM<|bA<|ae<|af ?_
    refine cI 138 (cs':=fA (gT σ)) rfl (by rw [List.take_of_length_le (by simp [gT])]) ?_
    refine jP 4 0 rfl rfl rfl rfl ak (cm (by simp [gT]) rfl) rfl ?_
    refine ai<|s1 (au cl rfl rfl rfl) rfl ?_
    refine aj rfl (bX cl rfl rfl rfl rfl (by first|rfl|omega|(simp<;>omega)|(simp [*]<;>omega)) rfl ?_)
    refine aj rfl (bX bV rfl rfl rfl rfl (by first|rfl|omega|(simp<;>omega)|(simp [*]<;>omega)) rfl ?_)
    refine ah<|ae<|aB ?_
    refine sm hdf hS Be H8 rfl (dr cl rfl rfl rfl (dr bV rfl rfl rfl az)) ?_
    rw [yu h16 (by rw [htk];exact hf)];exact congrArg (fun n=>A.tu [.fz n (fA (gT σ)),.i .i64 0]) (by simp [gT])
end Go.Abs.D2
-- E5H
namespace Go.Abs.D2
open Go Go.Eng Go.Abs Go.Proofs
theorem AP (l:List Ep) (day:Int) (hl:c6 l) (hn:l.length≤maxLen):aw Tryz.prog 20 [cQ l,.i .i64 day] (aO (vz (oe l day))):=by
 refine enter Tryz.func20 rfl Tryz.ntmps20 (by kernel_rfl) (Nat.le_of_ble_eq_true rfl) fun w0 X0 hI=>?_
 refine af ?_
 simp only [maxLen]at hn
 refine ai<|s1 ((aa rfl).v (v':= .i .i64 0) rfl) rfl<|s1 (aa rfl) rfl ?_
 refine ah<|ae<|af<|af<|ai<|s1 (aa rfl) rfl<|s1 (a7 Tryz.underlying24 rfl rfl rfl) rfl<|s1 (uG rfl rfl (by omega) (by omega)) rfl<|s1 (aa rfl) rfl ?_
 refine ah<|ae<|aI ?_
 refine bD (ι:=Nat) (fun j=> [(0,cQ l),(1,.i .i64 day),(6,.i .i64 ((j:Int) - 1))]) (fun j=>⟨[]⟩) (fun j=>j≤l.length∧oe l day=jO l day j) (fun j=>j) ?_ ?_
 ·exact bC (l.length) (⟨Nat.le_refl _,vB l day⟩) [] hI rfl rfl ⟨⟨_,rfl,.pure pu⟩,⟨_,rfl,.pure pu⟩,⟨_,rfl,.pure pu⟩,trivial⟩ trivial
 rintro j ⟨hj,hst⟩
 refine af<|af<|ai<|s1 (aa rfl) rfl<|s1 (aa rfl) rfl ?_
 refine ah<|ae ?_
 refine aK rfl (fun hc11=>?_) (fun hc11=>?_)
 ·have h11 : 0 < j := by have := of_decide_eq_true hc11; omega
  obtain⟨m,rfl⟩:∃m,j=m+1:=⟨j - 1,by omega⟩
  obtain⟨e,he⟩:∃e,l[m]? =some e:=⟨_,List.getElem?_eq_getElem (by omega)⟩
  refine aE<|ae<|af<|aI<|af ?_
  refine kz 6 rfl (v':=nJ m) (congrArg (A.i .i64) (by omega)) ?_
  refine ai<|s1 (aa rfl) rfl<|s1 (aa rfl) rfl<|s1 (bb m Tryz.underlying24 bu rfl rfl rfl (by omega) rfl) rfl<|s1 (dz Tryz.underlying45 rfl an (by decide) rfl rfl) rfl<|s1 (au an rfl rfl (qA hl he (k:=2) rfl (by decide))) rfl<|s1 (aa rfl) rfl<|s1 (aa rfl) rfl ?_
  refine ah<|ae ?_
  refine aK rfl (fun hc20=>?_) (fun hc20=>?_)
  ·have h20 : e.day ≤ day := by have := of_decide_eq_true hc20; omega
   refine af<|ai<|s1 (aa rfl) rfl<|s1 (aa rfl) rfl<|s1 (aa rfl) rfl ?_
   refine ah<|ae<|aB<|bI<|aN<|aN<|bI<|aN ?_
   refine aC (rs:= [.tmp 4,.tmp 5]) rfl (aA rfl (aA rfl az)) ?_
   exact congrArg vz (hst.trans (zA he h20)).symm
  ·have h20 : ¬ e.day ≤ day := by have := of_decide_eq_false hc20; omega
   refine aE<|a8<|ae<|ai<|s1 (aa rfl) rfl<|s1 (uG rfl rfl (by omega) (by omega)) rfl<|s1 (aa rfl) rfl ?_
   refine ah ?_
   exact bf (m) (⟨by omega,hst.trans (zy he h20)⟩) (by omega) [] hI rfl rfl ⟨⟨_,rfl,.pure pu⟩,⟨_,rfl,.pure pu⟩,⟨_,rfl,.of (rfl:_=A.i .i64 ((m:Int) - 1)) (.pure pu)⟩,trivial⟩ trivial
 ·have h11 : j = 0 := by have := of_decide_eq_false hc11; omega
  subst h11
  refine bx<|aM<|aM<|bA<|ae<|af<|ai<|s1 ((aa rfl).v (v':= .i .i64 0) rfl) rfl<|s1 (aa rfl) rfl ?_
  refine ah<|ae<|aB ?_
  refine aC (rs:= [.tmp 4,.tmp 5]) rfl (aA rfl (aA rfl az)) ?_
  exact congrArg vz hst.symm
end Go.Abs.D2
-- E5K
namespace Go.Abs.D2
open Go Go.Eng Go.Abs Go.Proofs
theorem JW:aw Tryz.prog 11 [] (aO (.b true)):=by
 refine enter Tryz.func11 rfl Tryz.ntmps11 (by kernel_rfl) (Nat.le_of_ble_eq_true rfl) fun w0 X0 hI=>?_
 refine af<|ai<|s1 (aa rfl) rfl ?_
 refine ah<|ae<|af<|ai<|s1 ((N1 (vs:= [_]) ar rfl (by kernel_rfl) Tryz.underlying23 aR rfl rfl (by simp) rfl rfl).v (v':= .ag (fM.map u8)) (by kernel_rfl)) rfl ?_
 refine aj rfl (bg 1 rfl ar rfl rfl ?_)
 refine aj rfl (ba ar rfl rfl rfl (by first|rfl|omega|(simp<;>omega)|(simp [*]<;>omega)) (by first|rfl|omega|(simp<;>omega)|(simp [*]<;>omega)) ?_)
 refine ah<|ae<|af<|ai<|s1 (aG ar rfl rfl (by decide)) rfl ?_
 refine aj rfl (aF false rfl (.cons (.pure pu) (.cons (.pure pu) (.nil))) (aw.cast (rk fM 2 (by decide)) (show _=A.tu [.ag ((cq fM 2).map u8),.i .i64 0]from(rj ..).trans (by rw [decide_eq_true (show cd 2 by decide)];rfl))) pu (.inl rfl) rfl ?_)
 refine s1 (aa rfl) rfl<|s1 (aa rfl) rfl<|s1 (aa rfl) rfl ?_
 refine aj rfl (bg 2 rfl ar rfl rfl ?_)
 refine aj rfl (ba ar rfl rfl rfl (by simp) rfl ?_)
 refine s1 (aa rfl) rfl ?_
 refine ah<|ae<|af<|ai<|s1 (aG ar rfl rfl (by decide)) rfl ?_
 refine aj rfl (kJ Tryz.underlying30 an rfl rfl rfl (nk rfl) (mf rfl) ak rfl rfl rfl ?_)
 refine s1 (eE (out:= [_,_]) [[aQ (.int .i64 0)], [aQ (.int .i64 0)]] dD rfl Tryz.underlying55 (by kernel_rfl) rfl rfl ⟨⟨by(first|rfl|omega|(simp;done)|(simp [*];done)|(simp [aU, *];done)),rfl⟩,⟨⟨by(first|rfl|omega|(simp;done)|(simp [*];done)|(simp [aU, *];done)),rfl⟩,trivial⟩⟩ rfl) rfl ?_
 refine aj rfl (kJ Tryz.underlying31 dD rfl rfl rfl (by first|(simp [aU];done)|(simp [aU, *];done)) (show _=fA [⟨5,2⟩]from rfl) ak rfl rfl rfl ?_)
 refine aj rfl (aF false rfl (.cons (.pure pu) (.cons (.pure pu) (.cons .nl (.cons (.pure pu) (.cons (.pure pu) (.cons (.pure pu) (.cons (.pure pu) .nil))))))) (aw.cast (oD fM 2 [] 1 10 [4,5] cA (by decide) qT (by decide) (rg_of (by decide) (by decide)) (rg_of (by decide) (by decide)) (by decide) (by decide) (q8 (by decide))) (show _=A.tu [cQ [eA],.i .i64 0] by rw [Dv];rfl)) pu (.inl rfl) rfl ?_)
 refine s1 (aa rfl) rfl<|s1 (aa rfl) rfl<|s1 (aa rfl) rfl<|s1 (aa rfl) rfl<|s1 (aa rfl) rfl ?_
 refine ah<|ae<|af<|ai<|s1 (aG ar rfl rfl (by decide)) rfl<|s1 (aa rfl) rfl ?_
 refine aj rfl (kJ Tryz.underlying30 an rfl rfl rfl (nk rfl) (mf rfl) ak rfl rfl rfl ?_)
 refine s1 (eE (out:= [_,_]) [[aQ (.int .i64 0)], [aQ (.int .i64 0)]] dD rfl Tryz.underlying55 (by kernel_rfl) rfl rfl ⟨⟨by(first|rfl|omega|(simp;done)|(simp [*];done)|(simp [aU, *];done)),rfl⟩,⟨⟨by(first|rfl|omega|(simp;done)|(simp [*];done)|(simp [aU, *];done)),rfl⟩,trivial⟩⟩ rfl) rfl ?_
 refine aj rfl (kJ Tryz.underlying31 dD rfl rfl rfl (by first|(simp [aU];done)|(simp [aU, *];done)) (show _=fA [⟨4,1⟩]from rfl) ak rfl rfl rfl ?_)
 refine aj rfl (aF false rfl (.cons (.pure pu) (.cons (.pure pu) (.cons (.pure pu) (.cons (.pure pu) (.cons (.pure pu) (.cons (.pure pu) (.cons (.pure pu) .nil))))))) (aw.cast (oD fM 2 [eA] 1 11 [4,5] cB (by decide) Da (by decide) (rg_of (by decide) (by decide)) (rg_of (by decide) (by decide)) (by decide) (by decide) (q8 (by decide))) (show _=A.tu [cQ [eA,eB],.i .i64 0] by rw [Dw];rfl)) pu (.inl rfl) rfl ?_)
 refine s1 (aa rfl) rfl<|s1 (aa rfl) rfl<|s1 (aa rfl) rfl<|s1 (aa rfl) rfl<|s1 (aa rfl) rfl ?_
 refine ah<|ae<|af<|ai<|s1 (aG ar rfl rfl (by decide)) rfl<|s1 (aa rfl) rfl ?_
 refine aj rfl (kJ Tryz.underlying30 an rfl rfl rfl (nk rfl) (mf rfl) ak rfl rfl rfl ?_)
 refine s1 (eE (out:= [_,_]) [[aQ (.int .i64 0)], [aQ (.int .i64 0)]] dD rfl Tryz.underlying55 (by kernel_rfl) rfl rfl ⟨⟨by(first|rfl|omega|(simp;done)|(simp [*];done)|(simp [aU, *];done)),rfl⟩,⟨⟨by(first|rfl|omega|(simp;done)|(simp [*];done)|(simp [aU, *];done)),rfl⟩,trivial⟩⟩ rfl) rfl ?_
 refine aj rfl (kJ Tryz.underlying31 dD rfl rfl rfl (by first|(simp [aU];done)|(simp [aU, *];done)) (show _=fA [⟨5,0⟩]from rfl) ak rfl rfl rfl ?_)
 refine aj rfl (aF false rfl (.cons (.pure pu) (.cons (.pure pu) (.cons (.pure pu) (.cons (.pure pu) (.cons (.pure pu) (.cons (.pure pu) (.cons (.pure pu) .nil))))))) (aw.cast (oD fM 2 [eA] 1 11 [4,5] [⟨5,0⟩] (by decide) Da (by decide) (rg_of (by decide) (by decide)) (rg_of (by decide) (by decide)) (by decide) (by decide) (q8 (by decide))) (show _=A.tu [.nl,.i .i64 351] by rw [Ln];rfl)) pu (.inl rfl) rfl ?_)
 refine s1 (aa rfl) rfl<|s1 (aa rfl) rfl<|s1 (aa rfl) rfl<|s1 (aa rfl) rfl<|s1 (aa rfl) rfl ?_
 refine ah<|ae<|af<|ai<|s1 (aG ar rfl rfl (by decide)) rfl<|s1 (aa rfl) rfl ?_
 refine aj rfl (kJ Tryz.underlying30 an rfl rfl rfl (nk rfl) (mf rfl) ak rfl rfl rfl ?_)
 refine aj rfl (aF false rfl (.cons (.pure pu) (.cons (.pure pu) (.cons (.pure pu) (.cons (.pure pu) (.cons (.pure pu) (.cons (.pure pu) (.cons .nl .nil))))))) (aw.cast (oD fM 2 [eA,eB] 1 12 [4,5] [] (by decide) ny (by decide) (rg_of (by decide) (by decide)) (rg_of (by decide) (by decide)) (by decide) (by decide) (fun e he=>by cases he)) (show _=A.tu [.nl,.i .i64 2] by rw [Lo];rfl)) pu (.inl rfl) rfl ?_)
 refine s1 (aa rfl) rfl<|s1 (aa rfl) rfl<|s1 (aa rfl) rfl<|s1 (aa rfl) rfl<|s1 (aa rfl) rfl ?_
 refine ah<|ae<|af<|ai<|s1 (aa rfl) rfl ?_
 refine aj rfl (aF false rfl (.cons (.pure pu) (.cons (.pure pu) .nil)) (aw.cast (wM [eA,eB] 1 ny (by decide)) (show _=A.tu [dS [⟨4,1⟩,⟨5,2⟩],.i .i64 0] by rw [Nb];rfl)) pu (.inl rfl) rfl ?_)
 refine s1 (aa rfl) rfl<|s1 (aa rfl) rfl<|s1 (aa rfl) rfl<|s1 (aa rfl) rfl<|s1 (aa rfl) rfl ?_
 refine ah<|ae<|af<|ai ?_
 refine aj rfl (aF false rfl (.cons .nl (.cons (.pure pu) .nil)) (aw.cast (wM [] (-1) qT (by decide)) (show _=A.tu [dS [],.i .i64 0] by rw [Nc];rfl)) pu (.inl rfl) rfl ?_)
 refine s1 (aa rfl) rfl<|s1 (aa rfl) rfl<|s1 (aa rfl) rfl<|s1 (aa rfl) rfl<|s1 (aa rfl) rfl ?_
 refine ah<|ae<|af<|ai ?_
 refine aj rfl (aF false rfl (.cons .nl (.cons (.pure pu) .nil)) (aw.cast (wM [] 0 qT (by decide)) (show _=A.tu [.nl,.i .i64 1] by rw [Nd];rfl)) pu (.inl rfl) rfl ?_)
 refine s1 (aa rfl) rfl<|s1 (aa rfl) rfl<|s1 (aa rfl) rfl<|s1 (aa rfl) rfl<|s1 (aa rfl) rfl ?_
 refine ah<|ae<|af<|ai ?_
 refine aj rfl (aF false rfl (.cons .nl (.cons (.pure pu) .nil)) (aw.cast (AP [] 5 qT (by decide)) (show _=A.tu [.i .i64 0,.b false] by rw [FP];rfl)) pu (.inl rfl) rfl ?_)
 refine s1 (aa rfl) rfl<|s1 (aa rfl) rfl<|s1 (aa rfl) rfl<|s1 (aa rfl) rfl<|s1 (aa rfl) rfl ?_
 refine ah<|ae<|af<|ai<|s1 (aa rfl) rfl ?_
 refine aj rfl (aF false rfl (.cons (.pure pu) (.cons (.pure pu) .nil)) (aw.cast (AP [eA,eB] 10 ny (by decide)) (show _=A.tu [.i .i64 0,.b true] by rw [FQ];rfl)) pu (.inl rfl) rfl ?_)
 refine s1 (aa rfl) rfl<|s1 (aa rfl) rfl<|s1 (aa rfl) rfl<|s1 (aa rfl) rfl<|s1 (aa rfl) rfl ?_
 refine ah<|ae<|af<|af<|ai<|s1 (aa rfl) rfl<|s1 ((aa rfl).v (v':= .b false) (rfl)) rfl<|s1 (aa rfl) rfl<|g1 rfl rfl (aa rfl) rfl<|g1 rfl rfl ((aa rfl).v (v':= .b false) (rfl)) rfl<|s1 (aa rfl) rfl<|s1 (aa rfl) rfl<|g1 rfl rfl (aa rfl) rfl<|g1 rfl rfl ((aa rfl).v (v':= .b false) (rfl)) rfl<|s1 (aa rfl) rfl ?_
 refine s1 (aa rfl) rfl<|g1 rfl rfl (aa rfl) rfl<|g1 rfl rfl ((aa rfl).v (v':= .b false) (rfl)) rfl<|s1 (aa rfl) rfl<|s1 (aa rfl) rfl<|g1 rfl rfl (aa rfl) rfl<|g1 rfl rfl ((aa rfl).v (v':= .b false) (rfl)) rfl<|s1 (aa rfl) rfl<|s1 (aa rfl) rfl<|g1 rfl rfl (aa rfl) rfl ?_
 refine g1 rfl rfl ((aa rfl).v (v':= .b false) (rfl)) rfl<|s1 (aa rfl) rfl<|s1 (aa rfl) rfl<|g1 rfl rfl (aa rfl) rfl<|g1 rfl rfl ((aa rfl).v (v':= .b false) (rfl)) rfl<|s1 (aa rfl) rfl<|s1 (aa rfl) rfl<|g1 rfl rfl (aa rfl) rfl<|g1 rfl rfl ((aa rfl).v (v':= .b false) (rfl)) rfl<|s1 (aa rfl) rfl ?_
 refine s1 (aa rfl) rfl<|g1 rfl rfl (aa rfl) rfl<|s1 (aa rfl) rfl<|s1 (aa rfl) rfl<|g1 rfl rfl (aa rfl) rfl<|g1 rfl rfl ((aa rfl).v (v':= .b false) (rfl)) rfl<|s1 (aa rfl) rfl<|s1 (aa rfl) rfl<|g1 rfl rfl (aa rfl) rfl<|g1 rfl rfl ((aa rfl).v (v':= .b false) (rfl)) rfl ?_
 refine s1 (aa rfl) rfl<|s1 (aa rfl) rfl<|g1 rfl rfl (aG ar rfl rfl (by simp)) rfl<|g1 rfl rfl (aa rfl) rfl ?_
 refine ee rfl rfl rfl (aF false rfl (.cons (.pure pu) (.cons (.pure pu) (.cons (.pure pu) .nil))) (aw.cast (sQ (cq fM 2) 2 [eA,eB] (by simp) ny (by decide)) (congrArg (A.i .i64) td.2)) pu (.inl rfl) rfl ?_)
 refine g1 rfl rfl ((aa rfl).v (v':= .b false) (rfl)) rfl<|s1 (aa rfl) rfl<|s1 (aa rfl) rfl<|g1 rfl rfl (aG ar rfl rfl (by simp)) rfl ?_
 refine ee rfl rfl rfl (aF false rfl (.cons (.pure pu) (.cons (.pure pu) (.cons .nl .nil))) (aw.cast (sQ (cq fM 2) 2 [] (by simp) qT (by decide)) (congrArg (A.i .i64) (Aj _ _))) pu (.inl rfl) rfl ?_)
 refine g1 rfl rfl ((aa rfl).v (v':= .b false) (rfl)) rfl<|s1 (aa rfl) rfl ?_
 refine ah<|ae ?_
 refine bO rfl ?_
 refine aE<|ae<|af ?_
 refine cr ⟨_, [], []⟩ 34 4 br (le_refl rfl) ?_
 refine aq 0 [] [] (aa rfl) rfl rfl ?_
 refine aq 1 [] [] (eE (out:= [_,_]) [[aQ (.int .i64 0)], [aQ (.int .i64 0)]] dD rfl Tryz.underlying55 (by kernel_rfl) rfl rfl ⟨⟨by(first|rfl|omega|(simp;done)|(simp [*];done)|(simp [aU, *];done)),rfl⟩,⟨⟨by(first|rfl|omega|(simp;done)|(simp [*];done)|(simp [aU, *];done)),rfl⟩,trivial⟩⟩ rfl) rfl rfl ?_
 refine aq 2 [] [] (eE (out:= [_,_]) [[aQ (.int .i64 0)], [aQ (.int .i64 0)]] dD rfl Tryz.underlying55 (by kernel_rfl) rfl rfl ⟨⟨by(first|rfl|omega|(simp;done)|(simp [*];done)|(simp [aU, *];done)),rfl⟩,⟨⟨by(first|rfl|omega|(simp;done)|(simp [*];done)|(simp [aU, *];done)),rfl⟩,trivial⟩⟩ rfl) rfl rfl ?_
 refine th 3 [1,2] aV Tryz.underlying31 dD rfl rfl rfl (by first|(simp [aU];done)|(simp [aU, *];done)) (show _=fA [⟨4,1⟩,⟨5,2⟩]from rfl) ak rfl rfl rfl rfl ?_
 refine bL false 4 [0,3] [] aV rfl (.cons (.pure pu) (.cons (.pure pu) (.nil))) (aw.cast (rl [⟨4,1⟩,⟨5,2⟩] [⟨4,1⟩,⟨5,2⟩] (by decide) (by decide)) (congrArg A.b (yf _))) pu (.inl rfl) rfl rfl ?_
 refine aq 5 [4] [] (aa rfl) rfl rfl ?_
 refine cO 6 [5] [] rfl rfl (aa rfl) rfl rfl ?_
 refine cO 7 [5,6] [] rfl rfl (a7 Tryz.underlying31 rfl rfl rfl) rfl rfl ?_
 refine cO 8 [5,7] [] rfl rfl ((aa rfl).v (v':= .b true) (rfl)) rfl rfl ?_
 refine aq 9 [5,8] [] (aa rfl) rfl rfl ?_
 refine aq 10 [9] [] (aa rfl) rfl rfl ?_
 refine cO 11 [10] [] rfl rfl (aa rfl) rfl rfl ?_
 refine cO 12 [10,11] [] rfl rfl (a7 Tryz.underlying24 rfl rfl rfl) rfl rfl ?_
 refine cO 13 [10,12] [] rfl rfl ((aa rfl).v (v':= .b true) (rfl)) rfl rfl ?_
 refine aq 14 [10,13] [] (aa rfl) rfl rfl ?_
 refine aq 15 [14] [] (aa rfl) rfl rfl ?_
 refine cO 16 [15] [] rfl rfl (aa rfl) rfl rfl ?_
 refine cO 17 [15,16] [] rfl rfl (bb 1 Tryz.underlying24 bu rfl rfl rfl (by decide) rfl) rfl rfl ?_
 refine cO 18 [15,17] [] rfl rfl (dz Tryz.underlying45 rfl ar (by decide) rfl rfl) rfl rfl ?_
 refine cO 19 [15,18] [] rfl rfl (bp ar rfl rfl (A8 ny (e:=eB) rfl) (by simp [xH.prev])) rfl rfl ?_
 refine cO 20 [15] [] rfl rfl (aa rfl) rfl rfl ?_
 refine cO 21 [15,20] [] rfl rfl (bb 0 Tryz.underlying24 bu rfl rfl rfl (by decide) rfl) rfl rfl ?_
 refine cO 22 [15,21] [] rfl rfl (bp bu rfl rfl (gh ny (e:=eA) rfl) oZ.len) rfl rfl ?_
 refine bL false 23 [15,22] [] (xb rfl rfl) rfl (.cons (.pure pu) (.nil)) (lq eA oZ) pu (.inl rfl) rfl rfl ?_
 refine cO 24 [15,19,23] [] rfl rfl (((gr Tryz.underlying23 Tryz.underlying5 aR (by kernel_rfl) rfl rfl xH.prev (by simp))).v (v':= .b true) (congrArg A.b (beq_iff_eq.2 Ll))) rfl rfl ?_
 refine aq 25 [15,24] [] (aa rfl) rfl rfl ?_
 refine aq 26 [25] [] (aa rfl) rfl rfl ?_
 refine cO 27 [26] [] rfl rfl (aa rfl) rfl rfl ?_
 refine cO 28 [26,27] [] rfl rfl (bb 0 Tryz.underlying24 bu rfl rfl rfl (by decide) rfl) rfl rfl ?_
 refine cO 29 [26,28] [] rfl rfl (dz Tryz.underlying45 rfl ar (by decide) rfl rfl) rfl rfl ?_
 refine cO 30 [26,29] [] rfl rfl (bp ar rfl rfl (A8 ny (e:=eA) rfl) (by simp [oZ.prev])) rfl rfl ?_
 refine cO 31 [26] [] rfl rfl ((NZ ar rfl Tryz.underlying23 aR rfl).v (v':= .ag (zD.map u8)) (rfl)) rfl rfl ?_
 refine cO 32 [26,30,31] [] rfl rfl (((gr Tryz.underlying23 Tryz.underlying5 aR (by kernel_rfl) rfl rfl oZ.prev rfl)).v (v':= .b true) (congrArg A.b (beq_iff_eq.2 Lj))) rfl rfl ?_
 refine aq 33 [26,32] [] (aa rfl) rfl rfl ?_
 refine ct (by kernel_rfl) ?_
 refine s1 (aa rfl) rfl ?_
 refine ah<|ae<|aB ?_
 refine aC (rs:= [.tmp 0]) rfl (aA rfl az) ?_
 rfl
end Go.Abs.D2
-- K6E
namespace Go.Abs.D2
open Go Go.Eng Go.Abs Go.Proofs
theorem J7:aw Tryz.prog 182 [aH (aL 1),aH (aL 19)] (aO (.tu [aH (aL 0),aH (aL 19)])):=by
 refine enter Tryz.func182 rfl Tryz.ntmps182 (by kernel_rfl) (Nat.le_of_ble_eq_true rfl) fun w0 X0 hI=>?_
 refine af<|ai<|s1 ((aa rfl).v (v':= .i .u64 0) rfl) rfl<|s1 ((aa rfl).v (v':= .i .u64 0) rfl) rfl ?_
 refine ah<|ae<|af<|ai<|s1 (aa rfl) rfl<|s1 ((ij _ (aL 4294967295) rfl rfl).v (v':=aH (aL 1)) (congrArg aH (by decide))) rfl<|s1 (aa rfl) rfl ?_
 refine ah<|ae<|af<|ai<|s1 (aa rfl) rfl<|s1 ((g9 _ 32 rfl rfl rfl (by decide)).v (v':=aH (aL 0)) (congrArg aH (by decide))) rfl<|s1 (aa rfl) rfl ?_
 refine ah<|ae<|af<|ai<|s1 (aa rfl) rfl<|s1 ((ij _ (aL 4294967295) rfl rfl).v (v':=aH (aL 19)) (congrArg aH (by decide))) rfl<|s1 (aa rfl) rfl ?_
 refine ah<|ae<|af<|ai<|s1 (aa rfl) rfl<|s1 ((g9 _ 32 rfl rfl rfl (by decide)).v (v':=aH (aL 0)) (congrArg aH (by decide))) rfl<|s1 (aa rfl) rfl ?_
 refine ah<|ae<|af<|ai<|s1 (aa rfl) rfl<|s1 (aa rfl) rfl<|s1 ((lG _ _ rfl rfl).v (v':=aH (aL 19)) (congrArg aH (by decide))) rfl<|s1 (aa rfl) rfl ?_
 refine ah<|ae<|af<|ai<|s1 (aa rfl) rfl<|s1 (aa rfl) rfl<|s1 ((lG _ _ rfl rfl).v (v':=aH (aL 0)) (congrArg aH (by decide))) rfl<|s1 (aa rfl) rfl<|s1 ((g9 _ 32 rfl rfl rfl (by decide)).v (v':=aH (aL 0)) (congrArg aH (by decide))) rfl<|s1 ((mV _ _ rfl rfl).v (v':=aH (aL 0)) (congrArg aH (by decide))) rfl<|s1 (aa rfl) rfl ?_
 refine ah<|ae<|af<|ai<|s1 (aa rfl) rfl<|s1 ((ij _ (aL 4294967295) rfl rfl).v (v':=aH (aL 0)) (congrArg aH (by decide))) rfl<|s1 (aa rfl) rfl ?_
 refine ah<|ae<|af<|ai<|s1 (aa rfl) rfl<|s1 ((g9 _ 32 rfl rfl rfl (by decide)).v (v':=aH (aL 0)) (congrArg aH (by decide))) rfl<|s1 (aa rfl) rfl ?_
 refine ah<|ae<|af<|ai<|s1 (aa rfl) rfl<|s1 (aa rfl) rfl<|s1 (aa rfl) rfl<|s1 ((lG _ _ rfl rfl).v (v':=aH (aL 0)) (congrArg aH (by decide))) rfl<|s1 ((mV _ _ rfl rfl).v (v':=aH (aL 0)) (congrArg aH (by decide))) rfl<|s1 (aa rfl) rfl ?_
 refine ah<|ae<|af<|ai<|s1 (aa rfl) rfl<|s1 (aa rfl) rfl<|s1 ((lG _ _ rfl rfl).v (v':=aH (aL 0)) (congrArg aH (by decide))) rfl<|s1 (aa rfl) rfl<|s1 ((mV _ _ rfl rfl).v (v':=aH (aL 0)) (congrArg aH (by decide))) rfl<|s1 (aa rfl) rfl<|s1 ((g9 _ 32 rfl rfl rfl (by decide)).v (v':=aH (aL 0)) (congrArg aH (by decide))) rfl<|s1 ((mV _ _ rfl rfl).v (v':=aH (aL 0)) (congrArg aH (by decide))) rfl<|s1 (aa rfl) rfl ?_
 refine ah<|ae<|af<|ai<|s1 (aa rfl) rfl<|s1 (aa rfl) rfl<|s1 ((lG _ _ rfl rfl).v (v':=aH (aL 19)) (congrArg aH (by decide))) rfl<|s1 (aa rfl) rfl ?_
 refine ah<|ae<|aB ?_
 refine aC (rs:= [.tmp 4,.tmp 5]) rfl (aA rfl (aA rfl (az))) rfl
theorem J8:aw Tryz.prog 135 [aH (aL 1),aH (aL 19)] (aO (.tu [aH (aL 0),aH (aL 19)])):=by
 refine enter Tryz.func135 rfl Tryz.ntmps135 (by kernel_rfl) (Nat.le_of_ble_eq_true rfl) fun w0 X0 hI=>?_
 refine af<|ai<|s1 ((aa rfl).v (v':= .i .u64 0) rfl) rfl<|s1 ((aa rfl).v (v':= .i .u64 0) rfl) rfl ?_
 refine ah<|ae<|af ?_
 refine bO rfl ?_
 refine aE<|ae<|af<|ai<|s1 (aa rfl) rfl<|s1 (aa rfl) rfl ?_
 refine aj rfl (aF false rfl (.cons (.pure pu) (.cons (.pure pu) (.nil))) (J7) pu (.inl rfl) rfl ?_)
 refine s1 (aa rfl) rfl<|s1 (aa rfl) rfl<|s1 (aa rfl) rfl<|s1 (aa rfl) rfl<|s1 (aa rfl) rfl ?_
 refine ah<|ae<|af<|ai<|s1 (aa rfl) rfl<|s1 (aa rfl) rfl<|s1 (aa rfl) rfl<|s1 (aa rfl) rfl ?_
 refine ah<|ae<|aB ?_
 refine aC (rs:= [.tmp 4,.tmp 5]) rfl (aA rfl (aA rfl (az))) rfl
theorem DL:aw Tryz.prog 86 [.fz 1 [nI 3],nI 19] (cU 1 19 (List.replicate 19 (nI 3))):=by
 refine enter Tryz.func86 rfl Tryz.ntmps86 (by kernel_rfl) (Nat.le_of_ble_eq_true rfl) fun w0 X0 hI=>?_
 refine af<|ai<|s1 (aa rfl) rfl ?_
 refine ah<|ae<|af<|af<|ai<|s1 (aa rfl) rfl<|s1 ((aa rfl).v (v':= .b false) (rfl)) rfl ?_
 refine ah<|ae ?_
 refine bO rfl ?_
 refine aE<|ae<|af<|ai<|s1 (aa rfl) rfl<|s1 (a7 Tryz.underlying30 rfl rfl rfl) rfl<|s1 (mw 1 Tryz.underlying3 Tryz.underlying74 rfl rfl) rfl<|s1 (aa rfl) rfl<|s1 (mw 19 Tryz.underlying3 Tryz.underlying74 rfl rfl) rfl ?_
 refine aj rfl (aF false rfl (.cons (.pure pu) (.cons (.pure pu) (.nil))) (J8) pu (.inl rfl) rfl ?_)
 refine s1 (aa rfl) rfl<|s1 (aa rfl) rfl<|s1 (aa rfl) rfl<|s1 (aa rfl) rfl<|s1 (aa rfl) rfl ?_
 refine ah<|ae<|af<|af<|ai<|s1 (aa rfl) rfl<|s1 ((aa rfl).v (v':= .b false) (congrArg A.b (by decide))) rfl<|s1 (aa rfl) rfl<|g1 rfl rfl (aa rfl) rfl<|g1 rfl rfl ((aa rfl).v (v':= .b false) (congrArg A.b (by decide))) rfl<|s1 (aa rfl) rfl ?_
 refine ah<|ae ?_
 refine bO rfl ?_
 refine aE<|ae<|af<|ai<|s1 (aa rfl) rfl<|s1 ((cK Tryz.underlying74 Tryz.underlying3 rfl).v (v':=nI 19) (congrArg (A.i .i64) (by decide))) rfl ?_
 refine aj rfl (oW 30 rfl _ _ Tryz.underlying30 an rfl rfl rfl rfl rfl (by first|omega|(simp only [maxLen];omega)|(simp [maxLen];done)|(simp [maxLen];omega)|(simp [maxLen, *];omega)) (by first|omega|(simp only [maxLen];omega)|(simp [maxLen];done)|(simp [maxLen];omega)|(simp [maxLen, *];omega)) (by first|omega|(simp only [maxLen];omega)|(simp [maxLen];done)|(simp [maxLen];omega)|(simp [maxLen, *];omega)) rfl ?_)
 refine s1 (aa rfl) rfl ?_
 refine ah<|ae<|af<|ai<|s1 (aa rfl) rfl<|s1 (aa rfl) rfl ?_
 refine aj rfl (xy (1) Tryz.underlying30 an rfl rfl rfl rfl (by first|rfl|omega|(simp<;>omega)|(simp [*]<;>omega)) rfl (by decide) (by first|omega|(simp only [maxLen];omega)|(simp [maxLen];done)|(simp [maxLen];omega)|(simp [maxLen, *];omega)) LR rfl ?_)
 refine s1 (aa rfl) rfl ?_
 refine ah<|ae<|af<|aI ?_
 refine bD (ι:=Nat) (fun e=> [(7,.sl 30 1 0 19),(8,nI (bt e))]) (fun e=>⟨[(30,some (List.replicate (bt e) (nI 3)++List.replicate (19 - bt e) (nI 0)))]⟩) (fun e=>0<bt e∧bt e≤19) (fun e=>19 - bt e) ?_ ?_
 ·exact bC (0) (⟨by decide,by decide⟩) [(30,some 30)] hI rfl rfl ⟨⟨_,rfl,.sl rfl (by first|rfl|omega|(simp<;>omega)|(simp [*]<;>omega))⟩,⟨_,rfl,.of (by rfl) (.pure pu)⟩,trivial⟩ ⟨.inr ⟨_,_,rfl,rfl,.pure ak⟩,trivial⟩
 rintro e ⟨he,he2⟩
 refine af<|af<|ai<|s1 (aa rfl) rfl<|s1 (aa rfl) rfl<|s1 (a7 Tryz.underlying30 rfl rfl rfl) rfl<|s1 (aa rfl) rfl ?_
 refine ah<|ae ?_
 refine aK rfl (fun hc37=>?_) (fun hc37=>?_)
 ·have h37 : bt e < 19 := by have := of_decide_eq_true hc37; omega
  refine aE<|ae<|aI ?_
  refine cr ⟨_, [], []⟩ 9 4 br (le_refl rfl) ?_
  refine aq 0 [] [] (aa rfl) rfl rfl ?_
  refine aq 1 [] [(30,none)] (aa rfl) rfl rfl ?_
  refine aq 2 [] [] (aa rfl) rfl rfl ?_
  refine aq 3 [1,2] [(30,none)] (E4 (19 - bt e) Tryz.underlying30 an rfl rfl (bs rfl rfl) bn (by omega) (by omega) rfl rfl) rfl rfl ?_
  refine aq 4 [] [(30,none)] (aa rfl) rfl rfl ?_
  refine aq 5 [] [] (aa rfl) rfl rfl ?_
  refine aq 6 [4,5] [(30,none)] (E4 (bt e) Tryz.underlying30 an rfl rfl bn (bs rfl rfl) (by omega) (by omega) rfl rfl) rfl rfl ?_
  refine IG (Nat.min (bt e) (19 - bt e)) 7 [3,6] [(30,none)] aV Tryz.underlying30 an rfl rfl rfl rfl (by first|rfl|omega|(simp<;>omega)|(simp [*]<;>omega)) rfl (DK he h37) (LU h37) rfl rfl rfl ?_
  refine aq 8 [0,7] [] (aZ (bt e) (Nat.min (bt e) (19 - bt e)) rfl rfl rfl rfl (by have:=rz e h37;have:=EC (e+1);omega)) rfl rfl ?_
  refine ct (by kernel_rfl) ?_
  refine s1 (aa rfl) rfl ?_
  refine ah<|a8 ?_
  exact bf (e+1) (LW he h37) (LS he h37) [(30,some 30)] hI rfl rfl ⟨⟨_,rfl,.sl rfl (by first|rfl|omega|(simp<;>omega)|(simp [*]<;>omega))⟩,⟨_,rfl,.of (congrArg nI (rz e h37)) (.pure pu)⟩,trivial⟩ ⟨.inr ⟨_,_,rfl,rfl,.of (LV e h37) (.pure ak)⟩,trivial⟩
 ·have h37 : bt e = 19 := by have := of_decide_eq_false hc37; omega
  refine bx<|aM<|aM<|bA<|ae<|af<|ai<|s1 (aa rfl) rfl<|s1 (aa rfl) rfl ?_
  refine ah<|ae<|aB ?_
  refine aC (rs:= [.tmp 4]) rfl (aA rfl az) ⟨30,rfl,?_⟩
  rw [h37];rfl
theorem H4 (L M:List Nat) (hL:L.length<1000000):aw Tryz.prog 87 [.fz L.length (L.map nI),.fz M.length (M.map nI)] (aO (.b (L==M))):=by
 refine enter Tryz.func87 rfl Tryz.ntmps87 (by kernel_rfl) (Nat.le_of_ble_eq_true rfl) fun w0 X0 hI=>?_
 refine af<|ai<|s1 (aa rfl) rfl ?_
 refine ah<|ae<|af<|af<|ai<|s1 (aa rfl) rfl<|s1 (a7 Tryz.underlying30 rfl rfl rfl) rfl<|s1 (aa rfl) rfl<|s1 (a7 Tryz.underlying30 rfl rfl rfl) rfl<|s1 (aa rfl) rfl ?_
 refine ah<|ae ?_
 refine aK rfl (fun hc10=>?_) (fun hc10=>?_)
 ·have hl : L.length ≠ M.length := by intro h; rw [h] at hc10; simp at hc10
  refine af<|ai<|s1 (aa rfl) rfl ?_
  refine ah<|ae<|aB<|aN ?_
  refine aC (rs:= [.tmp 4]) rfl (aA rfl az) ?_
  exact congrArg A.b (beq_eq_false_iff_ne.2 fun h=>hl (congrArg List.length h)).symm
 ·have hl : L.length = M.length := by simp at hc10; omega
  refine aE<|ae<|af<|af<|ai<|s1 (aa rfl) rfl<|s1 (a7 Tryz.underlying30 rfl rfl rfl) rfl<|s1 ((aa rfl).v (v':= .i .i64 0) rfl) rfl ?_
  refine ah<|ae<|aI ?_
  refine bD (ι:=Nat) (fun i=> [(0,.fz L.length (L.map nI)),(1,.fz M.length (M.map nI)),(12,nI L.length),(13,nI i)]) (fun i=>⟨[]⟩) (fun i=>i≤L.length∧∀t,t<i→L[t]? =M[t]?) (fun i=>L.length - i) ?_ ?_
  ·exact bC (0) (⟨Nat.zero_le _,fun t ht=>absurd ht (by omega)⟩) [] hI rfl rfl ⟨⟨_,rfl,.pure pu⟩,⟨_,rfl,.pure pu⟩,⟨_,rfl,.pure pu⟩,⟨_,rfl,.pure pu⟩,trivial⟩ trivial
  rintro i ⟨hi,hall⟩
  refine af<|ai<|s1 (aa rfl) rfl ?_
  refine ah<|ae<|af ?_
  refine aK rfl (fun hc14=>?_) (fun hc14=>?_)
  ·have h14 : i < L.length := by have := of_decide_eq_true hc14; omega
   obtain⟨u,hu⟩:∃u,L[i]? =some u:=⟨_,List.getElem?_eq_getElem h14⟩
   obtain⟨v,hv⟩:∃v,M[i]? =some v:=⟨_,List.getElem?_eq_getElem (by omega)⟩
   refine aE<|ae<|af<|aI<|af<|ai<|s1 (aa rfl) rfl<|s1 (aa rfl) rfl ?_
   refine ah<|ae<|af ?_
   refine dc 8 br (by kernel_rfl) ?_
   refine t1 (aa rfl) rfl<|t1 (aa rfl) rfl<|t1 (bb i Tryz.underlying30 an rfl rfl rfl (by omega) rfl) rfl<|t1 (au an rfl rfl (BQ hu)) rfl<|t1 (aa rfl) rfl<|t1 (aa rfl) rfl<|t1 (bb i Tryz.underlying30 an rfl rfl rfl (by omega) rfl) rfl<|t1 (au an rfl rfl (BQ hv)) rfl ?_
   refine de ?_
   refine s1 (aa rfl) rfl ?_
   refine ah<|ae ?_
   refine aK rfl (fun hc24=>?_) (fun hc24=>?_)
   ·have hne : u ≠ v := by intro h; subst h; simp at hc24
    refine af<|ai<|s1 (aa rfl) rfl ?_
    refine ah<|ae<|aB<|bI<|aN<|aN<|bI<|aN ?_
    refine aC (rs:= [.tmp 4]) rfl (aA rfl az) ?_
    exact congrArg A.b (Kl (t:=i) (by rw [hu,hv];simpa using hne)).symm
   ·have heq : u = v := by simp at hc24; omega
    refine aE<|a8<|ae<|ai<|s1 (aZ _ 1 rfl rfl rfl rfl (by omega)) rfl<|s1 (aa rfl) rfl ?_
    refine ah ?_
    exact bf (i+1) (⟨by omega,FE hall (by rw [hu,hv,heq])⟩) (by omega) [] hI rfl rfl ⟨⟨_,rfl,.pure pu⟩,⟨_,rfl,.pure pu⟩,⟨_,rfl,.pure pu⟩,⟨_,rfl,.pure pu⟩,trivial⟩ trivial
  ·have h14 : i = L.length := by have := of_decide_eq_false hc14; omega
   subst h14
   refine bx<|aM<|aM<|bA<|ae<|af<|ai<|s1 (aa rfl) rfl ?_
   refine ah<|ae<|aB ?_
   refine aC (rs:= [.tmp 4]) rfl (aA rfl az) ?_
   exact congrArg A.b (Gc hl hall).symm
theorem Bd (p q:List UInt8):aw Tryz.prog 87 [.fz 19 ((digits p).map nI),.fz 19 ((digits q).map nI)] (aO (.b (digits p==digits q))):=by
  have:=H4 (digits p) (digits q) (by simp)
  rwa [len_digits,len_digits]at this
theorem B8 (x : List UInt8) (n : Int) (L : List (List UInt8)) (m : List UInt8) (a : Int) (S P : List (List UInt8)) (hx : x.length = 32) (hL : aT L) (hl : L.length ≤ 1000) (hm : m.length = 32) (hS : aT S) (hP : aT P) : aw Tryz.prog 36 [.ag (x.map u8), .i .i64 n, a6 L, .ag (m.map u8), .ag [.i .i64 a, a6 S, a6 P]] (aO (forgA x n L m a S P)) := by
 refine enter Tryz.func36 rfl Tryz.ntmps36 (by kernel_rfl) (Nat.le_of_ble_eq_true rfl) fun w0 X0 hI=>?_
 refine af<|ai ?_
 refine aj rfl (bF 5 rfl rfl rfl ?_)
 refine aj rfl (bF 8 rfl rfl rfl ?_)
 refine aj rfl (bF 9 rfl rfl rfl ?_)
 refine s1 ((aa rfl).v (v':= .i .i64 0) rfl) rfl<|s1 ((aa rfl).v (v':= .i .i64 0) rfl) rfl ?_
 refine ah<|ae<|af ?_
 rcases(Decidable.em (cd n)).symm with hcs|hcs
 ·skip
  refine ai<|s1 (aG ar rfl rfl (by first|rfl|omega|(simp<;>omega)|(simp [*]<;>omega))) rfl<|s1 (aa rfl) rfl ?_
  refine aj rfl (aF false rfl (.cons (.pure pu) (.cons (.pure pu) (.nil))) (aw.cast (rk x n hx) (yb hcs)) pu (.inl rfl) rfl ?_)
  refine s1 (aa rfl) rfl<|s1 (aa rfl) rfl<|s1 (aa rfl) rfl ?_
  refine aj rfl (bg 12 rfl ar rfl rfl ?_)
  refine aj rfl (ba ar rfl rfl rfl (by first|rfl|omega|(simp<;>omega)|(simp [*]<;>omega)) (by first|rfl|omega|(simp<;>omega)|(simp [*]<;>omega)) ?_)
  refine s1 (aa rfl) rfl ?_
  refine ah<|ae<|af<|af<|ai<|s1 (aa rfl) rfl<|s1 ((aa rfl).v (v':= .b true) (rfl)) rfl<|s1 (aa rfl) rfl<|g0 rfl rfl rfl rfl<|g0 rfl rfl rfl rfl<|g0 rfl rfl rfl rfl<|g0 rfl rfl rfl rfl<|g0 rfl rfl rfl rfl<|g0 rfl rfl rfl rfl<|s1 (aa rfl) rfl ?_
  refine ah<|ae ?_
  refine cN rfl ?_
  refine af<|ai<|s1 ((aa rfl).v (v':= .i .i64 0) rfl) rfl<|s1 ((aa rfl).v (v':= .i .i64 0) rfl) rfl ?_
  refine ah<|ae<|aB<|aN ?_
  refine aC (rs:= [.tmp 10,.tmp 11]) rfl (aA rfl (aA rfl az)) ?_
  exact iB (BA (EJ hcs))
 ·have hsz := hcs
  obtain⟨k,rfl,h1,h2⟩:=pI hcs
  refine ai<|s1 (aG ar rfl rfl (by first|rfl|omega|(simp<;>omega)|(simp [*]<;>omega))) rfl<|s1 (aa rfl) rfl ?_
  refine aj rfl (aF false rfl (.cons (.pure pu) (.cons (.pure pu) (.nil))) (aw.cast (rk x k hx) ((rj ..).trans (by rw [decide_eq_true hsz];rfl:_= .tu [.ag ((cq x (k:Int)).map u8),.i .i64 0]))) pu (.inl rfl) rfl ?_)
  refine s1 (aa rfl) rfl<|s1 (aa rfl) rfl<|s1 (aa rfl) rfl ?_
  refine aj rfl (bg 12 rfl ar rfl rfl ?_)
  refine aj rfl (ba ar rfl rfl rfl (by first|rfl|omega|(simp<;>omega)|(simp [*]<;>omega)) (by first|rfl|omega|(simp<;>omega)|(simp [*]<;>omega)) ?_)
  refine s1 (aa rfl) rfl ?_
  refine ah<|ae<|af<|af ?_
  rcases Np (c5 (cq x (k:Int)) (k:Int) m a S P)with hcs|hcs
  ·skip
   refine ai<|s1 (aa rfl) rfl<|s1 ((aa rfl).v (v':= .b false) (rfl)) rfl<|s1 (aa rfl) rfl<|g1 rfl rfl (aG ar rfl rfl (by first|rfl|omega|(simp<;>omega)|(simp [*]<;>omega))) rfl<|g1 rfl rfl (aa rfl) rfl<|g1 rfl rfl (aG ar rfl rfl (by first|rfl|omega|(simp<;>omega)|(simp [*]<;>omega))) rfl<|g1 rfl rfl (aG c4 rfl rfl (by first|rfl|omega|(simp<;>omega)|(simp [*]<;>omega))) rfl ?_
   refine ee rfl rfl rfl (aF false rfl (.cons (.pure pu) (.cons (.pure pu) (.cons (.pure pu) (.cons (.pure pu) (.nil))))) (aw.cast (tC (cq x (k:Int)) m k a S P (by simp) hm hS hP) (congrArg (A.i .i64) (by rw [hcs];rfl:qB (c5 (cq x (k:Int)) (k:Int) m a S P)=60))) pu (.inl rfl) rfl ?_)
   refine g1 rfl rfl ((aa rfl).v (v':= .b true) (rfl)) rfl<|s1 (aa rfl) rfl ?_
   refine ah<|ae ?_
   refine cN rfl ?_
   refine af<|ai<|s1 ((aa rfl).v (v':= .i .i64 0) rfl) rfl<|s1 ((aa rfl).v (v':= .i .i64 0) rfl) rfl ?_
   refine ah<|ae<|aB<|aN ?_
   refine aC (rs:= [.tmp 10,.tmp 11]) rfl (aA rfl (aA rfl az)) ?_
   exact iB (BA hcs)
  ·have hver := hcs
   obtain⟨_,hat,hrec,_,_⟩:=EL hcs
   have hS19:=LI hrec
   obtain⟨i,rfl⟩:∃i:Nat,a=(i:Int):=⟨a.toNat,by unfold fF at hat;omega⟩
   have hq32:=JN hL i
   refine ai<|s1 (aa rfl) rfl<|s1 ((aa rfl).v (v':= .b false) (rfl)) rfl<|s1 (aa rfl) rfl<|g1 rfl rfl (aG ar rfl rfl (by first|rfl|omega|(simp<;>omega)|(simp [*]<;>omega))) rfl<|g1 rfl rfl (aa rfl) rfl<|g1 rfl rfl (aG ar rfl rfl (by first|rfl|omega|(simp<;>omega)|(simp [*]<;>omega))) rfl<|g1 rfl rfl (aG c4 rfl rfl (by first|rfl|omega|(simp<;>omega)|(simp [*]<;>omega))) rfl ?_
   refine ee rfl rfl rfl (aF false rfl (.cons (.pure pu) (.cons (.pure pu) (.cons (.pure pu) (.cons (.pure pu) (.nil))))) (aw.cast (tC (cq x (k:Int)) m k (i:Nat) S P (by simp) hm hS hP) (congrArg (A.i .i64) (by rw [hcs];rfl:qB (c5 (cq x (k:Int)) (k:Int) m (i:Nat) S P)=0))) pu (.inl rfl) rfl ?_)
   refine g1 rfl rfl ((aa rfl).v (v':= .b false) (rfl)) rfl<|s1 (aa rfl) rfl ?_
   refine ah<|ae ?_
   refine bO rfl ?_
   refine aE<|ae<|af<|ai ?_
   refine aj rfl (bg 14 rfl ar rfl rfl ?_)
   refine aj rfl (bg 15 rfl ar rfl rfl ?_)
   refine ah<|ae<|af<|af<|ai<|s1 (aD Tryz.underlying43 rfl an (by decide) rfl rfl) rfl<|s1 (au an rfl rfl rfl) rfl<|s1 (aa rfl) rfl<|s1 (a7 Tryz.underlying41 rfl rfl rfl) rfl<|s1 (aa rfl) rfl ?_
   refine ah<|ae ?_
   refine aK rfl (fun hc41=>?_) (fun hc41=>?_)
   ·have h41 : i < L.length := by have := of_decide_eq_true hc41; omega
    obtain⟨q,hq⟩:∃q,L[i]? =some q:=⟨_,List.getElem?_eq_getElem h41⟩
    have hql:=hL q (List.mem_of_getElem? hq)
    refine ai<|s1 (aa rfl) rfl<|s1 (aD Tryz.underlying43 rfl an (by decide) rfl rfl) rfl<|s1 (au an rfl rfl rfl) rfl<|s1 (bb i Tryz.underlying41 ar rfl rfl rfl (by omega) rfl) rfl<|s1 (bp ar rfl rfl (gA hL hq) (by simp [hql])) rfl ?_
    refine aj rfl (ba ar rfl rfl rfl (by simp [hql]) (by first|rfl|omega|(simp<;>omega)|(simp [*]<;>omega)) ?_)
    refine ah<|ae<|af<|af ?_
    refine cI 14 rfl (cs':=(bj L i).map u8) (by rw [Ed hq]) ?_
    refine cI 15 rfl (cs':=zD.map u8) yN ?_
    refine ai<|s1 (aG ar rfl rfl (by first|rfl|omega|(simp<;>omega)|(simp [*]<;>omega))) rfl<|s1 (aG ar rfl rfl (by first|rfl|omega|(simp<;>omega)|(simp [*]<;>omega))) rfl<|s1 (nP Tryz.underlying23 Tryz.underlying5 aR (by kernel_rfl) rfl rfl (by first|assumption|(simp;done)|(simp [*];done)) (by first|assumption|(simp;done)|(simp [*];done))) rfl<|s1 (aa rfl) rfl ?_
    refine cT 3 rfl rfl rfl rfl (fun hb50=> .step (aG ar rfl rfl (by first|rfl|omega|(simp<;>omega)|(simp [*]<;>omega))) rfl rfl<| .step (aG ar rfl rfl (by first|rfl|omega|(simp<;>omega)|(simp [*]<;>omega))) rfl rfl<| .step (gr Tryz.underlying23 Tryz.underlying5 aR (by kernel_rfl) rfl rfl (by first|assumption|(simp;done)|(simp [*];done)) (by first|assumption|(simp;done)|(simp [*];done))) rfl rfl<| .done) rfl rfl ?_
    refine ah<|ae ?_
    refine aK rfl (fun hc54=>?_) (fun hc54=>?_)
    ·have h54 : (!(bj L i == zD) && bj L i == m) = true := hc54
     refine af<|ai<|s1 ((aa rfl).v (v':= .i .i64 0) rfl) rfl<|s1 ((aa rfl).v (v':= .i .i64 0) rfl) rfl ?_
     refine ah<|ae<|aB<|aN ?_
     refine aC (rs:= [.tmp 10,.tmp 11]) rfl (aA rfl (aA rfl az)) ?_
     exact iB (BB h54)
    ·have h54 : (!(bj L i == zD) && bj L i == m) = false := hc54
     refine aE<|ae<|af<|ai<|s1 (aG ar rfl rfl (by first|rfl|omega|(simp<;>omega)|(simp [*]<;>omega))) rfl ?_
     refine aj rfl (aF false rfl (.cons (.pure pu) (.nil)) (sN m hm) pu (.inl rfl) rfl ?_)
     refine s1 (aa rfl) rfl ?_
     refine ah<|ae<|af<|ai ?_
     refine aj rfl (ey 57 rfl Tryz.underlying30 an rfl rfl rfl rfl rfl ?_)
     refine s1 (aa rfl) rfl<|s1 (a7 Tryz.underlying30 rfl rfl rfl) rfl ?_
     refine aj rfl (gD 60 rfl true rfl (.cons (.sl rfl rfl rfl rfl (aW.pure ak) ak) (.cons (.pure pu) .nil)) (DL) ak (.inr eX) rfl ?_)
     refine s1 (aa rfl) rfl ?_
     refine ah<|ae<|af<|af<|ai<|s1 (aG ar rfl rfl (by first|rfl|omega|(simp<;>omega)|(simp [*]<;>omega))) rfl<|s1 (aG ar rfl rfl (by first|rfl|omega|(simp<;>omega)|(simp [*]<;>omega))) rfl<|s1 (nP Tryz.underlying23 Tryz.underlying5 aR (by kernel_rfl) rfl rfl (by first|assumption|(simp;done)|(simp [*];done)) (by first|assumption|(simp;done)|(simp [*];done))) rfl ?_
     refine ah<|ae ?_
     refine aK rfl (fun hc63=>?_) (fun hc63=>?_)
     ·have h63 : (bj L i == zD) = false := by simpa using hc63
      refine af<|ai<|s1 (aG ar rfl rfl (by first|rfl|omega|(simp<;>omega)|(simp [*]<;>omega))) rfl ?_
      refine aj rfl (aF false rfl (.cons (.pure pu) (.nil)) (sN (bj L i) hq32) pu (.inl rfl) rfl ?_)
      refine s1 (aa rfl) rfl ?_
      refine ah<|ae<|af<|ai<|s1 (aa rfl) rfl<|s1 (aa rfl) rfl ?_
      refine aj rfl (aF false rfl (.cons (.pure pu) (.cons (.pure pu) (.nil))) (Bd m (bj L i)) pu (.inl rfl) rfl ?_)
      refine ah<|ae ?_
      refine aK rfl (fun hc68=>?_) (fun hc68=>?_)
      ·have h68 : (!(bj L i == zD) && digits m == digits (bj L i)) = true := by rw [h63, hc68]; rfl
       refine af<|ai<|s1 ((aa rfl).v (v':= .i .i64 1) rfl) rfl<|s1 ((aa rfl).v (v':= .i .i64 0) rfl) rfl ?_
       refine ah<|ae<|aB<|aN ?_
       refine aC (rs:= [.tmp 10,.tmp 11]) rfl (aA rfl (aA rfl az)) ?_
       exact iB (BC hver h54 h68)
      ·have h68 : (!(bj L i == zD) && digits m == digits (bj L i)) = false := by rw [h63, hc68]; rfl
       refine kz 17 rfl (v':= .fz 19 ((iC (bj L i)).map nI)) (by rw [B9 h63]) ?_
       refine aE<|ae<|af ?_
       refine cr ⟨_, [], []⟩ 6 4 br (le_refl rfl) ?_
       refine aq 0 [] [(5,none)] (aG ar rfl rfl (by first|rfl|omega|(simp<;>omega)|(simp [*]<;>omega))) rfl rfl ?_
       refine aq 1 [] [(9,none)] (aD Tryz.underlying43 rfl an (by decide) rfl rfl) rfl rfl ?_
       refine aq 2 [1] [(9,none)] (au an rfl rfl rfl) rfl rfl ?_
       refine bL false 3 [0,2] [] aV rfl (.cons (.pure pu) (.cons (.pure pu) (.nil))) (pF x (i:Nat) hx) pu (.inl rfl) rfl rfl ?_
       refine aq 4 [] [(8,none)] (aG ar rfl rfl (by first|rfl|omega|(simp<;>omega)|(simp [*]<;>omega))) rfl rfl ?_
       refine bL false 5 [3,4] [] aV rfl (.cons (.pure pu) (.cons (.pure pu) (.nil))) (rq (b7 x (i:Nat)) m (by simp) hm) pu (.inl rfl) rfl rfl ?_
       refine ct (by kernel_rfl) ?_
       refine s1 (aa rfl) rfl ?_
       refine ah<|ae<|af<|af<|ai<|s1 (aa rfl) rfl<|s1 (a7 Tryz.underlying41 rfl rfl rfl) rfl<|s1 ((aa rfl).v (v':= .i .i64 0) rfl) rfl ?_
       refine ah<|ae<|aI ?_
       refine bD (ι:=Nat) (fun j=> [(9,.p 9 0),(16,.fz 19 ((digits m).map nI)),(17,.fz 19 ((iC (bj L i)).map nI)),(75,a6 (eT (b7 x (i:Nat)) m)),(76,nI 19),(77,nI j)]) (fun j=>⟨[(9,some ([nI i,a6 S,a6 P]))]⟩) (fun j=>j≤19∧∀t,t<j→ik (b7 x (i:Nat)) m (bj L i) S t=false) (fun j=>19 - j) ?_ ?_
       ·exact bC (0) (⟨by omega,fun t ht=>absurd ht (by omega)⟩) [(9,some 9)] hI rfl rfl ⟨⟨_,rfl,.p rfl⟩,⟨_,rfl,.pure pu⟩,⟨_,rfl,.pure pu⟩,⟨_,rfl,.pure pu⟩,⟨_,rfl,.pure pu⟩,⟨_,rfl,.pure pu⟩,trivial⟩ ⟨.inr ⟨_,_,rfl,rfl,.pure ak⟩,trivial⟩
       rintro j ⟨hj,hall⟩
       refine af<|ai<|s1 (aa rfl) rfl ?_
       refine ah<|ae<|af ?_
       refine aK rfl (fun hc78=>?_) (fun hc78=>?_)
       ·have h78 : j < 19 := by have := of_decide_eq_true hc78; omega
        have hown:=tr (b7 x (i:Nat)) m h78
        obtain⟨s,hs⟩:∃s,S[j]? =some s:=⟨_,List.getElem?_eq_getElem (by omega)⟩
        have hs32:=hS s (List.mem_of_getElem? hs)
        have ho32:=jr (tF (b7 x (i:Nat)) j) (dg m j)
        have hkn:=tz (bj L i) j
        have hdm:=l5 m j
        have hso:(eT (b7 x (i:Nat)) m).length=19:=len_signL _ _ 19
        refine aE<|ae<|af<|aI<|af<|ai<|s1 (aa rfl) rfl<|s1 (bb j Tryz.underlying41 ar rfl rfl rfl (by omega) rfl) rfl<|s1 (bp ar rfl rfl (gA (pT _ _) hown) (by rw [List.length_map];exact ho32)) rfl ?_
        refine aj rfl (bg 20 rfl ar rfl rfl ?_)
        refine s1 (aa rfl) rfl ?_
        refine aj rfl (ba ar rfl rfl rfl (by rw [List.length_map];exact ho32) (by first|rfl|omega|(simp<;>omega)|(simp [*]<;>omega)) ?_)
        refine ah<|ae<|af ?_
        rcases Decidable.em (dg m j<jW (bj L i) j)with hcs|hcs
        ·skip
         refine dc 17 br (by kernel_rfl) ?_
         refine t1 (aa rfl) rfl<|t1 (aa rfl) rfl<|t1 (bb j Tryz.underlying30 an rfl rfl rfl (by omega) rfl) rfl<|t1 (au an rfl rfl (lE m j h78)) rfl<|t1 (aa rfl) rfl<|t1 (aa rfl) rfl<|t1 (bb j Tryz.underlying30 an rfl rfl rfl (by omega) rfl) rfl<|t1 (au an rfl rfl (mj _ j h78)) rfl<|t1 ((aa rfl).v (v':= .b true) (congrArg A.b (decide_eq_true (by omega)))) rfl<|t1 (aa rfl) rfl ?_
         refine bB rfl rfl (aD Tryz.underlying43 rfl dO (by decide) rfl rfl) rfl<|bB rfl rfl (au dO rfl rfl rfl) rfl<|bB rfl rfl (aa rfl) rfl<|bB rfl rfl (bb j Tryz.underlying41 ar rfl rfl rfl (by omega) rfl) rfl<|bB rfl rfl (bp ar rfl rfl (gA hS hs) (by rw [List.length_map];exact hs32)) rfl<|bB rfl rfl (aG ar rfl rfl (by rw [List.length_map];exact ho32)) rfl<|bB rfl rfl (gr Tryz.underlying23 Tryz.underlying5 aR (by kernel_rfl) rfl rfl hs32 ho32) rfl ?_
         refine de ?_
         refine s1 (aa rfl) rfl ?_
         refine ah<|ae ?_
         refine aK rfl (fun hc99=>?_) (fun hc99=>?_)
         ·have hb := hc99
          refine af<|ai<|s1 (aa rfl) rfl<|s1 ((aa rfl).v (v':= .i .i64 2) rfl) rfl<|s1 (aa rfl) rfl ?_
          refine ah<|ae<|aB<|bI<|aN<|aN<|bI<|aN ?_
          refine aC (rs:= [.tmp 10,.tmp 11]) rfl (aA rfl (aA rfl az)) ?_
          exact iB (s8 hver h54 h68 h78 ((l3 hcs hs).trans hb) hall)
         ·have hb := hc99
          refine aE<|a8<|ae<|ai<|s1 (aZ _ 1 rfl rfl rfl rfl (by omega)) rfl<|s1 (aa rfl) rfl ?_
          refine ah ?_
          exact bf (j+1) (⟨by omega,mu hall ((l3 hcs hs).trans hb)⟩) (by omega) [(9,some 9)] hI rfl rfl ⟨⟨_,rfl,.p rfl⟩,⟨_,rfl,.pure pu⟩,⟨_,rfl,.pure pu⟩,⟨_,rfl,.pure pu⟩,⟨_,rfl,.pure pu⟩,⟨_,rfl,.pure pu⟩,trivial⟩ ⟨.inr ⟨_,_,rfl,rfl,.pure ak⟩,trivial⟩
        ·skip
         refine dc 17 br (by kernel_rfl) ?_
         refine t1 (aa rfl) rfl<|t1 (aa rfl) rfl<|t1 (bb j Tryz.underlying30 an rfl rfl rfl (by omega) rfl) rfl<|t1 (au an rfl rfl (lE m j h78)) rfl<|t1 (aa rfl) rfl<|t1 (aa rfl) rfl<|t1 (bb j Tryz.underlying30 an rfl rfl rfl (by omega) rfl) rfl<|t1 (au an rfl rfl (mj _ j h78)) rfl<|t1 ((aa rfl).v (v':= .b false) (congrArg A.b (decide_eq_false (by omega)))) rfl<|t1 (aa rfl) rfl ?_
         refine bP rfl rfl rfl rfl<|bP rfl rfl rfl rfl<|bP rfl rfl rfl rfl<|bP rfl rfl rfl rfl<|bP rfl rfl rfl rfl<|bP rfl rfl rfl rfl<|bP rfl rfl rfl rfl ?_
         refine de ?_
         refine s1 (aa rfl) rfl ?_
         refine ah<|ae ?_
         refine bO rfl ?_
         refine aE<|a8<|ae<|ai<|s1 (aZ _ 1 rfl rfl rfl rfl (by omega)) rfl<|s1 (aa rfl) rfl ?_
         refine ah ?_
         exact bf (j+1) (⟨by omega,mu hall (sw hcs)⟩) (by omega) [(9,some 9)] hI rfl rfl ⟨⟨_,rfl,.p rfl⟩,⟨_,rfl,.pure pu⟩,⟨_,rfl,.pure pu⟩,⟨_,rfl,.pure pu⟩,⟨_,rfl,.pure pu⟩,⟨_,rfl,.pure pu⟩,trivial⟩ ⟨.inr ⟨_,_,rfl,rfl,.pure ak⟩,trivial⟩
       ·have h78 : j = 19 := by have := of_decide_eq_false hc78; omega
        subst h78
        refine bx<|aM<|aM<|bA<|ae<|af<|ai<|s1 ((aa rfl).v (v':= .i .i64 3) rfl) rfl<|s1 ((aa rfl).v (v':= .i .i64 0) rfl) rfl ?_
        refine ah<|ae<|aB ?_
        refine aC (rs:= [.tmp 10,.tmp 11]) rfl (aA rfl (aA rfl az)) ?_
        exact iB (s7 hver h54 h68 hall)
     ·have h63 : (bj L i == zD) = true := by simpa using hc63
      have h68:(!(bj L i==zD)&&digits m==digits (bj L i))=false:=by rw [h63];rfl
      refine fQ 17 rfl rfl ak (cm (by simp) rfl) ?_
      refine kz 17 rfl (v':= .fz 19 ((iC (bj L i)).map nI)) (by rw [Ca h63];rfl) ?_
      refine aE<|ae<|af ?_
      refine cr ⟨_, [], []⟩ 6 4 br (le_refl rfl) ?_
      refine aq 0 [] [(5,none)] (aG ar rfl rfl (by first|rfl|omega|(simp<;>omega)|(simp [*]<;>omega))) rfl rfl ?_
      refine aq 1 [] [(9,none)] (aD Tryz.underlying43 rfl an (by decide) rfl rfl) rfl rfl ?_
      refine aq 2 [1] [(9,none)] (au an rfl rfl rfl) rfl rfl ?_
      refine bL false 3 [0,2] [] aV rfl (.cons (.pure pu) (.cons (.pure pu) (.nil))) (pF x (i:Nat) hx) pu (.inl rfl) rfl rfl ?_
      refine aq 4 [] [(8,none)] (aG ar rfl rfl (by first|rfl|omega|(simp<;>omega)|(simp [*]<;>omega))) rfl rfl ?_
      refine bL false 5 [3,4] [] aV rfl (.cons (.pure pu) (.cons (.pure pu) (.nil))) (rq (b7 x (i:Nat)) m (by simp) hm) pu (.inl rfl) rfl rfl ?_
      refine ct (by kernel_rfl) ?_
      refine s1 (aa rfl) rfl ?_
      refine ah<|ae<|af<|af<|ai<|s1 (aa rfl) rfl<|s1 (a7 Tryz.underlying41 rfl rfl rfl) rfl<|s1 ((aa rfl).v (v':= .i .i64 0) rfl) rfl ?_
      refine ah<|ae<|aI ?_
      refine bD (ι:=Nat) (fun j=> [(9,.p 9 0),(16,.fz 19 ((digits m).map nI)),(17,.fz 19 ((iC (bj L i)).map nI)),(75,a6 (eT (b7 x (i:Nat)) m)),(76,nI 19),(77,nI j)]) (fun j=>⟨[(9,some ([nI i,a6 S,a6 P]))]⟩) (fun j=>j≤19∧∀t,t<j→ik (b7 x (i:Nat)) m (bj L i) S t=false) (fun j=>19 - j) ?_ ?_
      ·exact bC (0) (⟨by omega,fun t ht=>absurd ht (by omega)⟩) [(9,some 9)] hI rfl rfl ⟨⟨_,rfl,.p rfl⟩,⟨_,rfl,.pure pu⟩,⟨_,rfl,.pure pu⟩,⟨_,rfl,.pure pu⟩,⟨_,rfl,.pure pu⟩,⟨_,rfl,.pure pu⟩,trivial⟩ ⟨.inr ⟨_,_,rfl,rfl,.pure ak⟩,trivial⟩
      rintro j ⟨hj,hall⟩
      refine af<|ai<|s1 (aa rfl) rfl ?_
      refine ah<|ae<|af ?_
      refine aK rfl (fun hc78=>?_) (fun hc78=>?_)
      ·have h78 : j < 19 := by have := of_decide_eq_true hc78; omega
       have hown:=tr (b7 x (i:Nat)) m h78
       obtain⟨s,hs⟩:∃s,S[j]? =some s:=⟨_,List.getElem?_eq_getElem (by omega)⟩
       have hs32:=hS s (List.mem_of_getElem? hs)
       have ho32:=jr (tF (b7 x (i:Nat)) j) (dg m j)
       have hkn:=tz (bj L i) j
       have hdm:=l5 m j
       have hso:(eT (b7 x (i:Nat)) m).length=19:=len_signL _ _ 19
       refine aE<|ae<|af<|aI<|af<|ai<|s1 (aa rfl) rfl<|s1 (bb j Tryz.underlying41 ar rfl rfl rfl (by omega) rfl) rfl<|s1 (bp ar rfl rfl (gA (pT _ _) hown) (by rw [List.length_map];exact ho32)) rfl ?_
       refine aj rfl (bg 20 rfl ar rfl rfl ?_)
       refine s1 (aa rfl) rfl ?_
       refine aj rfl (ba ar rfl rfl rfl (by rw [List.length_map];exact ho32) (by first|rfl|omega|(simp<;>omega)|(simp [*]<;>omega)) ?_)
       refine ah<|ae<|af ?_
       rcases Decidable.em (dg m j<jW (bj L i) j)with hcs|hcs
       ·skip
        refine dc 17 br (by kernel_rfl) ?_
        refine t1 (aa rfl) rfl<|t1 (aa rfl) rfl<|t1 (bb j Tryz.underlying30 an rfl rfl rfl (by omega) rfl) rfl<|t1 (au an rfl rfl (lE m j h78)) rfl<|t1 (aa rfl) rfl<|t1 (aa rfl) rfl<|t1 (bb j Tryz.underlying30 an rfl rfl rfl (by omega) rfl) rfl<|t1 (au an rfl rfl (mj _ j h78)) rfl<|t1 ((aa rfl).v (v':= .b true) (congrArg A.b (decide_eq_true (by omega)))) rfl<|t1 (aa rfl) rfl ?_
        refine bB rfl rfl (aD Tryz.underlying43 rfl dO (by decide) rfl rfl) rfl<|bB rfl rfl (au dO rfl rfl rfl) rfl<|bB rfl rfl (aa rfl) rfl<|bB rfl rfl (bb j Tryz.underlying41 ar rfl rfl rfl (by omega) rfl) rfl<|bB rfl rfl (bp ar rfl rfl (gA hS hs) (by rw [List.length_map];exact hs32)) rfl<|bB rfl rfl (aG ar rfl rfl (by rw [List.length_map];exact ho32)) rfl<|bB rfl rfl (gr Tryz.underlying23 Tryz.underlying5 aR (by kernel_rfl) rfl rfl hs32 ho32) rfl ?_
        refine de ?_
        refine s1 (aa rfl) rfl ?_
        refine ah<|ae ?_
        refine aK rfl (fun hc99=>?_) (fun hc99=>?_)
        ·have hb := hc99
         refine af<|ai<|s1 (aa rfl) rfl<|s1 ((aa rfl).v (v':= .i .i64 2) rfl) rfl<|s1 (aa rfl) rfl ?_
         refine ah<|ae<|aB<|bI<|aN<|aN<|bI<|aN ?_
         refine aC (rs:= [.tmp 10,.tmp 11]) rfl (aA rfl (aA rfl az)) ?_
         exact iB (s8 hver h54 h68 h78 ((l3 hcs hs).trans hb) hall)
        ·have hb := hc99
         refine aE<|a8<|ae<|ai<|s1 (aZ _ 1 rfl rfl rfl rfl (by omega)) rfl<|s1 (aa rfl) rfl ?_
         refine ah ?_
         exact bf (j+1) (⟨by omega,mu hall ((l3 hcs hs).trans hb)⟩) (by omega) [(9,some 9)] hI rfl rfl ⟨⟨_,rfl,.p rfl⟩,⟨_,rfl,.pure pu⟩,⟨_,rfl,.pure pu⟩,⟨_,rfl,.pure pu⟩,⟨_,rfl,.pure pu⟩,⟨_,rfl,.pure pu⟩,trivial⟩ ⟨.inr ⟨_,_,rfl,rfl,.pure ak⟩,trivial⟩
       ·skip
        refine dc 17 br (by kernel_rfl) ?_
        refine t1 (aa rfl) rfl<|t1 (aa rfl) rfl<|t1 (bb j Tryz.underlying30 an rfl rfl rfl (by omega) rfl) rfl<|t1 (au an rfl rfl (lE m j h78)) rfl<|t1 (aa rfl) rfl<|t1 (aa rfl) rfl<|t1 (bb j Tryz.underlying30 an rfl rfl rfl (by omega) rfl) rfl<|t1 (au an rfl rfl (mj _ j h78)) rfl<|t1 ((aa rfl).v (v':= .b false) (congrArg A.b (decide_eq_false (by omega)))) rfl<|t1 (aa rfl) rfl ?_
        refine bP rfl rfl rfl rfl<|bP rfl rfl rfl rfl<|bP rfl rfl rfl rfl<|bP rfl rfl rfl rfl<|bP rfl rfl rfl rfl<|bP rfl rfl rfl rfl<|bP rfl rfl rfl rfl ?_
        refine de ?_
        refine s1 (aa rfl) rfl ?_
        refine ah<|ae ?_
        refine bO rfl ?_
        refine aE<|a8<|ae<|ai<|s1 (aZ _ 1 rfl rfl rfl rfl (by omega)) rfl<|s1 (aa rfl) rfl ?_
        refine ah ?_
        exact bf (j+1) (⟨by omega,mu hall (sw hcs)⟩) (by omega) [(9,some 9)] hI rfl rfl ⟨⟨_,rfl,.p rfl⟩,⟨_,rfl,.pure pu⟩,⟨_,rfl,.pure pu⟩,⟨_,rfl,.pure pu⟩,⟨_,rfl,.pure pu⟩,⟨_,rfl,.pure pu⟩,trivial⟩ ⟨.inr ⟨_,_,rfl,rfl,.pure ak⟩,trivial⟩
      ·have h78 : j = 19 := by have := of_decide_eq_false hc78; omega
       subst h78
       refine bx<|aM<|aM<|bA<|ae<|af<|ai<|s1 ((aa rfl).v (v':= .i .i64 3) rfl) rfl<|s1 ((aa rfl).v (v':= .i .i64 0) rfl) rfl ?_
       refine ah<|ae<|aB ?_
       refine aC (rs:= [.tmp 10,.tmp 11]) rfl (aA rfl (aA rfl az)) ?_
       exact iB (s7 hver h54 h68 hall)
   ·have h41 : ¬ i < L.length := by have := of_decide_eq_false hc41; omega
    refine aE<|ae<|af<|af ?_
    refine cI 14 rfl (cs':=(bj L i).map u8) (by rw [MP h41];exact yN) ?_
    refine cI 15 rfl (cs':=zD.map u8) yN ?_
    refine ai<|s1 (aG ar rfl rfl (by first|rfl|omega|(simp<;>omega)|(simp [*]<;>omega))) rfl<|s1 (aG ar rfl rfl (by first|rfl|omega|(simp<;>omega)|(simp [*]<;>omega))) rfl<|s1 (nP Tryz.underlying23 Tryz.underlying5 aR (by kernel_rfl) rfl rfl (by first|assumption|(simp;done)|(simp [*];done)) (by first|assumption|(simp;done)|(simp [*];done))) rfl<|s1 (aa rfl) rfl ?_
    refine cT 3 rfl rfl rfl rfl (fun hb50=> .step (aG ar rfl rfl (by first|rfl|omega|(simp<;>omega)|(simp [*]<;>omega))) rfl rfl<| .step (aG ar rfl rfl (by first|rfl|omega|(simp<;>omega)|(simp [*]<;>omega))) rfl rfl<| .step (gr Tryz.underlying23 Tryz.underlying5 aR (by kernel_rfl) rfl rfl (by first|assumption|(simp;done)|(simp [*];done)) (by first|assumption|(simp;done)|(simp [*];done))) rfl rfl<| .done) rfl rfl ?_
    refine ah<|ae ?_
    refine aK rfl (fun hc54=>?_) (fun hc54=>?_)
    ·have h54 : (!(bj L i == zD) && bj L i == m) = true := hc54
     refine af<|ai<|s1 ((aa rfl).v (v':= .i .i64 0) rfl) rfl<|s1 ((aa rfl).v (v':= .i .i64 0) rfl) rfl ?_
     refine ah<|ae<|aB<|aN ?_
     refine aC (rs:= [.tmp 10,.tmp 11]) rfl (aA rfl (aA rfl az)) ?_
     exact iB (BB h54)
    ·have h54 : (!(bj L i == zD) && bj L i == m) = false := hc54
     refine aE<|ae<|af<|ai<|s1 (aG ar rfl rfl (by first|rfl|omega|(simp<;>omega)|(simp [*]<;>omega))) rfl ?_
     refine aj rfl (aF false rfl (.cons (.pure pu) (.nil)) (sN m hm) pu (.inl rfl) rfl ?_)
     refine s1 (aa rfl) rfl ?_
     refine ah<|ae<|af<|ai ?_
     refine aj rfl (ey 57 rfl Tryz.underlying30 an rfl rfl rfl rfl rfl ?_)
     refine s1 (aa rfl) rfl<|s1 (a7 Tryz.underlying30 rfl rfl rfl) rfl ?_
     refine aj rfl (gD 60 rfl true rfl (.cons (.sl rfl rfl rfl rfl (aW.pure ak) ak) (.cons (.pure pu) .nil)) (DL) ak (.inr eX) rfl ?_)
     refine s1 (aa rfl) rfl ?_
     refine ah<|ae<|af<|af<|ai<|s1 (aG ar rfl rfl (by first|rfl|omega|(simp<;>omega)|(simp [*]<;>omega))) rfl<|s1 (aG ar rfl rfl (by first|rfl|omega|(simp<;>omega)|(simp [*]<;>omega))) rfl<|s1 (nP Tryz.underlying23 Tryz.underlying5 aR (by kernel_rfl) rfl rfl (by first|assumption|(simp;done)|(simp [*];done)) (by first|assumption|(simp;done)|(simp [*];done))) rfl ?_
     refine ah<|ae ?_
     refine aK rfl (fun hc63=>?_) (fun hc63=>?_)
     ·have h63 : (bj L i == zD) = false := by simpa using hc63
      refine af<|ai<|s1 (aG ar rfl rfl (by first|rfl|omega|(simp<;>omega)|(simp [*]<;>omega))) rfl ?_
      refine aj rfl (aF false rfl (.cons (.pure pu) (.nil)) (sN (bj L i) hq32) pu (.inl rfl) rfl ?_)
      refine s1 (aa rfl) rfl ?_
      refine ah<|ae<|af<|ai<|s1 (aa rfl) rfl<|s1 (aa rfl) rfl ?_
      refine aj rfl (aF false rfl (.cons (.pure pu) (.cons (.pure pu) (.nil))) (Bd m (bj L i)) pu (.inl rfl) rfl ?_)
      refine ah<|ae ?_
      refine aK rfl (fun hc68=>?_) (fun hc68=>?_)
      ·have h68 : (!(bj L i == zD) && digits m == digits (bj L i)) = true := by rw [h63, hc68]; rfl
       refine af<|ai<|s1 ((aa rfl).v (v':= .i .i64 1) rfl) rfl<|s1 ((aa rfl).v (v':= .i .i64 0) rfl) rfl ?_
       refine ah<|ae<|aB<|aN ?_
       refine aC (rs:= [.tmp 10,.tmp 11]) rfl (aA rfl (aA rfl az)) ?_
       exact iB (BC hver h54 h68)
      ·have h68 : (!(bj L i == zD) && digits m == digits (bj L i)) = false := by rw [h63, hc68]; rfl
       refine kz 17 rfl (v':= .fz 19 ((iC (bj L i)).map nI)) (by rw [B9 h63]) ?_
       refine aE<|ae<|af ?_
       refine cr ⟨_, [], []⟩ 6 4 br (le_refl rfl) ?_
       refine aq 0 [] [(5,none)] (aG ar rfl rfl (by first|rfl|omega|(simp<;>omega)|(simp [*]<;>omega))) rfl rfl ?_
       refine aq 1 [] [(9,none)] (aD Tryz.underlying43 rfl an (by decide) rfl rfl) rfl rfl ?_
       refine aq 2 [1] [(9,none)] (au an rfl rfl rfl) rfl rfl ?_
       refine bL false 3 [0,2] [] aV rfl (.cons (.pure pu) (.cons (.pure pu) (.nil))) (pF x (i:Nat) hx) pu (.inl rfl) rfl rfl ?_
       refine aq 4 [] [(8,none)] (aG ar rfl rfl (by first|rfl|omega|(simp<;>omega)|(simp [*]<;>omega))) rfl rfl ?_
       refine bL false 5 [3,4] [] aV rfl (.cons (.pure pu) (.cons (.pure pu) (.nil))) (rq (b7 x (i:Nat)) m (by simp) hm) pu (.inl rfl) rfl rfl ?_
       refine ct (by kernel_rfl) ?_
       refine s1 (aa rfl) rfl ?_
       refine ah<|ae<|af<|af<|ai<|s1 (aa rfl) rfl<|s1 (a7 Tryz.underlying41 rfl rfl rfl) rfl<|s1 ((aa rfl).v (v':= .i .i64 0) rfl) rfl ?_
       refine ah<|ae<|aI ?_
       refine bD (ι:=Nat) (fun j=> [(9,.p 9 0),(16,.fz 19 ((digits m).map nI)),(17,.fz 19 ((iC (bj L i)).map nI)),(75,a6 (eT (b7 x (i:Nat)) m)),(76,nI 19),(77,nI j)]) (fun j=>⟨[(9,some ([nI i,a6 S,a6 P]))]⟩) (fun j=>j≤19∧∀t,t<j→ik (b7 x (i:Nat)) m (bj L i) S t=false) (fun j=>19 - j) ?_ ?_
       ·exact bC (0) (⟨by omega,fun t ht=>absurd ht (by omega)⟩) [(9,some 9)] hI rfl rfl ⟨⟨_,rfl,.p rfl⟩,⟨_,rfl,.pure pu⟩,⟨_,rfl,.pure pu⟩,⟨_,rfl,.pure pu⟩,⟨_,rfl,.pure pu⟩,⟨_,rfl,.pure pu⟩,trivial⟩ ⟨.inr ⟨_,_,rfl,rfl,.pure ak⟩,trivial⟩
       rintro j ⟨hj,hall⟩
       refine af<|ai<|s1 (aa rfl) rfl ?_
       refine ah<|ae<|af ?_
       refine aK rfl (fun hc78=>?_) (fun hc78=>?_)
       ·have h78 : j < 19 := by have := of_decide_eq_true hc78; omega
        have hown:=tr (b7 x (i:Nat)) m h78
        obtain⟨s,hs⟩:∃s,S[j]? =some s:=⟨_,List.getElem?_eq_getElem (by omega)⟩
        have hs32:=hS s (List.mem_of_getElem? hs)
        have ho32:=jr (tF (b7 x (i:Nat)) j) (dg m j)
        have hkn:=tz (bj L i) j
        have hdm:=l5 m j
        have hso:(eT (b7 x (i:Nat)) m).length=19:=len_signL _ _ 19
        refine aE<|ae<|af<|aI<|af<|ai<|s1 (aa rfl) rfl<|s1 (bb j Tryz.underlying41 ar rfl rfl rfl (by omega) rfl) rfl<|s1 (bp ar rfl rfl (gA (pT _ _) hown) (by rw [List.length_map];exact ho32)) rfl ?_
        refine aj rfl (bg 20 rfl ar rfl rfl ?_)
        refine s1 (aa rfl) rfl ?_
        refine aj rfl (ba ar rfl rfl rfl (by rw [List.length_map];exact ho32) (by first|rfl|omega|(simp<;>omega)|(simp [*]<;>omega)) ?_)
        refine ah<|ae<|af ?_
        rcases Decidable.em (dg m j<jW (bj L i) j)with hcs|hcs
        ·skip
         refine dc 17 br (by kernel_rfl) ?_
         refine t1 (aa rfl) rfl<|t1 (aa rfl) rfl<|t1 (bb j Tryz.underlying30 an rfl rfl rfl (by omega) rfl) rfl<|t1 (au an rfl rfl (lE m j h78)) rfl<|t1 (aa rfl) rfl<|t1 (aa rfl) rfl<|t1 (bb j Tryz.underlying30 an rfl rfl rfl (by omega) rfl) rfl<|t1 (au an rfl rfl (mj _ j h78)) rfl<|t1 ((aa rfl).v (v':= .b true) (congrArg A.b (decide_eq_true (by omega)))) rfl<|t1 (aa rfl) rfl ?_
         refine bB rfl rfl (aD Tryz.underlying43 rfl dO (by decide) rfl rfl) rfl<|bB rfl rfl (au dO rfl rfl rfl) rfl<|bB rfl rfl (aa rfl) rfl<|bB rfl rfl (bb j Tryz.underlying41 ar rfl rfl rfl (by omega) rfl) rfl<|bB rfl rfl (bp ar rfl rfl (gA hS hs) (by rw [List.length_map];exact hs32)) rfl<|bB rfl rfl (aG ar rfl rfl (by rw [List.length_map];exact ho32)) rfl<|bB rfl rfl (gr Tryz.underlying23 Tryz.underlying5 aR (by kernel_rfl) rfl rfl hs32 ho32) rfl ?_
         refine de ?_
         refine s1 (aa rfl) rfl ?_
         refine ah<|ae ?_
         refine aK rfl (fun hc99=>?_) (fun hc99=>?_)
         ·have hb := hc99
          refine af<|ai<|s1 (aa rfl) rfl<|s1 ((aa rfl).v (v':= .i .i64 2) rfl) rfl<|s1 (aa rfl) rfl ?_
          refine ah<|ae<|aB<|bI<|aN<|aN<|bI<|aN ?_
          refine aC (rs:= [.tmp 10,.tmp 11]) rfl (aA rfl (aA rfl az)) ?_
          exact iB (s8 hver h54 h68 h78 ((l3 hcs hs).trans hb) hall)
         ·have hb := hc99
          refine aE<|a8<|ae<|ai<|s1 (aZ _ 1 rfl rfl rfl rfl (by omega)) rfl<|s1 (aa rfl) rfl ?_
          refine ah ?_
          exact bf (j+1) (⟨by omega,mu hall ((l3 hcs hs).trans hb)⟩) (by omega) [(9,some 9)] hI rfl rfl ⟨⟨_,rfl,.p rfl⟩,⟨_,rfl,.pure pu⟩,⟨_,rfl,.pure pu⟩,⟨_,rfl,.pure pu⟩,⟨_,rfl,.pure pu⟩,⟨_,rfl,.pure pu⟩,trivial⟩ ⟨.inr ⟨_,_,rfl,rfl,.pure ak⟩,trivial⟩
        ·skip
         refine dc 17 br (by kernel_rfl) ?_
         refine t1 (aa rfl) rfl<|t1 (aa rfl) rfl<|t1 (bb j Tryz.underlying30 an rfl rfl rfl (by omega) rfl) rfl<|t1 (au an rfl rfl (lE m j h78)) rfl<|t1 (aa rfl) rfl<|t1 (aa rfl) rfl<|t1 (bb j Tryz.underlying30 an rfl rfl rfl (by omega) rfl) rfl<|t1 (au an rfl rfl (mj _ j h78)) rfl<|t1 ((aa rfl).v (v':= .b false) (congrArg A.b (decide_eq_false (by omega)))) rfl<|t1 (aa rfl) rfl ?_
         refine bP rfl rfl rfl rfl<|bP rfl rfl rfl rfl<|bP rfl rfl rfl rfl<|bP rfl rfl rfl rfl<|bP rfl rfl rfl rfl<|bP rfl rfl rfl rfl<|bP rfl rfl rfl rfl ?_
         refine de ?_
         refine s1 (aa rfl) rfl ?_
         refine ah<|ae ?_
         refine bO rfl ?_
         refine aE<|a8<|ae<|ai<|s1 (aZ _ 1 rfl rfl rfl rfl (by omega)) rfl<|s1 (aa rfl) rfl ?_
         refine ah ?_
         exact bf (j+1) (⟨by omega,mu hall (sw hcs)⟩) (by omega) [(9,some 9)] hI rfl rfl ⟨⟨_,rfl,.p rfl⟩,⟨_,rfl,.pure pu⟩,⟨_,rfl,.pure pu⟩,⟨_,rfl,.pure pu⟩,⟨_,rfl,.pure pu⟩,⟨_,rfl,.pure pu⟩,trivial⟩ ⟨.inr ⟨_,_,rfl,rfl,.pure ak⟩,trivial⟩
       ·have h78 : j = 19 := by have := of_decide_eq_false hc78; omega
        subst h78
        refine bx<|aM<|aM<|bA<|ae<|af<|ai<|s1 ((aa rfl).v (v':= .i .i64 3) rfl) rfl<|s1 ((aa rfl).v (v':= .i .i64 0) rfl) rfl ?_
        refine ah<|ae<|aB ?_
        refine aC (rs:= [.tmp 10,.tmp 11]) rfl (aA rfl (aA rfl az)) ?_
        exact iB (s7 hver h54 h68 hall)
     ·have h63 : (bj L i == zD) = true := by simpa using hc63
      have h68:(!(bj L i==zD)&&digits m==digits (bj L i))=false:=by rw [h63];rfl
      refine fQ 17 rfl rfl ak (cm (by simp) rfl) ?_
      refine kz 17 rfl (v':= .fz 19 ((iC (bj L i)).map nI)) (by rw [Ca h63];rfl) ?_
      refine aE<|ae<|af ?_
      refine cr ⟨_, [], []⟩ 6 4 br (le_refl rfl) ?_
      refine aq 0 [] [(5,none)] (aG ar rfl rfl (by first|rfl|omega|(simp<;>omega)|(simp [*]<;>omega))) rfl rfl ?_
      refine aq 1 [] [(9,none)] (aD Tryz.underlying43 rfl an (by decide) rfl rfl) rfl rfl ?_
      refine aq 2 [1] [(9,none)] (au an rfl rfl rfl) rfl rfl ?_
      refine bL false 3 [0,2] [] aV rfl (.cons (.pure pu) (.cons (.pure pu) (.nil))) (pF x (i:Nat) hx) pu (.inl rfl) rfl rfl ?_
      refine aq 4 [] [(8,none)] (aG ar rfl rfl (by first|rfl|omega|(simp<;>omega)|(simp [*]<;>omega))) rfl rfl ?_
      refine bL false 5 [3,4] [] aV rfl (.cons (.pure pu) (.cons (.pure pu) (.nil))) (rq (b7 x (i:Nat)) m (by simp) hm) pu (.inl rfl) rfl rfl ?_
      refine ct (by kernel_rfl) ?_
      refine s1 (aa rfl) rfl ?_
      refine ah<|ae<|af<|af<|ai<|s1 (aa rfl) rfl<|s1 (a7 Tryz.underlying41 rfl rfl rfl) rfl<|s1 ((aa rfl).v (v':= .i .i64 0) rfl) rfl ?_
      refine ah<|ae<|aI ?_
      refine bD (ι:=Nat) (fun j=> [(9,.p 9 0),(16,.fz 19 ((digits m).map nI)),(17,.fz 19 ((iC (bj L i)).map nI)),(75,a6 (eT (b7 x (i:Nat)) m)),(76,nI 19),(77,nI j)]) (fun j=>⟨[(9,some ([nI i,a6 S,a6 P]))]⟩) (fun j=>j≤19∧∀t,t<j→ik (b7 x (i:Nat)) m (bj L i) S t=false) (fun j=>19 - j) ?_ ?_
      ·exact bC (0) (⟨by omega,fun t ht=>absurd ht (by omega)⟩) [(9,some 9)] hI rfl rfl ⟨⟨_,rfl,.p rfl⟩,⟨_,rfl,.pure pu⟩,⟨_,rfl,.pure pu⟩,⟨_,rfl,.pure pu⟩,⟨_,rfl,.pure pu⟩,⟨_,rfl,.pure pu⟩,trivial⟩ ⟨.inr ⟨_,_,rfl,rfl,.pure ak⟩,trivial⟩
      rintro j ⟨hj,hall⟩
      refine af<|ai<|s1 (aa rfl) rfl ?_
      refine ah<|ae<|af ?_
      refine aK rfl (fun hc78=>?_) (fun hc78=>?_)
      ·have h78 : j < 19 := by have := of_decide_eq_true hc78; omega
       have hown:=tr (b7 x (i:Nat)) m h78
       obtain⟨s,hs⟩:∃s,S[j]? =some s:=⟨_,List.getElem?_eq_getElem (by omega)⟩
       have hs32:=hS s (List.mem_of_getElem? hs)
       have ho32:=jr (tF (b7 x (i:Nat)) j) (dg m j)
       have hkn:=tz (bj L i) j
       have hdm:=l5 m j
       have hso:(eT (b7 x (i:Nat)) m).length=19:=len_signL _ _ 19
       refine aE<|ae<|af<|aI<|af<|ai<|s1 (aa rfl) rfl<|s1 (bb j Tryz.underlying41 ar rfl rfl rfl (by omega) rfl) rfl<|s1 (bp ar rfl rfl (gA (pT _ _) hown) (by rw [List.length_map];exact ho32)) rfl ?_
       refine aj rfl (bg 20 rfl ar rfl rfl ?_)
       refine s1 (aa rfl) rfl ?_
       refine aj rfl (ba ar rfl rfl rfl (by rw [List.length_map];exact ho32) (by first|rfl|omega|(simp<;>omega)|(simp [*]<;>omega)) ?_)
       refine ah<|ae<|af ?_
       rcases Decidable.em (dg m j<jW (bj L i) j)with hcs|hcs
       ·skip
        refine dc 17 br (by kernel_rfl) ?_
        refine t1 (aa rfl) rfl<|t1 (aa rfl) rfl<|t1 (bb j Tryz.underlying30 an rfl rfl rfl (by omega) rfl) rfl<|t1 (au an rfl rfl (lE m j h78)) rfl<|t1 (aa rfl) rfl<|t1 (aa rfl) rfl<|t1 (bb j Tryz.underlying30 an rfl rfl rfl (by omega) rfl) rfl<|t1 (au an rfl rfl (mj _ j h78)) rfl<|t1 ((aa rfl).v (v':= .b true) (congrArg A.b (decide_eq_true (by omega)))) rfl<|t1 (aa rfl) rfl ?_
        refine bB rfl rfl (aD Tryz.underlying43 rfl dO (by decide) rfl rfl) rfl<|bB rfl rfl (au dO rfl rfl rfl) rfl<|bB rfl rfl (aa rfl) rfl<|bB rfl rfl (bb j Tryz.underlying41 ar rfl rfl rfl (by omega) rfl) rfl<|bB rfl rfl (bp ar rfl rfl (gA hS hs) (by rw [List.length_map];exact hs32)) rfl<|bB rfl rfl (aG ar rfl rfl (by rw [List.length_map];exact ho32)) rfl<|bB rfl rfl (gr Tryz.underlying23 Tryz.underlying5 aR (by kernel_rfl) rfl rfl hs32 ho32) rfl ?_
        refine de ?_
        refine s1 (aa rfl) rfl ?_
        refine ah<|ae ?_
        refine aK rfl (fun hc99=>?_) (fun hc99=>?_)
        ·have hb := hc99
         refine af<|ai<|s1 (aa rfl) rfl<|s1 ((aa rfl).v (v':= .i .i64 2) rfl) rfl<|s1 (aa rfl) rfl ?_
         refine ah<|ae<|aB<|bI<|aN<|aN<|bI<|aN ?_
         refine aC (rs:= [.tmp 10,.tmp 11]) rfl (aA rfl (aA rfl az)) ?_
         exact iB (s8 hver h54 h68 h78 ((l3 hcs hs).trans hb) hall)
        ·have hb := hc99
         refine aE<|a8<|ae<|ai<|s1 (aZ _ 1 rfl rfl rfl rfl (by omega)) rfl<|s1 (aa rfl) rfl ?_
         refine ah ?_
         exact bf (j+1) (⟨by omega,mu hall ((l3 hcs hs).trans hb)⟩) (by omega) [(9,some 9)] hI rfl rfl ⟨⟨_,rfl,.p rfl⟩,⟨_,rfl,.pure pu⟩,⟨_,rfl,.pure pu⟩,⟨_,rfl,.pure pu⟩,⟨_,rfl,.pure pu⟩,⟨_,rfl,.pure pu⟩,trivial⟩ ⟨.inr ⟨_,_,rfl,rfl,.pure ak⟩,trivial⟩
       ·skip
        refine dc 17 br (by kernel_rfl) ?_
        refine t1 (aa rfl) rfl<|t1 (aa rfl) rfl<|t1 (bb j Tryz.underlying30 an rfl rfl rfl (by omega) rfl) rfl<|t1 (au an rfl rfl (lE m j h78)) rfl<|t1 (aa rfl) rfl<|t1 (aa rfl) rfl<|t1 (bb j Tryz.underlying30 an rfl rfl rfl (by omega) rfl) rfl<|t1 (au an rfl rfl (mj _ j h78)) rfl<|t1 ((aa rfl).v (v':= .b false) (congrArg A.b (decide_eq_false (by omega)))) rfl<|t1 (aa rfl) rfl ?_
        refine bP rfl rfl rfl rfl<|bP rfl rfl rfl rfl<|bP rfl rfl rfl rfl<|bP rfl rfl rfl rfl<|bP rfl rfl rfl rfl<|bP rfl rfl rfl rfl<|bP rfl rfl rfl rfl ?_
        refine de ?_
        refine s1 (aa rfl) rfl ?_
        refine ah<|ae ?_
        refine bO rfl ?_
        refine aE<|a8<|ae<|ai<|s1 (aZ _ 1 rfl rfl rfl rfl (by omega)) rfl<|s1 (aa rfl) rfl ?_
        refine ah ?_
        exact bf (j+1) (⟨by omega,mu hall (sw hcs)⟩) (by omega) [(9,some 9)] hI rfl rfl ⟨⟨_,rfl,.p rfl⟩,⟨_,rfl,.pure pu⟩,⟨_,rfl,.pure pu⟩,⟨_,rfl,.pure pu⟩,⟨_,rfl,.pure pu⟩,⟨_,rfl,.pure pu⟩,trivial⟩ ⟨.inr ⟨_,_,rfl,rfl,.pure ak⟩,trivial⟩
      ·have h78 : j = 19 := by have := of_decide_eq_false hc78; omega
       subst h78
       refine bx<|aM<|aM<|bA<|ae<|af<|ai<|s1 ((aa rfl).v (v':= .i .i64 3) rfl) rfl<|s1 ((aa rfl).v (v':= .i .i64 0) rfl) rfl ?_
       refine ah<|ae<|aB ?_
       refine aC (rs:= [.tmp 10,.tmp 11]) rfl (aA rfl (aA rfl az)) ?_
       exact iB (s7 hver h54 h68 hall)
end Go.Abs.D2
-- E6C
namespace Go.Abs.D2
open Go Go.Eng Go.Abs Go.Proofs
end Go.Abs.D2
-- E6G
namespace Go.Abs.D2
open Go Go.Eng Go.Abs Go.Proofs
theorem Jw (x:List UInt8) (n iss:Int) (ids:List Int) (S:List Sp) (o:List Ep) (hx:x.length=32) (hi:rg iss) (hn:S.length≤maxLen) (hS:∀s∈S,s.ok∧s.ch.length≤maxLen) (hon:o.length≤maxLen) (hoT:nX o):aw Tryz.prog 9 [.ag (x.map u8),.i .i64 n,.i .i64 iss,.fz ids.length (ids.map (A.i .i64)),.fz S.length (jI S),cQ o] (aO (.b true)):=by
 refine enter Tryz.func9 rfl Tryz.ntmps9 (by kernel_rfl) (Nat.le_of_ble_eq_true rfl) fun w0 X0 hI=>?_
 refine af<|ai ?_
 refine aj rfl (bF 6 rfl rfl rfl ?_)
 refine s1 (aa rfl) rfl ?_
 refine ah<|ae<|af<|af<|ai ?_
 refine aj rfl (aF false rfl (.nil) (JW) pu (.inl rfl) rfl ?_)
 refine s1 ((aa rfl).v (v':= .b false) (rfl)) rfl ?_
 refine ah<|ae ?_
 refine bO rfl ?_
 refine aE<|ae<|af<|af ?_
 rcases Ih (l8 n ids S) (lz n o [] [])with hcs|hcs|hcs
 ·skip
  refine ai<|s1 (aa rfl) rfl<|s1 (aa rfl) rfl<|s1 (aa rfl) rfl ?_
  refine aj rfl (aF false rfl (.cons (.pure pu) (.cons (.pure pu) (.cons (.pure pu) (.nil)))) (aw.cast (xv n ids S hn) (congrArg A.b hcs)) pu (.inl rfl) rfl ?_)
  refine s1 ((aa rfl).v (v':= .b true) (rfl)) rfl<|s1 (aa rfl) rfl<|g0 rfl rfl rfl rfl<|g0 rfl rfl rfl rfl<|g0 rfl rfl rfl rfl<|g0 rfl rfl rfl rfl<|s1 (aa rfl) rfl ?_
  refine ah<|ae ?_
  refine cN rfl ?_
  refine af<|ai<|s1 (aa rfl) rfl ?_
  refine ah<|ae<|aB<|aN ?_
  refine aC (rs:= [.tmp 12]) rfl (aA rfl az) ?_
  rfl
 ·obtain ⟨hcs, hcs2⟩ := hcs
  refine ai<|s1 (aa rfl) rfl<|s1 (aa rfl) rfl<|s1 (aa rfl) rfl ?_
  refine aj rfl (aF false rfl (.cons (.pure pu) (.cons (.pure pu) (.cons (.pure pu) (.nil)))) (aw.cast (xv n ids S hn) (congrArg A.b hcs)) pu (.inl rfl) rfl ?_)
  refine s1 ((aa rfl).v (v':= .b false) (rfl)) rfl<|s1 (aa rfl) rfl<|g1 rfl rfl (aa rfl) rfl<|g1 rfl rfl (aa rfl) rfl ?_
  refine ee rfl rfl rfl (aF false rfl (.cons (.pure pu) (.cons (.pure pu) (.cons .nl (.cons .nl .nil)))) (aw.cast (DO n o [] [] hoT hon) (congrArg A.b hcs2)) pu (.inl rfl) rfl ?_)
  refine g1 rfl rfl ((aa rfl).v (v':= .b true) (rfl)) rfl<|s1 (aa rfl) rfl ?_
  refine ah<|ae ?_
  refine cN rfl ?_
  refine af<|ai<|s1 (aa rfl) rfl ?_
  refine ah<|ae<|aB<|aN ?_
  refine aC (rs:= [.tmp 12]) rfl (aA rfl az) ?_
  rfl
 ·obtain ⟨hcs, hcs2⟩ := hcs
  obtain⟨hc,hSl,hn6,hids⟩:=Ig hcs
  have hS1:∀s∈S,s.ok:=fun s hs=>(hS s hs).1
  obtain⟨l,hL⟩:∃l,l=(jA x n iss ids [] S):=⟨_,rfl⟩
  have hlo:c6 l∧l.length≤0+S.length:=by rw [hL];exact Dt hi (fun e he=>by cases he) (by simp;omega) hS1 hc
  obtain⟨hl,hll⟩:=hlo
  have hg:Good x n l:=by rw [hL];exact Dr (I0 x n)
  obtain⟨hoc,_,ho6,_⟩:=Bh hcs2
  have ho:=Ib hcs2 hoT
  refine ai<|s1 (aa rfl) rfl<|s1 (aa rfl) rfl<|s1 (aa rfl) rfl ?_
  refine aj rfl (aF false rfl (.cons (.pure pu) (.cons (.pure pu) (.cons (.pure pu) (.nil)))) (aw.cast (xv n ids S hn) (congrArg A.b hcs)) pu (.inl rfl) rfl ?_)
  refine s1 ((aa rfl).v (v':= .b false) (rfl)) rfl<|s1 (aa rfl) rfl<|g1 rfl rfl (aa rfl) rfl<|g1 rfl rfl (aa rfl) rfl ?_
  refine ee rfl rfl rfl (aF false rfl (.cons (.pure pu) (.cons (.pure pu) (.cons .nl (.cons .nl .nil)))) (aw.cast (DO n o [] [] hoT hon) (congrArg A.b hcs2)) pu (.inl rfl) rfl ?_)
  refine g1 rfl rfl ((aa rfl).v (v':= .b false) (rfl)) rfl<|s1 (aa rfl) rfl ?_
  refine ah<|ae ?_
  refine bO rfl ?_
  refine aE<|ae<|af<|ai<|s1 (aG ar rfl rfl (by rw [List.length_map,hx])) rfl<|s1 (aa rfl) rfl<|s1 (aa rfl) rfl<|s1 (aa rfl) rfl<|s1 (aa rfl) rfl ?_
  refine aj rfl (aF false rfl (.cons (.pure pu) (.cons (.pure pu) (.cons (.pure pu) (.cons (.pure pu) (.cons (.pure pu) (.nil)))))) (aw.cast (JV x n iss ids S hx hi (by omega) hS1 hc (by omega)) (show _=cQ l by rw [hL])) pu (.inl rfl) rfl ?_)
  refine s1 (aa rfl) rfl ?_
  refine ah<|ae<|af ?_
  rcases(Decidable.em (cd n)).symm with hcs|hcs
  ·skip
   refine ai<|s1 (aG ar rfl rfl (by rw [List.length_map,hx])) rfl<|s1 (aa rfl) rfl ?_
   refine aj rfl (aF false rfl (.cons (.pure pu) (.cons (.pure pu) (.nil))) (aw.cast (rk x n hx) (yb hcs)) pu (.inl rfl) rfl ?_)
   refine s1 (aa rfl) rfl<|s1 (aa rfl) rfl<|s1 (aa rfl) rfl ?_
   refine aj rfl (bg 14 rfl ar rfl rfl ?_)
   refine aj rfl (ba ar rfl rfl rfl (by first|rfl|omega|(simp<;>omega)|(simp [*]<;>omega)) (by first|rfl|omega|(simp<;>omega)|(simp [*]<;>omega)) ?_)
   refine s1 (aa rfl) rfl ?_
   refine ah<|ae<|af<|af<|ai<|s1 (aa rfl) rfl<|s1 ((aa rfl).v (v':= .b true) (rfl)) rfl<|s1 (aa rfl) rfl<|g0 rfl rfl rfl rfl<|g0 rfl rfl rfl rfl<|g0 rfl rfl rfl rfl<|g0 rfl rfl rfl rfl<|g0 rfl rfl rfl rfl<|s1 (aa rfl) rfl ?_
   refine ah<|ae ?_
   refine cN rfl ?_
   refine af<|ai<|s1 (aa rfl) rfl ?_
   refine ah<|ae<|aB<|aN ?_
   refine aC (rs:= [.tmp 12]) rfl (aA rfl az) ?_
   rfl
  ·have hsz := hcs
   obtain⟨k,rfl,hk1,hk2⟩:=pI hcs
   have hlk:=Iw hg
   refine ai<|s1 (aG ar rfl rfl (by rw [List.length_map,hx])) rfl<|s1 (aa rfl) rfl ?_
   refine aj rfl (aF false rfl (.cons (.pure pu) (.cons (.pure pu) (.nil))) (aw.cast (rk x k hx) ((rj ..).trans (by rw [decide_eq_true hsz];rfl:_= .tu [.ag ((cq x (k:Int)).map u8),.i .i64 0]))) pu (.inl rfl) rfl ?_)
   refine s1 (aa rfl) rfl<|s1 (aa rfl) rfl<|s1 (aa rfl) rfl ?_
   refine aj rfl (bg 14 rfl ar rfl rfl ?_)
   refine aj rfl (ba ar rfl rfl rfl (by first|rfl|omega|(simp<;>omega)|(simp [*]<;>omega)) (by first|rfl|omega|(simp<;>omega)|(simp [*]<;>omega)) ?_)
   refine s1 (aa rfl) rfl ?_
   refine ah<|ae<|af<|af ?_
   rcases Decidable.em (cz (cq x (k:Int)) k o=0)with hcs|hcs
   ·have hc0 := hcs
    refine ai<|s1 (aa rfl) rfl<|s1 ((aa rfl).v (v':= .b false) (rfl)) rfl<|s1 (aa rfl) rfl<|g1 rfl rfl (aG ar rfl rfl (by simp)) rfl<|g1 rfl rfl (aa rfl) rfl<|g1 rfl rfl (aa rfl) rfl ?_
    refine ee rfl rfl rfl (aF false rfl (.cons (.pure pu) (.cons (.pure pu) (.cons (.pure pu) (.nil)))) (sQ (cq x (k:Int)) k o (by simp) ho (by simp only [maxLen];omega)) pu (.inl rfl) rfl ?_)
    refine g1 rfl rfl ((aa rfl).v (v':= .b false) (congrArg A.b (by rw [hcs];rfl))) rfl<|s1 (aa rfl) rfl ?_
    refine ah<|ae ?_
    refine bO rfl ?_
    refine aE<|ae<|af<|ai<|s1 (aa rfl) rfl<|s1 (aa rfl) rfl ?_
    refine aj rfl (aF false rfl (.cons (.pure pu) (.cons (.pure pu) (.nil))) (Jx l k hl (by simp only [maxLen];omega) (by omega)) pu (.inl rfl) rfl ?_)
    refine s1 (aa rfl) rfl ?_
    refine ah<|ae<|af<|af<|ai<|s1 ((aa rfl).v (v':= .i .i64 0) rfl) rfl ?_
    refine ah<|ae<|aI ?_
    refine bD (ι:=Nat) (fun i=> [(1,nJ k),(5,cQ o),(6,.p 6 0),(13,cQ l),(16,a6 (iu l k)),(17,nJ i)]) (fun i=>⟨[(6,some (x.map u8))]⟩) (fun i=>i≤o.length∧i≤k) (fun i=>k - i) ?_ ?_
    ·exact bC (0) (⟨Nat.zero_le _,Nat.zero_le _⟩) [(6,some 6)] hI rfl rfl ⟨⟨_,rfl,.pure pu⟩,⟨_,rfl,.pure pu⟩,⟨_,rfl,.p rfl⟩,⟨_,rfl,.pure pu⟩,⟨_,rfl,.pure pu⟩,⟨_,rfl,.pure pu⟩,trivial⟩ ⟨.inr ⟨_,_,rfl,rfl,.pure ak⟩,trivial⟩
    rintro i ⟨hio,hik⟩
    refine af<|af<|ai<|s1 (aa rfl) rfl<|s1 (aa rfl) rfl<|s1 (a7 Tryz.underlying24 rfl rfl rfl) rfl<|s1 (aa rfl) rfl<|s1 (aa rfl) rfl ?_
    refine cT 4 rfl rfl rfl rfl (fun hb62=> .step (aa rfl) rfl rfl<| .step (aa rfl) rfl rfl<| .step (a7 Tryz.underlying41 rfl rfl rfl) rfl rfl<| .step (aa rfl) rfl rfl<| .done) rfl rfl ?_
    refine gw 67 rfl (fun hc67=>?_) (fun hc67=>?_)
    ·have h67 : i < o.length ∧ i < k := by simp at hc67; omega
     obtain⟨f,hf⟩:∃f,o[i]? =some f:=⟨_,List.getElem?_eq_getElem h67.1⟩
     have hfo:=ho f (List.mem_of_getElem? hf)
     refine ah<|ae ?_
     refine cN rfl ?_
     refine aE<|ae<|af<|aI<|af<|ai<|s1 (aa rfl) rfl<|s1 (aa rfl) rfl<|s1 (bb i Tryz.underlying24 bu rfl rfl rfl (by omega) rfl) rfl<|s1 (bp bu rfl rfl (gh ho hf) hfo.len) rfl ?_
     refine aj rfl (aF false rfl (.cons (.pure pu) (.nil)) (lq f hfo) pu (.inl rfl) rfl ?_)
     refine aj rfl (bg 18 rfl ar rfl rfl ?_)
     refine aj rfl (ba ar rfl rfl rfl (by first|rfl|omega|(simp<;>omega)|(simp [*]<;>omega)) (by first|rfl|omega|(simp<;>omega)|(simp [*]<;>omega)) ?_)
     refine ah<|ae<|af<|af ?_
     rcases F5 l i (bR f)with hcs|hcs|hcs
     ·have h14 := hcs
      refine dc 11 br (by kernel_rfl) ?_
      refine t1 (aa rfl) rfl<|t1 (aa rfl) rfl<|t1 (a7 Tryz.underlying24 rfl rfl rfl) rfl<|t1 ((aa rfl).v (v':= .b false) (congrArg A.b (decide_eq_false (by omega)))) rfl<|t1 (aa rfl) rfl<|bP rfl rfl rfl rfl<|bP rfl rfl rfl rfl<|bP rfl rfl rfl rfl<|bP rfl rfl rfl rfl<|bP rfl rfl rfl rfl ?_
      refine bP rfl rfl rfl rfl ?_
      refine de ?_
      refine s1 (aa rfl) rfl ?_
      refine ah<|ae ?_
      refine bO rfl ?_
      refine aE<|ae<|af<|af ?_
      refine cr ⟨_, [], []⟩ 14 4 br (le_refl rfl) ?_
      refine aq 0 [] [] (aa rfl) rfl rfl ?_
      refine aq 1 [] [] (aa rfl) rfl rfl ?_
      refine aq 2 [1] [] (a7 Tryz.underlying24 rfl rfl rfl) rfl rfl ?_
      refine aq 3 [0,2] [] ((aa rfl).v (v':= .b false) (congrArg A.b (decide_eq_false (by omega)))) rfl rfl ?_
      refine aq 4 [3] [] (aa rfl) rfl rfl ?_
      refine fJ 5 [4] rfl rfl rfl rfl rfl ?_
      refine fJ 6 [4] rfl rfl rfl rfl rfl ?_
      refine fJ 7 [4,5,6] rfl rfl rfl rfl rfl ?_
      refine fJ 8 [4,7] rfl rfl rfl rfl rfl ?_
      refine fJ 9 [4] rfl rfl rfl rfl rfl ?_
      refine fJ 10 [4] rfl rfl rfl rfl rfl ?_
      refine fJ 11 [4,9,10] rfl rfl rfl rfl rfl ?_
      refine fJ 12 [4,11] rfl rfl rfl rfl rfl ?_
      refine fJ 13 [4,8,12] rfl rfl rfl rfl rfl ?_
      refine ct (by kernel_rfl) ?_
      refine s1 (aa rfl) rfl ?_
      refine ah<|ae ?_
      refine bO rfl ?_
      refine aE<|ae<|af ?_
      refine cr ⟨_, [], []⟩ 14 4 br (le_refl rfl) ?_
      refine aq 0 [] [(6,none)] (aG ar rfl rfl (by rw [List.length_map,hx])) rfl rfl ?_
      refine aq 1 [] [] (aa rfl) rfl rfl ?_
      refine aq 2 [] [] (aa rfl) rfl rfl ?_
      refine aq 3 [] [(18,none)] (aG ar rfl rfl (by simp)) rfl rfl ?_
      refine aq 4 [] [] (aa rfl) rfl rfl ?_
      refine aq 5 [] [] (aa rfl) rfl rfl ?_
      refine aq 6 [4,5] [] (bb i Tryz.underlying24 bu rfl rfl rfl (by omega) rfl) rfl rfl ?_
      refine aq 7 [6] [] (dz Tryz.underlying45 rfl c4 (by decide) rfl rfl) rfl rfl ?_
      refine aq 8 [7] [] (bp c4 rfl rfl (A9 ho hf) rfl) rfl rfl ?_
      refine bL false 9 [0,1,2,3,8] [] aV rfl (.cons (.pure pu) (.cons (.pure pu) (.cons (.pure pu) (.cons (.pure pu) (.cons (.pure pu) (.nil)))))) (aw.cast (B8 x (k:Int) (iu l k) (bR f) f.sg.a f.sg.S f.sg.P hx (nV l k) (by rw [len_digsE];omega) (by simp) hfo.S hfo.P) (wT ..)) pu (.inl rfl) rfl rfl ?_
      refine aq 10 [9] [] (aa rfl) rfl rfl ?_
      refine aq 11 [10] [] (aa rfl) rfl rfl ?_
      refine aq 12 [10] [] (aa rfl) rfl rfl ?_
      refine aq 13 [11] [] (aa rfl) rfl rfl ?_
      refine ct (by kernel_rfl) ?_
      refine s1 (aa rfl) rfl ?_
      refine ah<|ae<|af ?_
      rcases Decidable.em ((fC x (k:Int) (iu l k) (bR f) f.sg.a f.sg.S f.sg.P).1=0)with hcs|hcs
      ·have hdd : bR f = ir l i := Decidable.byContradiction fun h => Bz (l := l) hc0 hf h67.2 h hcs
       refine dc 9 br (by kernel_rfl) ?_
       refine t1 (aa rfl) rfl<|t1 ((aa rfl).v (v':= .b true) (congrArg A.b (beq_iff_eq.2 hcs))) rfl<|t1 (aa rfl) rfl<|bB rfl rfl (aG ar rfl rfl (by simp)) rfl<|bB rfl rfl (aa rfl) rfl<|bB rfl rfl (aa rfl) rfl<|bB rfl rfl (bb i Tryz.underlying41 ar rfl rfl rfl (by rw [len_digsE];omega) rfl) rfl<|bB rfl rfl (bp ar rfl rfl (gA (nV l k) (sO (by omega))) (by rw [List.length_map];exact kH l i)) rfl<|bB rfl rfl (((nP Tryz.underlying23 Tryz.underlying5 aR (by kernel_rfl) rfl rfl (by simp) (kH l i))).v (v':= .b false) (congrArg A.b (by rw [hdd];simp))) rfl ?_
       refine de ?_
       refine s1 (aa rfl) rfl ?_
       refine ah<|ae ?_
       refine bO rfl ?_
       refine aE<|a8<|ae<|ai<|s1 (aa rfl) rfl<|s1 (aZ _ 1 rfl rfl rfl rfl (by omega)) rfl<|s1 (aa rfl) rfl ?_
       refine ah ?_
       exact bf (i+1) (⟨by omega,by omega⟩) (by omega) [(6,some 6)] hI rfl rfl ⟨⟨_,rfl,.pure pu⟩,⟨_,rfl,.pure pu⟩,⟨_,rfl,.p rfl⟩,⟨_,rfl,.pure pu⟩,⟨_,rfl,.pure pu⟩,⟨_,rfl,.pure pu⟩,trivial⟩ ⟨.inr ⟨_,_,rfl,rfl,.pure ak⟩,trivial⟩
      ·skip
       refine dc 9 br (by kernel_rfl) ?_
       refine t1 (aa rfl) rfl<|t1 ((aa rfl).v (v':= .b false) (congrArg A.b (beq_eq_false_iff_ne.2 hcs))) rfl<|t1 (aa rfl) rfl<|bP rfl rfl rfl rfl<|bP rfl rfl rfl rfl<|bP rfl rfl rfl rfl<|bP rfl rfl rfl rfl<|bP rfl rfl rfl rfl<|bP rfl rfl rfl rfl ?_
       refine de ?_
       refine s1 (aa rfl) rfl ?_
       refine ah<|ae ?_
       refine bO rfl ?_
       refine aE<|a8<|ae<|ai<|s1 (aa rfl) rfl<|s1 (aZ _ 1 rfl rfl rfl rfl (by omega)) rfl<|s1 (aa rfl) rfl ?_
       refine ah ?_
       exact bf (i+1) (⟨by omega,by omega⟩) (by omega) [(6,some 6)] hI rfl rfl ⟨⟨_,rfl,.pure pu⟩,⟨_,rfl,.pure pu⟩,⟨_,rfl,.p rfl⟩,⟨_,rfl,.pure pu⟩,⟨_,rfl,.pure pu⟩,⟨_,rfl,.pure pu⟩,trivial⟩ ⟨.inr ⟨_,_,rfl,rfl,.pure ak⟩,trivial⟩
     ·obtain ⟨e, he, hd⟩ := hcs
      have heo:=hl e (List.mem_of_getElem? he)
      have hil:=(List.getElem?_eq_some_iff.1 he).1
      refine dc 11 br (by kernel_rfl) ?_
      refine t1 (aa rfl) rfl<|t1 (aa rfl) rfl<|t1 (a7 Tryz.underlying24 rfl rfl rfl) rfl<|t1 ((aa rfl).v (v':= .b true) (congrArg A.b (decide_eq_true (by omega)))) rfl<|t1 (aa rfl) rfl<|bB rfl rfl (aG ar rfl rfl (by simp)) rfl<|bB rfl rfl (aa rfl) rfl<|bB rfl rfl (aa rfl) rfl<|bB rfl rfl (bb i Tryz.underlying41 ar rfl rfl rfl (by rw [len_digsE];omega) rfl) rfl<|bB rfl rfl (bp ar rfl rfl (gA (nV l k) (sO (by omega))) (by rw [List.length_map];exact kH l i)) rfl ?_
      refine bB rfl rfl (((gr Tryz.underlying23 Tryz.underlying5 aR (by kernel_rfl) rfl rfl (by simp) (kH l i))).v (v':= .b true) (congrArg A.b (beq_iff_eq.2 (hd.trans (wv he).symm)))) rfl ?_
      refine de ?_
      refine s1 (aa rfl) rfl ?_
      refine ah<|ae ?_
      refine cN rfl ?_
      refine af<|af ?_
      rcases Decidable.em ((cP f).enc=(cP e).enc)with hcs|hcs
      ·have hse := HW hfo heo hcs
       refine cr ⟨_, [], []⟩ 24 4 br (le_refl rfl) ?_
       refine aq 0 [] [] (aa rfl) rfl rfl ?_
       refine aq 1 [] [] (aa rfl) rfl rfl ?_
       refine aq 2 [0,1] [] (bb i Tryz.underlying24 bu rfl rfl rfl (by omega) rfl) rfl rfl ?_
       refine aq 3 [2] [] (bp bu rfl rfl (gh ho hf) hfo.len) rfl rfl ?_
       refine bL false 4 [3] [] aV rfl (.cons (.pure pu) (.nil)) (uu f hfo) pu (.inl rfl) rfl rfl ?_
       refine aq 5 [4] [] (k6 Tryz.underlying68 Tryz.underlying5 Tryz.underlying9 rfl rfl rfl) rfl rfl ?_
       refine aq 6 [] [] (aa rfl) rfl rfl ?_
       refine aq 7 [] [] (aa rfl) rfl rfl ?_
       refine aq 8 [6,7] [] (bb i Tryz.underlying24 bu rfl rfl rfl (by omega) rfl) rfl rfl ?_
       refine aq 9 [8] [] (bp bu rfl rfl (gh hl he) heo.len) rfl rfl ?_
       refine bL false 10 [9] [] aV rfl (.cons (.pure pu) (.nil)) (uu e heo) pu (.inl rfl) rfl rfl ?_
       refine aq 11 [10] [] (k6 Tryz.underlying68 Tryz.underlying5 Tryz.underlying9 rfl rfl rfl) rfl rfl ?_
       refine aq 12 [5,11] [] ((aa rfl).v (v':= .b true) (congrArg A.b (beq_iff_eq.2 hcs))) rfl rfl ?_
       refine aq 13 [12] [] (aa rfl) rfl rfl ?_
       refine cO 14 [13] [] rfl rfl (aa rfl) rfl rfl ?_
       refine cO 15 [13] [] rfl rfl (aa rfl) rfl rfl ?_
       refine cO 16 [13,14,15] [] rfl rfl (bb i Tryz.underlying24 bu rfl rfl rfl (by omega) rfl) rfl rfl ?_
       refine cO 17 [13,16] [] rfl rfl (bp bu rfl rfl (gh ho hf) hfo.len) rfl rfl ?_
       refine cO 18 [13] [] rfl rfl (aa rfl) rfl rfl ?_
       refine cO 19 [13] [] rfl rfl (aa rfl) rfl rfl ?_
       refine cO 20 [13,18,19] [] rfl rfl (bb i Tryz.underlying24 bu rfl rfl rfl (by omega) rfl) rfl rfl ?_
       refine cO 21 [13,20] [] rfl rfl (bp bu rfl rfl (gh hl he) heo.len) rfl rfl ?_
       refine bL false 22 [13,17,21] [] (xb rfl rfl) rfl (.cons (.pure pu) (.cons (.pure pu) (.nil))) (aw.cast (Cz f e hfo heo) (congrArg A.b hse)) pu (.inl rfl) rfl rfl ?_
       refine cO 23 [13,22] [] rfl rfl ((aa rfl).v (v':= .b false) (rfl)) rfl rfl ?_
       refine ct (by kernel_rfl) ?_
       refine s1 (aa rfl) rfl ?_
       refine ah<|ae ?_
       refine bO rfl ?_
       refine aE<|ae<|bx<|aM<|bA<|ae<|ai<|s1 (aa rfl) rfl<|s1 (aZ _ 1 rfl rfl rfl rfl (by omega)) rfl<|s1 (aa rfl) rfl ?_
       refine ah ?_
       exact bf (i+1) (⟨by omega,by omega⟩) (by omega) [(6,some 6)] hI rfl rfl ⟨⟨_,rfl,.pure pu⟩,⟨_,rfl,.pure pu⟩,⟨_,rfl,.p rfl⟩,⟨_,rfl,.pure pu⟩,⟨_,rfl,.pure pu⟩,⟨_,rfl,.pure pu⟩,trivial⟩ ⟨.inr ⟨_,_,rfl,rfl,.pure ak⟩,trivial⟩
      ·skip
       refine cr ⟨_, [], []⟩ 24 4 br (le_refl rfl) ?_
       refine aq 0 [] [] (aa rfl) rfl rfl ?_
       refine aq 1 [] [] (aa rfl) rfl rfl ?_
       refine aq 2 [0,1] [] (bb i Tryz.underlying24 bu rfl rfl rfl (by omega) rfl) rfl rfl ?_
       refine aq 3 [2] [] (bp bu rfl rfl (gh ho hf) hfo.len) rfl rfl ?_
       refine bL false 4 [3] [] aV rfl (.cons (.pure pu) (.nil)) (uu f hfo) pu (.inl rfl) rfl rfl ?_
       refine aq 5 [4] [] (k6 Tryz.underlying68 Tryz.underlying5 Tryz.underlying9 rfl rfl rfl) rfl rfl ?_
       refine aq 6 [] [] (aa rfl) rfl rfl ?_
       refine aq 7 [] [] (aa rfl) rfl rfl ?_
       refine aq 8 [6,7] [] (bb i Tryz.underlying24 bu rfl rfl rfl (by omega) rfl) rfl rfl ?_
       refine aq 9 [8] [] (bp bu rfl rfl (gh hl he) heo.len) rfl rfl ?_
       refine bL false 10 [9] [] aV rfl (.cons (.pure pu) (.nil)) (uu e heo) pu (.inl rfl) rfl rfl ?_
       refine aq 11 [10] [] (k6 Tryz.underlying68 Tryz.underlying5 Tryz.underlying9 rfl rfl rfl) rfl rfl ?_
       refine aq 12 [5,11] [] ((aa rfl).v (v':= .b false) (congrArg A.b (beq_eq_false_iff_ne.2 hcs))) rfl rfl ?_
       refine aq 13 [12] [] (aa rfl) rfl rfl ?_
       refine fJ 14 [13] rfl rfl rfl rfl rfl ?_
       refine fJ 15 [13] rfl rfl rfl rfl rfl ?_
       refine fJ 16 [13,14,15] rfl rfl rfl rfl rfl ?_
       refine fJ 17 [13,16] rfl rfl rfl rfl rfl ?_
       refine fJ 18 [13] rfl rfl rfl rfl rfl ?_
       refine fJ 19 [13] rfl rfl rfl rfl rfl ?_
       refine fJ 20 [13,18,19] rfl rfl rfl rfl rfl ?_
       refine fJ 21 [13,20] rfl rfl rfl rfl rfl ?_
       refine fJ 22 [13,17,21] rfl rfl rfl rfl rfl ?_
       refine fJ 23 [13,22] rfl rfl rfl rfl rfl ?_
       refine ct (by kernel_rfl) ?_
       refine s1 (aa rfl) rfl ?_
       refine ah<|ae ?_
       refine bO rfl ?_
       refine aE<|ae<|bx<|aM<|bA<|ae<|ai<|s1 (aa rfl) rfl<|s1 (aZ _ 1 rfl rfl rfl rfl (by omega)) rfl<|s1 (aa rfl) rfl ?_
       refine ah ?_
       exact bf (i+1) (⟨by omega,by omega⟩) (by omega) [(6,some 6)] hI rfl rfl ⟨⟨_,rfl,.pure pu⟩,⟨_,rfl,.pure pu⟩,⟨_,rfl,.p rfl⟩,⟨_,rfl,.pure pu⟩,⟨_,rfl,.pure pu⟩,⟨_,rfl,.pure pu⟩,trivial⟩ ⟨.inr ⟨_,_,rfl,rfl,.pure ak⟩,trivial⟩
     ·obtain ⟨e, he, hd⟩ := hcs
      have heo:=hl e (List.mem_of_getElem? he)
      have hil:=(List.getElem?_eq_some_iff.1 he).1
      refine dc 11 br (by kernel_rfl) ?_
      refine t1 (aa rfl) rfl<|t1 (aa rfl) rfl<|t1 (a7 Tryz.underlying24 rfl rfl rfl) rfl<|t1 ((aa rfl).v (v':= .b true) (congrArg A.b (decide_eq_true (by omega)))) rfl<|t1 (aa rfl) rfl<|bB rfl rfl (aG ar rfl rfl (by simp)) rfl<|bB rfl rfl (aa rfl) rfl<|bB rfl rfl (aa rfl) rfl<|bB rfl rfl (bb i Tryz.underlying41 ar rfl rfl rfl (by rw [len_digsE];omega) rfl) rfl<|bB rfl rfl (bp ar rfl rfl (gA (nV l k) (sO (by omega))) (by rw [List.length_map];exact kH l i)) rfl ?_
      refine bB rfl rfl (((gr Tryz.underlying23 Tryz.underlying5 aR (by kernel_rfl) rfl rfl (by simp) (kH l i))).v (v':= .b false) (congrArg A.b (beq_eq_false_iff_ne.2 (by rw [wv he];exact hd)))) rfl ?_
      refine de ?_
      refine s1 (aa rfl) rfl ?_
      refine ah<|ae ?_
      refine bO rfl ?_
      refine aE<|ae<|af<|af ?_
      refine cr ⟨_, [], []⟩ 14 4 br (le_refl rfl) ?_
      refine aq 0 [] [] (aa rfl) rfl rfl ?_
      refine aq 1 [] [] (aa rfl) rfl rfl ?_
      refine aq 2 [1] [] (a7 Tryz.underlying24 rfl rfl rfl) rfl rfl ?_
      refine aq 3 [0,2] [] ((aa rfl).v (v':= .b true) (congrArg A.b (decide_eq_true (by omega)))) rfl rfl ?_
      refine aq 4 [3] [] (aa rfl) rfl rfl ?_
      refine cO 5 [4] [] rfl rfl (aa rfl) rfl rfl ?_
      refine cO 6 [4] [] rfl rfl (aa rfl) rfl rfl ?_
      refine cO 7 [4,5,6] [] rfl rfl (bb i Tryz.underlying24 bu rfl rfl rfl (by omega) rfl) rfl rfl ?_
      refine cO 8 [4,7] [] rfl rfl (bp bu rfl rfl (gh ho hf) hfo.len) rfl rfl ?_
      refine cO 9 [4] [] rfl rfl (aa rfl) rfl rfl ?_
      refine cO 10 [4] [] rfl rfl (aa rfl) rfl rfl ?_
      refine cO 11 [4,9,10] [] rfl rfl (bb i Tryz.underlying24 bu rfl rfl rfl (by omega) rfl) rfl rfl ?_
      refine cO 12 [4,11] [] rfl rfl (bp bu rfl rfl (gh hl he) heo.len) rfl rfl ?_
      refine bL false 13 [4,8,12] [] (xb rfl rfl) rfl (.cons (.pure pu) (.cons (.pure pu) (.nil))) (aw.cast (Cz f e hfo heo) (congrArg A.b (Mu hd))) pu (.inl rfl) rfl rfl ?_
      refine ct (by kernel_rfl) ?_
      refine s1 (aa rfl) rfl ?_
      refine ah<|ae ?_
      refine bO rfl ?_
      refine aE<|ae<|af ?_
      refine cr ⟨_, [], []⟩ 14 4 br (le_refl rfl) ?_
      refine aq 0 [] [(6,none)] (aG ar rfl rfl (by rw [List.length_map,hx])) rfl rfl ?_
      refine aq 1 [] [] (aa rfl) rfl rfl ?_
      refine aq 2 [] [] (aa rfl) rfl rfl ?_
      refine aq 3 [] [(18,none)] (aG ar rfl rfl (by simp)) rfl rfl ?_
      refine aq 4 [] [] (aa rfl) rfl rfl ?_
      refine aq 5 [] [] (aa rfl) rfl rfl ?_
      refine aq 6 [4,5] [] (bb i Tryz.underlying24 bu rfl rfl rfl (by omega) rfl) rfl rfl ?_
      refine aq 7 [6] [] (dz Tryz.underlying45 rfl c4 (by decide) rfl rfl) rfl rfl ?_
      refine aq 8 [7] [] (bp c4 rfl rfl (A9 ho hf) rfl) rfl rfl ?_
      refine bL false 9 [0,1,2,3,8] [] aV rfl (.cons (.pure pu) (.cons (.pure pu) (.cons (.pure pu) (.cons (.pure pu) (.cons (.pure pu) (.nil)))))) (aw.cast (B8 x (k:Int) (iu l k) (bR f) f.sg.a f.sg.S f.sg.P hx (nV l k) (by rw [len_digsE];omega) (by simp) hfo.S hfo.P) (wT ..)) pu (.inl rfl) rfl rfl ?_
      refine aq 10 [9] [] (aa rfl) rfl rfl ?_
      refine aq 11 [10] [] (aa rfl) rfl rfl ?_
      refine aq 12 [10] [] (aa rfl) rfl rfl ?_
      refine aq 13 [11] [] (aa rfl) rfl rfl ?_
      refine ct (by kernel_rfl) ?_
      refine s1 (aa rfl) rfl ?_
      refine ah<|ae<|af ?_
      rcases Decidable.em ((fC x (k:Int) (iu l k) (bR f) f.sg.a f.sg.S f.sg.P).1=0)with hcs|hcs
      ·have hdd : bR f = ir l i := Decidable.byContradiction fun h => Bz (l := l) hc0 hf h67.2 h hcs
       refine dc 9 br (by kernel_rfl) ?_
       refine t1 (aa rfl) rfl<|t1 ((aa rfl).v (v':= .b true) (congrArg A.b (beq_iff_eq.2 hcs))) rfl<|t1 (aa rfl) rfl<|bB rfl rfl (aG ar rfl rfl (by simp)) rfl<|bB rfl rfl (aa rfl) rfl<|bB rfl rfl (aa rfl) rfl<|bB rfl rfl (bb i Tryz.underlying41 ar rfl rfl rfl (by rw [len_digsE];omega) rfl) rfl<|bB rfl rfl (bp ar rfl rfl (gA (nV l k) (sO (by omega))) (by rw [List.length_map];exact kH l i)) rfl<|bB rfl rfl (((nP Tryz.underlying23 Tryz.underlying5 aR (by kernel_rfl) rfl rfl (by simp) (kH l i))).v (v':= .b false) (congrArg A.b (by rw [hdd];simp))) rfl ?_
       refine de ?_
       refine s1 (aa rfl) rfl ?_
       refine ah<|ae ?_
       refine bO rfl ?_
       refine aE<|a8<|ae<|ai<|s1 (aa rfl) rfl<|s1 (aZ _ 1 rfl rfl rfl rfl (by omega)) rfl<|s1 (aa rfl) rfl ?_
       refine ah ?_
       exact bf (i+1) (⟨by omega,by omega⟩) (by omega) [(6,some 6)] hI rfl rfl ⟨⟨_,rfl,.pure pu⟩,⟨_,rfl,.pure pu⟩,⟨_,rfl,.p rfl⟩,⟨_,rfl,.pure pu⟩,⟨_,rfl,.pure pu⟩,⟨_,rfl,.pure pu⟩,trivial⟩ ⟨.inr ⟨_,_,rfl,rfl,.pure ak⟩,trivial⟩
      ·skip
       refine dc 9 br (by kernel_rfl) ?_
       refine t1 (aa rfl) rfl<|t1 ((aa rfl).v (v':= .b false) (congrArg A.b (beq_eq_false_iff_ne.2 hcs))) rfl<|t1 (aa rfl) rfl<|bP rfl rfl rfl rfl<|bP rfl rfl rfl rfl<|bP rfl rfl rfl rfl<|bP rfl rfl rfl rfl<|bP rfl rfl rfl rfl<|bP rfl rfl rfl rfl ?_
       refine de ?_
       refine s1 (aa rfl) rfl ?_
       refine ah<|ae ?_
       refine bO rfl ?_
       refine aE<|a8<|ae<|ai<|s1 (aa rfl) rfl<|s1 (aZ _ 1 rfl rfl rfl rfl (by omega)) rfl<|s1 (aa rfl) rfl ?_
       refine ah ?_
       exact bf (i+1) (⟨by omega,by omega⟩) (by omega) [(6,some 6)] hI rfl rfl ⟨⟨_,rfl,.pure pu⟩,⟨_,rfl,.pure pu⟩,⟨_,rfl,.p rfl⟩,⟨_,rfl,.pure pu⟩,⟨_,rfl,.pure pu⟩,⟨_,rfl,.pure pu⟩,trivial⟩ ⟨.inr ⟨_,_,rfl,rfl,.pure ak⟩,trivial⟩
    ·skip
     refine ah<|ae ?_
     refine bO rfl ?_
     refine bx<|aM<|aM<|bA<|ae<|af<|ai<|s1 (aa rfl) rfl ?_
     refine ah<|ae<|aB ?_
     refine aC (rs:= [.tmp 12]) rfl (aA rfl az) ?_
     rfl
   ·skip
    refine ai<|s1 (aa rfl) rfl<|s1 ((aa rfl).v (v':= .b false) (rfl)) rfl<|s1 (aa rfl) rfl<|g1 rfl rfl (aG ar rfl rfl (by simp)) rfl<|g1 rfl rfl (aa rfl) rfl<|g1 rfl rfl (aa rfl) rfl ?_
    refine ee rfl rfl rfl (aF false rfl (.cons (.pure pu) (.cons (.pure pu) (.cons (.pure pu) (.nil)))) (sQ (cq x (k:Int)) k o (by simp) ho (by simp only [maxLen];omega)) pu (.inl rfl) rfl ?_)
    refine g1 rfl rfl ((aa rfl).v (v':= .b true) (congrArg A.b (bne_iff_ne.2 hcs))) rfl<|s1 (aa rfl) rfl ?_
    refine ah<|ae ?_
    refine cN rfl ?_
    refine af<|ai<|s1 (aa rfl) rfl ?_
    refine ah<|ae<|aB<|aN ?_
    refine aC (rs:= [.tmp 12]) rfl (aA rfl az) ?_
    rfl
end Go.Abs.D2
