/-
  The engine, the plain laws and the walks that the rows need, part 17. Conditions: none.
-/
import Derived.Test.YteempkifmbclgaaGreatDoorM16
import Derived.Shelf.SlIterI.Nil
import Derived.Shelf.SortM.Plain
import Derived.Shelf.SortM.SortNone
import Derived.Ground.GgzProg
import Derived.Ground.SlgmProg
import Derived.Test.YteempkifmbclgaaGreatDoorProg
set_option linter.unusedVariables false
set_option linter.unusedSimpArgs false
set_option maxHeartbeats 1000000
set_option maxRecDepth 10000
-- ShP
namespace Go.Proofs
open Go.Shelf
def Tryz.keysL_ren:Go.Shelf.Ren:=⟨fun|7=>66|10=>114|n=>n,fun|23=>80|26=>3|3=>3|28=>105|0=>0|27=>104|33=>126|4=>4|n=>n,fun|n=>n⟩
theorem Tryz.keysL:Go.Proofs.SlLaysZI.n7 Tryz.prog Tryz.keysL_ren:= {
  mixed:=by kernel_rfl
  f7:=⟨Tryz.f66.name,by decide,Tryz.func66.trans (congrArg some (by kernel_rfl))⟩
  f10:=⟨Tryz.f114.name,by decide,Tryz.func114.trans (congrArg some (by kernel_rfl))⟩
  t0:=Tryz.underlying0
  a0:=Tryz.isAgg0
  z0:=Tryz.sizeOf0
  v0:=Tryz.zeroValue0
  t4:=Tryz.underlying4
  a4:=Tryz.isAgg4
  z4:=Tryz.sizeOf4
  v4:=Tryz.zeroValue4
  t23:=Tryz.underlying80
  a23:=Tryz.isAgg80
  z23:=Tryz.sizeOf80
  v23:=Tryz.zeroValue80
  t26:=Tryz.underlying3
  a26:=Tryz.isAgg3
  z26:=Tryz.sizeOf3
  v26:=Tryz.zeroValue3
  t27:=Tryz.underlying104
  a27:=Tryz.isAgg104
  z27:=Tryz.sizeOf104
  v27:=Tryz.zeroValue104
  t28:=Tryz.underlying105
  a28:=Tryz.isAgg105
  z28:=Tryz.sizeOf105
  v28:=Tryz.zeroValue105
  t33:=Tryz.underlying126
  a33:=Tryz.isAgg126
  z33:=Tryz.sizeOf126
  v33:=Tryz.zeroValue126}
def Tryz.sortedL_ren:Go.Shelf.Ren:=⟨fun|6=>65|8=>112|9=>113|11=>164|13=>146|12=>165|23=>186|24=>187|14=>195|15=>196|16=>197|17=>198|18=>199|19=>200|20=>201|21=>202|22=>203|25=>211|26=>212|27=>213|28=>214|29=>215|30=>216|31=>217|n=>n,fun|26=>3|28=>105|24=>30|0=>0|3=>3|37=>74|48=>183|50=>198|4=>4|40=>222|39=>221|45=>38|5=>5|9=>9|51=>231|55=>235|57=>238|58=>71|33=>126|n=>n,fun|n=>n⟩
theorem Tryz.sortedL:Go.Proofs.SlLaysZI.n6 Tryz.prog Tryz.sortedL_ren:= {
  mixed:=by kernel_rfl
  f6:=⟨Tryz.f65.name,by decide,Tryz.func65.trans (congrArg some (by kernel_rfl))⟩
  f8:=⟨Tryz.f112.name,by decide,Tryz.func112.trans (congrArg some (by kernel_rfl))⟩
  f11:=⟨Tryz.f164.name,by decide,Tryz.func164.trans (congrArg some (by kernel_rfl))⟩
  t0:=Tryz.underlying0
  a0:=Tryz.isAgg0
  z0:=Tryz.sizeOf0
  v0:=Tryz.zeroValue0
  t24:=Tryz.underlying30
  a24:=Tryz.isAgg30
  z24:=Tryz.sizeOf30
  v24:=Tryz.zeroValue30
  t26:=Tryz.underlying3
  a26:=Tryz.isAgg3
  z26:=Tryz.sizeOf3
  v26:=Tryz.zeroValue3
  t28:=Tryz.underlying105
  a28:=Tryz.isAgg105
  z28:=Tryz.sizeOf105
  v28:=Tryz.zeroValue105
  i26:=by kernel_rfl}
def Tryz.sortL_ren:Go.Shelf.Ren:=⟨fun|5=>113|8=>146|7=>165|19=>186|20=>187|10=>195|11=>196|12=>197|13=>198|14=>199|15=>200|16=>201|17=>202|18=>203|30=>211|31=>212|32=>213|33=>214|34=>215|35=>216|40=>217|n=>n,fun|23=>30|25=>3|3=>3|32=>74|22=>30|0=>0|44=>183|46=>198|4=>4|36=>222|35=>221|41=>38|5=>5|9=>9|53=>231|57=>235|63=>238|64=>71|n=>n,fun|n=>n⟩
theorem Tryz.sortL:Go.Proofs.SlLaysM.n5 Tryz.prog Tryz.sortL_ren:= {
  mixed:=by kernel_rfl
  f5:=⟨Tryz.f113.name,by decide,Tryz.func113.trans (congrArg some (by kernel_rfl))⟩
  f7:=⟨Tryz.f165.name,by decide,Tryz.func165.trans (congrArg some (by kernel_rfl))⟩
  f8:=Tryz.func146.trans (congrArg some (by kernel_rfl))
  f10:=⟨Tryz.f195.name,by decide,Tryz.func195.trans (congrArg some (by kernel_rfl))⟩
  f11:=⟨Tryz.f196.name,by decide,Tryz.func196.trans (congrArg some (by kernel_rfl))⟩
  f12:=⟨Tryz.f197.name,by decide,Tryz.func197.trans (congrArg some (by kernel_rfl))⟩
  f13:=⟨Tryz.f198.name,by decide,Tryz.func198.trans (congrArg some (by kernel_rfl))⟩
  f14:=⟨Tryz.f199.name,by decide,Tryz.func199.trans (congrArg some (by kernel_rfl))⟩
  f15:=⟨Tryz.f200.name,by decide,Tryz.func200.trans (congrArg some (by kernel_rfl))⟩
  f16:=⟨Tryz.f201.name,by decide,Tryz.func201.trans (congrArg some (by kernel_rfl))⟩
  f17:=⟨Tryz.f202.name,by decide,Tryz.func202.trans (congrArg some (by kernel_rfl))⟩
  f18:=⟨Tryz.f203.name,by decide,Tryz.func203.trans (congrArg some (by kernel_rfl))⟩
  f19:=Tryz.func186.trans (congrArg some (by kernel_rfl))
  f20:=Tryz.func187.trans (congrArg some (by kernel_rfl))
  f30:=⟨Tryz.f211.name,by decide,Tryz.func211.trans (congrArg some (by kernel_rfl))⟩
  f31:=Tryz.func212.trans (congrArg some (by kernel_rfl))
  f32:=Tryz.func213.trans (congrArg some (by kernel_rfl))
  f33:=⟨Tryz.f214.name,by decide,Tryz.func214.trans (congrArg some (by kernel_rfl))⟩
  f34:=⟨Tryz.f215.name,by decide,Tryz.func215.trans (congrArg some (by kernel_rfl))⟩
  f35:=⟨Tryz.f216.name,by decide,Tryz.func216.trans (congrArg some (by kernel_rfl))⟩
  f40:=⟨Tryz.f217.name,by decide,Tryz.func217.trans (congrArg some (by kernel_rfl))⟩
  t0:=Tryz.underlying0
  a0:=Tryz.isAgg0
  z0:=Tryz.sizeOf0
  v0:=Tryz.zeroValue0
  t3:=Tryz.underlying3
  a3:=Tryz.isAgg3
  z3:=Tryz.sizeOf3
  v3:=Tryz.zeroValue3
  t4:=Tryz.underlying4
  a4:=Tryz.isAgg4
  z4:=Tryz.sizeOf4
  v4:=Tryz.zeroValue4
  t5:=Tryz.underlying5
  a5:=Tryz.isAgg5
  z5:=Tryz.sizeOf5
  v5:=Tryz.zeroValue5
  t9:=Tryz.underlying9
  a9:=Tryz.isAgg9
  z9:=Tryz.sizeOf9
  v9:=Tryz.zeroValue9
  t22:=Tryz.underlying30
  a22:=Tryz.isAgg30
  z22:=Tryz.sizeOf30
  v22:=Tryz.zeroValue30
  t23:=Tryz.underlying30
  a23:=Tryz.isAgg30
  z23:=Tryz.sizeOf30
  v23:=Tryz.zeroValue30
  t25:=Tryz.underlying3
  a25:=Tryz.isAgg3
  z25:=Tryz.sizeOf3
  v25:=Tryz.zeroValue3
  t32:=Tryz.underlying74
  a32:=Tryz.isAgg74
  z32:=Tryz.sizeOf74
  v32:=Tryz.zeroValue74
  t35:=Tryz.underlying221
  a35:=Tryz.isAgg221
  z35:=Tryz.sizeOf221
  v35:=Tryz.zeroValue221
  t36:=Tryz.underlying222
  a36:=Tryz.isAgg222
  z36:=Tryz.sizeOf222
  v36:=Tryz.zeroValue222
  t41:=Tryz.underlying38
  a41:=Tryz.isAgg38
  z41:=Tryz.sizeOf38
  v41:=Tryz.zeroValue38
  t44:=Tryz.underlying183
  a44:=Tryz.isAgg183
  z44:=Tryz.sizeOf183
  v44:=Tryz.zeroValue183
  t46:=Tryz.underlying198
  a46:=Tryz.isAgg198
  z46:=Tryz.sizeOf198
  v46:=Tryz.zeroValue198
  t53:=Tryz.underlying231
  a53:=Tryz.isAgg231
  z53:=Tryz.sizeOf231
  v53:=Tryz.zeroValue231
  t57:=Tryz.underlying235
  a57:=Tryz.isAgg235
  z57:=Tryz.sizeOf235
  v57:=Tryz.zeroValue235
  t63:=Tryz.underlying238
  a63:=Tryz.isAgg238
  z63:=Tryz.sizeOf238
  v63:=Tryz.zeroValue238
  t64:=Tryz.underlying71
  a64:=Tryz.isAgg71
  z64:=Tryz.sizeOf71
  v64:=Tryz.zeroValue71}
end Go.Proofs
-- E5I
namespace Go.Abs.D2
open Go Go.Eng Go.Abs Go.Proofs
theorem sortsIn_L (m:Nat):AnyZI.SortsIn Tryz.prog Tryz.sortedL_ren Fence.wide m:=
  ⟨fun blk off cap ss W hH hblk hsz=>callsIn_wide.2 (AnyM.slices_Sort_int Tryz.sortL blk off cap ss W hH hblk hsz),fun p cap W=>callsIn_wide.2 (AnyM.slices_Sort_int_none Tryz.sortL p cap W)⟩
theorem esort_raw {σ:Int→Int} (hs:Sup σ) (w:World) (b B:Nat) (es:Array MapEntry) (clk:Nat) (hb:w.heap[b]? =some (.map es clk)) (hF:MapF es clk (mapOf σ)) (hBl:B<w.heap.size) (hB:w.cell? ⟨B,0,none⟩=some (.map (some b))):
  Calls Tryz.prog 65 #[.func (.func 114) #[] #[.pointer (some ⟨B,0,none⟩)]] w fun e w'=>∃v,e= .returned v∧w'.ownsRow w.heap.size 3 1 v (keysS σ).length ((keysS σ).map Go.encZ)∧RowKit.Below w.heap.size w w':=by
 obtain⟨D0,hown,hperm,hsz⟩:=owns_of (H:=Unit) (k:=3) Tryz.underlying3 hs hb hF
 have hseq:SeqGives Fence.wide 2 Tryz.prog 114 #[.pointer (some ⟨B,0,none⟩)] Go.encZ (fun ss=>ss.Perm (intKeys D0)) (Go.Maps.size D0) w:=AnyZI.keys_gives (ρ:=Tryz.keysL_ren) {Tryz.keysL with} Fence.wide _ trivial rfl (by omega) B b 1024 D0 w hBl hB hown
 have cS:=AnyZI.sorted_in Tryz.sortedL Fence.wide 5 trivial trivial trivial trivial rfl (by omega) (sortsIn_L _) (enters_of Tryz.func113 (by kernel_rfl) rfl) 114 #[.pointer (some ⟨B,0,none⟩)] trivial (enters_of Tryz.func114 (by kernel_rfl) rfl) _ _ (Nat.le_trans hsz (by decide)) (by omega) w hseq
 change CallsIn _ _ Tryz.prog 65 _ _ _ at cS
 refine(callsIn_wide (n:=5)).1 (cS.mono ?_)
 rintro e w' ⟨v,ss,rfl,hS,hrow,_,hB⟩
 have e1:ss.mergeSort (fun x y=>decide (x≤y))=keysS σ:=(mergeSort_of_perm_i (hS.trans hperm)).trans (keysS_sorted σ)
 have e2:ss.length=(keysS σ).length:=(hS.trans hperm).length_eq
 rw [e1,e2]at hrow
 exact⟨v,rfl,hrow,hB⟩
theorem esorted_ok {b:Nat} {σ:Int→Int} (hs:Sup σ):ConS Tryz.prog 65 [.fn (.func 114) [] [.p 24 0]] ⟨[(24,some [.raw (.map (some b))]),(700,some [.mc b (mapOf σ)])]⟩ (RetOS 1 (keysS σ).length ((keysS σ).map (A.i .i64)) [(700, [.mc b (mapOf σ)])]):=con_row (e:=3) 9 rfl (fun p hp=>by rw [List.mem_singleton.1 hp];rfl) fun w X β us hd hX ho hv=>by
 refine⟨⟨_,Tryz.func65,rfl,by kernel_rfl⟩,?_⟩
 obtain⟨hβ,_,_,es,clk,hb,hF⟩:=(ho 700 _ rfl).mpAt
 have h24:=ho 24 _ rfl
 simp only [VS,V]at hv
 obtain⟨u,r,rfl,⟨u1,u2,rfl,rfl,⟨u3,r3,rfl,⟨B,N,hB,rfl⟩,rfl⟩⟩,rfl⟩:=hv
 unfold OB at h24
 rw [hB]at h24
 obtain⟨_,_,us,rest,ty,hrow,_,hvs,_⟩:=h24
 simp only [VS,V]at hvs
 obtain⟨_,_,rfl,rfl,rfl⟩:=hvs
 exact esort_raw hs w b B es clk hb hF (Array.getElem?_eq_some_iff.1 hrow).1 (by simp [World.cell?,hrow])
theorem ekeys_ok (b:Nat):Con Tryz.prog 66 [.raw (.map (some b))] (RetM (fun i=> .fn (.func 114) [] [.p i 0]) [.raw (.map (some b))]):=by
 refine enter Tryz.func66 rfl Tryz.ntmps66 (by kernel_rfl) (Nat.le_of_ble_eq_true rfl) fun w0 X0 hI=>?_
 refine at_seq<|at_region ?_
 refine at_op rfl (n_box1 1 rfl rfl rfl rfl ?_)
 refine s1 (y_p rfl) rfl ?_
 refine at_nil<|x_tn<|at_seq<|at_region<|s1 (y_func (us:= []) (vs:= [.p 1 0]) rfl rfl) rfl<|s1 (y_p rfl) rfl ?_
 refine at_nil<|x_tn<|at_ret ?_
 refine at_result (rs:= [.tmp 2]) rfl (r_tmp rfl r_nil) ⟨1,rfl,rfl⟩
theorem ests1_D (c0 c1:A) (e:Int):ConD Tryz.prog 63 [.p 4 0,.p 5 0] ⟨[(4,some [c0]),(5,some [c1])]⟩ (fun u=>u=misV 136 e) [(4, [.nl]),(5, [.i .i64 e])]:=by
 refine conD (.ic 136 (.ag [.i .i64 e])) (fun u hu X w β=>by rw [hu];exact V_mis _ _) Tryz.func63 rfl Tryz.ntmps63 (Nat.le_of_ble_eq_true rfl) rfl rfl fun w0 X0 hI=>?_
 refine at_seq<|at_region<|s1 (y_p rfl) rfl<|s1 (y_icne Tryz.underlying20 rfl) rfl ?_
 refine at_nil<|x_tn ?_
 refine at_then rfl ?_
 refine at_region<|s1 (y_p rfl) rfl ?_
 refine at_op rfl (n_call false rfl (.cons (.pure pu) (.nil)) (efail_ok e) pu (.inl rfl) rfl ?_)
 refine at_op rfl (n_store1 ti31 rfl rfl rfl rfl (by first|rfl|omega|(simp<;>omega)|(simp [*]<;>omega)) rfl ?_)
 refine at_op rfl (n_store1 ti27 rfl rfl rfl rfl (by first|rfl|omega|(simp<;>omega)|(simp [*]<;>omega)) rfl ?_)
 refine at_nil ?_
 refine at_result' (rs:= []) rfl r_nil (retS_2 rfl rfl)
theorem ests1_R:ConR Tryz.prog 63 2:=conR Tryz.func63 rfl (fun w=>run_nnil Tryz.underlying20 w) rfl ⟨Nat.le_of_ble_eq_true rfl,Nat.le_of_ble_eq_true rfl,Nat.le_of_ble_eq_true rfl,Nat.le_of_ble_eq_true rfl,Nat.le_of_ble_eq_true rfl⟩
theorem ests1_C:Callable Tryz.prog 63:=⟨_,Tryz.func63,rfl,by kernel_rfl⟩
theorem ests_ok (l:List Ep) (no:Int) (hl:EpsOk l) (hn:l.length≤1000):Con Tryz.prog 18 [epsA l,.i .i64 no] (Ret (resS (stsX l no))):=by
 refine enterM Tryz.func18 rfl Tryz.ntmps18 (by kernel_rfl) (Nat.le_of_ble_eq_true rfl) fun w0 X0 hI hS=>?_
 refine at_seq<|at_region ?_
 refine at_op rfl (n_alloc 4 rfl ti31 rfl rfl ?_)
 refine at_op rfl (n_alloc 5 rfl ti27 rfl rfl ?_)
 refine at_nil<|x_tn<|at_seq<|at_seq<|at_region<|s1 (y_p rfl) rfl<|s1 (y_p rfl) rfl<|s1 (y_p rfl) rfl ?_
 refine g_or 4 rfl rfl rfl rfl (fun hb11=> .step (y_p rfl) rfl rfl<| .step (y_p rfl) rfl rfl<| .step (y_len Tryz.underlying24 rfl rfl rfl) rfl rfl<| .step (y_p rfl) rfl rfl<| .done) rfl rfl ?_
 refine at_nil<|x_tn ?_
 refine at_cond rfl (fun hc16=>?_) (fun hc16=>?_)
 ·have h16 : no < -1 ∨ (l.length : Int) ≤ no := by simpa using hc16
  refine at_seq<|at_region ?_
  refine at_op rfl (n_store1 ti31 rfl rfl rfl rfl (by first|rfl|omega|(simp<;>omega)|(simp [*]<;>omega)) rfl ?_)
  refine at_op rfl (n_store1 ti27 rfl rfl rfl rfl (by first|rfl|omega|(simp<;>omega)|(simp [*]<;>omega)) rfl ?_)
  refine at_nil<|x_tn<|at_ret<|x_tr ?_
  refine at_resultM (rs:= [.cell 4 31,.cell 5 27]) rfl rfl rfl hS (dn:= []) rfl hS List.nodup_nil rfl (r_cell ti31 rfl rfl rfl (r_cell ti27 rfl rfl rfl r_nil)) ?_
  rw [sts_1 h16];rfl
 ·have h16 : ¬ (no < -1 ∨ (l.length : Int) ≤ no) := by simp at hc16; omega
  obtain⟨k,hk⟩:∃k:Nat,no+1=(k:Int):=⟨(no+1).toNat,by omega⟩
  have hkl:k≤l.length:=by omega
  have htk:(no+1).toNat=k:=by omega
  have hlk:EpsOk (l.take k):=fun e he=>hl e (List.mem_of_mem_take he)
  have hlen:(l.take k).length=k:=by rw [List.length_take];omega
  refine at_skip<|x_tn<|at_seq<|at_region<|s1 (y_func (us:= []) (vs:= [.p 4 0,.p 5 0]) rfl rfl) rfl ?_
  refine at_defer [4,5] hI rfl rfl trivial rfl fun w1 us hdf=>?_
  refine at_nil<|x_tn<|at_seq ?_
  rcases opt_ways (formS (l.take k))with hcs|hcs
  ·have hf := hcs
   refine at_region<|s1 (y_p rfl) rfl<|s1 (y_p rfl) rfl<|s1 ((addI rfl rfl (by omega) (by omega)).v (v':=nJ k) (congrArg (A.i .i64) hk)) rfl<|s1 ((y_cutf (ds:=epsC (l.take k)) k Tryz.underlying24 ti45 rfl (by rw [len_epsC hl]) bn (bs rfl rfl) (by omega) (by omega) rfl (eps_take hl k)).v (v':=epsA (l.take k)) (congrArg (fun n=>A.fz n (epsC (l.take k))) hlen.symm)) rfl ?_
   refine p_call ⟨[]⟩ false rfl trivial (.cons (.pure pu) .nil) (eformed_px hlk (by simp only [maxLen];omega) hf) (fun u hu=>?_)
   refine x_tp ?_
   refine at_leaveX ⟨[(4,some [.nl]),(5,some [.i .i64 0])]⟩ hdf hS ests1_C ⟨⟨rfl,VwL.pure pul⟩,⟨rfl,VwL.pure pul⟩,trivial⟩ (.cons (.kp rfl) (.cons (.kp rfl) .nil)) (ests1_D _ _ 351) (hu.2) (two_upd rfl rfl pul pul) rfl (r_cell ti31 rfl rfl rfl (r_cell ti27 rfl rfl rfl r_nil)) ?_
   rw [sts_2 h16 (by rw [htk];exact hf)];rfl
  ·obtain ⟨σ, hf⟩ := hcs
   have hsup:=sup_form hf
   have hkn:=keysS_len σ
   refine at_region<|s1 (y_p rfl) rfl<|s1 (y_p rfl) rfl<|s1 ((addI rfl rfl (by omega) (by omega)).v (v':=nJ k) (congrArg (A.i .i64) hk)) rfl<|s1 ((y_cutf (ds:=epsC (l.take k)) k Tryz.underlying24 ti45 rfl (by rw [len_epsC hl]) bn (bs rfl rfl) (by omega) (by omega) rfl (eps_take hl k)).v (v':=epsA (l.take k)) (congrArg (fun n=>A.fz n (epsC (l.take k))) hlen.symm)) rfl ?_
   refine at_op rfl (n_callMp (F:=mapOf σ) rfl (.cons (.pure pu) (.nil)) (eformed_ok hlk (by simp only [maxLen];omega) hf) rfl rfl fun b22=>?_)
   refine s1 (y_p rfl) rfl ?_
   refine at_nil<|x_tn<|at_seq<|at_seq<|at_region<|s1 (y_p rfl) rfl ?_
   refine at_op rfl (n_callM (mk:=fun i=> .fn (.func 114) [] [.p i 0]) oneB_fn 24 rfl false rfl (.cons (.pure pu) (.nil)) (ekeys_ok b22) pul (.inl rfl) rfl ?_)
   refine at_op rfl (n_callHK 25 rfl ⟨[(24,some [.raw (.map (some b22))]),(700,some [.mc b22 (mapOf σ)])]⟩ [(700, [.mc b22 (mapOf σ)])] false rfl rfl ⟨⟨rfl,VwL.pure pul⟩,⟨rfl,VwL.pure pul⟩,trivial⟩ (.cons (.fn .nil (.cons (.kp rfl) .nil)) .nil) (esorted_ok hsup) pul (.inl rfl) (fun p hp=>by rw [List.mem_singleton.1 hp];exact⟨⟨_,rfl⟩,KpL_pure pul (.inl rfl)⟩) rfl ?_)
   refine at_frz 25 rfl rfl pul (view_eq (by simp) rfl) ?_
   refine s1 (y_len Tryz.underlying30 rfl rfl rfl) rfl<|s1 ((y_p rfl).v (v':= .i .i64 0) rfl) rfl ?_
   refine at_nil<|x_tn<|at_block ?_
   refine at_loop (ι:=Nat) (fun i=> [(4,.p 4 0),(5,.p 5 0),(6,.raw (.map (some b22))),(25,.fz (keysS σ).length ((keysS σ).map (A.i .i64))),(26,nJ (keysS σ).length),(27,nJ i)]) (fun i=>⟨[(4,some ([.sl 138 2 0 i])),(5,some ([.i .i64 0])),(138,some (chsC ((chS σ).take i))),(700,some ([.mc b22 (mapOf σ)]))]⟩) (fun i=>i≤(keysS σ).length) (fun i=>(keysS σ).length - i) ?_ ?_
   ·exact at_ex (0) (Nat.zero_le _) [(4,some 4),(5,some 5),(138,none),(700,some 700)] hdf.ids rfl rfl ⟨⟨_,rfl,.p rfl⟩,⟨_,rfl,.p rfl⟩,⟨_,rfl,.pure pu⟩,⟨_,rfl,.pure pu⟩,⟨_,rfl,.pure pu⟩,⟨_,rfl,.pure pu⟩,trivial⟩ ⟨.inr ⟨_,_,rfl,rfl,.cons (.nl rfl) .nil⟩,.inr ⟨_,_,rfl,rfl,.of (rfl:_= [A.i .i64 0]) (.pure pul)⟩,.inl ⟨rfl,rfl⟩,.inr ⟨_,_,rfl,rfl,.pure pul⟩,trivial⟩
   rintro i hi
   refine at_seq<|at_region<|s1 (y_p rfl) rfl ?_
   refine at_nil<|x_tn<|at_seq ?_
   refine at_cond rfl (fun hc28=>?_) (fun hc28=>?_)
   ·have h28 : i < (keysS σ).length := by have := of_decide_eq_true hc28; omega
    obtain⟨q,hq⟩:∃q,(keysS σ)[i]? =some q:=⟨_,List.getElem?_eq_getElem h28⟩
    refine at_skip<|x_tn<|at_seq<|at_block<|at_seq<|at_region<|s1 (y_ixf i Tryz.underlying30 ti3 rfl rfl rfl (by omega) rfl) rfl<|s1 (y_load ti3 rfl rfl (getI4 hq)) rfl<|s1 (y_p rfl) rfl ?_
    refine at_nil<|x_tn<|at_region<|s1 (y_load ti31 rfl rfl rfl) rfl<|s1 (y_p rfl) rfl<|s1 (y_p rfl) rfl<|s1 (y_p rfl) rfl<|s1 (y_lookup Tryz.underlying80 Tryz.underlying3 zero_int rfl rfl rfl (mapOf_get _ _)) rfl<|s1 (y_bld (out:= [_,_]) [[evC (.int .i64 0)], [evC (.int .i64 0)]] ti55 rfl Tryz.underlying55 (by kernel_rfl) rfl rfl ⟨⟨by(first|rfl|omega|(simp;done)|(simp [*];done)|(simp [cellsA, *];done)),rfl⟩,⟨⟨by(first|rfl|omega|(simp;done)|(simp [*];done)|(simp [cellsA, *];done)),rfl⟩,trivial⟩⟩ rfl) rfl ?_
    refine at_op rfl (n_bs 37 rfl Tryz.underlying31 ti55 rfl rfl rfl (by simp [cellsA]) (show _=Ch.cells ⟨q,σ q⟩from rfl) rfl rfl rfl ?_)
    refine at_op rfl (n_app 38 rfl Tryz.underlying31 ti55 rfl (.sl rfl (by simp [chS];omega)) rfl (SM_full rfl (by first|rfl|omega|(simp<;>omega)|(simp [*]<;>omega))) (by simp) (by simp only [maxLen];omega) (by omega) rfl rfl rfl ?_)
    refine at_op rfl (n_store1 ti31 rfl rfl rfl rfl (by first|rfl|omega|(simp<;>omega)|(simp [*]<;>omega)) rfl ?_)
    refine at_nil<|x_bn<|x_tn<|at_region<|s1 (addN _ 1 rfl rfl rfl rfl (by omega)) rfl<|s1 (y_p rfl) rfl ?_
    refine at_nil ?_
    exact at_end (i+1) (by omega) (by omega) [(4,some 4),(5,some 5),(138,some 38),(700,some 700)] hdf.ids rfl rfl ⟨⟨_,rfl,.p rfl⟩,⟨_,rfl,.p rfl⟩,⟨_,rfl,.pure pu⟩,⟨_,rfl,.pure pu⟩,⟨_,rfl,.pure pu⟩,⟨_,rfl,.pure pu⟩,trivial⟩ ⟨.inr ⟨_,_,rfl,rfl,.cons (.sl rfl (by simp)) .nil⟩,.inr ⟨_,_,rfl,rfl,.pure pul⟩,.inr ⟨_,_,rfl,rfl,.of (chS_next hq) (.pure pul)⟩,.inr ⟨_,_,rfl,rfl,.pure pul⟩,trivial⟩
   ·obtain rfl : i = (keysS σ).length := by have := of_decide_eq_false hc28; omega
    refine at_exit<|x_te<|x_te<|x_be<|x_tn<|at_seq ?_
    refine at_sayO 138 (cs':=chsC (chS σ)) rfl (by rw [List.take_of_length_le (by simp [chS])]) ?_
    refine at_frzO 4 0 rfl rfl rfl rfl pul (view_eq (by simp [chS]) rfl) rfl ?_
    refine at_region<|s1 (y_load ti31 rfl rfl rfl) rfl ?_
    refine at_op rfl (n_store1 ti31 rfl rfl rfl rfl (by first|rfl|omega|(simp<;>omega)|(simp [*]<;>omega)) rfl ?_)
    refine at_op rfl (n_store1 ti27 rfl rfl rfl rfl (by first|rfl|omega|(simp<;>omega)|(simp [*]<;>omega)) rfl ?_)
    refine at_nil<|x_tn<|at_ret ?_
    refine at_leaveR hdf hS ests1_C ests1_R rfl (r_cell ti31 rfl rfl rfl (r_cell ti27 rfl rfl rfl r_nil)) ?_
    rw [sts_3 h16 (by rw [htk];exact hf)];exact congrArg (fun n=>A.tu [.fz n (chsC (chS σ)),.i .i64 0]) (by simp [chS])
end Go.Abs.D2
-- E5H
namespace Go.Abs.D2
open Go Go.Eng Go.Abs Go.Proofs
theorem eAt_ok (l:List Ep) (day:Int) (hl:EpsOk l) (hn:l.length≤maxLen):Con Tryz.prog 20 [epsA l,.i .i64 day] (Ret (atA (atE l day))):=by
 refine enter Tryz.func20 rfl Tryz.ntmps20 (by kernel_rfl) (Nat.le_of_ble_eq_true rfl) fun w0 X0 hI=>?_
 refine at_seq ?_
 simp only [maxLen]at hn
 refine at_region<|s1 ((y_p rfl).v (v':= .i .i64 0) rfl) rfl<|s1 (y_p rfl) rfl ?_
 refine at_nil<|x_tn<|at_seq<|at_seq<|at_region<|s1 (y_p rfl) rfl<|s1 (y_len Tryz.underlying24 rfl rfl rfl) rfl<|s1 (subI rfl rfl (by omega) (by omega)) rfl<|s1 (y_p rfl) rfl ?_
 refine at_nil<|x_tn<|at_block ?_
 refine at_loop (ι:=Nat) (fun j=> [(0,epsA l),(1,.i .i64 day),(6,.i .i64 ((j:Int) - 1))]) (fun j=>⟨[]⟩) (fun j=>j≤l.length∧atE l day=atJ l day j) (fun j=>j) ?_ ?_
 ·exact at_ex (l.length) (⟨Nat.le_refl _,atE_eq l day⟩) [] hI rfl rfl ⟨⟨_,rfl,.pure pu⟩,⟨_,rfl,.pure pu⟩,⟨_,rfl,.pure pu⟩,trivial⟩ trivial
 rintro j ⟨hj,hst⟩
 refine at_seq<|at_seq<|at_region<|s1 (y_p rfl) rfl<|s1 (y_p rfl) rfl ?_
 refine at_nil<|x_tn ?_
 refine at_cond rfl (fun hc11=>?_) (fun hc11=>?_)
 ·have h11 : 0 < j := by have := of_decide_eq_true hc11; omega
  obtain⟨m,rfl⟩:∃m,j=m+1:=⟨j - 1,by omega⟩
  obtain⟨e,he⟩:∃e,l[m]? =some e:=⟨_,List.getElem?_eq_getElem (by omega)⟩
  refine at_skip<|x_tn<|at_seq<|at_block<|at_seq ?_
  refine at_say 6 rfl (v':=nJ m) (congrArg (A.i .i64) (by omega)) ?_
  refine at_region<|s1 (y_p rfl) rfl<|s1 (y_p rfl) rfl<|s1 (y_ixf m Tryz.underlying24 ti45 rfl rfl rfl (by omega) rfl) rfl<|s1 (y_fldf Tryz.underlying45 rfl ti3 (by decide) rfl rfl) rfl<|s1 (y_load ti3 rfl rfl (eps_fld hl he (k:=2) rfl (by decide))) rfl<|s1 (y_p rfl) rfl<|s1 (y_p rfl) rfl ?_
  refine at_nil<|x_tn ?_
  refine at_cond rfl (fun hc20=>?_) (fun hc20=>?_)
  ·have h20 : e.day ≤ day := by have := of_decide_eq_true hc20; omega
   refine at_seq<|at_region<|s1 (y_p rfl) rfl<|s1 (y_p rfl) rfl<|s1 (y_p rfl) rfl ?_
   refine at_nil<|x_tn<|at_ret<|x_br<|x_tr<|x_tr<|x_br<|x_tr ?_
   refine at_result (rs:= [.tmp 4,.tmp 5]) rfl (r_tmp rfl (r_tmp rfl r_nil)) ?_
   exact congrArg atA (hst.trans (atJ_yes he h20)).symm
  ·have h20 : ¬ e.day ≤ day := by have := of_decide_eq_false hc20; omega
   refine at_skip<|x_bn<|x_tn<|at_region<|s1 (y_p rfl) rfl<|s1 (subI rfl rfl (by omega) (by omega)) rfl<|s1 (y_p rfl) rfl ?_
   refine at_nil ?_
   exact at_end (m) (⟨by omega,hst.trans (atJ_no he h20)⟩) (by omega) [] hI rfl rfl ⟨⟨_,rfl,.pure pu⟩,⟨_,rfl,.pure pu⟩,⟨_,rfl,.of (rfl:_=A.i .i64 ((m:Int) - 1)) (.pure pu)⟩,trivial⟩ trivial
 ·have h11 : j = 0 := by have := of_decide_eq_false hc11; omega
  subst h11
  refine at_exit<|x_te<|x_te<|x_be<|x_tn<|at_seq<|at_region<|s1 ((y_p rfl).v (v':= .i .i64 0) rfl) rfl<|s1 (y_p rfl) rfl ?_
  refine at_nil<|x_tn<|at_ret ?_
  refine at_result (rs:= [.tmp 4,.tmp 5]) rfl (r_tmp rfl (r_tmp rfl r_nil)) ?_
  exact congrArg atA hst.symm
end Go.Abs.D2
-- E5K
namespace Go.Abs.D2
open Go Go.Eng Go.Abs Go.Proofs
theorem lsane_ok:Con Tryz.prog 11 [] (Ret (.b true)):=by
 refine enter Tryz.func11 rfl Tryz.ntmps11 (by kernel_rfl) (Nat.le_of_ble_eq_true rfl) fun w0 X0 hI=>?_
 refine at_seq<|at_region<|s1 (y_p rfl) rfl ?_
 refine at_nil<|x_tn<|at_seq<|at_region<|s1 ((y_bldP (vs:= [_]) ti23 rfl (by kernel_rfl) Tryz.underlying23 ti5 rfl rfl (by simp) rfl rfl).v (v':= .ag (sd3.map u8)) (by kernel_rfl)) rfl ?_
 refine at_op rfl (n_alloc 1 rfl ti23 rfl rfl ?_)
 refine at_op rfl (n_storeA ti23 rfl rfl rfl (by first|rfl|omega|(simp<;>omega)|(simp [*]<;>omega)) (by first|rfl|omega|(simp<;>omega)|(simp [*]<;>omega)) ?_)
 refine at_nil<|x_tn<|at_seq<|at_region<|s1 (y_loadA0 ti23 rfl rfl (by decide)) rfl ?_
 refine at_op rfl (n_call false rfl (.cons (.pure pu) (.cons (.pure pu) (.nil))) (Con.cast (root_ok sd3 2 (by decide)) (show _=A.tu [.ag ((rootD sd3 2).map u8),.i .i64 0]from(rootA_eq ..).trans (by rw [decide_eq_true (show sizeK 2 by decide)];rfl))) pu (.inl rfl) rfl ?_)
 refine s1 (y_p rfl) rfl<|s1 (y_p rfl) rfl<|s1 (y_p rfl) rfl ?_
 refine at_op rfl (n_alloc 2 rfl ti23 rfl rfl ?_)
 refine at_op rfl (n_storeA ti23 rfl rfl rfl (by simp) rfl ?_)
 refine s1 (y_p rfl) rfl ?_
 refine at_nil<|x_tn<|at_seq<|at_region<|s1 (y_loadA0 ti23 rfl rfl (by decide)) rfl ?_
 refine at_op rfl (n_bsZ Tryz.underlying30 ti3 rfl rfl rfl (len_one rfl) (flatA_one rfl) pul rfl rfl rfl ?_)
 refine s1 (y_bld (out:= [_,_]) [[evC (.int .i64 0)], [evC (.int .i64 0)]] ti55 rfl Tryz.underlying55 (by kernel_rfl) rfl rfl ⟨⟨by(first|rfl|omega|(simp;done)|(simp [*];done)|(simp [cellsA, *];done)),rfl⟩,⟨⟨by(first|rfl|omega|(simp;done)|(simp [*];done)|(simp [cellsA, *];done)),rfl⟩,trivial⟩⟩ rfl) rfl ?_
 refine at_op rfl (n_bsZ Tryz.underlying31 ti55 rfl rfl rfl (by first|(simp [cellsA];done)|(simp [cellsA, *];done)) (show _=chsC [⟨5,2⟩]from rfl) pul rfl rfl rfl ?_)
 refine at_op rfl (n_call false rfl (.cons (.pure pu) (.cons (.pure pu) (.cons .nl (.cons (.pure pu) (.cons (.pure pu) (.cons (.pure pu) (.cons (.pure pu) .nil))))))) (Con.cast (epub_ok sd3 2 [] 1 10 [4,5] cA (by decide) okL_0 (by decide) (rg_of (by decide) (by decide)) (rg_of (by decide) (by decide)) (by decide) (by decide) (rg_one (by decide))) (show _=A.tu [epsA [eA],.i .i64 0] by rw [pub_A];rfl)) pu (.inl rfl) rfl ?_)
 refine s1 (y_p rfl) rfl<|s1 (y_p rfl) rfl<|s1 (y_p rfl) rfl<|s1 (y_p rfl) rfl<|s1 (y_p rfl) rfl ?_
 refine at_nil<|x_tn<|at_seq<|at_region<|s1 (y_loadA0 ti23 rfl rfl (by decide)) rfl<|s1 (y_p rfl) rfl ?_
 refine at_op rfl (n_bsZ Tryz.underlying30 ti3 rfl rfl rfl (len_one rfl) (flatA_one rfl) pul rfl rfl rfl ?_)
 refine s1 (y_bld (out:= [_,_]) [[evC (.int .i64 0)], [evC (.int .i64 0)]] ti55 rfl Tryz.underlying55 (by kernel_rfl) rfl rfl ⟨⟨by(first|rfl|omega|(simp;done)|(simp [*];done)|(simp [cellsA, *];done)),rfl⟩,⟨⟨by(first|rfl|omega|(simp;done)|(simp [*];done)|(simp [cellsA, *];done)),rfl⟩,trivial⟩⟩ rfl) rfl ?_
 refine at_op rfl (n_bsZ Tryz.underlying31 ti55 rfl rfl rfl (by first|(simp [cellsA];done)|(simp [cellsA, *];done)) (show _=chsC [⟨4,1⟩]from rfl) pul rfl rfl rfl ?_)
 refine at_op rfl (n_call false rfl (.cons (.pure pu) (.cons (.pure pu) (.cons (.pure pu) (.cons (.pure pu) (.cons (.pure pu) (.cons (.pure pu) (.cons (.pure pu) .nil))))))) (Con.cast (epub_ok sd3 2 [eA] 1 11 [4,5] cB (by decide) okL_A (by decide) (rg_of (by decide) (by decide)) (rg_of (by decide) (by decide)) (by decide) (by decide) (rg_one (by decide))) (show _=A.tu [epsA [eA,eB],.i .i64 0] by rw [pub_B];rfl)) pu (.inl rfl) rfl ?_)
 refine s1 (y_p rfl) rfl<|s1 (y_p rfl) rfl<|s1 (y_p rfl) rfl<|s1 (y_p rfl) rfl<|s1 (y_p rfl) rfl ?_
 refine at_nil<|x_tn<|at_seq<|at_region<|s1 (y_loadA0 ti23 rfl rfl (by decide)) rfl<|s1 (y_p rfl) rfl ?_
 refine at_op rfl (n_bsZ Tryz.underlying30 ti3 rfl rfl rfl (len_one rfl) (flatA_one rfl) pul rfl rfl rfl ?_)
 refine s1 (y_bld (out:= [_,_]) [[evC (.int .i64 0)], [evC (.int .i64 0)]] ti55 rfl Tryz.underlying55 (by kernel_rfl) rfl rfl ⟨⟨by(first|rfl|omega|(simp;done)|(simp [*];done)|(simp [cellsA, *];done)),rfl⟩,⟨⟨by(first|rfl|omega|(simp;done)|(simp [*];done)|(simp [cellsA, *];done)),rfl⟩,trivial⟩⟩ rfl) rfl ?_
 refine at_op rfl (n_bsZ Tryz.underlying31 ti55 rfl rfl rfl (by first|(simp [cellsA];done)|(simp [cellsA, *];done)) (show _=chsC [⟨5,0⟩]from rfl) pul rfl rfl rfl ?_)
 refine at_op rfl (n_call false rfl (.cons (.pure pu) (.cons (.pure pu) (.cons (.pure pu) (.cons (.pure pu) (.cons (.pure pu) (.cons (.pure pu) (.cons (.pure pu) .nil))))))) (Con.cast (epub_ok sd3 2 [eA] 1 11 [4,5] [⟨5,0⟩] (by decide) okL_A (by decide) (rg_of (by decide) (by decide)) (rg_of (by decide) (by decide)) (by decide) (by decide) (rg_one (by decide))) (show _=A.tu [.nl,.i .i64 351] by rw [pub_C];rfl)) pu (.inl rfl) rfl ?_)
 refine s1 (y_p rfl) rfl<|s1 (y_p rfl) rfl<|s1 (y_p rfl) rfl<|s1 (y_p rfl) rfl<|s1 (y_p rfl) rfl ?_
 refine at_nil<|x_tn<|at_seq<|at_region<|s1 (y_loadA0 ti23 rfl rfl (by decide)) rfl<|s1 (y_p rfl) rfl ?_
 refine at_op rfl (n_bsZ Tryz.underlying30 ti3 rfl rfl rfl (len_one rfl) (flatA_one rfl) pul rfl rfl rfl ?_)
 refine at_op rfl (n_call false rfl (.cons (.pure pu) (.cons (.pure pu) (.cons (.pure pu) (.cons (.pure pu) (.cons (.pure pu) (.cons (.pure pu) (.cons .nl .nil))))))) (Con.cast (epub_ok sd3 2 [eA,eB] 1 12 [4,5] [] (by decide) okL_B (by decide) (rg_of (by decide) (by decide)) (rg_of (by decide) (by decide)) (by decide) (by decide) (fun e he=>by cases he)) (show _=A.tu [.nl,.i .i64 2] by rw [pub_D];rfl)) pu (.inl rfl) rfl ?_)
 refine s1 (y_p rfl) rfl<|s1 (y_p rfl) rfl<|s1 (y_p rfl) rfl<|s1 (y_p rfl) rfl<|s1 (y_p rfl) rfl ?_
 refine at_nil<|x_tn<|at_seq<|at_region<|s1 (y_p rfl) rfl ?_
 refine at_op rfl (n_call false rfl (.cons (.pure pu) (.cons (.pure pu) .nil)) (Con.cast (ests_ok [eA,eB] 1 okL_B (by decide)) (show _=A.tu [chsA [⟨4,1⟩,⟨5,2⟩],.i .i64 0] by rw [sts_A];rfl)) pu (.inl rfl) rfl ?_)
 refine s1 (y_p rfl) rfl<|s1 (y_p rfl) rfl<|s1 (y_p rfl) rfl<|s1 (y_p rfl) rfl<|s1 (y_p rfl) rfl ?_
 refine at_nil<|x_tn<|at_seq<|at_region ?_
 refine at_op rfl (n_call false rfl (.cons .nl (.cons (.pure pu) .nil)) (Con.cast (ests_ok [] (-1) okL_0 (by decide)) (show _=A.tu [chsA [],.i .i64 0] by rw [sts_B];rfl)) pu (.inl rfl) rfl ?_)
 refine s1 (y_p rfl) rfl<|s1 (y_p rfl) rfl<|s1 (y_p rfl) rfl<|s1 (y_p rfl) rfl<|s1 (y_p rfl) rfl ?_
 refine at_nil<|x_tn<|at_seq<|at_region ?_
 refine at_op rfl (n_call false rfl (.cons .nl (.cons (.pure pu) .nil)) (Con.cast (ests_ok [] 0 okL_0 (by decide)) (show _=A.tu [.nl,.i .i64 1] by rw [sts_C];rfl)) pu (.inl rfl) rfl ?_)
 refine s1 (y_p rfl) rfl<|s1 (y_p rfl) rfl<|s1 (y_p rfl) rfl<|s1 (y_p rfl) rfl<|s1 (y_p rfl) rfl ?_
 refine at_nil<|x_tn<|at_seq<|at_region ?_
 refine at_op rfl (n_call false rfl (.cons .nl (.cons (.pure pu) .nil)) (Con.cast (eAt_ok [] 5 okL_0 (by decide)) (show _=A.tu [.i .i64 0,.b false] by rw [at_A];rfl)) pu (.inl rfl) rfl ?_)
 refine s1 (y_p rfl) rfl<|s1 (y_p rfl) rfl<|s1 (y_p rfl) rfl<|s1 (y_p rfl) rfl<|s1 (y_p rfl) rfl ?_
 refine at_nil<|x_tn<|at_seq<|at_region<|s1 (y_p rfl) rfl ?_
 refine at_op rfl (n_call false rfl (.cons (.pure pu) (.cons (.pure pu) .nil)) (Con.cast (eAt_ok [eA,eB] 10 okL_B (by decide)) (show _=A.tu [.i .i64 0,.b true] by rw [at_B];rfl)) pu (.inl rfl) rfl ?_)
 refine s1 (y_p rfl) rfl<|s1 (y_p rfl) rfl<|s1 (y_p rfl) rfl<|s1 (y_p rfl) rfl<|s1 (y_p rfl) rfl ?_
 refine at_nil<|x_tn<|at_seq<|at_seq<|at_region<|s1 (y_p rfl) rfl<|s1 ((y_p rfl).v (v':= .b false) (rfl)) rfl<|s1 (y_p rfl) rfl<|g1 rfl rfl (y_p rfl) rfl<|g1 rfl rfl ((y_p rfl).v (v':= .b false) (rfl)) rfl<|s1 (y_p rfl) rfl<|s1 (y_p rfl) rfl<|g1 rfl rfl (y_p rfl) rfl<|g1 rfl rfl ((y_p rfl).v (v':= .b false) (rfl)) rfl<|s1 (y_p rfl) rfl ?_
 refine s1 (y_p rfl) rfl<|g1 rfl rfl (y_p rfl) rfl<|g1 rfl rfl ((y_p rfl).v (v':= .b false) (rfl)) rfl<|s1 (y_p rfl) rfl<|s1 (y_p rfl) rfl<|g1 rfl rfl (y_p rfl) rfl<|g1 rfl rfl ((y_p rfl).v (v':= .b false) (rfl)) rfl<|s1 (y_p rfl) rfl<|s1 (y_p rfl) rfl<|g1 rfl rfl (y_p rfl) rfl ?_
 refine g1 rfl rfl ((y_p rfl).v (v':= .b false) (rfl)) rfl<|s1 (y_p rfl) rfl<|s1 (y_p rfl) rfl<|g1 rfl rfl (y_p rfl) rfl<|g1 rfl rfl ((y_p rfl).v (v':= .b false) (rfl)) rfl<|s1 (y_p rfl) rfl<|s1 (y_p rfl) rfl<|g1 rfl rfl (y_p rfl) rfl<|g1 rfl rfl ((y_p rfl).v (v':= .b false) (rfl)) rfl<|s1 (y_p rfl) rfl ?_
 refine s1 (y_p rfl) rfl<|g1 rfl rfl (y_p rfl) rfl<|s1 (y_p rfl) rfl<|s1 (y_p rfl) rfl<|g1 rfl rfl (y_p rfl) rfl<|g1 rfl rfl ((y_p rfl).v (v':= .b false) (rfl)) rfl<|s1 (y_p rfl) rfl<|s1 (y_p rfl) rfl<|g1 rfl rfl (y_p rfl) rfl<|g1 rfl rfl ((y_p rfl).v (v':= .b false) (rfl)) rfl ?_
 refine s1 (y_p rfl) rfl<|s1 (y_p rfl) rfl<|g1 rfl rfl (y_loadA0 ti23 rfl rfl (by simp)) rfl<|g1 rfl rfl (y_p rfl) rfl ?_
 refine at_opg rfl rfl rfl (n_call false rfl (.cons (.pure pu) (.cons (.pure pu) (.cons (.pure pu) .nil))) (Con.cast (eChk_ok (rootD sd3 2) 2 [eA,eB] (by simp) okL_B (by decide)) (congrArg (A.i .i64) form_B.2)) pu (.inl rfl) rfl ?_)
 refine g1 rfl rfl ((y_p rfl).v (v':= .b false) (rfl)) rfl<|s1 (y_p rfl) rfl<|s1 (y_p rfl) rfl<|g1 rfl rfl (y_loadA0 ti23 rfl rfl (by simp)) rfl ?_
 refine at_opg rfl rfl rfl (n_call false rfl (.cons (.pure pu) (.cons (.pure pu) (.cons .nl .nil))) (Con.cast (eChk_ok (rootD sd3 2) 2 [] (by simp) okL_0 (by decide)) (congrArg (A.i .i64) (chk_0 _ _))) pu (.inl rfl) rfl ?_)
 refine g1 rfl rfl ((y_p rfl).v (v':= .b false) (rfl)) rfl<|s1 (y_p rfl) rfl ?_
 refine at_nil<|x_tn ?_
 refine at_else rfl ?_
 refine at_skip<|x_tn<|at_seq ?_
 refine at_fs ⟨_, [], []⟩ 34 4 hmix (le_refl rfl) ?_
 refine fs_q 0 [] [] (y_p rfl) rfl rfl ?_
 refine fs_q 1 [] [] (y_bld (out:= [_,_]) [[evC (.int .i64 0)], [evC (.int .i64 0)]] ti55 rfl Tryz.underlying55 (by kernel_rfl) rfl rfl ⟨⟨by(first|rfl|omega|(simp;done)|(simp [*];done)|(simp [cellsA, *];done)),rfl⟩,⟨⟨by(first|rfl|omega|(simp;done)|(simp [*];done)|(simp [cellsA, *];done)),rfl⟩,trivial⟩⟩ rfl) rfl rfl ?_
 refine fs_q 2 [] [] (y_bld (out:= [_,_]) [[evC (.int .i64 0)], [evC (.int .i64 0)]] ti55 rfl Tryz.underlying55 (by kernel_rfl) rfl rfl ⟨⟨by(first|rfl|omega|(simp;done)|(simp [*];done)|(simp [cellsA, *];done)),rfl⟩,⟨⟨by(first|rfl|omega|(simp;done)|(simp [*];done)|(simp [cellsA, *];done)),rfl⟩,trivial⟩⟩ rfl) rfl rfl ?_
 refine fs_bsZ 3 [1,2] gy0 Tryz.underlying31 ti55 rfl rfl rfl (by first|(simp [cellsA];done)|(simp [cellsA, *];done)) (show _=chsC [⟨4,1⟩,⟨5,2⟩]from rfl) pul rfl rfl rfl rfl ?_
 refine fs_call false 4 [0,3] [] gy0 rfl (.cons (.pure pu) (.cons (.pure pu) (.nil))) (Con.cast (rsameCh_ok [⟨4,1⟩,⟨5,2⟩] [⟨4,1⟩,⟨5,2⟩] (by decide) (by decide)) (congrArg A.b (sameC5_self _))) pu (.inl rfl) rfl rfl ?_
 refine fs_q 5 [4] [] (y_p rfl) rfl rfl ?_
 refine fs_qg 6 [5] [] rfl rfl (y_p rfl) rfl rfl ?_
 refine fs_qg 7 [5,6] [] rfl rfl (y_len Tryz.underlying31 rfl rfl rfl) rfl rfl ?_
 refine fs_qg 8 [5,7] [] rfl rfl ((y_p rfl).v (v':= .b true) (rfl)) rfl rfl ?_
 refine fs_q 9 [5,8] [] (y_p rfl) rfl rfl ?_
 refine fs_q 10 [9] [] (y_p rfl) rfl rfl ?_
 refine fs_qg 11 [10] [] rfl rfl (y_p rfl) rfl rfl ?_
 refine fs_qg 12 [10,11] [] rfl rfl (y_len Tryz.underlying24 rfl rfl rfl) rfl rfl ?_
 refine fs_qg 13 [10,12] [] rfl rfl ((y_p rfl).v (v':= .b true) (rfl)) rfl rfl ?_
 refine fs_q 14 [10,13] [] (y_p rfl) rfl rfl ?_
 refine fs_q 15 [14] [] (y_p rfl) rfl rfl ?_
 refine fs_qg 16 [15] [] rfl rfl (y_p rfl) rfl rfl ?_
 refine fs_qg 17 [15,16] [] rfl rfl (y_ixf 1 Tryz.underlying24 ti45 rfl rfl rfl (by decide) rfl) rfl rfl ?_
 refine fs_qg 18 [15,17] [] rfl rfl (y_fldf Tryz.underlying45 rfl ti23 (by decide) rfl rfl) rfl rfl ?_
 refine fs_qg 19 [15,18] [] rfl rfl (y_loadA ti23 rfl rfl (eps_prev okL_B (e:=eB) rfl) (by simp [ok_B.prev])) rfl rfl ?_
 refine fs_qg 20 [15] [] rfl rfl (y_p rfl) rfl rfl ?_
 refine fs_qg 21 [15,20] [] rfl rfl (y_ixf 0 Tryz.underlying24 ti45 rfl rfl rfl (by decide) rfl) rfl rfl ?_
 refine fs_qg 22 [15,21] [] rfl rfl (y_loadA ti45 rfl rfl (eps_get okL_B (e:=eA) rfl) ok_A.len) rfl rfl ?_
 refine fs_call false 23 [15,22] [] (gy1 rfl rfl) rfl (.cons (.pure pu) (.nil)) (edig_ok eA ok_A) pu (.inl rfl) rfl rfl ?_
 refine fs_qg 24 [15,19,23] [] rfl rfl (((y_aq Tryz.underlying23 Tryz.underlying5 ti5 (by kernel_rfl) rfl rfl ok_B.prev (by simp))).v (v':= .b true) (congrArg A.b (beq_iff_eq.2 prev_B))) rfl rfl ?_
 refine fs_q 25 [15,24] [] (y_p rfl) rfl rfl ?_
 refine fs_q 26 [25] [] (y_p rfl) rfl rfl ?_
 refine fs_qg 27 [26] [] rfl rfl (y_p rfl) rfl rfl ?_
 refine fs_qg 28 [26,27] [] rfl rfl (y_ixf 0 Tryz.underlying24 ti45 rfl rfl rfl (by decide) rfl) rfl rfl ?_
 refine fs_qg 29 [26,28] [] rfl rfl (y_fldf Tryz.underlying45 rfl ti23 (by decide) rfl rfl) rfl rfl ?_
 refine fs_qg 30 [26,29] [] rfl rfl (y_loadA ti23 rfl rfl (eps_prev okL_B (e:=eA) rfl) (by simp [ok_A.prev])) rfl rfl ?_
 refine fs_qg 31 [26] [] rfl rfl ((y_bld0 ti23 rfl Tryz.underlying23 ti5 rfl).v (v':= .ag (zD.map u8)) (rfl)) rfl rfl ?_
 refine fs_qg 32 [26,30,31] [] rfl rfl (((y_aq Tryz.underlying23 Tryz.underlying5 ti5 (by kernel_rfl) rfl rfl ok_A.prev rfl)).v (v':= .b true) (congrArg A.b (beq_iff_eq.2 prev_A))) rfl rfl ?_
 refine fs_q 33 [26,32] [] (y_p rfl) rfl rfl ?_
 refine fs_end (by kernel_rfl) ?_
 refine s1 (y_p rfl) rfl ?_
 refine at_nil<|x_tn<|at_ret ?_
 refine at_result (rs:= [.tmp 0]) rfl (r_tmp rfl r_nil) ?_
 rfl
end Go.Abs.D2
-- E5W
namespace Go.Abs.D2
open Go Go.Eng Go.Abs
abbrev dCh:D:= .st [.int .i64,.int .i64]
abbrev dSp:D:= .st [.int .i64,.sl dCh]
theorem den_ch (aS:List A) (h:Den dCh aS):∃c:Ch,aS=c.cells∧(rg c.id∧rg c.st):=by
  simp only [Den,DenL]at h
  obtain⟨a,r,h1,⟨b,r2,h2,rfl,rfl⟩,rfl⟩:=h
  obtain⟨n,rfl,hn⟩:=den_int a (by simpa only [Den]using h1)
  obtain⟨m,rfl,hm⟩:=den_int b (by simpa only [Den]using h2)
  exact⟨⟨n,m⟩,rfl,hn,hm⟩
theorem den_chs (aS:List A) (h:Den (.sl dCh) aS):∃l:List Ch,aS= [chsA l]∧l.length≤maxLen∧∀c∈l,rg c.id∧rg c.st:=by
  simp only [Den]at h
  obtain⟨ls,h1,h2,rfl⟩:=h
  obtain⟨ys,rfl,h3⟩:=den_map (f:=Ch.cells) (e:=dCh) den_ch ls (fun x hx=>by simpa only [Den]using h1 x hx)
  exact⟨ys,by rw [List.length_map, ←List.flatMap_def];rfl,by simpa using h2,h3⟩
theorem den_sp (aS:List A) (h:Den dSp aS):∃s:Sp,aS=s.cells∧s.ok∧s.ch.length≤maxLen:=by
  simp only [Den,DenL]at h
  obtain⟨a,r,h1,⟨b,r2,h2,rfl,rfl⟩,rfl⟩:=h
  obtain⟨n,rfl,hn⟩:=den_int a (by simpa only [Den]using h1)
  obtain⟨l,rfl,hl,hc⟩:=den_chs b (by simpa only [Den,DenL]using h2)
  exact⟨⟨n,l⟩,rfl,⟨hn,hc⟩,hl⟩
theorem den_steps (aS:List A) (h:Den (.sl dSp) aS):∃S:List Sp,aS= [.fz S.length (spsC S)]∧S.length≤maxLen∧∀s∈S,s.ok∧s.ch.length≤maxLen:=by
  simp only [Den]at h
  obtain⟨ls,h1,h2,rfl⟩:=h
  obtain⟨ys,rfl,h3⟩:=den_map (f:=Sp.cells) (e:=dSp) den_sp ls (fun x hx=>by simpa only [Den]using h1 x hx)
  exact⟨ys,by rw [List.length_map, ←List.flatMap_def];rfl,by simpa using h2,h3⟩
structure Ep.typed (e:Ep):Prop where
  iss:rg e.iss
  no:rg e.no
  day:rg e.day
  ch:∀c∈e.ch,rg c.id∧rg c.st
  cas:e.cas.length=32
  prev:e.prev.length=32
  S:D32 e.sg.S
  P:D32 e.sg.P
  few:e.ch.length≤maxLen
theorem Ep.typed.ok {e:Ep} (h:e.typed) (hf:e.ch.length≤1000):e.ok:=⟨h.iss,h.no,h.day,h.ch,hf,h.cas,h.prev,h.S,h.P⟩
theorem Ep.typed.len {e:Ep} (h:e.typed):e.cells.length=71:=by simp [Ep.cells,h.cas,h.prev]
theorem pubLs_ok {x:List UInt8} {n iss:Int} {ids:List Int} (hi:rg iss):∀ {S:List Sp} {l:List Ep},EpsOk l→l.length+S.length≤1000→(∀s∈S,s.ok)→(∀s∈S,s.ch.length≤10)→EpsOk (pubLs x n iss ids l S)∧(pubLs x n iss ids l S).length≤l.length+S.length
  | [],l,hl,_,_,_=>⟨hl,Nat.le_refl _⟩
  | s :: r, l, hl, hn, hS, hc => by
    rw [List.length_cons]at hn
    have hs:=hS s (.head _)
    have ha:=addE_ok (x:=x) (n:=n) (ids:=ids) (c:=s.ch) (day:=s.day) hl (by omega) hi hs.1 (by have:=hc s (.head _);omega) hs.2
    have ih:=pubLs_ok (x:=x) (n:=n) (ids:=ids) hi (S:=r) ha.1 (by omega) (fun t ht=>hS t (.tail _ ht)) (fun t ht=>hc t (.tail _ ht))
    exact⟨ih.1,Nat.le_trans ih.2 (by rw [List.length_cons];omega)⟩
end Go.Abs.D2
-- E5X
namespace Go.Abs.D2
open Go Go.Eng Go.Abs
structure Good (x:List UInt8) (n:Int) (l:List Ep):Prop where
  form:∃τ,formS l=some τ
  chk:chkE (rootD x n) n l=0
  size:l≠ []→sizeK n
theorem good0 (x:List UInt8) (n:Int):Good x n []:=⟨⟨σ0,by rw [formS_eq];rfl⟩,chkE_yes (show formS []=some σ0 by rw [formS_eq];rfl) (fun e he=>by cases he),fun h=>absurd rfl h⟩
theorem pubLs_good {x:List UInt8} {n iss:Int} {ids:List Int}:∀ {S:List Sp} {l:List Ep},Good x n l→Good x n (pubLs x n iss ids l S)
  | [],_,h=>h
  | s :: r, l, h => by
    rw [pubLs]
    refine pubLs_good (S:=r) ?_
    cases hp:pubX x n l iss s.day ids s.ch with
    |inl v=>exact h
    | inr e =>
      obtain⟨σ,h1,h2,h3⟩:=pub_form hp
      exact⟨⟨_,h2⟩,h3,fun _=>(pub_spec hp).1⟩
theorem form_snoc {l : List Ep} {e : Ep} {τ : Int → Int} (h : formS (l ++ [e]) = some τ) : ∃ σ, formS l = some σ ∧ chOk σ (-1) e.ch = true ∧ τ = chg σ e.ch := by
  rw [formS_eq]at h
  cases l with
  | nil =>
    rw [List.nil_append,frm]at h
    split at h
    · rename_i hb
      rw [Bool.and_eq_true]at hb
      cases h
      exact⟨σ0,by rw [formS_eq];rfl,hb.2,rfl⟩
    · cases h
  | cons a r =>
    rw [issL_app (by simp),frm_app]at h
    rw [formS_eq]
    cases hf:frm (issL (a::r)) 0 (-1) zD σ0 (a::r)with
    |none=>rw [hf]at h;cases h
    | some σ =>
      rw [hf]at h
      simp only at h
      rw [frm]at h
      split at h
      · rename_i hb
        rw [Bool.and_eq_true]at hb
        cases h
        exact⟨σ,rfl,hb.2,rfl⟩
      · cases h
theorem good_at {x:List UInt8} {n:Int} {l:List Ep} (h:Good x n l) {i:Nat} {e:Ep} (he:l[i]? =some e):∃σ,formS (l.take i)=some σ∧Sup σ∧chOk σ (-1) e.ch=true∧Sup (chg σ e.ch)∧formS (l.take (i+1))=some (chg σ e.ch)∧chkE (rootD x n) n (l.take (i+1))=0∧stsX l (i:Int)= .inr (chS (chg σ e.ch)):=by
  obtain⟨τ,hτ⟩:=h.form
  have hi:=(List.getElem?_eq_some_iff.1 he).1
  obtain⟨ρ,hρ⟩:=form_take hτ (i+1)
  have hs:=hρ
  rw [List.take_add_one,he]at hs
  obtain⟨σ,h1,h2,rfl⟩:=form_snoc hs
  have hS:=sup_form h1
  refine⟨σ,h1,hS,h2,sup_form hρ,hρ,chkE_yes hρ fun a ha=>?_,sts_3 (by omega) (by rw [show((i:Int)+1).toNat=i+1 by omega];exact hρ)⟩
  cases hv:verK (rootD x n) n (digE a) a.sg.a a.sg.S a.sg.P with
  |true=>rfl
  | false =>
    have:=h.chk
    rw [chkE_bad hτ (List.mem_of_mem_take ha) hv]at this
    cases this
theorem stC_map (σ:Int→Int) (id:Int):∀l:List Int,stC (l.map fun k=>⟨k,σ k⟩) id=if id∈l then σ id else 0
  | []=>rfl
  | k :: l => by
    rw [List.map_cons,stC,stC_map σ id l]
    by_cases h:k=id
    · subst h;simp
    · rw [if_neg h]
      have:id∈k::l↔id∈l:=by simp [Ne.symm h]
      simp only [this]
theorem stC_chS {σ:Int→Int} (h:Sup σ) (id:Int):stC (chS σ) id=σ id:=by
  unfold chS
  rw [stC_map]
  split
  · rfl
  · rename_i hn
    cases Decidable.em (σ id=0)with
    |inl h0=>exact h0.symm
    |inr h0=>exact absurd ((keysS_mem h id).1 (by unfold mapOf;rw [if_neg h0];rfl)) hn
theorem chS_len (σ:Int→Int):(chS σ).length≤1024:=by
  have:=List.length_filter_le (fun n=>σ n !=0) ((List.range 1024).map fun k:Nat=>(k:Int))
  simpa [chS,keysS]using this
end Go.Abs.D2
-- E5Y
namespace Go.Abs.D2
open Go Go.Eng Go.Abs
def Cas5 (x:List UInt8) (ids:List Int) (l:List Ep):Prop:=∀i e,l[i]? =some e→∃τ,formS (l.take (i+1))=some τ∧splB τ ids=true∧e.cas=digC (casE x i τ ids)
theorem cas5_0 (x:List UInt8) (ids:List Int):Cas5 x ids []:=fun i e h=>by simp at h
theorem pubLs_cas {x : List UInt8} {n iss : Int} {ids : List Int} : ∀ {S : List Sp} {l : List Ep}, Cas5 x ids l → Cas5 x ids (pubLs x n iss ids l S)
  | [],_,h=>h
  | s :: r, l, h => by
    rw [pubLs]
    refine pubLs_cas (S:=r) ?_
    cases hp:pubX x n l iss s.day ids s.ch with
    |inl v=>exact h
    | inr e =>
      obtain⟨σ,h1,h2,h3⟩:=pub_form hp
      obtain⟨_,ρ,g1,_,_,_,_,_,g7,g8⟩:=pub_spec hp
      rw [h1]at g1
      cases g1
      intro i a ha
      show ∃τ,formS ((l++ [e]).take (i+1))=some τ∧_
      change (l++ [e])[i]? =some a at ha
      rcases Nat.lt_trichotomy i l.length with hi|hi|hi
      · rw [List.getElem?_append_left hi] at ha
        rw [List.take_append_of_le_length (by omega)]
        exact h i a ha
      · subst hi
        rw [List.getElem?_append_right (Nat.le_refl _),Nat.sub_self]at ha
        cases ha
        rw [List.take_of_length_le (by simp)]
        exact⟨_,h2,g7,by rw [g8];rfl⟩
      · rw [List.getElem?_eq_none (by simp; omega)] at ha
        cases ha
theorem cas5_at {x:List UInt8} {n:Int} {ids:List Int} {l:List Ep} (hg:Good x n l) (hc:Cas5 x ids l) {i:Nat} {e:Ep} (he:l[i]? =some e):∃τ,Sup τ∧stsX l (i:Int)= .inr (chS τ)∧listedB ids=true∧e.cas=digC (casE x i τ ids):=by
  obtain⟨τ,h1,h2,h3⟩:=hc i e he
  obtain⟨σ,_,_,_,g1,g2,_,g3⟩:=good_at hg he
  rw [g2]at h1
  cases h1
  exact⟨_,g1,g3,spl_listed h2,h3⟩
theorem has_casE {x:List UInt8} {i:Nat} {τ:Int→Int} {ids:List Int} (hl:listedB ids=true) {q:Int} (hq:q∈ids):hasCA (casE x i τ ids) q= .tu [.b (τ q !=0),.i .i64 0]:=by
  have hm:=asc_mem hl q hq
  obtain⟨j,rfl⟩:∃j:Nat,q=(j:Int):=⟨q.toNat,by omega⟩
  have hok:=ok2_split (σ:=τ) hl
  refine(hasc_yes (chkC_casB hok) (decide_eq_true (by omega))).trans ?_
  have hbg:(j:Int)∈badS τ ids∨(j:Int)∈goodS τ ids:=by
    unfold badS goodS
    rw [List.mem_filter,List.mem_filter]
    cases (τ (j:Int) !=0)with
    |true=>exact .inl ⟨hq,rfl⟩
    |false=>exact .inr ⟨hq,rfl⟩
  rw [exact_ok hok (by omega) hbg]
  have:decide ((j:Int)∈badS τ ids)=(τ (j:Int) !=0):=by
    unfold badS
    rw [Bool.eq_iff_iff,decide_eq_true_iff,List.mem_filter]
    exact⟨fun h=>h.2,fun h=>⟨hq,h⟩⟩
  rw [this]
theorem eps_cas {l:List Ep} {i:Nat} {e:Ep} (hl:EpsOk l) (h:l[i]? =some e):(((epsC l).drop (i*71)).drop 4).take 32=e.cas.map u8:=by
  have hok:=hl e (List.mem_of_getElem? h)
  have h1:((((epsC l).drop (i*71)).take 71).drop 4).take 32=e.cas.map u8:=by rw [eps_get hl h];exact ep_cas hok
  rw [List.drop_take,List.take_take]at h1
  exact h1
end Go.Abs.D2
-- E5N
namespace Go.Abs.D2
open Go Go.Eng Go.Abs Go.Proofs
theorem rtag_salt (x:List UInt8) (a:Nat) (hx:x.length=32):Con Tryz.prog 71 [.s tagS,.fz 36 ((x++seedBs (a:Int) 4).map u8)] (Ret (.ag ((saltD x a).map u8))):=by
  have e2:(x++seedBs (a:Int) 4).length=36:=by simp [hx]
  rw [saltD_eq, ←e2];exact rtagged_ok _ _ (by omega) (by simp)
theorem rsalt_ok (x:List UInt8) (a:Nat) (hx:x.length=32):Con Tryz.prog 30 [.ag (x.map u8),nJ a] (Ret (.ag ((saltD x a).map u8))):=by
 refine enter Tryz.func30 rfl Tryz.ntmps30 (by kernel_rfl) (Nat.le_of_ble_eq_true rfl) fun w0 X0 hI=>?_
 refine at_seq<|at_region ?_
 refine at_op rfl (n_boxA 2 rfl rfl rfl ?_)
 refine at_op rfl (n_alloc 4 rfl ti23 rfl rfl ?_)
 refine at_nil<|x_tn<|at_seq<|at_region ?_
 refine at_op rfl (n_bs1 5 rfl Tryz.underlying68 ti5 rfl rfl rfl rfl rfl ?_)
 refine s1 (y_cuta0 Tryz.underlying23 ti5 rfl rfl (by simp [hx]) (by simp [maxLen])) rfl ?_
 refine at_op rfl (n_app 7 rfl Tryz.underlying68 ti5 rfl (.sl rfl (by first|rfl|omega|(simp<;>omega)|(simp [*]<;>omega))) rfl (SM_full rfl (by simp [hx])) (by simp [hx]) (by simp [maxLen]) (by simp) rfl rfl rfl ?_)
 refine s1 (y_p rfl) rfl<|s1 (y_shr rfl rfl (by decide)) rfl<|s1 ((y_conv Tryz.underlying3 Tryz.underlying5 rfl).v (four_b0 a)) rfl<|s1 (y_p rfl) rfl<|s1 (y_shr rfl rfl (by decide)) rfl<|s1 ((y_conv Tryz.underlying3 Tryz.underlying5 rfl).v (four_b1 a)) rfl<|s1 (y_p rfl) rfl<|s1 (y_shr rfl rfl (by decide)) rfl<|s1 ((y_conv Tryz.underlying3 Tryz.underlying5 rfl).v (four_b2 a)) rfl<|s1 (y_p rfl) rfl ?_
 refine s1 ((y_conv Tryz.underlying3 Tryz.underlying5 rfl).v (four_b3 a)) rfl ?_
 refine at_op rfl (n_bs1 19 rfl Tryz.underlying68 ti5 rfl rfl rfl rfl rfl ?_)
 refine at_op rfl (n_app 20 rfl Tryz.underlying68 ti5 rfl (.sl rfl (by simp [hx])) rfl (SM_full rfl (by first|rfl|omega|(simp<;>omega)|(simp [*]<;>omega))) (by simp) (by simp [maxLen]) (by simp) rfl (show _=(x++seedBs (a:Int) 4).map u8 by rw [List.map_append];rfl) rfl ?_)
 refine at_op rfl (n_call true rfl (.cons (.pure pu) (.cons (.sl rfl rfl rfl (view_eq (by simp [hx]) (by simp)) (VwL.pure pul) pul) .nil)) (rtag_salt x a hx) pu (.inr fu) rfl ?_)
 refine at_op rfl (n_storeA ti23 rfl rfl rfl (by first|rfl|omega|(simp<;>omega)|(simp [*]<;>omega)) (by first|rfl|omega|(simp<;>omega)|(simp [*]<;>omega)) ?_)
 refine at_nil<|x_tn<|at_ret ?_
 refine at_result (rs:= [.cell 4 23]) rfl (r_cellA ti23 rfl rfl (List.take_of_length_le (by simp)) (by simp) r_nil) rfl
end Go.Abs.D2
-- E5O
namespace Go.Abs.D2
open Go Go.Eng Go.Abs Go.Proofs
theorem law_exact (x:List UInt8) (n iss:Int) (ids:List Int) (S:List Sp) (hx:x.length=32) (hi:rg iss) (hn:S.length≤maxLen) (hS:∀s∈S,s.ok∧s.ch.length≤maxLen):Con Tryz.prog 8 [.ag (x.map u8),.i .i64 n,.i .i64 iss,.fz ids.length (ids.map (A.i .i64)),.fz S.length (spsC S)] (Ret (.b true)):=by
 refine enter Tryz.func8 rfl Tryz.ntmps8 (by kernel_rfl) (Nat.le_of_ble_eq_true rfl) fun w0 X0 hI=>?_
 refine at_seq<|at_region ?_
 refine at_op rfl (n_boxA 5 rfl rfl rfl ?_)
 refine s1 (y_p rfl) rfl ?_
 refine at_nil<|x_tn<|at_seq<|at_seq<|at_region ?_
 refine at_op rfl (n_call false rfl (.nil) (lsane_ok) pu (.inl rfl) rfl ?_)
 refine s1 ((y_p rfl).v (v':= .b false) (rfl)) rfl ?_
 refine at_nil<|x_tn ?_
 refine at_else rfl ?_
 refine at_skip<|x_tn<|at_seq<|at_seq ?_
 rcases tfC (fewE n ids S)with hcs|hcs
 ·skip
  refine at_region<|s1 (y_p rfl) rfl<|s1 (y_p rfl) rfl<|s1 (y_p rfl) rfl ?_
  refine at_op rfl (n_call false rfl (.cons (.pure pu) (.cons (.pure pu) (.cons (.pure pu) (.nil)))) (Con.cast (lfew_ok n ids S hn) (congrArg A.b hcs)) pu (.inl rfl) rfl ?_)
  refine s1 ((y_p rfl).v (v':= .b true) (rfl)) rfl ?_
  refine at_nil<|x_tn ?_
  refine at_then rfl ?_
  refine at_seq<|at_region<|s1 (y_p rfl) rfl ?_
  refine at_nil<|x_tn<|at_ret<|x_tr ?_
  refine at_result (rs:= [.tmp 10]) rfl (r_tmp rfl r_nil) ?_
  rfl
 ·obtain ⟨hc, hSl, hn6, hids⟩ := fewE_spec hcs
  have hS1:∀s∈S,s.ok:=fun s hs=>(hS s hs).1
  obtain⟨l,hL⟩:∃l,l=(pubLs x n iss ids [] S):=⟨_,rfl⟩
  have hlo:EpsOk l∧l.length≤0+S.length:=by rw [hL];exact pubLs_ok hi (fun e he=>by cases he) (by simp;omega) hS1 hc
  obtain⟨hl,hll⟩:=hlo
  have hg:Good x n l:=by rw [hL];exact pubLs_good (good0 x n)
  have hcas:Cas5 x ids l:=by rw [hL];exact pubLs_cas (cas5_0 x ids)
  refine at_region<|s1 (y_p rfl) rfl<|s1 (y_p rfl) rfl<|s1 (y_p rfl) rfl ?_
  refine at_op rfl (n_call false rfl (.cons (.pure pu) (.cons (.pure pu) (.cons (.pure pu) (.nil)))) (Con.cast (lfew_ok n ids S hn) (congrArg A.b hcs)) pu (.inl rfl) rfl ?_)
  refine s1 ((y_p rfl).v (v':= .b false) (rfl)) rfl ?_
  refine at_nil<|x_tn ?_
  refine at_else rfl ?_
  refine at_skip<|x_tn<|at_seq<|at_region<|s1 (y_loadA0 ti23 rfl rfl (by rw [List.length_map,hx])) rfl<|s1 (y_p rfl) rfl<|s1 (y_p rfl) rfl<|s1 (y_p rfl) rfl<|s1 (y_p rfl) rfl ?_
  refine at_op rfl (n_call false rfl (.cons (.pure pu) (.cons (.pure pu) (.cons (.pure pu) (.cons (.pure pu) (.cons (.pure pu) (.nil)))))) (Con.cast (lpub_ok x n iss ids S hx hi (by omega) hS1 hc (by omega)) (show _=epsA l by rw [hL])) pu (.inl rfl) rfl ?_)
  refine s1 (y_p rfl) rfl ?_
  refine at_nil<|x_tn<|at_seq<|at_seq<|at_region<|s1 ((y_p rfl).v (v':= .i .i64 0) rfl) rfl ?_
  refine at_nil<|x_tn<|at_block ?_
  refine at_loop (ι:=Nat) (fun i=> [(3,.fz ids.length (ids.map (A.i .i64))),(5,.p 5 0),(11,epsA l),(12,nJ i)]) (fun i=>⟨[(5,some (x.map u8))]⟩) (fun i=>i≤l.length) (fun i=>l.length - i) ?_ ?_
  ·exact at_ex (0) (Nat.zero_le _) [(5,some 5)] hI rfl rfl ⟨⟨_,rfl,.pure pu⟩,⟨_,rfl,.p rfl⟩,⟨_,rfl,.pure pu⟩,⟨_,rfl,.pure pu⟩,trivial⟩ ⟨.inr ⟨_,_,rfl,rfl,.pure pul⟩,trivial⟩
  intro i hii
  refine at_seq<|at_seq<|at_region<|s1 (y_p rfl) rfl<|s1 (y_p rfl) rfl<|s1 (y_len Tryz.underlying24 rfl rfl rfl) rfl<|s1 (y_p rfl) rfl ?_
  refine at_nil<|x_tn ?_
  refine at_cond rfl (fun hc41=>?_) (fun hc41=>?_)
  ·have h41 : i < l.length := by have := of_decide_eq_true hc41; omega
   obtain⟨e,he⟩:∃e,l[i]? =some e:=⟨_,List.getElem?_eq_getElem h41⟩
   obtain⟨τ,hsu,hst,hlis,hec⟩:=cas5_at hg hcas he
   have hbl:=len_bad τ ids
   have hgl:=len_good τ ids
   obtain⟨hbE,hbF⟩:=casB_small (x:=saltD x i) (p:=(badS τ ids)) (q:=(goodS τ ids)) (by omega) (by omega)
   refine at_skip<|x_tn<|at_seq<|at_block<|at_seq<|at_region<|s1 (y_p rfl) rfl<|s1 (y_p rfl) rfl ?_
   refine at_op rfl (n_call false rfl (.cons (.pure pu) (.cons (.pure pu) (.nil))) (Con.cast (ests_ok l (i:Nat) hl (by omega)) (show _=A.tu [chsA (chS τ),.i .i64 0] by rw [hst];rfl)) pu (.inl rfl) rfl ?_)
   refine s1 (y_p rfl) rfl<|s1 (y_p rfl) rfl<|s1 (y_p rfl) rfl<|s1 (y_p rfl) rfl<|s1 (y_p rfl) rfl ?_
   refine at_nil<|x_tn<|at_seq<|at_region ?_
   refine at_op rfl (n_bs1 50 rfl Tryz.underlying30 ti3 rfl rfl rfl rfl rfl ?_)
   refine at_op rfl (n_bs1 51 rfl Tryz.underlying30 ti3 rfl rfl rfl rfl rfl ?_)
   refine s1 (y_p rfl) rfl<|s1 (y_p rfl) rfl ?_
   refine at_nil<|x_tn<|at_seq<|at_seq<|at_region<|s1 ((y_p rfl).v (v':= .i .i64 0) rfl) rfl ?_
   refine at_nil<|x_tn<|at_block ?_
   refine at_loop (ι:=Nat) (fun k=> [(3,.fz ids.length (ids.map (A.i .i64))),(5,.p 5 0),(11,epsA l),(12,nJ i),(13,chsA (chS τ)),(14,.i .i64 0),(15,.sl 50 1 0 (badS τ (ids.take k)).length),(16,.sl 51 1 0 (goodS τ (ids.take k)).length),(17,nJ k)]) (fun k=>⟨[(5,some (x.map u8)),(50,some ((badS τ (ids.take k)).map (A.i .i64))),(51,some ((goodS τ (ids.take k)).map (A.i .i64)))]⟩) (fun k=>k≤ids.length) (fun k=>ids.length - k) ?_ ?_
   ·exact at_ex (0) (Nat.zero_le _) [(5,some 5),(50,some 50),(51,some 51)] hI rfl rfl ⟨⟨_,rfl,.pure pu⟩,⟨_,rfl,.p rfl⟩,⟨_,rfl,.pure pu⟩,⟨_,rfl,.pure pu⟩,⟨_,rfl,.pure pu⟩,⟨_,rfl,.pure pu⟩,⟨_,rfl,.sl rfl (by first|rfl|omega|(simp<;>omega)|(simp [*]<;>omega))⟩,⟨_,rfl,.sl rfl (by first|rfl|omega|(simp<;>omega)|(simp [*]<;>omega))⟩,⟨_,rfl,.pure pu⟩,trivial⟩ ⟨.inr ⟨_,_,rfl,rfl,.pure pul⟩,.inr ⟨_,_,rfl,rfl,.of (by first|rfl|simp [badS]) (.pure pul)⟩,.inr ⟨_,_,rfl,rfl,.of (by first|rfl|simp [goodS]) (.pure pul)⟩,trivial⟩
   intro k hk
   have hlb:=len_bad τ (ids.take k)
   have hlg:=len_good τ (ids.take k)
   rw [List.length_take]at hlb hlg
   refine at_seq<|at_seq<|at_region<|s1 (y_p rfl) rfl<|s1 (y_p rfl) rfl<|s1 (y_len Tryz.underlying30 rfl rfl rfl) rfl<|s1 (y_p rfl) rfl ?_
   refine at_nil<|x_tn ?_
   refine at_cond rfl (fun hc55=>?_) (fun hc55=>?_)
   ·have h55 : k < ids.length := by have := of_decide_eq_true hc55; omega
    obtain⟨q,hq⟩:∃q,ids[k]? =some q:=⟨_,List.getElem?_eq_getElem (by omega)⟩
    have hqm:=List.mem_of_getElem? hq
    refine at_skip<|x_tn<|at_seq<|at_block<|at_seq<|at_region<|s1 (y_p rfl) rfl<|s1 (y_p rfl) rfl<|s1 (y_p rfl) rfl<|s1 (y_ixf k Tryz.underlying30 ti3 rfl rfl rfl (by omega) rfl) rfl<|s1 (y_load ti3 rfl rfl (getI4 hq)) rfl ?_
    refine at_op rfl (n_call false rfl (.cons (.pure pu) (.cons (.pure pu) (.nil))) (Con.cast (lstate_ok (chS τ) q (by have:=chS_len τ;simp only [maxLen];omega)) (congrArg (A.i .i64) (stC_chS hsu q))) pu (.inl rfl) rfl ?_)
    refine s1 (y_p rfl) rfl ?_
    refine at_nil<|x_tn ?_
    refine at_cond rfl (fun hc64=>?_) (fun hc64=>?_)
    ·have h64 : τ q ≠ 0 := by simpa using hc64
     obtain⟨hb1,hb2⟩:=bad_hit hq h64
     refine at_region<|s1 (y_p rfl) rfl<|s1 (y_p rfl) rfl<|s1 (y_p rfl) rfl<|s1 (y_ixf k Tryz.underlying30 ti3 rfl rfl rfl (by omega) rfl) rfl<|s1 (y_load ti3 rfl rfl (getI4 hq)) rfl ?_
     refine at_op rfl (n_bs1 70 rfl Tryz.underlying30 ti3 rfl rfl rfl rfl rfl ?_)
     refine at_op rfl (n_app 71 rfl Tryz.underlying30 ti3 rfl (.sl rfl (by simp)) rfl (SM_full rfl (by first|rfl|omega|(simp<;>omega)|(simp [*]<;>omega))) (by simp) (by simp only [maxLen];omega) (by omega) rfl rfl rfl ?_)
     refine s1 (y_p rfl) rfl ?_
     refine at_nil<|x_bn<|x_tn<|at_region<|s1 (y_p rfl) rfl<|s1 (addN _ 1 rfl rfl rfl rfl (by omega)) rfl<|s1 (y_p rfl) rfl ?_
     refine at_nil ?_
     exact at_end (k+1) (by omega) (by omega) [(5,some 5),(50,some 71),(51,some 51)] hI rfl rfl ⟨⟨_,rfl,.pure pu⟩,⟨_,rfl,.p rfl⟩,⟨_,rfl,.pure pu⟩,⟨_,rfl,.pure pu⟩,⟨_,rfl,.pure pu⟩,⟨_,rfl,.pure pu⟩,⟨_,rfl,.sl rfl (by first|rfl|omega|(simp<;>omega)|(simp [*]<;>omega))⟩,⟨_,rfl,.sl rfl (by first|rfl|omega|(simp<;>omega)|(simp [*]<;>omega))⟩,⟨_,rfl,.pure pu⟩,trivial⟩ ⟨.inr ⟨_,_,rfl,rfl,.pure pul⟩,.inr ⟨_,_,rfl,rfl,.of (by rw [hb1,List.map_append];rfl) (.pure pul)⟩,.inr ⟨_,_,rfl,rfl,.of (by rw [hb2]) (.pure pul)⟩,trivial⟩
    ·have h64 : τ q = 0 := by simpa using hc64
     obtain⟨hb1,hb2⟩:=bad_miss hq h64
     refine at_region<|s1 (y_p rfl) rfl<|s1 (y_p rfl) rfl<|s1 (y_p rfl) rfl<|s1 (y_ixf k Tryz.underlying30 ti3 rfl rfl rfl (by omega) rfl) rfl<|s1 (y_load ti3 rfl rfl (getI4 hq)) rfl ?_
     refine at_op rfl (n_bs1 77 rfl Tryz.underlying30 ti3 rfl rfl rfl rfl rfl ?_)
     refine at_op rfl (n_app 78 rfl Tryz.underlying30 ti3 rfl (.sl rfl (by simp)) rfl (SM_full rfl (by first|rfl|omega|(simp<;>omega)|(simp [*]<;>omega))) (by simp) (by simp only [maxLen];omega) (by omega) rfl rfl rfl ?_)
     refine s1 (y_p rfl) rfl ?_
     refine at_nil<|x_bn<|x_tn<|at_region<|s1 (y_p rfl) rfl<|s1 (addN _ 1 rfl rfl rfl rfl (by omega)) rfl<|s1 (y_p rfl) rfl ?_
     refine at_nil ?_
     exact at_end (k+1) (by omega) (by omega) [(5,some 5),(50,some 50),(51,some 78)] hI rfl rfl ⟨⟨_,rfl,.pure pu⟩,⟨_,rfl,.p rfl⟩,⟨_,rfl,.pure pu⟩,⟨_,rfl,.pure pu⟩,⟨_,rfl,.pure pu⟩,⟨_,rfl,.pure pu⟩,⟨_,rfl,.sl rfl (by first|rfl|omega|(simp<;>omega)|(simp [*]<;>omega))⟩,⟨_,rfl,.sl rfl (by first|rfl|omega|(simp<;>omega)|(simp [*]<;>omega))⟩,⟨_,rfl,.pure pu⟩,trivial⟩ ⟨.inr ⟨_,_,rfl,rfl,.pure pul⟩,.inr ⟨_,_,rfl,rfl,.of (by rw [hb1]) (.pure pul)⟩,.inr ⟨_,_,rfl,rfl,.of (by rw [hb2,List.map_append];rfl) (.pure pul)⟩,trivial⟩
   ·have h55 : k = ids.length := by have := of_decide_eq_false hc55; omega
    subst h55
    refine at_exit<|x_te<|x_te<|x_be<|x_tn<|at_seq ?_
    refine at_sayO 50 (cs':=(badS τ ids).map (A.i .i64)) rfl (by rw [List.take_length]) ?_
    refine at_sayO 51 (cs':=(goodS τ ids).map (A.i .i64)) rfl (by rw [List.take_length]) ?_
    refine at_frz 15 rfl rfl pul (view_eq (by simp) rfl) ?_
    refine at_say 15 rfl (v':= .fz (badS τ ids).length ((badS τ ids).map (A.i .i64))) (by rw [List.take_length]) ?_
    refine at_frz 16 rfl rfl pul (view_eq (by simp) rfl) ?_
    refine at_say 16 rfl (v':= .fz (goodS τ ids).length ((goodS τ ids).map (A.i .i64))) (by rw [List.take_length]) ?_
    refine at_region<|s1 (y_loadA0 ti23 rfl rfl (by rw [List.length_map,hx])) rfl<|s1 (y_p rfl) rfl ?_
    refine at_op rfl (n_call false rfl (.cons (.pure pu) (.cons (.pure pu) (.nil))) (rsalt_ok x i hx) pu (.inl rfl) rfl ?_)
    refine s1 (y_p rfl) rfl<|s1 (y_p rfl) rfl ?_
    refine at_op rfl (n_call false rfl (.cons (.pure pu) (.cons (.pure pu) (.cons (.pure pu) (.nil)))) (Con.cast (cbuild_ok (saltD x i) (by simp) (badS τ ids) (goodS τ ids) (by omega) (by omega)) (build_yes (ok2_split hlis))) pu (.inl rfl) rfl ?_)
    refine s1 (y_p rfl) rfl<|s1 (y_p rfl) rfl<|s1 (y_p rfl) rfl ?_
    refine at_op rfl (n_alloc 18 rfl ti60 rfl rfl ?_)
    refine at_op rfl (n_storeA ti60 rfl rfl rfl (cas_len (c:=(casE x i τ ids)) (len_saltD _ _)) rfl ?_)
    refine s1 (y_p rfl) rfl ?_
    refine at_nil<|x_tn<|at_seq<|at_region<|s1 (y_loadA0 ti60 rfl rfl (cas_len (c:=(casE x i τ ids)) (len_saltD _ _))) rfl ?_
    refine at_op rfl (n_call false rfl (.cons (.pure pu) (.nil)) (Con.cast (cdigC_ok (casE x i τ ids) (len_saltD _ _) (show(casE x i τ ids).E.length≤maxLen by simp only [maxLen];exact Nat.le_trans hbE (by decide))) (digCA_y (chkC_casB (ok2_split hlis)))) pu (.inl rfl) rfl ?_)
    refine s1 (y_p rfl) rfl<|s1 (y_p rfl) rfl<|s1 (y_p rfl) rfl ?_
    refine at_op rfl (n_alloc 20 rfl ti23 rfl rfl ?_)
    refine at_op rfl (n_storeA ti23 rfl rfl rfl (by first|rfl|omega|(simp<;>omega)|(simp [*]<;>omega)) (by first|rfl|omega|(simp<;>omega)|(simp [*]<;>omega)) ?_)
    refine s1 (y_p rfl) rfl ?_
    refine at_nil<|x_tn<|at_seq<|at_seq ?_
    refine at_draw_tail 18 hmix (by kernel_rfl) ?_
    refine t1 (y_p rfl) rfl<|t1 ((y_p rfl).v (v':= .b false) (rfl)) rfl<|t1 (y_p rfl) rfl<|t1g rfl rfl (y_p rfl) rfl<|t1g rfl rfl ((y_p rfl).v (v':= .b false) (rfl)) rfl<|t1 (y_p rfl) rfl<|t1 (y_p rfl) rfl<|t1g rfl rfl (y_p rfl) rfl<|t1g rfl rfl ((y_p rfl).v (v':= .b false) (rfl)) rfl<|t1 (y_p rfl) rfl ?_
    refine t1 (y_p rfl) rfl<|t1g rfl rfl (y_p rfl) rfl<|t1g rfl rfl (y_p rfl) rfl<|t1g rfl rfl (y_ixf i Tryz.underlying24 ti45 rfl rfl rfl (by omega) rfl) rfl<|t1g rfl rfl (y_fldf Tryz.underlying45 rfl ti23 (by decide) rfl rfl) rfl<|t1g rfl rfl (y_loadA ti23 rfl rfl (eps_cas hl he) (by rw [List.length_map];exact(hl e (List.mem_of_getElem? he)).cas)) rfl<|t1g rfl rfl (y_loadA0 ti23 rfl rfl (by simp)) rfl<|t1g rfl rfl (((y_aqn Tryz.underlying23 Tryz.underlying5 ti5 (by kernel_rfl) rfl rfl (hl e (List.mem_of_getElem? he)).cas (by simp))).v (v':= .b false) (congrArg A.b (by rw [hec];simp))) rfl ?_
    refine at_snil ?_
    refine s1 (y_p rfl) rfl ?_
    refine at_nil<|x_tn ?_
    refine at_else rfl ?_
    refine at_skip<|x_tn<|at_seq<|at_region<|s1 ((y_p rfl).v (v':= .i .i64 0) rfl) rfl ?_
    refine at_nil<|x_tn<|at_block ?_
    refine at_loop (ι:=Nat) (fun k=> [(3,.fz ids.length (ids.map (A.i .i64))),(5,.p 5 0),(11,epsA l),(12,nJ i),(13,chsA (chS τ)),(18,.p 18 0),(22,nJ k)]) (fun k=>⟨[(5,some (x.map u8)),(18,some (casL (casE x i τ ids)))]⟩) (fun k=>k≤ids.length) (fun k=>ids.length - k) ?_ ?_
    ·exact at_ex (0) (Nat.zero_le _) [(5,some 5),(18,some 18)] hI rfl rfl ⟨⟨_,rfl,.pure pu⟩,⟨_,rfl,.p rfl⟩,⟨_,rfl,.pure pu⟩,⟨_,rfl,.pure pu⟩,⟨_,rfl,.pure pu⟩,⟨_,rfl,.p rfl⟩,⟨_,rfl,.pure pu⟩,trivial⟩ ⟨.inr ⟨_,_,rfl,rfl,.pure pul⟩,.inr ⟨_,_,rfl,rfl,.pure pul⟩,trivial⟩
    intro k hk
    refine at_seq<|at_seq<|at_region<|s1 (y_p rfl) rfl<|s1 (y_p rfl) rfl<|s1 (y_len Tryz.underlying30 rfl rfl rfl) rfl<|s1 (y_p rfl) rfl ?_
    refine at_nil<|x_tn ?_
    refine at_cond rfl (fun hc115=>?_) (fun hc115=>?_)
    ·have h115 : k < ids.length := by have := of_decide_eq_true hc115; omega
     obtain⟨q,hq⟩:∃q,ids[k]? =some q:=⟨_,List.getElem?_eq_getElem (by omega)⟩
     have hqm:=List.mem_of_getElem? hq
     refine at_skip<|x_tn<|at_seq<|at_block<|at_seq ?_
     refine at_fs ⟨_, [], []⟩ 10 4 hmix (le_refl rfl) ?_
     refine fs_q 0 [] [(18,none)] (y_loadA0 ti60 rfl rfl (cas_len (c:=(casE x i τ ids)) (len_saltD _ _))) rfl rfl ?_
     refine fs_q 1 [] [] (y_p rfl) rfl rfl ?_
     refine fs_q 2 [] [] (y_p rfl) rfl rfl ?_
     refine fs_q 3 [1,2] [] (y_ixf k Tryz.underlying30 ti3 rfl rfl rfl (by omega) rfl) rfl rfl ?_
     refine fs_q 4 [3] [] (y_load ti3 rfl rfl (getI4 hq)) rfl rfl ?_
     refine fs_call false 5 [0,4] [] gy0 rfl (.cons (.pure pu) (.cons (.pure pu) (.nil))) (Con.cast (chas_ok (casE x i τ ids) (len_saltD _ _) (show(casE x i τ ids).E.length≤maxLen by simp only [maxLen];exact Nat.le_trans hbE (by decide)) q) (has_casE hlis hqm)) pu (.inl rfl) rfl rfl ?_
     refine fs_q 6 [5] [] (y_p rfl) rfl rfl ?_
     refine fs_q 7 [6] [] (y_p rfl) rfl rfl ?_
     refine fs_q 8 [6] [] (y_p rfl) rfl rfl ?_
     refine fs_q 9 [7] [] (y_p rfl) rfl rfl ?_
     refine fs_end (by kernel_rfl) ?_
     refine s1 (y_p rfl) rfl ?_
     refine at_nil<|x_tn<|at_seq<|at_region<|s1 (y_p rfl) rfl<|s1 ((y_p rfl).v (v':= .b false) (rfl)) rfl<|s1 (y_p rfl) rfl<|g1 rfl rfl (y_p rfl) rfl<|g1 rfl rfl (y_p rfl) rfl<|g1 rfl rfl (y_p rfl) rfl<|g1 rfl rfl (y_p rfl) rfl<|g1 rfl rfl (y_ixf k Tryz.underlying30 ti3 rfl rfl rfl (by omega) rfl) rfl<|g1 rfl rfl (y_load ti3 rfl rfl (getI4 hq)) rfl ?_
     refine at_opg rfl rfl rfl (n_call false rfl (.cons (.pure pu) (.cons (.pure pu) (.nil))) (Con.cast (lstate_ok (chS τ) q (by have:=chS_len τ;simp only [maxLen];omega)) (congrArg (A.i .i64) (stC_chS hsu q))) pu (.inl rfl) rfl ?_)
     refine g1 rfl rfl (y_p rfl) rfl<|g1 rfl rfl ((y_neb Tryz.underlying4 rfl rfl).v (v':= .b false) (congrArg A.b (by simp))) rfl<|s1 (y_p rfl) rfl ?_
     refine at_nil<|x_tn ?_
     refine at_else rfl ?_
     refine at_skip<|x_bn<|x_tn<|at_region<|s1 (y_p rfl) rfl<|s1 (addN _ 1 rfl rfl rfl rfl (by omega)) rfl<|s1 (y_p rfl) rfl ?_
     refine at_nil ?_
     exact at_end (k+1) (by omega) (by omega) [(5,some 5),(18,some 18)] hI rfl rfl ⟨⟨_,rfl,.pure pu⟩,⟨_,rfl,.p rfl⟩,⟨_,rfl,.pure pu⟩,⟨_,rfl,.pure pu⟩,⟨_,rfl,.pure pu⟩,⟨_,rfl,.p rfl⟩,⟨_,rfl,.pure pu⟩,trivial⟩ ⟨.inr ⟨_,_,rfl,rfl,.pure pul⟩,.inr ⟨_,_,rfl,rfl,.pure pul⟩,trivial⟩
    ·skip
     refine at_exit<|x_te<|x_te<|x_be<|x_bn<|x_tn<|at_region<|s1 (y_p rfl) rfl<|s1 (addN _ 1 rfl rfl rfl rfl (by omega)) rfl<|s1 (y_p rfl) rfl ?_
     refine at_nil ?_
     exact at_end (i+1) (by omega) (by omega) [(5,some 5)] hI rfl rfl ⟨⟨_,rfl,.pure pu⟩,⟨_,rfl,.p rfl⟩,⟨_,rfl,.pure pu⟩,⟨_,rfl,.pure pu⟩,trivial⟩ ⟨.inr ⟨_,_,rfl,rfl,.pure pul⟩,trivial⟩
  ·skip
   refine at_exit<|x_te<|x_te<|x_be<|x_tn<|at_seq<|at_region<|s1 (y_p rfl) rfl ?_
   refine at_nil<|x_tn<|at_ret ?_
   refine at_result (rs:= [.tmp 10]) rfl (r_tmp rfl r_nil) ?_
   rfl
end Go.Abs.D2
