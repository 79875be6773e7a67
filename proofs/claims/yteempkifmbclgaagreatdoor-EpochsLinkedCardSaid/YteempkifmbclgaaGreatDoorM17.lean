/-
  The engine, the plain laws and the walks that the rows need, part 17. Conditions: none.
-/
import Derived.Test.YteempkifmbclgaaGreatDoorM16
import Derived.Shelf.SlIterI.Nil
import Derived.Shelf.SortM.Plain
import Derived.Shelf.SortM.SortNone
import Derived.Ground.GgzProg
import Derived.Ground.SlgmProg
import Derived.Test.YteempkifmbclgaaGreatDoorProg
set_option linter.unusedVariables false
set_option linter.unusedSimpArgs false
set_option maxHeartbeats 1000000
set_option maxRecDepth 10000
-- ShP
namespace Go.Proofs
open Go.Shelf
def Tryz.keysL_ren:Go.Shelf.Ren:=⟨fun|7=>66|10=>114|n=>n,fun|23=>80|26=>3|3=>3|28=>105|0=>0|27=>104|33=>126|4=>4|n=>n,fun|n=>n⟩
theorem Tryz.keysL:Go.Proofs.SlLaysZI.n7 Tryz.prog Tryz.keysL_ren:= {
  mixed:=by kernel_rfl
  f7:=⟨Tryz.f66.name,by decide,Tryz.func66.trans (congrArg some (by kernel_rfl))⟩
  f10:=⟨Tryz.f114.name,by decide,Tryz.func114.trans (congrArg some (by kernel_rfl))⟩
  t0:=Tryz.underlying0
  a0:=Tryz.isAgg0
  z0:=Tryz.sizeOf0
  v0:=Tryz.zeroValue0
  t4:=Tryz.underlying4
  a4:=Tryz.isAgg4
  z4:=Tryz.sizeOf4
  v4:=Tryz.zeroValue4
  t23:=Tryz.underlying80
  a23:=Tryz.isAgg80
  z23:=Tryz.sizeOf80
  v23:=Tryz.zeroValue80
  t26:=Tryz.underlying3
  a26:=Tryz.isAgg3
  z26:=Tryz.sizeOf3
  v26:=Tryz.zeroValue3
  t27:=Tryz.underlying104
  a27:=Tryz.isAgg104
  z27:=Tryz.sizeOf104
  v27:=Tryz.zeroValue104
  t28:=Tryz.underlying105
  a28:=Tryz.isAgg105
  z28:=Tryz.sizeOf105
  v28:=Tryz.zeroValue105
  t33:=Tryz.underlying126
  a33:=Tryz.isAgg126
  z33:=Tryz.sizeOf126
  v33:=Tryz.zeroValue126}
def Tryz.sortedL_ren:Go.Shelf.Ren:=⟨fun|6=>65|8=>112|9=>113|11=>164|13=>146|12=>165|23=>186|24=>187|14=>195|15=>196|16=>197|17=>198|18=>199|19=>200|20=>201|21=>202|22=>203|25=>211|26=>212|27=>213|28=>214|29=>215|30=>216|31=>217|n=>n,fun|26=>3|28=>105|24=>30|0=>0|3=>3|37=>74|48=>183|50=>198|4=>4|40=>222|39=>221|45=>38|5=>5|9=>9|51=>231|55=>235|57=>238|58=>71|33=>126|n=>n,fun|n=>n⟩
theorem Tryz.sortedL:Go.Proofs.SlLaysZI.n6 Tryz.prog Tryz.sortedL_ren:= {
  mixed:=by kernel_rfl
  f6:=⟨Tryz.f65.name,by decide,Tryz.func65.trans (congrArg some (by kernel_rfl))⟩
  f8:=⟨Tryz.f112.name,by decide,Tryz.func112.trans (congrArg some (by kernel_rfl))⟩
  f11:=⟨Tryz.f164.name,by decide,Tryz.func164.trans (congrArg some (by kernel_rfl))⟩
  t0:=Tryz.underlying0
  a0:=Tryz.isAgg0
  z0:=Tryz.sizeOf0
  v0:=Tryz.zeroValue0
  t24:=Tryz.underlying30
  a24:=Tryz.isAgg30
  z24:=Tryz.sizeOf30
  v24:=Tryz.zeroValue30
  t26:=Tryz.underlying3
  a26:=Tryz.isAgg3
  z26:=Tryz.sizeOf3
  v26:=Tryz.zeroValue3
  t28:=Tryz.underlying105
  a28:=Tryz.isAgg105
  z28:=Tryz.sizeOf105
  v28:=Tryz.zeroValue105
  i26:=by kernel_rfl}
def Tryz.sortL_ren:Go.Shelf.Ren:=⟨fun|5=>113|8=>146|7=>165|19=>186|20=>187|10=>195|11=>196|12=>197|13=>198|14=>199|15=>200|16=>201|17=>202|18=>203|30=>211|31=>212|32=>213|33=>214|34=>215|35=>216|40=>217|n=>n,fun|23=>30|25=>3|3=>3|32=>74|22=>30|0=>0|44=>183|46=>198|4=>4|36=>222|35=>221|41=>38|5=>5|9=>9|53=>231|57=>235|63=>238|64=>71|n=>n,fun|n=>n⟩
theorem Tryz.sortL:Go.Proofs.SlLaysM.n5 Tryz.prog Tryz.sortL_ren:= {
  mixed:=by kernel_rfl
  f5:=⟨Tryz.f113.name,by decide,Tryz.func113.trans (congrArg some (by kernel_rfl))⟩
  f7:=⟨Tryz.f165.name,by decide,Tryz.func165.trans (congrArg some (by kernel_rfl))⟩
  f8:=Tryz.func146.trans (congrArg some (by kernel_rfl))
  f10:=⟨Tryz.f195.name,by decide,Tryz.func195.trans (congrArg some (by kernel_rfl))⟩
  f11:=⟨Tryz.f196.name,by decide,Tryz.func196.trans (congrArg some (by kernel_rfl))⟩
  f12:=⟨Tryz.f197.name,by decide,Tryz.func197.trans (congrArg some (by kernel_rfl))⟩
  f13:=⟨Tryz.f198.name,by decide,Tryz.func198.trans (congrArg some (by kernel_rfl))⟩
  f14:=⟨Tryz.f199.name,by decide,Tryz.func199.trans (congrArg some (by kernel_rfl))⟩
  f15:=⟨Tryz.f200.name,by decide,Tryz.func200.trans (congrArg some (by kernel_rfl))⟩
  f16:=⟨Tryz.f201.name,by decide,Tryz.func201.trans (congrArg some (by kernel_rfl))⟩
  f17:=⟨Tryz.f202.name,by decide,Tryz.func202.trans (congrArg some (by kernel_rfl))⟩
  f18:=⟨Tryz.f203.name,by decide,Tryz.func203.trans (congrArg some (by kernel_rfl))⟩
  f19:=Tryz.func186.trans (congrArg some (by kernel_rfl))
  f20:=Tryz.func187.trans (congrArg some (by kernel_rfl))
  f30:=⟨Tryz.f211.name,by decide,Tryz.func211.trans (congrArg some (by kernel_rfl))⟩
  f31:=Tryz.func212.trans (congrArg some (by kernel_rfl))
  f32:=Tryz.func213.trans (congrArg some (by kernel_rfl))
  f33:=⟨Tryz.f214.name,by decide,Tryz.func214.trans (congrArg some (by kernel_rfl))⟩
  f34:=⟨Tryz.f215.name,by decide,Tryz.func215.trans (congrArg some (by kernel_rfl))⟩
  f35:=⟨Tryz.f216.name,by decide,Tryz.func216.trans (congrArg some (by kernel_rfl))⟩
  f40:=⟨Tryz.f217.name,by decide,Tryz.func217.trans (congrArg some (by kernel_rfl))⟩
  t0:=Tryz.underlying0
  a0:=Tryz.isAgg0
  z0:=Tryz.sizeOf0
  v0:=Tryz.zeroValue0
  t3:=Tryz.underlying3
  a3:=Tryz.isAgg3
  z3:=Tryz.sizeOf3
  v3:=Tryz.zeroValue3
  t4:=Tryz.underlying4
  a4:=Tryz.isAgg4
  z4:=Tryz.sizeOf4
  v4:=Tryz.zeroValue4
  t5:=Tryz.underlying5
  a5:=Tryz.isAgg5
  z5:=Tryz.sizeOf5
  v5:=Tryz.zeroValue5
  t9:=Tryz.underlying9
  a9:=Tryz.isAgg9
  z9:=Tryz.sizeOf9
  v9:=Tryz.zeroValue9
  t22:=Tryz.underlying30
  a22:=Tryz.isAgg30
  z22:=Tryz.sizeOf30
  v22:=Tryz.zeroValue30
  t23:=Tryz.underlying30
  a23:=Tryz.isAgg30
  z23:=Tryz.sizeOf30
  v23:=Tryz.zeroValue30
  t25:=Tryz.underlying3
  a25:=Tryz.isAgg3
  z25:=Tryz.sizeOf3
  v25:=Tryz.zeroValue3
  t32:=Tryz.underlying74
  a32:=Tryz.isAgg74
  z32:=Tryz.sizeOf74
  v32:=Tryz.zeroValue74
  t35:=Tryz.underlying221
  a35:=Tryz.isAgg221
  z35:=Tryz.sizeOf221
  v35:=Tryz.zeroValue221
  t36:=Tryz.underlying222
  a36:=Tryz.isAgg222
  z36:=Tryz.sizeOf222
  v36:=Tryz.zeroValue222
  t41:=Tryz.underlying38
  a41:=Tryz.isAgg38
  z41:=Tryz.sizeOf38
  v41:=Tryz.zeroValue38
  t44:=Tryz.underlying183
  a44:=Tryz.isAgg183
  z44:=Tryz.sizeOf183
  v44:=Tryz.zeroValue183
  t46:=Tryz.underlying198
  a46:=Tryz.isAgg198
  z46:=Tryz.sizeOf198
  v46:=Tryz.zeroValue198
  t53:=Tryz.underlying231
  a53:=Tryz.isAgg231
  z53:=Tryz.sizeOf231
  v53:=Tryz.zeroValue231
  t57:=Tryz.underlying235
  a57:=Tryz.isAgg235
  z57:=Tryz.sizeOf235
  v57:=Tryz.zeroValue235
  t63:=Tryz.underlying238
  a63:=Tryz.isAgg238
  z63:=Tryz.sizeOf238
  v63:=Tryz.zeroValue238
  t64:=Tryz.underlying71
  a64:=Tryz.isAgg71
  z64:=Tryz.sizeOf71
  v64:=Tryz.zeroValue71}
end Go.Proofs
-- E5I
namespace Go.Abs.D2
open Go Go.Eng Go.Abs Go.Proofs
theorem sortsIn_L (m:Nat):AnyZI.SortsIn Tryz.prog Tryz.sortedL_ren Fence.wide m:=
  ⟨fun blk off cap ss W hH hblk hsz=>callsIn_wide.2 (AnyM.slices_Sort_int Tryz.sortL blk off cap ss W hH hblk hsz),fun p cap W=>callsIn_wide.2 (AnyM.slices_Sort_int_none Tryz.sortL p cap W)⟩
theorem esort_raw {σ:Int→Int} (hs:Sup σ) (w:World) (b B:Nat) (es:Array MapEntry) (clk:Nat) (hb:w.heap[b]? =some (.map es clk)) (hF:MapF es clk (mapOf σ)) (hBl:B<w.heap.size) (hB:w.cell? ⟨B,0,none⟩=some (.map (some b))):
  Calls Tryz.prog 65 #[.func (.func 114) #[] #[.pointer (some ⟨B,0,none⟩)]] w fun e w'=>∃v,e= .returned v∧w'.ownsRow w.heap.size 3 1 v (keysS σ).length ((keysS σ).map Go.encZ)∧RowKit.Below w.heap.size w w':=by
 obtain⟨D0,hown,hperm,hsz⟩:=owns_of (H:=Unit) (k:=3) Tryz.underlying3 hs hb hF
 have hseq:SeqGives Fence.wide 2 Tryz.prog 114 #[.pointer (some ⟨B,0,none⟩)] Go.encZ (fun ss=>ss.Perm (intKeys D0)) (Go.Maps.size D0) w:=AnyZI.keys_gives (ρ:=Tryz.keysL_ren) {Tryz.keysL with} Fence.wide _ trivial rfl (by omega) B b 1024 D0 w hBl hB hown
 have cS:=AnyZI.sorted_in Tryz.sortedL Fence.wide 5 trivial trivial trivial trivial rfl (by omega) (sortsIn_L _) (enters_of Tryz.func113 (by kernel_rfl) rfl) 114 #[.pointer (some ⟨B,0,none⟩)] trivial (enters_of Tryz.func114 (by kernel_rfl) rfl) _ _ (Nat.le_trans hsz (by decide)) (by omega) w hseq
 change CallsIn _ _ Tryz.prog 65 _ _ _ at cS
 refine(callsIn_wide (n:=5)).1 (cS.mono ?_)
 rintro e w' ⟨v,ss,rfl,hS,hrow,_,hB⟩
 have e1:ss.mergeSort (fun x y=>decide (x≤y))=keysS σ:=(mergeSort_of_perm_i (hS.trans hperm)).trans (keysS_sorted σ)
 have e2:ss.length=(keysS σ).length:=(hS.trans hperm).length_eq
 rw [e1,e2]at hrow
 exact⟨v,rfl,hrow,hB⟩
theorem esorted_ok {b:Nat} {σ:Int→Int} (hs:Sup σ):ConS Tryz.prog 65 [.fn (.func 114) [] [.p 24 0]] ⟨[(24,some [.raw (.map (some b))]),(700,some [.mc b (mapOf σ)])]⟩ (RetOS 1 (keysS σ).length ((keysS σ).map (A.i .i64)) [(700, [.mc b (mapOf σ)])]):=con_row (e:=3) 9 rfl (fun p hp=>by rw [List.mem_singleton.1 hp];rfl) fun w X β us hd hX ho hv=>by
 refine⟨⟨_,Tryz.func65,rfl,by kernel_rfl⟩,?_⟩
 obtain⟨hβ,_,_,es,clk,hb,hF⟩:=(ho 700 _ rfl).mpAt
 have h24:=ho 24 _ rfl
 simp only [VS,V]at hv
 obtain⟨u,r,rfl,⟨u1,u2,rfl,rfl,⟨u3,r3,rfl,⟨B,N,hB,rfl⟩,rfl⟩⟩,rfl⟩:=hv
 unfold OB at h24
 rw [hB]at h24
 obtain⟨_,_,us,rest,ty,hrow,_,hvs,_⟩:=h24
 simp only [VS,V]at hvs
 obtain⟨_,_,rfl,rfl,rfl⟩:=hvs
 exact esort_raw hs w b B es clk hb hF (Array.getElem?_eq_some_iff.1 hrow).1 (by simp [World.cell?,hrow])
theorem ekeys_ok (b:Nat):Con Tryz.prog 66 [.raw (.map (some b))] (RetM (fun i=> .fn (.func 114) [] [.p i 0]) [.raw (.map (some b))]):=by
 refine enter Tryz.func66 rfl Tryz.ntmps66 (by kernel_rfl) (Nat.le_of_ble_eq_true rfl) fun w0 X0 hI=>?_
 refine at_seq<|at_region ?_
 refine at_op rfl (n_box1 1 rfl rfl rfl rfl ?_)
 refine s1 (y_p rfl) rfl ?_
 refine at_nil<|x_tn<|at_seq<|at_region<|s1 (y_func (us:= []) (vs:= [.p 1 0]) rfl rfl) rfl<|s1 (y_p rfl) rfl ?_
 refine at_nil<|x_tn<|at_ret ?_
 refine at_result (rs:= [.tmp 2]) rfl (r_tmp rfl r_nil) ⟨1,rfl,rfl⟩
theorem ests1_D (c0 c1:A) (e:Int):ConD Tryz.prog 63 [.p 4 0,.p 5 0] ⟨[(4,some [c0]),(5,some [c1])]⟩ (fun u=>u=misV 136 e) [(4, [.nl]),(5, [.i .i64 e])]:=by
 refine conD (.ic 136 (.ag [.i .i64 e])) (fun u hu X w β=>by rw [hu];exact V_mis _ _) Tryz.func63 rfl Tryz.ntmps63 (Nat.le_of_ble_eq_true rfl) rfl rfl fun w0 X0 hI=>?_
 refine at_seq<|at_region<|s1 (y_p rfl) rfl<|s1 (y_icne Tryz.underlying20 rfl) rfl ?_
 refine at_nil<|x_tn ?_
 refine at_then rfl ?_
 refine at_region<|s1 (y_p rfl) rfl ?_
 refine at_op rfl (n_call false rfl (.cons (.pure pu) (.nil)) (efail_ok e) pu (.inl rfl) rfl ?_)
 refine at_op rfl (n_store1 ti31 rfl rfl rfl rfl (by first|rfl|omega|(simp<;>omega)|(simp [*]<;>omega)) rfl ?_)
 refine at_op rfl (n_store1 ti27 rfl rfl rfl rfl (by first|rfl|omega|(simp<;>omega)|(simp [*]<;>omega)) rfl ?_)
 refine at_nil ?_
 refine at_result' (rs:= []) rfl r_nil (retS_2 rfl rfl)
theorem ests1_R:ConR Tryz.prog 63 2:=conR Tryz.func63 rfl (fun w=>run_nnil Tryz.underlying20 w) rfl ⟨Nat.le_of_ble_eq_true rfl,Nat.le_of_ble_eq_true rfl,Nat.le_of_ble_eq_true rfl,Nat.le_of_ble_eq_true rfl,Nat.le_of_ble_eq_true rfl⟩
theorem ests1_C:Callable Tryz.prog 63:=⟨_,Tryz.func63,rfl,by kernel_rfl⟩
theorem ests_ok (l:List Ep) (no:Int) (hl:EpsOk l) (hn:l.length≤1000):Con Tryz.prog 18 [epsA l,.i .i64 no] (Ret (resS (stsX l no))):=by
 refine enterM Tryz.func18 rfl Tryz.ntmps18 (by kernel_rfl) (Nat.le_of_ble_eq_true rfl) fun w0 X0 hI hS=>?_
 refine at_seq<|at_region ?_
 refine at_op rfl (n_alloc 4 rfl ti31 rfl rfl ?_)
 refine at_op rfl (n_alloc 5 rfl ti27 rfl rfl ?_)
 refine at_nil<|x_tn<|at_seq<|at_seq<|at_region<|s1 (y_p rfl) rfl<|s1 (y_p rfl) rfl<|s1 (y_p rfl) rfl ?_
 refine g_or 4 rfl rfl rfl rfl (fun hb11=> .step (y_p rfl) rfl rfl<| .step (y_p rfl) rfl rfl<| .step (y_len Tryz.underlying24 rfl rfl rfl) rfl rfl<| .step (y_p rfl) rfl rfl<| .done) rfl rfl ?_
 refine at_nil<|x_tn ?_
 refine at_cond rfl (fun hc16=>?_) (fun hc16=>?_)
 ·have h16 : no < -1 ∨ (l.length : Int) ≤ no := by simpa using hc16
  refine at_seq<|at_region ?_
  refine at_op rfl (n_store1 ti31 rfl rfl rfl rfl (by first|rfl|omega|(simp<;>omega)|(simp [*]<;>omega)) rfl ?_)
  refine at_op rfl (n_store1 ti27 rfl rfl rfl rfl (by first|rfl|omega|(simp<;>omega)|(simp [*]<;>omega)) rfl ?_)
  refine at_nil<|x_tn<|at_ret<|x_tr ?_
  refine at_resultM (rs:= [.cell 4 31,.cell 5 27]) rfl rfl rfl hS (dn:= []) rfl hS List.nodup_nil rfl (r_cell ti31 rfl rfl rfl (r_cell ti27 rfl rfl rfl r_nil)) ?_
  rw [sts_1 h16];rfl
 ·have h16 : ¬ (no < -1 ∨ (l.length : Int) ≤ no) := by simp at hc16; omega
  obtain⟨k,hk⟩:∃k:Nat,no+1=(k:Int):=⟨(no+1).toNat,by omega⟩
  have hkl:k≤l.length:=by omega
  have htk:(no+1).toNat=k:=by omega
  have hlk:EpsOk (l.take k):=fun e he=>hl e (List.mem_of_mem_take he)
  have hlen:(l.take k).length=k:=by rw [List.length_take];omega
  refine at_skip<|x_tn<|at_seq<|at_region<|s1 (y_func (us:= []) (vs:= [.p 4 0,.p 5 0]) rfl rfl) rfl ?_
  refine at_defer [4,5] hI rfl rfl trivial rfl fun w1 us hdf=>?_
  refine at_nil<|x_tn<|at_seq ?_
  rcases opt_ways (formS (l.take k))with hcs|hcs
  ·have hf := hcs
   refine at_region<|s1 (y_p rfl) rfl<|s1 (y_p rfl) rfl<|s1 ((addI rfl rfl (by omega) (by omega)).v (v':=nJ k) (congrArg (A.i .i64) hk)) rfl<|s1 ((y_cutf (ds:=epsC (l.take k)) k Tryz.underlying24 ti45 rfl (by rw [len_epsC hl]) bn (bs rfl rfl) (by omega) (by omega) rfl (eps_take hl k)).v (v':=epsA (l.take k)) (congrArg (fun n=>A.fz n (epsC (l.take k))) hlen.symm)) rfl ?_
   refine p_call ⟨[]⟩ false rfl trivial (.cons (.pure pu) .nil) (eformed_px hlk (by simp only [maxLen];omega) hf) (fun u hu=>?_)
   refine x_tp ?_
   refine at_leaveX ⟨[(4,some [.nl]),(5,some [.i .i64 0])]⟩ hdf hS ests1_C ⟨⟨rfl,VwL.pure pul⟩,⟨rfl,VwL.pure pul⟩,trivial⟩ (.cons (.kp rfl) (.cons (.kp rfl) .nil)) (ests1_D _ _ 351) (hu.2) (two_upd rfl rfl pul pul) rfl (r_cell ti31 rfl rfl rfl (r_cell ti27 rfl rfl rfl r_nil)) ?_
   rw [sts_2 h16 (by rw [htk];exact hf)];rfl
  ·obtain ⟨σ, hf⟩ := hcs
   have hsup:=sup_form hf
   have hkn:=keysS_len σ
   refine at_region<|s1 (y_p rfl) rfl<|s1 (y_p rfl) rfl<|s1 ((addI rfl rfl (by omega) (by omega)).v (v':=nJ k) (congrArg (A.i .i64) hk)) rfl<|s1 ((y_cutf (ds:=epsC (l.take k)) k Tryz.underlying24 ti45 rfl (by rw [len_epsC hl]) bn (bs rfl rfl) (by omega) (by omega) rfl (eps_take hl k)).v (v':=epsA (l.take k)) (congrArg (fun n=>A.fz n (epsC (l.take k))) hlen.symm)) rfl ?_
   refine at_op rfl (n_callMp (F:=mapOf σ) rfl (.cons (.pure pu) (.nil)) (eformed_ok hlk (by simp only [maxLen];omega) hf) rfl rfl fun b22=>?_)
   refine s1 (y_p rfl) rfl ?_
   refine at_nil<|x_tn<|at_seq<|at_seq<|at_region<|s1 (y_p rfl) rfl ?_
   refine at_op rfl (n_callM (mk:=fun i=> .fn (.func 114) [] [.p i 0]) oneB_fn 24 rfl false rfl (.cons (.pure pu) (.nil)) (ekeys_ok b22) pul (.inl rfl) rfl ?_)
   refine at_op rfl (n_callHK 25 rfl ⟨[(24,some [.raw (.map (some b22))]),(700,some [.mc b22 (mapOf σ)])]⟩ [(700, [.mc b22 (mapOf σ)])] false rfl rfl ⟨⟨rfl,VwL.pure pul⟩,⟨rfl,VwL.pure pul⟩,trivial⟩ (.cons (.fn .nil (.cons (.kp rfl) .nil)) .nil) (esorted_ok hsup) pul (.inl rfl) (fun p hp=>by rw [List.mem_singleton.1 hp];exact⟨⟨_,rfl⟩,KpL_pure pul (.inl rfl)⟩) rfl ?_)
   refine at_frz 25 rfl rfl pul (view_eq (by simp) rfl) ?_
   refine s1 (y_len Tryz.underlying30 rfl rfl rfl) rfl<|s1 ((y_p rfl).v (v':= .i .i64 0) rfl) rfl ?_
   refine at_nil<|x_tn<|at_block ?_
   refine at_loop (ι:=Nat) (fun i=> [(4,.p 4 0),(5,.p 5 0),(6,.raw (.map (some b22))),(25,.fz (keysS σ).length ((keysS σ).map (A.i .i64))),(26,nJ (keysS σ).length),(27,nJ i)]) (fun i=>⟨[(4,some ([.sl 138 2 0 i])),(5,some ([.i .i64 0])),(138,some (chsC ((chS σ).take i))),(700,some ([.mc b22 (mapOf σ)]))]⟩) (fun i=>i≤(keysS σ).length) (fun i=>(keysS σ).length - i) ?_ ?_
   ·exact at_ex (0) (Nat.zero_le _) [(4,some 4),(5,some 5),(138,none),(700,some 700)] hdf.ids rfl rfl ⟨⟨_,rfl,.p rfl⟩,⟨_,rfl,.p rfl⟩,⟨_,rfl,.pure pu⟩,⟨_,rfl,.pure pu⟩,⟨_,rfl,.pure pu⟩,⟨_,rfl,.pure pu⟩,trivial⟩ ⟨.inr ⟨_,_,rfl,rfl,.cons (.nl rfl) .nil⟩,.inr ⟨_,_,rfl,rfl,.of (rfl:_= [A.i .i64 0]) (.pure pul)⟩,.inl ⟨rfl,rfl⟩,.inr ⟨_,_,rfl,rfl,.pure pul⟩,trivial⟩
   rintro i hi
   refine at_seq<|at_region<|s1 (y_p rfl) rfl ?_
   refine at_nil<|x_tn<|at_seq ?_
   refine at_cond rfl (fun hc28=>?_) (fun hc28=>?_)
   ·have h28 : i < (keysS σ).length := by have := of_decide_eq_true hc28; omega
    obtain⟨q,hq⟩:∃q,(keysS σ)[i]? =some q:=⟨_,List.getElem?_eq_getElem h28⟩
    refine at_skip<|x_tn<|at_seq<|at_block<|at_seq<|at_region<|s1 (y_ixf i Tryz.underlying30 ti3 rfl rfl rfl (by omega) rfl) rfl<|s1 (y_load ti3 rfl rfl (getI4 hq)) rfl<|s1 (y_p rfl) rfl ?_
    refine at_nil<|x_tn<|at_region<|s1 (y_load ti31 rfl rfl rfl) rfl<|s1 (y_p rfl) rfl<|s1 (y_p rfl) rfl<|s1 (y_p rfl) rfl<|s1 (y_lookup Tryz.underlying80 Tryz.underlying3 zero_int rfl rfl rfl (mapOf_get _ _)) rfl<|s1 (y_bld (out:= [_,_]) [[evC (.int .i64 0)], [evC (.int .i64 0)]] ti55 rfl Tryz.underlying55 (by kernel_rfl) rfl rfl ⟨⟨by(first|rfl|omega|(simp;done)|(simp [*];done)|(simp [cellsA, *];done)),rfl⟩,⟨⟨by(first|rfl|omega|(simp;done)|(simp [*];done)|(simp [cellsA, *];done)),rfl⟩,trivial⟩⟩ rfl) rfl ?_
    refine at_op rfl (n_bs 37 rfl Tryz.underlying31 ti55 rfl rfl rfl (by simp [cellsA]) (show _=Ch.cells ⟨q,σ q⟩from rfl) rfl rfl rfl ?_)
    refine at_op rfl (n_app 38 rfl Tryz.underlying31 ti55 rfl (.sl rfl (by simp [chS];omega)) rfl (SM_full rfl (by first|rfl|omega|(simp<;>omega)|(simp [*]<;>omega))) (by simp) (by simp only [maxLen];omega) (by omega) rfl rfl rfl ?_)
    refine at_op rfl (n_store1 ti31 rfl rfl rfl rfl (by first|rfl|omega|(simp<;>omega)|(simp [*]<;>omega)) rfl ?_)
    refine at_nil<|x_bn<|x_tn<|at_region<|s1 (addN _ 1 rfl rfl rfl rfl (by omega)) rfl<|s1 (y_p rfl) rfl ?_
    refine at_nil ?_
    exact at_end (i+1) (by omega) (by omega) [(4,some 4),(5,some 5),(138,some 38),(700,some 700)] hdf.ids rfl rfl ⟨⟨_,rfl,.p rfl⟩,⟨_,rfl,.p rfl⟩,⟨_,rfl,.pure pu⟩,⟨_,rfl,.pure pu⟩,⟨_,rfl,.pure pu⟩,⟨_,rfl,.pure pu⟩,trivial⟩ ⟨.inr ⟨_,_,rfl,rfl,.cons (.sl rfl (by simp)) .nil⟩,.inr ⟨_,_,rfl,rfl,.pure pul⟩,.inr ⟨_,_,rfl,rfl,.of (chS_next hq) (.pure pul)⟩,.inr ⟨_,_,rfl,rfl,.pure pul⟩,trivial⟩
   ·obtain rfl : i = (keysS σ).length := by have := of_decide_eq_false hc28; omega
    refine at_exit<|x_te<|x_te<|x_be<|x_tn<|at_seq ?_
    refine at_sayO 138 (cs':=chsC (chS σ)) rfl (by rw [List.take_of_length_le (by simp [chS])]) ?_
    refine at_frzO 4 0 rfl rfl rfl rfl pul (view_eq (by simp [chS]) rfl) rfl ?_
    refine at_region<|s1 (y_load ti31 rfl rfl rfl) rfl ?_
    refine at_op rfl (n_store1 ti31 rfl rfl rfl rfl (by first|rfl|omega|(simp<;>omega)|(simp [*]<;>omega)) rfl ?_)
    refine at_op rfl (n_store1 ti27 rfl rfl rfl rfl (by first|rfl|omega|(simp<;>omega)|(simp [*]<;>omega)) rfl ?_)
    refine at_nil<|x_tn<|at_ret ?_
    refine at_leaveR hdf hS ests1_C ests1_R rfl (r_cell ti31 rfl rfl rfl (r_cell ti27 rfl rfl rfl r_nil)) ?_
    rw [sts_3 h16 (by rw [htk];exact hf)];exact congrArg (fun n=>A.tu [.fz n (chsC (chS σ)),.i .i64 0]) (by simp [chS])
end Go.Abs.D2
-- E5H
namespace Go.Abs.D2
open Go Go.Eng Go.Abs Go.Proofs
theorem eAt_ok (l:List Ep) (day:Int) (hl:EpsOk l) (hn:l.length≤maxLen):Con Tryz.prog 20 [epsA l,.i .i64 day] (Ret (atA (atE l day))):=by
 refine enter Tryz.func20 rfl Tryz.ntmps20 (by kernel_rfl) (Nat.le_of_ble_eq_true rfl) fun w0 X0 hI=>?_
 refine at_seq ?_
 simp only [maxLen]at hn
 refine at_region<|s1 ((y_p rfl).v (v':= .i .i64 0) rfl) rfl<|s1 (y_p rfl) rfl ?_
 refine at_nil<|x_tn<|at_seq<|at_seq<|at_region<|s1 (y_p rfl) rfl<|s1 (y_len Tryz.underlying24 rfl rfl rfl) rfl<|s1 (subI rfl rfl (by omega) (by omega)) rfl<|s1 (y_p rfl) rfl ?_
 refine at_nil<|x_tn<|at_block ?_
 refine at_loop (ι:=Nat) (fun j=> [(0,epsA l),(1,.i .i64 day),(6,.i .i64 ((j:Int) - 1))]) (fun j=>⟨[]⟩) (fun j=>j≤l.length∧atE l day=atJ l day j) (fun j=>j) ?_ ?_
 ·exact at_ex (l.length) (⟨Nat.le_refl _,atE_eq l day⟩) [] hI rfl rfl ⟨⟨_,rfl,.pure pu⟩,⟨_,rfl,.pure pu⟩,⟨_,rfl,.pure pu⟩,trivial⟩ trivial
 rintro j ⟨hj,hst⟩
 refine at_seq<|at_seq<|at_region<|s1 (y_p rfl) rfl<|s1 (y_p rfl) rfl ?_
 refine at_nil<|x_tn ?_
 refine at_cond rfl (fun hc11=>?_) (fun hc11=>?_)
 ·have h11 : 0 < j := by have := of_decide_eq_true hc11; omega
  obtain⟨m,rfl⟩:∃m,j=m+1:=⟨j - 1,by omega⟩
  obtain⟨e,he⟩:∃e,l[m]? =some e:=⟨_,List.getElem?_eq_getElem (by omega)⟩
  refine at_skip<|x_tn<|at_seq<|at_block<|at_seq ?_
  refine at_say 6 rfl (v':=nJ m) (congrArg (A.i .i64) (by omega)) ?_
  refine at_region<|s1 (y_p rfl) rfl<|s1 (y_p rfl) rfl<|s1 (y_ixf m Tryz.underlying24 ti45 rfl rfl rfl (by omega) rfl) rfl<|s1 (y_fldf Tryz.underlying45 rfl ti3 (by decide) rfl rfl) rfl<|s1 (y_load ti3 rfl rfl (eps_fld hl he (k:=2) rfl (by decide))) rfl<|s1 (y_p rfl) rfl<|s1 (y_p rfl) rfl ?_
  refine at_nil<|x_tn ?_
  refine at_cond rfl (fun hc20=>?_) (fun hc20=>?_)
  ·have h20 : e.day ≤ day := by have := of_decide_eq_true hc20; omega
   refine at_seq<|at_region<|s1 (y_p rfl) rfl<|s1 (y_p rfl) rfl<|s1 (y_p rfl) rfl ?_
   refine at_nil<|x_tn<|at_ret<|x_br<|x_tr<|x_tr<|x_br<|x_tr ?_
   refine at_result (rs:= [.tmp 4,.tmp 5]) rfl (r_tmp rfl (r_tmp rfl r_nil)) ?_
   exact congrArg atA (hst.trans (atJ_yes he h20)).symm
  ·have h20 : ¬ e.day ≤ day := by have := of_decide_eq_false hc20; omega
   refine at_skip<|x_bn<|x_tn<|at_region<|s1 (y_p rfl) rfl<|s1 (subI rfl rfl (by omega) (by omega)) rfl<|s1 (y_p rfl) rfl ?_
   refine at_nil ?_
   exact at_end (m) (⟨by omega,hst.trans (atJ_no he h20)⟩) (by omega) [] hI rfl rfl ⟨⟨_,rfl,.pure pu⟩,⟨_,rfl,.pure pu⟩,⟨_,rfl,.of (rfl:_=A.i .i64 ((m:Int) - 1)) (.pure pu)⟩,trivial⟩ trivial
 ·have h11 : j = 0 := by have := of_decide_eq_false hc11; omega
  subst h11
  refine at_exit<|x_te<|x_te<|x_be<|x_tn<|at_seq<|at_region<|s1 ((y_p rfl).v (v':= .i .i64 0) rfl) rfl<|s1 (y_p rfl) rfl ?_
  refine at_nil<|x_tn<|at_ret ?_
  refine at_result (rs:= [.tmp 4,.tmp 5]) rfl (r_tmp rfl (r_tmp rfl r_nil)) ?_
  exact congrArg atA hst.symm
end Go.Abs.D2
-- E5K
namespace Go.Abs.D2
open Go Go.Eng Go.Abs Go.Proofs
theorem lsane_ok:Con Tryz.prog 11 [] (Ret (.b true)):=by
 refine enter Tryz.func11 rfl Tryz.ntmps11 (by kernel_rfl) (Nat.le_of_ble_eq_true rfl) fun w0 X0 hI=>?_
 refine at_seq<|at_region<|s1 (y_p rfl) rfl ?_
 refine at_nil<|x_tn<|at_seq<|at_region<|s1 ((y_bldP (vs:= [_]) ti23 rfl (by kernel_rfl) Tryz.underlying23 ti5 rfl rfl (by simp) rfl rfl).v (v':= .ag (sd3.map u8)) (by kernel_rfl)) rfl ?_
 refine at_op rfl (n_alloc 1 rfl ti23 rfl rfl ?_)
 refine at_op rfl (n_storeA ti23 rfl rfl rfl (by first|rfl|omega|(simp<;>omega)|(simp [*]<;>omega)) (by first|rfl|omega|(simp<;>omega)|(simp [*]<;>omega)) ?_)
 refine at_nil<|x_tn<|at_seq<|at_region<|s1 (y_loadA0 ti23 rfl rfl (by decide)) rfl ?_
 refine at_op rfl (n_call false rfl (.cons (.pure pu) (.cons (.pure pu) (.nil))) (Con.cast (root_ok sd3 2 (by decide)) (show _=A.tu [.ag ((rootD sd3 2).map u8),.i .i64 0]from(rootA_eq ..).trans (by rw [decide_eq_true (show sizeK 2 by decide)];rfl))) pu (.inl rfl) rfl ?_)
 refine s1 (y_p rfl) rfl<|s1 (y_p rfl) rfl<|s1 (y_p rfl) rfl ?_
 refine at_op rfl (n_alloc 2 rfl ti23 rfl rfl ?_)
 refine at_op rfl (n_storeA ti23 rfl rfl rfl (by simp) rfl ?_)
 refine s1 (y_p rfl) rfl ?_
 refine at_nil<|x_tn<|at_seq<|at_region<|s1 (y_loadA0 ti23 rfl rfl (by decide)) rfl ?_
 refine at_op rfl (n_bsZ Tryz.underlying30 ti3 rfl rfl rfl (len_one rfl) (flatA_one rfl) pul rfl rfl rfl ?_)
 refine s1 (y_bld (out:= [_,_]) [[evC (.int .i64 0)], [evC (.int .i64 0)]] ti55 rfl Tryz.underlying55 (by kernel_rfl) rfl rfl ⟨⟨by(first|rfl|omega|(simp;done)|(simp [*];done)|(simp [cellsA, *];done)),rfl⟩,⟨⟨by(first|rfl|omega|(simp;done)|(simp [*];done)|(simp [cellsA, *];done)),rfl⟩,trivial⟩⟩ rfl) rfl ?_
 refine at_op rfl (n_bsZ Tryz.underlying31 ti55 rfl rfl rfl (by first|(simp [cellsA];done)|(simp [cellsA, *];done)) (show _=chsC [⟨5,2⟩]from rfl) pul rfl rfl rfl ?_)
 refine at_op rfl (n_call false rfl (.cons (.pure pu) (.cons (.pure pu) (.cons .nl (.cons (.pure pu) (.cons (.pure pu) (.cons (.pure pu) (.cons (.pure pu) .nil))))))) (Con.cast (epub_ok sd3 2 [] 1 10 [4,5] cA (by decide) okL_0 (by decide) (rg_of (by decide) (by decide)) (rg_of (by decide) (by decide)) (by decide) (by decide) (rg_one (by decide))) (show _=A.tu [epsA [eA],.i .i64 0] by rw [pub_A];rfl)) pu (.inl rfl) rfl ?_)
 refine s1 (y_p rfl) rfl<|s1 (y_p rfl) rfl<|s1 (y_p rfl) rfl<|s1 (y_p rfl) rfl<|s1 (y_p rfl) rfl ?_
 refine at_nil<|x_tn<|at_seq<|at_region<|s1 (y_loadA0 ti23 rfl rfl (by decide)) rfl<|s1 (y_p rfl) rfl ?_
 refine at_op rfl (n_bsZ Tryz.underlying30 ti3 rfl rfl rfl (len_one rfl) (flatA_one rfl) pul rfl rfl rfl ?_)
 refine s1 (y_bld (out:= [_,_]) [[evC (.int .i64 0)], [evC (.int .i64 0)]] ti55 rfl Tryz.underlying55 (by kernel_rfl) rfl rfl ⟨⟨by(first|rfl|omega|(simp;done)|(simp [*];done)|(simp [cellsA, *];done)),rfl⟩,⟨⟨by(first|rfl|omega|(simp;done)|(simp [*];done)|(simp [cellsA, *];done)),rfl⟩,trivial⟩⟩ rfl) rfl ?_
 refine at_op rfl (n_bsZ Tryz.underlying31 ti55 rfl rfl rfl (by first|(simp [cellsA];done)|(simp [cellsA, *];done)) (show _=chsC [⟨4,1⟩]from rfl) pul rfl rfl rfl ?_)
 refine at_op rfl (n_call false rfl (.cons (.pure pu) (.cons (.pure pu) (.cons (.pure pu) (.cons (.pure pu) (.cons (.pure pu) (.cons (.pure pu) (.cons (.pure pu) .nil))))))) (Con.cast (epub_ok sd3 2 [eA] 1 11 [4,5] cB (by decide) okL_A (by decide) (rg_of (by decide) (by decide)) (rg_of (by decide) (by decide)) (by decide) (by decide) (rg_one (by decide))) (show _=A.tu [epsA [eA,eB],.i .i64 0] by rw [pub_B];rfl)) pu (.inl rfl) rfl ?_)
 refine s1 (y_p rfl) rfl<|s1 (y_p rfl) rfl<|s1 (y_p rfl) rfl<|s1 (y_p rfl) rfl<|s1 (y_p rfl) rfl ?_
 refine at_nil<|x_tn<|at_seq<|at_region<|s1 (y_loadA0 ti23 rfl rfl (by decide)) rfl<|s1 (y_p rfl) rfl ?_
 refine at_op rfl (n_bsZ Tryz.underlying30 ti3 rfl rfl rfl (len_one rfl) (flatA_one rfl) pul rfl rfl rfl ?_)
 refine s1 (y_bld (out:= [_,_]) [[evC (.int .i64 0)], [evC (.int .i64 0)]] ti55 rfl Tryz.underlying55 (by kernel_rfl) rfl rfl ⟨⟨by(first|rfl|omega|(simp;done)|(simp [*];done)|(simp [cellsA, *];done)),rfl⟩,⟨⟨by(first|rfl|omega|(simp;done)|(simp [*];done)|(simp [cellsA, *];done)),rfl⟩,trivial⟩⟩ rfl) rfl ?_
 refine at_op rfl (n_bsZ Tryz.underlying31 ti55 rfl rfl rfl (by first|(simp [cellsA];done)|(simp [cellsA, *];done)) (show _=chsC [⟨5,0⟩]from rfl) pul rfl rfl rfl ?_)
 refine at_op rfl (n_call false rfl (.cons (.pure pu) (.cons (.pure pu) (.cons (.pure pu) (.cons (.pure pu) (.cons (.pure pu) (.cons (.pure pu) (.cons (.pure pu) .nil))))))) (Con.cast (epub_ok sd3 2 [eA] 1 11 [4,5] [⟨5,0⟩] (by decide) okL_A (by decide) (rg_of (by decide) (by decide)) (rg_of (by decide) (by decide)) (by decide) (by decide) (rg_one (by decide))) (show _=A.tu [.nl,.i .i64 351] by rw [pub_C];rfl)) pu (.inl rfl) rfl ?_)
 refine s1 (y_p rfl) rfl<|s1 (y_p rfl) rfl<|s1 (y_p rfl) rfl<|s1 (y_p rfl) rfl<|s1 (y_p rfl) rfl ?_
 refine at_nil<|x_tn<|at_seq<|at_region<|s1 (y_loadA0 ti23 rfl rfl (by decide)) rfl<|s1 (y_p rfl) rfl ?_
 refine at_op rfl (n_bsZ Tryz.underlying30 ti3 rfl rfl rfl (len_one rfl) (flatA_one rfl) pul rfl rfl rfl ?_)
 refine at_op rfl (n_call false rfl (.cons (.pure pu) (.cons (.pure pu) (.cons (.pure pu) (.cons (.pure pu) (.cons (.pure pu) (.cons (.pure pu) (.cons .nl .nil))))))) (Con.cast (epub_ok sd3 2 [eA,eB] 1 12 [4,5] [] (by decide) okL_B (by decide) (rg_of (by decide) (by decide)) (rg_of (by decide) (by decide)) (by decide) (by decide) (fun e he=>by cases he)) (show _=A.tu [.nl,.i .i64 2] by rw [pub_D];rfl)) pu (.inl rfl) rfl ?_)
 refine s1 (y_p rfl) rfl<|s1 (y_p rfl) rfl<|s1 (y_p rfl) rfl<|s1 (y_p rfl) rfl<|s1 (y_p rfl) rfl ?_
 refine at_nil<|x_tn<|at_seq<|at_region<|s1 (y_p rfl) rfl ?_
 refine at_op rfl (n_call false rfl (.cons (.pure pu) (.cons (.pure pu) .nil)) (Con.cast (ests_ok [eA,eB] 1 okL_B (by decide)) (show _=A.tu [chsA [⟨4,1⟩,⟨5,2⟩],.i .i64 0] by rw [sts_A];rfl)) pu (.inl rfl) rfl ?_)
 refine s1 (y_p rfl) rfl<|s1 (y_p rfl) rfl<|s1 (y_p rfl) rfl<|s1 (y_p rfl) rfl<|s1 (y_p rfl) rfl ?_
 refine at_nil<|x_tn<|at_seq<|at_region ?_
 refine at_op rfl (n_call false rfl (.cons .nl (.cons (.pure pu) .nil)) (Con.cast (ests_ok [] (-1) okL_0 (by decide)) (show _=A.tu [chsA [],.i .i64 0] by rw [sts_B];rfl)) pu (.inl rfl) rfl ?_)
 refine s1 (y_p rfl) rfl<|s1 (y_p rfl) rfl<|s1 (y_p rfl) rfl<|s1 (y_p rfl) rfl<|s1 (y_p rfl) rfl ?_
 refine at_nil<|x_tn<|at_seq<|at_region ?_
 refine at_op rfl (n_call false rfl (.cons .nl (.cons (.pure pu) .nil)) (Con.cast (ests_ok [] 0 okL_0 (by decide)) (show _=A.tu [.nl,.i .i64 1] by rw [sts_C];rfl)) pu (.inl rfl) rfl ?_)
 refine s1 (y_p rfl) rfl<|s1 (y_p rfl) rfl<|s1 (y_p rfl) rfl<|s1 (y_p rfl) rfl<|s1 (y_p rfl) rfl ?_
 refine at_nil<|x_tn<|at_seq<|at_region ?_
 refine at_op rfl (n_call false rfl (.cons .nl (.cons (.pure pu) .nil)) (Con.cast (eAt_ok [] 5 okL_0 (by decide)) (show _=A.tu [.i .i64 0,.b false] by rw [at_A];rfl)) pu (.inl rfl) rfl ?_)
 refine s1 (y_p rfl) rfl<|s1 (y_p rfl) rfl<|s1 (y_p rfl) rfl<|s1 (y_p rfl) rfl<|s1 (y_p rfl) rfl ?_
 refine at_nil<|x_tn<|at_seq<|at_region<|s1 (y_p rfl) rfl ?_
 refine at_op rfl (n_call false rfl (.cons (.pure pu) (.cons (.pure pu) .nil)) (Con.cast (eAt_ok [eA,eB] 10 okL_B (by decide)) (show _=A.tu [.i .i64 0,.b true] by rw [at_B];rfl)) pu (.inl rfl) rfl ?_)
 refine s1 (y_p rfl) rfl<|s1 (y_p rfl) rfl<|s1 (y_p rfl) rfl<|s1 (y_p rfl) rfl<|s1 (y_p rfl) rfl ?_
 refine at_nil<|x_tn<|at_seq<|at_seq<|at_region<|s1 (y_p rfl) rfl<|s1 ((y_p rfl).v (v':= .b false) (rfl)) rfl<|s1 (y_p rfl) rfl<|g1 rfl rfl (y_p rfl) rfl<|g1 rfl rfl ((y_p rfl).v (v':= .b false) (rfl)) rfl<|s1 (y_p rfl) rfl<|s1 (y_p rfl) rfl<|g1 rfl rfl (y_p rfl) rfl<|g1 rfl rfl ((y_p rfl).v (v':= .b false) (rfl)) rfl<|s1 (y_p rfl) rfl ?_
 refine s1 (y_p rfl) rfl<|g1 rfl rfl (y_p rfl) rfl<|g1 rfl rfl ((y_p rfl).v (v':= .b false) (rfl)) rfl<|s1 (y_p rfl) rfl<|s1 (y_p rfl) rfl<|g1 rfl rfl (y_p rfl) rfl<|g1 rfl rfl ((y_p rfl).v (v':= .b false) (rfl)) rfl<|s1 (y_p rfl) rfl<|s1 (y_p rfl) rfl<|g1 rfl rfl (y_p rfl) rfl ?_
 refine g1 rfl rfl ((y_p rfl).v (v':= .b false) (rfl)) rfl<|s1 (y_p rfl) rfl<|s1 (y_p rfl) rfl<|g1 rfl rfl (y_p rfl) rfl<|g1 rfl rfl ((y_p rfl).v (v':= .b false) (rfl)) rfl<|s1 (y_p rfl) rfl<|s1 (y_p rfl) rfl<|g1 rfl rfl (y_p rfl) rfl<|g1 rfl rfl ((y_p rfl).v (v':= .b false) (rfl)) rfl<|s1 (y_p rfl) rfl ?_
 refine s1 (y_p rfl) rfl<|g1 rfl rfl (y_p rfl) rfl<|s1 (y_p rfl) rfl<|s1 (y_p rfl) rfl<|g1 rfl rfl (y_p rfl) rfl<|g1 rfl rfl ((y_p rfl).v (v':= .b false) (rfl)) rfl<|s1 (y_p rfl) rfl<|s1 (y_p rfl) rfl<|g1 rfl rfl (y_p rfl) rfl<|g1 rfl rfl ((y_p rfl).v (v':= .b false) (rfl)) rfl ?_
 refine s1 (y_p rfl) rfl<|s1 (y_p rfl) rfl<|g1 rfl rfl (y_loadA0 ti23 rfl rfl (by simp)) rfl<|g1 rfl rfl (y_p rfl) rfl ?_
 refine at_opg rfl rfl rfl (n_call false rfl (.cons (.pure pu) (.cons (.pure pu) (.cons (.pure pu) .nil))) (Con.cast (eChk_ok (rootD sd3 2) 2 [eA,eB] (by simp) okL_B (by decide)) (congrArg (A.i .i64) form_B.2)) pu (.inl rfl) rfl ?_)
 refine g1 rfl rfl ((y_p rfl).v (v':= .b false) (rfl)) rfl<|s1 (y_p rfl) rfl<|s1 (y_p rfl) rfl<|g1 rfl rfl (y_loadA0 ti23 rfl rfl (by simp)) rfl ?_
 refine at_opg rfl rfl rfl (n_call false rfl (.cons (.pure pu) (.cons (.pure pu) (.cons .nl .nil))) (Con.cast (eChk_ok (rootD sd3 2) 2 [] (by simp) okL_0 (by decide)) (congrArg (A.i .i64) (chk_0 _ _))) pu (.inl rfl) rfl ?_)
 refine g1 rfl rfl ((y_p rfl).v (v':= .b false) (rfl)) rfl<|s1 (y_p rfl) rfl ?_
 refine at_nil<|x_tn ?_
 refine at_else rfl ?_
 refine at_skip<|x_tn<|at_seq ?_
 refine at_fs ⟨_, [], []⟩ 34 4 hmix (le_refl rfl) ?_
 refine fs_q 0 [] [] (y_p rfl) rfl rfl ?_
 refine fs_q 1 [] [] (y_bld (out:= [_,_]) [[evC (.int .i64 0)], [evC (.int .i64 0)]] ti55 rfl Tryz.underlying55 (by kernel_rfl) rfl rfl ⟨⟨by(first|rfl|omega|(simp;done)|(simp [*];done)|(simp [cellsA, *];done)),rfl⟩,⟨⟨by(first|rfl|omega|(simp;done)|(simp [*];done)|(simp [cellsA, *];done)),rfl⟩,trivial⟩⟩ rfl) rfl rfl ?_
 refine fs_q 2 [] [] (y_bld (out:= [_,_]) [[evC (.int .i64 0)], [evC (.int .i64 0)]] ti55 rfl Tryz.underlying55 (by kernel_rfl) rfl rfl ⟨⟨by(first|rfl|omega|(simp;done)|(simp [*];done)|(simp [cellsA, *];done)),rfl⟩,⟨⟨by(first|rfl|omega|(simp;done)|(simp [*];done)|(simp [cellsA, *];done)),rfl⟩,trivial⟩⟩ rfl) rfl rfl ?_
 refine fs_bsZ 3 [1,2] gy0 Tryz.underlying31 ti55 rfl rfl rfl (by first|(simp [cellsA];done)|(simp [cellsA, *];done)) (show _=chsC [⟨4,1⟩,⟨5,2⟩]from rfl) pul rfl rfl rfl rfl ?_
 refine fs_call false 4 [0,3] [] gy0 rfl (.cons (.pure pu) (.cons (.pure pu) (.nil))) (Con.cast (rsameCh_ok [⟨4,1⟩,⟨5,2⟩] [⟨4,1⟩,⟨5,2⟩] (by decide) (by decide)) (congrArg A.b (sameC5_self _))) pu (.inl rfl) rfl rfl ?_
 refine fs_q 5 [4] [] (y_p rfl) rfl rfl ?_
 refine fs_qg 6 [5] [] rfl rfl (y_p rfl) rfl rfl ?_
 refine fs_qg 7 [5,6] [] rfl rfl (y_len Tryz.underlying31 rfl rfl rfl) rfl rfl ?_
 refine fs_qg 8 [5,7] [] rfl rfl ((y_p rfl).v (v':= .b true) (rfl)) rfl rfl ?_
 refine fs_q 9 [5,8] [] (y_p rfl) rfl rfl ?_
 refine fs_q 10 [9] [] (y_p rfl) rfl rfl ?_
 refine fs_qg 11 [10] [] rfl rfl (y_p rfl) rfl rfl ?_
 refine fs_qg 12 [10,11] [] rfl rfl (y_len Tryz.underlying24 rfl rfl rfl) rfl rfl ?_
 refine fs_qg 13 [10,12] [] rfl rfl ((y_p rfl).v (v':= .b true) (rfl)) rfl rfl ?_
 refine fs_q 14 [10,13] [] (y_p rfl) rfl rfl ?_
 refine fs_q 15 [14] [] (y_p rfl) rfl rfl ?_
 refine fs_qg 16 [15] [] rfl rfl (y_p rfl) rfl rfl ?_
 refine fs_qg 17 [15,16] [] rfl rfl (y_ixf 1 Tryz.underlying24 ti45 rfl rfl rfl (by decide) rfl) rfl rfl ?_
 refine fs_qg 18 [15,17] [] rfl rfl (y_fldf Tryz.underlying45 rfl ti23 (by decide) rfl rfl) rfl rfl ?_
 refine fs_qg 19 [15,18] [] rfl rfl (y_loadA ti23 rfl rfl (eps_prev okL_B (e:=eB) rfl) (by simp [ok_B.prev])) rfl rfl ?_
 refine fs_qg 20 [15] [] rfl rfl (y_p rfl) rfl rfl ?_
 refine fs_qg 21 [15,20] [] rfl rfl (y_ixf 0 Tryz.underlying24 ti45 rfl rfl rfl (by decide) rfl) rfl rfl ?_
 refine fs_qg 22 [15,21] [] rfl rfl (y_loadA ti45 rfl rfl (eps_get okL_B (e:=eA) rfl) ok_A.len) rfl rfl ?_
 refine fs_call false 23 [15,22] [] (gy1 rfl rfl) rfl (.cons (.pure pu) (.nil)) (edig_ok eA ok_A) pu (.inl rfl) rfl rfl ?_
 refine fs_qg 24 [15,19,23] [] rfl rfl (((y_aq Tryz.underlying23 Tryz.underlying5 ti5 (by kernel_rfl) rfl rfl ok_B.prev (by simp))).v (v':= .b true) (congrArg A.b (beq_iff_eq.2 prev_B))) rfl rfl ?_
 refine fs_q 25 [15,24] [] (y_p rfl) rfl rfl ?_
 refine fs_q 26 [25] [] (y_p rfl) rfl rfl ?_
 refine fs_qg 27 [26] [] rfl rfl (y_p rfl) rfl rfl ?_
 refine fs_qg 28 [26,27] [] rfl rfl (y_ixf 0 Tryz.underlying24 ti45 rfl rfl rfl (by decide) rfl) rfl rfl ?_
 refine fs_qg 29 [26,28] [] rfl rfl (y_fldf Tryz.underlying45 rfl ti23 (by decide) rfl rfl) rfl rfl ?_
 refine fs_qg 30 [26,29] [] rfl rfl (y_loadA ti23 rfl rfl (eps_prev okL_B (e:=eA) rfl) (by simp [ok_A.prev])) rfl rfl ?_
 refine fs_qg 31 [26] [] rfl rfl ((y_bld0 ti23 rfl Tryz.underlying23 ti5 rfl).v (v':= .ag (zD.map u8)) (rfl)) rfl rfl ?_
 refine fs_qg 32 [26,30,31] [] rfl rfl (((y_aq Tryz.underlying23 Tryz.underlying5 ti5 (by kernel_rfl) rfl rfl ok_A.prev rfl)).v (v':= .b true) (congrArg A.b (beq_iff_eq.2 prev_A))) rfl rfl ?_
 refine fs_q 33 [26,32] [] (y_p rfl) rfl rfl ?_
 refine fs_end (by kernel_rfl) ?_
 refine s1 (y_p rfl) rfl ?_
 refine at_nil<|x_tn<|at_ret ?_
 refine at_result (rs:= [.tmp 0]) rfl (r_tmp rfl r_nil) ?_
 rfl
end Go.Abs.D2
-- K6E
namespace Go.Abs.D2
open Go Go.Eng Go.Abs Go.Proofs
theorem mul64_ok:Con Tryz.prog 182 [w64 (c64 1),w64 (c64 19)] (Ret (.tu [w64 (c64 0),w64 (c64 19)])):=by
 refine enter Tryz.func182 rfl Tryz.ntmps182 (by kernel_rfl) (Nat.le_of_ble_eq_true rfl) fun w0 X0 hI=>?_
 refine at_seq<|at_region<|s1 ((y_p rfl).v (v':= .i .u64 0) rfl) rfl<|s1 ((y_p rfl).v (v':= .i .u64 0) rfl) rfl ?_
 refine at_nil<|x_tn<|at_seq<|at_region<|s1 (y_p rfl) rfl<|s1 ((and64 _ (c64 4294967295) rfl rfl).v (v':=w64 (c64 1)) (congrArg w64 (by decide))) rfl<|s1 (y_p rfl) rfl ?_
 refine at_nil<|x_tn<|at_seq<|at_region<|s1 (y_p rfl) rfl<|s1 ((shr64 _ 32 rfl rfl rfl (by decide)).v (v':=w64 (c64 0)) (congrArg w64 (by decide))) rfl<|s1 (y_p rfl) rfl ?_
 refine at_nil<|x_tn<|at_seq<|at_region<|s1 (y_p rfl) rfl<|s1 ((and64 _ (c64 4294967295) rfl rfl).v (v':=w64 (c64 19)) (congrArg w64 (by decide))) rfl<|s1 (y_p rfl) rfl ?_
 refine at_nil<|x_tn<|at_seq<|at_region<|s1 (y_p rfl) rfl<|s1 ((shr64 _ 32 rfl rfl rfl (by decide)).v (v':=w64 (c64 0)) (congrArg w64 (by decide))) rfl<|s1 (y_p rfl) rfl ?_
 refine at_nil<|x_tn<|at_seq<|at_region<|s1 (y_p rfl) rfl<|s1 (y_p rfl) rfl<|s1 ((mul64 _ _ rfl rfl).v (v':=w64 (c64 19)) (congrArg w64 (by decide))) rfl<|s1 (y_p rfl) rfl ?_
 refine at_nil<|x_tn<|at_seq<|at_region<|s1 (y_p rfl) rfl<|s1 (y_p rfl) rfl<|s1 ((mul64 _ _ rfl rfl).v (v':=w64 (c64 0)) (congrArg w64 (by decide))) rfl<|s1 (y_p rfl) rfl<|s1 ((shr64 _ 32 rfl rfl rfl (by decide)).v (v':=w64 (c64 0)) (congrArg w64 (by decide))) rfl<|s1 ((add64 _ _ rfl rfl).v (v':=w64 (c64 0)) (congrArg w64 (by decide))) rfl<|s1 (y_p rfl) rfl ?_
 refine at_nil<|x_tn<|at_seq<|at_region<|s1 (y_p rfl) rfl<|s1 ((and64 _ (c64 4294967295) rfl rfl).v (v':=w64 (c64 0)) (congrArg w64 (by decide))) rfl<|s1 (y_p rfl) rfl ?_
 refine at_nil<|x_tn<|at_seq<|at_region<|s1 (y_p rfl) rfl<|s1 ((shr64 _ 32 rfl rfl rfl (by decide)).v (v':=w64 (c64 0)) (congrArg w64 (by decide))) rfl<|s1 (y_p rfl) rfl ?_
 refine at_nil<|x_tn<|at_seq<|at_region<|s1 (y_p rfl) rfl<|s1 (y_p rfl) rfl<|s1 (y_p rfl) rfl<|s1 ((mul64 _ _ rfl rfl).v (v':=w64 (c64 0)) (congrArg w64 (by decide))) rfl<|s1 ((add64 _ _ rfl rfl).v (v':=w64 (c64 0)) (congrArg w64 (by decide))) rfl<|s1 (y_p rfl) rfl ?_
 refine at_nil<|x_tn<|at_seq<|at_region<|s1 (y_p rfl) rfl<|s1 (y_p rfl) rfl<|s1 ((mul64 _ _ rfl rfl).v (v':=w64 (c64 0)) (congrArg w64 (by decide))) rfl<|s1 (y_p rfl) rfl<|s1 ((add64 _ _ rfl rfl).v (v':=w64 (c64 0)) (congrArg w64 (by decide))) rfl<|s1 (y_p rfl) rfl<|s1 ((shr64 _ 32 rfl rfl rfl (by decide)).v (v':=w64 (c64 0)) (congrArg w64 (by decide))) rfl<|s1 ((add64 _ _ rfl rfl).v (v':=w64 (c64 0)) (congrArg w64 (by decide))) rfl<|s1 (y_p rfl) rfl ?_
 refine at_nil<|x_tn<|at_seq<|at_region<|s1 (y_p rfl) rfl<|s1 (y_p rfl) rfl<|s1 ((mul64 _ _ rfl rfl).v (v':=w64 (c64 19)) (congrArg w64 (by decide))) rfl<|s1 (y_p rfl) rfl ?_
 refine at_nil<|x_tn<|at_ret ?_
 refine at_result (rs:= [.tmp 4,.tmp 5]) rfl (r_tmp rfl (r_tmp rfl (r_nil))) rfl
theorem mul_ok:Con Tryz.prog 135 [w64 (c64 1),w64 (c64 19)] (Ret (.tu [w64 (c64 0),w64 (c64 19)])):=by
 refine enter Tryz.func135 rfl Tryz.ntmps135 (by kernel_rfl) (Nat.le_of_ble_eq_true rfl) fun w0 X0 hI=>?_
 refine at_seq<|at_region<|s1 ((y_p rfl).v (v':= .i .u64 0) rfl) rfl<|s1 ((y_p rfl).v (v':= .i .u64 0) rfl) rfl ?_
 refine at_nil<|x_tn<|at_seq ?_
 refine at_else rfl ?_
 refine at_skip<|x_tn<|at_seq<|at_region<|s1 (y_p rfl) rfl<|s1 (y_p rfl) rfl ?_
 refine at_op rfl (n_call false rfl (.cons (.pure pu) (.cons (.pure pu) (.nil))) (mul64_ok) pu (.inl rfl) rfl ?_)
 refine s1 (y_p rfl) rfl<|s1 (y_p rfl) rfl<|s1 (y_p rfl) rfl<|s1 (y_p rfl) rfl<|s1 (y_p rfl) rfl ?_
 refine at_nil<|x_tn<|at_seq<|at_region<|s1 (y_p rfl) rfl<|s1 (y_p rfl) rfl<|s1 (y_p rfl) rfl<|s1 (y_p rfl) rfl ?_
 refine at_nil<|x_tn<|at_ret ?_
 refine at_result (rs:= [.tmp 4,.tmp 5]) rfl (r_tmp rfl (r_tmp rfl (r_nil))) rfl
theorem repeat_ok:Con Tryz.prog 86 [.fz 1 [nI 3],nI 19] (RetO 1 19 (List.replicate 19 (nI 3))):=by
 refine enter Tryz.func86 rfl Tryz.ntmps86 (by kernel_rfl) (Nat.le_of_ble_eq_true rfl) fun w0 X0 hI=>?_
 refine at_seq<|at_region<|s1 (y_p rfl) rfl ?_
 refine at_nil<|x_tn<|at_seq<|at_seq<|at_region<|s1 (y_p rfl) rfl<|s1 ((y_p rfl).v (v':= .b false) (rfl)) rfl ?_
 refine at_nil<|x_tn ?_
 refine at_else rfl ?_
 refine at_skip<|x_tn<|at_seq<|at_region<|s1 (y_p rfl) rfl<|s1 (y_len Tryz.underlying30 rfl rfl rfl) rfl<|s1 (ofN_64 1 Tryz.underlying3 Tryz.underlying74 rfl rfl) rfl<|s1 (y_p rfl) rfl<|s1 (ofN_64 19 Tryz.underlying3 Tryz.underlying74 rfl rfl) rfl ?_
 refine at_op rfl (n_call false rfl (.cons (.pure pu) (.cons (.pure pu) (.nil))) (mul_ok) pu (.inl rfl) rfl ?_)
 refine s1 (y_p rfl) rfl<|s1 (y_p rfl) rfl<|s1 (y_p rfl) rfl<|s1 (y_p rfl) rfl<|s1 (y_p rfl) rfl ?_
 refine at_nil<|x_tn<|at_seq<|at_seq<|at_region<|s1 (y_p rfl) rfl<|s1 ((y_p rfl).v (v':= .b false) (congrArg A.b (by decide))) rfl<|s1 (y_p rfl) rfl<|g1 rfl rfl (y_p rfl) rfl<|g1 rfl rfl ((y_p rfl).v (v':= .b false) (congrArg A.b (by decide))) rfl<|s1 (y_p rfl) rfl ?_
 refine at_nil<|x_tn ?_
 refine at_else rfl ?_
 refine at_skip<|x_tn<|at_seq<|at_region<|s1 (y_p rfl) rfl<|s1 ((y_conv Tryz.underlying74 Tryz.underlying3 rfl).v (v':=nI 19) (congrArg (A.i .i64) (by decide))) rfl ?_
 refine at_op rfl (n_make 30 rfl _ _ Tryz.underlying30 ti3 rfl rfl rfl rfl rfl (by first|omega|(simp only [maxLen];omega)|(simp [maxLen];done)|(simp [maxLen];omega)|(simp [maxLen, *];omega)) (by first|omega|(simp only [maxLen];omega)|(simp [maxLen];done)|(simp [maxLen];omega)|(simp [maxLen, *];omega)) (by first|omega|(simp only [maxLen];omega)|(simp [maxLen];done)|(simp [maxLen];omega)|(simp [maxLen, *];omega)) rfl ?_)
 refine s1 (y_p rfl) rfl ?_
 refine at_nil<|x_tn<|at_seq<|at_region<|s1 (y_p rfl) rfl<|s1 (y_p rfl) rfl ?_
 refine at_op rfl (n_copyC (1) Tryz.underlying30 ti3 rfl rfl rfl rfl (by first|rfl|omega|(simp<;>omega)|(simp [*]<;>omega)) rfl (by decide) (by first|omega|(simp only [maxLen];omega)|(simp [maxLen];done)|(simp [maxLen];omega)|(simp [maxLen, *];omega)) rep_0 rfl ?_)
 refine s1 (y_p rfl) rfl ?_
 refine at_nil<|x_tn<|at_seq<|at_block ?_
 refine at_loop (ι:=Nat) (fun e=> [(7,.sl 30 1 0 19),(8,nI (szR e))]) (fun e=>⟨[(30,some (List.replicate (szR e) (nI 3)++List.replicate (19 - szR e) (nI 0)))]⟩) (fun e=>0<szR e∧szR e≤19) (fun e=>19 - szR e) ?_ ?_
 ·exact at_ex (0) (⟨by decide,by decide⟩) [(30,some 30)] hI rfl rfl ⟨⟨_,rfl,.sl rfl (by first|rfl|omega|(simp<;>omega)|(simp [*]<;>omega))⟩,⟨_,rfl,.of (by rfl) (.pure pu)⟩,trivial⟩ ⟨.inr ⟨_,_,rfl,rfl,.pure pul⟩,trivial⟩
 rintro e ⟨he,he2⟩
 refine at_seq<|at_seq<|at_region<|s1 (y_p rfl) rfl<|s1 (y_p rfl) rfl<|s1 (y_len Tryz.underlying30 rfl rfl rfl) rfl<|s1 (y_p rfl) rfl ?_
 refine at_nil<|x_tn ?_
 refine at_cond rfl (fun hc37=>?_) (fun hc37=>?_)
 ·have h37 : szR e < 19 := by have := of_decide_eq_true hc37; omega
  refine at_skip<|x_tn<|at_block ?_
  refine at_fs ⟨_, [], []⟩ 9 4 hmix (le_refl rfl) ?_
  refine fs_q 0 [] [] (y_p rfl) rfl rfl ?_
  refine fs_q 1 [] [(30,none)] (y_p rfl) rfl rfl ?_
  refine fs_q 2 [] [] (y_p rfl) rfl rfl ?_
  refine fs_q 3 [1,2] [(30,none)] (y_cuts (19 - szR e) Tryz.underlying30 ti3 rfl rfl (bs rfl rfl) bn (by omega) (by omega) rfl rfl) rfl rfl ?_
  refine fs_q 4 [] [(30,none)] (y_p rfl) rfl rfl ?_
  refine fs_q 5 [] [] (y_p rfl) rfl rfl ?_
  refine fs_q 6 [4,5] [(30,none)] (y_cuts (szR e) Tryz.underlying30 ti3 rfl rfl bn (bs rfl rfl) (by omega) (by omega) rfl rfl) rfl rfl ?_
  refine fs_copyC (Nat.min (szR e) (19 - szR e)) 7 [3,6] [(30,none)] gy0 Tryz.underlying30 ti3 rfl rfl rfl rfl (by first|rfl|omega|(simp<;>omega)|(simp [*]<;>omega)) rfl (rep_pos he h37) (rep_fit h37) rfl rfl rfl ?_
  refine fs_q 8 [0,7] [] (addN (szR e) (Nat.min (szR e) (19 - szR e)) rfl rfl rfl rfl (by have:=szR_next e h37;have:=szR_le (e+1);omega)) rfl rfl ?_
  refine fs_end (by kernel_rfl) ?_
  refine s1 (y_p rfl) rfl ?_
  refine at_nil<|x_bn ?_
  exact at_end (e+1) (rep_pre he h37) (rep_dec he h37) [(30,some 30)] hI rfl rfl ⟨⟨_,rfl,.sl rfl (by first|rfl|omega|(simp<;>omega)|(simp [*]<;>omega))⟩,⟨_,rfl,.of (congrArg nI (szR_next e h37)) (.pure pu)⟩,trivial⟩ ⟨.inr ⟨_,_,rfl,rfl,.of (rep_next e h37) (.pure pul)⟩,trivial⟩
 ·have h37 : szR e = 19 := by have := of_decide_eq_false hc37; omega
  refine at_exit<|x_te<|x_te<|x_be<|x_tn<|at_seq<|at_region<|s1 (y_p rfl) rfl<|s1 (y_p rfl) rfl ?_
  refine at_nil<|x_tn<|at_ret ?_
  refine at_result (rs:= [.tmp 4]) rfl (r_tmp rfl r_nil) ⟨30,rfl,?_⟩
  rw [h37];rfl
theorem equalI_ok (L M:List Nat) (hL:L.length<1000000):Con Tryz.prog 87 [.fz L.length (L.map nI),.fz M.length (M.map nI)] (Ret (.b (L==M))):=by
 refine enter Tryz.func87 rfl Tryz.ntmps87 (by kernel_rfl) (Nat.le_of_ble_eq_true rfl) fun w0 X0 hI=>?_
 refine at_seq<|at_region<|s1 (y_p rfl) rfl ?_
 refine at_nil<|x_tn<|at_seq<|at_seq<|at_region<|s1 (y_p rfl) rfl<|s1 (y_len Tryz.underlying30 rfl rfl rfl) rfl<|s1 (y_p rfl) rfl<|s1 (y_len Tryz.underlying30 rfl rfl rfl) rfl<|s1 (y_p rfl) rfl ?_
 refine at_nil<|x_tn ?_
 refine at_cond rfl (fun hc10=>?_) (fun hc10=>?_)
 ·have hl : L.length ≠ M.length := by intro h; rw [h] at hc10; simp at hc10
  refine at_seq<|at_region<|s1 (y_p rfl) rfl ?_
  refine at_nil<|x_tn<|at_ret<|x_tr ?_
  refine at_result (rs:= [.tmp 4]) rfl (r_tmp rfl r_nil) ?_
  exact congrArg A.b (beq_eq_false_iff_ne.2 fun h=>hl (congrArg List.length h)).symm
 ·have hl : L.length = M.length := by simp at hc10; omega
  refine at_skip<|x_tn<|at_seq<|at_seq<|at_region<|s1 (y_p rfl) rfl<|s1 (y_len Tryz.underlying30 rfl rfl rfl) rfl<|s1 ((y_p rfl).v (v':= .i .i64 0) rfl) rfl ?_
  refine at_nil<|x_tn<|at_block ?_
  refine at_loop (ι:=Nat) (fun i=> [(0,.fz L.length (L.map nI)),(1,.fz M.length (M.map nI)),(12,nI L.length),(13,nI i)]) (fun i=>⟨[]⟩) (fun i=>i≤L.length∧∀t,t<i→L[t]? =M[t]?) (fun i=>L.length - i) ?_ ?_
  ·exact at_ex (0) (⟨Nat.zero_le _,fun t ht=>absurd ht (by omega)⟩) [] hI rfl rfl ⟨⟨_,rfl,.pure pu⟩,⟨_,rfl,.pure pu⟩,⟨_,rfl,.pure pu⟩,⟨_,rfl,.pure pu⟩,trivial⟩ trivial
  rintro i ⟨hi,hall⟩
  refine at_seq<|at_region<|s1 (y_p rfl) rfl ?_
  refine at_nil<|x_tn<|at_seq ?_
  refine at_cond rfl (fun hc14=>?_) (fun hc14=>?_)
  ·have h14 : i < L.length := by have := of_decide_eq_true hc14; omega
   obtain⟨u,hu⟩:∃u,L[i]? =some u:=⟨_,List.getElem?_eq_getElem h14⟩
   obtain⟨v,hv⟩:∃v,M[i]? =some v:=⟨_,List.getElem?_eq_getElem (by omega)⟩
   refine at_skip<|x_tn<|at_seq<|at_block<|at_seq<|at_region<|s1 (y_p rfl) rfl<|s1 (y_p rfl) rfl ?_
   refine at_nil<|x_tn<|at_seq ?_
   refine at_draw_tail 8 hmix (by kernel_rfl) ?_
   refine t1 (y_p rfl) rfl<|t1 (y_p rfl) rfl<|t1 (y_ixf i Tryz.underlying30 ti3 rfl rfl rfl (by omega) rfl) rfl<|t1 (y_load ti3 rfl rfl (get_nI hu)) rfl<|t1 (y_p rfl) rfl<|t1 (y_p rfl) rfl<|t1 (y_ixf i Tryz.underlying30 ti3 rfl rfl rfl (by omega) rfl) rfl<|t1 (y_load ti3 rfl rfl (get_nI hv)) rfl ?_
   refine at_snil ?_
   refine s1 (y_p rfl) rfl ?_
   refine at_nil<|x_tn ?_
   refine at_cond rfl (fun hc24=>?_) (fun hc24=>?_)
   ·have hne : u ≠ v := by intro h; subst h; simp at hc24
    refine at_seq<|at_region<|s1 (y_p rfl) rfl ?_
    refine at_nil<|x_tn<|at_ret<|x_br<|x_tr<|x_tr<|x_br<|x_tr ?_
    refine at_result (rs:= [.tmp 4]) rfl (r_tmp rfl r_nil) ?_
    exact congrArg A.b (nbeq_listsK (t:=i) (by rw [hu,hv];simpa using hne)).symm
   ·have heq : u = v := by simp at hc24; omega
    refine at_skip<|x_bn<|x_tn<|at_region<|s1 (addN _ 1 rfl rfl rfl rfl (by omega)) rfl<|s1 (y_p rfl) rfl ?_
    refine at_nil ?_
    exact at_end (i+1) (⟨by omega,all_nextK6 hall (by rw [hu,hv,heq])⟩) (by omega) [] hI rfl rfl ⟨⟨_,rfl,.pure pu⟩,⟨_,rfl,.pure pu⟩,⟨_,rfl,.pure pu⟩,⟨_,rfl,.pure pu⟩,trivial⟩ trivial
  ·have h14 : i = L.length := by have := of_decide_eq_false hc14; omega
   subst h14
   refine at_exit<|x_te<|x_te<|x_be<|x_tn<|at_seq<|at_region<|s1 (y_p rfl) rfl ?_
   refine at_nil<|x_tn<|at_ret ?_
   refine at_result (rs:= [.tmp 4]) rfl (r_tmp rfl r_nil) ?_
   exact congrArg A.b (beq_listsK hl hall).symm
theorem equalD_ok (p q:List UInt8):Con Tryz.prog 87 [.fz 19 ((digits p).map nI),.fz 19 ((digits q).map nI)] (Ret (.b (digits p==digits q))):=by
  have:=equalI_ok (digits p) (digits q) (by simp)
  rwa [len_digits,len_digits]at this
theorem kforg_ok (x : List UInt8) (n : Int) (L : List (List UInt8)) (m : List UInt8) (a : Int) (S P : List (List UInt8)) (hx : x.length = 32) (hL : D32 L) (hl : L.length ≤ 1000) (hm : m.length = 32) (hS : D32 S) (hP : D32 P) : Con Tryz.prog 36 [.ag (x.map u8), .i .i64 n, dgs L, .ag (m.map u8), .ag [.i .i64 a, dgs S, dgs P]] (Ret (forgA x n L m a S P)) := by
 refine enter Tryz.func36 rfl Tryz.ntmps36 (by kernel_rfl) (Nat.le_of_ble_eq_true rfl) fun w0 X0 hI=>?_
 refine at_seq<|at_region ?_
 refine at_op rfl (n_boxA 5 rfl rfl rfl ?_)
 refine at_op rfl (n_boxA 8 rfl rfl rfl ?_)
 refine at_op rfl (n_boxA 9 rfl rfl rfl ?_)
 refine s1 ((y_p rfl).v (v':= .i .i64 0) rfl) rfl<|s1 ((y_p rfl).v (v':= .i .i64 0) rfl) rfl ?_
 refine at_nil<|x_tn<|at_seq ?_
 rcases(Decidable.em (sizeK n)).symm with hcs|hcs
 ·skip
  refine at_region<|s1 (y_loadA0 ti23 rfl rfl (by first|rfl|omega|(simp<;>omega)|(simp [*]<;>omega))) rfl<|s1 (y_p rfl) rfl ?_
  refine at_op rfl (n_call false rfl (.cons (.pure pu) (.cons (.pure pu) (.nil))) (Con.cast (root_ok x n hx) (rootA_no hcs)) pu (.inl rfl) rfl ?_)
  refine s1 (y_p rfl) rfl<|s1 (y_p rfl) rfl<|s1 (y_p rfl) rfl ?_
  refine at_op rfl (n_alloc 12 rfl ti23 rfl rfl ?_)
  refine at_op rfl (n_storeA ti23 rfl rfl rfl (by first|rfl|omega|(simp<;>omega)|(simp [*]<;>omega)) (by first|rfl|omega|(simp<;>omega)|(simp [*]<;>omega)) ?_)
  refine s1 (y_p rfl) rfl ?_
  refine at_nil<|x_tn<|at_seq<|at_seq<|at_region<|s1 (y_p rfl) rfl<|s1 ((y_p rfl).v (v':= .b true) (rfl)) rfl<|s1 (y_p rfl) rfl<|g0 rfl rfl rfl rfl<|g0 rfl rfl rfl rfl<|g0 rfl rfl rfl rfl<|g0 rfl rfl rfl rfl<|g0 rfl rfl rfl rfl<|g0 rfl rfl rfl rfl<|s1 (y_p rfl) rfl ?_
  refine at_nil<|x_tn ?_
  refine at_then rfl ?_
  refine at_seq<|at_region<|s1 ((y_p rfl).v (v':= .i .i64 0) rfl) rfl<|s1 ((y_p rfl).v (v':= .i .i64 0) rfl) rfl ?_
  refine at_nil<|x_tn<|at_ret<|x_tr ?_
  refine at_result (rs:= [.tmp 10,.tmp 11]) rfl (r_tmp rfl (r_tmp rfl r_nil)) ?_
  exact forg_ret (forg_no (ver_k1 hcs))
 ·have hsz := hcs
  obtain⟨k,rfl,h1,h2⟩:=sizeK_nat hcs
  refine at_region<|s1 (y_loadA0 ti23 rfl rfl (by first|rfl|omega|(simp<;>omega)|(simp [*]<;>omega))) rfl<|s1 (y_p rfl) rfl ?_
  refine at_op rfl (n_call false rfl (.cons (.pure pu) (.cons (.pure pu) (.nil))) (Con.cast (root_ok x k hx) ((rootA_eq ..).trans (by rw [decide_eq_true hsz];rfl:_= .tu [.ag ((rootD x (k:Int)).map u8),.i .i64 0]))) pu (.inl rfl) rfl ?_)
  refine s1 (y_p rfl) rfl<|s1 (y_p rfl) rfl<|s1 (y_p rfl) rfl ?_
  refine at_op rfl (n_alloc 12 rfl ti23 rfl rfl ?_)
  refine at_op rfl (n_storeA ti23 rfl rfl rfl (by first|rfl|omega|(simp<;>omega)|(simp [*]<;>omega)) (by first|rfl|omega|(simp<;>omega)|(simp [*]<;>omega)) ?_)
  refine s1 (y_p rfl) rfl ?_
  refine at_nil<|x_tn<|at_seq<|at_seq ?_
  rcases tfK (verK (rootD x (k:Int)) (k:Int) m a S P)with hcs|hcs
  ·skip
   refine at_region<|s1 (y_p rfl) rfl<|s1 ((y_p rfl).v (v':= .b false) (rfl)) rfl<|s1 (y_p rfl) rfl<|g1 rfl rfl (y_loadA0 ti23 rfl rfl (by first|rfl|omega|(simp<;>omega)|(simp [*]<;>omega))) rfl<|g1 rfl rfl (y_p rfl) rfl<|g1 rfl rfl (y_loadA0 ti23 rfl rfl (by first|rfl|omega|(simp<;>omega)|(simp [*]<;>omega))) rfl<|g1 rfl rfl (y_loadA0 ti43 rfl rfl (by first|rfl|omega|(simp<;>omega)|(simp [*]<;>omega))) rfl ?_
   refine at_opg rfl rfl rfl (n_call false rfl (.cons (.pure pu) (.cons (.pure pu) (.cons (.pure pu) (.cons (.pure pu) (.nil))))) (Con.cast (kver_ok (rootD x (k:Int)) m k a S P (by simp) hm hS hP) (congrArg (A.i .i64) (by rw [hcs];rfl:errK (verK (rootD x (k:Int)) (k:Int) m a S P)=60))) pu (.inl rfl) rfl ?_)
   refine g1 rfl rfl ((y_p rfl).v (v':= .b true) (rfl)) rfl<|s1 (y_p rfl) rfl ?_
   refine at_nil<|x_tn ?_
   refine at_then rfl ?_
   refine at_seq<|at_region<|s1 ((y_p rfl).v (v':= .i .i64 0) rfl) rfl<|s1 ((y_p rfl).v (v':= .i .i64 0) rfl) rfl ?_
   refine at_nil<|x_tn<|at_ret<|x_tr ?_
   refine at_result (rs:= [.tmp 10,.tmp 11]) rfl (r_tmp rfl (r_tmp rfl r_nil)) ?_
   exact forg_ret (forg_no hcs)
  ·have hver := hcs
   obtain⟨_,hat,hrec,_,_⟩:=ver_spec hcs
   have hS19:=recE_len hrec
   obtain⟨i,rfl⟩:∃i:Nat,a=(i:Int):=⟨a.toNat,by unfold atK at hat;omega⟩
   have hq32:=len_sgnK hL i
   refine at_region<|s1 (y_p rfl) rfl<|s1 ((y_p rfl).v (v':= .b false) (rfl)) rfl<|s1 (y_p rfl) rfl<|g1 rfl rfl (y_loadA0 ti23 rfl rfl (by first|rfl|omega|(simp<;>omega)|(simp [*]<;>omega))) rfl<|g1 rfl rfl (y_p rfl) rfl<|g1 rfl rfl (y_loadA0 ti23 rfl rfl (by first|rfl|omega|(simp<;>omega)|(simp [*]<;>omega))) rfl<|g1 rfl rfl (y_loadA0 ti43 rfl rfl (by first|rfl|omega|(simp<;>omega)|(simp [*]<;>omega))) rfl ?_
   refine at_opg rfl rfl rfl (n_call false rfl (.cons (.pure pu) (.cons (.pure pu) (.cons (.pure pu) (.cons (.pure pu) (.nil))))) (Con.cast (kver_ok (rootD x (k:Int)) m k (i:Nat) S P (by simp) hm hS hP) (congrArg (A.i .i64) (by rw [hcs];rfl:errK (verK (rootD x (k:Int)) (k:Int) m (i:Nat) S P)=0))) pu (.inl rfl) rfl ?_)
   refine g1 rfl rfl ((y_p rfl).v (v':= .b false) (rfl)) rfl<|s1 (y_p rfl) rfl ?_
   refine at_nil<|x_tn ?_
   refine at_else rfl ?_
   refine at_skip<|x_tn<|at_seq<|at_region ?_
   refine at_op rfl (n_alloc 14 rfl ti23 rfl rfl ?_)
   refine at_op rfl (n_alloc 15 rfl ti23 rfl rfl ?_)
   refine at_nil<|x_tn<|at_seq<|at_seq<|at_region<|s1 (y_fld Tryz.underlying43 rfl ti3 (by decide) rfl rfl) rfl<|s1 (y_load ti3 rfl rfl rfl) rfl<|s1 (y_p rfl) rfl<|s1 (y_len Tryz.underlying41 rfl rfl rfl) rfl<|s1 (y_p rfl) rfl ?_
   refine at_nil<|x_tn ?_
   refine at_cond rfl (fun hc41=>?_) (fun hc41=>?_)
   ·have h41 : i < L.length := by have := of_decide_eq_true hc41; omega
    obtain⟨q,hq⟩:∃q,L[i]? =some q:=⟨_,List.getElem?_eq_getElem h41⟩
    have hql:=hL q (List.mem_of_getElem? hq)
    refine at_region<|s1 (y_p rfl) rfl<|s1 (y_fld Tryz.underlying43 rfl ti3 (by decide) rfl rfl) rfl<|s1 (y_load ti3 rfl rfl rfl) rfl<|s1 (y_ixf i Tryz.underlying41 ti23 rfl rfl rfl (by omega) rfl) rfl<|s1 (y_loadA ti23 rfl rfl (get_d hL hq) (by simp [hql])) rfl ?_
    refine at_op rfl (n_storeA ti23 rfl rfl rfl (by simp [hql]) (by first|rfl|omega|(simp<;>omega)|(simp [*]<;>omega)) ?_)
    refine at_nil<|x_tn<|at_seq<|at_seq ?_
    refine at_sayO 14 rfl (cs':=(sgnK L i).map u8) (by rw [sgnK_in hq]) ?_
    refine at_sayO 15 rfl (cs':=zD.map u8) zD_cells ?_
    refine at_region<|s1 (y_loadA0 ti23 rfl rfl (by first|rfl|omega|(simp<;>omega)|(simp [*]<;>omega))) rfl<|s1 (y_loadA0 ti23 rfl rfl (by first|rfl|omega|(simp<;>omega)|(simp [*]<;>omega))) rfl<|s1 (y_aqn Tryz.underlying23 Tryz.underlying5 ti5 (by kernel_rfl) rfl rfl (by first|assumption|(simp;done)|(simp [*];done)) (by first|assumption|(simp;done)|(simp [*];done))) rfl<|s1 (y_p rfl) rfl ?_
    refine g_and 3 rfl rfl rfl rfl (fun hb50=> .step (y_loadA0 ti23 rfl rfl (by first|rfl|omega|(simp<;>omega)|(simp [*]<;>omega))) rfl rfl<| .step (y_loadA0 ti23 rfl rfl (by first|rfl|omega|(simp<;>omega)|(simp [*]<;>omega))) rfl rfl<| .step (y_aq Tryz.underlying23 Tryz.underlying5 ti5 (by kernel_rfl) rfl rfl (by first|assumption|(simp;done)|(simp [*];done)) (by first|assumption|(simp;done)|(simp [*];done))) rfl rfl<| .done) rfl rfl ?_
    refine at_nil<|x_tn ?_
    refine at_cond rfl (fun hc54=>?_) (fun hc54=>?_)
    ·have h54 : (!(sgnK L i == zD) && sgnK L i == m) = true := hc54
     refine at_seq<|at_region<|s1 ((y_p rfl).v (v':= .i .i64 0) rfl) rfl<|s1 ((y_p rfl).v (v':= .i .i64 0) rfl) rfl ?_
     refine at_nil<|x_tn<|at_ret<|x_tr ?_
     refine at_result (rs:= [.tmp 10,.tmp 11]) rfl (r_tmp rfl (r_tmp rfl r_nil)) ?_
     exact forg_ret (forg_own h54)
    ·have h54 : (!(sgnK L i == zD) && sgnK L i == m) = false := hc54
     refine at_skip<|x_tn<|at_seq<|at_region<|s1 (y_loadA0 ti23 rfl rfl (by first|rfl|omega|(simp<;>omega)|(simp [*]<;>omega))) rfl ?_
     refine at_op rfl (n_call false rfl (.cons (.pure pu) (.nil)) (digits_ok m hm) pu (.inl rfl) rfl ?_)
     refine s1 (y_p rfl) rfl ?_
     refine at_nil<|x_tn<|at_seq<|at_region ?_
     refine at_op rfl (n_bs1 57 rfl Tryz.underlying30 ti3 rfl rfl rfl rfl rfl ?_)
     refine s1 (y_p rfl) rfl<|s1 (y_len Tryz.underlying30 rfl rfl rfl) rfl ?_
     refine at_op rfl (n_callO 60 rfl true rfl (.cons (.sl rfl rfl rfl rfl (VwL.pure pul) pul) (.cons (.pure pu) .nil)) (repeat_ok) pul (.inr ful) rfl ?_)
     refine s1 (y_p rfl) rfl ?_
     refine at_nil<|x_tn<|at_seq<|at_seq<|at_region<|s1 (y_loadA0 ti23 rfl rfl (by first|rfl|omega|(simp<;>omega)|(simp [*]<;>omega))) rfl<|s1 (y_loadA0 ti23 rfl rfl (by first|rfl|omega|(simp<;>omega)|(simp [*]<;>omega))) rfl<|s1 (y_aqn Tryz.underlying23 Tryz.underlying5 ti5 (by kernel_rfl) rfl rfl (by first|assumption|(simp;done)|(simp [*];done)) (by first|assumption|(simp;done)|(simp [*];done))) rfl ?_
     refine at_nil<|x_tn ?_
     refine at_cond rfl (fun hc63=>?_) (fun hc63=>?_)
     ·have h63 : (sgnK L i == zD) = false := by simpa using hc63
      refine at_seq<|at_region<|s1 (y_loadA0 ti23 rfl rfl (by first|rfl|omega|(simp<;>omega)|(simp [*]<;>omega))) rfl ?_
      refine at_op rfl (n_call false rfl (.cons (.pure pu) (.nil)) (digits_ok (sgnK L i) hq32) pu (.inl rfl) rfl ?_)
      refine s1 (y_p rfl) rfl ?_
      refine at_nil<|x_tn<|at_seq<|at_region<|s1 (y_p rfl) rfl<|s1 (y_p rfl) rfl ?_
      refine at_op rfl (n_call false rfl (.cons (.pure pu) (.cons (.pure pu) (.nil))) (equalD_ok m (sgnK L i)) pu (.inl rfl) rfl ?_)
      refine at_nil<|x_tn ?_
      refine at_cond rfl (fun hc68=>?_) (fun hc68=>?_)
      ·have h68 : (!(sgnK L i == zD) && digits m == digits (sgnK L i)) = true := by rw [h63, hc68]; rfl
       refine at_seq<|at_region<|s1 ((y_p rfl).v (v':= .i .i64 1) rfl) rfl<|s1 ((y_p rfl).v (v':= .i .i64 0) rfl) rfl ?_
       refine at_nil<|x_tn<|at_ret<|x_tr ?_
       refine at_result (rs:= [.tmp 10,.tmp 11]) rfl (r_tmp rfl (r_tmp rfl r_nil)) ?_
       exact forg_ret (forg_same hver h54 h68)
      ·have h68 : (!(sgnK L i == zD) && digits m == digits (sgnK L i)) = false := by rw [h63, hc68]; rfl
       refine at_say 17 rfl (v':= .fz 19 ((knwK (sgnK L i)).map nI)) (by rw [knw_no h63]) ?_
       refine at_skip<|x_tn<|at_seq ?_
       refine at_fs ⟨_, [], []⟩ 6 4 hmix (le_refl rfl) ?_
       refine fs_q 0 [] [(5,none)] (y_loadA0 ti23 rfl rfl (by first|rfl|omega|(simp<;>omega)|(simp [*]<;>omega))) rfl rfl ?_
       refine fs_q 1 [] [(9,none)] (y_fld Tryz.underlying43 rfl ti3 (by decide) rfl rfl) rfl rfl ?_
       refine fs_q 2 [1] [(9,none)] (y_load ti3 rfl rfl rfl) rfl rfl ?_
       refine fs_call false 3 [0,2] [] gy0 rfl (.cons (.pure pu) (.cons (.pure pu) (.nil))) (seed_ok x (i:Nat) hx) pu (.inl rfl) rfl rfl ?_
       refine fs_q 4 [] [(8,none)] (y_loadA0 ti23 rfl rfl (by first|rfl|omega|(simp<;>omega)|(simp [*]<;>omega))) rfl rfl ?_
       refine fs_call false 5 [3,4] [] gy0 rfl (.cons (.pure pu) (.cons (.pure pu) (.nil))) (sign_ok (seedL x (i:Nat)) m (by simp) hm) pu (.inl rfl) rfl rfl ?_
       refine fs_end (by kernel_rfl) ?_
       refine s1 (y_p rfl) rfl ?_
       refine at_nil<|x_tn<|at_seq<|at_seq<|at_region<|s1 (y_p rfl) rfl<|s1 (y_len Tryz.underlying41 rfl rfl rfl) rfl<|s1 ((y_p rfl).v (v':= .i .i64 0) rfl) rfl ?_
       refine at_nil<|x_tn<|at_block ?_
       refine at_loop (ι:=Nat) (fun j=> [(9,.p 9 0),(16,.fz 19 ((digits m).map nI)),(17,.fz 19 ((knwK (sgnK L i)).map nI)),(75,dgs (signD (seedL x (i:Nat)) m)),(76,nI 19),(77,nI j)]) (fun j=>⟨[(9,some ([nI i,dgs S,dgs P]))]⟩) (fun j=>j≤19∧∀t,t<j→badK (seedL x (i:Nat)) m (sgnK L i) S t=false) (fun j=>19 - j) ?_ ?_
       ·exact at_ex (0) (⟨by omega,fun t ht=>absurd ht (by omega)⟩) [(9,some 9)] hI rfl rfl ⟨⟨_,rfl,.p rfl⟩,⟨_,rfl,.pure pu⟩,⟨_,rfl,.pure pu⟩,⟨_,rfl,.pure pu⟩,⟨_,rfl,.pure pu⟩,⟨_,rfl,.pure pu⟩,trivial⟩ ⟨.inr ⟨_,_,rfl,rfl,.pure pul⟩,trivial⟩
       rintro j ⟨hj,hall⟩
       refine at_seq<|at_region<|s1 (y_p rfl) rfl ?_
       refine at_nil<|x_tn<|at_seq ?_
       refine at_cond rfl (fun hc78=>?_) (fun hc78=>?_)
       ·have h78 : j < 19 := by have := of_decide_eq_true hc78; omega
        have hown:=get_sign (seedL x (i:Nat)) m h78
        obtain⟨s,hs⟩:∃s,S[j]? =some s:=⟨_,List.getElem?_eq_getElem (by omega)⟩
        have hs32:=hS s (List.mem_of_getElem? hs)
        have ho32:=len_iterD (len_firstD (seedL x (i:Nat)) j) (dg m j)
        have hkn:=kdg_le (sgnK L i) j
        have hdm:=dg_lt m j
        have hso:(signD (seedL x (i:Nat)) m).length=19:=len_signL _ _ 19
        refine at_skip<|x_tn<|at_seq<|at_block<|at_seq<|at_region<|s1 (y_p rfl) rfl<|s1 (y_ixf j Tryz.underlying41 ti23 rfl rfl rfl (by omega) rfl) rfl<|s1 (y_loadA ti23 rfl rfl (get_d (D32_signD _ _) hown) (by rw [List.length_map];exact ho32)) rfl ?_
        refine at_op rfl (n_alloc 20 rfl ti23 rfl rfl ?_)
        refine s1 (y_p rfl) rfl ?_
        refine at_op rfl (n_storeA ti23 rfl rfl rfl (by rw [List.length_map];exact ho32) (by first|rfl|omega|(simp<;>omega)|(simp [*]<;>omega)) ?_)
        refine at_nil<|x_tn<|at_seq ?_
        rcases Decidable.em (dg m j<kdg (sgnK L i) j)with hcs|hcs
        ·skip
         refine at_draw_tail 17 hmix (by kernel_rfl) ?_
         refine t1 (y_p rfl) rfl<|t1 (y_p rfl) rfl<|t1 (y_ixf j Tryz.underlying30 ti3 rfl rfl rfl (by omega) rfl) rfl<|t1 (y_load ti3 rfl rfl (get_dig3 m j h78)) rfl<|t1 (y_p rfl) rfl<|t1 (y_p rfl) rfl<|t1 (y_ixf j Tryz.underlying30 ti3 rfl rfl rfl (by omega) rfl) rfl<|t1 (y_load ti3 rfl rfl (get_knw _ j h78)) rfl<|t1 ((y_p rfl).v (v':= .b true) (congrArg A.b (decide_eq_true (by omega)))) rfl<|t1 (y_p rfl) rfl ?_
         refine t1g rfl rfl (y_fld Tryz.underlying43 rfl ti41 (by decide) rfl rfl) rfl<|t1g rfl rfl (y_load ti41 rfl rfl rfl) rfl<|t1g rfl rfl (y_p rfl) rfl<|t1g rfl rfl (y_ixf j Tryz.underlying41 ti23 rfl rfl rfl (by omega) rfl) rfl<|t1g rfl rfl (y_loadA ti23 rfl rfl (get_d hS hs) (by rw [List.length_map];exact hs32)) rfl<|t1g rfl rfl (y_loadA0 ti23 rfl rfl (by rw [List.length_map];exact ho32)) rfl<|t1g rfl rfl (y_aq Tryz.underlying23 Tryz.underlying5 ti5 (by kernel_rfl) rfl rfl hs32 ho32) rfl ?_
         refine at_snil ?_
         refine s1 (y_p rfl) rfl ?_
         refine at_nil<|x_tn ?_
         refine at_cond rfl (fun hc99=>?_) (fun hc99=>?_)
         ·have hb := hc99
          refine at_seq<|at_region<|s1 (y_p rfl) rfl<|s1 ((y_p rfl).v (v':= .i .i64 2) rfl) rfl<|s1 (y_p rfl) rfl ?_
          refine at_nil<|x_tn<|at_ret<|x_br<|x_tr<|x_tr<|x_br<|x_tr ?_
          refine at_result (rs:= [.tmp 10,.tmp 11]) rfl (r_tmp rfl (r_tmp rfl r_nil)) ?_
          exact forg_ret (forg_hit hver h54 h68 h78 ((bad_is hcs hs).trans hb) hall)
         ·have hb := hc99
          refine at_skip<|x_bn<|x_tn<|at_region<|s1 (addN _ 1 rfl rfl rfl rfl (by omega)) rfl<|s1 (y_p rfl) rfl ?_
          refine at_nil ?_
          exact at_end (j+1) (⟨by omega,next_all hall ((bad_is hcs hs).trans hb)⟩) (by omega) [(9,some 9)] hI rfl rfl ⟨⟨_,rfl,.p rfl⟩,⟨_,rfl,.pure pu⟩,⟨_,rfl,.pure pu⟩,⟨_,rfl,.pure pu⟩,⟨_,rfl,.pure pu⟩,⟨_,rfl,.pure pu⟩,trivial⟩ ⟨.inr ⟨_,_,rfl,rfl,.pure pul⟩,trivial⟩
        ·skip
         refine at_draw_tail 17 hmix (by kernel_rfl) ?_
         refine t1 (y_p rfl) rfl<|t1 (y_p rfl) rfl<|t1 (y_ixf j Tryz.underlying30 ti3 rfl rfl rfl (by omega) rfl) rfl<|t1 (y_load ti3 rfl rfl (get_dig3 m j h78)) rfl<|t1 (y_p rfl) rfl<|t1 (y_p rfl) rfl<|t1 (y_ixf j Tryz.underlying30 ti3 rfl rfl rfl (by omega) rfl) rfl<|t1 (y_load ti3 rfl rfl (get_knw _ j h78)) rfl<|t1 ((y_p rfl).v (v':= .b false) (congrArg A.b (decide_eq_false (by omega)))) rfl<|t1 (y_p rfl) rfl ?_
         refine t0g rfl rfl rfl rfl<|t0g rfl rfl rfl rfl<|t0g rfl rfl rfl rfl<|t0g rfl rfl rfl rfl<|t0g rfl rfl rfl rfl<|t0g rfl rfl rfl rfl<|t0g rfl rfl rfl rfl ?_
         refine at_snil ?_
         refine s1 (y_p rfl) rfl ?_
         refine at_nil<|x_tn ?_
         refine at_else rfl ?_
         refine at_skip<|x_bn<|x_tn<|at_region<|s1 (addN _ 1 rfl rfl rfl rfl (by omega)) rfl<|s1 (y_p rfl) rfl ?_
         refine at_nil ?_
         exact at_end (j+1) (⟨by omega,next_all hall (bad_no hcs)⟩) (by omega) [(9,some 9)] hI rfl rfl ⟨⟨_,rfl,.p rfl⟩,⟨_,rfl,.pure pu⟩,⟨_,rfl,.pure pu⟩,⟨_,rfl,.pure pu⟩,⟨_,rfl,.pure pu⟩,⟨_,rfl,.pure pu⟩,trivial⟩ ⟨.inr ⟨_,_,rfl,rfl,.pure pul⟩,trivial⟩
       ·have h78 : j = 19 := by have := of_decide_eq_false hc78; omega
        subst h78
        refine at_exit<|x_te<|x_te<|x_be<|x_tn<|at_seq<|at_region<|s1 ((y_p rfl).v (v':= .i .i64 3) rfl) rfl<|s1 ((y_p rfl).v (v':= .i .i64 0) rfl) rfl ?_
        refine at_nil<|x_tn<|at_ret ?_
        refine at_result (rs:= [.tmp 10,.tmp 11]) rfl (r_tmp rfl (r_tmp rfl r_nil)) ?_
        exact forg_ret (forg_else hver h54 h68 hall)
     ·have h63 : (sgnK L i == zD) = true := by simpa using hc63
      have h68:(!(sgnK L i==zD)&&digits m==digits (sgnK L i))=false:=by rw [h63];rfl
      refine at_frz 17 rfl rfl pul (view_eq (by simp) rfl) ?_
      refine at_say 17 rfl (v':= .fz 19 ((knwK (sgnK L i)).map nI)) (by rw [knw_yes h63];rfl) ?_
      refine at_skip<|x_tn<|at_seq ?_
      refine at_fs ⟨_, [], []⟩ 6 4 hmix (le_refl rfl) ?_
      refine fs_q 0 [] [(5,none)] (y_loadA0 ti23 rfl rfl (by first|rfl|omega|(simp<;>omega)|(simp [*]<;>omega))) rfl rfl ?_
      refine fs_q 1 [] [(9,none)] (y_fld Tryz.underlying43 rfl ti3 (by decide) rfl rfl) rfl rfl ?_
      refine fs_q 2 [1] [(9,none)] (y_load ti3 rfl rfl rfl) rfl rfl ?_
      refine fs_call false 3 [0,2] [] gy0 rfl (.cons (.pure pu) (.cons (.pure pu) (.nil))) (seed_ok x (i:Nat) hx) pu (.inl rfl) rfl rfl ?_
      refine fs_q 4 [] [(8,none)] (y_loadA0 ti23 rfl rfl (by first|rfl|omega|(simp<;>omega)|(simp [*]<;>omega))) rfl rfl ?_
      refine fs_call false 5 [3,4] [] gy0 rfl (.cons (.pure pu) (.cons (.pure pu) (.nil))) (sign_ok (seedL x (i:Nat)) m (by simp) hm) pu (.inl rfl) rfl rfl ?_
      refine fs_end (by kernel_rfl) ?_
      refine s1 (y_p rfl) rfl ?_
      refine at_nil<|x_tn<|at_seq<|at_seq<|at_region<|s1 (y_p rfl) rfl<|s1 (y_len Tryz.underlying41 rfl rfl rfl) rfl<|s1 ((y_p rfl).v (v':= .i .i64 0) rfl) rfl ?_
      refine at_nil<|x_tn<|at_block ?_
      refine at_loop (ι:=Nat) (fun j=> [(9,.p 9 0),(16,.fz 19 ((digits m).map nI)),(17,.fz 19 ((knwK (sgnK L i)).map nI)),(75,dgs (signD (seedL x (i:Nat)) m)),(76,nI 19),(77,nI j)]) (fun j=>⟨[(9,some ([nI i,dgs S,dgs P]))]⟩) (fun j=>j≤19∧∀t,t<j→badK (seedL x (i:Nat)) m (sgnK L i) S t=false) (fun j=>19 - j) ?_ ?_
      ·exact at_ex (0) (⟨by omega,fun t ht=>absurd ht (by omega)⟩) [(9,some 9)] hI rfl rfl ⟨⟨_,rfl,.p rfl⟩,⟨_,rfl,.pure pu⟩,⟨_,rfl,.pure pu⟩,⟨_,rfl,.pure pu⟩,⟨_,rfl,.pure pu⟩,⟨_,rfl,.pure pu⟩,trivial⟩ ⟨.inr ⟨_,_,rfl,rfl,.pure pul⟩,trivial⟩
      rintro j ⟨hj,hall⟩
      refine at_seq<|at_region<|s1 (y_p rfl) rfl ?_
      refine at_nil<|x_tn<|at_seq ?_
      refine at_cond rfl (fun hc78=>?_) (fun hc78=>?_)
      ·have h78 : j < 19 := by have := of_decide_eq_true hc78; omega
       have hown:=get_sign (seedL x (i:Nat)) m h78
       obtain⟨s,hs⟩:∃s,S[j]? =some s:=⟨_,List.getElem?_eq_getElem (by omega)⟩
       have hs32:=hS s (List.mem_of_getElem? hs)
       have ho32:=len_iterD (len_firstD (seedL x (i:Nat)) j) (dg m j)
       have hkn:=kdg_le (sgnK L i) j
       have hdm:=dg_lt m j
       have hso:(signD (seedL x (i:Nat)) m).length=19:=len_signL _ _ 19
       refine at_skip<|x_tn<|at_seq<|at_block<|at_seq<|at_region<|s1 (y_p rfl) rfl<|s1 (y_ixf j Tryz.underlying41 ti23 rfl rfl rfl (by omega) rfl) rfl<|s1 (y_loadA ti23 rfl rfl (get_d (D32_signD _ _) hown) (by rw [List.length_map];exact ho32)) rfl ?_
       refine at_op rfl (n_alloc 20 rfl ti23 rfl rfl ?_)
       refine s1 (y_p rfl) rfl ?_
       refine at_op rfl (n_storeA ti23 rfl rfl rfl (by rw [List.length_map];exact ho32) (by first|rfl|omega|(simp<;>omega)|(simp [*]<;>omega)) ?_)
       refine at_nil<|x_tn<|at_seq ?_
       rcases Decidable.em (dg m j<kdg (sgnK L i) j)with hcs|hcs
       ·skip
        refine at_draw_tail 17 hmix (by kernel_rfl) ?_
        refine t1 (y_p rfl) rfl<|t1 (y_p rfl) rfl<|t1 (y_ixf j Tryz.underlying30 ti3 rfl rfl rfl (by omega) rfl) rfl<|t1 (y_load ti3 rfl rfl (get_dig3 m j h78)) rfl<|t1 (y_p rfl) rfl<|t1 (y_p rfl) rfl<|t1 (y_ixf j Tryz.underlying30 ti3 rfl rfl rfl (by omega) rfl) rfl<|t1 (y_load ti3 rfl rfl (get_knw _ j h78)) rfl<|t1 ((y_p rfl).v (v':= .b true) (congrArg A.b (decide_eq_true (by omega)))) rfl<|t1 (y_p rfl) rfl ?_
        refine t1g rfl rfl (y_fld Tryz.underlying43 rfl ti41 (by decide) rfl rfl) rfl<|t1g rfl rfl (y_load ti41 rfl rfl rfl) rfl<|t1g rfl rfl (y_p rfl) rfl<|t1g rfl rfl (y_ixf j Tryz.underlying41 ti23 rfl rfl rfl (by omega) rfl) rfl<|t1g rfl rfl (y_loadA ti23 rfl rfl (get_d hS hs) (by rw [List.length_map];exact hs32)) rfl<|t1g rfl rfl (y_loadA0 ti23 rfl rfl (by rw [List.length_map];exact ho32)) rfl<|t1g rfl rfl (y_aq Tryz.underlying23 Tryz.underlying5 ti5 (by kernel_rfl) rfl rfl hs32 ho32) rfl ?_
        refine at_snil ?_
        refine s1 (y_p rfl) rfl ?_
        refine at_nil<|x_tn ?_
        refine at_cond rfl (fun hc99=>?_) (fun hc99=>?_)
        ·have hb := hc99
         refine at_seq<|at_region<|s1 (y_p rfl) rfl<|s1 ((y_p rfl).v (v':= .i .i64 2) rfl) rfl<|s1 (y_p rfl) rfl ?_
         refine at_nil<|x_tn<|at_ret<|x_br<|x_tr<|x_tr<|x_br<|x_tr ?_
         refine at_result (rs:= [.tmp 10,.tmp 11]) rfl (r_tmp rfl (r_tmp rfl r_nil)) ?_
         exact forg_ret (forg_hit hver h54 h68 h78 ((bad_is hcs hs).trans hb) hall)
        ·have hb := hc99
         refine at_skip<|x_bn<|x_tn<|at_region<|s1 (addN _ 1 rfl rfl rfl rfl (by omega)) rfl<|s1 (y_p rfl) rfl ?_
         refine at_nil ?_
         exact at_end (j+1) (⟨by omega,next_all hall ((bad_is hcs hs).trans hb)⟩) (by omega) [(9,some 9)] hI rfl rfl ⟨⟨_,rfl,.p rfl⟩,⟨_,rfl,.pure pu⟩,⟨_,rfl,.pure pu⟩,⟨_,rfl,.pure pu⟩,⟨_,rfl,.pure pu⟩,⟨_,rfl,.pure pu⟩,trivial⟩ ⟨.inr ⟨_,_,rfl,rfl,.pure pul⟩,trivial⟩
       ·skip
        refine at_draw_tail 17 hmix (by kernel_rfl) ?_
        refine t1 (y_p rfl) rfl<|t1 (y_p rfl) rfl<|t1 (y_ixf j Tryz.underlying30 ti3 rfl rfl rfl (by omega) rfl) rfl<|t1 (y_load ti3 rfl rfl (get_dig3 m j h78)) rfl<|t1 (y_p rfl) rfl<|t1 (y_p rfl) rfl<|t1 (y_ixf j Tryz.underlying30 ti3 rfl rfl rfl (by omega) rfl) rfl<|t1 (y_load ti3 rfl rfl (get_knw _ j h78)) rfl<|t1 ((y_p rfl).v (v':= .b false) (congrArg A.b (decide_eq_false (by omega)))) rfl<|t1 (y_p rfl) rfl ?_
        refine t0g rfl rfl rfl rfl<|t0g rfl rfl rfl rfl<|t0g rfl rfl rfl rfl<|t0g rfl rfl rfl rfl<|t0g rfl rfl rfl rfl<|t0g rfl rfl rfl rfl<|t0g rfl rfl rfl rfl ?_
        refine at_snil ?_
        refine s1 (y_p rfl) rfl ?_
        refine at_nil<|x_tn ?_
        refine at_else rfl ?_
        refine at_skip<|x_bn<|x_tn<|at_region<|s1 (addN _ 1 rfl rfl rfl rfl (by omega)) rfl<|s1 (y_p rfl) rfl ?_
        refine at_nil ?_
        exact at_end (j+1) (⟨by omega,next_all hall (bad_no hcs)⟩) (by omega) [(9,some 9)] hI rfl rfl ⟨⟨_,rfl,.p rfl⟩,⟨_,rfl,.pure pu⟩,⟨_,rfl,.pure pu⟩,⟨_,rfl,.pure pu⟩,⟨_,rfl,.pure pu⟩,⟨_,rfl,.pure pu⟩,trivial⟩ ⟨.inr ⟨_,_,rfl,rfl,.pure pul⟩,trivial⟩
      ·have h78 : j = 19 := by have := of_decide_eq_false hc78; omega
       subst h78
       refine at_exit<|x_te<|x_te<|x_be<|x_tn<|at_seq<|at_region<|s1 ((y_p rfl).v (v':= .i .i64 3) rfl) rfl<|s1 ((y_p rfl).v (v':= .i .i64 0) rfl) rfl ?_
       refine at_nil<|x_tn<|at_ret ?_
       refine at_result (rs:= [.tmp 10,.tmp 11]) rfl (r_tmp rfl (r_tmp rfl r_nil)) ?_
       exact forg_ret (forg_else hver h54 h68 hall)
   ·have h41 : ¬ i < L.length := by have := of_decide_eq_false hc41; omega
    refine at_skip<|x_tn<|at_seq<|at_seq ?_
    refine at_sayO 14 rfl (cs':=(sgnK L i).map u8) (by rw [sgnK_out h41];exact zD_cells) ?_
    refine at_sayO 15 rfl (cs':=zD.map u8) zD_cells ?_
    refine at_region<|s1 (y_loadA0 ti23 rfl rfl (by first|rfl|omega|(simp<;>omega)|(simp [*]<;>omega))) rfl<|s1 (y_loadA0 ti23 rfl rfl (by first|rfl|omega|(simp<;>omega)|(simp [*]<;>omega))) rfl<|s1 (y_aqn Tryz.underlying23 Tryz.underlying5 ti5 (by kernel_rfl) rfl rfl (by first|assumption|(simp;done)|(simp [*];done)) (by first|assumption|(simp;done)|(simp [*];done))) rfl<|s1 (y_p rfl) rfl ?_
    refine g_and 3 rfl rfl rfl rfl (fun hb50=> .step (y_loadA0 ti23 rfl rfl (by first|rfl|omega|(simp<;>omega)|(simp [*]<;>omega))) rfl rfl<| .step (y_loadA0 ti23 rfl rfl (by first|rfl|omega|(simp<;>omega)|(simp [*]<;>omega))) rfl rfl<| .step (y_aq Tryz.underlying23 Tryz.underlying5 ti5 (by kernel_rfl) rfl rfl (by first|assumption|(simp;done)|(simp [*];done)) (by first|assumption|(simp;done)|(simp [*];done))) rfl rfl<| .done) rfl rfl ?_
    refine at_nil<|x_tn ?_
    refine at_cond rfl (fun hc54=>?_) (fun hc54=>?_)
    ·have h54 : (!(sgnK L i == zD) && sgnK L i == m) = true := hc54
     refine at_seq<|at_region<|s1 ((y_p rfl).v (v':= .i .i64 0) rfl) rfl<|s1 ((y_p rfl).v (v':= .i .i64 0) rfl) rfl ?_
     refine at_nil<|x_tn<|at_ret<|x_tr ?_
     refine at_result (rs:= [.tmp 10,.tmp 11]) rfl (r_tmp rfl (r_tmp rfl r_nil)) ?_
     exact forg_ret (forg_own h54)
    ·have h54 : (!(sgnK L i == zD) && sgnK L i == m) = false := hc54
     refine at_skip<|x_tn<|at_seq<|at_region<|s1 (y_loadA0 ti23 rfl rfl (by first|rfl|omega|(simp<;>omega)|(simp [*]<;>omega))) rfl ?_
     refine at_op rfl (n_call false rfl (.cons (.pure pu) (.nil)) (digits_ok m hm) pu (.inl rfl) rfl ?_)
     refine s1 (y_p rfl) rfl ?_
     refine at_nil<|x_tn<|at_seq<|at_region ?_
     refine at_op rfl (n_bs1 57 rfl Tryz.underlying30 ti3 rfl rfl rfl rfl rfl ?_)
     refine s1 (y_p rfl) rfl<|s1 (y_len Tryz.underlying30 rfl rfl rfl) rfl ?_
     refine at_op rfl (n_callO 60 rfl true rfl (.cons (.sl rfl rfl rfl rfl (VwL.pure pul) pul) (.cons (.pure pu) .nil)) (repeat_ok) pul (.inr ful) rfl ?_)
     refine s1 (y_p rfl) rfl ?_
     refine at_nil<|x_tn<|at_seq<|at_seq<|at_region<|s1 (y_loadA0 ti23 rfl rfl (by first|rfl|omega|(simp<;>omega)|(simp [*]<;>omega))) rfl<|s1 (y_loadA0 ti23 rfl rfl (by first|rfl|omega|(simp<;>omega)|(simp [*]<;>omega))) rfl<|s1 (y_aqn Tryz.underlying23 Tryz.underlying5 ti5 (by kernel_rfl) rfl rfl (by first|assumption|(simp;done)|(simp [*];done)) (by first|assumption|(simp;done)|(simp [*];done))) rfl ?_
     refine at_nil<|x_tn ?_
     refine at_cond rfl (fun hc63=>?_) (fun hc63=>?_)
     ·have h63 : (sgnK L i == zD) = false := by simpa using hc63
      refine at_seq<|at_region<|s1 (y_loadA0 ti23 rfl rfl (by first|rfl|omega|(simp<;>omega)|(simp [*]<;>omega))) rfl ?_
      refine at_op rfl (n_call false rfl (.cons (.pure pu) (.nil)) (digits_ok (sgnK L i) hq32) pu (.inl rfl) rfl ?_)
      refine s1 (y_p rfl) rfl ?_
      refine at_nil<|x_tn<|at_seq<|at_region<|s1 (y_p rfl) rfl<|s1 (y_p rfl) rfl ?_
      refine at_op rfl (n_call false rfl (.cons (.pure pu) (.cons (.pure pu) (.nil))) (equalD_ok m (sgnK L i)) pu (.inl rfl) rfl ?_)
      refine at_nil<|x_tn ?_
      refine at_cond rfl (fun hc68=>?_) (fun hc68=>?_)
      ·have h68 : (!(sgnK L i == zD) && digits m == digits (sgnK L i)) = true := by rw [h63, hc68]; rfl
       refine at_seq<|at_region<|s1 ((y_p rfl).v (v':= .i .i64 1) rfl) rfl<|s1 ((y_p rfl).v (v':= .i .i64 0) rfl) rfl ?_
       refine at_nil<|x_tn<|at_ret<|x_tr ?_
       refine at_result (rs:= [.tmp 10,.tmp 11]) rfl (r_tmp rfl (r_tmp rfl r_nil)) ?_
       exact forg_ret (forg_same hver h54 h68)
      ·have h68 : (!(sgnK L i == zD) && digits m == digits (sgnK L i)) = false := by rw [h63, hc68]; rfl
       refine at_say 17 rfl (v':= .fz 19 ((knwK (sgnK L i)).map nI)) (by rw [knw_no h63]) ?_
       refine at_skip<|x_tn<|at_seq ?_
       refine at_fs ⟨_, [], []⟩ 6 4 hmix (le_refl rfl) ?_
       refine fs_q 0 [] [(5,none)] (y_loadA0 ti23 rfl rfl (by first|rfl|omega|(simp<;>omega)|(simp [*]<;>omega))) rfl rfl ?_
       refine fs_q 1 [] [(9,none)] (y_fld Tryz.underlying43 rfl ti3 (by decide) rfl rfl) rfl rfl ?_
       refine fs_q 2 [1] [(9,none)] (y_load ti3 rfl rfl rfl) rfl rfl ?_
       refine fs_call false 3 [0,2] [] gy0 rfl (.cons (.pure pu) (.cons (.pure pu) (.nil))) (seed_ok x (i:Nat) hx) pu (.inl rfl) rfl rfl ?_
       refine fs_q 4 [] [(8,none)] (y_loadA0 ti23 rfl rfl (by first|rfl|omega|(simp<;>omega)|(simp [*]<;>omega))) rfl rfl ?_
       refine fs_call false 5 [3,4] [] gy0 rfl (.cons (.pure pu) (.cons (.pure pu) (.nil))) (sign_ok (seedL x (i:Nat)) m (by simp) hm) pu (.inl rfl) rfl rfl ?_
       refine fs_end (by kernel_rfl) ?_
       refine s1 (y_p rfl) rfl ?_
       refine at_nil<|x_tn<|at_seq<|at_seq<|at_region<|s1 (y_p rfl) rfl<|s1 (y_len Tryz.underlying41 rfl rfl rfl) rfl<|s1 ((y_p rfl).v (v':= .i .i64 0) rfl) rfl ?_
       refine at_nil<|x_tn<|at_block ?_
       refine at_loop (ι:=Nat) (fun j=> [(9,.p 9 0),(16,.fz 19 ((digits m).map nI)),(17,.fz 19 ((knwK (sgnK L i)).map nI)),(75,dgs (signD (seedL x (i:Nat)) m)),(76,nI 19),(77,nI j)]) (fun j=>⟨[(9,some ([nI i,dgs S,dgs P]))]⟩) (fun j=>j≤19∧∀t,t<j→badK (seedL x (i:Nat)) m (sgnK L i) S t=false) (fun j=>19 - j) ?_ ?_
       ·exact at_ex (0) (⟨by omega,fun t ht=>absurd ht (by omega)⟩) [(9,some 9)] hI rfl rfl ⟨⟨_,rfl,.p rfl⟩,⟨_,rfl,.pure pu⟩,⟨_,rfl,.pure pu⟩,⟨_,rfl,.pure pu⟩,⟨_,rfl,.pure pu⟩,⟨_,rfl,.pure pu⟩,trivial⟩ ⟨.inr ⟨_,_,rfl,rfl,.pure pul⟩,trivial⟩
       rintro j ⟨hj,hall⟩
       refine at_seq<|at_region<|s1 (y_p rfl) rfl ?_
       refine at_nil<|x_tn<|at_seq ?_
       refine at_cond rfl (fun hc78=>?_) (fun hc78=>?_)
       ·have h78 : j < 19 := by have := of_decide_eq_true hc78; omega
        have hown:=get_sign (seedL x (i:Nat)) m h78
        obtain⟨s,hs⟩:∃s,S[j]? =some s:=⟨_,List.getElem?_eq_getElem (by omega)⟩
        have hs32:=hS s (List.mem_of_getElem? hs)
        have ho32:=len_iterD (len_firstD (seedL x (i:Nat)) j) (dg m j)
        have hkn:=kdg_le (sgnK L i) j
        have hdm:=dg_lt m j
        have hso:(signD (seedL x (i:Nat)) m).length=19:=len_signL _ _ 19
        refine at_skip<|x_tn<|at_seq<|at_block<|at_seq<|at_region<|s1 (y_p rfl) rfl<|s1 (y_ixf j Tryz.underlying41 ti23 rfl rfl rfl (by omega) rfl) rfl<|s1 (y_loadA ti23 rfl rfl (get_d (D32_signD _ _) hown) (by rw [List.length_map];exact ho32)) rfl ?_
        refine at_op rfl (n_alloc 20 rfl ti23 rfl rfl ?_)
        refine s1 (y_p rfl) rfl ?_
        refine at_op rfl (n_storeA ti23 rfl rfl rfl (by rw [List.length_map];exact ho32) (by first|rfl|omega|(simp<;>omega)|(simp [*]<;>omega)) ?_)
        refine at_nil<|x_tn<|at_seq ?_
        rcases Decidable.em (dg m j<kdg (sgnK L i) j)with hcs|hcs
        ·skip
         refine at_draw_tail 17 hmix (by kernel_rfl) ?_
         refine t1 (y_p rfl) rfl<|t1 (y_p rfl) rfl<|t1 (y_ixf j Tryz.underlying30 ti3 rfl rfl rfl (by omega) rfl) rfl<|t1 (y_load ti3 rfl rfl (get_dig3 m j h78)) rfl<|t1 (y_p rfl) rfl<|t1 (y_p rfl) rfl<|t1 (y_ixf j Tryz.underlying30 ti3 rfl rfl rfl (by omega) rfl) rfl<|t1 (y_load ti3 rfl rfl (get_knw _ j h78)) rfl<|t1 ((y_p rfl).v (v':= .b true) (congrArg A.b (decide_eq_true (by omega)))) rfl<|t1 (y_p rfl) rfl ?_
         refine t1g rfl rfl (y_fld Tryz.underlying43 rfl ti41 (by decide) rfl rfl) rfl<|t1g rfl rfl (y_load ti41 rfl rfl rfl) rfl<|t1g rfl rfl (y_p rfl) rfl<|t1g rfl rfl (y_ixf j Tryz.underlying41 ti23 rfl rfl rfl (by omega) rfl) rfl<|t1g rfl rfl (y_loadA ti23 rfl rfl (get_d hS hs) (by rw [List.length_map];exact hs32)) rfl<|t1g rfl rfl (y_loadA0 ti23 rfl rfl (by rw [List.length_map];exact ho32)) rfl<|t1g rfl rfl (y_aq Tryz.underlying23 Tryz.underlying5 ti5 (by kernel_rfl) rfl rfl hs32 ho32) rfl ?_
         refine at_snil ?_
         refine s1 (y_p rfl) rfl ?_
         refine at_nil<|x_tn ?_
         refine at_cond rfl (fun hc99=>?_) (fun hc99=>?_)
         ·have hb := hc99
          refine at_seq<|at_region<|s1 (y_p rfl) rfl<|s1 ((y_p rfl).v (v':= .i .i64 2) rfl) rfl<|s1 (y_p rfl) rfl ?_
          refine at_nil<|x_tn<|at_ret<|x_br<|x_tr<|x_tr<|x_br<|x_tr ?_
          refine at_result (rs:= [.tmp 10,.tmp 11]) rfl (r_tmp rfl (r_tmp rfl r_nil)) ?_
          exact forg_ret (forg_hit hver h54 h68 h78 ((bad_is hcs hs).trans hb) hall)
         ·have hb := hc99
          refine at_skip<|x_bn<|x_tn<|at_region<|s1 (addN _ 1 rfl rfl rfl rfl (by omega)) rfl<|s1 (y_p rfl) rfl ?_
          refine at_nil ?_
          exact at_end (j+1) (⟨by omega,next_all hall ((bad_is hcs hs).trans hb)⟩) (by omega) [(9,some 9)] hI rfl rfl ⟨⟨_,rfl,.p rfl⟩,⟨_,rfl,.pure pu⟩,⟨_,rfl,.pure pu⟩,⟨_,rfl,.pure pu⟩,⟨_,rfl,.pure pu⟩,⟨_,rfl,.pure pu⟩,trivial⟩ ⟨.inr ⟨_,_,rfl,rfl,.pure pul⟩,trivial⟩
        ·skip
         refine at_draw_tail 17 hmix (by kernel_rfl) ?_
         refine t1 (y_p rfl) rfl<|t1 (y_p rfl) rfl<|t1 (y_ixf j Tryz.underlying30 ti3 rfl rfl rfl (by omega) rfl) rfl<|t1 (y_load ti3 rfl rfl (get_dig3 m j h78)) rfl<|t1 (y_p rfl) rfl<|t1 (y_p rfl) rfl<|t1 (y_ixf j Tryz.underlying30 ti3 rfl rfl rfl (by omega) rfl) rfl<|t1 (y_load ti3 rfl rfl (get_knw _ j h78)) rfl<|t1 ((y_p rfl).v (v':= .b false) (congrArg A.b (decide_eq_false (by omega)))) rfl<|t1 (y_p rfl) rfl ?_
         refine t0g rfl rfl rfl rfl<|t0g rfl rfl rfl rfl<|t0g rfl rfl rfl rfl<|t0g rfl rfl rfl rfl<|t0g rfl rfl rfl rfl<|t0g rfl rfl rfl rfl<|t0g rfl rfl rfl rfl ?_
         refine at_snil ?_
         refine s1 (y_p rfl) rfl ?_
         refine at_nil<|x_tn ?_
         refine at_else rfl ?_
         refine at_skip<|x_bn<|x_tn<|at_region<|s1 (addN _ 1 rfl rfl rfl rfl (by omega)) rfl<|s1 (y_p rfl) rfl ?_
         refine at_nil ?_
         exact at_end (j+1) (⟨by omega,next_all hall (bad_no hcs)⟩) (by omega) [(9,some 9)] hI rfl rfl ⟨⟨_,rfl,.p rfl⟩,⟨_,rfl,.pure pu⟩,⟨_,rfl,.pure pu⟩,⟨_,rfl,.pure pu⟩,⟨_,rfl,.pure pu⟩,⟨_,rfl,.pure pu⟩,trivial⟩ ⟨.inr ⟨_,_,rfl,rfl,.pure pul⟩,trivial⟩
       ·have h78 : j = 19 := by have := of_decide_eq_false hc78; omega
        subst h78
        refine at_exit<|x_te<|x_te<|x_be<|x_tn<|at_seq<|at_region<|s1 ((y_p rfl).v (v':= .i .i64 3) rfl) rfl<|s1 ((y_p rfl).v (v':= .i .i64 0) rfl) rfl ?_
        refine at_nil<|x_tn<|at_ret ?_
        refine at_result (rs:= [.tmp 10,.tmp 11]) rfl (r_tmp rfl (r_tmp rfl r_nil)) ?_
        exact forg_ret (forg_else hver h54 h68 hall)
     ·have h63 : (sgnK L i == zD) = true := by simpa using hc63
      have h68:(!(sgnK L i==zD)&&digits m==digits (sgnK L i))=false:=by rw [h63];rfl
      refine at_frz 17 rfl rfl pul (view_eq (by simp) rfl) ?_
      refine at_say 17 rfl (v':= .fz 19 ((knwK (sgnK L i)).map nI)) (by rw [knw_yes h63];rfl) ?_
      refine at_skip<|x_tn<|at_seq ?_
      refine at_fs ⟨_, [], []⟩ 6 4 hmix (le_refl rfl) ?_
      refine fs_q 0 [] [(5,none)] (y_loadA0 ti23 rfl rfl (by first|rfl|omega|(simp<;>omega)|(simp [*]<;>omega))) rfl rfl ?_
      refine fs_q 1 [] [(9,none)] (y_fld Tryz.underlying43 rfl ti3 (by decide) rfl rfl) rfl rfl ?_
      refine fs_q 2 [1] [(9,none)] (y_load ti3 rfl rfl rfl) rfl rfl ?_
      refine fs_call false 3 [0,2] [] gy0 rfl (.cons (.pure pu) (.cons (.pure pu) (.nil))) (seed_ok x (i:Nat) hx) pu (.inl rfl) rfl rfl ?_
      refine fs_q 4 [] [(8,none)] (y_loadA0 ti23 rfl rfl (by first|rfl|omega|(simp<;>omega)|(simp [*]<;>omega))) rfl rfl ?_
      refine fs_call false 5 [3,4] [] gy0 rfl (.cons (.pure pu) (.cons (.pure pu) (.nil))) (sign_ok (seedL x (i:Nat)) m (by simp) hm) pu (.inl rfl) rfl rfl ?_
      refine fs_end (by kernel_rfl) ?_
      refine s1 (y_p rfl) rfl ?_
      refine at_nil<|x_tn<|at_seq<|at_seq<|at_region<|s1 (y_p rfl) rfl<|s1 (y_len Tryz.underlying41 rfl rfl rfl) rfl<|s1 ((y_p rfl).v (v':= .i .i64 0) rfl) rfl ?_
      refine at_nil<|x_tn<|at_block ?_
      refine at_loop (ι:=Nat) (fun j=> [(9,.p 9 0),(16,.fz 19 ((digits m).map nI)),(17,.fz 19 ((knwK (sgnK L i)).map nI)),(75,dgs (signD (seedL x (i:Nat)) m)),(76,nI 19),(77,nI j)]) (fun j=>⟨[(9,some ([nI i,dgs S,dgs P]))]⟩) (fun j=>j≤19∧∀t,t<j→badK (seedL x (i:Nat)) m (sgnK L i) S t=false) (fun j=>19 - j) ?_ ?_
      ·exact at_ex (0) (⟨by omega,fun t ht=>absurd ht (by omega)⟩) [(9,some 9)] hI rfl rfl ⟨⟨_,rfl,.p rfl⟩,⟨_,rfl,.pure pu⟩,⟨_,rfl,.pure pu⟩,⟨_,rfl,.pure pu⟩,⟨_,rfl,.pure pu⟩,⟨_,rfl,.pure pu⟩,trivial⟩ ⟨.inr ⟨_,_,rfl,rfl,.pure pul⟩,trivial⟩
      rintro j ⟨hj,hall⟩
      refine at_seq<|at_region<|s1 (y_p rfl) rfl ?_
      refine at_nil<|x_tn<|at_seq ?_
      refine at_cond rfl (fun hc78=>?_) (fun hc78=>?_)
      ·have h78 : j < 19 := by have := of_decide_eq_true hc78; omega
       have hown:=get_sign (seedL x (i:Nat)) m h78
       obtain⟨s,hs⟩:∃s,S[j]? =some s:=⟨_,List.getElem?_eq_getElem (by omega)⟩
       have hs32:=hS s (List.mem_of_getElem? hs)
       have ho32:=len_iterD (len_firstD (seedL x (i:Nat)) j) (dg m j)
       have hkn:=kdg_le (sgnK L i) j
       have hdm:=dg_lt m j
       have hso:(signD (seedL x (i:Nat)) m).length=19:=len_signL _ _ 19
       refine at_skip<|x_tn<|at_seq<|at_block<|at_seq<|at_region<|s1 (y_p rfl) rfl<|s1 (y_ixf j Tryz.underlying41 ti23 rfl rfl rfl (by omega) rfl) rfl<|s1 (y_loadA ti23 rfl rfl (get_d (D32_signD _ _) hown) (by rw [List.length_map];exact ho32)) rfl ?_
       refine at_op rfl (n_alloc 20 rfl ti23 rfl rfl ?_)
       refine s1 (y_p rfl) rfl ?_
       refine at_op rfl (n_storeA ti23 rfl rfl rfl (by rw [List.length_map];exact ho32) (by first|rfl|omega|(simp<;>omega)|(simp [*]<;>omega)) ?_)
       refine at_nil<|x_tn<|at_seq ?_
       rcases Decidable.em (dg m j<kdg (sgnK L i) j)with hcs|hcs
       ·skip
        refine at_draw_tail 17 hmix (by kernel_rfl) ?_
        refine t1 (y_p rfl) rfl<|t1 (y_p rfl) rfl<|t1 (y_ixf j Tryz.underlying30 ti3 rfl rfl rfl (by omega) rfl) rfl<|t1 (y_load ti3 rfl rfl (get_dig3 m j h78)) rfl<|t1 (y_p rfl) rfl<|t1 (y_p rfl) rfl<|t1 (y_ixf j Tryz.underlying30 ti3 rfl rfl rfl (by omega) rfl) rfl<|t1 (y_load ti3 rfl rfl (get_knw _ j h78)) rfl<|t1 ((y_p rfl).v (v':= .b true) (congrArg A.b (decide_eq_true (by omega)))) rfl<|t1 (y_p rfl) rfl ?_
        refine t1g rfl rfl (y_fld Tryz.underlying43 rfl ti41 (by decide) rfl rfl) rfl<|t1g rfl rfl (y_load ti41 rfl rfl rfl) rfl<|t1g rfl rfl (y_p rfl) rfl<|t1g rfl rfl (y_ixf j Tryz.underlying41 ti23 rfl rfl rfl (by omega) rfl) rfl<|t1g rfl rfl (y_loadA ti23 rfl rfl (get_d hS hs) (by rw [List.length_map];exact hs32)) rfl<|t1g rfl rfl (y_loadA0 ti23 rfl rfl (by rw [List.length_map];exact ho32)) rfl<|t1g rfl rfl (y_aq Tryz.underlying23 Tryz.underlying5 ti5 (by kernel_rfl) rfl rfl hs32 ho32) rfl ?_
        refine at_snil ?_
        refine s1 (y_p rfl) rfl ?_
        refine at_nil<|x_tn ?_
        refine at_cond rfl (fun hc99=>?_) (fun hc99=>?_)
        ·have hb := hc99
         refine at_seq<|at_region<|s1 (y_p rfl) rfl<|s1 ((y_p rfl).v (v':= .i .i64 2) rfl) rfl<|s1 (y_p rfl) rfl ?_
         refine at_nil<|x_tn<|at_ret<|x_br<|x_tr<|x_tr<|x_br<|x_tr ?_
         refine at_result (rs:= [.tmp 10,.tmp 11]) rfl (r_tmp rfl (r_tmp rfl r_nil)) ?_
         exact forg_ret (forg_hit hver h54 h68 h78 ((bad_is hcs hs).trans hb) hall)
        ·have hb := hc99
         refine at_skip<|x_bn<|x_tn<|at_region<|s1 (addN _ 1 rfl rfl rfl rfl (by omega)) rfl<|s1 (y_p rfl) rfl ?_
         refine at_nil ?_
         exact at_end (j+1) (⟨by omega,next_all hall ((bad_is hcs hs).trans hb)⟩) (by omega) [(9,some 9)] hI rfl rfl ⟨⟨_,rfl,.p rfl⟩,⟨_,rfl,.pure pu⟩,⟨_,rfl,.pure pu⟩,⟨_,rfl,.pure pu⟩,⟨_,rfl,.pure pu⟩,⟨_,rfl,.pure pu⟩,trivial⟩ ⟨.inr ⟨_,_,rfl,rfl,.pure pul⟩,trivial⟩
       ·skip
        refine at_draw_tail 17 hmix (by kernel_rfl) ?_
        refine t1 (y_p rfl) rfl<|t1 (y_p rfl) rfl<|t1 (y_ixf j Tryz.underlying30 ti3 rfl rfl rfl (by omega) rfl) rfl<|t1 (y_load ti3 rfl rfl (get_dig3 m j h78)) rfl<|t1 (y_p rfl) rfl<|t1 (y_p rfl) rfl<|t1 (y_ixf j Tryz.underlying30 ti3 rfl rfl rfl (by omega) rfl) rfl<|t1 (y_load ti3 rfl rfl (get_knw _ j h78)) rfl<|t1 ((y_p rfl).v (v':= .b false) (congrArg A.b (decide_eq_false (by omega)))) rfl<|t1 (y_p rfl) rfl ?_
        refine t0g rfl rfl rfl rfl<|t0g rfl rfl rfl rfl<|t0g rfl rfl rfl rfl<|t0g rfl rfl rfl rfl<|t0g rfl rfl rfl rfl<|t0g rfl rfl rfl rfl<|t0g rfl rfl rfl rfl ?_
        refine at_snil ?_
        refine s1 (y_p rfl) rfl ?_
        refine at_nil<|x_tn ?_
        refine at_else rfl ?_
        refine at_skip<|x_bn<|x_tn<|at_region<|s1 (addN _ 1 rfl rfl rfl rfl (by omega)) rfl<|s1 (y_p rfl) rfl ?_
        refine at_nil ?_
        exact at_end (j+1) (⟨by omega,next_all hall (bad_no hcs)⟩) (by omega) [(9,some 9)] hI rfl rfl ⟨⟨_,rfl,.p rfl⟩,⟨_,rfl,.pure pu⟩,⟨_,rfl,.pure pu⟩,⟨_,rfl,.pure pu⟩,⟨_,rfl,.pure pu⟩,⟨_,rfl,.pure pu⟩,trivial⟩ ⟨.inr ⟨_,_,rfl,rfl,.pure pul⟩,trivial⟩
      ·have h78 : j = 19 := by have := of_decide_eq_false hc78; omega
       subst h78
       refine at_exit<|x_te<|x_te<|x_be<|x_tn<|at_seq<|at_region<|s1 ((y_p rfl).v (v':= .i .i64 3) rfl) rfl<|s1 ((y_p rfl).v (v':= .i .i64 0) rfl) rfl ?_
       refine at_nil<|x_tn<|at_ret ?_
       refine at_result (rs:= [.tmp 10,.tmp 11]) rfl (r_tmp rfl (r_tmp rfl r_nil)) ?_
       exact forg_ret (forg_else hver h54 h68 hall)
end Go.Abs.D2
-- E6C
namespace Go.Abs.D2
open Go Go.Eng Go.Abs Go.Proofs
theorem law_link (x : List UInt8) (n iss : Int) (ids : List Int) (S : List Sp) (X : BitVec 64) (fl : UInt8) (bb : Int) (hx : x.length = 32) (hi : rg iss) (hn : S.length ≤ maxLen) (hS : ∀ s ∈ S, s.ok ∧ s.ch.length ≤ maxLen) (hbb : -128 ≤ bb ∧ bb ≤ 127) : Con Tryz.prog 10 [.ag (x.map u8), .i .i64 n, .i .i64 iss, .fz ids.length (ids.map (A.i .i64)), .fz S.length (spsC S), w64 X, u8 fl, .i .i8 bb] (Ret (.b true)) := by
 refine enter Tryz.func10 rfl Tryz.ntmps10 (by kernel_rfl) (Nat.le_of_ble_eq_true rfl) fun w0 X0 hI=>?_
 refine at_seq<|at_region ?_
 refine at_op rfl (n_boxA 8 rfl rfl rfl ?_)
 refine s1 (y_p rfl) rfl ?_
 refine at_nil<|x_tn<|at_seq<|at_seq<|at_region ?_
 refine at_op rfl (n_call false rfl (.nil) (lsane_ok) pu (.inl rfl) rfl ?_)
 refine s1 ((y_p rfl).v (v':= .b false) (rfl)) rfl ?_
 refine at_nil<|x_tn ?_
 refine at_else rfl ?_
 refine at_skip<|x_tn<|at_seq<|at_seq ?_
 rcases few_by (fewE n ids S) bb with hcs|hcs|hcs
 ·skip
  refine at_region<|s1 (y_p rfl) rfl<|s1 (y_p rfl) rfl<|s1 (y_p rfl) rfl ?_
  refine at_op rfl (n_call false rfl (.cons (.pure pu) (.cons (.pure pu) (.cons (.pure pu) (.nil)))) (Con.cast (lfew_ok n ids S hn) (congrArg A.b hcs)) pu (.inl rfl) rfl ?_)
  refine s1 ((y_p rfl).v (v':= .b true) (rfl)) rfl<|s1 (y_p rfl) rfl<|g0 rfl rfl rfl rfl<|g0 rfl rfl rfl rfl<|s1 (y_p rfl) rfl ?_
  refine at_nil<|x_tn ?_
  refine at_then rfl ?_
  refine at_seq<|at_region<|s1 (y_p rfl) rfl ?_
  refine at_nil<|x_tn<|at_ret<|x_tr ?_
  refine at_result (rs:= [.tmp 16]) rfl (r_tmp rfl r_nil) ?_
  rfl
 ·obtain ⟨hcs, hz⟩ := hcs
  refine at_region<|s1 (y_p rfl) rfl<|s1 (y_p rfl) rfl<|s1 (y_p rfl) rfl ?_
  refine at_op rfl (n_call false rfl (.cons (.pure pu) (.cons (.pure pu) (.cons (.pure pu) (.nil)))) (Con.cast (lfew_ok n ids S hn) (congrArg A.b hcs)) pu (.inl rfl) rfl ?_)
  refine s1 ((y_p rfl).v (v':= .b false) (rfl)) rfl<|s1 (y_p rfl) rfl<|g1 rfl rfl (y_p rfl) rfl<|g1 rfl rfl ((y_p rfl).v (v':= .b true) (congrArg A.b (beq_iff_eq.2 hz))) rfl<|s1 (y_p rfl) rfl ?_
  refine at_nil<|x_tn ?_
  refine at_then rfl ?_
  refine at_seq<|at_region<|s1 (y_p rfl) rfl ?_
  refine at_nil<|x_tn<|at_ret<|x_tr ?_
  refine at_result (rs:= [.tmp 16]) rfl (r_tmp rfl r_nil) ?_
  rfl
 ·obtain ⟨hcs, hz⟩ := hcs
  obtain⟨hc,hSl,hn6,hids⟩:=fewE_spec hcs
  have hS1:∀s∈S,s.ok:=fun s hs=>(hS s hs).1
  obtain⟨l,hL⟩:∃l,l=(pubLs x n iss ids [] S):=⟨_,rfl⟩
  have hlo:EpsOk l∧l.length≤0+S.length:=by rw [hL];exact pubLs_ok hi (fun e he=>by cases he) (by simp;omega) hS1 hc
  obtain⟨hl,hll⟩:=hlo
  have hg:Good x n l:=by rw [hL];exact pubLs_good (good0 x n)
  refine at_region<|s1 (y_p rfl) rfl<|s1 (y_p rfl) rfl<|s1 (y_p rfl) rfl ?_
  refine at_op rfl (n_call false rfl (.cons (.pure pu) (.cons (.pure pu) (.cons (.pure pu) (.nil)))) (Con.cast (lfew_ok n ids S hn) (congrArg A.b hcs)) pu (.inl rfl) rfl ?_)
  refine s1 ((y_p rfl).v (v':= .b false) (rfl)) rfl<|s1 (y_p rfl) rfl<|g1 rfl rfl (y_p rfl) rfl<|g1 rfl rfl ((y_p rfl).v (v':= .b false) (congrArg A.b (beq_eq_false_iff_ne.2 hz))) rfl<|s1 (y_p rfl) rfl ?_
  refine at_nil<|x_tn ?_
  refine at_else rfl ?_
  refine at_skip<|x_tn<|at_seq<|at_region<|s1 (y_loadA0 ti23 rfl rfl (by rw [List.length_map,hx])) rfl<|s1 (y_p rfl) rfl<|s1 (y_p rfl) rfl<|s1 (y_p rfl) rfl<|s1 (y_p rfl) rfl ?_
  refine at_op rfl (n_call false rfl (.cons (.pure pu) (.cons (.pure pu) (.cons (.pure pu) (.cons (.pure pu) (.cons (.pure pu) (.nil)))))) (Con.cast (lpub_ok x n iss ids S hx hi (by omega) hS1 hc (by omega)) (show _=epsA l by rw [hL])) pu (.inl rfl) rfl ?_)
  refine s1 (y_p rfl) rfl ?_
  refine at_nil<|x_tn<|at_seq ?_
  rcases len_zero_pos l.length with hcs|hcs
  ·have h0 := hcs
   refine at_region<|s1 (y_loadA0 ti23 rfl rfl (by rw [List.length_map,hx])) rfl<|s1 (y_p rfl) rfl ?_
   refine at_op rfl (n_call false rfl (.cons (.pure pu) (.cons (.pure pu) (.nil))) (Con.cast (root_ok x n hx) (rootA_eq ..)) pu (.inl rfl) rfl ?_)
   refine s1 (y_p rfl) rfl<|s1 (y_p rfl) rfl<|s1 (y_p rfl) rfl ?_
   refine at_op rfl (n_alloc 18 rfl ti23 rfl rfl ?_)
   refine at_op rfl (n_storeA ti23 rfl rfl rfl (by first|rfl|omega|(simp<;>omega)|(simp [*]<;>omega)) (by first|rfl|omega|(simp<;>omega)|(simp [*]<;>omega)) ?_)
   refine s1 (y_p rfl) rfl ?_
   refine at_nil<|x_tn<|at_seq<|at_seq<|at_region<|s1 (y_p rfl) rfl<|s1 (y_len Tryz.underlying24 rfl rfl rfl) rfl<|s1 ((y_p rfl).v (v':= .b true) (congrArg A.b (beq_iff_eq.2 (by omega)))) rfl ?_
   refine at_nil<|x_tn ?_
   refine at_then rfl ?_
   refine at_seq<|at_region<|s1 (y_p rfl) rfl ?_
   refine at_nil<|x_tn<|at_ret<|x_tr ?_
   refine at_result (rs:= [.tmp 16]) rfl (r_tmp rfl r_nil) ?_
   rfl
  ·have hlp := hcs
   have hsz:=hg.size (by intro h;rw [h]at hcs;exact absurd hcs (by simp))
   obtain⟨k,rfl,hk1,hk2⟩:=sizeK_nat hsz
   obtain⟨hr0,hrl⟩:=rem_len (X:=X) (n:=l.length) hlp (by omega)
   obtain⟨i,hie,hil⟩:∃i:Nat,(X % c64 l.length).toNat=i∧i<l.length:=⟨_,rfl,hrl⟩
   obtain⟨e,he⟩:∃e,l[i]? =some e:=⟨_,List.getElem?_eq_getElem hil⟩
   have hok:=hl e (List.mem_of_getElem? he)
   have hrn:=good_rng hg (List.mem_of_getElem? he)
   obtain⟨j,hj,hj32⟩:∃j,(bW bb).toNat % 32=j∧j<32:=⟨_,rfl,Nat.mod_lt _ (by decide)⟩
   have hik:i<k:=by have:=(form_len hg);omega
   refine at_region<|s1 (y_loadA0 ti23 rfl rfl (by rw [List.length_map,hx])) rfl<|s1 (y_p rfl) rfl ?_
   refine at_op rfl (n_call false rfl (.cons (.pure pu) (.cons (.pure pu) (.nil))) (Con.cast (root_ok x k hx) ((rootA_eq ..).trans (by rw [decide_eq_true hsz];rfl:_= .tu [.ag ((rootD x (k:Int)).map u8),.i .i64 0]))) pu (.inl rfl) rfl ?_)
   refine s1 (y_p rfl) rfl<|s1 (y_p rfl) rfl<|s1 (y_p rfl) rfl ?_
   refine at_op rfl (n_alloc 18 rfl ti23 rfl rfl ?_)
   refine at_op rfl (n_storeA ti23 rfl rfl rfl (by first|rfl|omega|(simp<;>omega)|(simp [*]<;>omega)) (by first|rfl|omega|(simp<;>omega)|(simp [*]<;>omega)) ?_)
   refine s1 (y_p rfl) rfl ?_
   refine at_nil<|x_tn<|at_seq<|at_seq<|at_region<|s1 (y_p rfl) rfl<|s1 (y_len Tryz.underlying24 rfl rfl rfl) rfl<|s1 ((y_p rfl).v (v':= .b false) (congrArg A.b (beq_eq_false_iff_ne.2 (by omega)))) rfl ?_
   refine at_nil<|x_tn ?_
   refine at_else rfl ?_
   refine at_skip<|x_tn<|at_seq<|at_region<|s1 (y_p rfl) rfl<|s1 (y_p rfl) rfl<|s1 (y_len Tryz.underlying24 rfl rfl rfl) rfl<|s1 (ofN_64 l.length Tryz.underlying3 Tryz.underlying74 rfl rfl) rfl<|s1 (rem64 _ _ rfl rfl hr0) rfl<|s1 ((y_conv Tryz.underlying74 Tryz.underlying3 rfl).v (v':=nJ i) (by rw [hie];exact congrArg (A.i .i64) (wrapI _ (by omega) (by omega)))) rfl<|s1 (y_p rfl) rfl ?_
   refine at_nil<|x_tn<|at_seq<|at_region ?_
   refine at_op rfl (n_bs 57 rfl Tryz.underlying24 ti45 rfl rfl rfl (by first|(simp [cellsA];done)|(simp [cellsA, *];done)) (show flatA []= []from rfl) rfl rfl rfl ?_)
   refine s1 (y_p rfl) rfl ?_
   refine at_op rfl (n_app 59 rfl Tryz.underlying24 ti45 rfl (.sl rfl (by simp)) rfl rfl (by rw [len_epsC hl]) (by simp only [maxLen];omega) (by omega) rfl (List.nil_append _) rfl ?_)
   refine s1 (y_p rfl) rfl ?_
   refine at_nil<|x_tn<|at_seq<|at_seq ?_
   refine at_say 21 rfl (v':= .sl 59 71 0 l.length) (congrArg (A.sl 59 71 0) (Nat.zero_add _)) ?_
   refine at_region<|s1 (y_p rfl) rfl<|s1 (remB fl 4 rfl rfl (by decide)) rfl ?_
   refine at_nil<|x_tn<|at_block<|at_seq<|at_region<|s1 (y_p rfl) rfl<|s1 (y_p rfl) rfl ?_
   refine at_nil<|x_tn ?_
   refine at_cond rfl (fun hc62=>?_) (fun hc62=>?_)
   ·skip
    refine at_region<|s1 (y_p rfl) rfl<|s1 (y_p rfl) rfl<|s1 (y_ixs i Tryz.underlying24 ti45 rfl rfl rfl rfl (by omega) (Nat.zero_add _)) rfl<|s1 (y_fld Tryz.underlying45 rfl ti3 (by decide) rfl rfl) rfl<|s1 (y_load ti3 rfl rfl (eps_at hl he (k:=2) rfl (by decide))) rfl<|s1 (y_p rfl) rfl<|s1 ((y_conv Tryz.underlying75 Tryz.underlying3 rfl).v (v':= .i .i64 bb) (congrArg (A.i .i64) (wrapI _ (by omega) (by omega)))) rfl<|s1 (addI rfl rfl (by omega) (by omega)) rfl<|s1 (y_ixs i Tryz.underlying24 ti45 rfl rfl rfl rfl (by omega) (Nat.zero_add _)) rfl<|s1 (y_fld Tryz.underlying45 rfl ti3 (by decide) rfl rfl) rfl ?_
    refine at_op rfl (n_store1 ti3 rfl rfl rfl rfl (by show i*71+2<_;rw [len_epsC hl];omega) (eps_set (e':=e.inDay (e.day+bb)) (j:=2) hl he rfl (by decide)) ?_)
    refine at_nil<|x_bn<|x_tn<|at_seq ?_
    obtain⟨y,hy⟩:∃y,y=l.set i (e.inDay (e.day+bb)):=⟨_,rfl⟩
    refine at_sayO 59 (cs':=epsC y) rfl (by rw [hy]) ?_
    have hyo:EpsOk y:=by rw [hy];exact epsOk_set hl (inDay_ok hok ⟨by omega,by omega⟩)
    have hyl:y.length=l.length:=by rw [hy];simp
    obtain⟨f,hf⟩:∃f,y[i]? =some f:=⟨_,List.getElem?_eq_getElem (by omega)⟩
    have hfo:=hyo f (List.mem_of_getElem? hf)
    refine at_frz 21 rfl rfl pul (view_eq (by rw [len_epsC hyo,hyl]) rfl) ?_
    refine at_say 21 rfl (v':=epsA y) (congrArg (fun n=>A.fz n (epsC y)) hyl.symm) ?_
    refine at_region<|s1 (y_loadA0 ti23 rfl rfl (by simp)) rfl<|s1 (y_p rfl) rfl<|s1 (y_p rfl) rfl ?_
    refine at_op rfl (n_call false rfl (.cons (.pure pu) (.cons (.pure pu) (.cons (.pure pu) (.nil)))) (eChk_ok (rootD x (k:Int)) k y (by simp) hyo (by simp only [maxLen];omega)) pu (.inl rfl) rfl ?_)
    refine s1 (y_p rfl) rfl ?_
    refine at_nil<|x_tn<|at_seq<|at_seq ?_
    rcases chk_three (rootD x (k:Int)) k y with hcs|hcs|hcs
    ·have hc0 := hcs
     refine at_region<|s1 (y_p rfl) rfl<|s1 ((y_p rfl).v (v':= .b false) (rfl)) rfl<|s1 (y_p rfl) rfl<|g1 rfl rfl (y_p rfl) rfl<|g1 rfl rfl ((y_p rfl).v (v':= .b true) (congrArg A.b (beq_iff_eq.2 hcs))) rfl<|s1 (y_p rfl) rfl ?_
     refine at_nil<|x_tn ?_
     refine at_then rfl ?_
     refine at_seq ?_
     rcases Decidable.em (digE f=digE e)with hcs|hcs
     ·skip
      refine at_fs ⟨_, [], []⟩ 20 4 hmix (le_refl rfl) ?_
      refine fs_q 0 [] [(8,none)] (y_loadA0 ti23 rfl rfl (by rw [List.length_map,hx])) rfl rfl ?_
      refine fs_q 1 [] [] (y_p rfl) rfl rfl ?_
      refine fs_q 2 [] [] (y_p rfl) rfl rfl ?_
      refine fs_q 3 [] [] (y_p rfl) rfl rfl ?_
      refine fs_call false 4 [2,3] [] gy0 rfl (.cons (.pure pu) (.cons (.pure pu) (.nil))) (ldigs_ok l k hl (by simp only [maxLen];omega) (by omega)) pu (.inl rfl) rfl rfl ?_
      refine fs_q 5 [] [] (y_p rfl) rfl rfl ?_
      refine fs_q 6 [] [] (y_p rfl) rfl rfl ?_
      refine fs_q 7 [5,6] [] (y_ixf i Tryz.underlying24 ti45 rfl rfl rfl (by omega) rfl) rfl rfl ?_
      refine fs_q 8 [7] [] (y_loadA ti45 rfl rfl (eps_get hyo hf) hfo.len) rfl rfl ?_
      refine fs_call false 9 [8] [] gy0 rfl (.cons (.pure pu) (.nil)) (edig_ok f hfo) pu (.inl rfl) rfl rfl ?_
      refine fs_q 10 [] [] (y_p rfl) rfl rfl ?_
      refine fs_q 11 [] [] (y_p rfl) rfl rfl ?_
      refine fs_q 12 [10,11] [] (y_ixf i Tryz.underlying24 ti45 rfl rfl rfl (by omega) rfl) rfl rfl ?_
      refine fs_q 13 [12] [] (y_fldf Tryz.underlying45 rfl ti43 (by decide) rfl rfl) rfl rfl ?_
      refine fs_q 14 [13] [] (y_loadA ti43 rfl rfl (eps_sgf hyo hf) rfl) rfl rfl ?_
      refine fs_call false 15 [0,1,4,9,14] [] gy0 rfl (.cons (.pure pu) (.cons (.pure pu) (.cons (.pure pu) (.cons (.pure pu) (.cons (.pure pu) (.nil)))))) (Con.cast (kforg_ok x (k:Int) (digsE l k) (digE f) f.sg.a f.sg.S f.sg.P hx (D32_digsE l k) (by simp;omega) (by simp) hfo.S hfo.P) (forgA_eq ..)) pu (.inl rfl) rfl rfl ?_
      refine fs_q 16 [15] [] (y_p rfl) rfl rfl ?_
      refine fs_q 17 [16] [] (y_p rfl) rfl rfl ?_
      refine fs_q 18 [16] [] (y_p rfl) rfl rfl ?_
      refine fs_q 19 [17] [] (y_p rfl) rfl rfl ?_
      refine fs_end (by kernel_rfl) ?_
      refine s1 (y_p rfl) rfl ?_
      refine at_nil<|x_tn<|at_seq ?_
      refine at_fs ⟨_, [], []⟩ 19 4 hmix (le_refl rfl) ?_
      refine fs_q 0 [] [] (y_p rfl) rfl rfl ?_
      refine fs_q 1 [0] [] ((y_p rfl).v (v':= .b true) (rfl)) rfl rfl ?_
      refine fs_q 2 [1] [] (y_p rfl) rfl rfl ?_
      refine fs_qg 3 [2] [] rfl rfl (y_p rfl) rfl rfl ?_
      refine fs_qg 4 [2] [] rfl rfl (y_p rfl) rfl rfl ?_
      refine fs_qg 5 [2,3,4] [] rfl rfl (y_ixf i Tryz.underlying24 ti45 rfl rfl rfl (by omega) rfl) rfl rfl ?_
      refine fs_qg 6 [2,5] [] rfl rfl (y_loadA ti45 rfl rfl (eps_get hyo hf) hfo.len) rfl rfl ?_
      refine fs_call false 7 [2,6] [] (gy1 rfl rfl) rfl (.cons (.pure pu) (.nil)) (edig_ok f hfo) pu (.inl rfl) rfl rfl ?_
      refine fs_qg 8 [2] [] rfl rfl (y_p rfl) rfl rfl ?_
      refine fs_qg 9 [2] [] rfl rfl (y_p rfl) rfl rfl ?_
      refine fs_qg 10 [2,8,9] [] rfl rfl (y_ixf i Tryz.underlying24 ti45 rfl rfl rfl (by omega) rfl) rfl rfl ?_
      refine fs_qg 11 [2,10] [] rfl rfl (y_loadA ti45 rfl rfl (eps_get hl he) hok.len) rfl rfl ?_
      refine fs_call false 12 [2,11] [] (gy1 rfl rfl) rfl (.cons (.pure pu) (.nil)) (edig_ok e hok) pu (.inl rfl) rfl rfl ?_
      refine fs_qg 13 [2,7,12] [] rfl rfl (((y_aq Tryz.underlying23 Tryz.underlying5 ti5 (by kernel_rfl) rfl rfl (by simp) (by simp))).v (v':= .b true) (congrArg A.b (beq_iff_eq.2 hcs))) rfl rfl ?_
      refine fs_qg 14 [2,13] [] rfl rfl (y_p rfl) rfl rfl ?_
      refine fs_q0 15 [14] rfl rfl rfl rfl rfl ?_
      refine fs_q0 16 [14,15] rfl rfl rfl rfl rfl ?_
      refine fs_qg 17 [2,14,16] [] rfl rfl (y_p rfl) rfl rfl ?_
      refine fs_q 18 [2,17] [] (y_p rfl) rfl rfl ?_
      refine fs_end (by kernel_rfl) ?_
      refine s1 (y_p rfl) rfl ?_
      refine at_nil<|x_tn<|at_ret<|x_tr ?_
      refine at_result (rs:= [.tmp 16]) rfl (r_tmp rfl r_nil) ?_
      rfl
     ·have hk0 := forg_at (l := l) hc0 hf hik (by rw [dgAt_is he]; exact hcs)
      refine at_fs ⟨_, [], []⟩ 20 4 hmix (le_refl rfl) ?_
      refine fs_q 0 [] [(8,none)] (y_loadA0 ti23 rfl rfl (by rw [List.length_map,hx])) rfl rfl ?_
      refine fs_q 1 [] [] (y_p rfl) rfl rfl ?_
      refine fs_q 2 [] [] (y_p rfl) rfl rfl ?_
      refine fs_q 3 [] [] (y_p rfl) rfl rfl ?_
      refine fs_call false 4 [2,3] [] gy0 rfl (.cons (.pure pu) (.cons (.pure pu) (.nil))) (ldigs_ok l k hl (by simp only [maxLen];omega) (by omega)) pu (.inl rfl) rfl rfl ?_
      refine fs_q 5 [] [] (y_p rfl) rfl rfl ?_
      refine fs_q 6 [] [] (y_p rfl) rfl rfl ?_
      refine fs_q 7 [5,6] [] (y_ixf i Tryz.underlying24 ti45 rfl rfl rfl (by omega) rfl) rfl rfl ?_
      refine fs_q 8 [7] [] (y_loadA ti45 rfl rfl (eps_get hyo hf) hfo.len) rfl rfl ?_
      refine fs_call false 9 [8] [] gy0 rfl (.cons (.pure pu) (.nil)) (edig_ok f hfo) pu (.inl rfl) rfl rfl ?_
      refine fs_q 10 [] [] (y_p rfl) rfl rfl ?_
      refine fs_q 11 [] [] (y_p rfl) rfl rfl ?_
      refine fs_q 12 [10,11] [] (y_ixf i Tryz.underlying24 ti45 rfl rfl rfl (by omega) rfl) rfl rfl ?_
      refine fs_q 13 [12] [] (y_fldf Tryz.underlying45 rfl ti43 (by decide) rfl rfl) rfl rfl ?_
      refine fs_q 14 [13] [] (y_loadA ti43 rfl rfl (eps_sgf hyo hf) rfl) rfl rfl ?_
      refine fs_call false 15 [0,1,4,9,14] [] gy0 rfl (.cons (.pure pu) (.cons (.pure pu) (.cons (.pure pu) (.cons (.pure pu) (.cons (.pure pu) (.nil)))))) (Con.cast (kforg_ok x (k:Int) (digsE l k) (digE f) f.sg.a f.sg.S f.sg.P hx (D32_digsE l k) (by simp;omega) (by simp) hfo.S hfo.P) (forgA_eq ..)) pu (.inl rfl) rfl rfl ?_
      refine fs_q 16 [15] [] (y_p rfl) rfl rfl ?_
      refine fs_q 17 [16] [] (y_p rfl) rfl rfl ?_
      refine fs_q 18 [16] [] (y_p rfl) rfl rfl ?_
      refine fs_q 19 [17] [] (y_p rfl) rfl rfl ?_
      refine fs_end (by kernel_rfl) ?_
      refine s1 (y_p rfl) rfl ?_
      refine at_nil<|x_tn<|at_seq ?_
      refine at_fs ⟨_, [], []⟩ 19 4 hmix (le_refl rfl) ?_
      refine fs_q 0 [] [] (y_p rfl) rfl rfl ?_
      refine fs_q 1 [0] [] ((y_p rfl).v (v':= .b true) (rfl)) rfl rfl ?_
      refine fs_q 2 [1] [] (y_p rfl) rfl rfl ?_
      refine fs_qg 3 [2] [] rfl rfl (y_p rfl) rfl rfl ?_
      refine fs_qg 4 [2] [] rfl rfl (y_p rfl) rfl rfl ?_
      refine fs_qg 5 [2,3,4] [] rfl rfl (y_ixf i Tryz.underlying24 ti45 rfl rfl rfl (by omega) rfl) rfl rfl ?_
      refine fs_qg 6 [2,5] [] rfl rfl (y_loadA ti45 rfl rfl (eps_get hyo hf) hfo.len) rfl rfl ?_
      refine fs_call false 7 [2,6] [] (gy1 rfl rfl) rfl (.cons (.pure pu) (.nil)) (edig_ok f hfo) pu (.inl rfl) rfl rfl ?_
      refine fs_qg 8 [2] [] rfl rfl (y_p rfl) rfl rfl ?_
      refine fs_qg 9 [2] [] rfl rfl (y_p rfl) rfl rfl ?_
      refine fs_qg 10 [2,8,9] [] rfl rfl (y_ixf i Tryz.underlying24 ti45 rfl rfl rfl (by omega) rfl) rfl rfl ?_
      refine fs_qg 11 [2,10] [] rfl rfl (y_loadA ti45 rfl rfl (eps_get hl he) hok.len) rfl rfl ?_
      refine fs_call false 12 [2,11] [] (gy1 rfl rfl) rfl (.cons (.pure pu) (.nil)) (edig_ok e hok) pu (.inl rfl) rfl rfl ?_
      refine fs_qg 13 [2,7,12] [] rfl rfl (((y_aq Tryz.underlying23 Tryz.underlying5 ti5 (by kernel_rfl) rfl rfl (by simp) (by simp))).v (v':= .b false) (congrArg A.b (beq_eq_false_iff_ne.2 hcs))) rfl rfl ?_
      refine fs_qg 14 [2,13] [] rfl rfl (y_p rfl) rfl rfl ?_
      refine fs_qg 15 [14] [] rfl rfl (y_p rfl) rfl rfl ?_
      refine fs_qg 16 [14,15] [] rfl rfl ((y_p rfl).v (v':= .b true) (congrArg A.b (bne_iff_ne.2 hk0))) rfl rfl ?_
      refine fs_qg 17 [2,14,16] [] rfl rfl (y_p rfl) rfl rfl ?_
      refine fs_q 18 [2,17] [] (y_p rfl) rfl rfl ?_
      refine fs_end (by kernel_rfl) ?_
      refine s1 (y_p rfl) rfl ?_
      refine at_nil<|x_tn<|at_ret<|x_tr ?_
      refine at_result (rs:= [.tmp 16]) rfl (r_tmp rfl r_nil) ?_
      rfl
    ·skip
     refine at_region<|s1 (y_p rfl) rfl<|s1 ((y_p rfl).v (v':= .b false) (rfl)) rfl<|s1 (y_p rfl) rfl<|g1 rfl rfl (y_p rfl) rfl<|g1 rfl rfl ((y_p rfl).v (v':= .b false) (congrArg A.b (by rw [hcs];rfl))) rfl<|s1 (y_p rfl) rfl ?_
     refine at_nil<|x_tn ?_
     refine at_else rfl ?_
     refine at_skip<|x_tn<|at_seq<|at_region<|s1 (y_p rfl) rfl<|s1 ((y_p rfl).v (v':= .b false) (congrArg A.b (by rw [hcs];rfl))) rfl<|s1 (y_p rfl) rfl<|g1 rfl rfl (y_p rfl) rfl<|g1 rfl rfl ((y_p rfl).v (v':= .b true) (congrArg A.b (by rw [hcs];rfl))) rfl<|s1 (y_p rfl) rfl<|s1 (y_p rfl) rfl ?_
     refine at_nil<|x_tn<|at_ret ?_
     refine at_result (rs:= [.tmp 16]) rfl (r_tmp rfl r_nil) ?_
     rfl
    ·skip
     refine at_region<|s1 (y_p rfl) rfl<|s1 ((y_p rfl).v (v':= .b false) (rfl)) rfl<|s1 (y_p rfl) rfl<|g1 rfl rfl (y_p rfl) rfl<|g1 rfl rfl ((y_p rfl).v (v':= .b false) (congrArg A.b (by rw [hcs];rfl))) rfl<|s1 (y_p rfl) rfl ?_
     refine at_nil<|x_tn ?_
     refine at_else rfl ?_
     refine at_skip<|x_tn<|at_seq<|at_region<|s1 (y_p rfl) rfl<|s1 ((y_p rfl).v (v':= .b true) (congrArg A.b (by rw [hcs];rfl))) rfl<|s1 (y_p rfl) rfl<|g0 rfl rfl rfl rfl<|g0 rfl rfl rfl rfl<|s1 (y_p rfl) rfl<|s1 (y_p rfl) rfl ?_
     refine at_nil<|x_tn<|at_ret ?_
     refine at_result (rs:= [.tmp 16]) rfl (r_tmp rfl r_nil) ?_
     rfl
   ·skip
    refine at_seq<|at_region<|s1 (y_p rfl) rfl<|s1 (y_p rfl) rfl ?_
    refine at_nil<|x_tn ?_
    refine at_cond rfl (fun hc74=>?_) (fun hc74=>?_)
    ·skip
     refine at_region<|s1 (y_p rfl) rfl<|s1 (y_p rfl) rfl<|s1 (y_ixs i Tryz.underlying24 ti45 rfl rfl rfl rfl (by omega) (Nat.zero_add _)) rfl<|s1 (y_fld Tryz.underlying45 rfl ti3 (by decide) rfl rfl) rfl<|s1 (y_load ti3 rfl rfl (eps_at hl he (k:=1) rfl (by decide))) rfl<|s1 (y_p rfl) rfl<|s1 ((y_conv Tryz.underlying75 Tryz.underlying3 rfl).v (v':= .i .i64 bb) (congrArg (A.i .i64) (wrapI _ (by omega) (by omega)))) rfl<|s1 (addI rfl rfl (by omega) (by omega)) rfl<|s1 (y_ixs i Tryz.underlying24 ti45 rfl rfl rfl rfl (by omega) (Nat.zero_add _)) rfl<|s1 (y_fld Tryz.underlying45 rfl ti3 (by decide) rfl rfl) rfl ?_
     refine at_op rfl (n_store1 ti3 rfl rfl rfl rfl (by show i*71+1<_;rw [len_epsC hl];omega) (eps_set (e':=e.inNo (e.no+bb)) (j:=1) hl he rfl (by decide)) ?_)
     refine at_nil<|x_bn<|x_tn<|at_seq ?_
     obtain⟨y,hy⟩:∃y,y=l.set i (e.inNo (e.no+bb)):=⟨_,rfl⟩
     refine at_sayO 59 (cs':=epsC y) rfl (by rw [hy]) ?_
     have hyo:EpsOk y:=by rw [hy];exact epsOk_set hl (inNo_ok hok ⟨by omega,by omega⟩)
     have hyl:y.length=l.length:=by rw [hy];simp
     obtain⟨f,hf⟩:∃f,y[i]? =some f:=⟨_,List.getElem?_eq_getElem (by omega)⟩
     have hfo:=hyo f (List.mem_of_getElem? hf)
     refine at_frz 21 rfl rfl pul (view_eq (by rw [len_epsC hyo,hyl]) rfl) ?_
     refine at_say 21 rfl (v':=epsA y) (congrArg (fun n=>A.fz n (epsC y)) hyl.symm) ?_
     refine at_region<|s1 (y_loadA0 ti23 rfl rfl (by simp)) rfl<|s1 (y_p rfl) rfl<|s1 (y_p rfl) rfl ?_
     refine at_op rfl (n_call false rfl (.cons (.pure pu) (.cons (.pure pu) (.cons (.pure pu) (.nil)))) (eChk_ok (rootD x (k:Int)) k y (by simp) hyo (by simp only [maxLen];omega)) pu (.inl rfl) rfl ?_)
     refine s1 (y_p rfl) rfl ?_
     refine at_nil<|x_tn<|at_seq<|at_seq ?_
     rcases chk_three (rootD x (k:Int)) k y with hcs|hcs|hcs
     ·have hc0 := hcs
      refine at_region<|s1 (y_p rfl) rfl<|s1 ((y_p rfl).v (v':= .b false) (rfl)) rfl<|s1 (y_p rfl) rfl<|g1 rfl rfl (y_p rfl) rfl<|g1 rfl rfl ((y_p rfl).v (v':= .b true) (congrArg A.b (beq_iff_eq.2 hcs))) rfl<|s1 (y_p rfl) rfl ?_
      refine at_nil<|x_tn ?_
      refine at_then rfl ?_
      refine at_seq ?_
      rcases Decidable.em (digE f=digE e)with hcs|hcs
      ·skip
       refine at_fs ⟨_, [], []⟩ 20 4 hmix (le_refl rfl) ?_
       refine fs_q 0 [] [(8,none)] (y_loadA0 ti23 rfl rfl (by rw [List.length_map,hx])) rfl rfl ?_
       refine fs_q 1 [] [] (y_p rfl) rfl rfl ?_
       refine fs_q 2 [] [] (y_p rfl) rfl rfl ?_
       refine fs_q 3 [] [] (y_p rfl) rfl rfl ?_
       refine fs_call false 4 [2,3] [] gy0 rfl (.cons (.pure pu) (.cons (.pure pu) (.nil))) (ldigs_ok l k hl (by simp only [maxLen];omega) (by omega)) pu (.inl rfl) rfl rfl ?_
       refine fs_q 5 [] [] (y_p rfl) rfl rfl ?_
       refine fs_q 6 [] [] (y_p rfl) rfl rfl ?_
       refine fs_q 7 [5,6] [] (y_ixf i Tryz.underlying24 ti45 rfl rfl rfl (by omega) rfl) rfl rfl ?_
       refine fs_q 8 [7] [] (y_loadA ti45 rfl rfl (eps_get hyo hf) hfo.len) rfl rfl ?_
       refine fs_call false 9 [8] [] gy0 rfl (.cons (.pure pu) (.nil)) (edig_ok f hfo) pu (.inl rfl) rfl rfl ?_
       refine fs_q 10 [] [] (y_p rfl) rfl rfl ?_
       refine fs_q 11 [] [] (y_p rfl) rfl rfl ?_
       refine fs_q 12 [10,11] [] (y_ixf i Tryz.underlying24 ti45 rfl rfl rfl (by omega) rfl) rfl rfl ?_
       refine fs_q 13 [12] [] (y_fldf Tryz.underlying45 rfl ti43 (by decide) rfl rfl) rfl rfl ?_
       refine fs_q 14 [13] [] (y_loadA ti43 rfl rfl (eps_sgf hyo hf) rfl) rfl rfl ?_
       refine fs_call false 15 [0,1,4,9,14] [] gy0 rfl (.cons (.pure pu) (.cons (.pure pu) (.cons (.pure pu) (.cons (.pure pu) (.cons (.pure pu) (.nil)))))) (Con.cast (kforg_ok x (k:Int) (digsE l k) (digE f) f.sg.a f.sg.S f.sg.P hx (D32_digsE l k) (by simp;omega) (by simp) hfo.S hfo.P) (forgA_eq ..)) pu (.inl rfl) rfl rfl ?_
       refine fs_q 16 [15] [] (y_p rfl) rfl rfl ?_
       refine fs_q 17 [16] [] (y_p rfl) rfl rfl ?_
       refine fs_q 18 [16] [] (y_p rfl) rfl rfl ?_
       refine fs_q 19 [17] [] (y_p rfl) rfl rfl ?_
       refine fs_end (by kernel_rfl) ?_
       refine s1 (y_p rfl) rfl ?_
       refine at_nil<|x_tn<|at_seq ?_
       refine at_fs ⟨_, [], []⟩ 19 4 hmix (le_refl rfl) ?_
       refine fs_q 0 [] [] (y_p rfl) rfl rfl ?_
       refine fs_q 1 [0] [] ((y_p rfl).v (v':= .b true) (rfl)) rfl rfl ?_
       refine fs_q 2 [1] [] (y_p rfl) rfl rfl ?_
       refine fs_qg 3 [2] [] rfl rfl (y_p rfl) rfl rfl ?_
       refine fs_qg 4 [2] [] rfl rfl (y_p rfl) rfl rfl ?_
       refine fs_qg 5 [2,3,4] [] rfl rfl (y_ixf i Tryz.underlying24 ti45 rfl rfl rfl (by omega) rfl) rfl rfl ?_
       refine fs_qg 6 [2,5] [] rfl rfl (y_loadA ti45 rfl rfl (eps_get hyo hf) hfo.len) rfl rfl ?_
       refine fs_call false 7 [2,6] [] (gy1 rfl rfl) rfl (.cons (.pure pu) (.nil)) (edig_ok f hfo) pu (.inl rfl) rfl rfl ?_
       refine fs_qg 8 [2] [] rfl rfl (y_p rfl) rfl rfl ?_
       refine fs_qg 9 [2] [] rfl rfl (y_p rfl) rfl rfl ?_
       refine fs_qg 10 [2,8,9] [] rfl rfl (y_ixf i Tryz.underlying24 ti45 rfl rfl rfl (by omega) rfl) rfl rfl ?_
       refine fs_qg 11 [2,10] [] rfl rfl (y_loadA ti45 rfl rfl (eps_get hl he) hok.len) rfl rfl ?_
       refine fs_call false 12 [2,11] [] (gy1 rfl rfl) rfl (.cons (.pure pu) (.nil)) (edig_ok e hok) pu (.inl rfl) rfl rfl ?_
       refine fs_qg 13 [2,7,12] [] rfl rfl (((y_aq Tryz.underlying23 Tryz.underlying5 ti5 (by kernel_rfl) rfl rfl (by simp) (by simp))).v (v':= .b true) (congrArg A.b (beq_iff_eq.2 hcs))) rfl rfl ?_
       refine fs_qg 14 [2,13] [] rfl rfl (y_p rfl) rfl rfl ?_
       refine fs_q0 15 [14] rfl rfl rfl rfl rfl ?_
       refine fs_q0 16 [14,15] rfl rfl rfl rfl rfl ?_
       refine fs_qg 17 [2,14,16] [] rfl rfl (y_p rfl) rfl rfl ?_
       refine fs_q 18 [2,17] [] (y_p rfl) rfl rfl ?_
       refine fs_end (by kernel_rfl) ?_
       refine s1 (y_p rfl) rfl ?_
       refine at_nil<|x_tn<|at_ret<|x_tr ?_
       refine at_result (rs:= [.tmp 16]) rfl (r_tmp rfl r_nil) ?_
       rfl
      ·have hk0 := forg_at (l := l) hc0 hf hik (by rw [dgAt_is he]; exact hcs)
       refine at_fs ⟨_, [], []⟩ 20 4 hmix (le_refl rfl) ?_
       refine fs_q 0 [] [(8,none)] (y_loadA0 ti23 rfl rfl (by rw [List.length_map,hx])) rfl rfl ?_
       refine fs_q 1 [] [] (y_p rfl) rfl rfl ?_
       refine fs_q 2 [] [] (y_p rfl) rfl rfl ?_
       refine fs_q 3 [] [] (y_p rfl) rfl rfl ?_
       refine fs_call false 4 [2,3] [] gy0 rfl (.cons (.pure pu) (.cons (.pure pu) (.nil))) (ldigs_ok l k hl (by simp only [maxLen];omega) (by omega)) pu (.inl rfl) rfl rfl ?_
       refine fs_q 5 [] [] (y_p rfl) rfl rfl ?_
       refine fs_q 6 [] [] (y_p rfl) rfl rfl ?_
       refine fs_q 7 [5,6] [] (y_ixf i Tryz.underlying24 ti45 rfl rfl rfl (by omega) rfl) rfl rfl ?_
       refine fs_q 8 [7] [] (y_loadA ti45 rfl rfl (eps_get hyo hf) hfo.len) rfl rfl ?_
       refine fs_call false 9 [8] [] gy0 rfl (.cons (.pure pu) (.nil)) (edig_ok f hfo) pu (.inl rfl) rfl rfl ?_
       refine fs_q 10 [] [] (y_p rfl) rfl rfl ?_
       refine fs_q 11 [] [] (y_p rfl) rfl rfl ?_
       refine fs_q 12 [10,11] [] (y_ixf i Tryz.underlying24 ti45 rfl rfl rfl (by omega) rfl) rfl rfl ?_
       refine fs_q 13 [12] [] (y_fldf Tryz.underlying45 rfl ti43 (by decide) rfl rfl) rfl rfl ?_
       refine fs_q 14 [13] [] (y_loadA ti43 rfl rfl (eps_sgf hyo hf) rfl) rfl rfl ?_
       refine fs_call false 15 [0,1,4,9,14] [] gy0 rfl (.cons (.pure pu) (.cons (.pure pu) (.cons (.pure pu) (.cons (.pure pu) (.cons (.pure pu) (.nil)))))) (Con.cast (kforg_ok x (k:Int) (digsE l k) (digE f) f.sg.a f.sg.S f.sg.P hx (D32_digsE l k) (by simp;omega) (by simp) hfo.S hfo.P) (forgA_eq ..)) pu (.inl rfl) rfl rfl ?_
       refine fs_q 16 [15] [] (y_p rfl) rfl rfl ?_
       refine fs_q 17 [16] [] (y_p rfl) rfl rfl ?_
       refine fs_q 18 [16] [] (y_p rfl) rfl rfl ?_
       refine fs_q 19 [17] [] (y_p rfl) rfl rfl ?_
       refine fs_end (by kernel_rfl) ?_
       refine s1 (y_p rfl) rfl ?_
       refine at_nil<|x_tn<|at_seq ?_
       refine at_fs ⟨_, [], []⟩ 19 4 hmix (le_refl rfl) ?_
       refine fs_q 0 [] [] (y_p rfl) rfl rfl ?_
       refine fs_q 1 [0] [] ((y_p rfl).v (v':= .b true) (rfl)) rfl rfl ?_
       refine fs_q 2 [1] [] (y_p rfl) rfl rfl ?_
       refine fs_qg 3 [2] [] rfl rfl (y_p rfl) rfl rfl ?_
       refine fs_qg 4 [2] [] rfl rfl (y_p rfl) rfl rfl ?_
       refine fs_qg 5 [2,3,4] [] rfl rfl (y_ixf i Tryz.underlying24 ti45 rfl rfl rfl (by omega) rfl) rfl rfl ?_
       refine fs_qg 6 [2,5] [] rfl rfl (y_loadA ti45 rfl rfl (eps_get hyo hf) hfo.len) rfl rfl ?_
       refine fs_call false 7 [2,6] [] (gy1 rfl rfl) rfl (.cons (.pure pu) (.nil)) (edig_ok f hfo) pu (.inl rfl) rfl rfl ?_
       refine fs_qg 8 [2] [] rfl rfl (y_p rfl) rfl rfl ?_
       refine fs_qg 9 [2] [] rfl rfl (y_p rfl) rfl rfl ?_
       refine fs_qg 10 [2,8,9] [] rfl rfl (y_ixf i Tryz.underlying24 ti45 rfl rfl rfl (by omega) rfl) rfl rfl ?_
       refine fs_qg 11 [2,10] [] rfl rfl (y_loadA ti45 rfl rfl (eps_get hl he) hok.len) rfl rfl ?_
       refine fs_call false 12 [2,11] [] (gy1 rfl rfl) rfl (.cons (.pure pu) (.nil)) (edig_ok e hok) pu (.inl rfl) rfl rfl ?_
       refine fs_qg 13 [2,7,12] [] rfl rfl (((y_aq Tryz.underlying23 Tryz.underlying5 ti5 (by kernel_rfl) rfl rfl (by simp) (by simp))).v (v':= .b false) (congrArg A.b (beq_eq_false_iff_ne.2 hcs))) rfl rfl ?_
       refine fs_qg 14 [2,13] [] rfl rfl (y_p rfl) rfl rfl ?_
       refine fs_qg 15 [14] [] rfl rfl (y_p rfl) rfl rfl ?_
       refine fs_qg 16 [14,15] [] rfl rfl ((y_p rfl).v (v':= .b true) (congrArg A.b (bne_iff_ne.2 hk0))) rfl rfl ?_
       refine fs_qg 17 [2,14,16] [] rfl rfl (y_p rfl) rfl rfl ?_
       refine fs_q 18 [2,17] [] (y_p rfl) rfl rfl ?_
       refine fs_end (by kernel_rfl) ?_
       refine s1 (y_p rfl) rfl ?_
       refine at_nil<|x_tn<|at_ret<|x_tr ?_
       refine at_result (rs:= [.tmp 16]) rfl (r_tmp rfl r_nil) ?_
       rfl
     ·skip
      refine at_region<|s1 (y_p rfl) rfl<|s1 ((y_p rfl).v (v':= .b false) (rfl)) rfl<|s1 (y_p rfl) rfl<|g1 rfl rfl (y_p rfl) rfl<|g1 rfl rfl ((y_p rfl).v (v':= .b false) (congrArg A.b (by rw [hcs];rfl))) rfl<|s1 (y_p rfl) rfl ?_
      refine at_nil<|x_tn ?_
      refine at_else rfl ?_
      refine at_skip<|x_tn<|at_seq<|at_region<|s1 (y_p rfl) rfl<|s1 ((y_p rfl).v (v':= .b false) (congrArg A.b (by rw [hcs];rfl))) rfl<|s1 (y_p rfl) rfl<|g1 rfl rfl (y_p rfl) rfl<|g1 rfl rfl ((y_p rfl).v (v':= .b true) (congrArg A.b (by rw [hcs];rfl))) rfl<|s1 (y_p rfl) rfl<|s1 (y_p rfl) rfl ?_
      refine at_nil<|x_tn<|at_ret ?_
      refine at_result (rs:= [.tmp 16]) rfl (r_tmp rfl r_nil) ?_
      rfl
     ·skip
      refine at_region<|s1 (y_p rfl) rfl<|s1 ((y_p rfl).v (v':= .b false) (rfl)) rfl<|s1 (y_p rfl) rfl<|g1 rfl rfl (y_p rfl) rfl<|g1 rfl rfl ((y_p rfl).v (v':= .b false) (congrArg A.b (by rw [hcs];rfl))) rfl<|s1 (y_p rfl) rfl ?_
      refine at_nil<|x_tn ?_
      refine at_else rfl ?_
      refine at_skip<|x_tn<|at_seq<|at_region<|s1 (y_p rfl) rfl<|s1 ((y_p rfl).v (v':= .b true) (congrArg A.b (by rw [hcs];rfl))) rfl<|s1 (y_p rfl) rfl<|g0 rfl rfl rfl rfl<|g0 rfl rfl rfl rfl<|s1 (y_p rfl) rfl<|s1 (y_p rfl) rfl ?_
      refine at_nil<|x_tn<|at_ret ?_
      refine at_result (rs:= [.tmp 16]) rfl (r_tmp rfl r_nil) ?_
      rfl
    ·skip
     refine at_seq<|at_region<|s1 (y_p rfl) rfl<|s1 (y_p rfl) rfl ?_
     refine at_nil<|x_tn ?_
     refine at_cond rfl (fun hc86=>?_) (fun hc86=>?_)
     ·obtain ⟨b, hb⟩ : ∃ b, e.cas[j]? = some b := ⟨_, List.getElem?_eq_getElem (by rw [hok.cas]; exact hj32)⟩
      refine at_draw_tail 14 hmix (by kernel_rfl) ?_
      refine t1 (y_p rfl) rfl<|t1 (y_p rfl) rfl<|t1 (y_p rfl) rfl<|t1 ((y_conv Tryz.underlying75 Tryz.underlying5 rfl).v (bW_eq bb)) rfl<|t1 ((y_conv Tryz.underlying5 Tryz.underlying3 rfl).v (conv8J _)) rfl<|t1 ((remN (bW bb).toNat 32 rfl rfl rfl rfl (by decide)).v (v':=nJ j) (congrArg nJ hj)) rfl<|t1 (y_ixs i Tryz.underlying24 ti45 rfl rfl rfl rfl (by omega) (Nat.zero_add _)) rfl<|t1 (y_fld Tryz.underlying45 rfl ti23 (by decide) rfl rfl) rfl<|t1 (y_ixa j Tryz.underlying23 ti5 rfl rfl rfl (by omega) (show i*71+4+j*1=i*71+(4+j) by omega)) rfl<|t1 (y_load ti5 rfl rfl (eps_at hl he (ep_cas_at hok hb) (by omega))) rfl ?_
      refine t1 (xorB b 1 rfl rfl) rfl<|t1 (y_ixs i Tryz.underlying24 ti45 rfl rfl rfl rfl (by omega) (Nat.zero_add _)) rfl<|t1 (y_fld Tryz.underlying45 rfl ti23 (by decide) rfl rfl) rfl<|t1 (y_ixa j Tryz.underlying23 ti5 rfl rfl rfl (by omega) (show i*71+4+j*1=i*71+(4+j) by omega)) rfl ?_
      refine at_snil ?_
      refine at_op rfl (n_store1 ti5 rfl rfl rfl rfl (by show i*71+(4+j)<_;rw [len_epsC hl];omega) (eps_set hl he (inCas_cells hok hj32) (by omega)) ?_)
      refine at_nil<|x_bn<|x_tn<|at_seq ?_
      obtain⟨y,hy⟩:∃y,y=l.set i (e.inCas j (b ^^^ 1)):=⟨_,rfl⟩
      refine at_sayO 59 (cs':=epsC y) rfl (by rw [hy]) ?_
      have hyo:EpsOk y:=by rw [hy];exact epsOk_set hl (inCas_ok hok _ _)
      have hyl:y.length=l.length:=by rw [hy];simp
      obtain⟨f,hf⟩:∃f,y[i]? =some f:=⟨_,List.getElem?_eq_getElem (by omega)⟩
      have hfo:=hyo f (List.mem_of_getElem? hf)
      refine at_frz 21 rfl rfl pul (view_eq (by rw [len_epsC hyo,hyl]) rfl) ?_
      refine at_say 21 rfl (v':=epsA y) (congrArg (fun n=>A.fz n (epsC y)) hyl.symm) ?_
      refine at_region<|s1 (y_loadA0 ti23 rfl rfl (by simp)) rfl<|s1 (y_p rfl) rfl<|s1 (y_p rfl) rfl ?_
      refine at_op rfl (n_call false rfl (.cons (.pure pu) (.cons (.pure pu) (.cons (.pure pu) (.nil)))) (eChk_ok (rootD x (k:Int)) k y (by simp) hyo (by simp only [maxLen];omega)) pu (.inl rfl) rfl ?_)
      refine s1 (y_p rfl) rfl ?_
      refine at_nil<|x_tn<|at_seq<|at_seq ?_
      rcases chk_three (rootD x (k:Int)) k y with hcs|hcs|hcs
      ·have hc0 := hcs
       refine at_region<|s1 (y_p rfl) rfl<|s1 ((y_p rfl).v (v':= .b false) (rfl)) rfl<|s1 (y_p rfl) rfl<|g1 rfl rfl (y_p rfl) rfl<|g1 rfl rfl ((y_p rfl).v (v':= .b true) (congrArg A.b (beq_iff_eq.2 hcs))) rfl<|s1 (y_p rfl) rfl ?_
       refine at_nil<|x_tn ?_
       refine at_then rfl ?_
       refine at_seq ?_
       rcases Decidable.em (digE f=digE e)with hcs|hcs
       ·skip
        refine at_fs ⟨_, [], []⟩ 20 4 hmix (le_refl rfl) ?_
        refine fs_q 0 [] [(8,none)] (y_loadA0 ti23 rfl rfl (by rw [List.length_map,hx])) rfl rfl ?_
        refine fs_q 1 [] [] (y_p rfl) rfl rfl ?_
        refine fs_q 2 [] [] (y_p rfl) rfl rfl ?_
        refine fs_q 3 [] [] (y_p rfl) rfl rfl ?_
        refine fs_call false 4 [2,3] [] gy0 rfl (.cons (.pure pu) (.cons (.pure pu) (.nil))) (ldigs_ok l k hl (by simp only [maxLen];omega) (by omega)) pu (.inl rfl) rfl rfl ?_
        refine fs_q 5 [] [] (y_p rfl) rfl rfl ?_
        refine fs_q 6 [] [] (y_p rfl) rfl rfl ?_
        refine fs_q 7 [5,6] [] (y_ixf i Tryz.underlying24 ti45 rfl rfl rfl (by omega) rfl) rfl rfl ?_
        refine fs_q 8 [7] [] (y_loadA ti45 rfl rfl (eps_get hyo hf) hfo.len) rfl rfl ?_
        refine fs_call false 9 [8] [] gy0 rfl (.cons (.pure pu) (.nil)) (edig_ok f hfo) pu (.inl rfl) rfl rfl ?_
        refine fs_q 10 [] [] (y_p rfl) rfl rfl ?_
        refine fs_q 11 [] [] (y_p rfl) rfl rfl ?_
        refine fs_q 12 [10,11] [] (y_ixf i Tryz.underlying24 ti45 rfl rfl rfl (by omega) rfl) rfl rfl ?_
        refine fs_q 13 [12] [] (y_fldf Tryz.underlying45 rfl ti43 (by decide) rfl rfl) rfl rfl ?_
        refine fs_q 14 [13] [] (y_loadA ti43 rfl rfl (eps_sgf hyo hf) rfl) rfl rfl ?_
        refine fs_call false 15 [0,1,4,9,14] [] gy0 rfl (.cons (.pure pu) (.cons (.pure pu) (.cons (.pure pu) (.cons (.pure pu) (.cons (.pure pu) (.nil)))))) (Con.cast (kforg_ok x (k:Int) (digsE l k) (digE f) f.sg.a f.sg.S f.sg.P hx (D32_digsE l k) (by simp;omega) (by simp) hfo.S hfo.P) (forgA_eq ..)) pu (.inl rfl) rfl rfl ?_
        refine fs_q 16 [15] [] (y_p rfl) rfl rfl ?_
        refine fs_q 17 [16] [] (y_p rfl) rfl rfl ?_
        refine fs_q 18 [16] [] (y_p rfl) rfl rfl ?_
        refine fs_q 19 [17] [] (y_p rfl) rfl rfl ?_
        refine fs_end (by kernel_rfl) ?_
        refine s1 (y_p rfl) rfl ?_
        refine at_nil<|x_tn<|at_seq ?_
        refine at_fs ⟨_, [], []⟩ 19 4 hmix (le_refl rfl) ?_
        refine fs_q 0 [] [] (y_p rfl) rfl rfl ?_
        refine fs_q 1 [0] [] ((y_p rfl).v (v':= .b true) (rfl)) rfl rfl ?_
        refine fs_q 2 [1] [] (y_p rfl) rfl rfl ?_
        refine fs_qg 3 [2] [] rfl rfl (y_p rfl) rfl rfl ?_
        refine fs_qg 4 [2] [] rfl rfl (y_p rfl) rfl rfl ?_
        refine fs_qg 5 [2,3,4] [] rfl rfl (y_ixf i Tryz.underlying24 ti45 rfl rfl rfl (by omega) rfl) rfl rfl ?_
        refine fs_qg 6 [2,5] [] rfl rfl (y_loadA ti45 rfl rfl (eps_get hyo hf) hfo.len) rfl rfl ?_
        refine fs_call false 7 [2,6] [] (gy1 rfl rfl) rfl (.cons (.pure pu) (.nil)) (edig_ok f hfo) pu (.inl rfl) rfl rfl ?_
        refine fs_qg 8 [2] [] rfl rfl (y_p rfl) rfl rfl ?_
        refine fs_qg 9 [2] [] rfl rfl (y_p rfl) rfl rfl ?_
        refine fs_qg 10 [2,8,9] [] rfl rfl (y_ixf i Tryz.underlying24 ti45 rfl rfl rfl (by omega) rfl) rfl rfl ?_
        refine fs_qg 11 [2,10] [] rfl rfl (y_loadA ti45 rfl rfl (eps_get hl he) hok.len) rfl rfl ?_
        refine fs_call false 12 [2,11] [] (gy1 rfl rfl) rfl (.cons (.pure pu) (.nil)) (edig_ok e hok) pu (.inl rfl) rfl rfl ?_
        refine fs_qg 13 [2,7,12] [] rfl rfl (((y_aq Tryz.underlying23 Tryz.underlying5 ti5 (by kernel_rfl) rfl rfl (by simp) (by simp))).v (v':= .b true) (congrArg A.b (beq_iff_eq.2 hcs))) rfl rfl ?_
        refine fs_qg 14 [2,13] [] rfl rfl (y_p rfl) rfl rfl ?_
        refine fs_q0 15 [14] rfl rfl rfl rfl rfl ?_
        refine fs_q0 16 [14,15] rfl rfl rfl rfl rfl ?_
        refine fs_qg 17 [2,14,16] [] rfl rfl (y_p rfl) rfl rfl ?_
        refine fs_q 18 [2,17] [] (y_p rfl) rfl rfl ?_
        refine fs_end (by kernel_rfl) ?_
        refine s1 (y_p rfl) rfl ?_
        refine at_nil<|x_tn<|at_ret<|x_tr ?_
        refine at_result (rs:= [.tmp 16]) rfl (r_tmp rfl r_nil) ?_
        rfl
       ·have hk0 := forg_at (l := l) hc0 hf hik (by rw [dgAt_is he]; exact hcs)
        refine at_fs ⟨_, [], []⟩ 20 4 hmix (le_refl rfl) ?_
        refine fs_q 0 [] [(8,none)] (y_loadA0 ti23 rfl rfl (by rw [List.length_map,hx])) rfl rfl ?_
        refine fs_q 1 [] [] (y_p rfl) rfl rfl ?_
        refine fs_q 2 [] [] (y_p rfl) rfl rfl ?_
        refine fs_q 3 [] [] (y_p rfl) rfl rfl ?_
        refine fs_call false 4 [2,3] [] gy0 rfl (.cons (.pure pu) (.cons (.pure pu) (.nil))) (ldigs_ok l k hl (by simp only [maxLen];omega) (by omega)) pu (.inl rfl) rfl rfl ?_
        refine fs_q 5 [] [] (y_p rfl) rfl rfl ?_
        refine fs_q 6 [] [] (y_p rfl) rfl rfl ?_
        refine fs_q 7 [5,6] [] (y_ixf i Tryz.underlying24 ti45 rfl rfl rfl (by omega) rfl) rfl rfl ?_
        refine fs_q 8 [7] [] (y_loadA ti45 rfl rfl (eps_get hyo hf) hfo.len) rfl rfl ?_
        refine fs_call false 9 [8] [] gy0 rfl (.cons (.pure pu) (.nil)) (edig_ok f hfo) pu (.inl rfl) rfl rfl ?_
        refine fs_q 10 [] [] (y_p rfl) rfl rfl ?_
        refine fs_q 11 [] [] (y_p rfl) rfl rfl ?_
        refine fs_q 12 [10,11] [] (y_ixf i Tryz.underlying24 ti45 rfl rfl rfl (by omega) rfl) rfl rfl ?_
        refine fs_q 13 [12] [] (y_fldf Tryz.underlying45 rfl ti43 (by decide) rfl rfl) rfl rfl ?_
        refine fs_q 14 [13] [] (y_loadA ti43 rfl rfl (eps_sgf hyo hf) rfl) rfl rfl ?_
        refine fs_call false 15 [0,1,4,9,14] [] gy0 rfl (.cons (.pure pu) (.cons (.pure pu) (.cons (.pure pu) (.cons (.pure pu) (.cons (.pure pu) (.nil)))))) (Con.cast (kforg_ok x (k:Int) (digsE l k) (digE f) f.sg.a f.sg.S f.sg.P hx (D32_digsE l k) (by simp;omega) (by simp) hfo.S hfo.P) (forgA_eq ..)) pu (.inl rfl) rfl rfl ?_
        refine fs_q 16 [15] [] (y_p rfl) rfl rfl ?_
        refine fs_q 17 [16] [] (y_p rfl) rfl rfl ?_
        refine fs_q 18 [16] [] (y_p rfl) rfl rfl ?_
        refine fs_q 19 [17] [] (y_p rfl) rfl rfl ?_
        refine fs_end (by kernel_rfl) ?_
        refine s1 (y_p rfl) rfl ?_
        refine at_nil<|x_tn<|at_seq ?_
        refine at_fs ⟨_, [], []⟩ 19 4 hmix (le_refl rfl) ?_
        refine fs_q 0 [] [] (y_p rfl) rfl rfl ?_
        refine fs_q 1 [0] [] ((y_p rfl).v (v':= .b true) (rfl)) rfl rfl ?_
        refine fs_q 2 [1] [] (y_p rfl) rfl rfl ?_
        refine fs_qg 3 [2] [] rfl rfl (y_p rfl) rfl rfl ?_
        refine fs_qg 4 [2] [] rfl rfl (y_p rfl) rfl rfl ?_
        refine fs_qg 5 [2,3,4] [] rfl rfl (y_ixf i Tryz.underlying24 ti45 rfl rfl rfl (by omega) rfl) rfl rfl ?_
        refine fs_qg 6 [2,5] [] rfl rfl (y_loadA ti45 rfl rfl (eps_get hyo hf) hfo.len) rfl rfl ?_
        refine fs_call false 7 [2,6] [] (gy1 rfl rfl) rfl (.cons (.pure pu) (.nil)) (edig_ok f hfo) pu (.inl rfl) rfl rfl ?_
        refine fs_qg 8 [2] [] rfl rfl (y_p rfl) rfl rfl ?_
        refine fs_qg 9 [2] [] rfl rfl (y_p rfl) rfl rfl ?_
        refine fs_qg 10 [2,8,9] [] rfl rfl (y_ixf i Tryz.underlying24 ti45 rfl rfl rfl (by omega) rfl) rfl rfl ?_
        refine fs_qg 11 [2,10] [] rfl rfl (y_loadA ti45 rfl rfl (eps_get hl he) hok.len) rfl rfl ?_
        refine fs_call false 12 [2,11] [] (gy1 rfl rfl) rfl (.cons (.pure pu) (.nil)) (edig_ok e hok) pu (.inl rfl) rfl rfl ?_
        refine fs_qg 13 [2,7,12] [] rfl rfl (((y_aq Tryz.underlying23 Tryz.underlying5 ti5 (by kernel_rfl) rfl rfl (by simp) (by simp))).v (v':= .b false) (congrArg A.b (beq_eq_false_iff_ne.2 hcs))) rfl rfl ?_
        refine fs_qg 14 [2,13] [] rfl rfl (y_p rfl) rfl rfl ?_
        refine fs_qg 15 [14] [] rfl rfl (y_p rfl) rfl rfl ?_
        refine fs_qg 16 [14,15] [] rfl rfl ((y_p rfl).v (v':= .b true) (congrArg A.b (bne_iff_ne.2 hk0))) rfl rfl ?_
        refine fs_qg 17 [2,14,16] [] rfl rfl (y_p rfl) rfl rfl ?_
        refine fs_q 18 [2,17] [] (y_p rfl) rfl rfl ?_
        refine fs_end (by kernel_rfl) ?_
        refine s1 (y_p rfl) rfl ?_
        refine at_nil<|x_tn<|at_ret<|x_tr ?_
        refine at_result (rs:= [.tmp 16]) rfl (r_tmp rfl r_nil) ?_
        rfl
      ·skip
       refine at_region<|s1 (y_p rfl) rfl<|s1 ((y_p rfl).v (v':= .b false) (rfl)) rfl<|s1 (y_p rfl) rfl<|g1 rfl rfl (y_p rfl) rfl<|g1 rfl rfl ((y_p rfl).v (v':= .b false) (congrArg A.b (by rw [hcs];rfl))) rfl<|s1 (y_p rfl) rfl ?_
       refine at_nil<|x_tn ?_
       refine at_else rfl ?_
       refine at_skip<|x_tn<|at_seq<|at_region<|s1 (y_p rfl) rfl<|s1 ((y_p rfl).v (v':= .b false) (congrArg A.b (by rw [hcs];rfl))) rfl<|s1 (y_p rfl) rfl<|g1 rfl rfl (y_p rfl) rfl<|g1 rfl rfl ((y_p rfl).v (v':= .b true) (congrArg A.b (by rw [hcs];rfl))) rfl<|s1 (y_p rfl) rfl<|s1 (y_p rfl) rfl ?_
       refine at_nil<|x_tn<|at_ret ?_
       refine at_result (rs:= [.tmp 16]) rfl (r_tmp rfl r_nil) ?_
       rfl
      ·skip
       refine at_region<|s1 (y_p rfl) rfl<|s1 ((y_p rfl).v (v':= .b false) (rfl)) rfl<|s1 (y_p rfl) rfl<|g1 rfl rfl (y_p rfl) rfl<|g1 rfl rfl ((y_p rfl).v (v':= .b false) (congrArg A.b (by rw [hcs];rfl))) rfl<|s1 (y_p rfl) rfl ?_
       refine at_nil<|x_tn ?_
       refine at_else rfl ?_
       refine at_skip<|x_tn<|at_seq<|at_region<|s1 (y_p rfl) rfl<|s1 ((y_p rfl).v (v':= .b true) (congrArg A.b (by rw [hcs];rfl))) rfl<|s1 (y_p rfl) rfl<|g0 rfl rfl rfl rfl<|g0 rfl rfl rfl rfl<|s1 (y_p rfl) rfl<|s1 (y_p rfl) rfl ?_
       refine at_nil<|x_tn<|at_ret ?_
       refine at_result (rs:= [.tmp 16]) rfl (r_tmp rfl r_nil) ?_
       rfl
     ·skip
      refine at_seq<|at_region<|s1 (y_p rfl) rfl<|s1 (y_p rfl) rfl ?_
      refine at_nil<|x_tn ?_
      refine at_cond rfl (fun hc102=>?_) (fun hc102=>?_)
      ·obtain ⟨b, hb⟩ : ∃ b, e.prev[j]? = some b := ⟨_, List.getElem?_eq_getElem (by rw [hok.prev]; exact hj32)⟩
       refine at_draw_tail 14 hmix (by kernel_rfl) ?_
       refine t1 (y_p rfl) rfl<|t1 (y_p rfl) rfl<|t1 (y_p rfl) rfl<|t1 ((y_conv Tryz.underlying75 Tryz.underlying5 rfl).v (bW_eq bb)) rfl<|t1 ((y_conv Tryz.underlying5 Tryz.underlying3 rfl).v (conv8J _)) rfl<|t1 ((remN (bW bb).toNat 32 rfl rfl rfl rfl (by decide)).v (v':=nJ j) (congrArg nJ hj)) rfl<|t1 (y_ixs i Tryz.underlying24 ti45 rfl rfl rfl rfl (by omega) (Nat.zero_add _)) rfl<|t1 (y_fld Tryz.underlying45 rfl ti23 (by decide) rfl rfl) rfl<|t1 (y_ixa j Tryz.underlying23 ti5 rfl rfl rfl (by omega) (show i*71+36+j*1=i*71+(36+j) by omega)) rfl<|t1 (y_load ti5 rfl rfl (eps_at hl he (ep_prev_at hok hb) (by omega))) rfl ?_
       refine t1 (xorB b 1 rfl rfl) rfl<|t1 (y_ixs i Tryz.underlying24 ti45 rfl rfl rfl rfl (by omega) (Nat.zero_add _)) rfl<|t1 (y_fld Tryz.underlying45 rfl ti23 (by decide) rfl rfl) rfl<|t1 (y_ixa j Tryz.underlying23 ti5 rfl rfl rfl (by omega) (show i*71+36+j*1=i*71+(36+j) by omega)) rfl ?_
       refine at_snil ?_
       refine at_op rfl (n_store1 ti5 rfl rfl rfl rfl (by show i*71+(36+j)<_;rw [len_epsC hl];omega) (eps_set hl he (inPrev_cells hok hj32) (by omega)) ?_)
       refine at_nil<|x_bn<|x_tn<|at_seq ?_
       obtain⟨y,hy⟩:∃y,y=l.set i (e.inPrev j (b ^^^ 1)):=⟨_,rfl⟩
       refine at_sayO 59 (cs':=epsC y) rfl (by rw [hy]) ?_
       have hyo:EpsOk y:=by rw [hy];exact epsOk_set hl (inPrev_ok hok _ _)
       have hyl:y.length=l.length:=by rw [hy];simp
       obtain⟨f,hf⟩:∃f,y[i]? =some f:=⟨_,List.getElem?_eq_getElem (by omega)⟩
       have hfo:=hyo f (List.mem_of_getElem? hf)
       refine at_frz 21 rfl rfl pul (view_eq (by rw [len_epsC hyo,hyl]) rfl) ?_
       refine at_say 21 rfl (v':=epsA y) (congrArg (fun n=>A.fz n (epsC y)) hyl.symm) ?_
       refine at_region<|s1 (y_loadA0 ti23 rfl rfl (by simp)) rfl<|s1 (y_p rfl) rfl<|s1 (y_p rfl) rfl ?_
       refine at_op rfl (n_call false rfl (.cons (.pure pu) (.cons (.pure pu) (.cons (.pure pu) (.nil)))) (eChk_ok (rootD x (k:Int)) k y (by simp) hyo (by simp only [maxLen];omega)) pu (.inl rfl) rfl ?_)
       refine s1 (y_p rfl) rfl ?_
       refine at_nil<|x_tn<|at_seq<|at_seq ?_
       rcases chk_three (rootD x (k:Int)) k y with hcs|hcs|hcs
       ·have hc0 := hcs
        refine at_region<|s1 (y_p rfl) rfl<|s1 ((y_p rfl).v (v':= .b false) (rfl)) rfl<|s1 (y_p rfl) rfl<|g1 rfl rfl (y_p rfl) rfl<|g1 rfl rfl ((y_p rfl).v (v':= .b true) (congrArg A.b (beq_iff_eq.2 hcs))) rfl<|s1 (y_p rfl) rfl ?_
        refine at_nil<|x_tn ?_
        refine at_then rfl ?_
        refine at_seq ?_
        rcases Decidable.em (digE f=digE e)with hcs|hcs
        ·skip
         refine at_fs ⟨_, [], []⟩ 20 4 hmix (le_refl rfl) ?_
         refine fs_q 0 [] [(8,none)] (y_loadA0 ti23 rfl rfl (by rw [List.length_map,hx])) rfl rfl ?_
         refine fs_q 1 [] [] (y_p rfl) rfl rfl ?_
         refine fs_q 2 [] [] (y_p rfl) rfl rfl ?_
         refine fs_q 3 [] [] (y_p rfl) rfl rfl ?_
         refine fs_call false 4 [2,3] [] gy0 rfl (.cons (.pure pu) (.cons (.pure pu) (.nil))) (ldigs_ok l k hl (by simp only [maxLen];omega) (by omega)) pu (.inl rfl) rfl rfl ?_
         refine fs_q 5 [] [] (y_p rfl) rfl rfl ?_
         refine fs_q 6 [] [] (y_p rfl) rfl rfl ?_
         refine fs_q 7 [5,6] [] (y_ixf i Tryz.underlying24 ti45 rfl rfl rfl (by omega) rfl) rfl rfl ?_
         refine fs_q 8 [7] [] (y_loadA ti45 rfl rfl (eps_get hyo hf) hfo.len) rfl rfl ?_
         refine fs_call false 9 [8] [] gy0 rfl (.cons (.pure pu) (.nil)) (edig_ok f hfo) pu (.inl rfl) rfl rfl ?_
         refine fs_q 10 [] [] (y_p rfl) rfl rfl ?_
         refine fs_q 11 [] [] (y_p rfl) rfl rfl ?_
         refine fs_q 12 [10,11] [] (y_ixf i Tryz.underlying24 ti45 rfl rfl rfl (by omega) rfl) rfl rfl ?_
         refine fs_q 13 [12] [] (y_fldf Tryz.underlying45 rfl ti43 (by decide) rfl rfl) rfl rfl ?_
         refine fs_q 14 [13] [] (y_loadA ti43 rfl rfl (eps_sgf hyo hf) rfl) rfl rfl ?_
         refine fs_call false 15 [0,1,4,9,14] [] gy0 rfl (.cons (.pure pu) (.cons (.pure pu) (.cons (.pure pu) (.cons (.pure pu) (.cons (.pure pu) (.nil)))))) (Con.cast (kforg_ok x (k:Int) (digsE l k) (digE f) f.sg.a f.sg.S f.sg.P hx (D32_digsE l k) (by simp;omega) (by simp) hfo.S hfo.P) (forgA_eq ..)) pu (.inl rfl) rfl rfl ?_
         refine fs_q 16 [15] [] (y_p rfl) rfl rfl ?_
         refine fs_q 17 [16] [] (y_p rfl) rfl rfl ?_
         refine fs_q 18 [16] [] (y_p rfl) rfl rfl ?_
         refine fs_q 19 [17] [] (y_p rfl) rfl rfl ?_
         refine fs_end (by kernel_rfl) ?_
         refine s1 (y_p rfl) rfl ?_
         refine at_nil<|x_tn<|at_seq ?_
         refine at_fs ⟨_, [], []⟩ 19 4 hmix (le_refl rfl) ?_
         refine fs_q 0 [] [] (y_p rfl) rfl rfl ?_
         refine fs_q 1 [0] [] ((y_p rfl).v (v':= .b true) (rfl)) rfl rfl ?_
         refine fs_q 2 [1] [] (y_p rfl) rfl rfl ?_
         refine fs_qg 3 [2] [] rfl rfl (y_p rfl) rfl rfl ?_
         refine fs_qg 4 [2] [] rfl rfl (y_p rfl) rfl rfl ?_
         refine fs_qg 5 [2,3,4] [] rfl rfl (y_ixf i Tryz.underlying24 ti45 rfl rfl rfl (by omega) rfl) rfl rfl ?_
         refine fs_qg 6 [2,5] [] rfl rfl (y_loadA ti45 rfl rfl (eps_get hyo hf) hfo.len) rfl rfl ?_
         refine fs_call false 7 [2,6] [] (gy1 rfl rfl) rfl (.cons (.pure pu) (.nil)) (edig_ok f hfo) pu (.inl rfl) rfl rfl ?_
         refine fs_qg 8 [2] [] rfl rfl (y_p rfl) rfl rfl ?_
         refine fs_qg 9 [2] [] rfl rfl (y_p rfl) rfl rfl ?_
         refine fs_qg 10 [2,8,9] [] rfl rfl (y_ixf i Tryz.underlying24 ti45 rfl rfl rfl (by omega) rfl) rfl rfl ?_
         refine fs_qg 11 [2,10] [] rfl rfl (y_loadA ti45 rfl rfl (eps_get hl he) hok.len) rfl rfl ?_
         refine fs_call false 12 [2,11] [] (gy1 rfl rfl) rfl (.cons (.pure pu) (.nil)) (edig_ok e hok) pu (.inl rfl) rfl rfl ?_
         refine fs_qg 13 [2,7,12] [] rfl rfl (((y_aq Tryz.underlying23 Tryz.underlying5 ti5 (by kernel_rfl) rfl rfl (by simp) (by simp))).v (v':= .b true) (congrArg A.b (beq_iff_eq.2 hcs))) rfl rfl ?_
         refine fs_qg 14 [2,13] [] rfl rfl (y_p rfl) rfl rfl ?_
         refine fs_q0 15 [14] rfl rfl rfl rfl rfl ?_
         refine fs_q0 16 [14,15] rfl rfl rfl rfl rfl ?_
         refine fs_qg 17 [2,14,16] [] rfl rfl (y_p rfl) rfl rfl ?_
         refine fs_q 18 [2,17] [] (y_p rfl) rfl rfl ?_
         refine fs_end (by kernel_rfl) ?_
         refine s1 (y_p rfl) rfl ?_
         refine at_nil<|x_tn<|at_ret<|x_tr ?_
         refine at_result (rs:= [.tmp 16]) rfl (r_tmp rfl r_nil) ?_
         rfl
        ·have hk0 := forg_at (l := l) hc0 hf hik (by rw [dgAt_is he]; exact hcs)
         refine at_fs ⟨_, [], []⟩ 20 4 hmix (le_refl rfl) ?_
         refine fs_q 0 [] [(8,none)] (y_loadA0 ti23 rfl rfl (by rw [List.length_map,hx])) rfl rfl ?_
         refine fs_q 1 [] [] (y_p rfl) rfl rfl ?_
         refine fs_q 2 [] [] (y_p rfl) rfl rfl ?_
         refine fs_q 3 [] [] (y_p rfl) rfl rfl ?_
         refine fs_call false 4 [2,3] [] gy0 rfl (.cons (.pure pu) (.cons (.pure pu) (.nil))) (ldigs_ok l k hl (by simp only [maxLen];omega) (by omega)) pu (.inl rfl) rfl rfl ?_
         refine fs_q 5 [] [] (y_p rfl) rfl rfl ?_
         refine fs_q 6 [] [] (y_p rfl) rfl rfl ?_
         refine fs_q 7 [5,6] [] (y_ixf i Tryz.underlying24 ti45 rfl rfl rfl (by omega) rfl) rfl rfl ?_
         refine fs_q 8 [7] [] (y_loadA ti45 rfl rfl (eps_get hyo hf) hfo.len) rfl rfl ?_
         refine fs_call false 9 [8] [] gy0 rfl (.cons (.pure pu) (.nil)) (edig_ok f hfo) pu (.inl rfl) rfl rfl ?_
         refine fs_q 10 [] [] (y_p rfl) rfl rfl ?_
         refine fs_q 11 [] [] (y_p rfl) rfl rfl ?_
         refine fs_q 12 [10,11] [] (y_ixf i Tryz.underlying24 ti45 rfl rfl rfl (by omega) rfl) rfl rfl ?_
         refine fs_q 13 [12] [] (y_fldf Tryz.underlying45 rfl ti43 (by decide) rfl rfl) rfl rfl ?_
         refine fs_q 14 [13] [] (y_loadA ti43 rfl rfl (eps_sgf hyo hf) rfl) rfl rfl ?_
         refine fs_call false 15 [0,1,4,9,14] [] gy0 rfl (.cons (.pure pu) (.cons (.pure pu) (.cons (.pure pu) (.cons (.pure pu) (.cons (.pure pu) (.nil)))))) (Con.cast (kforg_ok x (k:Int) (digsE l k) (digE f) f.sg.a f.sg.S f.sg.P hx (D32_digsE l k) (by simp;omega) (by simp) hfo.S hfo.P) (forgA_eq ..)) pu (.inl rfl) rfl rfl ?_
         refine fs_q 16 [15] [] (y_p rfl) rfl rfl ?_
         refine fs_q 17 [16] [] (y_p rfl) rfl rfl ?_
         refine fs_q 18 [16] [] (y_p rfl) rfl rfl ?_
         refine fs_q 19 [17] [] (y_p rfl) rfl rfl ?_
         refine fs_end (by kernel_rfl) ?_
         refine s1 (y_p rfl) rfl ?_
         refine at_nil<|x_tn<|at_seq ?_
         refine at_fs ⟨_, [], []⟩ 19 4 hmix (le_refl rfl) ?_
         refine fs_q 0 [] [] (y_p rfl) rfl rfl ?_
         refine fs_q 1 [0] [] ((y_p rfl).v (v':= .b true) (rfl)) rfl rfl ?_
         refine fs_q 2 [1] [] (y_p rfl) rfl rfl ?_
         refine fs_qg 3 [2] [] rfl rfl (y_p rfl) rfl rfl ?_
         refine fs_qg 4 [2] [] rfl rfl (y_p rfl) rfl rfl ?_
         refine fs_qg 5 [2,3,4] [] rfl rfl (y_ixf i Tryz.underlying24 ti45 rfl rfl rfl (by omega) rfl) rfl rfl ?_
         refine fs_qg 6 [2,5] [] rfl rfl (y_loadA ti45 rfl rfl (eps_get hyo hf) hfo.len) rfl rfl ?_
         refine fs_call false 7 [2,6] [] (gy1 rfl rfl) rfl (.cons (.pure pu) (.nil)) (edig_ok f hfo) pu (.inl rfl) rfl rfl ?_
         refine fs_qg 8 [2] [] rfl rfl (y_p rfl) rfl rfl ?_
         refine fs_qg 9 [2] [] rfl rfl (y_p rfl) rfl rfl ?_
         refine fs_qg 10 [2,8,9] [] rfl rfl (y_ixf i Tryz.underlying24 ti45 rfl rfl rfl (by omega) rfl) rfl rfl ?_
         refine fs_qg 11 [2,10] [] rfl rfl (y_loadA ti45 rfl rfl (eps_get hl he) hok.len) rfl rfl ?_
         refine fs_call false 12 [2,11] [] (gy1 rfl rfl) rfl (.cons (.pure pu) (.nil)) (edig_ok e hok) pu (.inl rfl) rfl rfl ?_
         refine fs_qg 13 [2,7,12] [] rfl rfl (((y_aq Tryz.underlying23 Tryz.underlying5 ti5 (by kernel_rfl) rfl rfl (by simp) (by simp))).v (v':= .b false) (congrArg A.b (beq_eq_false_iff_ne.2 hcs))) rfl rfl ?_
         refine fs_qg 14 [2,13] [] rfl rfl (y_p rfl) rfl rfl ?_
         refine fs_qg 15 [14] [] rfl rfl (y_p rfl) rfl rfl ?_
         refine fs_qg 16 [14,15] [] rfl rfl ((y_p rfl).v (v':= .b true) (congrArg A.b (bne_iff_ne.2 hk0))) rfl rfl ?_
         refine fs_qg 17 [2,14,16] [] rfl rfl (y_p rfl) rfl rfl ?_
         refine fs_q 18 [2,17] [] (y_p rfl) rfl rfl ?_
         refine fs_end (by kernel_rfl) ?_
         refine s1 (y_p rfl) rfl ?_
         refine at_nil<|x_tn<|at_ret<|x_tr ?_
         refine at_result (rs:= [.tmp 16]) rfl (r_tmp rfl r_nil) ?_
         rfl
       ·skip
        refine at_region<|s1 (y_p rfl) rfl<|s1 ((y_p rfl).v (v':= .b false) (rfl)) rfl<|s1 (y_p rfl) rfl<|g1 rfl rfl (y_p rfl) rfl<|g1 rfl rfl ((y_p rfl).v (v':= .b false) (congrArg A.b (by rw [hcs];rfl))) rfl<|s1 (y_p rfl) rfl ?_
        refine at_nil<|x_tn ?_
        refine at_else rfl ?_
        refine at_skip<|x_tn<|at_seq<|at_region<|s1 (y_p rfl) rfl<|s1 ((y_p rfl).v (v':= .b false) (congrArg A.b (by rw [hcs];rfl))) rfl<|s1 (y_p rfl) rfl<|g1 rfl rfl (y_p rfl) rfl<|g1 rfl rfl ((y_p rfl).v (v':= .b true) (congrArg A.b (by rw [hcs];rfl))) rfl<|s1 (y_p rfl) rfl<|s1 (y_p rfl) rfl ?_
        refine at_nil<|x_tn<|at_ret ?_
        refine at_result (rs:= [.tmp 16]) rfl (r_tmp rfl r_nil) ?_
        rfl
       ·skip
        refine at_region<|s1 (y_p rfl) rfl<|s1 ((y_p rfl).v (v':= .b false) (rfl)) rfl<|s1 (y_p rfl) rfl<|g1 rfl rfl (y_p rfl) rfl<|g1 rfl rfl ((y_p rfl).v (v':= .b false) (congrArg A.b (by rw [hcs];rfl))) rfl<|s1 (y_p rfl) rfl ?_
        refine at_nil<|x_tn ?_
        refine at_else rfl ?_
        refine at_skip<|x_tn<|at_seq<|at_region<|s1 (y_p rfl) rfl<|s1 ((y_p rfl).v (v':= .b true) (congrArg A.b (by rw [hcs];rfl))) rfl<|s1 (y_p rfl) rfl<|g0 rfl rfl rfl rfl<|g0 rfl rfl rfl rfl<|s1 (y_p rfl) rfl<|s1 (y_p rfl) rfl ?_
        refine at_nil<|x_tn<|at_ret ?_
        refine at_result (rs:= [.tmp 16]) rfl (r_tmp rfl r_nil) ?_
        rfl
      ·skip
       refine at_skip<|x_bn<|x_tn<|at_seq ?_
       obtain⟨y,hy⟩:∃y,y=l:=⟨_,rfl⟩
       refine at_sayO 59 (cs':=epsC y) rfl (by rw [hy]) ?_
       have hyo:EpsOk y:=by rw [hy];exact hl
       have hyl:y.length=l.length:=by rw [hy]
       obtain⟨f,hf⟩:∃f,y[i]? =some f:=⟨_,List.getElem?_eq_getElem (by omega)⟩
       have hfo:=hyo f (List.mem_of_getElem? hf)
       refine at_frz 21 rfl rfl pul (view_eq (by rw [len_epsC hyo,hyl]) rfl) ?_
       refine at_say 21 rfl (v':=epsA y) (congrArg (fun n=>A.fz n (epsC y)) hyl.symm) ?_
       refine at_region<|s1 (y_loadA0 ti23 rfl rfl (by simp)) rfl<|s1 (y_p rfl) rfl<|s1 (y_p rfl) rfl ?_
       refine at_op rfl (n_call false rfl (.cons (.pure pu) (.cons (.pure pu) (.cons (.pure pu) (.nil)))) (eChk_ok (rootD x (k:Int)) k y (by simp) hyo (by simp only [maxLen];omega)) pu (.inl rfl) rfl ?_)
       refine s1 (y_p rfl) rfl ?_
       refine at_nil<|x_tn<|at_seq<|at_seq ?_
       rcases chk_three (rootD x (k:Int)) k y with hcs|hcs|hcs
       ·have hc0 := hcs
        refine at_region<|s1 (y_p rfl) rfl<|s1 ((y_p rfl).v (v':= .b false) (rfl)) rfl<|s1 (y_p rfl) rfl<|g1 rfl rfl (y_p rfl) rfl<|g1 rfl rfl ((y_p rfl).v (v':= .b true) (congrArg A.b (beq_iff_eq.2 hcs))) rfl<|s1 (y_p rfl) rfl ?_
        refine at_nil<|x_tn ?_
        refine at_then rfl ?_
        refine at_seq ?_
        rcases Decidable.em (digE f=digE e)with hcs|hcs
        ·skip
         refine at_fs ⟨_, [], []⟩ 20 4 hmix (le_refl rfl) ?_
         refine fs_q 0 [] [(8,none)] (y_loadA0 ti23 rfl rfl (by rw [List.length_map,hx])) rfl rfl ?_
         refine fs_q 1 [] [] (y_p rfl) rfl rfl ?_
         refine fs_q 2 [] [] (y_p rfl) rfl rfl ?_
         refine fs_q 3 [] [] (y_p rfl) rfl rfl ?_
         refine fs_call false 4 [2,3] [] gy0 rfl (.cons (.pure pu) (.cons (.pure pu) (.nil))) (ldigs_ok l k hl (by simp only [maxLen];omega) (by omega)) pu (.inl rfl) rfl rfl ?_
         refine fs_q 5 [] [] (y_p rfl) rfl rfl ?_
         refine fs_q 6 [] [] (y_p rfl) rfl rfl ?_
         refine fs_q 7 [5,6] [] (y_ixf i Tryz.underlying24 ti45 rfl rfl rfl (by omega) rfl) rfl rfl ?_
         refine fs_q 8 [7] [] (y_loadA ti45 rfl rfl (eps_get hyo hf) hfo.len) rfl rfl ?_
         refine fs_call false 9 [8] [] gy0 rfl (.cons (.pure pu) (.nil)) (edig_ok f hfo) pu (.inl rfl) rfl rfl ?_
         refine fs_q 10 [] [] (y_p rfl) rfl rfl ?_
         refine fs_q 11 [] [] (y_p rfl) rfl rfl ?_
         refine fs_q 12 [10,11] [] (y_ixf i Tryz.underlying24 ti45 rfl rfl rfl (by omega) rfl) rfl rfl ?_
         refine fs_q 13 [12] [] (y_fldf Tryz.underlying45 rfl ti43 (by decide) rfl rfl) rfl rfl ?_
         refine fs_q 14 [13] [] (y_loadA ti43 rfl rfl (eps_sgf hyo hf) rfl) rfl rfl ?_
         refine fs_call false 15 [0,1,4,9,14] [] gy0 rfl (.cons (.pure pu) (.cons (.pure pu) (.cons (.pure pu) (.cons (.pure pu) (.cons (.pure pu) (.nil)))))) (Con.cast (kforg_ok x (k:Int) (digsE l k) (digE f) f.sg.a f.sg.S f.sg.P hx (D32_digsE l k) (by simp;omega) (by simp) hfo.S hfo.P) (forgA_eq ..)) pu (.inl rfl) rfl rfl ?_
         refine fs_q 16 [15] [] (y_p rfl) rfl rfl ?_
         refine fs_q 17 [16] [] (y_p rfl) rfl rfl ?_
         refine fs_q 18 [16] [] (y_p rfl) rfl rfl ?_
         refine fs_q 19 [17] [] (y_p rfl) rfl rfl ?_
         refine fs_end (by kernel_rfl) ?_
         refine s1 (y_p rfl) rfl ?_
         refine at_nil<|x_tn<|at_seq ?_
         refine at_fs ⟨_, [], []⟩ 19 4 hmix (le_refl rfl) ?_
         refine fs_q 0 [] [] (y_p rfl) rfl rfl ?_
         refine fs_q 1 [0] [] ((y_p rfl).v (v':= .b true) (rfl)) rfl rfl ?_
         refine fs_q 2 [1] [] (y_p rfl) rfl rfl ?_
         refine fs_qg 3 [2] [] rfl rfl (y_p rfl) rfl rfl ?_
         refine fs_qg 4 [2] [] rfl rfl (y_p rfl) rfl rfl ?_
         refine fs_qg 5 [2,3,4] [] rfl rfl (y_ixf i Tryz.underlying24 ti45 rfl rfl rfl (by omega) rfl) rfl rfl ?_
         refine fs_qg 6 [2,5] [] rfl rfl (y_loadA ti45 rfl rfl (eps_get hyo hf) hfo.len) rfl rfl ?_
         refine fs_call false 7 [2,6] [] (gy1 rfl rfl) rfl (.cons (.pure pu) (.nil)) (edig_ok f hfo) pu (.inl rfl) rfl rfl ?_
         refine fs_qg 8 [2] [] rfl rfl (y_p rfl) rfl rfl ?_
         refine fs_qg 9 [2] [] rfl rfl (y_p rfl) rfl rfl ?_
         refine fs_qg 10 [2,8,9] [] rfl rfl (y_ixf i Tryz.underlying24 ti45 rfl rfl rfl (by omega) rfl) rfl rfl ?_
         refine fs_qg 11 [2,10] [] rfl rfl (y_loadA ti45 rfl rfl (eps_get hl he) hok.len) rfl rfl ?_
         refine fs_call false 12 [2,11] [] (gy1 rfl rfl) rfl (.cons (.pure pu) (.nil)) (edig_ok e hok) pu (.inl rfl) rfl rfl ?_
         refine fs_qg 13 [2,7,12] [] rfl rfl (((y_aq Tryz.underlying23 Tryz.underlying5 ti5 (by kernel_rfl) rfl rfl (by simp) (by simp))).v (v':= .b true) (congrArg A.b (beq_iff_eq.2 hcs))) rfl rfl ?_
         refine fs_qg 14 [2,13] [] rfl rfl (y_p rfl) rfl rfl ?_
         refine fs_q0 15 [14] rfl rfl rfl rfl rfl ?_
         refine fs_q0 16 [14,15] rfl rfl rfl rfl rfl ?_
         refine fs_qg 17 [2,14,16] [] rfl rfl (y_p rfl) rfl rfl ?_
         refine fs_q 18 [2,17] [] (y_p rfl) rfl rfl ?_
         refine fs_end (by kernel_rfl) ?_
         refine s1 (y_p rfl) rfl ?_
         refine at_nil<|x_tn<|at_ret<|x_tr ?_
         refine at_result (rs:= [.tmp 16]) rfl (r_tmp rfl r_nil) ?_
         rfl
        ·have hk0 := forg_at (l := l) hc0 hf hik (by rw [dgAt_is he]; exact hcs)
         refine at_fs ⟨_, [], []⟩ 20 4 hmix (le_refl rfl) ?_
         refine fs_q 0 [] [(8,none)] (y_loadA0 ti23 rfl rfl (by rw [List.length_map,hx])) rfl rfl ?_
         refine fs_q 1 [] [] (y_p rfl) rfl rfl ?_
         refine fs_q 2 [] [] (y_p rfl) rfl rfl ?_
         refine fs_q 3 [] [] (y_p rfl) rfl rfl ?_
         refine fs_call false 4 [2,3] [] gy0 rfl (.cons (.pure pu) (.cons (.pure pu) (.nil))) (ldigs_ok l k hl (by simp only [maxLen];omega) (by omega)) pu (.inl rfl) rfl rfl ?_
         refine fs_q 5 [] [] (y_p rfl) rfl rfl ?_
         refine fs_q 6 [] [] (y_p rfl) rfl rfl ?_
         refine fs_q 7 [5,6] [] (y_ixf i Tryz.underlying24 ti45 rfl rfl rfl (by omega) rfl) rfl rfl ?_
         refine fs_q 8 [7] [] (y_loadA ti45 rfl rfl (eps_get hyo hf) hfo.len) rfl rfl ?_
         refine fs_call false 9 [8] [] gy0 rfl (.cons (.pure pu) (.nil)) (edig_ok f hfo) pu (.inl rfl) rfl rfl ?_
         refine fs_q 10 [] [] (y_p rfl) rfl rfl ?_
         refine fs_q 11 [] [] (y_p rfl) rfl rfl ?_
         refine fs_q 12 [10,11] [] (y_ixf i Tryz.underlying24 ti45 rfl rfl rfl (by omega) rfl) rfl rfl ?_
         refine fs_q 13 [12] [] (y_fldf Tryz.underlying45 rfl ti43 (by decide) rfl rfl) rfl rfl ?_
         refine fs_q 14 [13] [] (y_loadA ti43 rfl rfl (eps_sgf hyo hf) rfl) rfl rfl ?_
         refine fs_call false 15 [0,1,4,9,14] [] gy0 rfl (.cons (.pure pu) (.cons (.pure pu) (.cons (.pure pu) (.cons (.pure pu) (.cons (.pure pu) (.nil)))))) (Con.cast (kforg_ok x (k:Int) (digsE l k) (digE f) f.sg.a f.sg.S f.sg.P hx (D32_digsE l k) (by simp;omega) (by simp) hfo.S hfo.P) (forgA_eq ..)) pu (.inl rfl) rfl rfl ?_
         refine fs_q 16 [15] [] (y_p rfl) rfl rfl ?_
         refine fs_q 17 [16] [] (y_p rfl) rfl rfl ?_
         refine fs_q 18 [16] [] (y_p rfl) rfl rfl ?_
         refine fs_q 19 [17] [] (y_p rfl) rfl rfl ?_
         refine fs_end (by kernel_rfl) ?_
         refine s1 (y_p rfl) rfl ?_
         refine at_nil<|x_tn<|at_seq ?_
         refine at_fs ⟨_, [], []⟩ 19 4 hmix (le_refl rfl) ?_
         refine fs_q 0 [] [] (y_p rfl) rfl rfl ?_
         refine fs_q 1 [0] [] ((y_p rfl).v (v':= .b true) (rfl)) rfl rfl ?_
         refine fs_q 2 [1] [] (y_p rfl) rfl rfl ?_
         refine fs_qg 3 [2] [] rfl rfl (y_p rfl) rfl rfl ?_
         refine fs_qg 4 [2] [] rfl rfl (y_p rfl) rfl rfl ?_
         refine fs_qg 5 [2,3,4] [] rfl rfl (y_ixf i Tryz.underlying24 ti45 rfl rfl rfl (by omega) rfl) rfl rfl ?_
         refine fs_qg 6 [2,5] [] rfl rfl (y_loadA ti45 rfl rfl (eps_get hyo hf) hfo.len) rfl rfl ?_
         refine fs_call false 7 [2,6] [] (gy1 rfl rfl) rfl (.cons (.pure pu) (.nil)) (edig_ok f hfo) pu (.inl rfl) rfl rfl ?_
         refine fs_qg 8 [2] [] rfl rfl (y_p rfl) rfl rfl ?_
         refine fs_qg 9 [2] [] rfl rfl (y_p rfl) rfl rfl ?_
         refine fs_qg 10 [2,8,9] [] rfl rfl (y_ixf i Tryz.underlying24 ti45 rfl rfl rfl (by omega) rfl) rfl rfl ?_
         refine fs_qg 11 [2,10] [] rfl rfl (y_loadA ti45 rfl rfl (eps_get hl he) hok.len) rfl rfl ?_
         refine fs_call false 12 [2,11] [] (gy1 rfl rfl) rfl (.cons (.pure pu) (.nil)) (edig_ok e hok) pu (.inl rfl) rfl rfl ?_
         refine fs_qg 13 [2,7,12] [] rfl rfl (((y_aq Tryz.underlying23 Tryz.underlying5 ti5 (by kernel_rfl) rfl rfl (by simp) (by simp))).v (v':= .b false) (congrArg A.b (beq_eq_false_iff_ne.2 hcs))) rfl rfl ?_
         refine fs_qg 14 [2,13] [] rfl rfl (y_p rfl) rfl rfl ?_
         refine fs_qg 15 [14] [] rfl rfl (y_p rfl) rfl rfl ?_
         refine fs_qg 16 [14,15] [] rfl rfl ((y_p rfl).v (v':= .b true) (congrArg A.b (bne_iff_ne.2 hk0))) rfl rfl ?_
         refine fs_qg 17 [2,14,16] [] rfl rfl (y_p rfl) rfl rfl ?_
         refine fs_q 18 [2,17] [] (y_p rfl) rfl rfl ?_
         refine fs_end (by kernel_rfl) ?_
         refine s1 (y_p rfl) rfl ?_
         refine at_nil<|x_tn<|at_ret<|x_tr ?_
         refine at_result (rs:= [.tmp 16]) rfl (r_tmp rfl r_nil) ?_
         rfl
       ·skip
        refine at_region<|s1 (y_p rfl) rfl<|s1 ((y_p rfl).v (v':= .b false) (rfl)) rfl<|s1 (y_p rfl) rfl<|g1 rfl rfl (y_p rfl) rfl<|g1 rfl rfl ((y_p rfl).v (v':= .b false) (congrArg A.b (by rw [hcs];rfl))) rfl<|s1 (y_p rfl) rfl ?_
        refine at_nil<|x_tn ?_
        refine at_else rfl ?_
        refine at_skip<|x_tn<|at_seq<|at_region<|s1 (y_p rfl) rfl<|s1 ((y_p rfl).v (v':= .b false) (congrArg A.b (by rw [hcs];rfl))) rfl<|s1 (y_p rfl) rfl<|g1 rfl rfl (y_p rfl) rfl<|g1 rfl rfl ((y_p rfl).v (v':= .b true) (congrArg A.b (by rw [hcs];rfl))) rfl<|s1 (y_p rfl) rfl<|s1 (y_p rfl) rfl ?_
        refine at_nil<|x_tn<|at_ret ?_
        refine at_result (rs:= [.tmp 16]) rfl (r_tmp rfl r_nil) ?_
        rfl
       ·skip
        refine at_region<|s1 (y_p rfl) rfl<|s1 ((y_p rfl).v (v':= .b false) (rfl)) rfl<|s1 (y_p rfl) rfl<|g1 rfl rfl (y_p rfl) rfl<|g1 rfl rfl ((y_p rfl).v (v':= .b false) (congrArg A.b (by rw [hcs];rfl))) rfl<|s1 (y_p rfl) rfl ?_
        refine at_nil<|x_tn ?_
        refine at_else rfl ?_
        refine at_skip<|x_tn<|at_seq<|at_region<|s1 (y_p rfl) rfl<|s1 ((y_p rfl).v (v':= .b true) (congrArg A.b (by rw [hcs];rfl))) rfl<|s1 (y_p rfl) rfl<|g0 rfl rfl rfl rfl<|g0 rfl rfl rfl rfl<|s1 (y_p rfl) rfl<|s1 (y_p rfl) rfl ?_
        refine at_nil<|x_tn<|at_ret ?_
        refine at_result (rs:= [.tmp 16]) rfl (r_tmp rfl r_nil) ?_
        rfl
end Go.Abs.D2
