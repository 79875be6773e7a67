/-
  The engine, the plain laws and the walks that the rows need, part 13. Conditions: none.
-/
import Derived.Test.YtahjdbnhgdaejaaDoorM12
import Derived.Lib.BufferWrite
set_option linter.unusedVariables false
set_option linter.unusedSimpArgs false
set_option maxHeartbeats 1000000
set_option maxRecDepth 10000
-- AbsX
namespace Go.Abs
open Go Go.Eng
section
variable {P : Program} {w0 : Bw} {X0 : Xs} {n : Nat} {E : Ev} {st : St} {K : Act → World → Prop} {Q : Exit → Act → World → Prop}
variable {r : Option Nat} {ds0 : List Deferred} {N g : Nat} {E0 : EV} {st0 : St} {ops : Array Oper} {nn : Nat} {plan : List Stp} {rest : List Oper} {d : Nat} {ty : TypeId} {pos : String} {aft' : Array Edge} {gd : Option (Nat × Bool)}
theorem fs_s2b {src dst e : TypeId} {x : Operand} {l : List UInt8} (k0 : Nat) (deps : List Nat) (need : List (Nat × Option Nat)) (hg : GuardYes ops (keepI (E0.at k0) deps k0 E) gd) (hs : P.underlying src = some .string) (hdt : P.underlying dst = some (.slice e)) (he : P.underlying e = some (.int .u8)) (hx : ev (keepI (E0.at k0) deps k0 E) x = some (.s l)) (hl : l.length ≤ maxLen) (hb : Nat.ble (d + 1) N = true) (hd : depB k0 deps need = true)
    (h : FS r ds0 P w0 X0 N Q ops nn g E0 st0 (plan ++ [⟨d, .fz l.length (l.map u8), deps, [], [], need, []⟩]) (k0 + 1) ((d, .fz l.length (l.map u8)) :: E) st rest) :
    FS r ds0 P w0 X0 N Q ops nn g E0 st0 plan k0 E st (⟨some d, .convert src dst x, ty, pos, aft', gd⟩ :: rest) :=
  fs_gen ⟨d, .fz l.length (l.map u8), deps, [], [], need, []⟩ (fun hk hE _ _ _ hD _ _ hK => have he' := hD.fin hE hk; ob_gy hg he' (n_s2b hs hdt he (ev_le he' hx) hl hb hK)) hd h
end
end Go.Abs
-- K6H
namespace Go.Abs.D2
open Go Go.Eng Go.Abs Go.Proofs 
theorem lhalf_ok (n : Nat) (h : 2 ≤ n) (hn : n ≤ 1099511627776) : Con Tryd.prog 82 [.i .i64 (n : Nat)] (Ret (.i .i64 (halfN n : Nat))) := by
 refine enter Tryd.func82 rfl Tryd.ntmps82 (by kernel_rfl) (Nat.le_of_ble_eq_true rfl) fun w0 X0 hI => ?_
 refine at_seq <| at_region <| s1 ((y_p rfl).v (v' := .i .i64 0) rfl) rfl ?_
 refine at_nil <| x_tn <| at_seq <| at_region <| s1 ((y_p rfl).v (v' := .i .i64 1) rfl) rfl ?_
 refine at_nil <| x_tn <| at_seq <| at_block ?_
 refine at_loop (ι := Nat) (fun e => [(0, .i .i64 (n : Nat)), (3, .i .i64 (2 ^ e : Nat))]) (fun e => ⟨[]⟩) (fun e => 2 ^ e < n) (fun e => n - 2 ^ e) ?_ ?_
 ·exact at_ex (0) (by omega) [] hI rfl rfl ⟨⟨_, rfl, .pure pu⟩, ⟨_, rfl, .of rfl (.pure pu)⟩, trivial⟩ trivial
 rintro e he
 have hpe := Nat.two_pow_pos e
 refine at_seq <| at_seq <| at_region <| s1 (y_p rfl) rfl <| s1 (mulN 2 (2 ^ e) rfl rfl rfl rfl (by omega)) rfl <| s1 (y_p rfl) rfl <| s1 (y_p rfl) rfl ?_
 refine at_nil <| x_tn ?_
 refine at_cond rfl (fun hc7 => ?_) (fun hc7 => ?_)
 ·have h7 : 2 * 2 ^ e < n := by have := of_decide_eq_true hc7; omega
  refine at_skip <| x_tn <| at_block <| at_region <| s1 (y_p rfl) rfl <| s1 ((mulN (2 ^ e) 2 rfl rfl rfl rfl (by omega)).v (congrArg (fun k : Nat => A.i .i64 (k : Int)) (Nat.mul_comm _ _))) rfl <| s1 (y_p rfl) rfl ?_
  refine at_nil <| x_bn ?_
  exact at_end (e + 1) (by rw [Nat.pow_succ]; omega) (by rw [Nat.pow_succ]; omega) [] hI rfl rfl ⟨⟨_, rfl, .pure pu⟩, ⟨_, rfl, .of (congrArg (fun k : Nat => A.i .i64 (k : Int)) (by rw [Nat.pow_succ, Nat.mul_comm])) (.pure pu)⟩, trivial⟩ trivial
 ·have h7 : ¬ 2 * 2 ^ e < n := by have := of_decide_eq_false hc7; omega
  refine at_exit <| x_te <| x_te <| x_be <| x_tn <| at_seq <| at_region <| s1 (y_p rfl) rfl <| s1 (y_p rfl) rfl ?_
  refine at_nil <| x_tn <| at_ret ?_
  refine at_result (rs := [.tmp 2]) rfl (r_tmp rfl r_nil) ?_
  exact congrArg (fun k : Nat => A.i .i64 (k : Int)) (halfN_of e rfl he (by omega))
theorem digitsO_ok (m : List UInt8) (hm : m.length = 32) : Con Tryd.prog 23 [.ag (m.map u8)] (RetO 1 19 ((digits m).map nI)) := by
 refine enter Tryd.func23 rfl Tryd.ntmps23 (by kernel_rfl) (Nat.le_of_ble_eq_true rfl) fun w0 X0 hI => ?_
 refine at_seq <| at_region ?_
 refine at_op rfl (n_boxA 1 rfl rfl rfl ?_)
 refine s1 (y_p rfl) rfl ?_
 refine at_nil <| x_tn <| at_seq <| at_region <| s1 (y_loadA0 ti23 rfl rfl (by first | rfl | omega | (simp <;> omega) | (simp [*] <;> omega))) rfl ?_
 refine at_op rfl (n_call false rfl (.cons (.pure pu) (.nil)) (split_ok m hm) pu (.inl rfl) rfl ?_)
 refine at_op rfl (n_alloc 3 rfl ti75 rfl rfl ?_)
 refine at_op rfl (n_storeA ti75 rfl rfl rfl (by first | rfl | omega | (simp <;> omega) | (simp [*] <;> omega)) (by first | rfl | omega | (simp <;> omega) | (simp [*] <;> omega)) ?_)
 refine at_nil <| x_tn <| at_seq <| at_region <| s1 (y_cuta0 Tryd.underlying75 ti3 rfl rfl (by first | rfl | omega | (simp <;> omega) | (simp [*] <;> omega)) (by simp [maxLen])) rfl ?_
 refine at_op rfl (n_callO 7 rfl true rfl (.cons (.sl rfl rfl (by first | rfl | omega | (simp <;> omega) | (simp [*] <;> omega)) (view_eq (by first | rfl | omega | (simp <;> omega) | (simp [*] <;> omega)) (by first | rfl | (simp; done) | (simp [*]; done))) (VwL.pure pul) pul) (.nil)) (by simpa using clone_ok (digits m) (by simp) (by simp)) pul (.inr ful) rfl ?_)
 refine s1 (y_p rfl) rfl ?_
 refine at_nil <| x_tn <| at_ret ?_
 refine at_result (rs := [.tmp 2]) rfl (r_tmp rfl r_nil) ⟨7, rfl, rfl⟩
theorem step_tag6 (x : List UInt8) (hx : x.length = 32) : Con Tryd.prog 40 [.s [115, 116, 101, 112], .fz 32 (x.map u8)] (Ret (.ag ((stepD x).map u8))) := by
  rw [stepD_eq]; simpa [hx] using tagged_ok [115, 116, 101, 112] x (by omega) (by simp)
theorem lelem_ok (x : List UInt8) (c n : Nat) (hx : x.length = 32) (hn : n ≤ 1000) : Con Tryd.prog 24 [.ag (x.map u8), nI c, nI n] (Ret (.ag ((iterD n (firstD x c)).map u8))) := by
 refine enter Tryd.func24 rfl Tryd.ntmps24 (by kernel_rfl) (Nat.le_of_ble_eq_true rfl) fun w0 X0 hI => ?_
 refine at_seq <| at_region ?_
 refine at_op rfl (n_boxA 3 rfl rfl rfl ?_)
 refine at_op rfl (n_alloc 6 rfl ti23 rfl rfl ?_)
 refine at_nil <| x_tn <| at_seq <| at_region ?_
 refine at_op rfl (n_bs1 8 rfl Tryd.underlying65 ti5 rfl rfl rfl rfl rfl ?_)
 refine s1 (y_cuta0 Tryd.underlying23 ti5 rfl rfl (by simp [hx]) (by simp [maxLen])) rfl ?_
 refine at_op rfl (n_app 10 rfl Tryd.underlying65 ti5 rfl (.sl rfl (by first | rfl | omega | (simp <;> omega) | (simp [*] <;> omega))) rfl (SM_full rfl (by simp [hx])) (by simp [hx]) (by simp [maxLen]) (by simp) rfl rfl rfl ?_)
 refine s1 (y_p rfl) rfl <| s1 (ofN_u8 c Tryd.underlying3 Tryd.underlying5 rfl rfl) rfl ?_
 refine at_op rfl (n_bs1 13 rfl Tryd.underlying65 ti5 rfl rfl rfl rfl rfl ?_)
 refine at_op rfl (n_app 14 rfl Tryd.underlying65 ti5 rfl (.sl rfl (by simp [hx])) rfl (SM_full rfl (by rfl)) (by first | rfl | omega | (simp <;> omega) | (simp [*] <;> omega)) (by simp [maxLen]) (by simp) rfl rfl rfl ?_)
 refine at_op rfl (n_call true rfl (.cons (.pure pu) (.cons (.sl rfl rfl rfl (view_eq (by simp [hx]) (by simp)) (VwL.pure pul) pul) .nil)) (tag_first x c hx) pu (.inr fu) rfl ?_)
 refine at_op rfl (n_alloc 7 rfl ti23 rfl rfl ?_)
 refine at_op rfl (n_storeA ti23 rfl rfl rfl (by first | rfl | omega | (simp <;> omega) | (simp [*] <;> omega)) (by first | rfl | omega | (simp <;> omega) | (simp [*] <;> omega)) ?_)
 refine at_nil <| x_tn <| at_seq <| at_seq <| at_region <| s1 (y_p rfl) rfl <| s1 ((y_p rfl).v (v' := .i .i64 0) rfl) rfl ?_
 refine at_nil <| x_tn <| at_block ?_
 refine at_loop (ι := Nat) (fun i => [(6, .p 6 0), (7, .p 7 0), (16, nI n), (17, nI i)]) (fun i => ⟨[(6, some (zD.map u8)), (7, some ((iterD i (firstD x c)).map u8))]⟩) (fun i => i ≤ n) (fun i => n - i) ?_ ?_
 ·exact at_ex (0) (Nat.zero_le _) [(6, some 6), (7, some 7)] hI rfl rfl ⟨⟨_, rfl, .p rfl⟩, ⟨_, rfl, .p rfl⟩, ⟨_, rfl, .pure pu⟩, ⟨_, rfl, .pure pu⟩, trivial⟩ ⟨.inr ⟨_, _, rfl, rfl, .pure pul⟩, .inr ⟨_, _, rfl, rfl, .of (by rfl) (.pure pul)⟩, trivial⟩
 rintro i hi
 have hlx := len_iterD (len_firstD x c) i
 refine at_seq <| at_region <| s1 (y_p rfl) rfl ?_
 refine at_nil <| x_tn <| at_seq ?_
 refine at_cond rfl (fun hc18 => ?_) (fun hc18 => ?_)
 ·have h1 : i < n := by have := of_decide_eq_true hc18; omega
  refine at_skip <| x_tn <| at_seq <| at_block <| at_region <| s1 (y_cuta0 Tryd.underlying23 ti5 rfl rfl (by rw [List.length_map]; omega) (by simp [maxLen])) rfl ?_
  refine at_op rfl (n_call true rfl (.cons (.pure pu) (.cons (.sl rfl rfl rfl (view_eq (by rw [List.length_map]; exact hlx) rfl) (VwL.pure pul) pul) .nil)) (step_tag6 (iterD i (firstD x c)) hlx) pu (.inr fu) rfl ?_)
  refine at_op rfl (n_storeA ti23 rfl rfl rfl (by simp) (by rw [List.length_map]; exact hlx) ?_)
  refine at_nil <| x_bn <| x_tn <| at_region <| s1 (addN _ 1 rfl rfl rfl rfl (by omega)) rfl <| s1 (y_p rfl) rfl ?_
  refine at_nil ?_
  exact at_end (i + 1) (by omega) (by omega) [(6, some 6), (7, some 7)] hI rfl rfl ⟨⟨_, rfl, .p rfl⟩, ⟨_, rfl, .p rfl⟩, ⟨_, rfl, .pure pu⟩, ⟨_, rfl, .pure pu⟩, trivial⟩ ⟨.inr ⟨_, _, rfl, rfl, .pure pul⟩, .inr ⟨_, _, rfl, rfl, .of (by rfl) (.pure pul)⟩, trivial⟩
 ·have h1 : i = n := by have := of_decide_eq_false hc18; omega
  subst h1
  refine at_exit <| x_te <| x_te <| x_be <| x_tn <| at_seq <| at_region <| s1 (y_loadA0 ti23 rfl rfl (by rw [List.length_map]; exact hlx)) rfl ?_
  refine at_op rfl (n_storeA ti23 rfl rfl rfl (by rw [List.length_map]; exact hlx) (by rfl) ?_)
  refine at_nil <| x_tn <| at_ret ?_
  refine at_result (rs := [.cell 6 23]) rfl (r_cellA ti23 rfl rfl (List.take_of_length_le (by simp [hlx])) (by simp [hlx]) r_nil) rfl
theorem lclimb_step (N : Nat) (ih : ∀ (l : List Stp) (d : List UInt8) (i n : Nat) (P : List (List UInt8)), P.length < N → l.length ≤ 1000 → d.length = 32 → D32 P → n ≤ 1000 → i < n → P.length = (rights i n).length → ConS Tryd.prog 61 [.sl 54 2 0 l.length, .ag (d.map u8), nI i, nI n, dgs P] ⟨[(54, some ((l).flatMap stC))]⟩ (RetM (fun j => .tu [.sl j 2 0 (l ++ clS d i n P).length, .ag ((climb d i n P).map u8)]) ((l ++ clS d i n P).flatMap stC))) (l : List Stp) (d : List UInt8) (i n : Nat) (P : List (List UInt8)) (hN : P.length ≤ N) (hl : l.length ≤ 1000) (hd : d.length = 32) (hP : D32 P) (hn : n ≤ 1000) (hin : i < n) (hfit : P.length = (rights i n).length) : ConS Tryd.prog 61 [.sl 54 2 0 l.length, .ag (d.map u8), nI i, nI n, dgs P] ⟨[(54, some ((l).flatMap stC))]⟩ (RetM (fun j => .tu [.sl j 2 0 (l ++ clS d i n P).length, .ag ((climb d i n P).map u8)]) ((l ++ clS d i n P).flatMap stC)) := by
 refine enterS Tryd.func61 rfl Tryd.ntmps61 (by kernel_rfl) (Nat.le_of_ble_eq_true rfl) fun w0 X0 hI => ?_
 refine at_seq <| at_region ?_
 refine at_op rfl (n_boxA 6 rfl rfl rfl ?_)
 refine s1 (y_p rfl) rfl ?_
 refine at_op rfl (n_alloc 11 rfl ti23 rfl rfl ?_)
 refine at_nil <| x_tn <| at_seq <| at_seq ?_
 rcases path_ways hfit with hcs | hcs
 ·obtain ⟨rfl, hn1⟩ := hcs
  have hlc := len_stC l
  have hrl := rights_le n i n (Nat.le_refl _)
  have hPl := Nat.le_trans (Nat.le_of_eq hfit) hrl
  refine at_frzP 6 rfl rfl pul ?_
  refine at_region <| s1 (y_p rfl) rfl <| s1 ((y_p rfl).v (v' := .b true) (congrArg A.b (decide_eq_true (by omega)))) rfl <| s1 (y_p rfl) rfl <| g0 rfl rfl rfl rfl <| g0 rfl rfl rfl rfl <| g0 rfl rfl rfl rfl <| s1 (y_p rfl) rfl ?_
  refine at_nil <| x_tn ?_
  refine at_then rfl ?_
  refine at_seq ?_
  refine at_fs ⟨_, [], []⟩ 8 4 hmix (le_refl rfl) ?_
  refine fs_q 0 [] [(54, none)] (y_p rfl) rfl rfl ?_
  refine fs_q 1 [] [] ((y_cutfa (ds := ((d.map u8).drop (0 * 1)).take (32 * 1)) 32 Tryd.underlying23 ti5 rfl (by simp [maxLen]) bn bn (Nat.zero_le _) (Nat.le_refl _) (by simp [hd]) rfl rfl).v (cut_32 hd)) rfl rfl ?_
  refine fs_q 2 [1] [] (y_str (l := d) Tryd.underlying65 Tryd.underlying5 Tryd.underlying9 rfl rfl rfl) rfl rfl ?_
  refine fs_q 3 [2] [] (y_bld (out := [_, _]) [[evC (.string ByteArray.empty)], [evC (.string ByteArray.empty)]] ti79 rfl Tryd.underlying79 (by kernel_rfl) rfl rfl ⟨⟨by (first | rfl | omega | (simp; done) | (simp [*]; done) | (simp [cellsA, *]; done)), rfl⟩, ⟨⟨by (first | rfl | omega | (simp; done) | (simp [*]; done) | (simp [cellsA, *]; done)), rfl⟩, trivial⟩⟩ rfl) rfl rfl ?_
  refine fs_bs 27 4 [3] gy0 Tryd.underlying46 ti79 rfl rfl rfl (by simp [cellsA]) (show _ = [A.s tLeaf, A.s d] from rfl) rfl rfl rfl rfl ?_
  refine fs_app 28 5 [0, 4] [(27, some 4), (54, none)] gy0 Tryd.underlying46 ti79 rfl (.sl rfl (by rw [hlc])) rfl (SM_full rfl (by first | rfl | omega | (simp <;> omega) | (simp [*] <;> omega))) (by simp) (by simp only [maxLen]; omega) (by omega) rfl (show _ = (l ++ clS d i n []).flatMap stC from by rw [clS_one hn1]; exact st_snoc l (tLeaf, d)) rfl rfl ?_
  refine fs_q 6 [] [] ((y_cutfa (ds := ((d.map u8).drop (0 * 1)).take (32 * 1)) 32 Tryd.underlying23 ti5 rfl (by simp [maxLen]) bn bn (Nat.zero_le _) (Nat.le_refl _) (by simp [hd]) rfl rfl).v (cut_32 hd)) rfl rfl ?_
  refine fs_call false 7 [6] [] gy0 rfl (.cons (.pure pu) (.cons (.pure pu) (.nil))) (tagged_ok tLeaf d (by omega) (by decide)) pu (.inl rfl) rfl rfl ?_
  refine fs_end (by kernel_rfl) ?_
  refine s1 (y_p rfl) rfl ?_
  refine at_op rfl (n_storeA ti23 rfl rfl rfl (by simp) (by first | rfl | omega | (simp <;> omega) | (simp [*] <;> omega)) ?_)
  refine at_nil <| x_tn <| at_ret <| x_tr ?_
  refine at_result (rs := [.tmp 10, .cell 11 23]) rfl (r_tmp rfl (r_cellA ti23 rfl rfl (List.take_of_length_le (by simp)) (by simp) r_nil)) ⟨28, ?_, rfl⟩
  show A.tu _ = A.tu _
  rw [clS_one hn1, climb_one hn1]; simp [leafD]
 ·obtain ⟨p, z, rfl, h2n⟩ := hcs
  have hz := hP z (by simp)
  have hDp : D32 p := fun y hy => hP y (by simp [hy])
  have hhn := halfN_lt h2n
  have hfl := hP.len
  simp only [List.length_append, List.length_cons, List.length_nil] at hN
  have hlc := len_stC l
  have hrl := rights_le n i n (Nat.le_refl _)
  have hPl := Nat.le_trans (Nat.le_of_eq hfit) hrl
  refine at_frzP 6 rfl rfl pul ?_
  refine at_region <| s1 (y_p rfl) rfl <| s1 ((y_p rfl).v (v' := .b false) (congrArg A.b (decide_eq_false (by omega)))) rfl <| s1 (y_p rfl) rfl <| g1 rfl rfl (y_p rfl) rfl <| g1 rfl rfl (y_len Tryd.underlying26 rfl rfl rfl) rfl <| g1 rfl rfl ((y_p rfl).v (v' := .b false) (congrArg A.b (decide_eq_false (by simp only [List.length_append, List.length_cons, List.length_nil]; omega)))) rfl <| s1 (y_p rfl) rfl ?_
  refine at_nil <| x_tn ?_
  refine at_else rfl ?_
  refine at_skip <| x_tn <| at_seq <| at_region <| s1 (y_p rfl) rfl <| s1 (y_p rfl) rfl <| s1 (y_len Tryd.underlying26 rfl rfl rfl) rfl <| s1 ((subN (p ++ [z]).length 1 rfl rfl rfl rfl (by simp) (by omega)).v (congrArg (A.i .i64) (by simp : _ = ((p.length : Nat) : Int)))) rfl <| s1 (y_ixf p.length Tryd.underlying26 ti23 rfl rfl rfl (by simp) rfl) rfl <| s1 (y_loadA ti23 rfl rfl (get_d (i := p.length) (q := z) hP (by simp)) (by simp [hz])) rfl ?_
  refine at_op rfl (n_alloc 12 rfl ti23 rfl rfl ?_)
  refine at_op rfl (n_storeA ti23 rfl rfl rfl (by first | rfl | omega | (simp <;> omega) | (simp [*] <;> omega)) (by first | rfl | omega | (simp <;> omega) | (simp [*] <;> omega)) ?_)
  refine at_nil <| x_tn <| at_seq <| at_region <| s1 (y_p rfl) rfl ?_
  refine at_op rfl (n_call false rfl (.cons (.pure pu) (.nil)) (lhalf_ok n h2n (by omega)) pu (.inl rfl) rfl ?_)
  refine s1 (y_p rfl) rfl ?_
  refine at_nil <| x_tn <| at_seq <| at_region ?_
  refine at_op rfl (n_alloc 14 rfl ti23 rfl rfl ?_)
  refine at_nil <| x_tn <| at_seq <| at_region <| s1 (y_p rfl) rfl ?_
  refine at_nil <| x_tn <| at_seq <| at_seq <| at_region <| s1 (y_p rfl) rfl <| s1 (y_p rfl) rfl <| s1 (y_p rfl) rfl ?_
  refine at_nil <| x_tn ?_
  refine at_cond rfl (fun hc41 => ?_) (fun hc41 => ?_)
  ·have h41 : i < halfN n := by have := of_decide_eq_true hc41; omega
   have hp : p.length = (rights i (halfN n)).length := by rw [rights_left h2n h41] at hfit; simpa using hfit
   have hll : (clS d i (halfN n) p).length = p.length + 1 := len_clS hp
   have hal : (l ++ clS d i (halfN n) p).length = l.length + (p.length + 1) := by rw [List.length_append, hll]
   have hpl : p.length + 1 ≤ n := by simpa using hPl
   have hcl32 := len_climb d i (halfN n) p
   have hnx := clS_left (d := d) (q := z) h2n h41 hp
   have hcx := climb_left (d := d) (q := z) h2n h41 hp
   refine at_seq ?_
   refine at_fs ⟨_, [0], [(0, [0])]⟩ 14 4 hmix (le_refl rfl) ?_
   refine fs_q 0 [] [(54, none)] (y_p rfl) rfl rfl ?_
   refine fs_q 1 [] [] (y_loadA ti23 rfl rfl (List.take_of_length_le (by simp [hd])) (by simp [hd])) rfl rfl ?_
   refine fs_q 2 [] [] (y_p rfl) rfl rfl ?_
   refine fs_q 3 [] [] (y_p rfl) rfl rfl ?_
   refine fs_q 4 [] [] (y_p rfl) rfl rfl ?_
   refine fs_q 5 [] [] (y_p rfl) rfl rfl ?_
   refine fs_q 6 [5] [] (y_len Tryd.underlying26 rfl rfl rfl) rfl rfl ?_
   refine fs_q 7 [6] [] ((subN (p ++ [z]).length 1 rfl rfl rfl rfl (by simp) (by omega)).v (congrArg (A.i .i64) (by simp : _ = ((p.length : Nat) : Int)))) rfl rfl ?_
   refine fs_q 8 [4, 7] [] ((y_cutf (ds := (((p ++ [z]).flatten.map u8).drop (0 * 32)).take (p.length * 32)) p.length Tryd.underlying26 ti23 rfl (by rw [List.length_map]; exact hfl) bn (bs rfl rfl) (Nat.zero_le _) (by simp) rfl rfl).v (cut_path hDp)) rfl rfl ?_
   refine fs_callHM (mk := fun j => .tu [.sl j 2 0 (l ++ clS d i (halfN n) p).length, .ag ((climb d i (halfN n) p).map u8)]) (oneB_tsl (by rw [List.length_append, len_clS hp]; omega) fu) 52 ⟨[(54, some ((l).flatMap stC))]⟩ true 9 [0, 1, 2, 3, 8] [(54, none)] gy0 rfl ⟨⟨rfl, VwL.pure pul⟩, trivial⟩ (.cons (.ksl rfl) (.cons (.pure pu) (.cons (.pure pu) (.cons (.pure pu) (.cons (.pure pu) .nil))))) (ih l d i (halfN n) p (by omega) hl hd hDp (by omega) h41 hp) pul (.inr ful) rfl rfl ?_
   refine fs_q 10 [9] [(52, some 9)] (y_p rfl) rfl rfl ?_
   refine fs_q 11 [10] [(52, some 9)] (y_p rfl) rfl rfl ?_
   refine fs_q 12 [10] [(52, some 9)] (y_p rfl) rfl rfl ?_
   refine fs_q 13 [11] [(52, some 9)] (y_p rfl) rfl rfl ?_
   refine fs_end (by kernel_rfl) ?_
   refine at_op rfl (n_storeA ti23 rfl rfl rfl (by simp) (by first | rfl | omega | (simp <;> omega) | (simp [*] <;> omega)) ?_)
   refine at_nil <| x_tn ?_
   refine at_fs ⟨_, [], []⟩ 5 4 hmix (le_refl rfl) ?_
   refine fs_q 0 [] [] (y_p rfl) rfl rfl ?_
   refine fs_q 1 [] [(14, none)] (y_cuta0 Tryd.underlying23 ti5 rfl rfl (by rw [List.length_map]; omega) (by simp [maxLen])) rfl rfl ?_
   refine fs_app 57 2 [0, 1] [(14, none)] gy0 Tryd.underlying65 ti5 rfl .nl rfl (SM_full rfl (by simp)) (by simp) (by simp only [maxLen]; omega) (by omega) rfl rfl rfl rfl ?_
   refine fs_q 3 [] [(12, none)] (y_cuta0 Tryd.underlying23 ti5 rfl rfl (by rw [List.length_map]; omega) (by simp [maxLen])) rfl rfl ?_
   refine fs_app 59 4 [2, 3] [(12, none), (57, some 2)] gy0 Tryd.underlying65 ti5 rfl (.sl rfl (by simp)) rfl (SM_full rfl (by simp [hz])) (by simp [hz]) (by simp only [maxLen]; omega) (by omega) rfl rfl rfl rfl ?_
   refine fs_end (by kernel_rfl) ?_
   refine s1 (y_p rfl) rfl ?_
   refine at_nil <| x_tn <| at_seq ?_
   refine at_frz 15 rfl rfl pul (view_eq (by simp [hz]) rfl) ?_
   refine at_say 15 rfl (v' := .fz (climb d i (halfN n) p ++ z).length ((climb d i (halfN n) p ++ z).map u8)) (by simp [hz]) ?_
   refine at_region <| s1 (y_p rfl) rfl <| s1 (y_p rfl) rfl <| s1 (y_str (l := climb d i (halfN n) p ++ z) Tryd.underlying65 Tryd.underlying5 Tryd.underlying9 rfl rfl rfl) rfl <| s1 (y_bld (out := [_, _]) [[evC (.string ByteArray.empty)], [evC (.string ByteArray.empty)]] ti79 rfl Tryd.underlying79 (by kernel_rfl) rfl rfl ⟨⟨by (first | rfl | omega | (simp; done) | (simp [*]; done) | (simp [cellsA, *]; done)), rfl⟩, ⟨⟨by (first | rfl | omega | (simp; done) | (simp [*]; done) | (simp [cellsA, *]; done)), rfl⟩, trivial⟩⟩ rfl) rfl ?_
   refine at_op rfl (n_bs 86 rfl Tryd.underlying46 ti79 rfl rfl rfl (by simp [cellsA]) (show _ = [A.s tNode, A.s (climb d i (halfN n) p ++ z)] from rfl) rfl rfl rfl ?_)
   refine at_op rfl (n_app 87 rfl Tryd.underlying46 ti79 rfl (.sl rfl (by rw [len_stC])) rfl (SM_full rfl (by first | rfl | omega | (simp <;> omega) | (simp [*] <;> omega))) (by simp) (by simp only [maxLen]; omega) (by omega) rfl (show _ = (l ++ clS d i n (p ++ [z])).flatMap stC from by rw [hnx, ← List.append_assoc]; exact st_snoc _ (tNode, _)) rfl ?_)
   refine s1 (y_p rfl) rfl ?_
   refine at_op rfl (n_call false rfl (.cons (.pure pu) (.cons (.pure pu) (.nil))) (tagged_ok tNode (climb d i (halfN n) p ++ z) (by simp [hz]) (by decide)) pu (.inl rfl) rfl ?_)
   refine s1 (y_p rfl) rfl ?_
   refine at_op rfl (n_storeA ti23 rfl rfl rfl (by first | rfl | omega | (simp <;> omega) | (simp [*] <;> omega)) (by first | rfl | omega | (simp <;> omega) | (simp [*] <;> omega)) ?_)
   refine at_nil <| x_tn <| at_ret ?_
   refine at_result (rs := [.tmp 10, .cell 11 23]) rfl (r_tmp rfl (r_cellA ti23 rfl rfl (List.take_of_length_le (by simp)) (by simp) r_nil)) ⟨87, ?_, rfl⟩
   show A.tu _ = A.tu _
   rw [hcx, hnx]; simp [nodeD, Nat.add_assoc]
  ·have h41 : ¬ i < halfN n := by have := of_decide_eq_false hc41; omega
   have hp : p.length = (rights (i - halfN n) (n - halfN n)).length := by rw [rights_right h2n h41] at hfit; simpa using hfit
   have hll : (clS d (i - halfN n) (n - halfN n) p).length = p.length + 1 := len_clS hp
   have hal : (l ++ clS d (i - halfN n) (n - halfN n) p).length = l.length + (p.length + 1) := by rw [List.length_append, hll]
   have hpl : p.length + 1 ≤ n := by simpa using hPl
   have hcl32 := len_climb d (i - halfN n) (n - halfN n) p
   have hnx := clS_right (d := d) (q := z) h2n h41 hp
   have hcx := climb_right (d := d) (q := z) h2n h41 hp
   refine at_seq ?_
   refine at_fs ⟨_, [0], [(0, [0])]⟩ 18 4 hmix (le_refl rfl) ?_
   refine fs_q 0 [] [(54, none)] (y_p rfl) rfl rfl ?_
   refine fs_q 1 [] [] (y_loadA ti23 rfl rfl (List.take_of_length_le (by simp [hd])) (by simp [hd])) rfl rfl ?_
   refine fs_q 2 [] [] (y_p rfl) rfl rfl ?_
   refine fs_q 3 [] [] (y_p rfl) rfl rfl ?_
   refine fs_q 4 [2, 3] [] (subN i (halfN n) rfl rfl rfl rfl (by omega) (by omega)) rfl rfl ?_
   refine fs_q 5 [] [] (y_p rfl) rfl rfl ?_
   refine fs_q 6 [] [] (y_p rfl) rfl rfl ?_
   refine fs_q 7 [5, 6] [] (subN n (halfN n) rfl rfl rfl rfl (by omega) (by omega)) rfl rfl ?_
   refine fs_q 8 [] [] (y_p rfl) rfl rfl ?_
   refine fs_q 9 [] [] (y_p rfl) rfl rfl ?_
   refine fs_q 10 [9] [] (y_len Tryd.underlying26 rfl rfl rfl) rfl rfl ?_
   refine fs_q 11 [10] [] ((subN (p ++ [z]).length 1 rfl rfl rfl rfl (by simp) (by omega)).v (congrArg (A.i .i64) (by simp : _ = ((p.length : Nat) : Int)))) rfl rfl ?_
   refine fs_q 12 [8, 11] [] ((y_cutf (ds := (((p ++ [z]).flatten.map u8).drop (0 * 32)).take (p.length * 32)) p.length Tryd.underlying26 ti23 rfl (by rw [List.length_map]; exact hfl) bn (bs rfl rfl) (Nat.zero_le _) (by simp) rfl rfl).v (cut_path hDp)) rfl rfl ?_
   refine fs_callHM (mk := fun j => .tu [.sl j 2 0 (l ++ clS d (i - halfN n) (n - halfN n) p).length, .ag ((climb d (i - halfN n) (n - halfN n) p).map u8)]) (oneB_tsl (by rw [List.length_append, len_clS hp]; omega) fu) 74 ⟨[(54, some ((l).flatMap stC))]⟩ true 13 [0, 1, 4, 7, 12] [(54, none)] gy0 rfl ⟨⟨rfl, VwL.pure pul⟩, trivial⟩ (.cons (.ksl rfl) (.cons (.pure pu) (.cons (.pure pu) (.cons (.pure pu) (.cons (.pure pu) .nil))))) (ih l d (i - halfN n) (n - halfN n) p (by omega) hl hd hDp (by omega) (by omega) hp) pul (.inr ful) rfl rfl ?_
   refine fs_q 14 [13] [(74, some 13)] (y_p rfl) rfl rfl ?_
   refine fs_q 15 [14] [(74, some 13)] (y_p rfl) rfl rfl ?_
   refine fs_q 16 [14] [(74, some 13)] (y_p rfl) rfl rfl ?_
   refine fs_q 17 [15] [(74, some 13)] (y_p rfl) rfl rfl ?_
   refine fs_end (by kernel_rfl) ?_
   refine at_op rfl (n_storeA ti23 rfl rfl rfl (by simp) (by first | rfl | omega | (simp <;> omega) | (simp [*] <;> omega)) ?_)
   refine at_nil <| x_tn ?_
   refine at_fs ⟨_, [], []⟩ 5 4 hmix (le_refl rfl) ?_
   refine fs_q 0 [] [] (y_p rfl) rfl rfl ?_
   refine fs_q 1 [] [(12, none)] (y_cuta0 Tryd.underlying23 ti5 rfl rfl (by rw [List.length_map]; omega) (by simp [maxLen])) rfl rfl ?_
   refine fs_app 79 2 [0, 1] [(12, none)] gy0 Tryd.underlying65 ti5 rfl .nl rfl (SM_full rfl (by simp [hz])) (by simp [hz]) (by simp only [maxLen]; omega) (by omega) rfl rfl rfl rfl ?_
   refine fs_q 3 [] [(14, none)] (y_cuta0 Tryd.underlying23 ti5 rfl rfl (by rw [List.length_map]; omega) (by simp [maxLen])) rfl rfl ?_
   refine fs_app 81 4 [2, 3] [(14, none), (79, some 2)] gy0 Tryd.underlying65 ti5 rfl (.sl rfl (by simp [hz])) rfl (SM_full rfl (by simp)) (by simp) (by simp only [maxLen]; omega) (by omega) rfl rfl rfl rfl ?_
   refine fs_end (by kernel_rfl) ?_
   refine s1 (y_p rfl) rfl ?_
   refine at_nil <| x_tn <| at_seq ?_
   refine at_frz 15 rfl rfl pul (view_eq (by simp [hz]) rfl) ?_
   refine at_say 15 rfl (v' := .fz (z ++ climb d (i - halfN n) (n - halfN n) p).length ((z ++ climb d (i - halfN n) (n - halfN n) p).map u8)) (by simp [hz]) ?_
   refine at_region <| s1 (y_p rfl) rfl <| s1 (y_p rfl) rfl <| s1 (y_str (l := z ++ climb d (i - halfN n) (n - halfN n) p) Tryd.underlying65 Tryd.underlying5 Tryd.underlying9 rfl rfl rfl) rfl <| s1 (y_bld (out := [_, _]) [[evC (.string ByteArray.empty)], [evC (.string ByteArray.empty)]] ti79 rfl Tryd.underlying79 (by kernel_rfl) rfl rfl ⟨⟨by (first | rfl | omega | (simp; done) | (simp [*]; done) | (simp [cellsA, *]; done)), rfl⟩, ⟨⟨by (first | rfl | omega | (simp; done) | (simp [*]; done) | (simp [cellsA, *]; done)), rfl⟩, trivial⟩⟩ rfl) rfl ?_
   refine at_op rfl (n_bs 86 rfl Tryd.underlying46 ti79 rfl rfl rfl (by simp [cellsA]) (show _ = [A.s tNode, A.s (z ++ climb d (i - halfN n) (n - halfN n) p)] from rfl) rfl rfl rfl ?_)
   refine at_op rfl (n_app 87 rfl Tryd.underlying46 ti79 rfl (.sl rfl (by rw [len_stC])) rfl (SM_full rfl (by first | rfl | omega | (simp <;> omega) | (simp [*] <;> omega))) (by simp) (by simp only [maxLen]; omega) (by omega) rfl (show _ = (l ++ clS d i n (p ++ [z])).flatMap stC from by rw [hnx, ← List.append_assoc]; exact st_snoc _ (tNode, _)) rfl ?_)
   refine s1 (y_p rfl) rfl ?_
   refine at_op rfl (n_call false rfl (.cons (.pure pu) (.cons (.pure pu) (.nil))) (tagged_ok tNode (z ++ climb d (i - halfN n) (n - halfN n) p) (by simp [hz]) (by decide)) pu (.inl rfl) rfl ?_)
   refine s1 (y_p rfl) rfl ?_
   refine at_op rfl (n_storeA ti23 rfl rfl rfl (by first | rfl | omega | (simp <;> omega) | (simp [*] <;> omega)) (by first | rfl | omega | (simp <;> omega) | (simp [*] <;> omega)) ?_)
   refine at_nil <| x_tn <| at_ret ?_
   refine at_result (rs := [.tmp 10, .cell 11 23]) rfl (r_tmp rfl (r_cellA ti23 rfl rfl (List.take_of_length_le (by simp)) (by simp) r_nil)) ⟨87, ?_, rfl⟩
   show A.tu _ = A.tu _
   rw [hcx, hnx]; simp [nodeD, Nat.add_assoc]
theorem lclimb_ok : ∀ (N : Nat) (l : List Stp) (d : List UInt8) (i n : Nat) (P : List (List UInt8)), P.length ≤ N → l.length ≤ 1000 → d.length = 32 → D32 P → n ≤ 1000 → i < n → P.length = (rights i n).length → ConS Tryd.prog 61 [.sl 54 2 0 l.length, .ag (d.map u8), nI i, nI n, dgs P] ⟨[(54, some ((l).flatMap stC))]⟩ (RetM (fun j => .tu [.sl j 2 0 (l ++ clS d i n P).length, .ag ((climb d i n P).map u8)]) ((l ++ clS d i n P).flatMap stC))
  | 0, l, d, i, n, P, hN => lclimb_step 0 (fun _ _ _ _ _ h => absurd h (by omega)) l d i n P hN
  | N + 1, l, d, i, n, P, hN => lclimb_step (N + 1) (fun l d i n P h => lclimb_ok N l d i n P (by omega)) l d i n P hN
theorem lcoll_ok (l m : List Stp) (hl : l.length = m.length) (hn : l.length ≤ 1000) (hL : ∀ e ∈ l, e.1.length ≤ 1000 ∧ e.2.length ≤ 1000) (hM : ∀ e ∈ m, e.1.length ≤ 1000 ∧ e.2.length ≤ 1000) : Con Tryd.prog 25 [.fz l.length ((l).flatMap stC), .fz m.length ((m).flatMap stC)] (Ret (.b (collB l m))) := by
 refine enter Tryd.func25 rfl Tryd.ntmps25 (by kernel_rfl) (Nat.le_of_ble_eq_true rfl) fun w0 X0 hI => ?_
 refine at_seq <| at_region <| s1 (y_p rfl) rfl ?_
 refine at_nil <| x_tn <| at_seq <| at_seq <| at_region <| s1 (y_p rfl) rfl <| s1 (y_len Tryd.underlying46 rfl rfl rfl) rfl <| s1 ((y_p rfl).v (v' := .i .i64 0) rfl) rfl ?_
 refine at_nil <| x_tn <| at_block ?_
 refine at_loop (ι := Nat) (fun i => [(0, .fz l.length ((l).flatMap stC)), (1, .fz m.length ((m).flatMap stC)), (7, nI l.length), (8, nI i)]) (fun i => ⟨[]⟩) (fun i => i ≤ l.length ∧ ((l.zip m).take i).any (fun p => hitP p.1 p.2) = false) (fun i => l.length - i) ?_ ?_
 ·exact at_ex (0) (⟨Nat.zero_le _, rfl⟩) [] hI rfl rfl ⟨⟨_, rfl, .pure pu⟩, ⟨_, rfl, .pure pu⟩, ⟨_, rfl, .pure pu⟩, ⟨_, rfl, .pure pu⟩, trivial⟩ trivial
 rintro i ⟨hi, hi2⟩
 have hlc := len_stC l
 have hmc := len_stC m
 refine at_seq <| at_region <| s1 (y_p rfl) rfl ?_
 refine at_nil <| x_tn <| at_seq ?_
 refine at_cond rfl (fun hc9 => ?_) (fun hc9 => ?_)
 ·have h9 : i < l.length := by have := of_decide_eq_true hc9; omega
  obtain ⟨a, ha⟩ : ∃ a, l[i]? = some a := ⟨_, List.getElem?_eq_getElem h9⟩
  obtain ⟨b, hb⟩ : ∃ b, m[i]? = some b := ⟨_, List.getElem?_eq_getElem (by omega)⟩
  obtain ⟨ha1, ha2⟩ := hL a (List.mem_of_getElem? ha)
  obtain ⟨hb1, hb2⟩ := hM b (List.mem_of_getElem? hb)
  refine at_skip <| x_tn <| at_seq <| at_block <| at_seq <| at_region <| s1 (y_p rfl) rfl <| s1 (y_p rfl) rfl ?_
  refine at_nil <| x_tn <| at_seq ?_
  rcases hit_ways a b with hcs | hcs | hcs | hcs | hcs
  ·obtain ⟨k1, hh⟩ := hcs
   refine at_fs ⟨_, [], []⟩ 64 4 hmix (le_refl rfl) ?_
   refine fs_q 0 [] [] (y_p rfl) rfl rfl ?_
   refine fs_q 1 [] [] (y_p rfl) rfl rfl ?_
   refine fs_q 2 [1] [] (y_len Tryd.underlying46 rfl rfl rfl) rfl rfl ?_
   refine fs_q 3 [0, 2] [] ((y_p rfl).v (v' := .b true) (congrArg A.b (decide_eq_true (by omega)))) rfl rfl ?_
   refine fs_q 4 [3] [] (y_p rfl) rfl rfl ?_
   refine fs_qg 5 [4] [] rfl rfl (y_p rfl) rfl rfl ?_
   refine fs_qg 6 [4] [] rfl rfl (y_p rfl) rfl rfl ?_
   refine fs_qg 7 [4, 5, 6] [] rfl rfl (y_ixf i Tryd.underlying46 ti79 rfl rfl rfl (by omega) rfl) rfl rfl ?_
   refine fs_qg 8 [4, 7] [] rfl rfl (y_fldf Tryd.underlying79 rfl ti9 (by decide) rfl rfl) rfl rfl ?_
   refine fs_qg 9 [4, 8] [] rfl rfl (y_load ti9 rfl rfl (st_get0 ha)) rfl rfl ?_
   refine fs_qg 10 [4, 9] [] rfl rfl ((y_p rfl).v (v' := .b false) (congrArg A.b (by simp [k1]))) rfl rfl ?_
   refine fs_q 11 [4, 10] [] (y_p rfl) rfl rfl ?_
   refine fs_q 12 [11] [] (y_p rfl) rfl rfl ?_
   refine fs_q0 13 [12] rfl rfl rfl rfl rfl ?_
   refine fs_q0 14 [12] rfl rfl rfl rfl rfl ?_
   refine fs_q0 15 [12, 13, 14] rfl rfl rfl rfl rfl ?_
   refine fs_q0 16 [12, 15] rfl rfl rfl rfl rfl ?_
   refine fs_q0 17 [12, 16] rfl rfl rfl rfl rfl ?_
   refine fs_q0 18 [12] rfl rfl rfl rfl rfl ?_
   refine fs_q0 19 [12] rfl rfl rfl rfl rfl ?_
   refine fs_q0 20 [12, 18, 19] rfl rfl rfl rfl rfl ?_
   refine fs_q0 21 [12, 20] rfl rfl rfl rfl rfl ?_
   refine fs_q0 22 [12, 21] rfl rfl rfl rfl rfl ?_
   refine fs_q0 23 [12, 17, 22] rfl rfl rfl rfl rfl ?_
   refine fs_q 24 [12, 23] [] (y_p rfl) rfl rfl ?_
   refine fs_q 25 [24] [] (y_p rfl) rfl rfl ?_
   refine fs_q0 26 [25] rfl rfl rfl rfl rfl ?_
   refine fs_q0 27 [25] rfl rfl rfl rfl rfl ?_
   refine fs_q0 28 [25, 26, 27] rfl rfl rfl rfl rfl ?_
   refine fs_q0 29 [25, 28] rfl rfl rfl rfl rfl ?_
   refine fs_q0 30 [25, 29] rfl rfl rfl rfl rfl ?_
   refine fs_q0 31 [25] rfl rfl rfl rfl rfl ?_
   refine fs_q0 32 [25] rfl rfl rfl rfl rfl ?_
   refine fs_q0 33 [25, 31, 32] rfl rfl rfl rfl rfl ?_
   refine fs_q0 34 [25, 33] rfl rfl rfl rfl rfl ?_
   refine fs_q0 35 [25, 34] rfl rfl rfl rfl rfl ?_
   refine fs_q0 36 [25, 30, 35] rfl rfl rfl rfl rfl ?_
   refine fs_q 37 [25, 36] [] (y_p rfl) rfl rfl ?_
   refine fs_q 38 [37] [] (y_p rfl) rfl rfl ?_
   refine fs_q0 39 [38] rfl rfl rfl rfl rfl ?_
   refine fs_q0 40 [38] rfl rfl rfl rfl rfl ?_
   refine fs_q0 41 [38, 39, 40] rfl rfl rfl rfl rfl ?_
   refine fs_q0 42 [38, 41] rfl rfl rfl rfl rfl ?_
   refine fs_q0 43 [38, 42] rfl rfl rfl rfl rfl ?_
   refine fs_q0 44 [38] rfl rfl rfl rfl rfl ?_
   refine fs_q0 45 [38] rfl rfl rfl rfl rfl ?_
   refine fs_q0 46 [38, 44, 45] rfl rfl rfl rfl rfl ?_
   refine fs_q0 47 [38, 46] rfl rfl rfl rfl rfl ?_
   refine fs_q0 48 [38, 47] rfl rfl rfl rfl rfl ?_
   refine fs_q0 49 [38, 48] rfl rfl rfl rfl rfl ?_
   refine fs_q0 50 [38, 43, 49] rfl rfl rfl rfl rfl ?_
   refine fs_q0 51 [38] rfl rfl rfl rfl rfl ?_
   refine fs_q0 52 [38] rfl rfl rfl rfl rfl ?_
   refine fs_q0 53 [38, 51, 52] rfl rfl rfl rfl rfl ?_
   refine fs_q0 54 [38, 53] rfl rfl rfl rfl rfl ?_
   refine fs_q0 55 [38, 54] rfl rfl rfl rfl rfl ?_
   refine fs_q0 56 [38] rfl rfl rfl rfl rfl ?_
   refine fs_q0 57 [38] rfl rfl rfl rfl rfl ?_
   refine fs_q0 58 [38, 56, 57] rfl rfl rfl rfl rfl ?_
   refine fs_q0 59 [38, 58] rfl rfl rfl rfl rfl ?_
   refine fs_q0 60 [38, 59] rfl rfl rfl rfl rfl ?_
   refine fs_q0 61 [38, 60] rfl rfl rfl rfl rfl ?_
   refine fs_q0 62 [38, 55, 61] rfl rfl rfl rfl rfl ?_
   refine fs_q0 63 [38, 50, 62] rfl rfl rfl rfl rfl ?_
   refine fs_end (by kernel_rfl) ?_
   refine s1 (y_p rfl) rfl ?_
   refine at_nil <| x_tn ?_
   refine at_else rfl ?_
   refine at_skip <| x_bn <| x_tn <| at_region <| s1 (addN _ 1 rfl rfl rfl rfl (by omega)) rfl <| s1 (y_p rfl) rfl ?_
   refine at_nil ?_
   exact at_end (i + 1) (⟨by omega, coll_next ha hb hi2 hh⟩) (by omega) [] hI rfl rfl ⟨⟨_, rfl, .pure pu⟩, ⟨_, rfl, .pure pu⟩, ⟨_, rfl, .pure pu⟩, ⟨_, rfl, .pure pu⟩, trivial⟩ trivial
  ·obtain ⟨k1, k2, hh⟩ := hcs
   refine at_fs ⟨_, [], []⟩ 64 4 hmix (le_refl rfl) ?_
   refine fs_q 0 [] [] (y_p rfl) rfl rfl ?_
   refine fs_q 1 [] [] (y_p rfl) rfl rfl ?_
   refine fs_q 2 [1] [] (y_len Tryd.underlying46 rfl rfl rfl) rfl rfl ?_
   refine fs_q 3 [0, 2] [] ((y_p rfl).v (v' := .b true) (congrArg A.b (decide_eq_true (by omega)))) rfl rfl ?_
   refine fs_q 4 [3] [] (y_p rfl) rfl rfl ?_
   refine fs_qg 5 [4] [] rfl rfl (y_p rfl) rfl rfl ?_
   refine fs_qg 6 [4] [] rfl rfl (y_p rfl) rfl rfl ?_
   refine fs_qg 7 [4, 5, 6] [] rfl rfl (y_ixf i Tryd.underlying46 ti79 rfl rfl rfl (by omega) rfl) rfl rfl ?_
   refine fs_qg 8 [4, 7] [] rfl rfl (y_fldf Tryd.underlying79 rfl ti9 (by decide) rfl rfl) rfl rfl ?_
   refine fs_qg 9 [4, 8] [] rfl rfl (y_load ti9 rfl rfl (st_get0 ha)) rfl rfl ?_
   refine fs_qg 10 [4, 9] [] rfl rfl ((y_p rfl).v (v' := .b true) (congrArg A.b (by simpa using k1))) rfl rfl ?_
   refine fs_q 11 [4, 10] [] (y_p rfl) rfl rfl ?_
   refine fs_q 12 [11] [] (y_p rfl) rfl rfl ?_
   refine fs_qg 13 [12] [] rfl rfl (y_p rfl) rfl rfl ?_
   refine fs_qg 14 [12] [] rfl rfl (y_p rfl) rfl rfl ?_
   refine fs_qg 15 [12, 13, 14] [] rfl rfl (y_ixf i Tryd.underlying46 ti79 rfl rfl rfl (by omega) rfl) rfl rfl ?_
   refine fs_qg 16 [12, 15] [] rfl rfl (y_fldf Tryd.underlying79 rfl ti9 (by decide) rfl rfl) rfl rfl ?_
   refine fs_qg 17 [12, 16] [] rfl rfl (y_load ti9 rfl rfl (st_get0 ha)) rfl rfl ?_
   refine fs_qg 18 [12] [] rfl rfl (y_p rfl) rfl rfl ?_
   refine fs_qg 19 [12] [] rfl rfl (y_p rfl) rfl rfl ?_
   refine fs_qg 20 [12, 18, 19] [] rfl rfl (y_ixf i Tryd.underlying46 ti79 rfl rfl rfl (by omega) rfl) rfl rfl ?_
   refine fs_qg 21 [12, 20] [] rfl rfl (y_fldf Tryd.underlying79 rfl ti9 (by decide) rfl rfl) rfl rfl ?_
   refine fs_qg 22 [12, 21] [] rfl rfl (y_load ti9 rfl rfl (st_get0 hb)) rfl rfl ?_
   refine fs_qg 23 [12, 17, 22] [] rfl rfl ((y_p rfl).v (v' := .b false) (congrArg A.b (by simp [k2]))) rfl rfl ?_
   refine fs_q 24 [12, 23] [] (y_p rfl) rfl rfl ?_
   refine fs_q 25 [24] [] (y_p rfl) rfl rfl ?_
   refine fs_q0 26 [25] rfl rfl rfl rfl rfl ?_
   refine fs_q0 27 [25] rfl rfl rfl rfl rfl ?_
   refine fs_q0 28 [25, 26, 27] rfl rfl rfl rfl rfl ?_
   refine fs_q0 29 [25, 28] rfl rfl rfl rfl rfl ?_
   refine fs_q0 30 [25, 29] rfl rfl rfl rfl rfl ?_
   refine fs_q0 31 [25] rfl rfl rfl rfl rfl ?_
   refine fs_q0 32 [25] rfl rfl rfl rfl rfl ?_
   refine fs_q0 33 [25, 31, 32] rfl rfl rfl rfl rfl ?_
   refine fs_q0 34 [25, 33] rfl rfl rfl rfl rfl ?_
   refine fs_q0 35 [25, 34] rfl rfl rfl rfl rfl ?_
   refine fs_q0 36 [25, 30, 35] rfl rfl rfl rfl rfl ?_
   refine fs_q 37 [25, 36] [] (y_p rfl) rfl rfl ?_
   refine fs_q 38 [37] [] (y_p rfl) rfl rfl ?_
   refine fs_q0 39 [38] rfl rfl rfl rfl rfl ?_
   refine fs_q0 40 [38] rfl rfl rfl rfl rfl ?_
   refine fs_q0 41 [38, 39, 40] rfl rfl rfl rfl rfl ?_
   refine fs_q0 42 [38, 41] rfl rfl rfl rfl rfl ?_
   refine fs_q0 43 [38, 42] rfl rfl rfl rfl rfl ?_
   refine fs_q0 44 [38] rfl rfl rfl rfl rfl ?_
   refine fs_q0 45 [38] rfl rfl rfl rfl rfl ?_
   refine fs_q0 46 [38, 44, 45] rfl rfl rfl rfl rfl ?_
   refine fs_q0 47 [38, 46] rfl rfl rfl rfl rfl ?_
   refine fs_q0 48 [38, 47] rfl rfl rfl rfl rfl ?_
   refine fs_q0 49 [38, 48] rfl rfl rfl rfl rfl ?_
   refine fs_q0 50 [38, 43, 49] rfl rfl rfl rfl rfl ?_
   refine fs_q0 51 [38] rfl rfl rfl rfl rfl ?_
   refine fs_q0 52 [38] rfl rfl rfl rfl rfl ?_
   refine fs_q0 53 [38, 51, 52] rfl rfl rfl rfl rfl ?_
   refine fs_q0 54 [38, 53] rfl rfl rfl rfl rfl ?_
   refine fs_q0 55 [38, 54] rfl rfl rfl rfl rfl ?_
   refine fs_q0 56 [38] rfl rfl rfl rfl rfl ?_
   refine fs_q0 57 [38] rfl rfl rfl rfl rfl ?_
   refine fs_q0 58 [38, 56, 57] rfl rfl rfl rfl rfl ?_
   refine fs_q0 59 [38, 58] rfl rfl rfl rfl rfl ?_
   refine fs_q0 60 [38, 59] rfl rfl rfl rfl rfl ?_
   refine fs_q0 61 [38, 60] rfl rfl rfl rfl rfl ?_
   refine fs_q0 62 [38, 55, 61] rfl rfl rfl rfl rfl ?_
   refine fs_q0 63 [38, 50, 62] rfl rfl rfl rfl rfl ?_
   refine fs_end (by kernel_rfl) ?_
   refine s1 (y_p rfl) rfl ?_
   refine at_nil <| x_tn ?_
   refine at_else rfl ?_
   refine at_skip <| x_bn <| x_tn <| at_region <| s1 (addN _ 1 rfl rfl rfl rfl (by omega)) rfl <| s1 (y_p rfl) rfl ?_
   refine at_nil ?_
   exact at_end (i + 1) (⟨by omega, coll_next ha hb hi2 hh⟩) (by omega) [] hI rfl rfl ⟨⟨_, rfl, .pure pu⟩, ⟨_, rfl, .pure pu⟩, ⟨_, rfl, .pure pu⟩, ⟨_, rfl, .pure pu⟩, trivial⟩ trivial
  ·obtain ⟨k1, k2, k3, hh⟩ := hcs
   refine at_fs ⟨_, [], []⟩ 64 4 hmix (le_refl rfl) ?_
   refine fs_q 0 [] [] (y_p rfl) rfl rfl ?_
   refine fs_q 1 [] [] (y_p rfl) rfl rfl ?_
   refine fs_q 2 [1] [] (y_len Tryd.underlying46 rfl rfl rfl) rfl rfl ?_
   refine fs_q 3 [0, 2] [] ((y_p rfl).v (v' := .b true) (congrArg A.b (decide_eq_true (by omega)))) rfl rfl ?_
   refine fs_q 4 [3] [] (y_p rfl) rfl rfl ?_
   refine fs_qg 5 [4] [] rfl rfl (y_p rfl) rfl rfl ?_
   refine fs_qg 6 [4] [] rfl rfl (y_p rfl) rfl rfl ?_
   refine fs_qg 7 [4, 5, 6] [] rfl rfl (y_ixf i Tryd.underlying46 ti79 rfl rfl rfl (by omega) rfl) rfl rfl ?_
   refine fs_qg 8 [4, 7] [] rfl rfl (y_fldf Tryd.underlying79 rfl ti9 (by decide) rfl rfl) rfl rfl ?_
   refine fs_qg 9 [4, 8] [] rfl rfl (y_load ti9 rfl rfl (st_get0 ha)) rfl rfl ?_
   refine fs_qg 10 [4, 9] [] rfl rfl ((y_p rfl).v (v' := .b true) (congrArg A.b (by simpa using k1))) rfl rfl ?_
   refine fs_q 11 [4, 10] [] (y_p rfl) rfl rfl ?_
   refine fs_q 12 [11] [] (y_p rfl) rfl rfl ?_
   refine fs_qg 13 [12] [] rfl rfl (y_p rfl) rfl rfl ?_
   refine fs_qg 14 [12] [] rfl rfl (y_p rfl) rfl rfl ?_
   refine fs_qg 15 [12, 13, 14] [] rfl rfl (y_ixf i Tryd.underlying46 ti79 rfl rfl rfl (by omega) rfl) rfl rfl ?_
   refine fs_qg 16 [12, 15] [] rfl rfl (y_fldf Tryd.underlying79 rfl ti9 (by decide) rfl rfl) rfl rfl ?_
   refine fs_qg 17 [12, 16] [] rfl rfl (y_load ti9 rfl rfl (st_get0 ha)) rfl rfl ?_
   refine fs_qg 18 [12] [] rfl rfl (y_p rfl) rfl rfl ?_
   refine fs_qg 19 [12] [] rfl rfl (y_p rfl) rfl rfl ?_
   refine fs_qg 20 [12, 18, 19] [] rfl rfl (y_ixf i Tryd.underlying46 ti79 rfl rfl rfl (by omega) rfl) rfl rfl ?_
   refine fs_qg 21 [12, 20] [] rfl rfl (y_fldf Tryd.underlying79 rfl ti9 (by decide) rfl rfl) rfl rfl ?_
   refine fs_qg 22 [12, 21] [] rfl rfl (y_load ti9 rfl rfl (st_get0 hb)) rfl rfl ?_
   refine fs_qg 23 [12, 17, 22] [] rfl rfl ((y_p rfl).v (v' := .b true) (congrArg A.b (by simpa using k2))) rfl rfl ?_
   refine fs_q 24 [12, 23] [] (y_p rfl) rfl rfl ?_
   refine fs_q 25 [24] [] (y_p rfl) rfl rfl ?_
   refine fs_qg 26 [25] [] rfl rfl (y_p rfl) rfl rfl ?_
   refine fs_qg 27 [25] [] rfl rfl (y_p rfl) rfl rfl ?_
   refine fs_qg 28 [25, 26, 27] [] rfl rfl (y_ixf i Tryd.underlying46 ti79 rfl rfl rfl (by omega) rfl) rfl rfl ?_
   refine fs_qg 29 [25, 28] [] rfl rfl (y_fldf Tryd.underlying79 rfl ti9 (by decide) rfl rfl) rfl rfl ?_
   refine fs_qg 30 [25, 29] [] rfl rfl (y_load ti9 rfl rfl (st_get1 ha)) rfl rfl ?_
   refine fs_qg 31 [25] [] rfl rfl (y_p rfl) rfl rfl ?_
   refine fs_qg 32 [25] [] rfl rfl (y_p rfl) rfl rfl ?_
   refine fs_qg 33 [25, 31, 32] [] rfl rfl (y_ixf i Tryd.underlying46 ti79 rfl rfl rfl (by omega) rfl) rfl rfl ?_
   refine fs_qg 34 [25, 33] [] rfl rfl (y_fldf Tryd.underlying79 rfl ti9 (by decide) rfl rfl) rfl rfl ?_
   refine fs_qg 35 [25, 34] [] rfl rfl (y_load ti9 rfl rfl (st_get1 hb)) rfl rfl ?_
   refine fs_qg 36 [25, 30, 35] [] rfl rfl ((y_p rfl).v (v' := .b false) (congrArg A.b (by simp [k3]))) rfl rfl ?_
   refine fs_q 37 [25, 36] [] (y_p rfl) rfl rfl ?_
   refine fs_q 38 [37] [] (y_p rfl) rfl rfl ?_
   refine fs_q0 39 [38] rfl rfl rfl rfl rfl ?_
   refine fs_q0 40 [38] rfl rfl rfl rfl rfl ?_
   refine fs_q0 41 [38, 39, 40] rfl rfl rfl rfl rfl ?_
   refine fs_q0 42 [38, 41] rfl rfl rfl rfl rfl ?_
   refine fs_q0 43 [38, 42] rfl rfl rfl rfl rfl ?_
   refine fs_q0 44 [38] rfl rfl rfl rfl rfl ?_
   refine fs_q0 45 [38] rfl rfl rfl rfl rfl ?_
   refine fs_q0 46 [38, 44, 45] rfl rfl rfl rfl rfl ?_
   refine fs_q0 47 [38, 46] rfl rfl rfl rfl rfl ?_
   refine fs_q0 48 [38, 47] rfl rfl rfl rfl rfl ?_
   refine fs_q0 49 [38, 48] rfl rfl rfl rfl rfl ?_
   refine fs_q0 50 [38, 43, 49] rfl rfl rfl rfl rfl ?_
   refine fs_q0 51 [38] rfl rfl rfl rfl rfl ?_
   refine fs_q0 52 [38] rfl rfl rfl rfl rfl ?_
   refine fs_q0 53 [38, 51, 52] rfl rfl rfl rfl rfl ?_
   refine fs_q0 54 [38, 53] rfl rfl rfl rfl rfl ?_
   refine fs_q0 55 [38, 54] rfl rfl rfl rfl rfl ?_
   refine fs_q0 56 [38] rfl rfl rfl rfl rfl ?_
   refine fs_q0 57 [38] rfl rfl rfl rfl rfl ?_
   refine fs_q0 58 [38, 56, 57] rfl rfl rfl rfl rfl ?_
   refine fs_q0 59 [38, 58] rfl rfl rfl rfl rfl ?_
   refine fs_q0 60 [38, 59] rfl rfl rfl rfl rfl ?_
   refine fs_q0 61 [38, 60] rfl rfl rfl rfl rfl ?_
   refine fs_q0 62 [38, 55, 61] rfl rfl rfl rfl rfl ?_
   refine fs_q0 63 [38, 50, 62] rfl rfl rfl rfl rfl ?_
   refine fs_end (by kernel_rfl) ?_
   refine s1 (y_p rfl) rfl ?_
   refine at_nil <| x_tn ?_
   refine at_else rfl ?_
   refine at_skip <| x_bn <| x_tn <| at_region <| s1 (addN _ 1 rfl rfl rfl rfl (by omega)) rfl <| s1 (y_p rfl) rfl ?_
   refine at_nil ?_
   exact at_end (i + 1) (⟨by omega, coll_next ha hb hi2 hh⟩) (by omega) [] hI rfl rfl ⟨⟨_, rfl, .pure pu⟩, ⟨_, rfl, .pure pu⟩, ⟨_, rfl, .pure pu⟩, ⟨_, rfl, .pure pu⟩, trivial⟩ trivial
  ·obtain ⟨k1, k2, k3, k4, hh⟩ := hcs
   refine at_fs ⟨_, [], []⟩ 64 4 hmix (le_refl rfl) ?_
   refine fs_q 0 [] [] (y_p rfl) rfl rfl ?_
   refine fs_q 1 [] [] (y_p rfl) rfl rfl ?_
   refine fs_q 2 [1] [] (y_len Tryd.underlying46 rfl rfl rfl) rfl rfl ?_
   refine fs_q 3 [0, 2] [] ((y_p rfl).v (v' := .b true) (congrArg A.b (decide_eq_true (by omega)))) rfl rfl ?_
   refine fs_q 4 [3] [] (y_p rfl) rfl rfl ?_
   refine fs_qg 5 [4] [] rfl rfl (y_p rfl) rfl rfl ?_
   refine fs_qg 6 [4] [] rfl rfl (y_p rfl) rfl rfl ?_
   refine fs_qg 7 [4, 5, 6] [] rfl rfl (y_ixf i Tryd.underlying46 ti79 rfl rfl rfl (by omega) rfl) rfl rfl ?_
   refine fs_qg 8 [4, 7] [] rfl rfl (y_fldf Tryd.underlying79 rfl ti9 (by decide) rfl rfl) rfl rfl ?_
   refine fs_qg 9 [4, 8] [] rfl rfl (y_load ti9 rfl rfl (st_get0 ha)) rfl rfl ?_
   refine fs_qg 10 [4, 9] [] rfl rfl ((y_p rfl).v (v' := .b true) (congrArg A.b (by simpa using k1))) rfl rfl ?_
   refine fs_q 11 [4, 10] [] (y_p rfl) rfl rfl ?_
   refine fs_q 12 [11] [] (y_p rfl) rfl rfl ?_
   refine fs_qg 13 [12] [] rfl rfl (y_p rfl) rfl rfl ?_
   refine fs_qg 14 [12] [] rfl rfl (y_p rfl) rfl rfl ?_
   refine fs_qg 15 [12, 13, 14] [] rfl rfl (y_ixf i Tryd.underlying46 ti79 rfl rfl rfl (by omega) rfl) rfl rfl ?_
   refine fs_qg 16 [12, 15] [] rfl rfl (y_fldf Tryd.underlying79 rfl ti9 (by decide) rfl rfl) rfl rfl ?_
   refine fs_qg 17 [12, 16] [] rfl rfl (y_load ti9 rfl rfl (st_get0 ha)) rfl rfl ?_
   refine fs_qg 18 [12] [] rfl rfl (y_p rfl) rfl rfl ?_
   refine fs_qg 19 [12] [] rfl rfl (y_p rfl) rfl rfl ?_
   refine fs_qg 20 [12, 18, 19] [] rfl rfl (y_ixf i Tryd.underlying46 ti79 rfl rfl rfl (by omega) rfl) rfl rfl ?_
   refine fs_qg 21 [12, 20] [] rfl rfl (y_fldf Tryd.underlying79 rfl ti9 (by decide) rfl rfl) rfl rfl ?_
   refine fs_qg 22 [12, 21] [] rfl rfl (y_load ti9 rfl rfl (st_get0 hb)) rfl rfl ?_
   refine fs_qg 23 [12, 17, 22] [] rfl rfl ((y_p rfl).v (v' := .b true) (congrArg A.b (by simpa using k2))) rfl rfl ?_
   refine fs_q 24 [12, 23] [] (y_p rfl) rfl rfl ?_
   refine fs_q 25 [24] [] (y_p rfl) rfl rfl ?_
   refine fs_qg 26 [25] [] rfl rfl (y_p rfl) rfl rfl ?_
   refine fs_qg 27 [25] [] rfl rfl (y_p rfl) rfl rfl ?_
   refine fs_qg 28 [25, 26, 27] [] rfl rfl (y_ixf i Tryd.underlying46 ti79 rfl rfl rfl (by omega) rfl) rfl rfl ?_
   refine fs_qg 29 [25, 28] [] rfl rfl (y_fldf Tryd.underlying79 rfl ti9 (by decide) rfl rfl) rfl rfl ?_
   refine fs_qg 30 [25, 29] [] rfl rfl (y_load ti9 rfl rfl (st_get1 ha)) rfl rfl ?_
   refine fs_qg 31 [25] [] rfl rfl (y_p rfl) rfl rfl ?_
   refine fs_qg 32 [25] [] rfl rfl (y_p rfl) rfl rfl ?_
   refine fs_qg 33 [25, 31, 32] [] rfl rfl (y_ixf i Tryd.underlying46 ti79 rfl rfl rfl (by omega) rfl) rfl rfl ?_
   refine fs_qg 34 [25, 33] [] rfl rfl (y_fldf Tryd.underlying79 rfl ti9 (by decide) rfl rfl) rfl rfl ?_
   refine fs_qg 35 [25, 34] [] rfl rfl (y_load ti9 rfl rfl (st_get1 hb)) rfl rfl ?_
   refine fs_qg 36 [25, 30, 35] [] rfl rfl ((y_p rfl).v (v' := .b true) (congrArg A.b (by simpa using k3))) rfl rfl ?_
   refine fs_q 37 [25, 36] [] (y_p rfl) rfl rfl ?_
   refine fs_q 38 [37] [] (y_p rfl) rfl rfl ?_
   refine fs_qg 39 [38] [] rfl rfl (y_p rfl) rfl rfl ?_
   refine fs_qg 40 [38] [] rfl rfl (y_p rfl) rfl rfl ?_
   refine fs_qg 41 [38, 39, 40] [] rfl rfl (y_ixf i Tryd.underlying46 ti79 rfl rfl rfl (by omega) rfl) rfl rfl ?_
   refine fs_qg 42 [38, 41] [] rfl rfl (y_fldf Tryd.underlying79 rfl ti9 (by decide) rfl rfl) rfl rfl ?_
   refine fs_qg 43 [38, 42] [] rfl rfl (y_load ti9 rfl rfl (st_get0 ha)) rfl rfl ?_
   refine fs_qg 44 [38] [] rfl rfl (y_p rfl) rfl rfl ?_
   refine fs_qg 45 [38] [] rfl rfl (y_p rfl) rfl rfl ?_
   refine fs_qg 46 [38, 44, 45] [] rfl rfl (y_ixf i Tryd.underlying46 ti79 rfl rfl rfl (by omega) rfl) rfl rfl ?_
   refine fs_qg 47 [38, 46] [] rfl rfl (y_fldf Tryd.underlying79 rfl ti9 (by decide) rfl rfl) rfl rfl ?_
   refine fs_qg 48 [38, 47] [] rfl rfl (y_load ti9 rfl rfl (st_get1 ha)) rfl rfl ?_
   refine fs_s2b 49 [38, 48] [] (gy1 rfl rfl) Tryd.underlying9 Tryd.underlying65 Tryd.underlying5 rfl (by first | omega | (simp only [maxLen]; omega) | (simp [maxLen]; done) | (simp [maxLen]; omega) | (simp [maxLen, *]; omega)) rfl rfl ?_
   refine fs_call false 50 [38, 43, 49] [] (gy1 rfl rfl) rfl (.cons (.pure pu) (.cons (.pure pu) (.nil))) (tagged_ok a.1 a.2 (by omega) (by omega)) pu (.inl rfl) rfl rfl ?_
   refine fs_qg 51 [38] [] rfl rfl (y_p rfl) rfl rfl ?_
   refine fs_qg 52 [38] [] rfl rfl (y_p rfl) rfl rfl ?_
   refine fs_qg 53 [38, 51, 52] [] rfl rfl (y_ixf i Tryd.underlying46 ti79 rfl rfl rfl (by omega) rfl) rfl rfl ?_
   refine fs_qg 54 [38, 53] [] rfl rfl (y_fldf Tryd.underlying79 rfl ti9 (by decide) rfl rfl) rfl rfl ?_
   refine fs_qg 55 [38, 54] [] rfl rfl (y_load ti9 rfl rfl (st_get0 hb)) rfl rfl ?_
   refine fs_qg 56 [38] [] rfl rfl (y_p rfl) rfl rfl ?_
   refine fs_qg 57 [38] [] rfl rfl (y_p rfl) rfl rfl ?_
   refine fs_qg 58 [38, 56, 57] [] rfl rfl (y_ixf i Tryd.underlying46 ti79 rfl rfl rfl (by omega) rfl) rfl rfl ?_
   refine fs_qg 59 [38, 58] [] rfl rfl (y_fldf Tryd.underlying79 rfl ti9 (by decide) rfl rfl) rfl rfl ?_
   refine fs_qg 60 [38, 59] [] rfl rfl (y_load ti9 rfl rfl (st_get1 hb)) rfl rfl ?_
   refine fs_s2b 61 [38, 60] [] (gy1 rfl rfl) Tryd.underlying9 Tryd.underlying65 Tryd.underlying5 rfl (by first | omega | (simp only [maxLen]; omega) | (simp [maxLen]; done) | (simp [maxLen]; omega) | (simp [maxLen, *]; omega)) rfl rfl ?_
   refine fs_call false 62 [38, 55, 61] [] (gy1 rfl rfl) rfl (.cons (.pure pu) (.cons (.pure pu) (.nil))) (tagged_ok b.1 b.2 (by omega) (by omega)) pu (.inl rfl) rfl rfl ?_
   refine fs_qg 63 [38, 50, 62] [] rfl rfl ((y_aq Tryd.underlying23 Tryd.underlying5 ti5 (by kernel_rfl) rfl rfl (by simp) (by simp)).v (v' := .b false) (congrArg A.b (by simp [k4]))) rfl rfl ?_
   refine fs_end (by kernel_rfl) ?_
   refine s1 (y_p rfl) rfl ?_
   refine at_nil <| x_tn ?_
   refine at_else rfl ?_
   refine at_skip <| x_bn <| x_tn <| at_region <| s1 (addN _ 1 rfl rfl rfl rfl (by omega)) rfl <| s1 (y_p rfl) rfl ?_
   refine at_nil ?_
   exact at_end (i + 1) (⟨by omega, coll_next ha hb hi2 hh⟩) (by omega) [] hI rfl rfl ⟨⟨_, rfl, .pure pu⟩, ⟨_, rfl, .pure pu⟩, ⟨_, rfl, .pure pu⟩, ⟨_, rfl, .pure pu⟩, trivial⟩ trivial
  ·obtain ⟨k1, k2, k3, k4, hh⟩ := hcs
   refine at_fs ⟨_, [], []⟩ 64 4 hmix (le_refl rfl) ?_
   refine fs_q 0 [] [] (y_p rfl) rfl rfl ?_
   refine fs_q 1 [] [] (y_p rfl) rfl rfl ?_
   refine fs_q 2 [1] [] (y_len Tryd.underlying46 rfl rfl rfl) rfl rfl ?_
   refine fs_q 3 [0, 2] [] ((y_p rfl).v (v' := .b true) (congrArg A.b (decide_eq_true (by omega)))) rfl rfl ?_
   refine fs_q 4 [3] [] (y_p rfl) rfl rfl ?_
   refine fs_qg 5 [4] [] rfl rfl (y_p rfl) rfl rfl ?_
   refine fs_qg 6 [4] [] rfl rfl (y_p rfl) rfl rfl ?_
   refine fs_qg 7 [4, 5, 6] [] rfl rfl (y_ixf i Tryd.underlying46 ti79 rfl rfl rfl (by omega) rfl) rfl rfl ?_
   refine fs_qg 8 [4, 7] [] rfl rfl (y_fldf Tryd.underlying79 rfl ti9 (by decide) rfl rfl) rfl rfl ?_
   refine fs_qg 9 [4, 8] [] rfl rfl (y_load ti9 rfl rfl (st_get0 ha)) rfl rfl ?_
   refine fs_qg 10 [4, 9] [] rfl rfl ((y_p rfl).v (v' := .b true) (congrArg A.b (by simpa using k1))) rfl rfl ?_
   refine fs_q 11 [4, 10] [] (y_p rfl) rfl rfl ?_
   refine fs_q 12 [11] [] (y_p rfl) rfl rfl ?_
   refine fs_qg 13 [12] [] rfl rfl (y_p rfl) rfl rfl ?_
   refine fs_qg 14 [12] [] rfl rfl (y_p rfl) rfl rfl ?_
   refine fs_qg 15 [12, 13, 14] [] rfl rfl (y_ixf i Tryd.underlying46 ti79 rfl rfl rfl (by omega) rfl) rfl rfl ?_
   refine fs_qg 16 [12, 15] [] rfl rfl (y_fldf Tryd.underlying79 rfl ti9 (by decide) rfl rfl) rfl rfl ?_
   refine fs_qg 17 [12, 16] [] rfl rfl (y_load ti9 rfl rfl (st_get0 ha)) rfl rfl ?_
   refine fs_qg 18 [12] [] rfl rfl (y_p rfl) rfl rfl ?_
   refine fs_qg 19 [12] [] rfl rfl (y_p rfl) rfl rfl ?_
   refine fs_qg 20 [12, 18, 19] [] rfl rfl (y_ixf i Tryd.underlying46 ti79 rfl rfl rfl (by omega) rfl) rfl rfl ?_
   refine fs_qg 21 [12, 20] [] rfl rfl (y_fldf Tryd.underlying79 rfl ti9 (by decide) rfl rfl) rfl rfl ?_
   refine fs_qg 22 [12, 21] [] rfl rfl (y_load ti9 rfl rfl (st_get0 hb)) rfl rfl ?_
   refine fs_qg 23 [12, 17, 22] [] rfl rfl ((y_p rfl).v (v' := .b true) (congrArg A.b (by simpa using k2))) rfl rfl ?_
   refine fs_q 24 [12, 23] [] (y_p rfl) rfl rfl ?_
   refine fs_q 25 [24] [] (y_p rfl) rfl rfl ?_
   refine fs_qg 26 [25] [] rfl rfl (y_p rfl) rfl rfl ?_
   refine fs_qg 27 [25] [] rfl rfl (y_p rfl) rfl rfl ?_
   refine fs_qg 28 [25, 26, 27] [] rfl rfl (y_ixf i Tryd.underlying46 ti79 rfl rfl rfl (by omega) rfl) rfl rfl ?_
   refine fs_qg 29 [25, 28] [] rfl rfl (y_fldf Tryd.underlying79 rfl ti9 (by decide) rfl rfl) rfl rfl ?_
   refine fs_qg 30 [25, 29] [] rfl rfl (y_load ti9 rfl rfl (st_get1 ha)) rfl rfl ?_
   refine fs_qg 31 [25] [] rfl rfl (y_p rfl) rfl rfl ?_
   refine fs_qg 32 [25] [] rfl rfl (y_p rfl) rfl rfl ?_
   refine fs_qg 33 [25, 31, 32] [] rfl rfl (y_ixf i Tryd.underlying46 ti79 rfl rfl rfl (by omega) rfl) rfl rfl ?_
   refine fs_qg 34 [25, 33] [] rfl rfl (y_fldf Tryd.underlying79 rfl ti9 (by decide) rfl rfl) rfl rfl ?_
   refine fs_qg 35 [25, 34] [] rfl rfl (y_load ti9 rfl rfl (st_get1 hb)) rfl rfl ?_
   refine fs_qg 36 [25, 30, 35] [] rfl rfl ((y_p rfl).v (v' := .b true) (congrArg A.b (by simpa using k3))) rfl rfl ?_
   refine fs_q 37 [25, 36] [] (y_p rfl) rfl rfl ?_
   refine fs_q 38 [37] [] (y_p rfl) rfl rfl ?_
   refine fs_qg 39 [38] [] rfl rfl (y_p rfl) rfl rfl ?_
   refine fs_qg 40 [38] [] rfl rfl (y_p rfl) rfl rfl ?_
   refine fs_qg 41 [38, 39, 40] [] rfl rfl (y_ixf i Tryd.underlying46 ti79 rfl rfl rfl (by omega) rfl) rfl rfl ?_
   refine fs_qg 42 [38, 41] [] rfl rfl (y_fldf Tryd.underlying79 rfl ti9 (by decide) rfl rfl) rfl rfl ?_
   refine fs_qg 43 [38, 42] [] rfl rfl (y_load ti9 rfl rfl (st_get0 ha)) rfl rfl ?_
   refine fs_qg 44 [38] [] rfl rfl (y_p rfl) rfl rfl ?_
   refine fs_qg 45 [38] [] rfl rfl (y_p rfl) rfl rfl ?_
   refine fs_qg 46 [38, 44, 45] [] rfl rfl (y_ixf i Tryd.underlying46 ti79 rfl rfl rfl (by omega) rfl) rfl rfl ?_
   refine fs_qg 47 [38, 46] [] rfl rfl (y_fldf Tryd.underlying79 rfl ti9 (by decide) rfl rfl) rfl rfl ?_
   refine fs_qg 48 [38, 47] [] rfl rfl (y_load ti9 rfl rfl (st_get1 ha)) rfl rfl ?_
   refine fs_s2b 49 [38, 48] [] (gy1 rfl rfl) Tryd.underlying9 Tryd.underlying65 Tryd.underlying5 rfl (by first | omega | (simp only [maxLen]; omega) | (simp [maxLen]; done) | (simp [maxLen]; omega) | (simp [maxLen, *]; omega)) rfl rfl ?_
   refine fs_call false 50 [38, 43, 49] [] (gy1 rfl rfl) rfl (.cons (.pure pu) (.cons (.pure pu) (.nil))) (tagged_ok a.1 a.2 (by omega) (by omega)) pu (.inl rfl) rfl rfl ?_
   refine fs_qg 51 [38] [] rfl rfl (y_p rfl) rfl rfl ?_
   refine fs_qg 52 [38] [] rfl rfl (y_p rfl) rfl rfl ?_
   refine fs_qg 53 [38, 51, 52] [] rfl rfl (y_ixf i Tryd.underlying46 ti79 rfl rfl rfl (by omega) rfl) rfl rfl ?_
   refine fs_qg 54 [38, 53] [] rfl rfl (y_fldf Tryd.underlying79 rfl ti9 (by decide) rfl rfl) rfl rfl ?_
   refine fs_qg 55 [38, 54] [] rfl rfl (y_load ti9 rfl rfl (st_get0 hb)) rfl rfl ?_
   refine fs_qg 56 [38] [] rfl rfl (y_p rfl) rfl rfl ?_
   refine fs_qg 57 [38] [] rfl rfl (y_p rfl) rfl rfl ?_
   refine fs_qg 58 [38, 56, 57] [] rfl rfl (y_ixf i Tryd.underlying46 ti79 rfl rfl rfl (by omega) rfl) rfl rfl ?_
   refine fs_qg 59 [38, 58] [] rfl rfl (y_fldf Tryd.underlying79 rfl ti9 (by decide) rfl rfl) rfl rfl ?_
   refine fs_qg 60 [38, 59] [] rfl rfl (y_load ti9 rfl rfl (st_get1 hb)) rfl rfl ?_
   refine fs_s2b 61 [38, 60] [] (gy1 rfl rfl) Tryd.underlying9 Tryd.underlying65 Tryd.underlying5 rfl (by first | omega | (simp only [maxLen]; omega) | (simp [maxLen]; done) | (simp [maxLen]; omega) | (simp [maxLen, *]; omega)) rfl rfl ?_
   refine fs_call false 62 [38, 55, 61] [] (gy1 rfl rfl) rfl (.cons (.pure pu) (.cons (.pure pu) (.nil))) (tagged_ok b.1 b.2 (by omega) (by omega)) pu (.inl rfl) rfl rfl ?_
   refine fs_qg 63 [38, 50, 62] [] rfl rfl ((y_aq Tryd.underlying23 Tryd.underlying5 ti5 (by kernel_rfl) rfl rfl (by simp) (by simp)).v (v' := .b true) (congrArg A.b (by simpa using k4))) rfl rfl ?_
   refine fs_end (by kernel_rfl) ?_
   refine s1 (y_p rfl) rfl ?_
   refine at_nil <| x_tn ?_
   refine at_then rfl ?_
   refine at_seq <| at_region <| s1 (y_p rfl) rfl ?_
   refine at_nil <| x_tn <| at_ret <| x_br <| x_tr <| x_tr <| x_br <| x_tr ?_
   refine at_result (rs := [.tmp 4]) rfl (r_tmp rfl r_nil) ?_
   exact congrArg A.b (coll_yes ha hb hh).symm
 ·obtain rfl : i = l.length := by have := of_decide_eq_false hc9; omega
  refine at_exit <| x_te <| x_te <| x_be <| x_tn <| at_seq <| at_region <| s1 (y_p rfl) rfl ?_
  refine at_nil <| x_tn <| at_ret ?_
  refine at_result (rs := [.tmp 4]) rfl (r_tmp rfl r_nil) ?_
  exact congrArg A.b (coll_end hl hi2).symm
theorem lway_ok (S P : List (List UInt8)) (m : List UInt8) (a n : Nat) (hS : D32 S) (hSl : S.length = 19) (hP : D32 P) (hn : n ≤ 1000) (ha : a < n) (hfit : P.length = (rights a n).length) : Con Tryd.prog 26 [dgs S, .fz 19 ((digits m).map nI), nI a, nI n, dgs P] (Ret (.fz (wayS S m a n P).length ((wayS S m a n P).flatMap stC))) := by
 refine enter Tryd.func26 rfl Tryd.ntmps26 (by kernel_rfl) (Nat.le_of_ble_eq_true rfl) fun w0 X0 hI => ?_
 refine at_seq <| at_region <| s1 (y_p rfl) rfl ?_
 refine at_nil <| x_tn <| at_seq <| at_region <| s1 (y_p rfl) rfl ?_
 refine at_nil <| x_tn <| at_seq <| at_region <| s1 (y_p rfl) rfl ?_
 refine at_nil <| x_tn <| at_seq <| at_seq <| at_region <| s1 (y_p rfl) rfl <| s1 ((y_len Tryd.underlying26 rfl rfl rfl).v (v' := nI 19) (congrArg nI hSl)) rfl <| s1 ((y_p rfl).v (v' := .i .i64 0) rfl) rfl ?_
 refine at_nil <| x_tn <| at_block ?_
 refine at_loop (ι := Nat) (fun i => [(1, .fz 19 ((digits m).map nI)), (2, nI a), (3, nI n), (4, dgs P), (11, .sl 142 2 0 (3 * i)), (12, .sl 147 1 0 (32 * i)), (16, dgs S), (17, nI 19), (18, nI i)]) (fun i => ⟨[(142, some ((chainsS S m i).flatMap stC)), (147, some ((recL m S i).flatten.map u8))]⟩) (fun i => i ≤ 19) (fun i => 19 - i) ?_ ?_
 ·exact at_ex (0) (Nat.zero_le _) [(142, none), (147, none)] hI rfl rfl ⟨⟨_, rfl, .pure pu⟩, ⟨_, rfl, .pure pu⟩, ⟨_, rfl, .pure pu⟩, ⟨_, rfl, .pure pu⟩, ⟨_, rfl, .nl rfl⟩, ⟨_, rfl, .nl rfl⟩, ⟨_, rfl, .pure pu⟩, ⟨_, rfl, .pure pu⟩, ⟨_, rfl, .pure pu⟩, trivial⟩ ⟨.inl ⟨rfl, rfl⟩, .inl ⟨rfl, rfl⟩, trivial⟩
 rintro i hi
 have hwl := len_chainsS S m i
 have hwc := len_stC (chainsS S m i)
 have hrl := len_recF (m := m) hS hSl hi
 refine at_seq <| at_region <| s1 (y_p rfl) rfl ?_
 refine at_nil <| x_tn <| at_seq ?_
 refine at_cond rfl (fun hc19 => ?_) (fun hc19 => ?_)
 ·have h19 : i < 19 := by have := of_decide_eq_true hc19; omega
  obtain ⟨z, hz⟩ : ∃ z, S[i]? = some z := ⟨_, List.getElem?_eq_getElem (by omega)⟩
  have hz32 := hS z (List.mem_of_getElem? hz)
  have hdl := dg_lt m i
  refine at_skip <| x_tn <| at_seq <| at_block <| at_seq <| at_region <| s1 (y_p rfl) rfl <| s1 (y_ixf i Tryd.underlying26 ti23 rfl rfl rfl (by omega) rfl) rfl <| s1 (y_loadA ti23 rfl rfl (get_d hS hz) (by simp [hz32])) rfl ?_
  refine at_op rfl (n_alloc 14 rfl ti23 rfl rfl ?_)
  refine s1 (y_p rfl) rfl ?_
  refine at_op rfl (n_storeA ti23 rfl rfl rfl (by simp [hz32]) (by first | rfl | omega | (simp <;> omega) | (simp [*] <;> omega)) ?_)
  refine at_nil <| x_tn <| at_seq <| at_seq <| at_region <| s1 ((y_p rfl).v (v' := .i .i64 0) rfl) rfl ?_
  refine at_nil <| x_tn <| at_block ?_
  refine at_loop (ι := Nat) (fun k => [(1, .fz 19 ((digits m).map nI)), (2, nI a), (3, nI n), (4, dgs P), (11, .sl 142 2 0 (3 * i + k)), (12, .sl 147 1 0 (32 * i)), (13, nI i), (14, .p 14 0), (15, nI k), (16, dgs S), (17, nI 19), (18, nI i)]) (fun k => ⟨[(14, some ((iterD (k - dg m i) z).map u8)), (142, some (((chainsS S m i ++ (chS z (dg m i)).take k)).flatMap stC)), (147, some ((recL m S i).flatten.map u8))]⟩) (fun k => k ≤ 3) (fun k => 3 - k) ?_ ?_
  ·exact at_ex (0) (Nat.zero_le _) [(14, some 14), (142, some 142), (147, some 147)] hI rfl rfl ⟨⟨_, rfl, .pure pu⟩, ⟨_, rfl, .pure pu⟩, ⟨_, rfl, .pure pu⟩, ⟨_, rfl, .pure pu⟩, ⟨_, rfl, .sl rfl (by first | rfl | omega | (simp <;> omega) | (simp [*] <;> omega))⟩, ⟨_, rfl, .sl rfl (by first | rfl | omega | (simp <;> omega) | (simp [*] <;> omega))⟩, ⟨_, rfl, .pure pu⟩, ⟨_, rfl, .p rfl⟩, ⟨_, rfl, .pure pu⟩, ⟨_, rfl, .pure pu⟩, ⟨_, rfl, .pure pu⟩, ⟨_, rfl, .pure pu⟩, trivial⟩ ⟨.inr ⟨_, _, rfl, rfl, .of (by rw [Nat.zero_sub]; rfl) (.pure pul)⟩, .inr ⟨_, _, rfl, rfl, .of (by simp) (.pure pul)⟩, .inr ⟨_, _, rfl, rfl, .pure pul⟩, trivial⟩
  rintro k hk
  have hck := len_stC (chainsS S m i ++ (chS z (dg m i)).take k)
  have hcl := len_chK (S := S) (m := m) (z := z) i hk
  have hiz := len_iterD hz32 (k - dg m i)
  refine at_seq <| at_seq <| at_region <| s1 (y_p rfl) rfl <| s1 (y_p rfl) rfl ?_
  refine at_nil <| x_tn ?_
  refine at_cond rfl (fun hc24 => ?_) (fun hc24 => ?_)
  ·have h24 : k < 3 := by have := of_decide_eq_true hc24; omega
   refine at_skip <| x_tn <| at_seq <| at_block <| at_seq <| at_seq <| at_region <| s1 (y_p rfl) rfl <| s1 (y_p rfl) rfl <| s1 (y_p rfl) rfl <| s1 (y_ixf i Tryd.underlying42 ti3 rfl rfl rfl (by omega) rfl) rfl <| s1 (y_load ti3 rfl rfl (get_dig3 m i h19)) rfl <| s1 (y_p rfl) rfl ?_
   refine at_nil <| x_tn ?_
   refine at_cond rfl (fun hc32 => ?_) (fun hc32 => ?_)
   ·have h32 : k < dg m i := by have := of_decide_eq_true hc32; omega
    refine at_seq <| at_region <| s1 (y_p rfl) rfl <| s1 (y_bld (out := [_, _]) [[evC (.string ByteArray.empty)], [evC (.string ByteArray.empty)]] ti79 rfl Tryd.underlying79 (by kernel_rfl) rfl rfl trivial rfl) rfl ?_
    refine at_op rfl (n_bs 35 rfl Tryd.underlying46 ti79 rfl rfl rfl (by simp [cellsA]) (show _ = [A.s [], A.s []] from rfl) rfl rfl rfl ?_)
    refine at_op rfl (n_app 36 rfl Tryd.underlying46 ti79 rfl (.sl rfl (by rw [hck, hcl])) rfl (SM_full rfl (by first | rfl | omega | (simp <;> omega) | (simp [*] <;> omega))) (by simp) (by simp only [maxLen]; omega) (by omega) rfl (ch_lo h32 h24) rfl ?_)
    refine s1 (y_p rfl) rfl ?_
    refine at_nil <| x_tn <| at_exit <| x_te <| x_be <| x_tn <| at_region <| s1 (y_p rfl) rfl <| s1 (addN _ 1 rfl rfl rfl rfl (by omega)) rfl <| s1 (y_p rfl) rfl ?_
    refine at_nil ?_
    exact at_end (k + 1) (by omega) (by omega) [(14, some 14), (142, some 36), (147, some 147)] hI rfl rfl ⟨⟨_, rfl, .pure pu⟩, ⟨_, rfl, .pure pu⟩, ⟨_, rfl, .pure pu⟩, ⟨_, rfl, .pure pu⟩, ⟨_, rfl, .sl rfl (by first | rfl | omega | (simp <;> omega) | (simp [*] <;> omega))⟩, ⟨_, rfl, .sl rfl (by first | rfl | omega | (simp <;> omega) | (simp [*] <;> omega))⟩, ⟨_, rfl, .pure pu⟩, ⟨_, rfl, .p rfl⟩, ⟨_, rfl, .pure pu⟩, ⟨_, rfl, .pure pu⟩, ⟨_, rfl, .pure pu⟩, ⟨_, rfl, .pure pu⟩, trivial⟩ ⟨.inr ⟨_, _, rfl, rfl, .of (by rw [show k + 1 - dg m i = 0 by omega, show k - dg m i = 0 by omega]) (.pure pul)⟩, .inr ⟨_, _, rfl, rfl, .pure pul⟩, .inr ⟨_, _, rfl, rfl, .pure pul⟩, trivial⟩
   ·have h32 : ¬ k < dg m i := by have := of_decide_eq_false hc32; omega
    refine at_skip <| x_tn <| at_seq <| at_region <| s1 (y_p rfl) rfl <| s1 (y_cuta0 Tryd.underlying23 ti5 rfl rfl (by rw [List.length_map]; omega) (by simp [maxLen])) rfl <| s1 (y_str (l := (iterD (k - dg m i) z)) Tryd.underlying65 Tryd.underlying5 Tryd.underlying9 rfl (SM_full rfl (by rw [List.length_map]; exact hiz)) hiz) rfl <| s1 (y_bld (out := [_, _]) [[evC (.string ByteArray.empty)], [evC (.string ByteArray.empty)]] ti79 rfl Tryd.underlying79 (by kernel_rfl) rfl rfl ⟨⟨by (first | rfl | omega | (simp; done) | (simp [*]; done) | (simp [cellsA, *]; done)), rfl⟩, ⟨⟨by (first | rfl | omega | (simp; done) | (simp [*]; done) | (simp [cellsA, *]; done)), rfl⟩, trivial⟩⟩ rfl) rfl ?_
    refine at_op rfl (n_bs 41 rfl Tryd.underlying46 ti79 rfl rfl rfl (by simp [cellsA]) (show _ = [A.s tStep, A.s (iterD (k - dg m i) z)] from rfl) rfl rfl rfl ?_)
    refine at_op rfl (n_app 42 rfl Tryd.underlying46 ti79 rfl (.sl rfl (by rw [hck, hcl])) rfl (SM_full rfl (by first | rfl | omega | (simp <;> omega) | (simp [*] <;> omega))) (by simp) (by simp only [maxLen]; omega) (by omega) rfl (ch_hi h32 h24) rfl ?_)
    refine s1 (y_p rfl) rfl ?_
    refine at_nil <| x_tn <| at_region <| s1 (y_cuta0 Tryd.underlying23 ti5 rfl rfl (by rw [List.length_map]; omega) (by simp [maxLen])) rfl ?_
    refine at_op rfl (n_call true rfl (.cons (.pure pu) (.cons (.sl rfl rfl rfl (view_eq (by rw [List.length_map]; omega) rfl) (VwL.pure pul) pul) .nil)) (step_tag6 (iterD (k - dg m i) z) hiz) pu (.inr fu) rfl ?_)
    refine at_op rfl (n_storeA ti23 rfl rfl rfl (by simp) (by rw [List.length_map]; exact hiz) ?_)
    refine at_nil <| x_bn <| x_tn <| at_region <| s1 (y_p rfl) rfl <| s1 (addN _ 1 rfl rfl rfl rfl (by omega)) rfl <| s1 (y_p rfl) rfl ?_
    refine at_nil ?_
    exact at_end (k + 1) (by omega) (by omega) [(14, some 14), (142, some 42), (147, some 147)] hI rfl rfl ⟨⟨_, rfl, .pure pu⟩, ⟨_, rfl, .pure pu⟩, ⟨_, rfl, .pure pu⟩, ⟨_, rfl, .pure pu⟩, ⟨_, rfl, .sl rfl (by first | rfl | omega | (simp <;> omega) | (simp [*] <;> omega))⟩, ⟨_, rfl, .sl rfl (by first | rfl | omega | (simp <;> omega) | (simp [*] <;> omega))⟩, ⟨_, rfl, .pure pu⟩, ⟨_, rfl, .p rfl⟩, ⟨_, rfl, .pure pu⟩, ⟨_, rfl, .pure pu⟩, ⟨_, rfl, .pure pu⟩, ⟨_, rfl, .pure pu⟩, trivial⟩ ⟨.inr ⟨_, _, rfl, rfl, .of (by rw [show k + 1 - dg m i = (k - dg m i) + 1 by omega]; rfl) (.pure pul)⟩, .inr ⟨_, _, rfl, rfl, .pure pul⟩, .inr ⟨_, _, rfl, rfl, .pure pul⟩, trivial⟩
  ·obtain rfl : k = 3 := by have := of_decide_eq_false hc24; omega
   refine at_exit <| x_te <| x_te <| x_be <| x_tn <| at_region <| s1 (y_p rfl) rfl <| s1 (y_cuta0 Tryd.underlying23 ti5 rfl rfl (by rw [List.length_map]; omega) (by simp [maxLen])) rfl ?_
   refine at_op rfl (n_app 47 rfl Tryd.underlying65 ti5 rfl (.sl rfl (by rw [hrl]; omega)) rfl (SM_full rfl (by rw [List.length_map]; exact hiz)) (by rw [List.length_map, hiz]) (by simp only [maxLen]; omega) (by omega) rfl (rec_snoc hz) rfl ?_)
   refine s1 (y_p rfl) rfl ?_
   refine at_nil <| x_bn <| x_tn <| at_region <| s1 (addN _ 1 rfl rfl rfl rfl (by omega)) rfl <| s1 (y_p rfl) rfl ?_
   refine at_nil ?_
   exact at_end (i + 1) (by omega) (by omega) [(142, some 142), (147, some 47)] hI rfl rfl ⟨⟨_, rfl, .pure pu⟩, ⟨_, rfl, .pure pu⟩, ⟨_, rfl, .pure pu⟩, ⟨_, rfl, .pure pu⟩, ⟨_, rfl, .sl rfl (by first | rfl | omega | (simp <;> omega) | (simp [*] <;> omega))⟩, ⟨_, rfl, .sl rfl (by first | rfl | omega | (simp <;> omega) | (simp [*] <;> omega))⟩, ⟨_, rfl, .pure pu⟩, ⟨_, rfl, .pure pu⟩, ⟨_, rfl, .pure pu⟩, trivial⟩ ⟨.inr ⟨_, _, rfl, rfl, .of (by rw [ch_end hz]) (.pure pul)⟩, .inr ⟨_, _, rfl, rfl, .pure pul⟩, trivial⟩
 ·obtain rfl : i = 19 := by have := of_decide_eq_false hc19; omega
  refine at_exit <| x_te <| x_te <| x_be <| x_tn <| at_seq ?_
  refine at_frz 12 rfl rfl pul (view_eq hrl rfl) ?_
  refine at_say 12 rfl (v' := .fz (recL m S 19).flatten.length ((recL m S 19).flatten.map u8)) (by rw [← hrl, List.length_map]) ?_
  refine at_region <| s1 (y_p rfl) rfl <| s1 (y_p rfl) rfl <| s1 (y_str (l := (recL m S 19).flatten) Tryd.underlying65 Tryd.underlying5 Tryd.underlying9 rfl rfl rfl) rfl <| s1 (y_bld (out := [_, _]) [[evC (.string ByteArray.empty)], [evC (.string ByteArray.empty)]] ti79 rfl Tryd.underlying79 (by kernel_rfl) rfl rfl ⟨⟨by (first | rfl | omega | (simp; done) | (simp [*]; done) | (simp [cellsA, *]; done)), rfl⟩, ⟨⟨by (first | rfl | omega | (simp; done) | (simp [*]; done) | (simp [cellsA, *]; done)), rfl⟩, trivial⟩⟩ rfl) rfl ?_
  refine at_op rfl (n_bs 53 rfl Tryd.underlying46 ti79 rfl rfl rfl (by simp [cellsA]) (show _ = [A.s tPub, A.s (recL m S 19).flatten] from rfl) rfl rfl rfl ?_)
  refine at_op rfl (n_app 54 rfl Tryd.underlying46 ti79 rfl (.sl rfl (by rw [hwc, hwl])) rfl (SM_full rfl (by first | rfl | omega | (simp <;> omega) | (simp [*] <;> omega))) (by simp) (by simp only [maxLen]; omega) (by omega) rfl (st_snoc _ (tPub, _)) rfl ?_)
  refine s1 (y_p rfl) rfl ?_
  refine at_nil <| x_tn <| at_seq <| at_region <| s1 (y_p rfl) rfl <| s1 (y_p rfl) rfl ?_
  refine at_op rfl (n_call false rfl (.cons (.pure pu) (.cons (.pure pu) (.nil))) (Con.cast (tagged_ok tPub (recL m S 19).flatten (by have := hrl; rw [List.length_map] at this; omega) (by decide)) (congrArg (fun l : List UInt8 => A.ag (l.map u8)) (keyD_eq _).symm)) pu (.inl rfl) rfl ?_)
  refine s1 (y_p rfl) rfl <| s1 (y_p rfl) rfl <| s1 (y_p rfl) rfl ?_
  refine at_say 56 rfl (v' := .sl 54 2 0 (chainsS S m 19 ++ [(tPub, (recL m S 19).flatten)]).length) (by simp [hwl]) ?_
  refine at_op rfl (n_callHM (mk := fun j => .tu [.sl j 2 0 (chainsS S m 19 ++ [(tPub, (recL m S 19).flatten)] ++ clS (keyD (recL m S 19)) a n P).length, .ag ((climb (keyD (recL m S 19)) a n P).map u8)]) (oneB_tsl (by rw [List.length_append, len_clS hfit]; omega) fu) 62 rfl ⟨[(54, some ((chainsS S m 19 ++ [(tPub, (recL m S 19).flatten)]).flatMap stC))]⟩ true rfl ⟨⟨rfl, VwL.pure pul⟩, trivial⟩ (.cons (.ksl rfl) (.cons (.pure pu) (.cons (.pure pu) (.cons (.pure pu) (.cons (.pure pu) .nil))))) (lclimb_ok P.length (chainsS S m 19 ++ [(tPub, (recL m S 19).flatten)]) (keyD (recL m S 19)) a n P (Nat.le_refl _) (by simp [hwl]) (by simp) hP hn ha hfit) pul (.inr ful) rfl ?_)
  refine s1 (y_p rfl) rfl <| s1 (y_p rfl) rfl <| s1 (y_p rfl) rfl <| s1 (y_p rfl) rfl ?_
  refine at_nil <| x_tn <| at_seq ?_
  refine at_frz 11 rfl rfl pul (view_eq (by rw [len_stC]) rfl) ?_
  refine at_region <| s1 (y_p rfl) rfl <| s1 (y_p rfl) rfl ?_
  refine at_nil <| x_tn <| at_ret ?_
  refine at_result (rs := [.tmp 10]) rfl (r_tmp rfl r_nil) ?_
  show A.fz _ _ = _; unfold wayS; simp
end Go.Abs.D2
-- K6G
namespace Go.Abs.D2
open Go Go.Eng Go.Abs Go.Proofs 
theorem sane_ok : Con Tryd.prog 10 [] (Ret (.b true)) := by
 refine enter Tryd.func10 rfl Tryd.ntmps10 (by kernel_rfl) (Nat.le_of_ble_eq_true rfl) fun w0 X0 hI => ?_
 refine at_seq <| at_region <| s1 (y_p rfl) rfl ?_
 refine at_nil <| x_tn <| at_seq <| at_region <| s1 ((y_bldP (vs := [_]) ti23 rfl (by kernel_rfl) Tryd.underlying23 ti5 rfl rfl (by simp) rfl rfl).v (v' := .ag (oneD.map u8)) (by kernel_rfl)) rfl <| s1 ((y_bldP (vs := [_]) ti23 rfl (by kernel_rfl) Tryd.underlying23 ti5 rfl rfl (by simp) rfl rfl).v (v' := .ag (twoD.map u8)) (by kernel_rfl)) rfl ?_
 refine at_op rfl (n_alloc 1 rfl ti23 rfl rfl ?_)
 refine at_op rfl (n_alloc 2 rfl ti23 rfl rfl ?_)
 refine at_op rfl (n_storeA ti23 rfl rfl rfl (by first | rfl | omega | (simp <;> omega) | (simp [*] <;> omega)) (by first | rfl | omega | (simp <;> omega) | (simp [*] <;> omega)) ?_)
 refine at_op rfl (n_storeA ti23 rfl rfl rfl (by first | rfl | omega | (simp <;> omega) | (simp [*] <;> omega)) (by first | rfl | omega | (simp <;> omega) | (simp [*] <;> omega)) ?_)
 refine at_nil <| x_tn <| at_seq <| at_region <| s1 (y_loadA0 ti23 rfl rfl (by first | rfl | omega | (simp <;> omega) | (simp [*] <;> omega))) rfl ?_
 refine at_op rfl (n_call false rfl (.cons (.pure pu) (.cons (.pure pu) (.nil))) (Con.cast (root_ok oneD 1 (by simp)) root_1) pu (.inl rfl) rfl ?_)
 refine s1 (y_p rfl) rfl <| s1 (y_p rfl) rfl <| s1 (y_p rfl) rfl ?_
 refine at_op rfl (n_alloc 3 rfl ti23 rfl rfl ?_)
 refine at_op rfl (n_storeA ti23 rfl rfl rfl (by first | rfl | omega | (simp <;> omega) | (simp [*] <;> omega)) (by first | rfl | omega | (simp <;> omega) | (simp [*] <;> omega)) ?_)
 refine s1 (y_p rfl) rfl ?_
 refine at_nil <| x_tn <| at_seq <| at_region <| s1 (y_loadA0 ti23 rfl rfl (by first | rfl | omega | (simp <;> omega) | (simp [*] <;> omega))) rfl ?_
 refine at_op rfl (n_call false rfl (.cons (.pure pu) (.cons (.pure pu) (.nil))) (Con.cast (root_ok oneD 0 (by simp)) root_0) pu (.inl rfl) rfl ?_)
 refine s1 (y_p rfl) rfl <| s1 (y_p rfl) rfl <| s1 (y_p rfl) rfl ?_
 refine at_op rfl (n_alloc 5 rfl ti23 rfl rfl ?_)
 refine at_op rfl (n_storeA ti23 rfl rfl rfl (by first | rfl | omega | (simp <;> omega) | (simp [*] <;> omega)) (by first | rfl | omega | (simp <;> omega) | (simp [*] <;> omega)) ?_)
 refine s1 (y_p rfl) rfl ?_
 refine at_nil <| x_tn <| at_seq <| at_region <| s1 (y_loadA0 ti23 rfl rfl (by first | rfl | omega | (simp <;> omega) | (simp [*] <;> omega))) rfl ?_
 refine at_op rfl (n_call false rfl (.cons (.pure pu) (.cons (.pure pu) (.nil))) (Con.cast (root_ok oneD 257 (by simp)) root_257) pu (.inl rfl) rfl ?_)
 refine s1 (y_p rfl) rfl <| s1 (y_p rfl) rfl <| s1 (y_p rfl) rfl ?_
 refine at_op rfl (n_alloc 7 rfl ti23 rfl rfl ?_)
 refine at_op rfl (n_storeA ti23 rfl rfl rfl (by first | rfl | omega | (simp <;> omega) | (simp [*] <;> omega)) (by first | rfl | omega | (simp <;> omega) | (simp [*] <;> omega)) ?_)
 refine s1 (y_p rfl) rfl ?_
 refine at_nil <| x_tn <| at_seq <| at_region <| s1 (y_loadA0 ti23 rfl rfl (by first | rfl | omega | (simp <;> omega) | (simp [*] <;> omega))) rfl <| s1 (y_loadA0 ti23 rfl rfl (by first | rfl | omega | (simp <;> omega) | (simp [*] <;> omega))) rfl ?_
 refine at_op rfl (n_call false rfl (.cons (.pure pu) (.cons (.pure pu) (.cons (.pure pu) (.cons (.pure pu) (.nil))))) (Con.cast (ksign_ok oneD 1 0 twoD (by simp) (by simp)) sign_10) pu (.inl rfl) rfl ?_)
 refine s1 (y_p rfl) rfl <| s1 (y_p rfl) rfl <| s1 (y_p rfl) rfl ?_
 refine at_op rfl (n_alloc 9 rfl ti28 rfl rfl ?_)
 refine at_op rfl (n_storeA ti28 rfl rfl rfl (by first | rfl | omega | (simp <;> omega) | (simp [*] <;> omega)) (by first | rfl | omega | (simp <;> omega) | (simp [*] <;> omega)) ?_)
 refine s1 (y_p rfl) rfl ?_
 refine at_nil <| x_tn <| at_seq <| at_region <| s1 (y_loadA0 ti23 rfl rfl (by first | rfl | omega | (simp <;> omega) | (simp [*] <;> omega))) rfl <| s1 (y_loadA0 ti23 rfl rfl (by first | rfl | omega | (simp <;> omega) | (simp [*] <;> omega))) rfl ?_
 refine at_op rfl (n_call false rfl (.cons (.pure pu) (.cons (.pure pu) (.cons (.pure pu) (.cons (.pure pu) (.nil))))) (Con.cast (ksign_ok oneD 4 4 twoD (by simp) (by simp)) sign_44) pu (.inl rfl) rfl ?_)
 refine s1 (y_p rfl) rfl <| s1 (y_p rfl) rfl <| s1 (y_p rfl) rfl ?_
 refine at_op rfl (n_alloc 11 rfl ti28 rfl rfl ?_)
 refine at_op rfl (n_storeA ti28 rfl rfl rfl (by first | rfl | omega | (simp <;> omega) | (simp [*] <;> omega)) (by first | rfl | omega | (simp <;> omega) | (simp [*] <;> omega)) ?_)
 refine s1 (y_p rfl) rfl ?_
 refine at_nil <| x_tn <| at_seq <| at_region <| s1 (y_loadA0 ti23 rfl rfl (by first | rfl | omega | (simp <;> omega) | (simp [*] <;> omega))) rfl <| s1 (y_loadA0 ti23 rfl rfl (by first | rfl | omega | (simp <;> omega) | (simp [*] <;> omega))) rfl ?_
 refine at_op rfl (n_bs 51 rfl Tryd.underlying26 ti23 rfl rfl rfl (by first | (simp [cellsA]; done) | (simp [cellsA, *]; done)) (List.append_nil (twoD.map u8)) rfl rfl rfl ?_)
 refine s1 (y_loadA0 ti23 rfl rfl (by first | rfl | omega | (simp <;> omega) | (simp [*] <;> omega))) rfl <| s1 (y_loadA0 ti28 rfl rfl (by first | rfl | omega | (simp <;> omega) | (simp [*] <;> omega))) rfl ?_
 refine at_op rfl (n_call true rfl (.cons (.pure pu) (.cons (.pure pu) (.cons (.sl rfl rfl rfl rfl (VwL.pure pul) pul) (.cons (.pure pu) (.cons (.pure pu) .nil))))) (Con.cast (kforg_ok oneD 1 [twoD] twoD 0 (signD (seedL oneD 0) twoD) [] (by simp) (D32_one (by simp)) (by simp) (by simp) (D32_signD _ _) D32_nil) forg_1) pu (.inr fu) rfl ?_)
 refine s1 (y_p rfl) rfl <| s1 (y_p rfl) rfl <| s1 (y_p rfl) rfl <| s1 (y_p rfl) rfl <| s1 (y_p rfl) rfl ?_
 refine at_nil <| x_tn <| at_seq <| at_region <| s1 (y_loadA0 ti23 rfl rfl (by first | rfl | omega | (simp <;> omega) | (simp [*] <;> omega))) rfl <| s1 (y_loadA0 ti23 rfl rfl (by first | rfl | omega | (simp <;> omega) | (simp [*] <;> omega))) rfl <| s1 (y_loadA0 ti28 rfl rfl (by first | rfl | omega | (simp <;> omega) | (simp [*] <;> omega))) rfl ?_
 refine at_op rfl (n_call false rfl (.cons (.pure pu) (.cons (.pure pu) (.cons .nl (.cons (.pure pu) (.cons (.pure pu) .nil))))) (Con.cast (kforg_ok oneD 1 [] twoD 0 (signD (seedL oneD 0) twoD) [] (by simp) D32_nil (by simp) (by simp) (D32_signD _ _) D32_nil) forg_2) pu (.inl rfl) rfl ?_)
 refine s1 (y_p rfl) rfl <| s1 (y_p rfl) rfl <| s1 (y_p rfl) rfl <| s1 (y_p rfl) rfl <| s1 (y_p rfl) rfl ?_
 refine at_nil <| x_tn <| at_seq <| at_region <| s1 (y_loadA0 ti23 rfl rfl (by first | rfl | omega | (simp <;> omega) | (simp [*] <;> omega))) rfl <| s1 (y_loadA0 ti23 rfl rfl (by first | rfl | omega | (simp <;> omega) | (simp [*] <;> omega))) rfl <| s1 (y_bld (out := [_, _, _]) [[evC (.int .i64 0)], [evC (.slice none 0 0)], [evC (.slice none 0 0)]] ti28 rfl Tryd.underlying28 (by kernel_rfl) rfl rfl trivial rfl) rfl ?_
 refine at_wk 67 rfl (.ag (.cons (.eq rfl) (.cons .nl (.cons .nl .nil)))) ?_
 refine at_op rfl (n_call false rfl (.cons (.pure pu) (.cons (.pure pu) (.cons .nl (.cons (.pure pu) (.cons (.pure pu) .nil))))) (Con.cast (kforg_ok oneD 0 [] twoD 0 [] [] (by simp) D32_nil (by simp) (by simp) D32_nil D32_nil) forg_0) pu (.inl rfl) rfl ?_)
 refine s1 (y_p rfl) rfl <| s1 (y_p rfl) rfl <| s1 (y_p rfl) rfl <| s1 (y_p rfl) rfl <| s1 (y_p rfl) rfl ?_
 refine at_nil <| x_tn <| at_seq <| at_seq <| at_region <| s1 (y_p rfl) rfl <| s1 ((y_p rfl).v (v' := .b false) (rfl)) rfl <| s1 (y_p rfl) rfl <| g1 rfl rfl (y_p rfl) rfl <| g1 rfl rfl ((y_p rfl).v (v' := .b false) (rfl)) rfl <| s1 (y_p rfl) rfl <| s1 (y_p rfl) rfl <| g1 rfl rfl (y_p rfl) rfl <| g1 rfl rfl ((y_p rfl).v (v' := .b false) (rfl)) rfl <| s1 (y_p rfl) rfl ?_
 refine s1 (y_p rfl) rfl <| g1 rfl rfl (y_p rfl) rfl <| g1 rfl rfl ((y_p rfl).v (v' := .b false) (rfl)) rfl <| s1 (y_p rfl) rfl <| s1 (y_p rfl) rfl <| g1 rfl rfl (y_p rfl) rfl <| g1 rfl rfl ((y_p rfl).v (v' := .b false) (rfl)) rfl <| s1 (y_p rfl) rfl <| s1 (y_p rfl) rfl <| g1 rfl rfl (y_fld Tryd.underlying28 rfl ti3 (by decide) rfl rfl) rfl ?_
 refine g1 rfl rfl (y_load ti3 rfl rfl rfl) rfl <| g1 rfl rfl ((y_p rfl).v (v' := .b false) (rfl)) rfl <| s1 (y_p rfl) rfl <| s1 (y_p rfl) rfl <| g1 rfl rfl (y_fld Tryd.underlying28 rfl ti26 (by decide) rfl rfl) rfl <| g1 rfl rfl (y_load ti26 rfl rfl rfl) rfl <| g1 rfl rfl (y_len Tryd.underlying26 rfl rfl rfl) rfl <| g1 rfl rfl ((y_p rfl).v (v' := .b false) (rfl)) rfl <| s1 (y_p rfl) rfl <| s1 (y_p rfl) rfl ?_
 refine g1 rfl rfl (y_fld Tryd.underlying28 rfl ti26 (by decide) rfl rfl) rfl <| g1 rfl rfl (y_load ti26 rfl rfl rfl) rfl <| g1 rfl rfl (y_len Tryd.underlying26 rfl rfl rfl) rfl <| g1 rfl rfl ((y_p rfl).v (v' := .b false) (rfl)) rfl <| s1 (y_p rfl) rfl ?_
 refine at_nil <| x_tn ?_
 refine at_else rfl ?_
 refine at_skip <| x_tn <| at_seq ?_
 refine at_fs ⟨_, [], []⟩ 49 4 hmix (le_refl rfl) ?_
 refine fs_q 0 [] [(3, none)] (y_loadA0 ti23 rfl rfl (by first | rfl | omega | (simp <;> omega) | (simp [*] <;> omega))) rfl rfl ?_
 refine fs_q 1 [] [(1, none)] (y_loadA0 ti23 rfl rfl (by first | rfl | omega | (simp <;> omega) | (simp [*] <;> omega))) rfl rfl ?_
 refine fs_call false 2 [1] [] gy0 rfl (.cons (.pure pu) (.cons (.pure pu) (.nil))) (seed_ok oneD 0 (by simp)) pu (.inl rfl) rfl rfl ?_
 refine fs_call false 3 [2] [] gy0 rfl (.cons (.pure pu) (.nil)) (public_ok (seedL oneD 0) (by simp)) pu (.inl rfl) rfl rfl ?_
 refine fs_bs 110 4 [3] gy0 Tryd.underlying26 ti23 rfl rfl rfl (by first | (simp [cellsA]; done) | (simp [cellsA, *]; done)) (List.append_nil ((pubD (seedL oneD 0)).map u8)) rfl rfl rfl rfl ?_
 refine fs_call true 5 [4] [(110, some 4)] gy0 rfl (.cons (.sl rfl rfl rfl (kp1_view ..) (VwL.pure pul) pul) .nil) (Con.cast (tree_ok 1 (kpubs oneD 1) (by simp) (D32_kpubs _ _) (by simp)) (by rw [tree_1])) pu (.inr fu) rfl rfl ?_
 refine fs_q 6 [0, 5] [] ((y_aq Tryd.underlying23 Tryd.underlying5 ti5 (by kernel_rfl) rfl rfl (by first | assumption | (simp; done) | (simp [*]; done)) (by first | assumption | (simp; done) | (simp [*]; done))).v (v' := .b true) (congrArg A.b (by simp))) rfl rfl ?_
 refine fs_q 7 [6] [] (y_p rfl) rfl rfl ?_
 refine fs_qg 8 [7] [(3, none)] rfl rfl (y_loadA0 ti23 rfl rfl (by first | rfl | omega | (simp <;> omega) | (simp [*] <;> omega))) rfl rfl ?_
 refine fs_qg 9 [7] [(2, none)] rfl rfl (y_loadA0 ti23 rfl rfl (by first | rfl | omega | (simp <;> omega) | (simp [*] <;> omega))) rfl rfl ?_
 refine fs_qg 10 [7] [(9, none)] rfl rfl (y_loadA0 ti28 rfl rfl (by first | rfl | omega | (simp <;> omega) | (simp [*] <;> omega))) rfl rfl ?_
 refine fs_call false 11 [7, 8, 9, 10] [] (gy1 rfl rfl) rfl (.cons (.pure pu) (.cons (.pure pu) (.cons (.pure pu) (.cons (.pure pu) (.nil))))) (Con.cast (kver_ok (rootD oneD 1) twoD 1 0 (signD (seedL oneD 0) twoD) [] (by simp) (by simp) (D32_signD _ _) D32_nil) (congrArg (A.i .i64) (by rw [ver_1]; rfl : errK (verK (rootD oneD 1) 1 twoD 0 (signD (seedL oneD 0) twoD) []) = 0))) pu (.inl rfl) rfl rfl ?_
 refine fs_qg 12 [7, 11] [] rfl rfl ((y_p rfl).v (v' := .b true) (rfl)) rfl rfl ?_
 refine fs_q 13 [7, 12] [] (y_p rfl) rfl rfl ?_
 refine fs_q 14 [13] [] (y_p rfl) rfl rfl ?_
 refine fs_qg 15 [14] [(3, none)] rfl rfl (y_loadA0 ti23 rfl rfl (by first | rfl | omega | (simp <;> omega) | (simp [*] <;> omega))) rfl rfl ?_
 refine fs_qg 16 [14] [(2, none)] rfl rfl (y_loadA0 ti23 rfl rfl (by first | rfl | omega | (simp <;> omega) | (simp [*] <;> omega))) rfl rfl ?_
 refine fs_qg 17 [14] [] rfl rfl (y_bld (out := [_, _, _]) [[evC (.int .i64 0)], [evC (.slice none 0 0)], [evC (.slice none 0 0)]] ti28 rfl Tryd.underlying28 (by kernel_rfl) rfl rfl trivial rfl) rfl rfl ?_
 refine fs_call false 18 [14, 15, 16, 17] [] (gy1 rfl rfl) rfl (.cons (.pure pu) (.cons (.pure pu) (.cons (.pure pu) (.cons (.ag (.cons (.pure pu) (.cons .nl (.cons .nl .nil)))) (.nil))))) (Con.cast (kver_ok (rootD oneD 1) twoD 1 0 [] [] (by simp) (by simp) D32_nil D32_nil) (congrArg (A.i .i64) (by rw [ver_nilK]; rfl : errK (verK (rootD oneD 1) 1 twoD 0 [] []) = 60))) pu (.inl rfl) rfl rfl ?_
 refine fs_qg 19 [14, 18] [] rfl rfl ((y_p rfl).v (v' := .b true) (rfl)) rfl rfl ?_
 refine fs_q 20 [14, 19] [] (y_p rfl) rfl rfl ?_
 refine fs_q 21 [20] [] (y_p rfl) rfl rfl ?_
 refine fs_qg 22 [21] [] rfl rfl (y_p rfl) rfl rfl ?_
 refine fs_qg 23 [21, 22] [] rfl rfl ((y_p rfl).v (v' := .b true) (rfl)) rfl rfl ?_
 refine fs_q 24 [21, 23] [] (y_p rfl) rfl rfl ?_
 refine fs_q 25 [24] [] (y_p rfl) rfl rfl ?_
 refine fs_qg 26 [25] [] rfl rfl (y_p rfl) rfl rfl ?_
 refine fs_qg 27 [25, 26] [] rfl rfl ((y_p rfl).v (v' := .b true) (rfl)) rfl rfl ?_
 refine fs_q 28 [25, 27] [] (y_p rfl) rfl rfl ?_
 refine fs_q 29 [28] [] (y_p rfl) rfl rfl ?_
 refine fs_qg 30 [29] [] rfl rfl (y_p rfl) rfl rfl ?_
 refine fs_qg 31 [29, 30] [] rfl rfl ((y_p rfl).v (v' := .b true) (rfl)) rfl rfl ?_
 refine fs_q 32 [29, 31] [] (y_p rfl) rfl rfl ?_
 refine fs_q 33 [32] [] (y_p rfl) rfl rfl ?_
 refine fs_qg 34 [33] [] rfl rfl (y_p rfl) rfl rfl ?_
 refine fs_qg 35 [33, 34] [] rfl rfl ((y_p rfl).v (v' := .b true) (rfl)) rfl rfl ?_
 refine fs_q 36 [33, 35] [] (y_p rfl) rfl rfl ?_
 refine fs_q 37 [36] [] (y_p rfl) rfl rfl ?_
 refine fs_qg 38 [37] [] rfl rfl (y_p rfl) rfl rfl ?_
 refine fs_qg 39 [37, 38] [] rfl rfl ((y_p rfl).v (v' := .b true) (rfl)) rfl rfl ?_
 refine fs_q 40 [37, 39] [] (y_p rfl) rfl rfl ?_
 refine fs_q 41 [40] [] (y_p rfl) rfl rfl ?_
 refine fs_qg 42 [41] [] rfl rfl (y_p rfl) rfl rfl ?_
 refine fs_qg 43 [41, 42] [] rfl rfl ((y_p rfl).v (v' := .b true) (rfl)) rfl rfl ?_
 refine fs_q 44 [41, 43] [] (y_p rfl) rfl rfl ?_
 refine fs_q 45 [44] [] (y_p rfl) rfl rfl ?_
 refine fs_qg 46 [45] [] rfl rfl (y_p rfl) rfl rfl ?_
 refine fs_qg 47 [45, 46] [] rfl rfl ((y_p rfl).v (v' := .b true) (rfl)) rfl rfl ?_
 refine fs_q 48 [45, 47] [] (y_p rfl) rfl rfl ?_
 refine fs_end (by kernel_rfl) ?_
 refine s1 (y_p rfl) rfl ?_
 refine at_nil <| x_tn <| at_ret ?_
 refine at_result (rs := [.tmp 0]) rfl (r_tmp rfl r_nil) rfl
end Go.Abs.D2
-- K6S
namespace Go.Abs.D2
open Go Go.Eng Go.Abs
def FBase (x m : List UInt8) (n a : Int) (S P : List (List UInt8)) (k i : Nat) : Prop :=
  n = (k : Int) ∧ a = (i : Int) ∧ i < k ∧ k ≤ 256 ∧ sizeK (k : Int) ∧ verK (rootD x k) k m i S P = true ∧ S.length = 19 ∧ P.length = (rights i k).length
theorem forg_base {x m : List UInt8} {n a : Int} {S P : List (List UInt8)} (h : verK (rootD x n) n m a S P = true) : ∃ k i, FBase x m n a S P k i := by
  obtain ⟨h1, h2, h3, h4, _⟩ := ver_spec h
  obtain ⟨k, rfl, g1, g2⟩ := sizeK_nat h1
  obtain ⟨i, rfl⟩ : ∃ i : Nat, a = (i : Int) := ⟨a.toNat, by unfold atK at h2; omega⟩
  refine ⟨k, i, rfl, rfl, by unfold atK at h2; omega, g2, h1, h, recE_len h3, ?_⟩
  unfold climbE at h4
  have f : fits (i : Int) k P.length := by
    by_cases h : fits (i : Int) k P.length
    · exact h
    · rw [if_neg h] at h4; cases h4
  have := f.2.2.2.2
  simpa using this
theorem forg_ways (x m : List UInt8) (n a : Int) (L S P : List (List UInt8)) (hS : D32 S) (hP : D32 P) :
    (¬ sizeK n ∧ forgK x n L m a S P = (0, 0)) ∨ (sizeK n ∧ verK (rootD x n) n m a S P = false ∧ forgK x n L m a S P = (0, 0)) ∨
    (∃ k i, FBase x m n a S P k i ∧ (sgnK L i == zD) = false ∧ (sgnK L i == m) = true ∧ forgK x k L m i S P = (0, 0)) ∨
    (∃ k i, FBase x m n a S P k i ∧ (sgnK L i == zD) = false ∧ (sgnK L i == m) = false ∧ (digits m == digits (sgnK L i)) = true ∧ forgK x k L m i S P = (1, 0)) ∨
    (∃ k i, FBase x m n a S P k i ∧ (sgnK L i == zD) = false ∧ (sgnK L i == m) = false ∧ (digits m == digits (sgnK L i)) = false ∧ ∃ t : Nat, t < 19 ∧ badK (seedL x i) m (sgnK L i) S t = true ∧ forgK x k L m i S P = (2, (t : Int))) ∨
    (∃ k i, FBase x m n a S P k i ∧ (sgnK L i == zD) = false ∧ (sgnK L i == m) = false ∧ (digits m == digits (sgnK L i)) = false ∧ forgK x k L m i S P = (3, 0) ∧ collB (wayS S m i k P) (wayS (signD (seedL x i) m) m i k (path (kpubs x k) i)) = true) ∨
    (∃ k i, FBase x m n a S P k i ∧ (sgnK L i == zD) = true ∧ ∃ t : Nat, t < 19 ∧ badK (seedL x i) m (sgnK L i) S t = true ∧ forgK x k L m i S P = (2, (t : Int))) ∨
    (∃ k i, FBase x m n a S P k i ∧ (sgnK L i == zD) = true ∧ forgK x k L m i S P = (3, 0) ∧ collB (wayS S m i k P) (wayS (signD (seedL x i) m) m i k (path (kpubs x k) i)) = true) := by
  by_cases h1 : sizeK n
  · cases hv : verK (rootD x n) n m a S P with
    | false => exact .inr (.inl ⟨h1, rfl, forg_no hv⟩)
    | true =>
      obtain ⟨k, i, hb⟩ := forg_base hv
      have hb' := hb
      obtain ⟨rfl, rfl, hi, hk, hsz, hver, hSl, hfit⟩ := hb
      right; right
      have step : ∀ (q : List UInt8), q = sgnK L i → (!(q == zD) && q == m) = false → (!(q == zD) && digits m == digits q) = false →
          (∃ t : Nat, t < 19 ∧ badK (seedL x i) m q S t = true ∧ forgK x k L m i S P = (2, (t : Int))) ∨ (forgK x k L m i S P = (3, 0) ∧ collB (wayS S m i k P) (wayS (signD (seedL x i) m) m i k (path (kpubs x k) i)) = true) := by
        rintro q rfl e1 e2
        by_cases hex : ∃ t, t < 19 ∧ badK (seedL x i) m (sgnK L i) S t = true
        · left
          have hmin : ∀ N, (∃ t, t < N ∧ t < 19 ∧ badK (seedL x i) m (sgnK L i) S t = true) → ∃ t, t < 19 ∧ badK (seedL x i) m (sgnK L i) S t = true ∧ ∀ s, s < t → badK (seedL x i) m (sgnK L i) S s = false := by
            intro N
            induction N with
            | zero => rintro ⟨t, ht, _⟩; omega
            | succ N ih =>
              rintro ⟨t, ht, h19, hb⟩
              by_cases hl : ∃ s, s < N ∧ s < 19 ∧ badK (seedL x i) m (sgnK L i) S s = true
              · exact ih hl
              · refine ⟨t, h19, hb, fun s hs => ?_⟩
                cases hbs : badK (seedL x i) m (sgnK L i) S s with
                | false => rfl
                | true => exact absurd ⟨s, by omega, by omega, hbs⟩ hl
          obtain ⟨t0, ht0, hb0⟩ := hex
          obtain ⟨t, ht, hbt, hall⟩ := hmin 20 ⟨t0, by omega, ht0, hb0⟩
          exact ⟨t, ht, hbt, forg_hit hver e1 e2 ht (by simpa using hbt) (by simpa using hall)⟩
        · right
          have hall : ∀ t, t < 19 → badK (seedL x i) m (sgnK L i) S t = false := fun t ht => by
            cases hbs : badK (seedL x i) m (sgnK L i) S t with
            | false => rfl
            | true => exact absurd ⟨t, ht, hbs⟩ hex
          exact ⟨forg_else hver e1 e2 (by simpa using hall), forged_collides hS hP hsz hi hver e2 hall⟩
      cases hz : (sgnK L i == zD) with
      | true =>
        rcases step _ rfl (by rw [hz]; rfl) (by rw [hz]; rfl) with h | ⟨h, h'⟩
        · exact .inr (.inr (.inr (.inr (.inl ⟨k, i, hb', hz, h⟩))))
        · exact .inr (.inr (.inr (.inr (.inr ⟨k, i, hb', hz, h, h'⟩))))
      | false =>
        cases hm : (sgnK L i == m) with
        | true => exact .inl ⟨k, i, hb', hz, hm, forg_own (by simp [hz, hm])⟩
        | false =>
          cases hd : (digits m == digits (sgnK L i)) with
          | true => exact .inr (.inl ⟨k, i, hb', hz, hm, hd, forg_same hver (by simp [hm]) (by simp [hz, hd])⟩)
          | false =>
            rcases step _ rfl (by simp [hm]) (by simp [hd]) with h | ⟨h, h'⟩
            · exact .inr (.inr (.inl ⟨k, i, hb', hz, hm, hd, h⟩))
            · exact .inr (.inr (.inr (.inl ⟨k, i, hb', hz, hm, hd, h, h'⟩)))
  · exact .inl ⟨h1, forg_no (ver_k1 h1)⟩
theorem sgn_in {L : List (List UInt8)} {i : Nat} (h : (sgnK L i == zD) = false) : i < L.length := by
  rcases Nat.lt_or_ge i L.length with h1 | h1
  · exact h1
  · rw [sgnK_out (by omega)] at h; simp at h
theorem bad_spec {x m q : List UInt8} {S : List (List UInt8)} {t : Nat} (h : badK x m q S t = true) (ht : t < 19) (hS : S.length = 19) : dg m t < kdg q t ∧ S[t]? = some (iterD (dg m t) (firstD x t)) := by
  unfold badK at h
  simp only [Bool.and_eq_true, decide_eq_true_eq, beq_iff_eq] at h
  refine ⟨h.1, ?_⟩
  have h2 := h.2
  rw [List.getD, List.getElem?_eq_getElem (by omega)] at h2
  rw [List.getElem?_eq_getElem (by omega)]
  exact congrArg some h2
def samD (m q : List UInt8) (j : Nat) : Bool := (List.range j).all fun t => dg m t == dg q t
theorem samD_next (m q : List UInt8) (j : Nat) : samD m q (j + 1) = (samD m q j && (dg m j == dg q j)) := by simp [samD, List.range_succ]
theorem samD_no {m q : List UInt8} {j : Nat} (h : samD m q j = false) : samD m q (j + 1) = false := by rw [samD_next, h]; rfl
theorem samD_end (m q : List UInt8) : samD m q 19 = (digits m == digits q) := by
  rw [Bool.eq_iff_iff]
  unfold samD
  simp only [List.all_eq_true, List.mem_range, beq_iff_eq]
  have hd : ∀ (z : List UInt8) t, t < 19 → (digits z)[t]? = some (dg z t) := fun z t ht => by
    unfold dg; rw [List.getD, List.getElem?_eq_getElem (by simpa using ht)]; rfl
  constructor
  · intro h
    apply List.ext_getElem?
    intro t
    by_cases ht : t < 19
    · rw [hd m t ht, hd q t ht, h t ht]
    · rw [List.getElem?_eq_none (by simp; omega), List.getElem?_eq_none (by simp; omega)]
  · intro h t ht
    have := hd m t ht
    rw [h, hd q t ht] at this
    exact (Option.some.inj this).symm
def nonD (q : List UInt8) (j : Nat) : List Nat := List.replicate j 3 ++ (digits q).drop j
theorem len_nonD (q : List UInt8) {j : Nat} (h : j ≤ 19) : (nonD q j).length = 19 := by simp [nonD]; omega
theorem nonD_next {q : List UInt8} {j : Nat} (h : j < 19) : ((nonD q j).map nI).set (0 + j * 1) (nI 3) = (nonD q (j + 1)).map nI := by
  have hl : j < (digits q).length := by simpa using h
  unfold nonD
  rw [← List.map_set, Nat.zero_add, Nat.mul_one, List.drop_eq_getElem_cons hl, List.set_append_right _ _ (by simp), List.length_replicate, Nat.sub_self, List.set_cons_zero, List.replicate_succ', List.append_assoc]; rfl
theorem nonD_end {q : List UInt8} (h : (q == zD) = true) : nonD q 19 = knwK q := by
  rw [knw_yes h]; unfold nonD; rw [List.drop_of_length_le (by simp), List.append_nil]
theorem fold_small : ∀ (bs : List Bool) (ps : List (List UInt8)) (x : List UInt8), D32 ps → x.length = 32 → ∀ e ∈ foldS bs ps x, e.1.length ≤ 1000 ∧ e.2.length ≤ 1000
  | [], _, _, _, _, e, he => by simp [foldS] at he
  | _ :: _, [], _, _, _, e, he => by simp [foldS] at he
  | b :: bs, p :: ps, x, hp, hx, e, he => by
    simp only [foldS, List.mem_cons] at he
    have hpl := hp p (.head _)
    rcases he with rfl | he
    · refine ⟨show tNode.length ≤ 1000 by decide, ?_⟩
      cases b <;> simp [hpl, hx]
    · exact fold_small bs ps _ (fun z hz => hp z (.tail _ hz)) (by split <;> simp [nodeD]) e he
theorem way_small {S P : List (List UInt8)} {m : List UInt8} {i n : Nat} (hS : D32 S) (hSl : S.length = 19) (hP : D32 P) : ∀ e ∈ wayS S m i n P, e.1.length ≤ 1000 ∧ e.2.length ≤ 1000 := by
  intro e he
  unfold wayS at he
  rcases List.mem_append.1 he with h | h
  · unfold chainsS at h
    obtain ⟨k, hk, h⟩ := List.mem_flatMap.1 h
    have hk := List.mem_range.1 hk
    unfold chS at h
    rcases List.mem_append.1 h with h | h
    · rw [List.eq_of_mem_replicate h]; exact ⟨Nat.zero_le _, Nat.zero_le _⟩
    · obtain ⟨j, _, rfl⟩ := List.mem_map.1 h
      refine ⟨show tStep.length ≤ 1000 by decide, ?_⟩
      have : (S.getD k []).length = 32 := by rw [List.getD, List.getElem?_eq_getElem (by omega)]; exact hS _ (List.getElem_mem _)
      show (iterD j (S.getD k [])).length ≤ 1000
      rw [len_iterD this]; decide
  · rcases List.mem_cons.1 h with rfl | h
    · refine ⟨show tPub.length ≤ 1000 by decide, ?_⟩
      have := len_recF (m := m) hS hSl (Nat.le_refl 19)
      rw [List.length_map] at this
      show (recL m S 19).flatten.length ≤ 1000
      omega
    · unfold clS at h
      rcases List.mem_cons.1 h with rfl | h
      · exact ⟨show tLeaf.length ≤ 1000 by decide, by simp⟩
      · exact fold_small _ _ _ hP (by simp [leafD]) e h
end Go.Abs.D2
-- K6I
namespace Go.Abs.D2
open Go Go.Eng Go.Abs Go.Proofs 
theorem law_forged (x : List UInt8) (n : Int) (L : List (List UInt8)) (m : List UInt8) (a : Int) (S P : List (List UInt8)) (hx : x.length = 32) (hL : D32 L) (hm : m.length = 32) (hS : D32 S) (hP : D32 P) : Con Tryd.prog 6 [.ag (x.map u8), .i .i64 n, dgs L, .ag (m.map u8), .ag [.i .i64 a, dgs S, dgs P]] (Ret (.b true)) := by
 refine enter Tryd.func6 rfl Tryd.ntmps6 (by kernel_rfl) (Nat.le_of_ble_eq_true rfl) fun w0 X0 hI => ?_
 refine at_seq <| at_region ?_
 refine at_op rfl (n_boxA 5 rfl rfl rfl ?_)
 refine at_op rfl (n_boxA 8 rfl rfl rfl ?_)
 refine at_op rfl (n_boxA 9 rfl rfl rfl ?_)
 refine s1 (y_p rfl) rfl ?_
 refine at_nil <| x_tn <| at_seq <| at_seq <| at_region ?_
 refine at_op rfl (n_call false rfl (.nil) (sane_ok) pu (.inl rfl) rfl ?_)
 refine s1 (y_p rfl) rfl ?_
 refine at_nil <| x_tn ?_
 refine at_else rfl ?_
 refine at_skip <| x_tn <| at_seq <| at_seq ?_
 rcases tfK (fewK n S.length P.length) with hcs | hcs
 ·skip
  refine at_region <| s1 (y_p rfl) rfl <| s1 (y_loadA0 ti28 rfl rfl (by first | rfl | omega | (simp <;> omega) | (simp [*] <;> omega))) rfl ?_
  refine at_op rfl (n_call false rfl (.cons (.pure pu) (.cons (.pure pu) (.nil))) (Con.cast (few_ok n a S P) (congrArg A.b hcs)) pu (.inl rfl) rfl ?_)
  refine s1 (y_p rfl) rfl <| s1 (y_p rfl) rfl <| g0 rfl rfl rfl rfl <| g0 rfl rfl rfl rfl <| g0 rfl rfl rfl rfl <| s1 (y_p rfl) rfl ?_
  refine at_nil <| x_tn ?_
  refine at_then rfl ?_
  refine at_seq <| at_region <| s1 (y_p rfl) rfl ?_
  refine at_nil <| x_tn <| at_ret <| x_tr ?_
  refine at_result (rs := [.tmp 10]) rfl (r_tmp rfl r_nil) rfl
 ·skip
  refine at_region <| s1 (y_p rfl) rfl <| s1 (y_loadA0 ti28 rfl rfl (by first | rfl | omega | (simp <;> omega) | (simp [*] <;> omega))) rfl ?_
  refine at_op rfl (n_call false rfl (.cons (.pure pu) (.cons (.pure pu) (.nil))) (Con.cast (few_ok n a S P) (congrArg A.b hcs)) pu (.inl rfl) rfl ?_)
  refine s1 (y_p rfl) rfl <| s1 (y_p rfl) rfl <| g1 rfl rfl (y_p rfl) rfl <| g1 rfl rfl (y_len Tryd.underlying26 rfl rfl rfl) rfl <| g1 rfl rfl (y_p rfl) rfl <| s1 (y_p rfl) rfl ?_
  refine at_nil <| x_tn ?_
  refine at_cond rfl (fun hc34 => ?_) (fun hc34 => ?_)
  ·skip
   refine at_seq <| at_region <| s1 (y_p rfl) rfl ?_
   refine at_nil <| x_tn <| at_ret <| x_tr ?_
   refine at_result (rs := [.tmp 10]) rfl (r_tmp rfl r_nil) rfl
  ·have hl : L.length ≤ 20 := by have := of_decide_eq_false hc34; omega
   refine at_skip <| x_tn <| at_seq ?_
   rcases forg_ways x m n a L S P hS hP with hcs | hcs | hcs | hcs | hcs | hcs | hcs | hcs
   ·obtain ⟨hsz, hk⟩ := hcs
    refine at_frzP 5 rfl rfl pul ?_
    refine at_frzP 8 rfl rfl pul ?_
    refine at_frzP 9 rfl rfl pul ?_
    refine at_region <| s1 (y_loadA ti23 rfl rfl (List.take_of_length_le (by simp [hx])) (by simp [hx])) rfl <| s1 (y_p rfl) rfl <| s1 (y_p rfl) rfl <| s1 (y_loadA ti23 rfl rfl (List.take_of_length_le (by simp [hm])) (by simp [hm])) rfl <| s1 (y_loadA ti28 rfl rfl rfl rfl) rfl ?_
    refine at_op rfl (n_call false rfl (.cons (.pure pu) (.cons (.pure pu) (.cons (.pure pu) (.cons (.pure pu) (.cons (.pure pu) (.nil)))))) (Con.cast (kforg_ok x n L m a S P hx hL (by omega) hm hS hP) (forg_ret hk).symm) pu (.inl rfl) rfl ?_)
    refine s1 (y_p rfl) rfl <| s1 (y_p rfl) rfl <| s1 (y_p rfl) rfl <| s1 (y_p rfl) rfl <| s1 (y_p rfl) rfl ?_
    refine at_nil <| x_tn <| at_seq <| at_region <| s1 (y_loadA ti23 rfl rfl (List.take_of_length_le (by simp [hx])) (by simp [hx])) rfl <| s1 (y_p rfl) rfl ?_
    refine at_op rfl (n_call false rfl (.cons (.pure pu) (.cons (.pure pu) (.nil))) (Con.cast (root_ok x n hx) (rootA_no hsz)) pu (.inl rfl) rfl ?_)
    refine s1 (y_p rfl) rfl <| s1 (y_p rfl) rfl <| s1 (y_p rfl) rfl ?_
    refine at_op rfl (n_alloc 13 rfl ti23 rfl rfl ?_)
    refine at_op rfl (n_storeA ti23 rfl rfl rfl (by first | rfl | omega | (simp <;> omega) | (simp [*] <;> omega)) (by first | rfl | omega | (simp <;> omega) | (simp [*] <;> omega)) ?_)
    refine s1 (y_p rfl) rfl ?_
    refine at_nil <| x_tn <| at_seq <| at_seq <| at_region <| s1 (y_p rfl) rfl <| s1 ((y_p rfl).v (v' := .b true) (rfl)) rfl <| s1 (y_p rfl) rfl <| g0 rfl rfl rfl rfl <| g0 rfl rfl rfl rfl <| g0 rfl rfl rfl rfl <| g0 rfl rfl rfl rfl <| g0 rfl rfl rfl rfl <| g0 rfl rfl rfl rfl <| s1 (y_p rfl) rfl ?_
    refine at_nil <| x_tn ?_
    refine at_then rfl ?_
    refine at_seq <| at_region <| s1 (y_p rfl) rfl <| s1 ((y_p rfl).v (v' := .b true) (rfl)) rfl <| s1 (y_p rfl) rfl <| g1 rfl rfl (y_p rfl) rfl <| g1 rfl rfl ((y_p rfl).v (v' := .b true) (rfl)) rfl <| s1 (y_p rfl) rfl <| s1 (y_p rfl) rfl ?_
    refine at_nil <| x_tn <| at_ret <| x_tr ?_
    refine at_result (rs := [.tmp 10]) rfl (r_tmp rfl r_nil) rfl
   ·obtain ⟨hsz, hv, hk⟩ := hcs
    refine at_frzP 5 rfl rfl pul ?_
    refine at_frzP 8 rfl rfl pul ?_
    refine at_frzP 9 rfl rfl pul ?_
    refine at_region <| s1 (y_loadA ti23 rfl rfl (List.take_of_length_le (by simp [hx])) (by simp [hx])) rfl <| s1 (y_p rfl) rfl <| s1 (y_p rfl) rfl <| s1 (y_loadA ti23 rfl rfl (List.take_of_length_le (by simp [hm])) (by simp [hm])) rfl <| s1 (y_loadA ti28 rfl rfl rfl rfl) rfl ?_
    refine at_op rfl (n_call false rfl (.cons (.pure pu) (.cons (.pure pu) (.cons (.pure pu) (.cons (.pure pu) (.cons (.pure pu) (.nil)))))) (Con.cast (kforg_ok x n L m a S P hx hL (by omega) hm hS hP) (forg_ret hk).symm) pu (.inl rfl) rfl ?_)
    refine s1 (y_p rfl) rfl <| s1 (y_p rfl) rfl <| s1 (y_p rfl) rfl <| s1 (y_p rfl) rfl <| s1 (y_p rfl) rfl ?_
    refine at_nil <| x_tn <| at_seq <| at_region <| s1 (y_loadA ti23 rfl rfl (List.take_of_length_le (by simp [hx])) (by simp [hx])) rfl <| s1 (y_p rfl) rfl ?_
    refine at_op rfl (n_call false rfl (.cons (.pure pu) (.cons (.pure pu) (.nil))) (Con.cast (root_ok x n hx) ((rootA_eq ..).trans (by rw [decide_eq_true hsz]; rfl : _ = .tu [.ag ((rootD x n).map u8), .i .i64 0]))) pu (.inl rfl) rfl ?_)
    refine s1 (y_p rfl) rfl <| s1 (y_p rfl) rfl <| s1 (y_p rfl) rfl ?_
    refine at_op rfl (n_alloc 13 rfl ti23 rfl rfl ?_)
    refine at_op rfl (n_storeA ti23 rfl rfl rfl (by first | rfl | omega | (simp <;> omega) | (simp [*] <;> omega)) (by first | rfl | omega | (simp <;> omega) | (simp [*] <;> omega)) ?_)
    refine s1 (y_p rfl) rfl ?_
    refine at_nil <| x_tn <| at_seq <| at_seq <| at_region <| s1 (y_p rfl) rfl <| s1 ((y_p rfl).v (v' := .b false) (rfl)) rfl <| s1 (y_p rfl) rfl <| g1 rfl rfl (y_loadA0 ti23 rfl rfl (by simp)) rfl <| g1 rfl rfl (y_p rfl) rfl <| g1 rfl rfl (y_loadA ti23 rfl rfl (List.take_of_length_le (by simp [hm])) (by simp [hm])) rfl <| g1 rfl rfl (y_loadA ti28 rfl rfl rfl rfl) rfl ?_
    refine at_opg rfl rfl rfl (n_call false rfl (.cons (.pure pu) (.cons (.pure pu) (.cons (.pure pu) (.cons (.pure pu) (.nil))))) (Con.cast (kver_ok (rootD x n) m n a S P (by simp) hm hS hP) (congrArg (A.i .i64) (by rw [hv]; rfl : errK (verK (rootD x n) n m a S P) = 60))) pu (.inl rfl) rfl ?_)
    refine g1 rfl rfl ((y_p rfl).v (v' := .b true) (rfl)) rfl <| s1 (y_p rfl) rfl ?_
    refine at_nil <| x_tn ?_
    refine at_then rfl ?_
    refine at_seq <| at_region <| s1 (y_p rfl) rfl <| s1 ((y_p rfl).v (v' := .b true) (rfl)) rfl <| s1 (y_p rfl) rfl <| g1 rfl rfl (y_p rfl) rfl <| g1 rfl rfl ((y_p rfl).v (v' := .b true) (rfl)) rfl <| s1 (y_p rfl) rfl <| s1 (y_p rfl) rfl ?_
    refine at_nil <| x_tn <| at_ret <| x_tr ?_
    refine at_result (rs := [.tmp 10]) rfl (r_tmp rfl r_nil) rfl
   ·obtain ⟨k, i, hb, hz, hm1, hk⟩ := hcs
    obtain ⟨rfl, rfl, hi, hk256, hsz, hv, hSl, hfit⟩ := hb
    have hql := len_sgnK hL i
    have hhfit : (path (kpubs x k) i).length = (rights i k).length := by have := rights_path _ (kpubs x k) i (Nat.le_refl _); simpa using this
    have hTl : (signD (seedL x (i : Nat)) m).length = 19 := len_signL _ _ _
    have hsl : (seedL x (i : Nat)).length = 32 := len_seedL _ _
    have hrl := rights_le k i k (Nat.le_refl _)
    have hin := sgn_in hz
    obtain ⟨q0, hq0⟩ : ∃ q, L[i]? = some q := ⟨_, List.getElem?_eq_getElem hin⟩
    have hq32 := hL q0 (List.mem_of_getElem? hq0)
    refine at_frzP 5 rfl rfl pul ?_
    refine at_frzP 8 rfl rfl pul ?_
    refine at_frzP 9 rfl rfl pul ?_
    refine at_region <| s1 (y_loadA ti23 rfl rfl (List.take_of_length_le (by simp [hx])) (by simp [hx])) rfl <| s1 (y_p rfl) rfl <| s1 (y_p rfl) rfl <| s1 (y_loadA ti23 rfl rfl (List.take_of_length_le (by simp [hm])) (by simp [hm])) rfl <| s1 (y_loadA ti28 rfl rfl rfl rfl) rfl ?_
    refine at_op rfl (n_call false rfl (.cons (.pure pu) (.cons (.pure pu) (.cons (.pure pu) (.cons (.pure pu) (.cons (.pure pu) (.nil)))))) (Con.cast (kforg_ok x (k : Int) L m (i : Nat) S P hx hL (by omega) hm hS hP) (forg_ret hk).symm) pu (.inl rfl) rfl ?_)
    refine s1 (y_p rfl) rfl <| s1 (y_p rfl) rfl <| s1 (y_p rfl) rfl <| s1 (y_p rfl) rfl <| s1 (y_p rfl) rfl ?_
    refine at_nil <| x_tn <| at_seq <| at_region <| s1 (y_loadA ti23 rfl rfl (List.take_of_length_le (by simp [hx])) (by simp [hx])) rfl <| s1 (y_p rfl) rfl ?_
    refine at_op rfl (n_call false rfl (.cons (.pure pu) (.cons (.pure pu) (.nil))) (Con.cast (root_ok x k hx) ((rootA_eq ..).trans (by rw [decide_eq_true hsz]; rfl : _ = .tu [.ag ((rootD x (k : Int)).map u8), .i .i64 0]))) pu (.inl rfl) rfl ?_)
    refine s1 (y_p rfl) rfl <| s1 (y_p rfl) rfl <| s1 (y_p rfl) rfl ?_
    refine at_op rfl (n_alloc 13 rfl ti23 rfl rfl ?_)
    refine at_op rfl (n_storeA ti23 rfl rfl rfl (by first | rfl | omega | (simp <;> omega) | (simp [*] <;> omega)) (by first | rfl | omega | (simp <;> omega) | (simp [*] <;> omega)) ?_)
    refine s1 (y_p rfl) rfl ?_
    refine at_nil <| x_tn <| at_seq <| at_seq <| at_region <| s1 (y_p rfl) rfl <| s1 ((y_p rfl).v (v' := .b false) (rfl)) rfl <| s1 (y_p rfl) rfl <| g1 rfl rfl (y_loadA0 ti23 rfl rfl (by simp)) rfl <| g1 rfl rfl (y_p rfl) rfl <| g1 rfl rfl (y_loadA ti23 rfl rfl (List.take_of_length_le (by simp [hm])) (by simp [hm])) rfl <| g1 rfl rfl (y_loadA ti28 rfl rfl rfl rfl) rfl ?_
    refine at_opg rfl rfl rfl (n_call false rfl (.cons (.pure pu) (.cons (.pure pu) (.cons (.pure pu) (.cons (.pure pu) (.nil))))) (Con.cast (kver_ok (rootD x (k : Int)) m k (i : Nat) S P (by simp) hm hS hP) (congrArg (A.i .i64) (by rw [hv]; rfl : errK (verK (rootD x (k : Int)) k m (i : Nat) S P) = 0))) pu (.inl rfl) rfl ?_)
    refine g1 rfl rfl ((y_p rfl).v (v' := .b false) (rfl)) rfl <| s1 (y_p rfl) rfl ?_
    refine at_nil <| x_tn ?_
    refine at_else rfl ?_
    refine at_skip <| x_tn <| at_seq <| at_region ?_
    refine at_op rfl (n_alloc 15 rfl ti23 rfl rfl ?_)
    refine at_nil <| x_tn <| at_seq <| at_seq <| at_region <| s1 (y_fldf Tryd.underlying28 rfl ti3 (by decide) rfl rfl) rfl <| s1 (y_load ti3 rfl rfl rfl) rfl <| s1 (y_p rfl) rfl <| s1 (y_len Tryd.underlying26 rfl rfl rfl) rfl <| s1 ((y_p rfl).v (v' := .b true) (congrArg A.b (decide_eq_true (by omega)))) rfl ?_
    refine at_nil <| x_tn ?_
    refine at_then rfl ?_
    refine at_region <| s1 (y_p rfl) rfl <| s1 (y_fldf Tryd.underlying28 rfl ti3 (by decide) rfl rfl) rfl <| s1 (y_load ti3 rfl rfl rfl) rfl <| s1 (y_ixf i Tryd.underlying26 ti23 rfl rfl rfl (by omega) rfl) rfl <| s1 (y_loadA ti23 rfl rfl (get_d hL hq0) (by simp [hq32])) rfl ?_
    refine at_op rfl (n_storeA ti23 rfl rfl rfl (by simp [hq32]) (by first | rfl | omega | (simp <;> omega) | (simp [*] <;> omega)) ?_)
    refine at_nil <| x_tn <| at_seq ?_
    refine at_sayO 15 (cs' := (sgnK L i).map u8) rfl (by rw [sgnK_in hq0]) ?_
    refine at_region <| s1 (y_loadA0 ti23 rfl rfl (by simp [hql])) rfl <| s1 ((y_bld0 ti23 rfl Tryd.underlying23 ti5 rfl).v (v' := .ag (zD.map u8)) (congrArg A.ag zD_cells)) rfl <| s1 ((y_aq Tryd.underlying23 Tryd.underlying5 ti5 (by kernel_rfl) rfl rfl (by first | assumption | (simp; done) | (simp [*]; done)) (by first | assumption | (simp; done) | (simp [*]; done))).v (v' := .b false) (congrArg A.b hz)) rfl <| s1 (y_p rfl) rfl ?_
    refine at_nil <| x_tn <| at_seq <| at_seq <| at_region <| s1 (y_loadA0 ti23 rfl rfl (by simp [hql])) rfl <| s1 (y_loadA ti23 rfl rfl (List.take_of_length_le (by simp [hm])) (by simp [hm])) rfl <| s1 ((y_aq Tryd.underlying23 Tryd.underlying5 ti5 (by kernel_rfl) rfl rfl (by first | assumption | (simp; done) | (simp [*]; done)) (by first | assumption | (simp; done) | (simp [*]; done))).v (v' := .b true) (congrArg A.b hm1)) rfl <| s1 (y_p rfl) rfl <| g1 rfl rfl (y_p rfl) rfl <| g1 rfl rfl (y_p rfl) rfl <| s1 (y_p rfl) rfl ?_
    refine at_nil <| x_tn ?_
    refine at_then rfl ?_
    refine at_seq <| at_region <| s1 (y_p rfl) rfl <| s1 ((y_p rfl).v (v' := .b true) (rfl)) rfl <| s1 (y_p rfl) rfl <| g1 rfl rfl (y_p rfl) rfl <| g1 rfl rfl ((y_p rfl).v (v' := .b true) (rfl)) rfl <| s1 (y_p rfl) rfl <| s1 (y_p rfl) rfl ?_
    refine at_nil <| x_tn <| at_ret <| x_tr ?_
    refine at_result (rs := [.tmp 10]) rfl (r_tmp rfl r_nil) rfl
   ·obtain ⟨k, i, hb, hz, hm1, hd1, hk⟩ := hcs
    obtain ⟨rfl, rfl, hi, hk256, hsz, hv, hSl, hfit⟩ := hb
    have hql := len_sgnK hL i
    have hhfit : (path (kpubs x k) i).length = (rights i k).length := by have := rights_path _ (kpubs x k) i (Nat.le_refl _); simpa using this
    have hTl : (signD (seedL x (i : Nat)) m).length = 19 := len_signL _ _ _
    have hsl : (seedL x (i : Nat)).length = 32 := len_seedL _ _
    have hrl := rights_le k i k (Nat.le_refl _)
    have hin := sgn_in hz
    obtain ⟨q0, hq0⟩ : ∃ q, L[i]? = some q := ⟨_, List.getElem?_eq_getElem hin⟩
    have hq32 := hL q0 (List.mem_of_getElem? hq0)
    refine at_frzP 5 rfl rfl pul ?_
    refine at_frzP 8 rfl rfl pul ?_
    refine at_frzP 9 rfl rfl pul ?_
    refine at_region <| s1 (y_loadA ti23 rfl rfl (List.take_of_length_le (by simp [hx])) (by simp [hx])) rfl <| s1 (y_p rfl) rfl <| s1 (y_p rfl) rfl <| s1 (y_loadA ti23 rfl rfl (List.take_of_length_le (by simp [hm])) (by simp [hm])) rfl <| s1 (y_loadA ti28 rfl rfl rfl rfl) rfl ?_
    refine at_op rfl (n_call false rfl (.cons (.pure pu) (.cons (.pure pu) (.cons (.pure pu) (.cons (.pure pu) (.cons (.pure pu) (.nil)))))) (Con.cast (kforg_ok x (k : Int) L m (i : Nat) S P hx hL (by omega) hm hS hP) (forg_ret hk).symm) pu (.inl rfl) rfl ?_)
    refine s1 (y_p rfl) rfl <| s1 (y_p rfl) rfl <| s1 (y_p rfl) rfl <| s1 (y_p rfl) rfl <| s1 (y_p rfl) rfl ?_
    refine at_nil <| x_tn <| at_seq <| at_region <| s1 (y_loadA ti23 rfl rfl (List.take_of_length_le (by simp [hx])) (by simp [hx])) rfl <| s1 (y_p rfl) rfl ?_
    refine at_op rfl (n_call false rfl (.cons (.pure pu) (.cons (.pure pu) (.nil))) (Con.cast (root_ok x k hx) ((rootA_eq ..).trans (by rw [decide_eq_true hsz]; rfl : _ = .tu [.ag ((rootD x (k : Int)).map u8), .i .i64 0]))) pu (.inl rfl) rfl ?_)
    refine s1 (y_p rfl) rfl <| s1 (y_p rfl) rfl <| s1 (y_p rfl) rfl ?_
    refine at_op rfl (n_alloc 13 rfl ti23 rfl rfl ?_)
    refine at_op rfl (n_storeA ti23 rfl rfl rfl (by first | rfl | omega | (simp <;> omega) | (simp [*] <;> omega)) (by first | rfl | omega | (simp <;> omega) | (simp [*] <;> omega)) ?_)
    refine s1 (y_p rfl) rfl ?_
    refine at_nil <| x_tn <| at_seq <| at_seq <| at_region <| s1 (y_p rfl) rfl <| s1 ((y_p rfl).v (v' := .b false) (rfl)) rfl <| s1 (y_p rfl) rfl <| g1 rfl rfl (y_loadA0 ti23 rfl rfl (by simp)) rfl <| g1 rfl rfl (y_p rfl) rfl <| g1 rfl rfl (y_loadA ti23 rfl rfl (List.take_of_length_le (by simp [hm])) (by simp [hm])) rfl <| g1 rfl rfl (y_loadA ti28 rfl rfl rfl rfl) rfl ?_
    refine at_opg rfl rfl rfl (n_call false rfl (.cons (.pure pu) (.cons (.pure pu) (.cons (.pure pu) (.cons (.pure pu) (.nil))))) (Con.cast (kver_ok (rootD x (k : Int)) m k (i : Nat) S P (by simp) hm hS hP) (congrArg (A.i .i64) (by rw [hv]; rfl : errK (verK (rootD x (k : Int)) k m (i : Nat) S P) = 0))) pu (.inl rfl) rfl ?_)
    refine g1 rfl rfl ((y_p rfl).v (v' := .b false) (rfl)) rfl <| s1 (y_p rfl) rfl ?_
    refine at_nil <| x_tn ?_
    refine at_else rfl ?_
    refine at_skip <| x_tn <| at_seq <| at_region ?_
    refine at_op rfl (n_alloc 15 rfl ti23 rfl rfl ?_)
    refine at_nil <| x_tn <| at_seq <| at_seq <| at_region <| s1 (y_fldf Tryd.underlying28 rfl ti3 (by decide) rfl rfl) rfl <| s1 (y_load ti3 rfl rfl rfl) rfl <| s1 (y_p rfl) rfl <| s1 (y_len Tryd.underlying26 rfl rfl rfl) rfl <| s1 ((y_p rfl).v (v' := .b true) (congrArg A.b (decide_eq_true (by omega)))) rfl ?_
    refine at_nil <| x_tn ?_
    refine at_then rfl ?_
    refine at_region <| s1 (y_p rfl) rfl <| s1 (y_fldf Tryd.underlying28 rfl ti3 (by decide) rfl rfl) rfl <| s1 (y_load ti3 rfl rfl rfl) rfl <| s1 (y_ixf i Tryd.underlying26 ti23 rfl rfl rfl (by omega) rfl) rfl <| s1 (y_loadA ti23 rfl rfl (get_d hL hq0) (by simp [hq32])) rfl ?_
    refine at_op rfl (n_storeA ti23 rfl rfl rfl (by simp [hq32]) (by first | rfl | omega | (simp <;> omega) | (simp [*] <;> omega)) ?_)
    refine at_nil <| x_tn <| at_seq ?_
    refine at_sayO 15 (cs' := (sgnK L i).map u8) rfl (by rw [sgnK_in hq0]) ?_
    refine at_region <| s1 (y_loadA0 ti23 rfl rfl (by simp [hql])) rfl <| s1 ((y_bld0 ti23 rfl Tryd.underlying23 ti5 rfl).v (v' := .ag (zD.map u8)) (congrArg A.ag zD_cells)) rfl <| s1 ((y_aq Tryd.underlying23 Tryd.underlying5 ti5 (by kernel_rfl) rfl rfl (by first | assumption | (simp; done) | (simp [*]; done)) (by first | assumption | (simp; done) | (simp [*]; done))).v (v' := .b false) (congrArg A.b hz)) rfl <| s1 (y_p rfl) rfl ?_
    refine at_nil <| x_tn <| at_seq <| at_seq <| at_region <| s1 (y_loadA0 ti23 rfl rfl (by simp [hql])) rfl <| s1 (y_loadA ti23 rfl rfl (List.take_of_length_le (by simp [hm])) (by simp [hm])) rfl <| s1 ((y_aq Tryd.underlying23 Tryd.underlying5 ti5 (by kernel_rfl) rfl rfl (by first | assumption | (simp; done) | (simp [*]; done)) (by first | assumption | (simp; done) | (simp [*]; done))).v (v' := .b false) (congrArg A.b hm1)) rfl <| s1 (y_p rfl) rfl <| g0 rfl rfl rfl rfl <| g0 rfl rfl rfl rfl <| s1 (y_p rfl) rfl ?_
    refine at_nil <| x_tn ?_
    refine at_else rfl ?_
    refine at_skip <| x_tn <| at_seq ?_
    refine at_fs ⟨_, [], []⟩ 5 4 hmix (le_refl rfl) ?_
    refine fs_q 0 [] [] (y_loadA ti23 rfl rfl (List.take_of_length_le (by simp [hm])) (by simp [hm])) rfl rfl ?_
    refine fs_call false 1 [0] [] gy0 rfl (.cons (.pure pu) (.nil)) (digits_ok m hm) pu (.inl rfl) rfl rfl ?_
    refine fs_q 2 [] [(15, none)] (y_loadA0 ti23 rfl rfl (by simp [hql])) rfl rfl ?_
    refine fs_callO 95 false 3 [2] [] gy0 rfl (.cons (.pure pu) (.nil)) (digitsO_ok (sgnK L i) hql) pul (.inl rfl) rfl rfl ?_
    refine fs_q 4 [1] [] (y_p rfl) rfl rfl ?_
    refine fs_end (by kernel_rfl) ?_
    refine s1 (y_p rfl) rfl ?_
    refine at_nil <| x_tn <| at_seq <| at_seq <| at_region <| s1 (y_p rfl) rfl <| s1 (y_len Tryd.underlying42 rfl rfl rfl) rfl <| s1 ((y_p rfl).v (v' := .b false) (congrArg A.b (by simp))) rfl <| s1 (y_p rfl) rfl <| g1 rfl rfl (y_p rfl) rfl <| g1 rfl rfl (y_len Tryd.underlying42 rfl rfl rfl) rfl <| g1 rfl rfl ((y_p rfl).v (v' := .b false) (congrArg A.b (by simp))) rfl <| s1 (y_p rfl) rfl <| s1 (y_p rfl) rfl <| g1 rfl rfl (y_fldf Tryd.underlying28 rfl ti26 (by decide) rfl rfl) rfl ?_
    refine g1 rfl rfl (y_load ti26 rfl rfl rfl) rfl <| g1 rfl rfl (y_len Tryd.underlying26 rfl rfl rfl) rfl <| g1 rfl rfl ((y_p rfl).v (v' := .b false) (congrArg A.b (by simp [hSl]))) rfl <| s1 (y_p rfl) rfl ?_
    refine at_nil <| x_tn ?_
    refine at_else rfl ?_
    refine at_skip <| x_tn <| at_seq <| at_region <| s1 (y_p rfl) rfl <| s1 (y_p rfl) rfl <| s1 (y_p rfl) rfl ?_
    refine at_nil <| x_tn <| at_seq <| at_seq <| at_region <| s1 (y_p rfl) rfl <| s1 (y_len Tryd.underlying42 rfl rfl rfl) rfl <| s1 ((y_p rfl).v (v' := .i .i64 0) rfl) rfl ?_
    refine at_nil <| x_tn <| at_block ?_
    refine at_loop (ι := Nat) (fun j => [(1, nI k), (5, .fp (x.map u8)), (8, .fp (m.map u8)), (9, .fp [nI i, dgs S, dgs P]), (11, .i .i64 1), (12, .i .i64 0), (16, .b false), (17, .fz 19 ((digits m).map nI)), (18, .sl 195 1 0 19), (19, .b (samD m (sgnK L i) j)), (113, nI 19), (114, nI j)]) (fun j => ⟨[(195, some ((digits (sgnK L i)).map nI))]⟩) (fun j => j ≤ 19) (fun j => 19 - j) ?_ ?_
    ·exact at_ex (0) (Nat.zero_le _) [(195, some 95)] hI rfl rfl ⟨⟨_, rfl, .pure pu⟩, ⟨_, rfl, .pure pu⟩, ⟨_, rfl, .pure pu⟩, ⟨_, rfl, .pure pu⟩, ⟨_, rfl, .pure pu⟩, ⟨_, rfl, .pure pu⟩, ⟨_, rfl, .pure pu⟩, ⟨_, rfl, .pure pu⟩, ⟨_, rfl, .sl rfl (by first | rfl | omega | (simp <;> omega) | (simp [*] <;> omega))⟩, ⟨_, rfl, .of rfl (.pure pu)⟩, ⟨_, rfl, .pure pu⟩, ⟨_, rfl, .pure pu⟩, trivial⟩ ⟨.inr ⟨_, _, rfl, rfl, .pure pul⟩, trivial⟩
    rintro j hj
    refine at_seq <| at_region <| s1 (y_p rfl) rfl ?_
    refine at_nil <| x_tn <| at_seq ?_
    refine at_cond rfl (fun hc115 => ?_) (fun hc115 => ?_)
    ·have h115 : j < 19 := by have := of_decide_eq_true hc115; omega
     refine at_skip <| x_tn <| at_seq <| at_block <| at_seq <| at_region <| s1 (y_p rfl) rfl <| s1 (y_p rfl) rfl ?_
     refine at_nil <| x_tn <| at_seq <| at_seq <| at_region <| s1 (y_p rfl) rfl ?_
     refine at_nil <| x_tn ?_
     refine at_else rfl ?_
     refine at_skip <| x_tn ?_
     rcases tfK (samD m (sgnK L i) j) with hcs | hcs
     ·skip
      refine at_draw_tail 12 hmix (by kernel_rfl) ?_
      refine t1 ((y_p rfl).v (v' := .b false) (congrArg A.b hcs)) rfl <| t1 (y_p rfl) rfl <| t0g rfl rfl rfl rfl <| t0g rfl rfl rfl rfl <| t0g rfl rfl rfl rfl <| t0g rfl rfl rfl rfl <| t0g rfl rfl rfl rfl <| t0g rfl rfl rfl rfl <| t0g rfl rfl rfl rfl <| t0g rfl rfl rfl rfl ?_
      refine t0g rfl rfl rfl rfl <| t1 (y_p rfl) rfl ?_
      refine at_snil ?_
      refine s1 (y_p rfl) rfl ?_
      refine at_nil <| x_bn <| x_tn <| at_region <| s1 (addN _ 1 rfl rfl rfl rfl (by omega)) rfl <| s1 (y_p rfl) rfl ?_
      refine at_nil ?_
      exact at_end (j + 1) (by omega) (by omega) [(195, some 195)] hI rfl rfl ⟨⟨_, rfl, .pure pu⟩, ⟨_, rfl, .pure pu⟩, ⟨_, rfl, .pure pu⟩, ⟨_, rfl, .pure pu⟩, ⟨_, rfl, .pure pu⟩, ⟨_, rfl, .pure pu⟩, ⟨_, rfl, .pure pu⟩, ⟨_, rfl, .pure pu⟩, ⟨_, rfl, .sl rfl (by first | rfl | omega | (simp <;> omega) | (simp [*] <;> omega))⟩, ⟨_, rfl, .of (by rw [samD_no hcs]; rfl) (.pure pu)⟩, ⟨_, rfl, .pure pu⟩, ⟨_, rfl, .pure pu⟩, trivial⟩ ⟨.inr ⟨_, _, rfl, rfl, .pure pul⟩, trivial⟩
     ·skip
      refine at_draw_tail 12 hmix (by kernel_rfl) ?_
      refine t1 ((y_p rfl).v (v' := .b true) (congrArg A.b hcs)) rfl <| t1 (y_p rfl) rfl <| t1g rfl rfl (y_p rfl) rfl <| t1g rfl rfl (y_p rfl) rfl <| t1g rfl rfl (y_ixf j Tryd.underlying42 ti3 rfl rfl rfl (by omega) rfl) rfl <| t1g rfl rfl (y_load ti3 rfl rfl (get_dig3 m j h115)) rfl <| t1g rfl rfl (y_p rfl) rfl <| t1g rfl rfl (y_p rfl) rfl <| t1g rfl rfl (y_ixs j Tryd.underlying42 ti3 rfl rfl rfl rfl (by omega) rfl) rfl <| t1g rfl rfl (y_load ti3 rfl rfl (get_dig2 (sgnK L i) j h115)) rfl ?_
      refine t1g rfl rfl ((y_p rfl).v (v' := .b (dg m j == dg (sgnK L i) j)) (congrArg A.b (by rw [Bool.eq_iff_iff]; simp; omega))) rfl <| t1 (y_p rfl) rfl ?_
      refine at_snil ?_
      refine s1 (y_p rfl) rfl ?_
      refine at_nil <| x_bn <| x_tn <| at_region <| s1 (addN _ 1 rfl rfl rfl rfl (by omega)) rfl <| s1 (y_p rfl) rfl ?_
      refine at_nil ?_
      exact at_end (j + 1) (by omega) (by omega) [(195, some 195)] hI rfl rfl ⟨⟨_, rfl, .pure pu⟩, ⟨_, rfl, .pure pu⟩, ⟨_, rfl, .pure pu⟩, ⟨_, rfl, .pure pu⟩, ⟨_, rfl, .pure pu⟩, ⟨_, rfl, .pure pu⟩, ⟨_, rfl, .pure pu⟩, ⟨_, rfl, .pure pu⟩, ⟨_, rfl, .sl rfl (by first | rfl | omega | (simp <;> omega) | (simp [*] <;> omega))⟩, ⟨_, rfl, .of (by rw [samD_next, hcs, Bool.true_and]) (.pure pu)⟩, ⟨_, rfl, .pure pu⟩, ⟨_, rfl, .pure pu⟩, trivial⟩ ⟨.inr ⟨_, _, rfl, rfl, .pure pul⟩, trivial⟩
    ·obtain rfl : j = 19 := by have := of_decide_eq_false hc115; omega
     refine at_exit <| x_te <| x_te <| x_be <| x_tn <| at_seq ?_
     refine at_frz 18 rfl rfl pul (view_eq (by simp []) rfl) ?_
     refine at_say 18 rfl (v' := .fz 19 ((knwK (sgnK L i)).map nI)) (by rw [knw_no hz]) ?_
     refine at_say 19 rfl (v' := .b true) (congrArg A.b ((samD_end m (sgnK L i)).trans hd1)) ?_
     refine at_region <| s1 (y_loadA ti23 rfl rfl (List.take_of_length_le (by simp [hx])) (by simp [hx])) rfl <| s1 (y_fldf Tryd.underlying28 rfl ti3 (by decide) rfl rfl) rfl <| s1 (y_load ti3 rfl rfl rfl) rfl ?_
     refine at_op rfl (n_call false rfl (.cons (.pure pu) (.cons (.pure pu) (.nil))) (seed_ok x (i : Nat) hx) pu (.inl rfl) rfl ?_)
     refine at_op rfl (n_alloc 21 rfl ti23 rfl rfl ?_)
     refine at_op rfl (n_storeA ti23 rfl rfl rfl (by simp) (by first | rfl | omega | (simp <;> omega) | (simp [*] <;> omega)) ?_)
     refine at_nil <| x_tn <| at_seq <| at_seq <| at_region <| s1 (y_p rfl) rfl ?_
     refine at_nil <| x_tn <| at_block <| at_seq <| at_region <| s1 ((y_p rfl).v (v' := .b true) (rfl)) rfl <| s1 (y_p rfl) rfl ?_
     refine at_nil <| x_tn ?_
     refine at_then rfl ?_
     refine at_seq <| at_region <| s1 (y_p rfl) rfl <| s1 (y_p rfl) rfl <| g1 rfl rfl (y_p rfl) rfl <| g1 rfl rfl ((y_p rfl).v (v' := .b true) (rfl)) rfl <| s1 (y_p rfl) rfl <| s1 (y_p rfl) rfl ?_
     refine at_nil <| x_tn <| at_ret <| x_br <| x_tr ?_
     refine at_result (rs := [.tmp 10]) rfl (r_tmp rfl r_nil) rfl
   ·obtain ⟨k, i, hb, hz, hm1, hd1, t, ht, hbad, hk⟩ := hcs
    obtain ⟨rfl, rfl, hi, hk256, hsz, hv, hSl, hfit⟩ := hb
    have hql := len_sgnK hL i
    have hhfit : (path (kpubs x k) i).length = (rights i k).length := by have := rights_path _ (kpubs x k) i (Nat.le_refl _); simpa using this
    have hTl : (signD (seedL x (i : Nat)) m).length = 19 := len_signL _ _ _
    have hsl : (seedL x (i : Nat)).length = 32 := len_seedL _ _
    have hrl := rights_le k i k (Nat.le_refl _)
    have hin := sgn_in hz
    obtain ⟨q0, hq0⟩ : ∃ q, L[i]? = some q := ⟨_, List.getElem?_eq_getElem hin⟩
    have hq32 := hL q0 (List.mem_of_getElem? hq0)
    obtain ⟨hlt, hSt⟩ := bad_spec hbad ht hSl
    have hel := len_iterD (len_firstD (seedL x (i : Nat)) t) (dg m t)
    refine at_frzP 5 rfl rfl pul ?_
    refine at_frzP 8 rfl rfl pul ?_
    refine at_frzP 9 rfl rfl pul ?_
    refine at_region <| s1 (y_loadA ti23 rfl rfl (List.take_of_length_le (by simp [hx])) (by simp [hx])) rfl <| s1 (y_p rfl) rfl <| s1 (y_p rfl) rfl <| s1 (y_loadA ti23 rfl rfl (List.take_of_length_le (by simp [hm])) (by simp [hm])) rfl <| s1 (y_loadA ti28 rfl rfl rfl rfl) rfl ?_
    refine at_op rfl (n_call false rfl (.cons (.pure pu) (.cons (.pure pu) (.cons (.pure pu) (.cons (.pure pu) (.cons (.pure pu) (.nil)))))) (Con.cast (kforg_ok x (k : Int) L m (i : Nat) S P hx hL (by omega) hm hS hP) (forg_ret hk).symm) pu (.inl rfl) rfl ?_)
    refine s1 (y_p rfl) rfl <| s1 (y_p rfl) rfl <| s1 (y_p rfl) rfl <| s1 (y_p rfl) rfl <| s1 (y_p rfl) rfl ?_
    refine at_nil <| x_tn <| at_seq <| at_region <| s1 (y_loadA ti23 rfl rfl (List.take_of_length_le (by simp [hx])) (by simp [hx])) rfl <| s1 (y_p rfl) rfl ?_
    refine at_op rfl (n_call false rfl (.cons (.pure pu) (.cons (.pure pu) (.nil))) (Con.cast (root_ok x k hx) ((rootA_eq ..).trans (by rw [decide_eq_true hsz]; rfl : _ = .tu [.ag ((rootD x (k : Int)).map u8), .i .i64 0]))) pu (.inl rfl) rfl ?_)
    refine s1 (y_p rfl) rfl <| s1 (y_p rfl) rfl <| s1 (y_p rfl) rfl ?_
    refine at_op rfl (n_alloc 13 rfl ti23 rfl rfl ?_)
    refine at_op rfl (n_storeA ti23 rfl rfl rfl (by first | rfl | omega | (simp <;> omega) | (simp [*] <;> omega)) (by first | rfl | omega | (simp <;> omega) | (simp [*] <;> omega)) ?_)
    refine s1 (y_p rfl) rfl ?_
    refine at_nil <| x_tn <| at_seq <| at_seq <| at_region <| s1 (y_p rfl) rfl <| s1 ((y_p rfl).v (v' := .b false) (rfl)) rfl <| s1 (y_p rfl) rfl <| g1 rfl rfl (y_loadA0 ti23 rfl rfl (by simp)) rfl <| g1 rfl rfl (y_p rfl) rfl <| g1 rfl rfl (y_loadA ti23 rfl rfl (List.take_of_length_le (by simp [hm])) (by simp [hm])) rfl <| g1 rfl rfl (y_loadA ti28 rfl rfl rfl rfl) rfl ?_
    refine at_opg rfl rfl rfl (n_call false rfl (.cons (.pure pu) (.cons (.pure pu) (.cons (.pure pu) (.cons (.pure pu) (.nil))))) (Con.cast (kver_ok (rootD x (k : Int)) m k (i : Nat) S P (by simp) hm hS hP) (congrArg (A.i .i64) (by rw [hv]; rfl : errK (verK (rootD x (k : Int)) k m (i : Nat) S P) = 0))) pu (.inl rfl) rfl ?_)
    refine g1 rfl rfl ((y_p rfl).v (v' := .b false) (rfl)) rfl <| s1 (y_p rfl) rfl ?_
    refine at_nil <| x_tn ?_
    refine at_else rfl ?_
    refine at_skip <| x_tn <| at_seq <| at_region ?_
    refine at_op rfl (n_alloc 15 rfl ti23 rfl rfl ?_)
    refine at_nil <| x_tn <| at_seq <| at_seq <| at_region <| s1 (y_fldf Tryd.underlying28 rfl ti3 (by decide) rfl rfl) rfl <| s1 (y_load ti3 rfl rfl rfl) rfl <| s1 (y_p rfl) rfl <| s1 (y_len Tryd.underlying26 rfl rfl rfl) rfl <| s1 ((y_p rfl).v (v' := .b true) (congrArg A.b (decide_eq_true (by omega)))) rfl ?_
    refine at_nil <| x_tn ?_
    refine at_then rfl ?_
    refine at_region <| s1 (y_p rfl) rfl <| s1 (y_fldf Tryd.underlying28 rfl ti3 (by decide) rfl rfl) rfl <| s1 (y_load ti3 rfl rfl rfl) rfl <| s1 (y_ixf i Tryd.underlying26 ti23 rfl rfl rfl (by omega) rfl) rfl <| s1 (y_loadA ti23 rfl rfl (get_d hL hq0) (by simp [hq32])) rfl ?_
    refine at_op rfl (n_storeA ti23 rfl rfl rfl (by simp [hq32]) (by first | rfl | omega | (simp <;> omega) | (simp [*] <;> omega)) ?_)
    refine at_nil <| x_tn <| at_seq ?_
    refine at_sayO 15 (cs' := (sgnK L i).map u8) rfl (by rw [sgnK_in hq0]) ?_
    refine at_region <| s1 (y_loadA0 ti23 rfl rfl (by simp [hql])) rfl <| s1 ((y_bld0 ti23 rfl Tryd.underlying23 ti5 rfl).v (v' := .ag (zD.map u8)) (congrArg A.ag zD_cells)) rfl <| s1 ((y_aq Tryd.underlying23 Tryd.underlying5 ti5 (by kernel_rfl) rfl rfl (by first | assumption | (simp; done) | (simp [*]; done)) (by first | assumption | (simp; done) | (simp [*]; done))).v (v' := .b false) (congrArg A.b hz)) rfl <| s1 (y_p rfl) rfl ?_
    refine at_nil <| x_tn <| at_seq <| at_seq <| at_region <| s1 (y_loadA0 ti23 rfl rfl (by simp [hql])) rfl <| s1 (y_loadA ti23 rfl rfl (List.take_of_length_le (by simp [hm])) (by simp [hm])) rfl <| s1 ((y_aq Tryd.underlying23 Tryd.underlying5 ti5 (by kernel_rfl) rfl rfl (by first | assumption | (simp; done) | (simp [*]; done)) (by first | assumption | (simp; done) | (simp [*]; done))).v (v' := .b false) (congrArg A.b hm1)) rfl <| s1 (y_p rfl) rfl <| g0 rfl rfl rfl rfl <| g0 rfl rfl rfl rfl <| s1 (y_p rfl) rfl ?_
    refine at_nil <| x_tn ?_
    refine at_else rfl ?_
    refine at_skip <| x_tn <| at_seq ?_
    refine at_fs ⟨_, [], []⟩ 5 4 hmix (le_refl rfl) ?_
    refine fs_q 0 [] [] (y_loadA ti23 rfl rfl (List.take_of_length_le (by simp [hm])) (by simp [hm])) rfl rfl ?_
    refine fs_call false 1 [0] [] gy0 rfl (.cons (.pure pu) (.nil)) (digits_ok m hm) pu (.inl rfl) rfl rfl ?_
    refine fs_q 2 [] [(15, none)] (y_loadA0 ti23 rfl rfl (by simp [hql])) rfl rfl ?_
    refine fs_callO 95 false 3 [2] [] gy0 rfl (.cons (.pure pu) (.nil)) (digitsO_ok (sgnK L i) hql) pul (.inl rfl) rfl rfl ?_
    refine fs_q 4 [1] [] (y_p rfl) rfl rfl ?_
    refine fs_end (by kernel_rfl) ?_
    refine s1 (y_p rfl) rfl ?_
    refine at_nil <| x_tn <| at_seq <| at_seq <| at_region <| s1 (y_p rfl) rfl <| s1 (y_len Tryd.underlying42 rfl rfl rfl) rfl <| s1 ((y_p rfl).v (v' := .b false) (congrArg A.b (by simp))) rfl <| s1 (y_p rfl) rfl <| g1 rfl rfl (y_p rfl) rfl <| g1 rfl rfl (y_len Tryd.underlying42 rfl rfl rfl) rfl <| g1 rfl rfl ((y_p rfl).v (v' := .b false) (congrArg A.b (by simp))) rfl <| s1 (y_p rfl) rfl <| s1 (y_p rfl) rfl <| g1 rfl rfl (y_fldf Tryd.underlying28 rfl ti26 (by decide) rfl rfl) rfl ?_
    refine g1 rfl rfl (y_load ti26 rfl rfl rfl) rfl <| g1 rfl rfl (y_len Tryd.underlying26 rfl rfl rfl) rfl <| g1 rfl rfl ((y_p rfl).v (v' := .b false) (congrArg A.b (by simp [hSl]))) rfl <| s1 (y_p rfl) rfl ?_
    refine at_nil <| x_tn ?_
    refine at_else rfl ?_
    refine at_skip <| x_tn <| at_seq <| at_region <| s1 (y_p rfl) rfl <| s1 (y_p rfl) rfl <| s1 (y_p rfl) rfl ?_
    refine at_nil <| x_tn <| at_seq <| at_seq <| at_region <| s1 (y_p rfl) rfl <| s1 (y_len Tryd.underlying42 rfl rfl rfl) rfl <| s1 ((y_p rfl).v (v' := .i .i64 0) rfl) rfl ?_
    refine at_nil <| x_tn <| at_block ?_
    refine at_loop (ι := Nat) (fun j => [(1, nI k), (5, .fp (x.map u8)), (8, .fp (m.map u8)), (9, .fp [nI i, dgs S, dgs P]), (11, .i .i64 2), (12, .i .i64 (t : Int)), (16, .b false), (17, .fz 19 ((digits m).map nI)), (18, .sl 195 1 0 19), (19, .b (samD m (sgnK L i) j)), (113, nI 19), (114, nI j)]) (fun j => ⟨[(195, some ((digits (sgnK L i)).map nI))]⟩) (fun j => j ≤ 19) (fun j => 19 - j) ?_ ?_
    ·exact at_ex (0) (Nat.zero_le _) [(195, some 95)] hI rfl rfl ⟨⟨_, rfl, .pure pu⟩, ⟨_, rfl, .pure pu⟩, ⟨_, rfl, .pure pu⟩, ⟨_, rfl, .pure pu⟩, ⟨_, rfl, .pure pu⟩, ⟨_, rfl, .pure pu⟩, ⟨_, rfl, .pure pu⟩, ⟨_, rfl, .pure pu⟩, ⟨_, rfl, .sl rfl (by first | rfl | omega | (simp <;> omega) | (simp [*] <;> omega))⟩, ⟨_, rfl, .of rfl (.pure pu)⟩, ⟨_, rfl, .pure pu⟩, ⟨_, rfl, .pure pu⟩, trivial⟩ ⟨.inr ⟨_, _, rfl, rfl, .pure pul⟩, trivial⟩
    rintro j hj
    refine at_seq <| at_region <| s1 (y_p rfl) rfl ?_
    refine at_nil <| x_tn <| at_seq ?_
    refine at_cond rfl (fun hc115 => ?_) (fun hc115 => ?_)
    ·have h115 : j < 19 := by have := of_decide_eq_true hc115; omega
     refine at_skip <| x_tn <| at_seq <| at_block <| at_seq <| at_region <| s1 (y_p rfl) rfl <| s1 (y_p rfl) rfl ?_
     refine at_nil <| x_tn <| at_seq <| at_seq <| at_region <| s1 (y_p rfl) rfl ?_
     refine at_nil <| x_tn ?_
     refine at_else rfl ?_
     refine at_skip <| x_tn ?_
     rcases tfK (samD m (sgnK L i) j) with hcs | hcs
     ·skip
      refine at_draw_tail 12 hmix (by kernel_rfl) ?_
      refine t1 ((y_p rfl).v (v' := .b false) (congrArg A.b hcs)) rfl <| t1 (y_p rfl) rfl <| t0g rfl rfl rfl rfl <| t0g rfl rfl rfl rfl <| t0g rfl rfl rfl rfl <| t0g rfl rfl rfl rfl <| t0g rfl rfl rfl rfl <| t0g rfl rfl rfl rfl <| t0g rfl rfl rfl rfl <| t0g rfl rfl rfl rfl ?_
      refine t0g rfl rfl rfl rfl <| t1 (y_p rfl) rfl ?_
      refine at_snil ?_
      refine s1 (y_p rfl) rfl ?_
      refine at_nil <| x_bn <| x_tn <| at_region <| s1 (addN _ 1 rfl rfl rfl rfl (by omega)) rfl <| s1 (y_p rfl) rfl ?_
      refine at_nil ?_
      exact at_end (j + 1) (by omega) (by omega) [(195, some 195)] hI rfl rfl ⟨⟨_, rfl, .pure pu⟩, ⟨_, rfl, .pure pu⟩, ⟨_, rfl, .pure pu⟩, ⟨_, rfl, .pure pu⟩, ⟨_, rfl, .pure pu⟩, ⟨_, rfl, .pure pu⟩, ⟨_, rfl, .pure pu⟩, ⟨_, rfl, .pure pu⟩, ⟨_, rfl, .sl rfl (by first | rfl | omega | (simp <;> omega) | (simp [*] <;> omega))⟩, ⟨_, rfl, .of (by rw [samD_no hcs]; rfl) (.pure pu)⟩, ⟨_, rfl, .pure pu⟩, ⟨_, rfl, .pure pu⟩, trivial⟩ ⟨.inr ⟨_, _, rfl, rfl, .pure pul⟩, trivial⟩
     ·skip
      refine at_draw_tail 12 hmix (by kernel_rfl) ?_
      refine t1 ((y_p rfl).v (v' := .b true) (congrArg A.b hcs)) rfl <| t1 (y_p rfl) rfl <| t1g rfl rfl (y_p rfl) rfl <| t1g rfl rfl (y_p rfl) rfl <| t1g rfl rfl (y_ixf j Tryd.underlying42 ti3 rfl rfl rfl (by omega) rfl) rfl <| t1g rfl rfl (y_load ti3 rfl rfl (get_dig3 m j h115)) rfl <| t1g rfl rfl (y_p rfl) rfl <| t1g rfl rfl (y_p rfl) rfl <| t1g rfl rfl (y_ixs j Tryd.underlying42 ti3 rfl rfl rfl rfl (by omega) rfl) rfl <| t1g rfl rfl (y_load ti3 rfl rfl (get_dig2 (sgnK L i) j h115)) rfl ?_
      refine t1g rfl rfl ((y_p rfl).v (v' := .b (dg m j == dg (sgnK L i) j)) (congrArg A.b (by rw [Bool.eq_iff_iff]; simp; omega))) rfl <| t1 (y_p rfl) rfl ?_
      refine at_snil ?_
      refine s1 (y_p rfl) rfl ?_
      refine at_nil <| x_bn <| x_tn <| at_region <| s1 (addN _ 1 rfl rfl rfl rfl (by omega)) rfl <| s1 (y_p rfl) rfl ?_
      refine at_nil ?_
      exact at_end (j + 1) (by omega) (by omega) [(195, some 195)] hI rfl rfl ⟨⟨_, rfl, .pure pu⟩, ⟨_, rfl, .pure pu⟩, ⟨_, rfl, .pure pu⟩, ⟨_, rfl, .pure pu⟩, ⟨_, rfl, .pure pu⟩, ⟨_, rfl, .pure pu⟩, ⟨_, rfl, .pure pu⟩, ⟨_, rfl, .pure pu⟩, ⟨_, rfl, .sl rfl (by first | rfl | omega | (simp <;> omega) | (simp [*] <;> omega))⟩, ⟨_, rfl, .of (by rw [samD_next, hcs, Bool.true_and]) (.pure pu)⟩, ⟨_, rfl, .pure pu⟩, ⟨_, rfl, .pure pu⟩, trivial⟩ ⟨.inr ⟨_, _, rfl, rfl, .pure pul⟩, trivial⟩
    ·obtain rfl : j = 19 := by have := of_decide_eq_false hc115; omega
     refine at_exit <| x_te <| x_te <| x_be <| x_tn <| at_seq ?_
     refine at_frz 18 rfl rfl pul (view_eq (by simp []) rfl) ?_
     refine at_say 18 rfl (v' := .fz 19 ((knwK (sgnK L i)).map nI)) (by rw [knw_no hz]) ?_
     refine at_say 19 rfl (v' := .b false) (congrArg A.b ((samD_end m (sgnK L i)).trans hd1)) ?_
     refine at_region <| s1 (y_loadA ti23 rfl rfl (List.take_of_length_le (by simp [hx])) (by simp [hx])) rfl <| s1 (y_fldf Tryd.underlying28 rfl ti3 (by decide) rfl rfl) rfl <| s1 (y_load ti3 rfl rfl rfl) rfl ?_
     refine at_op rfl (n_call false rfl (.cons (.pure pu) (.cons (.pure pu) (.nil))) (seed_ok x (i : Nat) hx) pu (.inl rfl) rfl ?_)
     refine at_op rfl (n_alloc 21 rfl ti23 rfl rfl ?_)
     refine at_op rfl (n_storeA ti23 rfl rfl rfl (by simp) (by first | rfl | omega | (simp <;> omega) | (simp [*] <;> omega)) ?_)
     refine at_nil <| x_tn <| at_seq <| at_seq <| at_region <| s1 (y_p rfl) rfl ?_
     refine at_nil <| x_tn <| at_block <| at_seq <| at_region <| s1 ((y_p rfl).v (v' := .b false) (rfl)) rfl <| s1 (y_p rfl) rfl ?_
     refine at_nil <| x_tn ?_
     refine at_else rfl ?_
     refine at_seq <| at_region <| s1 ((y_p rfl).v (v' := .b true) (rfl)) rfl <| s1 (y_p rfl) rfl ?_
     refine at_nil <| x_tn ?_
     refine at_then rfl ?_
     refine at_seq ?_
     refine at_fs ⟨_, [], []⟩ 36 4 hmix (le_refl rfl) ?_
     refine fs_q 0 [] [] (y_p rfl) rfl rfl ?_
     refine fs_q 1 [0] [] (y_p rfl) rfl rfl ?_
     refine fs_q 2 [1] [] (y_p rfl) rfl rfl ?_
     refine fs_qg 3 [2] [] rfl rfl (y_p rfl) rfl rfl ?_
     refine fs_qg 4 [2, 3] [] rfl rfl ((y_p rfl).v (v' := .b true) (congrArg A.b (decide_eq_true (by omega)))) rfl rfl ?_
     refine fs_q 5 [2, 4] [] (y_p rfl) rfl rfl ?_
     refine fs_q 6 [5] [] (y_p rfl) rfl rfl ?_
     refine fs_qg 7 [6] [] rfl rfl (y_p rfl) rfl rfl ?_
     refine fs_qg 8 [6, 7] [] rfl rfl ((y_p rfl).v (v' := .b true) (congrArg A.b (decide_eq_true (by omega)))) rfl rfl ?_
     refine fs_q 9 [6, 8] [] (y_p rfl) rfl rfl ?_
     refine fs_q 10 [9] [] (y_p rfl) rfl rfl ?_
     refine fs_qg 11 [10] [] rfl rfl (y_p rfl) rfl rfl ?_
     refine fs_qg 12 [10] [] rfl rfl (y_p rfl) rfl rfl ?_
     refine fs_qg 13 [10, 11, 12] [] rfl rfl (y_ixf t Tryd.underlying42 ti3 rfl rfl rfl (by omega) rfl) rfl rfl ?_
     refine fs_qg 14 [10, 13] [] rfl rfl (y_load ti3 rfl rfl (get_dig3 m t ht)) rfl rfl ?_
     refine fs_qg 15 [10] [] rfl rfl (y_p rfl) rfl rfl ?_
     refine fs_qg 16 [10] [] rfl rfl (y_p rfl) rfl rfl ?_
     refine fs_qg 17 [10, 15, 16] [] rfl rfl (y_ixf t Tryd.underlying42 ti3 rfl rfl rfl (by omega) rfl) rfl rfl ?_
     refine fs_qg 18 [10, 17] [] rfl rfl (y_load ti3 rfl rfl (get_knw (sgnK L i) t ht)) rfl rfl ?_
     refine fs_qg 19 [10, 14, 18] [] rfl rfl ((y_p rfl).v (v' := .b true) (congrArg A.b (decide_eq_true (by omega)))) rfl rfl ?_
     refine fs_q 20 [10, 19] [] (y_p rfl) rfl rfl ?_
     refine fs_q 21 [20] [] (y_p rfl) rfl rfl ?_
     refine fs_qg 22 [21] [] rfl rfl (y_fldf Tryd.underlying28 rfl ti26 (by decide) rfl rfl) rfl rfl ?_
     refine fs_qg 23 [21, 22] [] rfl rfl (y_load ti26 rfl rfl rfl) rfl rfl ?_
     refine fs_qg 24 [21] [] rfl rfl (y_p rfl) rfl rfl ?_
     refine fs_qg 25 [21, 23, 24] [] rfl rfl (y_ixf t Tryd.underlying26 ti23 rfl rfl rfl (by omega) rfl) rfl rfl ?_
     refine fs_qg 26 [21, 25] [] rfl rfl (y_loadA ti23 rfl rfl (get_d hS hSt) (by rw [List.length_map]; exact hel)) rfl rfl ?_
     refine fs_qg 27 [21] [(21, none)] rfl rfl (y_loadA0 ti23 rfl rfl (by simp)) rfl rfl ?_
     refine fs_qg 28 [21] [] rfl rfl (y_p rfl) rfl rfl ?_
     refine fs_qg 29 [21] [] rfl rfl (y_p rfl) rfl rfl ?_
     refine fs_qg 30 [21] [] rfl rfl (y_p rfl) rfl rfl ?_
     refine fs_qg 31 [21, 29, 30] [] rfl rfl (y_ixf t Tryd.underlying42 ti3 rfl rfl rfl (by omega) rfl) rfl rfl ?_
     refine fs_qg 32 [21, 31] [] rfl rfl (y_load ti3 rfl rfl (get_dig3 m t ht)) rfl rfl ?_
     refine fs_call false 33 [21, 27, 28, 32] [] (gy1 rfl rfl) rfl (.cons (.pure pu) (.cons (.pure pu) (.cons (.pure pu) (.nil)))) (lelem_ok (seedL x (i : Nat)) t (dg m t) hsl (by have := dg_lt m t; omega)) pu (.inl rfl) rfl rfl ?_
     refine fs_qg 34 [21, 26, 33] [] rfl rfl ((y_aq Tryd.underlying23 Tryd.underlying5 ti5 (by kernel_rfl) rfl rfl (by first | assumption | (simp; done) | (simp [*]; done)) (by first | assumption | (simp; done) | (simp [*]; done))).v (v' := .b true) (congrArg A.b (by simp))) rfl rfl ?_
     refine fs_q 35 [21, 34] [] (y_p rfl) rfl rfl ?_
     refine fs_end (by kernel_rfl) ?_
     refine s1 (y_p rfl) rfl ?_
     refine at_nil <| x_tn <| at_ret <| x_br <| x_tr ?_
     refine at_result (rs := [.tmp 10]) rfl (r_tmp rfl r_nil) rfl
   ·obtain ⟨k, i, hb, hz, hm1, hd1, hk, hcol⟩ := hcs
    obtain ⟨rfl, rfl, hi, hk256, hsz, hv, hSl, hfit⟩ := hb
    have hql := len_sgnK hL i
    have hhfit : (path (kpubs x k) i).length = (rights i k).length := by have := rights_path _ (kpubs x k) i (Nat.le_refl _); simpa using this
    have hTl : (signD (seedL x (i : Nat)) m).length = 19 := len_signL _ _ _
    have hsl : (seedL x (i : Nat)).length = 32 := len_seedL _ _
    have hrl := rights_le k i k (Nat.le_refl _)
    have hin := sgn_in hz
    obtain ⟨q0, hq0⟩ : ∃ q, L[i]? = some q := ⟨_, List.getElem?_eq_getElem hin⟩
    have hq32 := hL q0 (List.mem_of_getElem? hq0)
    refine at_frzP 5 rfl rfl pul ?_
    refine at_frzP 8 rfl rfl pul ?_
    refine at_frzP 9 rfl rfl pul ?_
    refine at_region <| s1 (y_loadA ti23 rfl rfl (List.take_of_length_le (by simp [hx])) (by simp [hx])) rfl <| s1 (y_p rfl) rfl <| s1 (y_p rfl) rfl <| s1 (y_loadA ti23 rfl rfl (List.take_of_length_le (by simp [hm])) (by simp [hm])) rfl <| s1 (y_loadA ti28 rfl rfl rfl rfl) rfl ?_
    refine at_op rfl (n_call false rfl (.cons (.pure pu) (.cons (.pure pu) (.cons (.pure pu) (.cons (.pure pu) (.cons (.pure pu) (.nil)))))) (Con.cast (kforg_ok x (k : Int) L m (i : Nat) S P hx hL (by omega) hm hS hP) (forg_ret hk).symm) pu (.inl rfl) rfl ?_)
    refine s1 (y_p rfl) rfl <| s1 (y_p rfl) rfl <| s1 (y_p rfl) rfl <| s1 (y_p rfl) rfl <| s1 (y_p rfl) rfl ?_
    refine at_nil <| x_tn <| at_seq <| at_region <| s1 (y_loadA ti23 rfl rfl (List.take_of_length_le (by simp [hx])) (by simp [hx])) rfl <| s1 (y_p rfl) rfl ?_
    refine at_op rfl (n_call false rfl (.cons (.pure pu) (.cons (.pure pu) (.nil))) (Con.cast (root_ok x k hx) ((rootA_eq ..).trans (by rw [decide_eq_true hsz]; rfl : _ = .tu [.ag ((rootD x (k : Int)).map u8), .i .i64 0]))) pu (.inl rfl) rfl ?_)
    refine s1 (y_p rfl) rfl <| s1 (y_p rfl) rfl <| s1 (y_p rfl) rfl ?_
    refine at_op rfl (n_alloc 13 rfl ti23 rfl rfl ?_)
    refine at_op rfl (n_storeA ti23 rfl rfl rfl (by first | rfl | omega | (simp <;> omega) | (simp [*] <;> omega)) (by first | rfl | omega | (simp <;> omega) | (simp [*] <;> omega)) ?_)
    refine s1 (y_p rfl) rfl ?_
    refine at_nil <| x_tn <| at_seq <| at_seq <| at_region <| s1 (y_p rfl) rfl <| s1 ((y_p rfl).v (v' := .b false) (rfl)) rfl <| s1 (y_p rfl) rfl <| g1 rfl rfl (y_loadA0 ti23 rfl rfl (by simp)) rfl <| g1 rfl rfl (y_p rfl) rfl <| g1 rfl rfl (y_loadA ti23 rfl rfl (List.take_of_length_le (by simp [hm])) (by simp [hm])) rfl <| g1 rfl rfl (y_loadA ti28 rfl rfl rfl rfl) rfl ?_
    refine at_opg rfl rfl rfl (n_call false rfl (.cons (.pure pu) (.cons (.pure pu) (.cons (.pure pu) (.cons (.pure pu) (.nil))))) (Con.cast (kver_ok (rootD x (k : Int)) m k (i : Nat) S P (by simp) hm hS hP) (congrArg (A.i .i64) (by rw [hv]; rfl : errK (verK (rootD x (k : Int)) k m (i : Nat) S P) = 0))) pu (.inl rfl) rfl ?_)
    refine g1 rfl rfl ((y_p rfl).v (v' := .b false) (rfl)) rfl <| s1 (y_p rfl) rfl ?_
    refine at_nil <| x_tn ?_
    refine at_else rfl ?_
    refine at_skip <| x_tn <| at_seq <| at_region ?_
    refine at_op rfl (n_alloc 15 rfl ti23 rfl rfl ?_)
    refine at_nil <| x_tn <| at_seq <| at_seq <| at_region <| s1 (y_fldf Tryd.underlying28 rfl ti3 (by decide) rfl rfl) rfl <| s1 (y_load ti3 rfl rfl rfl) rfl <| s1 (y_p rfl) rfl <| s1 (y_len Tryd.underlying26 rfl rfl rfl) rfl <| s1 ((y_p rfl).v (v' := .b true) (congrArg A.b (decide_eq_true (by omega)))) rfl ?_
    refine at_nil <| x_tn ?_
    refine at_then rfl ?_
    refine at_region <| s1 (y_p rfl) rfl <| s1 (y_fldf Tryd.underlying28 rfl ti3 (by decide) rfl rfl) rfl <| s1 (y_load ti3 rfl rfl rfl) rfl <| s1 (y_ixf i Tryd.underlying26 ti23 rfl rfl rfl (by omega) rfl) rfl <| s1 (y_loadA ti23 rfl rfl (get_d hL hq0) (by simp [hq32])) rfl ?_
    refine at_op rfl (n_storeA ti23 rfl rfl rfl (by simp [hq32]) (by first | rfl | omega | (simp <;> omega) | (simp [*] <;> omega)) ?_)
    refine at_nil <| x_tn <| at_seq ?_
    refine at_sayO 15 (cs' := (sgnK L i).map u8) rfl (by rw [sgnK_in hq0]) ?_
    refine at_region <| s1 (y_loadA0 ti23 rfl rfl (by simp [hql])) rfl <| s1 ((y_bld0 ti23 rfl Tryd.underlying23 ti5 rfl).v (v' := .ag (zD.map u8)) (congrArg A.ag zD_cells)) rfl <| s1 ((y_aq Tryd.underlying23 Tryd.underlying5 ti5 (by kernel_rfl) rfl rfl (by first | assumption | (simp; done) | (simp [*]; done)) (by first | assumption | (simp; done) | (simp [*]; done))).v (v' := .b false) (congrArg A.b hz)) rfl <| s1 (y_p rfl) rfl ?_
    refine at_nil <| x_tn <| at_seq <| at_seq <| at_region <| s1 (y_loadA0 ti23 rfl rfl (by simp [hql])) rfl <| s1 (y_loadA ti23 rfl rfl (List.take_of_length_le (by simp [hm])) (by simp [hm])) rfl <| s1 ((y_aq Tryd.underlying23 Tryd.underlying5 ti5 (by kernel_rfl) rfl rfl (by first | assumption | (simp; done) | (simp [*]; done)) (by first | assumption | (simp; done) | (simp [*]; done))).v (v' := .b false) (congrArg A.b hm1)) rfl <| s1 (y_p rfl) rfl <| g0 rfl rfl rfl rfl <| g0 rfl rfl rfl rfl <| s1 (y_p rfl) rfl ?_
    refine at_nil <| x_tn ?_
    refine at_else rfl ?_
    refine at_skip <| x_tn <| at_seq ?_
    refine at_fs ⟨_, [], []⟩ 5 4 hmix (le_refl rfl) ?_
    refine fs_q 0 [] [] (y_loadA ti23 rfl rfl (List.take_of_length_le (by simp [hm])) (by simp [hm])) rfl rfl ?_
    refine fs_call false 1 [0] [] gy0 rfl (.cons (.pure pu) (.nil)) (digits_ok m hm) pu (.inl rfl) rfl rfl ?_
    refine fs_q 2 [] [(15, none)] (y_loadA0 ti23 rfl rfl (by simp [hql])) rfl rfl ?_
    refine fs_callO 95 false 3 [2] [] gy0 rfl (.cons (.pure pu) (.nil)) (digitsO_ok (sgnK L i) hql) pul (.inl rfl) rfl rfl ?_
    refine fs_q 4 [1] [] (y_p rfl) rfl rfl ?_
    refine fs_end (by kernel_rfl) ?_
    refine s1 (y_p rfl) rfl ?_
    refine at_nil <| x_tn <| at_seq <| at_seq <| at_region <| s1 (y_p rfl) rfl <| s1 (y_len Tryd.underlying42 rfl rfl rfl) rfl <| s1 ((y_p rfl).v (v' := .b false) (congrArg A.b (by simp))) rfl <| s1 (y_p rfl) rfl <| g1 rfl rfl (y_p rfl) rfl <| g1 rfl rfl (y_len Tryd.underlying42 rfl rfl rfl) rfl <| g1 rfl rfl ((y_p rfl).v (v' := .b false) (congrArg A.b (by simp))) rfl <| s1 (y_p rfl) rfl <| s1 (y_p rfl) rfl <| g1 rfl rfl (y_fldf Tryd.underlying28 rfl ti26 (by decide) rfl rfl) rfl ?_
    refine g1 rfl rfl (y_load ti26 rfl rfl rfl) rfl <| g1 rfl rfl (y_len Tryd.underlying26 rfl rfl rfl) rfl <| g1 rfl rfl ((y_p rfl).v (v' := .b false) (congrArg A.b (by simp [hSl]))) rfl <| s1 (y_p rfl) rfl ?_
    refine at_nil <| x_tn ?_
    refine at_else rfl ?_
    refine at_skip <| x_tn <| at_seq <| at_region <| s1 (y_p rfl) rfl <| s1 (y_p rfl) rfl <| s1 (y_p rfl) rfl ?_
    refine at_nil <| x_tn <| at_seq <| at_seq <| at_region <| s1 (y_p rfl) rfl <| s1 (y_len Tryd.underlying42 rfl rfl rfl) rfl <| s1 ((y_p rfl).v (v' := .i .i64 0) rfl) rfl ?_
    refine at_nil <| x_tn <| at_block ?_
    refine at_loop (ι := Nat) (fun j => [(1, nI k), (5, .fp (x.map u8)), (8, .fp (m.map u8)), (9, .fp [nI i, dgs S, dgs P]), (11, .i .i64 3), (12, .i .i64 0), (16, .b false), (17, .fz 19 ((digits m).map nI)), (18, .sl 195 1 0 19), (19, .b (samD m (sgnK L i) j)), (113, nI 19), (114, nI j)]) (fun j => ⟨[(195, some ((digits (sgnK L i)).map nI))]⟩) (fun j => j ≤ 19) (fun j => 19 - j) ?_ ?_
    ·exact at_ex (0) (Nat.zero_le _) [(195, some 95)] hI rfl rfl ⟨⟨_, rfl, .pure pu⟩, ⟨_, rfl, .pure pu⟩, ⟨_, rfl, .pure pu⟩, ⟨_, rfl, .pure pu⟩, ⟨_, rfl, .pure pu⟩, ⟨_, rfl, .pure pu⟩, ⟨_, rfl, .pure pu⟩, ⟨_, rfl, .pure pu⟩, ⟨_, rfl, .sl rfl (by first | rfl | omega | (simp <;> omega) | (simp [*] <;> omega))⟩, ⟨_, rfl, .of rfl (.pure pu)⟩, ⟨_, rfl, .pure pu⟩, ⟨_, rfl, .pure pu⟩, trivial⟩ ⟨.inr ⟨_, _, rfl, rfl, .pure pul⟩, trivial⟩
    rintro j hj
    refine at_seq <| at_region <| s1 (y_p rfl) rfl ?_
    refine at_nil <| x_tn <| at_seq ?_
    refine at_cond rfl (fun hc115 => ?_) (fun hc115 => ?_)
    ·have h115 : j < 19 := by have := of_decide_eq_true hc115; omega
     refine at_skip <| x_tn <| at_seq <| at_block <| at_seq <| at_region <| s1 (y_p rfl) rfl <| s1 (y_p rfl) rfl ?_
     refine at_nil <| x_tn <| at_seq <| at_seq <| at_region <| s1 (y_p rfl) rfl ?_
     refine at_nil <| x_tn ?_
     refine at_else rfl ?_
     refine at_skip <| x_tn ?_
     rcases tfK (samD m (sgnK L i) j) with hcs | hcs
     ·skip
      refine at_draw_tail 12 hmix (by kernel_rfl) ?_
      refine t1 ((y_p rfl).v (v' := .b false) (congrArg A.b hcs)) rfl <| t1 (y_p rfl) rfl <| t0g rfl rfl rfl rfl <| t0g rfl rfl rfl rfl <| t0g rfl rfl rfl rfl <| t0g rfl rfl rfl rfl <| t0g rfl rfl rfl rfl <| t0g rfl rfl rfl rfl <| t0g rfl rfl rfl rfl <| t0g rfl rfl rfl rfl ?_
      refine t0g rfl rfl rfl rfl <| t1 (y_p rfl) rfl ?_
      refine at_snil ?_
      refine s1 (y_p rfl) rfl ?_
      refine at_nil <| x_bn <| x_tn <| at_region <| s1 (addN _ 1 rfl rfl rfl rfl (by omega)) rfl <| s1 (y_p rfl) rfl ?_
      refine at_nil ?_
      exact at_end (j + 1) (by omega) (by omega) [(195, some 195)] hI rfl rfl ⟨⟨_, rfl, .pure pu⟩, ⟨_, rfl, .pure pu⟩, ⟨_, rfl, .pure pu⟩, ⟨_, rfl, .pure pu⟩, ⟨_, rfl, .pure pu⟩, ⟨_, rfl, .pure pu⟩, ⟨_, rfl, .pure pu⟩, ⟨_, rfl, .pure pu⟩, ⟨_, rfl, .sl rfl (by first | rfl | omega | (simp <;> omega) | (simp [*] <;> omega))⟩, ⟨_, rfl, .of (by rw [samD_no hcs]; rfl) (.pure pu)⟩, ⟨_, rfl, .pure pu⟩, ⟨_, rfl, .pure pu⟩, trivial⟩ ⟨.inr ⟨_, _, rfl, rfl, .pure pul⟩, trivial⟩
     ·skip
      refine at_draw_tail 12 hmix (by kernel_rfl) ?_
      refine t1 ((y_p rfl).v (v' := .b true) (congrArg A.b hcs)) rfl <| t1 (y_p rfl) rfl <| t1g rfl rfl (y_p rfl) rfl <| t1g rfl rfl (y_p rfl) rfl <| t1g rfl rfl (y_ixf j Tryd.underlying42 ti3 rfl rfl rfl (by omega) rfl) rfl <| t1g rfl rfl (y_load ti3 rfl rfl (get_dig3 m j h115)) rfl <| t1g rfl rfl (y_p rfl) rfl <| t1g rfl rfl (y_p rfl) rfl <| t1g rfl rfl (y_ixs j Tryd.underlying42 ti3 rfl rfl rfl rfl (by omega) rfl) rfl <| t1g rfl rfl (y_load ti3 rfl rfl (get_dig2 (sgnK L i) j h115)) rfl ?_
      refine t1g rfl rfl ((y_p rfl).v (v' := .b (dg m j == dg (sgnK L i) j)) (congrArg A.b (by rw [Bool.eq_iff_iff]; simp; omega))) rfl <| t1 (y_p rfl) rfl ?_
      refine at_snil ?_
      refine s1 (y_p rfl) rfl ?_
      refine at_nil <| x_bn <| x_tn <| at_region <| s1 (addN _ 1 rfl rfl rfl rfl (by omega)) rfl <| s1 (y_p rfl) rfl ?_
      refine at_nil ?_
      exact at_end (j + 1) (by omega) (by omega) [(195, some 195)] hI rfl rfl ⟨⟨_, rfl, .pure pu⟩, ⟨_, rfl, .pure pu⟩, ⟨_, rfl, .pure pu⟩, ⟨_, rfl, .pure pu⟩, ⟨_, rfl, .pure pu⟩, ⟨_, rfl, .pure pu⟩, ⟨_, rfl, .pure pu⟩, ⟨_, rfl, .pure pu⟩, ⟨_, rfl, .sl rfl (by first | rfl | omega | (simp <;> omega) | (simp [*] <;> omega))⟩, ⟨_, rfl, .of (by rw [samD_next, hcs, Bool.true_and]) (.pure pu)⟩, ⟨_, rfl, .pure pu⟩, ⟨_, rfl, .pure pu⟩, trivial⟩ ⟨.inr ⟨_, _, rfl, rfl, .pure pul⟩, trivial⟩
    ·obtain rfl : j = 19 := by have := of_decide_eq_false hc115; omega
     refine at_exit <| x_te <| x_te <| x_be <| x_tn <| at_seq ?_
     refine at_frz 18 rfl rfl pul (view_eq (by simp []) rfl) ?_
     refine at_say 18 rfl (v' := .fz 19 ((knwK (sgnK L i)).map nI)) (by rw [knw_no hz]) ?_
     refine at_say 19 rfl (v' := .b false) (congrArg A.b ((samD_end m (sgnK L i)).trans hd1)) ?_
     refine at_region <| s1 (y_loadA ti23 rfl rfl (List.take_of_length_le (by simp [hx])) (by simp [hx])) rfl <| s1 (y_fldf Tryd.underlying28 rfl ti3 (by decide) rfl rfl) rfl <| s1 (y_load ti3 rfl rfl rfl) rfl ?_
     refine at_op rfl (n_call false rfl (.cons (.pure pu) (.cons (.pure pu) (.nil))) (seed_ok x (i : Nat) hx) pu (.inl rfl) rfl ?_)
     refine at_op rfl (n_alloc 21 rfl ti23 rfl rfl ?_)
     refine at_op rfl (n_storeA ti23 rfl rfl rfl (by simp) (by first | rfl | omega | (simp <;> omega) | (simp [*] <;> omega)) ?_)
     refine at_nil <| x_tn <| at_seq <| at_seq <| at_region <| s1 (y_p rfl) rfl ?_
     refine at_nil <| x_tn <| at_block <| at_seq <| at_region <| s1 ((y_p rfl).v (v' := .b false) (rfl)) rfl <| s1 (y_p rfl) rfl ?_
     refine at_nil <| x_tn ?_
     refine at_else rfl ?_
     refine at_seq <| at_region <| s1 ((y_p rfl).v (v' := .b false) (rfl)) rfl <| s1 (y_p rfl) rfl ?_
     refine at_nil <| x_tn ?_
     refine at_else rfl ?_
     refine at_seq <| at_region <| s1 ((y_p rfl).v (v' := .b true) (rfl)) rfl <| s1 (y_p rfl) rfl ?_
     refine at_nil <| x_tn ?_
     refine at_then rfl ?_
     refine at_seq <| at_region <| s1 (y_loadA ti23 rfl rfl (List.take_of_length_le (by simp [hx])) (by simp [hx])) rfl <| s1 (y_p rfl) rfl <| s1 (y_fldf Tryd.underlying28 rfl ti3 (by decide) rfl rfl) rfl <| s1 (y_load ti3 rfl rfl rfl) rfl <| s1 (y_loadA ti23 rfl rfl (List.take_of_length_le (by simp [hm])) (by simp [hm])) rfl ?_
     refine at_op rfl (n_call false rfl (.cons (.pure pu) (.cons (.pure pu) (.cons (.pure pu) (.cons (.pure pu) (.nil))))) (Con.cast (ksign_ok x k (i : Nat) m hx hm) (signA_yes hsz hi)) pu (.inl rfl) rfl ?_)
     refine s1 (y_p rfl) rfl <| s1 (y_p rfl) rfl <| s1 (y_p rfl) rfl ?_
     refine at_op rfl (n_alloc 22 rfl ti28 rfl rfl ?_)
     refine at_op rfl (n_storeA ti28 rfl rfl rfl (by first | rfl | omega | (simp <;> omega) | (simp [*] <;> omega)) (by first | rfl | omega | (simp <;> omega) | (simp [*] <;> omega)) ?_)
     refine s1 (y_p rfl) rfl ?_
     refine at_nil <| x_tn <| at_seq <| at_seq <| at_region <| s1 (y_p rfl) rfl <| s1 ((y_p rfl).v (v' := .b false) (rfl)) rfl <| s1 (y_p rfl) rfl <| g1 rfl rfl (y_p rfl) rfl <| s1 (y_p rfl) rfl <| s1 (y_p rfl) rfl <| g1 rfl rfl (y_p rfl) rfl <| g1 rfl rfl ((y_p rfl).v (v' := .b false) (rfl)) rfl <| s1 (y_p rfl) rfl ?_
     refine at_nil <| x_tn ?_
     refine at_else rfl ?_
     refine at_skip <| x_tn <| at_seq ?_
     refine at_fs ⟨_, [], []⟩ 19 4 hmix (le_refl rfl) ?_
     refine fs_q 0 [] [] (y_fldf Tryd.underlying28 rfl ti26 (by decide) rfl rfl) rfl rfl ?_
     refine fs_q 1 [0] [] (y_load ti26 rfl rfl rfl) rfl rfl ?_
     refine fs_q 2 [] [] (y_p rfl) rfl rfl ?_
     refine fs_q 3 [] [] (y_fldf Tryd.underlying28 rfl ti3 (by decide) rfl rfl) rfl rfl ?_
     refine fs_q 4 [3] [] (y_load ti3 rfl rfl rfl) rfl rfl ?_
     refine fs_q 5 [] [] (y_p rfl) rfl rfl ?_
     refine fs_q 6 [] [] (y_fldf Tryd.underlying28 rfl ti26 (by decide) rfl rfl) rfl rfl ?_
     refine fs_q 7 [6] [] (y_load ti26 rfl rfl rfl) rfl rfl ?_
     refine fs_call false 8 [1, 2, 4, 5, 7] [] gy0 rfl (.cons (.pure pu) (.cons (.pure pu) (.cons (.pure pu) (.cons (.pure pu) (.cons (.pure pu) (.nil)))))) (lway_ok S P m i k hS hSl hP (by omega) hi hfit) pu (.inl rfl) rfl rfl ?_
     refine fs_q 9 [] [(22, none)] (y_fld Tryd.underlying28 rfl ti26 (by decide) rfl rfl) rfl rfl ?_
     refine fs_q 10 [9] [(22, none)] (y_load ti26 rfl rfl rfl) rfl rfl ?_
     refine fs_q 11 [] [] (y_p rfl) rfl rfl ?_
     refine fs_q 12 [] [] (y_fldf Tryd.underlying28 rfl ti3 (by decide) rfl rfl) rfl rfl ?_
     refine fs_q 13 [12] [] (y_load ti3 rfl rfl rfl) rfl rfl ?_
     refine fs_q 14 [] [] (y_p rfl) rfl rfl ?_
     refine fs_q 15 [] [(22, none)] (y_fld Tryd.underlying28 rfl ti26 (by decide) rfl rfl) rfl rfl ?_
     refine fs_q 16 [15] [(22, none)] (y_load ti26 rfl rfl rfl) rfl rfl ?_
     refine fs_call false 17 [10, 11, 13, 14, 16] [] gy0 rfl (.cons (.pure pu) (.cons (.pure pu) (.cons (.pure pu) (.cons (.pure pu) (.cons (.pure pu) (.nil)))))) (lway_ok (signD (seedL x (i : Nat)) m) (path (kpubs x k) i) m i k (D32_signD _ _) hTl (D32_path _ _ _ (Nat.le_refl _)) (by omega) hi hhfit) pu (.inl rfl) rfl rfl ?_
     refine fs_call false 18 [8, 17] [] gy0 rfl (.cons (.pure pu) (.cons (.pure pu) (.nil))) (Con.cast (lcoll_ok (wayS S m i k P) (wayS (signD (seedL x (i : Nat)) m) m i k (path (kpubs x k) i)) (by rw [len_wayS hfit, len_wayS hhfit, hfit, hhfit]) (by rw [len_wayS hfit]; omega) (way_small hS hSl hP) (way_small (D32_signD _ _) hTl (D32_path _ _ _ (Nat.le_refl _)))) (congrArg A.b hcol)) pu (.inl rfl) rfl rfl ?_
     refine fs_end (by kernel_rfl) ?_
     refine s1 (y_p rfl) rfl ?_
     refine at_nil <| x_tn <| at_ret <| x_br <| x_tr ?_
     refine at_result (rs := [.tmp 10]) rfl (r_tmp rfl r_nil) rfl
   ·obtain ⟨k, i, hb, hz, t, ht, hbad, hk⟩ := hcs
    obtain ⟨rfl, rfl, hi, hk256, hsz, hv, hSl, hfit⟩ := hb
    have hql := len_sgnK hL i
    have hhfit : (path (kpubs x k) i).length = (rights i k).length := by have := rights_path _ (kpubs x k) i (Nat.le_refl _); simpa using this
    have hTl : (signD (seedL x (i : Nat)) m).length = 19 := len_signL _ _ _
    have hsl : (seedL x (i : Nat)).length = 32 := len_seedL _ _
    have hrl := rights_le k i k (Nat.le_refl _)
    obtain ⟨hlt, hSt⟩ := bad_spec hbad ht hSl
    have hel := len_iterD (len_firstD (seedL x (i : Nat)) t) (dg m t)
    refine at_frzP 5 rfl rfl pul ?_
    refine at_frzP 8 rfl rfl pul ?_
    refine at_frzP 9 rfl rfl pul ?_
    refine at_region <| s1 (y_loadA ti23 rfl rfl (List.take_of_length_le (by simp [hx])) (by simp [hx])) rfl <| s1 (y_p rfl) rfl <| s1 (y_p rfl) rfl <| s1 (y_loadA ti23 rfl rfl (List.take_of_length_le (by simp [hm])) (by simp [hm])) rfl <| s1 (y_loadA ti28 rfl rfl rfl rfl) rfl ?_
    refine at_op rfl (n_call false rfl (.cons (.pure pu) (.cons (.pure pu) (.cons (.pure pu) (.cons (.pure pu) (.cons (.pure pu) (.nil)))))) (Con.cast (kforg_ok x (k : Int) L m (i : Nat) S P hx hL (by omega) hm hS hP) (forg_ret hk).symm) pu (.inl rfl) rfl ?_)
    refine s1 (y_p rfl) rfl <| s1 (y_p rfl) rfl <| s1 (y_p rfl) rfl <| s1 (y_p rfl) rfl <| s1 (y_p rfl) rfl ?_
    refine at_nil <| x_tn <| at_seq <| at_region <| s1 (y_loadA ti23 rfl rfl (List.take_of_length_le (by simp [hx])) (by simp [hx])) rfl <| s1 (y_p rfl) rfl ?_
    refine at_op rfl (n_call false rfl (.cons (.pure pu) (.cons (.pure pu) (.nil))) (Con.cast (root_ok x k hx) ((rootA_eq ..).trans (by rw [decide_eq_true hsz]; rfl : _ = .tu [.ag ((rootD x (k : Int)).map u8), .i .i64 0]))) pu (.inl rfl) rfl ?_)
    refine s1 (y_p rfl) rfl <| s1 (y_p rfl) rfl <| s1 (y_p rfl) rfl ?_
    refine at_op rfl (n_alloc 13 rfl ti23 rfl rfl ?_)
    refine at_op rfl (n_storeA ti23 rfl rfl rfl (by first | rfl | omega | (simp <;> omega) | (simp [*] <;> omega)) (by first | rfl | omega | (simp <;> omega) | (simp [*] <;> omega)) ?_)
    refine s1 (y_p rfl) rfl ?_
    refine at_nil <| x_tn <| at_seq <| at_seq <| at_region <| s1 (y_p rfl) rfl <| s1 ((y_p rfl).v (v' := .b false) (rfl)) rfl <| s1 (y_p rfl) rfl <| g1 rfl rfl (y_loadA0 ti23 rfl rfl (by simp)) rfl <| g1 rfl rfl (y_p rfl) rfl <| g1 rfl rfl (y_loadA ti23 rfl rfl (List.take_of_length_le (by simp [hm])) (by simp [hm])) rfl <| g1 rfl rfl (y_loadA ti28 rfl rfl rfl rfl) rfl ?_
    refine at_opg rfl rfl rfl (n_call false rfl (.cons (.pure pu) (.cons (.pure pu) (.cons (.pure pu) (.cons (.pure pu) (.nil))))) (Con.cast (kver_ok (rootD x (k : Int)) m k (i : Nat) S P (by simp) hm hS hP) (congrArg (A.i .i64) (by rw [hv]; rfl : errK (verK (rootD x (k : Int)) k m (i : Nat) S P) = 0))) pu (.inl rfl) rfl ?_)
    refine g1 rfl rfl ((y_p rfl).v (v' := .b false) (rfl)) rfl <| s1 (y_p rfl) rfl ?_
    refine at_nil <| x_tn ?_
    refine at_else rfl ?_
    refine at_skip <| x_tn <| at_seq <| at_region ?_
    refine at_op rfl (n_alloc 15 rfl ti23 rfl rfl ?_)
    refine at_nil <| x_tn <| at_seq <| at_seq <| at_region <| s1 (y_fldf Tryd.underlying28 rfl ti3 (by decide) rfl rfl) rfl <| s1 (y_load ti3 rfl rfl rfl) rfl <| s1 (y_p rfl) rfl <| s1 (y_len Tryd.underlying26 rfl rfl rfl) rfl <| s1 (y_p rfl) rfl ?_
    refine at_nil <| x_tn ?_
    refine at_cond rfl (fun hc70 => ?_) (fun hc70 => ?_)
    ·have hin : i < L.length := by have := of_decide_eq_true hc70; omega
     obtain ⟨q0, hq0⟩ : ∃ q, L[i]? = some q := ⟨_, List.getElem?_eq_getElem hin⟩
     have hq32 := hL q0 (List.mem_of_getElem? hq0)
     refine at_region <| s1 (y_p rfl) rfl <| s1 (y_fldf Tryd.underlying28 rfl ti3 (by decide) rfl rfl) rfl <| s1 (y_load ti3 rfl rfl rfl) rfl <| s1 (y_ixf i Tryd.underlying26 ti23 rfl rfl rfl (by omega) rfl) rfl <| s1 (y_loadA ti23 rfl rfl (get_d hL hq0) (by simp [hq32])) rfl ?_
     refine at_op rfl (n_storeA ti23 rfl rfl rfl (by simp [hq32]) (by first | rfl | omega | (simp <;> omega) | (simp [*] <;> omega)) ?_)
     refine at_nil <| x_tn <| at_seq ?_
     refine at_sayO 15 (cs' := (sgnK L i).map u8) rfl (by rw [sgnK_in hq0]) ?_
     refine at_region <| s1 (y_loadA0 ti23 rfl rfl (by simp [hql])) rfl <| s1 ((y_bld0 ti23 rfl Tryd.underlying23 ti5 rfl).v (v' := .ag (zD.map u8)) (congrArg A.ag zD_cells)) rfl <| s1 ((y_aq Tryd.underlying23 Tryd.underlying5 ti5 (by kernel_rfl) rfl rfl (by first | assumption | (simp; done) | (simp [*]; done)) (by first | assumption | (simp; done) | (simp [*]; done))).v (v' := .b true) (congrArg A.b hz)) rfl <| s1 (y_p rfl) rfl ?_
     refine at_nil <| x_tn <| at_seq <| at_seq <| at_region <| s1 (y_loadA0 ti23 rfl rfl (by simp [hql])) rfl <| s1 (y_loadA ti23 rfl rfl (List.take_of_length_le (by simp [hm])) (by simp [hm])) rfl <| s1 (y_aq Tryd.underlying23 Tryd.underlying5 ti5 (by kernel_rfl) rfl rfl (by first | assumption | (simp; done) | (simp [*]; done)) (by first | assumption | (simp; done) | (simp [*]; done))) rfl <| s1 (y_p rfl) rfl ?_
     refine g_and 2 rfl rfl rfl rfl (fun hb82 => .step (y_p rfl) rfl rfl <| .step (y_p rfl) rfl rfl <| .done) rfl rfl ?_
     refine at_say 85 rfl (v' := .b false) (congrArg A.b (by simp [hz])) ?_
     refine at_nil <| x_tn ?_
     refine at_else rfl ?_
     refine at_skip <| x_tn <| at_seq ?_
     refine at_fs ⟨_, [], []⟩ 5 4 hmix (le_refl rfl) ?_
     refine fs_q 0 [] [] (y_loadA ti23 rfl rfl (List.take_of_length_le (by simp [hm])) (by simp [hm])) rfl rfl ?_
     refine fs_call false 1 [0] [] gy0 rfl (.cons (.pure pu) (.nil)) (digits_ok m hm) pu (.inl rfl) rfl rfl ?_
     refine fs_q 2 [] [(15, none)] (y_loadA0 ti23 rfl rfl (by simp [hql])) rfl rfl ?_
     refine fs_callO 95 false 3 [2] [] gy0 rfl (.cons (.pure pu) (.nil)) (digitsO_ok (sgnK L i) hql) pul (.inl rfl) rfl rfl ?_
     refine fs_q 4 [1] [] (y_p rfl) rfl rfl ?_
     refine fs_end (by kernel_rfl) ?_
     refine s1 (y_p rfl) rfl ?_
     refine at_nil <| x_tn <| at_seq <| at_seq <| at_region <| s1 (y_p rfl) rfl <| s1 (y_len Tryd.underlying42 rfl rfl rfl) rfl <| s1 ((y_p rfl).v (v' := .b false) (congrArg A.b (by simp))) rfl <| s1 (y_p rfl) rfl <| g1 rfl rfl (y_p rfl) rfl <| g1 rfl rfl (y_len Tryd.underlying42 rfl rfl rfl) rfl <| g1 rfl rfl ((y_p rfl).v (v' := .b false) (congrArg A.b (by simp))) rfl <| s1 (y_p rfl) rfl <| s1 (y_p rfl) rfl <| g1 rfl rfl (y_fldf Tryd.underlying28 rfl ti26 (by decide) rfl rfl) rfl ?_
     refine g1 rfl rfl (y_load ti26 rfl rfl rfl) rfl <| g1 rfl rfl (y_len Tryd.underlying26 rfl rfl rfl) rfl <| g1 rfl rfl ((y_p rfl).v (v' := .b false) (congrArg A.b (by simp [hSl]))) rfl <| s1 (y_p rfl) rfl ?_
     refine at_nil <| x_tn ?_
     refine at_else rfl ?_
     refine at_skip <| x_tn <| at_seq <| at_region <| s1 (y_p rfl) rfl <| s1 (y_p rfl) rfl <| s1 (y_p rfl) rfl ?_
     refine at_nil <| x_tn <| at_seq <| at_seq <| at_region <| s1 (y_p rfl) rfl <| s1 (y_len Tryd.underlying42 rfl rfl rfl) rfl <| s1 ((y_p rfl).v (v' := .i .i64 0) rfl) rfl ?_
     refine at_nil <| x_tn <| at_block ?_
     refine at_loop (ι := Nat) (fun j => [(1, nI k), (5, .fp (x.map u8)), (8, .fp (m.map u8)), (9, .fp [nI i, dgs S, dgs P]), (11, .i .i64 2), (12, .i .i64 (t : Int)), (16, .b true), (17, .fz 19 ((digits m).map nI)), (18, .sl 195 1 0 19), (19, .b false), (113, nI 19), (114, nI j)]) (fun j => ⟨[(195, some ((nonD (sgnK L i) j).map nI))]⟩) (fun j => j ≤ 19) (fun j => 19 - j) ?_ ?_
     ·exact at_ex (0) (Nat.zero_le _) [(195, some 95)] hI rfl rfl ⟨⟨_, rfl, .pure pu⟩, ⟨_, rfl, .pure pu⟩, ⟨_, rfl, .pure pu⟩, ⟨_, rfl, .pure pu⟩, ⟨_, rfl, .pure pu⟩, ⟨_, rfl, .pure pu⟩, ⟨_, rfl, .pure pu⟩, ⟨_, rfl, .pure pu⟩, ⟨_, rfl, .sl rfl (by first | rfl | omega | (simp <;> omega) | (simp [*] <;> omega))⟩, ⟨_, rfl, .pure pu⟩, ⟨_, rfl, .pure pu⟩, ⟨_, rfl, .pure pu⟩, trivial⟩ ⟨.inr ⟨_, _, rfl, rfl, .of rfl (.pure pul)⟩, trivial⟩
     rintro j hj
     refine at_seq <| at_region <| s1 (y_p rfl) rfl ?_
     refine at_nil <| x_tn <| at_seq ?_
     refine at_cond rfl (fun hc115 => ?_) (fun hc115 => ?_)
     ·have h115 : j < 19 := by have := of_decide_eq_true hc115; omega
      refine at_skip <| x_tn <| at_seq <| at_block <| at_seq <| at_region <| s1 (y_p rfl) rfl <| s1 (y_p rfl) rfl ?_
      refine at_nil <| x_tn <| at_seq <| at_seq <| at_region <| s1 (y_p rfl) rfl ?_
      refine at_nil <| x_tn ?_
      refine at_then rfl ?_
      refine at_region <| s1 (y_p rfl) rfl <| s1 (y_p rfl) rfl <| s1 (y_ixs j Tryd.underlying42 ti3 rfl rfl rfl rfl (by omega) rfl) rfl ?_
      refine at_op rfl (n_store1 ti3 rfl rfl rfl rfl (by rw [List.length_map, len_nonD _ hj]; omega) rfl ?_)
      refine at_nil <| x_tn ?_
      refine at_draw_tail 12 hmix (by kernel_rfl) ?_
      refine t1 (y_p rfl) rfl <| t1 (y_p rfl) rfl <| t0g rfl rfl rfl rfl <| t0g rfl rfl rfl rfl <| t0g rfl rfl rfl rfl <| t0g rfl rfl rfl rfl <| t0g rfl rfl rfl rfl <| t0g rfl rfl rfl rfl <| t0g rfl rfl rfl rfl <| t0g rfl rfl rfl rfl ?_
      refine t0g rfl rfl rfl rfl <| t1 (y_p rfl) rfl ?_
      refine at_snil ?_
      refine s1 (y_p rfl) rfl ?_
      refine at_nil <| x_bn <| x_tn <| at_region <| s1 (addN _ 1 rfl rfl rfl rfl (by omega)) rfl <| s1 (y_p rfl) rfl ?_
      refine at_nil ?_
      exact at_end (j + 1) (by omega) (by omega) [(195, some 195)] hI rfl rfl ⟨⟨_, rfl, .pure pu⟩, ⟨_, rfl, .pure pu⟩, ⟨_, rfl, .pure pu⟩, ⟨_, rfl, .pure pu⟩, ⟨_, rfl, .pure pu⟩, ⟨_, rfl, .pure pu⟩, ⟨_, rfl, .pure pu⟩, ⟨_, rfl, .pure pu⟩, ⟨_, rfl, .sl rfl (by first | rfl | omega | (simp <;> omega) | (simp [*] <;> omega))⟩, ⟨_, rfl, .pure pu⟩, ⟨_, rfl, .pure pu⟩, ⟨_, rfl, .pure pu⟩, trivial⟩ ⟨.inr ⟨_, _, rfl, rfl, .of (nonD_next h115) (.pure pul)⟩, trivial⟩
     ·obtain rfl : j = 19 := by have := of_decide_eq_false hc115; omega
      refine at_exit <| x_te <| x_te <| x_be <| x_tn <| at_seq ?_
      refine at_frz 18 rfl rfl pul (view_eq (by simp [len_nonD]) rfl) ?_
      refine at_say 18 rfl (v' := .fz 19 ((knwK (sgnK L i)).map nI)) (by rw [nonD_end hz]) ?_
      refine at_region <| s1 (y_loadA ti23 rfl rfl (List.take_of_length_le (by simp [hx])) (by simp [hx])) rfl <| s1 (y_fldf Tryd.underlying28 rfl ti3 (by decide) rfl rfl) rfl <| s1 (y_load ti3 rfl rfl rfl) rfl ?_
      refine at_op rfl (n_call false rfl (.cons (.pure pu) (.cons (.pure pu) (.nil))) (seed_ok x (i : Nat) hx) pu (.inl rfl) rfl ?_)
      refine at_op rfl (n_alloc 21 rfl ti23 rfl rfl ?_)
      refine at_op rfl (n_storeA ti23 rfl rfl rfl (by simp) (by first | rfl | omega | (simp <;> omega) | (simp [*] <;> omega)) ?_)
      refine at_nil <| x_tn <| at_seq <| at_seq <| at_region <| s1 (y_p rfl) rfl ?_
      refine at_nil <| x_tn <| at_block <| at_seq <| at_region <| s1 ((y_p rfl).v (v' := .b false) (rfl)) rfl <| s1 (y_p rfl) rfl ?_
      refine at_nil <| x_tn ?_
      refine at_else rfl ?_
      refine at_seq <| at_region <| s1 ((y_p rfl).v (v' := .b true) (rfl)) rfl <| s1 (y_p rfl) rfl ?_
      refine at_nil <| x_tn ?_
      refine at_then rfl ?_
      refine at_seq ?_
      refine at_fs ⟨_, [], []⟩ 36 4 hmix (le_refl rfl) ?_
      refine fs_q 0 [] [] (y_p rfl) rfl rfl ?_
      refine fs_q 1 [0] [] (y_p rfl) rfl rfl ?_
      refine fs_q 2 [1] [] (y_p rfl) rfl rfl ?_
      refine fs_qg 3 [2] [] rfl rfl (y_p rfl) rfl rfl ?_
      refine fs_qg 4 [2, 3] [] rfl rfl ((y_p rfl).v (v' := .b true) (congrArg A.b (decide_eq_true (by omega)))) rfl rfl ?_
      refine fs_q 5 [2, 4] [] (y_p rfl) rfl rfl ?_
      refine fs_q 6 [5] [] (y_p rfl) rfl rfl ?_
      refine fs_qg 7 [6] [] rfl rfl (y_p rfl) rfl rfl ?_
      refine fs_qg 8 [6, 7] [] rfl rfl ((y_p rfl).v (v' := .b true) (congrArg A.b (decide_eq_true (by omega)))) rfl rfl ?_
      refine fs_q 9 [6, 8] [] (y_p rfl) rfl rfl ?_
      refine fs_q 10 [9] [] (y_p rfl) rfl rfl ?_
      refine fs_qg 11 [10] [] rfl rfl (y_p rfl) rfl rfl ?_
      refine fs_qg 12 [10] [] rfl rfl (y_p rfl) rfl rfl ?_
      refine fs_qg 13 [10, 11, 12] [] rfl rfl (y_ixf t Tryd.underlying42 ti3 rfl rfl rfl (by omega) rfl) rfl rfl ?_
      refine fs_qg 14 [10, 13] [] rfl rfl (y_load ti3 rfl rfl (get_dig3 m t ht)) rfl rfl ?_
      refine fs_qg 15 [10] [] rfl rfl (y_p rfl) rfl rfl ?_
      refine fs_qg 16 [10] [] rfl rfl (y_p rfl) rfl rfl ?_
      refine fs_qg 17 [10, 15, 16] [] rfl rfl (y_ixf t Tryd.underlying42 ti3 rfl rfl rfl (by omega) rfl) rfl rfl ?_
      refine fs_qg 18 [10, 17] [] rfl rfl (y_load ti3 rfl rfl (get_knw (sgnK L i) t ht)) rfl rfl ?_
      refine fs_qg 19 [10, 14, 18] [] rfl rfl ((y_p rfl).v (v' := .b true) (congrArg A.b (decide_eq_true (by omega)))) rfl rfl ?_
      refine fs_q 20 [10, 19] [] (y_p rfl) rfl rfl ?_
      refine fs_q 21 [20] [] (y_p rfl) rfl rfl ?_
      refine fs_qg 22 [21] [] rfl rfl (y_fldf Tryd.underlying28 rfl ti26 (by decide) rfl rfl) rfl rfl ?_
      refine fs_qg 23 [21, 22] [] rfl rfl (y_load ti26 rfl rfl rfl) rfl rfl ?_
      refine fs_qg 24 [21] [] rfl rfl (y_p rfl) rfl rfl ?_
      refine fs_qg 25 [21, 23, 24] [] rfl rfl (y_ixf t Tryd.underlying26 ti23 rfl rfl rfl (by omega) rfl) rfl rfl ?_
      refine fs_qg 26 [21, 25] [] rfl rfl (y_loadA ti23 rfl rfl (get_d hS hSt) (by rw [List.length_map]; exact hel)) rfl rfl ?_
      refine fs_qg 27 [21] [(21, none)] rfl rfl (y_loadA0 ti23 rfl rfl (by simp)) rfl rfl ?_
      refine fs_qg 28 [21] [] rfl rfl (y_p rfl) rfl rfl ?_
      refine fs_qg 29 [21] [] rfl rfl (y_p rfl) rfl rfl ?_
      refine fs_qg 30 [21] [] rfl rfl (y_p rfl) rfl rfl ?_
      refine fs_qg 31 [21, 29, 30] [] rfl rfl (y_ixf t Tryd.underlying42 ti3 rfl rfl rfl (by omega) rfl) rfl rfl ?_
      refine fs_qg 32 [21, 31] [] rfl rfl (y_load ti3 rfl rfl (get_dig3 m t ht)) rfl rfl ?_
      refine fs_call false 33 [21, 27, 28, 32] [] (gy1 rfl rfl) rfl (.cons (.pure pu) (.cons (.pure pu) (.cons (.pure pu) (.nil)))) (lelem_ok (seedL x (i : Nat)) t (dg m t) hsl (by have := dg_lt m t; omega)) pu (.inl rfl) rfl rfl ?_
      refine fs_qg 34 [21, 26, 33] [] rfl rfl ((y_aq Tryd.underlying23 Tryd.underlying5 ti5 (by kernel_rfl) rfl rfl (by first | assumption | (simp; done) | (simp [*]; done)) (by first | assumption | (simp; done) | (simp [*]; done))).v (v' := .b true) (congrArg A.b (by simp))) rfl rfl ?_
      refine fs_q 35 [21, 34] [] (y_p rfl) rfl rfl ?_
      refine fs_end (by kernel_rfl) ?_
      refine s1 (y_p rfl) rfl ?_
      refine at_nil <| x_tn <| at_ret <| x_br <| x_tr ?_
      refine at_result (rs := [.tmp 10]) rfl (r_tmp rfl r_nil) rfl
    ·have h70 : ¬ i < L.length := by have := of_decide_eq_false hc70; omega
     refine at_skip <| x_tn <| at_seq ?_
     refine at_sayO 15 (cs' := (sgnK L i).map u8) rfl (by rw [sgnK_out h70]; rfl) ?_
     refine at_region <| s1 (y_loadA0 ti23 rfl rfl (by simp [hql])) rfl <| s1 ((y_bld0 ti23 rfl Tryd.underlying23 ti5 rfl).v (v' := .ag (zD.map u8)) (congrArg A.ag zD_cells)) rfl <| s1 ((y_aq Tryd.underlying23 Tryd.underlying5 ti5 (by kernel_rfl) rfl rfl (by first | assumption | (simp; done) | (simp [*]; done)) (by first | assumption | (simp; done) | (simp [*]; done))).v (v' := .b true) (congrArg A.b hz)) rfl <| s1 (y_p rfl) rfl ?_
     refine at_nil <| x_tn <| at_seq <| at_seq <| at_region <| s1 (y_loadA0 ti23 rfl rfl (by simp [hql])) rfl <| s1 (y_loadA ti23 rfl rfl (List.take_of_length_le (by simp [hm])) (by simp [hm])) rfl <| s1 (y_aq Tryd.underlying23 Tryd.underlying5 ti5 (by kernel_rfl) rfl rfl (by first | assumption | (simp; done) | (simp [*]; done)) (by first | assumption | (simp; done) | (simp [*]; done))) rfl <| s1 (y_p rfl) rfl ?_
     refine g_and 2 rfl rfl rfl rfl (fun hb82 => .step (y_p rfl) rfl rfl <| .step (y_p rfl) rfl rfl <| .done) rfl rfl ?_
     refine at_say 85 rfl (v' := .b false) (congrArg A.b (by simp [hz])) ?_
     refine at_nil <| x_tn ?_
     refine at_else rfl ?_
     refine at_skip <| x_tn <| at_seq ?_
     refine at_fs ⟨_, [], []⟩ 5 4 hmix (le_refl rfl) ?_
     refine fs_q 0 [] [] (y_loadA ti23 rfl rfl (List.take_of_length_le (by simp [hm])) (by simp [hm])) rfl rfl ?_
     refine fs_call false 1 [0] [] gy0 rfl (.cons (.pure pu) (.nil)) (digits_ok m hm) pu (.inl rfl) rfl rfl ?_
     refine fs_q 2 [] [(15, none)] (y_loadA0 ti23 rfl rfl (by simp [hql])) rfl rfl ?_
     refine fs_callO 95 false 3 [2] [] gy0 rfl (.cons (.pure pu) (.nil)) (digitsO_ok (sgnK L i) hql) pul (.inl rfl) rfl rfl ?_
     refine fs_q 4 [1] [] (y_p rfl) rfl rfl ?_
     refine fs_end (by kernel_rfl) ?_
     refine s1 (y_p rfl) rfl ?_
     refine at_nil <| x_tn <| at_seq <| at_seq <| at_region <| s1 (y_p rfl) rfl <| s1 (y_len Tryd.underlying42 rfl rfl rfl) rfl <| s1 ((y_p rfl).v (v' := .b false) (congrArg A.b (by simp))) rfl <| s1 (y_p rfl) rfl <| g1 rfl rfl (y_p rfl) rfl <| g1 rfl rfl (y_len Tryd.underlying42 rfl rfl rfl) rfl <| g1 rfl rfl ((y_p rfl).v (v' := .b false) (congrArg A.b (by simp))) rfl <| s1 (y_p rfl) rfl <| s1 (y_p rfl) rfl <| g1 rfl rfl (y_fldf Tryd.underlying28 rfl ti26 (by decide) rfl rfl) rfl ?_
     refine g1 rfl rfl (y_load ti26 rfl rfl rfl) rfl <| g1 rfl rfl (y_len Tryd.underlying26 rfl rfl rfl) rfl <| g1 rfl rfl ((y_p rfl).v (v' := .b false) (congrArg A.b (by simp [hSl]))) rfl <| s1 (y_p rfl) rfl ?_
     refine at_nil <| x_tn ?_
     refine at_else rfl ?_
     refine at_skip <| x_tn <| at_seq <| at_region <| s1 (y_p rfl) rfl <| s1 (y_p rfl) rfl <| s1 (y_p rfl) rfl ?_
     refine at_nil <| x_tn <| at_seq <| at_seq <| at_region <| s1 (y_p rfl) rfl <| s1 (y_len Tryd.underlying42 rfl rfl rfl) rfl <| s1 ((y_p rfl).v (v' := .i .i64 0) rfl) rfl ?_
     refine at_nil <| x_tn <| at_block ?_
     refine at_loop (ι := Nat) (fun j => [(1, nI k), (5, .fp (x.map u8)), (8, .fp (m.map u8)), (9, .fp [nI i, dgs S, dgs P]), (11, .i .i64 2), (12, .i .i64 (t : Int)), (16, .b true), (17, .fz 19 ((digits m).map nI)), (18, .sl 195 1 0 19), (19, .b false), (113, nI 19), (114, nI j)]) (fun j => ⟨[(195, some ((nonD (sgnK L i) j).map nI))]⟩) (fun j => j ≤ 19) (fun j => 19 - j) ?_ ?_
     ·exact at_ex (0) (Nat.zero_le _) [(195, some 95)] hI rfl rfl ⟨⟨_, rfl, .pure pu⟩, ⟨_, rfl, .pure pu⟩, ⟨_, rfl, .pure pu⟩, ⟨_, rfl, .pure pu⟩, ⟨_, rfl, .pure pu⟩, ⟨_, rfl, .pure pu⟩, ⟨_, rfl, .pure pu⟩, ⟨_, rfl, .pure pu⟩, ⟨_, rfl, .sl rfl (by first | rfl | omega | (simp <;> omega) | (simp [*] <;> omega))⟩, ⟨_, rfl, .pure pu⟩, ⟨_, rfl, .pure pu⟩, ⟨_, rfl, .pure pu⟩, trivial⟩ ⟨.inr ⟨_, _, rfl, rfl, .of rfl (.pure pul)⟩, trivial⟩
     rintro j hj
     refine at_seq <| at_region <| s1 (y_p rfl) rfl ?_
     refine at_nil <| x_tn <| at_seq ?_
     refine at_cond rfl (fun hc115 => ?_) (fun hc115 => ?_)
     ·have h115 : j < 19 := by have := of_decide_eq_true hc115; omega
      refine at_skip <| x_tn <| at_seq <| at_block <| at_seq <| at_region <| s1 (y_p rfl) rfl <| s1 (y_p rfl) rfl ?_
      refine at_nil <| x_tn <| at_seq <| at_seq <| at_region <| s1 (y_p rfl) rfl ?_
      refine at_nil <| x_tn ?_
      refine at_then rfl ?_
      refine at_region <| s1 (y_p rfl) rfl <| s1 (y_p rfl) rfl <| s1 (y_ixs j Tryd.underlying42 ti3 rfl rfl rfl rfl (by omega) rfl) rfl ?_
      refine at_op rfl (n_store1 ti3 rfl rfl rfl rfl (by rw [List.length_map, len_nonD _ hj]; omega) rfl ?_)
      refine at_nil <| x_tn ?_
      refine at_draw_tail 12 hmix (by kernel_rfl) ?_
      refine t1 (y_p rfl) rfl <| t1 (y_p rfl) rfl <| t0g rfl rfl rfl rfl <| t0g rfl rfl rfl rfl <| t0g rfl rfl rfl rfl <| t0g rfl rfl rfl rfl <| t0g rfl rfl rfl rfl <| t0g rfl rfl rfl rfl <| t0g rfl rfl rfl rfl <| t0g rfl rfl rfl rfl ?_
      refine t0g rfl rfl rfl rfl <| t1 (y_p rfl) rfl ?_
      refine at_snil ?_
      refine s1 (y_p rfl) rfl ?_
      refine at_nil <| x_bn <| x_tn <| at_region <| s1 (addN _ 1 rfl rfl rfl rfl (by omega)) rfl <| s1 (y_p rfl) rfl ?_
      refine at_nil ?_
      exact at_end (j + 1) (by omega) (by omega) [(195, some 195)] hI rfl rfl ⟨⟨_, rfl, .pure pu⟩, ⟨_, rfl, .pure pu⟩, ⟨_, rfl, .pure pu⟩, ⟨_, rfl, .pure pu⟩, ⟨_, rfl, .pure pu⟩, ⟨_, rfl, .pure pu⟩, ⟨_, rfl, .pure pu⟩, ⟨_, rfl, .pure pu⟩, ⟨_, rfl, .sl rfl (by first | rfl | omega | (simp <;> omega) | (simp [*] <;> omega))⟩, ⟨_, rfl, .pure pu⟩, ⟨_, rfl, .pure pu⟩, ⟨_, rfl, .pure pu⟩, trivial⟩ ⟨.inr ⟨_, _, rfl, rfl, .of (nonD_next h115) (.pure pul)⟩, trivial⟩
     ·obtain rfl : j = 19 := by have := of_decide_eq_false hc115; omega
      refine at_exit <| x_te <| x_te <| x_be <| x_tn <| at_seq ?_
      refine at_frz 18 rfl rfl pul (view_eq (by simp [len_nonD]) rfl) ?_
      refine at_say 18 rfl (v' := .fz 19 ((knwK (sgnK L i)).map nI)) (by rw [nonD_end hz]) ?_
      refine at_region <| s1 (y_loadA ti23 rfl rfl (List.take_of_length_le (by simp [hx])) (by simp [hx])) rfl <| s1 (y_fldf Tryd.underlying28 rfl ti3 (by decide) rfl rfl) rfl <| s1 (y_load ti3 rfl rfl rfl) rfl ?_
      refine at_op rfl (n_call false rfl (.cons (.pure pu) (.cons (.pure pu) (.nil))) (seed_ok x (i : Nat) hx) pu (.inl rfl) rfl ?_)
      refine at_op rfl (n_alloc 21 rfl ti23 rfl rfl ?_)
      refine at_op rfl (n_storeA ti23 rfl rfl rfl (by simp) (by first | rfl | omega | (simp <;> omega) | (simp [*] <;> omega)) ?_)
      refine at_nil <| x_tn <| at_seq <| at_seq <| at_region <| s1 (y_p rfl) rfl ?_
      refine at_nil <| x_tn <| at_block <| at_seq <| at_region <| s1 ((y_p rfl).v (v' := .b false) (rfl)) rfl <| s1 (y_p rfl) rfl ?_
      refine at_nil <| x_tn ?_
      refine at_else rfl ?_
      refine at_seq <| at_region <| s1 ((y_p rfl).v (v' := .b true) (rfl)) rfl <| s1 (y_p rfl) rfl ?_
      refine at_nil <| x_tn ?_
      refine at_then rfl ?_
      refine at_seq ?_
      refine at_fs ⟨_, [], []⟩ 36 4 hmix (le_refl rfl) ?_
      refine fs_q 0 [] [] (y_p rfl) rfl rfl ?_
      refine fs_q 1 [0] [] (y_p rfl) rfl rfl ?_
      refine fs_q 2 [1] [] (y_p rfl) rfl rfl ?_
      refine fs_qg 3 [2] [] rfl rfl (y_p rfl) rfl rfl ?_
      refine fs_qg 4 [2, 3] [] rfl rfl ((y_p rfl).v (v' := .b true) (congrArg A.b (decide_eq_true (by omega)))) rfl rfl ?_
      refine fs_q 5 [2, 4] [] (y_p rfl) rfl rfl ?_
      refine fs_q 6 [5] [] (y_p rfl) rfl rfl ?_
      refine fs_qg 7 [6] [] rfl rfl (y_p rfl) rfl rfl ?_
      refine fs_qg 8 [6, 7] [] rfl rfl ((y_p rfl).v (v' := .b true) (congrArg A.b (decide_eq_true (by omega)))) rfl rfl ?_
      refine fs_q 9 [6, 8] [] (y_p rfl) rfl rfl ?_
      refine fs_q 10 [9] [] (y_p rfl) rfl rfl ?_
      refine fs_qg 11 [10] [] rfl rfl (y_p rfl) rfl rfl ?_
      refine fs_qg 12 [10] [] rfl rfl (y_p rfl) rfl rfl ?_
      refine fs_qg 13 [10, 11, 12] [] rfl rfl (y_ixf t Tryd.underlying42 ti3 rfl rfl rfl (by omega) rfl) rfl rfl ?_
      refine fs_qg 14 [10, 13] [] rfl rfl (y_load ti3 rfl rfl (get_dig3 m t ht)) rfl rfl ?_
      refine fs_qg 15 [10] [] rfl rfl (y_p rfl) rfl rfl ?_
      refine fs_qg 16 [10] [] rfl rfl (y_p rfl) rfl rfl ?_
      refine fs_qg 17 [10, 15, 16] [] rfl rfl (y_ixf t Tryd.underlying42 ti3 rfl rfl rfl (by omega) rfl) rfl rfl ?_
      refine fs_qg 18 [10, 17] [] rfl rfl (y_load ti3 rfl rfl (get_knw (sgnK L i) t ht)) rfl rfl ?_
      refine fs_qg 19 [10, 14, 18] [] rfl rfl ((y_p rfl).v (v' := .b true) (congrArg A.b (decide_eq_true (by omega)))) rfl rfl ?_
      refine fs_q 20 [10, 19] [] (y_p rfl) rfl rfl ?_
      refine fs_q 21 [20] [] (y_p rfl) rfl rfl ?_
      refine fs_qg 22 [21] [] rfl rfl (y_fldf Tryd.underlying28 rfl ti26 (by decide) rfl rfl) rfl rfl ?_
      refine fs_qg 23 [21, 22] [] rfl rfl (y_load ti26 rfl rfl rfl) rfl rfl ?_
      refine fs_qg 24 [21] [] rfl rfl (y_p rfl) rfl rfl ?_
      refine fs_qg 25 [21, 23, 24] [] rfl rfl (y_ixf t Tryd.underlying26 ti23 rfl rfl rfl (by omega) rfl) rfl rfl ?_
      refine fs_qg 26 [21, 25] [] rfl rfl (y_loadA ti23 rfl rfl (get_d hS hSt) (by rw [List.length_map]; exact hel)) rfl rfl ?_
      refine fs_qg 27 [21] [(21, none)] rfl rfl (y_loadA0 ti23 rfl rfl (by simp)) rfl rfl ?_
      refine fs_qg 28 [21] [] rfl rfl (y_p rfl) rfl rfl ?_
      refine fs_qg 29 [21] [] rfl rfl (y_p rfl) rfl rfl ?_
      refine fs_qg 30 [21] [] rfl rfl (y_p rfl) rfl rfl ?_
      refine fs_qg 31 [21, 29, 30] [] rfl rfl (y_ixf t Tryd.underlying42 ti3 rfl rfl rfl (by omega) rfl) rfl rfl ?_
      refine fs_qg 32 [21, 31] [] rfl rfl (y_load ti3 rfl rfl (get_dig3 m t ht)) rfl rfl ?_
      refine fs_call false 33 [21, 27, 28, 32] [] (gy1 rfl rfl) rfl (.cons (.pure pu) (.cons (.pure pu) (.cons (.pure pu) (.nil)))) (lelem_ok (seedL x (i : Nat)) t (dg m t) hsl (by have := dg_lt m t; omega)) pu (.inl rfl) rfl rfl ?_
      refine fs_qg 34 [21, 26, 33] [] rfl rfl ((y_aq Tryd.underlying23 Tryd.underlying5 ti5 (by kernel_rfl) rfl rfl (by first | assumption | (simp; done) | (simp [*]; done)) (by first | assumption | (simp; done) | (simp [*]; done))).v (v' := .b true) (congrArg A.b (by simp))) rfl rfl ?_
      refine fs_q 35 [21, 34] [] (y_p rfl) rfl rfl ?_
      refine fs_end (by kernel_rfl) ?_
      refine s1 (y_p rfl) rfl ?_
      refine at_nil <| x_tn <| at_ret <| x_br <| x_tr ?_
      refine at_result (rs := [.tmp 10]) rfl (r_tmp rfl r_nil) rfl
   ·obtain ⟨k, i, hb, hz, hk, hcol⟩ := hcs
    obtain ⟨rfl, rfl, hi, hk256, hsz, hv, hSl, hfit⟩ := hb
    have hql := len_sgnK hL i
    have hhfit : (path (kpubs x k) i).length = (rights i k).length := by have := rights_path _ (kpubs x k) i (Nat.le_refl _); simpa using this
    have hTl : (signD (seedL x (i : Nat)) m).length = 19 := len_signL _ _ _
    have hsl : (seedL x (i : Nat)).length = 32 := len_seedL _ _
    have hrl := rights_le k i k (Nat.le_refl _)
    refine at_frzP 5 rfl rfl pul ?_
    refine at_frzP 8 rfl rfl pul ?_
    refine at_frzP 9 rfl rfl pul ?_
    refine at_region <| s1 (y_loadA ti23 rfl rfl (List.take_of_length_le (by simp [hx])) (by simp [hx])) rfl <| s1 (y_p rfl) rfl <| s1 (y_p rfl) rfl <| s1 (y_loadA ti23 rfl rfl (List.take_of_length_le (by simp [hm])) (by simp [hm])) rfl <| s1 (y_loadA ti28 rfl rfl rfl rfl) rfl ?_
    refine at_op rfl (n_call false rfl (.cons (.pure pu) (.cons (.pure pu) (.cons (.pure pu) (.cons (.pure pu) (.cons (.pure pu) (.nil)))))) (Con.cast (kforg_ok x (k : Int) L m (i : Nat) S P hx hL (by omega) hm hS hP) (forg_ret hk).symm) pu (.inl rfl) rfl ?_)
    refine s1 (y_p rfl) rfl <| s1 (y_p rfl) rfl <| s1 (y_p rfl) rfl <| s1 (y_p rfl) rfl <| s1 (y_p rfl) rfl ?_
    refine at_nil <| x_tn <| at_seq <| at_region <| s1 (y_loadA ti23 rfl rfl (List.take_of_length_le (by simp [hx])) (by simp [hx])) rfl <| s1 (y_p rfl) rfl ?_
    refine at_op rfl (n_call false rfl (.cons (.pure pu) (.cons (.pure pu) (.nil))) (Con.cast (root_ok x k hx) ((rootA_eq ..).trans (by rw [decide_eq_true hsz]; rfl : _ = .tu [.ag ((rootD x (k : Int)).map u8), .i .i64 0]))) pu (.inl rfl) rfl ?_)
    refine s1 (y_p rfl) rfl <| s1 (y_p rfl) rfl <| s1 (y_p rfl) rfl ?_
    refine at_op rfl (n_alloc 13 rfl ti23 rfl rfl ?_)
    refine at_op rfl (n_storeA ti23 rfl rfl rfl (by first | rfl | omega | (simp <;> omega) | (simp [*] <;> omega)) (by first | rfl | omega | (simp <;> omega) | (simp [*] <;> omega)) ?_)
    refine s1 (y_p rfl) rfl ?_
    refine at_nil <| x_tn <| at_seq <| at_seq <| at_region <| s1 (y_p rfl) rfl <| s1 ((y_p rfl).v (v' := .b false) (rfl)) rfl <| s1 (y_p rfl) rfl <| g1 rfl rfl (y_loadA0 ti23 rfl rfl (by simp)) rfl <| g1 rfl rfl (y_p rfl) rfl <| g1 rfl rfl (y_loadA ti23 rfl rfl (List.take_of_length_le (by simp [hm])) (by simp [hm])) rfl <| g1 rfl rfl (y_loadA ti28 rfl rfl rfl rfl) rfl ?_
    refine at_opg rfl rfl rfl (n_call false rfl (.cons (.pure pu) (.cons (.pure pu) (.cons (.pure pu) (.cons (.pure pu) (.nil))))) (Con.cast (kver_ok (rootD x (k : Int)) m k (i : Nat) S P (by simp) hm hS hP) (congrArg (A.i .i64) (by rw [hv]; rfl : errK (verK (rootD x (k : Int)) k m (i : Nat) S P) = 0))) pu (.inl rfl) rfl ?_)
    refine g1 rfl rfl ((y_p rfl).v (v' := .b false) (rfl)) rfl <| s1 (y_p rfl) rfl ?_
    refine at_nil <| x_tn ?_
    refine at_else rfl ?_
    refine at_skip <| x_tn <| at_seq <| at_region ?_
    refine at_op rfl (n_alloc 15 rfl ti23 rfl rfl ?_)
    refine at_nil <| x_tn <| at_seq <| at_seq <| at_region <| s1 (y_fldf Tryd.underlying28 rfl ti3 (by decide) rfl rfl) rfl <| s1 (y_load ti3 rfl rfl rfl) rfl <| s1 (y_p rfl) rfl <| s1 (y_len Tryd.underlying26 rfl rfl rfl) rfl <| s1 (y_p rfl) rfl ?_
    refine at_nil <| x_tn ?_
    refine at_cond rfl (fun hc70 => ?_) (fun hc70 => ?_)
    ·have hin : i < L.length := by have := of_decide_eq_true hc70; omega
     obtain ⟨q0, hq0⟩ : ∃ q, L[i]? = some q := ⟨_, List.getElem?_eq_getElem hin⟩
     have hq32 := hL q0 (List.mem_of_getElem? hq0)
     refine at_region <| s1 (y_p rfl) rfl <| s1 (y_fldf Tryd.underlying28 rfl ti3 (by decide) rfl rfl) rfl <| s1 (y_load ti3 rfl rfl rfl) rfl <| s1 (y_ixf i Tryd.underlying26 ti23 rfl rfl rfl (by omega) rfl) rfl <| s1 (y_loadA ti23 rfl rfl (get_d hL hq0) (by simp [hq32])) rfl ?_
     refine at_op rfl (n_storeA ti23 rfl rfl rfl (by simp [hq32]) (by first | rfl | omega | (simp <;> omega) | (simp [*] <;> omega)) ?_)
     refine at_nil <| x_tn <| at_seq ?_
     refine at_sayO 15 (cs' := (sgnK L i).map u8) rfl (by rw [sgnK_in hq0]) ?_
     refine at_region <| s1 (y_loadA0 ti23 rfl rfl (by simp [hql])) rfl <| s1 ((y_bld0 ti23 rfl Tryd.underlying23 ti5 rfl).v (v' := .ag (zD.map u8)) (congrArg A.ag zD_cells)) rfl <| s1 ((y_aq Tryd.underlying23 Tryd.underlying5 ti5 (by kernel_rfl) rfl rfl (by first | assumption | (simp; done) | (simp [*]; done)) (by first | assumption | (simp; done) | (simp [*]; done))).v (v' := .b true) (congrArg A.b hz)) rfl <| s1 (y_p rfl) rfl ?_
     refine at_nil <| x_tn <| at_seq <| at_seq <| at_region <| s1 (y_loadA0 ti23 rfl rfl (by simp [hql])) rfl <| s1 (y_loadA ti23 rfl rfl (List.take_of_length_le (by simp [hm])) (by simp [hm])) rfl <| s1 (y_aq Tryd.underlying23 Tryd.underlying5 ti5 (by kernel_rfl) rfl rfl (by first | assumption | (simp; done) | (simp [*]; done)) (by first | assumption | (simp; done) | (simp [*]; done))) rfl <| s1 (y_p rfl) rfl ?_
     refine g_and 2 rfl rfl rfl rfl (fun hb82 => .step (y_p rfl) rfl rfl <| .step (y_p rfl) rfl rfl <| .done) rfl rfl ?_
     refine at_say 85 rfl (v' := .b false) (congrArg A.b (by simp [hz])) ?_
     refine at_nil <| x_tn ?_
     refine at_else rfl ?_
     refine at_skip <| x_tn <| at_seq ?_
     refine at_fs ⟨_, [], []⟩ 5 4 hmix (le_refl rfl) ?_
     refine fs_q 0 [] [] (y_loadA ti23 rfl rfl (List.take_of_length_le (by simp [hm])) (by simp [hm])) rfl rfl ?_
     refine fs_call false 1 [0] [] gy0 rfl (.cons (.pure pu) (.nil)) (digits_ok m hm) pu (.inl rfl) rfl rfl ?_
     refine fs_q 2 [] [(15, none)] (y_loadA0 ti23 rfl rfl (by simp [hql])) rfl rfl ?_
     refine fs_callO 95 false 3 [2] [] gy0 rfl (.cons (.pure pu) (.nil)) (digitsO_ok (sgnK L i) hql) pul (.inl rfl) rfl rfl ?_
     refine fs_q 4 [1] [] (y_p rfl) rfl rfl ?_
     refine fs_end (by kernel_rfl) ?_
     refine s1 (y_p rfl) rfl ?_
     refine at_nil <| x_tn <| at_seq <| at_seq <| at_region <| s1 (y_p rfl) rfl <| s1 (y_len Tryd.underlying42 rfl rfl rfl) rfl <| s1 ((y_p rfl).v (v' := .b false) (congrArg A.b (by simp))) rfl <| s1 (y_p rfl) rfl <| g1 rfl rfl (y_p rfl) rfl <| g1 rfl rfl (y_len Tryd.underlying42 rfl rfl rfl) rfl <| g1 rfl rfl ((y_p rfl).v (v' := .b false) (congrArg A.b (by simp))) rfl <| s1 (y_p rfl) rfl <| s1 (y_p rfl) rfl <| g1 rfl rfl (y_fldf Tryd.underlying28 rfl ti26 (by decide) rfl rfl) rfl ?_
     refine g1 rfl rfl (y_load ti26 rfl rfl rfl) rfl <| g1 rfl rfl (y_len Tryd.underlying26 rfl rfl rfl) rfl <| g1 rfl rfl ((y_p rfl).v (v' := .b false) (congrArg A.b (by simp [hSl]))) rfl <| s1 (y_p rfl) rfl ?_
     refine at_nil <| x_tn ?_
     refine at_else rfl ?_
     refine at_skip <| x_tn <| at_seq <| at_region <| s1 (y_p rfl) rfl <| s1 (y_p rfl) rfl <| s1 (y_p rfl) rfl ?_
     refine at_nil <| x_tn <| at_seq <| at_seq <| at_region <| s1 (y_p rfl) rfl <| s1 (y_len Tryd.underlying42 rfl rfl rfl) rfl <| s1 ((y_p rfl).v (v' := .i .i64 0) rfl) rfl ?_
     refine at_nil <| x_tn <| at_block ?_
     refine at_loop (ι := Nat) (fun j => [(1, nI k), (5, .fp (x.map u8)), (8, .fp (m.map u8)), (9, .fp [nI i, dgs S, dgs P]), (11, .i .i64 3), (12, .i .i64 0), (16, .b true), (17, .fz 19 ((digits m).map nI)), (18, .sl 195 1 0 19), (19, .b false), (113, nI 19), (114, nI j)]) (fun j => ⟨[(195, some ((nonD (sgnK L i) j).map nI))]⟩) (fun j => j ≤ 19) (fun j => 19 - j) ?_ ?_
     ·exact at_ex (0) (Nat.zero_le _) [(195, some 95)] hI rfl rfl ⟨⟨_, rfl, .pure pu⟩, ⟨_, rfl, .pure pu⟩, ⟨_, rfl, .pure pu⟩, ⟨_, rfl, .pure pu⟩, ⟨_, rfl, .pure pu⟩, ⟨_, rfl, .pure pu⟩, ⟨_, rfl, .pure pu⟩, ⟨_, rfl, .pure pu⟩, ⟨_, rfl, .sl rfl (by first | rfl | omega | (simp <;> omega) | (simp [*] <;> omega))⟩, ⟨_, rfl, .pure pu⟩, ⟨_, rfl, .pure pu⟩, ⟨_, rfl, .pure pu⟩, trivial⟩ ⟨.inr ⟨_, _, rfl, rfl, .of rfl (.pure pul)⟩, trivial⟩
     rintro j hj
     refine at_seq <| at_region <| s1 (y_p rfl) rfl ?_
     refine at_nil <| x_tn <| at_seq ?_
     refine at_cond rfl (fun hc115 => ?_) (fun hc115 => ?_)
     ·have h115 : j < 19 := by have := of_decide_eq_true hc115; omega
      refine at_skip <| x_tn <| at_seq <| at_block <| at_seq <| at_region <| s1 (y_p rfl) rfl <| s1 (y_p rfl) rfl ?_
      refine at_nil <| x_tn <| at_seq <| at_seq <| at_region <| s1 (y_p rfl) rfl ?_
      refine at_nil <| x_tn ?_
      refine at_then rfl ?_
      refine at_region <| s1 (y_p rfl) rfl <| s1 (y_p rfl) rfl <| s1 (y_ixs j Tryd.underlying42 ti3 rfl rfl rfl rfl (by omega) rfl) rfl ?_
      refine at_op rfl (n_store1 ti3 rfl rfl rfl rfl (by rw [List.length_map, len_nonD _ hj]; omega) rfl ?_)
      refine at_nil <| x_tn ?_
      refine at_draw_tail 12 hmix (by kernel_rfl) ?_
      refine t1 (y_p rfl) rfl <| t1 (y_p rfl) rfl <| t0g rfl rfl rfl rfl <| t0g rfl rfl rfl rfl <| t0g rfl rfl rfl rfl <| t0g rfl rfl rfl rfl <| t0g rfl rfl rfl rfl <| t0g rfl rfl rfl rfl <| t0g rfl rfl rfl rfl <| t0g rfl rfl rfl rfl ?_
      refine t0g rfl rfl rfl rfl <| t1 (y_p rfl) rfl ?_
      refine at_snil ?_
      refine s1 (y_p rfl) rfl ?_
      refine at_nil <| x_bn <| x_tn <| at_region <| s1 (addN _ 1 rfl rfl rfl rfl (by omega)) rfl <| s1 (y_p rfl) rfl ?_
      refine at_nil ?_
      exact at_end (j + 1) (by omega) (by omega) [(195, some 195)] hI rfl rfl ⟨⟨_, rfl, .pure pu⟩, ⟨_, rfl, .pure pu⟩, ⟨_, rfl, .pure pu⟩, ⟨_, rfl, .pure pu⟩, ⟨_, rfl, .pure pu⟩, ⟨_, rfl, .pure pu⟩, ⟨_, rfl, .pure pu⟩, ⟨_, rfl, .pure pu⟩, ⟨_, rfl, .sl rfl (by first | rfl | omega | (simp <;> omega) | (simp [*] <;> omega))⟩, ⟨_, rfl, .pure pu⟩, ⟨_, rfl, .pure pu⟩, ⟨_, rfl, .pure pu⟩, trivial⟩ ⟨.inr ⟨_, _, rfl, rfl, .of (nonD_next h115) (.pure pul)⟩, trivial⟩
     ·obtain rfl : j = 19 := by have := of_decide_eq_false hc115; omega
      refine at_exit <| x_te <| x_te <| x_be <| x_tn <| at_seq ?_
      refine at_frz 18 rfl rfl pul (view_eq (by simp [len_nonD]) rfl) ?_
      refine at_say 18 rfl (v' := .fz 19 ((knwK (sgnK L i)).map nI)) (by rw [nonD_end hz]) ?_
      refine at_region <| s1 (y_loadA ti23 rfl rfl (List.take_of_length_le (by simp [hx])) (by simp [hx])) rfl <| s1 (y_fldf Tryd.underlying28 rfl ti3 (by decide) rfl rfl) rfl <| s1 (y_load ti3 rfl rfl rfl) rfl ?_
      refine at_op rfl (n_call false rfl (.cons (.pure pu) (.cons (.pure pu) (.nil))) (seed_ok x (i : Nat) hx) pu (.inl rfl) rfl ?_)
      refine at_op rfl (n_alloc 21 rfl ti23 rfl rfl ?_)
      refine at_op rfl (n_storeA ti23 rfl rfl rfl (by simp) (by first | rfl | omega | (simp <;> omega) | (simp [*] <;> omega)) ?_)
      refine at_nil <| x_tn <| at_seq <| at_seq <| at_region <| s1 (y_p rfl) rfl ?_
      refine at_nil <| x_tn <| at_block <| at_seq <| at_region <| s1 ((y_p rfl).v (v' := .b false) (rfl)) rfl <| s1 (y_p rfl) rfl ?_
      refine at_nil <| x_tn ?_
      refine at_else rfl ?_
      refine at_seq <| at_region <| s1 ((y_p rfl).v (v' := .b false) (rfl)) rfl <| s1 (y_p rfl) rfl ?_
      refine at_nil <| x_tn ?_
      refine at_else rfl ?_
      refine at_seq <| at_region <| s1 ((y_p rfl).v (v' := .b true) (rfl)) rfl <| s1 (y_p rfl) rfl ?_
      refine at_nil <| x_tn ?_
      refine at_then rfl ?_
      refine at_seq <| at_region <| s1 (y_loadA ti23 rfl rfl (List.take_of_length_le (by simp [hx])) (by simp [hx])) rfl <| s1 (y_p rfl) rfl <| s1 (y_fldf Tryd.underlying28 rfl ti3 (by decide) rfl rfl) rfl <| s1 (y_load ti3 rfl rfl rfl) rfl <| s1 (y_loadA ti23 rfl rfl (List.take_of_length_le (by simp [hm])) (by simp [hm])) rfl ?_
      refine at_op rfl (n_call false rfl (.cons (.pure pu) (.cons (.pure pu) (.cons (.pure pu) (.cons (.pure pu) (.nil))))) (Con.cast (ksign_ok x k (i : Nat) m hx hm) (signA_yes hsz hi)) pu (.inl rfl) rfl ?_)
      refine s1 (y_p rfl) rfl <| s1 (y_p rfl) rfl <| s1 (y_p rfl) rfl ?_
      refine at_op rfl (n_alloc 22 rfl ti28 rfl rfl ?_)
      refine at_op rfl (n_storeA ti28 rfl rfl rfl (by first | rfl | omega | (simp <;> omega) | (simp [*] <;> omega)) (by first | rfl | omega | (simp <;> omega) | (simp [*] <;> omega)) ?_)
      refine s1 (y_p rfl) rfl ?_
      refine at_nil <| x_tn <| at_seq <| at_seq <| at_region <| s1 (y_p rfl) rfl <| s1 ((y_p rfl).v (v' := .b false) (rfl)) rfl <| s1 (y_p rfl) rfl <| g1 rfl rfl (y_p rfl) rfl <| s1 (y_p rfl) rfl <| s1 (y_p rfl) rfl <| g1 rfl rfl (y_p rfl) rfl <| g1 rfl rfl ((y_p rfl).v (v' := .b false) (rfl)) rfl <| s1 (y_p rfl) rfl ?_
      refine at_nil <| x_tn ?_
      refine at_else rfl ?_
      refine at_skip <| x_tn <| at_seq ?_
      refine at_fs ⟨_, [], []⟩ 19 4 hmix (le_refl rfl) ?_
      refine fs_q 0 [] [] (y_fldf Tryd.underlying28 rfl ti26 (by decide) rfl rfl) rfl rfl ?_
      refine fs_q 1 [0] [] (y_load ti26 rfl rfl rfl) rfl rfl ?_
      refine fs_q 2 [] [] (y_p rfl) rfl rfl ?_
      refine fs_q 3 [] [] (y_fldf Tryd.underlying28 rfl ti3 (by decide) rfl rfl) rfl rfl ?_
      refine fs_q 4 [3] [] (y_load ti3 rfl rfl rfl) rfl rfl ?_
      refine fs_q 5 [] [] (y_p rfl) rfl rfl ?_
      refine fs_q 6 [] [] (y_fldf Tryd.underlying28 rfl ti26 (by decide) rfl rfl) rfl rfl ?_
      refine fs_q 7 [6] [] (y_load ti26 rfl rfl rfl) rfl rfl ?_
      refine fs_call false 8 [1, 2, 4, 5, 7] [] gy0 rfl (.cons (.pure pu) (.cons (.pure pu) (.cons (.pure pu) (.cons (.pure pu) (.cons (.pure pu) (.nil)))))) (lway_ok S P m i k hS hSl hP (by omega) hi hfit) pu (.inl rfl) rfl rfl ?_
      refine fs_q 9 [] [(22, none)] (y_fld Tryd.underlying28 rfl ti26 (by decide) rfl rfl) rfl rfl ?_
      refine fs_q 10 [9] [(22, none)] (y_load ti26 rfl rfl rfl) rfl rfl ?_
      refine fs_q 11 [] [] (y_p rfl) rfl rfl ?_
      refine fs_q 12 [] [] (y_fldf Tryd.underlying28 rfl ti3 (by decide) rfl rfl) rfl rfl ?_
      refine fs_q 13 [12] [] (y_load ti3 rfl rfl rfl) rfl rfl ?_
      refine fs_q 14 [] [] (y_p rfl) rfl rfl ?_
      refine fs_q 15 [] [(22, none)] (y_fld Tryd.underlying28 rfl ti26 (by decide) rfl rfl) rfl rfl ?_
      refine fs_q 16 [15] [(22, none)] (y_load ti26 rfl rfl rfl) rfl rfl ?_
      refine fs_call false 17 [10, 11, 13, 14, 16] [] gy0 rfl (.cons (.pure pu) (.cons (.pure pu) (.cons (.pure pu) (.cons (.pure pu) (.cons (.pure pu) (.nil)))))) (lway_ok (signD (seedL x (i : Nat)) m) (path (kpubs x k) i) m i k (D32_signD _ _) hTl (D32_path _ _ _ (Nat.le_refl _)) (by omega) hi hhfit) pu (.inl rfl) rfl rfl ?_
      refine fs_call false 18 [8, 17] [] gy0 rfl (.cons (.pure pu) (.cons (.pure pu) (.nil))) (Con.cast (lcoll_ok (wayS S m i k P) (wayS (signD (seedL x (i : Nat)) m) m i k (path (kpubs x k) i)) (by rw [len_wayS hfit, len_wayS hhfit, hfit, hhfit]) (by rw [len_wayS hfit]; omega) (way_small hS hSl hP) (way_small (D32_signD _ _) hTl (D32_path _ _ _ (Nat.le_refl _)))) (congrArg A.b hcol)) pu (.inl rfl) rfl rfl ?_
      refine fs_end (by kernel_rfl) ?_
      refine s1 (y_p rfl) rfl ?_
      refine at_nil <| x_tn <| at_ret <| x_br <| x_tr ?_
      refine at_result (rs := [.tmp 10]) rfl (r_tmp rfl r_nil) rfl
    ·have h70 : ¬ i < L.length := by have := of_decide_eq_false hc70; omega
     refine at_skip <| x_tn <| at_seq ?_
     refine at_sayO 15 (cs' := (sgnK L i).map u8) rfl (by rw [sgnK_out h70]; rfl) ?_
     refine at_region <| s1 (y_loadA0 ti23 rfl rfl (by simp [hql])) rfl <| s1 ((y_bld0 ti23 rfl Tryd.underlying23 ti5 rfl).v (v' := .ag (zD.map u8)) (congrArg A.ag zD_cells)) rfl <| s1 ((y_aq Tryd.underlying23 Tryd.underlying5 ti5 (by kernel_rfl) rfl rfl (by first | assumption | (simp; done) | (simp [*]; done)) (by first | assumption | (simp; done) | (simp [*]; done))).v (v' := .b true) (congrArg A.b hz)) rfl <| s1 (y_p rfl) rfl ?_
     refine at_nil <| x_tn <| at_seq <| at_seq <| at_region <| s1 (y_loadA0 ti23 rfl rfl (by simp [hql])) rfl <| s1 (y_loadA ti23 rfl rfl (List.take_of_length_le (by simp [hm])) (by simp [hm])) rfl <| s1 (y_aq Tryd.underlying23 Tryd.underlying5 ti5 (by kernel_rfl) rfl rfl (by first | assumption | (simp; done) | (simp [*]; done)) (by first | assumption | (simp; done) | (simp [*]; done))) rfl <| s1 (y_p rfl) rfl ?_
     refine g_and 2 rfl rfl rfl rfl (fun hb82 => .step (y_p rfl) rfl rfl <| .step (y_p rfl) rfl rfl <| .done) rfl rfl ?_
     refine at_say 85 rfl (v' := .b false) (congrArg A.b (by simp [hz])) ?_
     refine at_nil <| x_tn ?_
     refine at_else rfl ?_
     refine at_skip <| x_tn <| at_seq ?_
     refine at_fs ⟨_, [], []⟩ 5 4 hmix (le_refl rfl) ?_
     refine fs_q 0 [] [] (y_loadA ti23 rfl rfl (List.take_of_length_le (by simp [hm])) (by simp [hm])) rfl rfl ?_
     refine fs_call false 1 [0] [] gy0 rfl (.cons (.pure pu) (.nil)) (digits_ok m hm) pu (.inl rfl) rfl rfl ?_
     refine fs_q 2 [] [(15, none)] (y_loadA0 ti23 rfl rfl (by simp [hql])) rfl rfl ?_
     refine fs_callO 95 false 3 [2] [] gy0 rfl (.cons (.pure pu) (.nil)) (digitsO_ok (sgnK L i) hql) pul (.inl rfl) rfl rfl ?_
     refine fs_q 4 [1] [] (y_p rfl) rfl rfl ?_
     refine fs_end (by kernel_rfl) ?_
     refine s1 (y_p rfl) rfl ?_
     refine at_nil <| x_tn <| at_seq <| at_seq <| at_region <| s1 (y_p rfl) rfl <| s1 (y_len Tryd.underlying42 rfl rfl rfl) rfl <| s1 ((y_p rfl).v (v' := .b false) (congrArg A.b (by simp))) rfl <| s1 (y_p rfl) rfl <| g1 rfl rfl (y_p rfl) rfl <| g1 rfl rfl (y_len Tryd.underlying42 rfl rfl rfl) rfl <| g1 rfl rfl ((y_p rfl).v (v' := .b false) (congrArg A.b (by simp))) rfl <| s1 (y_p rfl) rfl <| s1 (y_p rfl) rfl <| g1 rfl rfl (y_fldf Tryd.underlying28 rfl ti26 (by decide) rfl rfl) rfl ?_
     refine g1 rfl rfl (y_load ti26 rfl rfl rfl) rfl <| g1 rfl rfl (y_len Tryd.underlying26 rfl rfl rfl) rfl <| g1 rfl rfl ((y_p rfl).v (v' := .b false) (congrArg A.b (by simp [hSl]))) rfl <| s1 (y_p rfl) rfl ?_
     refine at_nil <| x_tn ?_
     refine at_else rfl ?_
     refine at_skip <| x_tn <| at_seq <| at_region <| s1 (y_p rfl) rfl <| s1 (y_p rfl) rfl <| s1 (y_p rfl) rfl ?_
     refine at_nil <| x_tn <| at_seq <| at_seq <| at_region <| s1 (y_p rfl) rfl <| s1 (y_len Tryd.underlying42 rfl rfl rfl) rfl <| s1 ((y_p rfl).v (v' := .i .i64 0) rfl) rfl ?_
     refine at_nil <| x_tn <| at_block ?_
     refine at_loop (ι := Nat) (fun j => [(1, nI k), (5, .fp (x.map u8)), (8, .fp (m.map u8)), (9, .fp [nI i, dgs S, dgs P]), (11, .i .i64 3), (12, .i .i64 0), (16, .b true), (17, .fz 19 ((digits m).map nI)), (18, .sl 195 1 0 19), (19, .b false), (113, nI 19), (114, nI j)]) (fun j => ⟨[(195, some ((nonD (sgnK L i) j).map nI))]⟩) (fun j => j ≤ 19) (fun j => 19 - j) ?_ ?_
     ·exact at_ex (0) (Nat.zero_le _) [(195, some 95)] hI rfl rfl ⟨⟨_, rfl, .pure pu⟩, ⟨_, rfl, .pure pu⟩, ⟨_, rfl, .pure pu⟩, ⟨_, rfl, .pure pu⟩, ⟨_, rfl, .pure pu⟩, ⟨_, rfl, .pure pu⟩, ⟨_, rfl, .pure pu⟩, ⟨_, rfl, .pure pu⟩, ⟨_, rfl, .sl rfl (by first | rfl | omega | (simp <;> omega) | (simp [*] <;> omega))⟩, ⟨_, rfl, .pure pu⟩, ⟨_, rfl, .pure pu⟩, ⟨_, rfl, .pure pu⟩, trivial⟩ ⟨.inr ⟨_, _, rfl, rfl, .of rfl (.pure pul)⟩, trivial⟩
     rintro j hj
     refine at_seq <| at_region <| s1 (y_p rfl) rfl ?_
     refine at_nil <| x_tn <| at_seq ?_
     refine at_cond rfl (fun hc115 => ?_) (fun hc115 => ?_)
     ·have h115 : j < 19 := by have := of_decide_eq_true hc115; omega
      refine at_skip <| x_tn <| at_seq <| at_block <| at_seq <| at_region <| s1 (y_p rfl) rfl <| s1 (y_p rfl) rfl ?_
      refine at_nil <| x_tn <| at_seq <| at_seq <| at_region <| s1 (y_p rfl) rfl ?_
      refine at_nil <| x_tn ?_
      refine at_then rfl ?_
      refine at_region <| s1 (y_p rfl) rfl <| s1 (y_p rfl) rfl <| s1 (y_ixs j Tryd.underlying42 ti3 rfl rfl rfl rfl (by omega) rfl) rfl ?_
      refine at_op rfl (n_store1 ti3 rfl rfl rfl rfl (by rw [List.length_map, len_nonD _ hj]; omega) rfl ?_)
      refine at_nil <| x_tn ?_
      refine at_draw_tail 12 hmix (by kernel_rfl) ?_
      refine t1 (y_p rfl) rfl <| t1 (y_p rfl) rfl <| t0g rfl rfl rfl rfl <| t0g rfl rfl rfl rfl <| t0g rfl rfl rfl rfl <| t0g rfl rfl rfl rfl <| t0g rfl rfl rfl rfl <| t0g rfl rfl rfl rfl <| t0g rfl rfl rfl rfl <| t0g rfl rfl rfl rfl ?_
      refine t0g rfl rfl rfl rfl <| t1 (y_p rfl) rfl ?_
      refine at_snil ?_
      refine s1 (y_p rfl) rfl ?_
      refine at_nil <| x_bn <| x_tn <| at_region <| s1 (addN _ 1 rfl rfl rfl rfl (by omega)) rfl <| s1 (y_p rfl) rfl ?_
      refine at_nil ?_
      exact at_end (j + 1) (by omega) (by omega) [(195, some 195)] hI rfl rfl ⟨⟨_, rfl, .pure pu⟩, ⟨_, rfl, .pure pu⟩, ⟨_, rfl, .pure pu⟩, ⟨_, rfl, .pure pu⟩, ⟨_, rfl, .pure pu⟩, ⟨_, rfl, .pure pu⟩, ⟨_, rfl, .pure pu⟩, ⟨_, rfl, .pure pu⟩, ⟨_, rfl, .sl rfl (by first | rfl | omega | (simp <;> omega) | (simp [*] <;> omega))⟩, ⟨_, rfl, .pure pu⟩, ⟨_, rfl, .pure pu⟩, ⟨_, rfl, .pure pu⟩, trivial⟩ ⟨.inr ⟨_, _, rfl, rfl, .of (nonD_next h115) (.pure pul)⟩, trivial⟩
     ·obtain rfl : j = 19 := by have := of_decide_eq_false hc115; omega
      refine at_exit <| x_te <| x_te <| x_be <| x_tn <| at_seq ?_
      refine at_frz 18 rfl rfl pul (view_eq (by simp [len_nonD]) rfl) ?_
      refine at_say 18 rfl (v' := .fz 19 ((knwK (sgnK L i)).map nI)) (by rw [nonD_end hz]) ?_
      refine at_region <| s1 (y_loadA ti23 rfl rfl (List.take_of_length_le (by simp [hx])) (by simp [hx])) rfl <| s1 (y_fldf Tryd.underlying28 rfl ti3 (by decide) rfl rfl) rfl <| s1 (y_load ti3 rfl rfl rfl) rfl ?_
      refine at_op rfl (n_call false rfl (.cons (.pure pu) (.cons (.pure pu) (.nil))) (seed_ok x (i : Nat) hx) pu (.inl rfl) rfl ?_)
      refine at_op rfl (n_alloc 21 rfl ti23 rfl rfl ?_)
      refine at_op rfl (n_storeA ti23 rfl rfl rfl (by simp) (by first | rfl | omega | (simp <;> omega) | (simp [*] <;> omega)) ?_)
      refine at_nil <| x_tn <| at_seq <| at_seq <| at_region <| s1 (y_p rfl) rfl ?_
      refine at_nil <| x_tn <| at_block <| at_seq <| at_region <| s1 ((y_p rfl).v (v' := .b false) (rfl)) rfl <| s1 (y_p rfl) rfl ?_
      refine at_nil <| x_tn ?_
      refine at_else rfl ?_
      refine at_seq <| at_region <| s1 ((y_p rfl).v (v' := .b false) (rfl)) rfl <| s1 (y_p rfl) rfl ?_
      refine at_nil <| x_tn ?_
      refine at_else rfl ?_
      refine at_seq <| at_region <| s1 ((y_p rfl).v (v' := .b true) (rfl)) rfl <| s1 (y_p rfl) rfl ?_
      refine at_nil <| x_tn ?_
      refine at_then rfl ?_
      refine at_seq <| at_region <| s1 (y_loadA ti23 rfl rfl (List.take_of_length_le (by simp [hx])) (by simp [hx])) rfl <| s1 (y_p rfl) rfl <| s1 (y_fldf Tryd.underlying28 rfl ti3 (by decide) rfl rfl) rfl <| s1 (y_load ti3 rfl rfl rfl) rfl <| s1 (y_loadA ti23 rfl rfl (List.take_of_length_le (by simp [hm])) (by simp [hm])) rfl ?_
      refine at_op rfl (n_call false rfl (.cons (.pure pu) (.cons (.pure pu) (.cons (.pure pu) (.cons (.pure pu) (.nil))))) (Con.cast (ksign_ok x k (i : Nat) m hx hm) (signA_yes hsz hi)) pu (.inl rfl) rfl ?_)
      refine s1 (y_p rfl) rfl <| s1 (y_p rfl) rfl <| s1 (y_p rfl) rfl ?_
      refine at_op rfl (n_alloc 22 rfl ti28 rfl rfl ?_)
      refine at_op rfl (n_storeA ti28 rfl rfl rfl (by first | rfl | omega | (simp <;> omega) | (simp [*] <;> omega)) (by first | rfl | omega | (simp <;> omega) | (simp [*] <;> omega)) ?_)
      refine s1 (y_p rfl) rfl ?_
      refine at_nil <| x_tn <| at_seq <| at_seq <| at_region <| s1 (y_p rfl) rfl <| s1 ((y_p rfl).v (v' := .b false) (rfl)) rfl <| s1 (y_p rfl) rfl <| g1 rfl rfl (y_p rfl) rfl <| s1 (y_p rfl) rfl <| s1 (y_p rfl) rfl <| g1 rfl rfl (y_p rfl) rfl <| g1 rfl rfl ((y_p rfl).v (v' := .b false) (rfl)) rfl <| s1 (y_p rfl) rfl ?_
      refine at_nil <| x_tn ?_
      refine at_else rfl ?_
      refine at_skip <| x_tn <| at_seq ?_
      refine at_fs ⟨_, [], []⟩ 19 4 hmix (le_refl rfl) ?_
      refine fs_q 0 [] [] (y_fldf Tryd.underlying28 rfl ti26 (by decide) rfl rfl) rfl rfl ?_
      refine fs_q 1 [0] [] (y_load ti26 rfl rfl rfl) rfl rfl ?_
      refine fs_q 2 [] [] (y_p rfl) rfl rfl ?_
      refine fs_q 3 [] [] (y_fldf Tryd.underlying28 rfl ti3 (by decide) rfl rfl) rfl rfl ?_
      refine fs_q 4 [3] [] (y_load ti3 rfl rfl rfl) rfl rfl ?_
      refine fs_q 5 [] [] (y_p rfl) rfl rfl ?_
      refine fs_q 6 [] [] (y_fldf Tryd.underlying28 rfl ti26 (by decide) rfl rfl) rfl rfl ?_
      refine fs_q 7 [6] [] (y_load ti26 rfl rfl rfl) rfl rfl ?_
      refine fs_call false 8 [1, 2, 4, 5, 7] [] gy0 rfl (.cons (.pure pu) (.cons (.pure pu) (.cons (.pure pu) (.cons (.pure pu) (.cons (.pure pu) (.nil)))))) (lway_ok S P m i k hS hSl hP (by omega) hi hfit) pu (.inl rfl) rfl rfl ?_
      refine fs_q 9 [] [(22, none)] (y_fld Tryd.underlying28 rfl ti26 (by decide) rfl rfl) rfl rfl ?_
      refine fs_q 10 [9] [(22, none)] (y_load ti26 rfl rfl rfl) rfl rfl ?_
      refine fs_q 11 [] [] (y_p rfl) rfl rfl ?_
      refine fs_q 12 [] [] (y_fldf Tryd.underlying28 rfl ti3 (by decide) rfl rfl) rfl rfl ?_
      refine fs_q 13 [12] [] (y_load ti3 rfl rfl rfl) rfl rfl ?_
      refine fs_q 14 [] [] (y_p rfl) rfl rfl ?_
      refine fs_q 15 [] [(22, none)] (y_fld Tryd.underlying28 rfl ti26 (by decide) rfl rfl) rfl rfl ?_
      refine fs_q 16 [15] [(22, none)] (y_load ti26 rfl rfl rfl) rfl rfl ?_
      refine fs_call false 17 [10, 11, 13, 14, 16] [] gy0 rfl (.cons (.pure pu) (.cons (.pure pu) (.cons (.pure pu) (.cons (.pure pu) (.cons (.pure pu) (.nil)))))) (lway_ok (signD (seedL x (i : Nat)) m) (path (kpubs x k) i) m i k (D32_signD _ _) hTl (D32_path _ _ _ (Nat.le_refl _)) (by omega) hi hhfit) pu (.inl rfl) rfl rfl ?_
      refine fs_call false 18 [8, 17] [] gy0 rfl (.cons (.pure pu) (.cons (.pure pu) (.nil))) (Con.cast (lcoll_ok (wayS S m i k P) (wayS (signD (seedL x (i : Nat)) m) m i k (path (kpubs x k) i)) (by rw [len_wayS hfit, len_wayS hhfit, hfit, hhfit]) (by rw [len_wayS hfit]; omega) (way_small hS hSl hP) (way_small (D32_signD _ _) hTl (D32_path _ _ _ (Nat.le_refl _)))) (congrArg A.b hcol)) pu (.inl rfl) rfl rfl ?_
      refine fs_end (by kernel_rfl) ?_
      refine s1 (y_p rfl) rfl ?_
      refine at_nil <| x_tn <| at_ret <| x_br <| x_tr ?_
      refine at_result (rs := [.tmp 10]) rfl (r_tmp rfl r_nil) rfl
end Go.Abs.D2
