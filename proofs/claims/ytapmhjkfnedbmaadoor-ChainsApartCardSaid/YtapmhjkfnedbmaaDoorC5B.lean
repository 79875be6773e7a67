/-
  Layer 2: walks of the digest functions. Conditions: each theorem says its own.
-/
import Derived.Test.YtapmhjkfnedbmaaDoorD2G
import Derived.Test.YtapmhjkfnedbmaaDoorC5A
namespace Go.Abs.D2
open Go Go.Eng Go.Abs Go.Proofs 

set_option linter.unusedSimpArgs false in
set_option linter.unusedVariables false in
set_option maxHeartbeats 1000000 in
theorem elements_ok (x : List UInt8) (hx : x.length = 32) : Con Tryd.prog 38 [.ag (x.map u8)] (RetM (fun i => .fn (.func 44) [] [.p i 0]) (x.map u8)) := by
  refine enter Tryd.func38 rfl Tryd.ntmps38 (by kernel_rfl) (Nat.le_of_ble_eq_true rfl) fun w0 X0 hI => ?_
  refine at_seq ?_
  refine at_region ?_
  refine at_op rfl (n_boxA 1 rfl rfl rfl ?_)
  refine s1 (y_p rfl) rfl <| ?_
  refine at_nil ?_
  refine x_tn ?_
  refine at_seq ?_
  refine at_region ?_
  refine s1 (y_func (us := []) (vs := [.p 1 0]) rfl rfl) rfl <| s1 (y_p rfl) rfl <| ?_
  refine at_nil ?_
  refine x_tn ?_
  refine at_ret ?_
  refine at_result (rs := [.tmp 2]) rfl (r_tmp rfl r_nil) ⟨1, rfl, rfl⟩

set_option linter.unusedSimpArgs false in
set_option linter.unusedVariables false in
set_option maxHeartbeats 1000000 in
theorem after_ok (x : List UInt8) (n : Nat) (hx : x.length = 32) (hn : n ≤ 1000) : Con Tryd.prog 31 [.ag (x.map u8), .i .i64 (n : Nat)] (Ret (.ag ((iterD n x).map u8))) := by
  refine enterM Tryd.func31 rfl Tryd.ntmps31 (by kernel_rfl) (Nat.le_of_ble_eq_true rfl) fun w0 X0 hI hS => ?_
  refine at_seq ?_
  refine at_region ?_
  refine at_op rfl (n_boxA 2 rfl rfl rfl ?_)
  refine at_op rfl (n_box1 3 rfl rfl rfl rfl ?_)
  refine at_op rfl (n_alloc 4 rfl ti23 rfl rfl ?_)
  refine at_nil ?_
  refine x_tn ?_
  refine at_seq ?_
  refine at_seq ?_
  refine at_region ?_
  refine s1 (y_loadA0 ti23 rfl rfl (by first | rfl | omega | (simp; done) | (simp [*]; done) | (simp; omega) | (simp [*]; omega) | (simp [D32.len, -List.length_flatten, *]; done) | (simp [D32.len, -List.length_flatten, *]; omega))) rfl <| ?_
  refine at_op rfl (n_callM (mk := fun i => .fn (.func 44) [] [.p i 0]) oneB_fn 7 rfl false rfl (.cons (.pure pu) (.nil)) (elements_ok x hx) pul (.inl rfl) rfl ?_)
  refine at_nil ?_
  refine x_tn ?_
  refine at_block ?_
  refine at_range [2, 3, 4, 7] [(0, _), (1, _), (2, _), (3, _), (4, _), (6, _), (7, _)] hI rfl ⟨rfl, ⟨rfl, ⟨rfl, ⟨rfl, ⟨rfl, ⟨rfl, ⟨rfl, trivial⟩⟩⟩⟩⟩⟩⟩ (by first | rfl | (simp [onlyE, refsE, refs, refsL, refsL_pul, refs_pu, memN]; done)) rfl Tryd.func44 rfl Tryd.ntmps44 (by kernel_rfl) (Nat.le_of_ble_eq_true rfl) fun w1 l1 D1 rc1 hR1 => ?_
  refine at_block ?_
  refine at_loop (ι := Nat) (fun k => [(0, yv l1), (1, .p 7 0)]) (fun k => ⟨[(2, some (x.map u8)), (3, some ([.i .i64 ((n - k : Nat) : Int)])), (4, some (List.replicate 32 (u8 0))), (7, some (((iterD k x).map u8)))]⟩) (fun k => k ≤ n) (fun k => n - k) ?_ ?_
  · exact at_ex (0) (Nat.zero_le _) [(2, some 2), (3, some 3), (4, some 4), (7, some 7)] hR1.sub.ids rfl rfl ⟨⟨_, rfl, .pure trivial⟩, ⟨_, rfl, .p rfl⟩, trivial⟩ ⟨.inr ⟨_, _, rfl, rfl, .pure pul⟩, .inr ⟨_, _, rfl, rfl, .pure pul⟩, .inr ⟨_, _, rfl, rfl, .pure pul⟩, .inr ⟨_, _, rfl, rfl, .pure pul⟩, trivial⟩
  rintro k hk
  have hxk := len_iterD hx k
  refine at_seq ?_
  refine at_seq ?_
  refine at_region ?_
  refine s1 (y_p rfl) rfl <| s1 (y_loadA0 ti23 rfl rfl (by first | rfl | omega | (simp; done) | (simp [*]; done) | (simp; omega) | (simp [*]; omega) | (simp [D32.len, -List.length_flatten, *]; done) | (simp [D32.len, -List.length_flatten, *]; omega))) rfl <| ?_
  refine at_yield [2, 3, 4, 7] [(0, _), (1, _), (3, _), (4, _)] hR1 hR1.sub.ids rfl ⟨rfl, ⟨rfl, ⟨rfl, ⟨rfl, trivial⟩⟩⟩⟩ (by first | rfl | (simp [onlyE, refsE, refs, refsL, refsL_pul, refs_pu, memN]; done)) rfl rfl rfl rfl rfl fun w2 tm2 hd2 => ?_
  refine at_region ?_
  refine at_op rfl (n_alloc 5 rfl ti23 rfl rfl ?_)
  refine at_op rfl (n_storeA ti23 rfl rfl rfl (by first | rfl | omega | (simp; done) | (simp [*]; done) | (simp; omega) | (simp [*]; omega) | (simp [D32.len, -List.length_flatten, *]; done) | (simp [D32.len, -List.length_flatten, *]; omega)) (by first | rfl | omega | (simp; done) | (simp [*]; done) | (simp; omega) | (simp [*]; omega) | (simp [D32.len, -List.length_flatten, *]; done) | (simp [D32.len, -List.length_flatten, *]; omega)) ?_)
  refine at_nil ?_
  refine at_begin hd2 fun w3 hd3 => ?_
  refine at_block ?_
  refine at_seq ?_
  refine at_seq ?_
  refine at_region ?_
  refine s1 (y_load ti3 rfl rfl rfl) rfl <| s1 (y_p rfl) rfl <| ?_
  refine at_nil ?_
  refine x_tn ?_
  refine at_cond rfl (fun hc10 => ?_) (fun hc10 => ?_)
  · have h10 : k = n := by have := of_decide_eq_true hc10; omega
    subst h10
    refine at_seq ?_
    refine at_region ?_
    refine s1 (y_loadA0 ti23 rfl rfl (by first | rfl | omega | (simp; done) | (simp [*]; done) | (simp; omega) | (simp [*]; omega) | (simp [D32.len, -List.length_flatten, *]; done) | (simp [D32.len, -List.length_flatten, *]; omega))) rfl <| ?_
    refine at_op rfl (n_storeA ti23 rfl rfl rfl (by first | rfl | omega | (simp; done) | (simp [*]; done) | (simp; omega) | (simp [*]; omega) | (simp [D32.len, -List.length_flatten, *]; done) | (simp [D32.len, -List.length_flatten, *]; omega)) (by first | rfl | omega | (simp; done) | (simp [*]; done) | (simp; omega) | (simp [*]; omega) | (simp [D32.len, -List.length_flatten, *]; done) | (simp [D32.len, -List.length_flatten, *]; omega)) ?_)
    refine at_nil ?_
    refine x_tn ?_
    refine at_ret ?_
    refine x_tr ?_
    refine x_br ?_
    refine at_rret hR1 hd3 rfl fun w4 hR4 => ?_
    refine at_nil ?_
    refine x_tn ?_
    refine at_else rfl ?_
    refine at_exit ?_
    refine x_te ?_
    refine x_te ?_
    refine x_be ?_
    refine at_itnilJ rfl hR4 hS ?_
    refine at_ret ?_
    refine x_br ?_
    refine x_tr ?_
    refine at_resultM (rs := [.cell 4 23]) rfl rfl rfl hS rfl (by simp) rfl (r_cellA ti23 rfl rfl (List.take_of_length_le (by simp [hxk])) (by simp [hxk]) r_nil) rfl
  · have h10 : k < n := by have := of_decide_eq_false hc10; omega
    refine at_skip ?_
    refine x_tn ?_
    refine at_region ?_
    refine s1 (y_load ti3 rfl rfl rfl) rfl <| s1 (subN (n - k) 1 rfl rfl rfl rfl (by omega) (by omega)) rfl <| ?_
    refine at_op rfl (n_store1 ti3 rfl rfl rfl rfl (by first | rfl | omega | (simp; done) | (simp [*]; done) | (simp; omega) | (simp [*]; omega) | (simp [D32.len, -List.length_flatten, *]; done) | (simp [D32.len, -List.length_flatten, *]; omega)) rfl ?_)
    refine at_nil ?_
    refine x_bn ?_
    refine at_rend hR1 hd3 rfl ?_
    refine at_nil ?_
    refine x_tn ?_
    refine at_then rfl ?_
    refine at_skip ?_
    refine x_tn ?_
    refine at_block ?_
    refine at_region ?_
    refine s1 (y_cuta0 Tryd.underlying23 ti5 rfl rfl (by first | rfl | omega | (simp; done) | (simp [*]; done) | (simp; omega) | (simp [*]; omega) | (simp [D32.len, -List.length_flatten, *]; done) | (simp [D32.len, -List.length_flatten, *]; omega)) (by simp [maxLen])) rfl <| ?_
    refine at_op rfl (n_call true rfl (.cons (.pure pu) (.cons (.sl rfl rfl (by first | rfl | omega | (simp; done) | (simp [*]; done) | (simp; omega) | (simp [*]; omega) | (simp [D32.len, -List.length_flatten, *]; done) | (simp [D32.len, -List.length_flatten, *]; omega)) (view_eq (by first | rfl | omega | (simp; done) | (simp [*]; done) | (simp; omega) | (simp [*]; omega) | (simp [D32.len, -List.length_flatten, *]; done) | (simp [D32.len, -List.length_flatten, *]; omega)) (by first | rfl | (simp; done) | (simp [*]; done))) (VwL.pure pul) pul) (.nil))) (tagged_ok [115, 116, 101, 112] (iterD k x) (by omega) (by simp)) pu (.inr fu) rfl ?_)
    refine at_op rfl (n_storeA ti23 rfl rfl rfl (by first | rfl | omega | (simp; done) | (simp [*]; done) | (simp; omega) | (simp [*]; omega) | (simp [D32.len, -List.length_flatten, *]; done) | (simp [D32.len, -List.length_flatten, *]; omega)) (by first | rfl | omega | (simp; done) | (simp [*]; done) | (simp; omega) | (simp [*]; omega) | (simp [D32.len, -List.length_flatten, *]; done) | (simp [D32.len, -List.length_flatten, *]; omega)) ?_)
    refine at_nil ?_
    refine x_bn ?_
    exact at_end (k + 1) (by omega) (by omega) [(2, some 2), (3, some 3), (4, some 4), (7, some 7)] hR1.sub.ids rfl rfl ⟨⟨_, rfl, .pure trivial⟩, ⟨_, rfl, .p rfl⟩, trivial⟩ ⟨.inr ⟨_, _, rfl, rfl, .pure pul⟩, .inr ⟨_, _, rfl, rfl, .of (by rfl) (.pure pul)⟩, .inr ⟨_, _, rfl, rfl, .pure pul⟩, .inr ⟨_, _, rfl, rfl, .of (by rw [iterD, stepD_eq]) (.pure pul)⟩, trivial⟩

end Go.Abs.D2
