/-
  Layer 2: walks of the digest functions. Conditions: each theorem says its own.
-/
import Derived.Test.YtjnbpinnjbdnpaaV6B
namespace Go.Abs.D2
open Go Go.Eng Go.Abs Go.Proofs 

set_option linter.unusedSimpArgs false in
set_option linter.unusedVariables false in
set_option maxHeartbeats 1000000 in
set_option maxRecDepth 10000 in
theorem vequal_ok (p q : List UInt8) (hn : p.length ≤ 1000) : Con Try.prog 42 [.fz p.length (p.map u8), .fz q.length (q.map u8)] (Ret (.b (p == q))) := by
  refine enter Try.func42 rfl Try.ntmps42 (by kernel_rfl) (Nat.le_of_ble_eq_true rfl) fun w0 X0 hI => ?_
  refine at_seq ?_
  refine at_region ?_
  refine s1 (y_p rfl) rfl <| ?_
  refine at_nil ?_
  refine x_tn ?_
  refine at_seq ?_
  refine at_seq ?_
  refine at_region ?_
  refine s1 (y_p rfl) rfl <| s1 (y_len Try.underlying51 rfl rfl rfl) rfl <| s1 (y_p rfl) rfl <| s1 (y_len Try.underlying51 rfl rfl rfl) rfl <| s1 (y_p rfl) rfl <| ?_
  refine at_nil ?_
  refine x_tn ?_
  refine at_cond rfl (fun hc10 => ?_) (fun hc10 => ?_)
  · have hl : p.length ≠ q.length := by intro h; simp [h] at hc10
    refine at_seq ?_
    refine at_region ?_
    refine s1 (y_p rfl) rfl <| ?_
    refine at_nil ?_
    refine x_tn ?_
    refine at_ret ?_
    refine x_tr ?_
    refine at_result (rs := [.tmp 4]) rfl (r_tmp rfl r_nil) ?_
    exact congrArg A.b (V6.beq_len hl).symm
  · have hl : p.length = q.length := by simp at hc10; omega
    refine at_skip ?_
    refine x_tn ?_
    refine at_seq ?_
    refine at_seq ?_
    refine at_region ?_
    refine s1 (y_p rfl) rfl <| s1 (y_len Try.underlying51 rfl rfl rfl) rfl <| s1 ((y_p rfl).v (v' := .i .i64 0) rfl) rfl <| ?_
    refine at_nil ?_
    refine x_tn ?_
    refine at_block ?_
    refine at_loop (ι := Nat) (fun i => [(1, .fz q.length (q.map u8)), (0, .fz p.length (p.map u8)), (11, .fz p.length (p.map u8)), (12, nV p.length), (13, nV i)]) (fun i => ⟨[]⟩) (fun i => i ≤ p.length ∧ p.take i = q.take i) (fun i => p.length - i) ?_ ?_
    · exact at_ex (0) (⟨Nat.zero_le _, rfl⟩) [] hI rfl rfl ⟨⟨_, rfl, .pure pu⟩, ⟨_, rfl, .pure pu⟩, ⟨_, rfl, .pure pu⟩, ⟨_, rfl, .pure pu⟩, ⟨_, rfl, .pure pu⟩, trivial⟩ trivial
    rintro i ⟨hi, hi2⟩
    refine at_seq ?_
    refine at_region ?_
    refine s1 (y_p rfl) rfl <| ?_
    refine at_nil ?_
    refine x_tn ?_
    refine at_seq ?_
    refine at_cond rfl (fun hc14 => ?_) (fun hc14 => ?_)
    · have h14 : i < p.length := by have := of_decide_eq_true hc14; omega
      refine at_skip ?_
      refine x_tn ?_
      refine at_seq ?_
      refine at_block ?_
      refine at_seq ?_
      refine at_region ?_
      refine s1 (y_p rfl) rfl <| s1 (y_p rfl) rfl <| ?_
      refine at_nil ?_
      refine x_tn ?_
      refine at_seq ?_
      refine at_draw_tail 8 hmix (by kernel_rfl) ?_
      refine t1 (y_p rfl) rfl <| t1 (y_p rfl) rfl <| t1 (y_ixf i Try.underlying51 ti5 rfl rfl rfl (by omega) rfl) rfl <| t1 (y_load ti5 rfl rfl (V6.getF (by omega))) rfl <| t1 (y_p rfl) rfl <| t1 (y_p rfl) rfl <| t1 (y_ixf i Try.underlying51 ti5 rfl rfl rfl (by omega) rfl) rfl <| t1 (y_load ti5 rfl rfl (V6.getF (by omega))) rfl <| ?_
      refine at_snil ?_
      refine s1 (y_p rfl) rfl <| ?_
      refine at_nil ?_
      refine x_tn ?_
      refine at_cond rfl (fun hc24 => ?_) (fun hc24 => ?_)
      · skip
        refine at_seq ?_
        refine at_region ?_
        refine s1 (y_p rfl) rfl <| ?_
        refine at_nil ?_
        refine x_tn ?_
        refine at_ret ?_
        refine x_br ?_
        refine x_tr ?_
        refine x_tr ?_
        refine x_br ?_
        refine x_tr ?_
        refine at_result (rs := [.tmp 4]) rfl (r_tmp rfl r_nil) ?_
        exact congrArg A.b (V6.beq_at hl h14 (by intro e; rw [e] at hc24; simp at hc24)).symm
      · skip
        refine at_skip ?_
        refine x_bn ?_
        refine x_tn ?_
        refine at_region ?_
        refine s1 (addN _ 1 rfl rfl rfl rfl (by omega)) rfl <| s1 (y_p rfl) rfl <| ?_
        refine at_nil ?_
        exact at_end (i + 1) (⟨by omega, V6.take_eq hl h14 hi2 (V6.byteI (by simpa using hc24))⟩) (by omega) [] hI rfl rfl ⟨⟨_, rfl, .pure pu⟩, ⟨_, rfl, .pure pu⟩, ⟨_, rfl, .pure pu⟩, ⟨_, rfl, .pure pu⟩, ⟨_, rfl, .pure pu⟩, trivial⟩ trivial
    · have h14 : i = p.length := by have := of_decide_eq_false hc14; omega
      subst h14
      refine at_exit ?_
      refine x_te ?_
      refine x_te ?_
      refine x_be ?_
      refine x_tn ?_
      refine at_seq ?_
      refine at_region ?_
      refine s1 (y_p rfl) rfl <| ?_
      refine at_nil ?_
      refine x_tn ?_
      refine at_ret ?_
      refine at_result (rs := [.tmp 4]) rfl (r_tmp rfl r_nil) ?_
      exact congrArg A.b (V6.beq_all hl hi2).symm

theorem vequalC_ok (m : Nat) (l : List UInt8) (h : l.length ≤ 1000) : Con Try.prog 42 [.fz l.length (l.map u8), .fz l.length ((V6.cut m l).map u8)] (Ret (.b (l == V6.cut m l))) := by
  have := vequal_ok l (V6.cut m l) h
  rwa [V6.len_cut] at this

set_option linter.unusedSimpArgs false in
set_option linter.unusedVariables false in
set_option maxHeartbeats 1000000 in
set_option maxRecDepth 10000 in
theorem vmasked_ok (many : Int) (l : List UInt8) : Con Try.prog 33 [.i .i64 many, .fz l.length (l.map u8)] (Ret (.b (V6.masked many l))) := by
  refine enter Try.func33 rfl Try.ntmps33 (by kernel_rfl) (Nat.le_of_ble_eq_true rfl) fun w0 X0 hI => ?_
  refine at_seq ?_
  refine at_region ?_
  refine s1 (y_p rfl) rfl <| ?_
  refine at_nil ?_
  refine x_tn ?_
  refine at_seq ?_
  rcases tfV (V6.sized many l.length) with hcs | hcs
  · skip
    refine at_region ?_
    refine s1 (y_p rfl) rfl <| s1 (y_p rfl) rfl <| ?_
    refine at_op rfl (n_call false rfl (.cons (.pure pu) (.cons (.pure pu) (.nil))) (Con.cast (vsized_ok many l) (congrArg A.b hcs)) pu (.inl rfl) rfl ?_)
    refine s1 (y_p rfl) rfl <| g0 rfl rfl rfl rfl <| g0 rfl rfl rfl rfl <| g0 rfl rfl rfl rfl <| g0 rfl rfl rfl rfl <| g0 rfl rfl rfl rfl <| s1 (y_p rfl) rfl <| s1 (y_p rfl) rfl <| ?_
    refine at_nil ?_
    refine x_tn ?_
    refine at_ret ?_
    refine at_result (rs := [.tmp 4]) rfl (r_tmp rfl r_nil) ?_
    exact congrArg A.b (V6.masked_no hcs).symm
  · have hsz := hcs
    obtain ⟨m, rfl, h1, h2, h3⟩ := V6.sized_spec hcs
    refine at_region ?_
    refine s1 (y_p rfl) rfl <| s1 (y_p rfl) rfl <| ?_
    refine at_op rfl (n_call false rfl (.cons (.pure pu) (.cons (.pure pu) (.nil))) (Con.cast (vsized_ok m l) (congrArg A.b hcs)) pu (.inl rfl) rfl ?_)
    refine s1 (y_p rfl) rfl <| g1 rfl rfl (y_p rfl) rfl <| g1 rfl rfl (y_p rfl) rfl <| g1 rfl rfl (y_p rfl) rfl <| ?_
    refine at_opg rfl rfl rfl (n_callO 12 rfl false rfl (.cons (.pure pu) (.cons (.pure pu) (.nil))) (vmaskOf_ok l m h3 h1 h2) pul (.inl rfl) rfl ?_)
    refine at_opg rfl rfl rfl (n_call true rfl (.cons (.pure pu) (.cons (.sl rfl rfl rfl (V6.cut_view m l) (VwL.pure pul) pul) .nil)) (vequalC_ok m l (by omega)) pu (.inr fu) rfl ?_)
    refine s1 (y_p rfl) rfl <| s1 (y_p rfl) rfl <| ?_
    refine at_nil ?_
    refine x_tn ?_
    refine at_ret ?_
    refine at_result (rs := [.tmp 4]) rfl (r_tmp rfl r_nil) ?_
    exact congrArg A.b (V6.masked_yes hsz).symm

set_option linter.unusedSimpArgs false in
set_option linter.unusedVariables false in
set_option maxHeartbeats 1000000 in
set_option maxRecDepth 10000 in
theorem vc1_ok (q : List UInt8) : Con Try.prog 31 [.fz q.length (q.map u8)] (Ret (.b (no16 q))) := by
  refine enter Try.func31 rfl Try.ntmps31 (by kernel_rfl) (Nat.le_of_ble_eq_true rfl) fun w0 X0 hI => ?_
  refine at_seq ?_
  refine at_region ?_
  refine s1 (y_p rfl) rfl <| ?_
  refine at_nil ?_
  refine x_tn ?_
  refine at_seq ?_
  refine at_region ?_
  refine s1 (y_p rfl) rfl <| s1 (y_len Try.underlying22 rfl rfl rfl) rfl <| s1 (y_p rfl) rfl <| s1 (y_p rfl) rfl <| ?_
  refine at_nil ?_
  refine x_tn ?_
  refine at_ret ?_
  refine at_result (rs := [.tmp 2]) rfl (r_tmp rfl r_nil) ?_
  exact congrArg A.b (V6.no16_b q)

set_option linter.unusedSimpArgs false in
set_option linter.unusedVariables false in
set_option maxHeartbeats 1000000 in
set_option maxRecDepth 10000 in
theorem vc2_ok (db : List (List UInt8)) (q : List UInt8) : Con Try.prog 32 [.fz q.length (q.map u8), .fp [.fz db.length (db.map V6.slV)]] (Ret (.b (unmasked db.length q))) := by
  refine enter Try.func32 rfl Try.ntmps32 (by kernel_rfl) (Nat.le_of_ble_eq_true rfl) fun w0 X0 hI => ?_
  refine at_seq ?_
  refine at_region ?_
  refine s1 (y_p rfl) rfl <| ?_
  refine at_nil ?_
  refine x_tn ?_
  refine at_seq ?_
  refine at_region ?_
  refine s1 (y_load ti30 rfl rfl rfl) rfl <| s1 (y_len Try.underlying30 rfl rfl rfl) rfl <| s1 (y_p rfl) rfl <| ?_
  refine at_op rfl (n_call false rfl (.cons (.pure pu) (.cons (.pure pu) (.nil))) (vmasked_ok (db.length : Nat) q) pu (.inl rfl) rfl ?_)
  refine s1 (y_p rfl) rfl <| s1 (y_p rfl) rfl <| ?_
  refine at_nil ?_
  refine x_tn ?_
  refine at_ret ?_
  refine at_result (rs := [.tmp 3]) rfl (r_tmp rfl r_nil) ?_
  rfl

set_option linter.unusedSimpArgs false in
set_option linter.unusedVariables false in
set_option maxHeartbeats 1000000 in
set_option maxRecDepth 10000 in
theorem vindex1_ok (l : List (List UInt8)) (hn : l.length ≤ 2000) : Con Try.prog 41 [.fz l.length (l.map V6.slV), .fn (.func 31) [] []] (Ret (.i .i64 (idxE no16 l))) := by
  refine enter Try.func41 rfl Try.ntmps41 (by kernel_rfl) (Nat.le_of_ble_eq_true rfl) fun w0 X0 hI => ?_
  refine at_seq ?_
  refine at_region ?_
  refine s1 ((y_p rfl).v (v' := .i .i64 0) rfl) rfl <| ?_
  refine at_nil ?_
  refine x_tn ?_
  refine at_seq ?_
  refine at_seq ?_
  refine at_region ?_
  refine s1 (y_p rfl) rfl <| s1 (y_len Try.underlying30 rfl rfl rfl) rfl <| s1 ((y_p rfl).v (v' := .i .i64 0) rfl) rfl <| ?_
  refine at_nil ?_
  refine x_tn ?_
  refine at_block ?_
  refine at_loop (ι := Nat) (fun i => [(0, .fz l.length (l.map V6.slV)), (1, .fn (.func 31) [] []), (7, nV l.length), (8, nV i)]) (fun i => ⟨[]⟩) (fun i => i ≤ l.length ∧ (l.take i).any no16 = false) (fun i => l.length - i) ?_ ?_
  · exact at_ex (0) (⟨Nat.zero_le _, rfl⟩) [] hI rfl rfl ⟨⟨_, rfl, .pure pu⟩, ⟨_, rfl, .pure pu⟩, ⟨_, rfl, .pure pu⟩, ⟨_, rfl, .pure pu⟩, trivial⟩ trivial
  rintro i ⟨hi, hi2⟩
  refine at_seq ?_
  refine at_region ?_
  refine s1 (y_p rfl) rfl <| ?_
  refine at_nil ?_
  refine x_tn ?_
  refine at_seq ?_
  refine at_cond rfl (fun hc9 => ?_) (fun hc9 => ?_)
  · have h9 : i < l.length := by have := of_decide_eq_true hc9; omega
    obtain ⟨q, hq⟩ : ∃ q, l[i]? = some q := ⟨_, List.getElem?_eq_getElem h9⟩
    refine at_skip ?_
    refine x_tn ?_
    refine at_seq ?_
    refine at_block ?_
    refine at_seq ?_
    refine at_region ?_
    refine s1 (y_p rfl) rfl <| s1 (y_p rfl) rfl <| ?_
    refine at_nil ?_
    refine x_tn ?_
    refine at_seq ?_
    refine at_region ?_
    refine s1 (y_p rfl) rfl <| s1 (y_p rfl) rfl <| s1 (y_p rfl) rfl <| s1 (y_ixf i Try.underlying30 ti22 rfl rfl rfl (by omega) rfl) rfl <| s1 (y_load ti22 rfl rfl (V6.getR hq)) rfl <| ?_
    refine at_op rfl (n_callv false rfl rfl (.cons (.pure pu) .nil) (vc1_ok q) pu (.inl rfl) rfl ?_)
    refine at_nil ?_
    refine x_tn ?_
    refine at_cond rfl (fun hc16 => ?_) (fun hc16 => ?_)
    · skip
      refine at_seq ?_
      refine at_region ?_
      refine s1 (y_p rfl) rfl <| s1 (y_p rfl) rfl <| ?_
      refine at_nil ?_
      refine x_tn ?_
      refine at_ret ?_
      refine x_br ?_
      refine x_tr ?_
      refine x_tr ?_
      refine x_br ?_
      refine x_tr ?_
      refine at_result (rs := [.tmp 4]) rfl (r_tmp rfl r_nil) ?_
      exact congrArg (A.i .i64) (idxE_at hq hi2 hc16).symm
    · skip
      refine at_skip ?_
      refine x_bn ?_
      refine x_tn ?_
      refine at_region ?_
      refine s1 (addN _ 1 rfl rfl rfl rfl (by omega)) rfl <| s1 (y_p rfl) rfl <| ?_
      refine at_nil ?_
      exact at_end (i + 1) (⟨by omega, take_any hq hi2 hc16⟩) (by omega) [] hI rfl rfl ⟨⟨_, rfl, .pure pu⟩, ⟨_, rfl, .pure pu⟩, ⟨_, rfl, .pure pu⟩, ⟨_, rfl, .pure pu⟩, trivial⟩ trivial
  · have h9 : i = l.length := by have := of_decide_eq_false hc9; omega
    subst h9
    refine at_exit ?_
    refine x_te ?_
    refine x_te ?_
    refine x_be ?_
    refine x_tn ?_
    refine at_seq ?_
    refine at_region ?_
    refine s1 ((y_p rfl).v (v' := .i .i64 (-1)) rfl) rfl <| ?_
    refine at_nil ?_
    refine x_tn ?_
    refine at_ret ?_
    refine at_result (rs := [.tmp 4]) rfl (r_tmp rfl r_nil) ?_
    exact congrArg (A.i .i64) (idxE_none hi2).symm

set_option linter.unusedSimpArgs false in
set_option linter.unusedVariables false in
set_option maxHeartbeats 1000000 in
set_option maxRecDepth 10000 in
theorem vcontains1_ok (l : List (List UInt8)) (hn : l.length ≤ 2000) : Con Try.prog 30 [.fz l.length (l.map V6.slV), .fn (.func 31) [] []] (Ret (.b (l.any no16))) := by
  refine enter Try.func30 rfl Try.ntmps30 (by kernel_rfl) (Nat.le_of_ble_eq_true rfl) fun w0 X0 hI => ?_
  refine at_seq ?_
  refine at_region ?_
  refine s1 (y_p rfl) rfl <| ?_
  refine at_nil ?_
  refine x_tn ?_
  refine at_seq ?_
  refine at_region ?_
  refine s1 (y_p rfl) rfl <| s1 (y_p rfl) rfl <| ?_
  refine at_op rfl (n_call false rfl (.cons (.pure pu) (.cons (.pure pu) .nil)) (vindex1_ok l hn) pu (.inl rfl) rfl ?_)
  refine s1 (y_p rfl) rfl <| s1 (y_p rfl) rfl <| ?_
  refine at_nil ?_
  refine x_tn ?_
  refine at_ret ?_
  refine at_result (rs := [.tmp 4]) rfl (r_tmp rfl r_nil) ?_
  exact congrArg A.b (idxE_ge ..)

set_option linter.unusedSimpArgs false in
set_option linter.unusedVariables false in
set_option maxHeartbeats 1000000 in
set_option maxRecDepth 10000 in
theorem vindex2_ok (db : List (List UInt8)) (l : List (List UInt8)) (hn : l.length ≤ 2000) : Con Try.prog 41 [.fz l.length (l.map V6.slV), .fn (.func 32) [] [.fp [.fz db.length (db.map V6.slV)]]] (Ret (.i .i64 (idxE (unmasked db.length) l))) := by
  refine enter Try.func41 rfl Try.ntmps41 (by kernel_rfl) (Nat.le_of_ble_eq_true rfl) fun w0 X0 hI => ?_
  refine at_seq ?_
  refine at_region ?_
  refine s1 ((y_p rfl).v (v' := .i .i64 0) rfl) rfl <| ?_
  refine at_nil ?_
  refine x_tn ?_
  refine at_seq ?_
  refine at_seq ?_
  refine at_region ?_
  refine s1 (y_p rfl) rfl <| s1 (y_len Try.underlying30 rfl rfl rfl) rfl <| s1 ((y_p rfl).v (v' := .i .i64 0) rfl) rfl <| ?_
  refine at_nil ?_
  refine x_tn ?_
  refine at_block ?_
  refine at_loop (ι := Nat) (fun i => [(0, .fz l.length (l.map V6.slV)), (1, .fn (.func 32) [] [.fp [.fz db.length (db.map V6.slV)]]), (7, nV l.length), (8, nV i)]) (fun i => ⟨[]⟩) (fun i => i ≤ l.length ∧ (l.take i).any (unmasked db.length) = false) (fun i => l.length - i) ?_ ?_
  · exact at_ex (0) (⟨Nat.zero_le _, rfl⟩) [] hI rfl rfl ⟨⟨_, rfl, .pure pu⟩, ⟨_, rfl, .pure pu⟩, ⟨_, rfl, .pure pu⟩, ⟨_, rfl, .pure pu⟩, trivial⟩ trivial
  rintro i ⟨hi, hi2⟩
  refine at_seq ?_
  refine at_region ?_
  refine s1 (y_p rfl) rfl <| ?_
  refine at_nil ?_
  refine x_tn ?_
  refine at_seq ?_
  refine at_cond rfl (fun hc9 => ?_) (fun hc9 => ?_)
  · have h9 : i < l.length := by have := of_decide_eq_true hc9; omega
    obtain ⟨q, hq⟩ : ∃ q, l[i]? = some q := ⟨_, List.getElem?_eq_getElem h9⟩
    refine at_skip ?_
    refine x_tn ?_
    refine at_seq ?_
    refine at_block ?_
    refine at_seq ?_
    refine at_region ?_
    refine s1 (y_p rfl) rfl <| s1 (y_p rfl) rfl <| ?_
    refine at_nil ?_
    refine x_tn ?_
    refine at_seq ?_
    refine at_region ?_
    refine s1 (y_p rfl) rfl <| s1 (y_p rfl) rfl <| s1 (y_p rfl) rfl <| s1 (y_ixf i Try.underlying30 ti22 rfl rfl rfl (by omega) rfl) rfl <| s1 (y_load ti22 rfl rfl (V6.getR hq)) rfl <| ?_
    refine at_op rfl (n_callv false rfl rfl (.cons (.pure pu) (.cons (.pure pu) .nil)) (vc2_ok db q) pu (.inl rfl) rfl ?_)
    refine at_nil ?_
    refine x_tn ?_
    refine at_cond rfl (fun hc16 => ?_) (fun hc16 => ?_)
    · skip
      refine at_seq ?_
      refine at_region ?_
      refine s1 (y_p rfl) rfl <| s1 (y_p rfl) rfl <| ?_
      refine at_nil ?_
      refine x_tn ?_
      refine at_ret ?_
      refine x_br ?_
      refine x_tr ?_
      refine x_tr ?_
      refine x_br ?_
      refine x_tr ?_
      refine at_result (rs := [.tmp 4]) rfl (r_tmp rfl r_nil) ?_
      exact congrArg (A.i .i64) (idxE_at hq hi2 hc16).symm
    · skip
      refine at_skip ?_
      refine x_bn ?_
      refine x_tn ?_
      refine at_region ?_
      refine s1 (addN _ 1 rfl rfl rfl rfl (by omega)) rfl <| s1 (y_p rfl) rfl <| ?_
      refine at_nil ?_
      exact at_end (i + 1) (⟨by omega, take_any hq hi2 hc16⟩) (by omega) [] hI rfl rfl ⟨⟨_, rfl, .pure pu⟩, ⟨_, rfl, .pure pu⟩, ⟨_, rfl, .pure pu⟩, ⟨_, rfl, .pure pu⟩, trivial⟩ trivial
  · have h9 : i = l.length := by have := of_decide_eq_false hc9; omega
    subst h9
    refine at_exit ?_
    refine x_te ?_
    refine x_te ?_
    refine x_be ?_
    refine x_tn ?_
    refine at_seq ?_
    refine at_region ?_
    refine s1 ((y_p rfl).v (v' := .i .i64 (-1)) rfl) rfl <| ?_
    refine at_nil ?_
    refine x_tn ?_
    refine at_ret ?_
    refine at_result (rs := [.tmp 4]) rfl (r_tmp rfl r_nil) ?_
    exact congrArg (A.i .i64) (idxE_none hi2).symm

set_option linter.unusedSimpArgs false in
set_option linter.unusedVariables false in
set_option maxHeartbeats 1000000 in
set_option maxRecDepth 10000 in
theorem vcontains2_ok (db : List (List UInt8)) (l : List (List UInt8)) (hn : l.length ≤ 2000) : Con Try.prog 30 [.fz l.length (l.map V6.slV), .fn (.func 32) [] [.fp [.fz db.length (db.map V6.slV)]]] (Ret (.b (l.any (unmasked db.length)))) := by
  refine enter Try.func30 rfl Try.ntmps30 (by kernel_rfl) (Nat.le_of_ble_eq_true rfl) fun w0 X0 hI => ?_
  refine at_seq ?_
  refine at_region ?_
  refine s1 (y_p rfl) rfl <| ?_
  refine at_nil ?_
  refine x_tn ?_
  refine at_seq ?_
  refine at_region ?_
  refine s1 (y_p rfl) rfl <| s1 (y_p rfl) rfl <| ?_
  refine at_op rfl (n_call false rfl (.cons (.pure pu) (.cons (.pure pu) .nil)) (vindex2_ok db l hn) pu (.inl rfl) rfl ?_)
  refine s1 (y_p rfl) rfl <| s1 (y_p rfl) rfl <| ?_
  refine at_nil ?_
  refine x_tn ?_
  refine at_ret ?_
  refine at_result (rs := [.tmp 4]) rfl (r_tmp rfl r_nil) ?_
  exact congrArg A.b (idxE_ge ..)

set_option linter.unusedSimpArgs false in
set_option linter.unusedVariables false in
set_option maxHeartbeats 1000000 in
set_option maxRecDepth 10000 in
theorem vanswer_ok (db ms : List (List UInt8)) : Con Try.prog 15 [.fz db.length (db.map V6.slV), .ag [.fz ms.length (ms.map V6.slV)]] (Ret (answersA db ms)) := by
  refine enter Try.func15 rfl Try.ntmps15 (by kernel_rfl) (Nat.le_of_ble_eq_true rfl) fun w0 X0 hI => ?_
  refine at_seq ?_
  refine at_region ?_
  refine at_op rfl (n_box1 2 rfl rfl rfl rfl ?_)
  refine at_op rfl (n_boxA 3 rfl rfl rfl ?_)
  refine at_op rfl (n_alloc 4 rfl ti35 rfl rfl ?_)
  refine s1 ((y_p rfl).v (v' := .i .i64 0) rfl) rfl <| ?_
  refine at_nil ?_
  refine x_tn ?_
  refine at_seq ?_
  refine at_seq ?_
  refine at_frzP 2 rfl rfl pul ?_
  refine at_frzP 3 rfl rfl pul ?_
  refine at_region ?_
  refine s1 (y_load ti30 rfl rfl rfl) rfl <| s1 (y_len Try.underlying30 rfl rfl rfl) rfl <| s1 (y_p rfl) rfl <| s1 (y_p rfl) rfl <| ?_
  refine g_or 3 rfl rfl rfl rfl (fun hb15 => .step (y_load ti30 rfl rfl rfl) rfl rfl <| .step (y_len Try.underlying30 rfl rfl rfl) rfl rfl <| .step (y_p rfl) rfl rfl <| .done) rfl rfl ?_
  refine s1 (y_p rfl) rfl <| ?_
  refine g_or 4 rfl rfl rfl rfl (fun hb20 => .step (y_fldf Try.underlying32 rfl ti30 (by decide) rfl rfl) rfl rfl <| .step (y_load ti30 rfl rfl rfl) rfl rfl <| .step (y_len Try.underlying30 rfl rfl rfl) rfl rfl <| .step (y_p rfl) rfl rfl <| .done) rfl rfl ?_
  refine at_nil ?_
  refine x_tn ?_
  refine at_cond rfl (fun hc25 => ?_) (fun hc25 => ?_)
  · have h25 : ¬ (1 ≤ db.length ∧ db.length ≤ 1024 ∧ ms.length ≤ 132) := by simp at hc25; omega
    refine at_seq ?_
    refine at_region ?_
    refine s1 (y_loadA0 ti35 rfl rfl (by first | rfl | omega | (simp; done) | (simp [*]; done) | (simp; omega) | (simp [*]; omega) | (simp [D32.len, -List.length_flatten, *]; done) | (simp [D32.len, -List.length_flatten, *]; omega))) rfl <| ?_
    refine at_op rfl (n_storeA ti35 rfl rfl rfl (by first | rfl | omega | (simp; done) | (simp [*]; done) | (simp; omega) | (simp [*]; omega) | (simp [D32.len, -List.length_flatten, *]; done) | (simp [D32.len, -List.length_flatten, *]; omega)) (by first | rfl | omega | (simp; done) | (simp [*]; done) | (simp; omega) | (simp [*]; omega) | (simp [D32.len, -List.length_flatten, *]; done) | (simp [D32.len, -List.length_flatten, *]; omega)) ?_)
    refine s1 ((y_p rfl).v (v' := .i .i64 360) rfl) rfl <| ?_
    refine at_nil ?_
    refine x_tn ?_
    refine at_ret ?_
    refine x_tr ?_
    refine at_result (rs := [.cell 4 35, .tmp 5]) rfl (r_cellA ti35 rfl rfl rfl rfl (r_tmp rfl r_nil)) ?_
    exact (answersA_no (ansOk_len h25)).symm
  · have h25 : 1 ≤ db.length ∧ db.length ≤ 1024 ∧ ms.length ≤ 132 := by simp at hc25; omega
    refine at_skip ?_
    refine x_tn ?_
    refine at_seq ?_
    refine at_seq ?_
    rcases (tfV (db.any no16)).symm with hcs | hcs
    · skip
      refine at_region ?_
      refine s1 (y_load ti30 rfl rfl rfl) rfl <| ?_
      refine at_op rfl (n_call false rfl (.cons (.pure pu) (.cons (.pure pu) .nil)) (Con.cast (vcontains1_ok db (by omega)) (congrArg A.b hcs)) pu (.inl rfl) rfl ?_)
      refine s1 (y_p rfl) rfl <| g0 rfl rfl rfl rfl <| g0 rfl rfl rfl rfl <| g0 rfl rfl rfl rfl <| g0 rfl rfl rfl rfl <| s1 (y_p rfl) rfl <| ?_
      refine at_nil ?_
      refine x_tn ?_
      refine at_then rfl ?_
      refine at_seq ?_
      refine at_region ?_
      refine s1 (y_loadA0 ti35 rfl rfl (by first | rfl | omega | (simp; done) | (simp [*]; done) | (simp; omega) | (simp [*]; omega) | (simp [D32.len, -List.length_flatten, *]; done) | (simp [D32.len, -List.length_flatten, *]; omega))) rfl <| ?_
      refine at_op rfl (n_storeA ti35 rfl rfl rfl (by first | rfl | omega | (simp; done) | (simp [*]; done) | (simp; omega) | (simp [*]; omega) | (simp [D32.len, -List.length_flatten, *]; done) | (simp [D32.len, -List.length_flatten, *]; omega)) (by first | rfl | omega | (simp; done) | (simp [*]; done) | (simp; omega) | (simp [*]; omega) | (simp [D32.len, -List.length_flatten, *]; done) | (simp [D32.len, -List.length_flatten, *]; omega)) ?_)
      refine s1 ((y_p rfl).v (v' := .i .i64 360) rfl) rfl <| ?_
      refine at_nil ?_
      refine x_tn ?_
      refine at_ret ?_
      refine x_tr ?_
      refine at_result (rs := [.cell 4 35, .tmp 5]) rfl (r_cellA ti35 rfl rfl rfl rfl (r_tmp rfl r_nil)) ?_
      exact (answersA_no (ansOk_db hcs)).symm
    · have hd1 := hcs
      refine at_region ?_
      refine s1 (y_load ti30 rfl rfl rfl) rfl <| ?_
      refine at_op rfl (n_call false rfl (.cons (.pure pu) (.cons (.pure pu) .nil)) (Con.cast (vcontains1_ok db (by omega)) (congrArg A.b hcs)) pu (.inl rfl) rfl ?_)
      refine s1 (y_p rfl) rfl <| g1 rfl rfl (y_fldf Try.underlying32 rfl ti30 (by decide) rfl rfl) rfl <| g1 rfl rfl (y_load ti30 rfl rfl rfl) rfl <| g1 rfl rfl (y_func (us := []) (vs := [.fp [.fz db.length (db.map V6.slV)]]) rfl rfl) rfl <| ?_
      refine at_opg rfl rfl rfl (n_call false rfl (.cons (.pure pu) (.cons (.pure pu) .nil)) (vcontains2_ok db ms (by omega)) pu (.inl rfl) rfl ?_)
      refine s1 (y_p rfl) rfl <| ?_
      refine at_nil ?_
      refine x_tn ?_
      refine at_cond rfl (fun hc34 => ?_) (fun hc34 => ?_)
      · skip
        refine at_seq ?_
        refine at_region ?_
        refine s1 (y_loadA0 ti35 rfl rfl (by first | rfl | omega | (simp; done) | (simp [*]; done) | (simp; omega) | (simp [*]; omega) | (simp [D32.len, -List.length_flatten, *]; done) | (simp [D32.len, -List.length_flatten, *]; omega))) rfl <| ?_
        refine at_op rfl (n_storeA ti35 rfl rfl rfl (by first | rfl | omega | (simp; done) | (simp [*]; done) | (simp; omega) | (simp [*]; omega) | (simp [D32.len, -List.length_flatten, *]; done) | (simp [D32.len, -List.length_flatten, *]; omega)) (by first | rfl | omega | (simp; done) | (simp [*]; done) | (simp; omega) | (simp [*]; omega) | (simp [D32.len, -List.length_flatten, *]; done) | (simp [D32.len, -List.length_flatten, *]; omega)) ?_)
        refine s1 ((y_p rfl).v (v' := .i .i64 360) rfl) rfl <| ?_
        refine at_nil ?_
        refine x_tn ?_
        refine at_ret ?_
        refine x_tr ?_
        refine at_result (rs := [.cell 4 35, .tmp 5]) rfl (r_cellA ti35 rfl rfl rfl rfl (r_tmp rfl r_nil)) ?_
        exact (answersA_no (ansOk_ms hc34)).symm
      · have hok := ansOk_yes h25 hd1 hc34
        obtain ⟨hdb, hms⟩ := ansOk_spec hok
        refine at_skip ?_
        refine x_tn ?_
        refine at_seq ?_
        refine at_seq ?_
        refine at_region ?_
        refine s1 (y_fldf Try.underlying32 rfl ti30 (by decide) rfl rfl) rfl <| s1 (y_load ti30 rfl rfl rfl) rfl <| s1 (y_len Try.underlying30 rfl rfl rfl) rfl <| s1 ((y_p rfl).v (v' := .i .i64 0) rfl) rfl <| ?_
        refine at_nil ?_
        refine x_tn ?_
        refine at_block ?_
        refine at_loop (ι := Nat) (fun j => [(2, .fp [.fz db.length (db.map V6.slV)]), (4, .p 4 0), (37, .fz ms.length (ms.map V6.slV)), (38, nV ms.length), (39, nV j)]) (fun j => ⟨[(4, some ([.sl 167 1 0 j])), (167, some (((ms.take j).map (V6.answer db)).map V6.slV))]⟩) (fun j => j ≤ ms.length) (fun j => ms.length - j) ?_ ?_
        · exact at_ex (0) (Nat.zero_le _) [(4, some 4), (167, none)] hI rfl rfl ⟨⟨_, rfl, .pure pu⟩, ⟨_, rfl, .p rfl⟩, ⟨_, rfl, .pure pu⟩, ⟨_, rfl, .pure pu⟩, ⟨_, rfl, .pure pu⟩, trivial⟩ ⟨.inr ⟨_, _, rfl, rfl, .cons (.nl rfl) .nil⟩, .inl ⟨rfl, rfl⟩, trivial⟩
        rintro j hj
        refine at_seq ?_
        refine at_region ?_
        refine s1 (y_p rfl) rfl <| ?_
        refine at_nil ?_
        refine x_tn ?_
        refine at_seq ?_
        refine at_cond rfl (fun hc40 => ?_) (fun hc40 => ?_)
        · have h40 : j < ms.length := by have := of_decide_eq_true hc40; omega
          obtain ⟨q, hq⟩ : ∃ q, ms[j]? = some q := ⟨_, List.getElem?_eq_getElem h40⟩
          have hqm := hms q (List.mem_of_getElem? hq)
          have hql := V6.masked_len hqm
          refine at_skip ?_
          refine x_tn ?_
          refine at_seq ?_
          refine at_block ?_
          refine at_seq ?_
          refine at_region ?_
          refine s1 (y_ixf j Try.underlying30 ti22 rfl rfl rfl (by omega) rfl) rfl <| s1 (y_load ti22 rfl rfl (V6.getR hq)) rfl <| s1 (y_p rfl) rfl <| ?_
          refine at_nil ?_
          refine x_tn ?_
          refine at_seq ?_
          refine at_region ?_
          refine s1 (y_p rfl) rfl <| ?_
          refine at_op rfl (n_alloc 8 rfl ti51 rfl rfl ?_)
          refine at_op rfl (n_store1 ti51 rfl rfl rfl rfl (by first | rfl | omega | (simp; done) | (simp [*]; done) | (simp; omega) | (simp [*]; omega) | (simp [D32.len, -List.length_flatten, *]; done) | (simp [D32.len, -List.length_flatten, *]; omega)) rfl ?_)
          refine at_nil ?_
          refine x_tn ?_
          refine at_seq ?_
          refine at_sayO 8 rfl (cs' := [V6.slV q]) rfl ?_
          refine at_frzP 8 rfl rfl pul ?_
          refine at_region ?_
          refine at_op rfl (n_make 44 rfl 16 16 Try.underlying22 ti5 rfl rfl rfl rfl rfl (by first | omega | (simp only [maxLen]; omega) | (simp [maxLen]; done) | (simp [maxLen]; omega) | (simp [maxLen, *]; omega)) (by first | omega | (simp only [maxLen]; omega) | (simp [maxLen]; done) | (simp [maxLen]; omega) | (simp [maxLen, *]; omega)) (by first | omega | (simp only [maxLen]; omega) | (simp [maxLen]; done) | (simp [maxLen]; omega) | (simp [maxLen, *]; omega)) rfl ?_)
          refine s1 (y_func (us := [.fp [V6.slV q]]) (vs := []) rfl rfl) rfl <| s1 (y_p rfl) rfl <| s1 (y_p rfl) rfl <| ?_
          refine at_nil ?_
          refine x_tn ?_
          refine at_seq ?_
          refine at_seq ?_
          refine at_region ?_
          refine s1 (y_load ti30 rfl rfl rfl) rfl <| s1 (y_len Try.underlying30 rfl rfl rfl) rfl <| s1 ((y_p rfl).v (v' := .i .i64 0) rfl) rfl <| ?_
          refine at_nil ?_
          refine x_tn ?_
          refine at_block ?_
          refine at_loop (ι := Nat) (fun k => [(2, .fp [.fz db.length (db.map V6.slV)]), (4, .p 4 0), (9, .sl 44 1 0 16), (10, .fn (.func 34) [.fp [V6.slV q]] []), (37, .fz ms.length (ms.map V6.slV)), (38, nV ms.length), (39, nV j), (47, nV db.length), (48, nV k)]) (fun k => ⟨[(4, some ([.sl 167 1 0 j])), (167, some (((ms.take j).map (V6.answer db)).map V6.slV)), (44, some ((V6.answerTo db q k).map u8))]⟩) (fun k => k ≤ db.length) (fun k => db.length - k) ?_ ?_
          · exact at_ex (0) (Nat.zero_le _) [(4, some 4), (44, some 44), (167, some 167)] hI rfl rfl ⟨⟨_, rfl, .pure pu⟩, ⟨_, rfl, .p rfl⟩, ⟨_, rfl, .sl rfl (by first | rfl | omega | (simp; done) | (simp [*]; done) | (simp; omega) | (simp [*]; omega) | (simp [D32.len, -List.length_flatten, *]; done) | (simp [D32.len, -List.length_flatten, *]; omega))⟩, ⟨_, rfl, .pure pu⟩, ⟨_, rfl, .pure pu⟩, ⟨_, rfl, .pure pu⟩, ⟨_, rfl, .pure pu⟩, ⟨_, rfl, .pure pu⟩, ⟨_, rfl, .pure pu⟩, trivial⟩ ⟨.inr ⟨_, _, rfl, rfl, .cons (.sl rfl rfl) .nil⟩, .inr ⟨_, _, rfl, rfl, .pure pul⟩, .inr ⟨_, _, rfl, rfl, .of (by rfl) (.pure pul)⟩, trivial⟩
          rintro k hk
          have hs16 := V6.len_answerTo hdb q k hk
          refine at_seq ?_
          refine at_region ?_
          refine s1 (y_p rfl) rfl <| ?_
          refine at_nil ?_
          refine x_tn ?_
          refine at_seq ?_
          refine at_cond rfl (fun hc49 => ?_) (fun hc49 => ?_)
          · have h49 : k < db.length := by have := of_decide_eq_true hc49; omega
            obtain ⟨d, hd⟩ : ∃ d, db[k]? = some d := ⟨_, List.getElem?_eq_getElem h49⟩
            have hd16 := hdb d (List.mem_of_getElem? hd)
            refine at_skip ?_
            refine x_tn ?_
            refine at_seq ?_
            refine at_block ?_
            refine at_seq ?_
            refine at_region ?_
            refine s1 (y_p rfl) rfl <| s1 (y_p rfl) rfl <| ?_
            refine at_nil ?_
            refine x_tn ?_
            refine at_seq ?_
            refine at_region ?_
            refine s1 (y_p rfl) rfl <| s1 (y_p rfl) rfl <| ?_
            refine at_op rfl (n_callv false rfl rfl (.cons (.pure pu) (.cons (.pure pu) .nil)) (vchooses_ok q k (by omega) (by omega)) pu (.inl rfl) rfl ?_)
            refine at_nil ?_
            refine x_tn ?_
            refine at_cond rfl (fun hc53 => ?_) (fun hc53 => ?_)
            · skip
              refine at_region ?_
              refine s1 (y_p rfl) rfl <| s1 (y_load ti30 rfl rfl rfl) rfl <| s1 (y_p rfl) rfl <| s1 (y_ixf k Try.underlying30 ti22 rfl rfl rfl (by omega) rfl) rfl <| s1 (y_load ti22 rfl rfl (V6.getR hd)) rfl <| ?_
              refine at_op rfl (n_bs1 59 rfl Try.underlying30 ti22 rfl rfl rfl rfl rfl ?_)
              refine at_op rfl (n_callGd ⟨[(44, some ((V6.answerTo db q k).map u8))]⟩ [(44, ([d].foldl V6.xorL (V6.answerTo db q k)).map u8)] true rfl ⟨⟨rfl, VwL.pure pul⟩, trivial⟩ (.cons (.ksl rfl) (.cons (.sl rfl rfl rfl rfl (VwL.pure pul) pul) .nil)) (vadd_44 (V6.answerTo db q k) [d] hs16 (by simpa using hd16) (by simp)) trivial (.inr trivial) (upd_1 (c0 := (V6.answerTo db q k).map u8) rfl pul ful) rfl ?_)
              refine at_nil ?_
              refine x_bn ?_
              refine x_tn ?_
              refine at_region ?_
              refine s1 (addN _ 1 rfl rfl rfl rfl (by omega)) rfl <| s1 (y_p rfl) rfl <| ?_
              refine at_nil ?_
              exact at_end (k + 1) (by omega) (by omega) [(4, some 4), (44, some 44), (167, some 167)] hI rfl rfl ⟨⟨_, rfl, .pure pu⟩, ⟨_, rfl, .p rfl⟩, ⟨_, rfl, .sl rfl (by first | rfl | omega | (simp; done) | (simp [*]; done) | (simp; omega) | (simp [*]; omega) | (simp [D32.len, -List.length_flatten, *]; done) | (simp [D32.len, -List.length_flatten, *]; omega))⟩, ⟨_, rfl, .pure pu⟩, ⟨_, rfl, .pure pu⟩, ⟨_, rfl, .pure pu⟩, ⟨_, rfl, .pure pu⟩, ⟨_, rfl, .pure pu⟩, ⟨_, rfl, .pure pu⟩, trivial⟩ ⟨.inr ⟨_, _, rfl, rfl, .cons (.sl rfl rfl) .nil⟩, .inr ⟨_, _, rfl, rfl, .pure pul⟩, .inr ⟨_, _, rfl, rfl, .of (V6.ans_yes hd hc53) (.pure pul)⟩, trivial⟩
            · skip
              refine at_skip ?_
              refine x_bn ?_
              refine x_tn ?_
              refine at_region ?_
              refine s1 (addN _ 1 rfl rfl rfl rfl (by omega)) rfl <| s1 (y_p rfl) rfl <| ?_
              refine at_nil ?_
              exact at_end (k + 1) (by omega) (by omega) [(4, some 4), (44, some 44), (167, some 167)] hI rfl rfl ⟨⟨_, rfl, .pure pu⟩, ⟨_, rfl, .p rfl⟩, ⟨_, rfl, .sl rfl (by first | rfl | omega | (simp; done) | (simp [*]; done) | (simp; omega) | (simp [*]; omega) | (simp [D32.len, -List.length_flatten, *]; done) | (simp [D32.len, -List.length_flatten, *]; omega))⟩, ⟨_, rfl, .pure pu⟩, ⟨_, rfl, .pure pu⟩, ⟨_, rfl, .pure pu⟩, ⟨_, rfl, .pure pu⟩, ⟨_, rfl, .pure pu⟩, ⟨_, rfl, .pure pu⟩, trivial⟩ ⟨.inr ⟨_, _, rfl, rfl, .cons (.sl rfl rfl) .nil⟩, .inr ⟨_, _, rfl, rfl, .pure pul⟩, .inr ⟨_, _, rfl, rfl, .of (V6.ans_no hc53) (.pure pul)⟩, trivial⟩
          · have h49 : k = db.length := by have := of_decide_eq_false hc49; omega
            subst h49
            refine at_exit ?_
            refine x_te ?_
            refine x_te ?_
            refine x_be ?_
            refine x_tn ?_
            have hs16 := V6.len_answerTo hdb q db.length (Nat.le_refl _)
            refine at_frz 9 rfl rfl pul (view_eq (by rw [List.length_map]; omega) rfl) ?_
            refine at_region ?_
            refine s1 (y_fld Try.underlying35 rfl ti30 (by decide) rfl rfl) rfl <| s1 (y_load ti30 rfl rfl rfl) rfl <| s1 ((y_p rfl).v (v' := V6.slV (V6.answer db q)) (answer_fz hdb q)) rfl <| ?_
            refine at_op rfl (n_bs1 65 rfl Try.underlying30 ti22 rfl rfl rfl rfl rfl ?_)
            refine at_op rfl (n_app 66 rfl Try.underlying30 ti22 rfl (.sl rfl (by rw [List.length_map, List.length_map, List.length_take]; omega)) rfl (SM_full rfl (by first | rfl | omega | (simp; done) | (simp [*]; done) | (simp; omega) | (simp [*]; omega) | (simp [D32.len, -List.length_flatten, *]; done) | (simp [D32.len, -List.length_flatten, *]; omega))) (by simp) (by simp only [maxLen]; omega) (by omega) rfl (V6.rows_next (V6.answer db) hq) rfl ?_)
            refine s1 (y_fld Try.underlying35 rfl ti30 (by decide) rfl rfl) rfl <| ?_
            refine at_op rfl (n_store1 ti30 rfl rfl rfl rfl (by first | rfl | omega | (simp; done) | (simp [*]; done) | (simp; omega) | (simp [*]; omega) | (simp [D32.len, -List.length_flatten, *]; done) | (simp [D32.len, -List.length_flatten, *]; omega)) rfl ?_)
            refine at_nil ?_
            refine x_bn ?_
            refine x_tn ?_
            refine at_region ?_
            refine s1 (addN _ 1 rfl rfl rfl rfl (by omega)) rfl <| s1 (y_p rfl) rfl <| ?_
            refine at_nil ?_
            exact at_end (j + 1) (by omega) (by omega) [(4, some 4), (167, some 66)] hI rfl rfl ⟨⟨_, rfl, .pure pu⟩, ⟨_, rfl, .p rfl⟩, ⟨_, rfl, .pure pu⟩, ⟨_, rfl, .pure pu⟩, ⟨_, rfl, .pure pu⟩, trivial⟩ ⟨.inr ⟨_, _, rfl, rfl, .cons (.sl rfl (by first | rfl | omega | (simp; done) | (simp [*]; done) | (simp; omega) | (simp [*]; omega) | (simp [D32.len, -List.length_flatten, *]; done) | (simp [D32.len, -List.length_flatten, *]; omega))) .nil⟩, .inr ⟨_, _, rfl, rfl, .pure pul⟩, trivial⟩
        · have h40 : j = ms.length := by have := of_decide_eq_false hc40; omega
          subst h40
          refine at_exit ?_
          refine x_te ?_
          refine x_te ?_
          refine x_be ?_
          refine x_tn ?_
          refine at_seq ?_
          refine at_frzO 4 0 rfl rfl rfl rfl pul (view_eq (by rw [List.length_map, List.length_map, List.take_length, Nat.mul_one]) rfl) rfl ?_
          refine at_region ?_
          refine s1 (y_loadA0 ti35 rfl rfl (by first | rfl | omega | (simp; done) | (simp [*]; done) | (simp; omega) | (simp [*]; omega) | (simp [D32.len, -List.length_flatten, *]; done) | (simp [D32.len, -List.length_flatten, *]; omega))) rfl <| ?_
          refine at_op rfl (n_storeA ti35 rfl rfl rfl (by first | rfl | omega | (simp; done) | (simp [*]; done) | (simp; omega) | (simp [*]; omega) | (simp [D32.len, -List.length_flatten, *]; done) | (simp [D32.len, -List.length_flatten, *]; omega)) (by first | rfl | omega | (simp; done) | (simp [*]; done) | (simp; omega) | (simp [*]; omega) | (simp [D32.len, -List.length_flatten, *]; done) | (simp [D32.len, -List.length_flatten, *]; omega)) ?_)
          refine s1 ((y_p rfl).v (v' := .i .i64 0) rfl) rfl <| ?_
          refine at_nil ?_
          refine x_tn ?_
          refine at_ret ?_
          refine at_result (rs := [.cell 4 35, .tmp 5]) rfl (r_cellA ti35 rfl rfl rfl rfl (r_tmp rfl r_nil)) ?_
          rw [answersA_yes hok, rowsV, List.length_map, List.take_length]; rfl

end Go.Abs.D2
