/-
  Layer 36: walks of the retrieval functions. Conditions: each theorem says its own.
-/
import Derived.Test.YtjnbpinnjbdnpaaR36E
namespace Go.Eng.R36
open Go Go.Eng Go.Proofs

theorem ask_e1 (w : World) (many : Int) (sa : SV) (at' : List Int) (batch : Int) (sc : SV) (rc : List SV) (coins : List (List UInt8)) (hat : Ints w sa at') (hc : Rows w 0 sc rc coins) (h : batch < 1) : Fn Try.prog 20 #[.int .i64 many, sa.v, .int .i64 batch, sc.v] w (fun v w' => PQ w w' v (ask many at' batch coins)) := by
  refine enter Try.func20 rfl Try.ntmps20 (by kernel_rfl) rfl ?_
  refine at_seq ?_
  refine at_region ?_
  refine at_op rfl (n_alloc ti32 rfl fun b8 hS8 hH8 => ?_)
  simp only [leAll, ltAll, and_true] at hS8 hH8
  refine at_op rfl (n_alloc ti32 rfl fun b9 hS9 hH9 => ?_)
  simp only [leAll, ltAll, and_true] at hS9 hH9
  refine s1 (y_p rfl) rfl <| ?_
  refine at_nil ?_
  refine x_tn ?_
  refine at_seq ?_
  refine at_seq ?_
  refine at_region ?_
  have hsan := hat.1
  have hscn := hc.n
  have hscl := hc.len
  have hma := Nat.le_trans hat.2.le hat.2.max
  have hmc := Nat.le_trans hc.sl.le hc.sl.max
  simp only [maxLen] at hma hmc
  refine s1 (y_p rfl) rfl <| s1 ((y_p rfl).v (v' := .bool true) (congrArg Value.bool (decide_eq_true (by omega)))) rfl <| s1 (y_p rfl) rfl <| g0 rfl rfl rfl rfl <| g0 rfl rfl rfl rfl <| s1 (y_p rfl) rfl <| s1 (y_p rfl) rfl <| g0 rfl rfl rfl rfl <| g0 rfl rfl rfl rfl <| g0 rfl rfl rfl rfl <| g0 rfl rfl rfl rfl <| s1 (y_p rfl) rfl <| ?_
  refine s1 (y_p rfl) rfl <| g0 rfl rfl rfl rfl <| g0 rfl rfl rfl rfl <| g0 rfl rfl rfl rfl <| g0 rfl rfl rfl rfl <| s1 (y_p rfl) rfl <| ?_
  refine at_nil ?_
  refine x_tn ?_
  refine at_then rfl ?_
  refine at_seq ?_
  refine at_mix 4 3 hmix (by kernel_rfl) (by kernel_rfl) ?_
  refine mq (y_ownagg (us := _) 1 ti32 rfl rfl rfl rfl) rfl rfl <| mq (y_ownagg (us := _) 0 ti32 rfl rfl rfl rfl) rfl rfl <| ?_
  refine mn rfl rfl (stw1 (us := [.slice none 0 0]) ti32 rfl rfl rfl rfl rfl rfl ?_)
  refine at_and (fun _ h => h) ?_
  refine mn rfl rfl (stw0 (us := [.slice none 0 0]) ti32 rfl rfl rfl rfl rfl rfl ?_)
  refine at_and (fun _ h => h) ?_
  refine mnil ?_
  refine s1 (y_p rfl) rfl <| ?_
  refine at_nil ?_
  refine x_tn ?_
  refine at_ret ?_
  refine x_tr ?_
  refine at_result (rs := [.cell 8 32, .cell 9 32, .tmp 10]) rfl (r_cello 1 ti32 rfl rfl rfl (r_cello 0 ti32 rfl rfl rfl (r_tmp rfl r_nil))) fun w1 hG1 => ?_
  rw [ask, if_pos (by omega)]; exact PQ.nil w w1 360 (hG1.below (.head _) (by simp; omega))

theorem ask_e2 (w : World) (many : Int) (sa : SV) (at' : List Int) (batch : Int) (sc : SV) (rc : List SV) (coins : List (List UInt8)) (hat : Ints w sa at') (hc : Rows w 0 sc rc coins) (_h0 : 1 ≤ batch) (h : 132 < batch) : Fn Try.prog 20 #[.int .i64 many, sa.v, .int .i64 batch, sc.v] w (fun v w' => PQ w w' v (ask many at' batch coins)) := by
  refine enter Try.func20 rfl Try.ntmps20 (by kernel_rfl) rfl ?_
  refine at_seq ?_
  refine at_region ?_
  refine at_op rfl (n_alloc ti32 rfl fun b8 hS8 hH8 => ?_)
  simp only [leAll, ltAll, and_true] at hS8 hH8
  refine at_op rfl (n_alloc ti32 rfl fun b9 hS9 hH9 => ?_)
  simp only [leAll, ltAll, and_true] at hS9 hH9
  refine s1 (y_p rfl) rfl <| ?_
  refine at_nil ?_
  refine x_tn ?_
  refine at_seq ?_
  refine at_seq ?_
  refine at_region ?_
  have hsan := hat.1
  have hscn := hc.n
  have hscl := hc.len
  have hma := Nat.le_trans hat.2.le hat.2.max
  have hmc := Nat.le_trans hc.sl.le hc.sl.max
  simp only [maxLen] at hma hmc
  refine s1 (y_p rfl) rfl <| s1 ((y_p rfl).v (v' := .bool false) (congrArg Value.bool (decide_eq_false (by omega)))) rfl <| s1 (y_p rfl) rfl <| g1 rfl rfl (y_p rfl) rfl <| g1 rfl rfl ((y_p rfl).v (v' := .bool true) (congrArg Value.bool (decide_eq_true (by omega)))) rfl <| s1 (y_p rfl) rfl <| s1 (y_p rfl) rfl <| g0 rfl rfl rfl rfl <| g0 rfl rfl rfl rfl <| g0 rfl rfl rfl rfl <| g0 rfl rfl rfl rfl <| s1 (y_p rfl) rfl <| ?_
  refine s1 (y_p rfl) rfl <| g0 rfl rfl rfl rfl <| g0 rfl rfl rfl rfl <| g0 rfl rfl rfl rfl <| g0 rfl rfl rfl rfl <| s1 (y_p rfl) rfl <| ?_
  refine at_nil ?_
  refine x_tn ?_
  refine at_then rfl ?_
  refine at_seq ?_
  refine at_mix 4 3 hmix (by kernel_rfl) (by kernel_rfl) ?_
  refine mq (y_ownagg (us := _) 1 ti32 rfl rfl rfl rfl) rfl rfl <| mq (y_ownagg (us := _) 0 ti32 rfl rfl rfl rfl) rfl rfl <| ?_
  refine mn rfl rfl (stw1 (us := [.slice none 0 0]) ti32 rfl rfl rfl rfl rfl rfl ?_)
  refine at_and (fun _ h => h) ?_
  refine mn rfl rfl (stw0 (us := [.slice none 0 0]) ti32 rfl rfl rfl rfl rfl rfl ?_)
  refine at_and (fun _ h => h) ?_
  refine mnil ?_
  refine s1 (y_p rfl) rfl <| ?_
  refine at_nil ?_
  refine x_tn ?_
  refine at_ret ?_
  refine x_tr ?_
  refine at_result (rs := [.cell 8 32, .cell 9 32, .tmp 10]) rfl (r_cello 1 ti32 rfl rfl rfl (r_cello 0 ti32 rfl rfl rfl (r_tmp rfl r_nil))) fun w1 hG1 => ?_
  rw [ask, if_pos (by omega)]; exact PQ.nil w w1 360 (hG1.below (.head _) (by simp; omega))

theorem ask_e3 (w : World) (many : Int) (sa : SV) (at' : List Int) (batch : Int) (sc : SV) (rc : List SV) (coins : List (List UInt8)) (hat : Ints w sa at') (hc : Rows w 0 sc rc coins) (h0 : 1 ≤ batch) (h1 : batch ≤ 132) (h : batch < at'.length) : Fn Try.prog 20 #[.int .i64 many, sa.v, .int .i64 batch, sc.v] w (fun v w' => PQ w w' v (ask many at' batch coins)) := by
  refine enter Try.func20 rfl Try.ntmps20 (by kernel_rfl) rfl ?_
  refine at_seq ?_
  refine at_region ?_
  refine at_op rfl (n_alloc ti32 rfl fun b8 hS8 hH8 => ?_)
  simp only [leAll, ltAll, and_true] at hS8 hH8
  refine at_op rfl (n_alloc ti32 rfl fun b9 hS9 hH9 => ?_)
  simp only [leAll, ltAll, and_true] at hS9 hH9
  refine s1 (y_p rfl) rfl <| ?_
  refine at_nil ?_
  refine x_tn ?_
  refine at_seq ?_
  refine at_seq ?_
  refine at_region ?_
  have hsan := hat.1
  have hscn := hc.n
  have hscl := hc.len
  have hma := Nat.le_trans hat.2.le hat.2.max
  have hmc := Nat.le_trans hc.sl.le hc.sl.max
  simp only [maxLen] at hma hmc
  refine s1 (y_p rfl) rfl <| s1 ((y_p rfl).v (v' := .bool false) (congrArg Value.bool (decide_eq_false (by omega)))) rfl <| s1 (y_p rfl) rfl <| g1 rfl rfl (y_p rfl) rfl <| g1 rfl rfl ((y_p rfl).v (v' := .bool false) (congrArg Value.bool (decide_eq_false (by omega)))) rfl <| s1 (y_p rfl) rfl <| s1 (y_p rfl) rfl <| g1 rfl rfl (y_p rfl) rfl <| g1 rfl rfl (y_len Try.underlying41 rfl rfl) rfl <| g1 rfl rfl (y_p rfl) rfl <| g1 rfl rfl ((y_p rfl).v (v' := .bool true) (congrArg Value.bool (decide_eq_true (by omega)))) rfl <| s1 (y_p rfl) rfl <| ?_
  refine s1 (y_p rfl) rfl <| g0 rfl rfl rfl rfl <| g0 rfl rfl rfl rfl <| g0 rfl rfl rfl rfl <| g0 rfl rfl rfl rfl <| s1 (y_p rfl) rfl <| ?_
  refine at_nil ?_
  refine x_tn ?_
  refine at_then rfl ?_
  refine at_seq ?_
  refine at_mix 4 3 hmix (by kernel_rfl) (by kernel_rfl) ?_
  refine mq (y_ownagg (us := _) 1 ti32 rfl rfl rfl rfl) rfl rfl <| mq (y_ownagg (us := _) 0 ti32 rfl rfl rfl rfl) rfl rfl <| ?_
  refine mn rfl rfl (stw1 (us := [.slice none 0 0]) ti32 rfl rfl rfl rfl rfl rfl ?_)
  refine at_and (fun _ h => h) ?_
  refine mn rfl rfl (stw0 (us := [.slice none 0 0]) ti32 rfl rfl rfl rfl rfl rfl ?_)
  refine at_and (fun _ h => h) ?_
  refine mnil ?_
  refine s1 (y_p rfl) rfl <| ?_
  refine at_nil ?_
  refine x_tn ?_
  refine at_ret ?_
  refine x_tr ?_
  refine at_result (rs := [.cell 8 32, .cell 9 32, .tmp 10]) rfl (r_cello 1 ti32 rfl rfl rfl (r_cello 0 ti32 rfl rfl rfl (r_tmp rfl r_nil))) fun w1 hG1 => ?_
  rw [ask, if_pos (by omega)]; exact PQ.nil w w1 360 (hG1.below (.head _) (by simp; omega))

theorem ask_e4 (w : World) (many : Int) (sa : SV) (at' : List Int) (batch : Int) (sc : SV) (rc : List SV) (coins : List (List UInt8)) (hat : Ints w sa at') (hc : Rows w 0 sc rc coins) (h0 : 1 ≤ batch) (h1 : batch ≤ 132) (h2 : at'.length ≤ batch) (h : (coins.length : Int) ≠ batch) : Fn Try.prog 20 #[.int .i64 many, sa.v, .int .i64 batch, sc.v] w (fun v w' => PQ w w' v (ask many at' batch coins)) := by
  refine enter Try.func20 rfl Try.ntmps20 (by kernel_rfl) rfl ?_
  refine at_seq ?_
  refine at_region ?_
  refine at_op rfl (n_alloc ti32 rfl fun b8 hS8 hH8 => ?_)
  simp only [leAll, ltAll, and_true] at hS8 hH8
  refine at_op rfl (n_alloc ti32 rfl fun b9 hS9 hH9 => ?_)
  simp only [leAll, ltAll, and_true] at hS9 hH9
  refine s1 (y_p rfl) rfl <| ?_
  refine at_nil ?_
  refine x_tn ?_
  refine at_seq ?_
  refine at_seq ?_
  refine at_region ?_
  have hsan := hat.1
  have hscn := hc.n
  have hscl := hc.len
  have hma := Nat.le_trans hat.2.le hat.2.max
  have hmc := Nat.le_trans hc.sl.le hc.sl.max
  simp only [maxLen] at hma hmc
  refine s1 (y_p rfl) rfl <| s1 ((y_p rfl).v (v' := .bool false) (congrArg Value.bool (decide_eq_false (by omega)))) rfl <| s1 (y_p rfl) rfl <| g1 rfl rfl (y_p rfl) rfl <| g1 rfl rfl ((y_p rfl).v (v' := .bool false) (congrArg Value.bool (decide_eq_false (by omega)))) rfl <| s1 (y_p rfl) rfl <| s1 (y_p rfl) rfl <| g1 rfl rfl (y_p rfl) rfl <| g1 rfl rfl (y_len Try.underlying41 rfl rfl) rfl <| g1 rfl rfl (y_p rfl) rfl <| g1 rfl rfl ((y_p rfl).v (v' := .bool false) (congrArg Value.bool (decide_eq_false (by omega)))) rfl <| s1 (y_p rfl) rfl <| ?_
  refine s1 (y_p rfl) rfl <| g1 rfl rfl (y_p rfl) rfl <| g1 rfl rfl (y_len Try.underlying30 rfl rfl) rfl <| g1 rfl rfl (y_p rfl) rfl <| g1 rfl rfl ((y_p rfl).v (v' := .bool true) (congrArg Value.bool (bne_iff_ne.2 (by omega)))) rfl <| s1 (y_p rfl) rfl <| ?_
  refine at_nil ?_
  refine x_tn ?_
  refine at_then rfl ?_
  refine at_seq ?_
  refine at_mix 4 3 hmix (by kernel_rfl) (by kernel_rfl) ?_
  refine mq (y_ownagg (us := _) 1 ti32 rfl rfl rfl rfl) rfl rfl <| mq (y_ownagg (us := _) 0 ti32 rfl rfl rfl rfl) rfl rfl <| ?_
  refine mn rfl rfl (stw1 (us := [.slice none 0 0]) ti32 rfl rfl rfl rfl rfl rfl ?_)
  refine at_and (fun _ h => h) ?_
  refine mn rfl rfl (stw0 (us := [.slice none 0 0]) ti32 rfl rfl rfl rfl rfl rfl ?_)
  refine at_and (fun _ h => h) ?_
  refine mnil ?_
  refine s1 (y_p rfl) rfl <| ?_
  refine at_nil ?_
  refine x_tn ?_
  refine at_ret ?_
  refine x_tr ?_
  refine at_result (rs := [.cell 8 32, .cell 9 32, .tmp 10]) rfl (r_cello 1 ti32 rfl rfl rfl (r_cello 0 ti32 rfl rfl rfl (r_tmp rfl r_nil))) fun w1 hG1 => ?_
  rw [ask, if_pos (by omega)]; exact PQ.nil w w1 360 (hG1.below (.head _) (by simp; omega))

theorem ask_in (w : World) (many : Int) (sa : SV) (at' : List Int) (sc : SV) (rc : List SV) (coins : List (List UInt8)) (hat : Ints w sa at') (hc : Rows w 0 sc rc coins) (h0 : 1 ≤ coins.length) (h1 : coins.length ≤ 132) (h2 : at'.length ≤ coins.length) : Fn Try.prog 20 #[.int .i64 many, sa.v, .int .i64 (coins.length : Nat), sc.v] w (fun v w' => PQ w w' v (ask many at' (coins.length : Nat) coins)) := by
  refine enter Try.func20 rfl Try.ntmps20 (by kernel_rfl) rfl ?_
  refine at_seq ?_
  refine at_region ?_
  refine at_op rfl (n_alloc ti32 rfl fun b8 hS8 hH8 => ?_)
  simp only [leAll, ltAll, and_true] at hS8 hH8
  refine at_op rfl (n_alloc ti32 rfl fun b9 hS9 hH9 => ?_)
  simp only [leAll, ltAll, and_true] at hS9 hH9
  refine s1 (y_p rfl) rfl <| ?_
  refine at_nil ?_
  refine x_tn ?_
  refine at_seq ?_
  refine at_seq ?_
  refine at_region ?_
  have hsan := hat.1
  have hscn := hc.n
  have hscl := hc.len
  have hma := Nat.le_trans hat.2.le hat.2.max
  have hmc := Nat.le_trans hc.sl.le hc.sl.max
  simp only [maxLen] at hma hmc
  refine s1 (y_p rfl) rfl <| s1 ((y_p rfl).v (v' := .bool false) (congrArg Value.bool (decide_eq_false (by omega)))) rfl <| s1 (y_p rfl) rfl <| g1 rfl rfl (y_p rfl) rfl <| g1 rfl rfl ((y_p rfl).v (v' := .bool false) (congrArg Value.bool (decide_eq_false (by omega)))) rfl <| s1 (y_p rfl) rfl <| s1 (y_p rfl) rfl <| g1 rfl rfl (y_p rfl) rfl <| g1 rfl rfl (y_len Try.underlying41 rfl rfl) rfl <| g1 rfl rfl (y_p rfl) rfl <| g1 rfl rfl ((y_p rfl).v (v' := .bool false) (congrArg Value.bool (decide_eq_false (by omega)))) rfl <| s1 (y_p rfl) rfl <| ?_
  refine s1 (y_p rfl) rfl <| g1 rfl rfl (y_p rfl) rfl <| g1 rfl rfl (y_len Try.underlying30 rfl rfl) rfl <| g1 rfl rfl (y_p rfl) rfl <| g1 rfl rfl ((y_p rfl).v (v' := .bool false) (congrArg Value.bool (bne_eq_false_iff_eq.2 (by omega)))) rfl <| s1 (y_p rfl) rfl <| ?_
  refine at_nil ?_
  refine x_tn ?_
  refine at_else rfl ?_
  refine at_skip ?_
  refine x_tn ?_
  refine at_seq ?_
  refine at_seq ?_
  refine at_region ?_
  refine s1 (y_p rfl) rfl <| s1 (y_p rfl) rfl <| ?_
  refine at_nil ?_
  refine x_tn ?_
  refine at_block ?_
  refine at_loop (ι := AskSt) (fun ⟨u, a1, c1, x1, r1, a2, c2, x2, r2, k⟩ => [(0, .int .i64 many), (1, sa.v), (2, .int .i64 (coins.length : Nat)), (3, sc.v), (8, .pointer (some ⟨b8, 0, none⟩)), (9, .pointer (some ⟨b9, 0, none⟩)), (36, .int .i64 (coins.length : Nat)), (37, .int .i64 (k : Nat))]) (fun ⟨u, a1, c1, x1, r1, a2, c2, x2, r2, k⟩ => [u, w]) (fun ⟨u, a1, c1, x1, r1, a2, c2, x2, r2, k⟩ => (b9, row 32 [.slice a2 k c2]) :: (b8, row 32 [.slice a1 k c1]) :: ((ownS 22 a1 x1 ++ (ownS 22 a2 x2 ++ [])))) (fun ⟨u, a1, c1, x1, r1, a2, c2, x2, r2, k⟩ => k ≤ coins.length ∧ (askTo many at' coins k).2.2 = 0 ∧ Fam ((b9, row 32 [.slice a2 k c2]) :: (b8, row 32 [.slice a1 k c1]) :: ((ownS 22 a1 x1 ++ (ownS 22 a2 x2 ++ [])))) u r1 (askTo many at' coins k).1 ∧ Fam ((b9, row 32 [.slice a2 k c2]) :: (b8, row 32 [.slice a1 k c1]) :: ((ownS 22 a1 x1 ++ (ownS 22 a2 x2 ++ [])))) u r2 (askTo many at' coins k).2.1 ∧ OS 1 a1 k c1 x1 (r1.map SV.v) ∧ OS 1 a2 k c2 x2 (r2.map SV.v) ∧ (∀ x, a1 = some x → w.heap.size ≤ x.block) ∧ (∀ x, a2 = some x → w.heap.size ≤ x.block)) (fun ⟨u, a1, c1, x1, r1, a2, c2, x2, r2, k⟩ => coins.length - k) ?_ ?_
  · refine at_exw fun u hG => ⟨⟨u, none, 0, [], [], none, 0, [], [], 0⟩, ⟨Nat.zero_le _, rfl, Fam.nil _ u, Fam.nil _ u, OS.nilv 1 [], OS.nilv 1 [], (fun x h => by cases h), (fun x h => by cases h)⟩, ⟨rfl, rfl, rfl, rfl, rfl, rfl, rfl, rfl, trivial⟩, hG.now⟩
  rintro ⟨u, a1, c1, x1, r1, a2, c2, x2, r2, k⟩ ⟨hk0, he0, hf1, hf2, ho1, ho2, hl1, hl2⟩
  dsimp only
  have old : ∀ (b : Nat) (p : Nat × Obj), b < w.heap.size → p ∈ ((b9, row 32 [.slice a2 k c2]) :: (b8, row 32 [.slice a1 k c1]) :: ((ownS 22 a1 x1 ++ (ownS 22 a2 x2 ++ []))) : List (Nat × Obj)) → p.1 ≠ b := by
    intro b p hlt hp e
    simp only [List.mem_cons, List.mem_append, List.not_mem_nil, or_false] at hp
    rcases hp with rfl | rfl | hp | hp
    · simp only at e; omega
    · simp only at e; omega
    · obtain ⟨x, hx, rfl⟩ := mem_ownS hp; have := hl1 x hx; simp only at e; omega
    · obtain ⟨x, hx, rfl⟩ := mem_ownS hp; have := hl2 x hx; simp only at e; omega
  refine at_seq ?_
  refine at_region ?_
  refine s1 (y_p rfl) rfl <| ?_
  refine at_nil ?_
  refine x_tn ?_
  refine at_seq ?_
  refine at_cond rfl (fun hc38 => ?_) (fun hc38 => ?_)
  · have hk : k < coins.length := by have := of_decide_eq_true hc38; omega
    obtain ⟨r, hr, hb⟩ := hc.get hk
    have hrn := hb.1
    refine at_skip ?_
    refine x_tn ?_
    refine at_seq ?_
    refine at_block ?_
    refine at_seq ?_
    refine at_region ?_
    refine s1 (y_p rfl) rfl <| s1 (y_p rfl) rfl <| ?_
    refine at_nil ?_
    refine x_tn ?_
    refine at_seq ?_
    refine at_region ?_
    refine s1 (y_p rfl) rfl <| ?_
    refine at_nil ?_
    refine x_tn ?_
    refine at_seq ?_
    refine at_seq ?_
    refine at_region ?_
    refine s1 (y_p rfl) rfl <| s1 (y_p rfl) rfl <| s1 (y_len Try.underlying41 rfl rfl) rfl <| s1 (y_p rfl) rfl <| ?_
    refine at_nil ?_
    refine x_tn ?_
    refine at_cond rfl (fun hc43 => ?_) (fun hc43 => ?_)
    · have hka : k < at'.length := by have := of_decide_eq_true hc43; omega
      have hcur : at'.getD k 0 = if k < at'.length then at'.getD k 0 else 0 := (if_pos hka).symm
      refine at_region ?_
      refine s1 (y_p rfl) rfl <| s1 (y_p rfl) rfl <| s1 (y_idx1 k Try.underlying41 ti3 rfl rfl rfl (by omega) (hat.2.addr (by omega))) rfl <| s1 (y_load ti3 rfl (fun w1 hG1 => hG1.cell (.tail _ (.head _)) (hat.at' hka) fun p hp => old _ p (World.block_lt_of_cell? _ _ (hat.at' hka)) hp)) rfl <| s1 (y_p rfl) rfl <| ?_
      refine at_nil ?_
      refine x_tn ?_
      refine at_seq ?_
      refine at_region ?_
      refine s1 (y_p rfl) rfl <| s1 (y_p rfl) rfl <| s1 (y_p rfl) rfl <| s1 (y_p rfl) rfl <| s1 (y_idx1 k Try.underlying30 ti22 rfl rfl rfl (by omega) (hc.sl.addr (by omega))) rfl <| s1 (y_load ti22 rfl (fun w1 hG1 => hG1.cell (.tail _ (.head _)) (hc.cell hr) fun p hp => old _ p (World.block_lt_of_cell? _ _ (hc.cell hr)) hp)) rfl <| ?_
      refine at_op rfl (n_call rfl rfl fun w55 hG55 => Fn.mono (masks_ok w55 many (at'.getD k 0) r (coins.getD k []) (hb.move fun hlt => (hG55.snap w (.tail _ (.head _))).blk _ hlt fun p hp => old _ p hlt hp)) ?_)
      rintro _ w55' ⟨sf, sg, rfl, hbf, hff, hbg, hfg, hB55⟩
      have k1 := hf1.step (hG55.call hB55) (.tail _ (.head _)) (Ks.refl _ _)
      have k2 := hf2.step (hG55.call hB55) (.tail _ (.head _)) (Ks.refl _ _)
      have l1 := k1.fresh hG55 hbf hff
      have l2 := k2.fresh hG55 hbg hfg
      refine at_in (hG55.call hB55) ?_
      refine s1 (y_p rfl) rfl <| s1 (y_p rfl) rfl <| s1 (y_p rfl) rfl <| s1 (y_p rfl) rfl <| s1 (y_p rfl) rfl <| s1 (y_p rfl) rfl <| s1 (y_p rfl) rfl <| ?_
      refine at_nil ?_
      refine x_tn ?_
      refine at_seq ?_
      refine at_seq ?_
      refine at_region ?_
      refine s1 (y_p rfl) rfl <| s1 (y_p rfl) rfl <| ?_
      refine at_nil ?_
      refine x_tn ?_
      refine at_cond rfl (fun hc60 => ?_) (fun hc60 => ?_)
      · have hez := bne_iff_ne.1 hc60
        refine at_seq ?_
        refine at_region ?_
        refine s1 (y_build0 ti32 Try.underlying32 rfl) rfl <| s1 (y_build0 ti32 Try.underlying32 rfl) rfl <| s1 (y_p rfl) rfl <| ?_
        refine at_op rfl (stw1 (us := [.slice none 0 0]) ti32 rfl rfl rfl rfl rfl rfl ?_)
        refine at_op rfl (stw0 (us := [.slice none 0 0]) ti32 rfl rfl rfl rfl rfl rfl ?_)
        refine s1 (y_p rfl) rfl <| ?_
        refine at_nil ?_
        refine x_tn ?_
        refine at_ret ?_
        refine x_tr ?_
        refine x_br ?_
        refine x_tr ?_
        refine x_tr ?_
        refine x_br ?_
        refine x_tr ?_
        refine at_result (rs := [.cell 8 32, .cell 9 32, .tmp 10]) rfl (r_cello 1 ti32 rfl rfl rfl (r_cello 0 ti32 rfl rfl rfl (r_tmp rfl r_nil))) fun w1 hG1 => ?_
        rw [ask_err hk (by omega) (by omega) (by omega) he0 hcur hez]
        exact PQ.nil w w1 _ (hG1.below (.tail _ (.tail _ (.head _))) (by
          intro p hp
          simp only [List.mem_cons, List.mem_append, List.not_mem_nil, or_false] at hp
          rcases hp with rfl | rfl | hp | hp
          · simp only; omega
          · simp only; omega
          · obtain ⟨x, hx, rfl⟩ := mem_ownS hp; exact hl1 x hx
          · obtain ⟨x, hx, rfl⟩ := mem_ownS hp; exact hl2 x hx))
      · have hez := bne_eq_false_iff_eq.1 hc60
        have hlm : r1.length = k := by have := ho1.len; simp at this; exact this
        refine at_skip ?_
        refine x_tn ?_
        refine at_seq ?_
        refine at_region ?_
        refine s1 (y_fld Try.underlying32 rfl ti30 (by decide) rfl rfl) rfl <| s1 (y_own 1 ti30 rfl rfl rfl) rfl <| s1 (y_p rfl) rfl <| ?_
        refine at_op rfl (n_bs1 [_] Try.underlying30 ti22 rfl rfl rfl rfl rfl rfl fun b67 hS67 hH67 => ?_)
        simp only [leAll, ltAll, and_true] at hS67 hH67
        refine at_op rfl (n_app [_, _, _] (ownS 22 a2 x2 ++ []) [w] (cells := x1) (xs := r1.map SV.v) Try.underlying30 ti22 rfl rfl rfl ho1 ?_ (fun w1 hG1 => hG1.lit1 0 rfl) (by simp [Value.oneCell', SV.v]) ?_ ?_ rfl rfl fun wA hGA a1' c1' x1' hOS1 hn1 => ?_)
        · intro s hs; simp only [List.mem_singleton] at hs; subst hs; exact ⟨by simp, hl1⟩
        · simp only [maxLen]; omega
        · omega
        have m1 := l1.step hGA (.head _) (Ks.new hS67.1 (Ks.refl _ _))
        have m2 := l2.step hGA (.head _) (Ks.new hS67.1 (Ks.refl _ _))
        have hsA := (hGA.snap w (by simp)).size
        refine s1 (y_fld Try.underlying32 rfl ti30 (by decide) rfl rfl) rfl <| ?_
        refine at_op rfl (stv2 ti30 rfl rfl rfl ?_)
        refine at_nil ?_
        refine x_tn ?_
        refine at_region ?_
        refine s1 (y_fld Try.underlying32 rfl ti30 (by decide) rfl rfl) rfl <| s1 (y_own 1 ti30 rfl rfl rfl) rfl <| s1 (y_p rfl) rfl <| ?_
        refine at_op rfl (n_bs1 [_] Try.underlying30 ti22 rfl rfl rfl rfl rfl rfl fun b73 hS73 hH73 => ?_)
        simp only [leAll, ltAll, and_true] at hS73 hH73
        refine at_op rfl (n_app ([_, _, _, _] ++ ownS 22 a1' x1') [] [w] (cells := x2) (xs := r2.map SV.v) Try.underlying30 ti22 rfl rfl rfl ho2 ?_ (fun w1 hG1 => hG1.lit1 0 rfl) (by simp [Value.oneCell', SV.v]) ?_ ?_ rfl rfl fun wB hGB a2' c2' x2' hOS2 hn2 => ?_)
        · intro s hs; simp only [List.mem_singleton] at hs; subst hs; exact ⟨by simp, hl2⟩
        · simp only [maxLen]; omega
        · omega
        have n1 := m1.step hGB (.head _) (Ks.new hS73.1 (.cons (.cons (.cons (Ks.own hn1 (Nat.le_refl _) (Ks.refl _ _))))))
        have n2 := m2.step hGB (.head _) (Ks.new hS73.1 (.cons (.cons (.cons (Ks.own hn1 (Nat.le_refl _) (Ks.refl _ _))))))
        have hsB := (hGB.snap w (by simp)).size
        refine s1 (y_fld Try.underlying32 rfl ti30 (by decide) rfl rfl) rfl <| ?_
        refine at_op rfl (stv2 ti30 rfl rfl rfl ?_)
        refine at_nil ?_
        refine x_bn ?_
        refine x_tn ?_
        refine at_region ?_
        refine s1 (addN k 1 rfl rfl rfl rfl (by omega)) rfl <| s1 (y_p rfl) rfl <| ?_
        refine at_nil ?_
        refine at_endw (x := (⟨u, a1, c1, x1, r1, a2, c2, x2, r2, k⟩ : AskSt)) fun w3 hG3 => ?_
        have q1 := n1.step hG3 (.head _) (.cons (.cons (.cons (.cons (Ks.keep (Ks.own hn2 (Nat.le_refl _) .nil))))))
        have q2 := n2.step hG3 (.head _) (.cons (.cons (.cons (.cons (Ks.keep (Ks.own hn2 (Nat.le_refl _) .nil))))))
        have hG4 : Good [w] ((b9, row 32 [.slice a2' (k + 1) c2']) :: (b8, row 32 [.slice a1' (k + 1) c1']) :: ((ownS 22 a1' x1' ++ (ownS 22 a2' x2' ++ [])))) w3 := Good.forget hG3 (by simp) (.cons _ (.cons _ (List.Sublist.refl _))) (by
          intro s hs p hp hnp
          simp only [List.mem_singleton] at hs; subst hs
          rcases List.mem_cons.1 hp with rfl | hp
          · exact hS73.2
          · rcases List.mem_cons.1 hp with rfl | hp
            · exact hS67.2.2
            · exact absurd hp hnp)
        have q3 := q1.sub (H' := (b9, row 32 [.slice a2' (k + 1) c2']) :: (b8, row 32 [.slice a1' (k + 1) c1']) :: ((ownS 22 a1' x1' ++ (ownS 22 a2' x2' ++ [])))) (.cons _ (.cons _ (List.Sublist.refl _)))
        have q4 := q2.sub (H' := (b9, row 32 [.slice a2' (k + 1) c2']) :: (b8, row 32 [.slice a1' (k + 1) c1']) :: ((ownS 22 a1' x1' ++ (ownS 22 a2' x2' ++ [])))) (.cons _ (.cons _ (List.Sublist.refl _)))
        have hnx := askTo_next he0 hcur hez
        exact ⟨⟨w3, a1', c1', x1', r1 ++ [sf], a2', c2', x2', r2 ++ [sg], k + 1⟩, ⟨hk, by rw [hnx], by rw [hnx]; exact q3, by rw [hnx]; exact q4, by rw [List.map_append]; exact hOS1, by rw [List.map_append]; exact hOS2, app_lo hn1 hl1 hsA, app_lo hn2 hl2 hsB⟩, (show coins.length - (k + 1) < coins.length - k by omega), ⟨rfl, rfl, rfl, rfl, rfl, rfl, rfl, rfl, trivial⟩, hG4.now⟩
    · have hcur : (0 : Int) = if k < at'.length then at'.getD k 0 else 0 := (if_neg (by have := of_decide_eq_false hc43; omega)).symm
      refine at_skip ?_
      refine x_tn ?_
      refine at_seq ?_
      refine at_region ?_
      refine s1 (y_p rfl) rfl <| s1 (y_p rfl) rfl <| s1 (y_p rfl) rfl <| s1 (y_p rfl) rfl <| s1 (y_idx1 k Try.underlying30 ti22 rfl rfl rfl (by omega) (hc.sl.addr (by omega))) rfl <| s1 (y_load ti22 rfl (fun w1 hG1 => hG1.cell (.tail _ (.head _)) (hc.cell hr) fun p hp => old _ p (World.block_lt_of_cell? _ _ (hc.cell hr)) hp)) rfl <| ?_
      refine at_op rfl (n_call rfl rfl fun w55 hG55 => Fn.mono (masks_ok w55 many 0 r (coins.getD k []) (hb.move fun hlt => (hG55.snap w (.tail _ (.head _))).blk _ hlt fun p hp => old _ p hlt hp)) ?_)
      rintro _ w55' ⟨sf, sg, rfl, hbf, hff, hbg, hfg, hB55⟩
      have k1 := hf1.step (hG55.call hB55) (.tail _ (.head _)) (Ks.refl _ _)
      have k2 := hf2.step (hG55.call hB55) (.tail _ (.head _)) (Ks.refl _ _)
      have l1 := k1.fresh hG55 hbf hff
      have l2 := k2.fresh hG55 hbg hfg
      refine at_in (hG55.call hB55) ?_
      refine s1 (y_p rfl) rfl <| s1 (y_p rfl) rfl <| s1 (y_p rfl) rfl <| s1 (y_p rfl) rfl <| s1 (y_p rfl) rfl <| s1 (y_p rfl) rfl <| s1 (y_p rfl) rfl <| ?_
      refine at_nil ?_
      refine x_tn ?_
      refine at_seq ?_
      refine at_seq ?_
      refine at_region ?_
      refine s1 (y_p rfl) rfl <| s1 (y_p rfl) rfl <| ?_
      refine at_nil ?_
      refine x_tn ?_
      refine at_cond rfl (fun hc60 => ?_) (fun hc60 => ?_)
      · have hez := bne_iff_ne.1 hc60
        refine at_seq ?_
        refine at_region ?_
        refine s1 (y_build0 ti32 Try.underlying32 rfl) rfl <| s1 (y_build0 ti32 Try.underlying32 rfl) rfl <| s1 (y_p rfl) rfl <| ?_
        refine at_op rfl (stw1 (us := [.slice none 0 0]) ti32 rfl rfl rfl rfl rfl rfl ?_)
        refine at_op rfl (stw0 (us := [.slice none 0 0]) ti32 rfl rfl rfl rfl rfl rfl ?_)
        refine s1 (y_p rfl) rfl <| ?_
        refine at_nil ?_
        refine x_tn ?_
        refine at_ret ?_
        refine x_tr ?_
        refine x_br ?_
        refine x_tr ?_
        refine x_tr ?_
        refine x_br ?_
        refine x_tr ?_
        refine at_result (rs := [.cell 8 32, .cell 9 32, .tmp 10]) rfl (r_cello 1 ti32 rfl rfl rfl (r_cello 0 ti32 rfl rfl rfl (r_tmp rfl r_nil))) fun w1 hG1 => ?_
        rw [ask_err hk (by omega) (by omega) (by omega) he0 hcur hez]
        exact PQ.nil w w1 _ (hG1.below (.tail _ (.tail _ (.head _))) (by
          intro p hp
          simp only [List.mem_cons, List.mem_append, List.not_mem_nil, or_false] at hp
          rcases hp with rfl | rfl | hp | hp
          · simp only; omega
          · simp only; omega
          · obtain ⟨x, hx, rfl⟩ := mem_ownS hp; exact hl1 x hx
          · obtain ⟨x, hx, rfl⟩ := mem_ownS hp; exact hl2 x hx))
      · have hez := bne_eq_false_iff_eq.1 hc60
        have hlm : r1.length = k := by have := ho1.len; simp at this; exact this
        refine at_skip ?_
        refine x_tn ?_
        refine at_seq ?_
        refine at_region ?_
        refine s1 (y_fld Try.underlying32 rfl ti30 (by decide) rfl rfl) rfl <| s1 (y_own 1 ti30 rfl rfl rfl) rfl <| s1 (y_p rfl) rfl <| ?_
        refine at_op rfl (n_bs1 [_] Try.underlying30 ti22 rfl rfl rfl rfl rfl rfl fun b67 hS67 hH67 => ?_)
        simp only [leAll, ltAll, and_true] at hS67 hH67
        refine at_op rfl (n_app [_, _, _] (ownS 22 a2 x2 ++ []) [w] (cells := x1) (xs := r1.map SV.v) Try.underlying30 ti22 rfl rfl rfl ho1 ?_ (fun w1 hG1 => hG1.lit1 0 rfl) (by simp [Value.oneCell', SV.v]) ?_ ?_ rfl rfl fun wA hGA a1' c1' x1' hOS1 hn1 => ?_)
        · intro s hs; simp only [List.mem_singleton] at hs; subst hs; exact ⟨by simp, hl1⟩
        · simp only [maxLen]; omega
        · omega
        have m1 := l1.step hGA (.head _) (Ks.new hS67.1 (Ks.refl _ _))
        have m2 := l2.step hGA (.head _) (Ks.new hS67.1 (Ks.refl _ _))
        have hsA := (hGA.snap w (by simp)).size
        refine s1 (y_fld Try.underlying32 rfl ti30 (by decide) rfl rfl) rfl <| ?_
        refine at_op rfl (stv2 ti30 rfl rfl rfl ?_)
        refine at_nil ?_
        refine x_tn ?_
        refine at_region ?_
        refine s1 (y_fld Try.underlying32 rfl ti30 (by decide) rfl rfl) rfl <| s1 (y_own 1 ti30 rfl rfl rfl) rfl <| s1 (y_p rfl) rfl <| ?_
        refine at_op rfl (n_bs1 [_] Try.underlying30 ti22 rfl rfl rfl rfl rfl rfl fun b73 hS73 hH73 => ?_)
        simp only [leAll, ltAll, and_true] at hS73 hH73
        refine at_op rfl (n_app ([_, _, _, _] ++ ownS 22 a1' x1') [] [w] (cells := x2) (xs := r2.map SV.v) Try.underlying30 ti22 rfl rfl rfl ho2 ?_ (fun w1 hG1 => hG1.lit1 0 rfl) (by simp [Value.oneCell', SV.v]) ?_ ?_ rfl rfl fun wB hGB a2' c2' x2' hOS2 hn2 => ?_)
        · intro s hs; simp only [List.mem_singleton] at hs; subst hs; exact ⟨by simp, hl2⟩
        · simp only [maxLen]; omega
        · omega
        have n1 := m1.step hGB (.head _) (Ks.new hS73.1 (.cons (.cons (.cons (Ks.own hn1 (Nat.le_refl _) (Ks.refl _ _))))))
        have n2 := m2.step hGB (.head _) (Ks.new hS73.1 (.cons (.cons (.cons (Ks.own hn1 (Nat.le_refl _) (Ks.refl _ _))))))
        have hsB := (hGB.snap w (by simp)).size
        refine s1 (y_fld Try.underlying32 rfl ti30 (by decide) rfl rfl) rfl <| ?_
        refine at_op rfl (stv2 ti30 rfl rfl rfl ?_)
        refine at_nil ?_
        refine x_bn ?_
        refine x_tn ?_
        refine at_region ?_
        refine s1 (addN k 1 rfl rfl rfl rfl (by omega)) rfl <| s1 (y_p rfl) rfl <| ?_
        refine at_nil ?_
        refine at_endw (x := (⟨u, a1, c1, x1, r1, a2, c2, x2, r2, k⟩ : AskSt)) fun w3 hG3 => ?_
        have q1 := n1.step hG3 (.head _) (.cons (.cons (.cons (.cons (Ks.keep (Ks.own hn2 (Nat.le_refl _) .nil))))))
        have q2 := n2.step hG3 (.head _) (.cons (.cons (.cons (.cons (Ks.keep (Ks.own hn2 (Nat.le_refl _) .nil))))))
        have hG4 : Good [w] ((b9, row 32 [.slice a2' (k + 1) c2']) :: (b8, row 32 [.slice a1' (k + 1) c1']) :: ((ownS 22 a1' x1' ++ (ownS 22 a2' x2' ++ [])))) w3 := Good.forget hG3 (by simp) (.cons _ (.cons _ (List.Sublist.refl _))) (by
          intro s hs p hp hnp
          simp only [List.mem_singleton] at hs; subst hs
          rcases List.mem_cons.1 hp with rfl | hp
          · exact hS73.2
          · rcases List.mem_cons.1 hp with rfl | hp
            · exact hS67.2.2
            · exact absurd hp hnp)
        have q3 := q1.sub (H' := (b9, row 32 [.slice a2' (k + 1) c2']) :: (b8, row 32 [.slice a1' (k + 1) c1']) :: ((ownS 22 a1' x1' ++ (ownS 22 a2' x2' ++ [])))) (.cons _ (.cons _ (List.Sublist.refl _)))
        have q4 := q2.sub (H' := (b9, row 32 [.slice a2' (k + 1) c2']) :: (b8, row 32 [.slice a1' (k + 1) c1']) :: ((ownS 22 a1' x1' ++ (ownS 22 a2' x2' ++ [])))) (.cons _ (.cons _ (List.Sublist.refl _)))
        have hnx := askTo_next he0 hcur hez
        exact ⟨⟨w3, a1', c1', x1', r1 ++ [sf], a2', c2', x2', r2 ++ [sg], k + 1⟩, ⟨hk, by rw [hnx], by rw [hnx]; exact q3, by rw [hnx]; exact q4, by rw [List.map_append]; exact hOS1, by rw [List.map_append]; exact hOS2, app_lo hn1 hl1 hsA, app_lo hn2 hl2 hsB⟩, (show coins.length - (k + 1) < coins.length - k by omega), ⟨rfl, rfl, rfl, rfl, rfl, rfl, rfl, rfl, trivial⟩, hG4.now⟩
  · have hk : k = coins.length := by have := of_decide_eq_false hc38; omega
    subst hk
    refine at_exit ?_
    refine x_te ?_
    refine x_te ?_
    refine x_be ?_
    refine x_tn ?_
    refine at_seq ?_
    refine at_mix 4 3 hmix (by kernel_rfl) (by kernel_rfl) ?_
    refine mq (y_ownagg (us := _) 1 ti32 rfl rfl rfl rfl) rfl rfl <| mq (y_ownagg (us := _) 0 ti32 rfl rfl rfl rfl) rfl rfl <| ?_
    refine mn rfl rfl (stw1 (us := [.slice a1 coins.length c1]) ti32 rfl rfl rfl rfl rfl rfl ?_)
    refine at_and (fun _ h => h) ?_
    refine mn rfl rfl (stw0 (us := [.slice a2 coins.length c2]) ti32 rfl rfl rfl rfl rfl rfl ?_)
    refine at_and (fun _ h => h) ?_
    refine mnil ?_
    refine s1 (y_p rfl) rfl <| ?_
    refine at_nil ?_
    refine x_tn ?_
    refine at_ret ?_
    refine at_result (rs := [.cell 8 32, .cell 9 32, .tmp 10]) rfl (r_cello 1 ti32 rfl rfl rfl (r_cello 0 ti32 rfl rfl rfl (r_tmp rfl r_nil))) fun w1 hG1 => ?_
    rw [ask_all (by omega) (by omega) (by omega), trip he0]
    have q1 := hf1.step hG1 (.head _) (.cons (.cons (Ks.refl _ _)))
    have q2 := hf2.step hG1 (.head _) (.cons (.cons (Ks.refl _ _)))
    refine ⟨⟨a1, coins.length, c1⟩, ⟨a2, coins.length, c2⟩, r1, r2, rfl, q1.out (e := 22) ho1 (fun p hp => hG1.own p (by simp [hp])), q2.out (e := 22) ho2 (fun p hp => hG1.own p (by simp [hp])), hG1.below (.tail _ (.head _)) (by
      intro p hp
      simp only [List.mem_cons, List.mem_append, List.not_mem_nil, or_false] at hp
      rcases hp with rfl | rfl | hp | hp
      · simp only; omega
      · simp only; omega
      · obtain ⟨x, hx, rfl⟩ := mem_ownS hp; exact hl1 x hx
      · obtain ⟨x, hx, rfl⟩ := mem_ownS hp; exact hl2 x hx)⟩

theorem ask_ok (w : World) (many : Int) (sa : SV) (at' : List Int) (batch : Int) (sc : SV) (rc : List SV) (coins : List (List UInt8)) (hat : Ints w sa at') (hc : Rows w 0 sc rc coins) : Fn Try.prog 20 #[.int .i64 many, sa.v, .int .i64 batch, sc.v] w (fun v w' => PQ w w' v (ask many at' batch coins)) := by
  by_cases h0 : batch < 1
  · exact ask_e1 w many sa at' batch sc rc coins hat hc h0
  · by_cases h1 : 132 < batch
    · exact ask_e2 w many sa at' batch sc rc coins hat hc (by omega) h1
    · by_cases h2 : batch < at'.length
      · exact ask_e3 w many sa at' batch sc rc coins hat hc (by omega) (by omega) h2
      · by_cases h3 : (coins.length : Int) = batch
        · subst h3
          exact ask_in w many sa at' sc rc coins hat hc (by omega) (by omega) (by omega)
        · exact ask_e4 w many sa at' batch sc rc coins hat hc (by omega) (by omega) (by omega) h3

theorem rask_e1 (w : World) (many : Int) (sa : SV) (at' : List Int) (batch : Int) (sc : SV) (rc : List SV) (coins : List (List UInt8)) (hat : Ints w sa at') (hc : Rows w 0 sc rc coins) (h : batch < 1) : Fn Try.prog 21 #[.int .i64 many, sa.v, .int .i64 batch, sc.v] w (fun v w' => PQ w w' v (ask many at' batch coins)) := by
  refine enter Try.func21 rfl Try.ntmps21 (by kernel_rfl) rfl ?_
  refine at_seq ?_
  refine at_region ?_
  refine at_op rfl (n_alloc ti32 rfl fun b8 hS8 hH8 => ?_)
  simp only [leAll, ltAll, and_true] at hS8 hH8
  refine at_op rfl (n_alloc ti32 rfl fun b9 hS9 hH9 => ?_)
  simp only [leAll, ltAll, and_true] at hS9 hH9
  refine s1 (y_p rfl) rfl <| ?_
  refine at_nil ?_
  refine x_tn ?_
  refine at_seq ?_
  refine at_seq ?_
  refine at_region ?_
  have hsan := hat.1
  have hscn := hc.n
  have hscl := hc.len
  have hma := Nat.le_trans hat.2.le hat.2.max
  have hmc := Nat.le_trans hc.sl.le hc.sl.max
  simp only [maxLen] at hma hmc
  refine s1 (y_p rfl) rfl <| s1 ((y_p rfl).v (v' := .bool true) (congrArg Value.bool (decide_eq_true (by omega)))) rfl <| s1 (y_p rfl) rfl <| g0 rfl rfl rfl rfl <| g0 rfl rfl rfl rfl <| s1 (y_p rfl) rfl <| s1 (y_p rfl) rfl <| g0 rfl rfl rfl rfl <| g0 rfl rfl rfl rfl <| g0 rfl rfl rfl rfl <| g0 rfl rfl rfl rfl <| s1 (y_p rfl) rfl <| ?_
  refine s1 (y_p rfl) rfl <| g0 rfl rfl rfl rfl <| g0 rfl rfl rfl rfl <| g0 rfl rfl rfl rfl <| g0 rfl rfl rfl rfl <| s1 (y_p rfl) rfl <| ?_
  refine at_nil ?_
  refine x_tn ?_
  refine at_then rfl ?_
  refine at_seq ?_
  refine at_region ?_
  refine s1 (y_build0 ti32 Try.underlying32 rfl) rfl <| s1 (y_build0 ti32 Try.underlying32 rfl) rfl <| ?_
  refine at_op rfl (stw1 (us := [.slice none 0 0]) ti32 rfl rfl rfl rfl rfl rfl ?_)
  refine at_op rfl (stw0 (us := [.slice none 0 0]) ti32 rfl rfl rfl rfl rfl rfl ?_)
  refine s1 (y_p rfl) rfl <| ?_
  refine at_nil ?_
  refine x_tn ?_
  refine at_ret ?_
  refine x_tr ?_
  refine at_result (rs := [.cell 8 32, .cell 9 32, .tmp 10]) rfl (r_cello 1 ti32 rfl rfl rfl (r_cello 0 ti32 rfl rfl rfl (r_tmp rfl r_nil))) fun w1 hG1 => ?_
  rw [ask, if_pos (by omega)]; exact PQ.nil w w1 360 (hG1.below (.head _) (by simp; omega))

theorem rask_e2 (w : World) (many : Int) (sa : SV) (at' : List Int) (batch : Int) (sc : SV) (rc : List SV) (coins : List (List UInt8)) (hat : Ints w sa at') (hc : Rows w 0 sc rc coins) (_h0 : 1 ≤ batch) (h : 132 < batch) : Fn Try.prog 21 #[.int .i64 many, sa.v, .int .i64 batch, sc.v] w (fun v w' => PQ w w' v (ask many at' batch coins)) := by
  refine enter Try.func21 rfl Try.ntmps21 (by kernel_rfl) rfl ?_
  refine at_seq ?_
  refine at_region ?_
  refine at_op rfl (n_alloc ti32 rfl fun b8 hS8 hH8 => ?_)
  simp only [leAll, ltAll, and_true] at hS8 hH8
  refine at_op rfl (n_alloc ti32 rfl fun b9 hS9 hH9 => ?_)
  simp only [leAll, ltAll, and_true] at hS9 hH9
  refine s1 (y_p rfl) rfl <| ?_
  refine at_nil ?_
  refine x_tn ?_
  refine at_seq ?_
  refine at_seq ?_
  refine at_region ?_
  have hsan := hat.1
  have hscn := hc.n
  have hscl := hc.len
  have hma := Nat.le_trans hat.2.le hat.2.max
  have hmc := Nat.le_trans hc.sl.le hc.sl.max
  simp only [maxLen] at hma hmc
  refine s1 (y_p rfl) rfl <| s1 ((y_p rfl).v (v' := .bool false) (congrArg Value.bool (decide_eq_false (by omega)))) rfl <| s1 (y_p rfl) rfl <| g1 rfl rfl (y_p rfl) rfl <| g1 rfl rfl ((y_p rfl).v (v' := .bool true) (congrArg Value.bool (decide_eq_true (by omega)))) rfl <| s1 (y_p rfl) rfl <| s1 (y_p rfl) rfl <| g0 rfl rfl rfl rfl <| g0 rfl rfl rfl rfl <| g0 rfl rfl rfl rfl <| g0 rfl rfl rfl rfl <| s1 (y_p rfl) rfl <| ?_
  refine s1 (y_p rfl) rfl <| g0 rfl rfl rfl rfl <| g0 rfl rfl rfl rfl <| g0 rfl rfl rfl rfl <| g0 rfl rfl rfl rfl <| s1 (y_p rfl) rfl <| ?_
  refine at_nil ?_
  refine x_tn ?_
  refine at_then rfl ?_
  refine at_seq ?_
  refine at_region ?_
  refine s1 (y_build0 ti32 Try.underlying32 rfl) rfl <| s1 (y_build0 ti32 Try.underlying32 rfl) rfl <| ?_
  refine at_op rfl (stw1 (us := [.slice none 0 0]) ti32 rfl rfl rfl rfl rfl rfl ?_)
  refine at_op rfl (stw0 (us := [.slice none 0 0]) ti32 rfl rfl rfl rfl rfl rfl ?_)
  refine s1 (y_p rfl) rfl <| ?_
  refine at_nil ?_
  refine x_tn ?_
  refine at_ret ?_
  refine x_tr ?_
  refine at_result (rs := [.cell 8 32, .cell 9 32, .tmp 10]) rfl (r_cello 1 ti32 rfl rfl rfl (r_cello 0 ti32 rfl rfl rfl (r_tmp rfl r_nil))) fun w1 hG1 => ?_
  rw [ask, if_pos (by omega)]; exact PQ.nil w w1 360 (hG1.below (.head _) (by simp; omega))

theorem rask_e3 (w : World) (many : Int) (sa : SV) (at' : List Int) (batch : Int) (sc : SV) (rc : List SV) (coins : List (List UInt8)) (hat : Ints w sa at') (hc : Rows w 0 sc rc coins) (h0 : 1 ≤ batch) (h1 : batch ≤ 132) (h : batch < at'.length) : Fn Try.prog 21 #[.int .i64 many, sa.v, .int .i64 batch, sc.v] w (fun v w' => PQ w w' v (ask many at' batch coins)) := by
  refine enter Try.func21 rfl Try.ntmps21 (by kernel_rfl) rfl ?_
  refine at_seq ?_
  refine at_region ?_
  refine at_op rfl (n_alloc ti32 rfl fun b8 hS8 hH8 => ?_)
  simp only [leAll, ltAll, and_true] at hS8 hH8
  refine at_op rfl (n_alloc ti32 rfl fun b9 hS9 hH9 => ?_)
  simp only [leAll, ltAll, and_true] at hS9 hH9
  refine s1 (y_p rfl) rfl <| ?_
  refine at_nil ?_
  refine x_tn ?_
  refine at_seq ?_
  refine at_seq ?_
  refine at_region ?_
  have hsan := hat.1
  have hscn := hc.n
  have hscl := hc.len
  have hma := Nat.le_trans hat.2.le hat.2.max
  have hmc := Nat.le_trans hc.sl.le hc.sl.max
  simp only [maxLen] at hma hmc
  refine s1 (y_p rfl) rfl <| s1 ((y_p rfl).v (v' := .bool false) (congrArg Value.bool (decide_eq_false (by omega)))) rfl <| s1 (y_p rfl) rfl <| g1 rfl rfl (y_p rfl) rfl <| g1 rfl rfl ((y_p rfl).v (v' := .bool false) (congrArg Value.bool (decide_eq_false (by omega)))) rfl <| s1 (y_p rfl) rfl <| s1 (y_p rfl) rfl <| g1 rfl rfl (y_p rfl) rfl <| g1 rfl rfl (y_len Try.underlying41 rfl rfl) rfl <| g1 rfl rfl (y_p rfl) rfl <| g1 rfl rfl ((y_p rfl).v (v' := .bool true) (congrArg Value.bool (decide_eq_true (by omega)))) rfl <| s1 (y_p rfl) rfl <| ?_
  refine s1 (y_p rfl) rfl <| g0 rfl rfl rfl rfl <| g0 rfl rfl rfl rfl <| g0 rfl rfl rfl rfl <| g0 rfl rfl rfl rfl <| s1 (y_p rfl) rfl <| ?_
  refine at_nil ?_
  refine x_tn ?_
  refine at_then rfl ?_
  refine at_seq ?_
  refine at_region ?_
  refine s1 (y_build0 ti32 Try.underlying32 rfl) rfl <| s1 (y_build0 ti32 Try.underlying32 rfl) rfl <| ?_
  refine at_op rfl (stw1 (us := [.slice none 0 0]) ti32 rfl rfl rfl rfl rfl rfl ?_)
  refine at_op rfl (stw0 (us := [.slice none 0 0]) ti32 rfl rfl rfl rfl rfl rfl ?_)
  refine s1 (y_p rfl) rfl <| ?_
  refine at_nil ?_
  refine x_tn ?_
  refine at_ret ?_
  refine x_tr ?_
  refine at_result (rs := [.cell 8 32, .cell 9 32, .tmp 10]) rfl (r_cello 1 ti32 rfl rfl rfl (r_cello 0 ti32 rfl rfl rfl (r_tmp rfl r_nil))) fun w1 hG1 => ?_
  rw [ask, if_pos (by omega)]; exact PQ.nil w w1 360 (hG1.below (.head _) (by simp; omega))

theorem rask_e4 (w : World) (many : Int) (sa : SV) (at' : List Int) (batch : Int) (sc : SV) (rc : List SV) (coins : List (List UInt8)) (hat : Ints w sa at') (hc : Rows w 0 sc rc coins) (h0 : 1 ≤ batch) (h1 : batch ≤ 132) (h2 : at'.length ≤ batch) (h : (coins.length : Int) ≠ batch) : Fn Try.prog 21 #[.int .i64 many, sa.v, .int .i64 batch, sc.v] w (fun v w' => PQ w w' v (ask many at' batch coins)) := by
  refine enter Try.func21 rfl Try.ntmps21 (by kernel_rfl) rfl ?_
  refine at_seq ?_
  refine at_region ?_
  refine at_op rfl (n_alloc ti32 rfl fun b8 hS8 hH8 => ?_)
  simp only [leAll, ltAll, and_true] at hS8 hH8
  refine at_op rfl (n_alloc ti32 rfl fun b9 hS9 hH9 => ?_)
  simp only [leAll, ltAll, and_true] at hS9 hH9
  refine s1 (y_p rfl) rfl <| ?_
  refine at_nil ?_
  refine x_tn ?_
  refine at_seq ?_
  refine at_seq ?_
  refine at_region ?_
  have hsan := hat.1
  have hscn := hc.n
  have hscl := hc.len
  have hma := Nat.le_trans hat.2.le hat.2.max
  have hmc := Nat.le_trans hc.sl.le hc.sl.max
  simp only [maxLen] at hma hmc
  refine s1 (y_p rfl) rfl <| s1 ((y_p rfl).v (v' := .bool false) (congrArg Value.bool (decide_eq_false (by omega)))) rfl <| s1 (y_p rfl) rfl <| g1 rfl rfl (y_p rfl) rfl <| g1 rfl rfl ((y_p rfl).v (v' := .bool false) (congrArg Value.bool (decide_eq_false (by omega)))) rfl <| s1 (y_p rfl) rfl <| s1 (y_p rfl) rfl <| g1 rfl rfl (y_p rfl) rfl <| g1 rfl rfl (y_len Try.underlying41 rfl rfl) rfl <| g1 rfl rfl (y_p rfl) rfl <| g1 rfl rfl ((y_p rfl).v (v' := .bool false) (congrArg Value.bool (decide_eq_false (by omega)))) rfl <| s1 (y_p rfl) rfl <| ?_
  refine s1 (y_p rfl) rfl <| g1 rfl rfl (y_p rfl) rfl <| g1 rfl rfl (y_len Try.underlying30 rfl rfl) rfl <| g1 rfl rfl (y_p rfl) rfl <| g1 rfl rfl ((y_p rfl).v (v' := .bool true) (congrArg Value.bool (bne_iff_ne.2 (by omega)))) rfl <| s1 (y_p rfl) rfl <| ?_
  refine at_nil ?_
  refine x_tn ?_
  refine at_then rfl ?_
  refine at_seq ?_
  refine at_region ?_
  refine s1 (y_build0 ti32 Try.underlying32 rfl) rfl <| s1 (y_build0 ti32 Try.underlying32 rfl) rfl <| ?_
  refine at_op rfl (stw1 (us := [.slice none 0 0]) ti32 rfl rfl rfl rfl rfl rfl ?_)
  refine at_op rfl (stw0 (us := [.slice none 0 0]) ti32 rfl rfl rfl rfl rfl rfl ?_)
  refine s1 (y_p rfl) rfl <| ?_
  refine at_nil ?_
  refine x_tn ?_
  refine at_ret ?_
  refine x_tr ?_
  refine at_result (rs := [.cell 8 32, .cell 9 32, .tmp 10]) rfl (r_cello 1 ti32 rfl rfl rfl (r_cello 0 ti32 rfl rfl rfl (r_tmp rfl r_nil))) fun w1 hG1 => ?_
  rw [ask, if_pos (by omega)]; exact PQ.nil w w1 360 (hG1.below (.head _) (by simp; omega))

theorem rask_in (w : World) (many : Int) (sa : SV) (at' : List Int) (sc : SV) (rc : List SV) (coins : List (List UInt8)) (hat : Ints w sa at') (hc : Rows w 0 sc rc coins) (h0 : 1 ≤ coins.length) (h1 : coins.length ≤ 132) (h2 : at'.length ≤ coins.length) : Fn Try.prog 21 #[.int .i64 many, sa.v, .int .i64 (coins.length : Nat), sc.v] w (fun v w' => PQ w w' v (ask many at' (coins.length : Nat) coins)) := by
  refine enter Try.func21 rfl Try.ntmps21 (by kernel_rfl) rfl ?_
  refine at_seq ?_
  refine at_region ?_
  refine at_op rfl (n_alloc ti32 rfl fun b8 hS8 hH8 => ?_)
  simp only [leAll, ltAll, and_true] at hS8 hH8
  refine at_op rfl (n_alloc ti32 rfl fun b9 hS9 hH9 => ?_)
  simp only [leAll, ltAll, and_true] at hS9 hH9
  refine s1 (y_p rfl) rfl <| ?_
  refine at_nil ?_
  refine x_tn ?_
  refine at_seq ?_
  refine at_seq ?_
  refine at_region ?_
  have hsan := hat.1
  have hscn := hc.n
  have hscl := hc.len
  have hma := Nat.le_trans hat.2.le hat.2.max
  have hmc := Nat.le_trans hc.sl.le hc.sl.max
  simp only [maxLen] at hma hmc
  refine s1 (y_p rfl) rfl <| s1 ((y_p rfl).v (v' := .bool false) (congrArg Value.bool (decide_eq_false (by omega)))) rfl <| s1 (y_p rfl) rfl <| g1 rfl rfl (y_p rfl) rfl <| g1 rfl rfl ((y_p rfl).v (v' := .bool false) (congrArg Value.bool (decide_eq_false (by omega)))) rfl <| s1 (y_p rfl) rfl <| s1 (y_p rfl) rfl <| g1 rfl rfl (y_p rfl) rfl <| g1 rfl rfl (y_len Try.underlying41 rfl rfl) rfl <| g1 rfl rfl (y_p rfl) rfl <| g1 rfl rfl ((y_p rfl).v (v' := .bool false) (congrArg Value.bool (decide_eq_false (by omega)))) rfl <| s1 (y_p rfl) rfl <| ?_
  refine s1 (y_p rfl) rfl <| g1 rfl rfl (y_p rfl) rfl <| g1 rfl rfl (y_len Try.underlying30 rfl rfl) rfl <| g1 rfl rfl (y_p rfl) rfl <| g1 rfl rfl ((y_p rfl).v (v' := .bool false) (congrArg Value.bool (bne_eq_false_iff_eq.2 (by omega)))) rfl <| s1 (y_p rfl) rfl <| ?_
  refine at_nil ?_
  refine x_tn ?_
  refine at_else rfl ?_
  refine at_skip ?_
  refine x_tn ?_
  refine at_seq ?_
  refine at_region ?_
  refine s1 (y_build0 ti32 Try.underlying32 rfl) rfl <| ?_
  refine at_op rfl (n_alloc ti32 rfl fun b11 hS11 hH11 => ?_)
  simp only [leAll, ltAll, and_true] at hS11 hH11
  refine at_op rfl (stw0 (us := [.slice none 0 0]) ti32 rfl rfl rfl rfl rfl rfl ?_)
  refine at_nil ?_
  refine x_tn ?_
  refine at_seq ?_
  refine at_region ?_
  refine s1 (y_build0 ti32 Try.underlying32 rfl) rfl <| ?_
  refine at_op rfl (n_alloc ti32 rfl fun b12 hS12 hH12 => ?_)
  simp only [leAll, ltAll, and_true] at hS12 hH12
  refine at_op rfl (stw0 (us := [.slice none 0 0]) ti32 rfl rfl rfl rfl rfl rfl ?_)
  refine at_nil ?_
  refine x_tn ?_
  refine at_seq ?_
  refine at_seq ?_
  refine at_region ?_
  refine s1 (y_p rfl) rfl <| ?_
  refine at_nil ?_
  refine x_tn ?_
  refine at_block ?_
  refine at_loop (ι := AskSt) (fun ⟨u, a1, c1, x1, r1, a2, c2, x2, r2, k⟩ => [(0, .int .i64 many), (1, sa.v), (2, .int .i64 (coins.length : Nat)), (3, sc.v), (8, .pointer (some ⟨b8, 0, none⟩)), (9, .pointer (some ⟨b9, 0, none⟩)), (11, .pointer (some ⟨b11, 0, none⟩)), (12, .pointer (some ⟨b12, 0, none⟩)), (13, .int .i64 (k : Nat))]) (fun ⟨u, a1, c1, x1, r1, a2, c2, x2, r2, k⟩ => [u, w]) (fun ⟨u, a1, c1, x1, r1, a2, c2, x2, r2, k⟩ => (b12, row 32 [.slice a2 k c2]) :: (b11, row 32 [.slice a1 k c1]) :: ((b9, row 32 [.slice none 0 0]) :: (b8, row 32 [.slice none 0 0]) :: (ownS 22 a1 x1 ++ (ownS 22 a2 x2 ++ [])))) (fun ⟨u, a1, c1, x1, r1, a2, c2, x2, r2, k⟩ => k ≤ coins.length ∧ (askTo many at' coins k).2.2 = 0 ∧ Fam ((b12, row 32 [.slice a2 k c2]) :: (b11, row 32 [.slice a1 k c1]) :: ((b9, row 32 [.slice none 0 0]) :: (b8, row 32 [.slice none 0 0]) :: (ownS 22 a1 x1 ++ (ownS 22 a2 x2 ++ [])))) u r1 (askTo many at' coins k).1 ∧ Fam ((b12, row 32 [.slice a2 k c2]) :: (b11, row 32 [.slice a1 k c1]) :: ((b9, row 32 [.slice none 0 0]) :: (b8, row 32 [.slice none 0 0]) :: (ownS 22 a1 x1 ++ (ownS 22 a2 x2 ++ [])))) u r2 (askTo many at' coins k).2.1 ∧ OS 1 a1 k c1 x1 (r1.map SV.v) ∧ OS 1 a2 k c2 x2 (r2.map SV.v) ∧ (∀ x, a1 = some x → w.heap.size ≤ x.block) ∧ (∀ x, a2 = some x → w.heap.size ≤ x.block)) (fun ⟨u, a1, c1, x1, r1, a2, c2, x2, r2, k⟩ => coins.length - k) ?_ ?_
  · refine at_exw fun u hG => ⟨⟨u, none, 0, [], [], none, 0, [], [], 0⟩, ⟨Nat.zero_le _, rfl, Fam.nil _ u, Fam.nil _ u, OS.nilv 1 [], OS.nilv 1 [], (fun x h => by cases h), (fun x h => by cases h)⟩, ⟨rfl, rfl, rfl, rfl, rfl, rfl, rfl, rfl, rfl, trivial⟩, hG.now⟩
  rintro ⟨u, a1, c1, x1, r1, a2, c2, x2, r2, k⟩ ⟨hk0, he0, hf1, hf2, ho1, ho2, hl1, hl2⟩
  dsimp only
  have old : ∀ (b : Nat) (p : Nat × Obj), b < w.heap.size → p ∈ ((b12, row 32 [.slice a2 k c2]) :: (b11, row 32 [.slice a1 k c1]) :: ((b9, row 32 [.slice none 0 0]) :: (b8, row 32 [.slice none 0 0]) :: (ownS 22 a1 x1 ++ (ownS 22 a2 x2 ++ []))) : List (Nat × Obj)) → p.1 ≠ b := by
    intro b p hlt hp e
    simp only [List.mem_cons, List.mem_append, List.not_mem_nil, or_false] at hp
    rcases hp with rfl | rfl | rfl | rfl | hp | hp
    · simp only at e; omega
    · simp only at e; omega
    · simp only at e; omega
    · simp only at e; omega
    · obtain ⟨x, hx, rfl⟩ := mem_ownS hp; have := hl1 x hx; simp only at e; omega
    · obtain ⟨x, hx, rfl⟩ := mem_ownS hp; have := hl2 x hx; simp only at e; omega
  refine at_seq ?_
  refine at_seq ?_
  refine at_region ?_
  refine s1 (y_p rfl) rfl <| s1 (y_p rfl) rfl <| s1 (y_p rfl) rfl <| ?_
  refine at_nil ?_
  refine x_tn ?_
  refine at_cond rfl (fun hc42 => ?_) (fun hc42 => ?_)
  · have hk : k < coins.length := by have := of_decide_eq_true hc42; omega
    obtain ⟨r, hr, hb⟩ := hc.get hk
    have hrn := hb.1
    refine at_skip ?_
    refine x_tn ?_
    refine at_seq ?_
    refine at_block ?_
    refine at_seq ?_
    refine at_region ?_
    refine s1 (y_p rfl) rfl <| ?_
    refine at_nil ?_
    refine x_tn ?_
    refine at_seq ?_
    refine at_seq ?_
    refine at_region ?_
    refine s1 (y_p rfl) rfl <| s1 (y_p rfl) rfl <| s1 (y_len Try.underlying41 rfl rfl) rfl <| s1 (y_p rfl) rfl <| ?_
    refine at_nil ?_
    refine x_tn ?_
    refine at_cond rfl (fun hc48 => ?_) (fun hc48 => ?_)
    · have hka : k < at'.length := by have := of_decide_eq_true hc48; omega
      have hcur : at'.getD k 0 = if k < at'.length then at'.getD k 0 else 0 := (if_pos hka).symm
      refine at_region ?_
      refine s1 (y_p rfl) rfl <| s1 (y_p rfl) rfl <| s1 (y_idx1 k Try.underlying41 ti3 rfl rfl rfl (by omega) (hat.2.addr (by omega))) rfl <| s1 (y_load ti3 rfl (fun w1 hG1 => hG1.cell (.tail _ (.head _)) (hat.at' hka) fun p hp => old _ p (World.block_lt_of_cell? _ _ (hat.at' hka)) hp)) rfl <| s1 (y_p rfl) rfl <| ?_
      refine at_nil ?_
      refine x_tn ?_
      refine at_seq ?_
      refine at_region ?_
      refine s1 (y_p rfl) rfl <| s1 (y_p rfl) rfl <| s1 (y_p rfl) rfl <| s1 (y_p rfl) rfl <| s1 (y_idx1 k Try.underlying30 ti22 rfl rfl rfl (by omega) (hc.sl.addr (by omega))) rfl <| s1 (y_load ti22 rfl (fun w1 hG1 => hG1.cell (.tail _ (.head _)) (hc.cell hr) fun p hp => old _ p (World.block_lt_of_cell? _ _ (hc.cell hr)) hp)) rfl <| ?_
      refine at_op rfl (n_call rfl rfl fun w60 hG60 => Fn.mono (rmasks_ok w60 many (at'.getD k 0) r (coins.getD k []) (hb.move fun hlt => (hG60.snap w (.tail _ (.head _))).blk _ hlt fun p hp => old _ p hlt hp)) ?_)
      rintro _ w60' ⟨sf, sg, rfl, hbf, hff, hbg, hfg, hB60⟩
      have k1 := hf1.step (hG60.call hB60) (.tail _ (.head _)) (Ks.refl _ _)
      have k2 := hf2.step (hG60.call hB60) (.tail _ (.head _)) (Ks.refl _ _)
      have l1 := k1.fresh hG60 hbf hff
      have l2 := k2.fresh hG60 hbg hfg
      refine at_in (hG60.call hB60) ?_
      refine s1 (y_p rfl) rfl <| s1 (y_p rfl) rfl <| s1 (y_p rfl) rfl <| s1 (y_p rfl) rfl <| s1 (y_p rfl) rfl <| s1 (y_p rfl) rfl <| s1 (y_p rfl) rfl <| ?_
      refine at_nil ?_
      refine x_tn ?_
      refine at_seq ?_
      refine at_seq ?_
      refine at_region ?_
      refine s1 (y_p rfl) rfl <| s1 (y_p rfl) rfl <| ?_
      refine at_nil ?_
      refine x_tn ?_
      refine at_cond rfl (fun hc65 => ?_) (fun hc65 => ?_)
      · have hez := bne_iff_ne.1 hc65
        refine at_seq ?_
        refine at_region ?_
        refine s1 (y_build0 ti32 Try.underlying32 rfl) rfl <| s1 (y_build0 ti32 Try.underlying32 rfl) rfl <| s1 (y_p rfl) rfl <| ?_
        refine at_op rfl (stw3 (us := [.slice none 0 0]) ti32 rfl rfl rfl rfl rfl rfl ?_)
        refine at_op rfl (stw2 (us := [.slice none 0 0]) ti32 rfl rfl rfl rfl rfl rfl ?_)
        refine s1 (y_p rfl) rfl <| ?_
        refine at_nil ?_
        refine x_tn ?_
        refine at_ret ?_
        refine x_tr ?_
        refine x_br ?_
        refine x_tr ?_
        refine x_tr ?_
        refine x_br ?_
        refine x_tr ?_
        refine at_result (rs := [.cell 8 32, .cell 9 32, .tmp 10]) rfl (r_cello 3 ti32 rfl rfl rfl (r_cello 2 ti32 rfl rfl rfl (r_tmp rfl r_nil))) fun w1 hG1 => ?_
        rw [ask_err hk (by omega) (by omega) (by omega) he0 hcur hez]
        exact PQ.nil w w1 _ (hG1.below (.tail _ (.tail _ (.head _))) (by
          intro p hp
          simp only [List.mem_cons, List.mem_append, List.not_mem_nil, or_false] at hp
          rcases hp with rfl | rfl | rfl | rfl | hp | hp
          · simp only; omega
          · simp only; omega
          · simp only; omega
          · simp only; omega
          · obtain ⟨x, hx, rfl⟩ := mem_ownS hp; exact hl1 x hx
          · obtain ⟨x, hx, rfl⟩ := mem_ownS hp; exact hl2 x hx))
      · have hez := bne_eq_false_iff_eq.1 hc65
        have hlm : r1.length = k := by have := ho1.len; simp at this; exact this
        refine at_skip ?_
        refine x_tn ?_
        refine at_seq ?_
        refine at_region ?_
        refine s1 (y_fld Try.underlying32 rfl ti30 (by decide) rfl rfl) rfl <| s1 (y_own 1 ti30 rfl rfl rfl) rfl <| s1 (y_p rfl) rfl <| ?_
        refine at_op rfl (n_bs1 [_] Try.underlying30 ti22 rfl rfl rfl rfl rfl rfl fun b72 hS72 hH72 => ?_)
        simp only [leAll, ltAll, and_true] at hS72 hH72
        refine at_op rfl (n_app [_, _, _, _, _] (ownS 22 a2 x2 ++ []) [w] (cells := x1) (xs := r1.map SV.v) Try.underlying30 ti22 rfl rfl rfl ho1 ?_ (fun w1 hG1 => hG1.lit1 0 rfl) (by simp [Value.oneCell', SV.v]) ?_ ?_ rfl rfl fun wA hGA a1' c1' x1' hOS1 hn1 => ?_)
        · intro s hs; simp only [List.mem_singleton] at hs; subst hs; exact ⟨by simp, hl1⟩
        · simp only [maxLen]; omega
        · omega
        have m1 := l1.step hGA (.head _) (Ks.new hS72.1 (Ks.refl _ _))
        have m2 := l2.step hGA (.head _) (Ks.new hS72.1 (Ks.refl _ _))
        have hsA := (hGA.snap w (by simp)).size
        refine s1 (y_fld Try.underlying32 rfl ti30 (by decide) rfl rfl) rfl <| ?_
        refine at_op rfl (stv2 ti30 rfl rfl rfl ?_)
        refine at_nil ?_
        refine x_tn ?_
        refine at_region ?_
        refine s1 (y_fld Try.underlying32 rfl ti30 (by decide) rfl rfl) rfl <| s1 (y_own 1 ti30 rfl rfl rfl) rfl <| s1 (y_p rfl) rfl <| ?_
        refine at_op rfl (n_bs1 [_] Try.underlying30 ti22 rfl rfl rfl rfl rfl rfl fun b78 hS78 hH78 => ?_)
        simp only [leAll, ltAll, and_true] at hS78 hH78
        refine at_op rfl (n_app ([_, _, _, _, _, _] ++ ownS 22 a1' x1') [] [w] (cells := x2) (xs := r2.map SV.v) Try.underlying30 ti22 rfl rfl rfl ho2 ?_ (fun w1 hG1 => hG1.lit1 0 rfl) (by simp [Value.oneCell', SV.v]) ?_ ?_ rfl rfl fun wB hGB a2' c2' x2' hOS2 hn2 => ?_)
        · intro s hs; simp only [List.mem_singleton] at hs; subst hs; exact ⟨by simp, hl2⟩
        · simp only [maxLen]; omega
        · omega
        have n1 := m1.step hGB (.head _) (Ks.new hS78.1 (.cons (.cons (.cons (.cons (.cons (Ks.own hn1 (Nat.le_refl _) (Ks.refl _ _))))))))
        have n2 := m2.step hGB (.head _) (Ks.new hS78.1 (.cons (.cons (.cons (.cons (.cons (Ks.own hn1 (Nat.le_refl _) (Ks.refl _ _))))))))
        have hsB := (hGB.snap w (by simp)).size
        refine s1 (y_fld Try.underlying32 rfl ti30 (by decide) rfl rfl) rfl <| ?_
        refine at_op rfl (stv2 ti30 rfl rfl rfl ?_)
        refine at_nil ?_
        refine x_bn ?_
        refine x_tn ?_
        refine at_region ?_
        refine s1 (y_p rfl) rfl <| s1 (addN k 1 rfl rfl rfl rfl (by omega)) rfl <| s1 (y_p rfl) rfl <| ?_
        refine at_nil ?_
        refine at_endw (x := (⟨u, a1, c1, x1, r1, a2, c2, x2, r2, k⟩ : AskSt)) fun w3 hG3 => ?_
        have q1 := n1.step hG3 (.head _) (.cons (.cons (.cons (.cons (.cons (.cons (Ks.keep (Ks.own hn2 (Nat.le_refl _) .nil))))))))
        have q2 := n2.step hG3 (.head _) (.cons (.cons (.cons (.cons (.cons (.cons (Ks.keep (Ks.own hn2 (Nat.le_refl _) .nil))))))))
        have hG4 : Good [w] ((b12, row 32 [.slice a2' (k + 1) c2']) :: (b11, row 32 [.slice a1' (k + 1) c1']) :: ((b9, row 32 [.slice none 0 0]) :: (b8, row 32 [.slice none 0 0]) :: (ownS 22 a1' x1' ++ (ownS 22 a2' x2' ++ [])))) w3 := Good.forget hG3 (by simp) (.cons _ (.cons _ (List.Sublist.refl _))) (by
          intro s hs p hp hnp
          simp only [List.mem_singleton] at hs; subst hs
          rcases List.mem_cons.1 hp with rfl | hp
          · exact hS78.2
          · rcases List.mem_cons.1 hp with rfl | hp
            · exact hS72.2.2
            · exact absurd hp hnp)
        have q3 := q1.sub (H' := (b12, row 32 [.slice a2' (k + 1) c2']) :: (b11, row 32 [.slice a1' (k + 1) c1']) :: ((b9, row 32 [.slice none 0 0]) :: (b8, row 32 [.slice none 0 0]) :: (ownS 22 a1' x1' ++ (ownS 22 a2' x2' ++ [])))) (.cons _ (.cons _ (List.Sublist.refl _)))
        have q4 := q2.sub (H' := (b12, row 32 [.slice a2' (k + 1) c2']) :: (b11, row 32 [.slice a1' (k + 1) c1']) :: ((b9, row 32 [.slice none 0 0]) :: (b8, row 32 [.slice none 0 0]) :: (ownS 22 a1' x1' ++ (ownS 22 a2' x2' ++ [])))) (.cons _ (.cons _ (List.Sublist.refl _)))
        have hnx := askTo_next he0 hcur hez
        exact ⟨⟨w3, a1', c1', x1', r1 ++ [sf], a2', c2', x2', r2 ++ [sg], k + 1⟩, ⟨hk, by rw [hnx], by rw [hnx]; exact q3, by rw [hnx]; exact q4, by rw [List.map_append]; exact hOS1, by rw [List.map_append]; exact hOS2, app_lo hn1 hl1 hsA, app_lo hn2 hl2 hsB⟩, (show coins.length - (k + 1) < coins.length - k by omega), ⟨rfl, rfl, rfl, rfl, rfl, rfl, rfl, rfl, rfl, trivial⟩, hG4.now⟩
    · have hcur : (0 : Int) = if k < at'.length then at'.getD k 0 else 0 := (if_neg (by have := of_decide_eq_false hc48; omega)).symm
      refine at_skip ?_
      refine x_tn ?_
      refine at_seq ?_
      refine at_region ?_
      refine s1 (y_p rfl) rfl <| s1 (y_p rfl) rfl <| s1 (y_p rfl) rfl <| s1 (y_p rfl) rfl <| s1 (y_idx1 k Try.underlying30 ti22 rfl rfl rfl (by omega) (hc.sl.addr (by omega))) rfl <| s1 (y_load ti22 rfl (fun w1 hG1 => hG1.cell (.tail _ (.head _)) (hc.cell hr) fun p hp => old _ p (World.block_lt_of_cell? _ _ (hc.cell hr)) hp)) rfl <| ?_
      refine at_op rfl (n_call rfl rfl fun w60 hG60 => Fn.mono (rmasks_ok w60 many 0 r (coins.getD k []) (hb.move fun hlt => (hG60.snap w (.tail _ (.head _))).blk _ hlt fun p hp => old _ p hlt hp)) ?_)
      rintro _ w60' ⟨sf, sg, rfl, hbf, hff, hbg, hfg, hB60⟩
      have k1 := hf1.step (hG60.call hB60) (.tail _ (.head _)) (Ks.refl _ _)
      have k2 := hf2.step (hG60.call hB60) (.tail _ (.head _)) (Ks.refl _ _)
      have l1 := k1.fresh hG60 hbf hff
      have l2 := k2.fresh hG60 hbg hfg
      refine at_in (hG60.call hB60) ?_
      refine s1 (y_p rfl) rfl <| s1 (y_p rfl) rfl <| s1 (y_p rfl) rfl <| s1 (y_p rfl) rfl <| s1 (y_p rfl) rfl <| s1 (y_p rfl) rfl <| s1 (y_p rfl) rfl <| ?_
      refine at_nil ?_
      refine x_tn ?_
      refine at_seq ?_
      refine at_seq ?_
      refine at_region ?_
      refine s1 (y_p rfl) rfl <| s1 (y_p rfl) rfl <| ?_
      refine at_nil ?_
      refine x_tn ?_
      refine at_cond rfl (fun hc65 => ?_) (fun hc65 => ?_)
      · have hez := bne_iff_ne.1 hc65
        refine at_seq ?_
        refine at_region ?_
        refine s1 (y_build0 ti32 Try.underlying32 rfl) rfl <| s1 (y_build0 ti32 Try.underlying32 rfl) rfl <| s1 (y_p rfl) rfl <| ?_
        refine at_op rfl (stw3 (us := [.slice none 0 0]) ti32 rfl rfl rfl rfl rfl rfl ?_)
        refine at_op rfl (stw2 (us := [.slice none 0 0]) ti32 rfl rfl rfl rfl rfl rfl ?_)
        refine s1 (y_p rfl) rfl <| ?_
        refine at_nil ?_
        refine x_tn ?_
        refine at_ret ?_
        refine x_tr ?_
        refine x_br ?_
        refine x_tr ?_
        refine x_tr ?_
        refine x_br ?_
        refine x_tr ?_
        refine at_result (rs := [.cell 8 32, .cell 9 32, .tmp 10]) rfl (r_cello 3 ti32 rfl rfl rfl (r_cello 2 ti32 rfl rfl rfl (r_tmp rfl r_nil))) fun w1 hG1 => ?_
        rw [ask_err hk (by omega) (by omega) (by omega) he0 hcur hez]
        exact PQ.nil w w1 _ (hG1.below (.tail _ (.tail _ (.head _))) (by
          intro p hp
          simp only [List.mem_cons, List.mem_append, List.not_mem_nil, or_false] at hp
          rcases hp with rfl | rfl | rfl | rfl | hp | hp
          · simp only; omega
          · simp only; omega
          · simp only; omega
          · simp only; omega
          · obtain ⟨x, hx, rfl⟩ := mem_ownS hp; exact hl1 x hx
          · obtain ⟨x, hx, rfl⟩ := mem_ownS hp; exact hl2 x hx))
      · have hez := bne_eq_false_iff_eq.1 hc65
        have hlm : r1.length = k := by have := ho1.len; simp at this; exact this
        refine at_skip ?_
        refine x_tn ?_
        refine at_seq ?_
        refine at_region ?_
        refine s1 (y_fld Try.underlying32 rfl ti30 (by decide) rfl rfl) rfl <| s1 (y_own 1 ti30 rfl rfl rfl) rfl <| s1 (y_p rfl) rfl <| ?_
        refine at_op rfl (n_bs1 [_] Try.underlying30 ti22 rfl rfl rfl rfl rfl rfl fun b72 hS72 hH72 => ?_)
        simp only [leAll, ltAll, and_true] at hS72 hH72
        refine at_op rfl (n_app [_, _, _, _, _] (ownS 22 a2 x2 ++ []) [w] (cells := x1) (xs := r1.map SV.v) Try.underlying30 ti22 rfl rfl rfl ho1 ?_ (fun w1 hG1 => hG1.lit1 0 rfl) (by simp [Value.oneCell', SV.v]) ?_ ?_ rfl rfl fun wA hGA a1' c1' x1' hOS1 hn1 => ?_)
        · intro s hs; simp only [List.mem_singleton] at hs; subst hs; exact ⟨by simp, hl1⟩
        · simp only [maxLen]; omega
        · omega
        have m1 := l1.step hGA (.head _) (Ks.new hS72.1 (Ks.refl _ _))
        have m2 := l2.step hGA (.head _) (Ks.new hS72.1 (Ks.refl _ _))
        have hsA := (hGA.snap w (by simp)).size
        refine s1 (y_fld Try.underlying32 rfl ti30 (by decide) rfl rfl) rfl <| ?_
        refine at_op rfl (stv2 ti30 rfl rfl rfl ?_)
        refine at_nil ?_
        refine x_tn ?_
        refine at_region ?_
        refine s1 (y_fld Try.underlying32 rfl ti30 (by decide) rfl rfl) rfl <| s1 (y_own 1 ti30 rfl rfl rfl) rfl <| s1 (y_p rfl) rfl <| ?_
        refine at_op rfl (n_bs1 [_] Try.underlying30 ti22 rfl rfl rfl rfl rfl rfl fun b78 hS78 hH78 => ?_)
        simp only [leAll, ltAll, and_true] at hS78 hH78
        refine at_op rfl (n_app ([_, _, _, _, _, _] ++ ownS 22 a1' x1') [] [w] (cells := x2) (xs := r2.map SV.v) Try.underlying30 ti22 rfl rfl rfl ho2 ?_ (fun w1 hG1 => hG1.lit1 0 rfl) (by simp [Value.oneCell', SV.v]) ?_ ?_ rfl rfl fun wB hGB a2' c2' x2' hOS2 hn2 => ?_)
        · intro s hs; simp only [List.mem_singleton] at hs; subst hs; exact ⟨by simp, hl2⟩
        · simp only [maxLen]; omega
        · omega
        have n1 := m1.step hGB (.head _) (Ks.new hS78.1 (.cons (.cons (.cons (.cons (.cons (Ks.own hn1 (Nat.le_refl _) (Ks.refl _ _))))))))
        have n2 := m2.step hGB (.head _) (Ks.new hS78.1 (.cons (.cons (.cons (.cons (.cons (Ks.own hn1 (Nat.le_refl _) (Ks.refl _ _))))))))
        have hsB := (hGB.snap w (by simp)).size
        refine s1 (y_fld Try.underlying32 rfl ti30 (by decide) rfl rfl) rfl <| ?_
        refine at_op rfl (stv2 ti30 rfl rfl rfl ?_)
        refine at_nil ?_
        refine x_bn ?_
        refine x_tn ?_
        refine at_region ?_
        refine s1 (y_p rfl) rfl <| s1 (addN k 1 rfl rfl rfl rfl (by omega)) rfl <| s1 (y_p rfl) rfl <| ?_
        refine at_nil ?_
        refine at_endw (x := (⟨u, a1, c1, x1, r1, a2, c2, x2, r2, k⟩ : AskSt)) fun w3 hG3 => ?_
        have q1 := n1.step hG3 (.head _) (.cons (.cons (.cons (.cons (.cons (.cons (Ks.keep (Ks.own hn2 (Nat.le_refl _) .nil))))))))
        have q2 := n2.step hG3 (.head _) (.cons (.cons (.cons (.cons (.cons (.cons (Ks.keep (Ks.own hn2 (Nat.le_refl _) .nil))))))))
        have hG4 : Good [w] ((b12, row 32 [.slice a2' (k + 1) c2']) :: (b11, row 32 [.slice a1' (k + 1) c1']) :: ((b9, row 32 [.slice none 0 0]) :: (b8, row 32 [.slice none 0 0]) :: (ownS 22 a1' x1' ++ (ownS 22 a2' x2' ++ [])))) w3 := Good.forget hG3 (by simp) (.cons _ (.cons _ (List.Sublist.refl _))) (by
          intro s hs p hp hnp
          simp only [List.mem_singleton] at hs; subst hs
          rcases List.mem_cons.1 hp with rfl | hp
          · exact hS78.2
          · rcases List.mem_cons.1 hp with rfl | hp
            · exact hS72.2.2
            · exact absurd hp hnp)
        have q3 := q1.sub (H' := (b12, row 32 [.slice a2' (k + 1) c2']) :: (b11, row 32 [.slice a1' (k + 1) c1']) :: ((b9, row 32 [.slice none 0 0]) :: (b8, row 32 [.slice none 0 0]) :: (ownS 22 a1' x1' ++ (ownS 22 a2' x2' ++ [])))) (.cons _ (.cons _ (List.Sublist.refl _)))
        have q4 := q2.sub (H' := (b12, row 32 [.slice a2' (k + 1) c2']) :: (b11, row 32 [.slice a1' (k + 1) c1']) :: ((b9, row 32 [.slice none 0 0]) :: (b8, row 32 [.slice none 0 0]) :: (ownS 22 a1' x1' ++ (ownS 22 a2' x2' ++ [])))) (.cons _ (.cons _ (List.Sublist.refl _)))
        have hnx := askTo_next he0 hcur hez
        exact ⟨⟨w3, a1', c1', x1', r1 ++ [sf], a2', c2', x2', r2 ++ [sg], k + 1⟩, ⟨hk, by rw [hnx], by rw [hnx]; exact q3, by rw [hnx]; exact q4, by rw [List.map_append]; exact hOS1, by rw [List.map_append]; exact hOS2, app_lo hn1 hl1 hsA, app_lo hn2 hl2 hsB⟩, (show coins.length - (k + 1) < coins.length - k by omega), ⟨rfl, rfl, rfl, rfl, rfl, rfl, rfl, rfl, rfl, trivial⟩, hG4.now⟩
  · have hk : k = coins.length := by have := of_decide_eq_false hc42; omega
    subst hk
    have fgt : ∀ {w1 : World} {c d : Obj}, Good [u, w] ((b12, row 32 [.slice a2 coins.length c2]) :: (b11, row 32 [.slice a1 coins.length c1]) :: (b9, c) :: (b8, d) :: (ownS 22 a1 x1 ++ (ownS 22 a2 x2 ++ []))) w1 → Good [w] ((b12, row 32 [.slice a2 coins.length c2]) :: (b11, row 32 [.slice a1 coins.length c1]) :: (ownS 22 a1 x1 ++ (ownS 22 a2 x2 ++ []))) w1 := fun h => h.forget (by simp) (.cons_cons _ (.cons_cons _ (.cons _ (.cons _ (List.Sublist.refl _))))) (by
      intro s hs p hp hnp
      simp only [List.mem_singleton] at hs; subst hs
      rcases List.mem_cons.1 hp with rfl | hp
      · exact absurd (.head _) hnp
      rcases List.mem_cons.1 hp with rfl | hp
      · exact absurd (.tail _ (.head _)) hnp
      rcases List.mem_cons.1 hp with rfl | hp
      · simp only; omega
      rcases List.mem_cons.1 hp with rfl | hp
      · simp only; omega
      exact absurd (.tail _ (.tail _ hp)) hnp)
    refine at_exit ?_
    refine x_te ?_
    refine x_te ?_
    refine x_be ?_
    refine x_tn ?_
    refine at_seq ?_
    refine at_mixC ([w]) ((b12, row 32 [.slice a2 coins.length c2]) :: (b11, row 32 [.slice a1 coins.length c1]) :: (ownS 22 a1 x1 ++ (ownS 22 a2 x2 ++ []))) 4 3 hmix (by kernel_rfl) (by kernel_rfl) (fun _ h => fgt h) ?_
    refine mq (y_ownagg (us := _) 1 ti32 rfl rfl rfl rfl) rfl rfl <| mq (y_ownagg (us := _) 0 ti32 rfl rfl rfl rfl) rfl rfl <| ?_
    refine mn rfl rfl (stw3 (us := [.slice a1 coins.length c1]) ti32 rfl rfl rfl rfl rfl rfl ?_)
    refine at_and (fun _ h => fgt h) ?_
    refine mn rfl rfl (stw2 (us := [.slice a2 coins.length c2]) ti32 rfl rfl rfl rfl rfl rfl ?_)
    refine at_and (fun _ h => fgt h) ?_
    refine mnil ?_
    refine s1 (y_p rfl) rfl <| ?_
    refine at_nil ?_
    refine x_tn ?_
    refine at_ret ?_
    refine at_result (rs := [.cell 8 32, .cell 9 32, .tmp 10]) rfl (r_cello 3 ti32 rfl rfl rfl (r_cello 2 ti32 rfl rfl rfl (r_tmp rfl r_nil))) fun w1 hG1 => ?_
    rw [ask_all (by omega) (by omega) (by omega), trip he0]
    have q1 := hf1.step hG1 (.head _) (.cons (.cons (.cons (.cons (Ks.refl _ _)))))
    have q2 := hf2.step hG1 (.head _) (.cons (.cons (.cons (.cons (Ks.refl _ _)))))
    refine ⟨⟨a1, coins.length, c1⟩, ⟨a2, coins.length, c2⟩, r1, r2, rfl, q1.out (e := 22) ho1 (fun p hp => hG1.own p (by simp [hp])), q2.out (e := 22) ho2 (fun p hp => hG1.own p (by simp [hp])), hG1.below (.tail _ (.head _)) (by
      intro p hp
      simp only [List.mem_cons, List.mem_append, List.not_mem_nil, or_false] at hp
      rcases hp with rfl | rfl | rfl | rfl | hp | hp
      · simp only; omega
      · simp only; omega
      · simp only; omega
      · simp only; omega
      · obtain ⟨x, hx, rfl⟩ := mem_ownS hp; exact hl1 x hx
      · obtain ⟨x, hx, rfl⟩ := mem_ownS hp; exact hl2 x hx)⟩

theorem rask_ok (w : World) (many : Int) (sa : SV) (at' : List Int) (batch : Int) (sc : SV) (rc : List SV) (coins : List (List UInt8)) (hat : Ints w sa at') (hc : Rows w 0 sc rc coins) : Fn Try.prog 21 #[.int .i64 many, sa.v, .int .i64 batch, sc.v] w (fun v w' => PQ w w' v (ask many at' batch coins)) := by
  by_cases h0 : batch < 1
  · exact rask_e1 w many sa at' batch sc rc coins hat hc h0
  · by_cases h1 : 132 < batch
    · exact rask_e2 w many sa at' batch sc rc coins hat hc (by omega) h1
    · by_cases h2 : batch < at'.length
      · exact rask_e3 w many sa at' batch sc rc coins hat hc (by omega) (by omega) h2
      · by_cases h3 : (coins.length : Int) = batch
        · subst h3
          exact rask_in w many sa at' sc rc coins hat hc (by omega) (by omega) (by omega)
        · exact rask_e4 w many sa at' batch sc rc coins hat hc (by omega) (by omega) (by omega) h3

end Go.Eng.R36
