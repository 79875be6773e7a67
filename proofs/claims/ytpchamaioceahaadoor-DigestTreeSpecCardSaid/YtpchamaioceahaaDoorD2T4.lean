/-
  Layer 2: walks of the digest functions. Conditions: each theorem says its own.
-/
import Derived.Test.YtpchamaioceahaaDoorD2T3
namespace Go.Abs.D2
open Go Go.Eng Go.Abs Go.Proofs 

set_option linter.unusedSimpArgs false in
set_option maxHeartbeats 1000000 in
theorem climbI_ok (d : List UInt8) (hd : d.length = 32) (a nn : Int) (P : List (List UInt8)) (hD : D32 P) : Con Tryd.prog 22 [.ag (d.map u8), .i .i64 a, .i .i64 nn, dgs P] (Ret (climbA d a nn P)) := by
  refine enter Tryd.func22 rfl Tryd.ntmps22 (by kernel_rfl) (Nat.le_of_ble_eq_true rfl) fun w0 X0 hI => ?_
  refine at_seq ?_
  refine at_region ?_
  refine at_op rfl (n_boxA 4 rfl rfl rfl ?_)
  refine at_op rfl (n_alloc 8 rfl ti26 rfl rfl ?_)
  refine s1 ((y_p rfl).v (v' := .i .i64 0) rfl) rfl <| ?_
  refine at_nil ?_
  refine x_tn ?_
  refine at_seq ?_
  refine at_seq ?_
  refine at_region ?_
  refine s1 (y_p rfl) rfl <| s1 (y_p rfl) rfl <| s1 (y_p rfl) rfl <| ?_
  refine g_or 2 rfl rfl rfl rfl (fun hb16 => .step (y_p rfl) rfl rfl <| .step (y_p rfl) rfl rfl <| .done) rfl rfl ?_
  refine s1 (y_p rfl) rfl <| ?_
  refine g_or 2 rfl rfl rfl rfl (fun hb20 => .step (y_p rfl) rfl rfl <| .step (y_p rfl) rfl rfl <| .done) rfl rfl ?_
  refine s1 (y_p rfl) rfl <| ?_
  refine g_or 3 rfl rfl rfl rfl (fun hb24 => .step (y_p rfl) rfl rfl <| .step (y_p rfl) rfl rfl <| .step (y_p rfl) rfl rfl <| .done) rfl rfl ?_
  refine at_nil ?_
  refine x_tn ?_
  refine at_cond rfl (fun hc28 => ?_) (fun hc28 => ?_)
  · have hbad : ¬ fits a nn P.length := by intro h; unfold fits at h; simp at hc28; omega
    refine at_seq ?_
    refine at_region ?_
    refine s1 (y_loadA0 ti26 rfl rfl (by simp)) rfl <| ?_
    refine at_op rfl (n_storeA ti26 rfl rfl rfl (by simp) (by simp) ?_)
    refine s1 ((y_p rfl).v (v' := .i .i64 1) rfl) rfl <| ?_
    refine at_nil ?_
    refine x_tn ?_
    refine at_ret ?_
    refine x_tr ?_
    refine at_result (rs := [.cell 8 26, .tmp 9]) rfl (r_cellA ti26 rfl rfl (List.take_of_length_le (by simp)) (by simp) (r_tmp rfl r_nil)) ?_
    rw [climbA, if_neg hbad]
    rfl
  · have h28 : 1 ≤ nn ∧ nn ≤ 1099511627776 ∧ 0 ≤ a ∧ a < nn := by simp at hc28; omega
    obtain ⟨i, rfl⟩ : ∃ i : Nat, a = (i : Int) := ⟨a.toNat, by omega⟩
    obtain ⟨n, rfl⟩ : ∃ n : Nat, nn = (n : Int) := ⟨nn.toNat, by omega⟩
    have hn1 : 1 ≤ n := by omega
    have hn : n ≤ 1099511627776 := by omega
    have hi : i < n := by omega
    refine at_skip ?_
    refine x_tn ?_
    refine at_seq ?_
    refine at_region ?_
    refine s1 (y_p rfl) rfl <| ?_
    refine at_nil ?_
    refine x_tn ?_
    refine at_seq ?_
    refine at_block ?_
    refine at_loop (ι := List Bool × Nat × Nat) (fun ⟨ds, i2, n2⟩ => [(1, .i .i64 (i2 : Nat)), (2, .i .i64 (n2 : Nat)), (3, dgs P), (4, .p 4 0), (8, .p 8 0), (10, .sl 10 1 0 ds.length)]) (fun ⟨ds, i2, n2⟩ => ⟨[(4, some (d.map u8)), (8, some (List.replicate 32 (u8 0))), (10, some (ds.map A.b))]⟩) (fun ⟨ds, i2, n2⟩ => rights i n = ds ++ rights i2 n2 ∧ 1 ≤ n2 ∧ i2 < n2 ∧ n2 ≤ n ∧ ds.length + (rights i2 n2).length ≤ n) (fun ⟨ds, i2, n2⟩ => n2) ?_ ?_
    · exact at_ex (([], i, n)) (⟨rfl, hn1, hi, Nat.le_refl _, by have := rights_le _ i n (Nat.le_refl _); simpa using this⟩) [(4, some 4), (8, some 8), (10, none)] hI rfl rfl ⟨⟨_, rfl, .pure pu⟩, ⟨_, rfl, .pure pu⟩, ⟨_, rfl, .pure pu⟩, ⟨_, rfl, .p rfl⟩, ⟨_, rfl, .p rfl⟩, ⟨_, rfl, .nl rfl⟩, trivial⟩ ⟨.inr ⟨_, _, rfl, rfl, .pure pul⟩, .inr ⟨_, _, rfl, rfl, .pure pul⟩, .inl ⟨rfl, rfl⟩, trivial⟩
    rintro ⟨ds, i2, n2⟩ ⟨hr, h1, hi2, hn2, hlen⟩
    dsimp only
    refine at_seq ?_
    refine at_seq ?_
    refine at_region ?_
    refine s1 (y_p rfl) rfl <| s1 (y_p rfl) rfl <| ?_
    refine at_nil ?_
    refine x_tn ?_
    refine at_cond rfl (fun hc31 => ?_) (fun hc31 => ?_)
    · have h31 : 2 ≤ n2 := by have := of_decide_eq_true hc31; omega
      have hh := halfN_lt h31
      refine at_skip ?_
      refine x_tn ?_
      refine at_block ?_
      refine at_seq ?_
      refine at_region ?_
      refine s1 (y_p rfl) rfl <| ?_
      refine at_op rfl (n_call false rfl (.cons (.pure pu) (.nil)) (half_ok n2 (by omega) (by omega)) pu (.inl rfl) rfl ?_)
      refine s1 (y_p rfl) rfl <| ?_
      refine at_nil ?_
      refine x_tn ?_
      refine at_seq ?_
      refine at_region ?_
      refine s1 (y_p rfl) rfl <| s1 (y_p rfl) rfl <| s1 (y_p rfl) rfl <| s1 (y_p rfl) rfl <| ?_
      refine at_op rfl (n_bs1 38 rfl Tryd.underlying56 ti4 rfl rfl rfl rfl rfl ?_)
      refine at_op rfl (n_app 39 rfl Tryd.underlying56 ti4 rfl (.sl rfl (by simp)) rfl (SM_full rfl (by first | rfl | omega | (simp; done) | (simp [*]; done) | (simp; omega) | (simp [*]; omega) | (simp [D32.len, -List.length_flatten, *]; done) | (simp [D32.len, -List.length_flatten, *]; omega))) (by first | rfl | omega | (simp; done) | (simp [*]; done) | (simp; omega) | (simp [*]; omega) | (simp [D32.len, -List.length_flatten, *]; done) | (simp [D32.len, -List.length_flatten, *]; omega)) (by simp only [maxLen]; omega) (by omega) rfl rfl rfl ?_)
      refine s1 (y_p rfl) rfl <| ?_
      refine at_nil ?_
      refine x_tn ?_
      refine at_seq ?_
      refine at_region ?_
      refine s1 (y_p rfl) rfl <| s1 (y_p rfl) rfl <| s1 (y_p rfl) rfl <| ?_
      refine at_nil ?_
      refine x_tn ?_
      refine at_cond rfl (fun hc42 => ?_) (fun hc42 => ?_)
      · have h42 : (i2 : Int) ≥ (halfN n2) := of_decide_eq_true hc42
        have h42n : ¬ i2 < (halfN n2) := by omega
        refine at_region ?_
        refine s1 (y_p rfl) rfl <| s1 (y_p rfl) rfl <| s1 (subN i2 (halfN n2) rfl rfl rfl rfl (by omega) (by omega)) rfl <| s1 (y_p rfl) rfl <| s1 (y_p rfl) rfl <| s1 (subN n2 (halfN n2) rfl rfl rfl rfl (by omega) (by omega)) rfl <| s1 (y_p rfl) rfl <| s1 (y_p rfl) rfl <| ?_
        refine at_nil ?_
        refine x_bn ?_
        exact at_end (x := (ds, i2, n2)) ((ds ++ [true], i2 - (halfN n2), n2 - (halfN n2))) (⟨by rw [hr, rights_right (by omega) h42n]; simp, by dsimp only; omega, by dsimp only; omega, by dsimp only; omega, by rw [rights_right (by omega) h42n, List.length_cons] at hlen; dsimp only; rw [List.length_append]; simp; omega⟩) (by dsimp only; omega) [(4, some 4), (8, some 8), (10, some 39)] hI rfl rfl ⟨⟨_, rfl, .pure pu⟩, ⟨_, rfl, .pure pu⟩, ⟨_, rfl, .pure pu⟩, ⟨_, rfl, .p rfl⟩, ⟨_, rfl, .p rfl⟩, ⟨_, rfl, .sl rfl (by first | rfl | omega | (simp; done) | (simp [*]; done) | (simp; omega) | (simp [*]; omega) | (simp [D32.len, -List.length_flatten, *]; done) | (simp [D32.len, -List.length_flatten, *]; omega))⟩, trivial⟩ ⟨.inr ⟨_, _, rfl, rfl, .pure pul⟩, .inr ⟨_, _, rfl, rfl, .pure pul⟩, .inr ⟨_, _, rfl, rfl, .of (by simp [h42]) (.pure pul)⟩, trivial⟩
      · have h42 : ¬ (i2 : Int) ≥ (halfN n2) := of_decide_eq_false hc42
        have h42n : i2 < (halfN n2) := by omega
        refine at_region ?_
        refine s1 (y_p rfl) rfl <| s1 (y_p rfl) rfl <| ?_
        refine at_nil ?_
        refine x_bn ?_
        exact at_end (x := (ds, i2, n2)) ((ds ++ [false], i2, (halfN n2))) (⟨by rw [hr, rights_left (by omega) h42n]; simp, by dsimp only; omega, by dsimp only; omega, by dsimp only; omega, by rw [rights_left (by omega) h42n, List.length_cons] at hlen; dsimp only; rw [List.length_append]; simp; omega⟩) (by dsimp only; omega) [(4, some 4), (8, some 8), (10, some 39)] hI rfl rfl ⟨⟨_, rfl, .pure pu⟩, ⟨_, rfl, .pure pu⟩, ⟨_, rfl, .pure pu⟩, ⟨_, rfl, .p rfl⟩, ⟨_, rfl, .p rfl⟩, ⟨_, rfl, .sl rfl (by first | rfl | omega | (simp; done) | (simp [*]; done) | (simp; omega) | (simp [*]; omega) | (simp [D32.len, -List.length_flatten, *]; done) | (simp [D32.len, -List.length_flatten, *]; omega))⟩, trivial⟩ ⟨.inr ⟨_, _, rfl, rfl, .pure pul⟩, .inr ⟨_, _, rfl, rfl, .pure pul⟩, .inr ⟨_, _, rfl, rfl, .of (by simp [h42]) (.pure pul)⟩, trivial⟩
    · have h31 : n2 = 1 := by have := of_decide_eq_false hc31; omega
      subst h31
      rw [rights_one (Nat.le_refl _), List.append_nil] at hr
      subst hr
      refine at_exit ?_
      refine x_te ?_
      refine x_te ?_
      refine x_be ?_
      refine x_tn ?_
      refine at_seq ?_
      refine at_seq ?_
      refine at_region ?_
      refine s1 (y_p rfl) rfl <| s1 (y_len Tryd.underlying30 rfl rfl rfl) rfl <| s1 (y_p rfl) rfl <| s1 (y_len Tryd.underlying56 rfl rfl rfl) rfl <| s1 (y_p rfl) rfl <| ?_
      refine at_nil ?_
      refine x_tn ?_
      refine at_cond rfl (fun hc54 => ?_) (fun hc54 => ?_)
      · have hbad : ¬ fits (i : Int) (n : Int) P.length := by
          intro h
          unfold fits at h
          have h5 := h.2.2.2.2
          rw [Int.toNat_natCast, Int.toNat_natCast] at h5
          have := bne_iff_ne.1 hc54
          omega
        refine at_seq ?_
        refine at_region ?_
        refine s1 (y_loadA0 ti26 rfl rfl (by simp)) rfl <| ?_
        refine at_op rfl (n_storeA ti26 rfl rfl rfl (by simp) (by simp) ?_)
        refine s1 ((y_p rfl).v (v' := .i .i64 1) rfl) rfl <| ?_
        refine at_nil ?_
        refine x_tn ?_
        refine at_ret ?_
        refine x_tr ?_
        refine at_result (rs := [.cell 8 26, .tmp 9]) rfl (r_cellA ti26 rfl rfl (List.take_of_length_le (by simp)) (by simp) (r_tmp rfl r_nil)) ?_
        rw [climbA, if_neg hbad]
        rfl
      · have hP : P.length = (rights i n).length := by have := bne_eq_false_iff_eq.1 hc54; omega
        have hfit : fits (i : Int) (n : Int) P.length := ⟨by omega, by omega, by omega, by omega, by rw [Int.toNat_natCast, Int.toNat_natCast]; exact hP⟩
        refine at_skip ?_
        refine x_tn ?_
        refine at_seq ?_
        refine at_region ?_
        refine s1 (y_cuta0 Tryd.underlying26 ti5 rfl rfl (by simp [hd]) (by simp [maxLen])) rfl <| ?_
        refine at_op rfl (n_call true rfl (.cons (.pure pu) (.cons (.sl rfl rfl (by first | rfl | omega | (simp; done) | (simp [*]; done) | (simp; omega) | (simp [*]; omega) | (simp [D32.len, -List.length_flatten, *]; done) | (simp [D32.len, -List.length_flatten, *]; omega)) (view_eq (by first | rfl | omega | (simp; done) | (simp [*]; done) | (simp; omega) | (simp [*]; omega) | (simp [D32.len, -List.length_flatten, *]; done) | (simp [D32.len, -List.length_flatten, *]; omega)) (by first | rfl | (simp; done) | (simp [*]; done))) (VwL.pure pul) pul) (.nil))) (by have h := tagged_ok [108, 101, 97, 102] d (by omega) (by simp); rw [hd] at h; exact h) pu (.inr fu) rfl ?_)
        refine at_op rfl (n_storeA ti26 rfl rfl rfl (by simp) (by simp) ?_)
        refine at_nil ?_
        refine x_tn ?_
        refine at_seq ?_
        refine at_seq ?_
        refine at_region ?_
        refine s1 (y_p rfl) rfl <| s1 (y_len Tryd.underlying30 rfl rfl rfl) rfl <| s1 ((y_p rfl).v (v' := .i .i64 0) rfl) rfl <| ?_
        refine at_nil ?_
        refine x_tn ?_
        refine at_block ?_
        refine at_loop (ι := Nat) (fun j => [(8, .p 8 0), (10, .sl 10 1 0 (rights i n).length), (58, dgs P), (59, .i .i64 (P.length : Nat)), (60, .i .i64 (j : Nat))]) (fun j => ⟨[(8, some ((fold ((rights i n).reverse.take j) (P.take j) (leafD d)).map u8)), (10, some ((rights i n).map A.b))]⟩) (fun j => j ≤ P.length) (fun j => P.length - j) ?_ ?_
        · exact at_ex (0) (Nat.zero_le _) [(8, some 8), (10, some 10)] hI rfl rfl ⟨⟨_, rfl, .p rfl⟩, ⟨_, rfl, .sl rfl (by first | rfl | omega | (simp; done) | (simp [*]; done) | (simp; omega) | (simp [*]; omega) | (simp [D32.len, -List.length_flatten, *]; done) | (simp [D32.len, -List.length_flatten, *]; omega))⟩, ⟨_, rfl, .pure pu⟩, ⟨_, rfl, .pure pu⟩, ⟨_, rfl, .pure pu⟩, trivial⟩ ⟨.inr ⟨_, _, rfl, rfl, .of (by rw [List.take_zero]; rfl) (.pure pul)⟩, .inr ⟨_, _, rfl, rfl, .pure pul⟩, trivial⟩
        rintro j hj
        have hlf : (fold ((rights i n).reverse.take j) (P.take j) (leafD d)).length = 32 := len_fold _ _ _ (len_tagged _ _)
        have hrl := rights_le _ i n (Nat.le_refl _)
        refine at_seq ?_
        refine at_region ?_
        refine s1 (y_p rfl) rfl <| ?_
        refine at_nil ?_
        refine x_tn ?_
        refine at_seq ?_
        refine at_cond rfl (fun hc61 => ?_) (fun hc61 => ?_)
        · have hj2 : j < P.length := by have := of_decide_eq_true hc61; omega
          obtain ⟨q, hq⟩ : ∃ q, P[j]? = some q := ⟨_, List.getElem?_eq_getElem hj2⟩
          have hq32 : q.length = 32 := hD q (List.mem_of_getElem? hq)
          obtain ⟨b, hb⟩ : ∃ b, (rights i n).reverse[j]? = some b := ⟨_, List.getElem?_eq_getElem (by simp; omega)⟩
          have hb2 : (rights i n)[(rights i n).length - 1 - j]? = some b := by rw [List.getElem?_reverse (by omega)] at hb; exact hb
          refine at_skip ?_
          refine x_tn ?_
          refine at_seq ?_
          refine at_block ?_
          refine at_seq ?_
          refine at_region ?_
          refine s1 (y_p rfl) rfl <| s1 (y_ixf j Tryd.underlying30 ti26 rfl rfl rfl (by omega) rfl) rfl <| s1 (y_loadA ti26 rfl rfl (get_d hD hq) (by simp [hq32])) rfl <| ?_
          refine at_op rfl (n_alloc 13 rfl ti26 rfl rfl ?_)
          refine s1 (y_p rfl) rfl <| ?_
          refine at_op rfl (n_storeA ti26 rfl rfl rfl (by simp [hq32]) (by simp) ?_)
          refine at_nil ?_
          refine x_tn ?_
          refine at_seq ?_
          refine at_region ?_
          refine s1 (y_p rfl) rfl <| s1 (y_p rfl) rfl <| s1 (y_len Tryd.underlying56 rfl rfl rfl) rfl <| s1 (subN (rights i n).length 1 rfl rfl rfl rfl (by omega) (by omega)) rfl <| s1 (y_p rfl) rfl <| s1 (subN ((rights i n).length - 1) j rfl rfl rfl rfl (by omega) (by omega)) rfl <| s1 (y_ixs ((rights i n).length - 1 - j) Tryd.underlying56 ti4 rfl rfl rfl rfl (by omega) rfl) rfl <| s1 (y_load ti4 rfl rfl (get_b hb2)) rfl <| ?_
          refine at_nil ?_
          refine x_tn ?_
          refine at_cond rfl (fun hc72 => ?_) (fun hc72 => ?_)
          · skip
            refine at_region ?_
            refine s1 (y_loadA0 ti26 rfl rfl (by simp [hq32])) rfl <| s1 (y_loadA0 ti26 rfl rfl (by simp [hlf])) rfl <| ?_
            refine at_op rfl (n_call false rfl (.cons (.pure pu) (.cons (.pure pu) (.nil))) (node_ok (fun t b h1 h2 => tagged_ok t b (by omega) (by omega)) q _ hq32 hlf) pu (.inl rfl) rfl ?_)
            refine at_op rfl (n_storeA ti26 rfl rfl rfl (by simp) (by simp [hlf]) ?_)
            refine at_nil ?_
            refine x_bn ?_
            refine x_tn ?_
            refine at_region ?_
            refine s1 (addN _ 1 rfl rfl rfl rfl (by omega)) rfl <| s1 (y_p rfl) rfl <| ?_
            refine at_nil ?_
            exact at_end (j + 1) (by omega) (by omega) [(8, some 8), (10, some 10)] hI rfl rfl ⟨⟨_, rfl, .p rfl⟩, ⟨_, rfl, .sl rfl (by first | rfl | omega | (simp; done) | (simp [*]; done) | (simp; omega) | (simp [*]; omega) | (simp [D32.len, -List.length_flatten, *]; done) | (simp [D32.len, -List.length_flatten, *]; omega))⟩, ⟨_, rfl, .pure pu⟩, ⟨_, rfl, .pure pu⟩, ⟨_, rfl, .pure pu⟩, trivial⟩ ⟨.inr ⟨_, _, rfl, rfl, .of (by rw [fold_take hb hq, if_pos hc72]; rfl) (.pure pul)⟩, .inr ⟨_, _, rfl, rfl, .pure pul⟩, trivial⟩
          · skip
            refine at_region ?_
            refine s1 (y_loadA0 ti26 rfl rfl (by simp [hlf])) rfl <| s1 (y_loadA0 ti26 rfl rfl (by simp [hq32])) rfl <| ?_
            refine at_op rfl (n_call false rfl (.cons (.pure pu) (.cons (.pure pu) (.nil))) (node_ok (fun t b h1 h2 => tagged_ok t b (by omega) (by omega)) _ q hlf hq32) pu (.inl rfl) rfl ?_)
            refine at_op rfl (n_storeA ti26 rfl rfl rfl (by simp) (by simp [hlf]) ?_)
            refine at_nil ?_
            refine x_bn ?_
            refine x_tn ?_
            refine at_region ?_
            refine s1 (addN _ 1 rfl rfl rfl rfl (by omega)) rfl <| s1 (y_p rfl) rfl <| ?_
            refine at_nil ?_
            exact at_end (j + 1) (by omega) (by omega) [(8, some 8), (10, some 10)] hI rfl rfl ⟨⟨_, rfl, .p rfl⟩, ⟨_, rfl, .sl rfl (by first | rfl | omega | (simp; done) | (simp [*]; done) | (simp; omega) | (simp [*]; omega) | (simp [D32.len, -List.length_flatten, *]; done) | (simp [D32.len, -List.length_flatten, *]; omega))⟩, ⟨_, rfl, .pure pu⟩, ⟨_, rfl, .pure pu⟩, ⟨_, rfl, .pure pu⟩, trivial⟩ ⟨.inr ⟨_, _, rfl, rfl, .of (by rw [fold_take hb hq, if_neg (by rw [hc72]; decide)]; rfl) (.pure pul)⟩, .inr ⟨_, _, rfl, rfl, .pure pul⟩, trivial⟩
        · have hj2 : j = P.length := by have := of_decide_eq_false hc61; omega
          subst hj2
          have hct : fold ((rights i n).reverse.take P.length) (P.take P.length) (leafD d) = climb d i n P := by rw [List.take_length, List.take_of_length_le (by simp; omega)]; rfl
          refine at_exit ?_
          refine x_te ?_
          refine x_te ?_
          refine x_be ?_
          refine x_tn ?_
          refine at_seq ?_
          refine at_sayO 8 rfl (cs' := (climb d i n P).map u8) (by rw [hct]) ?_
          refine at_region ?_
          refine s1 (y_loadA0 ti26 rfl rfl (by simp)) rfl <| ?_
          refine at_op rfl (n_storeA ti26 rfl rfl rfl (by simp) (by simp) ?_)
          refine s1 ((y_p rfl).v (v' := .i .i64 0) rfl) rfl <| ?_
          refine at_nil ?_
          refine x_tn ?_
          refine at_ret ?_
          refine at_result (rs := [.cell 8 26, .tmp 9]) rfl (r_cellA ti26 rfl rfl (List.take_of_length_le (by simp)) (by simp) (r_tmp rfl r_nil)) ?_
          rw [climbA, if_pos hfit, Int.toNat_natCast, Int.toNat_natCast]
          rfl

end Go.Abs.D2
