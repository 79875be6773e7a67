/-
  Layer 2: walks of the digest functions. Conditions: each theorem says its own.
-/
import Derived.Test.YtjnbpinnjbdnpaaV6E
namespace Go.Abs.D2
open Go Go.Eng Go.Abs Go.Proofs 

set_option linter.unusedSimpArgs false in
set_option linter.unusedVariables false in
set_option maxHeartbeats 1000000 in
set_option maxRecDepth 10000 in
theorem law_reads (db : List (List UInt8)) (at1 : List Int) (batch : Int) (coins : List (List UInt8)) (hn1 : db.length ≤ maxLen) (hn2 : coins.length ≤ maxLen) : Con Try.prog 6 [.fz db.length (db.map V6.slV), .fz at1.length (at1.map (A.i .i64)), .i .i64 batch, .fz coins.length (coins.map V6.slV)] (Ret (.b true)) := by
  refine enter Try.func6 rfl Try.ntmps6 (by kernel_rfl) (Nat.le_of_ble_eq_true rfl) fun w0 X0 hI => ?_
  refine at_seq ?_
  refine at_region ?_
  refine s1 (y_p rfl) rfl <| ?_
  refine at_nil ?_
  refine x_tn ?_
  refine at_seq ?_
  refine at_seq ?_
  refine at_region ?_
  refine at_op rfl (n_call false rfl (.nil) (sane_ok) pu (.inl rfl) rfl ?_)
  refine s1 (y_p rfl) rfl <| ?_
  refine at_nil ?_
  refine x_tn ?_
  refine at_else rfl ?_
  refine at_skip ?_
  refine x_tn ?_
  refine at_seq ?_
  refine at_seq ?_
  rcases few3 (V6.few db 100) (V6.few coins 20) with hcs | hcs | hcs
  · skip
    refine at_region ?_
    refine s1 (y_p rfl) rfl <| ?_
    refine at_op rfl (n_call false rfl (.cons (.pure pu) (.cons (.pure pu) (.nil))) (Con.cast (few_ok db 100 hn1) (congrArg A.b hcs)) pu (.inl rfl) rfl ?_)
    refine s1 (y_p rfl) rfl <| s1 (y_p rfl) rfl <| g0 rfl rfl rfl rfl <| g0 rfl rfl rfl rfl <| g0 rfl rfl rfl rfl <| s1 (y_p rfl) rfl <| s1 (y_p rfl) rfl <| g0 rfl rfl rfl rfl <| g0 rfl rfl rfl rfl <| g0 rfl rfl rfl rfl <| ?_
    refine s1 (y_p rfl) rfl <| ?_
    refine at_nil ?_
    refine x_tn ?_
    refine at_then rfl ?_
    refine at_seq ?_
    refine at_region ?_
    refine s1 (y_p rfl) rfl <| ?_
    refine at_nil ?_
    refine x_tn ?_
    refine at_ret ?_
    refine x_tr ?_
    refine at_result (rs := [.tmp 8]) rfl (r_tmp rfl r_nil) ?_
    rfl
  · obtain ⟨hf1, hf2⟩ := hcs
    refine at_region ?_
    refine s1 (y_p rfl) rfl <| ?_
    refine at_op rfl (n_call false rfl (.cons (.pure pu) (.cons (.pure pu) (.nil))) (Con.cast (few_ok db 100 hn1) (congrArg A.b hf1)) pu (.inl rfl) rfl ?_)
    refine s1 (y_p rfl) rfl <| s1 (y_p rfl) rfl <| g1 rfl rfl (y_p rfl) rfl <| ?_
    refine at_opg rfl rfl rfl (n_call false rfl (.cons (.pure pu) (.cons (.pure pu) (.nil))) (Con.cast (few_ok coins 20 hn2) (congrArg A.b hf2)) pu (.inl rfl) rfl ?_)
    refine g1 rfl rfl (y_p rfl) rfl <| s1 (y_p rfl) rfl <| s1 (y_p rfl) rfl <| g0 rfl rfl rfl rfl <| g0 rfl rfl rfl rfl <| g0 rfl rfl rfl rfl <| s1 (y_p rfl) rfl <| ?_
    refine at_nil ?_
    refine x_tn ?_
    refine at_then rfl ?_
    refine at_seq ?_
    refine at_region ?_
    refine s1 (y_p rfl) rfl <| ?_
    refine at_nil ?_
    refine x_tn ?_
    refine at_ret ?_
    refine x_tr ?_
    refine at_result (rs := [.tmp 8]) rfl (r_tmp rfl r_nil) ?_
    rfl
  · obtain ⟨hf1, hf2⟩ := hcs
    refine at_region ?_
    refine s1 (y_p rfl) rfl <| ?_
    refine at_op rfl (n_call false rfl (.cons (.pure pu) (.cons (.pure pu) (.nil))) (Con.cast (few_ok db 100 hn1) (congrArg A.b hf1)) pu (.inl rfl) rfl ?_)
    refine s1 (y_p rfl) rfl <| s1 (y_p rfl) rfl <| g1 rfl rfl (y_p rfl) rfl <| ?_
    refine at_opg rfl rfl rfl (n_call false rfl (.cons (.pure pu) (.cons (.pure pu) (.nil))) (Con.cast (few_ok coins 20 hn2) (congrArg A.b hf2)) pu (.inl rfl) rfl ?_)
    refine g1 rfl rfl (y_p rfl) rfl <| s1 (y_p rfl) rfl <| s1 (y_p rfl) rfl <| g1 rfl rfl (y_p rfl) rfl <| g1 rfl rfl (y_len Try.underlying41 rfl rfl rfl) rfl <| g1 rfl rfl (y_p rfl) rfl <| s1 (y_p rfl) rfl <| ?_
    refine at_nil ?_
    refine x_tn ?_
    refine at_cond rfl (fun hc36 => ?_) (fun hc36 => ?_)
    · skip
      refine at_seq ?_
      refine at_region ?_
      refine s1 (y_p rfl) rfl <| ?_
      refine at_nil ?_
      refine x_tn ?_
      refine at_ret ?_
      refine x_tr ?_
      refine at_result (rs := [.tmp 8]) rfl (r_tmp rfl r_nil) ?_
      rfl
    · skip
      refine at_skip ?_
      refine x_tn ?_
      refine at_seq ?_
      rcases ask_split (db.length : Nat) at1 batch coins with hcs | hcs
      · obtain ⟨e, he, hA⟩ := hcs
        refine at_region ?_
        refine s1 (y_p rfl) rfl <| s1 (y_len Try.underlying30 rfl rfl rfl) rfl <| s1 (y_p rfl) rfl <| s1 (y_p rfl) rfl <| s1 (y_p rfl) rfl <| ?_
        refine at_op rfl (n_call false rfl (.cons (.pure pu) (.cons (.pure pu) (.cons (.pure pu) (.cons (.pure pu) (.nil))))) (Con.cast (vask_ok (db.length : Nat) at1 batch coins) hA) pu (.inl rfl) rfl ?_)
        refine s1 (y_p rfl) rfl <| s1 (y_p rfl) rfl <| s1 (y_p rfl) rfl <| s1 (y_p rfl) rfl <| ?_
        refine at_op rfl (n_alloc 9 rfl ti32 rfl rfl ?_)
        refine at_op rfl (n_alloc 10 rfl ti32 rfl rfl ?_)
        refine at_op rfl (n_storeA ti32 rfl rfl rfl (by first | rfl | omega | (simp; done) | (simp [*]; done) | (simp; omega) | (simp [*]; omega) | (simp [D32.len, -List.length_flatten, *]; done) | (simp [D32.len, -List.length_flatten, *]; omega)) (by first | rfl | omega | (simp; done) | (simp [*]; done) | (simp; omega) | (simp [*]; omega) | (simp [D32.len, -List.length_flatten, *]; done) | (simp [D32.len, -List.length_flatten, *]; omega)) ?_)
        refine at_op rfl (n_storeA ti32 rfl rfl rfl (by first | rfl | omega | (simp; done) | (simp [*]; done) | (simp; omega) | (simp [*]; omega) | (simp [D32.len, -List.length_flatten, *]; done) | (simp [D32.len, -List.length_flatten, *]; omega)) (by first | rfl | omega | (simp; done) | (simp [*]; done) | (simp; omega) | (simp [*]; omega) | (simp [D32.len, -List.length_flatten, *]; done) | (simp [D32.len, -List.length_flatten, *]; omega)) ?_)
        refine s1 (y_p rfl) rfl <| ?_
        refine at_nil ?_
        refine x_tn ?_
        refine at_seq ?_
        refine at_seq ?_
        refine at_region ?_
        refine s1 (y_p rfl) rfl <| s1 ((y_p rfl).v (v' := .b true) (congrArg A.b (by simpa using he))) rfl <| ?_
        refine at_nil ?_
        refine x_tn ?_
        refine at_then rfl ?_
        refine at_seq ?_
        refine at_region ?_
        refine s1 (y_fld Try.underlying32 rfl ti30 (by decide) rfl rfl) rfl <| s1 (y_load ti30 rfl rfl rfl) rfl <| s1 (y_len Try.underlying30 rfl rfl rfl) rfl <| s1 (y_fld Try.underlying32 rfl ti30 (by decide) rfl rfl) rfl <| s1 (y_load ti30 rfl rfl rfl) rfl <| s1 (y_len Try.underlying30 rfl rfl rfl) rfl <| s1 (addN 0 0 rfl rfl rfl rfl (by omega)) rfl <| s1 ((y_p rfl).v (v' := .b true) (rfl)) rfl <| s1 (y_p rfl) rfl <| ?_
        refine at_nil ?_
        refine x_tn ?_
        refine at_ret ?_
        refine x_tr ?_
        refine at_result (rs := [.tmp 8]) rfl (r_tmp rfl r_nil) ?_
        rfl
      · obtain ⟨a, b, hA, rfl, c1, c2, c3, hal, hbl, hR⟩ := hcs
        refine at_region ?_
        refine s1 (y_p rfl) rfl <| s1 (y_len Try.underlying30 rfl rfl rfl) rfl <| s1 (y_p rfl) rfl <| s1 (y_p rfl) rfl <| s1 (y_p rfl) rfl <| ?_
        refine at_op rfl (n_call false rfl (.cons (.pure pu) (.cons (.pure pu) (.cons (.pure pu) (.cons (.pure pu) (.nil))))) (Con.cast (vask_ok (db.length : Nat) at1 (coins.length : Nat) coins) hA) pu (.inl rfl) rfl ?_)
        refine s1 (y_p rfl) rfl <| s1 (y_p rfl) rfl <| s1 (y_p rfl) rfl <| s1 (y_p rfl) rfl <| ?_
        refine at_op rfl (n_alloc 9 rfl ti32 rfl rfl ?_)
        refine at_op rfl (n_alloc 10 rfl ti32 rfl rfl ?_)
        refine at_op rfl (n_storeA ti32 rfl rfl rfl (by first | rfl | omega | (simp; done) | (simp [*]; done) | (simp; omega) | (simp [*]; omega) | (simp [D32.len, -List.length_flatten, *]; done) | (simp [D32.len, -List.length_flatten, *]; omega)) (by first | rfl | omega | (simp; done) | (simp [*]; done) | (simp; omega) | (simp [*]; omega) | (simp [D32.len, -List.length_flatten, *]; done) | (simp [D32.len, -List.length_flatten, *]; omega)) ?_)
        refine at_op rfl (n_storeA ti32 rfl rfl rfl (by first | rfl | omega | (simp; done) | (simp [*]; done) | (simp; omega) | (simp [*]; omega) | (simp [D32.len, -List.length_flatten, *]; done) | (simp [D32.len, -List.length_flatten, *]; omega)) (by first | rfl | omega | (simp; done) | (simp [*]; done) | (simp; omega) | (simp [*]; omega) | (simp [D32.len, -List.length_flatten, *]; done) | (simp [D32.len, -List.length_flatten, *]; omega)) ?_)
        refine s1 (y_p rfl) rfl <| ?_
        refine at_nil ?_
        refine x_tn ?_
        refine at_seq ?_
        refine at_seq ?_
        refine at_region ?_
        refine s1 (y_p rfl) rfl <| s1 ((y_p rfl).v (v' := .b false) (rfl)) rfl <| ?_
        refine at_nil ?_
        refine x_tn ?_
        refine at_else rfl ?_
        refine at_skip ?_
        refine x_tn ?_
        refine at_seq ?_
        rcases reads_cases c1 c2 hal hbl hR with hcs | hcs
        · obtain ⟨hany, ha1, hb1⟩ := hcs
          have hn3 := hn1
          simp only [maxLen] at hn3
          refine at_region ?_
          refine s1 (y_p rfl) rfl <| s1 (y_loadA0 ti32 rfl rfl rfl) rfl <| ?_
          refine at_op rfl (n_call false rfl (.cons (.pure pu) (.cons (.pure pu) (.nil))) (Con.cast (vanswer_ok db a) (answersA_no ha1)) pu (.inl rfl) rfl ?_)
          refine s1 (y_p rfl) rfl <| s1 (y_p rfl) rfl <| s1 (y_p rfl) rfl <| ?_
          refine at_op rfl (n_alloc 12 rfl ti35 rfl rfl ?_)
          refine at_op rfl (n_storeA ti35 rfl rfl rfl (by first | rfl | omega | (simp; done) | (simp [*]; done) | (simp; omega) | (simp [*]; omega) | (simp [D32.len, -List.length_flatten, *]; done) | (simp [D32.len, -List.length_flatten, *]; omega)) (by first | rfl | omega | (simp; done) | (simp [*]; done) | (simp; omega) | (simp [*]; omega) | (simp [D32.len, -List.length_flatten, *]; done) | (simp [D32.len, -List.length_flatten, *]; omega)) ?_)
          refine s1 (y_p rfl) rfl <| ?_
          refine at_nil ?_
          refine x_tn ?_
          refine at_seq ?_
          refine at_region ?_
          refine s1 (y_p rfl) rfl <| s1 (y_loadA0 ti32 rfl rfl rfl) rfl <| ?_
          refine at_op rfl (n_call false rfl (.cons (.pure pu) (.cons (.pure pu) (.nil))) (Con.cast (vanswer_ok db b) (answersA_no hb1)) pu (.inl rfl) rfl ?_)
          refine s1 (y_p rfl) rfl <| s1 (y_p rfl) rfl <| s1 (y_p rfl) rfl <| ?_
          refine at_op rfl (n_alloc 14 rfl ti35 rfl rfl ?_)
          refine at_op rfl (n_storeA ti35 rfl rfl rfl (by first | rfl | omega | (simp; done) | (simp [*]; done) | (simp; omega) | (simp [*]; omega) | (simp [D32.len, -List.length_flatten, *]; done) | (simp [D32.len, -List.length_flatten, *]; omega)) (by first | rfl | omega | (simp; done) | (simp [*]; done) | (simp; omega) | (simp [*]; omega) | (simp [D32.len, -List.length_flatten, *]; done) | (simp [D32.len, -List.length_flatten, *]; omega)) ?_)
          refine s1 (y_p rfl) rfl <| ?_
          refine at_nil ?_
          refine x_tn ?_
          refine at_seq ?_
          refine at_seq ?_
          refine at_region ?_
          refine s1 (y_p rfl) rfl <| s1 ((y_p rfl).v (v' := .b true) (rfl)) rfl <| s1 (y_p rfl) rfl <| g0 rfl rfl rfl rfl <| g0 rfl rfl rfl rfl <| s1 (y_p rfl) rfl <| ?_
          refine at_nil ?_
          refine x_tn ?_
          refine at_then rfl ?_
          refine at_seq ?_
          refine at_seq ?_
          refine at_region ?_
          refine s1 (y_p rfl) rfl <| s1 (y_len Try.underlying30 rfl rfl rfl) rfl <| s1 ((y_p rfl).v (v' := .i .i64 0) rfl) rfl <| ?_
          refine at_nil ?_
          refine x_tn ?_
          refine at_block ?_
          refine at_loop (ι := Nat) (fun i => [(13, .i .i64 360), (15, .i .i64 360), (75, .fz db.length (db.map V6.slV)), (76, nV db.length), (77, nV i)]) (fun i => ⟨[]⟩) (fun i => i ≤ db.length ∧ (db.take i).any no16 = false) (fun i => db.length - i) ?_ ?_
          · exact at_ex (0) (⟨Nat.zero_le _, rfl⟩) [] hI rfl rfl ⟨⟨_, rfl, .pure pu⟩, ⟨_, rfl, .pure pu⟩, ⟨_, rfl, .pure pu⟩, ⟨_, rfl, .pure pu⟩, ⟨_, rfl, .pure pu⟩, trivial⟩ trivial
          rintro i ⟨hi, hi2⟩
          refine at_seq ?_
          refine at_region ?_
          refine s1 (y_p rfl) rfl <| ?_
          refine at_nil ?_
          refine x_tn ?_
          refine at_seq ?_
          refine at_cond rfl (fun hc78 => ?_) (fun hc78 => ?_)
          · have h78 : i < db.length := by have := of_decide_eq_true hc78; omega
            obtain ⟨q, hq⟩ : ∃ q, db[i]? = some q := ⟨_, List.getElem?_eq_getElem h78⟩
            refine at_skip ?_
            refine x_tn ?_
            refine at_seq ?_
            refine at_block ?_
            refine at_seq ?_
            refine at_region ?_
            refine s1 (y_ixf i Try.underlying30 ti22 rfl rfl rfl (by omega) rfl) rfl <| s1 (y_load ti22 rfl rfl (V6.getR hq)) rfl <| s1 (y_p rfl) rfl <| ?_
            refine at_nil ?_
            refine x_tn ?_
            refine at_seq ?_
            refine at_region ?_
            refine s1 (y_p rfl) rfl <| s1 (y_len Try.underlying22 rfl rfl rfl) rfl <| s1 (y_p rfl) rfl <| ?_
            refine at_nil ?_
            refine x_tn ?_
            refine at_cond rfl (fun hc83 => ?_) (fun hc83 => ?_)
            · skip
              refine at_seq ?_
              refine at_region ?_
              refine s1 (y_p rfl) rfl <| s1 ((y_p rfl).v (v' := .b true) (rfl)) rfl <| s1 (y_p rfl) rfl <| g1 rfl rfl (y_p rfl) rfl <| g1 rfl rfl (y_p rfl) rfl <| g1 rfl rfl ((y_p rfl).v (v' := .b true) (rfl)) rfl <| s1 (y_p rfl) rfl <| s1 (y_p rfl) rfl <| ?_
              refine at_nil ?_
              refine x_tn ?_
              refine at_ret ?_
              refine x_br ?_
              refine x_tr ?_
              refine x_tr ?_
              refine x_br ?_
              refine x_tr ?_
              refine x_tr ?_
              refine at_result (rs := [.tmp 8]) rfl (r_tmp rfl r_nil) ?_
              rfl
            · have h83 : no16 q = false := (V6.no16_b q).symm.trans hc83
              refine at_skip ?_
              refine x_bn ?_
              refine x_tn ?_
              refine at_region ?_
              refine s1 (addN _ 1 rfl rfl rfl rfl (by omega)) rfl <| s1 (y_p rfl) rfl <| ?_
              refine at_nil ?_
              exact at_end (i + 1) (⟨by omega, take_any hq hi2 h83⟩) (by omega) [] hI rfl rfl ⟨⟨_, rfl, .pure pu⟩, ⟨_, rfl, .pure pu⟩, ⟨_, rfl, .pure pu⟩, ⟨_, rfl, .pure pu⟩, ⟨_, rfl, .pure pu⟩, trivial⟩ trivial
          · have h78 : i = db.length := by have := of_decide_eq_false hc78; omega
            subst h78
            rw [List.take_length, hany] at hi2
            refine at_exit ?_
            refine x_te ?_
            refine x_te ?_
            refine x_be ?_
            refine x_tn ?_
            refine at_seq ?_
            refine at_region ?_
            refine s1 (y_p rfl) rfl <| ?_
            refine at_nil ?_
            refine x_tn ?_
            refine at_ret ?_
            refine x_tr ?_
            refine at_result (rs := [.tmp 8]) rfl (r_tmp rfl r_nil) ?_
            exact absurd hi2 (by decide)
        · obtain ⟨hany, ha1, hb1⟩ := hcs
          have hn3 := hn1
          simp only [maxLen] at hn3
          refine at_region ?_
          refine s1 (y_p rfl) rfl <| s1 (y_loadA0 ti32 rfl rfl rfl) rfl <| ?_
          refine at_op rfl (n_call false rfl (.cons (.pure pu) (.cons (.pure pu) (.nil))) (Con.cast (vanswer_ok db a) (answersA_yes ha1)) pu (.inl rfl) rfl ?_)
          refine s1 (y_p rfl) rfl <| s1 (y_p rfl) rfl <| s1 (y_p rfl) rfl <| ?_
          refine at_op rfl (n_alloc 12 rfl ti35 rfl rfl ?_)
          refine at_op rfl (n_storeA ti35 rfl rfl rfl (by first | rfl | omega | (simp; done) | (simp [*]; done) | (simp; omega) | (simp [*]; omega) | (simp [D32.len, -List.length_flatten, *]; done) | (simp [D32.len, -List.length_flatten, *]; omega)) (by first | rfl | omega | (simp; done) | (simp [*]; done) | (simp; omega) | (simp [*]; omega) | (simp [D32.len, -List.length_flatten, *]; done) | (simp [D32.len, -List.length_flatten, *]; omega)) ?_)
          refine s1 (y_p rfl) rfl <| ?_
          refine at_nil ?_
          refine x_tn ?_
          refine at_seq ?_
          refine at_region ?_
          refine s1 (y_p rfl) rfl <| s1 (y_loadA0 ti32 rfl rfl rfl) rfl <| ?_
          refine at_op rfl (n_call false rfl (.cons (.pure pu) (.cons (.pure pu) (.nil))) (Con.cast (vanswer_ok db b) (answersA_yes hb1)) pu (.inl rfl) rfl ?_)
          refine s1 (y_p rfl) rfl <| s1 (y_p rfl) rfl <| s1 (y_p rfl) rfl <| ?_
          refine at_op rfl (n_alloc 14 rfl ti35 rfl rfl ?_)
          refine at_op rfl (n_storeA ti35 rfl rfl rfl (by first | rfl | omega | (simp; done) | (simp [*]; done) | (simp; omega) | (simp [*]; omega) | (simp [D32.len, -List.length_flatten, *]; done) | (simp [D32.len, -List.length_flatten, *]; omega)) (by first | rfl | omega | (simp; done) | (simp [*]; done) | (simp; omega) | (simp [*]; omega) | (simp [D32.len, -List.length_flatten, *]; done) | (simp [D32.len, -List.length_flatten, *]; omega)) ?_)
          refine s1 (y_p rfl) rfl <| ?_
          refine at_nil ?_
          refine x_tn ?_
          refine at_seq ?_
          refine at_seq ?_
          refine at_region ?_
          refine s1 (y_p rfl) rfl <| s1 ((y_p rfl).v (v' := .b false) (rfl)) rfl <| s1 (y_p rfl) rfl <| g1 rfl rfl (y_p rfl) rfl <| g1 rfl rfl ((y_p rfl).v (v' := .b false) (rfl)) rfl <| s1 (y_p rfl) rfl <| ?_
          refine at_nil ?_
          refine x_tn ?_
          refine at_else rfl ?_
          refine at_skip ?_
          refine x_tn ?_
          refine at_seq ?_
          refine at_seq ?_
          refine at_region ?_
          refine s1 (y_fld Try.underlying35 rfl ti30 (by decide) rfl rfl) rfl <| s1 (y_load ti30 rfl rfl rfl) rfl <| s1 (y_len Try.underlying30 rfl rfl rfl) rfl <| s1 (y_p rfl) rfl <| s1 ((y_p rfl).v (v' := .b false) (congrArg A.b (by simp [hal]))) rfl <| s1 (y_p rfl) rfl <| g1 rfl rfl (y_fld Try.underlying35 rfl ti30 (by decide) rfl rfl) rfl <| g1 rfl rfl (y_load ti30 rfl rfl rfl) rfl <| g1 rfl rfl (y_len Try.underlying30 rfl rfl rfl) rfl <| g1 rfl rfl (y_p rfl) rfl <| ?_
          refine g1 rfl rfl ((y_p rfl).v (v' := .b false) (congrArg A.b (by simp [hbl]))) rfl <| s1 (y_p rfl) rfl <| ?_
          refine at_nil ?_
          refine x_tn ?_
          refine at_else rfl ?_
          refine at_skip ?_
          refine x_tn ?_
          refine at_seq ?_
          refine at_seq ?_
          refine at_region ?_
          refine s1 (y_p rfl) rfl <| s1 ((y_p rfl).v (v' := .i .i64 0) rfl) rfl <| ?_
          refine at_nil ?_
          refine x_tn ?_
          refine at_block ?_
          refine at_loop (ι := Nat) (fun k => [(0, .fz db.length (db.map V6.slV)), (1, .fz at1.length (at1.map (A.i .i64))), (12, .p 12 0), (14, .p 14 0), (104, nV coins.length), (105, nV k)]) (fun k => ⟨[(12, some ([.fz (a.map (V6.answer db)).length ((a.map (V6.answer db)).map V6.slV)])), (14, some ([.fz (b.map (V6.answer db)).length ((b.map (V6.answer db)).map V6.slV)]))]⟩) (fun k => k ≤ coins.length) (fun k => coins.length - k) ?_ ?_
          · exact at_ex (0) (Nat.zero_le _) [(12, some 12), (14, some 14)] hI rfl rfl ⟨⟨_, rfl, .pure pu⟩, ⟨_, rfl, .pure pu⟩, ⟨_, rfl, .p rfl⟩, ⟨_, rfl, .p rfl⟩, ⟨_, rfl, .pure pu⟩, ⟨_, rfl, .pure pu⟩, trivial⟩ ⟨.inr ⟨_, _, rfl, rfl, .pure pul⟩, .inr ⟨_, _, rfl, rfl, .pure pul⟩, trivial⟩
          rintro k hk
          refine at_seq ?_
          refine at_region ?_
          refine s1 (y_p rfl) rfl <| ?_
          refine at_nil ?_
          refine x_tn ?_
          refine at_seq ?_
          refine at_cond rfl (fun hc106 => ?_) (fun hc106 => ?_)
          · have h106 : k < coins.length := by have := of_decide_eq_true hc106; omega
            obtain ⟨j, x, y, d, hwj, hj, hd, hx, hy, hjn⟩ := reads_at hany (hR k h106) h106 hal hbl
            refine at_skip ?_
            refine x_tn ?_
            refine at_seq ?_
            refine at_block ?_
            refine at_seq ?_
            refine at_region ?_
            refine s1 (y_p rfl) rfl <| s1 (y_p rfl) rfl <| ?_
            refine at_nil ?_
            refine x_tn ?_
            refine at_seq ?_
            refine at_region ?_
            refine s1 ((y_p rfl).v (v' := .i .i64 0) rfl) rfl <| ?_
            refine at_nil ?_
            refine x_tn ?_
            refine at_seq ?_
            refine at_seq ?_
            refine at_region ?_
            refine s1 (y_p rfl) rfl <| s1 (y_p rfl) rfl <| s1 (y_len Try.underlying41 rfl rfl rfl) rfl <| s1 (y_p rfl) rfl <| ?_
            refine at_nil ?_
            refine x_tn ?_
            refine at_cond rfl (fun hc111 => ?_) (fun hc111 => ?_)
            · have h111 : k < at1.length := by have := of_decide_eq_true hc111; omega
              have hw := V6.want_yes h111
              refine at_region ?_
              refine s1 (y_p rfl) rfl <| s1 (y_p rfl) rfl <| s1 (y_ixf k Try.underlying41 ti3 rfl rfl rfl (by omega) rfl) rfl <| s1 (y_load ti3 rfl rfl (V6.getI h111)) rfl <| s1 (y_p rfl) rfl <| ?_
              refine at_nil ?_
              refine x_tn ?_
              refine at_seq ?_
              refine at_say 19 rfl (v' := nV j) (congrArg (A.i .i64) (hw.symm.trans hwj)) ?_
              refine at_fs ⟨_, [], []⟩ 15 4 hmix (le_refl rfl) ?_
              refine fs_q 0 [] [(12, none)] (y_fld Try.underlying35 rfl ti30 (by decide) rfl rfl) rfl rfl ?_
              refine fs_q 1 [0] [(12, none)] (y_load ti30 rfl rfl rfl) rfl rfl ?_
              refine fs_q 2 [] [] (y_p rfl) rfl rfl ?_
              refine fs_q 3 [1, 2] [] (y_ixf k Try.underlying30 ti22 rfl rfl rfl (by rw [List.length_map]; omega) rfl) rfl rfl ?_
              refine fs_q 4 [3] [] (y_load ti22 rfl rfl (V6.getR hx)) rfl rfl ?_
              refine fs_q 5 [] [(14, none)] (y_fld Try.underlying35 rfl ti30 (by decide) rfl rfl) rfl rfl ?_
              refine fs_q 6 [5] [(14, none)] (y_load ti30 rfl rfl rfl) rfl rfl ?_
              refine fs_q 7 [] [] (y_p rfl) rfl rfl ?_
              refine fs_q 8 [6, 7] [] (y_ixf k Try.underlying30 ti22 rfl rfl rfl (by rw [List.length_map]; omega) rfl) rfl rfl ?_
              refine fs_q 9 [8] [] (y_load ti22 rfl rfl (V6.getR hy)) rfl rfl ?_
              refine fs_call false 10 [4, 9] [] gy0 rfl (.cons (.pure pu) (.cons (.pure pu) (.nil))) (Con.cast (vjoin_ok (V6.answer db x) (V6.answer db y)) hjn) pu (.inl rfl) rfl rfl ?_
              refine fs_q 11 [10] [] (y_p rfl) rfl rfl ?_
              refine fs_q 12 [11] [] (y_p rfl) rfl rfl ?_
              refine fs_q 13 [11] [] (y_p rfl) rfl rfl ?_
              refine fs_q 14 [12] [] (y_p rfl) rfl rfl ?_
              refine fs_end (by kernel_rfl) ?_
              refine s1 (y_p rfl) rfl <| ?_
              refine at_nil ?_
              refine x_tn ?_
              refine at_seq ?_
              refine at_draw_tail 21 hmix (by kernel_rfl) ?_
              refine t1 (y_p rfl) rfl <| t1 ((y_p rfl).v (v' := .b false) (rfl)) rfl <| t1 (y_p rfl) rfl <| t1g rfl rfl (y_p rfl) rfl <| t1g rfl rfl ((y_p rfl).v (v' := .b false) (congrArg A.b (by simp))) rfl <| t1 (y_p rfl) rfl <| t1 (y_p rfl) rfl <| t1g rfl rfl (y_p rfl) rfl <| t1g rfl rfl (y_p rfl) rfl <| t1g rfl rfl (y_len Try.underlying30 rfl rfl rfl) rfl <| ?_
              refine t1g rfl rfl ((y_p rfl).v (v' := .b false) (congrArg A.b (by simp; omega))) rfl <| t1 (y_p rfl) rfl <| t1 (y_p rfl) rfl <| t1g rfl rfl (y_p rfl) rfl <| t1g rfl rfl (y_str Try.underlying22 Try.underlying5 Try.underlying9 rfl rfl (by simp)) rfl <| t1g rfl rfl (y_p rfl) rfl <| t1g rfl rfl (y_p rfl) rfl <| t1g rfl rfl (y_ixf j Try.underlying30 ti22 rfl rfl rfl (by omega) rfl) rfl <| t1g rfl rfl (y_load ti22 rfl rfl (V6.getR hd)) rfl <| t1g rfl rfl (y_str Try.underlying22 Try.underlying5 Try.underlying9 rfl rfl (by simp)) rfl <| ?_
              refine t1g rfl rfl ((y_p rfl).v (v' := .b false) (congrArg A.b (by simp))) rfl <| ?_
              refine at_snil ?_
              refine s1 (y_p rfl) rfl <| ?_
              refine at_nil ?_
              refine x_tn ?_
              refine at_else rfl ?_
              refine at_skip ?_
              refine x_bn ?_
              refine x_tn ?_
              refine at_region ?_
              refine s1 (addN _ 1 rfl rfl rfl rfl (by omega)) rfl <| s1 (y_p rfl) rfl <| ?_
              refine at_nil ?_
              exact at_end (k + 1) (by omega) (by omega) [(12, some 12), (14, some 14)] hI rfl rfl ⟨⟨_, rfl, .pure pu⟩, ⟨_, rfl, .pure pu⟩, ⟨_, rfl, .p rfl⟩, ⟨_, rfl, .p rfl⟩, ⟨_, rfl, .pure pu⟩, ⟨_, rfl, .pure pu⟩, trivial⟩ ⟨.inr ⟨_, _, rfl, rfl, .pure pul⟩, .inr ⟨_, _, rfl, rfl, .pure pul⟩, trivial⟩
            · have h111 : ¬ k < at1.length := by have := of_decide_eq_false hc111; omega
              have hw := V6.want_no h111
              refine at_skip ?_
              refine x_tn ?_
              refine at_seq ?_
              refine at_say 19 rfl (v' := nV j) (congrArg (A.i .i64) (hw.symm.trans hwj)) ?_
              refine at_fs ⟨_, [], []⟩ 15 4 hmix (le_refl rfl) ?_
              refine fs_q 0 [] [(12, none)] (y_fld Try.underlying35 rfl ti30 (by decide) rfl rfl) rfl rfl ?_
              refine fs_q 1 [0] [(12, none)] (y_load ti30 rfl rfl rfl) rfl rfl ?_
              refine fs_q 2 [] [] (y_p rfl) rfl rfl ?_
              refine fs_q 3 [1, 2] [] (y_ixf k Try.underlying30 ti22 rfl rfl rfl (by rw [List.length_map]; omega) rfl) rfl rfl ?_
              refine fs_q 4 [3] [] (y_load ti22 rfl rfl (V6.getR hx)) rfl rfl ?_
              refine fs_q 5 [] [(14, none)] (y_fld Try.underlying35 rfl ti30 (by decide) rfl rfl) rfl rfl ?_
              refine fs_q 6 [5] [(14, none)] (y_load ti30 rfl rfl rfl) rfl rfl ?_
              refine fs_q 7 [] [] (y_p rfl) rfl rfl ?_
              refine fs_q 8 [6, 7] [] (y_ixf k Try.underlying30 ti22 rfl rfl rfl (by rw [List.length_map]; omega) rfl) rfl rfl ?_
              refine fs_q 9 [8] [] (y_load ti22 rfl rfl (V6.getR hy)) rfl rfl ?_
              refine fs_call false 10 [4, 9] [] gy0 rfl (.cons (.pure pu) (.cons (.pure pu) (.nil))) (Con.cast (vjoin_ok (V6.answer db x) (V6.answer db y)) hjn) pu (.inl rfl) rfl rfl ?_
              refine fs_q 11 [10] [] (y_p rfl) rfl rfl ?_
              refine fs_q 12 [11] [] (y_p rfl) rfl rfl ?_
              refine fs_q 13 [11] [] (y_p rfl) rfl rfl ?_
              refine fs_q 14 [12] [] (y_p rfl) rfl rfl ?_
              refine fs_end (by kernel_rfl) ?_
              refine s1 (y_p rfl) rfl <| ?_
              refine at_nil ?_
              refine x_tn ?_
              refine at_seq ?_
              refine at_draw_tail 21 hmix (by kernel_rfl) ?_
              refine t1 (y_p rfl) rfl <| t1 ((y_p rfl).v (v' := .b false) (rfl)) rfl <| t1 (y_p rfl) rfl <| t1g rfl rfl (y_p rfl) rfl <| t1g rfl rfl ((y_p rfl).v (v' := .b false) (congrArg A.b (by simp))) rfl <| t1 (y_p rfl) rfl <| t1 (y_p rfl) rfl <| t1g rfl rfl (y_p rfl) rfl <| t1g rfl rfl (y_p rfl) rfl <| t1g rfl rfl (y_len Try.underlying30 rfl rfl rfl) rfl <| ?_
              refine t1g rfl rfl ((y_p rfl).v (v' := .b false) (congrArg A.b (by simp; omega))) rfl <| t1 (y_p rfl) rfl <| t1 (y_p rfl) rfl <| t1g rfl rfl (y_p rfl) rfl <| t1g rfl rfl (y_str Try.underlying22 Try.underlying5 Try.underlying9 rfl rfl (by simp)) rfl <| t1g rfl rfl (y_p rfl) rfl <| t1g rfl rfl (y_p rfl) rfl <| t1g rfl rfl (y_ixf j Try.underlying30 ti22 rfl rfl rfl (by omega) rfl) rfl <| t1g rfl rfl (y_load ti22 rfl rfl (V6.getR hd)) rfl <| t1g rfl rfl (y_str Try.underlying22 Try.underlying5 Try.underlying9 rfl rfl (by simp)) rfl <| ?_
              refine t1g rfl rfl ((y_p rfl).v (v' := .b false) (congrArg A.b (by simp))) rfl <| ?_
              refine at_snil ?_
              refine s1 (y_p rfl) rfl <| ?_
              refine at_nil ?_
              refine x_tn ?_
              refine at_else rfl ?_
              refine at_skip ?_
              refine x_bn ?_
              refine x_tn ?_
              refine at_region ?_
              refine s1 (addN _ 1 rfl rfl rfl rfl (by omega)) rfl <| s1 (y_p rfl) rfl <| ?_
              refine at_nil ?_
              exact at_end (k + 1) (by omega) (by omega) [(12, some 12), (14, some 14)] hI rfl rfl ⟨⟨_, rfl, .pure pu⟩, ⟨_, rfl, .pure pu⟩, ⟨_, rfl, .p rfl⟩, ⟨_, rfl, .p rfl⟩, ⟨_, rfl, .pure pu⟩, ⟨_, rfl, .pure pu⟩, trivial⟩ ⟨.inr ⟨_, _, rfl, rfl, .pure pul⟩, .inr ⟨_, _, rfl, rfl, .pure pul⟩, trivial⟩
          · skip
            refine at_exit ?_
            refine x_te ?_
            refine x_te ?_
            refine x_be ?_
            refine x_tn ?_
            refine at_seq ?_
            refine at_region ?_
            refine s1 (y_p rfl) rfl <| ?_
            refine at_nil ?_
            refine x_tn ?_
            refine at_ret ?_
            refine at_result (rs := [.tmp 8]) rfl (r_tmp rfl r_nil) ?_
            rfl

end Go.Abs.D2
