/-
  The second engine, part D: appending, copying, structs, and what is turned no more. Conditions: none; nothing of any program stands here.
-/
import Derived.Test.YtjnbpinnjbdnpaaAbsC
namespace Go.Abs
open Go Go.Eng

section
variable {P : Program} {w0 : Bw} {X0 : Xs} {n : Nat} {E : Ev} {st : St} {β : Bm} {X : Xs} {a : Act} {w : World} {Q : Exit → Act → World → Prop} {K : Act → World → Prop}

/-- An own object goes by a new number. -/
theorem Mem.move (hm : Mem w0 β X st w) (nx : Nat) (hf : st.free nx = true) {id : Nat} {cs : List A} {x : BL} (hg : st.get id = some cs) (hβ : β id = some x) : Mem w0 (upd β nx x) X ((st.del id).put nx cs) w := by
  have hnx := hm.dom nx hf
  have hx : ExtX X X w w := fun _ _ h => ⟨h, rfl⟩
  have hget : ∀ k, ((st.del id).put nx cs).get k = if nx = k then some cs else if id = k then none else st.get k := fun k => by rw [St.get_put, St.get_del]
  have hne : id ≠ nx := fun e => by rw [e, hnx] at hβ; cases hβ
  refine .of (hm.below) (fun k y h => (upd_ext hnx) k y (hm.b0 k y h)) (hm.xlt) (fun k h => ?_) (fun k ds hk => ?_) (fun i j ci cj q M N' hij hi hj hbi hbj => ?_)
  · have h' : k ≠ nx ∧ st.free k = true := by
      simp only [St.free_put, St.free_del] at h
      split at h
      · cases h
      · rename_i hne
        first
          | exact ⟨fun e => hne e.symm, h⟩
          | (split at h
             · cases h
             · exact ⟨fun e => hne e.symm, h⟩)
    rw [upd_ne h'.1]
    exact hm.dom k h'.2
  · rw [hget] at hk
    split at hk
    · rename_i e; subst e
      simp only [Option.some.injEq] at hk
      subst hk
      have ho := hm.obj id _ hg
      unfold OB at ho ⊢
      rw [upd_at]
      rw [hβ] at ho
      cases x with
      | ph => exact ho
      | bk b N =>
        obtain ⟨h1, h2, us, rest, ty, h3, h4, h5, h6⟩ := ho
        exact ⟨h1, h2, us, rest, ty, h3, h4, VS_mono hx _ _ _ _ (upd_ext hnx) h5, h6⟩
    · split at hk
      · cases hk
      · refine (hm.obj k ds hk).later hx (upd_ext hnx) fun q M hq => ⟨rfl, ?_⟩
        have ho := hm.obj k ds hk
        unfold OB at ho
        rw [hq] at ho
        exact ho.2.1
  · have key : ∀ k ck, ((st.del id).put nx cs).get k = some ck → ∀ b M, upd β nx x k = some (.bk b M) → ∃ k' c', st.get k' = some c' ∧ β k' = some (.bk b M) ∧ (k = nx ∧ k' = id ∨ k ≠ nx ∧ k' = k ∧ k ≠ id) := by
      intro k ck hk b M hb
      rw [hget] at hk
      split at hk
      · rename_i e; subst e
        rw [upd_at] at hb
        exact ⟨id, cs, hg, hβ.trans hb, .inl ⟨rfl, rfl⟩⟩
      · rename_i e1
        split at hk
        · cases hk
        · rename_i e2
          rw [upd_ne (fun e => e1 e.symm)] at hb
          exact ⟨k, ck, hk, hb, .inr ⟨fun e => e1 e.symm, rfl, fun e => e2 e.symm⟩⟩
    obtain ⟨i', c1, g1, g2, g3⟩ := key i ci hi q M hbi
    obtain ⟨j', c2, g4, g5, g6⟩ := key j cj hj q N' hbj
    exact hm.inj i' j' c1 c2 q M N' (by omega) g1 g4 g2 g5

/-- A nil slice as an object of the call's own. -/
theorem Mem.phantom (hm : Mem w0 β X st w) (nx : Nat) (hf : st.free nx = true) : Mem w0 (upd β nx .ph) X (st.put nx []) w := by
  have hnx := hm.dom nx hf
  have hx : ExtX X X w w := fun _ _ h => ⟨h, rfl⟩
  refine .of (hm.below) (fun k y h => (upd_ext hnx) k y (hm.b0 k y h)) (hm.xlt) (fun k h => ?_) (fun k ds hk => ?_) (fun i j ci cj q M N' hij hi hj hbi hbj => ?_)
  · have h' : k ≠ nx ∧ st.free k = true := by
      simp only [St.free_put] at h
      split at h
      · cases h
      · rename_i hne
        first
          | exact ⟨fun e => hne e.symm, h⟩
          | (split at h
             · cases h
             · exact ⟨fun e => hne e.symm, h⟩)
    rw [upd_ne h'.1]
    exact hm.dom k h'.2
  · rw [St.get_put] at hk
    split at hk
    · rename_i e; subst e
      simp only [Option.some.injEq] at hk
      subst hk
      unfold OB
      rw [upd_at]
    · refine (hm.obj k ds hk).later hx (upd_ext hnx) fun q M hq => ⟨rfl, ?_⟩
      have ho := hm.obj k ds hk
      unfold OB at ho
      rw [hq] at ho
      exact ho.2.1
  · rw [St.get_put] at hi hj
    by_cases ei : nx = i
    · rw [← ei, upd_at] at hbi; cases hbi
    · by_cases ej : nx = j
      · rw [← ej, upd_at] at hbj; cases hbj
      · rw [if_neg ei] at hi
        rw [if_neg ej] at hj
        rw [upd_ne (by omega)] at hbi hbj
        exact hm.inj i j ci cj q M N' hij hi hj hbi hbj

/-- An own object is given up. -/
theorem Mem.drop (hm : Mem w0 β X st w) {st' : St} (hn : ∀ id, st'.free id = true → st.free id = true) (hs : ∀ id cs, st'.get id = some cs → st.get id = some cs) : Mem w0 β X st' w :=
  .of (hm.below) (hm.b0) (hm.xlt) (fun k h => hm.dom k (hn k h)) (fun k ds hk => hm.obj k ds (hs k ds hk)) (fun i j ci cj q M N' hij hi hj hbi hbj => hm.inj i j ci cj q M N' hij (hs i ci hi) (hs j cj hj) hbi hbj)

theorem run_app_room (w : World) (t ty e e' : TypeId) (i : TypeInfo) (ht : P.underlying t = some (.slice e)) (hi : P.info? e = some i) (g m c : Nat) (cur : List Value) (hg : w.heap[g]? = some (row e' cur))
    (ad : Addr) (k kc : Nat) (news : List Value) (hl : news.length = k * i.size) (hnews : ∀ j u, news[j]? = some u → w.cell? (ad.add j) = some u) (h1 : ∀ u ∈ news, u.oneCell' = true)
    (hroom : m + k ≤ c) (hfit : m * i.size + news.length ≤ cur.length) :
    (Builtin.append_ #[t, t] ty #[.slice (some ⟨g, 0, none⟩) m c, .slice (some ad) k kc]).run P w =
      .ok (.slice (some ⟨g, 0, none⟩) (m + k) c) (w.setRow g (cur.take (m * i.size) ++ news ++ cur.drop (m * i.size + news.length)).toArray) := by
  have hf := run_firstCells_some (P := P) w i.size k ad k kc news hl hnews
  have hst := run_storeCells_at P g (m * i.size) e' news 0 cur.toArray w hg (by simpa using hfit) h1
  simp only [Nat.add_zero] at hst
  simp [Builtin.append_, run_underlying ht, sizeOf, typeInfo, hi, Builtin.lenOf, hroom, hf, Addr.add_lit, hst]

/-- What append starts from: nil, or a whole slice of the call's own; how many elements, what cells, and what is left without it. -/
inductive Base (st : St) (size : Nat) : A → Nat → List A → St → Prop where
  | nl : Base st size .nl 0 [] st
  | sl {id m : Nat} {cs : List A} (hg : st.get id = some cs) (hl : cs.length = m * size) : Base st size (.sl id size 0 m) m cs (st.del id)

theorem n_app {d : Nat} (nx : Nat) (hf : st.free nx = true) {t e : TypeId} {size by' zero agg} {x y : Operand} {vx vy : A} {m k : Nat} {cs news cs' : List A} {st1 : St} {ty : TypeId} {pos aft g} (ht : P.underlying t = some (.slice e)) (he : TI P e size by' zero agg) (hx : ev E x = some vx) (hB : Base st size vx m cs st1)
    (hy : ev E y = some vy) (hn : SM st vy = some (k, news)) (hnl : news.length = k * size) (hb63 : m + k ≤ maxLen) (hby : (m + k) * by' ≤ 140737488355328) (hzl : zero.length = size) (hcs : cs ++ news = cs') (hd : Nat.ble (d + 1) n = true)
    (h : At w0 X0 n ((d, .sl nx size 0 (m + k)) :: E) (st1.put nx cs') K) :
    At w0 X0 n E st (fun a w => (⟨some d, .call { callee := .builtin .append, args := #[x, y], argTypes := #[t, t] }, ty, pos, aft, g⟩ : Oper).wp P a w K Q) := by
  rintro A0 w ⟨β, X, hr⟩
  subst hcs
  have hnx := hr.mem.dom nx hf
  obtain ⟨e1, e2⟩ := hr.evo hx
  obtain ⟨e3, e4⟩ := hr.evo hy
  obtain ⟨ay, cy, nus, f1, f2, f3, f4⟩ := slice_cells (s := size) hr.toRelQ e4 hn hnl
  have hsl := f4 w .refl
  have hnu := VS_len f2
  have hexec : ∀ vv v w', A0.eval x = vv → (Builtin.append_ #[t, t] ty #[vv, .slice ay k cy]).run P w = .ok v w' →
      (execOp A0.eval ⟨some d, .call { callee := .builtin .append, args := #[x, y], argTypes := #[t, t] }, ty, pos, aft, g⟩).run P w = .ok (.value v) w' := by
    intro vv v w' hv hrun
    have h1 : execOp A0.eval ⟨some d, .call { callee := .builtin .append, args := #[x, y], argTypes := #[t, t] }, ty, pos, aft, g⟩ = (do pure (.value (← Builtin.append_ #[t, t] ty #[vv, .slice ay k cy])) : Sem Next) := by
      simp only [execOp, resolve, List.map_toArray, List.map_cons, List.map_nil, hv, f1, pure_bind, invoke, builtin]
    rw [h1, Sem.run_bind, hrun]
    rfl
  have done : ∀ (vv u : Value) (w1 : World) (bl : BL), A0.eval x = vv → (Builtin.append_ #[t, t] ty #[vv, .slice ay k cy]).run P w = .ok u w1 → ExtX X X w w1 → Mem w0 (upd β nx bl) X (st1.put nx (cs ++ news)) w1 → V X w1 (upd β nx bl) (.sl nx size 0 (m + k)) u →
      (⟨some d, .call { callee := .builtin .append, args := #[x, y], argTypes := #[t, t] }, ty, pos, aft, g⟩ : Oper).wp P A0 w K Q := by
    intro vv u w1 bl hvv hrun hx1 hm1 hv1
    unfold Oper.wp
    rw [hexec vv u w1 hvv hrun]
    refine h _ _ ⟨_, X, hr.next (d := d) (u := u) (v := .sl nx size 0 (m + k)) ?_ hx1 (fun _ _ h => .inl h) (upd_ext hnx) hm1 hv1⟩
    exact (full_rep A0 hr.defers).put (by rw [hr.size]; exact hd) u
  have hsmall : m + k ≤ 9223372036854775807 := by simp only [maxLen] at hb63; omega
  obtain ⟨⟨i, z, i1, i2, i3, i4, i5⟩, hu⟩ := he
  have hzc : z.cells.size = size := by rw [← hzl, ← i5]; simp
  have hnl' : nus.length = k * i.size := by rw [i3, hnu, hnl]
  have hnw : k ≠ 0 → ∀ j u, nus[j]? = some u → w.cell? ((⟨ab ay, ao ay, none⟩ : Addr).add j) = some u := fun _ j u hj => by rw [addr_add]; exact hsl.cell j u hj
  -- into a new block
  have grow : ∀ (vv : Value) (ous : List Value) (w1 : World) (cap : Nat), VS X w β cs ous → (∀ q ∈ ous, q.oneCell' = true) → ous.length = m * size → A0.eval x = vv → m + k ≤ cap → cap ≤ maxLen →
      (Builtin.append_ #[t, t] ty #[vv, .slice ay k cy]).run P w = .ok (.slice (some ⟨w.heap.size, 0, none⟩) (m + k) cap) (w.drew.alloc (.cells (ous.toArray ++ nus.toArray ++ Builtin.zeroCells z.cells (cap - (m + k))) e)) →
      (∀ id, st1.free id = true → st.free id = true) → st1.free nx = true → (∀ id c, st1.get id = some c → st.get id = some c) →
      (⟨some d, .call { callee := .builtin .append, args := #[x, y], argTypes := #[t, t] }, ty, pos, aft, g⟩ : Oper).wp P A0 w K Q := by
    intro vv ous w1 cap ho1 ho2 ho3 hvv hc1 hc2 hrun hsn hsf hss
    have hbel : RowKit.Below w.heap.size w (w.drew.alloc (.cells (ous.toArray ++ nus.toArray ++ Builtin.zeroCells z.cells (cap - (m + k))) e)) :=
      ⟨rfl, rfl, rfl, by simp, fun q hq => push_old w.drew _ q hq⟩
    have hx1 := ExtX.of_below hr.mem.xlt hbel
    have hm1 := hr.mem.drop (st' := st1) hsn hss
    have hnx1 := hm1.dom nx hsf
    have hlen : (ous ++ nus).length = (m + k) * size := by rw [List.length_append, ho3, hnu, hnl, Nat.add_mul]
    have hm2 := hm1.push nx hsf (cs := cs ++ news) (us := ous ++ nus) (rest := (Builtin.zeroCells z.cells (cap - (m + k))).toList) (ty := e) (b := w.heap.size) (N := cap * size) hbel (Nat.le_refl _)
      (by refine (heap_alloc_new w.drew _).trans ?_; simp [row]) (by rw [hlen]; simp only [Array.length_toList, size_zeroCells, hzc, ← Nat.add_mul]; congr 1; omega)
      (VS_app (VS_mono hx1 _ _ _ _ (upd_ext hnx1) ho1) (VS_mono hx1 _ _ _ _ (upd_ext hnx1) f2)) (by intro q hq; rcases List.mem_append.1 hq with hq | hq; exact ho2 q hq; exact f3 q hq)
    exact done vv _ _ (.bk w.heap.size (cap * size)) hvv hrun hx1 hm2 (by simp only [V]; exact .inr ⟨_, _, cap, upd_at, rfl, hc1, hc2, by omega⟩)
  cases hB with
  | nl =>
    simp only [V] at e2
    by_cases hk : k = 0
    · subst hk
      have hnn : news = [] := List.eq_nil_of_length_eq_zero (by simpa using hnl)
      subst hnn
      exact done _ _ w .ph e2 (run_append_zero ht ⟨⟨i, z, i1, i2, i3, i4, i5⟩, hu⟩ none 0 0 (Nat.le_refl _) ay cy) (fun _ _ h => ⟨h, rfl⟩) (hr.mem.phantom nx hf) (by simp only [V]; exact .inl ⟨upd_at, by simp⟩)
    · have hax := hsl.addr (by omega)
      have hrun := run_append_nil (P := P) w t ty e i z ht i1 i2 ⟨ab ay, ao ay, none⟩ k cy nus hnl' (hnw hk) (by omega) (by omega) (by rw [i4]; simp only [Nat.zero_add] at hby; omega)
      rw [← hax] at hrun
      exact grow _ [] w (grownCap w k 0 e) VS_nil (fun q hq => by cases hq) (by simp) e2 (by simpa using grownCap_ge w k 0 e) (grownCap_le_maxLen w k 0 e (by omega)) (by simpa using hrun) (fun _ h => h) hf (fun _ _ h => h)
  | sl hg hl =>
    rename_i id
    simp only [V] at e2
    have hfd : ∀ q, (st.del id).free q = true → st.free q = true := fun q h => by rw [St.free_del] at h; split at h; cases h; exact h
    have hne : id ≠ nx := fun e => by subst e; have := look_fresh hf; unfold St.get at hg; rw [this] at hg; cases hg
    have hfn : (st.del id).free nx = true := by rw [St.free_del, if_neg hne]; exact hf
    have hdel : ∀ q c, (st.del id).get q = some c → st.get q = some c := fun q c hq => by rw [St.get_del] at hq; split at hq; cases hq; exact hq
    rcases e2 with ⟨hβ, rfl, _, e2⟩ | ⟨b, N, cap, hβ, e2, c1, c2, c3⟩
    · have hcs : cs = [] := List.eq_nil_of_length_eq_zero (by simpa using hl)
      subst hcs
      by_cases hk : k = 0
      · subst hk
        have hnn : news = [] := List.eq_nil_of_length_eq_zero (by simpa using hnl)
        subst hnn
        exact done _ _ w .ph e2 (run_append_zero ht ⟨⟨i, z, i1, i2, i3, i4, i5⟩, hu⟩ none 0 0 (Nat.le_refl _) ay cy) (fun _ _ h => ⟨h, rfl⟩) (hr.mem.move nx hf hg hβ) (by simp only [V]; exact .inl ⟨upd_at, by simp⟩)
      · have hax := hsl.addr (by omega)
        have hrun := run_append_nil (P := P) w t ty e i z ht i1 i2 ⟨ab ay, ao ay, none⟩ k cy nus hnl' (hnw hk) (by omega) (by omega) (by rw [i4]; simp only [Nat.zero_add] at hby; omega)
        rw [← hax] at hrun
        exact grow _ [] w (grownCap w k 0 e) VS_nil (fun q hq => by cases hq) (by simp) e2 (by simpa using grownCap_ge w k 0 e) (grownCap_le_maxLen w k 0 e (by omega)) (by simpa using hrun) hfd hfn hdel
    · obtain ⟨us0, o5, o6, o7, o8⟩ := own_cells hr.toRelQ hg hβ
      have ho := hr.mem.obj id cs hg
      unfold OB at ho
      rw [hβ] at ho
      obtain ⟨p1, p2, us, rest, ety, p3, p4, p5, p6⟩ := ho
      have hul := VS_len p5
      by_cases hk : k = 0
      · subst hk
        have hnn : news = [] := List.eq_nil_of_length_eq_zero (by simpa using hnl)
        subst hnn
        rw [List.append_nil] at done
        exact done _ _ w (.bk b N) e2 (run_append_zero ht ⟨⟨i, z, i1, i2, i3, i4, i5⟩, hu⟩ _ m cap c1 ay cy) (fun _ _ h => ⟨h, rfl⟩) (hr.mem.move nx hf hg hβ) (by simp only [V]; exact .inr ⟨b, N, cap, upd_at, rfl, by omega, c2, c3⟩)
      · have hax := hsl.addr (by omega)
        by_cases hroom : m + k ≤ cap
        · have hNs : (m + k) * size ≤ cap * size := Nat.mul_le_mul_right _ hroom
          rw [Nat.add_mul] at hNs
          have hrun := run_app_room (P := P) w t ty e ety i ht i1 b m cap (us ++ rest) p3 ⟨ab ay, ao ay, none⟩ k cy nus hnl' (hnw hk) f3 hroom (by rw [i3, hnu, hnl, List.length_append]; omega)
          rw [← hax] at hrun
          have htk : (us ++ rest).take (m * i.size) = us := by rw [i3, ← hl, ← hul]; exact List.take_left
          rw [htk] at hrun
          have hG := Eng.Good.setRow (gd_one p3) 0 (cs := us ++ rest) rfl (us ++ nus ++ (us ++ rest).drop (m * i.size + nus.length))
          simp only [List.set_cons_zero] at hG
          obtain ⟨hm1, hx1⟩ := hr.mem.write (cs' := cs ++ news) hg hβ hG (by simp only [List.length_append, List.length_drop, i3, hul, hl, hnu, hnl] at p4 ⊢; omega) (VS_app p5 f2) (by intro q hq; rcases List.mem_append.1 hq with hq | hq; exact p6 q hq; exact f3 q hq)
          have hm2 := hm1.move nx (by rw [St.free_put, if_neg hne]; exact hf) (id := id) (cs := cs ++ news) (by rw [St.get_put, if_pos rfl]) hβ
          have hm3 : Mem w0 (upd β nx (.bk b N)) X ((st.del id).put nx (cs ++ news)) _ := hm2.drop (fun q hq => by
            simp only [St.free_put, St.free_del] at hq ⊢
            split at hq
            · cases hq
            · rename_i e1
              rw [if_neg e1]
              split at hq
              · cases hq
              · rename_i e2; rw [if_neg e2, if_neg e2]; exact hq) fun q c hq => by
            simp only [St.get_put, St.get_del] at hq ⊢
            split at hq
            · rename_i e1; rw [if_pos e1]; exact hq
            · rename_i e1
              rw [if_neg e1]
              split at hq
              · cases hq
              · rename_i e2; rw [if_neg e2, if_neg e2]; exact hq
          exact done _ _ _ (.bk b N) e2 hrun hx1 hm3 (by simp only [V]; exact .inr ⟨b, N, cap, upd_at, rfl, hroom, c2, c3⟩)
        · have holds : ∀ j u, us[j]? = some u → w.cell? ((⟨b, 0, none⟩ : Addr).add j) = some u := by
            intro j u hj
            rw [addr_add, Nat.zero_add]
            have hlt := (List.getElem?_eq_some_iff.1 hj).1
            simp only [World.cell?, p3]
            simp [List.getElem?_append_left hlt, hj]
          have hrun := run_append_grow (P := P) w t ty e i z ht i1 i2 ⟨b, 0, none⟩ m cap us (by rw [i3, hul, hl]) holds ⟨ab ay, ao ay, none⟩ k cy nus hnl' (hnw hk) (by omega) (by omega) (by rw [i4]; exact growslice_fits (by omega) hby)
          rw [← hax] at hrun
          exact grow _ us w (grownCap w (m + k) cap e) p5 p6 (by rw [hul, hl]) e2 (grownCap_ge w (m + k) cap e) (grownCap_le_maxLen w (m + k) cap e hb63) hrun hfd hfn hdel
end
end Go.Abs
