/-
  The second engine, part C: what makes memory or turns it. Conditions: none; nothing of any program stands here.
-/
import Derived.Test.YtjnbpinnjbdnpaaAbsB
namespace Go.Abs
open Go Go.Eng

def upd (β : Bm) (id : Nat) (x : BL) : Bm := fun k => if k = id then some x else β k
theorem upd_ext {β : Bm} {id x} (h : β id = none) : ExtB β (upd β id x) := fun k y hk => by
  unfold upd
  split
  · rename_i e; subst e; rw [h] at hk; cases hk
  · exact hk
theorem upd_at {β : Bm} {id x} : upd β id x id = some x := if_pos rfl
theorem upd_ne {β : Bm} {id x k} (h : k ≠ id) : upd β id x k = β k := if_neg h

section
variable {P : Program} {w0 : Bw} {X0 : Xs} {n : Nat} {E : Ev} {st : St} {β : Bm} {X : Xs} {a : Act} {w : World} {Q : Exit → Act → World → Prop} {K : Act → World → Prop}

/-- Behind an operation: the frame has one more slot told. -/
theorem RelX.next (hr : RelX w0 X0 n E st β X a w) {a1 : Act} {w1 : World} {β' : Bm} {X' : Xs} {st' : St} {d : Nat} {u : Value} {v : A} (hrep : Rep a.tmps.size ((d, u) :: full a) a1)
    (hx : ExtX X X' w w1) (hn : ∀ b o, X' b o → X b o ∨ w0.own b) (hb : ExtB β β') (hm : Mem w0 β' X' st' w1) (hv : V X' w1 β' v u) : RelX w0 X0 n ((d, v) :: E) st' β' X' a1 w1 := by
  refine .of (fun b o h => (hx b o (hr.x0 b o h)).1) (fun b o h => (hn b o h).elim (hr.xn b o) .inr) (hm) (hr.gl.mono hx) (hrep.size.trans hr.size) (hrep.defers) (fun s hs => Sus.slots_mono hx (hr.sslot s hs)) (fun t v' ht => ?_)
  simp only [Ev.at?] at ht
  cases hbq : Nat.beq d t with
  | true =>
    rw [hbq] at ht
    have : d = t := Nat.eq_of_beq_eq_true hbq
    subst this
    simp only [cond_true, Option.some.injEq] at ht
    subst ht
    exact ⟨u, hrep.slot d u (by simp [Env.at?]), hv⟩
  | false =>
    rw [hbq] at ht
    obtain ⟨u', h1, h2⟩ := hr.slot t v' ht
    have hlt := (Array.getElem?_eq_some_iff.1 h1).1
    refine ⟨u', hrep.slot t u' ?_, V_mono hx _ _ _ _ hb h2⟩
    simp only [Env.at?, hbq, cond_false, full_at, if_pos hlt]
    rw [Array.getD_eq_getD_getElem?, h1]; rfl

theorem RelX.next0 (hr : RelX w0 X0 n E st β X a w) {a1 : Act} {w1 : World} {β' : Bm} {X' : Xs} {st' : St} (hrep : Rep a.tmps.size (full a) a1)
    (hx : ExtX X X' w w1) (hn : ∀ b o, X' b o → X b o ∨ w0.own b) (hb : ExtB β β') (hm : Mem w0 β' X' st' w1) : RelX w0 X0 n E st' β' X' a1 w1 := by
  refine .of (fun b o h => (hx b o (hr.x0 b o h)).1) (fun b o h => (hn b o h).elim (hr.xn b o) .inr) (hm) (hr.gl.mono hx) (hrep.size.trans hr.size) (hrep.defers) (fun s hs => Sus.slots_mono hx (hr.sslot s hs)) (fun t v' ht => ?_)
  obtain ⟨u', h1, h2⟩ := hr.slot t v' ht
  have hlt := (Array.getElem?_eq_some_iff.1 h1).1
  refine ⟨u', hrep.slot t u' ?_, V_mono hx _ _ _ _ hb h2⟩
  rw [full_at, if_pos hlt, Array.getD_eq_getD_getElem?, h1]; rfl

/-- An object's word in a later world that has not turned its block. -/
theorem OB.later {β' : Bm} {X' : Xs} {w1 : World} {id : Nat} {cs : List A} (h : OB β X w w0 id cs) (hx : ExtX X X' w w1) (hb : ExtB β β') (hne : ∀ b N, β id = some (.bk b N) → w1.heap[b]? = w.heap[b]? ∧ ∀ o, ¬ X' b o) : OB β' X' w1 w0 id cs := by
  unfold OB at *
  split at h
  · exact h.elim
  · rename_i he; rw [hb _ _ he]; exact h
  · rename_i b N he
    rw [hb _ _ he]
    obtain ⟨h1, h2, us, rest, ty, h3, h4, h5, h6⟩ := h
    obtain ⟨g1, g2⟩ := hne b N he
    exact ⟨h1, g2, us, rest, ty, g1.trans h3, h4, VS_mono hx _ _ _ _ hb h5, h6⟩

/-- One more object, in a new block. -/
theorem Mem.push (hm : Mem w0 β X st w) {w1 : World} {b N : Nat} (id : Nat) (hf : st.free id = true) {cs : List A} {us rest : List Value} {ty : TypeId} (hbel : RowKit.Below w.heap.size w w1) (hb : w.heap.size ≤ b) (hw : w1.heap[b]? = some (row ty (us ++ rest))) (hN : us.length + rest.length = N)
    (hv : VS X w1 (upd β id (.bk b N)) cs us) (h1 : ∀ x ∈ us, x.oneCell' = true) : Mem w0 (upd β id (.bk b N)) X (st.put id cs) w1 := by
  have hx : ExtX X X w w1 := fun q o h => ⟨h, World.cell?_of_block (w := w) (hbel.block q (hm.xlt q o h))⟩
  have hnx := hm.dom id hf
  refine .of (hm.below.trans hbel) (fun k y h => (upd_ext hnx) k y (hm.b0 k y h)) (fun q o h => Nat.lt_of_lt_of_le (hm.xlt q o h) hbel.size) (fun k h => ?_) (fun k ds hg => ?_) (fun i j ci cj q M N' hij hi hj hbi hbj => ?_)
  · rw [St.free_put] at h
    split at h
    · cases h
    · rename_i hne
      rw [upd_ne (fun e => hne e.symm)]
      exact hm.dom k h
  · rw [St.get_put] at hg
    split at hg
    · rename_i e; subst e
      simp only [Option.some.injEq] at hg
      subst hg
      unfold OB
      rw [upd_at]
      exact ⟨Bw.own_new hm.below hb, fun o h => absurd (hm.xlt b o h) (by omega), us, rest, ty, hw, hN, hv, h1⟩
    · refine (hm.obj k ds hg).later hx (upd_ext hnx) fun q M hq => ?_
      have ho := hm.obj k ds hg
      unfold OB at ho
      rw [hq] at ho
      obtain ⟨_, h2, us', rest', ty', h3, _⟩ := ho
      exact ⟨hbel.block q (Array.getElem?_eq_some_iff.1 h3).1, h2⟩
  · have hold : ∀ k ck, st.get k = some ck → ∀ q M, β k = some (.bk q M) → q < w.heap.size := by
      intro k ck hk q M hq
      have ho := hm.obj k ck hk
      unfold OB at ho
      rw [hq] at ho
      obtain ⟨_, _, us', rest', ty', h3, _⟩ := ho
      exact (Array.getElem?_eq_some_iff.1 h3).1
    rw [St.get_put] at hi hj
    by_cases ei : id = i
    · by_cases ej : id = j
      · omega
      · rw [if_neg ej] at hj
        rw [← ei, upd_at] at hbi
        rw [upd_ne (by omega)] at hbj
        have := hold j cj hj q N' hbj
        simp only [Option.some.injEq, BL.bk.injEq] at hbi
        omega
    · rw [if_neg ei] at hi
      rw [upd_ne (by omega)] at hbi
      by_cases ej : id = j
      · rw [← ej, upd_at] at hbj
        have := hold i ci hi q M hbi
        simp only [Option.some.injEq, BL.bk.injEq] at hbj
        omega
      · rw [if_neg ej] at hj
        rw [upd_ne (by omega)] at hbj
        exact hm.inj i j ci cj q M N' hij hi hj hbi hbj

theorem gd_below {H : List (Nat × Obj)} {w1 : World} (h : Eng.Good [w] H w1) (hH : H.all (fun p => decide (w.heap.size ≤ p.1)) = true) : RowKit.Below w.heap.size w w1 := Eng.Good.below h (.head _) (by simpa using hH)

theorem ExtX.of_below (hm : ∀ b o, X b o → b < w.heap.size) {w1 : World} (hbel : RowKit.Below w.heap.size w w1) : ExtX X X w w1 := fun q o h => ⟨h, World.cell?_of_block (w := w) (hbel.block q (hm q o h))⟩

theorem VS_evC : ∀ (l : List Value), VS X w β (l.map evC) l
  | [] => VS_nil
  | v :: l => VS_cons (V_evC v) (VS_evC l)

/-- A new variable. -/
theorem n_alloc {d : Nat} (id : Nat) (hf : st.free id = true) {t ty : TypeId} {pos aft g} {size by' zero agg} (ht : TI P t size by' zero agg) (h1 : zero.all (·.oneCell') = true) (hd : Nat.ble (d + 1) n = true)
    (h : At w0 X0 n ((d, .p id 0) :: E) (st.put id (zero.map evC)) K) : At w0 X0 n E st (fun a w => (⟨some d, .alloc t, ty, pos, aft, g⟩ : Oper).wp P a w K Q) := by
  rintro a w ⟨β, X, hr⟩
  refine Eng.n_alloc (S := [w]) (H := []) (E := full a) (n := a.tmps.size) ht (by rw [hr.size]; exact hd) (fun b hS hH a1 w1 hR hG => ?_) a w (full_rep a hr.defers) (Eng.Good.start w)
  have hb : w.heap.size ≤ b := hS.1
  have hbel := gd_below hG (by simp [hb])
  have hw := hG.own (b, row t zero) (.head _)
  simp only at hw
  have hm := hr.mem.push id hf (cs := zero.map evC) (us := zero) (rest := []) (ty := t) hbel hb (by simpa using hw) rfl (VS_evC zero) (by simpa using h1)
  exact h a1 w1 ⟨_, X, hr.next hR (ExtX.of_below hr.mem.xlt hbel) (fun _ _ h => .inl h) (upd_ext (hr.mem.dom id hf)) hm (by simp only [V]; exact ⟨b, _, upd_at, rfl⟩)⟩

def cellsA : A → List A
  | .ag cs => cs
  | v => [v]
/-- One cell, for sure. -/
def one : A → Bool
  | .ag _ => false
  | .raw v => v.oneCell'
  | .tu _ => false
  | _ => true

theorem V_one {v : A} {u : Value} (h : one v = true) (hv : V X w β v u) : u.oneCell' = true := by
  cases v <;> simp only [V] at hv
  case b => subst hv; rfl
  case i => subst hv; rfl
  case s => subst hv; rfl
  case nl => subst hv; rfl
  case fz => obtain ⟨_, _, rfl, _⟩ := hv; rfl
  case fp => obtain ⟨_, _, rfl, _⟩ := hv; rfl
  case p => obtain ⟨_, _, _, rfl⟩ := hv; rfl
  case sl => rcases hv with ⟨_, _, _, rfl⟩ | ⟨_, _, _, _, rfl, _⟩ <;> rfl
  case ag => cases h
  case tu => cases h
  case fn => obtain ⟨_, _, rfl, _⟩ := hv; rfl
  case ic => obtain ⟨_, rfl, _⟩ := hv; rfl
  case raw => subst hv; exact h

/-- The cells of a value. -/
theorem V_cells {v : A} {u : Value} {cs : List A} (hc : cellsA v = cs) (h1 : one v = true ∨ ∃ ds, v = .ag ds) (hv : V X w β v u) : ∃ us, u.cells = us.toArray ∧ VS X w β cs us ∧ ∀ x ∈ us, x.oneCell' = true := by
  rcases h1 with h1 | ⟨ds, rfl⟩
  · have ho := V_one h1 hv
    have : cs = [v] := by rw [← hc]; cases v <;> first | rfl | cases h1
    subst this
    exact ⟨[u], cells_one ho, VS_cons hv VS_nil, by simpa using ho⟩
  · simp only [V] at hv
    obtain ⟨us, rfl, h2, h3⟩ := hv
    subst hc
    exact ⟨us, rfl, h2, h3⟩

/-- A value that goes into cells. -/
def cel : A → Bool
  | .ag _ => true
  | v => one v

theorem isAgOr (v : A) (h : cel v = true) : one v = true ∨ ∃ ds, v = .ag ds := by
  cases v <;> first | exact .inl rfl | exact .inr ⟨_, rfl⟩ | exact .inl h

/-- A value boxed. -/
theorem n_box {d : Nat} (id : Nat) (hf : st.free id = true) {t ty : TypeId} {pos aft g} {x : Operand} {v : A} {cs : List A} (hx : ev E x = some v) (hc : cellsA v = cs) (h1 : cel v = true) (hd : Nat.ble (d + 1) n = true)
    (h : At w0 X0 n ((d, .p id 0) :: E) (st.put id cs) K) : At w0 X0 n E st (fun a w => (⟨some d, .box t x, ty, pos, aft, g⟩ : Oper).wp P a w K Q) := by
  rintro a w ⟨β, X, hr⟩
  obtain ⟨e1, e2⟩ := hr.evo hx
  obtain ⟨us, g1, g2, g3⟩ := V_cells hc (isAgOr v h1) e2
  refine Eng.n_box (S := [w]) (H := []) (E := full a) (n := a.tmps.size) e1 g1 (by rw [hr.size]; exact hd) (fun b hS hH a1 w1 hR hG => ?_) a w (full_rep a hr.defers) (Eng.Good.start w)
  have hb : w.heap.size ≤ b := hS.1
  have hbel := gd_below hG (by simp [hb])
  have hw := hG.own (b, row t us) (.head _)
  simp only at hw
  have hnx := hr.mem.dom id hf
  have hx' := ExtX.of_below hr.mem.xlt hbel
  have hm := hr.mem.push id hf (cs := cs) (us := us) (rest := []) (ty := t) hbel hb (by simpa using hw) rfl (VS_mono hx' _ _ _ _ (upd_ext hnx) g2) g3
  exact h a1 w1 ⟨_, X, hr.next hR hx' (fun _ _ h => .inl h) (upd_ext hnx) hm (by simp only [V]; exact ⟨b, _, upd_at, rfl⟩)⟩

theorem cellsA_one {v : A} (h : one v = true) : cellsA v = [v] := by cases v <;> first | rfl | cases h
theorem cel_one {v : A} (h : one v = true) : cel v = true := by cases v <;> first | rfl | cases h | exact h
theorem n_boxA {d : Nat} (id : Nat) (hf : st.free id = true) {t ty : TypeId} {pos aft g} {x : Operand} {cs : List A} (hx : ev E x = some (.ag cs)) (hd : Nat.ble (d + 1) n = true)
    (h : At w0 X0 n ((d, .p id 0) :: E) (st.put id cs) K) : At w0 X0 n E st (fun a w => (⟨some d, .box t x, ty, pos, aft, g⟩ : Oper).wp P a w K Q) := n_box id hf hx rfl rfl hd h
theorem n_box1 {d : Nat} (id : Nat) (hf : st.free id = true) {t ty : TypeId} {pos aft g} {x : Operand} {v : A} (hx : ev E x = some v) (h1 : one v = true) (hd : Nat.ble (d + 1) n = true)
    (h : At w0 X0 n ((d, .p id 0) :: E) (st.put id [v]) K) : At w0 X0 n E st (fun a w => (⟨some d, .box t x, ty, pos, aft, g⟩ : Oper).wp P a w K Q) := n_box id hf hx (cellsA_one h1) (cel_one h1) hd h

/-- An own object's block holds something else. -/
theorem Mem.write (hm : Mem w0 β X st w) {w1 : World} {id b N : Nat} {cs cs' : List A} {us' rest' : List Value} {ty : TypeId} (hg : st.get id = some cs) (hβ : β id = some (.bk b N)) 
    (hG : Eng.Good [w] [(b, row ty (us' ++ rest'))] w1) (hl : us'.length + rest'.length = N) (hv : VS X w β cs' us') (h1 : ∀ x ∈ us', x.oneCell' = true) : Mem w0 β X (st.put id cs') w1 ∧ ExtX X X w w1 := by
  have ho := hm.obj id cs hg
  unfold OB at ho
  rw [hβ] at ho
  obtain ⟨o1, o2, _, _, _, hrowb, _⟩ := ho
  have hsn := hG.snap w (.head _)
  have hblk : ∀ k, k < w.heap.size → k ≠ b → w1.heap[k]? = w.heap[k]? := fun k hk hne => hsn.blk k hk (fun p hp => by simp only [List.mem_singleton] at hp; subst hp; exact fun e => hne e.symm)
  have hx : ExtX X X w w1 := fun q o h => ⟨h, World.cell?_of_block (w := w) (hblk q (hm.xlt q o h) (fun e => by subst e; exact o2 o h))⟩
  have hw1 := hG.own _ (.head _)
  simp only at hw1
  have hget : ∀ k, (st.put id cs').get k = if id = k then some cs' else st.get k := fun k => St.get_put
  refine ⟨.of (⟨hsn.os.trans hm.below.os, hsn.tape.trans hm.below.tape, hsn.output.trans hm.below.output, Nat.le_trans hm.below.size hsn.size, fun k hk hkm => ?_, fun s hs => Sus.kept_mono (hm.below.sus s hs) fun k hk => hblk k (by rcases hk with hk | ⟨_, hk⟩ <;> exact (Array.getElem?_eq_some_iff.1 hk).1) (fun e => by subst e; rw [hrowb] at hk; rcases hk with hk | ⟨_, hk⟩ <;> simp [row] at hk)⟩) (hm.b0) (fun q o h => Nat.lt_of_lt_of_le (hm.xlt q o h) hsn.size) (fun k hk => hm.dom k (by rw [St.free_put] at hk; split at hk; cases hk; exact hk)) (fun k ds hk => ?_) (fun i j ci cj q M N' hij hi hj hbi hbj => ?_), hx⟩
  · rw [hblk k (Nat.lt_of_lt_of_le hk hm.below.size) (fun e => by subst e; rcases o1 with h | h; omega; exact hkm h)]
    exact hm.below.block k hk hkm
  · rw [hget] at hk
    split at hk
    · rename_i e; subst e
      simp only [Option.some.injEq] at hk
      subst hk
      unfold OB
      rw [hβ]
      exact ⟨o1, o2, us', rest', ty, hw1, hl, VS_mono hx _ _ _ _ (ExtB.refl β) hv, h1⟩
    · rename_i hne
      refine (hm.obj k ds hk).later hx (ExtB.refl β) fun q M hq => ?_
      have ho := hm.obj k ds hk
      unfold OB at ho
      rw [hq] at ho
      obtain ⟨_, h2, us'', rest'', ty'', h3, _⟩ := ho
      exact ⟨hblk q (Array.getElem?_eq_some_iff.1 h3).1 fun e => hm.inj id k cs ds b N M hne hg hk hβ (by rw [hq, e]), h2⟩
  · have hgi : ∃ c, st.get i = some c := by rw [hget] at hi; split at hi; rename_i e; subst e; exact ⟨cs, hg⟩; exact ⟨ci, hi⟩
    have hgj : ∃ c, st.get j = some c := by rw [hget] at hj; split at hj; rename_i e; subst e; exact ⟨cs, hg⟩; exact ⟨cj, hj⟩
    obtain ⟨c1, hi'⟩ := hgi
    obtain ⟨c2, hj'⟩ := hgj
    exact hm.inj i j c1 c2 q M N' hij hi' hj' hbi hbj

theorem gd_one {b : Nat} {o : Obj} (h : w.heap[b]? = some o) : Eng.Good [w] [(b, o)] w :=
  ⟨fun s hs => by simp only [List.mem_singleton] at hs; subst hs; exact ⟨rfl, rfl, rfl, Nat.le_refl _, fun _ _ _ => rfl⟩, fun p hp => by simp only [List.mem_singleton] at hp; subst hp; exact h, List.pairwise_singleton _ _⟩

/-- A store into an own object. -/
theorem n_store {t ty : TypeId} {size by' zero agg} {pos aft g} {x y : Operand} {id o : Nat} {cs cs' ds : List A} {v : A} (ht : TI P t size by' zero agg) (hx : ev E x = some (.p id o)) (hy : ev E y = some v) (hg : st.get id = some cs) (hc : cellsA v = ds)
    (h1 : cel v = true) (hl : ds.length = size) (hfit : o + size ≤ cs.length) (hcs : cs.take o ++ ds ++ cs.drop (o + size) = cs')
    (h : At w0 X0 n E (st.put id cs') K) : At w0 X0 n E st (fun a w => (⟨none, .store t x y, ty, pos, aft, g⟩ : Oper).wp P a w K Q) := by
  rintro a w ⟨β, X, hr⟩
  obtain ⟨e1, e2⟩ := hr.evo hx
  obtain ⟨e3, e4⟩ := hr.evo hy
  obtain ⟨us, g1, g2, g3⟩ := V_cells hc (isAgOr v h1) e4
  simp only [V] at e2
  obtain ⟨b, N, hβ, e5⟩ := e2
  rw [e5] at e1
  have ho := hr.mem.obj id cs hg
  unfold OB at ho
  rw [hβ] at ho
  obtain ⟨o1, o2, us0, rest, ety, o3, o4, o5, o6⟩ := ho
  have hlu := VS_len o5
  have hus := VS_len g2
  subst hl
  have hle : us0.take o ++ us ++ us0.drop (o + us.length) ++ rest = (us0 ++ rest).take o ++ us ++ (us0 ++ rest).drop (o + us.length) := by
    rw [List.take_append_of_le_length (by omega), List.drop_append_of_le_length (by omega)]; simp
  refine Eng.n_store (S := [w]) (H := [(b, row ety (us0 ++ rest))]) (E := full a) (n := a.tmps.size) 0 ht e1 e3 g1 rfl hus g3 (by simp; omega) _ hle.symm (fun a1 w1 hR hG => ?_) a w (full_rep a hr.defers) (gd_one o3)
  have hv : VS X w β cs' (us0.take o ++ us ++ us0.drop (o + us.length)) := by
    rw [← hcs, hus]
    exact VS_app (VS_app (VS_take o5 o) g2) (VS_drop o5 _)
  have h1' : ∀ z ∈ us0.take o ++ us ++ us0.drop (o + us.length), z.oneCell' = true := by
    intro z hz
    simp only [List.mem_append] at hz
    rcases hz with (hz | hz) | hz
    · exact o6 z (List.mem_of_mem_take hz)
    · exact g3 z hz
    · exact o6 z (List.mem_of_mem_drop hz)
  obtain ⟨hm, hx'⟩ := hr.mem.write (cs' := cs') hg hβ hG (by simp; omega) hv h1'
  exact h a1 w1 ⟨β, X, hr.next0 hR hx' (fun _ _ h => .inl h) (ExtB.refl β) hm⟩

/-- .. of one cell. -/
theorem n_store1 {t ty : TypeId} {by' zero agg} {pos aft g} {x y : Operand} {id o : Nat} {cs cs' : List A} {v : A} (ht : TI P t 1 by' zero agg) (hx : ev E x = some (.p id o)) (hy : ev E y = some v) (hg : st.get id = some cs)
    (h1 : one v = true) (hfit : o < cs.length) (hcs : cs.set o v = cs')
    (h : At w0 X0 n E (st.put id cs') K) : At w0 X0 n E st (fun a w => (⟨none, .store t x y, ty, pos, aft, g⟩ : Oper).wp P a w K Q) :=
  n_store (ds := [v]) ht hx hy hg (by cases v <;> first | rfl | cases h1) (by cases v <;> first | rfl | cases h1 | exact h1) rfl (by omega) (by rw [← hcs, List.set_eq_take_append_cons_drop, if_pos hfit]; simp) h

/-- A struct or an array stored over a whole object. -/
theorem n_storeA {t ty : TypeId} {size by' zero agg} {pos aft g} {x y : Operand} {id : Nat} {cs ds : List A} (ht : TI P t size by' zero agg) (hx : ev E x = some (.p id 0)) (hy : ev E y = some (.ag ds)) (hg : st.get id = some cs) (hl : ds.length = size) (hc : cs.length = size)
    (h : At w0 X0 n E (st.put id ds) K) : At w0 X0 n E st (fun a w => (⟨none, .store t x y, ty, pos, aft, g⟩ : Oper).wp P a w K Q) :=
  n_store ht hx hy hg rfl rfl hl (by omega) (by rw [List.take_zero, Nat.zero_add, List.drop_eq_nil_of_le (by omega)]; simp [cellsA]) h

/-- 'make([]T, l, c)', elements of one cell. -/
theorem n_make {d : Nat} (id : Nat) (hf : st.free id = true) {t e : TypeId} {by' : Nat} {z : Value} {agg} {x y : Operand} {k k' : IntKind} {iv jv : Int} {ty : TypeId} {pos aft g} (l c : Nat) (ht : P.underlying t = some (.slice e)) (he : TI P e 1 by' [z] agg) (hz : z.oneCell' = true)
    (hx : ev E x = some (.i k iv)) (hy : ev E y = some (.i k' jv)) (hl : iv = (l : Int)) (hc : jv = (c : Int)) (hlc : l ≤ c) (hby : by' * c ≤ 281474976710656) (hc63 : c ≤ 9223372036854775807) (hd : Nat.ble (d + 1) n = true)
    (h : At w0 X0 n ((d, .sl id 1 0 l) :: E) (st.put id (List.replicate l (evC z))) K) :
    At w0 X0 n E st (fun a w => (⟨some d, .makeSlice t x y, ty, pos, aft, g⟩ : Oper).wp P a w K Q) := by
  rintro a w ⟨β, X, hr⟩
  obtain ⟨e1, e2⟩ := hr.evo hx
  obtain ⟨e3, e4⟩ := hr.evo hy
  rw [V_i] at e2 e4
  rw [e2] at e1; rw [e4] at e3
  refine Eng.n_make (S := [w]) (H := []) (E := full a) (n := a.tmps.size) l c ht he e1 e3 hl hc hlc hby hc63 (by rw [hr.size]; exact hd) (fun b hS hH a1 w1 hR hG => ?_) a w (full_rep a hr.defers) (Eng.Good.start w)
  have hb : w.heap.size ≤ b := hS.1
  have hbel := gd_below hG (by simp [hb])
  have hw := hG.own _ (.head _)
  simp only at hw
  have hm := hr.mem.push id hf (cs := List.replicate l (evC z)) (us := List.replicate l z) (rest := List.replicate (c - l) z) (ty := e) (N := c) hbel hb (by rw [hw]; simp only [row, List.replicate_append_replicate]; rw [show l + (c - l) = c by omega]) (by simp; omega)
    (by have := VS_evC (X := X) (w := w1) (β := upd β id (.bk b c)) (List.replicate l z); simpa using this) (by intro q hq; rw [List.eq_of_mem_replicate hq]; exact hz)
  exact h a1 w1 ⟨_, X, hr.next hR (ExtX.of_below hr.mem.xlt hbel) (fun _ _ h => .inl h) (upd_ext (hr.mem.dom id hf)) hm (by simp only [V]; exact .inr ⟨b, c, c, upd_at, rfl, hlc, by simp only [maxLen]; omega, by omega⟩)⟩

/-- The parts of a literal, in order. -/
def pvA (E : Ev) : List (Nat × Operand) → Nat → Option (List A)
  | [], _ => some []
  | (i, x) :: r, k =>
    match Nat.beq i k, ev E x, pvA E r (k + 1) with
    | true, some v, some vs => some (v :: vs)
    | _, _, _ => none

def flatA : List A → List A
  | [] => []
  | v :: r => cellsA v ++ flatA r

theorem pvA_old (hr : RelX w0 X0 n E st β X a w) {size : Nat} : ∀ {parts : List (Nat × Operand)} {k : Nat} {vs : List A}, pvA E parts k = some vs → (∀ v ∈ vs, (one v = true ∨ ∃ ds, v = .ag ds) ∧ (cellsA v).length = size) →
    ∃ us : List (Value × List Value), evps (full a) parts = some (idxd us k) ∧ us.length = vs.length ∧ (∀ p ∈ us, p.1.cells = p.2.toArray ∧ p.2.length = size) ∧ VS X w β (flatA vs) (flat us) ∧ ∀ x ∈ flat us, x.oneCell' = true
  | [], k, vs, h, _ => by simp only [pvA, Option.some.injEq] at h; subst h; exact ⟨[], rfl, rfl, (fun p hp => by cases hp), VS_nil, (fun x hx => by cases hx)⟩
  | (i, x) :: r, k, vs, h, hv => by
    simp only [pvA] at h
    split at h
    · rename_i v vs' hik hx hrest
      simp only [Option.some.injEq] at h
      subst h
      have : i = k := Nat.eq_of_beq_eq_true hik
      subst this
      obtain ⟨us, g1, g2, g3, g4, g5⟩ := pvA_old hr hrest (fun q hq => hv q (.tail _ hq))
      obtain ⟨e1, e2⟩ := hr.evo hx
      obtain ⟨h1, h2⟩ := hv v (.head _)
      obtain ⟨cs, c1, c2, c3⟩ := V_cells rfl h1 e2
      refine ⟨(a.eval x, cs) :: us, by simp only [evps, e1, g1, idxd], by simp [g2], fun p hp => ?_, VS_app c2 g4, fun q hq => ?_⟩
      · rcases List.mem_cons.1 hp with rfl | hp
        · exact ⟨c1, (VS_len c2).trans h2⟩
        · exact g3 p hp
      · simp only [flat, List.mem_append] at hq
        exact hq.elim (c3 q) (g5 q)
    · cases h

/-- A literal of a slice, every place written. -/
theorem n_bs {d : Nat} (id : Nat) (hf : st.free id = true) {t e : TypeId} {size by' zero agg} {len : Nat} {parts : List (Nat × Operand)} {vs cs : List A} {ty : TypeId} {pos aft g} (ht : P.underlying t = some (.slice e)) (he : TI P e size by' zero agg)
    (hp : pvA E parts 0 = some vs) (hlen : len = vs.length) (hce : vs.all cel = true) (hcl : ∀ v ∈ vs, (cellsA v).length = size) (hfl : flatA vs = cs) (hs : Nat.ble (len * size) 16777216 = true) (hs2 : Nat.ble len 16777216 = true) (hd : Nat.ble (d + 1) n = true)
    (h : At w0 X0 n ((d, .sl id size 0 len) :: E) (st.put id cs) K) :
    At w0 X0 n E st (fun a w => (⟨some d, .buildSlice t len parts.toArray, ty, pos, aft, g⟩ : Oper).wp P a w K Q) := by
  rintro a w ⟨β, X, hr⟩
  subst hfl
  obtain ⟨us, g1, g2, g3, g4, g5⟩ := pvA_old hr hp (fun v hv => ⟨isAgOr v (List.all_eq_true.1 hce v hv), hcl v hv⟩)
  refine Eng.n_bs (S := [w]) (H := []) (E := full a) (n := a.tmps.size) us ht he g1 rfl (by omega) g3 hs (by rw [hr.size]; exact hd) (fun b hS hH a1 w1 hR hG => ?_) a w (full_rep a hr.defers) (Eng.Good.start w)
  have hb : w.heap.size ≤ b := hS.1
  have hbel := gd_below hG (by simp [hb])
  have hw := hG.own _ (.head _)
  simp only at hw
  have hnx := hr.mem.dom id hf
  have hx' := ExtX.of_below hr.mem.xlt hbel
  have hm := hr.mem.push id hf (cs := flatA vs) (us := flat us) (rest := []) (ty := e) hbel hb (by simpa using hw) rfl (VS_mono hx' _ _ _ _ (upd_ext hnx) g4) g5
  have hfl : ∀ us : List (Value × List Value), (∀ p ∈ us, p.1.cells = p.2.toArray ∧ p.2.length = size) → (flat us).length = us.length * size := by
    intro us
    induction us with
    | nil => intro _; simp [flat]
    | cons p us ih => intro h; obtain ⟨v, c⟩ := p; simp only [flat, List.length_append, List.length_cons]; rw [(h _ (.head _)).2, ih (fun q hq => h q (.tail _ hq)), Nat.add_mul]; omega
  have hlen' := hfl us g3
  have hm2 := Nat.le_of_ble_eq_true hs2
  exact h a1 w1 ⟨_, X, hr.next hR hx' (fun _ _ h => .inl h) (upd_ext hnx) hm (by simp only [V]; exact .inr ⟨b, _, len, upd_at, rfl, Nat.le_refl _, by simp only [maxLen]; omega, by simp [hlen', g2, hlen]⟩)⟩

theorem flatA_one : ∀ {vs : List A}, vs.all one = true → flatA vs = vs
  | [], _ => rfl
  | v :: r, h => by
    simp only [List.all_cons, Bool.and_eq_true] at h
    simp only [flatA, cellsA_one h.1, flatA_one h.2, List.singleton_append]
theorem all_one {vs : List A} (h : vs.all one = true) : vs.all cel = true := List.all_eq_true.2 fun v hv => cel_one (List.all_eq_true.1 h v hv)
theorem len_one {vs : List A} (h : vs.all one = true) : ∀ v ∈ vs, (cellsA v).length = 1 := fun v hv => by rw [cellsA_one (List.all_eq_true.1 h v hv)]; rfl
/-- .. of one cell each. -/
theorem n_bs1 {d : Nat} (id : Nat) (hf : st.free id = true) {t e : TypeId} {by' zero agg} {len : Nat} {parts : List (Nat × Operand)} {vs : List A} {ty : TypeId} {pos aft g} (ht : P.underlying t = some (.slice e)) (he : TI P e 1 by' zero agg)
    (hp : pvA E parts 0 = some vs) (hlen : len = vs.length) (h1 : vs.all one = true) (hs2 : Nat.ble len 16777216 = true) (hd : Nat.ble (d + 1) n = true)
    (h : At w0 X0 n ((d, .sl id 1 0 len) :: E) (st.put id vs) K) :
    At w0 X0 n E st (fun a w => (⟨some d, .buildSlice t len parts.toArray, ty, pos, aft, g⟩ : Oper).wp P a w K Q) :=
  n_bs id hf ht he hp hlen (all_one h1) (len_one h1) (flatA_one h1) (by rw [Nat.mul_one]; exact hs2) hs2 hd h
end
end Go.Abs
