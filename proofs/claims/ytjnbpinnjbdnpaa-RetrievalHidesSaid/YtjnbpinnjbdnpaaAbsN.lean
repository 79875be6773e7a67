/-
  The second engine, part N: a range over a function: the iterator and the rounds in one walk. Conditions: none; nothing of any program stands here.
-/
import Derived.Test.YtjnbpinnjbdnpaaAbsM
namespace Go.Abs
open Go Go.Eng

/-- Blocks that bear no cells. -/
def quiet : Obj → Bool
  | .deferred _ => true
  | .loop _ => true
  | _ => false
theorem quiet_cell {w : World} {b o : Nat} {x : Obj} (h : w.heap[b]? = some x) (hq : quiet x = true) : w.cell? ⟨b, o, none⟩ = none := by
  simp only [World.cell?, h]
  cases x <;> first | rfl | cases hq

/-- More blocks; of those that were there, only own ones without cells have turned. -/
structure Qt (B : Bw) (w w' : World) : Prop where
  os : w'.os = w.os
  tape : w'.tape = w.tape
  output : w'.output = w.output
  size : w.heap.size ≤ w'.heap.size
  blk : ∀ b, b < w.heap.size → w'.heap[b]? = w.heap[b]? ∨ (B.own b ∧ (∃ o, w.heap[b]? = some o ∧ quiet o = true) ∧ ∃ o, w'.heap[b]? = some o ∧ quiet o = true)
theorem Qt.refl {B : Bw} {w : World} : Qt B w w := ⟨rfl, rfl, rfl, Nat.le_refl _, fun _ _ => .inl rfl⟩
theorem Qt.cell {B : Bw} {w w' : World} (h : Qt B w w') {b o : Nat} (hb : b < w.heap.size) : w'.cell? ⟨b, o, none⟩ = w.cell? ⟨b, o, none⟩ := by
  rcases h.blk b hb with h | ⟨_, ⟨x, h1, h2⟩, y, h3, h4⟩
  · simp only [World.cell?, h]
  · rw [quiet_cell h1 h2, quiet_cell h3 h4]
theorem Qt.row {B : Bw} {w w' : World} (h : Qt B w w') {b : Nat} {ty : TypeId} {us : List Value} (hb : w.heap[b]? = some (row ty us)) : w'.heap[b]? = some (row ty us) := by
  rcases h.blk b (Array.getElem?_eq_some_iff.1 hb).1 with h | ⟨_, ⟨x, h1, h2⟩, _⟩
  · rw [h]; exact hb
  · rw [hb] at h1; simp only [Option.some.injEq] at h1; subst h1; cases h2
theorem Qt.put {B : Bw} {w : World} {q : Nat} {o o' : Obj} (ho : B.own q) (h : w.heap[q]? = some o) (hq : quiet o = true) (hq' : quiet o' = true) : Qt B w (w.putObj q o') :=
  ⟨rfl, rfl, rfl, by simp, fun b hb => by
    by_cases e : b = q
    · subst e; exact .inr ⟨ho, ⟨o, h, hq⟩, o', World.putObj_heap_same hb, hq'⟩
    · exact .inl (World.putObj_heap_other e)⟩
theorem Qt.of_below {B : Bw} {w w' : World} (k : RowKit.Below w.heap.size w w') : Qt B w w' := ⟨k.os, k.tape, k.output, k.size, fun b hb => .inl (k.block b hb)⟩

theorem own_eq {w1 w2 : Bw} (hw : w2.w = w1.w) (hM : w2.M = w1.M) (b : Nat) : w2.own b ↔ w1.own b := by unfold Bw.own; rw [hw, hM]

section
variable {P : Program} {w0 w1 w2 : Bw} {X0 X : Xs} {n : Nat} {E : Ev} {st : St} {β : Bm} {a : Act} {w : World}
/-- Another frame, another base, the same objects. -/
theorem RelX.rebase (hr : RelX w1 X0 n E st β X a w) {a' : Act} {n' : Nat} {E' : Ev} {w' : World} (hw : w2.w = w1.w) (hM : w2.M = w1.M) (hq : Qt w1 w w') (hb : ExtB w2.β β) (hk : ∀ s ∈ w2.sus, s.kept w2.own w') (hs : ∀ s ∈ w2.sus, s.slots X w')
    (hsz : a'.tmps.size = n') (hd : a'.defers = []) (hsl : ∀ t v, E'.at? t = some v → ∃ u, a'.tmps[t]? = some u ∧ V X w β v u) : RelX w2 X0 n' E' st β X a' w' := by
  have hx : ExtX X X w w' := fun b o h => ⟨h, hq.cell (hr.mem.xlt b o h)⟩
  have ho := own_eq hw hM
  refine .of hr.x0 (fun b o h => (hr.xn b o h).imp (fun h => h) (ho b).2) (.of ⟨?_, ?_, ?_, ?_, ?_, hk⟩ hb (fun b o h => Nat.lt_of_lt_of_le (hr.mem.xlt b o h) hq.size) hr.mem.dom (fun id cs hg => ?_) hr.mem.inj) (hr.gl.mono hx) hsz hd hs (fun t v ht => ?_)
  · rw [hq.os, hr.mem.below.os, hw]
  · rw [hq.tape, hr.mem.below.tape, hw]
  · rw [hq.output, hr.mem.below.output, hw]
  · rw [hw]; exact Nat.le_trans hr.mem.below.size hq.size
  · intro k hk' hm
    rw [hw] at hk'
    rw [hM] at hm
    rw [hw, ← hr.mem.below.block k hk' hm]
    rcases hq.blk k (Nat.lt_of_lt_of_le hk' hr.mem.below.size) with h | ⟨h | h, _⟩
    · exact h
    · omega
    · exact absurd h hm
  · have := hr.mem.obj id cs hg
    unfold OB at *
    split at this
    · exact this
    · exact this
    · obtain ⟨h1, h2, us, rest, ty, h3, h4, h5, h6⟩ := this
      exact ⟨(ho _).2 h1, h2, us, rest, ty, hq.row h3, h4, VS_mono hx _ _ β β (ExtB.refl β) h5, h6⟩
  · obtain ⟨u, h1, h2⟩ := hsl t v ht
    exact ⟨u, h1, V_mono hx _ _ β β (ExtB.refl β) h2⟩
end

/-! What a value names. -/
mutual
def refs : A → List Nat
  | .p id _ => [id]
  | .sl id _ _ _ => [id]
  | .ag cs => refsL cs
  | .tu vs => refsL vs
  | .fn _ a c => refsL a ++ refsL c
  | .ic _ v => refs v
  | _ => []
def refsL : List A → List Nat
  | [] => []
  | c :: cs => refs c ++ refsL cs
end
def refsE : Ev → List Nat
  | [] => []
  | (_, v) :: r => refs v ++ refsE r
/-- The places of some objects only. -/
def onlyB (ids : List Nat) (β : Bm) : Bm := fun id => cond (memN ids id) (β id) none
theorem onlyB_ext {ids : List Nat} {β : Bm} : ExtB (onlyB ids β) β := fun id y h => by
  unfold onlyB at h
  cases hm : memN ids id with
  | true => rw [hm] at h; exact h
  | false => rw [hm] at h; cases h
theorem onlyB_eq {ids : List Nat} {β : Bm} {id : Nat} (h : memN ids id = true) : onlyB ids β id = β id := by unfold onlyB; rw [h]; rfl
section
variable {X : Xs} {w : World} {β : Bm} {ids : List Nat}
mutual
theorem V_only : ∀ (a : A) (u : Value), (∀ i ∈ refs a, memN ids i = true) → V X w β a u → V X w (onlyB ids β) a u
  | .b x, u, _, h => by simp only [V] at *; exact h
  | .i k n, u, _, h => by simp only [V] at *; exact h
  | .s l, u, _, h => by simp only [V] at *; exact h
  | .nl, u, _, h => by simp only [V] at *; exact h
  | .fz n cs, u, _, h => by simp only [V] at *; exact h
  | .fp cs, u, _, h => by simp only [V] at *; exact h
  | .p id off, u, hi, h => by
    simp only [V] at *
    rw [onlyB_eq (hi id (by simp [refs]))]
    exact h
  | .sl id s off n, u, hi, h => by
    simp only [V] at *
    rw [onlyB_eq (hi id (by simp [refs]))]
    exact h
  | .ag cs, u, hi, h => by
    simp only [V] at *
    obtain ⟨us, h1, h2, h3⟩ := h
    exact ⟨us, h1, VS_only cs us (fun i h => hi i (by simpa [refs] using h)) h2, h3⟩
  | .tu vs, u, hi, h => by
    simp only [V] at *
    obtain ⟨us, h1, h2⟩ := h
    exact ⟨us, h1, VS_only vs us (fun i h => hi i (by simpa [refs] using h)) h2⟩
  | .fn f a c, u, hi, h => by
    simp only [V] at *
    obtain ⟨us, vs, h1, h2, h3⟩ := h
    exact ⟨us, vs, h1, VS_only a us (fun i h => hi i (by simp [refs, h])) h2, VS_only c vs (fun i h => hi i (by simp [refs, h])) h3⟩
  | .ic t v, u, hi, h => by
    simp only [V] at *
    obtain ⟨y, h1, h2⟩ := h
    exact ⟨y, h1, V_only v y (fun i h => hi i (by simpa [refs] using h)) h2⟩
  | .raw v, u, _, h => by simp only [V] at *; exact h
theorem VS_only : ∀ (cs : List A) (us : List Value), (∀ i ∈ refsL cs, memN ids i = true) → VS X w β cs us → VS X w (onlyB ids β) cs us
  | [], us, _, h => by simp only [VS] at *; exact h
  | c :: cs, us, hi, h => by
    simp only [VS] at *
    obtain ⟨u, r, h1, h2, h3⟩ := h
    exact ⟨u, r, h1, V_only c u (fun i h => hi i (by simp [refsL, h])) h2, VS_only cs r (fun i h => hi i (by simp [refsL, h])) h3⟩
end
theorem refsE_at : ∀ {E : Ev} {t : Nat} {v : A}, E.at? t = some v → ∀ i ∈ refs v, i ∈ refsE E
  | [], _, _, h, _, _ => by cases h
  | (k, u) :: r, t, v, h, i, hi => by
    simp only [Ev.at?] at h
    simp only [refsE, List.mem_append]
    cases hb : Nat.beq k t with
    | true => rw [hb] at h; simp only [cond_true, Option.some.injEq] at h; subst h; exact .inl hi
    | false => rw [hb] at h; exact .inr (refsE_at (E := r) h i hi)
end
/-- Facts about slots that name none but these objects. -/
def onlyE (ids : List Nat) (E : Ev) : Bool := (refsE E).all (memN ids)

theorem onlyB_mem {ids : List Nat} {β : Bm} {id : Nat} {x : BL} (h : onlyB ids β id = some x) : id ∈ ids := by
  unfold onlyB at h
  cases hm : memN ids id with
  | true => exact memN_mem hm
  | false => rw [hm] at h; cases h
/-- Objects' places at the base, and what stands still. -/
def mkB (B : Bw) (β : Bm) (ids : List Nat) (ss : List Sus) : Bw := { w := B.w, M := B.M, β := onlyB ids β, ids := ids, bi := fun _ _ h => onlyB_mem h, sus := ss }
def Bw.re (B : Bw) (ss : List Sus) : Bw := { w := B.w, M := B.M, β := B.β, ids := B.ids, bi := B.bi, sus := ss }

/-- A base below another. -/
structure Sub (w0 w1 : Bw) (ids : List Nat) (ss : List Sus) : Prop where
  w : w1.w = w0.w
  M : w1.M = w0.M
  ext : ExtB w0.β w1.β
  ids : w1.ids = ids
  sus : w1.sus = ss ++ w0.sus
theorem Sub.own {w0 w1 : Bw} {ids : List Nat} {ss : List Sus} (h : Sub w0 w1 ids ss) (b : Nat) : w1.own b ↔ w0.own b := own_eq h.w h.M b
theorem mkB_ext {B : Bw} {β : Bm} {ids idsB : List Nat} {ss : List Sus} (hI : B.ids = idsB) (hs : (idsB.all (memN ids)) = true) (hb : ExtB B.β β) : ExtB B.β (mkB B β ids ss).β := fun id y h => by
  have hid := B.bi id y h
  rw [hI] at hid
  show onlyB ids β id = some y
  rw [onlyB_eq (List.all_eq_true.1 hs id hid)]
  exact hb id y h

/-- The base under the iterator: the loop's record, in this state, with its owner's slots. -/
structure Rg (w0 w1 : Bw) (ids : List Nat) (l D : Nat) (rc : Loop) (n : Nat) (Ek : Ev) (ps : List Tmp) (assign body : Code) (s : LoopState) (pe : Option Code) : Prop where
  sub : Sub w0 w1 ids [.lp l { rc with state := s, pending := pe } Ek w1.β, .df D]
  ps : rc.params = ps.toArray
  assign : rc.assign = assign
  body : rc.body = body
  size : rc.tmps.size = n
  ne : l ≠ D
  old : ∀ r E β, Sus.lp l r E β ∉ w0.sus
  oldD : Sus.df D ∉ w0.sus
/-- .. under a round. -/
structure Rd (w0 w1 w2 : Bw) (ids : List Nat) (l D : Nat) (rc : Loop) (Ek : Ev) (s : LoopState) (pe : Option Code) (tm : Array Value) (nI : Nat) (Eit : Ev) : Prop where
  sub : Sub w0 w2 ids [.fr tm Eit w2.β, .lp l { rc with state := s, pending := pe } Ek w1.β, .df D]
  ext : ExtB w1.β w2.β
  size : tm.size = nI
  ne : l ≠ D
  old : ∀ r E β, Sus.lp l r E β ∉ w0.sus

abbrev yv (l : Nat) : A := .raw (.func (.yield l) #[] #[])
/-- What a round hands back, in the iterator. -/
def rdR (ds : List Nat) (tm : Array Value) (d : Option Nat) (N : Act → World → Prop) (Q : Exit → Act → World → Prop) : Ending → World → Prop
  | .returned v, w => Pw ds N (Act.put ⟨tm, []⟩ d v) w
  | .panicked ch, w => Q (.panic ch) (Act.wd ds ⟨tm, []⟩) w
  | .outgrown, _ => LetsOut Q
def rdB (P : Program) (l : Nat) (body : Code) (R : Ending → World → Prop) : Act → World → Prop := fun a w => ∃ w', (Instr.beginRound l).run P w = .ok () w' ∧ body.wpIn (rF (some l)) 0 P (roundPost P l R) a w'
def noX : Exit → Act → World → Prop := fun _ _ _ => False
def parE : List Tmp → List A → Ev → Ev
  | t :: ts, v :: vs, E => parE ts vs ((t, v) :: E)
  | _, _, E => E

section
variable {P : Program} {w0 w1 w2 : Bw} {X0 : Xs} {n n' : Nat} {E : Ev} {st : St} {Q : Exit → Act → World → Prop} {r : Option Nat} {ds : List Nat}

theorem wd_mark {a : Act} {D : Nat} (h : a.defers = []) : ({ a.wd ds with defers := [{ target := .collected D, args := #[] }] ++ (a.wd ds).defers } : Act) = Act.wd (D :: ds) ⟨a.tmps, []⟩ := by
  unfold Act.wd
  simp [h]

theorem run_callFn {f : FuncId} {fn : Func} {c : Code} {args : Array Value} {w : World} (hf : P.funcs[f]? = some fn) (hb : fn.body = some c) (hname : (fn.name == "runtime.NumGoroutine") = false) : (callFunc f args).run P w = .ok (.enter f args) w := by
  unfold callFunc
  rw [Sem.run_bind, run_program]
  simp only [Result.andThen_ok, hf, hname, hb, Bool.false_eq_true, if_false]
  simp

theorem kept_qt {B B' : Bw} {w w' : World} {s : Sus} (h : s.kept B.own w) (hw : ∀ b, B.own b → B'.own b) (hq : ∀ (b : Nat) (o : Obj), w.heap[b]? = some o → quiet o = true → w'.heap[b]? = w.heap[b]?) : s.kept B'.own w' := by
  cases s with
  | df D => exact ⟨hw _ h.1, (hq _ _ h.2 rfl).trans h.2⟩
  | lp l r E β => exact ⟨hw _ h.1, (hq _ _ h.2 rfl).trans h.2⟩
  | fr _ _ _ => trivial

/-- 'for .. := range g { .. }': into the iterator. 'Ek': what of the slots is kept; 'ids': the objects that keep their numbers. -/
theorem at_range {g : Operand} {ps : List Tmp} {assign body c : Code} {f : FuncId} {fn : Func} {cs : List A} {idsB : List Nat} (ids : List Nat) (Ek : Ev) (hI : w0.ids = idsB) (hs : (idsB.all (memN ids)) = true) (hE : le E Ek) (hids : onlyE ids Ek = true)
    (hg : ev E g = some (.fn (.func f) [] cs)) (hf : P.funcs[f]? = some fn) (hb : fn.body = some c) (hn : fn.ntmps = n') (hname : (fn.name == "runtime.NumGoroutine") = false) (ha : cs.length + 1 ≤ n')
    (h : ∀ w1 l D rc, Rg w0 w1 ids l D rc n Ek ps assign body .ready none → At w1 X0 n' (argsE (yv l :: cs) 0) st (Pw [] (c.wpIn (rF none) 0 P (bodyPostM (rF none) 0 P fn (rangePost (rF none) 0 P l Q (Act.wd (D :: ds) ⟨rc.tmps, []⟩)))))) :
    At w0 X0 n E st (Pw ds ((Code.rangeFunc g ps.toArray assign body).wpIn (rF none) 0 P Q)) := by
  rintro a w ⟨β, X, hr⟩
  show (Code.rangeFunc g ps.toArray assign body).wpIn (rF none) 0 P Q (a.wd ds) w
  refine wpIn_rangeFunc fun fnid _ => ?_
  have hgv := hr.evl hg
  simp only [V] at hgv
  obtain ⟨us, vs, e1, e2, e3⟩ := hgv
  simp only [VS] at e2
  subst e2
  obtain ⟨rc, hrc⟩ : ∃ rc : Loop, rc = { state := .ready, pending := none, fn := fnid, tmps := a.tmps, params := ps.toArray, assign := assign, body := body, defers := w.heap.size } := ⟨_, rfl⟩
  obtain ⟨W1, hW1⟩ : ∃ W1, (w.alloc (.deferred (some []))).alloc (.loop rc) = W1 := ⟨_, rfl⟩
  have hL1 : W1.heap[w.heap.size + 1]? = some (.loop rc) := by
    rw [← hW1]; have := World.alloc_heap_new (w.alloc (.deferred (some []))) (.loop rc); rwa [World.size_alloc] at this
  have hD1 : W1.heap[w.heap.size]? = some (.deferred (some [])) := by
    rw [← hW1]; exact (RowKit.Below.heap_alloc _ _ _ (by simp)).trans (World.alloc_heap_new w _)
  have hB1 : RowKit.Below w.heap.size w W1 := by
    rw [← hW1]; exact ((RowKit.Below.refl _ w).alloc (Nat.le_refl _) _).alloc (by simp) _
  have hq : Qt w0 w W1 := .of_below hB1
  have hx : ExtX X X w W1 := fun b o h => ⟨h, hq.cell (hr.mem.xlt b o h)⟩
  have ho : ∀ b, w.heap.size ≤ b → w0.own b := fun b hb => Bw.own_new hr.mem.below hb
  have hrg : Rg w0 (mkB w0 β ids (.lp (w.heap.size + 1) rc Ek (onlyB ids β) :: .df w.heap.size :: w0.sus)) ids (w.heap.size + 1) w.heap.size rc n Ek ps assign body .ready none :=
    ⟨⟨rfl, rfl, mkB_ext hI hs hr.mem.b0, rfl, by rw [hrc]; rfl⟩, by rw [hrc], by rw [hrc], by rw [hrc], by rw [hrc]; exact hr.size, by omega, fun r E β h => by have := (Array.getElem?_eq_some_iff.1 (hr.mem.below.sus _ h).2).1; omega, fun h => by have := (Array.getElem?_eq_some_iff.1 (hr.mem.below.sus _ h).2).1; omega⟩
  refine ⟨w.heap.size + 1, [{ target := .collected w.heap.size, args := #[] }], W1, { target := .fn (.func f) vs.toArray, args := #[.func (.yield (w.heap.size + 1)) #[] #[]] }, W1, f,
    #[.func (.yield (w.heap.size + 1)) #[] #[]] ++ vs.toArray, W1, ?_, ?_, fun _ _ => trivial, ?_, (fun h => by cases h), ?_⟩
  · rw [← hW1, hrc]; exact run_enterLoop_outer _ _ _ _ _
  · simp only [resolve, eval_wd, e1]
    simp [go_sem]
  · simp [invoke, go_sem, run_callFn hf hb hname]
  · have hrt : rc.tmps = a.tmps := by rw [hrc]
    rw [wd_mark hr.defers, ← hrt]
    refine callsIn_of_wp_marks hf hb trivial (wp_nil (h _ _ _ rc hrg _ W1 ⟨β, X, hr.rebase rfl rfl hq onlyB_ext (fun s hs' => ?_) (fun s hs' => ?_) ?_ rfl (fun t v ht => ?_)⟩))
    · rcases List.mem_cons.1 hs' with rfl | hs'
      · exact ⟨ho _ (by omega), hL1⟩
      · rcases List.mem_cons.1 hs' with rfl | hs'
        · exact ⟨ho _ (Nat.le_refl _), hD1⟩
        · exact kept_qt (hr.mem.below.sus s hs') (fun b hb => hb) fun b o hb _ => hB1.block b (Array.getElem?_eq_some_iff.1 hb).1
    · rcases List.mem_cons.1 hs' with rfl | hs'
      · intro t v ht
        obtain ⟨u, h1, h2⟩ := hr.slot t v (le_at hE t v ht)
        refine ⟨u, by rw [hrt]; exact h1, V_mono hx _ _ _ _ (ExtB.refl _) (V_only v u (fun i hi => ?_) h2)⟩
        exact List.all_eq_true.1 hids i (refsE_at ht i hi)
      · rcases List.mem_cons.1 hs' with rfl | hs'
        · trivial
        · exact Sus.slots_mono hx (hr.sslot s hs')
    · have := VS_len e3
      simp [hn]; omega
    · obtain ⟨_, h2⟩ := argsE_at _ _ _ _ ht
      simp only [Nat.sub_zero] at h2
      have hall : VS X w β (yv (w.heap.size + 1) :: cs) (.func (.yield (w.heap.size + 1)) #[] #[] :: vs) := VS_cons (by simp [V]) e3
      obtain ⟨u, g1, g2⟩ := VS_get hall h2
      have hlt := (List.getElem?_eq_some_iff.1 g1).1
      refine ⟨u, ?_, g2⟩
      rw [Array.getElem?_append, if_pos (by simp at hlt ⊢; omega)]
      rw [show (#[Value.func (.yield (w.heap.size + 1)) #[] #[]] ++ vs.toArray) = (Value.func (.yield (w.heap.size + 1)) #[] #[] :: vs).toArray by simp]
      simpa using g1

theorem zipE : ∀ {ps : List Tmp} {vs : List A} {us : List Value} {tm : Array Value} {E : Ev} {X : Xs} {w : World} {β : Bm} {n : Nat}, tm.size = n → (ps.all fun t => Nat.ble (t + 1) n) = true → VS X w β vs us → (∀ t v, E.at? t = some v → ∃ u, tm[t]? = some u ∧ V X w β v u) →
    ((ps.zip us).foldl (fun (tm : Array Value) (p : Tmp × Value) => tm.setIfInBounds p.1 p.2) tm).size = n ∧ ∀ t v, (parE ps vs E).at? t = some v → ∃ u, ((ps.zip us).foldl (fun (tm : Array Value) (p : Tmp × Value) => tm.setIfInBounds p.1 p.2) tm)[t]? = some u ∧ V X w β v u
  | [], vs, us, tm, E, X, w, β, n, hn, _, _, h => ⟨by simpa using hn, by simpa [parE] using h⟩
  | t :: ps, [], us, tm, E, X, w, β, n, hn, _, hv, h => by
    simp only [VS] at hv
    subst hv
    exact ⟨by simpa using hn, by simpa [parE] using h⟩
  | t :: ps, v :: vs, us, tm, E, X, w, β, n, hn, hp, hv, h => by
    simp only [VS] at hv
    obtain ⟨u, us, rfl, h1, h2⟩ := hv
    simp only [List.all_cons, Bool.and_eq_true] at hp
    have ht : t < tm.size := by rw [hn]; exact Nat.le_of_ble_eq_true hp.1
    simp only [List.zip_cons_cons, List.foldl_cons, parE]
    refine zipE (by simpa using hn) hp.2 h2 fun k x hk => ?_
    simp only [Ev.at?] at hk
    cases hb : Nat.beq t k with
    | true =>
      rw [hb] at hk
      simp only [cond_true, Option.some.injEq] at hk
      subst hk
      rw [← Nat.eq_of_beq_eq_true hb]
      exact ⟨u, by simp [ht], h1⟩
    | false =>
      rw [hb] at hk
      obtain ⟨u', g1, g2⟩ := h k x hk
      exact ⟨u', by rw [Array.getElem?_setIfInBounds_ne (Nat.ne_of_beq_eq_false hb)]; exact g1, g2⟩

/-- A call of yield: into the round. 'Eit': what of the iterator's slots is kept. -/
theorem at_yield {ops : Array Oper} {rest : List Oper} {d : Nat} {x : Operand} {xs : List Operand} {ats : Array TypeId} {ty : TypeId} {pos : String} {aft : Array Edge} {l D nO : Nat} {rc : Loop} {Ek Er : Ev} {ps : List Tmp} {assign body : Code} {vs : List A} {ids idsB : List Nat} (ids2 : List Nat) (Eit : Ev)
    (hR : Rg w0 w1 ids l D rc nO Ek ps assign body .ready none) (hI : w1.ids = idsB) (hs : (idsB.all (memN ids2)) = true) (hE : le E Eit) (hids : onlyE ids2 Eit = true) (hx : ev E x = some (yv l)) (hxs : evsA E xs = some vs) (hl : vs.length = ps.length) (hp : (ps.all fun t => Nat.ble (t + 1) nO) = true) (hEr : parE ps vs Ek = Er)
    (h : ∀ w2 tm, Rd w0 w1 w2 ids2 l D rc Ek .ready none tm n Eit → At w2 X0 nO Er st (Pw [] (assign.wpIn (rF (some l)) 0 P (Exit.then (rdB P l body (rdR ds tm (some d) (wpListIn (rF r) 0 P ops Q rest) Q)) noX)))) :
    At w1 X0 n E st (Pw ds (wpListIn (rF r) 0 P ops Q (⟨some d, .call { callee := .value x, args := xs.toArray, argTypes := ats }, ty, pos, aft, none⟩ :: rest))) := by
  rintro ⟨tm, dfs⟩ w ⟨β, X, hr⟩
  obtain rfl : dfs = [] := hr.defers
  obtain ⟨a, ha⟩ : ∃ a : Act, a = ⟨tm, []⟩ := ⟨_, rfl⟩
  rw [← ha] at hr ⊢
  subst hEr
  show wpListIn (rF r) 0 P ops Q (_ :: rest) (a.wd ds) w
  unfold wpListIn
  rw [if_pos (by simp [Region.wanted])]
  have e1 := hr.evl hx
  simp only [V] at e1
  obtain ⟨us, e3, e4⟩ := hr.evs hxs
  have hm := Eng.Rep.evs (full_rep a hr.defers) e3
  have hmem : (.lp l { rc with state := .ready, pending := none } Ek w1.β : Sus) ∈ w1.sus := by rw [hR.sub.sus]; exact .head _
  have hk := hr.mem.below.sus _ hmem
  have hus : us.length = vs.length := VS_len e4
  have hy := run_yield (P := P) (args := us.toArray) hk.2 (by simp [hR.ps, hus, hl])
  have hrun : (execOp a.eval ⟨some d, .call { callee := .value x, args := xs.toArray, argTypes := ats }, ty, pos, aft, none⟩).run P w = .ok (.round l rc.fn ((rc.params.zip us.toArray).foldl (fun tmps (t, a) => tmps.setIfInBounds t a) rc.tmps) rc.assign rc.body) w := by
    have he : xs.toArray.map a.eval = us.toArray := by rw [List.map_toArray, hm]
    have : execOp a.eval ⟨some d, .call { callee := .value x, args := xs.toArray, argTypes := ats }, ty, pos, aft, none⟩ = Instr.yield l us.toArray := by
      show (do let d ← Deferred.ofValue (a.eval x) (xs.toArray.map a.eval); invoke d.target d.args : Sem Next) = _
      rw [e1, he]
      simp [Deferred.ofValue, invoke]
    rw [this, hy]
  unfold Oper.wpIn
  refine ⟨fun _ _ => trivial, ?_⟩
  rw [Oper.semAt_eq _ _ _ (fun c h => by cases h), evalf_wd, hrun, Oper.uponIn_round]
  refine ⟨fun h => (by cases h), ?_⟩
  rw [hR.assign, hR.body]
  have hlp := hr.sslot _ hmem
  have hRd : Rd w0 w1 (mkB w1 β ids2 (.fr tm Eit (onlyB ids2 β) :: w1.sus)) ids2 l D rc Ek .ready none tm n Eit :=
    ⟨⟨hR.sub.w, hR.sub.M, fun id y h => mkB_ext hI hs hr.mem.b0 id y (hR.sub.ext id y h), rfl, by show _ :: w1.sus = _; rw [hR.sub.sus]; rfl⟩, mkB_ext hI hs hr.mem.b0, by have := hr.size; rw [ha] at this; exact this, hR.ne, hR.old⟩
  have hgo := h _ _ hRd
  have hz := zipE (X := X) (w := w) (β := β) (E := Ek) (n := nO) (tm := rc.tmps) hR.size hp e4 (fun t v ht => by
    obtain ⟨u, g1, g2⟩ := hlp t v ht
    exact ⟨u, g1, V_mono (fun b o h => ⟨h, rfl⟩) _ _ _ _ hr.mem.b0 g2⟩)
  have hfold : ((rc.params.zip us.toArray).foldl (fun tmps (t, a) => tmps.setIfInBounds t a) rc.tmps) = ((ps.zip us).foldl (fun (tm : Array Value) (p : Tmp × Value) => tm.setIfInBounds p.1 p.2) rc.tmps) := by
    rw [hR.ps]; simp
  rw [hfold]
  have hgo' : assign.wpIn ((rF r).inRound l) (0 - 1) P (Exit.then (rdB P l body (rdR ds tm (some d) (wpListIn (rF r) 0 P ops Q rest) Q)) noX) ⟨(ps.zip us).foldl (fun (tm : Array Value) (p : Tmp × Value) => tm.setIfInBounds p.1 p.2) rc.tmps, []⟩ w := wp_nil (hgo _ w ⟨β, X, hr.rebase (w2 := mkB w1 β ids2 (.fr tm Eit (onlyB ids2 β) :: w1.sus)) rfl rfl .refl onlyB_ext (fun s hs' => ?_) (fun s hs' => ?_) hz.1 rfl hz.2⟩)
  · obtain ⟨k1, k2⟩ := roundIn_of_wpIn (F := rF r) (n := 0 - 1) (f := rc.fn) trivial hgo'
    refine ⟨k1, fun c cs hr => ?_⟩
    obtain ⟨e, w', h1, h2⟩ := k2 c cs hr
    refine ⟨e, w', ?_, h2⟩
    subst ha
    cases e with
    | returned v => show wpListIn (rF r) 0 P ops Q rest ((Act.wd ds ⟨tm, []⟩).put (some d) v) w'; rw [put_wd]; exact h1
    | panicked ch => exact h1
    | outgrown => exact h1
  · rcases List.mem_cons.1 hs' with rfl | hs'
    · trivial
    · exact hr.mem.below.sus s hs'
  · rcases List.mem_cons.1 hs' with rfl | hs'
    · intro t v ht
      obtain ⟨u, h1, h2⟩ := hr.slot t v (le_at hE t v ht)
      refine ⟨u, by rw [ha] at h1; exact h1, V_only v u (fun i hi => ?_) h2⟩
      exact List.all_eq_true.1 hids i (refsE_at ht i hi)
    · exact hr.sslot s hs'

theorem kept_put {B B' : Bw} {l : Nat} {x y : Loop} {w : World} (hl : w.heap[l]? = some (.loop x)) (hw : ∀ b, B.own b → B'.own b) {s : Sus} (hs : ∀ r E β, s ≠ .lp l r E β) (h : s.kept B.own w) : s.kept B'.own (w.putObj l (.loop y)) := by
  cases s with
  | df D =>
    refine ⟨hw _ h.1, (World.putObj_heap_other (fun e => ?_)).trans h.2⟩
    have := h.2
    rw [e, hl] at this
    cases this
  | lp l' r E β =>
    refine ⟨hw _ h.1, (World.putObj_heap_other (fun e => ?_)).trans h.2⟩
    subst e
    exact hs r E β rfl
  | fr _ _ _ => trivial
theorem slots_lp {β : Bm} {X : Xs} {w : World} {l : Nat} {r r' : Loop} {E : Ev} (h : (Sus.lp l r E β).slots X w) (ht : r'.tmps = r.tmps) : (Sus.lp l r' E β).slots X w := fun t v hv => by rw [ht]; exact h t v hv

/-- The round begins. -/
theorem at_begin {l D n1 : Nat} {rc : Loop} {Ek Eit : Ev} {body : Code} {ids : List Nat} {tm : Array Value} {R : Ending → World → Prop} {Z : Exit → Act → World → Prop} (hd : Rd w0 w1 w2 ids l D rc Ek .ready none tm n1 Eit)
    (h : ∀ w3, Rd w0 w1 w3 ids l D rc Ek .busy none tm n1 Eit → At w3 X0 n E st (Pw [] (body.wpIn (rF (some l)) 0 P (roundPost P l R)))) : At w2 X0 n E st (Pw [] (Exit.then (rdB P l body R) Z .normal)) := by
  rintro a w ⟨β, X, hr⟩
  show rdB P l body R (a.wd []) w
  rw [wd_nil]
  have hmem : (.lp l { rc with state := .ready, pending := none } Ek w1.β : Sus) ∈ w2.sus := by rw [hd.sub.sus]; exact .tail _ (.head _)
  have hk := hr.mem.below.sus _ hmem
  have hl := hk.2
  refine ⟨_, run_beginRound hl rfl, ?_⟩
  have hss : w2.sus = .fr tm Eit w2.β :: .lp l { rc with state := .ready, pending := none } Ek w1.β :: .df D :: w0.sus := hd.sub.sus
  have hlt := (Array.getElem?_eq_some_iff.1 hl).1
  have hx : ExtX X X w (w.putObj l (.loop { rc with state := .busy, pending := none })) := fun b o h => ⟨h, (Qt.put (B := w2) hk.1 hl rfl rfl).cell (hr.mem.xlt b o h)⟩
  refine wp_nil (h (w2.re (.fr tm Eit w2.β :: .lp l { rc with state := .busy, pending := none } Ek w1.β :: .df D :: w0.sus)) ⟨⟨hd.sub.w, hd.sub.M, hd.sub.ext, hd.sub.ids, rfl⟩, hd.ext, hd.size, hd.ne, hd.old⟩ a _ ⟨β, X, hr.rebase rfl rfl (Qt.put hk.1 hl rfl rfl) hr.mem.b0 (fun s hs => ?_) (fun s hs => ?_) hr.size hr.defers hr.slot⟩)
  · rcases List.mem_cons.1 hs with rfl | hs
    · trivial
    · rcases List.mem_cons.1 hs with rfl | hs
      · exact ⟨hk.1, World.putObj_heap_same hlt⟩
      · refine kept_put hl (fun b h => h) (fun r E β e => ?_) (hr.mem.below.sus s (by rw [hss]; exact .tail _ (.tail _ hs)))
        subst e
        rcases List.mem_cons.1 hs with e | hs
        · cases e
        · exact hd.old _ _ _ hs
  · have hold : ∀ s ∈ w2.sus, s.slots X (w.putObj l (.loop { rc with state := .busy, pending := none })) := fun s hs => Sus.slots_mono hx (hr.sslot s hs)
    rw [hss] at hold
    rcases List.mem_cons.1 hs with rfl | hs
    · exact hold _ (.head _)
    · rcases List.mem_cons.1 hs with rfl | hs
      · exact slots_lp (hold _ (.tail _ (.head _))) rfl
      · exact hold _ (.tail _ (.tail _ hs))

/-- A round's end. -/
theorem rend_core {wj : Bw} {l D n1 nO : Nat} {rc : Loop} {Ek Eit : Ev} {ps : List Tmp} {assign body : Code} {ids idsR : List Nat} {tm : Array Value} {d : Nat} {N : Act → World → Prop} (jump : Option Code) (hβ : wj.β = w1.β) (hR : Rg w0 wj idsR l D rc nO Ek ps assign body (if jump.isNone then .ready else .done) jump) (hd : Rd w0 w1 w2 ids l D rc Ek .busy none tm n1 Eit) (hdn : Nat.ble (d + 1) n1 = true)
    (h : At wj X0 n1 ((d, .b jump.isNone) :: Eit) st (Pw ds N)) {a : Act} {w : World} (hrel : Rel w2 X0 n E st a w) : ∃ v w', (Instr.endRound l jump).run P w = .ok v w' ∧ rdR ds tm (some d) N Q (.returned v) w' := by
  obtain ⟨β, X, hr⟩ := hrel
  have hmem : (.lp l { rc with state := .busy, pending := none } Ek w1.β : Sus) ∈ w2.sus := by rw [hd.sub.sus]; exact .tail _ (.head _)
  have hk := hr.mem.below.sus _ hmem
  have hl := hk.2
  have hss : w2.sus = .fr tm Eit w2.β :: .lp l { rc with state := .busy, pending := none } Ek w1.β :: .df D :: w0.sus := hd.sub.sus
  have hs1 : wj.sus = .lp l { rc with state := (if jump.isNone then .ready else .done), pending := jump } Ek wj.β :: .df D :: w0.sus := hR.sub.sus
  have hlt := (Array.getElem?_eq_some_iff.1 hl).1
  have hw : w2.w = wj.w := hd.sub.w.trans hR.sub.w.symm
  have hM : w2.M = wj.M := hd.sub.M.trans hR.sub.M.symm
  have hb1 : ExtB wj.β β := fun id y h => hr.mem.b0 id y (hd.ext id y (hβ ▸ h))
  refine ⟨_, _, run_endRound jump hl, ?_⟩
  obtain ⟨o', ho'⟩ : ∃ o' : Loop, o' = { rc with state := (if jump.isNone then .ready else .done), pending := jump } := ⟨_, rfl⟩
  have ho2 : ({ { rc with state := .busy, pending := none } with state := (if jump.isNone then .ready else .done), pending := jump } : Loop) = o' := by rw [ho']
  rw [← ho'] at hs1
  rw [ho2]
  have hx : ExtX X X w (w.putObj l (.loop o')) := fun b o h => ⟨h, (Qt.put (B := w2) hk.1 hl rfl rfl).cell (hr.mem.xlt b o h)⟩
  have hfr := hr.sslot (.fr tm Eit w2.β) (by rw [hss]; exact .head _)
  refine h (Act.put ⟨tm, []⟩ (some d) (.bool jump.isNone)) _ ⟨β, X, hr.rebase hw.symm hM.symm (Qt.put hk.1 hl rfl rfl) hb1 (fun s hs => ?_) (fun s hs => ?_) (by simpa [Act.put] using hd.size) rfl (fun t v ht => ?_)⟩
  · rw [hs1] at hs
    rcases List.mem_cons.1 hs with rfl | hs
    · exact ⟨(own_eq hw hM l).1 hk.1, World.putObj_heap_same hlt⟩
    · refine kept_put (B := w2) hl (fun b h => (own_eq hw hM b).1 h) (fun r E β e => ?_) (hr.mem.below.sus s (by rw [hss]; exact .tail _ (.tail _ hs)))
      subst e
      rcases List.mem_cons.1 hs with e | hs
      · cases e
      · exact hd.old _ _ _ hs
  · rw [hs1] at hs
    have hold : ∀ s ∈ w2.sus, s.slots X (w.putObj l (.loop o')) := fun s hs => Sus.slots_mono hx (hr.sslot s hs)
    rw [hss] at hold
    rcases List.mem_cons.1 hs with rfl | hs
    · rw [hβ]; exact slots_lp (hold _ (.tail _ (.head _))) (by rw [ho'])
    · exact hold _ (.tail _ (.tail _ hs))
  · simp only [Ev.at?] at ht
    cases hb : Nat.beq d t with
    | true =>
      rw [hb] at ht
      simp only [cond_true, Option.some.injEq] at ht
      subst ht
      rw [← Nat.eq_of_beq_eq_true hb]
      exact ⟨.bool jump.isNone, by simp [Act.put, show d < tm.size by rw [hd.size]; exact Nat.le_of_ble_eq_true hdn], by simp [V]⟩
    | false =>
      rw [hb] at ht
      obtain ⟨u, g1, g2⟩ := hfr t v ht
      exact ⟨u, by simp only [Act.put]; rw [Array.getElem?_setIfInBounds_ne (Nat.ne_of_beq_eq_false hb)]; exact g1, V_mono (fun b o h => ⟨h, rfl⟩) _ _ _ _ hr.mem.b0 g2⟩

section rend
variable {l D n1 nO : Nat} {rc : Loop} {Ek Eit : Ev} {ps : List Tmp} {assign body : Code} {ids idsR : List Nat} {tm : Array Value} {d : Nat} {N : Act → World → Prop}
/-- Back in the iterator: the loop goes on. -/
theorem at_rend (hR : Rg w0 w1 idsR l D rc nO Ek ps assign body .ready none) (hd : Rd w0 w1 w2 ids l D rc Ek .busy none tm n1 Eit) (hdn : Nat.ble (d + 1) n1 = true)
    (h : At w1 X0 n1 ((d, .b true) :: Eit) st (Pw ds N)) : At w2 X0 n E st (Pw [] (roundPost P l (rdR ds tm (some d) N Q) .normal)) := fun _ _ hr => rend_core none rfl hR hd hdn h hr
theorem Rg.stop (s : LoopState) (pe : Option Code) (hR : Rg w0 w1 idsR l D rc nO Ek ps assign body .ready none) : ∃ wj, wj.β = w1.β ∧ Rg w0 wj idsR l D rc nO Ek ps assign body s pe :=
  ⟨w1.re (.lp l { rc with state := s, pending := pe } Ek w1.β :: .df D :: w0.sus), rfl, ⟨hR.sub.w, hR.sub.M, hR.sub.ext, hR.sub.ids, rfl⟩, hR.ps, hR.assign, hR.body, hR.size, hR.ne, hR.old, hR.oldD⟩
/-- .. the loop is left: 'return', or a jump out of it. -/
theorem at_rret (hR : Rg w0 w1 idsR l D rc nO Ek ps assign body .ready none) (hd : Rd w0 w1 w2 ids l D rc Ek .busy none tm n1 Eit) (hdn : Nat.ble (d + 1) n1 = true)
    (h : ∀ wj, Rg w0 wj idsR l D rc nO Ek ps assign body .done (some .ret) → At wj X0 n1 ((d, .b false) :: Eit) st (Pw ds N)) : At w2 X0 n E st (Pw [] (roundPost P l (rdR ds tm (some d) N Q) .ret)) := fun _ _ hr => by
  obtain ⟨wj, hb, hS⟩ := hR.stop .done (some .ret)
  exact rend_core (some .ret) hb hS hd hdn (h _ hS) hr
theorem at_rexit {id : Nat} (hR : Rg w0 w1 idsR l D rc nO Ek ps assign body .ready none) (hd : Rd w0 w1 w2 ids l D rc Ek .busy none tm n1 Eit) (hdn : Nat.ble (d + 1) n1 = true)
    (h : ∀ wj, Rg w0 wj idsR l D rc nO Ek ps assign body .done (some (.exit id)) → At wj X0 n1 ((d, .b false) :: Eit) st (Pw ds N)) : At w2 X0 n E st (Pw [] (roundPost P l (rdR ds tm (some d) N Q) (.exit id))) := fun _ _ hr => by
  obtain ⟨wj, hb, hS⟩ := hR.stop .done (some (.exit id))
  exact rend_core (some (.exit id)) hb hS hd hdn (h _ hS) hr
end rend

/-- The iterator's end: behind the statement. -/
theorem itret_core {l D nO : Nat} {rc : Loop} {Ek : Ev} {ps : List Tmp} {assign body : Code} {idsR : List Nat} {s : LoopState} {pe : Option Code} {fn : Func} {ss : List Sus} (hres : fn.results = #[]) (hs : s ≠ .busy) (hR : Rg w0 w1 idsR l D rc nO Ek ps assign body s pe) (hs0 : w0.sus = ss)
    (h : At (w0.re (.df D :: ss)) X0 nO Ek st (Pw (D :: ds) (match pe with | none => Q .normal | some c => c.wpIn (rF r) 0 P Q))) {a : Act} {w : World} (hrel : Rel w1 X0 n E st a w) : LeavesInM (rF none) 0 P fn a.tmps (rangePost (rF r) 0 P l Q (Act.wd (D :: ds) ⟨rc.tmps, []⟩)) [] .returning w := by
  obtain ⟨β, X, hr⟩ := hrel
  subst hs0
  have hss : w1.sus = .lp l { rc with state := s, pending := pe } Ek w1.β :: .df D :: w0.sus := hR.sub.sus
  have hmem : (.lp l { rc with state := s, pending := pe } Ek w1.β : Sus) ∈ w1.sus := by rw [hss]; exact .head _
  have hk := hr.mem.below.sus _ hmem
  have hl := hk.2
  have hlp := hr.sslot _ hmem
  have hx : ExtX X X w (w.putObj l (.loop { rc with state := .exhausted, pending := pe })) := fun b o h => ⟨h, (Qt.put (B := w1) hk.1 hl rfl rfl).cell (hr.mem.xlt b o h)⟩
  have hrun : (results fn a.tmps).run P w = .ok (.tuple #[]) w := run_results (rs := []) (us := []) (by rw [hres]) (by simp)
  have hrel0 : Rel (w0.re (.df D :: w0.sus)) X0 nO Ek st ⟨rc.tmps, []⟩ (w.putObj l (.loop { rc with state := .exhausted, pending := pe })) := by
    refine ⟨β, X, hr.rebase hR.sub.w.symm hR.sub.M.symm (Qt.put hk.1 hl rfl rfl) (fun id y h => hr.mem.b0 id y (hR.sub.ext id y h)) (fun s' hs' => ?_) (fun s' hs' => ?_) hR.size rfl (fun t v ht => ?_)⟩
    · refine kept_put (B := w1) hl (fun b h => (own_eq hR.sub.w hR.sub.M b).1 h) (fun r E β e => ?_) (hr.mem.below.sus s' (by rw [hss]; exact .tail _ hs'))
      subst e
      rcases List.mem_cons.1 hs' with e | hs'
      · cases e
      · exact hR.old _ _ _ hs'
    · exact Sus.slots_mono hx (hr.sslot s' (by rw [hss]; exact .tail _ hs'))
    · obtain ⟨u, g1, g2⟩ := hlp t v ht
      exact ⟨u, g1, V_mono (fun b o h => ⟨h, rfl⟩) _ _ _ _ hr.mem.b0 g2⟩
  refine ⟨_, hrun, pe, _, run_endLoop hl hs, ?_⟩
  have := h _ _ hrel0
  cases pe with
  | none => exact this
  | some c => exact this
section itret
variable {l D nO : Nat} {rc : Loop} {Ek : Ev} {ps : List Tmp} {assign body : Code} {idsR : List Nat} {s : LoopState} {fn : Func} {ss : List Sus}
theorem at_itret (hres : fn.results = #[]) (hR : Rg w0 w1 idsR l D rc nO Ek ps assign body .ready none) (hs0 : w0.sus = ss) (h : At (w0.re (.df D :: ss)) X0 nO Ek st (Pw (D :: ds) (Q .normal))) :
    At w1 X0 n E st (Pw [] (bodyPostM (rF none) 0 P fn (rangePost (rF r) 0 P l Q (Act.wd (D :: ds) ⟨rc.tmps, []⟩)) .ret)) := fun a w hr => by
  have hd : a.defers = [] := by obtain ⟨_, _, hr⟩ := hr; exact hr.defers
  show LeavesInM (rF none) 0 P fn (a.wd []).tmps _ (a.wd []).defers .returning w
  rw [wd_nil, hd]
  exact itret_core hres (by simp) hR hs0 h hr
theorem at_itnil (hres : fn.results = #[]) (hR : Rg w0 w1 idsR l D rc nO Ek ps assign body .ready none) (hs0 : w0.sus = ss) (h : At (w0.re (.df D :: ss)) X0 nO Ek st (Pw (D :: ds) (Q .normal))) :
    At w1 X0 n E st (Pw [] (bodyPostM (rF none) 0 P fn (rangePost (rF r) 0 P l Q (Act.wd (D :: ds) ⟨rc.tmps, []⟩)) .normal)) := at_itret hres hR hs0 h
theorem at_itretJ {c : Code} (hres : fn.results = #[]) (hR : Rg w0 w1 idsR l D rc nO Ek ps assign body .done (some c)) (hs0 : w0.sus = ss) (h : At (w0.re (.df D :: ss)) X0 nO Ek st (Pw (D :: ds) (c.wpIn (rF r) 0 P Q))) :
    At w1 X0 n E st (Pw [] (bodyPostM (rF none) 0 P fn (rangePost (rF r) 0 P l Q (Act.wd (D :: ds) ⟨rc.tmps, []⟩)) .ret)) := fun a w hr => by
  have hd : a.defers = [] := by obtain ⟨_, _, hr⟩ := hr; exact hr.defers
  show LeavesInM (rF none) 0 P fn (a.wd []).tmps _ (a.wd []).defers .returning w
  rw [wd_nil, hd]
  exact itret_core hres (by simp) hR hs0 h hr
theorem at_itnilJ {c : Code} (hres : fn.results = #[]) (hR : Rg w0 w1 idsR l D rc nO Ek ps assign body .done (some c)) (hs0 : w0.sus = ss) (h : At (w0.re (.df D :: ss)) X0 nO Ek st (Pw (D :: ds) (c.wpIn (rF r) 0 P Q))) :
    At w1 X0 n E st (Pw [] (bodyPostM (rF none) 0 P fn (rangePost (rF r) 0 P l Q (Act.wd (D :: ds) ⟨rc.tmps, []⟩)) .normal)) := at_itretJ hres hR hs0 h
end itret

/-! A function that ranges over functions: its beginning, its end. -/
theorem enterSM {f : FuncId} {fn : Func} {c : Code} {args : List A} {s0 : St} {R : A → St → Prop} (hf : P.funcs[f]? = some fn) (hb : fn.body = some c)
    (hn : fn.ntmps = n) (hname : (fn.name == "runtime.NumGoroutine") = false) (ha : args.length ≤ n)
    (h : ∀ w0 X0, w0.ids = s0.os.map Prod.fst → w0.sus = [] → At w0 X0 n (argsE args 0) s0 (Pw [] (c.wpIn (rF none) 0 P (bodyPostM (rF none) 0 P fn fun e w' => ∃ v, e = .returned v ∧ Post w0 X0 R v w')))) : ConS P f args s0 R := by
  intro w X β us hd hX hgl ho hi hv
  have hl := VS_len hv
  refine ⟨⟨fn, hf, by simp [hb], hname⟩, (callsIn_wide (n := 0)).1 (callsIn_of_wp_marks hf hb trivial (wp_nil (h (bw w β s0 hd) X rfl rfl _ w ⟨β, X, .of (fun _ _ h => h) (fun _ _ h => .inl h) (.of ⟨rfl, rfl, rfl, Nat.le_refl _, fun _ _ _ => rfl, fun s hs => by cases hs⟩ (ExtB.refl β) hX hd ho hi) hgl ?_ rfl (fun s hs => by cases hs) (fun t v ht => ?_)⟩)))⟩
  · simp [hn]; omega
  · obtain ⟨_, h2⟩ := argsE_at _ _ _ _ ht
    simp only [Nat.sub_zero] at h2
    obtain ⟨u, g1, g2⟩ := VS_get hv h2
    have hlt := (List.getElem?_eq_some_iff.1 g1).1
    refine ⟨u, ?_, g2⟩
    rw [Array.getElem?_append, if_pos (by simpa using hlt)]
    simpa using g1
theorem enterM {f : FuncId} {fn : Func} {c : Code} {args : List A} {R : A → St → Prop} (hf : P.funcs[f]? = some fn) (hb : fn.body = some c)
    (hn : fn.ntmps = n) (hname : (fn.name == "runtime.NumGoroutine") = false) (ha : args.length ≤ n)
    (h : ∀ w0 X0, w0.ids = [] → w0.sus = [] → At w0 X0 n (argsE args 0) ⟨[]⟩ (Pw [] (c.wpIn (rF none) 0 P (bodyPostM (rF none) 0 P fn fun e w' => ∃ v, e = .returned v ∧ Post w0 X0 R v w')))) : Con P f args R := enterSM hf hb hn hname ha h

theorem marks_core {fn : Func} {Rr : Ending → World → Prop} : ∀ (ds : List Nat) {wB : Bw} {a : Act} {w : World}, ds.Nodup → wB.sus = ds.map .df → Rel wB X0 n E st a w → (∀ w', Rel (wB.re []) X0 n E st a w' → ∃ v, (results fn a.tmps).run P w' = .ok v w' ∧ Rr (.returned v) w') →
    LeavesInM (rF none) 0 P fn a.tmps Rr (ds.map fun D => ({ target := .collected D, args := #[] } : Deferred)) .returning w
  | [], wB, a, w, _, hs, ⟨β, X, hr⟩, h => by
    refine h w ⟨β, X, hr.rebase rfl rfl .refl hr.mem.b0 (fun s hs => by cases hs) (fun s hs => by cases hs) hr.size hr.defers hr.slot⟩
  | D :: ds, wB, a, w, hnd, hs, ⟨β, X, hr⟩, h => by
    have hs' : wB.sus = .df D :: ds.map .df := by simpa using hs
    have hk := hr.mem.below.sus (.df D) (by rw [hs']; exact .head _)
    have hx : ExtX X X w (w.putObj D (.deferred none)) := fun b o h => ⟨h, (Qt.put (B := wB) hk.1 hk.2 rfl rfl).cell (hr.mem.xlt b o h)⟩
    refine ⟨by simp, .inl ⟨D, _, rfl, run_takeDeferred hk.2, ?_⟩⟩
    refine marks_core ds (wB := wB.re (ds.map .df)) (List.nodup_cons.1 hnd).2 rfl ⟨β, X, hr.rebase rfl rfl (Qt.put hk.1 hk.2 rfl rfl) hr.mem.b0 (fun s hs => ?_) (fun s hs => ?_) hr.size hr.defers hr.slot⟩ h
    · obtain ⟨D', hD, rfl⟩ := List.mem_map.1 hs
      have hk' := hr.mem.below.sus (.df D') (by rw [hs']; exact .tail _ hs)
      exact ⟨hk'.1, (World.putObj_heap_other (fun e : D' = D => (List.nodup_cons.1 hnd).1 (e ▸ hD))).trans hk'.2⟩
    · obtain ⟨D', hD, rfl⟩ := List.mem_map.1 hs
      trivial
theorem at_resultM {wB : Bw} {fn : Func} {R : A → St → Prop} {rs : List ResultVar} {vs : List A} (hw : wB.w = w0.w) (hM : wB.M = w0.M) (hβ : wB.β = w0.β) (hs0 : w0.sus = []) (hsB : wB.sus = ds.map .df) (hnd : ds.Nodup) (hrs : fn.results = rs.toArray) (hv : Rets P E st rs vs) (h : R (retA vs) st) :
    At wB X0 n E st (Pw ds (bodyPostM (rF none) 0 P fn (fun e w' => ∃ v, e = .returned v ∧ Post w0 X0 R v w') .ret)) := fun a w hr => by
  have hd : a.defers = [] := by obtain ⟨_, _, hr⟩ := hr; exact hr.defers
  show LeavesInM (rF none) 0 P fn a.tmps _ (a.wd ds).defers .returning w
  have e : (a.wd ds).defers = ds.map fun D => ({ target := .collected D, args := #[] } : Deferred) := by simp [Act.wd, hd]
  rw [e]
  refine marks_core ds hnd hsB hr fun w' ⟨β, X, hr'⟩ => ?_
  obtain ⟨us, h1, h2⟩ := hv _ _ _ _ _ _ _ hr'.toRelQ
  have hr0 : RelX w0 X0 n E st β X a w' := hr'.rebase hw.symm hM.symm .refl (by rw [← hβ]; exact hr'.mem.b0) (fun s hs => by rw [hs0] at hs; cases hs) (fun s hs => by rw [hs0] at hs; cases hs) hr'.size hr'.defers hr'.slot
  exact ⟨_, run_results hrs h1, _, rfl, _, β, X, st, h, hr0.x0, hr0.xn, hr0.mem, V_retA h2⟩
theorem at_resultM' {wB : Bw} {fn : Func} {R : A → St → Prop} {rs : List ResultVar} {vs : List A} (hw : wB.w = w0.w) (hM : wB.M = w0.M) (hβ : wB.β = w0.β) (hs0 : w0.sus = []) (hsB : wB.sus = ds.map .df) (hnd : ds.Nodup) (hrs : fn.results = rs.toArray) (hv : Rets P E st rs vs) (h : R (retA vs) st) :
    At wB X0 n E st (Pw ds (bodyPostM (rF none) 0 P fn (fun e w' => ∃ v, e = .returned v ∧ Post w0 X0 R v w') .normal)) := at_resultM hw hM hβ hs0 hsB hnd hrs hv h

/-- A result that bears one object of the callee's own, named by 'mk'. -/
def RetM (mk : Nat → A) (cs : List A) : A → St → Prop := fun r st => ∃ id, r = mk id ∧ st.get id = some cs
/-- Names nothing but its object, and that lies in a block. -/
def OneB (mk : Nat → A) : Prop := ∀ X w β i u, V X w β (mk i) u → (∃ b N, β i = some (.bk b N)) ∧ ∀ X' w' β' j, β' j = β i → V X' w' β' (mk j) u
theorem oneB_fn {f : Fn} : OneB (fun i => .fn f [] [.p i 0]) := by
  intro X w β i u h
  simp only [V, VS] at h
  obtain ⟨us, vs, rfl, rfl, x, r, rfl, ⟨b, N, h1, rfl⟩, rfl⟩ := h
  refine ⟨⟨b, N, h1⟩, fun X' w' β' j hj => ?_⟩
  simp only [V, VS]
  exact ⟨[], _, rfl, rfl, _, [], rfl, ⟨b, N, hj.trans h1, rfl⟩, rfl⟩
theorem n_callvM {K : Act → World → Prop} {mk : Nat → A} (hmk : OneB mk) {d : Nat} (nx : Nat) (hfr : st.free nx = true) {f : FuncId} {x : Operand} {xs : List Operand} {fs cs vs vs' cells : List A} {ats : Array TypeId} {ty : TypeId} {pos aft' g} (ow : Bool) (hx : ev E x = some (.fn (.func f) fs cs)) (hxs : evsA E xs = some vs) (hv : VwL st ⟨[]⟩ ow (fs ++ vs ++ cs) vs')
    (hc : Con P f vs' (RetM mk cells)) (hp : PureL cells) (hf : ow = false ∨ FlatL cells) (hd : Nat.ble (d + 1) n = true) (h : At w0 X0 n ((d, mk nx) :: E) (st.put nx cells) K) :
    At w0 X0 n E st (fun a w => (⟨some d, .call { callee := .value x, args := xs.toArray, argTypes := ats }, ty, pos, aft', g⟩ : Oper).wp P a w K Q) := by
  rintro a w ⟨β, X, hr⟩
  refine call_core hr hx hxs (s0 := ⟨[]⟩) trivial hv hc fun v w' ⟨r, β', X', st', hR, hsup, hsub, hm, hvv⟩ => ?_
  obtain ⟨id, rfl, hg⟩ := hR
  obtain ⟨m1, m2, m3, m4, m6⟩ := hm.after hr (fun id cs h => by cases h) hsub hsup (upds := []) (fun p hp => by cases hp)
  rw [aft_nil] at m1
  have hnx := hr.mem.dom nx hfr
  have ho := hm.obj id cells hg
  unfold OB at ho
  obtain ⟨⟨b, N, hβ⟩, hV⟩ := hmk _ _ _ _ _ hvv
  rw [hβ] at ho
  obtain ⟨o1, o2, us, rest, ety, o3, o4, o5, o6⟩ := ho
  have o1 : w.heap.size ≤ b := by
    rcases o1 with h | ⟨id', cs', N', h, _⟩
    · exact h
    · cases h
  have hnX : ∀ o, ¬ (X b o ∨ (X' b o ∧ (bw w (rst ⟨[]⟩ β) ⟨[]⟩ rst_none).own b)) := fun o h => by
    rcases h with h | ⟨h, _⟩
    · exact o2 o (hsup b o (.inl h))
    · exact o2 o h
  have hvs : VS (fun b o => X b o ∨ (X' b o ∧ (bw w (rst ⟨[]⟩ β) ⟨[]⟩ rst_none).own b)) w' (upd β nx (.bk b N)) cells us := by
    rcases hf with hf | hf
    · exact VS_mono (m4 hf) _ _ _ _ (ExtB.refl _) (VS_pure _ _ hp o5)
    · exact VS_flat _ _ hf o5
  have hfresh : ∀ k ck q M, st.get k = some ck → β k = some (.bk q M) → q ≠ b := fun k ck q M hk hq => by
    have := m6 q M k ck hk hq
    omega
  have m5 : Mem w0 (upd β nx (.bk b N)) (fun b o => X b o ∨ (X' b o ∧ (bw w (rst ⟨[]⟩ β) ⟨[]⟩ rst_none).own b)) (st.put nx cells) w' := by
    refine .of (m1.below) (fun k y h => (upd_ext hnx) k y (m1.b0 k y h)) (m1.xlt) (fun k h => ?_) (fun k es hk => ?_) (fun i j ci cj q M N' hij hi hj hbi hbj => ?_)
    · rw [St.free_put] at h
      split at h
      · cases h
      · rename_i hne
        rw [upd_ne (fun e => hne e.symm)]
        exact hr.mem.dom k h
    · rw [St.get_put] at hk
      split at hk
      · rename_i e; subst e
        simp only [Option.some.injEq] at hk
        subst hk
        unfold OB
        rw [upd_at]
        exact ⟨Bw.own_new hr.mem.below o1, hnX, us, rest, ety, o3, o4, hvs, o6⟩
      · refine (m1.obj k es hk).later (fun _ _ h => ⟨h, rfl⟩) (upd_ext hnx) fun q M hq => ⟨rfl, ?_⟩
        have hk' := m1.obj k es hk
        unfold OB at hk'
        rw [hq] at hk'
        exact hk'.2.1
    · rw [St.get_put] at hi hj
      by_cases ei : nx = i
      · by_cases ej : nx = j
        · omega
        · rw [if_neg ej] at hj
          rw [← ei, upd_at] at hbi
          rw [upd_ne (by omega)] at hbj
          simp only [Option.some.injEq, BL.bk.injEq] at hbi
          exact hfresh j cj q N' hj hbj (by omega)
      · rw [if_neg ei] at hi
        rw [upd_ne (by omega)] at hbi
        by_cases ej : nx = j
        · rw [← ej, upd_at] at hbj
          simp only [Option.some.injEq, BL.bk.injEq] at hbj
          exact hfresh i ci q M hi hbi (by omega)
        · rw [if_neg ej] at hj
          rw [upd_ne (by omega)] at hbj
          exact hr.mem.inj i j ci cj q M N' hij hi hj hbi hbj
  exact h _ _ ⟨_, _, hr.putv hd m2 m3 (upd_ext hnx) m5 (hV _ _ _ _ (upd_at.trans hβ.symm))⟩
theorem n_callM {K : Act → World → Prop} {mk : Nat → A} (hmk : OneB mk) {d : Nat} (nx : Nat) (hfr : st.free nx = true) {f : FuncId} {xs : List Operand} {vs vs' cells : List A} {ats : Array TypeId} {ty : TypeId} {pos aft' g} (ow : Bool) (hxs : evsA E xs = some vs) (hv : VwL st ⟨[]⟩ ow vs vs')
    (hc : Con P f vs' (RetM mk cells)) (hp : PureL cells) (hf : ow = false ∨ FlatL cells) (hd : Nat.ble (d + 1) n = true) (h : At w0 X0 n ((d, mk nx) :: E) (st.put nx cells) K) :
    At w0 X0 n E st (fun a w => (⟨some d, .call { callee := .value (.func f), args := xs.toArray, argTypes := ats }, ty, pos, aft', g⟩ : Oper).wp P a w K Q) :=
  n_callvM hmk nx hfr (fs := []) (cs := []) ow rfl hxs (by simpa using hv) hc hp hf hd h

mutual
theorem refs_pure : ∀ {v : A}, Pure v → refs v = []
  | .b _, _ => rfl
  | .i _ _, _ => rfl
  | .s _, _ => rfl
  | .nl, _ => rfl
  | .fz _ _, _ => rfl
  | .fp _, _ => rfl
  | .p _ _, h => by simp only [Pure] at h
  | .sl _ _ _ _, h => by simp only [Pure] at h
  | .ag cs, h => by simp only [Pure] at h; simp only [refs]; exact refsL_pure h
  | .tu cs, h => by simp only [Pure] at h; simp only [refs]; exact refsL_pure h
  | .fn _ a c, h => by simp only [Pure] at h; simp only [refs]; rw [refsL_pure h.1, refsL_pure h.2]; rfl
  | .ic _ v, h => by simp only [Pure] at h; simp only [refs]; exact refs_pure h
  | .raw _, _ => rfl
theorem refsL_pure : ∀ {l : List A}, PureL l → refsL l = []
  | [], _ => rfl
  | c :: cs, h => by simp only [PureL] at h; simp only [refsL]; rw [refs_pure h.1, refsL_pure h.2]; rfl
end
theorem refsL_pul {l : List A} [h : IsPureL l] : refsL l = [] := refsL_pure h.out
theorem refs_pu {v : A} [h : IsPure v] : refs v = [] := refs_pure h.out
end
end Go.Abs
