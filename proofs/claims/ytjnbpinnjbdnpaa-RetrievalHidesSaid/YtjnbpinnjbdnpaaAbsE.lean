/-
  The second engine, part E: what bears no object of the call's own, calls by contract, entering, results, new names for objects. Conditions: none; nothing of any program stands here.
-/
import Derived.Test.YtjnbpinnjbdnpaaAbsD
namespace Go.Abs
open Go Go.Eng

mutual
/-- No object of the call's own is named. -/
def Pure : A → Prop
  | .p _ _ => False
  | .sl _ _ _ _ => False
  | .ag cs => PureL cs
  | .tu cs => PureL cs
  | .fn _ a c => PureL a ∧ PureL c
  | .ic _ v => Pure v
  | .b _ => True | .i _ _ => True | .s _ => True | .nl => True | .fz _ _ => True | .fp _ => True | .raw _ => True
def PureL : List A → Prop
  | [] => True
  | c :: cs => Pure c ∧ PureL cs
end
mutual
/-- No memory stands behind it. -/
def Flat : A → Prop
  | .p _ _ => False
  | .sl _ _ _ _ => False
  | .fz _ _ => False
  | .fp _ => False
  | .ag cs => FlatL cs
  | .tu cs => FlatL cs
  | .fn _ a c => FlatL a ∧ FlatL c
  | .ic _ v => Flat v
  | .b _ => True | .i _ _ => True | .s _ => True | .nl => True | .raw _ => True
def FlatL : List A → Prop
  | [] => True
  | c :: cs => Flat c ∧ FlatL cs
end

theorem PureL_map {α : Type} (f : α → A) (h : ∀ x, Pure (f x)) : ∀ l : List α, PureL (l.map f)
  | [] => trivial
  | x :: l => ⟨h x, PureL_map f h l⟩
theorem FlatL_map {α : Type} (f : α → A) (h : ∀ x, Flat (f x)) : ∀ l : List α, FlatL (l.map f)
  | [] => trivial
  | x :: l => ⟨h x, FlatL_map f h l⟩
theorem PureL_app : ∀ {l m : List A}, PureL l → PureL m → PureL (l ++ m)
  | [], _, _, h => h
  | _ :: _, _, h, h' => ⟨h.1, PureL_app h.2 h'⟩
theorem FlatL_app : ∀ {l m : List A}, FlatL l → FlatL m → FlatL (l ++ m)
  | [], _, _, h => h
  | _ :: _, _, h, h' => ⟨h.1, FlatL_app h.2 h'⟩
theorem PureL_u8 (l : List UInt8) : PureL (l.map u8) := PureL_map _ (fun x => show Pure (u8 x) from trivial) l
theorem FlatL_u8 (l : List UInt8) : FlatL (l.map u8) := FlatL_map _ (fun x => show Flat (u8 x) from trivial) l
theorem PureL_flatMap {α : Type} (f : α → List A) (h : ∀ x, PureL (f x)) : ∀ l : List α, PureL (l.flatMap f)
  | [] => trivial
  | x :: l => by rw [List.flatMap_cons]; exact PureL_app (h x) (PureL_flatMap f h l)
theorem FlatL_flatMap {α : Type} (f : α → List A) (h : ∀ x, FlatL (f x)) : ∀ l : List α, FlatL (l.flatMap f)
  | [] => trivial
  | x :: l => by rw [List.flatMap_cons]; exact FlatL_app (h x) (FlatL_flatMap f h l)

section
variable {X X' : Xs} {w w' : World} {β β' : Bm}
mutual
theorem V_pure : ∀ (v : A) (u : Value), Pure v → V X w β v u → V X w β' v u
  | .b _, u, _, h => by simp only [V] at *; exact h
  | .i _ _, u, _, h => by simp only [V] at *; exact h
  | .s _, u, _, h => by simp only [V] at *; exact h
  | .nl, u, _, h => by simp only [V] at *; exact h
  | .fz _ _, u, _, h => by simp only [V] at *; exact h
  | .fp _, u, _, h => by simp only [V] at *; exact h
  | .raw _, u, _, h => by simp only [V] at *; exact h
  | .p _ _, _, hp, _ => hp.elim
  | .sl _ _ _ _, _, hp, _ => hp.elim
  | .ag cs, u, hp, h => by
    simp only [V] at *
    obtain ⟨us, h1, h2, h3⟩ := h
    exact ⟨us, h1, VS_pure cs us (by simpa only [Pure] using hp) h2, h3⟩
  | .tu cs, u, hp, h => by
    simp only [V] at *
    obtain ⟨us, h1, h2⟩ := h
    exact ⟨us, h1, VS_pure cs us (by simpa only [Pure] using hp) h2⟩
  | .fn f a c, u, hp, h => by
    simp only [V] at *
    simp only [Pure] at hp
    obtain ⟨us, vs, h1, h2, h3⟩ := h
    exact ⟨us, vs, h1, VS_pure a us hp.1 h2, VS_pure c vs hp.2 h3⟩
  | .ic t v, u, hp, h => by
    simp only [V] at *
    obtain ⟨x, h1, h2⟩ := h
    exact ⟨x, h1, V_pure v x (by simpa only [Pure] using hp) h2⟩
theorem VS_pure : ∀ (cs : List A) (us : List Value), PureL cs → VS X w β cs us → VS X w β' cs us
  | [], us, _, h => by simp only [VS] at *; exact h
  | c :: cs, us, hp, h => by
    simp only [PureL] at hp
    simp only [VS] at *
    obtain ⟨u, r, h1, h2, h3⟩ := h
    exact ⟨u, r, h1, V_pure c u hp.1 h2, VS_pure cs r hp.2 h3⟩
end
mutual
theorem V_flat : ∀ (v : A) (u : Value), Flat v → V X w β v u → V X' w' β' v u
  | .b _, u, _, h => by simp only [V] at *; exact h
  | .i _ _, u, _, h => by simp only [V] at *; exact h
  | .s _, u, _, h => by simp only [V] at *; exact h
  | .nl, u, _, h => by simp only [V] at *; exact h
  | .fz _ _, u, hp, h => hp.elim
  | .fp _, u, hp, h => hp.elim
  | .raw _, u, _, h => by simp only [V] at *; exact h
  | .p _ _, _, hp, _ => hp.elim
  | .sl _ _ _ _, _, hp, _ => hp.elim
  | .ag cs, u, hp, h => by
    simp only [V] at *
    obtain ⟨us, h1, h2, h3⟩ := h
    exact ⟨us, h1, VS_flat cs us (by simpa only [Flat] using hp) h2, h3⟩
  | .tu cs, u, hp, h => by
    simp only [V] at *
    obtain ⟨us, h1, h2⟩ := h
    exact ⟨us, h1, VS_flat cs us (by simpa only [Flat] using hp) h2⟩
  | .fn f a c, u, hp, h => by
    simp only [V] at *
    simp only [Flat] at hp
    obtain ⟨us, vs, h1, h2, h3⟩ := h
    exact ⟨us, vs, h1, VS_flat a us hp.1 h2, VS_flat c vs hp.2 h3⟩
  | .ic t v, u, hp, h => by
    simp only [V] at *
    obtain ⟨x, h1, h2⟩ := h
    exact ⟨x, h1, V_flat v x (by simpa only [Flat] using hp) h2⟩
theorem VS_flat : ∀ (cs : List A) (us : List Value), FlatL cs → VS X w β cs us → VS X' w' β' cs us
  | [], us, _, h => by simp only [VS] at *; exact h
  | c :: cs, us, hp, h => by
    simp only [FlatL] at hp
    simp only [VS] at *
    obtain ⟨u, r, h1, h2, h3⟩ := h
    exact ⟨u, r, h1, V_flat c u hp.1 h2, VS_flat cs r hp.2 h3⟩
end
end

section
variable {P : Program} {w0 : Bw} {X0 : Xs} {n : Nat} {E : Ev} {st : St} {β : Bm} {X : Xs} {a : Act} {w : World} {Q : Exit → Act → World → Prop} {K : Act → World → Prop}

mutual
/-- What another function sees of a value: objects that are handed in ('s0') under their numbers, other own slices (where the first is 'true') as slices that nobody turns. -/
inductive Vw (st s0 : St) : Bool → A → A → Prop where
  | pure {ow v} (h : Pure v) : Vw st s0 ow v v
  | nl {ow} : Vw st s0 ow .nl (.fz 0 [])
  | sl {id s off m m' cs ds ds'} (hf : s0.free id = true) (hg : st.get id = some cs) (hm : m = m') (hd : (cs.drop off).take (m * s) = ds) (hv : VwL st s0 true ds ds') (hp : PureL ds') : Vw st s0 true (.sl id s off m) (.fz m' ds')
  | kp {ow id off} (h : s0.free id = false) : Vw st s0 ow (.p id off) (.p id off)
  | ksl {ow id s off m} (h : s0.free id = false) : Vw st s0 ow (.sl id s off m) (.sl id s off m)
  | ag {ow cs cs'} (h : VwL st s0 ow cs cs') : Vw st s0 ow (.ag cs) (.ag cs')
  | fn {ow f as as' cs cs'} (h : VwL st s0 ow as as') (h' : VwL st s0 ow cs cs') : Vw st s0 ow (.fn f as cs) (.fn f as' cs')
inductive VwL (st s0 : St) : Bool → List A → List A → Prop where
  | nil {ow} : VwL st s0 ow [] []
  | cons {ow c c' cs cs'} (h : Vw st s0 ow c c') (hs : VwL st s0 ow cs cs') : VwL st s0 ow (c :: cs) (c' :: cs')
end

theorem Vw.eq {s0 : St} {ow v v' x} (h : v = v') (hv : Vw st s0 ow v' x) : Vw st s0 ow v x := h ▸ hv
theorem VwL.pure {s0 : St} {ow} : ∀ {cs : List A}, PureL cs → VwL st s0 ow cs cs
  | [], _ => .nil
  | _ :: _, h => .cons (.pure h.1) (VwL.pure h.2)

/-- The cells that may be read there. -/
def Xo (ow : Bool) (st s0 : St) (β : Bm) (X : Xs) : Xs := fun b o => X b o ∨ (ow = true ∧ ∃ id cs N, s0.free id = true ∧ st.get id = some cs ∧ β id = some (.bk b N) ∧ o < cs.length)
/-- The objects that are handed in. -/
def rst (s0 : St) (β : Bm) : Bm := fun id => if s0.free id = true then none else β id

mutual
theorem Vw_V {s0 : St} (hr : RelX w0 X0 n E st β X a w) : ∀ {ow : Bool} {v v' : A} {u : Value}, Vw st s0 ow v v' → V X w β v u → V (Xo ow st s0 β X) w (rst s0 β) v' u
  | ow, v, _, u, .pure h, hv => V_mono (fun b o hx => ⟨.inl hx, rfl⟩) _ _ _ _ (ExtB.refl _) (V_pure (β' := rst s0 β) v u h hv)
  | ow, _, _, u, .nl, hv => by
    simp only [V] at *
    exact ⟨none, 0, hv, Nat.le_refl _, Nat.zero_le _, fun _ => rfl, (fun h => absurd h (by omega)), by simp only [VM]⟩
  | _, _, _, u, .kp h, hv => by
    simp only [V] at *
    obtain ⟨b, N, h1, h2⟩ := hv
    exact ⟨b, N, by simp [rst, h, h1], h2⟩
  | _, _, _, u, .ksl h, hv => by
    simp only [V] at *
    rcases hv with ⟨h1, h2⟩ | ⟨b, N, cap, h1, h2⟩
    · exact .inl ⟨by simp [rst, h, h1], h2⟩
    · exact .inr ⟨b, N, cap, by simp [rst, h, h1], h2⟩
  | _, _, _, u, @Vw.sl _ _ id s off m m' cs ds ds' hfr hg hmm hd hv' hp, hv => by
    simp only [V] at hv ⊢
    subst hd; subst hmm
    rcases hv with ⟨hβ, rfl, rfl, rfl⟩ | ⟨b, N, cap, hβ, rfl, c1, c2, c3⟩
    · have : ds' = [] := by
        simp only [Nat.zero_mul, List.take_zero] at hv'
        cases hv'; rfl
      subst this
      exact ⟨none, 0, rfl, Nat.le_refl _, Nat.zero_le _, fun _ => rfl, (fun h => absurd h (by omega)), by simp only [VM]⟩
    · obtain ⟨us, g1, g2, g3, g4⟩ := own_cells hr.toRelQ hg hβ
      refine ⟨some ⟨b, off, none⟩, cap, rfl, c1, c2, (fun h => by cases h), (fun _ x hx => by cases hx; rfl), ?_⟩
      have hu := VS_take (VS_drop g1 off) (m * s)
      have hu' := VwL_V hr hv' hu
      refine VM_of fun j c hj => ?_
      obtain ⟨u, h1, h2⟩ := VS_get hu' hj
      have hjj : us[off + j]? = some u ∧ off + j < us.length := by
        rw [List.getElem?_take] at h1
        split at h1
        · rw [List.getElem?_drop] at h1
          exact ⟨h1, (List.getElem?_eq_some_iff.1 h1).1⟩
        · cases h1
      have hpc : Pure c := by
        have : ∀ (l : List A) (i : Nat) (c : A), PureL l → l[i]? = some c → Pure c := by
          intro l
          induction l with
          | nil => intro i c _ h; simp at h
          | cons x l ih => intro i c hp h; cases i with
            | zero => simp at h; subst h; exact hp.1
            | succ i => exact ih i c hp.2 (by simpa using h)
        exact this ds' _ c hp hj
      exact ⟨.inr ⟨rfl, id, cs, N, hfr, hg, hβ, by rw [← VS_len g1]; exact hjj.2⟩, u, g4 w .refl _ _ hjj.1, V_pure (β' := no) _ _ hpc h2, g2 u (List.mem_of_getElem? hjj.1)⟩
  | ow, _, _, u, .ag h, hv => by
    simp only [V] at hv ⊢
    obtain ⟨us, h1, h2, h3⟩ := hv
    exact ⟨us, h1, VwL_V hr h h2, h3⟩
  | ow, _, _, u, .fn h h', hv => by
    simp only [V] at hv ⊢
    obtain ⟨us, vs, h1, h2, h3⟩ := hv
    exact ⟨us, vs, h1, VwL_V hr h h2, VwL_V hr h' h3⟩
theorem VwL_V {s0 : St} (hr : RelX w0 X0 n E st β X a w) : ∀ {ow : Bool} {vs vs' : List A} {us : List Value}, VwL st s0 ow vs vs' → VS X w β vs us → VS (Xo ow st s0 β X) w (rst s0 β) vs' us
  | ow, _, _, us, .nil, hv => by simp only [VS] at *; exact hv
  | ow, _, _, us, .cons h hs, hv => by
    simp only [VS] at *
    obtain ⟨u, r, h1, h2, h3⟩ := hv
    exact ⟨u, r, h1, Vw_V hr h h2, VwL_V hr hs h3⟩
end
theorem Xo_lt {s0 : St} (hr : RelX w0 X0 n E st β X a w) {ow : Bool} : ∀ b o, Xo ow st s0 β X b o → b < w.heap.size := by
  intro b o h
  rcases h with h | ⟨_, id, cs, N, _, hg, hβ, _⟩
  · exact hr.mem.xlt b o h
  · have ho := hr.mem.obj id cs hg
    unfold OB at ho
    rw [hβ] at ho
    obtain ⟨_, _, us, rest, ty, h3, _⟩ := ho
    exact (Array.getElem?_eq_some_iff.1 h3).1

/-- A call's beginning. -/
def bw (w : World) (β : Bm) (s0 : St) (hd : ∀ id, s0.free id = true → β id = none) : Bw :=
  ⟨w, fun b => ∃ id cs N, s0.get id = some cs ∧ β id = some (.bk b N), β, s0.os.map Prod.fst, (fun id x h => by
    have key : ∀ os : List (Nat × Option (List A)), fresh os id = false → id ∈ os.map Prod.fst := by
      intro os
      induction os with
      | nil => intro h; cases h
      | cons p os ih =>
        intro h
        rw [fresh_cons] at h
        split at h
        · rename_i e; rw [← e]; exact .head _
        · exact .tail _ (ih h)
    refine key _ ?_
    cases hf : fresh s0.os id with
    | false => rfl
    | true => have := hd id hf; rw [h] at this; cases this), []⟩

/-- What a call comes to: the result told without addresses, with the objects that come with it. -/
def Post (w0 : Bw) (X : Xs) (R : A → St → Prop) (v : Value) (w' : World) : Prop :=
  ∃ r β' X' st', R r st' ∧ (∀ b o, X b o → X' b o) ∧ (∀ b o, X' b o → X b o ∨ w0.own b) ∧ Mem w0 β' X' st' w' ∧ V X' w' β' r v

/-- The contract of a function that objects are handed into ('s0'): called with values that read as 'args', it returns such a result; nothing else that was there has turned. -/
def ConS (P : Program) (f : FuncId) (args : List A) (s0 : St) (R : A → St → Prop) : Prop :=
  ∀ w X β us (hd : ∀ id, s0.free id = true → β id = none), (∀ b o, X b o → b < w.heap.size) → GL X w → (∀ id cs, s0.get id = some cs → OB β X w (bw w β s0 hd) id cs) →
    (∀ i j ci cj b M N, i ≠ j → s0.get i = some ci → s0.get j = some cj → β i = some (.bk b M) → β j = some (.bk b N) → False) → VS X w β args us → Eng.Fn P f us.toArray w (Post (bw w β s0 hd) X R)
/-- .. that none are handed into. -/
def Con (P : Program) (f : FuncId) (args : List A) (R : A → St → Prop) : Prop := ConS P f args ⟨[]⟩ R

/-- A result that bears no objects. -/
def Ret (r : A) : A → St → Prop := fun r' _ => r' = r
/-- A slice of the callee's own, 'm' elements of 's' cells, whole. -/
def RetO (s m : Nat) (cs : List A) : A → St → Prop := fun r st => ∃ id, r = .sl id s 0 m ∧ st.get id = some cs
/-- A result, and what the objects hold that were handed in. -/
def RetS (r : A) (upds : List (Nat × List A)) : A → St → Prop := fun r' st => r' = r ∧ ∀ p ∈ upds, st.get p.1 = some p.2

theorem ConS.mono {f args s0 R R'} (h : ConS P f args s0 R) (hr : ∀ r st, R r st → R' r st) : ConS P f args s0 R' :=
  fun w X β us hd hx hg ho hi hv => (h w X β us hd hx hg ho hi hv).mono fun _ _ ⟨r, β', X', st', h1, h2⟩ => ⟨r, β', X', st', hr r st' h1, h2⟩
theorem Con.mono {f args R R'} (h : Con P f args R) (hr : ∀ r st, R r st → R' r st) : Con P f args R' := ConS.mono h hr

def evsA (E : Ev) : List Operand → Option (List A)
  | [] => some []
  | x :: r =>
    match ev E x, evsA E r with
    | some v, some vs => some (v :: vs)
    | _, _ => none

theorem RelX.evs (hr : RelX w0 X0 n E st β X a w) : ∀ {l : List Operand} {vs : List A}, evsA E l = some vs → ∃ us, Eng.evs (full a) l = some us ∧ VS X w β vs us
  | [], vs, h => by simp only [evsA, Option.some.injEq] at h; subst h; exact ⟨[], rfl, VS_nil⟩
  | x :: r, vs, h => by
    simp only [evsA] at h
    split at h
    · rename_i v us hv hus
      simp only [Option.some.injEq] at h
      subst h
      obtain ⟨e1, e2⟩ := hr.evo hv
      obtain ⟨us', e3, e4⟩ := RelX.evs hr hus
      exact ⟨_, by simp only [Eng.evs, e1, e3], VS_cons e2 e4⟩
    · cases h

theorem rst_none {s0 : St} : ∀ id, s0.free id = true → rst s0 β id = none := fun id h => by simp [rst, h]
theorem rst_some {s0 : St} {id : Nat} {x : BL} (h : rst s0 β id = some x) : s0.free id = false ∧ β id = some x := by
  unfold rst at h
  split at h
  · cases h
  · rename_i h'; exact ⟨by simpa using h', h⟩
theorem rst_eq {s0 : St} {id : Nat} (h : s0.free id = false) : rst s0 β id = β id := by simp [rst, h]
theorem get_free {s0 : St} {id : Nat} {cs : List A} (h : s0.get id = some cs) : s0.free id = false := by
  cases hf : s0.free id with
  | false => rfl
  | true => have := look_fresh hf; unfold St.get at h; rw [this] at h; cases h

/-- The caller's objects behind a call: those that were handed in hold what is told, or are given up. -/
def aft (s0 st : St) (upds : List (Nat × List A)) : St := ⟨(upds.map fun p => (p.1, some p.2)) ++ (s0.os.map fun p => (p.1, none)) ++ st.os⟩

theorem aft_get {s0 : St} {upds : List (Nat × List A)} {id : Nat} : (∀ cs, (aft s0 st upds).get id = some cs → (id, cs) ∈ upds ∨ (s0.free id = true ∧ st.get id = some cs)) ∧ ((aft s0 st upds).free id = true → st.free id = true) := by
  unfold aft St.get St.free
  dsimp only
  rw [List.append_assoc]
  have g1 : ∀ (l : List (Nat × List A)) os, (∀ cs, look ((l.map fun p => (p.1, some p.2)) ++ os) id = some cs → (id, cs) ∈ l ∨ look os id = some cs) ∧ (fresh ((l.map fun p => (p.1, some p.2)) ++ os) id = true → fresh os id = true) := by
    intro l os
    induction l with
    | nil => exact ⟨fun cs h => .inr h, fun h => h⟩
    | cons p l ih =>
      simp only [List.map_cons, List.cons_append, look, fresh]
      cases hb : Nat.beq p.1 id with
      | true =>
        refine ⟨fun cs h => .inl ?_, fun h => by cases h⟩
        simp only [cond_true, Option.some.injEq] at h
        rw [← h, ← Nat.eq_of_beq_eq_true hb]; exact .head _
      | false => exact ⟨fun cs h => (ih.1 cs h).imp (fun h => .tail _ h) (fun h => h), fun h => ih.2 h⟩
  have g2 : ∀ (l os : List (Nat × Option (List A))), (∀ cs, look ((l.map fun p => (p.1, (none : Option (List A)))) ++ os) id = some cs → fresh l id = true ∧ look os id = some cs) ∧ (fresh ((l.map fun p => (p.1, (none : Option (List A)))) ++ os) id = true → fresh os id = true) := by
    intro l os
    induction l with
    | nil => exact ⟨fun cs h => ⟨rfl, h⟩, fun h => h⟩
    | cons p l ih =>
      simp only [List.map_cons, List.cons_append, look, fresh]
      cases hb : Nat.beq p.1 id with
      | true => exact ⟨(fun cs h => by cases h), (fun h => by cases h)⟩
      | false => exact ih
  refine ⟨fun cs h => ?_, fun h => ?_⟩
  · rcases (g1 _ _).1 cs h with h | h
    · exact .inl h
    · exact .inr ((g2 _ _).1 cs h)
  · exact (g2 _ _).2 ((g1 _ _).2 h)

/-- What a cell may hold behind a call: what names no objects, or objects that were handed in. -/
def Kp (s0 : St) (ow : Bool) : A → Prop
  | .p id _ => ∃ cs, s0.get id = some cs
  | .sl id _ _ _ => ∃ cs, s0.get id = some cs
  | v => Pure v ∧ (ow = false ∨ Flat v)
def KpL (s0 : St) (ow : Bool) : List A → Prop
  | [] => True
  | c :: cs => Kp s0 ow c ∧ KpL s0 ow cs
theorem Kp_pure {s0 : St} {ow : Bool} {v : A} (h : Pure v) (hf : ow = false ∨ Flat v) : Kp s0 ow v := by
  cases v <;> first | exact ⟨h, hf⟩ | (simp only [Pure] at h)
theorem KpL_pure {s0 : St} {ow : Bool} : ∀ {l : List A}, PureL l → (ow = false ∨ FlatL l) → KpL s0 ow l
  | [], _, _ => trivial
  | _ :: _, h, hf => ⟨Kp_pure h.1 (hf.imp id (·.1)), KpL_pure h.2 (hf.imp id (·.2))⟩
theorem V_kp {s0 : St} {ow : Bool} {X X' : Xs} {w' : World} {β β' : Bm} (hx : ow = false → ExtX X' X w' w') (hid : ∀ id cs, s0.get id = some cs → β' id = β id) {v : A} {u : Value} (h : Kp s0 ow v) (hv : V X' w' β' v u) : V X w' β v u := by
  have go : Pure v → (ow = false ∨ Flat v) → V X w' β v u := fun hp hf => by
    rcases hf with hf | hf
    · exact V_mono (hx hf) _ _ _ _ (ExtB.refl _) (V_pure _ _ hp hv)
    · exact V_flat _ _ hf hv
  cases v with
  | p id off => obtain ⟨cs, hc⟩ := h; simp only [V] at hv ⊢; rw [← hid id cs hc]; exact hv
  | sl id s off n => obtain ⟨cs, hc⟩ := h; simp only [V] at hv ⊢; rw [← hid id cs hc]; exact hv
  | b _ => exact go h.1 h.2
  | i _ _ => exact go h.1 h.2
  | s _ => exact go h.1 h.2
  | nl => exact go h.1 h.2
  | fz _ _ => exact go h.1 h.2
  | fp _ => exact go h.1 h.2
  | ag _ => exact go h.1 h.2
  | tu _ => exact go h.1 h.2
  | fn _ _ _ => exact go h.1 h.2
  | ic _ _ => exact go h.1 h.2
  | raw _ => exact go h.1 h.2
theorem VS_kp {s0 : St} {ow : Bool} {X X' : Xs} {w' : World} {β β' : Bm} (hx : ow = false → ExtX X' X w' w') (hid : ∀ id cs, s0.get id = some cs → β' id = β id) : ∀ {cs : List A} {us : List Value}, KpL s0 ow cs → VS X' w' β' cs us → VS X w' β cs us
  | [], us, _, hv => by simp only [VS] at hv ⊢; exact hv
  | c :: cs, us, h, hv => by
    simp only [VS] at hv
    obtain ⟨u, r, rfl, h1, h2⟩ := hv
    exact VS_cons (V_kp hx hid h.1 h1) (VS_kp hx hid h.2 h2)
/-- Behind a call: what was told goes on being true, and the new cells may be read. -/
theorem Mem.afterK (hr : RelX w0 X0 n E st β X a w) {s0 : St} {ow : Bool} {X' : Xs} {β' : Bm} {st' : St} {w' : World} {upds : List (Nat × List A)} (hss : ∀ id cs, s0.get id = some cs → st.get id = some cs) (hm : Mem (bw w (rst s0 β) s0 rst_none) β' X' st' w')
    (hsub : ∀ b o, X' b o → Xo ow st s0 β X b o ∨ (bw w (rst s0 β) s0 rst_none).own b) (hsup : ∀ b o, Xo ow st s0 β X b o → X' b o) (hu : ∀ p ∈ upds, st'.get p.1 = some p.2 ∧ (∃ cs, s0.get p.1 = some cs) ∧ KpL s0 ow p.2) :
    let X1 : Xs := fun b o => X b o ∨ (X' b o ∧ (bw w (rst s0 β) s0 rst_none).own b)
    Mem w0 β X1 (aft s0 st upds) w' ∧ ExtX X X1 w w' ∧ (∀ b o, X1 b o → X b o ∨ w0.own b) ∧ (ow = false → ExtX X' X1 w' w') ∧ (∀ b N id cs, st.get id = some cs → β id = some (.bk b N) → b < w.heap.size) := by
  intro X1
  have hlt : ∀ b N id cs, st.get id = some cs → β id = some (.bk b N) → b < w.heap.size ∧ w0.own b ∧ ∀ o, ¬ X b o := fun b N id cs hg hβ => by
    have ho := hr.mem.obj id cs hg
    unfold OB at ho
    rw [hβ] at ho
    obtain ⟨h1, h2, us, rest, ty, h3, _⟩ := ho
    exact ⟨(Array.getElem?_eq_some_iff.1 h3).1, h1, h2⟩
  have hM : ∀ b, (bw w (rst s0 β) s0 rst_none).M b → b < w.heap.size ∧ w0.own b ∧ ∀ o, ¬ X b o := fun b ⟨id, cs, N, h1, h2⟩ => hlt b N id cs (hss id cs h1) (rst_some h2).2
  have hMr : ∀ b, (bw w (rst s0 β) s0 rst_none).M b → ¬ (w.heap[b]? = some (Obj.deferred (some [])) ∨ ∃ r : Loop, w.heap[b]? = some (Obj.loop r)) := fun b ⟨id, cs, N, h1, h2⟩ hb => by
    have ho := hr.mem.obj id cs (hss id cs h1)
    unfold OB at ho
    rw [(rst_some h2).2] at ho
    obtain ⟨_, _, us, rest, ty, h3, _⟩ := ho
    rw [h3] at hb
    rcases hb with hb | ⟨_, hb⟩ <;> simp [row] at hb
  have hown : ∀ b, (bw w (rst s0 β) s0 rst_none).own b → w0.own b := fun b h => by
    rcases h with h | h
    · exact Bw.own_new hr.mem.below h
    · exact (hM b h).2.1
  have hx : ExtX X X1 w w' := fun b o h => ⟨.inl h, World.cell?_of_block (w := w) (hm.below.block b (hr.mem.xlt b o h) fun hb => (hM b hb).2.2 o h)⟩
  have hX1 : ow = false → ExtX X' X1 w' w' := fun how b o h => by
    refine ⟨?_, rfl⟩
    rcases hsub b o h with h' | h'
    · rcases h' with h' | ⟨h', _⟩
      · exact .inl h'
      · rw [how] at h'; cases h'
    · exact .inr ⟨h, h'⟩
  have hb0 : ∀ id x, rst s0 β id = some x → β' id = some x := hm.b0
  have hsz : w.heap.size ≤ w'.heap.size := hm.below.size
  refine ⟨.of ⟨hm.below.os.trans hr.mem.below.os, hm.below.tape.trans hr.mem.below.tape, hm.below.output.trans hr.mem.below.output, Nat.le_trans hr.mem.below.size hsz, fun k hk hkm => ?_, fun s hs => Sus.kept_mono (hr.mem.below.sus s hs) fun b hb => hm.below.block b (by rcases hb with hb | ⟨_, hb⟩ <;> exact (Array.getElem?_eq_some_iff.1 hb).1) (fun hM' => hMr b hM' hb)⟩ hr.mem.b0 (fun b o h => ?_) (fun id h => hr.mem.dom id (aft_get.2 h)) (fun id cs hg => ?_) (fun i j ci cj b M N hij hi hj hbi hbj => ?_), hx, fun b o h => ?_, hX1, fun b N id cs hg hβ => (hlt b N id cs hg hβ).1⟩
  · rw [hm.below.block k (Nat.lt_of_lt_of_le hk hr.mem.below.size) (fun hb => by rcases (hM k hb).2.1 with h | h; omega; exact hkm h)]
    exact hr.mem.below.block k hk hkm
  · rcases h with h | ⟨h, _⟩
    · exact Nat.lt_of_lt_of_le (hr.mem.xlt b o h) hsz
    · exact hm.xlt b o h
  · rcases aft_get.1 cs hg with hg | ⟨hf, hg⟩
    · obtain ⟨g1, ⟨cs0, g2⟩, g3⟩ := hu _ hg
      have ho := hm.obj id cs g1
      have hfr := get_free g2
      have hst := hss id cs0 g2
      have ho0 := hr.mem.obj id cs0 hst
      unfold OB at ho ho0 ⊢
      cases hβ : β id with
      | none => rw [hβ] at ho0; exact ho0
      | some x =>
        have := hb0 id x (by rw [rst_eq hfr]; exact hβ)
        rw [this] at ho
        cases x with
        | ph => exact ho
        | bk b N =>
          obtain ⟨h1, h2, us, rest, ty, h3, h4, h5, h6⟩ := ho
          refine ⟨hown b h1, fun o h => ?_, us, rest, ty, h3, h4, ?_, h6⟩
          · rcases h with h | ⟨h, _⟩
            · exact h2 o (hsup b o (.inl h))
            · exact h2 o h
          · refine VS_kp hX1 (fun i ci hi => ?_) g3 h5
            have hoi := hr.mem.obj i ci (hss i ci hi)
            unfold OB at hoi
            cases hβi : β i with
            | none => rw [hβi] at hoi; exact hoi.elim
            | some y => exact hb0 i y (by rw [rst_eq (get_free hi)]; exact hβi)
    · refine (hr.mem.obj id cs hg).later hx (ExtB.refl β) fun b N hb => ?_
      obtain ⟨h1, h2, h3⟩ := hlt b N id cs hg hb
      have hnm : ¬ (bw w (rst s0 β) s0 rst_none).M b := fun ⟨id', cs', N', g1, g2⟩ => by
        obtain ⟨g3, g4⟩ := rst_some g2
        refine hr.mem.inj id id' cs cs' b N N' (fun e => ?_) hg (hss id' cs' g1) hb g4
        subst e; rw [hf] at g3; cases g3
      refine ⟨hm.below.block b h1 hnm, fun o h => ?_⟩
      rcases h with h | ⟨_, h | h⟩
      · exact h3 o h
      · exact absurd h1 (Nat.not_lt.2 h)
      · exact hnm h
  · have hgi : ∃ c, st.get i = some c := by
      rcases aft_get.1 ci hi with h | ⟨_, h⟩
      · obtain ⟨_, ⟨cs, h⟩, _⟩ := hu _ h; exact ⟨cs, hss _ _ h⟩
      · exact ⟨_, h⟩
    have hgj : ∃ c, st.get j = some c := by
      rcases aft_get.1 cj hj with h | ⟨_, h⟩
      · obtain ⟨_, ⟨cs, h⟩, _⟩ := hu _ h; exact ⟨cs, hss _ _ h⟩
      · exact ⟨_, h⟩
    obtain ⟨c1, hi'⟩ := hgi
    obtain ⟨c2, hj'⟩ := hgj
    exact hr.mem.inj i j c1 c2 b M N hij hi' hj' hbi hbj
  · rcases h with h | ⟨_, h⟩
    · exact .inl h
    · exact .inr (hown b h)

theorem Mem.after (hr : RelX w0 X0 n E st β X a w) {s0 : St} {ow : Bool} {X' : Xs} {β' : Bm} {st' : St} {w' : World} {upds : List (Nat × List A)} (hss : ∀ id cs, s0.get id = some cs → st.get id = some cs) (hm : Mem (bw w (rst s0 β) s0 rst_none) β' X' st' w')
    (hsub : ∀ b o, X' b o → Xo ow st s0 β X b o ∨ (bw w (rst s0 β) s0 rst_none).own b) (hsup : ∀ b o, Xo ow st s0 β X b o → X' b o) (hu : ∀ p ∈ upds, st'.get p.1 = some p.2 ∧ (∃ cs, s0.get p.1 = some cs) ∧ PureL p.2 ∧ (ow = false ∨ FlatL p.2)) :
    let X1 : Xs := fun b o => X b o ∨ (X' b o ∧ (bw w (rst s0 β) s0 rst_none).own b)
    Mem w0 β X1 (aft s0 st upds) w' ∧ ExtX X X1 w w' ∧ (∀ b o, X1 b o → X b o ∨ w0.own b) ∧ (ow = false → ExtX X' X1 w' w') ∧ (∀ b N id cs, st.get id = some cs → β id = some (.bk b N) → b < w.heap.size) :=
  hm.afterK hr hss hsub hsup fun p hp => let ⟨h1, h2, h3, h4⟩ := hu p hp; ⟨h1, h2, KpL_pure h3 h4⟩

theorem RelX.putv (hr : RelX w0 X0 n E st β X a w) {w1 : World} {β' : Bm} {X' : Xs} {st' : St} {d : Nat} {u : Value} {v : A} (hd : Nat.ble (d + 1) n = true)
    (hx : ExtX X X' w w1) (hn : ∀ b o, X' b o → X b o ∨ w0.own b) (hb : ExtB β β') (hm : Mem w0 β' X' st' w1) (hv : V X' w1 β' v u) : RelX w0 X0 n ((d, v) :: E) st' β' X' (a.put (some d) u) w1 :=
  hr.next ((full_rep a hr.defers).put (by rw [hr.size]; exact hd) u) hx hn hb hm hv

theorem run_callv {f : FuncId} {x : Operand} {xs : List Operand} {uf us uc : List Value} {ats : Array TypeId} {d : Option Nat} {ty : TypeId} {pos aft g} (hf : Callable P f) (h1 : a.eval x = .func (.func f) uf.toArray uc.toArray) (h2 : xs.map a.eval = us) :
    (execOp a.eval ⟨d, .call { callee := .value x, args := xs.toArray, argTypes := ats }, ty, pos, aft, g⟩).run P w = .ok (.enter f (uf ++ us ++ uc).toArray) w := by
  obtain ⟨fn, hf, hb, hname⟩ := hf
  have he : xs.toArray.map a.eval = us.toArray := by rw [List.map_toArray, h2]
  have e1 : execOp a.eval ⟨d, .call { callee := .value x, args := xs.toArray, argTypes := ats }, ty, pos, aft, g⟩ = callFunc f (uf.toArray ++ us.toArray ++ uc.toArray) := by
    show (do let d ← Deferred.ofValue (a.eval x) (xs.toArray.map a.eval); invoke d.target d.args : Sem Next) = _
    rw [h1, he]
    rfl
  rw [e1]
  unfold callFunc
  rw [Sem.run_bind, run_program]
  simp only [Result.andThen_ok, hf, hname, hb, Bool.false_eq_true, if_false]
  simp

/-- The objects that are handed in hold what they hold, and name no others. -/
def SubL (st s0 : St) (ow : Bool) : List (Nat × Option (List A)) → Prop
  | [] => True
  | (_, none) :: r => SubL st s0 ow r
  | (k, some cs) :: r => (st.get k = some cs ∧ VwL st s0 ow cs cs) ∧ SubL st s0 ow r
theorem SubL_get {s0 : St} {ow : Bool} : ∀ {os : List (Nat × Option (List A))}, SubL st s0 ow os → ∀ {id cs}, look os id = some cs → st.get id = some cs ∧ VwL st s0 ow cs cs
  | [], _, _, _, h => by cases h
  | (k, none) :: r, hs, id, cs, h => by
    rw [look_cons] at h
    split at h
    · cases h
    · exact SubL_get (os := r) hs h
  | (k, some c) :: r, hs, id, cs, h => by
    rw [look_cons] at h
    split at h
    · rename_i e; subst e; simp only [Option.some.injEq] at h; subst h; exact hs.1
    · exact SubL_get (os := r) hs.2 h

/-- The call, and what it comes to in this frame. -/
theorem call_core {d : Nat} {f : FuncId} {x : Operand} {xs : List Operand} {fs cs vs vs' : List A} {s0 : St} {ats : Array TypeId} {ty : TypeId} {pos aft g} {ow : Bool} {R : A → St → Prop} (hr : RelX w0 X0 n E st β X a w) (hx : ev E x = some (.fn (.func f) fs cs)) (hxs : evsA E xs = some vs) (hSub : SubL st s0 ow s0.os) (hv : VwL st s0 ow (fs ++ vs ++ cs) vs')
    (hc : ConS P f vs' s0 R) (h : ∀ v w', Post (bw w (rst s0 β) s0 rst_none) (Xo ow st s0 β X) R v w' → K (a.put (some d) v) w') :
    (⟨some d, .call { callee := .value x, args := xs.toArray, argTypes := ats }, ty, pos, aft, g⟩ : Oper).wp P a w K Q := by
  have hss : ∀ id cs, s0.get id = some cs → st.get id = some cs := fun id cs h => (SubL_get hSub h).1
  obtain ⟨e1, e2⟩ := hr.evo hx
  obtain ⟨us, e3, e4⟩ := hr.evs hxs
  simp only [V] at e2
  obtain ⟨uf, uc, e5, e6, e7⟩ := e2
  have hall := VwL_V hr hv (VS_app (VS_app e6 e4) e7)
  have hcall := hc w (Xo ow st s0 β X) (rst s0 β) (uf ++ us ++ uc) rst_none (Xo_lt hr) (hr.gl.mono fun b o h => ⟨.inl h, rfl⟩)
    (fun id cs hg => by
      have hst := hss id cs hg
      have ho := hr.mem.obj id cs hst
      have hf := get_free hg
      unfold OB at ho ⊢
      rw [rst_eq hf]
      split
      · rename_i h'; rw [h'] at ho; exact ho
      · rename_i h'; rw [h'] at ho; exact ho
      · rename_i b N h'
        rw [h'] at ho
        obtain ⟨h1, h2, us, rest, ty, h3, h4, h5, h6⟩ := ho
        refine ⟨.inr ⟨id, cs, N, hg, by rw [rst_eq hf]; exact h'⟩, fun o h => ?_, us, rest, ty, h3, h4, ?_, h6⟩
        · rcases h with h | ⟨_, id', cs', N', k1, k2, k3, _⟩
          · exact h2 o h
          · refine hr.mem.inj id id' cs cs' b N N' (fun e => ?_) hst k2 h' k3
            subst e; rw [hf] at k1; cases k1
        · exact VwL_V hr (SubL_get hSub hg).2 h5)
    (fun i j ci cj b M N hij hi hj hbi hbj => hr.mem.inj i j ci cj b M N hij (hss i ci hi) (hss j cj hj) (rst_some hbi).2 (rst_some hbj).2) hall
  have hm := Eng.Rep.evs (full_rep a hr.defers) e3
  unfold Oper.wp
  rw [run_callv hcall.callable e5 hm]
  show Calls P f _ w _
  refine hcall.calls.mono fun e w' he => ?_
  obtain ⟨v, rfl, hp⟩ := he
  exact h v w' hp

theorem aft_nil : aft ⟨[]⟩ st [] = st := rfl

/-- A call that objects are handed into. -/
theorem n_callG {d : Nat} {f : FuncId} {x : Operand} {xs : List Operand} {fs cs vs vs' : List A} {ats : Array TypeId} {ty : TypeId} {pos aft' g} {ret : A} (s0 : St) (upds : List (Nat × List A)) (ow : Bool) (hx : ev E x = some (.fn (.func f) fs cs)) (hxs : evsA E xs = some vs) (hS : SubL st s0 ow s0.os) (hv : VwL st s0 ow (fs ++ vs ++ cs) vs')
    (hc : ConS P f vs' s0 (RetS ret upds)) (hp : Pure ret) (hf : ow = false ∨ Flat ret) (hu : ∀ p ∈ upds, (∃ cs, s0.get p.1 = some cs) ∧ PureL p.2 ∧ (ow = false ∨ FlatL p.2)) (hd : Nat.ble (d + 1) n = true) (h : At w0 X0 n ((d, ret) :: E) (aft s0 st upds) K) :
    At w0 X0 n E st (fun a w => (⟨some d, .call { callee := .value x, args := xs.toArray, argTypes := ats }, ty, pos, aft', g⟩ : Oper).wp P a w K Q) := by
  rintro a w ⟨β, X, hr⟩
  refine call_core hr hx hxs hS hv hc fun v w' ⟨r, β', X', st', ⟨hR, hR2⟩, hsup, hsub, hm, hvv⟩ => ?_
  obtain ⟨m1, m2, m3, m4, _⟩ := hm.after hr (fun id cs h => (SubL_get hS h).1) hsub hsup (upds := upds) (fun p hp => ⟨hR2 p hp, hu p hp⟩)
  subst hR
  refine h _ _ ⟨β, _, hr.putv hd m2 m3 (ExtB.refl β) m1 ?_⟩
  rcases hf with hf | hf
  · exact V_mono (m4 hf) _ _ _ _ (ExtB.refl β) (V_pure _ _ hp hvv)
  · exact V_flat _ _ hf hvv

/-- .. what they hold may name each other. -/
theorem n_callKv {d : Nat} {f : FuncId} {x : Operand} {xs : List Operand} {fs cs vs vs' : List A} {ats : Array TypeId} {ty : TypeId} {pos aft' g} {ret : A} (s0 : St) (upds : List (Nat × List A)) (ow : Bool) (hx : ev E x = some (.fn (.func f) fs cs)) (hxs : evsA E xs = some vs) (hS : SubL st s0 ow s0.os) (hv : VwL st s0 ow (fs ++ vs ++ cs) vs')
    (hc : ConS P f vs' s0 (RetS ret upds)) (hp : Pure ret) (hf : ow = false ∨ Flat ret) (hu : ∀ p ∈ upds, (∃ cs, s0.get p.1 = some cs) ∧ KpL s0 ow p.2) (hd : Nat.ble (d + 1) n = true) (h : At w0 X0 n ((d, ret) :: E) (aft s0 st upds) K) :
    At w0 X0 n E st (fun a w => (⟨some d, .call { callee := .value x, args := xs.toArray, argTypes := ats }, ty, pos, aft', g⟩ : Oper).wp P a w K Q) := by
  rintro a w ⟨β, X, hr⟩
  refine call_core hr hx hxs hS hv hc fun v w' ⟨r, β', X', st', ⟨hR, hR2⟩, hsup, hsub, hm, hvv⟩ => ?_
  obtain ⟨m1, m2, m3, m4, _⟩ := hm.afterK hr (fun id cs h => (SubL_get hS h).1) hsub hsup (upds := upds) (fun p hp => ⟨hR2 p hp, hu p hp⟩)
  subst hR
  refine h _ _ ⟨β, _, hr.putv hd m2 m3 (ExtB.refl β) m1 ?_⟩
  rcases hf with hf | hf
  · exact V_mono (m4 hf) _ _ _ _ (ExtB.refl β) (V_pure _ _ hp hvv)
  · exact V_flat _ _ hf hvv
theorem n_callK {d : Nat} {f : FuncId} {xs : List Operand} {vs vs' : List A} {ats : Array TypeId} {ty : TypeId} {pos aft' g} {ret : A} (s0 : St) (upds : List (Nat × List A)) (ow : Bool) (hxs : evsA E xs = some vs) (hS : SubL st s0 ow s0.os) (hv : VwL st s0 ow vs vs')
    (hc : ConS P f vs' s0 (RetS ret upds)) (hp : Pure ret) (hf : ow = false ∨ Flat ret) (hu : ∀ p ∈ upds, (∃ cs, s0.get p.1 = some cs) ∧ KpL s0 ow p.2) (hd : Nat.ble (d + 1) n = true) (h : At w0 X0 n ((d, ret) :: E) (aft s0 st upds) K) :
    At w0 X0 n E st (fun a w => (⟨some d, .call { callee := .value (.func f), args := xs.toArray, argTypes := ats }, ty, pos, aft', g⟩ : Oper).wp P a w K Q) :=
  n_callKv (fs := []) (cs := []) s0 upds ow rfl hxs hS (by simpa using hv) hc hp hf hu hd h

theorem n_callGd {d : Nat} {f : FuncId} {xs : List Operand} {vs vs' : List A} {ats : Array TypeId} {ty : TypeId} {pos aft' g} {ret : A} (s0 : St) (upds : List (Nat × List A)) (ow : Bool) (hxs : evsA E xs = some vs) (hS : SubL st s0 ow s0.os) (hv : VwL st s0 ow vs vs')
    (hc : ConS P f vs' s0 (RetS ret upds)) (hp : Pure ret) (hf : ow = false ∨ Flat ret) (hu : ∀ p ∈ upds, (∃ cs, s0.get p.1 = some cs) ∧ PureL p.2 ∧ (ow = false ∨ FlatL p.2)) (hd : Nat.ble (d + 1) n = true) (h : At w0 X0 n ((d, ret) :: E) (aft s0 st upds) K) :
    At w0 X0 n E st (fun a w => (⟨some d, .call { callee := .value (.func f), args := xs.toArray, argTypes := ats }, ty, pos, aft', g⟩ : Oper).wp P a w K Q) :=
  n_callG (fs := []) (cs := []) s0 upds ow rfl hxs hS (by simpa using hv) hc hp hf hu hd h

/-- A call of a function value; its result bears no objects. -/
theorem n_callv {d : Nat} {f : FuncId} {x : Operand} {xs : List Operand} {fs cs vs vs' : List A} {ats : Array TypeId} {ty : TypeId} {pos aft' g} {ret : A} (ow : Bool) (hx : ev E x = some (.fn (.func f) fs cs)) (hxs : evsA E xs = some vs) (hv : VwL st ⟨[]⟩ ow (fs ++ vs ++ cs) vs')
    (hc : Con P f vs' (Ret ret)) (hp : Pure ret) (hf : ow = false ∨ Flat ret) (hd : Nat.ble (d + 1) n = true) (h : At w0 X0 n ((d, ret) :: E) st K) :
    At w0 X0 n E st (fun a w => (⟨some d, .call { callee := .value x, args := xs.toArray, argTypes := ats }, ty, pos, aft', g⟩ : Oper).wp P a w K Q) :=
  n_callG ⟨[]⟩ [] ow hx hxs trivial hv (ConS.mono hc fun r st h => ⟨h, (fun p hp => by cases hp)⟩) hp hf (fun p hp => by cases hp) hd (by rw [aft_nil]; exact h)

theorem n_call {d : Nat} {f : FuncId} {xs : List Operand} {vs vs' : List A} {ats : Array TypeId} {ty : TypeId} {pos aft g} {ret : A} (ow : Bool) (hxs : evsA E xs = some vs) (hv : VwL st ⟨[]⟩ ow vs vs')
    (hc : Con P f vs' (Ret ret)) (hp : Pure ret) (hf : ow = false ∨ Flat ret) (hd : Nat.ble (d + 1) n = true) (h : At w0 X0 n ((d, ret) :: E) st K) :
    At w0 X0 n E st (fun a w => (⟨some d, .call { callee := .value (.func f), args := xs.toArray, argTypes := ats }, ty, pos, aft, g⟩ : Oper).wp P a w K Q) :=
  n_callv (fs := []) (cs := []) ow rfl hxs (by simpa using hv) hc hp hf hd h

/-- .. whose result is a slice of its own: it becomes an object of this call's own. -/
theorem n_callvO {d : Nat} (nx : Nat) (hfr : st.free nx = true) {f : FuncId} {x : Operand} {xs : List Operand} {fs cs vs vs' ds : List A} {s m : Nat} {ats : Array TypeId} {ty : TypeId} {pos aft' g} (ow : Bool) (hx : ev E x = some (.fn (.func f) fs cs)) (hxs : evsA E xs = some vs) (hv : VwL st ⟨[]⟩ ow (fs ++ vs ++ cs) vs')
    (hc : Con P f vs' (RetO s m ds)) (hp : PureL ds) (hf : ow = false ∨ FlatL ds) (hd : Nat.ble (d + 1) n = true) (h : At w0 X0 n ((d, .sl nx s 0 m) :: E) (st.put nx ds) K) :
    At w0 X0 n E st (fun a w => (⟨some d, .call { callee := .value x, args := xs.toArray, argTypes := ats }, ty, pos, aft', g⟩ : Oper).wp P a w K Q) := by
  rintro a w ⟨β, X, hr⟩
  refine call_core hr hx hxs (s0 := ⟨[]⟩) trivial hv hc fun v w' ⟨r, β', X', st', hR, hsup, hsub, hm, hvv⟩ => ?_
  obtain ⟨id, rfl, hg⟩ := hR
  obtain ⟨m1, m2, m3, m4, m6⟩ := hm.after hr (fun id cs h => by cases h) hsub hsup (upds := []) (fun p hp => by cases hp)
  rw [aft_nil] at m1
  have hnx := hr.mem.dom nx hfr
  have ho := hm.obj id ds hg
  unfold OB at ho
  simp only [V] at hvv
  rcases hvv with ⟨hβ, rfl, _, rfl⟩ | ⟨b, N, cap, hβ, rfl, c1, c2, c3⟩
  · rw [hβ] at ho
    have ho : ds = [] := ho
    subst ho
    exact h _ _ ⟨_, _, hr.putv hd m2 m3 (upd_ext hnx) (m1.phantom nx hfr) (by simp only [V]; exact .inl ⟨upd_at, by simp⟩)⟩
  · rw [hβ] at ho
    obtain ⟨o1, o2, us, rest, ety, o3, o4, o5, o6⟩ := ho
    have o1 : w.heap.size ≤ b := by
      rcases o1 with h | ⟨id', cs', N', h, _⟩
      · exact h
      · cases h
    have hnX : ∀ o, ¬ (X b o ∨ (X' b o ∧ (bw w (rst ⟨[]⟩ β) ⟨[]⟩ rst_none).own b)) := fun o h => by
      rcases h with h | ⟨h, _⟩
      · exact o2 o (hsup b o (.inl h))
      · exact o2 o h
    have hvs : VS (fun b o => X b o ∨ (X' b o ∧ (bw w (rst ⟨[]⟩ β) ⟨[]⟩ rst_none).own b)) w' (upd β nx (.bk b N)) ds us := by
      rcases hf with hf | hf
      · exact VS_mono (m4 hf) _ _ _ _ (ExtB.refl _) (VS_pure _ _ hp o5)
      · exact VS_flat _ _ hf o5
    have hfresh : ∀ k ck q M, st.get k = some ck → β k = some (.bk q M) → q ≠ b := fun k ck q M hk hq => by
      have := m6 q M k ck hk hq
      omega
    have m5 : Mem w0 (upd β nx (.bk b N)) (fun b o => X b o ∨ (X' b o ∧ (bw w (rst ⟨[]⟩ β) ⟨[]⟩ rst_none).own b)) (st.put nx ds) w' := by
      refine .of (m1.below) (fun k y h => (upd_ext hnx) k y (m1.b0 k y h)) (m1.xlt) (fun k h => ?_) (fun k es hk => ?_) (fun i j ci cj q M N' hij hi hj hbi hbj => ?_)
      · rw [St.free_put] at h
        split at h
        · cases h
        · rename_i hne
          rw [upd_ne (fun e => hne e.symm)]
          exact hr.mem.dom k h
      · rw [St.get_put] at hk
        split at hk
        · rename_i e; subst e
          simp only [Option.some.injEq] at hk
          subst hk
          unfold OB
          rw [upd_at]
          exact ⟨Bw.own_new hr.mem.below o1, hnX, us, rest, ety, o3, o4, hvs, o6⟩
        · refine (m1.obj k es hk).later (fun _ _ h => ⟨h, rfl⟩) (upd_ext hnx) fun q M hq => ⟨rfl, ?_⟩
          have hk' := m1.obj k es hk
          unfold OB at hk'
          rw [hq] at hk'
          exact hk'.2.1
      · rw [St.get_put] at hi hj
        by_cases ei : nx = i
        · by_cases ej : nx = j
          · omega
          · rw [if_neg ej] at hj
            rw [← ei, upd_at] at hbi
            rw [upd_ne (by omega)] at hbj
            simp only [Option.some.injEq, BL.bk.injEq] at hbi
            exact hfresh j cj q N' hj hbj (by omega)
        · rw [if_neg ei] at hi
          rw [upd_ne (by omega)] at hbi
          by_cases ej : nx = j
          · rw [← ej, upd_at] at hbj
            simp only [Option.some.injEq, BL.bk.injEq] at hbj
            exact hfresh i ci q M hi hbi (by omega)
          · rw [if_neg ej] at hj
            rw [upd_ne (by omega)] at hbj
            exact hr.mem.inj i j ci cj q M N' hij hi hj hbi hbj
    exact h _ _ ⟨_, _, hr.putv hd m2 m3 (upd_ext hnx) m5 (by simp only [V]; exact .inr ⟨b, N, cap, upd_at, rfl, c1, c2, c3⟩)⟩

theorem n_callO {d : Nat} (nx : Nat) (hfr : st.free nx = true) {f : FuncId} {xs : List Operand} {vs vs' ds : List A} {s m : Nat} {ats : Array TypeId} {ty : TypeId} {pos aft g} (ow : Bool) (hxs : evsA E xs = some vs) (hv : VwL st ⟨[]⟩ ow vs vs')
    (hc : Con P f vs' (RetO s m ds)) (hp : PureL ds) (hf : ow = false ∨ FlatL ds) (hd : Nat.ble (d + 1) n = true) (h : At w0 X0 n ((d, .sl nx s 0 m) :: E) (st.put nx ds) K) :
    At w0 X0 n E st (fun a w => (⟨some d, .call { callee := .value (.func f), args := xs.toArray, argTypes := ats }, ty, pos, aft, g⟩ : Oper).wp P a w K Q) :=
  n_callvO nx hfr (fs := []) (cs := []) ow rfl hxs (by simpa using hv) hc hp hf hd h

def argsE : List A → Nat → Ev
  | [], _ => []
  | v :: r, k => (k, v) :: argsE r (k + 1)

theorem argsE_at : ∀ (l : List A) (k t : Nat) (v : A), (argsE l k).at? t = some v → k ≤ t ∧ l[t - k]? = some v
  | [], _, _, _, h => by simp [argsE, Ev.at?] at h
  | u :: r, k, t, v, h => by
    simp only [argsE, Ev.at?] at h
    cases hb : Nat.beq k t with
    | true =>
      rw [hb] at h
      have : k = t := Nat.eq_of_beq_eq_true hb
      subst this
      simp only [cond_true, Option.some.injEq] at h
      subst h
      simp
    | false =>
      rw [hb] at h
      have hne : k ≠ t := Nat.ne_of_beq_eq_false hb
      obtain ⟨h1, h2⟩ := argsE_at r (k + 1) t v h
      refine ⟨by omega, ?_⟩
      rw [show t - k = (t - (k + 1)) + 1 by omega]
      simpa using h2

/-- Into a function that objects are handed into. -/
theorem enterS {f : FuncId} {fn : Func} {c : Code} {args : List A} {s0 : St} {R : A → St → Prop} (hf : P.funcs[f]? = some fn) (hb : fn.body = some c)
    (hn : fn.ntmps = n) (hname : (fn.name == "runtime.NumGoroutine") = false) (ha : args.length ≤ n)
    (h : ∀ w0 X0, w0.ids = s0.os.map Prod.fst → At w0 X0 n (argsE args 0) s0 (Pw [] (c.wpIn (rF none) 0 P (bodyPost P fn fun e w' => ∃ v, e = .returned v ∧ Post w0 X0 R v w')))) : ConS P f args s0 R := by
  intro w X β us hd hX hgl ho hi hv
  have hl := VS_len hv
  refine ⟨⟨fn, hf, by simp [hb], hname⟩, calls_of_wp hf hb (wpIn_wide.1 (wp_nil (h (bw w β s0 hd) X rfl _ w ⟨β, X, .of (fun _ _ h => h) (fun _ _ h => .inl h) (.of ⟨rfl, rfl, rfl, Nat.le_refl _, fun _ _ _ => rfl, fun s hs => by cases hs⟩ (ExtB.refl β) hX hd ho hi) hgl ?_ rfl (fun s hs => by cases hs) (fun t v ht => ?_)⟩)))⟩
  · simp [hn]; omega
  · obtain ⟨_, h2⟩ := argsE_at _ _ _ _ ht
    simp only [Nat.sub_zero] at h2
    obtain ⟨u, g1, g2⟩ := VS_get hv h2
    have hlt := (List.getElem?_eq_some_iff.1 g1).1
    refine ⟨u, ?_, g2⟩
    rw [Array.getElem?_append, if_pos (by simpa using hlt)]
    simpa using g1

/-- Into a function. -/
theorem enter {f : FuncId} {fn : Func} {c : Code} {args : List A} {R : A → St → Prop} (hf : P.funcs[f]? = some fn) (hb : fn.body = some c)
    (hn : fn.ntmps = n) (hname : (fn.name == "runtime.NumGoroutine") = false) (ha : args.length ≤ n)
    (h : ∀ w0 X0, w0.ids = [] → At w0 X0 n (argsE args 0) ⟨[]⟩ (Pw [] (c.wpIn (rF none) 0 P (bodyPost P fn fun e w' => ∃ v, e = .returned v ∧ Post w0 X0 R v w')))) : Con P f args R := enterS hf hb hn hname ha h

/-- What the results come to. -/
def Rets (P : Program) (E : Ev) (st : St) (rs : List ResultVar) (vs : List A) : Prop :=
  ∀ w0 X0 n β X a w, RelQ w0 X0 n E st β X a w → ∃ us, (rs.mapM (retf a.tmps)).run P w = .ok us w ∧ VS X w β vs us

theorem r_nil : Rets P E st [] [] := fun _ _ _ _ _ _ _ _ => ⟨[], by simp, VS_nil⟩
theorem r_tmp {t : Nat} {v : A} {rs : List ResultVar} {vs : List A} (ht : E.at? t = some v) (h : Rets P E st rs vs) : Rets P E st (.tmp t :: rs) (v :: vs) := fun _ _ _ _ _ a w hr => by
  obtain ⟨u, h1, h2⟩ := hr.slot t v ht
  obtain ⟨us, h3, h4⟩ := h _ _ _ _ _ _ _ hr
  refine ⟨u :: us, ?_, VS_cons h2 h4⟩
  simp only [List.mapM_cons, Sem.run_bind, Sem.run_pure, Result.andThen_ok, retf]
  rw [h3]
  simp [h1]

/-- A result variable of one cell in memory. -/
theorem r_cell {x t by' : Nat} {zero : List Value} {v c : A} {cs : List A} {rs : List ResultVar} {vs : List A} (ht : TI P t 1 by' zero false) (hx : E.at? x = some v) (hm : PM st v = some cs) (hc : cs[0]? = some c) (h : Rets P E st rs vs) : Rets P E st (.cell x t :: rs) (c :: vs) := fun _ _ _ _ _ a w hr => by
  obtain ⟨u, h1, h2⟩ := hr.slot x v hx
  obtain ⟨us, h3, h4⟩ := h _ _ _ _ _ _ _ hr
  obtain ⟨b, o, us', e1, e2, e3, e4⟩ := ptr_cells hr h2 hm
  obtain ⟨z, g1, g2⟩ := VS_get e2 hc
  have e5 : (asAddr (a.tmps.getD x undef)).run P w = .ok ⟨b, o, none⟩ w := by simp [h1, e1, asAddr]
  refine ⟨z :: us, ?_, VS_cons g2 h4⟩
  simp only [List.mapM_cons, Sem.run_bind, retf]
  rw [e5]
  have hrun := run_loadVar_one (P := P) ht (e4 w .refl 0 z g1)
  rw [Nat.add_zero] at hrun
  simp only [Result.andThen_ok, hrun]
  rw [h3]
  rfl

/-- .. of a struct or an array. -/
theorem r_cellA {x t size by' : Nat} {zero : List Value} {v : A} {cs ds : List A} {rs : List ResultVar} {vs : List A} (ht : TI P t size by' zero true) (hx : E.at? x = some v) (hm : PM st v = some cs) (hc : cs.take size = ds) (hl : ds.length = size) (h : Rets P E st rs vs) : Rets P E st (.cell x t :: rs) (.ag ds :: vs) := fun _ _ _ _ _ a w hr => by
  obtain ⟨u, h1, h2⟩ := hr.slot x v hx
  obtain ⟨us, h3, h4⟩ := h _ _ _ _ _ _ _ hr
  obtain ⟨b, o, us', e1, e2, e3, e4⟩ := ptr_cells hr h2 hm
  subst hc
  have e5 : (asAddr (a.tmps.getD x undef)).run P w = .ok ⟨b, o, none⟩ w := by simp [h1, e1, asAddr]
  refine ⟨.agg (us'.take size).toArray :: us, ?_, VS_cons (by simp only [V]; exact ⟨_, rfl, VS_take e2 _, fun x hx => e3 x (List.mem_of_mem_take hx)⟩) h4⟩
  have hrun := run_loadVar_agg (P := P) ht (w := w) (b := b) (o := o) (cs := us'.take size) ((VS_len (VS_take e2 size)).trans hl) (fun j u hj => by
    rw [List.getElem?_take] at hj
    split at hj
    · exact e4 w .refl j u hj
    · cases hj)
  simp only [List.mapM_cons, Sem.run_bind, retf]
  rw [e5]
  simp only [Result.andThen_ok, hrun]
  rw [h3]
  rfl

def retA : List A → A
  | [v] => v
  | vs => .tu vs

theorem V_retA {vs : List A} {us : List Value} (h : VS X w β vs us) : V X w β (retA vs) (retv us) := by
  match vs with
  | [] => simp only [VS] at h; subst h; simp only [retA, retv, V]; exact ⟨[], rfl, VS_nil⟩
  | [v] => simp only [VS] at h; obtain ⟨u, r, rfl, h1, rfl⟩ := h; exact h1
  | v :: v' :: r =>
    simp only [VS] at h
    obtain ⟨u, r1, rfl, h1, u', r2, rfl, h2, h3⟩ := h
    simp only [retA, retv, V]
    exact ⟨_, rfl, VS_cons h1 (VS_cons h2 h3)⟩

theorem run_results {fn : Func} {rs : List ResultVar} {us : List Value} (hrs : fn.results = rs.toArray) (h2 : (rs.mapM (retf a.tmps)).run P w = .ok us w) : (results fn a.tmps).run P w = .ok (retv us) w := by
  have e : results fn a.tmps = (do let vs ← fn.results.mapM (retf a.tmps); pure (if h : vs.size = 1 then vs[0] else .tuple vs)) := by
    unfold results
    congr 2
  rw [e, Sem.run_bind, hrs, List.mapM_toArray, Sem.run_map, h2]
  match us with
  | [] => simp [retv]
  | [v] => simp [retv]
  | u :: v :: r => simp [retv]

theorem at_result {fn : Func} {R : A → St → Prop} {rs : List ResultVar} {vs : List A} (hrs : fn.results = rs.toArray) (hv : Rets P E st rs vs) (h : R (retA vs) st) :
    At w0 X0 n E st (Pw [] (bodyPost P fn (fun e w' => ∃ v, e = .returned v ∧ Post w0 X0 R v w') .ret)) := fun a w ⟨β, X, hr⟩ => by
  show bodyPost P fn _ .ret (a.wd []) w
  rw [wd_nil]
  obtain ⟨us, h1, h2⟩ := hv _ _ _ _ _ _ _ hr.toRelQ
  exact ⟨hr.defers, _, run_results hrs h1, _, rfl, _, β, X, st, h, hr.x0, hr.xn, hr.mem, V_retA h2⟩

theorem at_result' {fn : Func} {R : A → St → Prop} {rs : List ResultVar} {vs : List A} (hrs : fn.results = rs.toArray) (hv : Rets P E st rs vs) (h : R (retA vs) st) :
    At w0 X0 n E st (Pw [] (bodyPost P fn (fun e w' => ∃ v, e = .returned v ∧ Post w0 X0 R v w') .normal)) := fun a w ⟨β, X, hr⟩ => by
  show bodyPost P fn _ .normal (a.wd []) w
  rw [wd_nil]
  obtain ⟨us, h1, h2⟩ := hv _ _ _ _ _ _ _ hr.toRelQ
  exact ⟨hr.defers, _, run_results hrs h1, _, rfl, _, β, X, st, h, hr.x0, hr.xn, hr.mem, V_retA h2⟩
end
end Go.Abs
