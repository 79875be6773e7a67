/-
  The second engine, part F: new names for objects at the heads of loops, what is turned no more, structs built, copying. Conditions: none; nothing of any program stands here.
-/
import Derived.Test.YtjnbpinnjbdnpaaAbsE
namespace Go.Abs
open Go Go.Eng

/-- New names for old ones; 'none': a nil slice. -/
abbrev Rho := List (Nat × Option Nat)
def lookR : Rho → Nat → Option (Option Nat)
  | [], _ => none
  | (k, o) :: r, id => cond (Nat.beq k id) (some o) (lookR r id)

mutual
inductive Ren (ρ : Rho) : A → A → Prop where
  | pure {v} (h : Pure v) : Ren ρ v v
  | p {id id' off} (h : lookR ρ id' = some (some id)) : Ren ρ (.p id off) (.p id' off)
  | sl {id id' s off m m'} (h : lookR ρ id' = some (some id)) (hm : m = m') : Ren ρ (.sl id s off m) (.sl id' s off m')
  | nl {id' s} (h : lookR ρ id' = some none) : Ren ρ .nl (.sl id' s 0 0)
  | ag {cs cs'} (h : RenL ρ cs cs') : Ren ρ (.ag cs) (.ag cs')
  | fn {f as as' cs cs'} (h : RenL ρ as as') (h' : RenL ρ cs cs') : Ren ρ (.fn f as cs) (.fn f as' cs')
inductive RenL (ρ : Rho) : List A → List A → Prop where
  | nil : RenL ρ [] []
  | cons {c c' cs cs'} (h : Ren ρ c c') (hs : RenL ρ cs cs') : RenL ρ (c :: cs) (c' :: cs')
end

theorem RenL.pure {ρ : Rho} : ∀ {cs : List A}, PureL cs → RenL ρ cs cs
  | [], _ => .nil
  | _ :: _, h => .cons (.pure h.1) (RenL.pure h.2)
theorem RenL.app {ρ : Rho} : ∀ {cs cs' ds ds' : List A}, RenL ρ cs cs' → RenL ρ ds ds' → RenL ρ (cs ++ ds) (cs' ++ ds')
  | _, _, _, _, .nil, h => h
  | _, _, _, _, .cons h hs, h' => .cons h (RenL.app hs h')

def ren (ρ : Rho) (β : Bm) : Bm := fun id => match lookR ρ id with
  | some (some old) => β old
  | some none => some .ph
  | none => none

section
variable {X : Xs} {w : World} {β : Bm} {ρ : Rho}
mutual
theorem Ren_V : ∀ {v v' : A} {u : Value}, Ren ρ v v' → V X w β v u → V X w (ren ρ β) v' u
  | v, _, u, .pure h, hv => V_pure _ _ h hv
  | _, _, u, .p h, hv => by
    simp only [V] at *
    obtain ⟨b, N, h1, h2⟩ := hv
    exact ⟨b, N, by simp only [ren, h]; exact h1, h2⟩
  | _, _, u, .sl h hm, hv => by
    subst hm
    simp only [V] at *
    rcases hv with ⟨h1, h2⟩ | ⟨b, N, cap, h1, h2⟩
    · exact .inl ⟨by simp only [ren, h]; exact h1, h2⟩
    · exact .inr ⟨b, N, cap, by simp only [ren, h]; exact h1, h2⟩
  | _, _, u, .nl h, hv => by
    simp only [V] at *
    exact .inl ⟨by simp only [ren, h], by simpa using hv⟩
  | _, _, u, .ag h, hv => by
    simp only [V] at *
    obtain ⟨us, h1, h2, h3⟩ := hv
    exact ⟨us, h1, RenL_V h h2, h3⟩
  | _, _, u, .fn h h', hv => by
    simp only [V] at *
    obtain ⟨us, vs, h1, h2, h3⟩ := hv
    exact ⟨us, vs, h1, RenL_V h h2, RenL_V h' h3⟩
theorem RenL_V : ∀ {vs vs' : List A} {us : List Value}, RenL ρ vs vs' → VS X w β vs us → VS X w (ren ρ β) vs' us
  | _, _, us, .nil, hv => by simp only [VS] at *; exact hv
  | _, _, us, .cons h hs, hv => by
    simp only [VS] at *
    obtain ⟨u, r, h1, h2, h3⟩ := hv
    exact ⟨u, r, h1, Ren_V h h2, RenL_V hs h3⟩
end
end

/-- The objects that were handed in keep their numbers. -/
def keepB (ids : List Nat) (ρ : Rho) : Bool := ids.all fun i => match lookR ρ i with | some (some j) => Nat.beq j i | _ => false
theorem keep_spec {ids : List Nat} {ρ : Rho} (h : keepB ids ρ = true) {i : Nat} (hi : i ∈ ids) : lookR ρ i = some (some i) := by
  have := List.all_eq_true.1 h i hi
  split at this
  · rename_i j hj; rw [hj, Nat.eq_of_beq_eq_true this]
  · cases this

def RenE (ρ : Rho) (E : Ev) : Ev → Prop
  | [] => True
  | (t, v) :: r => (∃ v0, E.at? t = some v0 ∧ Ren ρ v0 v) ∧ RenE ρ E r

def RenS (ρ : Rho) (st : St) : List (Nat × Option (List A)) → Prop
  | [] => True
  | (_, none) :: _ => False
  | (id, some cs) :: r => ((lookR ρ id = some none ∧ cs = []) ∨ ∃ old cs0, lookR ρ id = some (some old) ∧ st.get old = some cs0 ∧ RenL ρ cs0 cs) ∧ RenS ρ st r

def olds : Rho → List Nat
  | [] => []
  | (_, some o) :: r => o :: olds r
  | (_, none) :: r => olds r
def rhoOK (ρ : Rho) (st : St) : Bool := (ρ.all fun p => !st.free p.1) && decide (olds ρ).Nodup

theorem lookR_lt : ∀ {ρ : Rho} {st : St} {id : Nat} {o}, (ρ.all fun p => !st.free p.1) = true → lookR ρ id = some o → st.free id = false
  | [], _, _, _, _, h => by cases h
  | (k, o') :: r, st, id, o, ha, h => by
    simp only [List.all_cons, Bool.and_eq_true] at ha
    simp only [lookR] at h
    cases hb : Nat.beq k id with
    | true => rw [← Nat.eq_of_beq_eq_true hb]; simpa using ha.1
    | false => rw [hb] at h; exact lookR_lt ha.2 h
theorem lookR_old : ∀ {ρ : Rho} {id o : Nat}, lookR ρ id = some (some o) → o ∈ olds ρ
  | [], _, _, h => by cases h
  | (k, o') :: r, id, o, h => by
    simp only [lookR] at h
    cases hb : Nat.beq k id with
    | true => rw [hb] at h; simp only [cond_true, Option.some.injEq] at h; subst h; exact .head _
    | false =>
      rw [hb] at h
      have := lookR_old (ρ := r) h
      cases o' with
      | none => exact this
      | some _ => exact .tail _ this
theorem lookR_inj : ∀ {ρ : Rho} {i j o : Nat}, (olds ρ).Nodup → lookR ρ i = some (some o) → lookR ρ j = some (some o) → i = j
  | [], _, _, _, _, h, _ => by cases h
  | (k, o') :: r, i, j, o, hn, hi, hj => by
    simp only [lookR] at hi hj
    have hn' : (olds r).Nodup := by
      cases o' with
      | none => exact hn
      | some _ => exact (List.nodup_cons.1 hn).2
    cases hbi : Nat.beq k i with
    | true =>
      cases hbj : Nat.beq k j with
      | true => rw [← Nat.eq_of_beq_eq_true hbi, ← Nat.eq_of_beq_eq_true hbj]
      | false =>
        rw [hbi] at hi; rw [hbj] at hj
        simp only [cond_true, Option.some.injEq] at hi
        subst hi
        exact absurd (lookR_old hj) (List.nodup_cons.1 hn).1
    | false =>
      cases hbj : Nat.beq k j with
      | true =>
        rw [hbi] at hi; rw [hbj] at hj
        simp only [cond_true, Option.some.injEq] at hj
        subst hj
        exact absurd (lookR_old hi) (List.nodup_cons.1 hn).1
      | false => rw [hbi] at hi; rw [hbj] at hj; exact lookR_inj hn' hi hj

theorem RenS_get {ρ : Rho} {st : St} : ∀ {os : List (Nat × Option (List A))}, RenS ρ st os → ∀ {id cs}, look os id = some cs → (lookR ρ id = some none ∧ cs = []) ∨ ∃ old cs0, lookR ρ id = some (some old) ∧ st.get old = some cs0 ∧ RenL ρ cs0 cs
  | [], _, _, _, h => by cases h
  | (_, none) :: _, h, _, _, _ => h.elim
  | (k, some c) :: r, h, id, cs, hl => by
    simp only [look] at hl
    cases hb : Nat.beq k id with
    | true =>
      rw [hb] at hl
      simp only [cond_true, Option.some.injEq] at hl
      subst hl
      rw [← Nat.eq_of_beq_eq_true hb]
      exact h.1
    | false => rw [hb] at hl; exact RenS_get h.2 hl

section
variable {P : Program} {w0 : Bw} {X0 : Xs} {n : Nat} {E : Ev} {st : St} {β : Bm} {X : Xs} {a : Act} {w : World} {Q : Exit → Act → World → Prop} {K : Act → World → Prop}

theorem RelX.ren (hr : RelX w0 X0 n E st β X a w) {E' : Ev} {st' : St} {ids : List Nat} (ρ : Rho) (hI : w0.ids = ids) (hkI : keepB ids ρ = true) (hk : rhoOK ρ st' = true) (hE : RenE ρ E E') (hS : RenS ρ st st'.os) : RelX w0 X0 n E' st' (ren ρ β) X a w := by
  simp only [rhoOK, Bool.and_eq_true, decide_eq_true_eq] at hk
  refine .of (hr.x0) (hr.xn) (.of (hr.mem.below) (fun id y h => by
      have hid := w0.bi id y h
      rw [hI] at hid
      unfold Abs.ren
      rw [keep_spec hkI hid]
      exact hr.mem.b0 id y h) (hr.mem.xlt) (fun id h => ?_) (fun id cs hg => ?_) (fun i j ci cj b M N hij hi hj hbi hbj => ?_)) (hr.gl) (hr.size) (hr.defers) (hr.sslot) (?_)
  · unfold Abs.ren
    split
    · rename_i old h'; have := lookR_lt hk.1 h'; rw [h] at this; cases this
    · rename_i h'; have := lookR_lt hk.1 h'; rw [h] at this; cases this
    · rfl
  · rcases RenS_get hS hg with ⟨h1, h2⟩ | ⟨old, cs0, h1, h2, h3⟩
    · unfold OB
      simp only [Abs.ren, h1]
      exact h2
    · have ho := hr.mem.obj old cs0 h2
      have e : Abs.ren ρ β id = β old := by simp only [Abs.ren, h1]
      unfold OB at ho ⊢
      rw [e]
      split
      · rename_i h'; rw [h'] at ho; exact ho
      · rename_i h'; rw [h'] at ho; simp only at ho; subst ho; cases h3; rfl
      · rename_i b N h'
        rw [h'] at ho
        obtain ⟨o1, o2, us, rest, ty, o3, o4, o5, o6⟩ := ho
        exact ⟨o1, o2, us, rest, ty, o3, o4, RenL_V h3 o5, o6⟩
  · have key : ∀ k ck, st'.get k = some ck → ∀ b M, Abs.ren ρ β k = some (.bk b M) → ∃ old c0, lookR ρ k = some (some old) ∧ st.get old = some c0 ∧ β old = some (.bk b M) := by
      intro k ck hk' b M hb
      rcases RenS_get hS hk' with ⟨h1, h2⟩ | ⟨old, cs0, h1, h2, h3⟩
      · simp only [Abs.ren, h1, Option.some.injEq] at hb; cases hb
      · simp only [Abs.ren, h1] at hb
        exact ⟨old, cs0, h1, h2, hb⟩
    obtain ⟨o1, c1, g1, g2, g3⟩ := key i ci hi b M hbi
    obtain ⟨o2, c2, g4, g5, g6⟩ := key j cj hj b N hbj
    exact hr.mem.inj o1 o2 c1 c2 b M N (fun e => hij (lookR_inj hk.2 g1 (by rw [e]; exact g4))) g2 g5 g3 g6
  · clear hS
    induction E' with
    | nil => intro t v h; cases h
    | cons p r ih =>
      obtain ⟨k, v'⟩ := p
      intro t v ht
      simp only [Ev.at?] at ht
      cases hb : Nat.beq k t with
      | true =>
        rw [hb] at ht
        simp only [cond_true, Option.some.injEq] at ht
        subst ht
        obtain ⟨⟨v0, h1, h2⟩, _⟩ := hE
        rw [← Nat.eq_of_beq_eq_true hb]
        obtain ⟨u, g1, g2⟩ := hr.slot k v0 h1
        exact ⟨u, g1, Ren_V h2 g2⟩
      | false => rw [hb] at ht; exact ih hE.2 t v ht

theorem at_ren {E' : Ev} {st' : St} {ids : List Nat} (ρ : Rho) (hI : w0.ids = ids) (hkI : keepB ids ρ = true) (hk : rhoOK ρ st' = true) (hE : RenE ρ E E') (hS : RenS ρ st st'.os) (h : At w0 X0 n E' st' K) : At w0 X0 n E st K :=
  fun a w ⟨_, _, hr⟩ => h a w ⟨_, _, hr.ren ρ hI hkI hk hE hS⟩

theorem at_ex {ι : Type} {I : ι → Ev} {SS : ι → St} {pre : ι → Prop} {ids : List Nat} (x : ι) (hp : pre x) (ρ : Rho) (hI : w0.ids = ids) (hkI : keepB ids ρ = true) (hk : rhoOK ρ (SS x) = true) (hE : RenE ρ E (I x)) (hS : RenS ρ st (SS x).os) :
    At w0 X0 n E st (fun a w => ∃ x, pre x ∧ Rel w0 X0 n (I x) (SS x) a w) := fun _ _ ⟨_, _, hr⟩ => ⟨x, hp, _, _, hr.ren ρ hI hkI hk hE hS⟩
theorem at_end {ds : List Nat} {ι : Type} {I : ι → Ev} {SS : ι → St} {pre : ι → Prop} {m : ι → Nat} {x : ι} (y : ι) (hp : pre y) (hm : m y < m x) (ρ : Rho) {ids : List Nat} (hI : w0.ids = ids) (hkI : keepB ids ρ = true) (hk : rhoOK ρ (SS y) = true) (hE : RenE ρ E (I y)) (hS : RenS ρ st (SS y).os) :
    At w0 X0 n E st (Pw ds (LpI w0 X0 n ds I SS pre m (m x))) := fun a _ ⟨_, _, hr⟩ => ⟨a, rfl, y, hp, hm, _, _, hr.ren ρ hI hkI hk hE hS⟩

/-- An own object is turned no more: its cells may be read for good. -/
theorem Mem.freeze (hm : Mem w0 β X st w) {id b N : Nat} {cs : List A} (hg : st.get id = some cs) (hβ : β id = some (.bk b N)) :
    let X1 : Xs := fun q o => X q o ∨ (q = b ∧ o < cs.length)
    Mem w0 β X1 (st.del id) w ∧ ExtX X X1 w w ∧ (∀ q o, X1 q o → X q o ∨ w0.own q) ∧ ∀ (off k : Nat), PureL cs → VM X1 w ((cs.drop off).take k) b off := by
  intro X1
  have ho := hm.obj id cs hg
  unfold OB at ho
  rw [hβ] at ho
  obtain ⟨o1, o2, us, rest, ty, o3, o4, o5, o6⟩ := ho
  have hx : ExtX X X1 w w := fun q o h => ⟨.inl h, rfl⟩
  have hlt := (Array.getElem?_eq_some_iff.1 o3).1
  have hdel : ∀ q c, (st.del id).get q = some c → q ≠ id ∧ st.get q = some c := fun q c hq => by rw [St.get_del] at hq; split at hq; cases hq; rename_i h; exact ⟨fun e => h e.symm, hq⟩
  refine ⟨.of (hm.below) (hm.b0) (fun q o h => ?_) (fun k hk => hm.dom k (by rw [St.free_del] at hk; split at hk; cases hk; exact hk)) (fun k ds hk => ?_) (fun i j ci cj q M N' hij hi hj => hm.inj i j ci cj q M N' hij (hdel i ci hi).2 (hdel j cj hj).2), hx, fun q o h => ?_, fun off k hp => ?_⟩
  · rcases h with h | ⟨rfl, _⟩
    · exact hm.xlt q o h
    · exact hlt
  · obtain ⟨hne, hk'⟩ := hdel k ds hk
    refine (hm.obj k ds hk').later hx (ExtB.refl β) fun q M hq => ⟨rfl, fun o h => ?_⟩
    rcases h with h | ⟨rfl, _⟩
    · have hk2 := hm.obj k ds hk'
      unfold OB at hk2
      rw [hq] at hk2
      exact hk2.2.1 o h
    · exact hm.inj k id ds cs q M N hne hk' hg hq hβ
  · rcases h with h | ⟨rfl, _⟩
    · exact .inl h
    · exact .inr o1
  · refine VM_of fun j c hj => ?_
    have hj' : (cs.drop off)[j]? = some c := by rw [List.getElem?_take] at hj; split at hj; exact hj; cases hj
    rw [List.getElem?_drop] at hj'
    obtain ⟨u, g1, g2⟩ := VS_get o5 hj'
    have hjl := (List.getElem?_eq_some_iff.1 hj').1
    have hju := (List.getElem?_eq_some_iff.1 g1).1
    refine ⟨.inr ⟨rfl, hjl⟩, u, ?_, ?_, o6 u (List.mem_of_getElem? g1)⟩
    · simp only [World.cell?, o3]
      simp [List.getElem?_append_left hju, g1]
    · have hpc : Pure c := by
        have : ∀ (l : List A) (i : Nat) (c : A), PureL l → l[i]? = some c → Pure c := by
          intro l
          induction l with
          | nil => intro i c _ h; simp at h
          | cons x l ih => intro i c hp h; cases i with
            | zero => simp at h; subst h; exact hp.1
            | succ i => exact ih i c hp.2 (by simpa using h)
        exact this cs _ c hp hj'
      exact V_mono hx _ _ _ _ (ExtB.refl _) (V_pure (β' := no) _ _ hpc g2)

/-- The slice of an object that is turned no more. -/
theorem frz_V (hm : Mem w0 β X st w) {id s off m : Nat} {cs : List A} {u : Value} (hg : st.get id = some cs) (hp : PureL cs) (hv : V X w β (.sl id s off m) u) :
    ∃ X1 : Xs, Mem w0 β X1 (st.del id) w ∧ ExtX X X1 w w ∧ (∀ q o, X1 q o → X q o ∨ w0.own q) ∧ ∀ s off m u, V X w β (.sl id s off m) u → V X1 w β (.fz m ((cs.drop off).take (m * s))) u := by
  have hv' := hv
  simp only [V] at hv
  rcases hv with ⟨hβ, _⟩ | ⟨b, N, cap, hβ, _⟩
  · have hdel : ∀ q c, (st.del id).get q = some c → st.get q = some c := fun q c hq => by rw [St.get_del] at hq; split at hq; cases hq; exact hq
    refine ⟨X, hm.drop (fun q h => by rw [St.free_del] at h; split at h; cases h; exact h) hdel, fun _ _ h => ⟨h, rfl⟩, fun _ _ h => .inl h, fun s off m u hv => ?_⟩
    simp only [V] at hv ⊢
    rcases hv with ⟨_, rfl, rfl, rfl⟩ | ⟨b, N, cap, hβ', _⟩
    · exact ⟨none, 0, rfl, Nat.le_refl _, Nat.zero_le _, fun _ => rfl, (fun h => absurd h (by omega)), by simp only [Nat.zero_mul, List.take_zero, VM]⟩
    · rw [hβ] at hβ'; cases hβ'
  · obtain ⟨m1, m2, m3, m4⟩ := hm.freeze hg hβ
    refine ⟨_, m1, m2, m3, fun s off m u hv => ?_⟩
    simp only [V] at hv ⊢
    rcases hv with ⟨hβ', _⟩ | ⟨b', N', cap', hβ', rfl, c1, c2, c3⟩
    · rw [hβ] at hβ'; cases hβ'
    · rw [hβ] at hβ'; cases hβ'
      exact ⟨some ⟨b, off, none⟩, cap', rfl, c1, c2, (fun h => by cases h), (fun _ x hx => by cases hx; rfl), m4 off (m * s) hp⟩

theorem RelX.say (hr : RelX w0 X0 n E st β X a w) {st' : St} {X1 : Xs} {t : Nat} {v v' : A} (ht : E.at? t = some v) (hm : Mem w0 β X1 st' w) (hx : ExtX X X1 w w) (hn : ∀ q o, X1 q o → X q o ∨ w0.own q) (hv : ∀ u, V X w β v u → V X1 w β v' u) : RelX w0 X0 n ((t, v') :: E) st' β X1 a w := by
  refine .of (fun b o h => (hx b o (hr.x0 b o h)).1) (fun b o h => (hn b o h).elim (hr.xn b o) .inr) (hm) (hr.gl.mono hx) (hr.size) (hr.defers) (fun s hs => Sus.slots_mono hx (hr.sslot s hs)) (fun s x hs => ?_)
  simp only [Ev.at?] at hs
  cases hb : Nat.beq t s with
  | true =>
    rw [hb] at hs
    simp only [cond_true, Option.some.injEq] at hs
    subst hs
    rw [← Nat.eq_of_beq_eq_true hb]
    obtain ⟨u, g1, g2⟩ := hr.slot t v ht
    exact ⟨u, g1, hv u g2⟩
  | false =>
    rw [hb] at hs
    obtain ⟨u, g1, g2⟩ := hr.slot s x hs
    exact ⟨u, g1, V_mono hx _ _ _ _ (ExtB.refl β) g2⟩

/-- A slot's own slice is turned no more. -/
theorem at_frz (t : Nat) {id s off m : Nat} {cs ds : List A} (ht : E.at? t = some (.sl id s off m)) (hg : st.get id = some cs) (hp : PureL cs) (hd : (cs.drop off).take (m * s) = ds) (h : At w0 X0 n ((t, .fz m ds) :: E) (st.del id) K) : At w0 X0 n E st K := by
  rintro a w ⟨β, X, hr⟩
  subst hd
  obtain ⟨u, g1, g2⟩ := hr.slot t _ ht
  obtain ⟨X1, m1, m2, m3, m4⟩ := frz_V hr.mem hg hp g2
  exact h a w ⟨β, X1, hr.say ht m1 m2 m3 (fun u hu => m4 s off m u hu)⟩

/-- .. that lies in a struct in a slot. -/
theorem at_frzA (t j : Nat) {id s off m : Nat} {cs ds vs vs' : List A} (ht : E.at? t = some (.ag vs)) (hj : vs[j]? = some (.sl id s off m)) (hg : st.get id = some cs) (hp : PureL cs) (hd : (cs.drop off).take (m * s) = ds) (hvs : vs.set j (.fz m ds) = vs') (h : At w0 X0 n ((t, .ag vs') :: E) (st.del id) K) : At w0 X0 n E st K := by
  rintro a w ⟨β, X, hr⟩
  subst hd; subst hvs
  obtain ⟨u, g1, g2⟩ := hr.slot t _ ht
  have g2' := g2
  simp only [V] at g2'
  obtain ⟨us, e1, e2, e3⟩ := g2'
  obtain ⟨q, q1, q2⟩ := VS_get e2 hj
  obtain ⟨X1, m1, m2, m3, m4⟩ := frz_V hr.mem hg hp q2
  refine h a w ⟨β, X1, hr.say ht m1 m2 m3 fun u hu => ?_⟩
  simp only [V] at hu ⊢
  obtain ⟨us, e1, e2, e3⟩ := hu
  obtain ⟨q, q1, q2⟩ := VS_get e2 hj
  refine ⟨us, e1, ?_, e3⟩
  have := VS_set (VS_mono m2 _ _ _ _ (ExtB.refl β) e2) (j := j) (m4 s off m q q2)
  have hset : us.set j q = us := by
    obtain ⟨hlt, he⟩ := List.getElem?_eq_some_iff.1 q1
    rw [← he]; exact List.set_getElem_self hlt
  rwa [hset] at this

/-- A nil slice in a slot as an object of the call's own. -/
theorem at_ph (nx : Nat) (hf : st.free nx = true) (t s : Nat) (ht : E.at? t = some .nl) (h : At w0 X0 n ((t, .sl nx s 0 0) :: E) (st.put nx []) K) : At w0 X0 n E st K := by
  rintro a w ⟨β, X, hr⟩
  have hnx := hr.mem.dom nx hf
  refine h a w ⟨_, X, .of (hr.x0) (hr.xn) (hr.mem.phantom nx hf) (hr.gl) (hr.size) (hr.defers) (hr.sslot) (fun k x hk => ?_)⟩
  simp only [Ev.at?] at hk
  cases hb : Nat.beq t k with
  | true =>
    rw [hb] at hk
    simp only [cond_true, Option.some.injEq] at hk
    subst hk
    rw [← Nat.eq_of_beq_eq_true hb]
    obtain ⟨u, g1, g2⟩ := hr.slot t _ ht
    exact ⟨u, g1, by simp only [V] at *; exact .inl ⟨upd_at, by simpa using g2⟩⟩
  | false =>
    rw [hb] at hk
    obtain ⟨u, g1, g2⟩ := hr.slot k x hk
    exact ⟨u, g1, V_mono (fun _ _ h => ⟨h, rfl⟩) _ _ _ _ (upd_ext hnx) g2⟩

/-- A slice that nobody turns reads the same in other words. -/
theorem at_say (t : Nat) {v v' : A} (ht : E.at? t = some v) (hv : v = v') (h : At w0 X0 n ((t, v') :: E) st K) : At w0 X0 n E st K := by
  subst hv
  rintro a w ⟨β, X, hr⟩
  exact h a w ⟨β, X, hr.say ht hr.mem (fun _ _ h => ⟨h, rfl⟩) (fun _ _ h => .inl h) (fun _ h => h)⟩

/-- How many elements a slice has at most. -/
theorem at_max (t : Nat) {m : Nat} {cs : List A} (ht : E.at? t = some (.fz m cs)) (h : m ≤ maxLen → At w0 X0 n E st K) : At w0 X0 n E st K := by
  rintro a w ⟨β, X, hr⟩
  obtain ⟨u, g1, g2⟩ := hr.slot t _ ht
  simp only [V] at g2
  obtain ⟨ad, cap, _, h1, h2, _⟩ := g2
  exact h (Nat.le_trans h1 h2) a w ⟨β, X, hr⟩

/-- Fields written over zeros. -/
def FillA (ps : List (Nat × Nat)) : List A → List (Nat × A) → List A → Prop
  | cs, [], out => cs = out
  | cs, (i, v) :: r, out => ∃ off size, ps[i]? = some (off, size) ∧ (cellsA v).length = size ∧ off + size ≤ cs.length ∧ cel v = true ∧ FillA ps (cs.take off ++ cellsA v ++ cs.drop (off + size)) r out

def evpsA (E : Ev) : List (Nat × Operand) → Option (List (Nat × A))
  | [] => some []
  | (i, x) :: r =>
    match ev E x, evpsA E r with
    | some v, some vs => some ((i, v) :: vs)
    | _, _ => none

theorem fill_ok (hr : RelQ w0 X0 n E st β X a w) {ps : List (Nat × Nat)} : ∀ {parts : List (Nat × Operand)} {pvs : List (Nat × A)} {cs out : List A} {us : List Value}, evpsA E parts = some pvs → FillA ps cs pvs out → VS X w β cs us → (∀ x ∈ us, x.oneCell' = true) →
    ∃ qs us', evps (full a) parts = some qs ∧ Instr.fill (fun i => ps.toArray[i]?) us.toArray qs = some us'.toArray ∧ VS X w β out us' ∧ ∀ x ∈ us', x.oneCell' = true
  | [], pvs, cs, out, us, hp, hf, hv, h1 => by
    simp only [evpsA, Option.some.injEq] at hp
    subst hp
    simp only [FillA] at hf
    subst hf
    exact ⟨[], us, rfl, rfl, hv, h1⟩
  | (i, x) :: r, pvs, cs, out, us, hp, hf, hv, h1 => by
    simp only [evpsA] at hp
    split at hp
    · rename_i v vs hx hrest
      simp only [Option.some.injEq] at hp
      subst hp
      obtain ⟨off, size, f1, f2, f3, f4, f5⟩ := hf
      obtain ⟨e1, e2⟩ := hr.evo hx
      obtain ⟨ws, c1, c2, c3⟩ := V_cells rfl (isAgOr v f4) e2
      have hlw := VS_len c2
      have hlu := VS_len hv
      have hv' : VS X w β (cs.take off ++ cellsA v ++ cs.drop (off + size)) (us.take off ++ ws ++ us.drop (off + ws.length)) := by
        rw [hlw, f2]
        exact VS_app (VS_app (VS_take hv off) c2) (VS_drop hv _)
      have h1' : ∀ z ∈ us.take off ++ ws ++ us.drop (off + ws.length), z.oneCell' = true := by
        intro z hz
        simp only [List.mem_append] at hz
        rcases hz with (hz | hz) | hz
        · exact h1 z (List.mem_of_mem_take hz)
        · exact c3 z hz
        · exact h1 z (List.mem_of_mem_drop hz)
      obtain ⟨qs, us', g1, g2, g3, g4⟩ := fill_ok hr hrest f5 hv' h1'
      refine ⟨(i, a.eval x) :: qs, us', by simp only [evps, e1, g1], ?_, g3, g4⟩
      have hps : ps.toArray[i]? = some (off, size) := by simpa using f1
      simp only [Instr.fill, hps, c1, List.size_toArray]
      have hno : ¬ ((decide (ws.length ≠ size) || decide (off + ws.length > us.length)) = true) := by
        rw [hlw, f2]; simp; omega
      rw [if_neg hno]
      have hw := wr_cells ws 0 off (us.take off) (us.drop off) (by simp; omega) (by simp; omega)
      have ez : ws.toArray.zipIdx = (ws.zipIdx 0).toArray := by simp
      rw [ez, List.foldl_toArray]
      rw [List.take_append_drop, List.drop_drop] at hw
      refine Eq.trans (congrArg (fun y => Instr.fill (fun i => ps.toArray[i]?) y qs) hw) g2
    · cases hp

/-- A struct built. -/
theorem y_build {t : TypeId} {size by' : Nat} {zero : List Value} {fs : List Field} {ps : List (Nat × Nat)} {parts : List (Nat × Operand)} {pvs : List (Nat × A)} {ty : TypeId} {out : List A} (ht : TI P t size by' zero true) (hz : zero.all (·.oneCell') = true) (hu : P.underlying t = some (.struct fs.toArray))
    (hps : (fs.map fun f => (P.info? f.type).map fun i => (f.offset, i.size)) = ps.map some) (hp : evpsA E parts = some pvs) (hf : FillA ps (zero.map evC) pvs out) : YO P E st (.build t parts.toArray) ty (.ag out) := by
  intro w0 X0 n β X a w hr
  obtain ⟨qs, us, g1, g2, g3, g4⟩ := fill_ok hr hp hf (VS_evC zero) (by simpa using hz)
  refine ⟨.agg us.toArray, by simp only [V]; exact ⟨us, rfl, g3, g4⟩, fun d pos aft g w' _ => ?_⟩
  obtain ⟨z, hz', hzc⟩ := ht.zeroValue w'
  have hrun : ∀ (fs : List Field) (ps : List (Nat × Nat)), (fs.map fun f => (P.info? f.type).map fun i => (f.offset, i.size)) = ps.map some → (fs.mapM fun f => (do pure (f.offset, ← sizeOf f.type) : Sem (Nat × Nat))).run P w' = .ok ps w' := by
    intro fs
    induction fs with
    | nil => intro ps h; cases ps with
      | nil => simp
      | cons _ _ => simp at h
    | cons f r ih =>
      intro ps h
      cases ps with
      | nil => simp at h
      | cons p q =>
        simp only [List.map_cons, List.cons.injEq] at h
        obtain ⟨i, hi, hpe⟩ := Option.map_eq_some_iff.1 h.1
        subst hpe
        simp only [List.mapM_cons, Sem.run_bind]
        have e1 : (sizeOf f.type).run P w' = .ok i.size w' := by simp [sizeOf, typeInfo, hi]
        rw [e1]
        simp only [Result.andThen_ok, Sem.run_pure]
        rw [ih q h.2]
        rfl
  have : (Instr.build t qs.toArray).run P w' = .ok (.agg us.toArray) w' := by
    unfold Instr.build
    rw [Sem.run_bind, hz']
    simp only [Result.andThen_ok, hzc]
    rw [Sem.run_bind, run_underlying hu]
    simp only [Result.andThen_ok]
    rw [Sem.run_bind, List.mapM_toArray, Sem.run_map, hrun fs ps hps]
    show (match Instr.fill (fun i => ps.toArray[i]?) zero.toArray qs with | some cells => (pure (.agg cells) : Sem Value) | _ => stuck "build: no such field, or a part of the wrong size").run P w' = _
    rw [g2]
    rfl
  have e : execOp a.eval ⟨d, .build t parts.toArray, ty, pos, aft, g⟩ = Next.value <$> Instr.build t (parts.toArray.map fun (i, x) => (i, a.eval x)) := by simp [execOp]
  have e0 : (parts.toArray.map fun (i, x) => (i, a.eval x)) = qs.toArray := by rw [List.map_toArray, (full_rep a hr.defers).evps g1]
  rw [e, e0, Sem.run_map, this]
  rfl

/-- A struct's cells, field by field: a part where one is given, else zeros. -/
def bld : List (List A) → Nat → List (Nat × A) → List A
  | [], _, _ => []
  | z :: zs, k, [] => z ++ bld zs (k + 1) []
  | z :: zs, k, (i, v) :: ps => cond (Nat.beq i k) (cellsA v ++ bld zs (k + 1) ps) (z ++ bld zs (k + 1) ((i, v) :: ps))
/-- The parts fit. -/
def bldOK : List (List A) → Nat → List (Nat × A) → Prop
  | _, _, [] => True
  | [], _, _ :: _ => False
  | z :: zs, k, (i, v) :: ps => cond (Nat.beq i k) (((cellsA v).length = z.length ∧ cel v = true) ∧ bldOK zs (k + 1) ps) (bldOK zs (k + 1) ((i, v) :: ps))
def plc : List (List A) → Nat → List (Nat × Nat)
  | [], _ => []
  | z :: zs, o => (o, z.length) :: plc zs (o + z.length)

theorem fillA_bld {ps : List (Nat × Nat)} : ∀ (zs : List (List A)) (k : Nat) (done : List A) (parts : List (Nat × A)), (∀ i x, (plc zs done.length)[i]? = some x → ps[k + i]? = some x) → bldOK zs k parts → FillA ps (done ++ zs.flatten) parts (done ++ bld zs k parts)
  | [], k, done, [], _, _ => by simp [FillA, bld]
  | [], _, _, _ :: _, _, h => h.elim
  | z :: zs, k, done, [], hp, h => by
    have := fillA_bld zs (k + 1) (done ++ z) [] (fun i x hx => by have := hp (i + 1) x (by simpa [plc] using hx); rw [show k + 1 + i = k + (i + 1) by omega]; exact this) (by cases zs <;> exact trivial)
    simpa [FillA, bld] using this
  | z :: zs, k, done, (i, v) :: parts, hp, h => by
    have hp' : ∀ (d : List A), d.length = done.length + z.length → ∀ i x, (plc zs d.length)[i]? = some x → ps[k + 1 + i]? = some x := fun d hd i x hx => by
      have := hp (i + 1) x (by rw [hd] at hx; simpa [plc] using hx); rw [show k + 1 + i = k + (i + 1) by omega]; exact this
    cases hb : Nat.beq i k with
    | true =>
      have hik := Nat.eq_of_beq_eq_true hb
      subst hik
      simp only [bldOK, hb, cond_true] at h
      obtain ⟨⟨h1, h2⟩, h3⟩ := h
      simp only [FillA, bld, hb, cond_true]
      refine ⟨done.length, z.length, hp 0 _ (by simp [plc]), h1, by simp, h2, ?_⟩
      have ih := fillA_bld zs (i + 1) (done ++ cellsA v) parts (hp' _ (by simp [h1])) h3
      have e : (done ++ (z :: zs).flatten).take done.length ++ cellsA v ++ (done ++ (z :: zs).flatten).drop (done.length + z.length) = done ++ cellsA v ++ zs.flatten := by
        simp [List.drop_append]
      rw [e]
      simpa using ih
    | false =>
      simp only [bldOK, hb, cond_false] at h
      have ih := fillA_bld zs (k + 1) (done ++ z) ((i, v) :: parts) (hp' _ (by simp)) h
      simp only [bld, hb, cond_false]
      simpa using ih

/-- A struct built, field by field. -/
theorem y_bld {t : TypeId} {size by' : Nat} {zero : List Value} {fs : List Field} {parts : List (Nat × Operand)} {pvs : List (Nat × A)} {ty : TypeId} {out : List A} (zs : List (List A)) (ht : TI P t size by' zero true) (hz : zero.all (·.oneCell') = true) (hu : P.underlying t = some (.struct fs.toArray))
    (hps : (fs.map fun f => (P.info? f.type).map fun i => (f.offset, i.size)) = (plc zs 0).map some) (hzs : zero.map evC = zs.flatten) (hp : evpsA E parts = some pvs) (hok : bldOK zs 0 pvs) (ho : bld zs 0 pvs = out) : YO P E st (.build t parts.toArray) ty (.ag out) := by
  refine y_build ht hz hu hps hp ?_
  have := fillA_bld (ps := plc zs 0) zs 0 [] pvs (fun i x hx => by simpa using hx) hok
  rw [hzs, ← ho]
  simpa using this

/-- An array built: every place written, elements of one cell. -/
theorem y_bldA {t e : TypeId} {len size by' by2 : Nat} {zero zero' : List Value} {agg : Bool} {parts : List (Nat × Operand)} {vs : List A} {ty : TypeId} (ht : TI P t len by' zero true) (hzl : zero.length = len) (hu : P.underlying t = some (.array len e)) (he : TI P e size by2 zero' agg) (hs : size = 1)
    (hp : pvA E parts 0 = some vs) (hlen : vs.length = len) (h1 : vs.all one = true) : YO P E st (.build t parts.toArray) ty (.ag vs) := by
  subst hs
  intro w0 X0 n β X a w hr
  have key : ∀ (parts : List (Nat × Operand)) (k : Nat) (vs : List A), pvA E parts k = some vs → vs.all one = true → ∃ us : List Value, evps (full a) parts = some (idxd (ones us) k) ∧ VS X w β vs us ∧ ∀ x ∈ us, x.oneCell' = true := by
    intro parts
    induction parts with
    | nil => intro k vs h _; simp only [pvA, Option.some.injEq] at h; subst h; exact ⟨[], rfl, VS_nil, (fun x hx => by cases hx)⟩
    | cons p r ih =>
      intro k vs h h1
      obtain ⟨i, x⟩ := p
      simp only [pvA] at h
      split at h
      · rename_i v vs' hik hx hrest
        simp only [Option.some.injEq] at h
        subst h
        simp only [List.all_cons, Bool.and_eq_true] at h1
        have : i = k := Nat.eq_of_beq_eq_true hik
        subst this
        obtain ⟨us, g1, g2, g3⟩ := ih (i + 1) vs' hrest h1.2
        obtain ⟨e1, e2⟩ := hr.evo hx
        exact ⟨a.eval x :: us, by simp only [evps, e1, g1, ones, idxd], VS_cons e2 g2, fun q hq => by rcases List.mem_cons.1 hq with rfl | hq; exact V_one h1.1 e2; exact g3 q hq⟩
      · cases h
  obtain ⟨us, g1, g2, g3⟩ := key parts 0 vs hp h1
  have hul := VS_len g2
  refine ⟨.agg us.toArray, by simp only [V]; exact ⟨us, rfl, g2, g3⟩, fun d pos aft g w' _ => ?_⟩
  obtain ⟨z, hz', hzc⟩ := ht.zeroValue w'
  have hfill : Instr.fill (fun i => some (i * 1, 1)) zero.toArray (idxd (ones us) 0) = some us.toArray := by
    have := fill_idxd 1 (ones us) 0 [] zero (ones_ok g3) (by simp) (by
      have : ∀ l : List Value, (ones l).length = l.length := fun l => by induction l with | nil => rfl | cons x l ih => simp [ones, ih]
      rw [this, hul, hlen, hzl]; simp)
    rw [List.nil_append, flat_ones] at this
    exact this
  have : (Instr.build t (idxd (ones us) 0).toArray).run P w' = .ok (.agg us.toArray) w' := by
    unfold Instr.build
    rw [Sem.run_bind, hz']
    simp only [Result.andThen_ok, hzc]
    rw [Sem.run_bind, run_underlying hu]
    simp only [Result.andThen_ok]
    rw [Sem.run_bind, he.sizeOf w']
    simp only [Result.andThen_ok, hfill]
    rfl
  have e : execOp a.eval ⟨d, .build t parts.toArray, ty, pos, aft, g⟩ = Next.value <$> Instr.build t (parts.toArray.map fun (i, x) => (i, a.eval x)) := by simp [execOp]
  have e0 : (parts.toArray.map fun (i, x) => (i, a.eval x)) = (idxd (ones us) 0).toArray := by rw [List.map_toArray, (full_rep a hr.defers).evps g1]
  rw [e, e0, Sem.run_map, this]
  rfl

/-- .. nothing written. -/
theorem y_bld0 {t e : TypeId} {len size sz by' by2 : Nat} {zero zero' : List Value} {agg : Bool} {ty : TypeId} {out : List A} (ht : TI P t sz by' zero true) (hz : zero.all (·.oneCell') = true) (hu : P.underlying t = some (.array len e)) (he : TI P e size by2 zero' agg) (ho : zero.map evC = out) : YO P E st (.build t ([] : List (Nat × Operand)).toArray) ty (.ag out) := by
  subst ho
  intro w0 X0 n β X a w hr
  refine ⟨.agg zero.toArray, by simp only [V]; exact ⟨zero, rfl, VS_evC zero, by simpa using hz⟩, fun d pos aft g w' _ => ?_⟩
  obtain ⟨z, hz', hzc⟩ := ht.zeroValue w'
  have : (Instr.build t #[]).run P w' = .ok (.agg zero.toArray) w' := by
    unfold Instr.build
    rw [Sem.run_bind, hz']
    simp only [Result.andThen_ok, hzc]
    rw [Sem.run_bind, run_underlying hu]
    simp only [Result.andThen_ok]
    rw [Sem.run_bind, he.sizeOf w']
    rfl
  simp only [execOp, List.map_toArray, List.map_nil]
  rw [Sem.run_bind, this]
  rfl

/-- A part of an array that nobody turns. -/
theorem y_cutfa {ty t e : TypeId} {x : Operand} {size by' len l h : Nat} {zero : List Value} {agg : Bool} {lo hi : Option Operand} {cs ds : List A} (k : Nat) (ht : P.underlying t = some (.array len e)) (he : TI P e size by' zero agg) (hx : ev E x = some (.fp cs)) (hml : len ≤ maxLen) (hlo : BndA E lo 0 l) (hhi : BndA E hi len h) (h1 : l ≤ h) (h2 : h ≤ len) (hll : len ≠ l)
    (hk : h - l = k) (hd : (cs.drop (l * size)).take (k * size) = ds) : YO P E st (.slice t x lo hi none) ty (.fz k ds) := by
  intro w0 X0 n β X a w hr
  subst hk; subst hd
  obtain ⟨g1, g2⟩ := hr.evo hx
  simp only [V] at g2
  obtain ⟨b, o, e1, e2⟩ := g2
  rw [e1] at g1
  refine ⟨.slice (some ⟨b, o + l * size, none⟩) (h - l) (len - l), ?_, hr.old fun w' _ => Eng.y_slicea _ _ _ ht he g1 (hlo.old hr) (hhi.old hr) h1 h2 ?_ rfl rfl⟩
  · simp only [V]
    exact ⟨some ⟨b, o + l * size, none⟩, len - l, rfl, by omega, by omega, (fun h => by cases h), (fun _ x hx => by cases hx; rfl), VM_take (VM_drop e2 _) _⟩
  · unfold ash
    rw [if_neg hll]
    simp [addr_add]

/-- 'copy' into a slice of the call's own, elements of one cell: all of the source fits. -/
theorem n_copy {d : Option Nat} {dT sT ty e : TypeId} {by' : Nat} {zero : List Value} {agg : Bool} {x y : Operand} {vy : A} {id off m k : Nat} {cs news cs' : List A} {pos aft g} (ht : P.underlying dT = some (.slice e)) (he : TI P e 1 by' zero agg) (hx : ev E x = some (.sl id 1 off m)) (hg : st.get id = some cs) (hy : ev E y = some vy) (hn : SM st vy = some (k, news)) (hnl : news.length = k)
    (hk0 : 0 < k) (hkm : k ≤ m) (hfit : off + k ≤ cs.length) (hcs : cs.take off ++ news ++ cs.drop (off + k) = cs') (hd : okDst n d = true) (h : At w0 X0 n (E.put d (.i .i64 (k : Int))) (st.put id cs') K) :
    At w0 X0 n E st (fun a w => (⟨d, .call { callee := .builtin .copy, args := #[x, y], argTypes := #[dT, sT] }, ty, pos, aft, g⟩ : Oper).wp P a w K Q) := by
  rintro a w ⟨β, X, hr⟩
  obtain ⟨e1, e2⟩ := hr.evo hx
  obtain ⟨e3, e4⟩ := hr.evo hy
  obtain ⟨ay, cy, nus, f1, f2, f3, f4⟩ := slice_cells (s := 1) hr.toRelQ e4 hn (by omega)
  have hsl := f4 w .refl
  have hnu := VS_len f2
  simp only [V] at e2
  rcases e2 with ⟨_, rfl, _⟩ | ⟨b, N, cap, hβ, e5, c1, c2, c3⟩
  · omega
  · have ho := hr.mem.obj id cs hg
    unfold OB at ho
    rw [hβ] at ho
    obtain ⟨p1, p2, us, rest, ety, p3, p4, p5, p6⟩ := ho
    have hul := VS_len p5
    have hax := hsl.addr hk0
    obtain ⟨⟨i, z, i1, i2, i3, i4, i5⟩, hu⟩ := he
    have hrun := run_copy_row (P := P) w dT sT ty e b off m cap ⟨ab ay, ao ay, none⟩ k cy (us ++ rest).toArray ety nus ht (by rw [i1]; simp [i3]) p3 (by rw [hnu, hnl]; exact (Nat.min_eq_left hkm).symm)
      (fun j u hj => by rw [addr_add]; exact hsl.cell j u hj) (by simp; omega) f3
    rw [← hax] at hrun
    have hlist : (us ++ rest).toArray.toList.take off ++ nus ++ (us ++ rest).toArray.toList.drop (off + nus.length) = (us.take off ++ nus ++ us.drop (off + nus.length)) ++ rest := by
      simp only []
      rw [List.take_append_of_le_length (by omega), List.drop_append_of_le_length (by omega)]
      simp
    rw [hlist] at hrun
    have hG := Eng.Good.setRow (gd_one p3) 0 (cs := us ++ rest) rfl ((us.take off ++ nus ++ us.drop (off + nus.length)) ++ rest)
    simp only [List.set_cons_zero] at hG
    obtain ⟨hm1, hx1⟩ := hr.mem.write (cs' := cs') hg hβ hG (by simp only [List.length_append, List.length_take, List.length_drop]; omega)
      (by rw [← hcs, hnu, hnl]; exact VS_app (VS_app (VS_take p5 off) f2) (VS_drop p5 _))
      (by intro q hq; simp only [List.mem_append] at hq; rcases hq with (hq | hq) | hq; exact p6 q (List.mem_of_mem_take hq); exact f3 q hq; exact p6 q (List.mem_of_mem_drop hq))
    have hexec : (execOp a.eval ⟨d, .call { callee := .builtin .copy, args := #[x, y], argTypes := #[dT, sT] }, ty, pos, aft, g⟩).run P w = .ok (.value (goInt nus.length)) (w.setRow b (us.take off ++ nus ++ us.drop (off + nus.length) ++ rest).toArray) := by
      have h1 : execOp a.eval ⟨d, .call { callee := .builtin .copy, args := #[x, y], argTypes := #[dT, sT] }, ty, pos, aft, g⟩ = (do pure (.value (← Builtin.copy_ #[dT, sT] ty #[.slice (some ⟨b, off, none⟩) m cap, .slice ay k cy])) : Sem Next) := by
        simp only [execOp, resolve, List.map_toArray, List.map_cons, List.map_nil, e5, f1, pure_bind, invoke, builtin]
      rw [h1, Sem.run_bind, hrun]
      rfl
    unfold Oper.wp
    rw [hexec]
    refine h _ _ ⟨β, X, ?_⟩
    have hkk : goInt nus.length = .int .i64 (k : Int) := by rw [hnu, hnl]; rfl
    cases d with
    | none => exact hr.next0 (full_rep a hr.defers) hx1 (fun _ _ h => .inl h) (ExtB.refl β) hm1
    | some d => exact hr.putv hd hx1 (fun _ _ h => .inl h) (ExtB.refl β) hm1 (by rw [hkk]; simp only [V])
end
end Go.Abs
