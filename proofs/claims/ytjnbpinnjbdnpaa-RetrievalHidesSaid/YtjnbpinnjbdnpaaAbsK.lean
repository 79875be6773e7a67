/-
  The second engine, part K: what is done only under a word that is not known: 'a || b', 'a && b'. Conditions: none; nothing of any program stands here.
-/
import Derived.Test.YtjnbpinnjbdnpaaAbsJ
namespace Go.Abs
open Go Go.Eng

/-- A run of operations under one guard. -/
inductive GRun (P : Program) (ops : Array Oper) (n : Nat) (Eb : Ev) (st : St) (j : Nat) (want : Bool) : Ev → List Oper → Ev → List Oper → Prop where
  | done {E l} : GRun P ops n Eb st j want E l E l
  | step {E F : Ev} {d : Nat} {op : Op} {ty : TypeId} {pos : String} {aft : Array Edge} {v : A} {l rest : List Oper} (hy : YO P E st op ty v) (hd : Nat.ble (d + 1) n = true) (hf : Eb.at? d = none) (h : GRun P ops n Eb st j want ((d, v) :: E) l F rest) :
      GRun P ops n Eb st j want E (⟨some d, op, ty, pos, aft, some (j, want)⟩ :: l) F rest

section
variable {r : Option Nat} {ds0 : List Nat}
variable {P : Program} {w0 : Bw} {X0 : Xs} {n : Nat} {E Eb F : Ev} {st : St} {ops : Array Oper} {Q : Exit → Act → World → Prop} {j t : Nat} {want : Bool} {l rest : List Oper}

theorem gr_yes (hj : guardSlot ops j = some t) (ht : Eb.at? t = some (.b want)) (h : GRun P ops n Eb st j want E l F rest) : E.at? t = some (.b want) → At w0 X0 n F st (Pw ds0 (wpListIn (rF r) 0 P ops Q rest)) → At w0 X0 n E st (Pw ds0 (wpListIn (rF r) 0 P ops Q l)) := by
  induction h with
  | done => exact fun _ h => h
  | @step E F d op ty pos aft v l rest hy hd hf h ih =>
    intro hE hK
    have hdt : d ≠ t := fun e => by subst e; rw [hf] at ht; cases ht
    refine g1 hj hE hy hd (ih ?_ hK)
    simp only [Ev.at?]
    rw [show Nat.beq d t = false from (by cases hb : Nat.beq d t with | false => rfl | true => exact absurd (Nat.eq_of_beq_eq_true hb) hdt)]
    exact hE
/-- The first operations stand under one guard, their slots are new. -/
def skipB (j : Nat) (want : Bool) (Eb : Ev) (n : Nat) : Nat → List Oper → Bool
  | 0, _ => true
  | _ + 1, [] => false
  | k + 1, o :: r => match o.dst, o.guard with
    | some d, some (j', w) => Nat.beq j j' && (w == want) && Nat.ble (d + 1) n && (Eb.at? d).isNone && skipB j want Eb n k r
    | _, _ => false
theorem sk_no (hj : guardSlot ops j = some t) (ht : Eb.at? t = some (.b (!want))) : ∀ (k : Nat) (l : List Oper) (E1 : Ev), skipB j want Eb n k l = true → (∀ s v, Eb.at? s = some v → E1.at? s = some v) → At w0 X0 n Eb st (Pw ds0 (wpListIn (rF r) 0 P ops Q (l.drop k))) → At w0 X0 n E1 st (Pw ds0 (wpListIn (rF r) 0 P ops Q l))
  | 0, l, E1, _, hl, hK => fun a w hr => hK a w (hr.weaken hl (fun _ _ h => h) (fun _ h => h))
  | k + 1, [], _, h, _, _ => by cases h
  | k + 1, o :: r, E1, h, hl, hK => by
    simp only [skipB] at h
    split at h
    · rename_i d j' w hd hg
      simp only [Bool.and_eq_true, beq_iff_eq, Option.isNone_iff_eq_none] at h
      obtain ⟨⟨⟨⟨h1, h2⟩, h3⟩, h4⟩, h5⟩ := h
      have h1 := Nat.eq_of_beq_eq_true (by simpa using h1 : Nat.beq j j' = true)
      have h2 := h2.symm
      subst h1; subst h2
      obtain ⟨d', op, ty, pos, aft, g⟩ := o
      simp only at hd hg
      subst hd; subst hg
      refine g0 (b := want) (b' := !want) hj (hl _ _ ht) rfl h3 (sk_no hj ht k r _ h5 (fun s v hs => ?_) hK)
      simp only [Ev.at?]
      cases hb : Nat.beq d s with
      | true => rw [← Nat.eq_of_beq_eq_true hb, h4] at hs; cases hs
      | false => exact hl s v hs
    · cases h

theorem lev_cons {d : Nat} {v : A} (hf : Eb.at? d = none) : ∀ s u, Eb.at? s = some u → Ev.at? ((d, v) :: Eb) s = some u := fun s u hs => by
  simp only [Ev.at?]
  cases hb : Nat.beq d s with
  | true => rw [← Nat.eq_of_beq_eq_true hb, hf] at hs; cases hs
  | false => exact hs
theorem gr_lev (h : GRun P ops n Eb st j want E l F rest) : (∀ s u, Eb.at? s = some u → E.at? s = some u) → ∀ s u, Eb.at? s = some u → F.at? s = some u := by
  induction h with
  | done => exact fun h => h
  | @step E F d op ty pos aft v l rest hy hd hf h ih =>
    intro hl
    refine ih fun s u hs => ?_
    simp only [Ev.at?]
    cases hb : Nat.beq d s with
    | true => rw [← Nat.eq_of_beq_eq_true hb, hf] at hs; cases hs
    | false => exact hl s u hs

variable {d : Nat} {ty : TypeId} {pos : String} {aft : Array Edge} {x y : Operand} {b c : Bool}
theorem gr_end {E' : Ev} {u : A} {K : Act → World → Prop} (hF : ∀ s v, E.at? s = some v → E'.at? s = some v) (h : At w0 X0 n ((d, u) :: E) st K) : At w0 X0 n ((d, u) :: E') st K := fun a w hr =>
  h a w (hr.weaken (fun s v hs => by
    simp only [Ev.at?] at hs ⊢
    cases hb : Nat.beq d s with
    | true => rw [hb] at hs; exact hs
    | false => rw [hb] at hs; exact hF s v hs) (fun _ _ h => h) (fun _ h => h))
/-- 'a || b'. -/
theorem g_or (k : Nat) (hj : guardSlot ops j = some t) (ht : E.at? t = some (.b b)) (hB : skipB j false E n k l = true) (hl : l.drop k = ⟨some d, .pick (.tmp t) (.const (.bool true)) y, ty, pos, aft, none⟩ :: rest)
    (hrun : b = false → GRun P ops n E st j false E l F (l.drop k)) (hy : ev F y = some (.b c)) (hd : Nat.ble (d + 1) n = true)
    (h : At w0 X0 n ((d, .b (b || c)) :: E) st (Pw ds0 (wpListIn (rF r) 0 P ops Q rest))) : At w0 X0 n E st (Pw ds0 (wpListIn (rF r) 0 P ops Q l)) := by
  cases b with
  | true =>
    refine sk_no (want := false) hj ht k l E hB (fun _ _ h => h) ?_
    rw [hl]
    refine s1 (v := .b true) (y_p ?_) hd h
    have e : ev E (.tmp t) = some (.b true) := ht
    simp only [pevA, e]
    rfl
  | false =>
    have hg := hrun rfl
    have hlv := gr_lev hg (fun _ _ h => h)
    refine gr_yes hj ht hg ht ?_
    rw [hl]
    refine s1 (v := .b c) (y_p ?_) hd (gr_end hlv h)
    have e : ev F (.tmp t) = some (.b false) := hlv _ _ ht
    simp only [pevA, e, hy]
/-- 'a && b'. -/
theorem g_and (k : Nat) (hj : guardSlot ops j = some t) (ht : E.at? t = some (.b b)) (hB : skipB j true E n k l = true) (hl : l.drop k = ⟨some d, .pick (.tmp t) y (.const (.bool false)), ty, pos, aft, none⟩ :: rest)
    (hrun : b = true → GRun P ops n E st j true E l F (l.drop k)) (hy : ev F y = some (.b c)) (hd : Nat.ble (d + 1) n = true)
    (h : At w0 X0 n ((d, .b (b && c)) :: E) st (Pw ds0 (wpListIn (rF r) 0 P ops Q rest))) : At w0 X0 n E st (Pw ds0 (wpListIn (rF r) 0 P ops Q l)) := by
  cases b with
  | false =>
    refine sk_no (want := true) hj ht k l E hB (fun _ _ h => h) ?_
    rw [hl]
    refine s1 (v := .b false) (y_p ?_) hd h
    have e : ev E (.tmp t) = some (.b false) := ht
    simp only [pevA, e]
    rfl
  | true =>
    have hg := hrun rfl
    have hlv := gr_lev hg (fun _ _ h => h)
    refine gr_yes hj ht hg ht ?_
    rw [hl]
    refine s1 (v := .b c) (y_p ?_) hd (gr_end hlv h)
    have e : ev F (.tmp t) = some (.b true) := hlv _ _ ht
    simp only [pevA, e, hy]
end
end Go.Abs
