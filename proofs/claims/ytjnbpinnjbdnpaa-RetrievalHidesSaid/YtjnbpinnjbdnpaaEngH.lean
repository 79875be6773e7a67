/-
  The engine, part H: regions that draw their order and whose head only looks, calls and makes memory, in whatever order: each slot is told by what holds of it, and what holds goes on holding while memory grows. Conditions: none; nothing of any program stands here.
-/
import Derived.Test.YtjnbpinnjbdnpaaEngG
import Derived.Lib.AppendZerosOnto
namespace Go.Eng
open Go

/-- What holds of a slot's value in a world. -/
abbrev Spec := Value → World → Prop
def isS (v : Value) : Spec := fun u _ => u = v
def anyS : Spec := fun _ _ => True
def lookS : List (Nat × Spec) → Nat → Spec
  | [], _ => anyS
  | (k, A) :: r, t => cond (Nat.beq k t) A (lookS r t)
def Stable (A : Spec) : Prop := ∀ u w w', A u w → RowKit.Below w.heap.size w w' → A u w'
theorem isS_stable (v : Value) : Stable (isS v) := fun _ _ _ h _ => h
theorem anyS_stable : Stable anyS := fun _ _ _ h _ => h
theorem lookS_stable : ∀ {l : List (Nat × Spec)}, (∀ p ∈ l, Stable p.2) → ∀ t, Stable (lookS l t)
  | [], _, _ => anyS_stable
  | (k, A) :: r, h, t => by
    unfold lookS
    cases Nat.beq k t with
    | true => exact h (k, A) (.head _)
    | false => exact lookS_stable (fun p hp => h p (.tail _ hp)) t
/-- Bytes that hold still. -/
def bytesS (l : List UInt8) : Spec := fun u w => ∃ s : SV, u = s.v ∧ Bytes w s l
theorem bytesS_stable (l : List UInt8) : Stable (bytesS l) := fun _ _ _ ⟨s, h1, h2⟩ hb => ⟨s, h1, h2.below hb⟩
def rowsS (ls : List (List UInt8)) : Spec := fun u w => ∃ (s : SV) (rs : List SV), u = s.v ∧ Rows w 0 s rs ls
theorem rowsS_stable (ls : List (List UInt8)) : Stable (rowsS ls) := fun _ _ _ ⟨s, rs, h1, h2⟩ hb => ⟨s, rs, h1, h2.below hb⟩

def dstAt (ops : Array Oper) (j : Nat) : Option Nat := (ops[j]?).bind (·.dst)

def freeB (md : Region.Mode) (ops : Array Oper) (n : Nat) : Bool :=
  Region.noSelect ops && decide (n < ops.size) && Region.sinkB md ops n && Region.chainB md ops n &&
  Region.seqB md ops (ops.size - n) n ((List.range ops.size).map fun i => decide (i < n)).toArray &&
  ((List.range n).all fun k => match ops[k]? with
    | none => false
    | some o => o.after.all (fun e => !Region.binds md e || decide (e.on < k)) &&
      ((List.range n).all fun j => match dstAt ops j with
        | none => true
        | some d => (!(o.looksAt ops).contains d || Region.waitsFor md ops k j) && (decide (j = k) || o.dst != some d)))

section
variable {P : Program} {ops : Array Oper} {md : Region.Mode} {N : Nat} {E : Env} {S : List World} {H : List (Nat × Obj)}

def opStep (P : Program) (ops : Array Oper) (A : Nat → Spec) (o : Oper) (a : Act) (w : World) : Prop :=
  if Region.wanted o (yielded ops a.tmps) then
    o.wp P a w (fun a' w' => a'.defers = [] ∧ RowKit.Below w.heap.size w w' ∧ ∀ d, o.dst = some d → A d (a'.tmps.getD d undef) w') noQ
  else ∀ d, o.dst = some d → A d undef w

def Obl (P : Program) (ops : Array Oper) (A : Nat → Spec) (N : Nat) (E : Env) (S : List World) (H : List (Nat × Obj)) (n : Nat) (o : Oper) : Prop :=
  ∀ a w, Rep N E a → Good S H w → (∀ t ∈ o.looksAt ops, (∃ j, j < n ∧ dstAt ops j = some t) → A t (a.tmps.getD t undef) w) → opStep P ops A o a w

theorem least {p : Nat → Bool} : ∀ m, (∃ i, i < m ∧ p i = true) → ∃ i, i < m ∧ p i = true ∧ ∀ j, j < i → p j = false
  | 0, ⟨i, hi, _⟩ => absurd hi (by omega)
  | m + 1, ⟨i, hi, hp⟩ => by
    by_cases h : ∃ i, i < m ∧ p i = true
    · obtain ⟨k, h1, h2, h3⟩ := least m h
      exact ⟨k, by omega, h2, h3⟩
    · have him : i = m := by
        rcases Nat.lt_or_ge i m with h1 | h1
        · exact absurd ⟨i, h1, hp⟩ h
        · omega
      subst him
      refine ⟨i, hi, hp, fun j hj => ?_⟩
      cases hpj : p j with
      | false => rfl
      | true => exact absurd ⟨j, hj, hpj⟩ h

structure FreeInv (ops : Array Oper) (A : Nat → Spec) (N : Nat) (E : Env) (S : List World) (H : List (Nat × Obj)) (n : Nat) (listed : Array Bool) (a : Act) (w : World) : Prop where
  rep : Rep N E a
  good : Good S H w
  spec : ∀ j d, j < n → dstAt ops j = some d → listed.getD j false = true → A d (a.tmps.getD d undef) w

theorem wpAny_free {n : Nat} {A : Nat → Spec} {Q : Exit → Act → World → Prop} (hst : ∀ d, Stable (A d)) (hB : freeB .any ops n = true) (hE : ∀ j d, j < n → dstAt ops j = some d → E.at? d = none ∧ d < N)
    (hob : ∀ k o, k < n → ops[k]? = some o → Obl P ops A N E S H n o)
    (hend : ∀ a w, Rep N E a → Good S H w → (∀ j d, j < n → dstAt ops j = some d → A d (a.tmps.getD d undef) w) → wpList P ops Q (ops.toList.drop n) a w) :
    ∀ (f : Nat) (L : List Nat) (listed : Array Bool) (a : Act) (w : World), L.length = f → L.Nodup → (∀ i, i ∈ L ↔ i < n ∧ listed.getD i true = false) → HeadInv .any ops n listed → FreeInv ops A N E S H n listed a w →
      wpAny P .any ops Q (f + (ops.size - n)) listed a w := by
  have hB' := hB
  unfold freeB at hB
  simp only [Bool.and_eq_true, decide_eq_true_eq] at hB
  obtain ⟨⟨⟨⟨⟨hsel, hn⟩, hs⟩, hc⟩, hseq⟩, hall⟩ := hB
  have hk : ∀ k o, k < n → ops[k]? = some o → (∀ e ∈ o.after, Region.binds .any e = true → e.on < k) ∧ (∀ j d, j < n → dstAt ops j = some d → (d ∈ o.looksAt ops → Region.waitsFor .any ops k j = true) ∧ (j ≠ k → o.dst ≠ some d)) := by
    intro k o hkn hko
    have h := List.all_eq_true.1 hall k (List.mem_range.2 hkn)
    simp only [hko, Bool.and_eq_true] at h
    refine ⟨fun e he hb => ?_, fun j d hj hd => ?_⟩
    · have := Array.all_eq_true_iff_forall_mem.1 h.1 e he
      simpa [hb] using this
    · have := List.all_eq_true.1 h.2 j (List.mem_range.2 hj)
      simp only [hd, Bool.and_eq_true, Bool.or_eq_true, Bool.not_eq_true', decide_eq_true_eq, bne_iff_ne] at this
      refine ⟨fun hm => ?_, fun hne => this.2.resolve_left hne⟩
      rcases this.1 with h1 | h1
      · rw [List.contains_eq_mem, decide_eq_false_iff_not] at h1
        exact absurd hm h1
      · exact h1
  intro f
  induction f with
  | zero =>
    intro L listed a w hL _ hmem hinv inv
    have hnil : L = [] := List.eq_nil_of_length_eq_zero hL
    subst hnil
    have hall' : ∀ i, i < n → listed.getD i true = true := fun i hi => by
      cases hg : listed.getD i true with
      | true => rfl
      | false => have := (hmem i).2 ⟨hi, hg⟩; cases this
    have htar : listed = ((List.range ops.size).map fun i => decide (i < n)).toArray := by
      apply Array.ext
      · simp [hinv.size]
      · intro i h1 h2
        have hsz : i < ops.size := by rw [← hinv.size]; exact h1
        simp only [List.getElem_toArray, List.getElem_map, List.getElem_range]
        by_cases hin : i < n
        · have := hall' i hin
          simp only [Array.getD, h1, dif_pos] at this
          rw [decide_eq_true hin]
          simpa using this
        · have := hinv.tail i (by omega) hsz
          simp only [Array.getD, h1, dif_pos] at this
          rw [decide_eq_false hin]
          simpa using this
    rw [Nat.zero_add]
    have hlen : (ops.toList.drop n).length = ops.size - n := by simp
    have := wpAny_of_seq (P := P) (md := .any) (ops := ops) (Q' := Q) (ops.toList.drop n) n listed a w (fun j => by rw [List.getElem?_drop]; simp) (by rw [hlen, htar]; exact hseq)
      (hend a w inv.rep inv.good fun j d hj hd => inv.spec j d hj hd (by
        have h1 := hall' j hj
        have hjs : j < listed.size := by rw [hinv.size]; omega
        simp [hjs] at h1 ⊢; exact h1))
    rwa [hlen] at this
  | succ f ih =>
    intro L listed a w hL hnd hmem hinv inv
    obtain ⟨i0, hi0⟩ : ∃ i, i ∈ L := by
      cases L with
      | nil => simp at hL
      | cons x r => exact ⟨x, .head _⟩
    obtain ⟨h01, h02⟩ := (hmem i0).1 hi0
    have hwait := tail_waits hs hc hn hinv _ i0 rfl h01 h02
    rw [show f + 1 + (ops.size - n) = (f + (ops.size - n)) + 1 by omega]
    refine ⟨fun hnone => ?_, fun i hi => ?_⟩
    · obtain ⟨m, hm1, hm2, hm3⟩ := least (p := fun i => !listed.getD i true) n ⟨i0, h01, by simp only [h02, Bool.not_false]⟩
      have hmo : ∃ o, ops[m]? = some o := ⟨ops[m]'(by omega), by simp [show m < ops.size by omega]⟩
      obtain ⟨o, ho⟩ := hmo
      have : m ∈ Region.ready .any ops listed := mem_ready.2 ⟨by simpa using hm2, o, ho, fun e he hb => by
        have hlt := (hk m o hm1 ho).1 e he hb
        have := hm3 e.on hlt
        have hes : e.on < listed.size := by rw [hinv.size]; omega
        simp [hes] at this ⊢; exact this⟩
      rw [hnone] at this
      cases this
    · obtain ⟨hiun, o, ho, hpre⟩ := mem_ready.1 hi
      have hin : i < n := by
        rcases Nat.lt_or_ge i n with h | h
        · exact h
        · exact absurd hi (hwait i h)
      have hob' := hob i o hin ho a w inv.rep inv.good (fun t ht ⟨j, hj, hd⟩ => inv.spec j t hj hd (by
        have hw := ((hk i o hin ho).2 j t hj hd).1 ht
        obtain ⟨o', ho', e, he, hb, hon⟩ := Region.waitsFor_spec hw
        have : o' = o := Option.some.inj (ho'.symm.trans ho)
        subst this
        rw [← hon]
        exact hpre e he hb))
      have step : ∀ a' w', Alike o.dst a a' → a'.defers = [] → RowKit.Below w.heap.size w w' → (∀ d, o.dst = some d → A d (a'.tmps.getD d undef) w') →
          wpAny P .any ops Q (f + (ops.size - n)) (listed.setIfInBounds i true) a' w' := by
        intro a' w' hal hdf hbel hA
        have hdst : dstAt ops i = o.dst := by simp [dstAt, ho]
        refine ih (L.erase i) _ _ _ ?_ (hnd.erase i) ?_ (hinv.set hi hin) ⟨?_, inv.good.ext hbel, ?_⟩
        · rw [List.length_erase_of_mem ((hmem i).2 ⟨hin, hiun⟩), hL]; rfl
        · intro j
          rw [hnd.mem_erase_iff, hmem]
          constructor
          · rintro ⟨h1, h2, h3⟩
            exact ⟨h2, by rw [getD_set_ne true (Ne.symm h1)]; exact h3⟩
          · rintro ⟨h1, h2⟩
            by_cases hji : j = i
            · subst hji
              have hlt : j < listed.size := by rw [hinv.size]; omega
              simp [hlt] at h2
            · rw [getD_set_ne true (Ne.symm hji)] at h2
              exact ⟨hji, h1, h2⟩
        · obtain ⟨u, ds, rfl⟩ := hal
          refine ⟨?_, hdf, fun t v ht => ?_⟩
          · cases hd : o.dst <;> simp [Act.put, inv.rep.size]
          · have h1 := inv.rep.slot t v ht
            cases hd : o.dst with
            | none => simpa [Act.put, hd] using h1
            | some d =>
              have hne : d ≠ t := by
                intro e
                subst e
                rw [(hE i d hin (by rw [hdst, hd])).1] at ht
                cases ht
              simp only [Act.put]
              rw [Array.getElem?_setIfInBounds_ne hne]
              exact h1
        · intro j d hj hd hl
          by_cases hji : j = i
          · subst hji
            exact hA d (by rw [← hdst]; exact hd)
          · rw [getD_set_ne false (Ne.symm hji)] at hl
            have hold := hst d _ _ _ (inv.spec j d hj hd hl) hbel
            have hne := ((hk i o hin ho).2 j d hj hd).2 hji
            obtain ⟨u, ds, rfl⟩ := hal
            cases hd' : o.dst with
            | none => simpa [Act.put, hd'] using hold
            | some d' =>
              have : d' ≠ d := fun e => hne (by rw [hd', e])
              simp only [Act.put]
              have e1 : (a.tmps.setIfInBounds d' u).getD d undef = a.tmps.getD d undef := by
                simp only [Array.getD_eq_getD_getElem?]
                rw [Array.getElem?_setIfInBounds_ne this]
              rw [e1]
              exact hold
      unfold wpOp
      simp only [ho]
      unfold opStep at hob'
      split
      · rename_i hw
        rw [if_pos hw] at hob'
        refine .inl (Oper.wp_mono ?_ (wp_toQ (wp_alike hob')))
        rintro a' w' ⟨⟨h1, h2, h3⟩, h4⟩
        exact step a' w' h4 h1 h2 h3
      · rename_i hw
        rw [if_neg hw] at hob'
        refine step _ w (alike_put a o.dst undef) ?_ (by exact ⟨rfl, rfl, rfl, Nat.le_refl _, fun _ _ => rfl⟩) ?_
        · cases hd : o.dst <;> simp [Act.put, inv.rep.defers]
        · intro d hd
          have := hob' d hd
          have hlt : d < N := (hE i d hin (by simp [dstAt, ho, hd])).2
          have hsz : d < a.tmps.size := by rw [inv.rep.size]; exact hlt
          rw [hd]
          simp only [Act.put]
          have e1 : (a.tmps.setIfInBounds d undef).getD d undef = undef := by simp [hsz]
          rw [e1]
          exact this
end
end Go.Eng
