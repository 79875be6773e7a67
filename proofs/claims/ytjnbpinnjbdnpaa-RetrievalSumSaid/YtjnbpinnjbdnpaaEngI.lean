/-
  The engine, part I: free regions step by step, zeros appended, structs built. Conditions: none; nothing of any program stands here.
-/
import Derived.Test.YtjnbpinnjbdnpaaEngH
namespace Go.Eng
open Go

section
variable {P : Program} {ops : Array Oper} {N : Nat} {E : Env} {S : List World} {H : List (Nat × Obj)} {Q : Exit → Act → World → Prop}

/-- A proposition on frame and world, at all that the lists describe, and where of some slots something holds. -/
def AtF (N : Nat) (E : Env) (S : List World) (H : List (Nat × Obj)) (F : List (Nat × Spec)) (K : Act → World → Prop) : Prop :=
  ∀ a w, Rep N E a → Good S H w → (∀ p ∈ F, p.2 (a.tmps.getD p.1 undef) w) → K a w

theorem af_nil {K} (h : At N E S H K) : AtF N E S H [] K := fun a w hR hG _ => h a w hR hG

theorem Rep.know {a : Act} {t : Nat} {v : Value} (h : Rep N E a) (ht : Nat.ble (t + 1) N = true) (hv : a.tmps.getD t undef = v) : Rep N ((t, v) :: E) a := by
  refine ⟨h.size, h.defers, fun s u hs => ?_⟩
  simp only [Env.at?] at hs
  cases hb : Nat.beq t s with
  | true =>
    rw [hb] at hs
    have : t = s := Nat.eq_of_beq_eq_true hb
    subst this
    simp only [cond_true, Option.some.injEq] at hs
    subst hs
    have hlt : t < a.tmps.size := by rw [h.size]; exact Nat.le_of_ble_eq_true ht
    rw [← hv]
    simp [hlt]
  | false =>
    rw [hb] at hs
    exact h.slot s u hs

theorem af_is {t : Nat} {v : Value} {F K} (ht : Nat.ble (t + 1) N = true) (h : AtF N ((t, v) :: E) S H F K) : AtF N E S H ((t, isS v) :: F) K := fun a w hR hG hF =>
  h a w (hR.know ht (hF (t, isS v) (.head _))) hG fun p hp => hF p (.tail _ hp)

theorem af_any {t : Nat} {F K} (h : AtF N E S H F K) : AtF N E S H ((t, anyS) :: F) K := fun a w hR hG hF => h a w hR hG fun p hp => hF p (.tail _ hp)

theorem af_bytes {t : Nat} {l : List UInt8} {F K} (ht : Nat.ble (t + 1) N = true) (h : ∀ (w0 : World) (s : SV), Good S H w0 → Bytes w0 s l → AtF N ((t, s.v) :: E) (w0 :: S) H F K) : AtF N E S H ((t, bytesS l) :: F) K := fun a w hR hG hF => by
  obtain ⟨s, h1, h2⟩ := hF (t, bytesS l) (.head _)
  exact h w s hG h2 a w (hR.know ht h1) hG.now fun p hp => hF p (.tail _ hp)

theorem af_rows {t : Nat} {ls : List (List UInt8)} {F K} (ht : Nat.ble (t + 1) N = true) (h : ∀ (w0 : World) (s : SV) (rs : List SV), Good S H w0 → Rows w0 0 s rs ls → AtF N ((t, s.v) :: E) (w0 :: S) H F K) : AtF N E S H ((t, rowsS ls) :: F) K := fun a w hR hG hF => by
  obtain ⟨s, rs, h1, h2⟩ := hF (t, rowsS ls) (.head _)
  exact h w s rs hG h2 a w (hR.know ht h1) hG.now fun p hp => hF p (.tail _ hp)

def stepB (P : Program) (ops : Array Oper) (B : Spec) (o : Oper) (a : Act) (w : World) : Prop :=
  if Region.wanted o (yielded ops a.tmps) then
    o.wp P a w (fun a' w' => a'.defers = [] ∧ RowKit.Below w.heap.size w w' ∧ ∀ d, o.dst = some d → B (a'.tmps.getD d undef) w') noQ
  else ∀ d, o.dst = some d → B undef w

def Obls (P : Program) (ops : Array Oper) (N : Nat) (E : Env) (S : List World) (H : List (Nat × Obj)) : List Oper → List (List (Nat × Spec) × Spec) → Prop
  | [], _ => True
  | _ :: _, [] => False
  | o :: r, (F, B) :: s => AtF N E S H F (stepB P ops B o) ∧ Obls P ops N E S H r s

def specOf (L : List (Nat × Spec)) : Option Nat → Spec
  | some d => lookS L d
  | none => anyS

def entsOf (L : List (Nat × Spec)) : List Oper → List (List Nat) → List (List (Nat × Spec) × Spec)
  | o :: r, ts :: s => (ts.map fun t => (t, lookS L t), specOf L o.dst) :: entsOf L r s
  | _, _ => []

def lookB (ops : Array Oper) (n : Nat) : List Oper → List (List Nat) → Bool
  | [], _ => true
  | _ :: _, [] => false
  | o :: r, ts :: s => (ts.all fun t => (o.looksAt ops).contains t && (List.range n).any fun j => dstAt ops j == some t) && lookB ops n r s

theorem obls_get (L : List (Nat × Spec)) (n : Nat) : ∀ (l : List Oper) (tss : List (List Nat)), lookB ops n l tss = true → Obls P ops N E S H l (entsOf L l tss) → ∀ (k : Nat) (o : Oper), l[k]? = some o → Obl P ops (lookS L) N E S H n o
  | [], _, _, _, k, o, h => by simp at h
  | _ :: _, [], h, _, _, _, _ => by simp [lookB] at h
  | o :: r, ts :: s, hl, hob, k, o', hk => by
    simp only [lookB, Bool.and_eq_true] at hl
    simp only [entsOf, Obls] at hob
    cases k with
    | succ k => exact obls_get L n r s hl.2 hob.2 k o' (by simpa using hk)
    | zero =>
      simp only [List.getElem?_cons_zero, Option.some.injEq] at hk
      subst hk
      intro a w hR hG hA
      have := hob.1 a w hR hG (fun p hp => by
        obtain ⟨t, ht, rfl⟩ := List.mem_map.1 hp
        have h1 := List.all_eq_true.1 hl.1 t ht
        simp only [Bool.and_eq_true] at h1
        obtain ⟨j, hj, hd⟩ := List.any_eq_true.1 h1.2
        exact hA t (by simpa using h1.1) ⟨j, by simpa using hj, by simpa using hd⟩)
      unfold stepB at this
      unfold opStep
      split
      · rename_i hw
        rw [if_pos hw] at this
        refine Oper.wp_mono ?_ this
        rintro a' w' ⟨g1, g2, g3⟩
        refine ⟨g1, g2, fun d hd => ?_⟩
        have := g3 d hd
        rw [hd] at this
        exact this
      · rename_i hw
        rw [if_neg hw] at this
        intro d hd
        have := this d hd
        rw [hd] at this
        exact this

def envB (ops : Array Oper) (E : Env) (N n : Nat) : Bool :=
  (List.range n).all fun j => match dstAt ops j with
    | some d => (E.at? d).isNone && Nat.ble (d + 1) N
    | none => true

/-- A region that draws its order: a head that looks, calls and makes memory in any order, and a tail in the text's order. -/
theorem at_free {id : Nat} {l : List Oper} (L : List (Nat × Spec)) (tss : List (List Nat)) (ents : List (List (Nat × Spec) × Spec)) (ks : List Nat) (Fe : List (Nat × Spec)) (k : Nat) (hm : P.follows .mixedOrders = true) (hst : ∀ p ∈ L, Stable p.2)
    (hB : freeB .any l.toArray k = true) (hE : envB l.toArray E N k = true) (hL : lookB l.toArray k (l.take k) tss = true) (he : ents = entsOf L (l.take k) tss)
    (hks : (ks.all fun t => (List.range k).any fun j => dstAt l.toArray j == some t) = true) (hFe : Fe = ks.map fun t => (t, lookS L t))
    (hob : Obls P l.toArray N E S H (l.take k) ents) (hend : AtF N E S H Fe (wpList P l.toArray Q (l.drop k))) : At N E S H ((Code.region id l.toArray true).wp P Q) := by
  intro a w hR hG
  refine wp_region_any hm ?_
  have hn : k < l.length := by
    unfold freeB at hB
    simp only [Bool.and_eq_true, decide_eq_true_eq] at hB
    simpa using hB.1.1.1.1.2
  have hgo := wpAny_free (P := P) (ops := l.toArray) (N := N) (E := E) (S := S) (H := H) (n := k) (A := lookS L) (Q := Q) (lookS_stable hst) hB (fun j d hj hd => by
      have := List.all_eq_true.1 hE j (List.mem_range.2 hj)
      simp only [hd, Bool.and_eq_true, Option.isNone_iff_eq_none] at this
      exact ⟨this.1, Nat.le_of_ble_eq_true this.2⟩)
    (fun j o hj ho => obls_get L k (l.take k) tss hL (he ▸ hob) j o (by rw [List.getElem?_take, if_pos hj]; simpa using ho))
    (fun a w hR hG hA => by
      have := hend a w hR hG (fun p hp => by
        subst hFe
        obtain ⟨t, ht, rfl⟩ := List.mem_map.1 hp
        obtain ⟨j, hj, hd⟩ := List.any_eq_true.1 (List.all_eq_true.1 hks t ht)
        exact hA j t (by simpa using hj) (by simpa using hd))
      simpa using this)
    k (List.range k) (Array.replicate l.toArray.size false) a { w with drawn := w.drawn + 1 } (by simp) List.nodup_range
    (fun i => by
      rw [List.mem_range]
      constructor
      · intro hi
        refine ⟨hi, ?_⟩
        have : i < l.length := by omega
        simp [this]
      · exact fun h => h.1)
    ⟨by simp, fun j oj _ hl => (by rw [getD_replicate_false] at hl; cases hl), fun t _ ht => getD_in (by simpa using ht) (getD_replicate_false _ _)⟩
    ⟨hR, hG.drew, fun j d _ _ hl => by rw [getD_replicate_false] at hl; cases hl⟩
  rw [show k + (l.toArray.size - k) = l.toArray.size by simp; omega] at hgo
  exact hgo

/-- One that only looks. -/
theorem ob_y {d : Nat} {op : Op} {ty : TypeId} {pos : String} {aft : Array Edge} {v : Value} {B : Spec} (hy : YO P N E S H op ty v) (hd : Nat.ble (d + 1) N = true) (hB : ∀ w, Good S H w → B v w) :
    AtF N E S H [] (stepB P ops B ⟨some d, op, ty, pos, aft, none⟩) := by
  intro a w hR hG _
  unfold stepB
  rw [if_pos (by simp [Region.wanted])]
  unfold Oper.wp
  rw [hy (some d) pos aft none a w hR hG]
  have hlt : d < a.tmps.size := by rw [hR.size]; exact Nat.le_of_ble_eq_true hd
  refine ⟨by simp [Act.put, hR.defers], ⟨rfl, rfl, rfl, Nat.le_refl _, fun _ _ => rfl⟩, fun e he => ?_⟩
  cases he
  have : (a.put (some d) v).tmps.getD d undef = v := by simp [Act.put, hlt]
  rw [this]
  exact hB w hG

theorem ob_yg {d j t : Nat} {b : Bool} {op : Op} {ty : TypeId} {pos : String} {aft : Array Edge} {v : Value} {B : Spec} (hj : guardSlot ops j = some t) (hb : E.at? t = some (.bool b)) (hy : YO P N E S H op ty v) (hd : Nat.ble (d + 1) N = true) (hB : ∀ w, Good S H w → B v w) :
    AtF N E S H [] (stepB P ops B ⟨some d, op, ty, pos, aft, some (j, b)⟩) := by
  intro a w hR hG _
  unfold stepB
  rw [if_pos (by simp [Region.wanted, hR.yields hj hb])]
  unfold Oper.wp
  rw [hy (some d) pos aft (some (j, b)) a w hR hG]
  have hlt : d < a.tmps.size := by rw [hR.size]; exact Nat.le_of_ble_eq_true hd
  refine ⟨by simp [Act.put, hR.defers], ⟨rfl, rfl, rfl, Nat.le_refl _, fun _ _ => rfl⟩, fun e he => ?_⟩
  cases he
  have : (a.put (some d) v).tmps.getD d undef = v := by simp [Act.put, hlt]
  rw [this]
  exact hB w hG

/-- One whose guard says no. -/
theorem ob_no {d j t : Nat} {b b' : Bool} {op : Op} {ty : TypeId} {pos : String} {aft : Array Edge} {B : Spec} (hj : guardSlot ops j = some t) (hb : E.at? t = some (.bool b')) (hn : b' = !b) (hB : ∀ w, Good S H w → B undef w) :
    AtF N E S H [] (stepB P ops B ⟨some d, op, ty, pos, aft, some (j, b)⟩) := by
  intro a w hR hG _
  subst hn
  unfold stepB
  rw [if_neg (by simp [Region.wanted, hR.yields hj hb])]
  exact fun _ _ => hB w hG

/-- What a loud one leaves. -/
def leftB (w0 : World) (B : Spec) (d : Option Nat) (a' : Act) (w' : World) : Prop := a'.defers = [] ∧ RowKit.Below w0.heap.size w0 w' ∧ ∀ e, d = some e → B (a'.tmps.getD e undef) w'

theorem ob_n {o : Oper} {B : Spec} (hg : o.guard = none) (h : ∀ w0, Good S H w0 → At N E (w0 :: S) H (fun a w => o.wp P a w (leftB w0 B o.dst) noQ)) : AtF N E S H [] (stepB P ops B o) := by
  intro a w hR hG _
  unfold stepB
  rw [if_pos (by simp [Region.wanted, hg])]
  exact h w hG a w hR hG.now

theorem ob_ng {o : Oper} {B : Spec} {j t : Nat} {b : Bool} (hg : o.guard = some (j, b)) (hj : guardSlot ops j = some t) (hb : E.at? t = some (.bool b)) (h : ∀ w0, Good S H w0 → At N E (w0 :: S) H (fun a w => o.wp P a w (leftB w0 B o.dst) noQ)) :
    AtF N E S H [] (stepB P ops B o) := by
  intro a w hR hG _
  unfold stepB
  rw [if_pos (by simp [Region.wanted, hg, hR.yields hj hb])]
  exact h w hG a w hR hG.now

theorem ob_end {w0 : World} {B : Spec} {d : Nat} {v : Value} (hd : E.at? d = some v) (h : ∀ w', Good S H w' → RowKit.Below w0.heap.size w0 w' ∧ B v w') : At N E S H (leftB w0 B (some d)) := by
  intro a w hR hG
  obtain ⟨h1, h2⟩ := h w hG
  refine ⟨hR.defers, h1, fun e he => ?_⟩
  cases he
  have := hR.slot d v hd
  have e1 : a.tmps.getD d undef = v := by simp [this]
  rw [e1]
  exact h2

/-- Between two worlds that both bear the own blocks only new memory lies. -/
theorem Good.belowH {H' : List (Nat × Obj)} {S' : List World} {w0 w' : World} (h : Good S H w0) (h' : Good S' H' w') (hs : w0 ∈ S') (hk : ∀ p ∈ H', p ∈ H ∨ w0.heap.size ≤ p.1) : RowKit.Below w0.heap.size w0 w' := by
  have k := h'.snap w0 hs
  refine ⟨k.os, k.tape, k.output, k.size, fun i hi => ?_⟩
  by_cases hm : ∃ p ∈ H', p.1 = i
  · obtain ⟨p, hp, rfl⟩ := hm
    rcases hk p hp with h1 | h1
    · rw [h'.own p hp, h.own p h1]
    · omega
  · exact k.blk i hi fun p hp e => hm ⟨p, hp, e⟩

/-- All own blocks are given up. -/
theorem Good.clear {S' : List World} {w : World} (h : Good S H w) (hs : ∀ s ∈ S', s ∈ S ∧ ∀ p ∈ H, s.heap.size ≤ p.1) : Good S' [] w :=
  h.forget (fun s hs' => (hs s hs').1) (List.nil_sublist _) fun s hs' p hp _ => (hs s hs').2 p hp

theorem Good.lit {w : World} (h : Good S H w) (i : Nat) {b : Nat} {e : TypeId} {xs : List Value} (hi : H[i]? = some (b, row e xs)) (hm : xs.length ≤ maxLen) : Sl w 1 (some ⟨b, 0, none⟩) xs.length xs.length xs := by
  have := Sl.own (s := 1) (n := xs.length) (cap := xs.length) (h.block i hi) (Nat.le_refl _) hm (by omega)
  rwa [Nat.mul_one, List.take_length] at this

/-- A struct of which some fields are written. -/
theorem y_build {t : TypeId} {size by' zero} {fs : List Field} {ps : List (Nat × Nat)} {parts : List (Nat × Operand)} {pvs : List (Nat × Value)} {ty : TypeId} (out : List Value) (ht : TI P t size by' zero true) (hu : P.underlying t = some (.struct fs.toArray))
    (hps : (fs.map fun f => (P.info? f.type).map fun i => (f.offset, i.size)) = ps.map some) (hp : evps E parts = some pvs) (hfill : Instr.fill (fun i => ps.toArray[i]?) zero.toArray pvs = some out.toArray) :
    YO P N E S H (.build t parts.toArray) ty (.agg out.toArray) := by
  intro d pos aft g a w hR hG
  obtain ⟨z, hz, hzc⟩ := ht.zeroValue w
  have hrun : ∀ (fs : List Field) (ps : List (Nat × Nat)), (fs.map fun f => (P.info? f.type).map fun i => (f.offset, i.size)) = ps.map some → (fs.mapM fun f => (do pure (f.offset, ← sizeOf f.type) : Sem (Nat × Nat))).run P w = .ok ps w := by
    intro fs
    induction fs with
    | nil => intro ps h; cases ps with
      | nil => simp
      | cons _ _ => simp at h
    | cons f r ih =>
      intro ps h
      cases ps with
      | nil => simp at h
      | cons p q =>
        simp only [List.map_cons, List.cons.injEq] at h
        obtain ⟨i, hi, hpe⟩ := Option.map_eq_some_iff.1 h.1
        subst hpe
        simp only [List.mapM_cons, Sem.run_bind]
        have e1 : (sizeOf f.type).run P w = .ok i.size w := by simp [sizeOf, typeInfo, hi]
        rw [e1]
        simp only [Result.andThen_ok, Sem.run_pure]
        rw [ih q h.2]
        rfl
  have : (Instr.build t pvs.toArray).run P w = .ok (.agg out.toArray) w := by
    unfold Instr.build
    rw [Sem.run_bind, hz]
    simp only [Result.andThen_ok, hzc]
    rw [Sem.run_bind, run_underlying hu]
    simp only [Result.andThen_ok]
    rw [Sem.run_bind, List.mapM_toArray, Sem.run_map, hrun fs ps hps]
    show (match Instr.fill (fun i => ps.toArray[i]?) zero.toArray pvs with | some cells => (pure (.agg cells) : Sem Value) | _ => stuck "build: no such field, or a part of the wrong size").run P w = _
    rw [hfill]
    rfl
  have e : execOp a.eval ⟨d, .build t parts.toArray, ty, pos, aft, g⟩ = Next.value <$> Instr.build t (parts.toArray.map fun (i, x) => (i, a.eval x)) := by simp [execOp]
  have e0 : (parts.toArray.map fun (i, x) => (i, a.eval x)) = pvs.toArray := by rw [List.map_toArray, hR.evps hp]
  rw [e, e0, Sem.run_map, this]
  rfl

theorem zeroCells_one (z : Value) (k : Nat) : (Builtin.zeroCells #[z] k).toList = List.replicate k z := by
  apply List.ext_getElem
  · simp [Builtin.zeroCells]
  · intro i h1 h2
    simp [Builtin.zeroCells]
    have : i % 1 = 0 := Nat.mod_one i
    simp [this]

/-- append of so many zeros onto a literal that has no room. -/
theorem n_appz {d : Nat} {t tn e : TypeId} {by' : Nat} {zc : Value} {agg : Bool} {kq kn : IntKind} {x y : Operand} {b m : Nat} {iv : Int} {xs : List Value} {ty : TypeId} {pos aft g} {K : Act → World → Prop} (i k : Nat) (ht : P.underlying t = some (.slice e)) (htn : P.underlying tn = some (.int kn)) (he : TI P e 1 by' [zc] agg)
    (hx : ev E x = some (.slice (some ⟨b, 0, none⟩) m m)) (hy : ev E y = some (.int kq iv)) (hiv : iv = (k : Int)) (hi : H[i]? = some (b, row e xs)) (hlen : xs.length = m) (h0 : 0 < k) (hby : (m + k) * by' ≤ 140737488355328) (hml : m + k ≤ maxLen) (hd : Nat.ble (d + 1) N = true)
    (h : ∀ gb cap rest, leAll S gb → ltAll H gb → m + k + List.length rest = cap → cap ≤ maxLen → At N ((d, .slice (some ⟨gb, 0, none⟩) (m + k) cap) :: E) S ((gb, row e (xs ++ List.replicate k zc ++ rest)) :: H) K) :
    At N E S H (fun a w => (⟨some d, .call { callee := .builtin .append, args := #[x, y], argTypes := #[t, tn] }, ty, pos, aft, g⟩ : Oper).wp P a w K Q) := by
  intro a w hR hG
  subst hiv
  have hfr := hG.drew.fresh
  obtain ⟨⟨inf, z, i1, i2, i3, i4, i5⟩, _⟩ := he
  have hb := hG.own _ (List.mem_of_getElem? hi)
  simp only at hb
  have hold : (Builtin.firstCells inf.size m (.slice (some ⟨b, 0, none⟩) m m)).run P w.drew = .ok xs.toArray w.drew := by
    refine run_firstCells_some (P := P) w.drew inf.size m ⟨b, 0, none⟩ m m xs (by rw [i3, hlen]; omega) ?_
    intro j v hj
    rw [World.cell?_drew, addr_add, Nat.zero_add]
    simp [World.cell?, hb, hj]
  have hsm : m + k ≤ 9223372036854775807 := by simp only [maxLen] at hml; omega
  have hgo := Lib.run_append_grow_zeros (P := P) w t tn ty e inf z kq kn ht htn i1 i2 (some ⟨b, 0, none⟩) m m xs hold k h0 (by omega) (by omega) (by omega) (by rw [i4]; have := Nat.mul_le_mul_right by' (show k ≤ m + k by omega); omega)
    (by rw [i4]; exact growslice_fits (by omega) hby)
  have hge := grownCap_ge w (m + k) m e
  have hcm : grownCap w (m + k) m e ≤ maxLen := grownCap_le_maxLen w (m + k) m e hml
  have hexec : (execOp a.eval ⟨some d, .call { callee := .builtin .append, args := #[x, y], argTypes := #[t, tn] }, ty, pos, aft, g⟩).run P w = .ok (.value (.slice (some ⟨w.heap.size, 0, none⟩) (m + k) (grownCap w (m + k) m e)))
      (w.drew.alloc (.cells (xs.toArray ++ Builtin.zeroCells z.cells k ++ Builtin.zeroCells z.cells (grownCap w (m + k) m e - (m + k))) e)) := by
    have e1 : execOp a.eval ⟨some d, .call { callee := .builtin .append, args := #[x, y], argTypes := #[t, tn] }, ty, pos, aft, g⟩ = (do pure (.value (← Builtin.append_ #[t, tn] ty #[.slice (some ⟨b, 0, none⟩) m m, .int kq k])) : Sem Next) := by
      simp only [execOp, resolve, List.map_toArray, List.map_cons, List.map_nil, hR.ev hx, hR.ev hy, pure_bind, invoke, builtin]
    rw [e1, Sem.run_bind, hgo]
    rfl
  show Oper.wp P _ a w K Q
  unfold Oper.wp
  rw [hexec]
  have hz1 : z.cells = #[zc] := by apply Array.ext'; simpa using i5
  have hobj : (Obj.cells (xs.toArray ++ Builtin.zeroCells z.cells k ++ Builtin.zeroCells z.cells (grownCap w (m + k) m e - (m + k))) e) = row e (xs ++ List.replicate k zc ++ List.replicate (grownCap w (m + k) m e - (m + k)) zc) := by
    unfold row
    congr 1
    apply Array.ext'
    simp [hz1, zeroCells_one]
  have hG' := hG.drew.alloc (row e (xs ++ List.replicate k zc ++ List.replicate (grownCap w (m + k) m e - (m + k)) zc))
  rw [hobj]
  exact h w.heap.size (grownCap w (m + k) m e) (List.replicate (grownCap w (m + k) m e - (m + k)) zc) hfr.1 hfr.2 (by simp; omega) hcm _ _ (hR.put hd _) hG'

end
end Go.Eng
