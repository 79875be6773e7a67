/-
  The engine, part J: a row's arguments opened into what the walks ask for. Conditions: none; nothing of any program stands here.
-/
import Derived.Test.YtjnbpinnjbdnpaaEngI
import Derived.ProofKit
import Derived.Deep.Slices
import Derived.Lib.SmallJoins
namespace Go.Eng
open Go

section
variable {H : Type} {enc : TypeId × Value → H} {P : Program} {w : World} {base : Nat} {spare : Nat → Bool} {held : Bool}

theorem byteOf (n : Int) (h : (Lit.int .u8 n).wf = true) : B (UInt8.ofNat n.toNat) = .int .u8 n := by
  simp only [Lit.wf, Bool.and_eq_true, decide_eq_true_eq] at h
  have h1 : IntKind.u8.min = 0 := rfl
  have h2 : IntKind.u8.max = 255 := rfl
  rw [h1, h2] at h
  show Value.int .u8 ((UInt8.ofNat n.toNat).toNat : Int) = _
  congr 1
  rw [UInt8.toNat_ofNat']
  have : n.toNat % 2 ^ 8 = n.toNat := Nat.mod_eq_of_lt (by omega)
  rw [this]
  omega

theorem cell_spot {w : World} {a : Addr} {v : Value} (h : w.cell? a = some v) : a.spot = none := by
  unfold World.cell? at h
  split at h
  · split at h
    · cases h
    · rename_i hs; simpa using hs
  · cases h

theorem add_spot {a : Addr} (h : (a.add 0).spot = none) : a.spot = none := by
  simpa [Addr.add] using h

theorem add_plain {a : Addr} (h : a.spot = none) (i : Nat) : a.add i = ⟨a.block, a.off + i, none⟩ := by
  unfold Addr.add
  cases a
  simp at h
  subst h
  simp

instance : Inhabited SV := ⟨⟨none, 0, 0⟩⟩

/-- One-cell elements up to the capacity read as 'V': the slice reads. -/
theorem sl_of {a : Addr} {len cap : Nat} {V : Nat → Value} (hl : len ≤ cap) (hm : cap ≤ maxLen) (hc : ∀ i, i < cap → w.cell? (a.add i) = some (V i)) : Sl w 1 (some a) len cap ((List.range len).map V) := by
  refine ⟨by simp, hl, hm, fun h => (by cases h), fun h0 x hx => ?_, fun j u hj => ?_⟩
  · cases hx
    exact add_spot (cell_spot (hc 0 h0))
  · rw [List.getElem?_map] at hj
    obtain ⟨i, hi, rfl⟩ := Option.map_eq_some_iff.1 hj
    obtain ⟨hlt, hie⟩ := List.getElem?_eq_some_iff.1 hi
    simp at hlt hie
    subst hie
    have hsp := add_spot (cell_spot (hc 0 (by omega)))
    have := hc j (by omega)
    rw [add_plain hsp] at this
    exact this

theorem arg_bytes {t e : TypeId} {fuel : Nat} {cs : List Value} {x : DataW H × List MemPlace} (ht : P.underlying t = some (.slice e)) (he : P.underlying e = some (.int .u8)) (hc : P.cellsOf e = 1)
    (h : DataW.trod enc P w base (fun _ => true) held fuel t cs = some x) : ∃ (s : SV) (l : List UInt8), cs = [s.v] ∧ Bytes w s l := by
  rcases Deep.open_slice1 ht hc h with ⟨rfl, _⟩ | ⟨a, len, cap, m, n, V, D, Pl, rfl, _, hl, hm, hmm, _, hx⟩
  · exact ⟨⟨none, 0, 0⟩, [], rfl, Bytes.nilv w⟩
  · simp only [if_true] at hmm
    subst hmm
    have hV : ∀ i, i < m → ∃ b : UInt8, V i = B b := fun i hi => by
      obtain ⟨q, hq, _, hw⟩ := DataW.trod_int he (hx i hi).2
      simp only [List.cons.injEq, and_true] at hq
      exact ⟨_, by rw [hq, byteOf q hw]⟩
    obtain ⟨W, hW⟩ := Deep.choose_lt (α := UInt8) (p := fun i b => V i = B b) hV
    refine ⟨⟨some a, len, m⟩, (List.range len).map W, rfl, by simp, ?_⟩
    have := sl_of (w := w) (V := V) hl hm fun i hi => (hx i hi).1
    have e1 : (List.range len).map V = ((List.range len).map W).map B := by
      rw [List.map_map]
      refine List.map_congr_left fun i hi => ?_
      exact hW i (by have := List.mem_range.1 hi; omega)
    rw [← e1]
    exact this

theorem arg_ints {t e : TypeId} {fuel : Nat} {cs : List Value} {x : DataW H × List MemPlace} (ht : P.underlying t = some (.slice e)) (he : P.underlying e = some (.int .i64)) (hc : P.cellsOf e = 1)
    (h : DataW.trod enc P w base (fun _ => true) held fuel t cs = some x) : ∃ (s : SV) (l : List Int), cs = [s.v] ∧ Ints w s l := by
  rcases Deep.open_slice1 ht hc h with ⟨rfl, _⟩ | ⟨a, len, cap, m, n, V, D, Pl, rfl, _, hl, hm, hmm, _, hx⟩
  · exact ⟨⟨none, 0, 0⟩, [], rfl, rfl, Sl.nilv w 1⟩
  · simp only [if_true] at hmm
    subst hmm
    have hV : ∀ i, i < m → ∃ b : Int, V i = .int .i64 b := fun i hi => by
      obtain ⟨q, hq, _, _⟩ := DataW.trod_int he (hx i hi).2
      simp only [List.cons.injEq, and_true] at hq
      exact ⟨_, hq⟩
    obtain ⟨W, hW⟩ := Deep.choose_lt (α := Int) (p := fun i b => V i = .int .i64 b) hV
    refine ⟨⟨some a, len, m⟩, (List.range len).map W, rfl, by simp, ?_⟩
    have := sl_of (w := w) (V := V) hl hm fun i hi => (hx i hi).1
    have e1 : (List.range len).map V = ((List.range len).map W).map (Value.int .i64) := by
      rw [List.map_map]
      refine List.map_congr_left fun i hi => ?_
      exact hW i (by have := List.mem_range.1 hi; omega)
    rw [← e1]
    exact this

theorem arg_rows {t e f : TypeId} {fuel : Nat} {cs : List Value} {x : DataW H × List MemPlace} (ht : P.underlying t = some (.slice e)) (he : P.underlying e = some (.slice f)) (hf : P.underlying f = some (.int .u8)) (hc : P.cellsOf e = 1) (hc2 : P.cellsOf f = 1)
    (h : DataW.trod enc P w base (fun _ => true) held fuel t cs = some x) : ∃ (s : SV) (rs : List SV) (ls : List (List UInt8)), cs = [s.v] ∧ Rows w 0 s rs ls := by
  rcases Deep.open_slice1 ht hc h with ⟨rfl, _⟩ | ⟨a, len, cap, m, n, V, D, Pl, rfl, _, hl, hm, hmm, _, hx⟩
  · exact ⟨⟨none, 0, 0⟩, [], [], rfl, Rows.nilv w 0⟩
  · simp only [if_true] at hmm
    subst hmm
    have hV : ∀ i, i < m → ∃ b : SV × List UInt8, V i = b.1.v ∧ Bytes w b.1 b.2 := fun i hi => by
      obtain ⟨s, l, hq, hb⟩ := arg_bytes he hf hc2 (hx i hi).2
      simp only [List.cons.injEq, and_true] at hq
      exact ⟨(s, l), hq, hb⟩
    obtain ⟨W, hW⟩ := Deep.choose_lt (α := SV × List UInt8) (p := fun i b => V i = b.1.v ∧ Bytes w b.1 b.2) hV
    refine ⟨⟨some a, len, m⟩, (List.range len).map fun i => (W i).1, (List.range len).map fun i => (W i).2, rfl, by simp, by simp, ?_, fun i r l hr hl' => ⟨?_, fun _ => Nat.zero_le _⟩⟩
    · have := sl_of (w := w) (V := V) hl hm fun i hi => (hx i hi).1
      have e1 : (List.range len).map V = ((List.range len).map fun i => (W i).1).map SV.v := by
        rw [List.map_map]
        refine List.map_congr_left fun i hi => ?_
        exact (hW i (by have := List.mem_range.1 hi; omega)).1
      rw [← e1]
      exact this
    · rw [List.getElem?_map] at hr hl'
      obtain ⟨j, hj, rfl⟩ := Option.map_eq_some_iff.1 hr
      obtain ⟨j', hj', rfl⟩ := Option.map_eq_some_iff.1 hl'
      rw [hj] at hj'
      cases hj'
      have := List.mem_range.1 (List.mem_of_getElem? hj)
      exact (hW j (by omega)).2

theorem row_int {t : TypeId} {r : Reach} {b0 : Nat} {v : Value} {d : DataW H} {ps : List MemPlace} (ht : P.underlying t = some (.int .i64)) (hval : Value.okWide P w r b0 t v) (h : DataW.Trod enc P w base spare held t v d ps) : ∃ n : Int, v = .int .i64 n := by
  obtain ⟨n, rfl, _⟩ := ChangeShapes.open_int ht hval h
  exact ⟨n, rfl⟩

theorem row_bytes {t e : TypeId} {r : Reach} {b0 : Nat} {v : Value} {d : DataW H} {ps : List MemPlace} (ht : P.underlying t = some (.slice e)) (he : P.underlying e = some (.int .u8)) (hc : P.cellsOf e = 1) (hval : Value.okWide P w r b0 t v)
    (h : DataW.Trod enc P w base (fun _ => true) held t v d ps) : ∃ (s : SV) (l : List UInt8), v = s.v ∧ Bytes w s l := by
  obtain ⟨a, len, cap, rfl⟩ := WideShapes.okWide_slice ht hval
  obtain ⟨fuel, hf⟩ := h
  obtain ⟨s, l, hcs, hb⟩ := arg_bytes ht he hc hf
  simp only [Value.cells, List.cons.injEq, and_true] at hcs
  exact ⟨s, l, hcs, hb⟩

theorem row_ints {t e : TypeId} {r : Reach} {b0 : Nat} {v : Value} {d : DataW H} {ps : List MemPlace} (ht : P.underlying t = some (.slice e)) (he : P.underlying e = some (.int .i64)) (hc : P.cellsOf e = 1) (hval : Value.okWide P w r b0 t v)
    (h : DataW.Trod enc P w base (fun _ => true) held t v d ps) : ∃ (s : SV) (l : List Int), v = s.v ∧ Ints w s l := by
  obtain ⟨a, len, cap, rfl⟩ := WideShapes.okWide_slice ht hval
  obtain ⟨fuel, hf⟩ := h
  obtain ⟨s, l, hcs, hb⟩ := arg_ints ht he hc hf
  simp only [Value.cells, List.cons.injEq, and_true] at hcs
  exact ⟨s, l, hcs, hb⟩

theorem row_rows {t e f : TypeId} {r : Reach} {b0 : Nat} {v : Value} {d : DataW H} {ps : List MemPlace} (ht : P.underlying t = some (.slice e)) (he : P.underlying e = some (.slice f)) (hf : P.underlying f = some (.int .u8)) (hc : P.cellsOf e = 1) (hc2 : P.cellsOf f = 1)
    (hval : Value.okWide P w r b0 t v) (h : DataW.Trod enc P w base (fun _ => true) held t v d ps) : ∃ (s : SV) (rs : List SV) (ls : List (List UInt8)), v = s.v ∧ Rows w 0 s rs ls := by
  obtain ⟨a, len, cap, rfl⟩ := WideShapes.okWide_slice ht hval
  obtain ⟨fuel, hfu⟩ := h
  obtain ⟨s, rs, ls, hcs, hb⟩ := arg_rows ht he hf hc hc2 hfu
  simp only [Value.cells, List.cons.injEq, and_true] at hcs
  exact ⟨s, rs, ls, hcs, hb⟩

/-- A struct of one field: a slice of slices of bytes. -/
theorem row_rows1 {u t e f : TypeId} {f0 : Field} {r : Reach} {b0 : Nat} {v : Value} {d : DataW H} {ps : List MemPlace} (hu : P.underlying u = some (.struct #[f0])) (hf0 : f0.type = t) (ho : f0.offset = 0) (hcf : P.cellsOf f0.type = 1) (ht : P.underlying t = some (.slice e)) (he : P.underlying e = some (.slice f)) (hf : P.underlying f = some (.int .u8))
    (hc : P.cellsOf e = 1) (hc2 : P.cellsOf f = 1) (hcu : P.cellsOf u = 1) (hval : Value.okWide P w r b0 u v) (h : DataW.Trod enc P w base (fun _ => true) held u v d ps) : ∃ (s : SV) (rs : List SV) (ls : List (List UInt8)), v = .agg #[s.v] ∧ Rows w 0 s rs ls := by
  subst hf0
  unfold Value.okWide at hval
  simp only [hu] at hval
  obtain ⟨cs, rfl, _, _⟩ := hval
  obtain ⟨fuel, hfu⟩ := h
  obtain ⟨y0, n, _, hl, hy⟩ := ChangeShapes.trod_struct1 hu hfu
  rw [hcu] at hl
  have ho' : f0.offset = 0 := ho
  rw [ho', hcf] at hy
  have e1 : ((Value.agg cs).cells.toList.drop 0).take 1 = cs.toList := by
    rw [List.drop_zero, List.take_of_length_le (by omega)]
    rfl
  rw [e1] at hy
  obtain ⟨s, rs, ls, hcs, hb⟩ := arg_rows ht he hf hc hc2 hy
  refine ⟨s, rs, ls, ?_, hb⟩
  rw [show cs = #[s.v] from Array.ext' (by simpa using hcs)]

/-- What was read at the start is read so behind a call that turned nothing. -/
theorem args_stay (hl : laidOutB P = true) {W W' : World} (hb : RowKit.Below W.heap.size W W') : ∀ (ts : List TypeId) (vs : List Value) (ds : List (DataW H)) (p : List MemPlace), (ts.all fun t => P.readableRec t && decide (t < P.types.size)) = true →
    DataW.TrodAll enc P W 0 (fun _ => true) true ts vs ds p → (∀ x ∈ p, x.block < W.heap.size) → DataW.TrodAll enc P W' 0 (fun b => decide (b < W.heap.size)) true ts vs ds p
  | [], vs, ds, p, _, h, _ => by
    obtain ⟨rfl, rfl, rfl⟩ := ChangeShapes.trodAll_nil h
    rfl
  | t :: ts, vs, ds, p, hall, h, hlt => by
    simp only [List.all_cons, Bool.and_eq_true, decide_eq_true_eq] at hall
    obtain ⟨v, vs', d, ds', a, b, rfl, rfl, rfl, h1, h2⟩ := ChangeShapes.trodAll_cons h
    exact ⟨a, b, RowKit.Below.trod hl hall.1.1 hall.1.2 h1 hb (fun x hx => hlt x (by simp [hx])), args_stay hl hb ts vs' ds' b hall.2 h2 (fun x hx => hlt x (by simp [hx])), rfl⟩

end
end Go.Eng
