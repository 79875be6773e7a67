/-
  The engine, part G: families of rows that are gathered in a loop while own blocks turn. Conditions: none; nothing of any program stands here.
-/
import Derived.Test.YtjnbpinnjbdnpaaEngF
namespace Go.Eng
open Go

/-- The own blocks of the first list are such of the second, or younger. -/
def Ks (H' H : List (Nat × Obj)) (N : Nat) : Prop := ∀ p ∈ H', (∃ q ∈ H, q.1 = p.1) ∨ N ≤ p.1

theorem Ks.nil {H N} : Ks [] H N := fun p hp => by cases hp
theorem Ks.refl (H N) : Ks H H N := fun p hp => .inl ⟨p, hp, rfl⟩
theorem Ks.cons {H' H N b o o'} (h : Ks H' H N) : Ks ((b, o') :: H') ((b, o) :: H) N := fun p hp => by
  rcases List.mem_cons.1 hp with rfl | hp
  · exact .inl ⟨(b, o), .head _, rfl⟩
  · rcases h p hp with ⟨q, hq, e⟩ | h
    · exact .inl ⟨q, .tail _ hq, e⟩
    · exact .inr h
theorem Ks.new {H' H N b o} (hb : N ≤ b) (h : Ks H' H N) : Ks ((b, o) :: H') H N := fun p hp => by
  rcases List.mem_cons.1 hp with rfl | hp
  · exact .inr hb
  · exact h p hp
theorem Ks.own {H' H N e a a' c c'} {w : World} (hn : a' = a ∨ ∃ g', a' = some ⟨g', 0, none⟩ ∧ w.heap.size ≤ g') (hw : N ≤ w.heap.size) (h : Ks H' H N) : Ks (ownS e a' c' ++ H') (ownS e a c ++ H) N := fun p hp => by
  rcases List.mem_append.1 hp with hp | hp
  · obtain ⟨x, hx, rfl⟩ := mem_ownS hp
    rcases hn with rfl | ⟨g, hg, hle⟩
    · exact .inl ⟨(x.block, row e c), List.mem_append_left _ (by simp [ownS, hx]), rfl⟩
    · rw [hx] at hg; cases hg; exact .inr (Nat.le_trans hw hle)
  · rcases h p hp with ⟨q, hq, e⟩ | h
    · exact .inl ⟨q, List.mem_append_right _ hq, e⟩
    · exact .inr h
theorem Ks.own1 {N e a a' c c'} {w : World} (hn : a' = a ∨ ∃ g', a' = some ⟨g', 0, none⟩ ∧ w.heap.size ≤ g') (hw : N ≤ w.heap.size) : Ks (ownS e a' c') (ownS e a c) N := by
  have := Ks.own (e := e) (c := c) (c' := c') (H' := []) (H := []) hn hw .nil
  simpa using this
theorem Ks.keep {H' H N e a c} (h : Ks H' H N) : Ks (ownS e a c ++ H') (ownS e a c ++ H) N := fun p hp => by
  rcases List.mem_append.1 hp with hp | hp
  · exact .inl ⟨p, List.mem_append_left _ hp, rfl⟩
  · rcases h p hp with ⟨q, hq, e⟩ | h
    · exact .inl ⟨q, List.mem_append_right _ hq, e⟩
    · exact .inr h
theorem Ks.mono {H' H N N'} (h : Ks H' H N) (hN : N' ≤ N) : Ks H' H N' := fun p hp => (h p hp).imp id (Nat.le_trans hN)
/-- Fewer own blocks. -/
theorem Ks.sub {H' H N} (h : List.Sublist H' H) : Ks H' H N := fun p hp => .inl ⟨p, h.subset hp, rfl⟩

/-- Rows of bytes in the world 'u', none of them in an own block. -/
structure Fam (H : List (Nat × Obj)) (u : World) (rs : List SV) (ls : List (List UInt8)) : Prop where
  rows : RowF u rs ls
  apt : ∀ r ∈ rs, r.n ≠ 0 → ab r.a < u.heap.size ∧ ∀ p ∈ H, p.1 ≠ ab r.a

theorem Fam.nil (H u) : Fam H u [] [] := ⟨RowF.nil u, fun r h => by cases h⟩

theorem Fam.len {H u rs ls} (h : Fam H u rs ls) : rs.length = ls.length := h.rows.1

/-- A later world, other own blocks. -/
theorem Fam.step {H H' S u w rs ls} (h : Fam H u rs ls) (hG : Good S H' w) (hu : u ∈ S) (hk : Ks H' H u.heap.size) : Fam H' w rs ls := by
  have ne : ∀ r ∈ rs, r.n ≠ 0 → ∀ p ∈ H', p.1 ≠ ab r.a := by
    intro r hr hn p hp
    obtain ⟨h1, h2⟩ := h.apt r hr hn
    rcases hk p hp with ⟨q, hq, e⟩ | h3
    · rw [← e]; exact h2 q hq
    · omega
  refine ⟨h.rows.move fun r hr l hb => ?_, fun r hr hn => ⟨Nat.lt_of_lt_of_le (h.apt r hr hn).1 (hG.snap u hu).size, ne r hr hn⟩⟩
  by_cases hn : r.n = 0
  · have hl : l = [] := List.eq_nil_of_length_eq_zero (by rw [← hb.1]; exact hn)
    subst hl
    exact ⟨hb.1, hb.2.len, hb.2.le, hb.2.max, hb.2.nil, hb.2.spot, fun j u hj => by simp at hj⟩
  · exact hb.move fun hlt => (hG.snap u hu).blk _ hlt (ne r hr hn)

theorem bytes_lt {w : World} {r : SV} {l : List UInt8} (h : Bytes w r l) (hn : r.n ≠ 0) : ab r.a < w.heap.size :=
  h.2.lt (by intro e; have := h.1; rw [List.map_eq_nil_iff] at e; rw [e] at this; exact hn this)

/-- One more row, that a call made: the own blocks are older. -/
theorem Fam.fresh {H S u w rs ls r l} (h : Fam H w rs ls) (hG : Good S H u) (hb : Bytes w r l) (hf : l ≠ [] → u.heap.size ≤ ab r.a) : Fam H w (rs ++ [r]) (ls ++ [l]) := by
  refine ⟨h.rows.snoc hb, fun r' hr' hn => ?_⟩
  rcases List.mem_append.1 hr' with hr' | hr'
  · exact h.apt r' hr' hn
  · simp only [List.mem_singleton] at hr'
    subst hr'
    have hl : l ≠ [] := by intro e; subst e; exact hn hb.1
    have := hf hl
    refine ⟨bytes_lt hb hn, fun p hp => ?_⟩
    have := hG.ownlt hp
    omega

/-- One more row, anywhere but in the own blocks. -/
theorem Fam.snoc {H w rs ls r l} (h : Fam H w rs ls) (hb : Bytes w r l) (hf : r.n ≠ 0 → ∀ p ∈ H, p.1 ≠ ab r.a) : Fam H w (rs ++ [r]) (ls ++ [l]) := by
  refine ⟨h.rows.snoc hb, fun r' hr' hn => ?_⟩
  rcases List.mem_append.1 hr' with hr' | hr'
  · exact h.apt r' hr' hn
  · simp only [List.mem_singleton] at hr'
    subst hr'
    exact ⟨bytes_lt hb hn, hf hn⟩

/-- Fewer own blocks. -/
theorem Fam.sub {H H' w rs ls} (h : Fam H w rs ls) (hs : List.Sublist H' H) : Fam H' w rs ls := ⟨h.rows, fun r hr hn => ⟨(h.apt r hr hn).1, fun p hp => (h.apt r hr hn).2 p (hs.subset hp)⟩⟩

/-- What a literal of one element reads as. -/
theorem Good.lit1 {S H w} (h : Good S H w) (i : Nat) {b : Nat} {e : TypeId} {v : Value} (hi : H[i]? = some (b, row e [v])) : Sl w 1 (some ⟨b, 0, none⟩) 1 1 [v] :=
  Sl.own (cells := [v]) (h.block i hi) (Nat.le_refl _) (by simp [maxLen]) (Nat.le_refl _)

theorem Fam.out {H w rs ls} (h : Fam H w rs ls) {e : TypeId} {a : Option Addr} {k c : Nat} {x : List Value} (hOS : OS 1 a k c x (rs.map SV.v)) (hw : ∀ p ∈ ownS e a x, w.heap[p.1]? = some p.2) : Rows w 0 ⟨a, k, c⟩ rs ls :=
  h.rows.rows (by have := hOS.len; simp at this; exact this.symm) (hOS.sl hw)

/-- A region that draws, in whose head something may be stored: the operations that only look see what stays. -/
theorem at_mixC {P : Program} {n : Nat} {E : Env} {S : List World} {H : List (Nat × Obj)} {Q : Exit → Act → World → Prop} {id : Nat} {l : List Oper} (S0 : List World) (H0 : List (Nat × Obj)) (k gf : Nat) (hm : P.follows .mixedOrders = true)
    (hB : Region.lexTailB .any l.toArray k = true) (hch : chainOf noisy .any l.toArray gf k = true) (hs : ∀ w, Good S H w → Good S0 H0 w)
    (h : At n E S H (wpMix P l.toArray (Good S0 H0) noisy (wpList P l.toArray Q (l.drop k)) (l.take k))) : At n E S H ((Code.region id l.toArray true).wp P Q) :=
  fun a _ hR hG => wp_region_mix k gf hm hB hch (hs _ hG.drew) (h a _ hR hG.drew)

/-- Some that only look are done in the text's order, too: they see what the loud ones made. -/
def noisyD (ds : List Nat) (o : Oper) : Bool := noisy o || ds.any fun d => match o.dst with | some e => Nat.beq d e | none => false

theorem at_mixD {P : Program} {n : Nat} {E : Env} {S : List World} {H : List (Nat × Obj)} {Q : Exit → Act → World → Prop} {id : Nat} {l : List Oper} (ds : List Nat) (S0 : List World) (H0 : List (Nat × Obj)) (k gf : Nat) (hm : P.follows .mixedOrders = true)
    (hB : Region.lexTailB .any l.toArray k = true) (hch : chainOf (noisyD ds) .any l.toArray gf k = true) (hs : ∀ w, Good S H w → Good S0 H0 w)
    (h : At n E S H (wpMix P l.toArray (Good S0 H0) (noisyD ds) (wpList P l.toArray Q (l.drop k)) (l.take k))) : At n E S H ((Code.region id l.toArray true).wp P Q) :=
  fun a _ hR hG => wp_region_mix k gf hm hB hch (hs _ hG.drew) (h a _ hR hG.drew)

/-- A family of one row, or one more, out of an own block that is given up. -/
theorem Fam.bear {H S b e l rest cap w rs ls} (h : Fam H w rs ls) (hG : Good S ((b, row e (l.map B ++ rest)) :: H) w) (hn : l.length ≤ cap) (hc : cap ≤ maxLen) :
    Fam H w (rs ++ [⟨some ⟨b, 0, none⟩, l.length, cap⟩]) (ls ++ [l]) :=
  h.snoc (Bytes.own (hG.block 0 rfl) hn hc) fun _ p hp => by
    have := (List.pairwise_cons.1 hG.nd).1 p hp
    exact fun e => this e.symm

theorem Fam.one {H w r l} (h : Fam H w [r] [l]) : Bytes w r l := h.rows.2 0 r l rfl rfl

/-- Behind a call in such a region. -/
theorem at_inC {n : Nat} {E : Env} {S S0 : List World} {H H0 : List (Nat × Obj)} {K : Act → World → Prop} {w : World} (hG : Good S H w) (hs : ∀ w, Good S H w → Good S0 H0 w) (h : At n E S H K) : ∀ a, Rep n E a → Good S0 H0 w ∧ K a w := fun a hR => ⟨hs w hG, h a w hR hG⟩

theorem Fn.args {P : Program} {f : FuncId} {xs ys : Array Value} {w : World} {R : Value → World → Prop} (h : Fn P f xs w R) (e : xs = ys) : Fn P f ys w R := e ▸ h

/-- The youngest own block is given up. -/
theorem Good.drop1 {S S' H b o w} (h : Good S ((b, o) :: H) w) (hs : ∀ s ∈ S', s ∈ S ∧ s.heap.size ≤ b) : Good S' H w :=
  h.forget (fun s hs' => (hs s hs').1) (.cons _ (List.Sublist.refl _)) fun s hs' p hp hnp => by
    rcases List.mem_cons.1 hp with rfl | hp
    · exact (hs s hs').2
    · exact absurd hp hnp

end Go.Eng
