/-
  The second engine, part A: values told without addresses, what they mean in memory, and how that stays true while memory grows. Conditions: none; nothing of any program stands here.
-/
import Derived.Test.YtjnbpinnjbdnpaaEngE
import Derived.RangeFuncRecord
import Derived.RangeFuncIn
import Derived.TacticsIn
import Derived.OrdersIn
import Derived.StillTail
import Derived.Test.YtjnbpinnjbdnpaaGlob
namespace Go.Abs
open Go Go.Eng

/-- Values told without addresses. 'fz': a slice that nobody turns; 'fp': a pointer at cells that nobody turns; 'p', 'sl': into an object of the call's own, by its number. -/
inductive A where
  | b (x : Bool) | i (k : IntKind) (n : Int) | s (l : List UInt8) | nl
  | fz (n : Nat) (cs : List A) | fp (cs : List A)
  | p (id off : Nat) | sl (id size off n : Nat)
  | ag (cs : List A) | tu (vs : List A) | fn (f : Go.Fn) (first cap : List A) | ic (t : TypeId) (v : A) | raw (v : Value)
  deriving Inhabited

/-- Where an object of the call's own lies: nowhere (a nil slice), or in a block of so many cells. -/
inductive BL where
  | ph | bk (b N : Nat)

abbrev Bm := Nat → Option BL
abbrev Xs := Nat → Nat → Prop

abbrev no : Bm := fun _ => none

mutual
def V (X : Xs) (w : World) : Bm → A → Value → Prop
  | _, .b x, u => u = .bool x
  | _, .i k n, u => u = .int k n
  | _, .s l, u => u = .string ⟨l.toArray⟩
  | _, .nl, u => u = .slice none 0 0
  | _, .fz n cs, u => ∃ a cap, u = .slice a n cap ∧ n ≤ cap ∧ cap ≤ maxLen ∧ (a = none → cap = 0) ∧ (0 < cap → ∀ x, a = some x → x.spot = none) ∧ VM X w cs (ab a) (ao a)
  | _, .fp cs, u => ∃ b o, u = .pointer (some ⟨b, o, none⟩) ∧ VM X w cs b o
  | β, .p id off, u => ∃ b N, β id = some (.bk b N) ∧ u = .pointer (some ⟨b, off, none⟩)
  | β, .sl id s off n, u => (β id = some .ph ∧ n = 0 ∧ off = 0 ∧ u = .slice none 0 0) ∨
      ∃ b N cap, β id = some (.bk b N) ∧ u = .slice (some ⟨b, off, none⟩) n cap ∧ n ≤ cap ∧ cap ≤ maxLen ∧ off + cap * s ≤ N
  | β, .ag cs, u => ∃ us, u = .agg us.toArray ∧ VS X w β cs us ∧ ∀ x ∈ us, x.oneCell' = true
  | β, .tu vs, u => ∃ us, u = .tuple us.toArray ∧ VS X w β vs us
  | β, .fn f a c, u => ∃ us vs, u = .func f us.toArray vs.toArray ∧ VS X w β a us ∧ VS X w β c vs
  | β, .ic t v, u => ∃ x, u = .iface t x ∧ V X w β v x
  | _, .raw v, u => u = v
/-- Cells in memory, from a place on: no object of the call's own is named there. -/
def VM (X : Xs) (w : World) : List A → Nat → Nat → Prop
  | [], _, _ => True
  | c :: cs, b, o => X b o ∧ (∃ u, w.cell? ⟨b, o, none⟩ = some u ∧ V X w (fun _ => none) c u ∧ u.oneCell' = true) ∧ VM X w cs b (o + 1)
def VS (X : Xs) (w : World) : Bm → List A → List Value → Prop
  | _, [], us => us = []
  | β, c :: cs, us => ∃ u r, us = u :: r ∧ V X w β c u ∧ VS X w β cs r
end

/-- More objects have places. -/
def ExtB (β β' : Bm) : Prop := ∀ id y, β id = some y → β' id = some y
theorem ExtB.refl (β : Bm) : ExtB β β := fun _ _ h => h
section mono
variable {X X' : Xs} {w w' : World}
/-- More cells hold still, and those that held still did. -/
def ExtX (X X' : Xs) (w w' : World) : Prop := ∀ b o, X b o → X' b o ∧ w'.cell? ⟨b, o, none⟩ = w.cell? ⟨b, o, none⟩
mutual
theorem V_mono (x : ExtX X X' w w') : ∀ (a : A) (u : Value) (β β' : Bm), (∀ id y, β id = some y → β' id = some y) → V X w β a u → V X' w' β' a u
  | .b x, u, _, _, _, h => by simp only [V] at *; exact h
  | .i k n, u, _, _, _, h => by simp only [V] at *; exact h
  | .s l, u, _, _, _, h => by simp only [V] at *; exact h
  | .nl, u, _, _, _, h => by simp only [V] at *; exact h
  | .fz n cs, u, _, _, _, h => by
    simp only [V] at *
    obtain ⟨a, cap, h1, h2, h3, h4, h5, h6⟩ := h
    exact ⟨a, cap, h1, h2, h3, h4, h5, VM_mono x cs _ _ h6⟩
  | .fp cs, u, _, _, _, h => by
    simp only [V] at *
    obtain ⟨b, o, h1, h2⟩ := h
    exact ⟨b, o, h1, VM_mono x cs _ _ h2⟩
  | .p id off, u, _, _, hb, h => by
    simp only [V] at *
    obtain ⟨b, N, h1, h2⟩ := h
    exact ⟨b, N, hb _ _ h1, h2⟩
  | .sl id s off n, u, _, _, hb, h => by
    simp only [V] at *
    rcases h with ⟨h1, h2⟩ | ⟨b, N, cap, h1, h2⟩
    · exact .inl ⟨hb _ _ h1, h2⟩
    · exact .inr ⟨b, N, cap, hb _ _ h1, h2⟩
  | .ag cs, u, β, β', hb, h => by
    simp only [V] at *
    obtain ⟨us, h1, h2, h3⟩ := h
    exact ⟨us, h1, VS_mono x cs us β β' hb h2, h3⟩
  | .tu vs, u, β, β', hb, h => by
    simp only [V] at *
    obtain ⟨us, h1, h2⟩ := h
    exact ⟨us, h1, VS_mono x vs us β β' hb h2⟩
  | .fn f a c, u, β, β', hb, h => by
    simp only [V] at *
    obtain ⟨us, vs, h1, h2, h3⟩ := h
    exact ⟨us, vs, h1, VS_mono x a us β β' hb h2, VS_mono x c vs β β' hb h3⟩
  | .ic t v, u, β, β', hb, h => by
    simp only [V] at *
    obtain ⟨y, h1, h2⟩ := h
    exact ⟨y, h1, V_mono x v y β β' hb h2⟩
  | .raw v, u, _, _, _, h => by simp only [V] at *; exact h
theorem VM_mono (x : ExtX X X' w w') : ∀ (cs : List A) (b o : Nat), VM X w cs b o → VM X' w' cs b o
  | [], _, _, _ => by simp only [VM]
  | c :: cs, b, o, h => by
    simp only [VM] at *
    obtain ⟨h1, ⟨u, h2, h3, h4⟩, h5⟩ := h
    exact ⟨(x b o h1).1, ⟨u, (x b o h1).2.trans h2, V_mono x c u _ _ (fun _ _ h => h) h3, h4⟩, VM_mono x cs b (o + 1) h5⟩
theorem VS_mono (x : ExtX X X' w w') : ∀ (cs : List A) (us : List Value) (β β' : Bm), (∀ id y, β id = some y → β' id = some y) → VS X w β cs us → VS X' w' β' cs us
  | [], us, _, _, _, h => by simp only [VS] at *; exact h
  | c :: cs, us, β, β', hb, h => by
    simp only [VS] at *
    obtain ⟨u, r, h1, h2, h3⟩ := h
    exact ⟨u, r, h1, V_mono x c u β β' hb h2, VS_mono x cs r β β' hb h3⟩
end
end mono

section lists
variable {β : Bm} {X : Xs} {w : World}

theorem VS_nil : VS X w β [] [] := by simp only [VS]
theorem VS_cons {c cs u us} (h : V X w β c u) (hs : VS X w β cs us) : VS X w β (c :: cs) (u :: us) := by simp only [VS]; exact ⟨u, us, rfl, h, hs⟩
theorem VS_len : ∀ {cs us}, VS X w β cs us → us.length = cs.length
  | [], us, h => by simp only [VS] at h; simp [h]
  | c :: cs, us, h => by simp only [VS] at h; obtain ⟨u, r, rfl, _, h⟩ := h; simp [VS_len h]
theorem VS_app : ∀ {cs ds us vs}, VS X w β cs us → VS X w β ds vs → VS X w β (cs ++ ds) (us ++ vs)
  | [], _, us, _, h, h' => by simp only [VS] at h; subst h; simpa using h'
  | c :: cs, _, us, _, h, h' => by
    simp only [VS] at h; obtain ⟨u, r, rfl, h1, h⟩ := h
    exact VS_cons h1 (VS_app h h')
theorem VS_split : ∀ {cs ds us}, VS X w β (cs ++ ds) us → ∃ u1 u2, us = u1 ++ u2 ∧ VS X w β cs u1 ∧ VS X w β ds u2
  | [], ds, us, h => ⟨[], us, rfl, VS_nil, by simpa using h⟩
  | c :: cs, ds, us, h => by
    simp only [List.cons_append, VS] at h; obtain ⟨u, r, rfl, h1, h⟩ := h
    obtain ⟨u1, u2, rfl, h2, h3⟩ := VS_split h
    exact ⟨u :: u1, u2, rfl, VS_cons h1 h2, h3⟩
theorem VS_get : ∀ {cs : List A} {us : List Value}, VS X w β cs us → ∀ {j : Nat} {c : A}, cs[j]? = some c → ∃ u, us[j]? = some u ∧ V X w β c u
  | [], us, h, j, c, hj => by simp at hj
  | d :: cs, us, h, j, c, hj => by
    simp only [VS] at h; obtain ⟨u, r, rfl, h1, h⟩ := h
    cases j with
    | zero => simp at hj; subst hj; exact ⟨u, rfl, h1⟩
    | succ j => obtain ⟨v, h2, h3⟩ := VS_get h (j := j) (by simpa using hj); exact ⟨v, by simpa using h2, h3⟩
theorem VS_take : ∀ {cs : List A} {us : List Value}, VS X w β cs us → ∀ k, VS X w β (cs.take k) (us.take k)
  | [], us, h, k => by simp only [VS] at h; subst h; simpa using VS_nil
  | c :: cs, us, h, k => by
    simp only [VS] at h; obtain ⟨v, r, rfl, h1, h⟩ := h
    cases k with
    | zero => exact VS_nil
    | succ k => exact VS_cons h1 (VS_take h k)
theorem VS_drop : ∀ {cs : List A} {us : List Value}, VS X w β cs us → ∀ k, VS X w β (cs.drop k) (us.drop k)
  | [], us, h, k => by simp only [VS] at h; subst h; simpa using VS_nil
  | c :: cs, us, h, k => by
    simp only [VS] at h; obtain ⟨v, r, rfl, h1, h⟩ := h
    cases k with
    | zero => exact VS_cons h1 h
    | succ k => exact VS_drop h k
theorem VS_set : ∀ {cs : List A} {us : List Value}, VS X w β cs us → ∀ {j : Nat} {c : A} {u : Value}, V X w β c u → VS X w β (cs.set j c) (us.set j u)
  | [], us, h, j, c, u, hv => by simp only [VS] at h; subst h; simpa using VS_nil
  | d :: cs, us, h, j, c, u, hv => by
    simp only [VS] at h; obtain ⟨v, r, rfl, h1, h⟩ := h
    cases j with
    | zero => exact VS_cons hv h
    | succ j => exact VS_cons h1 (VS_set h hv)

theorem VM_get : ∀ {cs : List A} {b o : Nat}, VM X w cs b o → ∀ {j : Nat} {c : A}, cs[j]? = some c → X b (o + j) ∧ ∃ u, w.cell? ⟨b, o + j, none⟩ = some u ∧ V X w no c u ∧ u.oneCell' = true
  | [], b, o, _, j, c, hj => by simp at hj
  | d :: cs, b, o, h, j, c, hj => by
    simp only [VM] at h; obtain ⟨h1, h2, h3⟩ := h
    cases j with
    | zero => simp at hj; subst hj; exact ⟨h1, h2⟩
    | succ j => have := VM_get h3 (j := j) (by simpa using hj); rw [show o + (j + 1) = o + 1 + j by omega]; exact this
theorem V_no {v u} (h : V X w no v u) : V X w β v u := V_mono (fun b o h => ⟨h, rfl⟩) v u no β (fun _ _ h => by cases h) h
theorem VS_no {cs us} (h : VS X w no cs us) : VS X w β cs us := VS_mono (fun b o h => ⟨h, rfl⟩) cs us no β (fun _ _ h => by cases h) h
theorem VM_of : ∀ {cs : List A} {b o : Nat}, (∀ j c, cs[j]? = some c → X b (o + j) ∧ ∃ u, w.cell? ⟨b, o + j, none⟩ = some u ∧ V X w no c u ∧ u.oneCell' = true) → VM X w cs b o
  | [], _, _, _ => by simp only [VM]
  | c :: cs, b, o, h => by
    simp only [VM]
    exact ⟨(h 0 c rfl).1, (h 0 c rfl).2, VM_of fun j d hj => by have := h (j + 1) d (by simpa using hj); rw [show o + 1 + j = o + (j + 1) by omega]; exact this⟩
theorem VM_drop {cs b o} (h : VM X w cs b o) (k : Nat) : VM X w (cs.drop k) b (o + k) :=
  VM_of fun j c hj => by rw [List.getElem?_drop] at hj; have := VM_get h hj; rw [show o + k + j = o + (k + j) by omega]; exact this
theorem VM_take {cs b o} (h : VM X w cs b o) (k : Nat) : VM X w (cs.take k) b o :=
  VM_of fun j c hj => by rw [List.getElem?_take] at hj; split at hj; exact VM_get h hj; cases hj
/-- The values behind cells. -/
theorem VM_vals : ∀ {cs : List A} {b o : Nat}, VM X w cs b o → ∃ us, VS X w no cs us ∧ (∀ x ∈ us, x.oneCell' = true) ∧ ∀ j u, us[j]? = some u → w.cell? ⟨b, o + j, none⟩ = some u
  | [], _, _, _ => ⟨[], VS_nil, (fun x h => by cases h), fun j u h => by simp at h⟩
  | c :: cs, b, o, h => by
    simp only [VM] at h
    obtain ⟨_, ⟨u, h1, h2, h3⟩, h4⟩ := h
    obtain ⟨us, g1, g2, g3⟩ := VM_vals h4
    refine ⟨u :: us, VS_cons h2 g1, fun x hx => ?_, fun j v hj => ?_⟩
    · rcases List.mem_cons.1 hx with rfl | hx
      · exact h3
      · exact g2 x hx
    · cases j with
      | zero => simp at hj; subst hj; simpa using h1
      | succ j => have := g3 j v (by simpa using hj); rw [show o + (j + 1) = o + 1 + j by omega]; exact this
end lists

/-- The call's own objects, the youngest word on each first; 'none': given up. -/
structure St where
  os : List (Nat × Option (List A))

def look : List (Nat × Option (List A)) → Nat → Option (List A)
  | [], _ => none
  | (k, c) :: r, id => cond (Nat.beq k id) c (look r id)
def fresh : List (Nat × Option (List A)) → Nat → Bool
  | [], _ => true
  | (k, _) :: r, id => cond (Nat.beq k id) false (fresh r id)

def St.get (st : St) (id : Nat) : Option (List A) := look st.os id
/-- A number that was never given. -/
def St.free (st : St) (id : Nat) : Bool := fresh st.os id
def St.put (st : St) (id : Nat) (cs : List A) : St := ⟨(id, some cs) :: st.os⟩
def St.del (st : St) (id : Nat) : St := ⟨(id, none) :: st.os⟩

theorem look_cons {k c r id} : look ((k, c) :: r) id = if k = id then c else look r id := by
  show cond (Nat.beq k id) c (look r id) = _
  cases h : Nat.beq k id with
  | true => rw [if_pos (Nat.eq_of_beq_eq_true h)]; rfl
  | false => rw [if_neg (Nat.ne_of_beq_eq_false h)]; rfl
theorem fresh_cons {k c r id} : fresh ((k, c) :: r) id = if k = id then false else fresh r id := by
  show cond (Nat.beq k id) false (fresh r id) = _
  cases h : Nat.beq k id with
  | true => rw [if_pos (Nat.eq_of_beq_eq_true h)]; rfl
  | false => rw [if_neg (Nat.ne_of_beq_eq_false h)]; rfl
theorem St.get_put {st : St} {id k cs} : (st.put id cs).get k = if id = k then some cs else st.get k := look_cons
theorem St.get_del {st : St} {id k} : (st.del id).get k = if id = k then none else st.get k := look_cons
theorem St.free_put {st : St} {id k cs} : (st.put id cs).free k = if id = k then false else st.free k := fresh_cons
theorem St.free_del {st : St} {id k} : (st.del id).free k = if id = k then false else st.free k := fresh_cons
theorem look_fresh : ∀ {os : List (Nat × Option (List A))} {id}, fresh os id = true → look os id = none
  | [], _, _ => rfl
  | (k, c) :: r, id, h => by
    rw [fresh_cons] at h
    rw [look_cons]
    split at h
    · cases h
    · rename_i hne; rw [if_neg hne]; exact look_fresh h

abbrev Ev := List (Nat × A)
def Ev.at? : Ev → Nat → Option A
  | [], _ => none
  | (k, v) :: r, t => cond (Nat.beq k t) (some v) (Ev.at? r t)
/-- What stands still while other code runs: the block for the rounds' deferred calls; a loop's record, with what its owner's slots bear; a frame. -/
inductive Sus where
  | df (D : Nat)
  | lp (l : Nat) (r : Loop) (E : Ev) (β : Bm)
  | fr (tmps : Array Value) (E : Ev) (β : Bm)
def Sus.kept (own : Nat → Prop) (w : World) : Sus → Prop
  | .df D => own D ∧ w.heap[D]? = some (.deferred (some []))
  | .lp l r _ _ => own l ∧ w.heap[l]? = some (.loop r)
  | .fr _ _ _ => True
def Sus.slots (X : Xs) (w : World) : Sus → Prop
  | .df _ => True
  | .lp _ r E β => ∀ t v, E.at? t = some v → ∃ u, r.tmps[t]? = some u ∧ V X w β v u
  | .fr tmps E β => ∀ t v, E.at? t = some v → ∃ u, tmps[t]? = some u ∧ V X w β v u
theorem Sus.kept_mono {own : Nat → Prop} {w w1 : World} {s : Sus} (h : s.kept own w) (hb : ∀ b : Nat, (w.heap[b]? = some (Obj.deferred (some [])) ∨ ∃ r : Loop, w.heap[b]? = some (Obj.loop r)) → w1.heap[b]? = w.heap[b]?) : s.kept own w1 := by
  cases s with
  | df D => exact ⟨h.1, (hb D (.inl h.2)).trans h.2⟩
  | lp l r E β => exact ⟨h.1, (hb l (.inr ⟨r, h.2⟩)).trans h.2⟩
  | fr _ _ _ => trivial
theorem Sus.slots_mono {X X' : Xs} {w w' : World} {s : Sus} (x : ExtX X X' w w') (h : s.slots X w) : s.slots X' w' := by
  cases s with
  | df D => trivial
  | lp l r E β => exact fun t v ht => let ⟨u, h1, h2⟩ := h t v ht; ⟨u, h1, V_mono x _ _ β β (fun _ _ h => h) h2⟩
  | fr _ _ β => exact fun t v ht => let ⟨u, h1, h2⟩ := h t v ht; ⟨u, h1, V_mono x _ _ β β (fun _ _ h => h) h2⟩

/-- Where a call began: the world, the blocks of the objects that were handed in, their numbers. -/
structure Bw where
  w : World
  M : Nat → Prop
  β : Bm
  ids : List Nat
  bi : ∀ id x, β id = some x → id ∈ ids
  sus : List Sus
/-- A block that may be turned. -/
def Bw.own (B : Bw) (b : Nat) : Prop := B.w.heap.size ≤ b ∨ B.M b
/-- All other blocks hold what they held. -/
structure KB (B : Bw) (w : World) : Prop where
  os : w.os = B.w.os
  tape : w.tape = B.w.tape
  output : w.output = B.w.output
  size : B.w.heap.size ≤ w.heap.size
  block : ∀ k, k < B.w.heap.size → ¬ B.M k → w.heap[k]? = B.w.heap[k]?
  sus : ∀ s ∈ B.sus, s.kept B.own w
theorem KB.trans {B : Bw} {w w1 : World} (h : KB B w) (k : RowKit.Below w.heap.size w w1) : KB B w1 :=
  ⟨k.os.trans h.os, k.tape.trans h.tape, k.output.trans h.output, Nat.le_trans h.size k.size, fun i hi hm => (k.block i (Nat.lt_of_lt_of_le hi h.size)).trans (h.block i hi hm), fun s hs => Sus.kept_mono (h.sus s hs) fun b hb => k.block b (by rcases hb with hb | ⟨r, hb⟩ <;> exact (Array.getElem?_eq_some_iff.1 hb).1)⟩
theorem Bw.own_new {B : Bw} {w : World} (h : KB B w) {b : Nat} (hb : w.heap.size ≤ b) : B.own b := .inl (Nat.le_trans h.size hb)

/-- What an own object's cells are, where it lies. -/
def OB (β : Bm) (X : Xs) (w : World) (w0 : Bw) (id : Nat) (cs : List A) : Prop :=
  match β id with
  | none => False
  | some .ph => cs = []
  | some (.bk b N) => w0.own b ∧ (∀ o, ¬ X b o) ∧ ∃ us rest ty, w.heap[b]? = some (row ty (us ++ rest)) ∧ us.length + rest.length = N ∧ VS X w β cs us ∧ ∀ x ∈ us, x.oneCell' = true

structure MemQ (w0 : Bw) (β : Bm) (X : Xs) (st : St) (w : World) : Prop where
  below : KB w0 w
  b0 : ExtB w0.β β
  xlt : ∀ b o, X b o → b < w.heap.size
  obj : ∀ id cs, st.get id = some cs → OB β X w w0 id cs
  inj : ∀ i j ci cj b M N, i ≠ j → st.get i = some ci → st.get j = some cj → β i = some (.bk b M) → β j = some (.bk b N) → False

structure Mem (w0 : Bw) (β : Bm) (X : Xs) (st : St) (w : World) : Prop extends MemQ w0 β X st w where
  dom : ∀ id, st.free id = true → β id = none
theorem Mem.of {w0 : Bw} {β : Bm} {X : Xs} {st : St} {w : World} (below : KB w0 w) (b0 : ExtB w0.β β) (xlt : ∀ b o, X b o → b < w.heap.size) (dom : ∀ id, st.free id = true → β id = none) (obj : ∀ id cs, st.get id = some cs → OB β X w w0 id cs)
    (inj : ∀ i j ci cj b M N, i ≠ j → st.get i = some ci → st.get j = some cj → β i = some (.bk b M) → β j = some (.bk b N) → False) : Mem w0 β X st w := ⟨⟨below, b0, xlt, obj, inj⟩, dom⟩

/-- The package's tables lie where they lie, and may be read. -/
def GL (X : Xs) (w : World) : Prop := ∀ g vs, (g, vs) ∈ glob → ∀ j v, vs[j]? = some v → X g j ∧ w.cell? ⟨g, j, none⟩ = some v ∧ v.oneCell' = true
theorem GL.mono {X X' : Xs} {w w' : World} (h : GL X w) (x : ExtX X X' w w') : GL X' w' := fun g vs hg j v hj => let ⟨h1, h2, h3⟩ := h g vs hg j v hj; ⟨(x g j h1).1, (x g j h1).2.trans h2, h3⟩
def lookG : List (Nat × List Value) → Nat → Option (List Value)
  | [], _ => none
  | (k, v) :: r, g => cond (Nat.beq k g) (some v) (lookG r g)
theorem lookG_mem : ∀ {l : List (Nat × List Value)} {g : Nat} {vs : List Value}, lookG l g = some vs → (g, vs) ∈ l
  | [], _, _, h => by cases h
  | (k, v) :: r, g, vs, h => by
    simp only [lookG] at h
    cases hb : Nat.beq k g with
    | true => rw [hb] at h; simp only [cond_true, Option.some.injEq] at h; subst h; rw [← Nat.eq_of_beq_eq_true hb]; exact .head _
    | false => rw [hb] at h; exact .tail _ (lookG_mem h)

/-- Frame and world, with the addresses named. 'w0', 'X0': the world at the call's beginning and the cells of it that may be read. -/
structure RelQ (w0 : Bw) (X0 : Xs) (n : Nat) (E : Ev) (st : St) (β : Bm) (X : Xs) (a : Act) (w : World) : Prop where
  x0 : ∀ b o, X0 b o → X b o
  xn : ∀ b o, X b o → X0 b o ∨ w0.own b
  memq : MemQ w0 β X st w
  gl : GL X w
  size : a.tmps.size = n
  defers : a.defers = []
  sslot : ∀ s ∈ w0.sus, s.slots X w
  slot : ∀ t v, E.at? t = some v → ∃ u, a.tmps[t]? = some u ∧ V X w β v u

structure RelX (w0 : Bw) (X0 : Xs) (n : Nat) (E : Ev) (st : St) (β : Bm) (X : Xs) (a : Act) (w : World) : Prop extends RelQ w0 X0 n E st β X a w where
  dom : ∀ id, st.free id = true → β id = none
theorem RelX.mem {w0 X0 n E st β X a w} (h : RelX w0 X0 n E st β X a w) : Mem w0 β X st w := ⟨h.memq, h.dom⟩
theorem RelX.of {w0 : Bw} {X0 : Xs} {n : Nat} {E : Ev} {st : St} {β : Bm} {X : Xs} {a : Act} {w : World} (x0 : ∀ b o, X0 b o → X b o) (xn : ∀ b o, X b o → X0 b o ∨ w0.own b) (mem : Mem w0 β X st w) (gl : GL X w) (size : a.tmps.size = n) (defers : a.defers = []) (sslot : ∀ s ∈ w0.sus, s.slots X w)
    (slot : ∀ t v, E.at? t = some v → ∃ u, a.tmps[t]? = some u ∧ V X w β v u) : RelX w0 X0 n E st β X a w := ⟨⟨x0, xn, mem.toMemQ, gl, size, defers, sslot, slot⟩, mem.dom⟩

def Rel (w0 : Bw) (X0 : Xs) (n : Nat) (E : Ev) (st : St) (a : Act) (w : World) : Prop := ∃ β X, RelX w0 X0 n E st β X a w

/-- A proposition on frame and world, at all that the lists describe. -/
def At (w0 : Bw) (X0 : Xs) (n : Nat) (E : Ev) (st : St) (K : Act → World → Prop) : Prop := ∀ a w, Rel w0 X0 n E st a w → K a w

theorem RelX.drew {w0 X0 n E st β X a w} (h : RelX w0 X0 n E st β X a w) : RelX w0 X0 n E st β X a { w with drawn := w.drawn + 1 } :=
  have e : ExtX X X w { w with drawn := w.drawn + 1 } := fun _ _ h => ⟨h, rfl⟩
  .of h.x0 h.xn (.of ⟨h.mem.below.os, h.mem.below.tape, h.mem.below.output, h.mem.below.size, h.mem.below.block, fun s hs => Sus.kept_mono (h.mem.below.sus s hs) fun _ _ => rfl⟩ h.mem.b0 h.mem.xlt h.mem.dom (fun id cs hg => by
      have := h.mem.obj id cs hg
      unfold OB at *
      split at this
      · exact this
      · exact this
      · obtain ⟨h1, h2, us, rest, ty, h3, h4, h5, h6⟩ := this
        exact ⟨h1, h2, us, rest, ty, h3, h4, VS_mono e _ _ β β (ExtB.refl β) h5, h6⟩) h.mem.inj) (h.gl.mono e) h.size h.defers (fun s hs => Sus.slots_mono e (h.sslot s hs))
    (fun t v ht => let ⟨u, h1, h2⟩ := h.slot t v ht; ⟨u, h1, V_mono e _ _ β β (ExtB.refl β) h2⟩)

theorem Rel.drew {w0 X0 n E st a w} (h : Rel w0 X0 n E st a w) : Rel w0 X0 n E st a { w with drawn := w.drawn + 1 } := let ⟨β, X, h⟩ := h; ⟨β, X, h.drew⟩

/-! Any round; the marks of the rounds' deferred calls stand behind. -/
abbrev rF (r : Option Nat) : Fence := { Fence.wide with round := r }
def _root_.Go.Act.wd (ds : List Nat) (a : Act) : Act := { a with defers := a.defers ++ ds.map fun D => ({ target := .collected D, args := #[] } : Deferred) }
def Pw (ds : List Nat) (K : Act → World → Prop) : Act → World → Prop := fun a w => K (a.wd ds) w
theorem tmps_wd (a : Act) (ds : List Nat) : (a.wd ds).tmps = a.tmps := rfl
theorem eval_wd (a : Act) (ds : List Nat) (x : Operand) : (a.wd ds).eval x = a.eval x := by cases x <;> rfl
theorem evalf_wd (a : Act) (ds : List Nat) : (a.wd ds).eval = a.eval := funext fun x => eval_wd a ds x
theorem put_wd (a : Act) (ds : List Nat) (d : Option Nat) (v : Value) : (a.wd ds).put d v = (a.put d v).wd ds := by cases d <;> rfl
theorem wd_nil (a : Act) : a.wd [] = a := by simp [Act.wd]
theorem wp_nil {K : Act → World → Prop} {a : Act} {w : World} (h : Pw [] K a w) : K a w := by have h' : K (a.wd []) w := h; rwa [wd_nil] at h'
def notDefer : Op → Bool
  | .defer _ => false
  | _ => true
theorem notDefer_ne {op : Op} (h : notDefer op = true) : ∀ c, op ≠ .defer c := by rintro c rfl; cases h
theorem val_nd {P : Program} {ρ : Operand → Value} {o : Oper} {w w' : World} {u : Value} (h : (execOp ρ o).run P w = .ok (.value u) w') : notDefer o.op = true := by
  obtain ⟨d, op, ty, pos, aft, g⟩ := o
  cases op <;> first | rfl | (simp only [execOp, Sem.run_bind] at h; rename_i c; cases hr : (resolve ρ c ty).run P w <;> simp [hr] at h)
theorem op_in {P : Program} {o : Oper} {a : Act} {w : World} {r : Option Nat} {ds : List Nat} {K K' : Act → World → Prop} {Q : Exit → Act → World → Prop} (hnd : notDefer o.op = true) (h : o.wp P a w K (fun e a w => Q e (a.wd ds) w)) (hK : K = Pw ds K' := by rfl) : o.wpIn (rF r) 0 P (a.wd ds) w K' Q := by
  subst hK
  unfold Oper.wp at h
  unfold Oper.wpIn
  refine ⟨fun _ _ => trivial, ?_⟩
  rw [Oper.semAt_eq _ _ _ (notDefer_ne hnd), evalf_wd]
  generalize (execOp a.eval o).run P w = x at *
  cases x with
  | ok v w' =>
    cases v <;> simp only [Oper.upon, Oper.uponIn] at h ⊢
    case value v => rw [put_wd]; exact h
    case skip => rw [put_wd]; exact h
    case «defer» d =>
      have e : ({ tmps := (a.wd ds).tmps, defers := d :: (a.wd ds).defers } : Act).put o.dst undef = (({ tmps := a.tmps, defers := d :: a.defers } : Act).put o.dst undef).wd ds := by cases o.dst <;> rfl
      rw [e]; exact h
    case enter f args =>
      refine ⟨fun h => (by cases h), callsIn_wide.2 (h.mono fun e w'' he => ?_)⟩
      cases e with
      | returned v => simp only at he ⊢; rw [put_wd]; exact he
      | panicked ch => exact he
      | outgrown => obtain ⟨a0, w1, hq⟩ := he; exact ⟨_, w1, hq⟩
    case row row args =>
      refine ⟨fun h => (by cases h), fun c cs _ => ?_⟩
      obtain ⟨v, w', h1, h2⟩ := h c cs
      exact ⟨v, w', by show K' ((a.wd ds).put o.dst v) w'; rw [put_wd]; exact h1, stepsIn_wide.2 h2⟩
  | halt v w' => cases v <;> simp only [Oper.upon, Oper.uponIn] at h ⊢ <;> exact h
theorem still_wd {P : Program} {ops : Array Oper} {w : World} {ds : List Nat} {K : Act → World → Prop} : ∀ (l : List Oper) (a : Act), wpStill P ops w (fun a' => Pw ds K a' w) l a → wpStill P ops w (fun a' => K a' w) l (a.wd ds)
  | [], _, h => h
  | o :: l, a, h => by
    unfold wpStill at h ⊢
    rw [tmps_wd]
    split at h
    · rename_i hw
      rw [if_pos hw]
      unfold Oper.still at h ⊢
      rw [evalf_wd]
      generalize (execOp a.eval o).run P w = x at *
      cases x with
      | ok v w' =>
        cases v <;> simp only [Oper.stillUpon] at h ⊢
        · rw [put_wd]; exact ⟨h.1, still_wd l _ h.2⟩
        · rw [put_wd]; exact ⟨h.1, still_wd l _ h.2⟩
        · obtain ⟨h1, v, h2, h3⟩ := h
          exact ⟨h1, v, h2, by rw [put_wd]; exact still_wd l _ h3⟩
      | halt v w' => exact h.elim
    · rename_i hw
      rw [if_neg hw, put_wd]
      exact still_wd l _ h
theorem opIn_of_still {P : Program} {o : Oper} {a : Act} {w : World} {r : Option Nat} {K : Act → Prop} {K' : Act → World → Prop} {Q : Exit → Act → World → Prop} (h : o.still P a w K) (hK : ∀ a, K a → K' a w) : o.wpIn (rF r) 0 P a w K' Q := by
  have hnd : ∀ c, o.op ≠ .defer c := by
    intro c hc
    obtain ⟨d, op, ty, pos, aft, g⟩ := o
    simp only at hc
    subst hc
    unfold Oper.still at h
    simp only [execOp, Sem.run_bind] at h
    cases hr : (resolve a.eval c ty).run P w <;> simp [hr, Oper.stillUpon] at h
  unfold Oper.still at h
  unfold Oper.wpIn
  refine ⟨fun _ _ => trivial, ?_⟩
  rw [Oper.semAt_eq _ _ _ hnd]
  generalize (execOp a.eval o).run P w = x at *
  cases x with
  | ok v w' =>
    cases v <;> simp only [Oper.stillUpon, Oper.uponIn] at h ⊢
    · obtain ⟨rfl, h⟩ := h; exact hK _ h
    · obtain ⟨rfl, h⟩ := h; exact hK _ h
    · obtain ⟨rfl, v, h2, h3⟩ := h
      refine ⟨fun h => (by cases h), callsIn_wide.2 (h2.mono fun e w'' he => ?_)⟩
      obtain ⟨rfl, rfl⟩ := he
      exact hK _ h3
  | halt v w' => exact h.elim
theorem wpOpIn_of_stOp {P : Program} {ops : Array Oper} {i : Nat} {a : Act} {w : World} {r : Option Nat} {K : Act → Prop} {K' : Act → World → Prop} {Q : Exit → Act → World → Prop} (hK : ∀ a, K a → K' a w) (h : stOp P ops w i K a) : wpOpIn (rF r) 0 P ops Q i K' a w := by
  unfold stOp at h
  unfold wpOpIn
  split
  · rename_i ho; simp only [ho] at h; exact hK _ h
  · rename_i o ho
    simp only [ho] at h
    split
    · rename_i hw; simp only [hw, if_true] at h; exact opIn_of_still h hK
    · rename_i hw; simp only [hw] at h; exact ⟨fun _ _ => trivial, hK _ h⟩
theorem wpAnyIn_of_head {P : Program} {md : Region.Mode} {ops : Array Oper} {w : World} {r : Option Nat} {n g : Nat} {L : Array Bool → Act → Prop} {Q : Exit → Act → World → Prop} (hL : ∀ listed a, L listed a → wpAnyIn (rF r) 0 P md ops Q g listed a w) :
    ∀ (f : Nat) (listed : Array Bool) (a : Act), wpAnyL P md ops w n L f listed a → wpAnyIn (rF r) 0 P md ops Q (f + g) listed a w
  | 0, listed, a, h => by rw [Nat.zero_add]; exact hL _ _ h
  | f + 1, listed, a, h => by
    rw [show f + 1 + g = (f + g) + 1 by omega]
    exact ⟨fun h0 => absurd h0 h.1, fun i hi => wpOpIn_of_stOp (fun a' h' => wpAnyIn_of_head hL f _ a' h') (h.2 i hi).2⟩
theorem wpAnyIn_of_seq {P : Program} {md : Region.Mode} {ops : Array Oper} {r : Option Nat} {Q : Exit → Act → World → Prop} : ∀ (l : List Oper) (k : Nat) (listed : Array Bool) (a : Act) (w : World), (∀ j, l[j]? = ops[k + j]?) →
    Region.seqB md ops l.length k listed = true → wpListIn (rF r) 0 P ops Q l a w → wpAnyIn (rF r) 0 P md ops Q l.length listed a w
  | [], _, _, _, _, _, hB, h => ⟨by simpa [Region.seqB] using hB, h⟩
  | o :: l, k, listed, a, w, hl, hB, h => by
    have h0 : ops[k]? = some o := by simpa using (hl 0).symm
    simp only [List.length_cons, Region.seqB, Bool.and_eq_true, decide_eq_true_eq] at hB
    refine ⟨fun h1 => (by rw [hB.1] at h1; cases h1), fun i hi => ?_⟩
    rw [hB.1] at hi
    have hik : i = k := by simpa using hi
    subst hik
    have hw : wpOpIn (rF r) 0 P ops Q i (wpListIn (rF r) 0 P ops Q l) a w := by unfold wpOpIn; simp only [h0]; exact h
    exact wpOpIn_mono (fun a' w' h' => wpAnyIn_of_seq l (i + 1) _ a' w' (fun j => by have := hl (j + 1); simpa [Nat.add_assoc, Nat.add_comm 1 j] using this) hB.2 h') hw
theorem wpIn_region_still_tail {P : Program} {r : Option Nat} {id : Nat} {Q : Exit → Act → World → Prop} {a : Act} {w : World} {l : List Oper} (n : Nat) (hm : P.follows .mixedOrders = true) (hB : Region.lexTailB .any l.toArray n = true)
    (h : wpStill P l.toArray { w with drawn := w.drawn + 1 } (fun a' => wpListIn (rF r) 0 P l.toArray Q (l.drop n) a' { w with drawn := w.drawn + 1 }) (l.take n) a) : (Code.region id l.toArray true).wpIn (rF r) 0 P Q a w := by
  simp only [Region.lexTailB, Bool.and_eq_true, decide_eq_true_eq] at hB
  obtain ⟨⟨⟨⟨hsel, hn⟩, hs⟩, hc⟩, hlex⟩ := hB
  have hn' : n < l.length := by simpa using hn
  have htl : (l.take n).length = n := by simp; omega
  have hdl : (l.drop n).length = l.toArray.size - n := by simp
  have inv0 : HeadInv .any l.toArray n (Array.replicate l.toArray.size false) :=
    ⟨by simp, fun j oj _ hl => (by rw [getD_replicate_false] at hl; cases hl), fun t _ ht => getD_in (by simpa using ht) (getD_replicate_false _ _)⟩
  have H := wpAnyL_lex (md := .any) (g := l.toArray.size - n) hsel hs hc hn (l.take n) 0 _ a (fun j hj => by
    have hj' : j < n := by rw [htl] at hj; exact hj
    simp [hj']) (by simpa using htl) inv0 (by rw [htl]; exact hlex) h
  refine wpIn_region_any hm ?_
  have := wpAnyIn_of_head (r := r) (Q := Q) (g := l.toArray.size - n) (fun listed a' hL => by
    have := wpAnyIn_of_seq (md := .any) (Q := Q) (r := r) (l.drop n) n listed a' { w with drawn := w.drawn + 1 } (fun j => by simp [List.getElem?_drop]) (by rw [hdl]; exact hL.1) hL.2
    rwa [hdl] at this) _ _ _ H
  rw [htl, show n + (l.toArray.size - n) = l.toArray.size by omega] at this
  exact this

section rules
variable {r : Option Nat} {ds : List Nat}
variable {P : Program} {w0 : Bw} {X0 : Xs} {n : Nat} {E : Ev} {st : St} {Q : Exit → Act → World → Prop}

def evC : Value → A
  | .bool b => .b b
  | .int k n => .i k n
  | .string s => .s s.data.toList
  | .slice none 0 0 => .nl
  | v => .raw v

theorem V_evC {β X w} (v : Value) : V X w β (evC v) v := by
  unfold evC
  split <;> simp [V]

def ev (E : Ev) : Operand → Option A
  | .tmp t => E.at? t
  | .const v => some (evC v)
  | .global g => match lookG glob g with | some vs => some (.fp (vs.map evC)) | none => some (.raw (.pointer (some ⟨g, 0, none⟩)))
  | .func f => some (.fn (.func f) [] [])

theorem RelQ.evl {β X a w} (h : RelQ w0 X0 n E st β X a w) {x : Operand} {v : A} (hx : ev E x = some v) : V X w β v (a.eval x) := by
  cases x with
  | tmp t =>
    obtain ⟨u, h1, h2⟩ := h.slot t v hx
    simpa [Act.eval, h1] using h2
  | const u => simp only [Abs.ev, Option.some.injEq] at hx; subst hx; exact V_evC u
  | global g =>
    simp only [Abs.ev] at hx
    split at hx
    · rename_i vs hl
      simp only [Option.some.injEq] at hx
      subst hx
      simp only [V, Act.eval]
      refine ⟨g, 0, rfl, VM_of fun j c hj => ?_⟩
      rw [List.getElem?_map] at hj
      obtain ⟨v, hv, rfl⟩ := Option.map_eq_some_iff.1 hj
      obtain ⟨h1, h2, h3⟩ := h.gl g vs (lookG_mem hl) j v hv
      rw [Nat.zero_add]
      exact ⟨h1, v, h2, V_evC v, h3⟩
    · simp only [Option.some.injEq] at hx; subst hx; simp [V, Act.eval]
  | func f => simp only [Abs.ev, Option.some.injEq] at hx; subst hx; simp [V, Act.eval, VS]

theorem RelX.put {β X a w} (h : RelX w0 X0 n E st β X a w) {d : Nat} (hd : Nat.ble (d + 1) n = true) {v : A} {u : Value} (hv : V X w β v u) : RelX w0 X0 n ((d, v) :: E) st β X (a.put (some d) u) w := by
  have hd' : d < a.tmps.size := by rw [h.size]; exact Nat.le_of_ble_eq_true hd
  refine .of h.x0 h.xn h.mem h.gl (by simpa [Act.put] using h.size) h.defers h.sslot fun t v' ht => ?_
  simp only [Ev.at?] at ht
  cases hb : Nat.beq d t with
  | true =>
    rw [hb] at ht
    have : d = t := Nat.eq_of_beq_eq_true hb
    subst this
    simp only [cond_true, Option.some.injEq] at ht
    subst ht
    exact ⟨u, by simp [Act.put, hd'], hv⟩
  | false =>
    rw [hb] at ht
    simp only [cond_false] at ht
    have hne : d ≠ t := Nat.ne_of_beq_eq_false hb
    obtain ⟨u', h1, h2⟩ := h.slot t v' ht
    exact ⟨u', by simp only [Act.put]; rw [Array.getElem?_setIfInBounds_ne hne]; exact h1, h2⟩

def Ev.put (E : Ev) : Option Nat → A → Ev
  | some d, v => (d, v) :: E
  | none, _ => E

theorem RelX.putD {β X a w} (h : RelX w0 X0 n E st β X a w) {d : Option Nat} (hd : okDst n d = true) {v : A} {u : Value} (hv : V X w β v u) : RelX w0 X0 n (E.put d v) st β X (a.put d u) w := by
  cases d with
  | none => exact h
  | some d => exact h.put hd hv

/-- Everything that the second list says, the first one says. -/
def le : Ev → Ev → Prop
  | _, [] => True
  | E, (t, v) :: r => E.at? t = some v ∧ le E r

theorem le_at {F : Ev} : ∀ {G : Ev}, le F G → ∀ t v, G.at? t = some v → F.at? t = some v
  | [], _, t, v, h => by simp [Ev.at?] at h
  | (k, u) :: r, hl, t, v, h => by
    simp only [Ev.at?] at h
    cases hb : Nat.beq k t with
    | true =>
      rw [hb] at h
      have : k = t := Nat.eq_of_beq_eq_true hb
      subst this
      simp only [cond_true, Option.some.injEq] at h
      subst h; exact hl.1
    | false => rw [hb] at h; exact le_at hl.2 t v h

theorem at_env {F : Ev} {K} (hE : le E F) (h : At w0 X0 n F st K) : At w0 X0 n E st K := fun a w ⟨β, X, hr⟩ => h a w ⟨β, X, { hr with slot := fun t v ht => hr.slot t v (le_at hE t v ht) }⟩
theorem at_in {K} {a w} (h : At w0 X0 n E st K) (hr : Rel w0 X0 n E st a w) : K a w := h a w hr

theorem at_seq {x y : Code} (h : At w0 X0 n E st (Pw ds (x.wpIn (rF r) 0 P (Exit.then (y.wpIn (rF r) 0 P Q) Q)))) : At w0 X0 n E st (Pw ds ((Code.seq x y).wpIn (rF r) 0 P Q)) := fun a w hr => wpIn_seq (h a w hr)
theorem at_skip (h : At w0 X0 n E st (Pw ds (Q .normal))) : At w0 X0 n E st (Pw ds (Code.skip.wpIn (rF r) 0 P Q)) := fun a w hr => wpIn_skip (h a w hr)
theorem at_ret (h : At w0 X0 n E st (Pw ds (Q .ret))) : At w0 X0 n E st (Pw ds (Code.ret.wpIn (rF r) 0 P Q)) := fun a w hr => wpIn_ret (h a w hr)
theorem at_exit {id : Nat} (h : At w0 X0 n E st (Pw ds (Q (.exit id)))) : At w0 X0 n E st (Pw ds ((Code.exit id).wpIn (rF r) 0 P Q)) := fun a w hr => wpIn_exit (h a w hr)
theorem at_block {id : Nat} {c : Code} (h : At w0 X0 n E st (Pw ds (c.wpIn (rF r) 0 P (Exit.inBlock id Q)))) : At w0 X0 n E st (Pw ds ((Code.block id c).wpIn (rF r) 0 P Q)) := fun a w hr => wpIn_block (h a w hr)
theorem at_cond {c : Operand} {x y : Code} {t : Bool} (hc : ev E c = some (.b t)) (ht : t = true → At w0 X0 n E st (Pw ds (x.wpIn (rF r) 0 P Q))) (hf : t = false → At w0 X0 n E st (Pw ds (y.wpIn (rF r) 0 P Q))) : At w0 X0 n E st (Pw ds ((Code.cond c x y).wpIn (rF r) 0 P Q)) :=
  fun a w hr => wpIn_cond_split (a := a.wd ds) (by obtain ⟨β, X, h⟩ := hr; have := h.evl hc; simp only [V] at this; exact (eval_wd a ds c).trans this) (fun h => ht h a w hr) (fun h => hf h a w hr)
theorem at_then {c : Operand} {x y : Code} (hc : ev E c = some (.b true)) (h : At w0 X0 n E st (Pw ds (x.wpIn (rF r) 0 P Q))) : At w0 X0 n E st (Pw ds ((Code.cond c x y).wpIn (rF r) 0 P Q)) := at_cond hc (fun _ => h) (fun h => by cases h)
theorem at_else {c : Operand} {x y : Code} (hc : ev E c = some (.b false)) (h : At w0 X0 n E st (Pw ds (y.wpIn (rF r) 0 P Q))) : At w0 X0 n E st (Pw ds ((Code.cond c x y).wpIn (rF r) 0 P Q)) := at_cond hc (fun h => by cases h) (fun _ => h)
theorem at_region {id : Nat} {l : List Oper} (h : At w0 X0 n E st (Pw ds (wpListIn (rF r) 0 P l.toArray Q l))) : At w0 X0 n E st (Pw ds ((Code.region id l.toArray false).wpIn (rF r) 0 P Q)) := fun a w hr => wpIn_region_lit (h a w hr)
theorem at_nil {ops : Array Oper} (h : At w0 X0 n E st (Pw ds (Q .normal))) : At w0 X0 n E st (Pw ds (wpListIn (rF r) 0 P ops Q [])) := fun a w hr => wpListIn_nil (h a w hr)
theorem x_tn {N : Act → World → Prop} (h : At w0 X0 n E st (Pw ds N)) : At w0 X0 n E st (Pw ds (Exit.then N Q .normal)) := h
theorem x_te {N : Act → World → Prop} {id : Nat} (h : At w0 X0 n E st (Pw ds (Q (.exit id)))) : At w0 X0 n E st (Pw ds (Exit.then N Q (.exit id))) := h
theorem x_tr {N : Act → World → Prop} (h : At w0 X0 n E st (Pw ds (Q .ret))) : At w0 X0 n E st (Pw ds (Exit.then N Q .ret)) := h
theorem x_bn {id : Nat} (h : At w0 X0 n E st (Pw ds (Q .normal))) : At w0 X0 n E st (Pw ds (Exit.inBlock id Q .normal)) := h
theorem x_be {id : Nat} (h : At w0 X0 n E st (Pw ds (Q .normal))) : At w0 X0 n E st (Pw ds (Exit.inBlock id Q (.exit id))) := by
  intro a w hr
  show if id = id then _ else _
  rw [if_pos rfl]; exact h a w hr
theorem x_bo {id id' : Nat} (hne : Nat.beq id' id = false) (h : At w0 X0 n E st (Pw ds (Q (.exit id')))) : At w0 X0 n E st (Pw ds (Exit.inBlock id Q (.exit id'))) := by
  intro a w hr
  show if id' = id then _ else _
  rw [if_neg (Nat.ne_of_beq_eq_false hne)]; exact h a w hr
theorem x_br {id : Nat} (h : At w0 X0 n E st (Pw ds (Q .ret))) : At w0 X0 n E st (Pw ds (Exit.inBlock id Q .ret)) := h

/-- One operation without a guard. -/
theorem at_op {ops : Array Oper} {o : Oper} {rest : List Oper} (hg : o.guard = none) (h : At w0 X0 n E st (fun a w => o.wp P a w (Pw ds (wpListIn (rF r) 0 P ops Q rest)) (fun e a w => Q e (a.wd ds) w))) (hnd : notDefer o.op = true := by rfl) : At w0 X0 n E st (Pw ds (wpListIn (rF r) 0 P ops Q (o :: rest))) :=
  fun a w hr => by
    show wpListIn (rF r) 0 P ops Q (o :: rest) (a.wd ds) w
    unfold wpListIn
    rw [if_pos (by simp [Region.wanted, hg])]
    exact op_in hnd (h a w hr)

theorem RelQ.yields {β X a w} (h : RelQ w0 X0 n E st β X a w) {ops : Array Oper} {j t : Nat} {b : Bool} (hj : guardSlot ops j = some t) (hb : E.at? t = some (.b b)) : yielded ops a.tmps j = some b := by
  obtain ⟨u, h1, h2⟩ := h.slot t _ hb
  simp only [V] at h2
  subst h2
  unfold guardSlot at hj
  simp [yielded, hj, h1]

/-- An operation whose guard says yes. -/
theorem at_opg {ops : Array Oper} {o : Oper} {rest : List Oper} {j t : Nat} {b : Bool} (hg : o.guard = some (j, b)) (hj : guardSlot ops j = some t) (hb : E.at? t = some (.b b))
    (h : At w0 X0 n E st (fun a w => o.wp P a w (Pw ds (wpListIn (rF r) 0 P ops Q rest)) (fun e a w => Q e (a.wd ds) w))) (hnd : notDefer o.op = true := by rfl) : At w0 X0 n E st (Pw ds (wpListIn (rF r) 0 P ops Q (o :: rest))) :=
  fun a w hr => by
    show wpListIn (rF r) 0 P ops Q (o :: rest) (a.wd ds) w
    unfold wpListIn
    rw [if_pos (by obtain ⟨β, X, hr⟩ := hr; simp [Region.wanted, hg, tmps_wd, hr.yields hj hb])]
    exact op_in hnd (h a w hr)

abbrev un : A := .raw undef

/-- An operation whose guard says no. -/
theorem at_opn {ops : Array Oper} {o : Oper} {rest : List Oper} {j t : Nat} {b : Bool} (hg : o.guard = some (j, b)) (hj : guardSlot ops j = some t) (hb : E.at? t = some (.b (!b)))
    (hd : okDst n o.dst = true) (h : At w0 X0 n (E.put o.dst un) st (Pw ds (wpListIn (rF r) 0 P ops Q rest))) : At w0 X0 n E st (Pw ds (wpListIn (rF r) 0 P ops Q (o :: rest))) :=
  fun a w ⟨β, X, hr⟩ => by
    show wpListIn (rF r) 0 P ops Q (o :: rest) (a.wd ds) w
    unfold wpListIn
    rw [if_neg (by simp [Region.wanted, hg, tmps_wd, hr.yields hj hb])]
    refine ⟨fun _ _ => trivial, ?_⟩
    rw [put_wd]
    exact h _ _ ⟨β, X, hr.putD hd (by simp [V])⟩

/-- Two worlds that agree on all that may be read. -/
structure Same (β : Bm) (X : Xs) (st : St) (w w' : World) : Prop where
  xs : ∀ b o, X b o → w'.cell? ⟨b, o, none⟩ = w.cell? ⟨b, o, none⟩
  own : ∀ id cs b N, st.get id = some cs → β id = some (.bk b N) → w'.heap[b]? = w.heap[b]?

theorem Same.refl {β X st w} : Same β X st w w := ⟨fun _ _ _ => rfl, fun _ _ _ _ _ _ => rfl⟩

/-- An operation (whatever its slot, place, edges and guard) yields a value and leaves the world alone. -/
def YO (P : Program) (E : Ev) (st : St) (op : Op) (ty : TypeId) (v : A) : Prop :=
  ∀ w0 X0 n β X a w, RelQ w0 X0 n E st β X a w → ∃ u, V X w β v u ∧ ∀ d pos aft g w', Same β X st w w' → (execOp a.eval ⟨d, op, ty, pos, aft, g⟩).run P w' = .ok (.value u) w'

theorem YO.v {op ty v v'} (h : YO P E st op ty v) (hv : v = v') : YO P E st op ty v' := hv ▸ h

section steps
variable {ops : Array Oper} {rest : List Oper} {d : Nat} {op : Op} {ty : TypeId} {pos : String} {aft : Array Edge} {v : A}

theorem at_y {g} {K : Act → World → Prop} (hy : YO P E st op ty v) (hd : Nat.ble (d + 1) n = true) (h : At w0 X0 n ((d, v) :: E) st K) : At w0 X0 n E st (fun a w => (⟨some d, op, ty, pos, aft, g⟩ : Oper).wp P a w K Q) :=
  fun a w ⟨β, X, hr⟩ => by
    obtain ⟨u, hv, hrun⟩ := hy _ _ _ _ _ _ _ hr.toRelQ
    show Oper.wp P _ a w K Q
    unfold Oper.wp
    rw [hrun _ _ _ _ w .refl]
    exact h _ _ ⟨β, X, hr.put hd hv⟩

theorem at_yl {g} {ops : Array Oper} (hy : YO P E st op ty v) (hd : Nat.ble (d + 1) n = true) (h : At w0 X0 n ((d, v) :: E) st (Pw ds (wpListIn (rF r) 0 P ops Q rest))) {a : Act} {w : World} (hr : Rel w0 X0 n E st a w) :
    (⟨some d, op, ty, pos, aft, g⟩ : Oper).wpIn (rF r) 0 P (a.wd ds) w (wpListIn (rF r) 0 P ops Q rest) Q := by
  have hr' := hr
  obtain ⟨β, X, hx⟩ := hr
  obtain ⟨u, hv, hrun⟩ := hy _ _ _ _ _ _ _ hx.toRelQ
  refine op_in (val_nd (hrun _ _ _ _ w .refl)) (K := Pw ds (wpListIn (rF r) 0 P ops Q rest)) ?_
  unfold Oper.wp
  rw [hrun _ _ _ _ w .refl]
  exact h _ _ ⟨β, X, hx.put hd hv⟩
theorem s1 (hy : YO P E st op ty v) (hd : Nat.ble (d + 1) n = true) (h : At w0 X0 n ((d, v) :: E) st (Pw ds (wpListIn (rF r) 0 P ops Q rest))) : At w0 X0 n E st (Pw ds (wpListIn (rF r) 0 P ops Q (⟨some d, op, ty, pos, aft, none⟩ :: rest))) :=
  fun a w hr => by
    show wpListIn (rF r) 0 P ops Q (_ :: rest) (a.wd ds) w
    unfold wpListIn
    rw [if_pos (by simp [Region.wanted])]
    exact at_yl hy hd h hr
theorem g1 {j t : Nat} {b : Bool} (hj : guardSlot ops j = some t) (hb : E.at? t = some (.b b)) (hy : YO P E st op ty v) (hd : Nat.ble (d + 1) n = true)
    (h : At w0 X0 n ((d, v) :: E) st (Pw ds (wpListIn (rF r) 0 P ops Q rest))) : At w0 X0 n E st (Pw ds (wpListIn (rF r) 0 P ops Q (⟨some d, op, ty, pos, aft, some (j, b)⟩ :: rest))) :=
  fun a w hr => by
    show wpListIn (rF r) 0 P ops Q (_ :: rest) (a.wd ds) w
    unfold wpListIn
    rw [if_pos (by obtain ⟨β, X, hr⟩ := hr; simp [Region.wanted, tmps_wd, hr.yields hj hb])]
    exact at_yl hy hd h hr
theorem g0 {j t : Nat} {b b' : Bool} (hj : guardSlot ops j = some t) (hb : E.at? t = some (.b b')) (hn : b' = !b) (hd : Nat.ble (d + 1) n = true)
    (h : At w0 X0 n ((d, un) :: E) st (Pw ds (wpListIn (rF r) 0 P ops Q rest))) : At w0 X0 n E st (Pw ds (wpListIn (rF r) 0 P ops Q (⟨some d, op, ty, pos, aft, some (j, b)⟩ :: rest))) := by
  subst hn
  exact at_opn rfl hj hb hd h

/-- Regions that draw: a head that only looks. -/
theorem at_draw_tail {id : Nat} {l : List Oper} (k : Nat) (hm : P.follows .mixedOrders = true) (hB : Region.lexTailB .any l.toArray k = true)
    (h : At w0 X0 n E st (fun a w => wpStill P l.toArray w (fun a' => Pw ds (wpListIn (rF r) 0 P l.toArray Q (l.drop k)) a' w) (l.take k) a)) : At w0 X0 n E st (Pw ds ((Code.region id l.toArray true).wpIn (rF r) 0 P Q)) :=
  fun a _ hr => wpIn_region_still_tail k hm hB (still_wd _ _ (h a _ hr.drew))
theorem at_snil {K : Act → World → Prop} (h : At w0 X0 n E st K) : At w0 X0 n E st (fun a w => wpStill P ops w (fun a' => K a' w) [] a) := fun a w hr => h a w hr
theorem t1 {K : Act → World → Prop} (hy : YO P E st op ty v) (hd : Nat.ble (d + 1) n = true)
    (h : At w0 X0 n ((d, v) :: E) st (fun a w => wpStill P ops w (fun a' => K a' w) rest a)) : At w0 X0 n E st (fun a w => wpStill P ops w (fun a' => K a' w) (⟨some d, op, ty, pos, aft, none⟩ :: rest) a) :=
  fun a w ⟨β, X, hr⟩ => by
    obtain ⟨u, hv, hrun⟩ := hy _ _ _ _ _ _ _ hr.toRelQ
    show wpStill P ops w (fun a' => K a' w) (_ :: rest) a
    unfold wpStill
    rw [if_pos (by simp [Region.wanted])]
    unfold Oper.still
    rw [hrun _ _ _ _ w .refl]
    exact ⟨rfl, h _ _ ⟨β, X, hr.put hd hv⟩⟩
theorem t1g {j t : Nat} {b : Bool} {K : Act → World → Prop} (hj : guardSlot ops j = some t) (hb : E.at? t = some (.b b)) (hy : YO P E st op ty v) (hd : Nat.ble (d + 1) n = true)
    (h : At w0 X0 n ((d, v) :: E) st (fun a w => wpStill P ops w (fun a' => K a' w) rest a)) : At w0 X0 n E st (fun a w => wpStill P ops w (fun a' => K a' w) (⟨some d, op, ty, pos, aft, some (j, b)⟩ :: rest) a) :=
  fun a w ⟨β, X, hr⟩ => by
    obtain ⟨u, hv, hrun⟩ := hy _ _ _ _ _ _ _ hr.toRelQ
    show wpStill P ops w (fun a' => K a' w) (_ :: rest) a
    unfold wpStill
    rw [if_pos (by simp [Region.wanted, hr.yields hj hb])]
    unfold Oper.still
    rw [hrun _ _ _ _ w .refl]
    exact ⟨rfl, h _ _ ⟨β, X, hr.put hd hv⟩⟩
theorem t0g {j t : Nat} {b b' : Bool} {K : Act → World → Prop} (hj : guardSlot ops j = some t) (hb : E.at? t = some (.b b')) (hn : b' = !b) (hd : Nat.ble (d + 1) n = true)
    (h : At w0 X0 n ((d, un) :: E) st (fun a w => wpStill P ops w (fun a' => K a' w) rest a)) : At w0 X0 n E st (fun a w => wpStill P ops w (fun a' => K a' w) (⟨some d, op, ty, pos, aft, some (j, b)⟩ :: rest) a) :=
  fun a w ⟨β, X, hr⟩ => by
    subst hn
    show wpStill P ops w (fun a' => K a' w) (_ :: rest) a
    unfold wpStill
    rw [if_neg (by simp [Region.wanted, hr.yields hj hb])]
    exact h _ _ ⟨β, X, hr.put hd (by simp [V])⟩
end steps

/-- The end of a round: the state of the next one. -/
def LpI {ι : Type} (w0 : Bw) (X0 : Xs) (n : Nat) (ds : List Nat) (I : ι → Ev) (SS : ι → St) (pre : ι → Prop) (m : ι → Nat) (q : Nat) (a : Act) (w : World) : Prop := ∃ a0, a = Act.wd ds a0 ∧ ∃ y, pre y ∧ m y < q ∧ Rel w0 X0 n (I y) (SS y) a0 w
/-- A loop: 'I' and 'SS' say what the slots and the objects bear at the head of a round, for a state 'x' of the round's own; 'm' goes down. -/
theorem at_loop {ι : Type} {c : Code} (I : ι → Ev) (SS : ι → St) (pre : ι → Prop) (m : ι → Nat)
    (hbeg : At w0 X0 n E st (fun a w => ∃ x, pre x ∧ Rel w0 X0 n (I x) (SS x) a w))
    (hround : ∀ x, pre x → At w0 X0 n (I x) (SS x) (Pw ds (c.wpIn (rF r) 0 P (Exit.then (LpI w0 X0 n ds I SS pre m (m x)) Q)))) :
    At w0 X0 n E st (Pw ds ((Code.loop c).wpIn (rF r) 0 P Q)) := by
  intro a w hr b k cs hro hb hroom
  have key : ∀ q a w x, m x = q → pre x → Rel w0 X0 n (I x) (SS x) a w →
      ∃ e a' w', Q e a' w' ∧ ArrivesIn (Machine.fenced P (rF r)) P (lone (b.atR (a.wd ds) (.code c :: .inLoop c :: k)) cs w) b k cs e a' w' := by
    intro q
    induction q using Nat.strongRecOn with
    | _ q ih =>
      intro a w x hm hp hR
      obtain ⟨e, a₁, w₁, hq, harr⟩ := hround x hp a w hR b (.inLoop c :: k) cs hro hb hroom
      cases e with
      | normal =>
        obtain ⟨a0, rfl, y, hpy, hlt, hRy⟩ := hq
        obtain ⟨e₂, a₂, w₂, hq₂, harr₂⟩ := ih (m y) (hm ▸ hlt) a0 w₁ y rfl hpy hRy
        exact ⟨e₂, a₂, w₂, hq₂, .of_steps (StepsIn.trans harr (.one (fenced_calm hb hroom rfl) stepR_inLoop)) harr₂⟩
      | exit id => exact ⟨_, a₁, w₁, hq, .pass (x := .inLoop c) rfl (fun _ _ => .inl (by simp)) harr⟩
      | goto l => exact ⟨_, a₁, w₁, hq, .pass (x := .inLoop c) rfl (fun _ _ => .inl (by simp)) harr⟩
      | ret => exact ⟨_, a₁, w₁, hq, .pass (x := .inLoop c) rfl (fun _ _ => .inl (by simp)) harr⟩
      | panic ch => exact ⟨_, a₁, w₁, hq, .pass (x := .inLoop c) rfl (fun _ _ => .inl (by simp)) harr⟩
      | outgrown => exact ⟨_, a₁, w₁, hq, .pass (x := .inLoop c) rfl (fun _ _ => .inl (by simp)) harr⟩
  obtain ⟨x, hp, hRx⟩ := hbeg a w hr
  obtain ⟨e, a', w', hq, harr⟩ := key _ a w x rfl hp hRx
  exact ⟨e, a', w', hq, .of_steps (.one (fenced_calm hb hroom rfl) stepR_loop) harr⟩
end rules
end Go.Abs
