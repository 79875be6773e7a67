/-
  The second engine, part L: a row's arguments opened into values told without addresses. Conditions: none; nothing of any program stands here.
-/
import Derived.Test.YtjnbpinnjbdnpaaAbsK
import Derived.ProofKit
import Derived.Deep.Slices
import Derived.LaidMore
import Derived.OpenShut
namespace Go.Abs
open Go Go.Eng

/-- What data a parameter's type has. -/
inductive D where
  | int (k : IntKind) | bool | str | sl (e : D) | arr (n : Nat) (e : D) | st (fs : List D)
  deriving Inhabited

mutual
def D.cells : D → Nat
  | .int _ => 1 | .bool => 1 | .str => 1 | .sl _ => 1
  | .arr n e => n * e.cells
  | .st fs => D.cellsL fs
def D.cellsL : List D → Nat
  | [] => 0
  | d :: ds => d.cells + D.cellsL ds
end
mutual
/-- The cells of such data. -/
def Den : D → List A → Prop
  | .int k, as => ∃ n, (Lit.int k n).wf = true ∧ as = [.i k n]
  | .bool, as => ∃ b, as = [.b b]
  | .str, as => ∃ l : List UInt8, l.length ≤ maxLen ∧ as = [.s l]
  | .sl e, as => ∃ ls : List (List A), (∀ x ∈ ls, Den e x) ∧ ls.length ≤ maxLen ∧ as = [.fz ls.length ls.flatten]
  | .arr n e, as => ∃ ls : List (List A), (∀ x ∈ ls, Den e x) ∧ ls.length = n ∧ as = ls.flatten
  | .st fs, as => DenL fs as
def DenL : List D → List A → Prop
  | [], as => as = []
  | d :: ds, as => ∃ x y, Den d x ∧ DenL ds y ∧ as = x ++ y
end
def isInt (k : IntKind) : Option TypeDesc → Bool
  | some (.int j) => Nat.beq (knum j) (knum k)
  | _ => false
def isBool : Option TypeDesc → Bool
  | some .bool => true
  | _ => false
def isStr : Option TypeDesc → Bool
  | some .string => true
  | _ => false
mutual
/-- The type has this data. -/
def fitD (P : Program) : D → TypeId → Bool
  | .int k, t => isInt k (P.underlying t)
  | .bool, t => isBool (P.underlying t)
  | .str, t => isStr (P.underlying t)
  | .sl e, t => match P.underlying t with | some (.slice u) => fitD P e u && Nat.beq (P.cellsOf u) e.cells && Nat.blt 0 e.cells | _ => false
  | .arr n e, t => match P.underlying t with | some (.array m u) => Nat.beq m n && fitD P e u && Nat.beq (P.cellsOf u) e.cells && Nat.beq (P.cellsOf t) (n * e.cells) | _ => false
  | .st ds, t => match P.underlying t with | some (.struct fs) => fitL P ds fs.toList 0 && Nat.beq (P.cellsOf t) (D.cellsL ds) | _ => false
def fitL (P : Program) : List D → List Field → Nat → Bool
  | [], [], _ => true
  | d :: ds, f :: fs, o => Nat.beq f.offset o && Nat.beq (P.cellsOf f.type) d.cells && fitD P d f.type && fitL P ds fs (o + d.cells)
  | _, _, _ => false
end

theorem cell_spot {w : World} {a : Addr} {v : Value} (h : w.cell? a = some v) : a.spot = none := by
  unfold World.cell? at h
  split at h
  · split at h
    · cases h
    · rename_i hs; simpa using hs
  · cases h
theorem add_spot {a : Addr} (h : (a.add 0).spot = none) : a.spot = none := by
  simpa [Addr.add] using h
theorem add_plain {a : Addr} (h : a.spot = none) (i : Nat) : a.add i = ⟨a.block, a.off + i, none⟩ := by
  unfold Addr.add
  cases a
  simp at h
  subst h
  simp

/-- All cells that there are. -/
def XW (w : World) : Xs := fun b o => ∃ v, w.cell? ⟨b, o, none⟩ = some v
theorem XW_lt {w : World} : ∀ b o, XW w b o → b < w.heap.size := by
  rintro b o ⟨v, h⟩
  unfold World.cell? at h
  split at h
  · rename_i c e q hb
    obtain ⟨hlt, _⟩ := Array.getElem?_eq_some_iff.1 hb
    exact hlt
  · cases h

section
variable {H : Type} {enc : TypeId × Value → H} {P : Program} {w : World} {base : Nat} {held : Bool}

theorem VM_app {X : Xs} : ∀ {cs ds : List A} {b o : Nat}, VM X w cs b o → VM X w ds b (o + cs.length) → VM X w (cs ++ ds) b o
  | [], ds, b, o, _, h => by simpa using h
  | c :: cs, ds, b, o, h, h' => by
    simp only [VM, List.cons_append] at h ⊢
    refine ⟨h.1, h.2.1, VM_app h.2.2 ?_⟩
    rw [show o + 1 + cs.length = o + (c :: cs).length by simp; omega]
    exact h'
/-- Values in cells one behind the other. -/
theorem VM_cells {as : List A} {cs : List Value} {b o : Nat} (hv : VS (XW w) w no as cs) (h1 : ∀ x ∈ cs, x.oneCell' = true) (hc : ∀ i, i < cs.length → w.cell? ⟨b, o + i, none⟩ = cs[i]?) : VM (XW w) w as b o := by
  refine VM_of fun j c hj => ?_
  obtain ⟨u, hu, hvu⟩ := VS_get hv hj
  have hlt := (List.getElem?_eq_some_iff.1 hu).1
  have hcell := hc j hlt
  rw [hu] at hcell
  exact ⟨⟨u, hcell⟩, u, hcell, hvu, h1 _ (List.mem_of_getElem? hu)⟩
theorem VM_rows {sz : Nat} {b : Nat} {W : Nat → List A} (hl : ∀ i, (W i).length = sz ∨ True) : ∀ (n o : Nat), (∀ i, i < n → (W i).length = sz ∧ VM (XW w) w (W i) b (o + i * sz)) → VM (XW w) w ((List.range n).map W).flatten b o
  | 0, o, _ => by simp [VM]
  | n + 1, o, h => by
    rw [List.range_succ, List.map_append, List.flatten_append]
    refine VM_app (VM_rows hl n o fun i hi => h i (by omega)) ?_
    have e : ((List.range n).map W).flatten.length = n * sz := by
      have : ∀ m, m ≤ n → ((List.range m).map W).flatten.length = m * sz := by
        intro m
        induction m with
        | zero => intro _; simp
        | succ m ih =>
          intro hm
          rw [List.range_succ, List.map_append, List.flatten_append, List.length_append, ih (by omega)]
          simp only [List.map_cons, List.map_nil, List.flatten_cons, List.flatten_nil, List.append_nil]
          rw [(h m (by omega)).1, Nat.succ_mul]
      exact this n (Nat.le_refl _)
    rw [e]
    simpa using (h n (by omega)).2
theorem isInt_ok {k : IntKind} {x : Option TypeDesc} (h : isInt k x = true) : x = some (.int k) := by
  unfold isInt at h
  split at h
  · rename_i j
    have : knum j = knum k := Nat.eq_of_beq_eq_true h
    have : j = k := by cases j <;> cases k <;> first | rfl | (simp [knum] at this)
    rw [this]
  · cases h
theorem isBool_ok {x : Option TypeDesc} (h : isBool x = true) : x = some .bool := by
  unfold isBool at h; split at h
  · rfl
  · cases h
theorem isStr_ok {x : Option TypeDesc} (h : isStr x = true) : x = some .string := by
  unfold isStr at h; split at h
  · rfl
  · cases h

theorem VS_flatten {X : Xs} {β : Bm} : ∀ {ls : List (List A)} {us : List (List Value)}, ls.length = us.length → (∀ (i : Nat) (l : List A) (u : List Value), ls[i]? = some l → us[i]? = some u → VS X w β l u) → VS X w β ls.flatten us.flatten
  | [], [], _, _ => VS_nil
  | l :: ls, u :: us, hl, h => VS_app (h 0 l u rfl rfl) (VS_flatten (by simpa using hl) fun i l u h1 h2 => h (i + 1) l u (by simpa using h1) (by simpa using h2))

/-- A list in parts of one length. -/
theorem flat_parts {α : Type} {sz : Nat} : ∀ (n : Nat) (l : List α), l.length = n * sz → ((List.range n).map fun i => (l.drop (i * sz)).take sz).flatten = l
  | 0, l, h => by
    have : l = [] := List.eq_nil_of_length_eq_zero (by simpa using h)
    subst this; rfl
  | n + 1, l, h => by
    have hs : (n + 1) * sz = n * sz + sz := Nat.succ_mul n sz
    rw [List.range_succ, List.map_append, List.flatten_append]
    have e : ((List.range n).map fun i => (l.drop (i * sz)).take sz) = (List.range n).map fun i => ((l.take (n * sz)).drop (i * sz)).take sz := by
      refine List.map_congr_left fun i hi => ?_
      have hi' : i < n := by simpa using hi
      rw [List.drop_take, List.take_take]
      congr 1
      have : i * sz + sz ≤ n * sz := by rw [← Nat.succ_mul]; exact Nat.mul_le_mul_right sz hi'
      omega
    rw [e, flat_parts n (l.take (n * sz)) (by rw [List.length_take, h]; omega)]
    simp only [List.map_cons, List.map_nil, List.flatten_cons, List.flatten_nil, List.append_nil]
    rw [List.take_of_length_le (l := l.drop (n * sz)) (by rw [List.length_drop, h]; omega)]
    exact List.take_append_drop _ _

mutual
theorem Den_len : ∀ (d : D) (as : List A), Den d as → as.length = d.cells
  | .int k, as, h => by simp only [Den] at h; obtain ⟨n, _, rfl⟩ := h; rfl
  | .bool, as, h => by simp only [Den] at h; obtain ⟨n, rfl⟩ := h; rfl
  | .str, as, h => by simp only [Den] at h; obtain ⟨n, _, rfl⟩ := h; rfl
  | .sl e, as, h => by simp only [Den] at h; obtain ⟨n, _, _, rfl⟩ := h; rfl
  | .arr n e, as, h => by
    simp only [Den] at h
    obtain ⟨ls, h1, h2, rfl⟩ := h
    subst h2
    have : ∀ ls : List (List A), (∀ x ∈ ls, Den e x) → ls.flatten.length = ls.length * e.cells := by
      intro ls
      induction ls with
      | nil => intro _; simp
      | cons l ls ih =>
        intro h
        rw [List.flatten_cons, List.length_append, Den_len e l (h l (.head _)), ih fun x hx => h x (.tail _ hx), List.length_cons, Nat.succ_mul]; omega
    exact this ls h1
  | .st fs, as, h => by simp only [Den] at h; exact DenL_len fs as h
theorem DenL_len : ∀ (ds : List D) (as : List A), DenL ds as → as.length = D.cellsL ds
  | [], as, h => by simp only [DenL] at h; subst h; rfl
  | d :: ds, as, h => by
    simp only [DenL] at h
    obtain ⟨x, y, h1, h2, rfl⟩ := h
    rw [List.length_append, Den_len d x h1, DenL_len ds y h2]; rfl
end

mutual
theorem open_D : ∀ (d : D) (t : TypeId) (fuel : Nat) (cs : List Value) (x : DataW H × List MemPlace), fitD P d t = true → DataW.trod enc P w base (fun _ => true) held fuel t cs = some x → ∃ as, Den d as ∧ VS (XW w) w no as cs ∧ ∀ u ∈ cs, u.oneCell' = true
  | .int k, t, fuel, cs, x, hf, h => by
    obtain ⟨n, rfl, _, hw⟩ := DataW.trod_int (isInt_ok hf) h
    exact ⟨[.i k n], ⟨n, hw, rfl⟩, VS_cons (by simp [V]) VS_nil, by simp [Value.oneCell']⟩
  | .bool, t, fuel, cs, x, hf, h => by
    obtain ⟨b, rfl, _⟩ := DataW.trod_bool (isBool_ok hf) h
    exact ⟨[.b b], ⟨b, rfl⟩, VS_cons (by simp [V]) VS_nil, by simp [Value.oneCell']⟩
  | .str, t, fuel, cs, x, hf, h => by
    obtain ⟨s, rfl, _, hs⟩ := DataW.trod_string (isStr_ok hf) h
    exact ⟨[.s s.data.toList], ⟨_, by simpa using hs, rfl⟩, VS_cons (by simp [V]) VS_nil, by simp [Value.oneCell']⟩
  | .sl e, t, fuel, cs, x, hf, h => by
    simp only [fitD] at hf
    split at hf
    · rename_i u ht
      simp only [Bool.and_eq_true] at hf
      obtain ⟨⟨hf1, hf2⟩, hf3⟩ := hf
      have hsz : P.cellsOf u = e.cells := Nat.eq_of_beq_eq_true hf2
      have hpos : 0 < e.cells := Nat.lt_of_succ_le (by simpa [Nat.blt] using hf3)
      rcases Deep.open_slice ht h with ⟨rfl, _⟩ | ⟨a, len, cap, m, n, DD, Pl, rfl, _, hl, hm, hmm, _, hx⟩
      · refine ⟨[.fz 0 []], ⟨[], (fun x hx => by cases hx), Nat.zero_le _, rfl⟩, VS_cons ?_ VS_nil, by simp [Value.oneCell']⟩
        simp only [V]
        exact ⟨none, 0, rfl, Nat.le_refl _, Nat.zero_le _, fun _ => rfl, (fun h => absurd h (Nat.lt_irrefl _)), by simp [VM]⟩
      · simp only [if_true] at hmm
        subst hmm
        have hV : ∀ i, i < m → ∃ q : List A × List Value, (Den e q.1 ∧ VS (XW w) w no q.1 q.2 ∧ ∀ u ∈ q.2, u.oneCell' = true) ∧ w.cells? base (a.add (i * P.cellsOf u)) (P.cellsOf u) = some q.2 := fun i hi => by
          obtain ⟨cs', h1, h2⟩ := hx i hi
          obtain ⟨as, g1, g2, g3⟩ := open_D e u n cs' _ hf1 h2
          exact ⟨(as, cs'), ⟨g1, g2, g3⟩, h1⟩
        obtain ⟨W, hW⟩ := Deep.choose_lt (α := List A × List Value) (p := fun i q => (Den e q.1 ∧ VS (XW w) w no q.1 q.2 ∧ ∀ u ∈ q.2, u.oneCell' = true) ∧ w.cells? base (a.add (i * P.cellsOf u)) (P.cellsOf u) = some q.2) hV
        rw [hsz] at hW
        have hspot : 0 < m → a.spot = none := fun h0 => by
          obtain ⟨_, _, hc⟩ := World.cells?_some (hW 0 h0).2
          have hln : (W 0).2.length = e.cells := by rw [VS_len (hW 0 h0).1.2.1, Den_len e _ (hW 0 h0).1.1]
          have := hc 0 (by omega)
          rw [List.getElem?_eq_getElem (by omega)] at this
          have h1 := cell_spot this
          rw [Nat.zero_mul] at h1
          exact add_spot (add_spot h1)
        refine ⟨[.fz len ((List.range len).map fun i => (W i).1).flatten], ⟨(List.range len).map fun i => (W i).1, ?_, by simp; omega, by simp⟩, VS_cons ?_ VS_nil, by simp [Value.oneCell']⟩
        · intro x hx
          obtain ⟨i, hi, rfl⟩ := List.mem_map.1 hx
          exact (hW i (by have := List.mem_range.1 hi; omega)).1.1
        · simp only [V]
          refine ⟨some a, m, rfl, hl, hm, (fun h => by cases h), (fun h0 x hx => by cases hx; exact hspot h0), ?_⟩
          refine VM_rows (sz := e.cells) (W := fun i => (W i).1) (fun _ => .inr trivial) len _ fun i hi => ?_
          obtain ⟨⟨g1, g2, g3⟩, g4⟩ := hW i (by omega)
          obtain ⟨_, hlen, hc⟩ := World.cells?_some g4
          refine ⟨Den_len e _ g1, VM_cells g2 g3 fun k hk => ?_⟩
          have h2 := hc k (by omega)
          have hs := hspot (by omega)
          rw [add_plain hs, add_plain rfl] at h2
          exact h2
    · cases hf
  | .arr k e, t, fuel, cs, x, hf, h => by
    simp only [fitD] at hf
    split at hf
    · rename_i m u ht
      simp only [Bool.and_eq_true] at hf
      obtain ⟨⟨⟨hm, hf1⟩, hf2⟩, hf3⟩ := hf
      have hmk : m = k := Nat.eq_of_beq_eq_true hm
      subst hmk
      have hsz : P.cellsOf u = e.cells := Nat.eq_of_beq_eq_true hf2
      have hst : P.cellsOf t = m * e.cells := Nat.eq_of_beq_eq_true hf3
      obtain ⟨xs, n, _, _, hl, hxl, hx⟩ := DataW.trod_array ht h
      rw [hsz] at hx
      rw [hst] at hl
      have hV : ∀ i, i < m → ∃ as : List A, Den e as ∧ VS (XW w) w no as ((cs.drop (i * e.cells)).take e.cells) ∧ ∀ u ∈ (cs.drop (i * e.cells)).take e.cells, u.oneCell' = true := fun i hi => by
        have := hx i hi
        rw [List.getElem?_eq_getElem (by omega)] at this
        exact open_D e u n _ _ hf1 this
      obtain ⟨W, hW⟩ := Deep.choose_lt (α := List A) (p := fun i as => Den e as ∧ VS (XW w) w no as ((cs.drop (i * e.cells)).take e.cells) ∧ ∀ u ∈ (cs.drop (i * e.cells)).take e.cells, u.oneCell' = true) hV
      refine ⟨((List.range m).map W).flatten, ⟨(List.range m).map W, ?_, by simp, rfl⟩, ?_, ?_⟩
      · intro x hx
        obtain ⟨i, hi, rfl⟩ := List.mem_map.1 hx
        exact (hW i (List.mem_range.1 hi)).1
      · have e1 := flat_parts m cs hl
        rw [← e1]
        refine VS_flatten (by simp) fun i l u h1 h2 => ?_
        rw [List.getElem?_map] at h1 h2
        obtain ⟨j, hj, rfl⟩ := Option.map_eq_some_iff.1 h1
        rw [hj] at h2
        simp only [Option.map_some, Option.some.injEq] at h2
        subst h2
        exact (hW j (by have := List.mem_range.1 (List.mem_of_getElem? hj); omega)).2.1
      · intro u hu
        rw [← flat_parts m cs hl] at hu
        obtain ⟨l, hl', hu⟩ := List.mem_flatten.1 hu
        obtain ⟨i, hi, rfl⟩ := List.mem_map.1 hl'
        exact (hW i (List.mem_range.1 hi)).2.2 u hu
    · cases hf
  | .st ds, t, fuel, cs, x, hf, h => by
    simp only [fitD] at hf
    split at hf
    · rename_i fs ht
      simp only [Bool.and_eq_true] at hf
      have hst : P.cellsOf t = D.cellsL ds := Nat.eq_of_beq_eq_true hf.2
      obtain ⟨xs, n, _, _, hl, hxl, hx⟩ := DataW.trod_struct ht h
      obtain ⟨as, g1, g2, g3⟩ := open_L ds fs.toList 0 n cs hf.1 (by rw [hl, hst]) (fun i f hi => by
        have hi' : fs[i]? = some f := by simpa using hi
        have := hx i f hi'
        have hlt : i < xs.length := by rw [hxl]; exact (Array.getElem?_eq_some_iff.1 hi').1
        rw [List.getElem?_eq_getElem hlt] at this
        exact ⟨_, by rw [Nat.sub_zero]; exact this⟩)
      exact ⟨as, g1, g2, g3⟩
    · cases hf
theorem open_L : ∀ (ds : List D) (fs : List Field) (o n : Nat) (cs : List Value), fitL P ds fs o = true → cs.length = D.cellsL ds → (∀ (i : Nat) (f : Field), fs[i]? = some f → ∃ y : DataW H × List MemPlace, DataW.trod enc P w base (fun _ => true) held n f.type ((cs.drop (f.offset - o)).take (P.cellsOf f.type)) = some y) → ∃ as, DenL ds as ∧ VS (XW w) w no as cs ∧ ∀ u ∈ cs, u.oneCell' = true
  | [], fs, o, n, cs, hf, hl, _ => by
    have : cs = [] := List.eq_nil_of_length_eq_zero hl
    subst this
    exact ⟨[], rfl, VS_nil, (fun u h => by cases h)⟩
  | d :: ds, [], o, n, cs, hf, hl, _ => by simp [fitL] at hf
  | d :: ds, f :: fs, o, n, cs, hf, hl, h => by
    simp only [fitL, Bool.and_eq_true] at hf
    obtain ⟨⟨⟨h1, h2⟩, h3⟩, h4⟩ := hf
    have e1 : f.offset = o := Nat.eq_of_beq_eq_true h1
    have e2 : P.cellsOf f.type = d.cells := Nat.eq_of_beq_eq_true h2
    have hl' : cs.length = d.cells + D.cellsL ds := hl
    obtain ⟨y, hy⟩ := h 0 f rfl
    rw [e1, e2, Nat.sub_self, List.drop_zero] at hy
    obtain ⟨as, g1, g2, g3⟩ := open_D d f.type n _ y h3 hy
    have hfo := fitL_off ds fs (o + d.cells) h4
    obtain ⟨bs, k1, k2, k3⟩ := open_L ds fs (o + d.cells) n (cs.drop d.cells) h4 (by rw [List.length_drop]; omega) (fun i f' hi => by
      obtain ⟨y, hy⟩ := h (i + 1) f' (by simpa using hi)
      have hoff := hfo f' (List.mem_of_getElem? hi)
      refine ⟨y, ?_⟩
      rw [List.drop_drop, show d.cells + (f'.offset - (o + d.cells)) = f'.offset - o by omega]
      exact hy)
    refine ⟨as ++ bs, ⟨as, bs, g1, k1, rfl⟩, ?_, ?_⟩
    · have := VS_app g2 k2
      rwa [List.take_append_drop] at this
    · intro u hu
      rw [← List.take_append_drop d.cells cs] at hu
      exact (List.mem_append.1 hu).elim (g3 u) (k3 u)
theorem fitL_off : ∀ (ds : List D) (fs : List Field) (o : Nat), fitL P ds fs o = true → ∀ f ∈ fs, o ≤ f.offset
  | [], [], o, _, f, hm => by cases hm
  | [], _ :: _, o, h, f, hm => by simp [fitL] at h
  | _ :: _, [], o, h, f, hm => by cases hm
  | d :: ds, f' :: fs, o, h, f, hm => by
    simp only [fitL, Bool.and_eq_true] at h
    have e1 : f'.offset = o := Nat.eq_of_beq_eq_true h.1.1.1
    rcases List.mem_cons.1 hm with rfl | hm
    · omega
    · have := fitL_off ds fs (o + d.cells) h.2 f hm; omega
end

/-- What an argument is, its cells known. -/
def argA : D → List A → A
  | .arr _ _, as => .ag as
  | .st _, as => .ag as
  | _, as => as.getD 0 un
/-- A row's argument. -/
theorem row_D {t : TypeId} {r : Reach} {b0 : Nat} {v : Value} {x : DataW H} {ps : List MemPlace} (d : D) (hf : fitD P d t = true) (hval : Value.okWide P w r b0 t v) (h : DataW.Trod enc P w base (fun _ => true) held t v x ps) : ∃ as, Den d as ∧ V (XW w) w no (argA d as) v := by
  obtain ⟨fuel, hfu⟩ := h
  obtain ⟨as, g1, g2, g3⟩ := open_D d t fuel _ _ hf hfu
  refine ⟨as, g1, ?_⟩
  have agg : ∀ cs : Array Value, v = .agg cs → V (XW w) w no (.ag as) v := by
    rintro cs rfl
    simp only [V]
    exact ⟨cs.toList, by simp, g2, g3⟩
  have scal : ∀ a, as = [a] → v.cells = #[v] → V (XW w) w no (as.getD 0 un) v := by
    rintro a rfl hv
    rw [hv] at g2
    simp only [VS] at g2
    obtain ⟨u, r, hu, hvu, rfl⟩ := g2
    simp only [List.cons.injEq, and_true] at hu
    subst hu
    exact hvu
  cases d with
  | int k =>
    obtain ⟨n, rfl⟩ := WideShapes.okWide_int (isInt_ok hf) hval
    simp only [Den] at g1
    obtain ⟨m, _, rfl⟩ := g1
    exact scal _ rfl rfl
  | bool =>
    obtain ⟨n, rfl⟩ := WideShapes.okWide_bool (isBool_ok hf) hval
    simp only [Den] at g1
    obtain ⟨m, rfl⟩ := g1
    exact scal _ rfl rfl
  | str =>
    obtain ⟨n, rfl⟩ := WideShapes.okWide_string (isStr_ok hf) hval
    simp only [Den] at g1
    obtain ⟨m, _, rfl⟩ := g1
    exact scal _ rfl rfl
  | sl e =>
    simp only [fitD] at hf
    split at hf
    · rename_i u ht
      obtain ⟨a, len, cap, rfl⟩ := WideShapes.okWide_slice ht hval
      simp only [Den] at g1
      obtain ⟨m, _, _, rfl⟩ := g1
      exact scal _ rfl rfl
    · cases hf
  | arr n e =>
    simp only [fitD] at hf
    split at hf
    · rename_i m u ht
      unfold Value.okWide at hval
      simp only [ht] at hval
      obtain ⟨cs, rfl, _, _⟩ := hval
      exact agg cs rfl
    · cases hf
  | st ds =>
    simp only [fitD] at hf
    split at hf
    · rename_i fs ht
      unfold Value.okWide at hval
      simp only [ht] at hval
      obtain ⟨cs, rfl, _, _⟩ := hval
      exact agg cs rfl
    · cases hf

/-- What was read at the start is read so behind a call that turned nothing. -/
theorem args_stay (hl : laidOutB P = true) {W W' : World} (hb : RowKit.Below W.heap.size W W') : ∀ (ts : List TypeId) (vs : List Value) (ds : List (DataW H)) (p : List MemPlace), (ts.all fun t => P.readableRec t && decide (t < P.types.size)) = true →
    DataW.TrodAll enc P W 0 (fun _ => true) true ts vs ds p → (∀ x ∈ p, x.block < W.heap.size) → DataW.TrodAll enc P W' 0 (fun b => decide (b < W.heap.size)) true ts vs ds p
  | [], vs, ds, p, _, h, _ => by
    obtain ⟨rfl, rfl, rfl⟩ := ChangeShapes.trodAll_nil h
    rfl
  | t :: ts, vs, ds, p, hall, h, hlt => by
    simp only [List.all_cons, Bool.and_eq_true, decide_eq_true_eq] at hall
    obtain ⟨v, vs', d, ds', a, b, rfl, rfl, rfl, h1, h2⟩ := ChangeShapes.trodAll_cons h
    exact ⟨a, b, RowKit.Below.trod hl hall.1.1 hall.1.2 h1 hb (fun x hx => hlt x (by simp [hx])), args_stay hl hb ts vs' ds' b hall.2 h2 (fun x hx => hlt x (by simp [hx])), rfl⟩

/-- A law's contract, at a row's arguments. -/
theorem con_true {f : FuncId} {as : List A} {us : List Value} {W : World} (hc : Con P f as (Ret (.b true))) (hg : GL (XW W) W) (hv : VS (XW W) W no as us) :
    Calls P f us.toArray W fun e W' => e = .returned (.bool true) ∧ RowKit.Below W.heap.size W W' := by
  have h := hc W (XW W) no us (fun _ _ => rfl) XW_lt hg (fun id cs h => by cases h) (fun i j ci cj b M N _ h => by cases h) hv
  refine h.calls.mono fun e W' he => ?_
  obtain ⟨v, rfl, r, β', X', st', hr, _, _, hm, hV⟩ := he
  have : r = .b true := hr
  subst this
  simp only [V] at hV
  subst hV
  have kb := hm.below
  refine ⟨rfl, kb.os, kb.tape, kb.output, kb.size, fun k hk => kb.block k hk ?_⟩
  rintro ⟨id, cs, N, h, _⟩
  cases h
/-- An array of integers that reads as a datum. -/
theorem arr_lits {t e : TypeId} {n : Nat} {k : IntKind} {fuel : Nat} {cs : List Value} {l : List Int} {p : List MemPlace} {sp : Nat → Bool} {enc : TypeId × Value → Unit} (ht : P.underlying t = some (.array n e)) (he : P.underlying e = some (.int k)) (hc : P.cellsOf e = 1) (hct : P.cellsOf t = n)
    (h : DataW.trod enc P w base sp held fuel t cs = some (.agg (l.map fun i => .lit (.int k i)), p)) : cs = l.map (.int k) := by
  obtain ⟨xs, m, _, hx, hl, hxl, hel⟩ := DataW.trod_array ht h
  simp only [Prod.mk.injEq, DataW.agg.injEq] at hx
  have hll : l.length = n := by have := congrArg List.length hx.1; simp at this; omega
  rw [hct] at hl
  refine List.ext_getElem (by simp; omega) fun i h1 h2 => ?_
  have hi : i < n := by omega
  have := hel i hi
  rw [hc, Nat.mul_one, List.drop_eq_getElem_cons h1, List.take_succ_cons, List.take_zero, List.getElem?_eq_getElem (by omega)] at this
  obtain ⟨q, e1, e2, _⟩ := DataW.trod_int he this
  simp only [List.cons.injEq, and_true] at e1
  rw [List.getElem_map, e1]
  have h3 := congrArg (fun z : List (DataW Unit) => z[i]?) hx.1
  simp only [List.getElem?_map] at h3
  rw [List.getElem?_eq_getElem (by simpa using h2), List.getElem?_eq_getElem (by omega), Option.map_some, Option.map_some, e2] at h3
  simp only [Option.some.injEq, DataW.lit.injEq, Lit.int.injEq, true_and] at h3
  rw [h3]

/-! Typed views. -/
theorem den_map {α : Type} {e : D} {f : α → List A} {p : α → Prop} (h : ∀ x, Den e x → ∃ y, x = f y ∧ p y) : ∀ ls : List (List A), (∀ x ∈ ls, Den e x) → ∃ ys : List α, ls = ys.map f ∧ ∀ y ∈ ys, p y
  | [], _ => ⟨[], rfl, fun y hy => by cases hy⟩
  | x :: ls, hx => by
    obtain ⟨y, rfl, hy⟩ := h x (hx x (.head _))
    obtain ⟨ys, rfl, hys⟩ := den_map h ls fun z hz => hx z (.tail _ hz)
    exact ⟨y :: ys, rfl, fun z hz => (List.mem_cons.1 hz).elim (fun e => e ▸ hy) (hys z)⟩
theorem flat_sing {α : Type} (f : α → A) (l : List α) : (l.map fun x => [f x]).flatten = l.map f := by
  induction l with
  | nil => rfl
  | cons x l ih => simp [ih]
theorem den_u8 (as : List A) (h : Den (.int .u8) as) : ∃ b : UInt8, as = [u8 b] ∧ True := by
  simp only [Den] at h
  obtain ⟨n, hw, rfl⟩ := h
  refine ⟨UInt8.ofNat n.toNat, ?_, trivial⟩
  simp only [Lit.wf, Bool.and_eq_true, decide_eq_true_eq] at hw
  have h1 : IntKind.u8.min = 0 := rfl
  have h2 : IntKind.u8.max = 255 := rfl
  rw [h1, h2] at hw
  have : ((UInt8.ofNat n.toNat).toNat : Int) = n := by
    rw [UInt8.toNat_ofNat', Nat.mod_eq_of_lt (by omega)]; omega
  rw [u8, this]
theorem den_int (as : List A) (h : Den (.int .i64) as) : ∃ n : Int, as = [.i .i64 n] ∧ (-9223372036854775808 ≤ n ∧ n ≤ 9223372036854775807) := by
  simp only [Den] at h
  obtain ⟨n, hw, rfl⟩ := h
  simp only [Lit.wf, Bool.and_eq_true, decide_eq_true_eq] at hw
  have h1 : IntKind.i64.min = -9223372036854775808 := rfl
  have h2 : IntKind.i64.max = 9223372036854775807 := rfl
  rw [h1, h2] at hw
  exact ⟨n, rfl, hw⟩
theorem den_str (as : List A) (h : Den .str as) : ∃ l : List UInt8, as = [.s l] ∧ l.length ≤ maxLen := by
  simp only [Den] at h
  obtain ⟨l, h1, rfl⟩ := h
  exact ⟨l, rfl, h1⟩
/-- An array of bytes. -/
theorem den_arr8 {n : Nat} (as : List A) (h : Den (.arr n (.int .u8)) as) : ∃ d : List UInt8, as = d.map u8 ∧ d.length = n := by
  simp only [Den] at h
  obtain ⟨ls, h1, h2, rfl⟩ := h
  obtain ⟨ys, rfl, _⟩ := den_map den_u8 ls h1
  exact ⟨ys, flat_sing _ _, by simpa using h2⟩
/-- A slice of bytes. -/
theorem den_bytes (as : List A) (h : Den (.sl (.int .u8)) as) : ∃ b : List UInt8, as = [.fz b.length (b.map u8)] ∧ b.length ≤ maxLen := by
  simp only [Den] at h
  obtain ⟨ls, h1, h2, rfl⟩ := h
  obtain ⟨ys, rfl, _⟩ := den_map den_u8 ls h1
  exact ⟨ys, by rw [flat_sing, List.length_map], by simpa using h2⟩
/-- A slice of integers. -/
theorem den_ints (as : List A) (h : Den (.sl (.int .i64)) as) : ∃ b : List Int, as = [.fz b.length (b.map (A.i .i64))] ∧ b.length ≤ maxLen ∧ ∀ n ∈ b, -9223372036854775808 ≤ n ∧ n ≤ 9223372036854775807 := by
  simp only [Den] at h
  obtain ⟨ls, h1, h2, rfl⟩ := h
  obtain ⟨ys, rfl, h3⟩ := den_map den_int ls h1
  exact ⟨ys, by rw [flat_sing, List.length_map], by simpa using h2, h3⟩
/-- A slice of arrays of bytes. -/
theorem den_arrs8 {n : Nat} (as : List A) (h : Den (.sl (.arr n (.int .u8))) as) : ∃ L : List (List UInt8), as = [.fz L.length (L.flatten.map u8)] ∧ L.length ≤ maxLen ∧ ∀ x ∈ L, x.length = n := by
  simp only [Den] at h
  obtain ⟨ls, h1, h2, rfl⟩ := h
  obtain ⟨ys, rfl, h3⟩ := den_map (f := fun d : List UInt8 => d.map u8) den_arr8 ls (fun x hx => by simp only [Den]; exact h1 x hx)
  exact ⟨ys, by rw [List.length_map, List.map_flatten], by simpa using h2, h3⟩
/-- A slice of slices of bytes. -/
theorem den_rows (as : List A) (h : Den (.sl (.sl (.int .u8))) as) : ∃ L : List (List UInt8), as = [.fz L.length (L.map fun b => A.fz b.length (b.map u8))] ∧ L.length ≤ maxLen ∧ ∀ x ∈ L, x.length ≤ maxLen := by
  simp only [Den] at h
  obtain ⟨ls, h1, h2, rfl⟩ := h
  obtain ⟨ys, rfl, h3⟩ := den_map (f := fun b : List UInt8 => [A.fz b.length (b.map u8)]) den_bytes ls (fun x hx => by simp only [Den]; exact h1 x hx)
  exact ⟨ys, by rw [flat_sing (fun b : List UInt8 => A.fz b.length (b.map u8)), List.length_map], by simpa using h2, h3⟩
end
end Go.Abs
