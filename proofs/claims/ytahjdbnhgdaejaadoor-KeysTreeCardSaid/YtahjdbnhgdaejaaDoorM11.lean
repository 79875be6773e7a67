/-
  The engine, the plain laws and the walks that the rows need, part 11. Conditions: none.
-/
import Derived.Test.YtahjdbnhgdaejaaDoorM10
import Derived.ProofKit
import Derived.Deep.Slices
import Derived.LaidMore
import Derived.OpenShut

/-! AbsL -/
namespace Go.Abs
open Go Go.Eng
/-- What data a parameter's type has. -/
inductive D where
  | int (k : IntKind) | bool | str | sl (e : D) | arr (n : Nat) (e : D) | st (fs : List D)
  deriving Inhabited
mutual
def D.cells : D → Nat
  | .int _ => 1 | .bool => 1 | .str => 1 | .sl _ => 1
  | .arr n e => n * e.cells
  | .st fs => D.cellsL fs
def D.cellsL : List D → Nat
  | [] => 0
  | d :: ds => d.cells + D.cellsL ds
end
mutual
/-- The cells of such data. -/
def Den : D → List A → Prop
  | .int k, aS => ∃ n, (Lit.int k n).wf = true ∧ aS = [.i k n]
  | .bool, aS => ∃ b, aS = [.b b]
  | .str, aS => ∃ l : List UInt8, l.length ≤ maxLen ∧ aS = [.s l]
  | .sl e, aS => ∃ ls : List (List A), (∀ x ∈ ls, Den e x) ∧ ls.length ≤ maxLen ∧ aS = [.fz ls.length ls.flatten]
  | .arr n e, aS => ∃ ls : List (List A), (∀ x ∈ ls, Den e x) ∧ ls.length = n ∧ aS = ls.flatten
  | .st fs, aS => DenL fs aS
def DenL : List D → List A → Prop
  | [], aS => aS = []
  | d :: ds, aS => ∃ x y, Den d x ∧ DenL ds y ∧ aS = x ++ y
end
def isInt (k : IntKind) : Option TypeDesc → Bool
  | some (.int j) => Nat.beq (knum j) (knum k)
  | _ => false
def isBool : Option TypeDesc → Bool
  | some .bool => true
  | _ => false
def isStr : Option TypeDesc → Bool
  | some .string => true
  | _ => false
mutual
/-- The type has this data. -/
def fitD (P : Program) : D → TypeId → Bool
  | .int k, t => isInt k (P.underlying t)
  | .bool, t => isBool (P.underlying t)
  | .str, t => isStr (P.underlying t)
  | .sl e, t => match P.underlying t with | some (.slice u) => fitD P e u && Nat.beq (P.cellsOf u) e.cells && Nat.blt 0 e.cells | _ => false
  | .arr n e, t => match P.underlying t with | some (.array m u) => Nat.beq m n && fitD P e u && Nat.beq (P.cellsOf u) e.cells && Nat.beq (P.cellsOf t) (n * e.cells) | _ => false
  | .st ds, t => match P.underlying t with | some (.struct fs) => fitL P ds fs.toList 0 && Nat.beq (P.cellsOf t) (D.cellsL ds) | _ => false
def fitL (P : Program) : List D → List Field → Nat → Bool
  | [], [], _ => true
  | d :: ds, f :: fs, o => Nat.beq f.offset o && Nat.beq (P.cellsOf f.type) d.cells && fitD P d f.type && fitL P ds fs (o + d.cells)
  | _, _, _ => false
end
theorem cell_spot {w : World} {a : Addr} {v : Value} (h : w.cell? a = some v) : a.spot = none := by
  unfold World.cell? at h
  split at h
  · split at h
    · cases h
    · rename_i hs; simpa using hs
  · cases h
theorem add_spot {a : Addr} (h : (a.add 0).spot = none) : a.spot = none := by
  simpa [Addr.add] using h
theorem add_plain {a : Addr} (h : a.spot = none) (i : Nat) : a.add i = ⟨a.block, a.off + i, none⟩ := by
  unfold Addr.add
  cases a
  simp at h
  subst h
  simp
/-- All cells that there are. -/
def XW (w : World) : Xs := fun b o => ∃ v, w.cell? ⟨b, o, none⟩ = some v
theorem XW_lt {w : World} : ∀ b o, XW w b o → b < w.heap.size := by
  rintro b o ⟨v, h⟩
  unfold World.cell? at h
  split at h
  · rename_i c e q hb
    obtain ⟨hlt, _⟩ := Array.getElem?_eq_some_iff.1 hb
    exact hlt
  · cases h
section
variable {H : Type} {enc : TypeId × Value → H} {P : Program} {w : World} {base : Nat} {held : Bool}
theorem VM_app {X : Xs} : ∀ {cs ds : List A} {b o : Nat}, VM X w cs b o → VM X w ds b (o + cs.length) → VM X w (cs ++ ds) b o
  | [], ds, b, o, _, h => by simpa using h
  | c :: cs, ds, b, o, h, h' => by
    simp only [VM, List.cons_append] at h ⊢
    refine ⟨h.1, h.2.1, VM_app h.2.2 ?_⟩
    rw [show o + 1 + cs.length = o + (c :: cs).length by simp; omega]
    exact h'
/-- Values in cells one behind the other. -/
theorem VM_cells {aS : List A} {cs : List Value} {b o : Nat} (hv : VS (XW w) w no aS cs) (h1 : ∀ x ∈ cs, x.oneCell' = true) (hc : ∀ i, i < cs.length → w.cell? ⟨b, o + i, none⟩ = cs[i]?) : VM (XW w) w aS b o := by
  refine VM_of fun j c hj => ?_
  obtain ⟨u, hu, hvu⟩ := VS_get hv hj
  have hlt := (List.getElem?_eq_some_iff.1 hu).1
  have hcell := hc j hlt
  rw [hu] at hcell
  exact ⟨⟨u, hcell⟩, u, hcell, hvu, h1 _ (List.mem_of_getElem? hu)⟩
theorem VM_rows {sz : Nat} {b : Nat} {W : Nat → List A} (hl : ∀ i, (W i).length = sz ∨ True) : ∀ (n o : Nat), (∀ i, i < n → (W i).length = sz ∧ VM (XW w) w (W i) b (o + i * sz)) → VM (XW w) w ((List.range n).map W).flatten b o
  | 0, o, _ => by simp [VM]
  | n + 1, o, h => by
    rw [List.range_succ, List.map_append, List.flatten_append]
    refine VM_app (VM_rows hl n o fun i hi => h i (by omega)) ?_
    have e : ((List.range n).map W).flatten.length = n * sz := by
      have : ∀ m, m ≤ n → ((List.range m).map W).flatten.length = m * sz := by
        intro m
        induction m with
        | zero => intro _; simp
        | succ m ih =>
          intro hm
          rw [List.range_succ, List.map_append, List.flatten_append, List.length_append, ih (by omega)]
          simp only [List.map_cons, List.map_nil, List.flatten_cons, List.flatten_nil, List.append_nil]
          rw [(h m (by omega)).1, Nat.succ_mul]
      exact this n (Nat.le_refl _)
    rw [e]
    simpa using (h n (by omega)).2
theorem isInt_ok {k : IntKind} {x : Option TypeDesc} (h : isInt k x = true) : x = some (.int k) := by
  unfold isInt at h
  split at h
  · rename_i j
    have : knum j = knum k := Nat.eq_of_beq_eq_true h
    have : j = k := by cases j <;> cases k <;> first | rfl | (simp [knum] at this)
    rw [this]
  · cases h
theorem isBool_ok {x : Option TypeDesc} (h : isBool x = true) : x = some .bool := by
  unfold isBool at h; split at h
  · rfl
  · cases h
theorem isStr_ok {x : Option TypeDesc} (h : isStr x = true) : x = some .string := by
  unfold isStr at h; split at h
  · rfl
  · cases h
theorem VS_flatten {X : Xs} {β : Bm} : ∀ {ls : List (List A)} {us : List (List Value)}, ls.length = us.length → (∀ (i : Nat) (l : List A) (u : List Value), ls[i]? = some l → us[i]? = some u → VS X w β l u) → VS X w β ls.flatten us.flatten
  | [], [], _, _ => VS_nil
  | l :: ls, u :: us, hl, h => VS_app (h 0 l u rfl rfl) (VS_flatten (by simpa using hl) fun i l u h1 h2 => h (i + 1) l u (by simpa using h1) (by simpa using h2))
/-- A list in parts of one length. -/
theorem flat_parts {α : Type} {sz : Nat} : ∀ (n : Nat) (l : List α), l.length = n * sz → ((List.range n).map fun i => (l.drop (i * sz)).take sz).flatten = l
  | 0, l, h => by
    have : l = [] := List.eq_nil_of_length_eq_zero (by simpa using h)
    subst this; rfl
  | n + 1, l, h => by
    have hs : (n + 1) * sz = n * sz + sz := Nat.succ_mul n sz
    rw [List.range_succ, List.map_append, List.flatten_append]
    have e : ((List.range n).map fun i => (l.drop (i * sz)).take sz) = (List.range n).map fun i => ((l.take (n * sz)).drop (i * sz)).take sz := by
      refine List.map_congr_left fun i hi => ?_
      have hi' : i < n := by simpa using hi
      rw [List.drop_take, List.take_take]
      congr 1
      have : i * sz + sz ≤ n * sz := by rw [← Nat.succ_mul]; exact Nat.mul_le_mul_right sz hi'
      omega
    rw [e, flat_parts n (l.take (n * sz)) (by rw [List.length_take, h]; omega)]
    simp only [List.map_cons, List.map_nil, List.flatten_cons, List.flatten_nil, List.append_nil]
    rw [List.take_of_length_le (l := l.drop (n * sz)) (by rw [List.length_drop, h]; omega)]
    exact List.take_append_drop _ _
mutual
theorem Den_len : ∀ (d : D) (aS : List A), Den d aS → aS.length = d.cells
  | .int k, aS, h => by simp only [Den] at h; obtain ⟨n, _, rfl⟩ := h; rfl
  | .bool, aS, h => by simp only [Den] at h; obtain ⟨n, rfl⟩ := h; rfl
  | .str, aS, h => by simp only [Den] at h; obtain ⟨n, _, rfl⟩ := h; rfl
  | .sl e, aS, h => by simp only [Den] at h; obtain ⟨n, _, _, rfl⟩ := h; rfl
  | .arr n e, aS, h => by
    simp only [Den] at h
    obtain ⟨ls, h1, h2, rfl⟩ := h
    subst h2
    have : ∀ ls : List (List A), (∀ x ∈ ls, Den e x) → ls.flatten.length = ls.length * e.cells := by
      intro ls
      induction ls with
      | nil => intro _; simp
      | cons l ls ih =>
        intro h
        rw [List.flatten_cons, List.length_append, Den_len e l (h l (.head _)), ih fun x hx => h x (.tail _ hx), List.length_cons, Nat.succ_mul]; omega
    exact this ls h1
  | .st fs, aS, h => by simp only [Den] at h; exact DenL_len fs aS h
theorem DenL_len : ∀ (ds : List D) (aS : List A), DenL ds aS → aS.length = D.cellsL ds
  | [], aS, h => by simp only [DenL] at h; subst h; rfl
  | d :: ds, aS, h => by
    simp only [DenL] at h
    obtain ⟨x, y, h1, h2, rfl⟩ := h
    rw [List.length_append, Den_len d x h1, DenL_len ds y h2]; rfl
end
mutual
theorem open_D : ∀ (d : D) (t : TypeId) (fuel : Nat) (cs : List Value) (x : DataW H × List MemPlace), fitD P d t = true → DataW.trod enc P w base (fun _ => true) held fuel t cs = some x → ∃ aS, Den d aS ∧ VS (XW w) w no aS cs ∧ ∀ u ∈ cs, u.oneCell' = true
  | .int k, t, fuel, cs, x, hf, h => by
    obtain ⟨n, rfl, _, hw⟩ := DataW.trod_int (isInt_ok hf) h
    exact ⟨[.i k n], ⟨n, hw, rfl⟩, VS_cons (by simp [V]) VS_nil, by simp [Value.oneCell']⟩
  | .bool, t, fuel, cs, x, hf, h => by
    obtain ⟨b, rfl, _⟩ := DataW.trod_bool (isBool_ok hf) h
    exact ⟨[.b b], ⟨b, rfl⟩, VS_cons (by simp [V]) VS_nil, by simp [Value.oneCell']⟩
  | .str, t, fuel, cs, x, hf, h => by
    obtain ⟨s, rfl, _, hs⟩ := DataW.trod_string (isStr_ok hf) h
    exact ⟨[.s s.data.toList], ⟨_, by simpa using hs, rfl⟩, VS_cons (by simp [V]) VS_nil, by simp [Value.oneCell']⟩
  | .sl e, t, fuel, cs, x, hf, h => by
    simp only [fitD] at hf
    split at hf
    · rename_i u ht
      simp only [Bool.and_eq_true] at hf
      obtain ⟨⟨hf1, hf2⟩, hf3⟩ := hf
      have hsz : P.cellsOf u = e.cells := Nat.eq_of_beq_eq_true hf2
      have hpos : 0 < e.cells := Nat.lt_of_succ_le (by simpa [Nat.blt] using hf3)
      rcases Deep.open_slice ht h with ⟨rfl, _⟩ | ⟨a, len, cap, m, n, DD, Pl, rfl, _, hl, hm, hmm, _, hx⟩
      · refine ⟨[.fz 0 []], ⟨[], (fun x hx => by cases hx), Nat.zero_le _, rfl⟩, VS_cons ?_ VS_nil, by simp [Value.oneCell']⟩
        simp only [V]
        exact ⟨none, 0, rfl, Nat.le_refl _, Nat.zero_le _, fun _ => rfl, (fun h => absurd h (Nat.lt_irrefl _)), by simp [VM]⟩
      · simp only [if_true] at hmm
        subst hmm
        have hV : ∀ i, i < m → ∃ q : List A × List Value, (Den e q.1 ∧ VS (XW w) w no q.1 q.2 ∧ ∀ u ∈ q.2, u.oneCell' = true) ∧ w.cells? base (a.add (i * P.cellsOf u)) (P.cellsOf u) = some q.2 := fun i hi => by
          obtain ⟨cs', h1, h2⟩ := hx i hi
          obtain ⟨aS, g1, g2, g3⟩ := open_D e u n cs' _ hf1 h2
          exact ⟨(aS, cs'), ⟨g1, g2, g3⟩, h1⟩
        obtain ⟨W, hW⟩ := Deep.choose_lt (α := List A × List Value) (p := fun i q => (Den e q.1 ∧ VS (XW w) w no q.1 q.2 ∧ ∀ u ∈ q.2, u.oneCell' = true) ∧ w.cells? base (a.add (i * P.cellsOf u)) (P.cellsOf u) = some q.2) hV
        rw [hsz] at hW
        have hspot : 0 < m → a.spot = none := fun h0 => by
          obtain ⟨_, _, hc⟩ := World.cells?_some (hW 0 h0).2
          have hln : (W 0).2.length = e.cells := by rw [VS_len (hW 0 h0).1.2.1, Den_len e _ (hW 0 h0).1.1]
          have := hc 0 (by omega)
          rw [List.getElem?_eq_getElem (by omega)] at this
          have h1 := cell_spot this
          rw [Nat.zero_mul] at h1
          exact add_spot (add_spot h1)
        refine ⟨[.fz len ((List.range len).map fun i => (W i).1).flatten], ⟨(List.range len).map fun i => (W i).1, ?_, by simp; omega, by simp⟩, VS_cons ?_ VS_nil, by simp [Value.oneCell']⟩
        · intro x hx
          obtain ⟨i, hi, rfl⟩ := List.mem_map.1 hx
          exact (hW i (by have := List.mem_range.1 hi; omega)).1.1
        · simp only [V]
          refine ⟨some a, m, rfl, hl, hm, (fun h => by cases h), (fun h0 x hx => by cases hx; exact hspot h0), ?_⟩
          refine VM_rows (sz := e.cells) (W := fun i => (W i).1) (fun _ => .inr trivial) len _ fun i hi => ?_
          obtain ⟨⟨g1, g2, g3⟩, g4⟩ := hW i (by omega)
          obtain ⟨_, hlen, hc⟩ := World.cells?_some g4
          refine ⟨Den_len e _ g1, VM_cells g2 g3 fun k hk => ?_⟩
          have h2 := hc k (by omega)
          have hs := hspot (by omega)
          rw [add_plain hs, add_plain rfl] at h2
          exact h2
    · cases hf
  | .arr k e, t, fuel, cs, x, hf, h => by
    simp only [fitD] at hf
    split at hf
    · rename_i m u ht
      simp only [Bool.and_eq_true] at hf
      obtain ⟨⟨⟨hm, hf1⟩, hf2⟩, hf3⟩ := hf
      have hmk : m = k := Nat.eq_of_beq_eq_true hm
      subst hmk
      have hsz : P.cellsOf u = e.cells := Nat.eq_of_beq_eq_true hf2
      have hst : P.cellsOf t = m * e.cells := Nat.eq_of_beq_eq_true hf3
      obtain ⟨xs, n, _, _, hl, hxl, hx⟩ := DataW.trod_array ht h
      rw [hsz] at hx
      rw [hst] at hl
      have hV : ∀ i, i < m → ∃ aS : List A, Den e aS ∧ VS (XW w) w no aS ((cs.drop (i * e.cells)).take e.cells) ∧ ∀ u ∈ (cs.drop (i * e.cells)).take e.cells, u.oneCell' = true := fun i hi => by
        have := hx i hi
        rw [List.getElem?_eq_getElem (by omega)] at this
        exact open_D e u n _ _ hf1 this
      obtain ⟨W, hW⟩ := Deep.choose_lt (α := List A) (p := fun i aS => Den e aS ∧ VS (XW w) w no aS ((cs.drop (i * e.cells)).take e.cells) ∧ ∀ u ∈ (cs.drop (i * e.cells)).take e.cells, u.oneCell' = true) hV
      refine ⟨((List.range m).map W).flatten, ⟨(List.range m).map W, ?_, by simp, rfl⟩, ?_, ?_⟩
      · intro x hx
        obtain ⟨i, hi, rfl⟩ := List.mem_map.1 hx
        exact (hW i (List.mem_range.1 hi)).1
      · have e1 := flat_parts m cs hl
        rw [← e1]
        refine VS_flatten (by simp) fun i l u h1 h2 => ?_
        rw [List.getElem?_map] at h1 h2
        obtain ⟨j, hj, rfl⟩ := Option.map_eq_some_iff.1 h1
        rw [hj] at h2
        simp only [Option.map_some, Option.some.injEq] at h2
        subst h2
        exact (hW j (by have := List.mem_range.1 (List.mem_of_getElem? hj); omega)).2.1
      · intro u hu
        rw [← flat_parts m cs hl] at hu
        obtain ⟨l, hl', hu⟩ := List.mem_flatten.1 hu
        obtain ⟨i, hi, rfl⟩ := List.mem_map.1 hl'
        exact (hW i (List.mem_range.1 hi)).2.2 u hu
    · cases hf
  | .st ds, t, fuel, cs, x, hf, h => by
    simp only [fitD] at hf
    split at hf
    · rename_i fs ht
      simp only [Bool.and_eq_true] at hf
      have hst : P.cellsOf t = D.cellsL ds := Nat.eq_of_beq_eq_true hf.2
      obtain ⟨xs, n, _, _, hl, hxl, hx⟩ := DataW.trod_struct ht h
      obtain ⟨aS, g1, g2, g3⟩ := open_L ds fs.toList 0 n cs hf.1 (by rw [hl, hst]) (fun i f hi => by
        have hi' : fs[i]? = some f := by simpa using hi
        have := hx i f hi'
        have hlt : i < xs.length := by rw [hxl]; exact (Array.getElem?_eq_some_iff.1 hi').1
        rw [List.getElem?_eq_getElem hlt] at this
        exact ⟨_, by rw [Nat.sub_zero]; exact this⟩)
      exact ⟨aS, g1, g2, g3⟩
    · cases hf
theorem open_L : ∀ (ds : List D) (fs : List Field) (o n : Nat) (cs : List Value), fitL P ds fs o = true → cs.length = D.cellsL ds → (∀ (i : Nat) (f : Field), fs[i]? = some f → ∃ y : DataW H × List MemPlace, DataW.trod enc P w base (fun _ => true) held n f.type ((cs.drop (f.offset - o)).take (P.cellsOf f.type)) = some y) → ∃ aS, DenL ds aS ∧ VS (XW w) w no aS cs ∧ ∀ u ∈ cs, u.oneCell' = true
  | [], fs, o, n, cs, hf, hl, _ => by
    have : cs = [] := List.eq_nil_of_length_eq_zero hl
    subst this
    exact ⟨[], rfl, VS_nil, (fun u h => by cases h)⟩
  | d :: ds, [], o, n, cs, hf, hl, _ => by simp [fitL] at hf
  | d :: ds, f :: fs, o, n, cs, hf, hl, h => by
    simp only [fitL, Bool.and_eq_true] at hf
    obtain ⟨⟨⟨h1, h2⟩, h3⟩, h4⟩ := hf
    have e1 : f.offset = o := Nat.eq_of_beq_eq_true h1
    have e2 : P.cellsOf f.type = d.cells := Nat.eq_of_beq_eq_true h2
    have hl' : cs.length = d.cells + D.cellsL ds := hl
    obtain ⟨y, hy⟩ := h 0 f rfl
    rw [e1, e2, Nat.sub_self, List.drop_zero] at hy
    obtain ⟨aS, g1, g2, g3⟩ := open_D d f.type n _ y h3 hy
    have hfo := fitL_off ds fs (o + d.cells) h4
    obtain ⟨bs, k1, k2, k3⟩ := open_L ds fs (o + d.cells) n (cs.drop d.cells) h4 (by rw [List.length_drop]; omega) (fun i f' hi => by
      obtain ⟨y, hy⟩ := h (i + 1) f' (by simpa using hi)
      have hoff := hfo f' (List.mem_of_getElem? hi)
      refine ⟨y, ?_⟩
      rw [List.drop_drop, show d.cells + (f'.offset - (o + d.cells)) = f'.offset - o by omega]
      exact hy)
    refine ⟨aS ++ bs, ⟨aS, bs, g1, k1, rfl⟩, ?_, ?_⟩
    · have := VS_app g2 k2
      rwa [List.take_append_drop] at this
    · intro u hu
      rw [← List.take_append_drop d.cells cs] at hu
      exact (List.mem_append.1 hu).elim (g3 u) (k3 u)
theorem fitL_off : ∀ (ds : List D) (fs : List Field) (o : Nat), fitL P ds fs o = true → ∀ f ∈ fs, o ≤ f.offset
  | [], [], o, _, f, hm => by cases hm
  | [], _ :: _, o, h, f, hm => by simp [fitL] at h
  | _ :: _, [], o, h, f, hm => by cases hm
  | d :: ds, f' :: fs, o, h, f, hm => by
    simp only [fitL, Bool.and_eq_true] at h
    have e1 : f'.offset = o := Nat.eq_of_beq_eq_true h.1.1.1
    rcases List.mem_cons.1 hm with rfl | hm
    · omega
    · have := fitL_off ds fs (o + d.cells) h.2 f hm; omega
end
/-- What an argument is, its cells known. -/
def argA : D → List A → A
  | .arr _ _, aS => .ag aS
  | .st _, aS => .ag aS
  | _, aS => aS.getD 0 un
/-- A row's argument. -/
theorem row_D {t : TypeId} {r : Reach} {b0 : Nat} {v : Value} {x : DataW H} {ps : List MemPlace} (d : D) (hf : fitD P d t = true) (hval : Value.okWide P w r b0 t v) (h : DataW.Trod enc P w base (fun _ => true) held t v x ps) : ∃ aS, Den d aS ∧ V (XW w) w no (argA d aS) v := by
  obtain ⟨fuel, hfu⟩ := h
  obtain ⟨aS, g1, g2, g3⟩ := open_D d t fuel _ _ hf hfu
  refine ⟨aS, g1, ?_⟩
  have agg : ∀ cs : Array Value, v = .agg cs → V (XW w) w no (.ag aS) v := by
    rintro cs rfl
    simp only [V]
    exact ⟨cs.toList, by simp, g2, g3⟩
  have scal : ∀ a, aS = [a] → v.cells = #[v] → V (XW w) w no (aS.getD 0 un) v := by
    rintro a rfl hv
    rw [hv] at g2
    simp only [VS] at g2
    obtain ⟨u, r, hu, hvu, rfl⟩ := g2
    simp only [List.cons.injEq, and_true] at hu
    subst hu
    exact hvu
  cases d with
  | int k =>
    obtain ⟨n, rfl⟩ := WideShapes.okWide_int (isInt_ok hf) hval
    simp only [Den] at g1
    obtain ⟨m, _, rfl⟩ := g1
    exact scal _ rfl rfl
  | bool =>
    obtain ⟨n, rfl⟩ := WideShapes.okWide_bool (isBool_ok hf) hval
    simp only [Den] at g1
    obtain ⟨m, rfl⟩ := g1
    exact scal _ rfl rfl
  | str =>
    obtain ⟨n, rfl⟩ := WideShapes.okWide_string (isStr_ok hf) hval
    simp only [Den] at g1
    obtain ⟨m, _, rfl⟩ := g1
    exact scal _ rfl rfl
  | sl e =>
    simp only [fitD] at hf
    split at hf
    · rename_i u ht
      obtain ⟨a, len, cap, rfl⟩ := WideShapes.okWide_slice ht hval
      simp only [Den] at g1
      obtain ⟨m, _, _, rfl⟩ := g1
      exact scal _ rfl rfl
    · cases hf
  | arr n e =>
    simp only [fitD] at hf
    split at hf
    · rename_i m u ht
      unfold Value.okWide at hval
      simp only [ht] at hval
      obtain ⟨cs, rfl, _, _⟩ := hval
      exact agg cs rfl
    · cases hf
  | st ds =>
    simp only [fitD] at hf
    split at hf
    · rename_i fs ht
      unfold Value.okWide at hval
      simp only [ht] at hval
      obtain ⟨cs, rfl, _, _⟩ := hval
      exact agg cs rfl
    · cases hf
/-- What was read at the start is read so behind a call that turned nothing. -/
theorem args_stay (hl : laidOutB P = true) {W W' : World} (hb : RowKit.Below W.heap.size W W') : ∀ (ts : List TypeId) (vs : List Value) (ds : List (DataW H)) (p : List MemPlace), (ts.all fun t => P.readableRec t && decide (t < P.types.size)) = true →
    DataW.TrodAll enc P W 0 (fun _ => true) true ts vs ds p → (∀ x ∈ p, x.block < W.heap.size) → DataW.TrodAll enc P W' 0 (fun b => decide (b < W.heap.size)) true ts vs ds p
  | [], vs, ds, p, _, h, _ => by
    obtain ⟨rfl, rfl, rfl⟩ := ChangeShapes.trodAll_nil h
    rfl
  | t :: ts, vs, ds, p, hall, h, hlt => by
    simp only [List.all_cons, Bool.and_eq_true, decide_eq_true_eq] at hall
    obtain ⟨v, vs', d, ds', a, b, rfl, rfl, rfl, h1, h2⟩ := ChangeShapes.trodAll_cons h
    exact ⟨a, b, RowKit.Below.trod hl hall.1.1 hall.1.2 h1 hb (fun x hx => hlt x (by simp [hx])), args_stay hl hb ts vs' ds' b hall.2 h2 (fun x hx => hlt x (by simp [hx])), rfl⟩
/-- A law's contract, at a row's arguments. -/
theorem con_true {f : FuncId} {aS : List A} {us : List Value} {W : World} (hc : Con P f aS (Ret (.b true))) (hg : GL (XW W) W) (hv : VS (XW W) W no aS us) :
    Calls P f us.toArray W fun e W' => e = .returned (.bool true) ∧ RowKit.Below W.heap.size W W' := by
  have h := hc W (XW W) no us (fun _ _ => rfl) XW_lt hg (fun id cs h => by cases h) (fun i j ci cj b M N _ h => by cases h) hv
  refine h.calls.mono fun e W' he => ?_
  obtain ⟨v, rfl, r, β', X', st', hr, _, _, hm, hV⟩ := he
  have : r = .b true := hr
  subst this
  simp only [V] at hV
  subst hV
  have kb := hm.below
  refine ⟨rfl, kb.os, kb.tape, kb.output, kb.size, fun k hk => kb.block k hk ?_⟩
  rintro ⟨id, cs, N, h, _⟩
  cases h
/-- An array of integers that reads aS a datum. -/
theorem arr_lits {t e : TypeId} {n : Nat} {k : IntKind} {fuel : Nat} {cs : List Value} {l : List Int} {p : List MemPlace} {sp : Nat → Bool} {enc : TypeId × Value → Unit} (ht : P.underlying t = some (.array n e)) (he : P.underlying e = some (.int k)) (hc : P.cellsOf e = 1) (hct : P.cellsOf t = n)
    (h : DataW.trod enc P w base sp held fuel t cs = some (.agg (l.map fun i => .lit (.int k i)), p)) : cs = l.map (.int k) := by
  obtain ⟨xs, m, _, hx, hl, hxl, hel⟩ := DataW.trod_array ht h
  simp only [Prod.mk.injEq, DataW.agg.injEq] at hx
  have hll : l.length = n := by have := congrArg List.length hx.1; simp at this; omega
  rw [hct] at hl
  refine List.ext_getElem (by simp; omega) fun i h1 h2 => ?_
  have hi : i < n := by omega
  have := hel i hi
  rw [hc, Nat.mul_one, List.drop_eq_getElem_cons h1, List.take_succ_cons, List.take_zero, List.getElem?_eq_getElem (by omega)] at this
  obtain ⟨q, e1, e2, _⟩ := DataW.trod_int he this
  simp only [List.cons.injEq, and_true] at e1
  rw [List.getElem_map, e1]
  have h3 := congrArg (fun z : List (DataW Unit) => z[i]?) hx.1
  simp only [List.getElem?_map] at h3
  rw [List.getElem?_eq_getElem (by simpa using h2), List.getElem?_eq_getElem (by omega), Option.map_some, Option.map_some, e2] at h3
  simp only [Option.some.injEq, DataW.lit.injEq, Lit.int.injEq, true_and] at h3
  rw [h3]
theorem den_map {α : Type} {e : D} {f : α → List A} {p : α → Prop} (h : ∀ x, Den e x → ∃ y, x = f y ∧ p y) : ∀ ls : List (List A), (∀ x ∈ ls, Den e x) → ∃ ys : List α, ls = ys.map f ∧ ∀ y ∈ ys, p y
  | [], _ => ⟨[], rfl, fun y hy => by cases hy⟩
  | x :: ls, hx => by
    obtain ⟨y, rfl, hy⟩ := h x (hx x (.head _))
    obtain ⟨ys, rfl, hys⟩ := den_map h ls fun z hz => hx z (.tail _ hz)
    exact ⟨y :: ys, rfl, fun z hz => (List.mem_cons.1 hz).elim (fun e => e ▸ hy) (hys z)⟩
theorem flat_sing {α : Type} (f : α → A) (l : List α) : (l.map fun x => [f x]).flatten = l.map f := by
  induction l with
  | nil => rfl
  | cons x l ih => simp [ih]
theorem den_u8 (aS : List A) (h : Den (.int .u8) aS) : ∃ b : UInt8, aS = [u8 b] ∧ True := by
  simp only [Den] at h
  obtain ⟨n, hw, rfl⟩ := h
  refine ⟨UInt8.ofNat n.toNat, ?_, trivial⟩
  simp only [Lit.wf, Bool.and_eq_true, decide_eq_true_eq] at hw
  have h1 : IntKind.u8.min = 0 := rfl
  have h2 : IntKind.u8.max = 255 := rfl
  rw [h1, h2] at hw
  have : ((UInt8.ofNat n.toNat).toNat : Int) = n := by
    rw [UInt8.toNat_ofNat', Nat.mod_eq_of_lt (by omega)]; omega
  rw [u8, this]
theorem den_int (aS : List A) (h : Den (.int .i64) aS) : ∃ n : Int, aS = [.i .i64 n] ∧ (-9223372036854775808 ≤ n ∧ n ≤ 9223372036854775807) := by
  simp only [Den] at h
  obtain ⟨n, hw, rfl⟩ := h
  simp only [Lit.wf, Bool.and_eq_true, decide_eq_true_eq] at hw
  have h1 : IntKind.i64.min = -9223372036854775808 := rfl
  have h2 : IntKind.i64.max = 9223372036854775807 := rfl
  rw [h1, h2] at hw
  exact ⟨n, rfl, hw⟩
/-- An array of bytes. -/
theorem den_arr8 {n : Nat} (aS : List A) (h : Den (.arr n (.int .u8)) aS) : ∃ d : List UInt8, aS = d.map u8 ∧ d.length = n := by
  simp only [Den] at h
  obtain ⟨ls, h1, h2, rfl⟩ := h
  obtain ⟨ys, rfl, _⟩ := den_map den_u8 ls h1
  exact ⟨ys, flat_sing _ _, by simpa using h2⟩
/-- A slice of arrays of bytes. -/
theorem den_arrs8 {n : Nat} (aS : List A) (h : Den (.sl (.arr n (.int .u8))) aS) : ∃ L : List (List UInt8), aS = [.fz L.length (L.flatten.map u8)] ∧ L.length ≤ maxLen ∧ ∀ x ∈ L, x.length = n := by
  simp only [Den] at h
  obtain ⟨ls, h1, h2, rfl⟩ := h
  obtain ⟨ys, rfl, h3⟩ := den_map (f := fun d : List UInt8 => d.map u8) den_arr8 ls (fun x hx => by simp only [Den]; exact h1 x hx)
  exact ⟨ys, by rw [List.length_map, List.map_flatten], by simpa using h2, h3⟩
end
end Go.Abs

/-! K6Q -/
namespace Go.Abs.D2
open Go Go.Eng Go.Abs
theorem ver_signed {x : List UInt8} {k i : Nat} (m : List UInt8) (hk : sizeK (k : Int)) (hi : i < k) : verK (rootD x k) k m i (signD (seedL x i) m) (path (kpubs x k) i) = true := by
  have h1 := climb_good (L := kpubs x k) (kpubs_get hi) (by rw [len_kpubs]; unfold sizeK at hk; omega)
  rw [len_kpubs] at h1
  have h2 := recD_sign (seedL x i) m
  refine ver_kt hk (by unfold atK; omega) h2.2 ?_
  rw [h2.1, rootD_yes hk, h1.1, h1.2]
  simp
theorem path_1 (x : List UInt8) : path (kpubs x 1) 0 = [] := path_one 0 (by simp)
abbrev twoD : List UInt8 := 2 :: List.replicate 31 0
theorem size1 : sizeK ((1 : Nat) : Int) := by decide
theorem sign_10 : signA oneD 1 0 twoD = .tu [leafA 0 (signD (seedL oneD 0) twoD) [], .i .i64 0] := (signA_yes (k := 1) (i := 0) size1 (by omega)).trans (by rw [path_1]; rfl)
theorem sign_44 : signA oneD 4 4 twoD = .tu [leafA 0 [] [], .i .i64 60] := signA_no (by decide)
theorem root_1 : rootA oneD 1 = .tu [.ag ((rootD oneD 1).map u8), .i .i64 0] := (rootA_eq ..).trans (by rw [decide_eq_true (show sizeK 1 by decide)]; rfl)
theorem root_0 : rootA oneD 0 = .tu [.ag (zD.map u8), .i .i64 60] := rootA_no (by decide)
theorem root_257 : rootA oneD 257 = .tu [.ag (zD.map u8), .i .i64 60] := rootA_no (by decide)
theorem ver_1 : verK (rootD oneD 1) 1 twoD 0 (signD (seedL oneD 0) twoD) [] = true := by
  have := ver_signed (x := oneD) (k := 1) (i := 0) twoD size1 (by omega)
  rw [path_1] at this; exact this
theorem ver_nilK (r : List UInt8) (n : Int) (m : List UInt8) : verK r n m 0 [] [] = false := ver_k3 (by decide)
theorem forg_1 : forgA oneD 1 [twoD] twoD 0 (signD (seedL oneD 0) twoD) [] = .tu [.i .i64 0, .i .i64 0] := (forg_ret (forg_own (by decide +kernel))).symm
theorem forg_2 : forgA oneD 1 [] twoD 0 (signD (seedL oneD 0) twoD) [] = .tu [.i .i64 2, .i .i64 0] := by
  refine (forg_ret (forg_hit (i := 0) ver_1 (by decide +kernel) (by decide +kernel) (by omega) ?_ (fun t h => absurd h (by omega)))).symm
  have hs := get_sign (seedL oneD 0) twoD (show 0 < 19 by omega)
  rw [bad_is (x := seedL oneD 0) (m := twoD) (by decide +kernel) hs]; simp
theorem forg_0 : forgA oneD 0 [] twoD 0 [] [] = .tu [.i .i64 0, .i .i64 0] := (forg_ret (forg_no (ver_k1 (by decide)))).symm
theorem tree_1 : tree (kpubs oneD 1) = rootD oneD 1 := (rootD_yes (k := 1) size1).symm
theorem D32_nil : D32 [] := fun y hy => by cases hy
theorem D32_one {q : List UInt8} (h : q.length = 32) : D32 [q] := D32.one h
theorem kp1_view : ((((pubD (seedL oneD 0)).map u8)).drop 0).take (1 * 32) = (kpubs oneD 1).flatten.map u8 := by
  refine view_eq (by rw [List.length_map]; exact len_keyD _) ?_
  simp [kpubs]
theorem sign_form (x : List UInt8) (n a : Int) (m : List UInt8) : ∃ b S P e, signA x n a m = .tu [leafA b S P, .i .i64 e] ∧ D32 S ∧ D32 P := by
  by_cases h : sizeK n ∧ atK n a
  · obtain ⟨k, rfl, h1, h2⟩ := sizeK_nat h.1
    obtain ⟨i, rfl, hi⟩ : ∃ i : Nat, a = (i : Int) ∧ i < k := ⟨a.toNat, by have := h.2; unfold atK at this; omega, by have := h.2; unfold atK at this; omega⟩
    exact ⟨_, _, _, _, signA_yes h.1 hi, D32_signD _ _, D32_path _ _ _ (Nat.le_refl _)⟩
  · exact ⟨_, _, _, _, signA_no h, (fun y hy => by cases hy), fun y hy => by cases hy⟩
/-- A list whose last message is signed. -/
def atL (i : Nat) (m : List UInt8) : List (List UInt8) := List.replicate i zD ++ [m]
theorem D32_atL {m : List UInt8} (h : m.length = 32) (i : Nat) : D32 (atL i m) := fun y hy => by
  rcases List.mem_append.1 hy with hy | hy
  · rw [List.eq_of_mem_replicate hy]; simp
  · rw [List.mem_singleton.1 hy]; exact h
@[simp] theorem len_atL (i : Nat) (m : List UInt8) : (atL i m).length = i + 1 := by simp [atL]
theorem sgn_atL (i : Nat) (m : List UInt8) : sgnK (atL i m) i = m := by simp [sgnK, atL]
theorem flat_rep (i : Nat) : (List.replicate i zD).flatten = List.replicate (i * 32) 0 := by
  induction i with
  | zero => rfl
  | succ i ih => rw [List.replicate_succ, List.flatten_cons, ih, List.replicate_append_replicate]; congr 1; omega
theorem cells_atL {m : List UInt8} (i : Nat) : (List.replicate ((i + 1) * 32) (evC (.int .u8 0))).take (0 + i * 32) ++ m.map u8 ++ (List.replicate ((i + 1) * 32) (evC (.int .u8 0))).drop (0 + i * 32 + 32) = (atL i m).flatten.map u8 := by
  rw [List.take_replicate, List.drop_replicate, show (i + 1) * 32 - (0 + i * 32 + 32) = 0 by omega, show min (0 + i * 32) ((i + 1) * 32) = i * 32 by omega]
  simp only [atL, List.flatten_append, flat_rep, List.map_append, List.replicate_zero, List.append_nil, List.map_replicate, List.flatten_singleton]
  rfl
theorem forg_atL {x : List UInt8} {n : Int} {m : List UInt8} {i : Nat} {S P : List (List UInt8)} (h : (m == zD) = false) : forgA x n (atL i m) m i S P = .tu [.i .i64 0, .i .i64 0] := by
  refine (forg_ret (forg_own ?_)).symm
  rw [show ((i : Nat) : Int).toNat = i from rfl, sgn_atL, h]; simp
theorem forg_atE (x : List UInt8) (n : Int) (m : List UInt8) (i : Nat) (S P : List (List UInt8)) : ∃ ke ce : Int, forgA x n (atL i m) m i S P = .tu [.i .i64 ke, .i .i64 ce] ∧ ((m == zD) = false → ke = 0 ∧ ce = 0) := by
  cases h : m == zD with
  | false => exact ⟨0, 0, forg_atL h, fun _ => ⟨rfl, rfl⟩⟩
  | true => exact ⟨_, _, forgA_eq .., fun h => by cases h⟩
theorem take_path {P : List (List UInt8)} (h : D32 P) {j : Nat} {q : List UInt8} (hq : P[j]? = some q) : q.length = 32 := h q (List.mem_of_getElem? hq)
structure Lf where
  a : Int
  S : List (List UInt8)
  P : List (List UInt8)
theorem den_leaf (aS : List A) (h : Den (.st [.int .i64, .sl (.arr 32 (.int .u8)), .sl (.arr 32 (.int .u8))]) aS) : ∃ f : Lf, aS = [.i .i64 f.a, dgs f.S, dgs f.P] ∧ D32 f.S ∧ D32 f.P := by
  simp only [Den, DenL] at h
  obtain ⟨a, r, h1, ⟨b, r2, h2, ⟨c, r3, h3, rfl, rfl⟩, rfl⟩, rfl⟩ := h
  obtain ⟨n, rfl, _⟩ := den_int a (by simpa only [Den] using h1)
  obtain ⟨S, rfl, _, hS⟩ := den_arrs8 b (by simpa only [Den] using h2)
  obtain ⟨P, rfl, _, hP⟩ := den_arrs8 c (by simpa only [Den] using h3)
  exact ⟨⟨n, S, P⟩, rfl, hS, hP⟩
end Go.Abs.D2

/-! K6G -/
namespace Go.Abs.D2
open Go Go.Eng Go.Abs Go.Proofs 
set_option linter.unusedSimpArgs false in
set_option linter.unusedVariables false in
set_option maxHeartbeats 1000000 in
set_option maxRecDepth 10000 in
theorem sane_ok : Con Tryd.prog 10 [] (Ret (.b true)) := by
  refine enter Tryd.func10 rfl Tryd.ntmps10 (by kernel_rfl) (Nat.le_of_ble_eq_true rfl) fun w0 X0 hI => ?_
  refine at_seq ?_
  refine at_region ?_
  refine s1 (y_p rfl) rfl <| ?_
  refine at_nil ?_
  refine x_tn ?_
  refine at_seq ?_
  refine at_region ?_
  refine s1 ((y_bldP (vs := [_]) ti23 rfl (by kernel_rfl) Tryd.underlying23 ti5 rfl rfl (by simp) rfl rfl).v (v' := .ag (oneD.map u8)) (by kernel_rfl)) rfl <| s1 ((y_bldP (vs := [_]) ti23 rfl (by kernel_rfl) Tryd.underlying23 ti5 rfl rfl (by simp) rfl rfl).v (v' := .ag (twoD.map u8)) (by kernel_rfl)) rfl <| ?_
  refine at_op rfl (n_alloc 1 rfl ti23 rfl rfl ?_)
  refine at_op rfl (n_alloc 2 rfl ti23 rfl rfl ?_)
  refine at_op rfl (n_storeA ti23 rfl rfl rfl (by first | rfl | omega | (simp; done) | (simp [*]; done) | (simp; omega) | (simp [*]; omega) | (simp [D32.len, -List.length_flatten, *]; done) | (simp [D32.len, -List.length_flatten, *]; omega)) (by first | rfl | omega | (simp; done) | (simp [*]; done) | (simp; omega) | (simp [*]; omega) | (simp [D32.len, -List.length_flatten, *]; done) | (simp [D32.len, -List.length_flatten, *]; omega)) ?_)
  refine at_op rfl (n_storeA ti23 rfl rfl rfl (by first | rfl | omega | (simp; done) | (simp [*]; done) | (simp; omega) | (simp [*]; omega) | (simp [D32.len, -List.length_flatten, *]; done) | (simp [D32.len, -List.length_flatten, *]; omega)) (by first | rfl | omega | (simp; done) | (simp [*]; done) | (simp; omega) | (simp [*]; omega) | (simp [D32.len, -List.length_flatten, *]; done) | (simp [D32.len, -List.length_flatten, *]; omega)) ?_)
  refine at_nil ?_
  refine x_tn ?_
  refine at_seq ?_
  refine at_region ?_
  refine s1 (y_loadA0 ti23 rfl rfl (by first | rfl | omega | (simp; done) | (simp [*]; done) | (simp; omega) | (simp [*]; omega) | (simp [D32.len, -List.length_flatten, *]; done) | (simp [D32.len, -List.length_flatten, *]; omega))) rfl <| ?_
  refine at_op rfl (n_call false rfl (.cons (.pure pu) (.cons (.pure pu) (.nil))) (Con.cast (root_ok oneD 1 (by simp)) root_1) pu (.inl rfl) rfl ?_)
  refine s1 (y_p rfl) rfl <| s1 (y_p rfl) rfl <| s1 (y_p rfl) rfl <| ?_
  refine at_op rfl (n_alloc 3 rfl ti23 rfl rfl ?_)
  refine at_op rfl (n_storeA ti23 rfl rfl rfl (by first | rfl | omega | (simp; done) | (simp [*]; done) | (simp; omega) | (simp [*]; omega) | (simp [D32.len, -List.length_flatten, *]; done) | (simp [D32.len, -List.length_flatten, *]; omega)) (by first | rfl | omega | (simp; done) | (simp [*]; done) | (simp; omega) | (simp [*]; omega) | (simp [D32.len, -List.length_flatten, *]; done) | (simp [D32.len, -List.length_flatten, *]; omega)) ?_)
  refine s1 (y_p rfl) rfl <| ?_
  refine at_nil ?_
  refine x_tn ?_
  refine at_seq ?_
  refine at_region ?_
  refine s1 (y_loadA0 ti23 rfl rfl (by first | rfl | omega | (simp; done) | (simp [*]; done) | (simp; omega) | (simp [*]; omega) | (simp [D32.len, -List.length_flatten, *]; done) | (simp [D32.len, -List.length_flatten, *]; omega))) rfl <| ?_
  refine at_op rfl (n_call false rfl (.cons (.pure pu) (.cons (.pure pu) (.nil))) (Con.cast (root_ok oneD 0 (by simp)) root_0) pu (.inl rfl) rfl ?_)
  refine s1 (y_p rfl) rfl <| s1 (y_p rfl) rfl <| s1 (y_p rfl) rfl <| ?_
  refine at_op rfl (n_alloc 5 rfl ti23 rfl rfl ?_)
  refine at_op rfl (n_storeA ti23 rfl rfl rfl (by first | rfl | omega | (simp; done) | (simp [*]; done) | (simp; omega) | (simp [*]; omega) | (simp [D32.len, -List.length_flatten, *]; done) | (simp [D32.len, -List.length_flatten, *]; omega)) (by first | rfl | omega | (simp; done) | (simp [*]; done) | (simp; omega) | (simp [*]; omega) | (simp [D32.len, -List.length_flatten, *]; done) | (simp [D32.len, -List.length_flatten, *]; omega)) ?_)
  refine s1 (y_p rfl) rfl <| ?_
  refine at_nil ?_
  refine x_tn ?_
  refine at_seq ?_
  refine at_region ?_
  refine s1 (y_loadA0 ti23 rfl rfl (by first | rfl | omega | (simp; done) | (simp [*]; done) | (simp; omega) | (simp [*]; omega) | (simp [D32.len, -List.length_flatten, *]; done) | (simp [D32.len, -List.length_flatten, *]; omega))) rfl <| ?_
  refine at_op rfl (n_call false rfl (.cons (.pure pu) (.cons (.pure pu) (.nil))) (Con.cast (root_ok oneD 257 (by simp)) root_257) pu (.inl rfl) rfl ?_)
  refine s1 (y_p rfl) rfl <| s1 (y_p rfl) rfl <| s1 (y_p rfl) rfl <| ?_
  refine at_op rfl (n_alloc 7 rfl ti23 rfl rfl ?_)
  refine at_op rfl (n_storeA ti23 rfl rfl rfl (by first | rfl | omega | (simp; done) | (simp [*]; done) | (simp; omega) | (simp [*]; omega) | (simp [D32.len, -List.length_flatten, *]; done) | (simp [D32.len, -List.length_flatten, *]; omega)) (by first | rfl | omega | (simp; done) | (simp [*]; done) | (simp; omega) | (simp [*]; omega) | (simp [D32.len, -List.length_flatten, *]; done) | (simp [D32.len, -List.length_flatten, *]; omega)) ?_)
  refine s1 (y_p rfl) rfl <| ?_
  refine at_nil ?_
  refine x_tn ?_
  refine at_seq ?_
  refine at_region ?_
  refine s1 (y_loadA0 ti23 rfl rfl (by first | rfl | omega | (simp; done) | (simp [*]; done) | (simp; omega) | (simp [*]; omega) | (simp [D32.len, -List.length_flatten, *]; done) | (simp [D32.len, -List.length_flatten, *]; omega))) rfl <| s1 (y_loadA0 ti23 rfl rfl (by first | rfl | omega | (simp; done) | (simp [*]; done) | (simp; omega) | (simp [*]; omega) | (simp [D32.len, -List.length_flatten, *]; done) | (simp [D32.len, -List.length_flatten, *]; omega))) rfl <| ?_
  refine at_op rfl (n_call false rfl (.cons (.pure pu) (.cons (.pure pu) (.cons (.pure pu) (.cons (.pure pu) (.nil))))) (Con.cast (ksign_ok oneD 1 0 twoD (by simp) (by simp)) sign_10) pu (.inl rfl) rfl ?_)
  refine s1 (y_p rfl) rfl <| s1 (y_p rfl) rfl <| s1 (y_p rfl) rfl <| ?_
  refine at_op rfl (n_alloc 9 rfl ti28 rfl rfl ?_)
  refine at_op rfl (n_storeA ti28 rfl rfl rfl (by first | rfl | omega | (simp; done) | (simp [*]; done) | (simp; omega) | (simp [*]; omega) | (simp [D32.len, -List.length_flatten, *]; done) | (simp [D32.len, -List.length_flatten, *]; omega)) (by first | rfl | omega | (simp; done) | (simp [*]; done) | (simp; omega) | (simp [*]; omega) | (simp [D32.len, -List.length_flatten, *]; done) | (simp [D32.len, -List.length_flatten, *]; omega)) ?_)
  refine s1 (y_p rfl) rfl <| ?_
  refine at_nil ?_
  refine x_tn ?_
  refine at_seq ?_
  refine at_region ?_
  refine s1 (y_loadA0 ti23 rfl rfl (by first | rfl | omega | (simp; done) | (simp [*]; done) | (simp; omega) | (simp [*]; omega) | (simp [D32.len, -List.length_flatten, *]; done) | (simp [D32.len, -List.length_flatten, *]; omega))) rfl <| s1 (y_loadA0 ti23 rfl rfl (by first | rfl | omega | (simp; done) | (simp [*]; done) | (simp; omega) | (simp [*]; omega) | (simp [D32.len, -List.length_flatten, *]; done) | (simp [D32.len, -List.length_flatten, *]; omega))) rfl <| ?_
  refine at_op rfl (n_call false rfl (.cons (.pure pu) (.cons (.pure pu) (.cons (.pure pu) (.cons (.pure pu) (.nil))))) (Con.cast (ksign_ok oneD 4 4 twoD (by simp) (by simp)) sign_44) pu (.inl rfl) rfl ?_)
  refine s1 (y_p rfl) rfl <| s1 (y_p rfl) rfl <| s1 (y_p rfl) rfl <| ?_
  refine at_op rfl (n_alloc 11 rfl ti28 rfl rfl ?_)
  refine at_op rfl (n_storeA ti28 rfl rfl rfl (by first | rfl | omega | (simp; done) | (simp [*]; done) | (simp; omega) | (simp [*]; omega) | (simp [D32.len, -List.length_flatten, *]; done) | (simp [D32.len, -List.length_flatten, *]; omega)) (by first | rfl | omega | (simp; done) | (simp [*]; done) | (simp; omega) | (simp [*]; omega) | (simp [D32.len, -List.length_flatten, *]; done) | (simp [D32.len, -List.length_flatten, *]; omega)) ?_)
  refine s1 (y_p rfl) rfl <| ?_
  refine at_nil ?_
  refine x_tn ?_
  refine at_seq ?_
  refine at_region ?_
  refine s1 (y_loadA0 ti23 rfl rfl (by first | rfl | omega | (simp; done) | (simp [*]; done) | (simp; omega) | (simp [*]; omega) | (simp [D32.len, -List.length_flatten, *]; done) | (simp [D32.len, -List.length_flatten, *]; omega))) rfl <| s1 (y_loadA0 ti23 rfl rfl (by first | rfl | omega | (simp; done) | (simp [*]; done) | (simp; omega) | (simp [*]; omega) | (simp [D32.len, -List.length_flatten, *]; done) | (simp [D32.len, -List.length_flatten, *]; omega))) rfl <| ?_
  refine at_op rfl (n_bs 51 rfl Tryd.underlying26 ti23 rfl rfl rfl (by first | (simp [cellsA]; done) | (simp [cellsA, *]; done)) (List.append_nil (twoD.map u8)) rfl rfl rfl ?_)
  refine s1 (y_loadA0 ti23 rfl rfl (by first | rfl | omega | (simp; done) | (simp [*]; done) | (simp; omega) | (simp [*]; omega) | (simp [D32.len, -List.length_flatten, *]; done) | (simp [D32.len, -List.length_flatten, *]; omega))) rfl <| s1 (y_loadA0 ti28 rfl rfl (by first | rfl | omega | (simp; done) | (simp [*]; done) | (simp; omega) | (simp [*]; omega) | (simp [D32.len, -List.length_flatten, *]; done) | (simp [D32.len, -List.length_flatten, *]; omega))) rfl <| ?_
  refine at_op rfl (n_call true rfl (.cons (.pure pu) (.cons (.pure pu) (.cons (.sl rfl rfl rfl rfl (VwL.pure pul) pul) (.cons (.pure pu) (.cons (.pure pu) .nil))))) (Con.cast (kforg_ok oneD 1 [twoD] twoD 0 (signD (seedL oneD 0) twoD) [] (by simp) (D32_one (by simp)) (by simp) (by simp) (D32_signD _ _) D32_nil) forg_1) pu (.inr fu) rfl ?_)
  refine s1 (y_p rfl) rfl <| s1 (y_p rfl) rfl <| s1 (y_p rfl) rfl <| s1 (y_p rfl) rfl <| s1 (y_p rfl) rfl <| ?_
  refine at_nil ?_
  refine x_tn ?_
  refine at_seq ?_
  refine at_region ?_
  refine s1 (y_loadA0 ti23 rfl rfl (by first | rfl | omega | (simp; done) | (simp [*]; done) | (simp; omega) | (simp [*]; omega) | (simp [D32.len, -List.length_flatten, *]; done) | (simp [D32.len, -List.length_flatten, *]; omega))) rfl <| s1 (y_loadA0 ti23 rfl rfl (by first | rfl | omega | (simp; done) | (simp [*]; done) | (simp; omega) | (simp [*]; omega) | (simp [D32.len, -List.length_flatten, *]; done) | (simp [D32.len, -List.length_flatten, *]; omega))) rfl <| s1 (y_loadA0 ti28 rfl rfl (by first | rfl | omega | (simp; done) | (simp [*]; done) | (simp; omega) | (simp [*]; omega) | (simp [D32.len, -List.length_flatten, *]; done) | (simp [D32.len, -List.length_flatten, *]; omega))) rfl <| ?_
  refine at_op rfl (n_call false rfl (.cons (.pure pu) (.cons (.pure pu) (.cons .nl (.cons (.pure pu) (.cons (.pure pu) .nil))))) (Con.cast (kforg_ok oneD 1 [] twoD 0 (signD (seedL oneD 0) twoD) [] (by simp) D32_nil (by simp) (by simp) (D32_signD _ _) D32_nil) forg_2) pu (.inl rfl) rfl ?_)
  refine s1 (y_p rfl) rfl <| s1 (y_p rfl) rfl <| s1 (y_p rfl) rfl <| s1 (y_p rfl) rfl <| s1 (y_p rfl) rfl <| ?_
  refine at_nil ?_
  refine x_tn ?_
  refine at_seq ?_
  refine at_region ?_
  refine s1 (y_loadA0 ti23 rfl rfl (by first | rfl | omega | (simp; done) | (simp [*]; done) | (simp; omega) | (simp [*]; omega) | (simp [D32.len, -List.length_flatten, *]; done) | (simp [D32.len, -List.length_flatten, *]; omega))) rfl <| s1 (y_loadA0 ti23 rfl rfl (by first | rfl | omega | (simp; done) | (simp [*]; done) | (simp; omega) | (simp [*]; omega) | (simp [D32.len, -List.length_flatten, *]; done) | (simp [D32.len, -List.length_flatten, *]; omega))) rfl <| s1 (y_bld (out := [_, _, _]) [[evC (.int .i64 0)], [evC (.slice none 0 0)], [evC (.slice none 0 0)]] ti28 rfl Tryd.underlying28 (by kernel_rfl) rfl rfl trivial rfl) rfl <| ?_
  refine at_wk 67 rfl (.ag (.cons (.eq rfl) (.cons .nl (.cons .nl .nil)))) ?_
  refine at_op rfl (n_call false rfl (.cons (.pure pu) (.cons (.pure pu) (.cons .nl (.cons (.pure pu) (.cons (.pure pu) .nil))))) (Con.cast (kforg_ok oneD 0 [] twoD 0 [] [] (by simp) D32_nil (by simp) (by simp) D32_nil D32_nil) forg_0) pu (.inl rfl) rfl ?_)
  refine s1 (y_p rfl) rfl <| s1 (y_p rfl) rfl <| s1 (y_p rfl) rfl <| s1 (y_p rfl) rfl <| s1 (y_p rfl) rfl <| ?_
  refine at_nil ?_
  refine x_tn ?_
  refine at_seq ?_
  refine at_seq ?_
  refine at_region ?_
  refine s1 (y_p rfl) rfl <| s1 ((y_p rfl).v (v' := .b false) (rfl)) rfl <| s1 (y_p rfl) rfl <| g1 rfl rfl (y_p rfl) rfl <| g1 rfl rfl ((y_p rfl).v (v' := .b false) (rfl)) rfl <| s1 (y_p rfl) rfl <| s1 (y_p rfl) rfl <| g1 rfl rfl (y_p rfl) rfl <| g1 rfl rfl ((y_p rfl).v (v' := .b false) (rfl)) rfl <| s1 (y_p rfl) rfl <| ?_
  refine s1 (y_p rfl) rfl <| g1 rfl rfl (y_p rfl) rfl <| g1 rfl rfl ((y_p rfl).v (v' := .b false) (rfl)) rfl <| s1 (y_p rfl) rfl <| s1 (y_p rfl) rfl <| g1 rfl rfl (y_p rfl) rfl <| g1 rfl rfl ((y_p rfl).v (v' := .b false) (rfl)) rfl <| s1 (y_p rfl) rfl <| s1 (y_p rfl) rfl <| g1 rfl rfl (y_fld Tryd.underlying28 rfl ti3 (by decide) rfl rfl) rfl <| ?_
  refine g1 rfl rfl (y_load ti3 rfl rfl rfl) rfl <| g1 rfl rfl ((y_p rfl).v (v' := .b false) (rfl)) rfl <| s1 (y_p rfl) rfl <| s1 (y_p rfl) rfl <| g1 rfl rfl (y_fld Tryd.underlying28 rfl ti26 (by decide) rfl rfl) rfl <| g1 rfl rfl (y_load ti26 rfl rfl rfl) rfl <| g1 rfl rfl (y_len Tryd.underlying26 rfl rfl rfl) rfl <| g1 rfl rfl ((y_p rfl).v (v' := .b false) (rfl)) rfl <| s1 (y_p rfl) rfl <| s1 (y_p rfl) rfl <| ?_
  refine g1 rfl rfl (y_fld Tryd.underlying28 rfl ti26 (by decide) rfl rfl) rfl <| g1 rfl rfl (y_load ti26 rfl rfl rfl) rfl <| g1 rfl rfl (y_len Tryd.underlying26 rfl rfl rfl) rfl <| g1 rfl rfl ((y_p rfl).v (v' := .b false) (rfl)) rfl <| s1 (y_p rfl) rfl <| ?_
  refine at_nil ?_
  refine x_tn ?_
  refine at_else rfl ?_
  refine at_skip ?_
  refine x_tn ?_
  refine at_seq ?_
  refine at_fs ⟨_, [], []⟩ 49 4 hmix (le_refl rfl) ?_
  refine fs_q 0 [] [(3, none)] (y_loadA0 ti23 rfl rfl (by first | rfl | omega | (simp; done) | (simp [*]; done) | (simp; omega) | (simp [*]; omega) | (simp [D32.len, -List.length_flatten, *]; done) | (simp [D32.len, -List.length_flatten, *]; omega))) rfl rfl ?_
  refine fs_q 1 [] [(1, none)] (y_loadA0 ti23 rfl rfl (by first | rfl | omega | (simp; done) | (simp [*]; done) | (simp; omega) | (simp [*]; omega) | (simp [D32.len, -List.length_flatten, *]; done) | (simp [D32.len, -List.length_flatten, *]; omega))) rfl rfl ?_
  refine fs_call false 2 [1] [] gy0 rfl (.cons (.pure pu) (.cons (.pure pu) (.nil))) (seed_ok oneD 0 (by simp)) pu (.inl rfl) rfl rfl ?_
  refine fs_call false 3 [2] [] gy0 rfl (.cons (.pure pu) (.nil)) (public_ok (seedL oneD 0) (by simp)) pu (.inl rfl) rfl rfl ?_
  refine fs_bs 110 4 [3] gy0 Tryd.underlying26 ti23 rfl rfl rfl (by first | (simp [cellsA]; done) | (simp [cellsA, *]; done)) (List.append_nil ((pubD (seedL oneD 0)).map u8)) rfl rfl rfl rfl ?_
  refine fs_call true 5 [4] [(110, some 4)] gy0 rfl (.cons (.sl rfl rfl rfl (kp1_view ..) (VwL.pure pul) pul) .nil) (Con.cast (tree_ok 1 (kpubs oneD 1) (by simp) (D32_kpubs _ _) (by simp)) (by rw [tree_1])) pu (.inr fu) rfl rfl ?_
  refine fs_q 6 [0, 5] [] ((y_aq Tryd.underlying23 Tryd.underlying5 ti5 (by kernel_rfl) rfl rfl (by first | assumption | (simp; done) | (simp [*]; done)) (by first | assumption | (simp; done) | (simp [*]; done))).v (v' := .b true) (congrArg A.b (by simp))) rfl rfl ?_
  refine fs_q 7 [6] [] (y_p rfl) rfl rfl ?_
  refine fs_qg 8 [7] [(3, none)] rfl rfl (y_loadA0 ti23 rfl rfl (by first | rfl | omega | (simp; done) | (simp [*]; done) | (simp; omega) | (simp [*]; omega) | (simp [D32.len, -List.length_flatten, *]; done) | (simp [D32.len, -List.length_flatten, *]; omega))) rfl rfl ?_
  refine fs_qg 9 [7] [(2, none)] rfl rfl (y_loadA0 ti23 rfl rfl (by first | rfl | omega | (simp; done) | (simp [*]; done) | (simp; omega) | (simp [*]; omega) | (simp [D32.len, -List.length_flatten, *]; done) | (simp [D32.len, -List.length_flatten, *]; omega))) rfl rfl ?_
  refine fs_qg 10 [7] [(9, none)] rfl rfl (y_loadA0 ti28 rfl rfl (by first | rfl | omega | (simp; done) | (simp [*]; done) | (simp; omega) | (simp [*]; omega) | (simp [D32.len, -List.length_flatten, *]; done) | (simp [D32.len, -List.length_flatten, *]; omega))) rfl rfl ?_
  refine fs_call false 11 [7, 8, 9, 10] [] (gy1 rfl rfl) rfl (.cons (.pure pu) (.cons (.pure pu) (.cons (.pure pu) (.cons (.pure pu) (.nil))))) (Con.cast (kver_ok (rootD oneD 1) twoD 1 0 (signD (seedL oneD 0) twoD) [] (by simp) (by simp) (D32_signD _ _) D32_nil) (congrArg (A.i .i64) (by rw [ver_1]; rfl : errK (verK (rootD oneD 1) 1 twoD 0 (signD (seedL oneD 0) twoD) []) = 0))) pu (.inl rfl) rfl rfl ?_
  refine fs_qg 12 [7, 11] [] rfl rfl ((y_p rfl).v (v' := .b true) (rfl)) rfl rfl ?_
  refine fs_q 13 [7, 12] [] (y_p rfl) rfl rfl ?_
  refine fs_q 14 [13] [] (y_p rfl) rfl rfl ?_
  refine fs_qg 15 [14] [(3, none)] rfl rfl (y_loadA0 ti23 rfl rfl (by first | rfl | omega | (simp; done) | (simp [*]; done) | (simp; omega) | (simp [*]; omega) | (simp [D32.len, -List.length_flatten, *]; done) | (simp [D32.len, -List.length_flatten, *]; omega))) rfl rfl ?_
  refine fs_qg 16 [14] [(2, none)] rfl rfl (y_loadA0 ti23 rfl rfl (by first | rfl | omega | (simp; done) | (simp [*]; done) | (simp; omega) | (simp [*]; omega) | (simp [D32.len, -List.length_flatten, *]; done) | (simp [D32.len, -List.length_flatten, *]; omega))) rfl rfl ?_
  refine fs_qg 17 [14] [] rfl rfl (y_bld (out := [_, _, _]) [[evC (.int .i64 0)], [evC (.slice none 0 0)], [evC (.slice none 0 0)]] ti28 rfl Tryd.underlying28 (by kernel_rfl) rfl rfl trivial rfl) rfl rfl ?_
  refine fs_call false 18 [14, 15, 16, 17] [] (gy1 rfl rfl) rfl (.cons (.pure pu) (.cons (.pure pu) (.cons (.pure pu) (.cons (.ag (.cons (.pure pu) (.cons .nl (.cons .nl .nil)))) (.nil))))) (Con.cast (kver_ok (rootD oneD 1) twoD 1 0 [] [] (by simp) (by simp) D32_nil D32_nil) (congrArg (A.i .i64) (by rw [ver_nilK]; rfl : errK (verK (rootD oneD 1) 1 twoD 0 [] []) = 60))) pu (.inl rfl) rfl rfl ?_
  refine fs_qg 19 [14, 18] [] rfl rfl ((y_p rfl).v (v' := .b true) (rfl)) rfl rfl ?_
  refine fs_q 20 [14, 19] [] (y_p rfl) rfl rfl ?_
  refine fs_q 21 [20] [] (y_p rfl) rfl rfl ?_
  refine fs_qg 22 [21] [] rfl rfl (y_p rfl) rfl rfl ?_
  refine fs_qg 23 [21, 22] [] rfl rfl ((y_p rfl).v (v' := .b true) (rfl)) rfl rfl ?_
  refine fs_q 24 [21, 23] [] (y_p rfl) rfl rfl ?_
  refine fs_q 25 [24] [] (y_p rfl) rfl rfl ?_
  refine fs_qg 26 [25] [] rfl rfl (y_p rfl) rfl rfl ?_
  refine fs_qg 27 [25, 26] [] rfl rfl ((y_p rfl).v (v' := .b true) (rfl)) rfl rfl ?_
  refine fs_q 28 [25, 27] [] (y_p rfl) rfl rfl ?_
  refine fs_q 29 [28] [] (y_p rfl) rfl rfl ?_
  refine fs_qg 30 [29] [] rfl rfl (y_p rfl) rfl rfl ?_
  refine fs_qg 31 [29, 30] [] rfl rfl ((y_p rfl).v (v' := .b true) (rfl)) rfl rfl ?_
  refine fs_q 32 [29, 31] [] (y_p rfl) rfl rfl ?_
  refine fs_q 33 [32] [] (y_p rfl) rfl rfl ?_
  refine fs_qg 34 [33] [] rfl rfl (y_p rfl) rfl rfl ?_
  refine fs_qg 35 [33, 34] [] rfl rfl ((y_p rfl).v (v' := .b true) (rfl)) rfl rfl ?_
  refine fs_q 36 [33, 35] [] (y_p rfl) rfl rfl ?_
  refine fs_q 37 [36] [] (y_p rfl) rfl rfl ?_
  refine fs_qg 38 [37] [] rfl rfl (y_p rfl) rfl rfl ?_
  refine fs_qg 39 [37, 38] [] rfl rfl ((y_p rfl).v (v' := .b true) (rfl)) rfl rfl ?_
  refine fs_q 40 [37, 39] [] (y_p rfl) rfl rfl ?_
  refine fs_q 41 [40] [] (y_p rfl) rfl rfl ?_
  refine fs_qg 42 [41] [] rfl rfl (y_p rfl) rfl rfl ?_
  refine fs_qg 43 [41, 42] [] rfl rfl ((y_p rfl).v (v' := .b true) (rfl)) rfl rfl ?_
  refine fs_q 44 [41, 43] [] (y_p rfl) rfl rfl ?_
  refine fs_q 45 [44] [] (y_p rfl) rfl rfl ?_
  refine fs_qg 46 [45] [] rfl rfl (y_p rfl) rfl rfl ?_
  refine fs_qg 47 [45, 46] [] rfl rfl ((y_p rfl).v (v' := .b true) (rfl)) rfl rfl ?_
  refine fs_q 48 [45, 47] [] (y_p rfl) rfl rfl ?_
  refine fs_end (by kernel_rfl) ?_
  refine s1 (y_p rfl) rfl <| ?_
  refine at_nil ?_
  refine x_tn ?_
  refine at_ret ?_
  refine at_result (rs := [.tmp 0]) rfl (r_tmp rfl r_nil) rfl
set_option linter.unusedSimpArgs false in
set_option linter.unusedVariables false in
set_option maxHeartbeats 1000000 in
set_option maxRecDepth 10000 in
theorem law_spec (x : List UInt8) (n a : Int) (m : List UInt8) (hx : x.length = 32) (hm : m.length = 32) : Con Tryd.prog 3 [.ag (x.map u8), .i .i64 n, .i .i64 a, .ag (m.map u8)] (Ret (.b true)) := by
  refine enter Tryd.func3 rfl Tryd.ntmps3 (by kernel_rfl) (Nat.le_of_ble_eq_true rfl) fun w0 X0 hI => ?_
  refine at_seq ?_
  refine at_region ?_
  refine at_op rfl (n_boxA 4 rfl rfl rfl ?_)
  refine at_op rfl (n_boxA 7 rfl rfl rfl ?_)
  refine s1 (y_p rfl) rfl <| ?_
  refine at_nil ?_
  refine x_tn ?_
  refine at_seq ?_
  refine at_seq ?_
  refine at_region ?_
  refine at_op rfl (n_call false rfl (.nil) (sane_ok) pu (.inl rfl) rfl ?_)
  refine s1 (y_p rfl) rfl <| ?_
  refine at_nil ?_
  refine x_tn ?_
  refine at_else rfl ?_
  refine at_skip ?_
  refine x_tn ?_
  refine at_seq ?_
  refine at_seq ?_
  refine at_region ?_
  refine s1 (y_p rfl) rfl <| s1 (y_bld (out := [_, _, _]) [[evC (.int .i64 0)], [evC (.slice none 0 0)], [evC (.slice none 0 0)]] ti28 rfl Tryd.underlying28 (by kernel_rfl) rfl rfl trivial rfl) rfl <| ?_
  refine at_wk 20 rfl (.ag (.cons (.eq rfl) (.cons .nl (.cons .nl .nil)))) ?_
  refine at_op rfl (n_call false rfl (.cons (.pure pu) (.cons (.pure pu) (.nil))) (few_ok n 0 [] []) pu (.inl rfl) rfl ?_)
  refine s1 (y_p rfl) rfl <| ?_
  refine at_nil ?_
  refine x_tn ?_
  refine at_cond rfl (fun hc22 => ?_) (fun hc22 => ?_)
  · skip
    refine at_seq ?_
    refine at_region ?_
    refine s1 (y_p rfl) rfl <| ?_
    refine at_nil ?_
    refine x_tn ?_
    refine at_ret ?_
    refine x_tr ?_
    refine at_result (rs := [.tmp 8]) rfl (r_tmp rfl r_nil) rfl
  · obtain ⟨b, S, P, e, hsg, hS, hP⟩ := sign_form x n a m
    refine at_skip ?_
    refine x_tn ?_
    refine at_seq ?_
    refine at_region ?_
    refine s1 (y_loadA0 ti23 rfl rfl (by first | rfl | omega | (simp; done) | (simp [*]; done) | (simp; omega) | (simp [*]; omega) | (simp [D32.len, -List.length_flatten, *]; done) | (simp [D32.len, -List.length_flatten, *]; omega))) rfl <| s1 (y_p rfl) rfl <| ?_
    refine at_op rfl (n_call false rfl (.cons (.pure pu) (.cons (.pure pu) (.nil))) (Con.cast (root_ok x n hx) (rootA_eq ..)) pu (.inl rfl) rfl ?_)
    refine s1 (y_p rfl) rfl <| s1 (y_p rfl) rfl <| s1 (y_p rfl) rfl <| ?_
    refine at_op rfl (n_alloc 9 rfl ti23 rfl rfl ?_)
    refine at_op rfl (n_storeA ti23 rfl rfl rfl (by first | rfl | omega | (simp; done) | (simp [*]; done) | (simp; omega) | (simp [*]; omega) | (simp [D32.len, -List.length_flatten, *]; done) | (simp [D32.len, -List.length_flatten, *]; omega)) (by first | rfl | omega | (simp; done) | (simp [*]; done) | (simp; omega) | (simp [*]; omega) | (simp [D32.len, -List.length_flatten, *]; done) | (simp [D32.len, -List.length_flatten, *]; omega)) ?_)
    refine s1 (y_p rfl) rfl <| ?_
    refine at_nil ?_
    refine x_tn ?_
    refine at_seq ?_
    refine at_region ?_
    refine s1 (y_loadA0 ti23 rfl rfl (by first | rfl | omega | (simp; done) | (simp [*]; done) | (simp; omega) | (simp [*]; omega) | (simp [D32.len, -List.length_flatten, *]; done) | (simp [D32.len, -List.length_flatten, *]; omega))) rfl <| s1 (y_p rfl) rfl <| ?_
    refine at_op rfl (n_call false rfl (.cons (.pure pu) (.cons (.pure pu) (.nil))) (Con.cast (rroot_ok x n hx) (rootA_eq ..)) pu (.inl rfl) rfl ?_)
    refine s1 (y_p rfl) rfl <| s1 (y_p rfl) rfl <| s1 (y_p rfl) rfl <| ?_
    refine at_op rfl (n_alloc 11 rfl ti23 rfl rfl ?_)
    refine at_op rfl (n_storeA ti23 rfl rfl rfl (by first | rfl | omega | (simp; done) | (simp [*]; done) | (simp; omega) | (simp [*]; omega) | (simp [D32.len, -List.length_flatten, *]; done) | (simp [D32.len, -List.length_flatten, *]; omega)) (by first | rfl | omega | (simp; done) | (simp [*]; done) | (simp; omega) | (simp [*]; omega) | (simp [D32.len, -List.length_flatten, *]; done) | (simp [D32.len, -List.length_flatten, *]; omega)) ?_)
    refine s1 (y_p rfl) rfl <| ?_
    refine at_nil ?_
    refine x_tn ?_
    refine at_seq ?_
    refine at_region ?_
    refine s1 (y_loadA0 ti23 rfl rfl (by first | rfl | omega | (simp; done) | (simp [*]; done) | (simp; omega) | (simp [*]; omega) | (simp [D32.len, -List.length_flatten, *]; done) | (simp [D32.len, -List.length_flatten, *]; omega))) rfl <| s1 (y_p rfl) rfl <| s1 (y_p rfl) rfl <| s1 (y_loadA0 ti23 rfl rfl (by first | rfl | omega | (simp; done) | (simp [*]; done) | (simp; omega) | (simp [*]; omega) | (simp [D32.len, -List.length_flatten, *]; done) | (simp [D32.len, -List.length_flatten, *]; omega))) rfl <| ?_
    refine at_op rfl (n_call false rfl (.cons (.pure pu) (.cons (.pure pu) (.cons (.pure pu) (.cons (.pure pu) (.nil))))) (Con.cast (ksign_ok x n a m hx hm) hsg) pu (.inl rfl) rfl ?_)
    refine s1 (y_p rfl) rfl <| s1 (y_p rfl) rfl <| s1 (y_p rfl) rfl <| ?_
    refine at_op rfl (n_alloc 13 rfl ti28 rfl rfl ?_)
    refine at_op rfl (n_storeA ti28 rfl rfl rfl (by first | rfl | omega | (simp; done) | (simp [*]; done) | (simp; omega) | (simp [*]; omega) | (simp [D32.len, -List.length_flatten, *]; done) | (simp [D32.len, -List.length_flatten, *]; omega)) (by first | rfl | omega | (simp; done) | (simp [*]; done) | (simp; omega) | (simp [*]; omega) | (simp [D32.len, -List.length_flatten, *]; done) | (simp [D32.len, -List.length_flatten, *]; omega)) ?_)
    refine s1 (y_p rfl) rfl <| ?_
    refine at_nil ?_
    refine x_tn ?_
    refine at_seq ?_
    refine at_region ?_
    refine s1 (y_loadA0 ti23 rfl rfl (by first | rfl | omega | (simp; done) | (simp [*]; done) | (simp; omega) | (simp [*]; omega) | (simp [D32.len, -List.length_flatten, *]; done) | (simp [D32.len, -List.length_flatten, *]; omega))) rfl <| s1 (y_p rfl) rfl <| s1 (y_p rfl) rfl <| s1 (y_loadA0 ti23 rfl rfl (by first | rfl | omega | (simp; done) | (simp [*]; done) | (simp; omega) | (simp [*]; omega) | (simp [D32.len, -List.length_flatten, *]; done) | (simp [D32.len, -List.length_flatten, *]; omega))) rfl <| ?_
    refine at_op rfl (n_call false rfl (.cons (.pure pu) (.cons (.pure pu) (.cons (.pure pu) (.cons (.pure pu) (.nil))))) (Con.cast (rksign_ok x n a m hx hm) hsg) pu (.inl rfl) rfl ?_)
    refine s1 (y_p rfl) rfl <| s1 (y_p rfl) rfl <| s1 (y_p rfl) rfl <| ?_
    refine at_op rfl (n_alloc 15 rfl ti28 rfl rfl ?_)
    refine at_op rfl (n_storeA ti28 rfl rfl rfl (by first | rfl | omega | (simp; done) | (simp [*]; done) | (simp; omega) | (simp [*]; omega) | (simp [D32.len, -List.length_flatten, *]; done) | (simp [D32.len, -List.length_flatten, *]; omega)) (by first | rfl | omega | (simp; done) | (simp [*]; done) | (simp; omega) | (simp [*]; omega) | (simp [D32.len, -List.length_flatten, *]; done) | (simp [D32.len, -List.length_flatten, *]; omega)) ?_)
    refine s1 (y_p rfl) rfl <| ?_
    refine at_nil ?_
    refine x_tn ?_
    refine at_seq ?_
    refine at_fs ⟨_, [], []⟩ 27 4 hmix (le_refl rfl) ?_
    refine fs_q 0 [] [(4, none)] (y_loadA0 ti23 rfl rfl (by first | rfl | omega | (simp; done) | (simp [*]; done) | (simp; omega) | (simp [*]; omega) | (simp [D32.len, -List.length_flatten, *]; done) | (simp [D32.len, -List.length_flatten, *]; omega))) rfl rfl ?_
    refine fs_q 1 [] [] (y_p rfl) rfl rfl ?_
    refine fs_call false 2 [0, 1] [] gy0 rfl (.cons (.pure pu) (.cons (.pure pu) (.nil))) (seed_ok x a hx) pu (.inl rfl) rfl rfl ?_
    refine fs_q 3 [] [(4, none)] (y_loadA0 ti23 rfl rfl (by first | rfl | omega | (simp; done) | (simp [*]; done) | (simp; omega) | (simp [*]; omega) | (simp [D32.len, -List.length_flatten, *]; done) | (simp [D32.len, -List.length_flatten, *]; omega))) rfl rfl ?_
    refine fs_q 4 [] [] (y_p rfl) rfl rfl ?_
    refine fs_call false 5 [3, 4] [] gy0 rfl (.cons (.pure pu) (.cons (.pure pu) (.nil))) (rseed_ok x a hx) pu (.inl rfl) rfl rfl ?_
    refine fs_q 6 [2, 5] [] ((y_aq Tryd.underlying23 Tryd.underlying5 ti5 (by kernel_rfl) rfl rfl (by first | assumption | (simp; done) | (simp [*]; done)) (by first | assumption | (simp; done) | (simp [*]; done))).v (v' := .b true) (congrArg A.b (by simp))) rfl rfl ?_
    refine fs_q 7 [6] [] (y_p rfl) rfl rfl ?_
    refine fs_qg 8 [7] [(9, none)] rfl rfl (y_loadA0 ti23 rfl rfl (by first | rfl | omega | (simp; done) | (simp [*]; done) | (simp; omega) | (simp [*]; omega) | (simp [D32.len, -List.length_flatten, *]; done) | (simp [D32.len, -List.length_flatten, *]; omega))) rfl rfl ?_
    refine fs_qg 9 [7] [(11, none)] rfl rfl (y_loadA0 ti23 rfl rfl (by first | rfl | omega | (simp; done) | (simp [*]; done) | (simp; omega) | (simp [*]; omega) | (simp [D32.len, -List.length_flatten, *]; done) | (simp [D32.len, -List.length_flatten, *]; omega))) rfl rfl ?_
    refine fs_qg 10 [7, 8, 9] [] rfl rfl ((y_aq Tryd.underlying23 Tryd.underlying5 ti5 (by kernel_rfl) rfl rfl (by first | assumption | (simp; done) | (simp [*]; done)) (by first | assumption | (simp; done) | (simp [*]; done))).v (v' := .b true) (congrArg A.b (by simp))) rfl rfl ?_
    refine fs_q 11 [7, 10] [] (y_p rfl) rfl rfl ?_
    refine fs_q 12 [11] [] (y_p rfl) rfl rfl ?_
    refine fs_qg 13 [12] [] rfl rfl (y_p rfl) rfl rfl ?_
    refine fs_qg 14 [12] [] rfl rfl (y_p rfl) rfl rfl ?_
    refine fs_qg 15 [12, 13, 14] [] rfl rfl ((y_p rfl).v (v' := .b true) (congrArg A.b (by simp))) rfl rfl ?_
    refine fs_q 16 [12, 15] [] (y_p rfl) rfl rfl ?_
    refine fs_q 17 [16] [] (y_p rfl) rfl rfl ?_
    refine fs_qg 18 [17] [(13, none)] rfl rfl (y_loadA0 ti28 rfl rfl (by first | rfl | omega | (simp; done) | (simp [*]; done) | (simp; omega) | (simp [*]; omega) | (simp [D32.len, -List.length_flatten, *]; done) | (simp [D32.len, -List.length_flatten, *]; omega))) rfl rfl ?_
    refine fs_qg 19 [17] [(15, none)] rfl rfl (y_loadA0 ti28 rfl rfl (by first | rfl | omega | (simp; done) | (simp [*]; done) | (simp; omega) | (simp [*]; omega) | (simp [D32.len, -List.length_flatten, *]; done) | (simp [D32.len, -List.length_flatten, *]; omega))) rfl rfl ?_
    refine fs_call false 20 [17, 18, 19] [] (gy1 rfl rfl) rfl (.cons (.pure pu) (.cons (.pure pu) (.nil))) (sameL_ok b S P hS hP) pu (.inl rfl) rfl rfl ?_
    refine fs_q 21 [17, 20] [] (y_p rfl) rfl rfl ?_
    refine fs_q 22 [21] [] (y_p rfl) rfl rfl ?_
    refine fs_qg 23 [22] [] rfl rfl (y_p rfl) rfl rfl ?_
    refine fs_qg 24 [22] [] rfl rfl (y_p rfl) rfl rfl ?_
    refine fs_qg 25 [22, 23, 24] [] rfl rfl ((y_p rfl).v (v' := .b true) (congrArg A.b (by simp))) rfl rfl ?_
    refine fs_q 26 [22, 25] [] (y_p rfl) rfl rfl ?_
    refine fs_end (by kernel_rfl) ?_
    refine s1 (y_p rfl) rfl <| ?_
    refine at_nil ?_
    refine x_tn ?_
    refine at_ret ?_
    refine at_result (rs := [.tmp 8]) rfl (r_tmp rfl r_nil) rfl
set_option linter.unusedSimpArgs false in
set_option linter.unusedVariables false in
set_option maxHeartbeats 1000000 in
set_option maxRecDepth 10000 in
theorem law_ver (r : List UInt8) (n : Int) (m : List UInt8) (f : Lf) (hr : r.length = 32) (hm : m.length = 32) (hS : D32 f.S) (hP : D32 f.P) : Con Tryd.prog 4 [.ag (r.map u8), .i .i64 n, .ag (m.map u8), .ag [.i .i64 f.a, dgs f.S, dgs f.P]] (Ret (.b true)) := by
  refine enter Tryd.func4 rfl Tryd.ntmps4 (by kernel_rfl) (Nat.le_of_ble_eq_true rfl) fun w0 X0 hI => ?_
  refine at_seq ?_
  refine at_region ?_
  refine at_op rfl (n_boxA 4 rfl rfl rfl ?_)
  refine at_op rfl (n_boxA 6 rfl rfl rfl ?_)
  refine at_op rfl (n_boxA 7 rfl rfl rfl ?_)
  refine s1 (y_p rfl) rfl <| ?_
  refine at_nil ?_
  refine x_tn ?_
  refine at_seq ?_
  refine at_seq ?_
  refine at_region ?_
  refine at_op rfl (n_call false rfl (.nil) (sane_ok) pu (.inl rfl) rfl ?_)
  refine s1 (y_p rfl) rfl <| ?_
  refine at_nil ?_
  refine x_tn ?_
  refine at_else rfl ?_
  refine at_skip ?_
  refine x_tn ?_
  refine at_seq ?_
  refine at_seq ?_
  refine at_region ?_
  refine s1 (y_fld Tryd.underlying28 rfl ti26 (by decide) rfl rfl) rfl <| s1 (y_load ti26 rfl rfl rfl) rfl <| s1 (y_len Tryd.underlying26 rfl rfl rfl) rfl <| s1 (y_p rfl) rfl <| s1 (y_p rfl) rfl <| ?_
  refine g_or 4 rfl rfl rfl rfl (fun hb15 => .step (y_fld Tryd.underlying28 rfl ti26 (by decide) rfl rfl) rfl rfl <| .step (y_load ti26 rfl rfl rfl) rfl rfl <| .step (y_len Tryd.underlying26 rfl rfl rfl) rfl rfl <| .step (y_p rfl) rfl rfl <| .done) rfl rfl ?_
  refine at_nil ?_
  refine x_tn ?_
  refine at_cond rfl (fun hc20 => ?_) (fun hc20 => ?_)
  · skip
    refine at_seq ?_
    refine at_region ?_
    refine s1 (y_p rfl) rfl <| ?_
    refine at_nil ?_
    refine x_tn ?_
    refine at_ret ?_
    refine x_tr ?_
    refine at_result (rs := [.tmp 8]) rfl (r_tmp rfl r_nil) rfl
  · skip
    refine at_skip ?_
    refine x_tn ?_
    refine at_seq ?_
    refine at_fs ⟨_, [], []⟩ 11 4 hmix (le_refl rfl) ?_
    refine fs_q 0 [] [(4, none)] (y_loadA0 ti23 rfl rfl (by first | rfl | omega | (simp; done) | (simp [*]; done) | (simp; omega) | (simp [*]; omega) | (simp [D32.len, -List.length_flatten, *]; done) | (simp [D32.len, -List.length_flatten, *]; omega))) rfl rfl ?_
    refine fs_q 1 [] [] (y_p rfl) rfl rfl ?_
    refine fs_q 2 [] [(6, none)] (y_loadA0 ti23 rfl rfl (by first | rfl | omega | (simp; done) | (simp [*]; done) | (simp; omega) | (simp [*]; omega) | (simp [D32.len, -List.length_flatten, *]; done) | (simp [D32.len, -List.length_flatten, *]; omega))) rfl rfl ?_
    refine fs_q 3 [] [(7, none)] (y_loadA0 ti28 rfl rfl (by first | rfl | omega | (simp; done) | (simp [*]; done) | (simp; omega) | (simp [*]; omega) | (simp [D32.len, -List.length_flatten, *]; done) | (simp [D32.len, -List.length_flatten, *]; omega))) rfl rfl ?_
    refine fs_call false 4 [0, 1, 2, 3] [] gy0 rfl (.cons (.pure pu) (.cons (.pure pu) (.cons (.pure pu) (.cons (.pure pu) (.nil))))) (kver_ok r m n f.a f.S f.P hr hm hS hP) pu (.inl rfl) rfl rfl ?_
    refine fs_q 5 [] [(4, none)] (y_loadA0 ti23 rfl rfl (by first | rfl | omega | (simp; done) | (simp [*]; done) | (simp; omega) | (simp [*]; omega) | (simp [D32.len, -List.length_flatten, *]; done) | (simp [D32.len, -List.length_flatten, *]; omega))) rfl rfl ?_
    refine fs_q 6 [] [] (y_p rfl) rfl rfl ?_
    refine fs_q 7 [] [(6, none)] (y_loadA0 ti23 rfl rfl (by first | rfl | omega | (simp; done) | (simp [*]; done) | (simp; omega) | (simp [*]; omega) | (simp [D32.len, -List.length_flatten, *]; done) | (simp [D32.len, -List.length_flatten, *]; omega))) rfl rfl ?_
    refine fs_q 8 [] [(7, none)] (y_loadA0 ti28 rfl rfl (by first | rfl | omega | (simp; done) | (simp [*]; done) | (simp; omega) | (simp [*]; omega) | (simp [D32.len, -List.length_flatten, *]; done) | (simp [D32.len, -List.length_flatten, *]; omega))) rfl rfl ?_
    refine fs_call false 9 [5, 6, 7, 8] [] gy0 rfl (.cons (.pure pu) (.cons (.pure pu) (.cons (.pure pu) (.cons (.pure pu) (.nil))))) (rkver_ok r m n f.a f.S f.P hr hm hS hP) pu (.inl rfl) rfl rfl ?_
    refine fs_q 10 [4, 9] [] ((y_p rfl).v (v' := .b true) (congrArg A.b (by simp))) rfl rfl ?_
    refine fs_end (by kernel_rfl) ?_
    refine s1 (y_p rfl) rfl <| ?_
    refine at_nil ?_
    refine x_tn ?_
    refine at_ret ?_
    refine at_result (rs := [.tmp 8]) rfl (r_tmp rfl r_nil) rfl
set_option linter.unusedSimpArgs false in
set_option linter.unusedVariables false in
set_option maxHeartbeats 1000000 in
set_option maxRecDepth 10000 in
theorem law_forg (x : List UInt8) (n : Int) (L : List (List UInt8)) (m : List UInt8) (f : Lf) (hx : x.length = 32) (hL : D32 L) (hm : m.length = 32) (hS : D32 f.S) (hP : D32 f.P) : Con Tryd.prog 5 [.ag (x.map u8), .i .i64 n, dgs L, .ag (m.map u8), .ag [.i .i64 f.a, dgs f.S, dgs f.P]] (Ret (.b true)) := by
  refine enter Tryd.func5 rfl Tryd.ntmps5 (by kernel_rfl) (Nat.le_of_ble_eq_true rfl) fun w0 X0 hI => ?_
  refine at_seq ?_
  refine at_region ?_
  refine at_op rfl (n_boxA 5 rfl rfl rfl ?_)
  refine at_op rfl (n_boxA 8 rfl rfl rfl ?_)
  refine at_op rfl (n_boxA 9 rfl rfl rfl ?_)
  refine s1 (y_p rfl) rfl <| ?_
  refine at_nil ?_
  refine x_tn ?_
  refine at_seq ?_
  refine at_seq ?_
  refine at_region ?_
  refine at_op rfl (n_call false rfl (.nil) (sane_ok) pu (.inl rfl) rfl ?_)
  refine s1 (y_p rfl) rfl <| ?_
  refine at_nil ?_
  refine x_tn ?_
  refine at_else rfl ?_
  refine at_skip ?_
  refine x_tn ?_
  refine at_seq ?_
  refine at_seq ?_
  rcases tfK (fewK n f.S.length f.P.length) with hcs | hcs
  · skip
    refine at_region ?_
    refine s1 (y_p rfl) rfl <| s1 (y_loadA0 ti28 rfl rfl (by first | rfl | omega | (simp; done) | (simp [*]; done) | (simp; omega) | (simp [*]; omega) | (simp [D32.len, -List.length_flatten, *]; done) | (simp [D32.len, -List.length_flatten, *]; omega))) rfl <| ?_
    refine at_op rfl (n_call false rfl (.cons (.pure pu) (.cons (.pure pu) (.nil))) (Con.cast (few_ok n f.a f.S f.P) (congrArg A.b hcs)) pu (.inl rfl) rfl ?_)
    refine s1 (y_p rfl) rfl <| s1 (y_p rfl) rfl <| g0 rfl rfl rfl rfl <| g0 rfl rfl rfl rfl <| g0 rfl rfl rfl rfl <| s1 (y_p rfl) rfl <| ?_
    refine at_nil ?_
    refine x_tn ?_
    refine at_then rfl ?_
    refine at_seq ?_
    refine at_region ?_
    refine s1 (y_p rfl) rfl <| ?_
    refine at_nil ?_
    refine x_tn ?_
    refine at_ret ?_
    refine x_tr ?_
    refine at_result (rs := [.tmp 10]) rfl (r_tmp rfl r_nil) rfl
  · skip
    refine at_region ?_
    refine s1 (y_p rfl) rfl <| s1 (y_loadA0 ti28 rfl rfl (by first | rfl | omega | (simp; done) | (simp [*]; done) | (simp; omega) | (simp [*]; omega) | (simp [D32.len, -List.length_flatten, *]; done) | (simp [D32.len, -List.length_flatten, *]; omega))) rfl <| ?_
    refine at_op rfl (n_call false rfl (.cons (.pure pu) (.cons (.pure pu) (.nil))) (Con.cast (few_ok n f.a f.S f.P) (congrArg A.b hcs)) pu (.inl rfl) rfl ?_)
    refine s1 (y_p rfl) rfl <| s1 (y_p rfl) rfl <| g1 rfl rfl (y_p rfl) rfl <| g1 rfl rfl (y_len Tryd.underlying26 rfl rfl rfl) rfl <| g1 rfl rfl (y_p rfl) rfl <| s1 (y_p rfl) rfl <| ?_
    refine at_nil ?_
    refine x_tn ?_
    refine at_cond rfl (fun hc25 => ?_) (fun hc25 => ?_)
    · skip
      refine at_seq ?_
      refine at_region ?_
      refine s1 (y_p rfl) rfl <| ?_
      refine at_nil ?_
      refine x_tn ?_
      refine at_ret ?_
      refine x_tr ?_
      refine at_result (rs := [.tmp 10]) rfl (r_tmp rfl r_nil) rfl
    · have hl : L.length ≤ 20 := by have := of_decide_eq_false hc25; omega
      refine at_skip ?_
      refine x_tn ?_
      refine at_seq ?_
      refine at_region ?_
      refine s1 (y_loadA0 ti23 rfl rfl (by first | rfl | omega | (simp; done) | (simp [*]; done) | (simp; omega) | (simp [*]; omega) | (simp [D32.len, -List.length_flatten, *]; done) | (simp [D32.len, -List.length_flatten, *]; omega))) rfl <| s1 (y_p rfl) rfl <| s1 (y_p rfl) rfl <| s1 (y_loadA0 ti23 rfl rfl (by first | rfl | omega | (simp; done) | (simp [*]; done) | (simp; omega) | (simp [*]; omega) | (simp [D32.len, -List.length_flatten, *]; done) | (simp [D32.len, -List.length_flatten, *]; omega))) rfl <| s1 (y_loadA0 ti28 rfl rfl (by first | rfl | omega | (simp; done) | (simp [*]; done) | (simp; omega) | (simp [*]; omega) | (simp [D32.len, -List.length_flatten, *]; done) | (simp [D32.len, -List.length_flatten, *]; omega))) rfl <| ?_
      refine at_op rfl (n_call false rfl (.cons (.pure pu) (.cons (.pure pu) (.cons (.pure pu) (.cons (.pure pu) (.cons (.pure pu) (.nil)))))) (Con.cast (kforg_ok x n L m f.a f.S f.P hx hL (by omega) hm hS hP) (forgA_eq ..)) pu (.inl rfl) rfl ?_)
      refine s1 (y_p rfl) rfl <| s1 (y_p rfl) rfl <| s1 (y_p rfl) rfl <| s1 (y_p rfl) rfl <| s1 (y_p rfl) rfl <| ?_
      refine at_nil ?_
      refine x_tn ?_
      refine at_seq ?_
      refine at_region ?_
      refine s1 (y_loadA0 ti23 rfl rfl (by first | rfl | omega | (simp; done) | (simp [*]; done) | (simp; omega) | (simp [*]; omega) | (simp [D32.len, -List.length_flatten, *]; done) | (simp [D32.len, -List.length_flatten, *]; omega))) rfl <| s1 (y_p rfl) rfl <| s1 (y_p rfl) rfl <| s1 (y_loadA0 ti23 rfl rfl (by first | rfl | omega | (simp; done) | (simp [*]; done) | (simp; omega) | (simp [*]; omega) | (simp [D32.len, -List.length_flatten, *]; done) | (simp [D32.len, -List.length_flatten, *]; omega))) rfl <| s1 (y_loadA0 ti28 rfl rfl (by first | rfl | omega | (simp; done) | (simp [*]; done) | (simp; omega) | (simp [*]; omega) | (simp [D32.len, -List.length_flatten, *]; done) | (simp [D32.len, -List.length_flatten, *]; omega))) rfl <| ?_
      refine at_op rfl (n_call false rfl (.cons (.pure pu) (.cons (.pure pu) (.cons (.pure pu) (.cons (.pure pu) (.cons (.pure pu) (.nil)))))) (Con.cast (rkforg_ok x n L m f.a f.S f.P hx hL (by omega) hm hS hP) (forgA_eq ..)) pu (.inl rfl) rfl ?_)
      refine s1 (y_p rfl) rfl <| s1 (y_p rfl) rfl <| s1 (y_p rfl) rfl <| s1 (y_p rfl) rfl <| s1 (y_p rfl) rfl <| ?_
      refine at_nil ?_
      refine x_tn ?_
      refine at_seq ?_
      refine at_region ?_
      refine s1 (y_p rfl) rfl <| s1 (y_p rfl) rfl <| s1 ((y_p rfl).v (v' := .b true) (congrArg A.b (by simp))) rfl <| s1 (y_p rfl) rfl <| g1 rfl rfl (y_p rfl) rfl <| g1 rfl rfl (y_p rfl) rfl <| g1 rfl rfl ((y_p rfl).v (v' := .b true) (congrArg A.b (by simp))) rfl <| s1 (y_p rfl) rfl <| s1 (y_p rfl) rfl <| ?_
      refine at_nil ?_
      refine x_tn ?_
      refine at_ret ?_
      refine at_result (rs := [.tmp 10]) rfl (r_tmp rfl r_nil) rfl
set_option linter.unusedSimpArgs false in
set_option linter.unusedVariables false in
set_option maxHeartbeats 1000000 in
set_option maxRecDepth 10000 in
theorem law_acc (x : List UInt8) (n a : Int) (m : List UInt8) (hx : x.length = 32) (hm : m.length = 32) : Con Tryd.prog 7 [.ag (x.map u8), .i .i64 n, .i .i64 a, .ag (m.map u8)] (Ret (.b true)) := by
  refine enter Tryd.func7 rfl Tryd.ntmps7 (by kernel_rfl) (Nat.le_of_ble_eq_true rfl) fun w0 X0 hI => ?_
  refine at_seq ?_
  refine at_region ?_
  refine at_op rfl (n_boxA 4 rfl rfl rfl ?_)
  refine at_op rfl (n_boxA 7 rfl rfl rfl ?_)
  refine s1 (y_p rfl) rfl <| ?_
  refine at_nil ?_
  refine x_tn ?_
  refine at_seq ?_
  refine at_seq ?_
  refine at_region ?_
  refine at_op rfl (n_call false rfl (.nil) (sane_ok) pu (.inl rfl) rfl ?_)
  refine s1 (y_p rfl) rfl <| ?_
  refine at_nil ?_
  refine x_tn ?_
  refine at_else rfl ?_
  refine at_skip ?_
  refine x_tn ?_
  refine at_seq ?_
  refine at_seq ?_
  refine at_region ?_
  refine s1 (y_p rfl) rfl <| s1 (y_bld (out := [_, _, _]) [[evC (.int .i64 0)], [evC (.slice none 0 0)], [evC (.slice none 0 0)]] ti28 rfl Tryd.underlying28 (by kernel_rfl) rfl rfl trivial rfl) rfl <| ?_
  refine at_wk 19 rfl (.ag (.cons (.eq rfl) (.cons .nl (.cons .nl .nil)))) ?_
  refine at_op rfl (n_call false rfl (.cons (.pure pu) (.cons (.pure pu) (.nil))) (few_ok n 0 [] []) pu (.inl rfl) rfl ?_)
  refine s1 (y_p rfl) rfl <| s1 (y_p rfl) rfl <| ?_
  refine g_or 2 rfl rfl rfl rfl (fun hb22 => .step (y_p rfl) rfl rfl <| .step (y_p rfl) rfl rfl <| .done) rfl rfl ?_
  refine at_nil ?_
  refine x_tn ?_
  refine at_cond rfl (fun hc25 => ?_) (fun hc25 => ?_)
  · skip
    refine at_seq ?_
    refine at_region ?_
    refine s1 (y_p rfl) rfl <| ?_
    refine at_nil ?_
    refine x_tn ?_
    refine at_ret ?_
    refine x_tr ?_
    refine at_result (rs := [.tmp 8]) rfl (r_tmp rfl r_nil) rfl
  · skip
    refine at_skip ?_
    refine x_tn ?_
    refine at_seq ?_
    rcases (Decidable.em (sizeK n)).symm with hcs | hcs
    · skip
      refine at_region ?_
      refine s1 (y_loadA0 ti23 rfl rfl (by first | rfl | omega | (simp; done) | (simp [*]; done) | (simp; omega) | (simp [*]; omega) | (simp [D32.len, -List.length_flatten, *]; done) | (simp [D32.len, -List.length_flatten, *]; omega))) rfl <| s1 (y_p rfl) rfl <| ?_
      refine at_op rfl (n_call false rfl (.cons (.pure pu) (.cons (.pure pu) (.nil))) (Con.cast (root_ok x n hx) (rootA_no hcs)) pu (.inl rfl) rfl ?_)
      refine s1 (y_p rfl) rfl <| s1 (y_p rfl) rfl <| s1 (y_p rfl) rfl <| ?_
      refine at_op rfl (n_alloc 9 rfl ti23 rfl rfl ?_)
      refine at_op rfl (n_storeA ti23 rfl rfl rfl (by first | rfl | omega | (simp; done) | (simp [*]; done) | (simp; omega) | (simp [*]; omega) | (simp [D32.len, -List.length_flatten, *]; done) | (simp [D32.len, -List.length_flatten, *]; omega)) (by first | rfl | omega | (simp; done) | (simp [*]; done) | (simp; omega) | (simp [*]; omega) | (simp [D32.len, -List.length_flatten, *]; done) | (simp [D32.len, -List.length_flatten, *]; omega)) ?_)
      refine s1 (y_p rfl) rfl <| ?_
      refine at_nil ?_
      refine x_tn ?_
      refine at_seq ?_
      refine at_region ?_
      refine s1 (y_loadA0 ti23 rfl rfl (by first | rfl | omega | (simp; done) | (simp [*]; done) | (simp; omega) | (simp [*]; omega) | (simp [D32.len, -List.length_flatten, *]; done) | (simp [D32.len, -List.length_flatten, *]; omega))) rfl <| s1 (y_p rfl) rfl <| s1 (y_p rfl) rfl <| s1 (y_loadA0 ti23 rfl rfl (by first | rfl | omega | (simp; done) | (simp [*]; done) | (simp; omega) | (simp [*]; omega) | (simp [D32.len, -List.length_flatten, *]; done) | (simp [D32.len, -List.length_flatten, *]; omega))) rfl <| ?_
      refine at_op rfl (n_call false rfl (.cons (.pure pu) (.cons (.pure pu) (.cons (.pure pu) (.cons (.pure pu) (.nil))))) (Con.cast (ksign_ok x n a m hx hm) (signA_no (fun h => hcs h.1))) pu (.inl rfl) rfl ?_)
      refine s1 (y_p rfl) rfl <| s1 (y_p rfl) rfl <| s1 (y_p rfl) rfl <| ?_
      refine at_op rfl (n_alloc 11 rfl ti28 rfl rfl ?_)
      refine at_op rfl (n_storeA ti28 rfl rfl rfl (by first | rfl | omega | (simp; done) | (simp [*]; done) | (simp; omega) | (simp [*]; omega) | (simp [D32.len, -List.length_flatten, *]; done) | (simp [D32.len, -List.length_flatten, *]; omega)) (by first | rfl | omega | (simp; done) | (simp [*]; done) | (simp; omega) | (simp [*]; omega) | (simp [D32.len, -List.length_flatten, *]; done) | (simp [D32.len, -List.length_flatten, *]; omega)) ?_)
      refine s1 (y_p rfl) rfl <| ?_
      refine at_nil ?_
      refine x_tn ?_
      refine at_seq ?_
      refine at_seq ?_
      refine at_region ?_
      refine s1 (y_p rfl) rfl <| s1 ((y_p rfl).v (v' := .b true) (rfl)) rfl <| s1 (y_p rfl) rfl <| g0 rfl rfl rfl rfl <| g0 rfl rfl rfl rfl <| s1 (y_p rfl) rfl <| ?_
      refine at_nil ?_
      refine x_tn ?_
      refine at_then rfl ?_
      refine at_seq ?_
      refine at_region ?_
      refine s1 (y_fld Tryd.underlying28 rfl ti26 (by decide) rfl rfl) rfl <| s1 (y_load ti26 rfl rfl rfl) rfl <| s1 (y_len Tryd.underlying26 rfl rfl rfl) rfl <| s1 (y_fld Tryd.underlying28 rfl ti26 (by decide) rfl rfl) rfl <| s1 (y_load ti26 rfl rfl rfl) rfl <| s1 (y_len Tryd.underlying26 rfl rfl rfl) rfl <| s1 (addN 0 0 rfl rfl rfl rfl (by decide)) rfl <| s1 ((y_p rfl).v (v' := .b true) (rfl)) rfl <| s1 (y_p rfl) rfl <| g1 rfl rfl (y_p rfl) rfl <| ?_
      refine g1 rfl rfl ((y_p rfl).v (v' := .b false) (rfl)) rfl <| g1 rfl rfl (y_p rfl) rfl <| g1 rfl rfl (y_p rfl) rfl <| g1 rfl rfl ((y_p rfl).v (v' := .b true) (rfl)) rfl <| g1 rfl rfl (y_p rfl) rfl <| g1 rfl rfl (y_p rfl) rfl <| g1 rfl rfl (y_p rfl) rfl <| g1 rfl rfl ((y_p rfl).v (v' := .b true) (rfl)) rfl <| g1 rfl rfl (y_p rfl) rfl <| g1 rfl rfl (y_p rfl) rfl <| ?_
      refine s1 (y_p rfl) rfl <| s1 (y_p rfl) rfl <| ?_
      refine at_nil ?_
      refine x_tn ?_
      refine at_ret ?_
      refine x_tr ?_
      refine at_result (rs := [.tmp 8]) rfl (r_tmp rfl r_nil) rfl
    · have hsz := hcs
      obtain ⟨k, rfl, h1, h2⟩ := sizeK_nat hcs
      refine at_region ?_
      refine s1 (y_loadA0 ti23 rfl rfl (by first | rfl | omega | (simp; done) | (simp [*]; done) | (simp; omega) | (simp [*]; omega) | (simp [D32.len, -List.length_flatten, *]; done) | (simp [D32.len, -List.length_flatten, *]; omega))) rfl <| s1 (y_p rfl) rfl <| ?_
      refine at_op rfl (n_call false rfl (.cons (.pure pu) (.cons (.pure pu) (.nil))) (Con.cast (root_ok x k hx) ((rootA_eq ..).trans (by rw [decide_eq_true hsz]; rfl : _ = .tu [.ag ((rootD x (k : Int)).map u8), .i .i64 0]))) pu (.inl rfl) rfl ?_)
      refine s1 (y_p rfl) rfl <| s1 (y_p rfl) rfl <| s1 (y_p rfl) rfl <| ?_
      refine at_op rfl (n_alloc 9 rfl ti23 rfl rfl ?_)
      refine at_op rfl (n_storeA ti23 rfl rfl rfl (by first | rfl | omega | (simp; done) | (simp [*]; done) | (simp; omega) | (simp [*]; omega) | (simp [D32.len, -List.length_flatten, *]; done) | (simp [D32.len, -List.length_flatten, *]; omega)) (by first | rfl | omega | (simp; done) | (simp [*]; done) | (simp; omega) | (simp [*]; omega) | (simp [D32.len, -List.length_flatten, *]; done) | (simp [D32.len, -List.length_flatten, *]; omega)) ?_)
      refine s1 (y_p rfl) rfl <| ?_
      refine at_nil ?_
      refine x_tn ?_
      refine at_seq ?_
      rcases (Decidable.em (atK (k : Int) a)).symm with hcs | hcs
      · skip
        refine at_region ?_
        refine s1 (y_loadA0 ti23 rfl rfl (by first | rfl | omega | (simp; done) | (simp [*]; done) | (simp; omega) | (simp [*]; omega) | (simp [D32.len, -List.length_flatten, *]; done) | (simp [D32.len, -List.length_flatten, *]; omega))) rfl <| s1 (y_p rfl) rfl <| s1 (y_p rfl) rfl <| s1 (y_loadA0 ti23 rfl rfl (by first | rfl | omega | (simp; done) | (simp [*]; done) | (simp; omega) | (simp [*]; omega) | (simp [D32.len, -List.length_flatten, *]; done) | (simp [D32.len, -List.length_flatten, *]; omega))) rfl <| ?_
        refine at_op rfl (n_call false rfl (.cons (.pure pu) (.cons (.pure pu) (.cons (.pure pu) (.cons (.pure pu) (.nil))))) (Con.cast (ksign_ok x k a m hx hm) (signA_no (fun h => hcs h.2))) pu (.inl rfl) rfl ?_)
        refine s1 (y_p rfl) rfl <| s1 (y_p rfl) rfl <| s1 (y_p rfl) rfl <| ?_
        refine at_op rfl (n_alloc 11 rfl ti28 rfl rfl ?_)
        refine at_op rfl (n_storeA ti28 rfl rfl rfl (by first | rfl | omega | (simp; done) | (simp [*]; done) | (simp; omega) | (simp [*]; omega) | (simp [D32.len, -List.length_flatten, *]; done) | (simp [D32.len, -List.length_flatten, *]; omega)) (by first | rfl | omega | (simp; done) | (simp [*]; done) | (simp; omega) | (simp [*]; omega) | (simp [D32.len, -List.length_flatten, *]; done) | (simp [D32.len, -List.length_flatten, *]; omega)) ?_)
        refine s1 (y_p rfl) rfl <| ?_
        refine at_nil ?_
        refine x_tn ?_
        refine at_seq ?_
        refine at_seq ?_
        refine at_region ?_
        refine s1 (y_p rfl) rfl <| s1 ((y_p rfl).v (v' := .b false) (rfl)) rfl <| s1 (y_p rfl) rfl <| g1 rfl rfl (y_p rfl) rfl <| g1 rfl rfl ((y_p rfl).v (v' := .b true) (rfl)) rfl <| s1 (y_p rfl) rfl <| ?_
        refine at_nil ?_
        refine x_tn ?_
        refine at_then rfl ?_
        refine at_seq ?_
        refine at_region ?_
        refine s1 (y_fld Tryd.underlying28 rfl ti26 (by decide) rfl rfl) rfl <| s1 (y_load ti26 rfl rfl rfl) rfl <| s1 (y_len Tryd.underlying26 rfl rfl rfl) rfl <| s1 (y_fld Tryd.underlying28 rfl ti26 (by decide) rfl rfl) rfl <| s1 (y_load ti26 rfl rfl rfl) rfl <| s1 (y_len Tryd.underlying26 rfl rfl rfl) rfl <| s1 (addN 0 0 rfl rfl rfl rfl (by decide)) rfl <| s1 ((y_p rfl).v (v' := .b true) (rfl)) rfl <| s1 (y_p rfl) rfl <| g1 rfl rfl (y_p rfl) rfl <| ?_
        refine g1 rfl rfl ((y_p rfl).v (v' := .b true) (rfl)) rfl <| g1 rfl rfl (y_p rfl) rfl <| g0 rfl rfl rfl rfl <| g0 rfl rfl rfl rfl <| g0 rfl rfl rfl rfl <| g0u rfl rfl rfl <| g0u rfl rfl rfl <| g0u rfl rfl rfl <| g0 rfl rfl rfl rfl <| g1 rfl rfl (y_p rfl) rfl <| ?_
        refine s1 (y_p rfl) rfl <| s1 (y_p rfl) rfl <| ?_
        refine at_nil ?_
        refine x_tn ?_
        refine at_ret ?_
        refine x_tr ?_
        refine at_result (rs := [.tmp 8]) rfl (r_tmp rfl r_nil) rfl
      · obtain ⟨i, rfl, hi⟩ : ∃ i : Nat, a = (i : Int) ∧ i < k := ⟨a.toNat, by unfold atK at hcs; omega, by unfold atK at hcs; omega⟩
        have hDP : D32 (path (kpubs x k) i) := D32_path _ _ _ (Nat.le_refl _)
        refine at_region ?_
        refine s1 (y_loadA0 ti23 rfl rfl (by first | rfl | omega | (simp; done) | (simp [*]; done) | (simp; omega) | (simp [*]; omega) | (simp [D32.len, -List.length_flatten, *]; done) | (simp [D32.len, -List.length_flatten, *]; omega))) rfl <| s1 (y_p rfl) rfl <| s1 (y_p rfl) rfl <| s1 (y_loadA0 ti23 rfl rfl (by first | rfl | omega | (simp; done) | (simp [*]; done) | (simp; omega) | (simp [*]; omega) | (simp [D32.len, -List.length_flatten, *]; done) | (simp [D32.len, -List.length_flatten, *]; omega))) rfl <| ?_
        refine at_op rfl (n_call false rfl (.cons (.pure pu) (.cons (.pure pu) (.cons (.pure pu) (.cons (.pure pu) (.nil))))) (Con.cast (ksign_ok x k i m hx hm) (signA_yes hsz hi)) pu (.inl rfl) rfl ?_)
        refine s1 (y_p rfl) rfl <| s1 (y_p rfl) rfl <| s1 (y_p rfl) rfl <| ?_
        refine at_op rfl (n_alloc 11 rfl ti28 rfl rfl ?_)
        refine at_op rfl (n_storeA ti28 rfl rfl rfl (by first | rfl | omega | (simp; done) | (simp [*]; done) | (simp; omega) | (simp [*]; omega) | (simp [D32.len, -List.length_flatten, *]; done) | (simp [D32.len, -List.length_flatten, *]; omega)) (by first | rfl | omega | (simp; done) | (simp [*]; done) | (simp; omega) | (simp [*]; omega) | (simp [D32.len, -List.length_flatten, *]; done) | (simp [D32.len, -List.length_flatten, *]; omega)) ?_)
        refine s1 (y_p rfl) rfl <| ?_
        refine at_nil ?_
        refine x_tn ?_
        refine at_seq ?_
        refine at_seq ?_
        refine at_region ?_
        refine s1 (y_p rfl) rfl <| s1 ((y_p rfl).v (v' := .b false) (rfl)) rfl <| s1 (y_p rfl) rfl <| g1 rfl rfl (y_p rfl) rfl <| g1 rfl rfl ((y_p rfl).v (v' := .b false) (rfl)) rfl <| s1 (y_p rfl) rfl <| ?_
        refine at_nil ?_
        refine x_tn ?_
        refine at_else rfl ?_
        refine at_skip ?_
        refine x_tn ?_
        refine at_seq ?_
        refine at_region ?_
        refine s1 (y_p rfl) rfl <| s1 (addN i 1 rfl rfl rfl rfl (by omega)) rfl <| ?_
        refine at_op rfl (n_makeZ 69 32 rfl _ _ Tryd.underlying26 ti23 (by decide) rfl rfl rfl rfl rfl (by first | omega | (simp only [maxLen]; omega) | (simp [maxLen]; done) | (simp [maxLen]; omega) | (simp [maxLen, *]; omega)) (by first | omega | (simp only [maxLen]; omega) | (simp [maxLen]; done) | (simp [maxLen]; omega) | (simp [maxLen, *]; omega)) (by first | omega | (simp only [maxLen]; omega) | (simp [maxLen]; done) | (simp [maxLen]; omega) | (simp [maxLen, *]; omega)) rfl ?_)
        refine s1 (y_p rfl) rfl <| ?_
        refine at_nil ?_
        refine x_tn ?_
        refine at_seq ?_
        refine at_region ?_
        refine s1 (y_p rfl) rfl <| s1 (y_p rfl) rfl <| s1 (y_loadA0 ti23 rfl rfl (by first | rfl | omega | (simp; done) | (simp [*]; done) | (simp; omega) | (simp [*]; omega) | (simp [D32.len, -List.length_flatten, *]; done) | (simp [D32.len, -List.length_flatten, *]; omega))) rfl <| s1 (y_ixs i Tryd.underlying26 ti23 rfl rfl rfl rfl (by omega) rfl) rfl <| ?_
        refine at_op rfl (n_store ti23 rfl rfl rfl rfl rfl (by show (List.map u8 m).length = 32; simp [hm]) (by simp; omega) (cells_atL i) ?_)
        refine at_nil ?_
        refine x_tn ?_
        refine at_seq ?_
        obtain ⟨ke, ce, forgE, hz⟩ := forg_atE x k m i (signD (seedL x (i : Nat)) m) (path (kpubs x k) i)
        refine at_region ?_
        refine s1 (y_loadA0 ti23 rfl rfl (by first | rfl | omega | (simp; done) | (simp [*]; done) | (simp; omega) | (simp [*]; omega) | (simp [D32.len, -List.length_flatten, *]; done) | (simp [D32.len, -List.length_flatten, *]; omega))) rfl <| s1 (y_p rfl) rfl <| s1 (y_p rfl) rfl <| s1 (y_loadA0 ti23 rfl rfl (by first | rfl | omega | (simp; done) | (simp [*]; done) | (simp; omega) | (simp [*]; omega) | (simp [D32.len, -List.length_flatten, *]; done) | (simp [D32.len, -List.length_flatten, *]; omega))) rfl <| s1 (y_loadA0 ti28 rfl rfl (by first | rfl | omega | (simp; done) | (simp [*]; done) | (simp; omega) | (simp [*]; omega) | (simp [D32.len, -List.length_flatten, *]; done) | (simp [D32.len, -List.length_flatten, *]; omega))) rfl <| ?_
        refine at_op rfl (n_call true rfl (.cons (.pure pu) (.cons (.pure pu) (.cons (.sl rfl rfl (len_atL i m).symm (view_eq (by rw [List.length_map, (D32_atL hm i).len, len_atL]) rfl) (VwL.pure pul) pul) (.cons (.pure pu) (.cons (.pure pu) .nil))))) (Con.cast (kforg_ok x k (atL i m) m (i : Nat) (signD (seedL x (i : Nat)) m) (path (kpubs x k) i) hx (D32_atL hm i) (by simp; omega) hm (D32_signD _ _) hDP) forgE) pu (.inr fu) rfl ?_)
        refine s1 (y_p rfl) rfl <| s1 (y_p rfl) rfl <| s1 (y_p rfl) rfl <| s1 (y_p rfl) rfl <| s1 (y_p rfl) rfl <| ?_
        refine at_nil ?_
        refine x_tn ?_
        refine at_seq ?_
        refine at_seq ?_
        refine at_region ?_
        refine s1 (y_loadA0 ti23 rfl rfl (by first | rfl | omega | (simp; done) | (simp [*]; done) | (simp; omega) | (simp [*]; omega) | (simp [D32.len, -List.length_flatten, *]; done) | (simp [D32.len, -List.length_flatten, *]; omega))) rfl <| s1 ((y_bld0 ti23 rfl Tryd.underlying23 ti5 rfl).v (v' := .ag (zD.map u8)) (congrArg A.ag zD_cells)) rfl <| s1 (y_aq Tryd.underlying23 Tryd.underlying5 ti5 (by kernel_rfl) rfl rfl (by first | assumption | (simp; done) | (simp [*]; done)) (by first | assumption | (simp; done) | (simp [*]; done))) rfl <| ?_
        refine at_nil ?_
        refine x_tn ?_
        refine at_cond rfl (fun hc85 => ?_) (fun hc85 => ?_)
        · skip
          refine at_seq ?_
          refine at_region ?_
          refine s1 ((y_p rfl).v (v' := .i .i64 0) rfl) rfl <| ?_
          refine at_nil ?_
          refine x_tn ?_
          refine at_region ?_
          refine s1 ((y_p rfl).v (v' := .i .i64 0) rfl) rfl <| ?_
          refine at_nil ?_
          refine x_tn ?_
          refine at_seq ?_
          refine at_region ?_
          refine s1 (y_loadA0 ti23 rfl rfl (by first | rfl | omega | (simp; done) | (simp [*]; done) | (simp; omega) | (simp [*]; omega) | (simp [D32.len, -List.length_flatten, *]; done) | (simp [D32.len, -List.length_flatten, *]; omega))) rfl <| s1 (y_p rfl) rfl <| s1 (y_loadA0 ti23 rfl rfl (by first | rfl | omega | (simp; done) | (simp [*]; done) | (simp; omega) | (simp [*]; omega) | (simp [D32.len, -List.length_flatten, *]; done) | (simp [D32.len, -List.length_flatten, *]; omega))) rfl <| s1 (y_loadA0 ti28 rfl rfl (by first | rfl | omega | (simp; done) | (simp [*]; done) | (simp; omega) | (simp [*]; omega) | (simp [D32.len, -List.length_flatten, *]; done) | (simp [D32.len, -List.length_flatten, *]; omega))) rfl <| ?_
          refine at_op rfl (n_call false rfl (.cons (.pure pu) (.cons (.pure pu) (.cons (.pure pu) (.cons (.pure pu) (.nil))))) (Con.cast (kver_ok (rootD x (k : Int)) m k (i : Nat) (signD (seedL x (i : Nat)) m) (path (kpubs x k) i) (by simp) hm (D32_signD _ _) hDP) (congrArg (A.i .i64) (by rw [ver_signed m hsz hi]; rfl : errK (verK (rootD x (k : Int)) k m i (signD (seedL x (i : Nat)) m) (path (kpubs x k) i)) = 0))) pu (.inl rfl) rfl ?_)
          refine s1 ((y_p rfl).v (v' := .b true) (rfl)) rfl <| s1 (y_p rfl) rfl <| g1 rfl rfl ((y_p rfl).v (v' := .i .i64 0) rfl) rfl <| g1 rfl rfl ((y_p rfl).v (v' := .b true) (rfl)) rfl <| s1 (y_p rfl) rfl <| s1 (y_p rfl) rfl <| g1 rfl rfl ((y_p rfl).v (v' := .i .i64 0) rfl) rfl <| g1 rfl rfl ((y_p rfl).v (v' := .b true) (rfl)) rfl <| s1 (y_p rfl) rfl <| s1 (y_p rfl) rfl <| ?_
          refine g1 rfl rfl (y_fld Tryd.underlying28 rfl ti3 (by decide) rfl rfl) rfl <| g1 rfl rfl (y_load ti3 rfl rfl rfl) rfl <| g1 rfl rfl (y_p rfl) rfl <| g1 rfl rfl ((y_p rfl).v (v' := .b true) (congrArg A.b (by simp))) rfl <| s1 (y_p rfl) rfl <| s1 (y_p rfl) rfl <| ?_
          refine at_nil ?_
          refine x_tn ?_
          refine at_ret ?_
          refine at_result (rs := [.tmp 8]) rfl (r_tmp rfl r_nil) rfl
        · obtain ⟨rfl, rfl⟩ := hz hc85
          refine at_skip ?_
          refine x_tn ?_
          refine at_seq ?_
          refine at_region ?_
          refine s1 (y_loadA0 ti23 rfl rfl (by first | rfl | omega | (simp; done) | (simp [*]; done) | (simp; omega) | (simp [*]; omega) | (simp [D32.len, -List.length_flatten, *]; done) | (simp [D32.len, -List.length_flatten, *]; omega))) rfl <| s1 (y_p rfl) rfl <| s1 (y_loadA0 ti23 rfl rfl (by first | rfl | omega | (simp; done) | (simp [*]; done) | (simp; omega) | (simp [*]; omega) | (simp [D32.len, -List.length_flatten, *]; done) | (simp [D32.len, -List.length_flatten, *]; omega))) rfl <| s1 (y_loadA0 ti28 rfl rfl (by first | rfl | omega | (simp; done) | (simp [*]; done) | (simp; omega) | (simp [*]; omega) | (simp [D32.len, -List.length_flatten, *]; done) | (simp [D32.len, -List.length_flatten, *]; omega))) rfl <| ?_
          refine at_op rfl (n_call false rfl (.cons (.pure pu) (.cons (.pure pu) (.cons (.pure pu) (.cons (.pure pu) (.nil))))) (Con.cast (kver_ok (rootD x (k : Int)) m k (i : Nat) (signD (seedL x (i : Nat)) m) (path (kpubs x k) i) (by simp) hm (D32_signD _ _) hDP) (congrArg (A.i .i64) (by rw [ver_signed m hsz hi]; rfl : errK (verK (rootD x (k : Int)) k m i (signD (seedL x (i : Nat)) m) (path (kpubs x k) i)) = 0))) pu (.inl rfl) rfl ?_)
          refine s1 ((y_p rfl).v (v' := .b true) (rfl)) rfl <| s1 (y_p rfl) rfl <| g1 rfl rfl (y_p rfl) rfl <| g1 rfl rfl ((y_p rfl).v (v' := .b true) (rfl)) rfl <| s1 (y_p rfl) rfl <| s1 (y_p rfl) rfl <| g1 rfl rfl (y_p rfl) rfl <| g1 rfl rfl ((y_p rfl).v (v' := .b true) (rfl)) rfl <| s1 (y_p rfl) rfl <| s1 (y_p rfl) rfl <| ?_
          refine g1 rfl rfl (y_fld Tryd.underlying28 rfl ti3 (by decide) rfl rfl) rfl <| g1 rfl rfl (y_load ti3 rfl rfl rfl) rfl <| g1 rfl rfl (y_p rfl) rfl <| g1 rfl rfl ((y_p rfl).v (v' := .b true) (congrArg A.b (by simp))) rfl <| s1 (y_p rfl) rfl <| s1 (y_p rfl) rfl <| ?_
          refine at_nil ?_
          refine x_tn ?_
          refine at_ret ?_
          refine at_result (rs := [.tmp 8]) rfl (r_tmp rfl r_nil) rfl
set_option linter.unusedSimpArgs false in
set_option linter.unusedVariables false in
set_option maxHeartbeats 1000000 in
set_option maxRecDepth 10000 in
theorem law_path (x : List UInt8) (n a : Int) (m q : List UInt8) (hx : x.length = 32) (hm : m.length = 32) (hq : q.length = 32) : Con Tryd.prog 8 [.ag (x.map u8), .i .i64 n, .i .i64 a, .ag (m.map u8), .ag (q.map u8)] (Ret (.b true)) := by
  refine enter Tryd.func8 rfl Tryd.ntmps8 (by kernel_rfl) (Nat.le_of_ble_eq_true rfl) fun w0 X0 hI => ?_
  refine at_seq ?_
  refine at_region ?_
  refine at_op rfl (n_boxA 5 rfl rfl rfl ?_)
  refine at_op rfl (n_boxA 8 rfl rfl rfl ?_)
  refine at_op rfl (n_boxA 9 rfl rfl rfl ?_)
  refine s1 (y_p rfl) rfl <| ?_
  refine at_nil ?_
  refine x_tn ?_
  refine at_seq ?_
  refine at_seq ?_
  refine at_region ?_
  refine at_op rfl (n_call false rfl (.nil) (sane_ok) pu (.inl rfl) rfl ?_)
  refine s1 (y_p rfl) rfl <| ?_
  refine at_nil ?_
  refine x_tn ?_
  refine at_else rfl ?_
  refine at_skip ?_
  refine x_tn ?_
  refine at_seq ?_
  refine at_seq ?_
  refine at_region ?_
  refine s1 (y_p rfl) rfl <| s1 (y_bld (out := [_, _, _]) [[evC (.int .i64 0)], [evC (.slice none 0 0)], [evC (.slice none 0 0)]] ti28 rfl Tryd.underlying28 (by kernel_rfl) rfl rfl trivial rfl) rfl <| ?_
  refine at_wk 19 rfl (.ag (.cons (.eq rfl) (.cons .nl (.cons .nl .nil)))) ?_
  refine at_op rfl (n_call false rfl (.cons (.pure pu) (.cons (.pure pu) (.nil))) (few_ok n 0 [] []) pu (.inl rfl) rfl ?_)
  refine s1 (y_p rfl) rfl <| ?_
  refine at_nil ?_
  refine x_tn ?_
  refine at_cond rfl (fun hc21 => ?_) (fun hc21 => ?_)
  · skip
    refine at_seq ?_
    refine at_region ?_
    refine s1 (y_p rfl) rfl <| ?_
    refine at_nil ?_
    refine x_tn ?_
    refine at_ret ?_
    refine x_tr ?_
    refine at_result (rs := [.tmp 10]) rfl (r_tmp rfl r_nil) rfl
  · skip
    refine at_skip ?_
    refine x_tn ?_
    refine at_seq ?_
    rcases (Decidable.em (sizeK n ∧ atK n a)).symm with hcs | hcs
    · skip
      refine at_region ?_
      refine s1 (y_loadA0 ti23 rfl rfl (by first | rfl | omega | (simp; done) | (simp [*]; done) | (simp; omega) | (simp [*]; omega) | (simp [D32.len, -List.length_flatten, *]; done) | (simp [D32.len, -List.length_flatten, *]; omega))) rfl <| s1 (y_p rfl) rfl <| s1 (y_p rfl) rfl <| s1 (y_loadA0 ti23 rfl rfl (by first | rfl | omega | (simp; done) | (simp [*]; done) | (simp; omega) | (simp [*]; omega) | (simp [D32.len, -List.length_flatten, *]; done) | (simp [D32.len, -List.length_flatten, *]; omega))) rfl <| ?_
      refine at_op rfl (n_call false rfl (.cons (.pure pu) (.cons (.pure pu) (.cons (.pure pu) (.cons (.pure pu) (.nil))))) (Con.cast (ksign_ok x n a m hx hm) (signA_no hcs)) pu (.inl rfl) rfl ?_)
      refine s1 (y_p rfl) rfl <| s1 (y_p rfl) rfl <| s1 (y_p rfl) rfl <| ?_
      refine at_op rfl (n_alloc 11 rfl ti28 rfl rfl ?_)
      refine at_op rfl (n_storeA ti28 rfl rfl rfl (by first | rfl | omega | (simp; done) | (simp [*]; done) | (simp; omega) | (simp [*]; omega) | (simp [D32.len, -List.length_flatten, *]; done) | (simp [D32.len, -List.length_flatten, *]; omega)) (by first | rfl | omega | (simp; done) | (simp [*]; done) | (simp; omega) | (simp [*]; omega) | (simp [D32.len, -List.length_flatten, *]; done) | (simp [D32.len, -List.length_flatten, *]; omega)) ?_)
      refine s1 (y_p rfl) rfl <| ?_
      refine at_nil ?_
      refine x_tn ?_
      refine at_seq ?_
      refine at_region ?_
      refine s1 (y_loadA0 ti23 rfl rfl (by first | rfl | omega | (simp; done) | (simp [*]; done) | (simp; omega) | (simp [*]; omega) | (simp [D32.len, -List.length_flatten, *]; done) | (simp [D32.len, -List.length_flatten, *]; omega))) rfl <| s1 (y_p rfl) rfl <| s1 (y_p rfl) rfl <| s1 (y_loadA0 ti23 rfl rfl (by first | rfl | omega | (simp; done) | (simp [*]; done) | (simp; omega) | (simp [*]; omega) | (simp [D32.len, -List.length_flatten, *]; done) | (simp [D32.len, -List.length_flatten, *]; omega))) rfl <| ?_
      refine at_op rfl (n_call false rfl (.cons (.pure pu) (.cons (.pure pu) (.cons (.pure pu) (.cons (.pure pu) (.nil))))) (Con.cast (ksign_ok x n a q hx hq) (signA_no hcs)) pu (.inl rfl) rfl ?_)
      refine s1 (y_p rfl) rfl <| s1 (y_p rfl) rfl <| s1 (y_p rfl) rfl <| ?_
      refine at_op rfl (n_alloc 13 rfl ti28 rfl rfl ?_)
      refine at_op rfl (n_storeA ti28 rfl rfl rfl (by first | rfl | omega | (simp; done) | (simp [*]; done) | (simp; omega) | (simp [*]; omega) | (simp [D32.len, -List.length_flatten, *]; done) | (simp [D32.len, -List.length_flatten, *]; omega)) (by first | rfl | omega | (simp; done) | (simp [*]; done) | (simp; omega) | (simp [*]; omega) | (simp [D32.len, -List.length_flatten, *]; done) | (simp [D32.len, -List.length_flatten, *]; omega)) ?_)
      refine s1 (y_p rfl) rfl <| ?_
      refine at_nil ?_
      refine x_tn ?_
      refine at_seq ?_
      refine at_seq ?_
      refine at_region ?_
      refine s1 (y_p rfl) rfl <| s1 ((y_p rfl).v (v' := .b true) (rfl)) rfl <| ?_
      refine at_nil ?_
      refine x_tn ?_
      refine at_then rfl ?_
      refine at_seq ?_
      refine at_region ?_
      refine s1 (y_p rfl) rfl <| s1 (y_p rfl) rfl <| s1 ((y_p rfl).v (v' := .b true) (rfl)) rfl <| s1 (y_p rfl) rfl <| ?_
      refine at_nil ?_
      refine x_tn ?_
      refine at_ret ?_
      refine x_tr ?_
      refine at_result (rs := [.tmp 10]) rfl (r_tmp rfl r_nil) rfl
    · have hsz := hcs.1
      have hat := hcs.2
      obtain ⟨k, rfl, h1, h2⟩ := sizeK_nat hcs.1
      obtain ⟨i, rfl, hi⟩ : ∃ i : Nat, a = (i : Int) ∧ i < k := ⟨a.toNat, by unfold atK at hat; omega, by unfold atK at hat; omega⟩
      have hDP : D32 (path (kpubs x k) i) := D32_path _ _ _ (Nat.le_refl _)
      have hPl := rights_path _ (kpubs x k) i (Nat.le_refl _)
      have hRl := rights_le _ i (kpubs x k).length (Nat.le_refl _)
      rw [len_kpubs] at hPl hRl
      refine at_region ?_
      refine s1 (y_loadA0 ti23 rfl rfl (by first | rfl | omega | (simp; done) | (simp [*]; done) | (simp; omega) | (simp [*]; omega) | (simp [D32.len, -List.length_flatten, *]; done) | (simp [D32.len, -List.length_flatten, *]; omega))) rfl <| s1 (y_p rfl) rfl <| s1 (y_p rfl) rfl <| s1 (y_loadA0 ti23 rfl rfl (by first | rfl | omega | (simp; done) | (simp [*]; done) | (simp; omega) | (simp [*]; omega) | (simp [D32.len, -List.length_flatten, *]; done) | (simp [D32.len, -List.length_flatten, *]; omega))) rfl <| ?_
      refine at_op rfl (n_call false rfl (.cons (.pure pu) (.cons (.pure pu) (.cons (.pure pu) (.cons (.pure pu) (.nil))))) (Con.cast (ksign_ok x k i m hx hm) (signA_yes hsz hi)) pu (.inl rfl) rfl ?_)
      refine s1 (y_p rfl) rfl <| s1 (y_p rfl) rfl <| s1 (y_p rfl) rfl <| ?_
      refine at_op rfl (n_alloc 11 rfl ti28 rfl rfl ?_)
      refine at_op rfl (n_storeA ti28 rfl rfl rfl (by first | rfl | omega | (simp; done) | (simp [*]; done) | (simp; omega) | (simp [*]; omega) | (simp [D32.len, -List.length_flatten, *]; done) | (simp [D32.len, -List.length_flatten, *]; omega)) (by first | rfl | omega | (simp; done) | (simp [*]; done) | (simp; omega) | (simp [*]; omega) | (simp [D32.len, -List.length_flatten, *]; done) | (simp [D32.len, -List.length_flatten, *]; omega)) ?_)
      refine s1 (y_p rfl) rfl <| ?_
      refine at_nil ?_
      refine x_tn ?_
      refine at_seq ?_
      refine at_region ?_
      refine s1 (y_loadA0 ti23 rfl rfl (by first | rfl | omega | (simp; done) | (simp [*]; done) | (simp; omega) | (simp [*]; omega) | (simp [D32.len, -List.length_flatten, *]; done) | (simp [D32.len, -List.length_flatten, *]; omega))) rfl <| s1 (y_p rfl) rfl <| s1 (y_p rfl) rfl <| s1 (y_loadA0 ti23 rfl rfl (by first | rfl | omega | (simp; done) | (simp [*]; done) | (simp; omega) | (simp [*]; omega) | (simp [D32.len, -List.length_flatten, *]; done) | (simp [D32.len, -List.length_flatten, *]; omega))) rfl <| ?_
      refine at_op rfl (n_call false rfl (.cons (.pure pu) (.cons (.pure pu) (.cons (.pure pu) (.cons (.pure pu) (.nil))))) (Con.cast (ksign_ok x k i q hx hq) (signA_yes hsz hi)) pu (.inl rfl) rfl ?_)
      refine s1 (y_p rfl) rfl <| s1 (y_p rfl) rfl <| s1 (y_p rfl) rfl <| ?_
      refine at_op rfl (n_alloc 13 rfl ti28 rfl rfl ?_)
      refine at_op rfl (n_storeA ti28 rfl rfl rfl (by first | rfl | omega | (simp; done) | (simp [*]; done) | (simp; omega) | (simp [*]; omega) | (simp [D32.len, -List.length_flatten, *]; done) | (simp [D32.len, -List.length_flatten, *]; omega)) (by first | rfl | omega | (simp; done) | (simp [*]; done) | (simp; omega) | (simp [*]; omega) | (simp [D32.len, -List.length_flatten, *]; done) | (simp [D32.len, -List.length_flatten, *]; omega)) ?_)
      refine s1 (y_p rfl) rfl <| ?_
      refine at_nil ?_
      refine x_tn ?_
      refine at_seq ?_
      refine at_seq ?_
      refine at_region ?_
      refine s1 (y_p rfl) rfl <| s1 ((y_p rfl).v (v' := .b false) (rfl)) rfl <| ?_
      refine at_nil ?_
      refine x_tn ?_
      refine at_else rfl ?_
      refine at_skip ?_
      refine x_tn ?_
      refine at_seq ?_
      refine at_seq ?_
      refine at_region ?_
      refine s1 (y_fld Tryd.underlying28 rfl ti26 (by decide) rfl rfl) rfl <| s1 (y_load ti26 rfl rfl rfl) rfl <| s1 (y_len Tryd.underlying26 rfl rfl rfl) rfl <| s1 (y_fld Tryd.underlying28 rfl ti26 (by decide) rfl rfl) rfl <| s1 (y_load ti26 rfl rfl rfl) rfl <| s1 (y_len Tryd.underlying26 rfl rfl rfl) rfl <| s1 ((y_p rfl).v (v' := .b false) (congrArg A.b (by simp))) rfl <| ?_
      refine at_nil ?_
      refine x_tn ?_
      refine at_else rfl ?_
      refine at_skip ?_
      refine x_tn ?_
      refine at_seq ?_
      refine at_seq ?_
      refine at_region ?_
      refine s1 (y_fld Tryd.underlying28 rfl ti26 (by decide) rfl rfl) rfl <| s1 (y_load ti26 rfl rfl rfl) rfl <| s1 (y_len Tryd.underlying26 rfl rfl rfl) rfl <| s1 ((y_p rfl).v (v' := .i .i64 0) rfl) rfl <| ?_
      refine at_nil ?_
      refine x_tn ?_
      refine at_block ?_
      refine at_loop (ι := Nat) (fun j => [(11, .p 11 0), (13, .p 13 0), (14, nI 0), (52, nI (path (kpubs x k) i).length), (53, nI j)]) (fun j => ⟨[(11, some ([nI i, dgs (signD (seedL x (i : Nat)) m), dgs (path (kpubs x k) i)])), (13, some ([nI i, dgs (signD (seedL x (i : Nat)) q), dgs (path (kpubs x k) i)]))]⟩) (fun j => j ≤ (path (kpubs x k) i).length) (fun j => (path (kpubs x k) i).length - j) ?_ ?_
      · exact at_ex (0) (Nat.zero_le _) [(11, some 11), (13, some 13)] hI rfl rfl ⟨⟨_, rfl, .p rfl⟩, ⟨_, rfl, .p rfl⟩, ⟨_, rfl, .pure pu⟩, ⟨_, rfl, .pure pu⟩, ⟨_, rfl, .pure pu⟩, trivial⟩ ⟨.inr ⟨_, _, rfl, rfl, .pure pul⟩, .inr ⟨_, _, rfl, rfl, .pure pul⟩, trivial⟩
      rintro j hj
      refine at_seq ?_
      refine at_region ?_
      refine s1 (y_p rfl) rfl <| ?_
      refine at_nil ?_
      refine x_tn ?_
      refine at_seq ?_
      refine at_cond rfl (fun hc54 => ?_) (fun hc54 => ?_)
      · have h54 : j < (path (kpubs x k) i).length := by have := of_decide_eq_true hc54; omega
        obtain ⟨z, hz⟩ : ∃ z, (path (kpubs x k) i)[j]? = some z := ⟨_, List.getElem?_eq_getElem h54⟩
        have hz32 := take_path hDP hz
        refine at_skip ?_
        refine x_tn ?_
        refine at_seq ?_
        refine at_block ?_
        refine at_seq ?_
        refine at_region ?_
        refine s1 (y_p rfl) rfl <| s1 (y_p rfl) rfl <| ?_
        refine at_nil ?_
        refine x_tn ?_
        refine at_seq ?_
        refine at_draw_tail 10 hmix (by kernel_rfl) ?_
        refine t1 (y_fld Tryd.underlying28 rfl ti26 (by decide) rfl rfl) rfl <| t1 (y_load ti26 rfl rfl rfl) rfl <| t1 (y_p rfl) rfl <| t1 (y_ixf j Tryd.underlying26 ti23 rfl rfl rfl (by omega) rfl) rfl <| t1 (y_loadA ti23 rfl rfl (get_d hDP hz) (by simp [hz32])) rfl <| t1 (y_fld Tryd.underlying28 rfl ti26 (by decide) rfl rfl) rfl <| t1 (y_load ti26 rfl rfl rfl) rfl <| t1 (y_p rfl) rfl <| t1 (y_ixf j Tryd.underlying26 ti23 rfl rfl rfl (by omega) rfl) rfl <| t1 (y_loadA ti23 rfl rfl (get_d hDP hz) (by simp [hz32])) rfl <| ?_
        refine at_snil ?_
        refine s1 ((y_aqn Tryd.underlying23 Tryd.underlying5 ti5 (by kernel_rfl) rfl rfl hz32 hz32).v (v' := .b false) (congrArg A.b (by simp))) rfl <| ?_
        refine at_nil ?_
        refine x_tn ?_
        refine at_else rfl ?_
        refine at_skip ?_
        refine x_bn ?_
        refine x_tn ?_
        refine at_region ?_
        refine s1 (addN _ 1 rfl rfl rfl rfl (by omega)) rfl <| s1 (y_p rfl) rfl <| ?_
        refine at_nil ?_
        exact at_end (j + 1) (by omega) (by omega) [(11, some 11), (13, some 13)] hI rfl rfl ⟨⟨_, rfl, .p rfl⟩, ⟨_, rfl, .p rfl⟩, ⟨_, rfl, .pure pu⟩, ⟨_, rfl, .pure pu⟩, ⟨_, rfl, .pure pu⟩, trivial⟩ ⟨.inr ⟨_, _, rfl, rfl, .pure pul⟩, .inr ⟨_, _, rfl, rfl, .pure pul⟩, trivial⟩
      · skip
        refine at_exit ?_
        refine x_te ?_
        refine x_te ?_
        refine x_be ?_
        refine x_tn ?_
        refine at_seq ?_
        refine at_region ?_
        refine s1 (y_p rfl) rfl <| s1 ((y_p rfl).v (v' := .b true) (rfl)) rfl <| s1 (y_p rfl) rfl <| g1 rfl rfl (y_fld Tryd.underlying28 rfl ti3 (by decide) rfl rfl) rfl <| g1 rfl rfl (y_load ti3 rfl rfl rfl) rfl <| g1 rfl rfl (y_fld Tryd.underlying28 rfl ti3 (by decide) rfl rfl) rfl <| g1 rfl rfl (y_load ti3 rfl rfl rfl) rfl <| g1 rfl rfl ((y_p rfl).v (v' := .b true) (congrArg A.b (by simp))) rfl <| s1 (y_p rfl) rfl <| s1 (y_p rfl) rfl <| ?_
        refine at_nil ?_
        refine x_tn ?_
        refine at_ret ?_
        refine at_result (rs := [.tmp 10]) rfl (r_tmp rfl r_nil) rfl
set_option linter.unusedSimpArgs false in
set_option linter.unusedVariables false in
set_option maxHeartbeats 1000000 in
set_option maxRecDepth 10000 in
theorem law_tree (x : List UInt8) (n a : Int) (m : List UInt8) (hx : x.length = 32) (hm : m.length = 32) : Con Tryd.prog 9 [.ag (x.map u8), .i .i64 n, .i .i64 a, .ag (m.map u8)] (Ret (.b true)) := by
  refine enter Tryd.func9 rfl Tryd.ntmps9 (by kernel_rfl) (Nat.le_of_ble_eq_true rfl) fun w0 X0 hI => ?_
  refine at_seq ?_
  refine at_region ?_
  refine at_op rfl (n_boxA 4 rfl rfl rfl ?_)
  refine at_op rfl (n_boxA 7 rfl rfl rfl ?_)
  refine s1 (y_p rfl) rfl <| ?_
  refine at_nil ?_
  refine x_tn ?_
  refine at_seq ?_
  refine at_seq ?_
  refine at_region ?_
  refine at_op rfl (n_call false rfl (.nil) (sane_ok) pu (.inl rfl) rfl ?_)
  refine s1 (y_p rfl) rfl <| ?_
  refine at_nil ?_
  refine x_tn ?_
  refine at_else rfl ?_
  refine at_skip ?_
  refine x_tn ?_
  refine at_seq ?_
  refine at_seq ?_
  refine at_region ?_
  refine s1 (y_p rfl) rfl <| s1 (y_bld (out := [_, _, _]) [[evC (.int .i64 0)], [evC (.slice none 0 0)], [evC (.slice none 0 0)]] ti28 rfl Tryd.underlying28 (by kernel_rfl) rfl rfl trivial rfl) rfl <| ?_
  refine at_wk 20 rfl (.ag (.cons (.eq rfl) (.cons .nl (.cons .nl .nil)))) ?_
  refine at_op rfl (n_call false rfl (.cons (.pure pu) (.cons (.pure pu) (.nil))) (few_ok n 0 [] []) pu (.inl rfl) rfl ?_)
  refine s1 (y_p rfl) rfl <| ?_
  refine at_nil ?_
  refine x_tn ?_
  refine at_cond rfl (fun hc22 => ?_) (fun hc22 => ?_)
  · skip
    refine at_seq ?_
    refine at_region ?_
    refine s1 (y_p rfl) rfl <| ?_
    refine at_nil ?_
    refine x_tn ?_
    refine at_ret ?_
    refine x_tr ?_
    refine at_result (rs := [.tmp 8]) rfl (r_tmp rfl r_nil) rfl
  · skip
    refine at_skip ?_
    refine x_tn ?_
    refine at_seq ?_
    rcases (Decidable.em (sizeK n)).symm with hcs | hcs
    · skip
      refine at_region ?_
      refine s1 (y_loadA0 ti23 rfl rfl (by first | rfl | omega | (simp; done) | (simp [*]; done) | (simp; omega) | (simp [*]; omega) | (simp [D32.len, -List.length_flatten, *]; done) | (simp [D32.len, -List.length_flatten, *]; omega))) rfl <| s1 (y_p rfl) rfl <| ?_
      refine at_op rfl (n_call false rfl (.cons (.pure pu) (.cons (.pure pu) (.nil))) (Con.cast (root_ok x n hx) (rootA_no hcs)) pu (.inl rfl) rfl ?_)
      refine s1 (y_p rfl) rfl <| s1 (y_p rfl) rfl <| s1 (y_p rfl) rfl <| ?_
      refine at_op rfl (n_alloc 9 rfl ti23 rfl rfl ?_)
      refine at_op rfl (n_storeA ti23 rfl rfl rfl (by first | rfl | omega | (simp; done) | (simp [*]; done) | (simp; omega) | (simp [*]; omega) | (simp [D32.len, -List.length_flatten, *]; done) | (simp [D32.len, -List.length_flatten, *]; omega)) (by first | rfl | omega | (simp; done) | (simp [*]; done) | (simp; omega) | (simp [*]; omega) | (simp [D32.len, -List.length_flatten, *]; done) | (simp [D32.len, -List.length_flatten, *]; omega)) ?_)
      refine s1 (y_p rfl) rfl <| ?_
      refine at_nil ?_
      refine x_tn ?_
      refine at_seq ?_
      refine at_seq ?_
      refine at_region ?_
      refine s1 (y_p rfl) rfl <| s1 ((y_p rfl).v (v' := .b true) (rfl)) rfl <| ?_
      refine at_nil ?_
      refine x_tn ?_
      refine at_then rfl ?_
      refine at_seq ?_
      refine at_region ?_
      refine s1 (y_loadA0 ti23 rfl rfl (by first | rfl | omega | (simp; done) | (simp [*]; done) | (simp; omega) | (simp [*]; omega) | (simp [D32.len, -List.length_flatten, *]; done) | (simp [D32.len, -List.length_flatten, *]; omega))) rfl <| s1 ((y_bld0 ti23 rfl Tryd.underlying23 ti5 rfl).v (v' := .ag (zD.map u8)) (congrArg A.ag zD_cells)) rfl <| s1 ((y_aq Tryd.underlying23 Tryd.underlying5 ti5 (by kernel_rfl) rfl rfl (by first | assumption | (simp; done) | (simp [*]; done)) (by first | assumption | (simp; done) | (simp [*]; done))).v (v' := .b true) (congrArg A.b (by simp))) rfl <| s1 (y_p rfl) rfl <| ?_
      refine at_nil ?_
      refine x_tn ?_
      refine at_ret ?_
      refine x_tr ?_
      refine at_result (rs := [.tmp 8]) rfl (r_tmp rfl r_nil) rfl
    · have hsz := hcs
      obtain ⟨k, rfl, h1, h2⟩ := sizeK_nat hcs
      refine at_region ?_
      refine s1 (y_loadA0 ti23 rfl rfl (by first | rfl | omega | (simp; done) | (simp [*]; done) | (simp; omega) | (simp [*]; omega) | (simp [D32.len, -List.length_flatten, *]; done) | (simp [D32.len, -List.length_flatten, *]; omega))) rfl <| s1 (y_p rfl) rfl <| ?_
      refine at_op rfl (n_call false rfl (.cons (.pure pu) (.cons (.pure pu) (.nil))) (Con.cast (root_ok x k hx) ((rootA_eq ..).trans (by rw [decide_eq_true hsz]; rfl : _ = .tu [.ag ((rootD x (k : Int)).map u8), .i .i64 0]))) pu (.inl rfl) rfl ?_)
      refine s1 (y_p rfl) rfl <| s1 (y_p rfl) rfl <| s1 (y_p rfl) rfl <| ?_
      refine at_op rfl (n_alloc 9 rfl ti23 rfl rfl ?_)
      refine at_op rfl (n_storeA ti23 rfl rfl rfl (by first | rfl | omega | (simp; done) | (simp [*]; done) | (simp; omega) | (simp [*]; omega) | (simp [D32.len, -List.length_flatten, *]; done) | (simp [D32.len, -List.length_flatten, *]; omega)) (by first | rfl | omega | (simp; done) | (simp [*]; done) | (simp; omega) | (simp [*]; omega) | (simp [D32.len, -List.length_flatten, *]; done) | (simp [D32.len, -List.length_flatten, *]; omega)) ?_)
      refine s1 (y_p rfl) rfl <| ?_
      refine at_nil ?_
      refine x_tn ?_
      refine at_seq ?_
      refine at_seq ?_
      refine at_region ?_
      refine s1 (y_p rfl) rfl <| s1 ((y_p rfl).v (v' := .b false) (rfl)) rfl <| ?_
      refine at_nil ?_
      refine x_tn ?_
      refine at_else rfl ?_
      refine at_skip ?_
      refine x_tn ?_
      refine at_seq ?_
      refine at_region ?_
      refine s1 (y_p rfl) rfl <| ?_
      refine at_nil ?_
      refine x_tn ?_
      refine at_seq ?_
      refine at_seq ?_
      refine at_region ?_
      refine s1 (y_p rfl) rfl <| s1 ((y_p rfl).v (v' := .i .i64 0) rfl) rfl <| ?_
      refine at_nil ?_
      refine x_tn ?_
      refine at_block ?_
      refine at_loop (ι := Nat) (fun j => [(1, nI k), (2, .i .i64 a), (4, .p 4 0), (7, .p 7 0), (9, .p 9 0), (11, .sl 11 32 0 j), (34, nI k), (35, nI j)]) (fun j => ⟨[(4, some (x.map u8)), (7, some (m.map u8)), (9, some ((rootD x (k : Int)).map u8)), (11, some ((kpubs x j).flatten.map u8))]⟩) (fun j => j ≤ k) (fun j => k - j) ?_ ?_
      · exact at_ex (0) (Nat.zero_le _) [(4, some 4), (7, some 7), (9, some 9), (11, none)] hI rfl rfl ⟨⟨_, rfl, .pure pu⟩, ⟨_, rfl, .pure pu⟩, ⟨_, rfl, .p rfl⟩, ⟨_, rfl, .p rfl⟩, ⟨_, rfl, .p rfl⟩, ⟨_, rfl, .nl rfl⟩, ⟨_, rfl, .pure pu⟩, ⟨_, rfl, .pure pu⟩, trivial⟩ ⟨.inr ⟨_, _, rfl, rfl, .pure pul⟩, .inr ⟨_, _, rfl, rfl, .pure pul⟩, .inr ⟨_, _, rfl, rfl, .pure pul⟩, .inl ⟨rfl, rfl⟩, trivial⟩
      rintro j hj
      have hfl := (D32_kpubs x j).len
      rw [len_kpubs] at hfl
      refine at_seq ?_
      refine at_region ?_
      refine s1 (y_p rfl) rfl <| ?_
      refine at_nil ?_
      refine x_tn ?_
      refine at_seq ?_
      refine at_cond rfl (fun hc36 => ?_) (fun hc36 => ?_)
      · have h36 : j < k := by have := of_decide_eq_true hc36; omega
        refine at_skip ?_
        refine x_tn ?_
        refine at_seq ?_
        refine at_block ?_
        refine at_seq ?_
        refine at_region ?_
        refine s1 (y_p rfl) rfl <| s1 (y_p rfl) rfl <| ?_
        refine at_nil ?_
        refine x_tn ?_
        refine at_region ?_
        refine s1 (y_p rfl) rfl <| s1 (y_loadA0 ti23 rfl rfl (by first | rfl | omega | (simp; done) | (simp [*]; done) | (simp; omega) | (simp [*]; omega) | (simp [D32.len, -List.length_flatten, *]; done) | (simp [D32.len, -List.length_flatten, *]; omega))) rfl <| s1 (y_p rfl) rfl <| ?_
        refine at_op rfl (n_call false rfl (.cons (.pure pu) (.cons (.pure pu) (.nil))) (seed_ok x (j : Nat) hx) pu (.inl rfl) rfl ?_)
        refine at_op rfl (n_call false rfl (.cons (.pure pu) (.nil)) (public_ok (seedL x (j : Nat)) (by simp)) pu (.inl rfl) rfl ?_)
        refine at_op rfl (n_bs 43 rfl Tryd.underlying26 ti23 rfl rfl rfl (by first | (simp [cellsA]; done) | (simp [cellsA, *]; done)) (List.append_nil ((pubD (seedL x (j : Nat))).map u8)) rfl rfl rfl ?_)
        refine at_op rfl (n_app 44 rfl Tryd.underlying26 ti23 rfl (.sl rfl (by rw [List.length_map]; exact hfl)) rfl (SM_full rfl (by first | rfl | omega | (simp; done) | (simp [*]; done) | (simp; omega) | (simp [*]; omega) | (simp [D32.len, -List.length_flatten, *]; done) | (simp [D32.len, -List.length_flatten, *]; omega))) (by simp) (by simp only [maxLen]; omega) (by omega) rfl rfl rfl ?_)
        refine s1 (y_p rfl) rfl <| ?_
        refine at_nil ?_
        refine x_bn ?_
        refine x_tn ?_
        refine at_region ?_
        refine s1 (addN _ 1 rfl rfl rfl rfl (by omega)) rfl <| s1 (y_p rfl) rfl <| ?_
        refine at_nil ?_
        exact at_end (j + 1) (by omega) (by omega) [(4, some 4), (7, some 7), (9, some 9), (11, some 44)] hI rfl rfl ⟨⟨_, rfl, .pure pu⟩, ⟨_, rfl, .pure pu⟩, ⟨_, rfl, .p rfl⟩, ⟨_, rfl, .p rfl⟩, ⟨_, rfl, .p rfl⟩, ⟨_, rfl, .sl rfl (by first | rfl | omega | (simp; done) | (simp [*]; done) | (simp; omega) | (simp [*]; omega) | (simp [D32.len, -List.length_flatten, *]; done) | (simp [D32.len, -List.length_flatten, *]; omega))⟩, ⟨_, rfl, .pure pu⟩, ⟨_, rfl, .pure pu⟩, trivial⟩ ⟨.inr ⟨_, _, rfl, rfl, .pure pul⟩, .inr ⟨_, _, rfl, rfl, .pure pul⟩, .inr ⟨_, _, rfl, rfl, .pure pul⟩, .inr ⟨_, _, rfl, rfl, .of (kpubs_flat x j) (.pure pul)⟩, trivial⟩
      · have h36 : j = k := by have := of_decide_eq_false hc36; omega
        subst h36
        refine at_frz 11 rfl rfl pul (view_eq (by rw [List.length_map]; exact hfl) rfl) ?_
        refine at_say 11 rfl (v' := dgs (kpubs x j)) (congrArg (fun z => A.fz z _) (len_kpubs x j).symm) ?_
        refine at_exit ?_
        refine x_te ?_
        refine x_te ?_
        refine x_be ?_
        refine x_tn ?_
        refine at_seq ?_
        refine at_seq ?_
        skip
        refine at_fs ⟨_, [], []⟩ 3 4 hmix (le_refl rfl) ?_
        refine fs_q 0 [] [] (y_p rfl) rfl rfl ?_
        refine fs_call false 1 [0] [] gy0 rfl (.cons (.pure pu) (.nil)) (Con.cast (tree_ok _ (kpubs x _) (Nat.le_refl _) (D32_kpubs x _) (by simp; omega)) (by rw [← rootD_yes hsz])) pu (.inl rfl) rfl rfl ?_
        refine fs_q 2 [] [(9, none)] (y_loadA0 ti23 rfl rfl (by first | rfl | omega | (simp; done) | (simp [*]; done) | (simp; omega) | (simp [*]; omega) | (simp [D32.len, -List.length_flatten, *]; done) | (simp [D32.len, -List.length_flatten, *]; omega))) rfl rfl ?_
        refine fs_end (by kernel_rfl) ?_
        refine s1 ((y_aqn Tryd.underlying23 Tryd.underlying5 ti5 (by kernel_rfl) rfl rfl (by first | assumption | (simp; done) | (simp [*]; done)) (by first | assumption | (simp; done) | (simp [*]; done))).v (v' := .b false) (congrArg A.b (by simp))) rfl <| ?_
        refine at_nil ?_
        refine x_tn ?_
        refine at_else rfl ?_
        refine at_skip ?_
        refine x_tn ?_
        refine at_seq ?_
        rcases (Decidable.em (atK (j : Int) a)).symm with hcs | hcs
        · skip
          refine at_region ?_
          refine s1 (y_loadA0 ti23 rfl rfl (by first | rfl | omega | (simp; done) | (simp [*]; done) | (simp; omega) | (simp [*]; omega) | (simp [D32.len, -List.length_flatten, *]; done) | (simp [D32.len, -List.length_flatten, *]; omega))) rfl <| s1 (y_p rfl) rfl <| s1 (y_p rfl) rfl <| s1 (y_loadA0 ti23 rfl rfl (by first | rfl | omega | (simp; done) | (simp [*]; done) | (simp; omega) | (simp [*]; omega) | (simp [D32.len, -List.length_flatten, *]; done) | (simp [D32.len, -List.length_flatten, *]; omega))) rfl <| ?_
          refine at_op rfl (n_call false rfl (.cons (.pure pu) (.cons (.pure pu) (.cons (.pure pu) (.cons (.pure pu) (.nil))))) (Con.cast (ksign_ok x j a m hx hm) (signA_no (fun h => hcs h.2))) pu (.inl rfl) rfl ?_)
          refine s1 (y_p rfl) rfl <| s1 (y_p rfl) rfl <| s1 (y_p rfl) rfl <| ?_
          refine at_op rfl (n_alloc 13 rfl ti28 rfl rfl ?_)
          refine at_op rfl (n_storeA ti28 rfl rfl rfl (by first | rfl | omega | (simp; done) | (simp [*]; done) | (simp; omega) | (simp [*]; omega) | (simp [D32.len, -List.length_flatten, *]; done) | (simp [D32.len, -List.length_flatten, *]; omega)) (by first | rfl | omega | (simp; done) | (simp [*]; done) | (simp; omega) | (simp [*]; omega) | (simp [D32.len, -List.length_flatten, *]; done) | (simp [D32.len, -List.length_flatten, *]; omega)) ?_)
          refine s1 (y_p rfl) rfl <| ?_
          refine at_nil ?_
          refine x_tn ?_
          refine at_seq ?_
          refine at_seq ?_
          refine at_region ?_
          refine s1 (y_p rfl) rfl <| s1 ((y_p rfl).v (v' := .b true) (rfl)) rfl <| ?_
          refine at_nil ?_
          refine x_tn ?_
          refine at_then rfl ?_
          refine at_seq ?_
          refine at_region ?_
          refine s1 (y_p rfl) rfl <| s1 (y_p rfl) rfl <| s1 (y_p rfl) rfl <| ?_
          refine g_or 3 rfl rfl rfl rfl (fun hb62 => .step (y_p rfl) rfl rfl <| .step (y_p rfl) rfl rfl <| .step (y_p rfl) rfl rfl <| .done) rfl rfl ?_
          refine s1 (y_p rfl) rfl <| ?_
          refine at_nil ?_
          refine x_tn ?_
          refine at_ret ?_
          refine x_tr ?_
          refine at_result (rs := [.tmp 8]) rfl (r_tmp rfl r_nil) ?_
          exact congrArg A.b (by unfold atK at hcs; simp; omega)
        · obtain ⟨i, rfl, hi⟩ : ∃ i : Nat, a = (i : Int) ∧ i < j := ⟨a.toNat, by unfold atK at hcs; omega, by unfold atK at hcs; omega⟩
          have hDP : D32 (path (kpubs x j) i) := D32_path _ _ _ (Nat.le_refl _)
          have hkg := kpubs_get (x := x) hi
          have hp32 : (pubD (seedL x (i : Nat))).length = 32 := len_keyD _
          have hcg := climb_good (L := kpubs x j) (kpubs_get hi) (by rw [len_kpubs]; omega)
          rw [len_kpubs] at hcg
          refine at_region ?_
          refine s1 (y_loadA0 ti23 rfl rfl (by first | rfl | omega | (simp; done) | (simp [*]; done) | (simp; omega) | (simp [*]; omega) | (simp [D32.len, -List.length_flatten, *]; done) | (simp [D32.len, -List.length_flatten, *]; omega))) rfl <| s1 (y_p rfl) rfl <| s1 (y_p rfl) rfl <| s1 (y_loadA0 ti23 rfl rfl (by first | rfl | omega | (simp; done) | (simp [*]; done) | (simp; omega) | (simp [*]; omega) | (simp [D32.len, -List.length_flatten, *]; done) | (simp [D32.len, -List.length_flatten, *]; omega))) rfl <| ?_
          refine at_op rfl (n_call false rfl (.cons (.pure pu) (.cons (.pure pu) (.cons (.pure pu) (.cons (.pure pu) (.nil))))) (Con.cast (ksign_ok x j i m hx hm) (signA_yes hsz hi)) pu (.inl rfl) rfl ?_)
          refine s1 (y_p rfl) rfl <| s1 (y_p rfl) rfl <| s1 (y_p rfl) rfl <| ?_
          refine at_op rfl (n_alloc 13 rfl ti28 rfl rfl ?_)
          refine at_op rfl (n_storeA ti28 rfl rfl rfl (by first | rfl | omega | (simp; done) | (simp [*]; done) | (simp; omega) | (simp [*]; omega) | (simp [D32.len, -List.length_flatten, *]; done) | (simp [D32.len, -List.length_flatten, *]; omega)) (by first | rfl | omega | (simp; done) | (simp [*]; done) | (simp; omega) | (simp [*]; omega) | (simp [D32.len, -List.length_flatten, *]; done) | (simp [D32.len, -List.length_flatten, *]; omega)) ?_)
          refine s1 (y_p rfl) rfl <| ?_
          refine at_nil ?_
          refine x_tn ?_
          refine at_seq ?_
          refine at_seq ?_
          refine at_region ?_
          refine s1 (y_p rfl) rfl <| s1 ((y_p rfl).v (v' := .b false) (rfl)) rfl <| ?_
          refine at_nil ?_
          refine x_tn ?_
          refine at_else rfl ?_
          refine at_skip ?_
          refine x_tn ?_
          refine at_seq ?_
          refine at_fs ⟨_, [], []⟩ 14 4 hmix (le_refl rfl) ?_
          refine fs_q 0 [] [] (y_p rfl) rfl rfl ?_
          refine fs_q 1 [] [] (y_p rfl) rfl rfl ?_
          refine fs_q 2 [0, 1] [] (y_ixf i Tryd.underlying26 ti23 rfl rfl rfl (by rw [len_kpubs]; exact hi) rfl) rfl rfl ?_
          refine fs_q 3 [2] [] (y_loadA ti23 rfl rfl (get_d (D32_kpubs x _) hkg) (by rw [List.length_map]; exact hp32)) rfl rfl ?_
          refine fs_q 4 [] [] (y_p rfl) rfl rfl ?_
          refine fs_q 5 [] [] (y_p rfl) rfl rfl ?_
          refine fs_q 6 [] [(13, none)] (y_fld Tryd.underlying28 rfl ti26 (by decide) rfl rfl) rfl rfl ?_
          refine fs_q 7 [6] [(13, none)] (y_load ti26 rfl rfl rfl) rfl rfl ?_
          refine fs_call false 8 [3, 4, 5, 7] [] gy0 rfl (.cons (.pure pu) (.cons (.pure pu) (.cons (.pure pu) (.cons (.pure pu) (.nil))))) (Con.cast (climbI_ok (pubD (seedL x (i : Nat))) hp32 (i : Nat) (j : Nat) (path (kpubs x j) i) hDP) ((climbA_eq ..).trans (by rw [hcg.1, hcg.2, ← rootD_yes hsz]))) pu (.inl rfl) rfl rfl ?_
          refine fs_q 9 [8] [] (y_p rfl) rfl rfl ?_
          refine fs_q 10 [9] [] (y_p rfl) rfl rfl ?_
          refine fs_q 11 [9] [] (y_p rfl) rfl rfl ?_
          refine fs_alloc 15 12 [] gy0 ti23 rfl rfl rfl ?_
          refine fs_stoA 1 13 [10, 12] [(15, some 12)] rfl gy0 ti23 rfl rfl rfl (by first | rfl | omega | (simp; done) | (simp [*]; done) | (simp; omega) | (simp [*]; omega) | (simp [D32.len, -List.length_flatten, *]; done) | (simp [D32.len, -List.length_flatten, *]; omega)) (by first | rfl | omega | (simp; done) | (simp [*]; done) | (simp; omega) | (simp [*]; omega) | (simp [D32.len, -List.length_flatten, *]; done) | (simp [D32.len, -List.length_flatten, *]; omega)) rfl ?_
          refine fs_end (by kernel_rfl) ?_
          refine s1 (y_p rfl) rfl <| ?_
          refine at_nil ?_
          refine x_tn ?_
          refine at_seq ?_
          refine at_fs ⟨_, [], []⟩ 17 4 hmix (le_refl rfl) ?_
          refine fs_q 0 [] [] (y_p rfl) rfl rfl ?_
          refine fs_q 1 [0] [] ((y_p rfl).v (v' := .b true) (rfl)) rfl rfl ?_
          refine fs_q 2 [1] [] (y_p rfl) rfl rfl ?_
          refine fs_qg 3 [2] [(15, none)] rfl rfl (y_loadA0 ti23 rfl rfl (by first | rfl | omega | (simp; done) | (simp [*]; done) | (simp; omega) | (simp [*]; omega) | (simp [D32.len, -List.length_flatten, *]; done) | (simp [D32.len, -List.length_flatten, *]; omega))) rfl rfl ?_
          refine fs_qg 4 [2] [(9, none)] rfl rfl (y_loadA0 ti23 rfl rfl (by first | rfl | omega | (simp; done) | (simp [*]; done) | (simp; omega) | (simp [*]; omega) | (simp [D32.len, -List.length_flatten, *]; done) | (simp [D32.len, -List.length_flatten, *]; omega))) rfl rfl ?_
          refine fs_qg 5 [2, 3, 4] [] rfl rfl ((y_aq Tryd.underlying23 Tryd.underlying5 ti5 (by kernel_rfl) rfl rfl (by first | assumption | (simp; done) | (simp [*]; done)) (by first | assumption | (simp; done) | (simp [*]; done))).v (v' := .b true) (congrArg A.b (by simp))) rfl rfl ?_
          refine fs_q 6 [2, 5] [] (y_p rfl) rfl rfl ?_
          refine fs_q 7 [6] [] (y_p rfl) rfl rfl ?_
          refine fs_qg 8 [7] [] rfl rfl (y_p rfl) rfl rfl ?_
          refine fs_qg 9 [7] [] rfl rfl (y_p rfl) rfl rfl ?_
          refine fs_qg 10 [7, 8, 9] [] rfl rfl (y_ixf i Tryd.underlying26 ti23 rfl rfl rfl (by rw [len_kpubs]; exact hi) rfl) rfl rfl ?_
          refine fs_qg 11 [7, 10] [] rfl rfl (y_loadA ti23 rfl rfl (get_d (D32_kpubs x _) hkg) (by rw [List.length_map]; exact hp32)) rfl rfl ?_
          refine fs_qg 12 [7] [(7, none)] rfl rfl (y_loadA0 ti23 rfl rfl (by first | rfl | omega | (simp; done) | (simp [*]; done) | (simp; omega) | (simp [*]; omega) | (simp [D32.len, -List.length_flatten, *]; done) | (simp [D32.len, -List.length_flatten, *]; omega))) rfl rfl ?_
          refine fs_qg 13 [7] [(13, none)] rfl rfl (y_fld Tryd.underlying28 rfl ti26 (by decide) rfl rfl) rfl rfl ?_
          refine fs_qg 14 [7, 13] [(13, none)] rfl rfl (y_load ti26 rfl rfl rfl) rfl rfl ?_
          refine fs_call false 15 [7, 11, 12, 14] [] (gy1 rfl rfl) rfl (.cons (.pure pu) (.cons (.pure pu) (.cons (.pure pu) (.nil)))) (Con.cast (verify_ok (pubD (seedL x (i : Nat))) m (signD (seedL x (i : Nat)) m) hp32 hm (D32_signD _ _)) (congrArg A.b (by rw [ver_sign]; simp : _ = true))) pu (.inl rfl) rfl rfl ?_
          refine fs_q 16 [7, 15] [] (y_p rfl) rfl rfl ?_
          refine fs_end (by kernel_rfl) ?_
          refine s1 (y_p rfl) rfl <| ?_
          refine at_nil ?_
          refine x_tn ?_
          refine at_ret ?_
          refine at_result (rs := [.tmp 8]) rfl (r_tmp rfl r_nil) rfl
end Go.Abs.D2
