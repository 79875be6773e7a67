/-
  The engine, the plain laws and the walks that the rows need, part 9. Conditions: none.
-/
import Derived.Test.YtbcbmadmbbimlaaDoorM8
import Derived.ProofKit
import Derived.Deep.Slices
import Derived.LaidMore
import Derived.OpenShut
import Derived.Lib.AppendZerosOnto

/-! AbsL -/
namespace Go.Abs
open Go Go.Eng
/-- What data a parameter's type has. -/
inductive D where
  | int (k : IntKind) | bool | str | sl (e : D) | arr (n : Nat) (e : D) | st (fs : List D)
  deriving Inhabited
mutual
def D.cells : D → Nat
  | .int _ => 1 | .bool => 1 | .str => 1 | .sl _ => 1
  | .arr n e => n * e.cells
  | .st fs => D.cellsL fs
def D.cellsL : List D → Nat
  | [] => 0
  | d :: ds => d.cells + D.cellsL ds
end
mutual
/-- The cells of such data. -/
def Den : D → List A → Prop
  | .int k, aS => ∃ n, (Lit.int k n).wf = true ∧ aS = [.i k n]
  | .bool, aS => ∃ b, aS = [.b b]
  | .str, aS => ∃ l : List UInt8, l.length ≤ maxLen ∧ aS = [.s l]
  | .sl e, aS => ∃ ls : List (List A), (∀ x ∈ ls, Den e x) ∧ ls.length ≤ maxLen ∧ aS = [.fz ls.length ls.flatten]
  | .arr n e, aS => ∃ ls : List (List A), (∀ x ∈ ls, Den e x) ∧ ls.length = n ∧ aS = ls.flatten
  | .st fs, aS => DenL fs aS
def DenL : List D → List A → Prop
  | [], aS => aS = []
  | d :: ds, aS => ∃ x y, Den d x ∧ DenL ds y ∧ aS = x ++ y
end
def isInt (k : IntKind) : Option TypeDesc → Bool
  | some (.int j) => Nat.beq (knum j) (knum k)
  | _ => false
def isBool : Option TypeDesc → Bool
  | some .bool => true
  | _ => false
def isStr : Option TypeDesc → Bool
  | some .string => true
  | _ => false
mutual
/-- The type has this data. -/
def fitD (P : Program) : D → TypeId → Bool
  | .int k, t => isInt k (P.underlying t)
  | .bool, t => isBool (P.underlying t)
  | .str, t => isStr (P.underlying t)
  | .sl e, t => match P.underlying t with | some (.slice u) => fitD P e u && Nat.beq (P.cellsOf u) e.cells && Nat.blt 0 e.cells | _ => false
  | .arr n e, t => match P.underlying t with | some (.array m u) => Nat.beq m n && fitD P e u && Nat.beq (P.cellsOf u) e.cells && Nat.beq (P.cellsOf t) (n * e.cells) | _ => false
  | .st ds, t => match P.underlying t with | some (.struct fs) => fitL P ds fs.toList 0 && Nat.beq (P.cellsOf t) (D.cellsL ds) | _ => false
def fitL (P : Program) : List D → List Field → Nat → Bool
  | [], [], _ => true
  | d :: ds, f :: fs, o => Nat.beq f.offset o && Nat.beq (P.cellsOf f.type) d.cells && fitD P d f.type && fitL P ds fs (o + d.cells)
  | _, _, _ => false
end
theorem cell_spot {w : World} {a : Addr} {v : Value} (h : w.cell? a = some v) : a.spot = none := by
  unfold World.cell? at h
  split at h
  · split at h
    · cases h
    · rename_i hs; simpa using hs
  · cases h
theorem add_spot {a : Addr} (h : (a.add 0).spot = none) : a.spot = none := by
  simpa [Addr.add] using h
theorem add_plain {a : Addr} (h : a.spot = none) (i : Nat) : a.add i = ⟨a.block, a.off + i, none⟩ := by
  unfold Addr.add
  cases a
  simp at h
  subst h
  simp
/-- All cells that there are. -/
def XW (w : World) : Xs := fun b o => ∃ v, w.cell? ⟨b, o, none⟩ = some v
theorem XW_lt {w : World} : ∀ b o, XW w b o → b < w.heap.size := by
  rintro b o ⟨v, h⟩
  unfold World.cell? at h
  split at h
  · rename_i c e q hb
    obtain ⟨hlt, _⟩ := Array.getElem?_eq_some_iff.1 hb
    exact hlt
  · cases h
section
variable {H : Type} {enc : TypeId × Value → H} {P : Program} {w : World} {base : Nat} {held : Bool}
theorem VM_app {X : Xs} : ∀ {cs ds : List A} {b o : Nat}, VM X w cs b o → VM X w ds b (o + cs.length) → VM X w (cs ++ ds) b o
  | [], ds, b, o, _, h => by simpa using h
  | c :: cs, ds, b, o, h, h' => by
    simp only [VM, List.cons_append] at h ⊢
    refine ⟨h.1, h.2.1, VM_app h.2.2 ?_⟩
    rw [show o + 1 + cs.length = o + (c :: cs).length by simp; omega]
    exact h'
/-- Values in cells one behind the other. -/
theorem VM_cells {aS : List A} {cs : List Value} {b o : Nat} (hv : VS (XW w) w no aS cs) (h1 : ∀ x ∈ cs, x.oneCell' = true) (hc : ∀ i, i < cs.length → w.cell? ⟨b, o + i, none⟩ = cs[i]?) : VM (XW w) w aS b o := by
  refine VM_of fun j c hj => ?_
  obtain ⟨u, hu, hvu⟩ := VS_get hv hj
  have hlt := (List.getElem?_eq_some_iff.1 hu).1
  have hcell := hc j hlt
  rw [hu] at hcell
  exact ⟨⟨u, hcell⟩, u, hcell, hvu, h1 _ (List.mem_of_getElem? hu)⟩
theorem VM_rows {sz : Nat} {b : Nat} {W : Nat → List A} (hl : ∀ i, (W i).length = sz ∨ True) : ∀ (n o : Nat), (∀ i, i < n → (W i).length = sz ∧ VM (XW w) w (W i) b (o + i * sz)) → VM (XW w) w ((List.range n).map W).flatten b o
  | 0, o, _ => by simp [VM]
  | n + 1, o, h => by
    rw [List.range_succ, List.map_append, List.flatten_append]
    refine VM_app (VM_rows hl n o fun i hi => h i (by omega)) ?_
    have e : ((List.range n).map W).flatten.length = n * sz := by
      have : ∀ m, m ≤ n → ((List.range m).map W).flatten.length = m * sz := by
        intro m
        induction m with
        | zero => intro _; simp
        | succ m ih =>
          intro hm
          rw [List.range_succ, List.map_append, List.flatten_append, List.length_append, ih (by omega)]
          simp only [List.map_cons, List.map_nil, List.flatten_cons, List.flatten_nil, List.append_nil]
          rw [(h m (by omega)).1, Nat.succ_mul]
      exact this n (Nat.le_refl _)
    rw [e]
    simpa using (h n (by omega)).2
theorem isInt_ok {k : IntKind} {x : Option TypeDesc} (h : isInt k x = true) : x = some (.int k) := by
  unfold isInt at h
  split at h
  · rename_i j
    have : knum j = knum k := Nat.eq_of_beq_eq_true h
    have : j = k := by cases j <;> cases k <;> first | rfl | (simp [knum] at this)
    rw [this]
  · cases h
theorem isBool_ok {x : Option TypeDesc} (h : isBool x = true) : x = some .bool := by
  unfold isBool at h; split at h
  · rfl
  · cases h
theorem isStr_ok {x : Option TypeDesc} (h : isStr x = true) : x = some .string := by
  unfold isStr at h; split at h
  · rfl
  · cases h
theorem VS_flatten {X : Xs} {β : Bm} : ∀ {ls : List (List A)} {us : List (List Value)}, ls.length = us.length → (∀ (i : Nat) (l : List A) (u : List Value), ls[i]? = some l → us[i]? = some u → VS X w β l u) → VS X w β ls.flatten us.flatten
  | [], [], _, _ => VS_nil
  | l :: ls, u :: us, hl, h => VS_app (h 0 l u rfl rfl) (VS_flatten (by simpa using hl) fun i l u h1 h2 => h (i + 1) l u (by simpa using h1) (by simpa using h2))
/-- A list in parts of one length. -/
theorem flat_parts {α : Type} {sz : Nat} : ∀ (n : Nat) (l : List α), l.length = n * sz → ((List.range n).map fun i => (l.drop (i * sz)).take sz).flatten = l
  | 0, l, h => by
    have : l = [] := List.eq_nil_of_length_eq_zero (by simpa using h)
    subst this; rfl
  | n + 1, l, h => by
    have hs : (n + 1) * sz = n * sz + sz := Nat.succ_mul n sz
    rw [List.range_succ, List.map_append, List.flatten_append]
    have e : ((List.range n).map fun i => (l.drop (i * sz)).take sz) = (List.range n).map fun i => ((l.take (n * sz)).drop (i * sz)).take sz := by
      refine List.map_congr_left fun i hi => ?_
      have hi' : i < n := by simpa using hi
      rw [List.drop_take, List.take_take]
      congr 1
      have : i * sz + sz ≤ n * sz := by rw [← Nat.succ_mul]; exact Nat.mul_le_mul_right sz hi'
      omega
    rw [e, flat_parts n (l.take (n * sz)) (by rw [List.length_take, h]; omega)]
    simp only [List.map_cons, List.map_nil, List.flatten_cons, List.flatten_nil, List.append_nil]
    rw [List.take_of_length_le (l := l.drop (n * sz)) (by rw [List.length_drop, h]; omega)]
    exact List.take_append_drop _ _
mutual
theorem Den_len : ∀ (d : D) (aS : List A), Den d aS → aS.length = d.cells
  | .int k, aS, h => by simp only [Den] at h; obtain ⟨n, _, rfl⟩ := h; rfl
  | .bool, aS, h => by simp only [Den] at h; obtain ⟨n, rfl⟩ := h; rfl
  | .str, aS, h => by simp only [Den] at h; obtain ⟨n, _, rfl⟩ := h; rfl
  | .sl e, aS, h => by simp only [Den] at h; obtain ⟨n, _, _, rfl⟩ := h; rfl
  | .arr n e, aS, h => by
    simp only [Den] at h
    obtain ⟨ls, h1, h2, rfl⟩ := h
    subst h2
    have : ∀ ls : List (List A), (∀ x ∈ ls, Den e x) → ls.flatten.length = ls.length * e.cells := by
      intro ls
      induction ls with
      | nil => intro _; simp
      | cons l ls ih =>
        intro h
        rw [List.flatten_cons, List.length_append, Den_len e l (h l (.head _)), ih fun x hx => h x (.tail _ hx), List.length_cons, Nat.succ_mul]; omega
    exact this ls h1
  | .st fs, aS, h => by simp only [Den] at h; exact DenL_len fs aS h
theorem DenL_len : ∀ (ds : List D) (aS : List A), DenL ds aS → aS.length = D.cellsL ds
  | [], aS, h => by simp only [DenL] at h; subst h; rfl
  | d :: ds, aS, h => by
    simp only [DenL] at h
    obtain ⟨x, y, h1, h2, rfl⟩ := h
    rw [List.length_append, Den_len d x h1, DenL_len ds y h2]; rfl
end
mutual
theorem open_D : ∀ (d : D) (t : TypeId) (fuel : Nat) (cs : List Value) (x : DataW H × List MemPlace), fitD P d t = true → DataW.trod enc P w base (fun _ => true) held fuel t cs = some x → ∃ aS, Den d aS ∧ VS (XW w) w no aS cs ∧ ∀ u ∈ cs, u.oneCell' = true
  | .int k, t, fuel, cs, x, hf, h => by
    obtain ⟨n, rfl, _, hw⟩ := DataW.trod_int (isInt_ok hf) h
    exact ⟨[.i k n], ⟨n, hw, rfl⟩, VS_cons (by simp [V]) VS_nil, by simp [Value.oneCell']⟩
  | .bool, t, fuel, cs, x, hf, h => by
    obtain ⟨b, rfl, _⟩ := DataW.trod_bool (isBool_ok hf) h
    exact ⟨[.b b], ⟨b, rfl⟩, VS_cons (by simp [V]) VS_nil, by simp [Value.oneCell']⟩
  | .str, t, fuel, cs, x, hf, h => by
    obtain ⟨s, rfl, _, hs⟩ := DataW.trod_string (isStr_ok hf) h
    exact ⟨[.s s.data.toList], ⟨_, by simpa using hs, rfl⟩, VS_cons (by simp [V]) VS_nil, by simp [Value.oneCell']⟩
  | .sl e, t, fuel, cs, x, hf, h => by
    simp only [fitD] at hf
    split at hf
    · rename_i u ht
      simp only [Bool.and_eq_true] at hf
      obtain ⟨⟨hf1, hf2⟩, hf3⟩ := hf
      have hsz : P.cellsOf u = e.cells := Nat.eq_of_beq_eq_true hf2
      have hpos : 0 < e.cells := Nat.lt_of_succ_le (by simpa [Nat.blt] using hf3)
      rcases Deep.open_slice ht h with ⟨rfl, _⟩ | ⟨a, len, cap, m, n, DD, Pl, rfl, _, hl, hm, hmm, _, hx⟩
      · refine ⟨[.fz 0 []], ⟨[], (fun x hx => by cases hx), Nat.zero_le _, rfl⟩, VS_cons ?_ VS_nil, by simp [Value.oneCell']⟩
        simp only [V]
        exact ⟨none, 0, rfl, Nat.le_refl _, Nat.zero_le _, fun _ => rfl, (fun h => absurd h (Nat.lt_irrefl _)), by simp [VM]⟩
      · simp only [if_true] at hmm
        subst hmm
        have hV : ∀ i, i < m → ∃ q : List A × List Value, (Den e q.1 ∧ VS (XW w) w no q.1 q.2 ∧ ∀ u ∈ q.2, u.oneCell' = true) ∧ w.cells? base (a.add (i * P.cellsOf u)) (P.cellsOf u) = some q.2 := fun i hi => by
          obtain ⟨cs', h1, h2⟩ := hx i hi
          obtain ⟨aS, g1, g2, g3⟩ := open_D e u n cs' _ hf1 h2
          exact ⟨(aS, cs'), ⟨g1, g2, g3⟩, h1⟩
        obtain ⟨W, hW⟩ := Deep.choose_lt (α := List A × List Value) (p := fun i q => (Den e q.1 ∧ VS (XW w) w no q.1 q.2 ∧ ∀ u ∈ q.2, u.oneCell' = true) ∧ w.cells? base (a.add (i * P.cellsOf u)) (P.cellsOf u) = some q.2) hV
        rw [hsz] at hW
        have hspot : 0 < m → a.spot = none := fun h0 => by
          obtain ⟨_, _, hc⟩ := World.cells?_some (hW 0 h0).2
          have hln : (W 0).2.length = e.cells := by rw [VS_len (hW 0 h0).1.2.1, Den_len e _ (hW 0 h0).1.1]
          have := hc 0 (by omega)
          rw [List.getElem?_eq_getElem (by omega)] at this
          have h1 := cell_spot this
          rw [Nat.zero_mul] at h1
          exact add_spot (add_spot h1)
        refine ⟨[.fz len ((List.range len).map fun i => (W i).1).flatten], ⟨(List.range len).map fun i => (W i).1, ?_, by simp; omega, by simp⟩, VS_cons ?_ VS_nil, by simp [Value.oneCell']⟩
        · intro x hx
          obtain ⟨i, hi, rfl⟩ := List.mem_map.1 hx
          exact (hW i (by have := List.mem_range.1 hi; omega)).1.1
        · simp only [V]
          refine ⟨some a, m, rfl, hl, hm, (fun h => by cases h), (fun h0 x hx => by cases hx; exact hspot h0), ?_⟩
          refine VM_rows (sz := e.cells) (W := fun i => (W i).1) (fun _ => .inr trivial) len _ fun i hi => ?_
          obtain ⟨⟨g1, g2, g3⟩, g4⟩ := hW i (by omega)
          obtain ⟨_, hlen, hc⟩ := World.cells?_some g4
          refine ⟨Den_len e _ g1, VM_cells g2 g3 fun k hk => ?_⟩
          have h2 := hc k (by omega)
          have hs := hspot (by omega)
          rw [add_plain hs, add_plain rfl] at h2
          exact h2
    · cases hf
  | .arr k e, t, fuel, cs, x, hf, h => by
    simp only [fitD] at hf
    split at hf
    · rename_i m u ht
      simp only [Bool.and_eq_true] at hf
      obtain ⟨⟨⟨hm, hf1⟩, hf2⟩, hf3⟩ := hf
      have hmk : m = k := Nat.eq_of_beq_eq_true hm
      subst hmk
      have hsz : P.cellsOf u = e.cells := Nat.eq_of_beq_eq_true hf2
      have hst : P.cellsOf t = m * e.cells := Nat.eq_of_beq_eq_true hf3
      obtain ⟨xs, n, _, _, hl, hxl, hx⟩ := DataW.trod_array ht h
      rw [hsz] at hx
      rw [hst] at hl
      have hV : ∀ i, i < m → ∃ aS : List A, Den e aS ∧ VS (XW w) w no aS ((cs.drop (i * e.cells)).take e.cells) ∧ ∀ u ∈ (cs.drop (i * e.cells)).take e.cells, u.oneCell' = true := fun i hi => by
        have := hx i hi
        rw [List.getElem?_eq_getElem (by omega)] at this
        exact open_D e u n _ _ hf1 this
      obtain ⟨W, hW⟩ := Deep.choose_lt (α := List A) (p := fun i aS => Den e aS ∧ VS (XW w) w no aS ((cs.drop (i * e.cells)).take e.cells) ∧ ∀ u ∈ (cs.drop (i * e.cells)).take e.cells, u.oneCell' = true) hV
      refine ⟨((List.range m).map W).flatten, ⟨(List.range m).map W, ?_, by simp, rfl⟩, ?_, ?_⟩
      · intro x hx
        obtain ⟨i, hi, rfl⟩ := List.mem_map.1 hx
        exact (hW i (List.mem_range.1 hi)).1
      · have e1 := flat_parts m cs hl
        rw [← e1]
        refine VS_flatten (by simp) fun i l u h1 h2 => ?_
        rw [List.getElem?_map] at h1 h2
        obtain ⟨j, hj, rfl⟩ := Option.map_eq_some_iff.1 h1
        rw [hj] at h2
        simp only [Option.map_some, Option.some.injEq] at h2
        subst h2
        exact (hW j (by have := List.mem_range.1 (List.mem_of_getElem? hj); omega)).2.1
      · intro u hu
        rw [← flat_parts m cs hl] at hu
        obtain ⟨l, hl', hu⟩ := List.mem_flatten.1 hu
        obtain ⟨i, hi, rfl⟩ := List.mem_map.1 hl'
        exact (hW i (List.mem_range.1 hi)).2.2 u hu
    · cases hf
  | .st ds, t, fuel, cs, x, hf, h => by
    simp only [fitD] at hf
    split at hf
    · rename_i fs ht
      simp only [Bool.and_eq_true] at hf
      have hst : P.cellsOf t = D.cellsL ds := Nat.eq_of_beq_eq_true hf.2
      obtain ⟨xs, n, _, _, hl, hxl, hx⟩ := DataW.trod_struct ht h
      obtain ⟨aS, g1, g2, g3⟩ := open_L ds fs.toList 0 n cs hf.1 (by rw [hl, hst]) (fun i f hi => by
        have hi' : fs[i]? = some f := by simpa using hi
        have := hx i f hi'
        have hlt : i < xs.length := by rw [hxl]; exact (Array.getElem?_eq_some_iff.1 hi').1
        rw [List.getElem?_eq_getElem hlt] at this
        exact ⟨_, by rw [Nat.sub_zero]; exact this⟩)
      exact ⟨aS, g1, g2, g3⟩
    · cases hf
theorem open_L : ∀ (ds : List D) (fs : List Field) (o n : Nat) (cs : List Value), fitL P ds fs o = true → cs.length = D.cellsL ds → (∀ (i : Nat) (f : Field), fs[i]? = some f → ∃ y : DataW H × List MemPlace, DataW.trod enc P w base (fun _ => true) held n f.type ((cs.drop (f.offset - o)).take (P.cellsOf f.type)) = some y) → ∃ aS, DenL ds aS ∧ VS (XW w) w no aS cs ∧ ∀ u ∈ cs, u.oneCell' = true
  | [], fs, o, n, cs, hf, hl, _ => by
    have : cs = [] := List.eq_nil_of_length_eq_zero hl
    subst this
    exact ⟨[], rfl, VS_nil, (fun u h => by cases h)⟩
  | d :: ds, [], o, n, cs, hf, hl, _ => by simp [fitL] at hf
  | d :: ds, f :: fs, o, n, cs, hf, hl, h => by
    simp only [fitL, Bool.and_eq_true] at hf
    obtain ⟨⟨⟨h1, h2⟩, h3⟩, h4⟩ := hf
    have e1 : f.offset = o := Nat.eq_of_beq_eq_true h1
    have e2 : P.cellsOf f.type = d.cells := Nat.eq_of_beq_eq_true h2
    have hl' : cs.length = d.cells + D.cellsL ds := hl
    obtain ⟨y, hy⟩ := h 0 f rfl
    rw [e1, e2, Nat.sub_self, List.drop_zero] at hy
    obtain ⟨aS, g1, g2, g3⟩ := open_D d f.type n _ y h3 hy
    have hfo := fitL_off ds fs (o + d.cells) h4
    obtain ⟨bs, k1, k2, k3⟩ := open_L ds fs (o + d.cells) n (cs.drop d.cells) h4 (by rw [List.length_drop]; omega) (fun i f' hi => by
      obtain ⟨y, hy⟩ := h (i + 1) f' (by simpa using hi)
      have hoff := hfo f' (List.mem_of_getElem? hi)
      refine ⟨y, ?_⟩
      rw [List.drop_drop, show d.cells + (f'.offset - (o + d.cells)) = f'.offset - o by omega]
      exact hy)
    refine ⟨aS ++ bs, ⟨aS, bs, g1, k1, rfl⟩, ?_, ?_⟩
    · have := VS_app g2 k2
      rwa [List.take_append_drop] at this
    · intro u hu
      rw [← List.take_append_drop d.cells cs] at hu
      exact (List.mem_append.1 hu).elim (g3 u) (k3 u)
theorem fitL_off : ∀ (ds : List D) (fs : List Field) (o : Nat), fitL P ds fs o = true → ∀ f ∈ fs, o ≤ f.offset
  | [], [], o, _, f, hm => by cases hm
  | [], _ :: _, o, h, f, hm => by simp [fitL] at h
  | _ :: _, [], o, h, f, hm => by cases hm
  | d :: ds, f' :: fs, o, h, f, hm => by
    simp only [fitL, Bool.and_eq_true] at h
    have e1 : f'.offset = o := Nat.eq_of_beq_eq_true h.1.1.1
    rcases List.mem_cons.1 hm with rfl | hm
    · omega
    · have := fitL_off ds fs (o + d.cells) h.2 f hm; omega
end
/-- What an argument is, its cells known. -/
def argA : D → List A → A
  | .arr _ _, aS => .ag aS
  | .st _, aS => .ag aS
  | _, aS => aS.getD 0 un
/-- A row's argument. -/
theorem row_D {t : TypeId} {r : Reach} {b0 : Nat} {v : Value} {x : DataW H} {ps : List MemPlace} (d : D) (hf : fitD P d t = true) (hval : Value.okWide P w r b0 t v) (h : DataW.Trod enc P w base (fun _ => true) held t v x ps) : ∃ aS, Den d aS ∧ V (XW w) w no (argA d aS) v := by
  obtain ⟨fuel, hfu⟩ := h
  obtain ⟨aS, g1, g2, g3⟩ := open_D d t fuel _ _ hf hfu
  refine ⟨aS, g1, ?_⟩
  have agg : ∀ cs : Array Value, v = .agg cs → V (XW w) w no (.ag aS) v := by
    rintro cs rfl
    simp only [V]
    exact ⟨cs.toList, by simp, g2, g3⟩
  have scal : ∀ a, aS = [a] → v.cells = #[v] → V (XW w) w no (aS.getD 0 un) v := by
    rintro a rfl hv
    rw [hv] at g2
    simp only [VS] at g2
    obtain ⟨u, r, hu, hvu, rfl⟩ := g2
    simp only [List.cons.injEq, and_true] at hu
    subst hu
    exact hvu
  cases d with
  | int k =>
    obtain ⟨n, rfl⟩ := WideShapes.okWide_int (isInt_ok hf) hval
    simp only [Den] at g1
    obtain ⟨m, _, rfl⟩ := g1
    exact scal _ rfl rfl
  | bool =>
    obtain ⟨n, rfl⟩ := WideShapes.okWide_bool (isBool_ok hf) hval
    simp only [Den] at g1
    obtain ⟨m, rfl⟩ := g1
    exact scal _ rfl rfl
  | str =>
    obtain ⟨n, rfl⟩ := WideShapes.okWide_string (isStr_ok hf) hval
    simp only [Den] at g1
    obtain ⟨m, _, rfl⟩ := g1
    exact scal _ rfl rfl
  | sl e =>
    simp only [fitD] at hf
    split at hf
    · rename_i u ht
      obtain ⟨a, len, cap, rfl⟩ := WideShapes.okWide_slice ht hval
      simp only [Den] at g1
      obtain ⟨m, _, _, rfl⟩ := g1
      exact scal _ rfl rfl
    · cases hf
  | arr n e =>
    simp only [fitD] at hf
    split at hf
    · rename_i m u ht
      unfold Value.okWide at hval
      simp only [ht] at hval
      obtain ⟨cs, rfl, _, _⟩ := hval
      exact agg cs rfl
    · cases hf
  | st ds =>
    simp only [fitD] at hf
    split at hf
    · rename_i fs ht
      unfold Value.okWide at hval
      simp only [ht] at hval
      obtain ⟨cs, rfl, _, _⟩ := hval
      exact agg cs rfl
    · cases hf
/-- What was read at the start is read so behind a call that turned nothing. -/
theorem args_stay (hl : laidOutB P = true) {W W' : World} (hb : RowKit.Below W.heap.size W W') : ∀ (ts : List TypeId) (vs : List Value) (ds : List (DataW H)) (p : List MemPlace), (ts.all fun t => P.readableRec t && decide (t < P.types.size)) = true →
    DataW.TrodAll enc P W 0 (fun _ => true) true ts vs ds p → (∀ x ∈ p, x.block < W.heap.size) → DataW.TrodAll enc P W' 0 (fun b => decide (b < W.heap.size)) true ts vs ds p
  | [], vs, ds, p, _, h, _ => by
    obtain ⟨rfl, rfl, rfl⟩ := ChangeShapes.trodAll_nil h
    rfl
  | t :: ts, vs, ds, p, hall, h, hlt => by
    simp only [List.all_cons, Bool.and_eq_true, decide_eq_true_eq] at hall
    obtain ⟨v, vs', d, ds', a, b, rfl, rfl, rfl, h1, h2⟩ := ChangeShapes.trodAll_cons h
    exact ⟨a, b, RowKit.Below.trod hl hall.1.1 hall.1.2 h1 hb (fun x hx => hlt x (by simp [hx])), args_stay hl hb ts vs' ds' b hall.2 h2 (fun x hx => hlt x (by simp [hx])), rfl⟩
/-- A law's contract, at a row's arguments. -/
theorem con_true {f : FuncId} {aS : List A} {us : List Value} {W : World} (hc : Con P f aS (Ret (.b true))) (hg : GL (XW W) W) (hv : VS (XW W) W no aS us) :
    Calls P f us.toArray W fun e W' => e = .returned (.bool true) ∧ RowKit.Below W.heap.size W W' := by
  have h := hc W (XW W) no us (fun _ _ => rfl) XW_lt hg (fun id cs h => by cases h) (fun i j ci cj b M N _ h => by cases h) hv
  refine h.calls.mono fun e W' he => ?_
  obtain ⟨v, rfl, r, β', X', st', hr, _, _, hm, hV⟩ := he
  have : r = .b true := hr
  subst this
  simp only [V] at hV
  subst hV
  have kb := hm.below
  refine ⟨rfl, kb.os, kb.tape, kb.output, kb.size, fun k hk => kb.block k hk ?_⟩
  rintro ⟨id, cs, N, h, _⟩
  cases h
/-- An array of integers that reads aS a datum. -/
theorem arr_lits {t e : TypeId} {n : Nat} {k : IntKind} {fuel : Nat} {cs : List Value} {l : List Int} {p : List MemPlace} {sp : Nat → Bool} {enc : TypeId × Value → Unit} (ht : P.underlying t = some (.array n e)) (he : P.underlying e = some (.int k)) (hc : P.cellsOf e = 1) (hct : P.cellsOf t = n)
    (h : DataW.trod enc P w base sp held fuel t cs = some (.agg (l.map fun i => .lit (.int k i)), p)) : cs = l.map (.int k) := by
  obtain ⟨xs, m, _, hx, hl, hxl, hel⟩ := DataW.trod_array ht h
  simp only [Prod.mk.injEq, DataW.agg.injEq] at hx
  have hll : l.length = n := by have := congrArg List.length hx.1; simp at this; omega
  rw [hct] at hl
  refine List.ext_getElem (by simp; omega) fun i h1 h2 => ?_
  have hi : i < n := by omega
  have := hel i hi
  rw [hc, Nat.mul_one, List.drop_eq_getElem_cons h1, List.take_succ_cons, List.take_zero, List.getElem?_eq_getElem (by omega)] at this
  obtain ⟨q, e1, e2, _⟩ := DataW.trod_int he this
  simp only [List.cons.injEq, and_true] at e1
  rw [List.getElem_map, e1]
  have h3 := congrArg (fun z : List (DataW Unit) => z[i]?) hx.1
  simp only [List.getElem?_map] at h3
  rw [List.getElem?_eq_getElem (by simpa using h2), List.getElem?_eq_getElem (by omega), Option.map_some, Option.map_some, e2] at h3
  simp only [Option.some.injEq, DataW.lit.injEq, Lit.int.injEq, true_and] at h3
  rw [h3]
theorem den_map {α : Type} {e : D} {f : α → List A} {p : α → Prop} (h : ∀ x, Den e x → ∃ y, x = f y ∧ p y) : ∀ ls : List (List A), (∀ x ∈ ls, Den e x) → ∃ ys : List α, ls = ys.map f ∧ ∀ y ∈ ys, p y
  | [], _ => ⟨[], rfl, fun y hy => by cases hy⟩
  | x :: ls, hx => by
    obtain ⟨y, rfl, hy⟩ := h x (hx x (.head _))
    obtain ⟨ys, rfl, hys⟩ := den_map h ls fun z hz => hx z (.tail _ hz)
    exact ⟨y :: ys, rfl, fun z hz => (List.mem_cons.1 hz).elim (fun e => e ▸ hy) (hys z)⟩
theorem flat_sing {α : Type} (f : α → A) (l : List α) : (l.map fun x => [f x]).flatten = l.map f := by
  induction l with
  | nil => rfl
  | cons x l ih => simp [ih]
theorem den_u8 (aS : List A) (h : Den (.int .u8) aS) : ∃ b : UInt8, aS = [u8 b] ∧ True := by
  simp only [Den] at h
  obtain ⟨n, hw, rfl⟩ := h
  refine ⟨UInt8.ofNat n.toNat, ?_, trivial⟩
  simp only [Lit.wf, Bool.and_eq_true, decide_eq_true_eq] at hw
  have h1 : IntKind.u8.min = 0 := rfl
  have h2 : IntKind.u8.max = 255 := rfl
  rw [h1, h2] at hw
  have : ((UInt8.ofNat n.toNat).toNat : Int) = n := by
    rw [UInt8.toNat_ofNat', Nat.mod_eq_of_lt (by omega)]; omega
  rw [u8, this]
theorem den_int (aS : List A) (h : Den (.int .i64) aS) : ∃ n : Int, aS = [.i .i64 n] ∧ (-9223372036854775808 ≤ n ∧ n ≤ 9223372036854775807) := by
  simp only [Den] at h
  obtain ⟨n, hw, rfl⟩ := h
  simp only [Lit.wf, Bool.and_eq_true, decide_eq_true_eq] at hw
  have h1 : IntKind.i64.min = -9223372036854775808 := rfl
  have h2 : IntKind.i64.max = 9223372036854775807 := rfl
  rw [h1, h2] at hw
  exact ⟨n, rfl, hw⟩
/-- An array of bytes. -/
theorem den_arr8 {n : Nat} (aS : List A) (h : Den (.arr n (.int .u8)) aS) : ∃ d : List UInt8, aS = d.map u8 ∧ d.length = n := by
  simp only [Den] at h
  obtain ⟨ls, h1, h2, rfl⟩ := h
  obtain ⟨ys, rfl, _⟩ := den_map den_u8 ls h1
  exact ⟨ys, flat_sing _ _, by simpa using h2⟩
/-- A slice of bytes. -/
theorem den_bytes (aS : List A) (h : Den (.sl (.int .u8)) aS) : ∃ b : List UInt8, aS = [.fz b.length (b.map u8)] ∧ b.length ≤ maxLen := by
  simp only [Den] at h
  obtain ⟨ls, h1, h2, rfl⟩ := h
  obtain ⟨ys, rfl, _⟩ := den_map den_u8 ls h1
  exact ⟨ys, by rw [flat_sing, List.length_map], by simpa using h2⟩
/-- A slice of integers. -/
theorem den_ints (aS : List A) (h : Den (.sl (.int .i64)) aS) : ∃ b : List Int, aS = [.fz b.length (b.map (A.i .i64))] ∧ b.length ≤ maxLen ∧ ∀ n ∈ b, -9223372036854775808 ≤ n ∧ n ≤ 9223372036854775807 := by
  simp only [Den] at h
  obtain ⟨ls, h1, h2, rfl⟩ := h
  obtain ⟨ys, rfl, h3⟩ := den_map den_int ls h1
  exact ⟨ys, by rw [flat_sing, List.length_map], by simpa using h2, h3⟩
/-- A slice of slices of bytes. -/
theorem den_rows (aS : List A) (h : Den (.sl (.sl (.int .u8))) aS) : ∃ L : List (List UInt8), aS = [.fz L.length (L.map fun b => A.fz b.length (b.map u8))] ∧ L.length ≤ maxLen ∧ ∀ x ∈ L, x.length ≤ maxLen := by
  simp only [Den] at h
  obtain ⟨ls, h1, h2, rfl⟩ := h
  obtain ⟨ys, rfl, h3⟩ := den_map (f := fun b : List UInt8 => [A.fz b.length (b.map u8)]) den_bytes ls (fun x hx => by simp only [Den]; exact h1 x hx)
  exact ⟨ys, by rw [flat_sing (fun b : List UInt8 => A.fz b.length (b.map u8)), List.length_map], by simpa using h2, h3⟩
end
end Go.Abs

/-! AbsR -/
namespace Go.Abs
open Go Go.Eng
end Go.Abs

/-! V6Q -/
namespace Go.Abs.D2
abbrev nV (n : Nat) : A := .i .i64 (n : Int)
end Go.Abs.D2
namespace Go.Abs.V6
open Go Go.Eng Go.Abs
theorem getO {m : List UInt8} {i : Nat} (hi : i < m.length) : ((m.map u8).drop (0 + i * 1))[0]? = some (u8 (m.getD i 0)) := by
  rw [List.getElem?_drop, show 0 + i * 1 + 0 = i by omega]
  simp [hi]
theorem getF {m : List UInt8} {i : Nat} (hi : i < m.length) : ((m.map u8).drop (i * 1))[0]? = some (u8 (m.getD i 0)) := by
  rw [List.getElem?_drop, show i * 1 + 0 = i by omega]
  simp [hi]
theorem cut_0 {m : Nat} {l : List UInt8} (h : m % 8 = 0) : cut m l = l := by unfold cut; rw [if_pos h]
theorem cutC {m : Nat} {l : List UInt8} (h : m % 8 ≠ 0) : (l.map u8).set (0 + m / 8 * 1) (u8 (l.getD (m / 8) 0 &&& (bitB (m % 8) - 1))) = (cut m l).map u8 := by
  unfold cut; rw [if_neg h, List.map_set, show 0 + m / 8 * 1 = m / 8 by omega]
theorem changeC (l : List UInt8) (m : Nat) : (l.map u8).set (0 + m / 8 * 1) (u8 (l.getD (m / 8) 0 ^^^ bitB (m % 8))) = (change l m).map u8 := by
  unfold change; rw [List.map_set, show 0 + m / 8 * 1 = m / 8 by omega]
abbrev slV (p : List UInt8) : A := .fz p.length (p.map u8)
theorem getR {ls : List (List UInt8)} {j : Nat} {q : List UInt8} (h : ls[j]? = some q) : ((ls.map slV).drop (j * 1))[0]? = some (slV q) := by
  rw [List.getElem?_drop, show j * 1 + 0 = j by omega, List.getElem?_map, h]; rfl
theorem getX {a b : List UInt8} {i : Nat} (hl : a.length ≤ b.length) (h : i < a.length) : (((xorTo a b i).map u8).drop (0 + i * 1))[0]? = some (u8 (a.getD i 0)) := by
  rw [List.getElem?_drop, show 0 + i * 1 + 0 = i by omega, List.getElem?_map, xorTo_get hl h]; rfl
theorem xorToC {a b : List UInt8} (hl : a.length ≤ b.length) {i : Nat} (h : i < a.length) : ((xorTo a b i).map u8).set (0 + i * 1) (u8 (a.getD i 0 ^^^ b.getD i 0)) = (xorTo a b (i + 1)).map u8 := by
  rw [show 0 + i * 1 = i by omega, ← List.map_set, xorTo_succ hl h]
theorem addTo_16 {s q : List UInt8} {ls : List (List UInt8)} (hs : s.length = 16) (hls : ∀ b ∈ ls, b.length = 16) {j : Nat} (h : ls[j]? = some q) : xorTo (foldTo s ls j) q 16 = foldTo s ls (j + 1) := by
  have hj := (List.getElem?_eq_some_iff.1 h).1
  have hq : q.length = 16 := hls q (List.mem_of_getElem? h)
  have hf : (foldTo s ls j).length = 16 := (len_foldTo (fun b hb => by rw [hs, hls b hb]; exact Nat.le_refl _) j (by omega)).trans hs
  have := xorTo_all (a := foldTo s ls j) (b := q) (by omega)
  rw [hf] at this
  rw [this, foldTo_succ s ls j hj, List.getD, h]; rfl
theorem sum_len {p q : List UInt8} (hp : p.length = 16) (hq : q.length = 16) : (([p, q].foldl xorL zero16).map u8).length = 16 * 1 := by
  rw [xor_zero p q hp, List.length_map, len_xorL (by omega), hp]
theorem choosesC (l : List UInt8) (k : Nat) : (((UInt8.ofNat ((l.getD (k / 8) 0).toNat / 2 ^ (k % 8)) &&& 1).toNat : Int) == 1) = chooses l k := by
  unfold chooses
  rw [Bool.eq_iff_iff, beq_iff_eq, beq_iff_eq, ← UInt8.toNat_inj]
  show _ ↔ _ = 1
  omega
end Go.Abs.V6
namespace Go.Abs.D2
open Go Go.Eng Go.Abs
theorem tfV (b : Bool) : b = false ∨ b = true := by cases b <;> simp
/-- What Masks gives. -/
@[irreducible] def masksA (many a : Int) (l : List UInt8) : A := if V6.sized many l.length then (if 0 ≤ a ∧ a < many then .tu [V6.slV (V6.cut many.toNat l), V6.slV (V6.change (V6.cut many.toNat l) a.toNat), .i .i64 0] else .tu [.nl, .nl, .i .i64 1]) else .tu [.nl, .nl, .i .i64 360]
theorem masksA_no {many a : Int} {l : List UInt8} (h : V6.sized many l.length = false) : masksA many a l = .tu [.nl, .nl, .i .i64 360] := by unfold masksA; rw [if_neg (by rw [h]; decide)]
theorem masksA_arg {many a : Int} {l : List UInt8} (h : V6.sized many l.length = true) (h2 : ¬ (0 ≤ a ∧ a < many)) : masksA many a l = .tu [.nl, .nl, .i .i64 1] := by unfold masksA; rw [if_pos h, if_neg h2]
theorem masksA_yes {m k : Nat} {l : List UInt8} (h : V6.sized m l.length = true) (h2 : k < m) : masksA m k l = .tu [V6.slV (V6.cut m l), V6.slV (V6.change (V6.cut m l) k), .i .i64 0] := by unfold masksA; rw [if_pos h, if_pos (by omega)]; rfl
@[irreducible] def joinA (p q : List UInt8) : A := if p.length = 16 ∧ q.length = 16 then .tu [.fz 16 ((V6.xorL p q).map u8), .i .i64 0] else .tu [.nl, .i .i64 360]
theorem joinA_no {p q : List UInt8} (h : ¬ (p.length = 16 ∧ q.length = 16)) : joinA p q = .tu [.nl, .i .i64 360] := by unfold joinA; rw [if_neg h]
theorem joinA_yes {p q : List UInt8} (hp : p.length = 16) (hq : q.length = 16) : joinA p q = .tu [.fz 16 (([p, q].foldl V6.xorL V6.zero16).map u8), .i .i64 0] := by unfold joinA; rw [if_pos ⟨hp, hq⟩, V6.xor_zero p q hp]
theorem masksA_err {many a : Int} {l : List UInt8} (h : (V6.masks many a l).2.2 ≠ 0) : masksA many a l = .tu [.nl, .nl, .i .i64 (V6.masks many a l).2.2] := by
  unfold masksA
  unfold V6.masks at h ⊢
  split
  · rename_i hs
    rw [if_pos hs] at h
    split
    · rename_i h2
      rw [if_pos h2] at h; exact absurd rfl h
    · rfl
  · rfl
theorem masksA_val {m k : Nat} {l : List UInt8} (h : (V6.masks m k l).2.2 = 0) : masksA m k l = .tu [V6.slV (V6.cut m l), V6.slV (V6.change (V6.cut m l) k), .i .i64 0] := by
  obtain ⟨m', k', e1, e2, h1, h2, h3, h4⟩ := V6.masks_zero h
  obtain rfl : m = m' := by omega
  obtain rfl : k = k' := by omega
  exact masksA_yes (by simp only [V6.sized, decide_eq_true_eq]; omega) h4
theorem masksA_zero {many a : Int} {l : List UInt8} (h : (V6.masks many a l).2.2 = 0) : masksA many a l = .tu [V6.slV (V6.masks many a l).1, V6.slV (V6.masks many a l).2.1, .i .i64 0] := by
  obtain ⟨m, k, rfl, rfl, h1, h2, h3, h4⟩ := V6.masks_zero h
  rw [masksA_val h, V6.masks_val h]; rfl
def no16 (q : List UInt8) : Bool := q.length != 16
def unmasked (n : Nat) (q : List UInt8) : Bool := !(V6.masked n q)
abbrev rowsV (l : List (List UInt8)) : A := .fz l.length (l.map V6.slV)
/-- Where a first element answers. -/
def idxE (p : List UInt8 → Bool) (l : List (List UInt8)) : Int := if l.any p then (l.findIdx p : Nat) else -1
theorem idxE_ge (p : List UInt8 → Bool) (l : List (List UInt8)) : decide (0 ≤ idxE p l) = l.any p := by
  unfold idxE
  split
  · rename_i h; rw [h]; simp
  · rename_i h; rw [Bool.not_eq_true] at h; rw [h]; decide
theorem take_any {p : List UInt8 → Bool} {l : List (List UInt8)} {j : Nat} {x : List UInt8} (h : l[j]? = some x) (h1 : (l.take j).any p = false) (h2 : p x = false) : (l.take (j + 1)).any p = false := by
  rw [List.take_add_one, h]; simp [h1, h2]
theorem idxE_at {p : List UInt8 → Bool} {l : List (List UInt8)} {j : Nat} {x : List UInt8} (h : l[j]? = some x) (h1 : (l.take j).any p = false) (h2 : p x = true) : idxE p l = (j : Int) := by
  have hj := (List.getElem?_eq_some_iff.1 h).1
  have hx := (List.getElem?_eq_some_iff.1 h).2
  have ha : l.any p = true := List.any_eq_true.2 ⟨x, List.mem_of_getElem? h, h2⟩
  unfold idxE
  rw [if_pos ha]
  congr 1
  rw [List.findIdx_eq hj]
  refine ⟨by rw [hx]; exact h2, fun i hi => ?_⟩
  rw [List.any_eq_false] at h1
  have := h1 (l[i]'(by omega)) (List.mem_take_iff_getElem.2 ⟨i, by omega, rfl⟩)
  simpa using this
theorem idxE_none {p : List UInt8 → Bool} {l : List (List UInt8)} (h : (l.take l.length).any p = false) : idxE p l = -1 := by
  rw [List.take_length] at h
  unfold idxE; rw [h]; rfl
/-- What Answer gives. -/
def ansOk (db ms : List (List UInt8)) : Bool := V6.database db && decide (ms.length ≤ 132) && ms.all (V6.masked db.length)
@[irreducible] def answersA (db ms : List (List UInt8)) : A := if ansOk db ms then .tu [.ag [rowsV (ms.map (V6.answer db))], .i .i64 0] else .tu [.ag [.nl], .i .i64 360]
theorem answersA_no {db ms : List (List UInt8)} (h : ansOk db ms = false) : answersA db ms = .tu [.ag [.nl], .i .i64 360] := by unfold answersA; rw [if_neg (by rw [h]; decide)]
theorem answersA_yes {db ms : List (List UInt8)} (h : ansOk db ms = true) : answersA db ms = .tu [.ag [rowsV (ms.map (V6.answer db))], .i .i64 0] := by unfold answersA; rw [if_pos h]
theorem ansOk_len {db ms : List (List UInt8)} (h : ¬ (1 ≤ db.length ∧ db.length ≤ 1024 ∧ ms.length ≤ 132)) : ansOk db ms = false := by
  rw [Bool.eq_false_iff]; intro hh
  simp only [ansOk, V6.database, Bool.and_eq_true, decide_eq_true_eq] at hh
  omega
theorem ansOk_db {db ms : List (List UInt8)} (h : db.any no16 = true) : ansOk db ms = false := by
  rw [Bool.eq_false_iff]; intro hh
  simp only [ansOk, V6.database, Bool.and_eq_true, decide_eq_true_eq, List.all_eq_true] at hh
  obtain ⟨x, hx, h2⟩ := List.any_eq_true.1 h
  have := hh.1.1.1 x hx
  simp [no16] at h2
  simp at this
  exact h2 this
theorem ansOk_ms {db ms : List (List UInt8)} (h : ms.any (unmasked db.length) = true) : ansOk db ms = false := by
  rw [Bool.eq_false_iff]; intro hh
  simp only [ansOk, Bool.and_eq_true, List.all_eq_true] at hh
  obtain ⟨x, hx, h2⟩ := List.any_eq_true.1 h
  have := hh.2 x hx
  simp [unmasked, this] at h2
theorem ansOk_yes {db ms : List (List UInt8)} (h0 : 1 ≤ db.length ∧ db.length ≤ 1024 ∧ ms.length ≤ 132) (h1 : db.any no16 = false) (h2 : ms.any (unmasked db.length) = false) : ansOk db ms = true := by
  simp only [ansOk, V6.database, Bool.and_eq_true, decide_eq_true_eq, List.all_eq_true]
  refine ⟨⟨⟨fun x hx => ?_, h0.1, h0.2.1⟩, h0.2.2⟩, fun x hx => ?_⟩
  · have := (List.any_eq_false.1 h1) x hx
    simpa [no16] using this
  · have := (List.any_eq_false.1 h2) x hx
    simpa [unmasked] using this
theorem ansOk_spec {db ms : List (List UInt8)} (h : ansOk db ms = true) : (∀ b ∈ db, b.length = 16) ∧ ∀ m ∈ ms, V6.masked db.length m = true := by
  simp only [ansOk, Bool.and_eq_true, List.all_eq_true] at h
  exact ⟨(V6.database_spec h.1.1).1, h.2⟩
theorem answer_fz {db : List (List UInt8)} (hdb : ∀ b ∈ db, b.length = 16) (m : List UInt8) : A.fz 16 ((V6.answerTo db m db.length).map u8) = V6.slV (V6.answer db m) := by
  have := V6.len_answer hdb m
  show A.fz 16 ((V6.answer db m).map u8) = _
  rw [V6.slV, this]
/-- What Ask gives. -/
@[irreducible] def askA (many : Int) (at' : List Int) (batch : Int) (coins : List (List UInt8)) : A :=
  if (V6.ask many at' batch coins).2.2 = 0 then .tu [.ag [rowsV (V6.ask many at' batch coins).1], .ag [rowsV (V6.ask many at' batch coins).2.1], .i .i64 0] else .tu [.ag [.nl], .ag [.nl], .i .i64 (V6.ask many at' batch coins).2.2]
theorem askA_no {many : Int} {at' : List Int} {batch : Int} {coins : List (List UInt8)} (h : (V6.ask many at' batch coins).2.2 ≠ 0) : askA many at' batch coins = .tu [.ag [.nl], .ag [.nl], .i .i64 (V6.ask many at' batch coins).2.2] := by unfold askA; rw [if_neg h]
theorem askA_yes {many : Int} {at' : List Int} {batch : Int} {coins : List (List UInt8)} (h : (V6.ask many at' batch coins).2.2 = 0) : askA many at' batch coins = .tu [.ag [rowsV (V6.ask many at' batch coins).1], .ag [rowsV (V6.ask many at' batch coins).2.1], .i .i64 0] := by unfold askA; rw [if_pos h]
theorem ask_bad {many : Int} {at' : List Int} {batch : Int} {coins : List (List UInt8)} (h : batch < 1 ∨ batch > 132 ∨ (at'.length : Int) > batch ∨ (coins.length : Int) ≠ batch) : V6.ask many at' batch coins = ([], [], 360) := by unfold V6.ask; rw [if_pos h]
end Go.Abs.D2
namespace Go.Abs.V6
open Go Go.Eng Go.Abs Go.Abs.D2
theorem take_eq {p q : List UInt8} (hl : p.length = q.length) {i : Nat} (h : i < p.length) (h1 : p.take i = q.take i) (h2 : p.getD i 0 = q.getD i 0) : p.take (i + 1) = q.take (i + 1) := by
  rw [List.take_succ_eq_append_getElem h, List.take_succ_eq_append_getElem (show i < q.length by omega), h1]
  simp only [List.getD, List.getElem?_eq_getElem h, List.getElem?_eq_getElem (show i < q.length by omega), Option.getD_some] at h2
  rw [h2]
theorem byteI {a b : UInt8} (h : (a.toNat : Int) = (b.toNat : Int)) : a = b := by
  rw [← UInt8.toNat_inj]; omega
theorem beq_len {p q : List UInt8} (h : p.length ≠ q.length) : (p == q) = false := by
  rw [beq_eq_false_iff_ne]; intro e; exact h (congrArg _ e)
theorem beq_at {p q : List UInt8} (_ : p.length = q.length) {i : Nat} (_ : i < p.length) (h2 : p.getD i 0 ≠ q.getD i 0) : (p == q) = false := by
  rw [beq_eq_false_iff_ne]; intro e; exact h2 (by rw [e])
theorem beq_all {p q : List UInt8} (hl : p.length = q.length) (h : p.take p.length = q.take p.length) : (p == q) = true := by
  rw [List.take_length, hl, List.take_length] at h
  rw [h]; simp
theorem cut_view (m : Nat) (l : List UInt8) : (((cut m l).map u8).drop 0).take (l.length * 1) = (cut m l).map u8 := by
  rw [List.drop_zero, List.take_of_length_le (by rw [List.length_map, len_cut]; omega)]
theorem masked_no {many : Int} {l : List UInt8} (h : sized many l.length = false) : masked many l = false := by simp [masked, h]
theorem masked_yes {m : Nat} {l : List UInt8} (h : sized m l.length = true) : masked m l = (l == cut m l) := by simp [masked, h]
theorem no16_b (q : List UInt8) : (!((q.length : Int) == 16)) = no16 q := by
  unfold no16
  rw [Bool.eq_iff_iff]; simp; omega
theorem ans_yes {db : List (List UInt8)} {q d : List UInt8} {k : Nat} (hd : db[k]? = some d) (h : chooses q k = true) : ([d].foldl xorL (answerTo db q k)).map u8 = (answerTo db q (k + 1)).map u8 := by
  rw [answerTo_succ, if_pos h, List.getD, hd]; rfl
theorem ans_no {db : List (List UInt8)} {q : List UInt8} {k : Nat} (h : chooses q k = false) : (answerTo db q k).map u8 = (answerTo db q (k + 1)).map u8 := by
  rw [answerTo_succ, if_neg (by rw [h]; decide)]
theorem rows_next (f : List UInt8 → List UInt8) {ms : List (List UInt8)} {q : List UInt8} {j : Nat} (h : ms[j]? = some q) : ((ms.take j).map f).map slV ++ [slV (f q)] = ((ms.take (j + 1)).map f).map slV := by
  rw [List.take_add_one, h]; simp
theorem want_yes {a : List Int} {k : Nat} (h : k < a.length) : want a k = a.getD k 0 := by unfold want; rw [if_pos h]
theorem want_no {a : List Int} {k : Nat} (h : ¬ k < a.length) : want a k = 0 := by unfold want; rw [if_neg h]
theorem getI {a : List Int} {k : Nat} (h : k < a.length) : ((a.map (A.i .i64)).drop (k * 1))[0]? = some (A.i .i64 (a.getD k 0)) := by
  rw [List.getElem?_drop, show k * 1 + 0 = k by omega]
  simp [h]
theorem askTo_nextW {many : Int} {a : List Int} {coins : List (List UInt8)} {k : Nat} (h : (askTo many a coins k).2.2 = 0) (hm : (masks many (want a k) (coins.getD k [])).2.2 = 0) :
    askTo many a coins (k + 1) = ((askTo many a coins k).1 ++ [(masks many (want a k) (coins.getD k [])).1], (askTo many a coins k).2.1 ++ [(masks many (want a k) (coins.getD k [])).2.1], 0) := askTo_next h rfl hm
theorem ask_errW {many : Int} {a : List Int} {coins : List (List UInt8)} {k : Nat} (hk : k < coins.length) (h0 : 1 ≤ coins.length) (h1 : coins.length ≤ 132) (h2 : a.length ≤ coins.length) (h : (askTo many a coins k).2.2 = 0)
    (hm : (masks many (want a k) (coins.getD k [])).2.2 ≠ 0) : ask many a coins.length coins = ([], [], (masks many (want a k) (coins.getD k [])).2.2) := ask_err hk h0 h1 h2 h rfl hm
theorem ask_fst {X Y : List (List UInt8) × List (List UInt8) × Int} {p q : List UInt8} (h : X = (Y.1 ++ [p], Y.2.1 ++ [q], 0)) : Y.1.map slV ++ [slV p] = X.1.map slV := by rw [h]; simp
theorem ask_snd {X Y : List (List UInt8) × List (List UInt8) × Int} {p q : List UInt8} (h : X = (Y.1 ++ [p], Y.2.1 ++ [q], 0)) : Y.2.1.map slV ++ [slV q] = X.2.1.map slV := by rw [h]; simp
end Go.Abs.V6
namespace Go.Abs.D2
open Go Go.Eng Go.Abs
theorem few_next {l : List (List UInt8)} {i : Nat} {q : List UInt8} (hq : l[i]? = some q) (hlen : q.length ≤ 130) (h : ∀ k, k < i → (l.getD k []).length ≤ 130) : ∀ k, k < i + 1 → (l.getD k []).length ≤ 130 := by
  intro k hk
  by_cases e : k = i
  · subst e; rw [List.getD, hq]; exact hlen
  · exact h k (by omega)
theorem few_out {l : List (List UInt8)} {most : Int} {i : Nat} {q : List UInt8} (hq : l[i]? = some q) (hlen : ¬ q.length ≤ 130) : V6.few l most = false :=
  V6.few_no (List.getElem?_eq_some_iff.1 hq).1 (by rw [List.getD, hq]; exact hlen)
end Go.Abs.D2

/-! V6B -/
namespace Go.Abs.D2
open Go Go.Eng Go.Abs Go.Proofs 
set_option linter.unusedSimpArgs false in
set_option linter.unusedVariables false in
set_option maxHeartbeats 1000000 in
set_option maxRecDepth 10000 in
theorem cloneB_ok (D : List UInt8) (h : 0 < D.length) (hD : D.length ≤ 1000000) : Con Tryd.prog 40 [.fz D.length (D.map u8)] (RetO 1 D.length (D.map u8)) := by
  refine enter Tryd.func40 rfl Tryd.ntmps40 (by kernel_rfl) (Nat.le_of_ble_eq_true rfl) fun w0 X0 hI => ?_
  refine at_seq ?_
  refine at_region ?_
  refine s1 (y_p rfl) rfl <| ?_
  refine at_nil ?_
  refine x_tn ?_
  refine at_seq ?_
  refine at_seq ?_
  refine at_region ?_
  refine s1 (y_p rfl) rfl <| s1 (y_fznil Tryd.underlying66 rfl rfl h) rfl <| ?_
  refine at_nil ?_
  refine x_tn ?_
  refine at_else rfl ?_
  refine at_skip ?_
  refine x_tn ?_
  refine at_seq ?_
  refine at_region ?_
  refine at_op rfl (n_bs1 5 rfl Tryd.underlying66 ti5 rfl rfl rfl rfl rfl ?_)
  refine s1 (y_p rfl) rfl <| ?_
  refine at_op rfl (n_app 7 rfl Tryd.underlying66 ti5 rfl (.sl rfl (by first | rfl | omega | (simp; done) | (simp [*]; done) | (simp; omega) | (simp [*]; omega) | (simp [D32.len, -List.length_flatten, *]; done) | (simp [D32.len, -List.length_flatten, *]; omega))) rfl rfl (by first | rfl | omega | (simp; done) | (simp [*]; done) | (simp; omega) | (simp [*]; omega) | (simp [D32.len, -List.length_flatten, *]; done) | (simp [D32.len, -List.length_flatten, *]; omega)) (by first | omega | (simp only [maxLen]; omega) | (simp [maxLen]; done) | (simp [maxLen]; omega) | (simp [maxLen, *]; omega)) (by first | omega | (simp only [maxLen]; omega) | (simp [maxLen]; done) | (simp [maxLen]; omega) | (simp [maxLen, *]; omega)) rfl rfl rfl ?_)
  refine s1 (y_p rfl) rfl <| ?_
  refine at_nil ?_
  refine x_tn ?_
  refine at_ret ?_
  refine at_result (rs := [.tmp 2]) rfl (r_tmp rfl r_nil) ⟨7, congrArg (A.sl 7 1 0) (Nat.zero_add _), rfl⟩
set_option linter.unusedSimpArgs false in
set_option linter.unusedVariables false in
set_option maxHeartbeats 1000000 in
set_option maxRecDepth 10000 in
theorem vsized_ok (many : Int) (l : List UInt8) : Con Tryd.prog 87 [.i .i64 many, .fz l.length (l.map u8)] (Ret (.b (V6.sized many l.length))) := by
  refine enter Tryd.func87 rfl Tryd.ntmps87 (by kernel_rfl) (Nat.le_of_ble_eq_true rfl) fun w0 X0 hI => ?_
  refine at_seq ?_
  refine at_region ?_
  refine s1 (y_p rfl) rfl <| ?_
  refine at_nil ?_
  refine x_tn ?_
  refine at_seq ?_
  rcases Decidable.em (1 ≤ many ∧ many ≤ 1024) with hcs | hcs
  · obtain ⟨m, rfl⟩ : ∃ m : Nat, many = (m : Int) := ⟨many.toNat, by omega⟩
    refine at_region ?_
    refine s1 (y_p rfl) rfl <| s1 (y_p rfl) rfl <| s1 (y_p rfl) rfl <| ?_
    refine g_and 2 rfl rfl rfl rfl (fun hb7 => .step (y_p rfl) rfl rfl <| .step (y_p rfl) rfl rfl <| .done) rfl rfl ?_
    refine at_say 10 rfl (v' := .b true) (congrArg A.b (by simp; omega)) ?_
    refine s1 (y_p rfl) rfl <| g1 rfl rfl (y_p rfl) rfl <| g1 rfl rfl (y_len Tryd.underlying66 rfl rfl rfl) rfl <| g1 rfl rfl (y_p rfl) rfl <| g1 rfl rfl (addN m 7 rfl rfl rfl rfl (by omega)) rfl <| g1 rfl rfl (quoN (m + 7) 8 rfl rfl rfl rfl (by omega) (by omega)) rfl <| g1 rfl rfl (y_p rfl) rfl <| s1 (y_p rfl) rfl <| s1 (y_p rfl) rfl <| ?_
    refine at_nil ?_
    refine x_tn ?_
    refine at_ret ?_
    refine at_result (rs := [.tmp 4]) rfl (r_tmp rfl r_nil) ?_
    exact congrArg A.b ((V6.sized_yes hcs.1 hcs.2).trans rfl).symm
  · skip
    refine at_region ?_
    refine s1 (y_p rfl) rfl <| s1 (y_p rfl) rfl <| s1 (y_p rfl) rfl <| ?_
    refine g_and 2 rfl rfl rfl rfl (fun hb7 => .step (y_p rfl) rfl rfl <| .step (y_p rfl) rfl rfl <| .done) rfl rfl ?_
    refine at_say 10 rfl (v' := .b false) (congrArg A.b (by simp; omega)) ?_
    refine s1 (y_p rfl) rfl <| g0 rfl rfl rfl rfl <| g0 rfl rfl rfl rfl <| g0 rfl rfl rfl rfl <| g0 rfl rfl rfl rfl <| g0 rfl rfl rfl rfl <| g0 rfl rfl rfl rfl <| s1 (y_p rfl) rfl <| s1 (y_p rfl) rfl <| ?_
    refine at_nil ?_
    refine x_tn ?_
    refine at_ret ?_
    refine at_result (rs := [.tmp 4]) rfl (r_tmp rfl r_nil) ?_
    exact congrArg A.b (V6.sized_no hcs).symm
set_option linter.unusedSimpArgs false in
set_option linter.unusedVariables false in
set_option maxHeartbeats 1000000 in
set_option maxRecDepth 10000 in
theorem vcut_5_7 (l : List UInt8) (n m : Nat) (hl : l.length = n) (hm : n = (m + 7) / 8) (hm2 : m ≤ 1024) : ConS Tryd.prog 88 [.p 5 0, .i .i64 (m : Nat)] ⟨[(5, some [.sl 7 1 0 n]), (7, some (l.map u8))]⟩ (RetS (.tu []) [(5, [.sl 7 1 0 n]), (7, (V6.cut m l).map u8)]) := by
  refine enterS Tryd.func88 rfl Tryd.ntmps88 (by kernel_rfl) (Nat.le_of_ble_eq_true rfl) fun w0 X0 hI => ?_
  refine at_seq ?_
  refine at_region ?_
  refine s1 (y_p rfl) rfl <| s1 (remN m 8 rfl rfl rfl rfl (by omega)) rfl <| s1 (y_p rfl) rfl <| ?_
  refine at_nil ?_
  refine x_tn ?_
  refine at_seq ?_
  refine at_region ?_
  refine s1 (y_p rfl) rfl <| s1 (y_p rfl) rfl <| ?_
  refine at_nil ?_
  refine x_tn ?_
  refine at_cond rfl (fun hc8 => ?_) (fun hc8 => ?_)
  · have h8 : m % 8 ≠ 0 := by simp at hc8; omega
    refine at_draw_tail 12 hmix (by kernel_rfl) ?_
    refine t1 (y_p rfl) rfl <| t1 (y_nilc rfl rfl) rfl <| t1 (y_load ti101 rfl rfl rfl) rfl <| t1 (y_p rfl) rfl <| t1 (quoN m 8 rfl rfl rfl rfl (by omega) (by omega)) rfl <| t1 (y_ixs (m / 8) Tryd.underlying101 ti5 rfl rfl rfl rfl (by omega) rfl) rfl <| t1 (y_load ti5 rfl rfl (V6.getO (by omega))) rfl <| t1 (y_p rfl) rfl <| t1 (shl1B (m % 8) rfl rfl rfl (by omega)) rfl <| t1 ((y_p rfl).v (congrArg (A.i .u8) (V6.subB _ (by omega)))) rfl <| ?_
    refine t1 (andB _ _ rfl rfl) rfl <| t1 (y_ixs (m / 8) Tryd.underlying101 ti5 rfl rfl rfl rfl (by omega) rfl) rfl <| ?_
    refine at_snil ?_
    refine at_op rfl (n_store1 ti5 rfl rfl rfl rfl (by simp; omega) (V6.cutC h8) ?_)
    refine at_nil ?_
    refine at_result' (rs := []) rfl r_nil ?_
    exact retS_2 rfl rfl
  · have h8 : m % 8 = 0 := by simp at hc8; omega
    refine at_skip ?_
    refine at_result' (rs := []) rfl r_nil ?_
    exact retS_2 rfl (by rw [V6.cut_0 h8]; rfl)
set_option linter.unusedSimpArgs false in
set_option linter.unusedVariables false in
set_option maxHeartbeats 1000000 in
set_option maxRecDepth 10000 in
theorem vchange_9_23 (l : List UInt8) (n m : Nat) (hl : l.length = n) (hm : m / 8 < n) (hm2 : m ≤ 1024) : ConS Tryd.prog 64 [.p 9 0, .i .i64 (m : Nat)] ⟨[(9, some [.sl 23 1 0 n]), (23, some (l.map u8))]⟩ (RetS (.tu []) [(9, [.sl 23 1 0 n]), (23, (V6.change l m).map u8)]) := by
  refine enterS Tryd.func64 rfl Tryd.ntmps64 (by kernel_rfl) (Nat.le_of_ble_eq_true rfl) fun w0 X0 hI => ?_
  refine at_draw_tail 12 hmix (by kernel_rfl) ?_
  refine t1 (y_p rfl) rfl <| t1 (y_nilc rfl rfl) rfl <| t1 (y_load ti101 rfl rfl rfl) rfl <| t1 (y_p rfl) rfl <| t1 (quoN m 8 rfl rfl rfl rfl (by omega) (by omega)) rfl <| t1 (y_ixs (m / 8) Tryd.underlying101 ti5 rfl rfl rfl rfl (by omega) rfl) rfl <| t1 (y_load ti5 rfl rfl (V6.getO (by omega))) rfl <| t1 (y_p rfl) rfl <| t1 (remN m 8 rfl rfl rfl rfl (by omega)) rfl <| t1 (shl1B (m % 8) rfl rfl rfl (by omega)) rfl <| ?_
  refine t1 (xorB _ _ rfl rfl) rfl <| t1 (y_ixs (m / 8) Tryd.underlying101 ti5 rfl rfl rfl rfl (by omega) rfl) rfl <| ?_
  refine at_snil ?_
  refine at_op rfl (n_store1 ti5 rfl rfl rfl rfl (by simp; omega) (V6.changeC _ _) ?_)
  refine at_nil ?_
  refine at_result' (rs := []) rfl r_nil ?_
  exact retS_2 rfl rfl
set_option linter.unusedSimpArgs false in
set_option linter.unusedVariables false in
set_option maxHeartbeats 1000000 in
set_option maxRecDepth 10000 in
theorem vchooses_ok (l : List UInt8) (k : Nat) (hk : k / 8 < l.length) (hk2 : k ≤ 1024) : Con Tryd.prog 94 [.fp [.fz l.length (l.map u8)], nV k] (Ret (.b (V6.chooses l k))) := by
  refine enter Tryd.func94 rfl Tryd.ntmps94 (by kernel_rfl) (Nat.le_of_ble_eq_true rfl) fun w0 X0 hI => ?_
  refine at_seq ?_
  refine at_region ?_
  refine s1 (y_p rfl) rfl <| ?_
  refine at_nil ?_
  refine x_tn ?_
  refine at_seq ?_
  refine at_region ?_
  refine s1 (y_p rfl) rfl <| s1 (y_nilc rfl rfl) rfl <| s1 (y_load ti101 rfl rfl rfl) rfl <| s1 (y_p rfl) rfl <| s1 (quoN _ 8 rfl rfl rfl rfl (by omega) (by omega)) rfl <| s1 (y_ixf (k / 8) Tryd.underlying101 ti5 rfl rfl rfl hk rfl) rfl <| s1 (y_load ti5 rfl rfl (V6.getF hk)) rfl <| s1 (y_p rfl) rfl <| s1 (remN _ 8 rfl rfl rfl rfl (by omega)) rfl <| s1 (shrB (l.getD (k / 8) 0) (k % 8) rfl rfl rfl (by omega)) rfl <| ?_
  refine s1 (andB _ _ rfl rfl) rfl <| s1 ((y_p rfl).v (v' := .b (V6.chooses l k)) (congrArg A.b (V6.choosesC _ _))) rfl <| s1 (y_p rfl) rfl <| ?_
  refine at_nil ?_
  refine x_tn ?_
  refine at_ret ?_
  refine at_result (rs := [.tmp 4]) rfl (r_tmp rfl (r_nil)) rfl
set_option linter.unusedSimpArgs false in
set_option linter.unusedVariables false in
set_option maxHeartbeats 1000000 in
set_option maxRecDepth 10000 in
theorem vmaskOf_ok (l : List UInt8) (m : Nat) (hm : l.length = (m + 7) / 8) (hm1 : 1 ≤ m) (hm2 : m ≤ 1024) : Con Tryd.prog 63 [nV m, .fz l.length (l.map u8)] (RetO 1 l.length ((V6.cut m l).map u8)) := by
  refine enter Tryd.func63 rfl Tryd.ntmps63 (by kernel_rfl) (Nat.le_of_ble_eq_true rfl) fun w0 X0 hI => ?_
  refine at_seq ?_
  refine at_region ?_
  refine s1 (y_p rfl) rfl <| ?_
  refine at_nil ?_
  refine x_tn ?_
  refine at_seq ?_
  refine at_region ?_
  refine s1 (y_p rfl) rfl <| ?_
  refine at_op rfl (n_callO 7 rfl false rfl (.cons (.pure pu) (.nil)) (cloneB_ok l (by omega) (by omega)) pul (.inl rfl) rfl ?_)
  refine at_op rfl (n_alloc 5 rfl ti101 rfl rfl ?_)
  refine at_op rfl (n_store1 ti101 rfl rfl rfl rfl (by first | rfl | omega | (simp; done) | (simp [*]; done) | (simp; omega) | (simp [*]; omega) | (simp [D32.len, -List.length_flatten, *]; done) | (simp [D32.len, -List.length_flatten, *]; omega)) rfl ?_)
  refine at_nil ?_
  refine x_tn ?_
  refine at_seq ?_
  refine at_region ?_
  refine s1 (y_p rfl) rfl <| ?_
  refine at_op rfl (n_callK ⟨[(5, some [.sl 7 1 0 l.length]), (7, some (l.map u8))]⟩ [(5, [.sl 7 1 0 l.length]), (7, (V6.cut m l).map u8)] true rfl ⟨⟨rfl, .cons (.ksl rfl) .nil⟩, ⟨rfl, VwL.pure pul⟩, trivial⟩ (.cons (.kp rfl) (.cons (.pure pu) .nil)) (vcut_5_7 l l.length m rfl hm hm2) trivial (.inr trivial) (upd_K2 rfl rfl (KpL_sl rfl) (KpL_pure pul (.inr ful))) rfl ?_)
  refine at_nil ?_
  refine x_tn ?_
  refine at_seq ?_
  refine at_region ?_
  refine s1 (y_load ti101 rfl rfl rfl) rfl <| s1 (y_p rfl) rfl <| ?_
  refine at_nil ?_
  refine x_tn ?_
  refine at_ret ?_
  refine at_result (rs := [.tmp 4]) rfl (r_tmp rfl r_nil) ⟨7, rfl, rfl⟩
set_option linter.unusedSimpArgs false in
set_option linter.unusedVariables false in
set_option maxHeartbeats 1000000 in
set_option maxRecDepth 10000 in
theorem vmasks_ok (many a : Int) (l : List UInt8) : Con Tryd.prog 62 [.i .i64 many, .i .i64 a, .fz l.length (l.map u8)] (Ret (masksA many a l)) := by
  refine enter Tryd.func62 rfl Tryd.ntmps62 (by kernel_rfl) (Nat.le_of_ble_eq_true rfl) fun w0 X0 hI => ?_
  refine at_seq ?_
  refine at_region ?_
  refine s1 (y_p rfl) rfl <| s1 (y_p rfl) rfl <| s1 ((y_p rfl).v (v' := .i .i64 0) rfl) rfl <| ?_
  refine at_nil ?_
  refine x_tn ?_
  refine at_seq ?_
  refine at_seq ?_
  rcases tfV (V6.sized many l.length) with hcs | hcs
  · skip
    refine at_region ?_
    refine s1 (y_p rfl) rfl <| s1 (y_p rfl) rfl <| ?_
    refine at_op rfl (n_call false rfl (.cons (.pure pu) (.cons (.pure pu) (.nil))) (Con.cast (vsized_ok many l) (congrArg A.b hcs)) pu (.inl rfl) rfl ?_)
    refine s1 (y_p rfl) rfl <| ?_
    refine at_nil ?_
    refine x_tn ?_
    refine at_then rfl ?_
    refine at_seq ?_
    refine at_region ?_
    refine s1 (y_p rfl) rfl <| s1 (y_p rfl) rfl <| s1 ((y_p rfl).v (v' := .i .i64 360) rfl) rfl <| ?_
    refine at_nil ?_
    refine x_tn ?_
    refine at_ret ?_
    refine x_tr ?_
    refine at_result (rs := [.tmp 6, .tmp 7, .tmp 8]) rfl (r_tmp rfl (r_tmp rfl (r_tmp rfl r_nil))) ?_
    exact (masksA_no hcs).symm
  · obtain ⟨m, rfl, h1, h2, h3⟩ := V6.sized_spec hcs
    have hsz := hcs
    refine at_region ?_
    refine s1 (y_p rfl) rfl <| s1 (y_p rfl) rfl <| ?_
    refine at_op rfl (n_call false rfl (.cons (.pure pu) (.cons (.pure pu) (.nil))) (Con.cast (vsized_ok m l) (congrArg A.b hcs)) pu (.inl rfl) rfl ?_)
    refine s1 (y_p rfl) rfl <| ?_
    refine at_nil ?_
    refine x_tn ?_
    refine at_else rfl ?_
    refine at_skip ?_
    refine x_tn ?_
    refine at_seq ?_
    refine at_seq ?_
    refine at_region ?_
    refine s1 (y_p rfl) rfl <| s1 (y_p rfl) rfl <| s1 (y_p rfl) rfl <| ?_
    refine g_or 3 rfl rfl rfl rfl (fun hb16 => .step (y_p rfl) rfl rfl <| .step (y_p rfl) rfl rfl <| .step (y_p rfl) rfl rfl <| .done) rfl rfl ?_
    refine at_nil ?_
    refine x_tn ?_
    refine at_cond rfl (fun hc20 => ?_) (fun hc20 => ?_)
    · have h20 : ¬ (0 ≤ a ∧ a < (m : Int)) := by simp at hc20; omega
      refine at_seq ?_
      refine at_region ?_
      refine s1 (y_p rfl) rfl <| s1 (y_p rfl) rfl <| s1 ((y_p rfl).v (v' := .i .i64 1) rfl) rfl <| ?_
      refine at_nil ?_
      refine x_tn ?_
      refine at_ret ?_
      refine x_tr ?_
      refine at_result (rs := [.tmp 6, .tmp 7, .tmp 8]) rfl (r_tmp rfl (r_tmp rfl (r_tmp rfl r_nil))) ?_
      exact (masksA_arg hsz h20).symm
    · obtain ⟨k, rfl, hk⟩ : ∃ k : Nat, a = (k : Int) ∧ k < m := ⟨a.toNat, by simp at hc20; omega, by simp at hc20; omega⟩
      refine at_skip ?_
      refine x_tn ?_
      refine at_seq ?_
      refine at_region ?_
      refine s1 (y_p rfl) rfl <| s1 (y_p rfl) rfl <| ?_
      refine at_op rfl (n_callO 23 rfl false rfl (.cons (.pure pu) (.cons (.pure pu) (.nil))) (vmaskOf_ok l m h3 h1 h2) pul (.inl rfl) rfl ?_)
      refine at_op rfl (n_alloc 9 rfl ti101 rfl rfl ?_)
      refine at_op rfl (n_store1 ti101 rfl rfl rfl rfl (by first | rfl | omega | (simp; done) | (simp [*]; done) | (simp; omega) | (simp [*]; omega) | (simp [D32.len, -List.length_flatten, *]; done) | (simp [D32.len, -List.length_flatten, *]; omega)) rfl ?_)
      refine at_nil ?_
      refine x_tn ?_
      refine at_seq ?_
      refine at_region ?_
      refine s1 (y_p rfl) rfl <| ?_
      refine at_op rfl (n_callK ⟨[(9, some [.sl 23 1 0 l.length]), (23, some ((V6.cut m l).map u8))]⟩ [(9, [.sl 23 1 0 l.length]), (23, (V6.change (V6.cut m l) k).map u8)] true rfl ⟨⟨rfl, .cons (.ksl rfl) .nil⟩, ⟨rfl, VwL.pure pul⟩, trivial⟩ (.cons (.kp rfl) (.cons (.pure pu) .nil)) (vchange_9_23 (V6.cut m l) l.length k (V6.len_cut m l) (by omega) (by omega)) trivial (.inr trivial) (upd_K2 rfl rfl (KpL_sl rfl) (KpL_pure pul (.inr ful))) rfl ?_)
      refine at_nil ?_
      refine x_tn ?_
      refine at_seq ?_
      refine at_fs ⟨_, [6], []⟩ 5 4 hmix (le_refl rfl) ?_
      refine fs_q 0 [] [] (y_p rfl) rfl rfl ?_
      refine fs_q 1 [] [] (y_p rfl) rfl rfl ?_
      refine fs_callO 28 false 2 [0, 1] [] gy0 rfl (.cons (.pure pu) (.cons (.pure pu) (.nil))) (vmaskOf_ok l m h3 h1 h2) pul (.inl rfl) rfl rfl ?_
      refine fs_q 3 [] [(9, none)] (y_load ti101 rfl rfl rfl) rfl rfl ?_
      refine fs_q 4 [2] [(28, some 2)] (y_p rfl) rfl rfl ?_
      refine fs_end (by kernel_rfl) ?_
      refine s1 (y_p rfl) rfl <| s1 ((y_p rfl).v (v' := .i .i64 0) rfl) rfl <| ?_
      refine at_nil ?_
      refine x_tn ?_
      refine at_ret ?_
      refine at_frz 6 rfl rfl pul (view_eq (by rw [List.length_map, V6.len_cut, Nat.mul_one]) rfl) ?_
      refine at_frz 7 rfl rfl pul (view_eq (by rw [List.length_map, V6.len_change, V6.len_cut, Nat.mul_one]) rfl) ?_
      refine at_result (rs := [.tmp 6, .tmp 7, .tmp 8]) rfl (r_tmp rfl (r_tmp rfl (r_tmp rfl r_nil))) ?_
      show A.tu _ = _
      rw [masksA_yes hsz hk, V6.slV, V6.slV, V6.len_change, V6.len_cut]
set_option linter.unusedSimpArgs false in
set_option linter.unusedVariables false in
set_option maxHeartbeats 1000000 in
set_option maxRecDepth 10000 in
theorem vadd_14 (s : List UInt8) (ls : List (List UInt8)) (hs : s.length = 16) (hls : ∀ q ∈ ls, q.length = 16) (hn : ls.length ≤ 1000) : ConS Tryd.prog 86 [.sl 14 1 0 16, .fz ls.length (ls.map V6.slV)] ⟨[(14, some (s.map u8))]⟩ (RetS (.tu []) [(14, (ls.foldl V6.xorL s).map u8)]) := by
  refine enterS Tryd.func86 rfl Tryd.ntmps86 (by kernel_rfl) (Nat.le_of_ble_eq_true rfl) fun w0 X0 hI => ?_
  refine at_seq ?_
  refine at_region ?_
  refine s1 (y_p rfl) rfl <| s1 (y_len Tryd.underlying28 rfl rfl rfl) rfl <| s1 ((y_p rfl).v (v' := .i .i64 0) rfl) rfl <| ?_
  refine at_nil ?_
  refine x_tn ?_
  refine at_block ?_
  refine at_loop (ι := Nat) (fun j => [(0, .sl 14 1 0 16), (7, .fz ls.length (ls.map V6.slV)), (8, nV ls.length), (9, nV j)]) (fun j => ⟨[(14, some ((V6.foldTo s ls j).map u8))]⟩) (fun j => j ≤ ls.length) (fun j => ls.length - j) ?_ ?_
  · exact at_ex (0) (Nat.zero_le _) [(14, some 14)] hI rfl rfl ⟨⟨_, rfl, .sl rfl (by first | rfl | omega | (simp; done) | (simp [*]; done) | (simp; omega) | (simp [*]; omega) | (simp [D32.len, -List.length_flatten, *]; done) | (simp [D32.len, -List.length_flatten, *]; omega))⟩, ⟨_, rfl, .pure pu⟩, ⟨_, rfl, .pure pu⟩, ⟨_, rfl, .pure pu⟩, trivial⟩ ⟨.inr ⟨_, _, rfl, rfl, .of (by rfl) (.pure pul)⟩, trivial⟩
  rintro j hj
  have hfl : (V6.foldTo s ls j).length = 16 := (V6.len_foldTo (fun b hb => by rw [hs, hls b hb]; exact Nat.le_refl _) j hj).trans hs
  refine at_seq ?_
  refine at_region ?_
  refine s1 (y_p rfl) rfl <| ?_
  refine at_nil ?_
  refine x_tn ?_
  refine at_seq ?_
  refine at_cond rfl (fun hc10 => ?_) (fun hc10 => ?_)
  · have h10 : j < ls.length := by have := of_decide_eq_true hc10; omega
    obtain ⟨q, hq⟩ : ∃ q, ls[j]? = some q := ⟨_, List.getElem?_eq_getElem h10⟩
    have hq16 := hls q (List.mem_of_getElem? hq)
    refine at_skip ?_
    refine x_tn ?_
    refine at_seq ?_
    refine at_block ?_
    refine at_seq ?_
    refine at_region ?_
    refine s1 (y_ixf j Tryd.underlying28 ti66 rfl rfl rfl (by omega) rfl) rfl <| s1 (y_load ti66 rfl rfl (V6.getR hq)) rfl <| s1 (y_p rfl) rfl <| ?_
    refine at_nil ?_
    refine x_tn ?_
    refine at_seq ?_
    refine at_region ?_
    refine s1 (y_p rfl) rfl <| s1 (y_len Tryd.underlying66 rfl rfl rfl) rfl <| s1 ((y_p rfl).v (v' := .i .i64 0) rfl) rfl <| ?_
    refine at_nil ?_
    refine x_tn ?_
    refine at_block ?_
    refine at_loop (ι := Nat) (fun i => [(0, .sl 14 1 0 16), (5, V6.slV q), (7, .fz ls.length (ls.map V6.slV)), (8, nV ls.length), (9, nV j), (13, .sl 14 1 0 16), (14, nV 16), (15, nV i)]) (fun i => ⟨[(14, some ((V6.xorTo (V6.foldTo s ls j) q i).map u8))]⟩) (fun i => i ≤ 16) (fun i => 16 - i) ?_ ?_
    · exact at_ex (0) (Nat.zero_le _) [(14, some 14)] hI rfl rfl ⟨⟨_, rfl, .sl rfl (by first | rfl | omega | (simp; done) | (simp [*]; done) | (simp; omega) | (simp [*]; omega) | (simp [D32.len, -List.length_flatten, *]; done) | (simp [D32.len, -List.length_flatten, *]; omega))⟩, ⟨_, rfl, .pure pu⟩, ⟨_, rfl, .pure pu⟩, ⟨_, rfl, .pure pu⟩, ⟨_, rfl, .pure pu⟩, ⟨_, rfl, .sl rfl (by first | rfl | omega | (simp; done) | (simp [*]; done) | (simp; omega) | (simp [*]; omega) | (simp [D32.len, -List.length_flatten, *]; done) | (simp [D32.len, -List.length_flatten, *]; omega))⟩, ⟨_, rfl, .pure pu⟩, ⟨_, rfl, .pure pu⟩, trivial⟩ ⟨.inr ⟨_, _, rfl, rfl, .of (by rw [V6.xorTo_zero]) (.pure pul)⟩, trivial⟩
    rintro i hi
    have hxl : (V6.xorTo (V6.foldTo s ls j) q i).length = 16 := (V6.len_xorTo (by omega) i (by omega)).trans hfl
    refine at_seq ?_
    refine at_region ?_
    refine s1 (y_p rfl) rfl <| ?_
    refine at_nil ?_
    refine x_tn ?_
    refine at_seq ?_
    refine at_cond rfl (fun hc16 => ?_) (fun hc16 => ?_)
    · have h16 : i < (V6.foldTo s ls j).length := by have := of_decide_eq_true hc16; omega
      refine at_skip ?_
      refine x_tn ?_
      refine at_seq ?_
      refine at_block ?_
      refine at_seq ?_
      refine at_region ?_
      refine s1 (y_p rfl) rfl <| s1 (y_p rfl) rfl <| ?_
      refine at_nil ?_
      refine x_tn ?_
      refine at_draw_tail 10 hmix (by kernel_rfl) ?_
      refine t1 (y_p rfl) rfl <| t1 (y_p rfl) rfl <| t1 (y_ixs i Tryd.underlying66 ti5 rfl rfl rfl rfl (by omega) rfl) rfl <| t1 (y_load ti5 rfl rfl (V6.getX (by omega) h16)) rfl <| t1 (y_p rfl) rfl <| t1 (y_p rfl) rfl <| t1 (y_ixf i Tryd.underlying66 ti5 rfl rfl rfl (by omega) rfl) rfl <| t1 (y_load ti5 rfl rfl (V6.getF (by omega))) rfl <| t1 (xorB _ _ rfl rfl) rfl <| t1 (y_ixs i Tryd.underlying66 ti5 rfl rfl rfl rfl (by omega) rfl) rfl <| ?_
      refine at_snil ?_
      refine at_op rfl (n_store1 ti5 rfl rfl rfl rfl (by rw [List.length_map]; omega) rfl ?_)
      refine at_nil ?_
      refine x_bn ?_
      refine x_tn ?_
      refine at_region ?_
      refine s1 (addN _ 1 rfl rfl rfl rfl (by omega)) rfl <| s1 (y_p rfl) rfl <| ?_
      refine at_nil ?_
      exact at_end (i + 1) (by omega) (by omega) [(14, some 14)] hI rfl rfl ⟨⟨_, rfl, .sl rfl (by first | rfl | omega | (simp; done) | (simp [*]; done) | (simp; omega) | (simp [*]; omega) | (simp [D32.len, -List.length_flatten, *]; done) | (simp [D32.len, -List.length_flatten, *]; omega))⟩, ⟨_, rfl, .pure pu⟩, ⟨_, rfl, .pure pu⟩, ⟨_, rfl, .pure pu⟩, ⟨_, rfl, .pure pu⟩, ⟨_, rfl, .sl rfl (by first | rfl | omega | (simp; done) | (simp [*]; done) | (simp; omega) | (simp [*]; omega) | (simp [D32.len, -List.length_flatten, *]; done) | (simp [D32.len, -List.length_flatten, *]; omega))⟩, ⟨_, rfl, .pure pu⟩, ⟨_, rfl, .pure pu⟩, trivial⟩ ⟨.inr ⟨_, _, rfl, rfl, .of (V6.xorToC (by omega) h16) (.pure pul)⟩, trivial⟩
    · have h16 : i = 16 := by have := of_decide_eq_false hc16; omega
      subst h16
      refine at_exit ?_
      refine x_te ?_
      refine x_te ?_
      refine x_be ?_
      refine x_bn ?_
      refine x_tn ?_
      refine at_region ?_
      refine s1 (addN _ 1 rfl rfl rfl rfl (by omega)) rfl <| s1 (y_p rfl) rfl <| ?_
      refine at_nil ?_
      exact at_end (j + 1) (by omega) (by omega) [(14, some 14)] hI rfl rfl ⟨⟨_, rfl, .sl rfl (by first | rfl | omega | (simp; done) | (simp [*]; done) | (simp; omega) | (simp [*]; omega) | (simp [D32.len, -List.length_flatten, *]; done) | (simp [D32.len, -List.length_flatten, *]; omega))⟩, ⟨_, rfl, .pure pu⟩, ⟨_, rfl, .pure pu⟩, ⟨_, rfl, .pure pu⟩, trivial⟩ ⟨.inr ⟨_, _, rfl, rfl, .of (by rw [V6.addTo_16 hs hls hq]) (.pure pul)⟩, trivial⟩
  · have h10 : j = ls.length := by have := of_decide_eq_false hc10; omega
    subst h10
    refine at_exit ?_
    refine x_te ?_
    refine x_te ?_
    refine x_be ?_
    refine at_result' (rs := []) rfl r_nil ?_
    refine retS_1 ?_
    rw [← V6.foldTo_all]; rfl
set_option linter.unusedSimpArgs false in
set_option linter.unusedVariables false in
set_option maxHeartbeats 1000000 in
set_option maxRecDepth 10000 in
theorem vadd_44 (s : List UInt8) (ls : List (List UInt8)) (hs : s.length = 16) (hls : ∀ q ∈ ls, q.length = 16) (hn : ls.length ≤ 1000) : ConS Tryd.prog 86 [.sl 44 1 0 16, .fz ls.length (ls.map V6.slV)] ⟨[(44, some (s.map u8))]⟩ (RetS (.tu []) [(44, (ls.foldl V6.xorL s).map u8)]) := by
  refine enterS Tryd.func86 rfl Tryd.ntmps86 (by kernel_rfl) (Nat.le_of_ble_eq_true rfl) fun w0 X0 hI => ?_
  refine at_seq ?_
  refine at_region ?_
  refine s1 (y_p rfl) rfl <| s1 (y_len Tryd.underlying28 rfl rfl rfl) rfl <| s1 ((y_p rfl).v (v' := .i .i64 0) rfl) rfl <| ?_
  refine at_nil ?_
  refine x_tn ?_
  refine at_block ?_
  refine at_loop (ι := Nat) (fun j => [(0, .sl 44 1 0 16), (7, .fz ls.length (ls.map V6.slV)), (8, nV ls.length), (9, nV j)]) (fun j => ⟨[(44, some ((V6.foldTo s ls j).map u8))]⟩) (fun j => j ≤ ls.length) (fun j => ls.length - j) ?_ ?_
  · exact at_ex (0) (Nat.zero_le _) [(44, some 44)] hI rfl rfl ⟨⟨_, rfl, .sl rfl (by first | rfl | omega | (simp; done) | (simp [*]; done) | (simp; omega) | (simp [*]; omega) | (simp [D32.len, -List.length_flatten, *]; done) | (simp [D32.len, -List.length_flatten, *]; omega))⟩, ⟨_, rfl, .pure pu⟩, ⟨_, rfl, .pure pu⟩, ⟨_, rfl, .pure pu⟩, trivial⟩ ⟨.inr ⟨_, _, rfl, rfl, .of (by rfl) (.pure pul)⟩, trivial⟩
  rintro j hj
  have hfl : (V6.foldTo s ls j).length = 16 := (V6.len_foldTo (fun b hb => by rw [hs, hls b hb]; exact Nat.le_refl _) j hj).trans hs
  refine at_seq ?_
  refine at_region ?_
  refine s1 (y_p rfl) rfl <| ?_
  refine at_nil ?_
  refine x_tn ?_
  refine at_seq ?_
  refine at_cond rfl (fun hc10 => ?_) (fun hc10 => ?_)
  · have h10 : j < ls.length := by have := of_decide_eq_true hc10; omega
    obtain ⟨q, hq⟩ : ∃ q, ls[j]? = some q := ⟨_, List.getElem?_eq_getElem h10⟩
    have hq16 := hls q (List.mem_of_getElem? hq)
    refine at_skip ?_
    refine x_tn ?_
    refine at_seq ?_
    refine at_block ?_
    refine at_seq ?_
    refine at_region ?_
    refine s1 (y_ixf j Tryd.underlying28 ti66 rfl rfl rfl (by omega) rfl) rfl <| s1 (y_load ti66 rfl rfl (V6.getR hq)) rfl <| s1 (y_p rfl) rfl <| ?_
    refine at_nil ?_
    refine x_tn ?_
    refine at_seq ?_
    refine at_region ?_
    refine s1 (y_p rfl) rfl <| s1 (y_len Tryd.underlying66 rfl rfl rfl) rfl <| s1 ((y_p rfl).v (v' := .i .i64 0) rfl) rfl <| ?_
    refine at_nil ?_
    refine x_tn ?_
    refine at_block ?_
    refine at_loop (ι := Nat) (fun i => [(0, .sl 44 1 0 16), (5, V6.slV q), (7, .fz ls.length (ls.map V6.slV)), (8, nV ls.length), (9, nV j), (13, .sl 44 1 0 16), (14, nV 16), (15, nV i)]) (fun i => ⟨[(44, some ((V6.xorTo (V6.foldTo s ls j) q i).map u8))]⟩) (fun i => i ≤ 16) (fun i => 16 - i) ?_ ?_
    · exact at_ex (0) (Nat.zero_le _) [(44, some 44)] hI rfl rfl ⟨⟨_, rfl, .sl rfl (by first | rfl | omega | (simp; done) | (simp [*]; done) | (simp; omega) | (simp [*]; omega) | (simp [D32.len, -List.length_flatten, *]; done) | (simp [D32.len, -List.length_flatten, *]; omega))⟩, ⟨_, rfl, .pure pu⟩, ⟨_, rfl, .pure pu⟩, ⟨_, rfl, .pure pu⟩, ⟨_, rfl, .pure pu⟩, ⟨_, rfl, .sl rfl (by first | rfl | omega | (simp; done) | (simp [*]; done) | (simp; omega) | (simp [*]; omega) | (simp [D32.len, -List.length_flatten, *]; done) | (simp [D32.len, -List.length_flatten, *]; omega))⟩, ⟨_, rfl, .pure pu⟩, ⟨_, rfl, .pure pu⟩, trivial⟩ ⟨.inr ⟨_, _, rfl, rfl, .of (by rw [V6.xorTo_zero]) (.pure pul)⟩, trivial⟩
    rintro i hi
    have hxl : (V6.xorTo (V6.foldTo s ls j) q i).length = 16 := (V6.len_xorTo (by omega) i (by omega)).trans hfl
    refine at_seq ?_
    refine at_region ?_
    refine s1 (y_p rfl) rfl <| ?_
    refine at_nil ?_
    refine x_tn ?_
    refine at_seq ?_
    refine at_cond rfl (fun hc16 => ?_) (fun hc16 => ?_)
    · have h16 : i < (V6.foldTo s ls j).length := by have := of_decide_eq_true hc16; omega
      refine at_skip ?_
      refine x_tn ?_
      refine at_seq ?_
      refine at_block ?_
      refine at_seq ?_
      refine at_region ?_
      refine s1 (y_p rfl) rfl <| s1 (y_p rfl) rfl <| ?_
      refine at_nil ?_
      refine x_tn ?_
      refine at_draw_tail 10 hmix (by kernel_rfl) ?_
      refine t1 (y_p rfl) rfl <| t1 (y_p rfl) rfl <| t1 (y_ixs i Tryd.underlying66 ti5 rfl rfl rfl rfl (by omega) rfl) rfl <| t1 (y_load ti5 rfl rfl (V6.getX (by omega) h16)) rfl <| t1 (y_p rfl) rfl <| t1 (y_p rfl) rfl <| t1 (y_ixf i Tryd.underlying66 ti5 rfl rfl rfl (by omega) rfl) rfl <| t1 (y_load ti5 rfl rfl (V6.getF (by omega))) rfl <| t1 (xorB _ _ rfl rfl) rfl <| t1 (y_ixs i Tryd.underlying66 ti5 rfl rfl rfl rfl (by omega) rfl) rfl <| ?_
      refine at_snil ?_
      refine at_op rfl (n_store1 ti5 rfl rfl rfl rfl (by rw [List.length_map]; omega) rfl ?_)
      refine at_nil ?_
      refine x_bn ?_
      refine x_tn ?_
      refine at_region ?_
      refine s1 (addN _ 1 rfl rfl rfl rfl (by omega)) rfl <| s1 (y_p rfl) rfl <| ?_
      refine at_nil ?_
      exact at_end (i + 1) (by omega) (by omega) [(44, some 44)] hI rfl rfl ⟨⟨_, rfl, .sl rfl (by first | rfl | omega | (simp; done) | (simp [*]; done) | (simp; omega) | (simp [*]; omega) | (simp [D32.len, -List.length_flatten, *]; done) | (simp [D32.len, -List.length_flatten, *]; omega))⟩, ⟨_, rfl, .pure pu⟩, ⟨_, rfl, .pure pu⟩, ⟨_, rfl, .pure pu⟩, ⟨_, rfl, .pure pu⟩, ⟨_, rfl, .sl rfl (by first | rfl | omega | (simp; done) | (simp [*]; done) | (simp; omega) | (simp [*]; omega) | (simp [D32.len, -List.length_flatten, *]; done) | (simp [D32.len, -List.length_flatten, *]; omega))⟩, ⟨_, rfl, .pure pu⟩, ⟨_, rfl, .pure pu⟩, trivial⟩ ⟨.inr ⟨_, _, rfl, rfl, .of (V6.xorToC (by omega) h16) (.pure pul)⟩, trivial⟩
    · have h16 : i = 16 := by have := of_decide_eq_false hc16; omega
      subst h16
      refine at_exit ?_
      refine x_te ?_
      refine x_te ?_
      refine x_be ?_
      refine x_bn ?_
      refine x_tn ?_
      refine at_region ?_
      refine s1 (addN _ 1 rfl rfl rfl rfl (by omega)) rfl <| s1 (y_p rfl) rfl <| ?_
      refine at_nil ?_
      exact at_end (j + 1) (by omega) (by omega) [(44, some 44)] hI rfl rfl ⟨⟨_, rfl, .sl rfl (by first | rfl | omega | (simp; done) | (simp [*]; done) | (simp; omega) | (simp [*]; omega) | (simp [D32.len, -List.length_flatten, *]; done) | (simp [D32.len, -List.length_flatten, *]; omega))⟩, ⟨_, rfl, .pure pu⟩, ⟨_, rfl, .pure pu⟩, ⟨_, rfl, .pure pu⟩, trivial⟩ ⟨.inr ⟨_, _, rfl, rfl, .of (by rw [V6.addTo_16 hs hls hq]) (.pure pul)⟩, trivial⟩
  · have h10 : j = ls.length := by have := of_decide_eq_false hc10; omega
    subst h10
    refine at_exit ?_
    refine x_te ?_
    refine x_te ?_
    refine x_be ?_
    refine at_result' (rs := []) rfl r_nil ?_
    refine retS_1 ?_
    rw [← V6.foldTo_all]; rfl
set_option linter.unusedSimpArgs false in
set_option linter.unusedVariables false in
set_option maxHeartbeats 1000000 in
set_option maxRecDepth 10000 in
theorem vjoin_ok (p q : List UInt8) : Con Tryd.prog 60 [.fz p.length (p.map u8), .fz q.length (q.map u8)] (Ret (joinA p q)) := by
  refine enter Tryd.func60 rfl Tryd.ntmps60 (by kernel_rfl) (Nat.le_of_ble_eq_true rfl) fun w0 X0 hI => ?_
  refine at_seq ?_
  refine at_region ?_
  refine s1 (y_p rfl) rfl <| s1 ((y_p rfl).v (v' := .i .i64 0) rfl) rfl <| ?_
  refine at_nil ?_
  refine x_tn ?_
  refine at_seq ?_
  refine at_seq ?_
  refine at_region ?_
  refine s1 (y_p rfl) rfl <| s1 (y_len Tryd.underlying66 rfl rfl rfl) rfl <| s1 (y_p rfl) rfl <| s1 (y_p rfl) rfl <| ?_
  refine g_or 3 rfl rfl rfl rfl (fun hb9 => .step (y_p rfl) rfl rfl <| .step (y_len Tryd.underlying66 rfl rfl rfl) rfl rfl <| .step (y_p rfl) rfl rfl <| .done) rfl rfl ?_
  refine at_nil ?_
  refine x_tn ?_
  refine at_cond rfl (fun hc13 => ?_) (fun hc13 => ?_)
  · have hcs : ¬ (p.length = 16 ∧ q.length = 16) := by intro h; simp [h.1, h.2] at hc13
    refine at_seq ?_
    refine at_region ?_
    refine s1 (y_p rfl) rfl <| s1 ((y_p rfl).v (v' := .i .i64 360) rfl) rfl <| ?_
    refine at_nil ?_
    refine x_tn ?_
    refine at_ret ?_
    refine x_tr ?_
    refine at_result (rs := [.tmp 4, .tmp 5]) rfl (r_tmp rfl (r_tmp rfl r_nil)) ?_
    exact (joinA_no hcs).symm
  · have hp : p.length = 16 := by simp at hc13; omega
    have hq : q.length = 16 := by simp at hc13; omega
    have hpq : ∀ b ∈ [p, q], b.length = 16 := by simp [hp, hq]
    refine at_skip ?_
    refine x_tn ?_
    refine at_seq ?_
    refine at_region ?_
    refine at_op rfl (n_make 14 rfl 16 16 Tryd.underlying66 ti5 rfl rfl rfl rfl rfl (by first | omega | (simp only [maxLen]; omega) | (simp [maxLen]; done) | (simp [maxLen]; omega) | (simp [maxLen, *]; omega)) (by first | omega | (simp only [maxLen]; omega) | (simp [maxLen]; done) | (simp [maxLen]; omega) | (simp [maxLen, *]; omega)) (by first | omega | (simp only [maxLen]; omega) | (simp [maxLen]; done) | (simp [maxLen]; omega) | (simp [maxLen, *]; omega)) rfl ?_)
    refine s1 (y_p rfl) rfl <| ?_
    refine at_nil ?_
    refine x_tn ?_
    refine at_seq ?_
    refine at_region ?_
    refine s1 (y_p rfl) rfl <| s1 (y_p rfl) rfl <| s1 (y_p rfl) rfl <| ?_
    refine at_op rfl (n_bs1 18 rfl Tryd.underlying28 ti66 rfl rfl rfl rfl rfl ?_)
    refine at_sayO 14 rfl (cs' := V6.zero16.map u8) (by rfl) ?_
    refine at_op rfl (n_callGd ⟨[(14, some ((V6.zero16).map u8))]⟩ [(14, (([p, q]).foldl V6.xorL V6.zero16).map u8)] true rfl ⟨⟨rfl, VwL.pure pul⟩, trivial⟩ (.cons (.ksl rfl) (.cons (.sl rfl rfl rfl rfl (VwL.pure pul) pul) .nil)) (vadd_14 V6.zero16 [p, q] rfl hpq (by simp)) trivial (.inr trivial) (upd_1 (c0 := (V6.zero16).map u8) rfl pul ful) rfl ?_)
    refine at_nil ?_
    refine x_tn ?_
    refine at_seq ?_
    refine at_region ?_
    refine s1 (y_p rfl) rfl <| s1 (y_p rfl) rfl <| s1 ((y_p rfl).v (v' := .i .i64 0) rfl) rfl <| ?_
    refine at_nil ?_
    refine x_tn ?_
    refine at_ret ?_
    refine at_frz 4 rfl rfl pul (view_eq (V6.sum_len hp hq) rfl) ?_
    refine at_result (rs := [.tmp 4, .tmp 5]) rfl (r_tmp rfl (r_tmp rfl r_nil)) ?_
    exact (joinA_yes hp hq).symm
end Go.Abs.D2

/-! V6C -/
namespace Go.Abs.D2
open Go Go.Eng Go.Abs Go.Proofs 
set_option linter.unusedSimpArgs false in
set_option linter.unusedVariables false in
set_option maxHeartbeats 1000000 in
set_option maxRecDepth 10000 in
theorem vequal_ok (p q : List UInt8) (hn : p.length ≤ 1000) : Con Tryd.prog 104 [.fz p.length (p.map u8), .fz q.length (q.map u8)] (Ret (.b (p == q))) := by
  refine enter Tryd.func104 rfl Tryd.ntmps104 (by kernel_rfl) (Nat.le_of_ble_eq_true rfl) fun w0 X0 hI => ?_
  refine at_seq ?_
  refine at_region ?_
  refine s1 (y_p rfl) rfl <| ?_
  refine at_nil ?_
  refine x_tn ?_
  refine at_seq ?_
  refine at_seq ?_
  refine at_region ?_
  refine s1 (y_p rfl) rfl <| s1 (y_len Tryd.underlying101 rfl rfl rfl) rfl <| s1 (y_p rfl) rfl <| s1 (y_len Tryd.underlying101 rfl rfl rfl) rfl <| s1 (y_p rfl) rfl <| ?_
  refine at_nil ?_
  refine x_tn ?_
  refine at_cond rfl (fun hc10 => ?_) (fun hc10 => ?_)
  · have hl : p.length ≠ q.length := by intro h; simp [h] at hc10
    refine at_seq ?_
    refine at_region ?_
    refine s1 (y_p rfl) rfl <| ?_
    refine at_nil ?_
    refine x_tn ?_
    refine at_ret ?_
    refine x_tr ?_
    refine at_result (rs := [.tmp 4]) rfl (r_tmp rfl r_nil) ?_
    exact congrArg A.b (V6.beq_len hl).symm
  · have hl : p.length = q.length := by simp at hc10; omega
    refine at_skip ?_
    refine x_tn ?_
    refine at_seq ?_
    refine at_seq ?_
    refine at_region ?_
    refine s1 (y_p rfl) rfl <| s1 (y_len Tryd.underlying101 rfl rfl rfl) rfl <| s1 ((y_p rfl).v (v' := .i .i64 0) rfl) rfl <| ?_
    refine at_nil ?_
    refine x_tn ?_
    refine at_block ?_
    refine at_loop (ι := Nat) (fun i => [(1, .fz q.length (q.map u8)), (0, .fz p.length (p.map u8)), (11, .fz p.length (p.map u8)), (12, nV p.length), (13, nV i)]) (fun i => ⟨[]⟩) (fun i => i ≤ p.length ∧ p.take i = q.take i) (fun i => p.length - i) ?_ ?_
    · exact at_ex (0) (⟨Nat.zero_le _, rfl⟩) [] hI rfl rfl ⟨⟨_, rfl, .pure pu⟩, ⟨_, rfl, .pure pu⟩, ⟨_, rfl, .pure pu⟩, ⟨_, rfl, .pure pu⟩, ⟨_, rfl, .pure pu⟩, trivial⟩ trivial
    rintro i ⟨hi, hi2⟩
    refine at_seq ?_
    refine at_region ?_
    refine s1 (y_p rfl) rfl <| ?_
    refine at_nil ?_
    refine x_tn ?_
    refine at_seq ?_
    refine at_cond rfl (fun hc14 => ?_) (fun hc14 => ?_)
    · have h14 : i < p.length := by have := of_decide_eq_true hc14; omega
      refine at_skip ?_
      refine x_tn ?_
      refine at_seq ?_
      refine at_block ?_
      refine at_seq ?_
      refine at_region ?_
      refine s1 (y_p rfl) rfl <| s1 (y_p rfl) rfl <| ?_
      refine at_nil ?_
      refine x_tn ?_
      refine at_seq ?_
      refine at_draw_tail 8 hmix (by kernel_rfl) ?_
      refine t1 (y_p rfl) rfl <| t1 (y_p rfl) rfl <| t1 (y_ixf i Tryd.underlying101 ti5 rfl rfl rfl (by omega) rfl) rfl <| t1 (y_load ti5 rfl rfl (V6.getF (by omega))) rfl <| t1 (y_p rfl) rfl <| t1 (y_p rfl) rfl <| t1 (y_ixf i Tryd.underlying101 ti5 rfl rfl rfl (by omega) rfl) rfl <| t1 (y_load ti5 rfl rfl (V6.getF (by omega))) rfl <| ?_
      refine at_snil ?_
      refine s1 (y_p rfl) rfl <| ?_
      refine at_nil ?_
      refine x_tn ?_
      refine at_cond rfl (fun hc24 => ?_) (fun hc24 => ?_)
      · skip
        refine at_seq ?_
        refine at_region ?_
        refine s1 (y_p rfl) rfl <| ?_
        refine at_nil ?_
        refine x_tn ?_
        refine at_ret ?_
        refine x_br ?_
        refine x_tr ?_
        refine x_tr ?_
        refine x_br ?_
        refine x_tr ?_
        refine at_result (rs := [.tmp 4]) rfl (r_tmp rfl r_nil) ?_
        exact congrArg A.b (V6.beq_at hl h14 (by intro e; rw [e] at hc24; simp at hc24)).symm
      · skip
        refine at_skip ?_
        refine x_bn ?_
        refine x_tn ?_
        refine at_region ?_
        refine s1 (addN _ 1 rfl rfl rfl rfl (by omega)) rfl <| s1 (y_p rfl) rfl <| ?_
        refine at_nil ?_
        exact at_end (i + 1) (⟨by omega, V6.take_eq hl h14 hi2 (V6.byteI (by simpa using hc24))⟩) (by omega) [] hI rfl rfl ⟨⟨_, rfl, .pure pu⟩, ⟨_, rfl, .pure pu⟩, ⟨_, rfl, .pure pu⟩, ⟨_, rfl, .pure pu⟩, ⟨_, rfl, .pure pu⟩, trivial⟩ trivial
    · have h14 : i = p.length := by have := of_decide_eq_false hc14; omega
      subst h14
      refine at_exit ?_
      refine x_te ?_
      refine x_te ?_
      refine x_be ?_
      refine x_tn ?_
      refine at_seq ?_
      refine at_region ?_
      refine s1 (y_p rfl) rfl <| ?_
      refine at_nil ?_
      refine x_tn ?_
      refine at_ret ?_
      refine at_result (rs := [.tmp 4]) rfl (r_tmp rfl r_nil) ?_
      exact congrArg A.b (V6.beq_all hl hi2).symm
theorem vequalC_ok (m : Nat) (l : List UInt8) (h : l.length ≤ 1000) : Con Tryd.prog 104 [.fz l.length (l.map u8), .fz l.length ((V6.cut m l).map u8)] (Ret (.b (l == V6.cut m l))) := by
  have := vequal_ok l (V6.cut m l) h
  rwa [V6.len_cut] at this
set_option linter.unusedSimpArgs false in
set_option linter.unusedVariables false in
set_option maxHeartbeats 1000000 in
set_option maxRecDepth 10000 in
theorem vmasked_ok (many : Int) (l : List UInt8) : Con Tryd.prog 93 [.i .i64 many, .fz l.length (l.map u8)] (Ret (.b (V6.masked many l))) := by
  refine enter Tryd.func93 rfl Tryd.ntmps93 (by kernel_rfl) (Nat.le_of_ble_eq_true rfl) fun w0 X0 hI => ?_
  refine at_seq ?_
  refine at_region ?_
  refine s1 (y_p rfl) rfl <| ?_
  refine at_nil ?_
  refine x_tn ?_
  refine at_seq ?_
  rcases tfV (V6.sized many l.length) with hcs | hcs
  · skip
    refine at_region ?_
    refine s1 (y_p rfl) rfl <| s1 (y_p rfl) rfl <| ?_
    refine at_op rfl (n_call false rfl (.cons (.pure pu) (.cons (.pure pu) (.nil))) (Con.cast (vsized_ok many l) (congrArg A.b hcs)) pu (.inl rfl) rfl ?_)
    refine s1 (y_p rfl) rfl <| g0 rfl rfl rfl rfl <| g0 rfl rfl rfl rfl <| g0 rfl rfl rfl rfl <| g0 rfl rfl rfl rfl <| g0 rfl rfl rfl rfl <| s1 (y_p rfl) rfl <| s1 (y_p rfl) rfl <| ?_
    refine at_nil ?_
    refine x_tn ?_
    refine at_ret ?_
    refine at_result (rs := [.tmp 4]) rfl (r_tmp rfl r_nil) ?_
    exact congrArg A.b (V6.masked_no hcs).symm
  · have hsz := hcs
    obtain ⟨m, rfl, h1, h2, h3⟩ := V6.sized_spec hcs
    refine at_region ?_
    refine s1 (y_p rfl) rfl <| s1 (y_p rfl) rfl <| ?_
    refine at_op rfl (n_call false rfl (.cons (.pure pu) (.cons (.pure pu) (.nil))) (Con.cast (vsized_ok m l) (congrArg A.b hcs)) pu (.inl rfl) rfl ?_)
    refine s1 (y_p rfl) rfl <| g1 rfl rfl (y_p rfl) rfl <| g1 rfl rfl (y_p rfl) rfl <| g1 rfl rfl (y_p rfl) rfl <| ?_
    refine at_opg rfl rfl rfl (n_callO 12 rfl false rfl (.cons (.pure pu) (.cons (.pure pu) (.nil))) (vmaskOf_ok l m h3 h1 h2) pul (.inl rfl) rfl ?_)
    refine at_opg rfl rfl rfl (n_call true rfl (.cons (.pure pu) (.cons (.sl rfl rfl rfl (V6.cut_view m l) (VwL.pure pul) pul) .nil)) (vequalC_ok m l (by omega)) pu (.inr fu) rfl ?_)
    refine s1 (y_p rfl) rfl <| s1 (y_p rfl) rfl <| ?_
    refine at_nil ?_
    refine x_tn ?_
    refine at_ret ?_
    refine at_result (rs := [.tmp 4]) rfl (r_tmp rfl r_nil) ?_
    exact congrArg A.b (V6.masked_yes hsz).symm
set_option linter.unusedSimpArgs false in
set_option linter.unusedVariables false in
set_option maxHeartbeats 1000000 in
set_option maxRecDepth 10000 in
theorem vac1_ok (q : List UInt8) : Con Tryd.prog 91 [.fz q.length (q.map u8)] (Ret (.b (no16 q))) := by
  refine enter Tryd.func91 rfl Tryd.ntmps91 (by kernel_rfl) (Nat.le_of_ble_eq_true rfl) fun w0 X0 hI => ?_
  refine at_seq ?_
  refine at_region ?_
  refine s1 (y_p rfl) rfl <| ?_
  refine at_nil ?_
  refine x_tn ?_
  refine at_seq ?_
  refine at_region ?_
  refine s1 (y_p rfl) rfl <| s1 (y_len Tryd.underlying66 rfl rfl rfl) rfl <| s1 (y_p rfl) rfl <| s1 (y_p rfl) rfl <| ?_
  refine at_nil ?_
  refine x_tn ?_
  refine at_ret ?_
  refine at_result (rs := [.tmp 2]) rfl (r_tmp rfl r_nil) ?_
  exact congrArg A.b (V6.no16_b q)
set_option linter.unusedSimpArgs false in
set_option linter.unusedVariables false in
set_option maxHeartbeats 1000000 in
set_option maxRecDepth 10000 in
theorem vac2_ok (db : List (List UInt8)) (q : List UInt8) : Con Tryd.prog 92 [.fz q.length (q.map u8), .fp [.fz db.length (db.map V6.slV)]] (Ret (.b (unmasked db.length q))) := by
  refine enter Tryd.func92 rfl Tryd.ntmps92 (by kernel_rfl) (Nat.le_of_ble_eq_true rfl) fun w0 X0 hI => ?_
  refine at_seq ?_
  refine at_region ?_
  refine s1 (y_p rfl) rfl <| ?_
  refine at_nil ?_
  refine x_tn ?_
  refine at_seq ?_
  refine at_region ?_
  refine s1 (y_load ti28 rfl rfl rfl) rfl <| s1 (y_len Tryd.underlying28 rfl rfl rfl) rfl <| s1 (y_p rfl) rfl <| ?_
  refine at_op rfl (n_call false rfl (.cons (.pure pu) (.cons (.pure pu) (.nil))) (vmasked_ok (db.length : Nat) q) pu (.inl rfl) rfl ?_)
  refine s1 (y_p rfl) rfl <| s1 (y_p rfl) rfl <| ?_
  refine at_nil ?_
  refine x_tn ?_
  refine at_ret ?_
  refine at_result (rs := [.tmp 3]) rfl (r_tmp rfl r_nil) ?_
  rfl
set_option linter.unusedSimpArgs false in
set_option linter.unusedVariables false in
set_option maxHeartbeats 1000000 in
set_option maxRecDepth 10000 in
theorem vindex1_ok (l : List (List UInt8)) (hn : l.length ≤ 2000) : Con Tryd.prog 98 [.fz l.length (l.map V6.slV), .fn (.func 91) [] []] (Ret (.i .i64 (idxE no16 l))) := by
  refine enter Tryd.func98 rfl Tryd.ntmps98 (by kernel_rfl) (Nat.le_of_ble_eq_true rfl) fun w0 X0 hI => ?_
  refine at_seq ?_
  refine at_region ?_
  refine s1 ((y_p rfl).v (v' := .i .i64 0) rfl) rfl <| ?_
  refine at_nil ?_
  refine x_tn ?_
  refine at_seq ?_
  refine at_seq ?_
  refine at_region ?_
  refine s1 (y_p rfl) rfl <| s1 (y_len Tryd.underlying28 rfl rfl rfl) rfl <| s1 ((y_p rfl).v (v' := .i .i64 0) rfl) rfl <| ?_
  refine at_nil ?_
  refine x_tn ?_
  refine at_block ?_
  refine at_loop (ι := Nat) (fun i => [(0, .fz l.length (l.map V6.slV)), (1, .fn (.func 91) [] []), (7, nV l.length), (8, nV i)]) (fun i => ⟨[]⟩) (fun i => i ≤ l.length ∧ (l.take i).any no16 = false) (fun i => l.length - i) ?_ ?_
  · exact at_ex (0) (⟨Nat.zero_le _, rfl⟩) [] hI rfl rfl ⟨⟨_, rfl, .pure pu⟩, ⟨_, rfl, .pure pu⟩, ⟨_, rfl, .pure pu⟩, ⟨_, rfl, .pure pu⟩, trivial⟩ trivial
  rintro i ⟨hi, hi2⟩
  refine at_seq ?_
  refine at_region ?_
  refine s1 (y_p rfl) rfl <| ?_
  refine at_nil ?_
  refine x_tn ?_
  refine at_seq ?_
  refine at_cond rfl (fun hc9 => ?_) (fun hc9 => ?_)
  · have h9 : i < l.length := by have := of_decide_eq_true hc9; omega
    obtain ⟨q, hq⟩ : ∃ q, l[i]? = some q := ⟨_, List.getElem?_eq_getElem h9⟩
    refine at_skip ?_
    refine x_tn ?_
    refine at_seq ?_
    refine at_block ?_
    refine at_seq ?_
    refine at_region ?_
    refine s1 (y_p rfl) rfl <| s1 (y_p rfl) rfl <| ?_
    refine at_nil ?_
    refine x_tn ?_
    refine at_seq ?_
    refine at_region ?_
    refine s1 (y_p rfl) rfl <| s1 (y_p rfl) rfl <| s1 (y_p rfl) rfl <| s1 (y_ixf i Tryd.underlying28 ti66 rfl rfl rfl (by omega) rfl) rfl <| s1 (y_load ti66 rfl rfl (V6.getR hq)) rfl <| ?_
    refine at_op rfl (n_callv false rfl rfl (.cons (.pure pu) .nil) (vac1_ok q) pu (.inl rfl) rfl ?_)
    refine at_nil ?_
    refine x_tn ?_
    refine at_cond rfl (fun hc16 => ?_) (fun hc16 => ?_)
    · skip
      refine at_seq ?_
      refine at_region ?_
      refine s1 (y_p rfl) rfl <| s1 (y_p rfl) rfl <| ?_
      refine at_nil ?_
      refine x_tn ?_
      refine at_ret ?_
      refine x_br ?_
      refine x_tr ?_
      refine x_tr ?_
      refine x_br ?_
      refine x_tr ?_
      refine at_result (rs := [.tmp 4]) rfl (r_tmp rfl r_nil) ?_
      exact congrArg (A.i .i64) (idxE_at hq hi2 hc16).symm
    · skip
      refine at_skip ?_
      refine x_bn ?_
      refine x_tn ?_
      refine at_region ?_
      refine s1 (addN _ 1 rfl rfl rfl rfl (by omega)) rfl <| s1 (y_p rfl) rfl <| ?_
      refine at_nil ?_
      exact at_end (i + 1) (⟨by omega, take_any hq hi2 hc16⟩) (by omega) [] hI rfl rfl ⟨⟨_, rfl, .pure pu⟩, ⟨_, rfl, .pure pu⟩, ⟨_, rfl, .pure pu⟩, ⟨_, rfl, .pure pu⟩, trivial⟩ trivial
  · have h9 : i = l.length := by have := of_decide_eq_false hc9; omega
    subst h9
    refine at_exit ?_
    refine x_te ?_
    refine x_te ?_
    refine x_be ?_
    refine x_tn ?_
    refine at_seq ?_
    refine at_region ?_
    refine s1 ((y_p rfl).v (v' := .i .i64 (-1)) rfl) rfl <| ?_
    refine at_nil ?_
    refine x_tn ?_
    refine at_ret ?_
    refine at_result (rs := [.tmp 4]) rfl (r_tmp rfl r_nil) ?_
    exact congrArg (A.i .i64) (idxE_none hi2).symm
set_option linter.unusedSimpArgs false in
set_option linter.unusedVariables false in
set_option maxHeartbeats 1000000 in
set_option maxRecDepth 10000 in
theorem vcontains1_ok (l : List (List UInt8)) (hn : l.length ≤ 2000) : Con Tryd.prog 80 [.fz l.length (l.map V6.slV), .fn (.func 91) [] []] (Ret (.b (l.any no16))) := by
  refine enter Tryd.func80 rfl Tryd.ntmps80 (by kernel_rfl) (Nat.le_of_ble_eq_true rfl) fun w0 X0 hI => ?_
  refine at_seq ?_
  refine at_region ?_
  refine s1 (y_p rfl) rfl <| ?_
  refine at_nil ?_
  refine x_tn ?_
  refine at_seq ?_
  refine at_region ?_
  refine s1 (y_p rfl) rfl <| s1 (y_p rfl) rfl <| ?_
  refine at_op rfl (n_call false rfl (.cons (.pure pu) (.cons (.pure pu) .nil)) (vindex1_ok l hn) pu (.inl rfl) rfl ?_)
  refine s1 (y_p rfl) rfl <| s1 (y_p rfl) rfl <| ?_
  refine at_nil ?_
  refine x_tn ?_
  refine at_ret ?_
  refine at_result (rs := [.tmp 4]) rfl (r_tmp rfl r_nil) ?_
  exact congrArg A.b (idxE_ge ..)
set_option linter.unusedSimpArgs false in
set_option linter.unusedVariables false in
set_option maxHeartbeats 1000000 in
set_option maxRecDepth 10000 in
theorem vindex2_ok (db : List (List UInt8)) (l : List (List UInt8)) (hn : l.length ≤ 2000) : Con Tryd.prog 98 [.fz l.length (l.map V6.slV), .fn (.func 92) [] [.fp [.fz db.length (db.map V6.slV)]]] (Ret (.i .i64 (idxE (unmasked db.length) l))) := by
  refine enter Tryd.func98 rfl Tryd.ntmps98 (by kernel_rfl) (Nat.le_of_ble_eq_true rfl) fun w0 X0 hI => ?_
  refine at_seq ?_
  refine at_region ?_
  refine s1 ((y_p rfl).v (v' := .i .i64 0) rfl) rfl <| ?_
  refine at_nil ?_
  refine x_tn ?_
  refine at_seq ?_
  refine at_seq ?_
  refine at_region ?_
  refine s1 (y_p rfl) rfl <| s1 (y_len Tryd.underlying28 rfl rfl rfl) rfl <| s1 ((y_p rfl).v (v' := .i .i64 0) rfl) rfl <| ?_
  refine at_nil ?_
  refine x_tn ?_
  refine at_block ?_
  refine at_loop (ι := Nat) (fun i => [(0, .fz l.length (l.map V6.slV)), (1, .fn (.func 92) [] [.fp [.fz db.length (db.map V6.slV)]]), (7, nV l.length), (8, nV i)]) (fun i => ⟨[]⟩) (fun i => i ≤ l.length ∧ (l.take i).any (unmasked db.length) = false) (fun i => l.length - i) ?_ ?_
  · exact at_ex (0) (⟨Nat.zero_le _, rfl⟩) [] hI rfl rfl ⟨⟨_, rfl, .pure pu⟩, ⟨_, rfl, .pure pu⟩, ⟨_, rfl, .pure pu⟩, ⟨_, rfl, .pure pu⟩, trivial⟩ trivial
  rintro i ⟨hi, hi2⟩
  refine at_seq ?_
  refine at_region ?_
  refine s1 (y_p rfl) rfl <| ?_
  refine at_nil ?_
  refine x_tn ?_
  refine at_seq ?_
  refine at_cond rfl (fun hc9 => ?_) (fun hc9 => ?_)
  · have h9 : i < l.length := by have := of_decide_eq_true hc9; omega
    obtain ⟨q, hq⟩ : ∃ q, l[i]? = some q := ⟨_, List.getElem?_eq_getElem h9⟩
    refine at_skip ?_
    refine x_tn ?_
    refine at_seq ?_
    refine at_block ?_
    refine at_seq ?_
    refine at_region ?_
    refine s1 (y_p rfl) rfl <| s1 (y_p rfl) rfl <| ?_
    refine at_nil ?_
    refine x_tn ?_
    refine at_seq ?_
    refine at_region ?_
    refine s1 (y_p rfl) rfl <| s1 (y_p rfl) rfl <| s1 (y_p rfl) rfl <| s1 (y_ixf i Tryd.underlying28 ti66 rfl rfl rfl (by omega) rfl) rfl <| s1 (y_load ti66 rfl rfl (V6.getR hq)) rfl <| ?_
    refine at_op rfl (n_callv false rfl rfl (.cons (.pure pu) (.cons (.pure pu) .nil)) (vac2_ok db q) pu (.inl rfl) rfl ?_)
    refine at_nil ?_
    refine x_tn ?_
    refine at_cond rfl (fun hc16 => ?_) (fun hc16 => ?_)
    · skip
      refine at_seq ?_
      refine at_region ?_
      refine s1 (y_p rfl) rfl <| s1 (y_p rfl) rfl <| ?_
      refine at_nil ?_
      refine x_tn ?_
      refine at_ret ?_
      refine x_br ?_
      refine x_tr ?_
      refine x_tr ?_
      refine x_br ?_
      refine x_tr ?_
      refine at_result (rs := [.tmp 4]) rfl (r_tmp rfl r_nil) ?_
      exact congrArg (A.i .i64) (idxE_at hq hi2 hc16).symm
    · skip
      refine at_skip ?_
      refine x_bn ?_
      refine x_tn ?_
      refine at_region ?_
      refine s1 (addN _ 1 rfl rfl rfl rfl (by omega)) rfl <| s1 (y_p rfl) rfl <| ?_
      refine at_nil ?_
      exact at_end (i + 1) (⟨by omega, take_any hq hi2 hc16⟩) (by omega) [] hI rfl rfl ⟨⟨_, rfl, .pure pu⟩, ⟨_, rfl, .pure pu⟩, ⟨_, rfl, .pure pu⟩, ⟨_, rfl, .pure pu⟩, trivial⟩ trivial
  · have h9 : i = l.length := by have := of_decide_eq_false hc9; omega
    subst h9
    refine at_exit ?_
    refine x_te ?_
    refine x_te ?_
    refine x_be ?_
    refine x_tn ?_
    refine at_seq ?_
    refine at_region ?_
    refine s1 ((y_p rfl).v (v' := .i .i64 (-1)) rfl) rfl <| ?_
    refine at_nil ?_
    refine x_tn ?_
    refine at_ret ?_
    refine at_result (rs := [.tmp 4]) rfl (r_tmp rfl r_nil) ?_
    exact congrArg (A.i .i64) (idxE_none hi2).symm
set_option linter.unusedSimpArgs false in
set_option linter.unusedVariables false in
set_option maxHeartbeats 1000000 in
set_option maxRecDepth 10000 in
theorem vcontains2_ok (db : List (List UInt8)) (l : List (List UInt8)) (hn : l.length ≤ 2000) : Con Tryd.prog 80 [.fz l.length (l.map V6.slV), .fn (.func 92) [] [.fp [.fz db.length (db.map V6.slV)]]] (Ret (.b (l.any (unmasked db.length)))) := by
  refine enter Tryd.func80 rfl Tryd.ntmps80 (by kernel_rfl) (Nat.le_of_ble_eq_true rfl) fun w0 X0 hI => ?_
  refine at_seq ?_
  refine at_region ?_
  refine s1 (y_p rfl) rfl <| ?_
  refine at_nil ?_
  refine x_tn ?_
  refine at_seq ?_
  refine at_region ?_
  refine s1 (y_p rfl) rfl <| s1 (y_p rfl) rfl <| ?_
  refine at_op rfl (n_call false rfl (.cons (.pure pu) (.cons (.pure pu) .nil)) (vindex2_ok db l hn) pu (.inl rfl) rfl ?_)
  refine s1 (y_p rfl) rfl <| s1 (y_p rfl) rfl <| ?_
  refine at_nil ?_
  refine x_tn ?_
  refine at_ret ?_
  refine at_result (rs := [.tmp 4]) rfl (r_tmp rfl r_nil) ?_
  exact congrArg A.b (idxE_ge ..)
set_option linter.unusedSimpArgs false in
set_option linter.unusedVariables false in
set_option maxHeartbeats 1000000 in
set_option maxRecDepth 10000 in
theorem vanswer_ok (db ms : List (List UInt8)) : Con Tryd.prog 73 [.fz db.length (db.map V6.slV), .ag [.fz ms.length (ms.map V6.slV)]] (Ret (answersA db ms)) := by
  refine enter Tryd.func73 rfl Tryd.ntmps73 (by kernel_rfl) (Nat.le_of_ble_eq_true rfl) fun w0 X0 hI => ?_
  refine at_seq ?_
  refine at_region ?_
  refine at_op rfl (n_box1 2 rfl rfl rfl rfl ?_)
  refine at_op rfl (n_boxA 3 rfl rfl rfl ?_)
  refine at_op rfl (n_alloc 4 rfl ti43 rfl rfl ?_)
  refine s1 ((y_p rfl).v (v' := .i .i64 0) rfl) rfl <| ?_
  refine at_nil ?_
  refine x_tn ?_
  refine at_seq ?_
  refine at_seq ?_
  refine at_frzP 2 rfl rfl pul ?_
  refine at_frzP 3 rfl rfl pul ?_
  refine at_region ?_
  refine s1 (y_load ti28 rfl rfl rfl) rfl <| s1 (y_len Tryd.underlying28 rfl rfl rfl) rfl <| s1 (y_p rfl) rfl <| s1 (y_p rfl) rfl <| ?_
  refine g_or 3 rfl rfl rfl rfl (fun hb15 => .step (y_load ti28 rfl rfl rfl) rfl rfl <| .step (y_len Tryd.underlying28 rfl rfl rfl) rfl rfl <| .step (y_p rfl) rfl rfl <| .done) rfl rfl ?_
  refine s1 (y_p rfl) rfl <| ?_
  refine g_or 4 rfl rfl rfl rfl (fun hb20 => .step (y_fldf Tryd.underlying46 rfl ti28 (by decide) rfl rfl) rfl rfl <| .step (y_load ti28 rfl rfl rfl) rfl rfl <| .step (y_len Tryd.underlying28 rfl rfl rfl) rfl rfl <| .step (y_p rfl) rfl rfl <| .done) rfl rfl ?_
  refine at_nil ?_
  refine x_tn ?_
  refine at_cond rfl (fun hc25 => ?_) (fun hc25 => ?_)
  · have h25 : ¬ (1 ≤ db.length ∧ db.length ≤ 1024 ∧ ms.length ≤ 132) := by simp at hc25; omega
    refine at_seq ?_
    refine at_region ?_
    refine s1 (y_loadA0 ti43 rfl rfl (by first | rfl | omega | (simp; done) | (simp [*]; done) | (simp; omega) | (simp [*]; omega) | (simp [D32.len, -List.length_flatten, *]; done) | (simp [D32.len, -List.length_flatten, *]; omega))) rfl <| ?_
    refine at_op rfl (n_storeA ti43 rfl rfl rfl (by first | rfl | omega | (simp; done) | (simp [*]; done) | (simp; omega) | (simp [*]; omega) | (simp [D32.len, -List.length_flatten, *]; done) | (simp [D32.len, -List.length_flatten, *]; omega)) (by first | rfl | omega | (simp; done) | (simp [*]; done) | (simp; omega) | (simp [*]; omega) | (simp [D32.len, -List.length_flatten, *]; done) | (simp [D32.len, -List.length_flatten, *]; omega)) ?_)
    refine s1 ((y_p rfl).v (v' := .i .i64 360) rfl) rfl <| ?_
    refine at_nil ?_
    refine x_tn ?_
    refine at_ret ?_
    refine x_tr ?_
    refine at_result (rs := [.cell 4 43, .tmp 5]) rfl (r_cellA ti43 rfl rfl rfl rfl (r_tmp rfl r_nil)) ?_
    exact (answersA_no (ansOk_len h25)).symm
  · have h25 : 1 ≤ db.length ∧ db.length ≤ 1024 ∧ ms.length ≤ 132 := by simp at hc25; omega
    refine at_skip ?_
    refine x_tn ?_
    refine at_seq ?_
    refine at_seq ?_
    rcases (tfV (db.any no16)).symm with hcs | hcs
    · skip
      refine at_region ?_
      refine s1 (y_load ti28 rfl rfl rfl) rfl <| ?_
      refine at_op rfl (n_call false rfl (.cons (.pure pu) (.cons (.pure pu) .nil)) (Con.cast (vcontains1_ok db (by omega)) (congrArg A.b hcs)) pu (.inl rfl) rfl ?_)
      refine s1 (y_p rfl) rfl <| g0 rfl rfl rfl rfl <| g0 rfl rfl rfl rfl <| g0 rfl rfl rfl rfl <| g0 rfl rfl rfl rfl <| s1 (y_p rfl) rfl <| ?_
      refine at_nil ?_
      refine x_tn ?_
      refine at_then rfl ?_
      refine at_seq ?_
      refine at_region ?_
      refine s1 (y_loadA0 ti43 rfl rfl (by first | rfl | omega | (simp; done) | (simp [*]; done) | (simp; omega) | (simp [*]; omega) | (simp [D32.len, -List.length_flatten, *]; done) | (simp [D32.len, -List.length_flatten, *]; omega))) rfl <| ?_
      refine at_op rfl (n_storeA ti43 rfl rfl rfl (by first | rfl | omega | (simp; done) | (simp [*]; done) | (simp; omega) | (simp [*]; omega) | (simp [D32.len, -List.length_flatten, *]; done) | (simp [D32.len, -List.length_flatten, *]; omega)) (by first | rfl | omega | (simp; done) | (simp [*]; done) | (simp; omega) | (simp [*]; omega) | (simp [D32.len, -List.length_flatten, *]; done) | (simp [D32.len, -List.length_flatten, *]; omega)) ?_)
      refine s1 ((y_p rfl).v (v' := .i .i64 360) rfl) rfl <| ?_
      refine at_nil ?_
      refine x_tn ?_
      refine at_ret ?_
      refine x_tr ?_
      refine at_result (rs := [.cell 4 43, .tmp 5]) rfl (r_cellA ti43 rfl rfl rfl rfl (r_tmp rfl r_nil)) ?_
      exact (answersA_no (ansOk_db hcs)).symm
    · have hd1 := hcs
      refine at_region ?_
      refine s1 (y_load ti28 rfl rfl rfl) rfl <| ?_
      refine at_op rfl (n_call false rfl (.cons (.pure pu) (.cons (.pure pu) .nil)) (Con.cast (vcontains1_ok db (by omega)) (congrArg A.b hcs)) pu (.inl rfl) rfl ?_)
      refine s1 (y_p rfl) rfl <| g1 rfl rfl (y_fldf Tryd.underlying46 rfl ti28 (by decide) rfl rfl) rfl <| g1 rfl rfl (y_load ti28 rfl rfl rfl) rfl <| g1 rfl rfl (y_func (us := []) (vs := [.fp [.fz db.length (db.map V6.slV)]]) rfl rfl) rfl <| ?_
      refine at_opg rfl rfl rfl (n_call false rfl (.cons (.pure pu) (.cons (.pure pu) .nil)) (vcontains2_ok db ms (by omega)) pu (.inl rfl) rfl ?_)
      refine s1 (y_p rfl) rfl <| ?_
      refine at_nil ?_
      refine x_tn ?_
      refine at_cond rfl (fun hc34 => ?_) (fun hc34 => ?_)
      · skip
        refine at_seq ?_
        refine at_region ?_
        refine s1 (y_loadA0 ti43 rfl rfl (by first | rfl | omega | (simp; done) | (simp [*]; done) | (simp; omega) | (simp [*]; omega) | (simp [D32.len, -List.length_flatten, *]; done) | (simp [D32.len, -List.length_flatten, *]; omega))) rfl <| ?_
        refine at_op rfl (n_storeA ti43 rfl rfl rfl (by first | rfl | omega | (simp; done) | (simp [*]; done) | (simp; omega) | (simp [*]; omega) | (simp [D32.len, -List.length_flatten, *]; done) | (simp [D32.len, -List.length_flatten, *]; omega)) (by first | rfl | omega | (simp; done) | (simp [*]; done) | (simp; omega) | (simp [*]; omega) | (simp [D32.len, -List.length_flatten, *]; done) | (simp [D32.len, -List.length_flatten, *]; omega)) ?_)
        refine s1 ((y_p rfl).v (v' := .i .i64 360) rfl) rfl <| ?_
        refine at_nil ?_
        refine x_tn ?_
        refine at_ret ?_
        refine x_tr ?_
        refine at_result (rs := [.cell 4 43, .tmp 5]) rfl (r_cellA ti43 rfl rfl rfl rfl (r_tmp rfl r_nil)) ?_
        exact (answersA_no (ansOk_ms hc34)).symm
      · have hok := ansOk_yes h25 hd1 hc34
        obtain ⟨hdb, hms⟩ := ansOk_spec hok
        refine at_skip ?_
        refine x_tn ?_
        refine at_seq ?_
        refine at_seq ?_
        refine at_region ?_
        refine s1 (y_fldf Tryd.underlying46 rfl ti28 (by decide) rfl rfl) rfl <| s1 (y_load ti28 rfl rfl rfl) rfl <| s1 (y_len Tryd.underlying28 rfl rfl rfl) rfl <| s1 ((y_p rfl).v (v' := .i .i64 0) rfl) rfl <| ?_
        refine at_nil ?_
        refine x_tn ?_
        refine at_block ?_
        refine at_loop (ι := Nat) (fun j => [(2, .fp [.fz db.length (db.map V6.slV)]), (4, .p 4 0), (37, .fz ms.length (ms.map V6.slV)), (38, nV ms.length), (39, nV j)]) (fun j => ⟨[(4, some ([.sl 167 1 0 j])), (167, some (((ms.take j).map (V6.answer db)).map V6.slV))]⟩) (fun j => j ≤ ms.length) (fun j => ms.length - j) ?_ ?_
        · exact at_ex (0) (Nat.zero_le _) [(4, some 4), (167, none)] hI rfl rfl ⟨⟨_, rfl, .pure pu⟩, ⟨_, rfl, .p rfl⟩, ⟨_, rfl, .pure pu⟩, ⟨_, rfl, .pure pu⟩, ⟨_, rfl, .pure pu⟩, trivial⟩ ⟨.inr ⟨_, _, rfl, rfl, .cons (.nl rfl) .nil⟩, .inl ⟨rfl, rfl⟩, trivial⟩
        rintro j hj
        refine at_seq ?_
        refine at_region ?_
        refine s1 (y_p rfl) rfl <| ?_
        refine at_nil ?_
        refine x_tn ?_
        refine at_seq ?_
        refine at_cond rfl (fun hc40 => ?_) (fun hc40 => ?_)
        · have h40 : j < ms.length := by have := of_decide_eq_true hc40; omega
          obtain ⟨q, hq⟩ : ∃ q, ms[j]? = some q := ⟨_, List.getElem?_eq_getElem h40⟩
          have hqm := hms q (List.mem_of_getElem? hq)
          have hql := V6.masked_len hqm
          refine at_skip ?_
          refine x_tn ?_
          refine at_seq ?_
          refine at_block ?_
          refine at_seq ?_
          refine at_region ?_
          refine s1 (y_ixf j Tryd.underlying28 ti66 rfl rfl rfl (by omega) rfl) rfl <| s1 (y_load ti66 rfl rfl (V6.getR hq)) rfl <| s1 (y_p rfl) rfl <| ?_
          refine at_nil ?_
          refine x_tn ?_
          refine at_seq ?_
          refine at_region ?_
          refine s1 (y_p rfl) rfl <| ?_
          refine at_op rfl (n_alloc 8 rfl ti101 rfl rfl ?_)
          refine at_op rfl (n_store1 ti101 rfl rfl rfl rfl (by first | rfl | omega | (simp; done) | (simp [*]; done) | (simp; omega) | (simp [*]; omega) | (simp [D32.len, -List.length_flatten, *]; done) | (simp [D32.len, -List.length_flatten, *]; omega)) rfl ?_)
          refine at_nil ?_
          refine x_tn ?_
          refine at_seq ?_
          refine at_sayO 8 rfl (cs' := [V6.slV q]) rfl ?_
          refine at_frzP 8 rfl rfl pul ?_
          refine at_region ?_
          refine at_op rfl (n_make 44 rfl 16 16 Tryd.underlying66 ti5 rfl rfl rfl rfl rfl (by first | omega | (simp only [maxLen]; omega) | (simp [maxLen]; done) | (simp [maxLen]; omega) | (simp [maxLen, *]; omega)) (by first | omega | (simp only [maxLen]; omega) | (simp [maxLen]; done) | (simp [maxLen]; omega) | (simp [maxLen, *]; omega)) (by first | omega | (simp only [maxLen]; omega) | (simp [maxLen]; done) | (simp [maxLen]; omega) | (simp [maxLen, *]; omega)) rfl ?_)
          refine s1 (y_func (us := [.fp [V6.slV q]]) (vs := []) rfl rfl) rfl <| s1 (y_p rfl) rfl <| s1 (y_p rfl) rfl <| ?_
          refine at_nil ?_
          refine x_tn ?_
          refine at_seq ?_
          refine at_seq ?_
          refine at_region ?_
          refine s1 (y_load ti28 rfl rfl rfl) rfl <| s1 (y_len Tryd.underlying28 rfl rfl rfl) rfl <| s1 ((y_p rfl).v (v' := .i .i64 0) rfl) rfl <| ?_
          refine at_nil ?_
          refine x_tn ?_
          refine at_block ?_
          refine at_loop (ι := Nat) (fun k => [(2, .fp [.fz db.length (db.map V6.slV)]), (4, .p 4 0), (9, .sl 44 1 0 16), (10, .fn (.func 94) [.fp [V6.slV q]] []), (37, .fz ms.length (ms.map V6.slV)), (38, nV ms.length), (39, nV j), (47, nV db.length), (48, nV k)]) (fun k => ⟨[(4, some ([.sl 167 1 0 j])), (167, some (((ms.take j).map (V6.answer db)).map V6.slV)), (44, some ((V6.answerTo db q k).map u8))]⟩) (fun k => k ≤ db.length) (fun k => db.length - k) ?_ ?_
          · exact at_ex (0) (Nat.zero_le _) [(4, some 4), (44, some 44), (167, some 167)] hI rfl rfl ⟨⟨_, rfl, .pure pu⟩, ⟨_, rfl, .p rfl⟩, ⟨_, rfl, .sl rfl (by first | rfl | omega | (simp; done) | (simp [*]; done) | (simp; omega) | (simp [*]; omega) | (simp [D32.len, -List.length_flatten, *]; done) | (simp [D32.len, -List.length_flatten, *]; omega))⟩, ⟨_, rfl, .pure pu⟩, ⟨_, rfl, .pure pu⟩, ⟨_, rfl, .pure pu⟩, ⟨_, rfl, .pure pu⟩, ⟨_, rfl, .pure pu⟩, ⟨_, rfl, .pure pu⟩, trivial⟩ ⟨.inr ⟨_, _, rfl, rfl, .cons (.sl rfl rfl) .nil⟩, .inr ⟨_, _, rfl, rfl, .pure pul⟩, .inr ⟨_, _, rfl, rfl, .of (by rfl) (.pure pul)⟩, trivial⟩
          rintro k hk
          have hs16 := V6.len_answerTo hdb q k hk
          refine at_seq ?_
          refine at_region ?_
          refine s1 (y_p rfl) rfl <| ?_
          refine at_nil ?_
          refine x_tn ?_
          refine at_seq ?_
          refine at_cond rfl (fun hc49 => ?_) (fun hc49 => ?_)
          · have h49 : k < db.length := by have := of_decide_eq_true hc49; omega
            obtain ⟨d, hd⟩ : ∃ d, db[k]? = some d := ⟨_, List.getElem?_eq_getElem h49⟩
            have hd16 := hdb d (List.mem_of_getElem? hd)
            refine at_skip ?_
            refine x_tn ?_
            refine at_seq ?_
            refine at_block ?_
            refine at_seq ?_
            refine at_region ?_
            refine s1 (y_p rfl) rfl <| s1 (y_p rfl) rfl <| ?_
            refine at_nil ?_
            refine x_tn ?_
            refine at_seq ?_
            refine at_region ?_
            refine s1 (y_p rfl) rfl <| s1 (y_p rfl) rfl <| ?_
            refine at_op rfl (n_callv false rfl rfl (.cons (.pure pu) (.cons (.pure pu) .nil)) (vchooses_ok q k (by omega) (by omega)) pu (.inl rfl) rfl ?_)
            refine at_nil ?_
            refine x_tn ?_
            refine at_cond rfl (fun hc53 => ?_) (fun hc53 => ?_)
            · skip
              refine at_region ?_
              refine s1 (y_p rfl) rfl <| s1 (y_load ti28 rfl rfl rfl) rfl <| s1 (y_p rfl) rfl <| s1 (y_ixf k Tryd.underlying28 ti66 rfl rfl rfl (by omega) rfl) rfl <| s1 (y_load ti66 rfl rfl (V6.getR hd)) rfl <| ?_
              refine at_op rfl (n_bs1 59 rfl Tryd.underlying28 ti66 rfl rfl rfl rfl rfl ?_)
              refine at_op rfl (n_callGd ⟨[(44, some ((V6.answerTo db q k).map u8))]⟩ [(44, ([d].foldl V6.xorL (V6.answerTo db q k)).map u8)] true rfl ⟨⟨rfl, VwL.pure pul⟩, trivial⟩ (.cons (.ksl rfl) (.cons (.sl rfl rfl rfl rfl (VwL.pure pul) pul) .nil)) (vadd_44 (V6.answerTo db q k) [d] hs16 (by simpa using hd16) (by simp)) trivial (.inr trivial) (upd_1 (c0 := (V6.answerTo db q k).map u8) rfl pul ful) rfl ?_)
              refine at_nil ?_
              refine x_bn ?_
              refine x_tn ?_
              refine at_region ?_
              refine s1 (addN _ 1 rfl rfl rfl rfl (by omega)) rfl <| s1 (y_p rfl) rfl <| ?_
              refine at_nil ?_
              exact at_end (k + 1) (by omega) (by omega) [(4, some 4), (44, some 44), (167, some 167)] hI rfl rfl ⟨⟨_, rfl, .pure pu⟩, ⟨_, rfl, .p rfl⟩, ⟨_, rfl, .sl rfl (by first | rfl | omega | (simp; done) | (simp [*]; done) | (simp; omega) | (simp [*]; omega) | (simp [D32.len, -List.length_flatten, *]; done) | (simp [D32.len, -List.length_flatten, *]; omega))⟩, ⟨_, rfl, .pure pu⟩, ⟨_, rfl, .pure pu⟩, ⟨_, rfl, .pure pu⟩, ⟨_, rfl, .pure pu⟩, ⟨_, rfl, .pure pu⟩, ⟨_, rfl, .pure pu⟩, trivial⟩ ⟨.inr ⟨_, _, rfl, rfl, .cons (.sl rfl rfl) .nil⟩, .inr ⟨_, _, rfl, rfl, .pure pul⟩, .inr ⟨_, _, rfl, rfl, .of (V6.ans_yes hd hc53) (.pure pul)⟩, trivial⟩
            · skip
              refine at_skip ?_
              refine x_bn ?_
              refine x_tn ?_
              refine at_region ?_
              refine s1 (addN _ 1 rfl rfl rfl rfl (by omega)) rfl <| s1 (y_p rfl) rfl <| ?_
              refine at_nil ?_
              exact at_end (k + 1) (by omega) (by omega) [(4, some 4), (44, some 44), (167, some 167)] hI rfl rfl ⟨⟨_, rfl, .pure pu⟩, ⟨_, rfl, .p rfl⟩, ⟨_, rfl, .sl rfl (by first | rfl | omega | (simp; done) | (simp [*]; done) | (simp; omega) | (simp [*]; omega) | (simp [D32.len, -List.length_flatten, *]; done) | (simp [D32.len, -List.length_flatten, *]; omega))⟩, ⟨_, rfl, .pure pu⟩, ⟨_, rfl, .pure pu⟩, ⟨_, rfl, .pure pu⟩, ⟨_, rfl, .pure pu⟩, ⟨_, rfl, .pure pu⟩, ⟨_, rfl, .pure pu⟩, trivial⟩ ⟨.inr ⟨_, _, rfl, rfl, .cons (.sl rfl rfl) .nil⟩, .inr ⟨_, _, rfl, rfl, .pure pul⟩, .inr ⟨_, _, rfl, rfl, .of (V6.ans_no hc53) (.pure pul)⟩, trivial⟩
          · have h49 : k = db.length := by have := of_decide_eq_false hc49; omega
            subst h49
            refine at_exit ?_
            refine x_te ?_
            refine x_te ?_
            refine x_be ?_
            refine x_tn ?_
            have hs16 := V6.len_answerTo hdb q db.length (Nat.le_refl _)
            refine at_frz 9 rfl rfl pul (view_eq (by rw [List.length_map]; omega) rfl) ?_
            refine at_region ?_
            refine s1 (y_fld Tryd.underlying43 rfl ti28 (by decide) rfl rfl) rfl <| s1 (y_load ti28 rfl rfl rfl) rfl <| s1 ((y_p rfl).v (v' := V6.slV (V6.answer db q)) (answer_fz hdb q)) rfl <| ?_
            refine at_op rfl (n_bs1 65 rfl Tryd.underlying28 ti66 rfl rfl rfl rfl rfl ?_)
            refine at_op rfl (n_app 66 rfl Tryd.underlying28 ti66 rfl (.sl rfl (by rw [List.length_map, List.length_map, List.length_take]; omega)) rfl (SM_full rfl (by first | rfl | omega | (simp; done) | (simp [*]; done) | (simp; omega) | (simp [*]; omega) | (simp [D32.len, -List.length_flatten, *]; done) | (simp [D32.len, -List.length_flatten, *]; omega))) (by simp) (by simp only [maxLen]; omega) (by omega) rfl (V6.rows_next (V6.answer db) hq) rfl ?_)
            refine s1 (y_fld Tryd.underlying43 rfl ti28 (by decide) rfl rfl) rfl <| ?_
            refine at_op rfl (n_store1 ti28 rfl rfl rfl rfl (by first | rfl | omega | (simp; done) | (simp [*]; done) | (simp; omega) | (simp [*]; omega) | (simp [D32.len, -List.length_flatten, *]; done) | (simp [D32.len, -List.length_flatten, *]; omega)) rfl ?_)
            refine at_nil ?_
            refine x_bn ?_
            refine x_tn ?_
            refine at_region ?_
            refine s1 (addN _ 1 rfl rfl rfl rfl (by omega)) rfl <| s1 (y_p rfl) rfl <| ?_
            refine at_nil ?_
            exact at_end (j + 1) (by omega) (by omega) [(4, some 4), (167, some 66)] hI rfl rfl ⟨⟨_, rfl, .pure pu⟩, ⟨_, rfl, .p rfl⟩, ⟨_, rfl, .pure pu⟩, ⟨_, rfl, .pure pu⟩, ⟨_, rfl, .pure pu⟩, trivial⟩ ⟨.inr ⟨_, _, rfl, rfl, .cons (.sl rfl (by first | rfl | omega | (simp; done) | (simp [*]; done) | (simp; omega) | (simp [*]; omega) | (simp [D32.len, -List.length_flatten, *]; done) | (simp [D32.len, -List.length_flatten, *]; omega))) .nil⟩, .inr ⟨_, _, rfl, rfl, .pure pul⟩, trivial⟩
        · have h40 : j = ms.length := by have := of_decide_eq_false hc40; omega
          subst h40
          refine at_exit ?_
          refine x_te ?_
          refine x_te ?_
          refine x_be ?_
          refine x_tn ?_
          refine at_seq ?_
          refine at_frzO 4 0 rfl rfl rfl rfl pul (view_eq (by rw [List.length_map, List.length_map, List.take_length, Nat.mul_one]) rfl) rfl ?_
          refine at_region ?_
          refine s1 (y_loadA0 ti43 rfl rfl (by first | rfl | omega | (simp; done) | (simp [*]; done) | (simp; omega) | (simp [*]; omega) | (simp [D32.len, -List.length_flatten, *]; done) | (simp [D32.len, -List.length_flatten, *]; omega))) rfl <| ?_
          refine at_op rfl (n_storeA ti43 rfl rfl rfl (by first | rfl | omega | (simp; done) | (simp [*]; done) | (simp; omega) | (simp [*]; omega) | (simp [D32.len, -List.length_flatten, *]; done) | (simp [D32.len, -List.length_flatten, *]; omega)) (by first | rfl | omega | (simp; done) | (simp [*]; done) | (simp; omega) | (simp [*]; omega) | (simp [D32.len, -List.length_flatten, *]; done) | (simp [D32.len, -List.length_flatten, *]; omega)) ?_)
          refine s1 ((y_p rfl).v (v' := .i .i64 0) rfl) rfl <| ?_
          refine at_nil ?_
          refine x_tn ?_
          refine at_ret ?_
          refine at_result (rs := [.cell 4 43, .tmp 5]) rfl (r_cellA ti43 rfl rfl rfl rfl (r_tmp rfl r_nil)) ?_
          rw [answersA_yes hok, rowsV, List.length_map, List.take_length]; rfl
end Go.Abs.D2

/-! V6D -/
namespace Go.Abs.D2
open Go Go.Eng Go.Abs Go.Proofs 
set_option linter.unusedSimpArgs false in
set_option linter.unusedVariables false in
set_option maxHeartbeats 1000000 in
set_option maxRecDepth 10000 in
theorem vask_ok (many : Int) (at1 : List Int) (batch : Int) (coins : List (List UInt8)) : Con Tryd.prog 57 [.i .i64 many, .fz at1.length (at1.map (A.i .i64)), .i .i64 batch, .fz coins.length (coins.map V6.slV)] (Ret (askA many at1 batch coins)) := by
  refine enter Tryd.func57 rfl Tryd.ntmps57 (by kernel_rfl) (Nat.le_of_ble_eq_true rfl) fun w0 X0 hI => ?_
  refine at_seq ?_
  refine at_region ?_
  refine at_op rfl (n_alloc 8 rfl ti46 rfl rfl ?_)
  refine at_op rfl (n_alloc 9 rfl ti46 rfl rfl ?_)
  refine s1 ((y_p rfl).v (v' := .i .i64 0) rfl) rfl <| ?_
  refine at_nil ?_
  refine x_tn ?_
  refine at_seq ?_
  refine at_seq ?_
  refine at_region ?_
  refine s1 (y_p rfl) rfl <| s1 (y_p rfl) rfl <| s1 (y_p rfl) rfl <| ?_
  refine g_or 2 rfl rfl rfl rfl (fun hb18 => .step (y_p rfl) rfl rfl <| .step (y_p rfl) rfl rfl <| .done) rfl rfl ?_
  refine s1 (y_p rfl) rfl <| ?_
  refine g_or 4 rfl rfl rfl rfl (fun hb22 => .step (y_p rfl) rfl rfl <| .step (y_len Tryd.underlying25 rfl rfl rfl) rfl rfl <| .step (y_p rfl) rfl rfl <| .step (y_p rfl) rfl rfl <| .done) rfl rfl ?_
  refine s1 (y_p rfl) rfl <| ?_
  refine g_or 4 rfl rfl rfl rfl (fun hb28 => .step (y_p rfl) rfl rfl <| .step (y_len Tryd.underlying28 rfl rfl rfl) rfl rfl <| .step (y_p rfl) rfl rfl <| .step (y_p rfl) rfl rfl <| .done) rfl rfl ?_
  refine at_nil ?_
  refine x_tn ?_
  refine at_cond rfl (fun hc33 => ?_) (fun hc33 => ?_)
  · have h33 : batch < 1 ∨ batch > 132 ∨ (at1.length : Int) > batch ∨ (coins.length : Int) ≠ batch := by simp at hc33; omega
    have hbad := ask_bad (many := many) h33
    refine at_seq ?_
    refine at_fs ⟨_, [], []⟩ 3 4 hmix (le_refl rfl) ?_
    refine fs_q 0 [] [(8, none)] (y_loadA0 ti46 rfl rfl rfl) rfl rfl ?_
    refine fs_q 1 [] [(9, none)] (y_loadA0 ti46 rfl rfl rfl) rfl rfl ?_
    refine fs_stoA 0 2 [0] [(8, none)] rfl gy0 ti46 rfl rfl rfl (by first | rfl | omega | (simp; done) | (simp [*]; done) | (simp; omega) | (simp [*]; omega) | (simp [D32.len, -List.length_flatten, *]; done) | (simp [D32.len, -List.length_flatten, *]; omega)) (by first | rfl | omega | (simp; done) | (simp [*]; done) | (simp; omega) | (simp [*]; omega) | (simp [D32.len, -List.length_flatten, *]; done) | (simp [D32.len, -List.length_flatten, *]; omega)) rfl ?_
    refine fs_end (by kernel_rfl) ?_
    refine at_op rfl (n_storeA ti46 rfl rfl rfl (by first | rfl | omega | (simp; done) | (simp [*]; done) | (simp; omega) | (simp [*]; omega) | (simp [D32.len, -List.length_flatten, *]; done) | (simp [D32.len, -List.length_flatten, *]; omega)) (by first | rfl | omega | (simp; done) | (simp [*]; done) | (simp; omega) | (simp [*]; omega) | (simp [D32.len, -List.length_flatten, *]; done) | (simp [D32.len, -List.length_flatten, *]; omega)) ?_)
    refine s1 ((y_p rfl).v (v' := .i .i64 360) rfl) rfl <| ?_
    refine at_nil ?_
    refine x_tn ?_
    refine at_ret ?_
    refine x_tr ?_
    refine at_result (rs := [.cell 8 46, .cell 9 46, .tmp 10]) rfl (r_cellA ti46 rfl rfl rfl rfl (r_cellA ti46 rfl rfl rfl rfl (r_tmp rfl r_nil))) ?_
    show A.tu _ = _; rw [askA_no (by rw [hbad]; decide), hbad]; rfl
  · have h33 : 1 ≤ coins.length ∧ coins.length ≤ 132 ∧ at1.length ≤ coins.length ∧ batch = (coins.length : Int) := by simp at hc33; omega
    obtain ⟨b1, b2, b3, rfl⟩ := h33
    refine at_skip ?_
    refine x_tn ?_
    refine at_seq ?_
    refine at_seq ?_
    refine at_region ?_
    refine s1 (y_p rfl) rfl <| s1 ((y_p rfl).v (v' := .i .i64 0) rfl) rfl <| ?_
    refine at_nil ?_
    refine x_tn ?_
    refine at_block ?_
    refine at_loop (ι := Nat) (fun k => [(0, .i .i64 many), (1, .fz at1.length (at1.map (A.i .i64))), (3, .fz coins.length (coins.map V6.slV)), (8, .p 8 0), (9, .p 9 0), (36, nV coins.length), (37, nV k)]) (fun k => ⟨[(8, some ([.sl 168 1 0 k])), (168, some ((V6.askTo many at1 coins k).1.map V6.slV)), (9, some ([.sl 174 1 0 k])), (174, some ((V6.askTo many at1 coins k).2.1.map V6.slV))]⟩) (fun k => k ≤ coins.length ∧ (V6.askTo many at1 coins k).2.2 = 0) (fun k => coins.length - k) ?_ ?_
    · exact at_ex (0) (⟨Nat.zero_le _, rfl⟩) [(8, some 8), (9, some 9), (168, none), (174, none)] hI rfl rfl ⟨⟨_, rfl, .pure pu⟩, ⟨_, rfl, .pure pu⟩, ⟨_, rfl, .pure pu⟩, ⟨_, rfl, .p rfl⟩, ⟨_, rfl, .p rfl⟩, ⟨_, rfl, .pure pu⟩, ⟨_, rfl, .pure pu⟩, trivial⟩ ⟨.inr ⟨_, _, rfl, rfl, .cons (.nl rfl) .nil⟩, .inl ⟨rfl, rfl⟩, .inr ⟨_, _, rfl, rfl, .cons (.nl rfl) .nil⟩, .inl ⟨rfl, rfl⟩, trivial⟩
    rintro k ⟨hk, hk0⟩
    obtain ⟨hl1, hl2, _⟩ := V6.askTo_yes k hk0
    refine at_seq ?_
    refine at_region ?_
    refine s1 (y_p rfl) rfl <| ?_
    refine at_nil ?_
    refine x_tn ?_
    refine at_seq ?_
    refine at_cond rfl (fun hc38 => ?_) (fun hc38 => ?_)
    · have h38 : k < coins.length := by have := of_decide_eq_true hc38; omega
      obtain ⟨q, hq⟩ : ∃ q, coins[k]? = some q := ⟨_, List.getElem?_eq_getElem h38⟩
      have hqd : coins.getD k [] = q := by rw [List.getD, hq]; rfl
      refine at_skip ?_
      refine x_tn ?_
      refine at_seq ?_
      refine at_block ?_
      refine at_seq ?_
      refine at_region ?_
      refine s1 (y_p rfl) rfl <| s1 (y_p rfl) rfl <| ?_
      refine at_nil ?_
      refine x_tn ?_
      refine at_seq ?_
      refine at_region ?_
      refine s1 ((y_p rfl).v (v' := .i .i64 0) rfl) rfl <| ?_
      refine at_nil ?_
      refine x_tn ?_
      refine at_seq ?_
      refine at_seq ?_
      refine at_region ?_
      refine s1 (y_p rfl) rfl <| s1 (y_p rfl) rfl <| s1 (y_len Tryd.underlying25 rfl rfl rfl) rfl <| s1 (y_p rfl) rfl <| ?_
      refine at_nil ?_
      refine x_tn ?_
      refine at_cond rfl (fun hc43 => ?_) (fun hc43 => ?_)
      · have h43 : k < at1.length := by have := of_decide_eq_true hc43; omega
        have hw := V6.want_yes h43
        refine at_region ?_
        refine s1 (y_p rfl) rfl <| s1 (y_p rfl) rfl <| s1 (y_ixf k Tryd.underlying25 ti3 rfl rfl rfl (by omega) rfl) rfl <| s1 (y_load ti3 rfl rfl (V6.getI h43)) rfl <| s1 (y_p rfl) rfl <| ?_
        refine at_nil ?_
        refine x_tn ?_
        refine at_seq ?_
        rcases Decidable.em ((V6.masks many (V6.want at1 k) q).2.2 = 0) with hcs | hcs
        · have hz := hcs
          have hnx := V6.askTo_nextW hk0 (by rw [hqd]; exact hz)
          rw [hqd] at hnx
          refine at_region ?_
          refine s1 (y_p rfl) rfl <| s1 ((y_p rfl).v (v' := .i .i64 (V6.want at1 k)) (congrArg (A.i .i64) hw.symm)) rfl <| s1 (y_p rfl) rfl <| s1 (y_p rfl) rfl <| s1 (y_ixf k Tryd.underlying28 ti66 rfl rfl rfl (by omega) rfl) rfl <| s1 (y_load ti66 rfl rfl (V6.getR hq)) rfl <| ?_
          refine at_op rfl (n_call false rfl (.cons (.pure pu) (.cons (.pure pu) (.cons (.pure pu) (.nil)))) (Con.cast (vmasks_ok many (V6.want at1 k) q) (masksA_zero hz)) pu (.inl rfl) rfl ?_)
          refine s1 (y_p rfl) rfl <| s1 (y_p rfl) rfl <| s1 (y_p rfl) rfl <| s1 (y_p rfl) rfl <| s1 (y_p rfl) rfl <| s1 (y_p rfl) rfl <| s1 (y_p rfl) rfl <| ?_
          refine at_nil ?_
          refine x_tn ?_
          refine at_seq ?_
          refine at_seq ?_
          refine at_region ?_
          refine s1 (y_p rfl) rfl <| s1 ((y_p rfl).v (v' := .b false) (rfl)) rfl <| ?_
          refine at_nil ?_
          refine x_tn ?_
          refine at_else rfl ?_
          refine at_skip ?_
          refine x_tn ?_
          refine at_seq ?_
          refine at_region ?_
          refine s1 (y_fld Tryd.underlying46 rfl ti28 (by decide) rfl rfl) rfl <| s1 (y_load ti28 rfl rfl rfl) rfl <| s1 (y_p rfl) rfl <| ?_
          refine at_op rfl (n_bs1 67 rfl Tryd.underlying28 ti66 rfl rfl rfl rfl rfl ?_)
          refine at_op rfl (n_app 68 rfl Tryd.underlying28 ti66 rfl (.sl rfl (by rw [List.length_map]; omega)) rfl (SM_full rfl (by first | rfl | omega | (simp; done) | (simp [*]; done) | (simp; omega) | (simp [*]; omega) | (simp [D32.len, -List.length_flatten, *]; done) | (simp [D32.len, -List.length_flatten, *]; omega))) (by simp) (by simp only [maxLen]; omega) (by omega) rfl (V6.ask_fst hnx) rfl ?_)
          refine s1 (y_fld Tryd.underlying46 rfl ti28 (by decide) rfl rfl) rfl <| ?_
          refine at_op rfl (n_store1 ti28 rfl rfl rfl rfl (by first | rfl | omega | (simp; done) | (simp [*]; done) | (simp; omega) | (simp [*]; omega) | (simp [D32.len, -List.length_flatten, *]; done) | (simp [D32.len, -List.length_flatten, *]; omega)) rfl ?_)
          refine at_nil ?_
          refine x_tn ?_
          refine at_region ?_
          refine s1 (y_fld Tryd.underlying46 rfl ti28 (by decide) rfl rfl) rfl <| s1 (y_load ti28 rfl rfl rfl) rfl <| s1 (y_p rfl) rfl <| ?_
          refine at_op rfl (n_bs1 73 rfl Tryd.underlying28 ti66 rfl rfl rfl rfl rfl ?_)
          refine at_op rfl (n_app 74 rfl Tryd.underlying28 ti66 rfl (.sl rfl (by rw [List.length_map]; omega)) rfl (SM_full rfl (by first | rfl | omega | (simp; done) | (simp [*]; done) | (simp; omega) | (simp [*]; omega) | (simp [D32.len, -List.length_flatten, *]; done) | (simp [D32.len, -List.length_flatten, *]; omega))) (by simp) (by simp only [maxLen]; omega) (by omega) rfl (V6.ask_snd hnx) rfl ?_)
          refine s1 (y_fld Tryd.underlying46 rfl ti28 (by decide) rfl rfl) rfl <| ?_
          refine at_op rfl (n_store1 ti28 rfl rfl rfl rfl (by first | rfl | omega | (simp; done) | (simp [*]; done) | (simp; omega) | (simp [*]; omega) | (simp [D32.len, -List.length_flatten, *]; done) | (simp [D32.len, -List.length_flatten, *]; omega)) rfl ?_)
          refine at_nil ?_
          refine x_bn ?_
          refine x_tn ?_
          refine at_region ?_
          refine s1 (addN _ 1 rfl rfl rfl rfl (by omega)) rfl <| s1 (y_p rfl) rfl <| ?_
          refine at_nil ?_
          exact at_end (k + 1) (⟨by omega, by rw [hnx]⟩) (by omega) [(8, some 8), (9, some 9), (168, some 68), (174, some 74)] hI rfl rfl ⟨⟨_, rfl, .pure pu⟩, ⟨_, rfl, .pure pu⟩, ⟨_, rfl, .pure pu⟩, ⟨_, rfl, .p rfl⟩, ⟨_, rfl, .p rfl⟩, ⟨_, rfl, .pure pu⟩, ⟨_, rfl, .pure pu⟩, trivial⟩ ⟨.inr ⟨_, _, rfl, rfl, .cons (.sl rfl (by first | rfl | omega | (simp; done) | (simp [*]; done) | (simp; omega) | (simp [*]; omega) | (simp [D32.len, -List.length_flatten, *]; done) | (simp [D32.len, -List.length_flatten, *]; omega))) .nil⟩, .inr ⟨_, _, rfl, rfl, .pure pul⟩, .inr ⟨_, _, rfl, rfl, .cons (.sl rfl (by first | rfl | omega | (simp; done) | (simp [*]; done) | (simp; omega) | (simp [*]; omega) | (simp [D32.len, -List.length_flatten, *]; done) | (simp [D32.len, -List.length_flatten, *]; omega))) .nil⟩, .inr ⟨_, _, rfl, rfl, .pure pul⟩, trivial⟩
        · have hz := hcs
          have hbd := V6.ask_errW h38 b1 b2 b3 hk0 (by rw [hqd]; exact hz)
          rw [hqd] at hbd
          refine at_region ?_
          refine s1 (y_p rfl) rfl <| s1 ((y_p rfl).v (v' := .i .i64 (V6.want at1 k)) (congrArg (A.i .i64) hw.symm)) rfl <| s1 (y_p rfl) rfl <| s1 (y_p rfl) rfl <| s1 (y_ixf k Tryd.underlying28 ti66 rfl rfl rfl (by omega) rfl) rfl <| s1 (y_load ti66 rfl rfl (V6.getR hq)) rfl <| ?_
          refine at_op rfl (n_call false rfl (.cons (.pure pu) (.cons (.pure pu) (.cons (.pure pu) (.nil)))) (Con.cast (vmasks_ok many (V6.want at1 k) q) (masksA_err hz)) pu (.inl rfl) rfl ?_)
          refine s1 (y_p rfl) rfl <| s1 (y_p rfl) rfl <| s1 (y_p rfl) rfl <| s1 (y_p rfl) rfl <| s1 (y_p rfl) rfl <| s1 (y_p rfl) rfl <| s1 (y_p rfl) rfl <| ?_
          refine at_nil ?_
          refine x_tn ?_
          refine at_seq ?_
          refine at_seq ?_
          refine at_region ?_
          refine s1 (y_p rfl) rfl <| s1 ((y_p rfl).v (v' := .b true) (congrArg A.b (by simpa using hz))) rfl <| ?_
          refine at_nil ?_
          refine x_tn ?_
          refine at_then rfl ?_
          refine at_seq ?_
          refine at_region ?_
          refine s1 (y_bld (out := [_]) [[evC (.slice none 0 0)]] ti46 rfl Tryd.underlying46 (by kernel_rfl) rfl rfl trivial rfl) rfl <| s1 (y_bld (out := [_]) [[evC (.slice none 0 0)]] ti46 rfl Tryd.underlying46 (by kernel_rfl) rfl rfl trivial rfl) rfl <| s1 (y_p rfl) rfl <| ?_
          refine at_op rfl (n_storeA ti46 rfl rfl rfl (by first | rfl | omega | (simp; done) | (simp [*]; done) | (simp; omega) | (simp [*]; omega) | (simp [D32.len, -List.length_flatten, *]; done) | (simp [D32.len, -List.length_flatten, *]; omega)) (by first | rfl | omega | (simp; done) | (simp [*]; done) | (simp; omega) | (simp [*]; omega) | (simp [D32.len, -List.length_flatten, *]; done) | (simp [D32.len, -List.length_flatten, *]; omega)) ?_)
          refine at_op rfl (n_storeA ti46 rfl rfl rfl (by first | rfl | omega | (simp; done) | (simp [*]; done) | (simp; omega) | (simp [*]; omega) | (simp [D32.len, -List.length_flatten, *]; done) | (simp [D32.len, -List.length_flatten, *]; omega)) (by first | rfl | omega | (simp; done) | (simp [*]; done) | (simp; omega) | (simp [*]; omega) | (simp [D32.len, -List.length_flatten, *]; done) | (simp [D32.len, -List.length_flatten, *]; omega)) ?_)
          refine s1 (y_p rfl) rfl <| ?_
          refine at_nil ?_
          refine x_tn ?_
          refine at_ret ?_
          refine x_tr ?_
          refine x_br ?_
          refine x_tr ?_
          refine x_tr ?_
          refine x_br ?_
          refine x_tr ?_
          refine at_result (rs := [.cell 8 46, .cell 9 46, .tmp 10]) rfl (r_cellA ti46 rfl rfl rfl rfl (r_cellA ti46 rfl rfl rfl rfl (r_tmp rfl r_nil))) ?_
          show A.tu _ = _; rw [askA_no (by rw [hbd]; exact hz), hbd]; rfl
      · have h43 : ¬ k < at1.length := by have := of_decide_eq_false hc43; omega
        have hw := V6.want_no h43
        refine at_skip ?_
        refine x_tn ?_
        refine at_seq ?_
        rcases Decidable.em ((V6.masks many (V6.want at1 k) q).2.2 = 0) with hcs | hcs
        · have hz := hcs
          have hnx := V6.askTo_nextW hk0 (by rw [hqd]; exact hz)
          rw [hqd] at hnx
          refine at_region ?_
          refine s1 (y_p rfl) rfl <| s1 (((y_p rfl).v (v' := .i .i64 0) rfl).v (v' := .i .i64 (V6.want at1 k)) (congrArg (A.i .i64) hw.symm)) rfl <| s1 (y_p rfl) rfl <| s1 (y_p rfl) rfl <| s1 (y_ixf k Tryd.underlying28 ti66 rfl rfl rfl (by omega) rfl) rfl <| s1 (y_load ti66 rfl rfl (V6.getR hq)) rfl <| ?_
          refine at_op rfl (n_call false rfl (.cons (.pure pu) (.cons (.pure pu) (.cons (.pure pu) (.nil)))) (Con.cast (vmasks_ok many (V6.want at1 k) q) (masksA_zero hz)) pu (.inl rfl) rfl ?_)
          refine s1 (y_p rfl) rfl <| s1 (y_p rfl) rfl <| s1 (y_p rfl) rfl <| s1 (y_p rfl) rfl <| s1 (y_p rfl) rfl <| s1 (y_p rfl) rfl <| s1 (y_p rfl) rfl <| ?_
          refine at_nil ?_
          refine x_tn ?_
          refine at_seq ?_
          refine at_seq ?_
          refine at_region ?_
          refine s1 (y_p rfl) rfl <| s1 ((y_p rfl).v (v' := .b false) (rfl)) rfl <| ?_
          refine at_nil ?_
          refine x_tn ?_
          refine at_else rfl ?_
          refine at_skip ?_
          refine x_tn ?_
          refine at_seq ?_
          refine at_region ?_
          refine s1 (y_fld Tryd.underlying46 rfl ti28 (by decide) rfl rfl) rfl <| s1 (y_load ti28 rfl rfl rfl) rfl <| s1 (y_p rfl) rfl <| ?_
          refine at_op rfl (n_bs1 67 rfl Tryd.underlying28 ti66 rfl rfl rfl rfl rfl ?_)
          refine at_op rfl (n_app 68 rfl Tryd.underlying28 ti66 rfl (.sl rfl (by rw [List.length_map]; omega)) rfl (SM_full rfl (by first | rfl | omega | (simp; done) | (simp [*]; done) | (simp; omega) | (simp [*]; omega) | (simp [D32.len, -List.length_flatten, *]; done) | (simp [D32.len, -List.length_flatten, *]; omega))) (by simp) (by simp only [maxLen]; omega) (by omega) rfl (V6.ask_fst hnx) rfl ?_)
          refine s1 (y_fld Tryd.underlying46 rfl ti28 (by decide) rfl rfl) rfl <| ?_
          refine at_op rfl (n_store1 ti28 rfl rfl rfl rfl (by first | rfl | omega | (simp; done) | (simp [*]; done) | (simp; omega) | (simp [*]; omega) | (simp [D32.len, -List.length_flatten, *]; done) | (simp [D32.len, -List.length_flatten, *]; omega)) rfl ?_)
          refine at_nil ?_
          refine x_tn ?_
          refine at_region ?_
          refine s1 (y_fld Tryd.underlying46 rfl ti28 (by decide) rfl rfl) rfl <| s1 (y_load ti28 rfl rfl rfl) rfl <| s1 (y_p rfl) rfl <| ?_
          refine at_op rfl (n_bs1 73 rfl Tryd.underlying28 ti66 rfl rfl rfl rfl rfl ?_)
          refine at_op rfl (n_app 74 rfl Tryd.underlying28 ti66 rfl (.sl rfl (by rw [List.length_map]; omega)) rfl (SM_full rfl (by first | rfl | omega | (simp; done) | (simp [*]; done) | (simp; omega) | (simp [*]; omega) | (simp [D32.len, -List.length_flatten, *]; done) | (simp [D32.len, -List.length_flatten, *]; omega))) (by simp) (by simp only [maxLen]; omega) (by omega) rfl (V6.ask_snd hnx) rfl ?_)
          refine s1 (y_fld Tryd.underlying46 rfl ti28 (by decide) rfl rfl) rfl <| ?_
          refine at_op rfl (n_store1 ti28 rfl rfl rfl rfl (by first | rfl | omega | (simp; done) | (simp [*]; done) | (simp; omega) | (simp [*]; omega) | (simp [D32.len, -List.length_flatten, *]; done) | (simp [D32.len, -List.length_flatten, *]; omega)) rfl ?_)
          refine at_nil ?_
          refine x_bn ?_
          refine x_tn ?_
          refine at_region ?_
          refine s1 (addN _ 1 rfl rfl rfl rfl (by omega)) rfl <| s1 (y_p rfl) rfl <| ?_
          refine at_nil ?_
          exact at_end (k + 1) (⟨by omega, by rw [hnx]⟩) (by omega) [(8, some 8), (9, some 9), (168, some 68), (174, some 74)] hI rfl rfl ⟨⟨_, rfl, .pure pu⟩, ⟨_, rfl, .pure pu⟩, ⟨_, rfl, .pure pu⟩, ⟨_, rfl, .p rfl⟩, ⟨_, rfl, .p rfl⟩, ⟨_, rfl, .pure pu⟩, ⟨_, rfl, .pure pu⟩, trivial⟩ ⟨.inr ⟨_, _, rfl, rfl, .cons (.sl rfl (by first | rfl | omega | (simp; done) | (simp [*]; done) | (simp; omega) | (simp [*]; omega) | (simp [D32.len, -List.length_flatten, *]; done) | (simp [D32.len, -List.length_flatten, *]; omega))) .nil⟩, .inr ⟨_, _, rfl, rfl, .pure pul⟩, .inr ⟨_, _, rfl, rfl, .cons (.sl rfl (by first | rfl | omega | (simp; done) | (simp [*]; done) | (simp; omega) | (simp [*]; omega) | (simp [D32.len, -List.length_flatten, *]; done) | (simp [D32.len, -List.length_flatten, *]; omega))) .nil⟩, .inr ⟨_, _, rfl, rfl, .pure pul⟩, trivial⟩
        · have hz := hcs
          have hbd := V6.ask_errW h38 b1 b2 b3 hk0 (by rw [hqd]; exact hz)
          rw [hqd] at hbd
          refine at_region ?_
          refine s1 (y_p rfl) rfl <| s1 (((y_p rfl).v (v' := .i .i64 0) rfl).v (v' := .i .i64 (V6.want at1 k)) (congrArg (A.i .i64) hw.symm)) rfl <| s1 (y_p rfl) rfl <| s1 (y_p rfl) rfl <| s1 (y_ixf k Tryd.underlying28 ti66 rfl rfl rfl (by omega) rfl) rfl <| s1 (y_load ti66 rfl rfl (V6.getR hq)) rfl <| ?_
          refine at_op rfl (n_call false rfl (.cons (.pure pu) (.cons (.pure pu) (.cons (.pure pu) (.nil)))) (Con.cast (vmasks_ok many (V6.want at1 k) q) (masksA_err hz)) pu (.inl rfl) rfl ?_)
          refine s1 (y_p rfl) rfl <| s1 (y_p rfl) rfl <| s1 (y_p rfl) rfl <| s1 (y_p rfl) rfl <| s1 (y_p rfl) rfl <| s1 (y_p rfl) rfl <| s1 (y_p rfl) rfl <| ?_
          refine at_nil ?_
          refine x_tn ?_
          refine at_seq ?_
          refine at_seq ?_
          refine at_region ?_
          refine s1 (y_p rfl) rfl <| s1 ((y_p rfl).v (v' := .b true) (congrArg A.b (by simpa using hz))) rfl <| ?_
          refine at_nil ?_
          refine x_tn ?_
          refine at_then rfl ?_
          refine at_seq ?_
          refine at_region ?_
          refine s1 (y_bld (out := [_]) [[evC (.slice none 0 0)]] ti46 rfl Tryd.underlying46 (by kernel_rfl) rfl rfl trivial rfl) rfl <| s1 (y_bld (out := [_]) [[evC (.slice none 0 0)]] ti46 rfl Tryd.underlying46 (by kernel_rfl) rfl rfl trivial rfl) rfl <| s1 (y_p rfl) rfl <| ?_
          refine at_op rfl (n_storeA ti46 rfl rfl rfl (by first | rfl | omega | (simp; done) | (simp [*]; done) | (simp; omega) | (simp [*]; omega) | (simp [D32.len, -List.length_flatten, *]; done) | (simp [D32.len, -List.length_flatten, *]; omega)) (by first | rfl | omega | (simp; done) | (simp [*]; done) | (simp; omega) | (simp [*]; omega) | (simp [D32.len, -List.length_flatten, *]; done) | (simp [D32.len, -List.length_flatten, *]; omega)) ?_)
          refine at_op rfl (n_storeA ti46 rfl rfl rfl (by first | rfl | omega | (simp; done) | (simp [*]; done) | (simp; omega) | (simp [*]; omega) | (simp [D32.len, -List.length_flatten, *]; done) | (simp [D32.len, -List.length_flatten, *]; omega)) (by first | rfl | omega | (simp; done) | (simp [*]; done) | (simp; omega) | (simp [*]; omega) | (simp [D32.len, -List.length_flatten, *]; done) | (simp [D32.len, -List.length_flatten, *]; omega)) ?_)
          refine s1 (y_p rfl) rfl <| ?_
          refine at_nil ?_
          refine x_tn ?_
          refine at_ret ?_
          refine x_tr ?_
          refine x_br ?_
          refine x_tr ?_
          refine x_tr ?_
          refine x_br ?_
          refine x_tr ?_
          refine at_result (rs := [.cell 8 46, .cell 9 46, .tmp 10]) rfl (r_cellA ti46 rfl rfl rfl rfl (r_cellA ti46 rfl rfl rfl rfl (r_tmp rfl r_nil))) ?_
          show A.tu _ = _; rw [askA_no (by rw [hbd]; exact hz), hbd]; rfl
    · have h38 : k = coins.length := by have := of_decide_eq_false hc38; omega
      subst h38
      refine at_exit ?_
      refine x_te ?_
      refine x_te ?_
      refine x_be ?_
      refine x_tn ?_
      refine at_seq ?_
      have hall := V6.ask_all (many := many) b1 b2 b3
      refine at_frzO 8 0 rfl rfl rfl rfl pul (view_eq (by rw [List.length_map]; omega) rfl) rfl ?_
      refine at_frzO 9 0 rfl rfl rfl rfl pul (view_eq (by rw [List.length_map]; omega) rfl) rfl ?_
      refine at_fs ⟨_, [], []⟩ 3 4 hmix (le_refl rfl) ?_
      refine fs_q 0 [] [(8, none)] (y_loadA0 ti46 rfl rfl rfl) rfl rfl ?_
      refine fs_q 1 [] [(9, none)] (y_loadA0 ti46 rfl rfl rfl) rfl rfl ?_
      refine fs_stoA 0 2 [0] [(8, none)] rfl gy0 ti46 rfl rfl rfl (by first | rfl | omega | (simp; done) | (simp [*]; done) | (simp; omega) | (simp [*]; omega) | (simp [D32.len, -List.length_flatten, *]; done) | (simp [D32.len, -List.length_flatten, *]; omega)) (by first | rfl | omega | (simp; done) | (simp [*]; done) | (simp; omega) | (simp [*]; omega) | (simp [D32.len, -List.length_flatten, *]; done) | (simp [D32.len, -List.length_flatten, *]; omega)) rfl ?_
      refine fs_end (by kernel_rfl) ?_
      refine at_op rfl (n_storeA ti46 rfl rfl rfl (by first | rfl | omega | (simp; done) | (simp [*]; done) | (simp; omega) | (simp [*]; omega) | (simp [D32.len, -List.length_flatten, *]; done) | (simp [D32.len, -List.length_flatten, *]; omega)) (by first | rfl | omega | (simp; done) | (simp [*]; done) | (simp; omega) | (simp [*]; omega) | (simp [D32.len, -List.length_flatten, *]; done) | (simp [D32.len, -List.length_flatten, *]; omega)) ?_)
      refine s1 ((y_p rfl).v (v' := .i .i64 0) rfl) rfl <| ?_
      refine at_nil ?_
      refine x_tn ?_
      refine at_ret ?_
      refine at_result (rs := [.cell 8 46, .cell 9 46, .tmp 10]) rfl (r_cellA ti46 rfl rfl rfl rfl (r_cellA ti46 rfl rfl rfl rfl (r_tmp rfl r_nil))) ?_
      show A.tu _ = _; rw [askA_yes (by rw [hall]; exact hk0), hall, rowsV, rowsV, hl1, hl2]; rfl
end Go.Abs.D2

/-! V6R -/
namespace Go.Abs.D2
open Go Go.Eng Go.Abs
theorem ask_split (many : Int) (at1 : List Int) (batch : Int) (coins : List (List UInt8)) :
    (∃ e : Int, e ≠ 0 ∧ askA many at1 batch coins = .tu [.ag [.nl], .ag [.nl], .i .i64 e]) ∨
    (∃ a b, askA many at1 batch coins = .tu [.ag [rowsV a], .ag [rowsV b], .i .i64 0] ∧ batch = (coins.length : Int) ∧ 1 ≤ coins.length ∧ coins.length ≤ 132 ∧ at1.length ≤ coins.length ∧ a.length = coins.length ∧ b.length = coins.length ∧ ∀ k, k < coins.length → V6.Round many at1 coins a b k) := by
  rcases V6.ask_cases many at1 batch coins with ⟨h, _, _⟩ | ⟨h, h1, h2, h3, h4, h5, h6, h7⟩
  · exact .inl ⟨_, h, askA_no h⟩
  · exact .inr ⟨_, _, askA_yes h, h1, h2, h3, h4, h5, h6, h7⟩
theorem joinA_val {p q d : List UInt8} (h : V6.join p q = (d, 0)) : joinA p q = .tu [V6.slV d, .i .i64 0] := by
  unfold V6.join at h
  unfold joinA
  split at h
  · rename_i hl
    rw [if_pos hl]
    obtain ⟨rfl, _⟩ := Prod.mk.inj h
    rw [V6.slV, V6.len_xorL (by omega), hl.1]
  · rename_i hl
    have := (Prod.mk.inj h).2
    simp at this
section
variable {m : Nat} {at1 : List Int} {coins a b : List (List UInt8)} {k : Nat}
theorem round_nat (h : V6.Round m at1 coins a b k) : ∃ j : Nat, V6.want at1 k = (j : Int) ∧ j < m ∧ 1 ≤ m ∧ m ≤ 1024 ∧ (coins.getD k []).length = (m + 7) / 8 ∧ a.getD k [] = V6.cut m (coins.getD k []) ∧ b.getD k [] = V6.change (V6.cut m (coins.getD k [])) j := by
  obtain ⟨h0, h1, h2⟩ := h
  obtain ⟨m', j, e1, e2, g1, g2, g3, g4⟩ := V6.masks_zero h0
  obtain rfl : m = m' := by omega
  rw [e2] at h2
  exact ⟨j, e2, g4, g1, g2, g3, h1, h2⟩
theorem sizedN {m n : Nat} (h1 : 1 ≤ m) (h2 : m ≤ 1024) (h3 : n = (m + 7) / 8) : V6.sized m n = true := by
  simp only [V6.sized, decide_eq_true_eq]; omega
theorem reads_cases {db : List (List UInt8)} (hc : 1 ≤ coins.length) (hc2 : coins.length ≤ 132) (ha : a.length = coins.length) (hb : b.length = coins.length) (h : ∀ k, k < coins.length → V6.Round (db.length : Nat) at1 coins a b k) :
    (db.any no16 = true ∧ ansOk db a = false ∧ ansOk db b = false) ∨ (db.any no16 = false ∧ ansOk db a = true ∧ ansOk db b = true) := by
  cases h1 : db.any no16 with
  | true => exact .inl ⟨rfl, ansOk_db h1, ansOk_db h1⟩
  | false =>
    obtain ⟨j, _, _, g1, g2, _⟩ := round_nat (h 0 (by omega))
    have hall : ∀ l : List (List UInt8), l.length = coins.length → (∀ k, k < coins.length → V6.masked (db.length : Nat) (l.getD k []) = true) → ansOk db l = true := by
      intro l hl hm
      refine ansOk_yes ⟨g1, g2, by omega⟩ h1 ?_
      rw [List.any_eq_false]
      intro x hx
      obtain ⟨k, hk⟩ := List.mem_iff_getElem?.1 hx
      have hlt := (List.getElem?_eq_some_iff.1 hk).1
      have := hm k (by omega)
      rw [List.getD, hk] at this
      simpa [unmasked] using this
    refine .inr ⟨rfl, hall a ha fun k hk => ?_, hall b hb fun k hk => ?_⟩
    · obtain ⟨j, _, _, g3, g4, g5, g6, _⟩ := round_nat (h k hk)
      rw [g6]; exact V6.cut_masked (sizedN g3 g4 g5)
    · obtain ⟨j, _, g7, g3, g4, g5, _, g6⟩ := round_nat (h k hk)
      rw [g6]; exact V6.change_masked (sizedN g3 g4 g5) g7
theorem reads_at {db : List (List UInt8)} (hdb : db.any no16 = false) (h : V6.Round (db.length : Nat) at1 coins a b k) (hk : k < coins.length) (ha : a.length = coins.length) (hb : b.length = coins.length) :
    ∃ j : Nat, ∃ x y d, V6.want at1 k = (j : Int) ∧ j < db.length ∧ db[j]? = some d ∧ (a.map (V6.answer db))[k]? = some (V6.answer db x) ∧ (b.map (V6.answer db))[k]? = some (V6.answer db y) ∧ joinA (V6.answer db x) (V6.answer db y) = .tu [V6.slV d, .i .i64 0] := by
  obtain ⟨j, e1, g1, g2, g3, g4, g5, g6⟩ := round_nat h
  have h16 : ∀ q ∈ db, q.length = 16 := fun q hq => by
    have := (List.any_eq_false.1 hdb) q hq
    simpa [no16] using this
  refine ⟨j, a.getD k [], b.getD k [], db.getD j [], e1, g1, by simp [List.getD, g1], ?_, ?_, ?_⟩
  · rw [List.getElem?_map]; simp [List.getD, show k < a.length by omega]
  · rw [List.getElem?_map]; simp [List.getD, show k < b.length by omega]
  · refine joinA_val ?_
    rw [g5, g6]
    exact V6.read_ok h16 g1 (by rw [V6.len_cut]; exact g4)
end
end Go.Abs.D2

/-! V6E -/
namespace Go.Abs.D2
open Go Go.Eng Go.Abs Go.Proofs 
set_option linter.unusedSimpArgs false in
set_option linter.unusedVariables false in
set_option maxHeartbeats 1000000 in
set_option maxRecDepth 10000 in
theorem few36_ok (l : List (List UInt8)) (most : Int) (hn : l.length ≤ maxLen) : Con Tryd.prog 12 [.fz l.length (l.map V6.slV), .i .i64 most] (Ret (.b (V6.few l most))) := by
  refine enter Tryd.func12 rfl Tryd.ntmps12 (by kernel_rfl) (Nat.le_of_ble_eq_true rfl) fun w0 X0 hI => ?_
  refine at_seq ?_
  refine at_region ?_
  refine s1 (y_p rfl) rfl <| ?_
  refine at_nil ?_
  refine x_tn ?_
  refine at_seq ?_
  refine at_seq ?_
  simp only [maxLen] at hn
  refine at_region ?_
  refine s1 ((y_p rfl).v (v' := .i .i64 0) rfl) rfl <| ?_
  refine at_nil ?_
  refine x_tn ?_
  refine at_block ?_
  refine at_loop (ι := Nat) (fun i => [(0, .fz l.length (l.map V6.slV)), (1, .i .i64 most), (5, nV i)]) (fun i => ⟨[]⟩) (fun i => i ≤ l.length ∧ ∀ k, k < i → (l.getD k []).length ≤ 130) (fun i => l.length - i) ?_ ?_
  · exact at_ex (0) (⟨Nat.zero_le _, fun k h => absurd h (by omega)⟩) [] hI rfl rfl ⟨⟨_, rfl, .pure pu⟩, ⟨_, rfl, .pure pu⟩, ⟨_, rfl, .pure pu⟩, trivial⟩ trivial
  rintro i ⟨hi, hi2⟩
  refine at_seq ?_
  refine at_seq ?_
  refine at_region ?_
  refine s1 (y_p rfl) rfl <| s1 (y_p rfl) rfl <| s1 (y_len Tryd.underlying28 rfl rfl rfl) rfl <| s1 (y_p rfl) rfl <| ?_
  refine at_nil ?_
  refine x_tn ?_
  refine at_cond rfl (fun hc9 => ?_) (fun hc9 => ?_)
  · have h9 : i < l.length := by have := of_decide_eq_true hc9; omega
    obtain ⟨q, hq⟩ : ∃ q, l[i]? = some q := ⟨_, List.getElem?_eq_getElem h9⟩
    refine at_skip ?_
    refine x_tn ?_
    refine at_seq ?_
    refine at_block ?_
    refine at_seq ?_
    refine at_region ?_
    refine s1 (y_p rfl) rfl <| s1 (y_p rfl) rfl <| s1 (y_ixf i Tryd.underlying28 ti66 rfl rfl rfl (by omega) rfl) rfl <| s1 (y_load ti66 rfl rfl (V6.getR hq)) rfl <| s1 (y_len Tryd.underlying66 rfl rfl rfl) rfl <| s1 (y_p rfl) rfl <| ?_
    refine at_nil ?_
    refine x_tn ?_
    refine at_cond rfl (fun hc17 => ?_) (fun hc17 => ?_)
    · have h17 : ¬ q.length ≤ 130 := by have := of_decide_eq_true hc17; omega
      refine at_seq ?_
      refine at_region ?_
      refine s1 (y_p rfl) rfl <| ?_
      refine at_nil ?_
      refine x_tn ?_
      refine at_ret ?_
      refine x_br ?_
      refine x_tr ?_
      refine x_tr ?_
      refine x_br ?_
      refine x_tr ?_
      refine at_result (rs := [.tmp 4]) rfl (r_tmp rfl r_nil) ?_
      exact congrArg A.b (few_out hq h17).symm
    · have h17 : q.length ≤ 130 := by have := of_decide_eq_false hc17; omega
      refine at_skip ?_
      refine x_bn ?_
      refine x_tn ?_
      refine at_region ?_
      refine s1 (y_p rfl) rfl <| s1 (addN _ 1 rfl rfl rfl rfl (by omega)) rfl <| s1 (y_p rfl) rfl <| ?_
      refine at_nil ?_
      exact at_end (i + 1) (⟨by omega, few_next hq h17 hi2⟩) (by omega) [] hI rfl rfl ⟨⟨_, rfl, .pure pu⟩, ⟨_, rfl, .pure pu⟩, ⟨_, rfl, .pure pu⟩, trivial⟩ trivial
  · have h9 : i = l.length := by have := of_decide_eq_false hc9; omega
    subst h9
    refine at_exit ?_
    refine x_te ?_
    refine x_te ?_
    refine x_be ?_
    refine x_tn ?_
    refine at_seq ?_
    refine at_region ?_
    refine s1 (y_p rfl) rfl <| s1 (y_len Tryd.underlying28 rfl rfl rfl) rfl <| s1 (y_p rfl) rfl <| s1 (y_p rfl) rfl <| s1 (y_p rfl) rfl <| ?_
    refine at_nil ?_
    refine x_tn ?_
    refine at_ret ?_
    refine at_result (rs := [.tmp 4]) rfl (r_tmp rfl r_nil) ?_
    exact congrArg A.b (V6.few_yes hi2).symm
end Go.Abs.D2

/-! F3E -/
namespace Go.Abs.D2
open Go Go.Eng Go.Abs Go.Proofs 
end Go.Abs.D2

/-! F3Q -/
namespace Go.Abs.D2
open Go Go.Eng Go.Abs
abbrev u16 (x : UInt16) : A := .i .u16 (x.toNat : Int)
def hasV (x : List UInt8) (lv nb : Int) (D : List UInt8) (id : Int) : Bool := okB lv nb D id && hasD x lv.toNat nb.toNat id.toNat D
theorem has_form (x : List UInt8) (lv nb : Int) (D : List UInt8) (id : Int) : hasA x lv nb D id = .tu [.b (hasV x lv nb D id), .i .i64 (errF (okB lv nb D id))] := by
  unfold hasA hasV
  cases okB lv nb D id <;> rfl
theorem bit_addD {x : List UInt8} {l n j : Nat} {D : List UInt8} (hn : 0 < n) (hl : D.length = (n + 7) / 8) (k : Nat) : bitA (addD x l n j D) k = (bitA D k || (k == bN x l n j 0 || k == bN x l n j 1)) := by
  have h0 := bN_lt (x := x) (lv := l) (id := j) hn 0
  have h1 := bN_lt (x := x) (lv := l) (id := j) hn 1
  simp only [addD, setsB]
  rw [bit_setA (by simp; omega), bit_setA (by omega), Bool.or_assoc]
theorem chk_addD {x : List UInt8} {l n j : Nat} {D : List UInt8} (h : chkB l n D = true) : chkB l n (addD x l n j D) = true := by
  obtain ⟨l', n', e1, e2, h1, h2, h3, h4, h5⟩ := chk_nat h
  obtain rfl : l = l' := by omega
  obtain rfl : n = n' := by omega
  have h0 := bN_lt (x := x) (lv := l) (id := j) (show 0 < n by omega) 0
  have h1' := bN_lt (x := x) (lv := l) (id := j) (show 0 < n by omega) 1
  refine nat_chk h1 h2 h3 (by simp [h4]) fun k hk hk2 => ?_
  rw [bit_addD (by omega) h4, h5 k hk (by simpa using hk2), beq_eq_false_iff_ne.2 (by omega), beq_eq_false_iff_ne.2 (by omega)]; rfl
def stepF (x : List UInt8) (lv nb : Int) (D : List UInt8) (id : Int) : List UInt8 := if okB lv nb D id then addD x lv.toNat nb.toNat id.toNat D else D
theorem add_yes2 {x : List UInt8} {lv nb id : Int} {D : List UInt8} (h : okB lv nb D id = true) : addA x lv nb D id = .tu [filA lv nb (stepF x lv nb D id), .i .i64 0] := by unfold addA stepF; rw [h]; rfl
@[simp] theorem len_stepF (x : List UInt8) (lv nb : Int) (D : List UInt8) (id : Int) : (stepF x lv nb D id).length = D.length := by unfold stepF; split <;> simp
theorem chk_stepF (x : List UInt8) (lv nb : Int) (D : List UInt8) (id : Int) : chkB lv nb (stepF x lv nb D id) = chkB lv nb D := by
  unfold stepF
  split
  · rename_i h
    obtain ⟨l, n, j, rfl, rfl, rfl, h1, h2, h3, h4, h5, h6⟩ := ok_nat h
    have hc := nat_chk h1 h2 h3 h5 h6
    rw [hc]; exact chk_addD hc
  · rfl
@[irreducible] def addedD (x : List UInt8) (lv nb : Int) (D : List UInt8) (ids : List UInt16) : List UInt8 := ids.foldl (fun D id => stepF x lv nb D ((id.toNat : Nat) : Int)) D
theorem added_0 (x : List UInt8) (lv nb : Int) (D : List UInt8) : addedD x lv nb D [] = D := by unfold addedD; rfl
theorem added_snoc (x : List UInt8) (lv nb : Int) (D : List UInt8) (ids : List UInt16) (q : UInt16) : addedD x lv nb D (ids ++ [q]) = stepF x lv nb (addedD x lv nb D ids) ((q.toNat : Nat) : Int) := by unfold addedD; simp
theorem snoc_ind {α : Type} {p : List α → Prop} (h0 : p []) (h1 : ∀ l q, p l → p (l ++ [q])) (l : List α) : p l := by
  rw [← List.reverse_reverse l]
  induction l.reverse with
  | nil => exact h0
  | cons a m ih => rw [List.reverse_cons]; exact h1 _ _ ih
@[simp] theorem len_added (x : List UInt8) (lv nb : Int) (D : List UInt8) (ids : List UInt16) : (addedD x lv nb D ids).length = D.length :=
  snoc_ind (p := fun ids => (addedD x lv nb D ids).length = D.length) (by rw [added_0]) (fun l q h => by rw [added_snoc, len_stepF, h]) ids
theorem okB_eq {l n j : Nat} {D : List UInt8} (h : chkB l n D = true) (hj : j < 1024) : okB l n D j = true := ok_yes h (by omega)
theorem bit_zero (m k : Nat) : bitA (List.replicate m 0) k = false := by
  unfold bitA
  have : (List.replicate m (0 : UInt8)).getD (k / 8) 0 = 0 := by
    rw [List.getD]
    cases h : (List.replicate m (0 : UInt8))[k / 8]? with
    | none => rfl
    | some v => exact List.eq_of_mem_replicate (List.mem_of_getElem? h)
  rw [this]
  exact Nat.zero_testBit _
theorem chk_zero {l n : Nat} (h : sizedP (l : Int) (n : Int)) : chkB l n (List.replicate ((n + 7) / 8) 0) = true := by
  unfold sizedP at h
  exact nat_chk (by omega) (by omega) (by omega) (by simp) fun k _ _ => bit_zero _ _
structure Fil where
  lv : Int
  nb : Int
  D : List UInt8
end Go.Abs.D2

/-! C4P -/
namespace Go.Abs.D2
open Go Go.Eng Go.Abs
/-- A list of numbers: ascending, below 1024. -/
def ascB (last : Int) : List Int → Bool
  | [] => true
  | n :: l => decide (last < n ∧ n < 1024) && ascB n l
def listedB (l : List Int) : Bool := ascB (-1) l
/-- The number ahead of a place. -/
def lastI (l : List Int) (i : Nat) : Int := if i = 0 then -1 else l.getD (i - 1) 0
theorem asc_drop {last n : Int} {l : List Int} {i : Nat} (h : l[i]? = some n) : ascB last (l.drop i) = (decide (last < n ∧ n < 1024) && ascB n (l.drop (i + 1))) := by
  have hi := (List.getElem?_eq_some_iff.1 h).1
  rw [List.drop_eq_getElem_cons hi, (List.getElem?_eq_some_iff.1 h).2]
  rfl
theorem lastI_next {n : Int} {l : List Int} {i : Nat} (h : l[i]? = some n) : lastI l (i + 1) = n := by
  unfold lastI
  rw [if_neg (by omega), List.getD, Nat.add_sub_cancel, h]; rfl
theorem asc_next {n : Int} {l : List Int} {i : Nat} (h0 : listedB l = ascB (lastI l i) (l.drop i)) (h : l[i]? = some n) (h1 : lastI l i < n ∧ n < 1024) : listedB l = ascB (lastI l (i + 1)) (l.drop (i + 1)) := by
  rw [h0, asc_drop h, decide_eq_true h1, Bool.true_and, lastI_next h]
theorem asc_no {n : Int} {l : List Int} {i : Nat} (h0 : listedB l = ascB (lastI l i) (l.drop i)) (h : l[i]? = some n) (h1 : ¬ (lastI l i < n ∧ n < 1024)) : listedB l = false := by
  rw [h0, asc_drop h, decide_eq_false h1, Bool.false_and]
theorem asc_end {l : List Int} (h0 : listedB l = ascB (lastI l l.length) (l.drop l.length)) : listedB l = true := by
  rw [h0, List.drop_length]; rfl
theorem asc_start (l : List Int) : listedB l = ascB (lastI l 0) (l.drop 0) := rfl
theorem asc_mem : ∀ {l : List Int} {last : Int}, ascB last l = true → ∀ n ∈ l, last < n ∧ n < 1024
  | [], _, _, n, hn => by cases hn
  | a :: l, last, h, n, hn => by
    simp only [ascB, Bool.and_eq_true, decide_eq_true_eq] at h
    rcases List.mem_cons.1 hn with rfl | hn
    · exact h.1
    · have := asc_mem h.2 n hn
      omega
theorem listed_mem {l : List Int} (h : listedB l = true) : ∀ n ∈ l, 0 ≤ n ∧ n < 1024 := fun n hn => by
  have := asc_mem h n hn
  omega
/-- A cascade. -/
structure Cas where
  x : List UInt8
  F : List Fil
  E : List Int
abbrev filC (f : Fil) : List A := [.i .i64 f.lv, .i .i64 f.nb, slA f.D]
abbrev filsA (F : List Fil) : A := .fz F.length (F.flatMap filC)
abbrev intsA (E : List Int) : A := .fz E.length (E.map (A.i .i64))
abbrev casL (c : Cas) : List A := c.x.map u8 ++ [filsA c.F, intsA c.E]
/-- Are the filters those of their levels? -/
def levB : Nat → List Fil → Bool
  | _, [] => true
  | i, f :: F => decide (f.lv = i) && chkB f.lv f.nb f.D && levB (i + 1) F
def chkC (c : Cas) : Bool := decide (c.F.length ≤ 16) && listedB c.E && levB 0 c.F
def errC (b : Bool) : Int := if b then 0 else 340
theorem lev_drop {F : List Fil} {f : Fil} {i : Nat} (h : F[i]? = some f) : levB i (F.drop i) = (decide (f.lv = i) && chkB f.lv f.nb f.D && levB (i + 1) (F.drop (i + 1))) := by
  have hi := (List.getElem?_eq_some_iff.1 h).1
  rw [List.drop_eq_getElem_cons hi, (List.getElem?_eq_some_iff.1 h).2]
  rfl
theorem lev_next {F : List Fil} {f : Fil} {i : Nat} (h0 : levB 0 F = levB i (F.drop i)) (h : F[i]? = some f) (h1 : f.lv = i) (h2 : chkB f.lv f.nb f.D = true) : levB 0 F = levB (i + 1) (F.drop (i + 1)) := by
  rw [h0, lev_drop h, decide_eq_true h1, h2, Bool.true_and, Bool.true_and]
theorem lev_no {F : List Fil} {f : Fil} {i : Nat} (h0 : levB 0 F = levB i (F.drop i)) (h : F[i]? = some f) (h1 : ¬ (f.lv = i ∧ chkB f.lv f.nb f.D = true)) : levB 0 F = false := by
  rw [h0, lev_drop h]
  by_cases h2 : f.lv = i
  · have : chkB f.lv f.nb f.D = false := by rw [Bool.eq_false_iff]; exact fun e => h1 ⟨h2, e⟩
    rw [this]; simp
  · rw [decide_eq_false h2]; simp
theorem lev_end {F : List Fil} (h0 : levB 0 F = levB F.length (F.drop F.length)) : levB 0 F = true := by
  rw [h0, List.drop_length]; rfl
theorem flat_get {F : List Fil} {f : Fil} {i : Nat} (h : F[i]? = some f) : ((F.flatMap filC).drop (i * 3)).take 3 = filC f := by
  induction F generalizing i with
  | nil => simp at h
  | cons g F ih =>
    cases i with
    | zero => simp at h; subst h; simp
    | succ i =>
      have e : (i + 1) * 3 = i * 3 + 3 := by omega
      rw [List.getElem?_cons_succ] at h
      rw [e, List.flatMap_cons, Nat.add_comm, ← List.drop_drop]
      simpa using ih h
end Go.Abs.D2
namespace Go.Abs.D2
open Go Go.Eng Go.Abs
theorem cas_x {c : Cas} (hx : c.x.length = 32) : (casL c).take 32 = c.x.map u8 := by
  rw [List.take_left' (by rw [List.length_map, hx])]
theorem cas_F {c : Cas} (hx : c.x.length = 32) : ((casL c).drop 32)[0]? = some (filsA c.F) := by
  rw [List.drop_left' (by rw [List.length_map, hx])]; rfl
theorem cas_E {c : Cas} (hx : c.x.length = 32) : ((casL c).drop 33)[0]? = some (intsA c.E) := by
  rw [show 33 = 32 + 1 from rfl, ← List.drop_drop, List.drop_left' (by rw [List.length_map, hx])]; rfl
theorem getI4 {l : List Int} {i : Nat} {n : Int} (h : l[i]? = some n) : ((l.map (A.i .i64)).drop (i * 1))[0]? = some (A.i .i64 n) := by
  rw [List.getElem?_drop, show i * 1 + 0 = i by omega, List.getElem?_map, h]; rfl
theorem chkC_no1 {c : Cas} (h : ¬ c.F.length ≤ 16) : chkC c = false := by unfold chkC; rw [decide_eq_false h]; simp
theorem chkC_no2 {c : Cas} (h : listedB c.E = false) : chkC c = false := by unfold chkC; rw [h]; simp
theorem chkC_no3 {c : Cas} (h : levB 0 c.F = false) : chkC c = false := by unfold chkC; rw [h]; simp
theorem chkC_yes {c : Cas} (h1 : c.F.length ≤ 16) (h2 : listedB c.E = true) (h3 : levB 0 c.F = true) : chkC c = true := by unfold chkC; rw [decide_eq_true h1, h2, h3]; rfl
theorem tfC (b : Bool) : b = false ∨ b = true := by cases b <;> simp
end Go.Abs.D2

/-! C4B -/
namespace Go.Abs.D2
open Go Go.Eng Go.Abs Go.Proofs 
set_option linter.unusedSimpArgs false in
set_option linter.unusedVariables false in
set_option maxHeartbeats 1000000 in
set_option maxRecDepth 10000 in
theorem listed_ok (l : List Int) (hn : l.length ≤ maxLen) : Con Tryd.prog 66 [.fz l.length (l.map (A.i .i64))] (Ret (.b (listedB l))) := by
  refine enter Tryd.func66 rfl Tryd.ntmps66 (by kernel_rfl) (Nat.le_of_ble_eq_true rfl) fun w0 X0 hI => ?_
  refine at_seq ?_
  refine at_region ?_
  refine s1 (y_p rfl) rfl <| ?_
  refine at_nil ?_
  refine x_tn ?_
  refine at_seq ?_
  simp only [maxLen] at hn
  refine at_region ?_
  refine s1 ((y_p rfl).v (v' := .i .i64 (-1)) rfl) rfl <| ?_
  refine at_nil ?_
  refine x_tn ?_
  refine at_seq ?_
  refine at_seq ?_
  refine at_region ?_
  refine s1 (y_p rfl) rfl <| s1 (y_len Tryd.underlying25 rfl rfl rfl) rfl <| s1 ((y_p rfl).v (v' := .i .i64 0) rfl) rfl <| ?_
  refine at_nil ?_
  refine x_tn ?_
  refine at_block ?_
  refine at_loop (ι := Nat) (fun i => [(3, .i .i64 (lastI l i)), (6, .fz l.length (l.map (A.i .i64))), (7, nJ l.length), (8, nJ i)]) (fun i => ⟨[]⟩) (fun i => i ≤ l.length ∧ listedB l = ascB (lastI l i) (l.drop i)) (fun i => l.length - i) ?_ ?_
  · exact at_ex (0) (⟨Nat.zero_le _, asc_start l⟩) [] hI rfl rfl ⟨⟨_, rfl, .pure pu⟩, ⟨_, rfl, .pure pu⟩, ⟨_, rfl, .pure pu⟩, ⟨_, rfl, .pure pu⟩, trivial⟩ trivial
  rintro i ⟨hi, hl⟩
  refine at_seq ?_
  refine at_region ?_
  refine s1 (y_p rfl) rfl <| ?_
  refine at_nil ?_
  refine x_tn ?_
  refine at_seq ?_
  refine at_cond rfl (fun hc9 => ?_) (fun hc9 => ?_)
  · have h9 : i < l.length := by have := of_decide_eq_true hc9; omega
    obtain ⟨q, hq⟩ : ∃ q, l[i]? = some q := ⟨_, List.getElem?_eq_getElem h9⟩
    refine at_skip ?_
    refine x_tn ?_
    refine at_seq ?_
    refine at_block ?_
    refine at_seq ?_
    refine at_region ?_
    refine s1 (y_ixf i Tryd.underlying25 ti3 rfl rfl rfl (by omega) rfl) rfl <| s1 (y_load ti3 rfl rfl (getI4 hq)) rfl <| s1 (y_p rfl) rfl <| ?_
    refine at_nil ?_
    refine x_tn ?_
    refine at_seq ?_
    refine at_seq ?_
    refine at_region ?_
    refine s1 (y_p rfl) rfl <| s1 (y_p rfl) rfl <| s1 (y_p rfl) rfl <| s1 (y_p rfl) rfl <| ?_
    refine g_or 2 rfl rfl rfl rfl (fun hb15 => .step (y_p rfl) rfl rfl <| .step (y_p rfl) rfl rfl <| .done) rfl rfl ?_
    refine at_nil ?_
    refine x_tn ?_
    refine at_cond rfl (fun hc18 => ?_) (fun hc18 => ?_)
    · have h18 : ¬ (lastI l i < q ∧ q < 1024) := by simp at hc18; omega
      refine at_seq ?_
      refine at_region ?_
      refine s1 (y_p rfl) rfl <| ?_
      refine at_nil ?_
      refine x_tn ?_
      refine at_ret ?_
      refine x_tr ?_
      refine x_br ?_
      refine x_tr ?_
      refine x_tr ?_
      refine x_br ?_
      refine x_tr ?_
      refine at_result (rs := [.tmp 2]) rfl (r_tmp rfl r_nil) ?_
      exact congrArg A.b (asc_no hl hq h18).symm
    · have h18 : lastI l i < q ∧ q < 1024 := by simp at hc18; omega
      refine at_skip ?_
      refine x_tn ?_
      refine at_region ?_
      refine s1 ((y_p rfl).v (v' := .i .i64 (lastI l (i + 1))) (congrArg (A.i .i64) (lastI_next hq).symm)) rfl <| s1 (y_p rfl) rfl <| ?_
      refine at_nil ?_
      refine x_bn ?_
      refine x_tn ?_
      refine at_region ?_
      refine s1 (addN _ 1 rfl rfl rfl rfl (by omega)) rfl <| s1 (y_p rfl) rfl <| ?_
      refine at_nil ?_
      exact at_end (i + 1) (⟨by omega, asc_next hl hq h18⟩) (by omega) [] hI rfl rfl ⟨⟨_, rfl, .pure pu⟩, ⟨_, rfl, .pure pu⟩, ⟨_, rfl, .pure pu⟩, ⟨_, rfl, .pure pu⟩, trivial⟩ trivial
  · have h9 : i = l.length := by have := of_decide_eq_false hc9; omega
    subst h9
    refine at_exit ?_
    refine x_te ?_
    refine x_te ?_
    refine x_be ?_
    refine x_tn ?_
    refine at_seq ?_
    refine at_region ?_
    refine s1 (y_p rfl) rfl <| ?_
    refine at_nil ?_
    refine x_tn ?_
    refine at_ret ?_
    refine at_result (rs := [.tmp 2]) rfl (r_tmp rfl r_nil) ?_
    exact congrArg A.b (asc_end hl).symm
set_option linter.unusedSimpArgs false in
set_option linter.unusedVariables false in
set_option maxHeartbeats 1000000 in
set_option maxRecDepth 10000 in
theorem cchk_ok (c : Cas) (hx : c.x.length = 32) (hn : c.E.length ≤ maxLen) : Con Tryd.prog 38 [.ag (casL c)] (Ret (.i .i64 (errC (chkC c)))) := by
  refine enter Tryd.func38 rfl Tryd.ntmps38 (by kernel_rfl) (Nat.le_of_ble_eq_true rfl) fun w0 X0 hI => ?_
  refine at_seq ?_
  refine at_region ?_
  refine at_op rfl (n_boxA 1 rfl rfl rfl ?_)
  refine s1 ((y_p rfl).v (v' := .i .i64 0) rfl) rfl <| ?_
  refine at_nil ?_
  refine x_tn ?_
  refine at_seq ?_
  refine at_seq ?_
  refine at_region ?_
  refine s1 (y_fld Tryd.underlying27 rfl ti24 (by decide) rfl rfl) rfl <| s1 (y_load ti24 rfl rfl (cas_F hx)) rfl <| s1 (y_len Tryd.underlying24 rfl rfl rfl) rfl <| s1 (y_p rfl) rfl <| s1 (y_p rfl) rfl <| ?_
  refine at_bc 9 rfl (fun hc9 => ?_) (fun hc9 => ?_)
  · have h4 : ¬ c.F.length ≤ 16 := by simp at hc9; omega
    refine g0 rfl rfl rfl rfl <| g0 rfl rfl rfl rfl <| g0 rfl rfl rfl rfl <| g0 rfl rfl rfl rfl <| s1 (y_p rfl) rfl <| ?_
    refine at_nil ?_
    refine x_tn ?_
    refine at_then rfl ?_
    refine at_seq ?_
    refine at_region ?_
    refine s1 ((y_p rfl).v (v' := .i .i64 340) rfl) rfl <| ?_
    refine at_nil ?_
    refine x_tn ?_
    refine at_ret ?_
    refine x_tr ?_
    refine at_result (rs := [.tmp 2]) rfl (r_tmp rfl r_nil) ?_
    exact congrArg (A.i .i64) (by rw [chkC_no1 h4]; rfl)
  · have h4 : c.F.length ≤ 16 := by simp at hc9; omega
    refine g1 rfl rfl (y_fld Tryd.underlying27 rfl ti25 (by decide) rfl rfl) rfl <| g1 rfl rfl (y_load ti25 rfl rfl (cas_E hx)) rfl <| ?_
    refine at_opg rfl rfl rfl (n_call false rfl (.cons (.pure pu) (.nil)) (listed_ok c.E hn) pu (.inl rfl) rfl ?_)
    refine g1 rfl rfl (y_p rfl) rfl <| s1 (y_p rfl) rfl <| ?_
    refine at_nil ?_
    refine x_tn ?_
    refine at_cond rfl (fun hc14 => ?_) (fun hc14 => ?_)
    · have h14 : listedB c.E = false := by simpa using hc14
      refine at_seq ?_
      refine at_region ?_
      refine s1 ((y_p rfl).v (v' := .i .i64 340) rfl) rfl <| ?_
      refine at_nil ?_
      refine x_tn ?_
      refine at_ret ?_
      refine x_tr ?_
      refine at_result (rs := [.tmp 2]) rfl (r_tmp rfl r_nil) ?_
      exact congrArg (A.i .i64) (by rw [chkC_no2 h14]; rfl)
    · have h14 : listedB c.E = true := by simpa using hc14
      refine at_skip ?_
      refine x_tn ?_
      refine at_seq ?_
      refine at_seq ?_
      refine at_region ?_
      refine s1 (y_fld Tryd.underlying27 rfl ti24 (by decide) rfl rfl) rfl <| s1 (y_load ti24 rfl rfl (cas_F hx)) rfl <| s1 (y_len Tryd.underlying24 rfl rfl rfl) rfl <| s1 ((y_p rfl).v (v' := .i .i64 0) rfl) rfl <| ?_
      refine at_nil ?_
      refine x_tn ?_
      refine at_block ?_
      refine at_loop (ι := Nat) (fun i => [(16, filsA c.F), (17, nJ c.F.length), (18, nJ i)]) (fun i => ⟨[]⟩) (fun i => i ≤ c.F.length ∧ levB 0 c.F = levB i (c.F.drop i)) (fun i => c.F.length - i) ?_ ?_
      · exact at_ex (0) (⟨Nat.zero_le _, rfl⟩) [] hI rfl rfl ⟨⟨_, rfl, .pure pu⟩, ⟨_, rfl, .pure pu⟩, ⟨_, rfl, .pure pu⟩, trivial⟩ trivial
      rintro i ⟨hi, hl⟩
      refine at_seq ?_
      refine at_region ?_
      refine s1 (y_p rfl) rfl <| ?_
      refine at_nil ?_
      refine x_tn ?_
      refine at_seq ?_
      refine at_cond rfl (fun hc19 => ?_) (fun hc19 => ?_)
      · have h19 : i < c.F.length := by have := of_decide_eq_true hc19; omega
        obtain ⟨f, hf⟩ : ∃ f, c.F[i]? = some f := ⟨_, List.getElem?_eq_getElem h19⟩
        refine at_skip ?_
        refine x_tn ?_
        refine at_seq ?_
        refine at_block ?_
        refine at_seq ?_
        refine at_region ?_
        refine s1 (y_p rfl) rfl <| s1 (y_ixf i Tryd.underlying24 ti82 rfl rfl rfl (by omega) rfl) rfl <| s1 (y_loadA ti82 rfl rfl (flat_get hf) rfl) rfl <| ?_
        refine at_op rfl (n_alloc 4 rfl ti82 rfl rfl ?_)
        refine s1 (y_p rfl) rfl <| ?_
        refine at_op rfl (n_storeA ti82 rfl rfl rfl (by first | rfl | omega | (simp; done) | (simp [*]; done) | (simp; omega) | (simp [*]; omega) | (simp [D32.len, -List.length_flatten, *]; done) | (simp [D32.len, -List.length_flatten, *]; omega)) (by first | rfl | omega | (simp; done) | (simp [*]; done) | (simp; omega) | (simp [*]; omega) | (simp [D32.len, -List.length_flatten, *]; done) | (simp [D32.len, -List.length_flatten, *]; omega)) ?_)
        refine at_nil ?_
        refine x_tn ?_
        refine at_seq ?_
        refine at_region ?_
        refine s1 (y_fld Tryd.underlying82 rfl ti3 (by decide) rfl rfl) rfl <| s1 (y_load ti3 rfl rfl rfl) rfl <| s1 (y_p rfl) rfl <| s1 (y_p rfl) rfl <| s1 (y_p rfl) rfl <| ?_
        refine at_bc 27 rfl (fun hc27 => ?_) (fun hc27 => ?_)
        · have h27 : ¬ f.lv = i := by simpa using hc27
          refine g0 rfl rfl rfl rfl <| g0 rfl rfl rfl rfl <| g0 rfl rfl rfl rfl <| s1 (y_p rfl) rfl <| ?_
          refine at_nil ?_
          refine x_tn ?_
          refine at_then rfl ?_
          refine at_seq ?_
          refine at_region ?_
          refine s1 ((y_p rfl).v (v' := .i .i64 340) rfl) rfl <| ?_
          refine at_nil ?_
          refine x_tn ?_
          refine at_ret ?_
          refine x_br ?_
          refine x_tr ?_
          refine x_tr ?_
          refine x_br ?_
          refine x_tr ?_
          refine at_result (rs := [.tmp 2]) rfl (r_tmp rfl r_nil) ?_
          exact congrArg (A.i .i64) (by rw [chkC_no3 (lev_no hl hf (fun h => h27 h.1))]; rfl)
        · have h27 : f.lv = i := by simpa using hc27
          refine g1 rfl rfl (y_loadA0 ti82 rfl rfl rfl) rfl <| ?_
          refine at_opg rfl rfl rfl (n_call false rfl (.cons (.pure pu) (.nil)) (fchk_ok f.lv f.nb f.D) pu (.inl rfl) rfl ?_)
          refine g1 rfl rfl (y_p rfl) rfl <| s1 (y_p rfl) rfl <| ?_
          refine at_nil ?_
          refine x_tn ?_
          refine at_cond rfl (fun hc31 => ?_) (fun hc31 => ?_)
          · have h31 : ¬ (f.lv = i ∧ chkB f.lv f.nb f.D = true) := by intro h; simp [h.2, errF] at hc31
            refine at_seq ?_
            refine at_region ?_
            refine s1 ((y_p rfl).v (v' := .i .i64 340) rfl) rfl <| ?_
            refine at_nil ?_
            refine x_tn ?_
            refine at_ret ?_
            refine x_br ?_
            refine x_tr ?_
            refine x_tr ?_
            refine x_br ?_
            refine x_tr ?_
            refine at_result (rs := [.tmp 2]) rfl (r_tmp rfl r_nil) ?_
            exact congrArg (A.i .i64) (by rw [chkC_no3 (lev_no hl hf h31)]; rfl)
          · have h31 : f.lv = i ∧ chkB f.lv f.nb f.D = true := ⟨h27, by cases hk : chkB f.lv f.nb f.D with | true => rfl | false => simp [hk, errF] at hc31⟩
            refine at_skip ?_
            refine x_bn ?_
            refine x_tn ?_
            refine at_region ?_
            refine s1 (addN _ 1 rfl rfl rfl rfl (by omega)) rfl <| s1 (y_p rfl) rfl <| ?_
            refine at_nil ?_
            exact at_end (i + 1) (⟨by omega, lev_next hl hf h31.1 h31.2⟩) (by omega) [] hI rfl rfl ⟨⟨_, rfl, .pure pu⟩, ⟨_, rfl, .pure pu⟩, ⟨_, rfl, .pure pu⟩, trivial⟩ trivial
      · have h19 : i = c.F.length := by have := of_decide_eq_false hc19; omega
        subst h19
        refine at_exit ?_
        refine x_te ?_
        refine x_te ?_
        refine x_be ?_
        refine x_tn ?_
        refine at_seq ?_
        refine at_region ?_
        refine s1 ((y_p rfl).v (v' := .i .i64 0) rfl) rfl <| ?_
        refine at_nil ?_
        refine x_tn ?_
        refine at_ret ?_
        refine at_result (rs := [.tmp 2]) rfl (r_tmp rfl r_nil) ?_
        exact congrArg (A.i .i64) (by rw [chkC_yes h4 h14 (lev_end hl)]; rfl)
end Go.Abs.D2

/-! AbsS -/
namespace Go.Abs
open Go Go.Eng
section
variable {P : Program} {w0 : Bw} {X0 : Xs} {n : Nat} {E : Ev} {st : St} {K : Act → World → Prop} {Q : Exit → Act → World → Prop}
theorem n_callHO {d : Nat} (nx : Nat) (hfr : st.free nx = true) (s0 : St) (ow : Bool) {f : FuncId} {xs : List Operand} {vs vs' ds : List A} {s m : Nat} {ats : Array TypeId} {ty : TypeId} {pos aft' g} (hxs : evsA E xs = some vs) (hS : SubL st s0 ow s0.os) (hv : VwL st s0 ow vs vs')
    (hc : ConS P f vs' s0 (RetO s m ds)) (hp : PureL ds) (hf : ow = false ∨ FlatL ds) (hd : Nat.ble (d + 1) n = true) (h : At w0 X0 n ((d, .sl nx s 0 m) :: E) ((aft s0 st []).put nx ds) K) :
    At w0 X0 n E st (fun a w => (⟨some d, .call { callee := .value (.func f), args := xs.toArray, argTypes := ats }, ty, pos, aft', g⟩ : Oper).wp P a w K Q) := by
  rintro a w ⟨β, X, hr⟩
  have hss : ∀ id cs, s0.get id = some cs → st.get id = some cs := fun id cs h => (SubL_get hS h).1
  refine call_core (fs := []) (cs := []) hr rfl hxs hS (by simpa using hv) hc fun v w' ⟨r, β', X', st', hR, hsup, hsub, hm, hvv⟩ => ?_
  obtain ⟨id, rfl, hg⟩ := hR
  obtain ⟨m1, m2, m3, m4, m6⟩ := hm.after hr hss hsub hsup (upds := []) (fun p hp => by cases hp)
  have hnx := hr.mem.dom nx hfr
  have hfa : ∀ k, (aft s0 st []).free k = true → st.free k = true := fun k => (aft_get (s0 := s0) (st := st) (upds := [])).2
  have hga : ∀ k ck, (aft s0 st []).get k = some ck → s0.free k = true ∧ st.get k = some ck := fun k ck hk => by
    rcases (aft_get (s0 := s0) (st := st) (upds := [])).1 ck hk with h | h
    · cases h
    · exact h
  have ho := hm.obj id ds hg
  unfold OB at ho
  simp only [V] at hvv
  rcases hvv with ⟨hβ, rfl, _, rfl⟩ | ⟨b, N, cap, hβ, rfl, c1, c2, c3⟩
  · rw [hβ] at ho
    have ho : ds = [] := ho
    subst ho
    have m5 : Mem w0 (upd β nx .ph) (fun b o => X b o ∨ (X' b o ∧ (bw w (rst s0 β) s0 rst_none).own b)) ((aft s0 st []).put nx []) w' := by
      refine .of (m1.below) (fun k y h => (upd_ext hnx) k y (m1.b0 k y h)) (m1.xlt) (fun k h => ?_) (fun k es hk => ?_) (fun i j ci cj q M N' hij hi hj hbi hbj => ?_)
      · rw [St.free_put] at h
        split at h
        · cases h
        · rename_i hne
          rw [upd_ne (fun e => hne e.symm)]
          exact hr.mem.dom k (hfa k h)
      · rw [St.get_put] at hk
        split at hk
        · rename_i e; subst e
          simp only [Option.some.injEq] at hk
          subst hk
          unfold OB
          rw [upd_at]
        · refine (m1.obj k es hk).later (fun _ _ h => ⟨h, rfl⟩) (upd_ext hnx) fun q M hq => ⟨rfl, ?_⟩
          have hk' := m1.obj k es hk
          unfold OB at hk'
          rw [hq] at hk'
          exact hk'.2.1
      · rw [St.get_put] at hi hj
        by_cases ei : nx = i
        · subst ei; rw [upd_at] at hbi; cases hbi
        · rw [if_neg ei] at hi
          rw [upd_ne (by omega)] at hbi
          by_cases ej : nx = j
          · subst ej; rw [upd_at] at hbj; cases hbj
          · rw [if_neg ej] at hj
            rw [upd_ne (by omega)] at hbj
            exact m1.inj i j ci cj q M N' hij hi hj hbi hbj
    exact h _ _ ⟨_, _, hr.putv hd m2 m3 (upd_ext hnx) m5 (by simp only [V]; exact .inl ⟨upd_at, by simp⟩)⟩
  · rw [hβ] at ho
    obtain ⟨o1, o2, us, rest, ety, o3, o4, o5, o6⟩ := ho
    have hown : w0.own b ∧ ∀ k ck q M, (aft s0 st []).get k = some ck → β k = some (.bk q M) → q ≠ b := by
      rcases o1 with h | ⟨id', cs', N', h1, h2⟩
      · have h : w.heap.size ≤ b := h
        refine ⟨Bw.own_new hr.mem.below h, fun k ck q M hk hq => ?_⟩
        have := m6 q M k ck (hga k ck hk).2 hq
        omega
      · obtain ⟨g3, g4⟩ := rst_some h2
        have ho' := hr.mem.obj id' cs' (hss id' cs' h1)
        unfold OB at ho'
        rw [g4] at ho'
        refine ⟨ho'.1, fun k ck q M hk hq e => ?_⟩
        subst e
        obtain ⟨k1, k2⟩ := hga k ck hk
        refine hr.mem.inj k id' ck cs' q M N' (fun e => ?_) k2 (hss id' cs' h1) hq g4
        subst e; rw [k1] at g3; cases g3
    have hnX : ∀ o, ¬ (X b o ∨ (X' b o ∧ (bw w (rst s0 β) s0 rst_none).own b)) := fun o h => by
      rcases h with h | ⟨h, _⟩
      · exact o2 o (hsup b o (.inl h))
      · exact o2 o h
    have hvs : VS (fun b o => X b o ∨ (X' b o ∧ (bw w (rst s0 β) s0 rst_none).own b)) w' (upd β nx (.bk b N)) ds us := by
      rcases hf with hf | hf
      · exact VS_mono (m4 hf) _ _ _ _ (ExtB.refl _) (VS_pure _ _ hp o5)
      · exact VS_flat _ _ hf o5
    have m5 : Mem w0 (upd β nx (.bk b N)) (fun b o => X b o ∨ (X' b o ∧ (bw w (rst s0 β) s0 rst_none).own b)) ((aft s0 st []).put nx ds) w' := by
      refine .of (m1.below) (fun k y h => (upd_ext hnx) k y (m1.b0 k y h)) (m1.xlt) (fun k h => ?_) (fun k es hk => ?_) (fun i j ci cj q M N' hij hi hj hbi hbj => ?_)
      · rw [St.free_put] at h
        split at h
        · cases h
        · rename_i hne
          rw [upd_ne (fun e => hne e.symm)]
          exact hr.mem.dom k (hfa k h)
      · rw [St.get_put] at hk
        split at hk
        · rename_i e; subst e
          simp only [Option.some.injEq] at hk
          subst hk
          unfold OB
          rw [upd_at]
          exact ⟨hown.1, hnX, us, rest, ety, o3, o4, hvs, o6⟩
        · refine (m1.obj k es hk).later (fun _ _ h => ⟨h, rfl⟩) (upd_ext hnx) fun q M hq => ⟨rfl, ?_⟩
          have hk' := m1.obj k es hk
          unfold OB at hk'
          rw [hq] at hk'
          exact hk'.2.1
      · rw [St.get_put] at hi hj
        by_cases ei : nx = i
        · by_cases ej : nx = j
          · omega
          · rw [if_neg ej] at hj
            rw [← ei, upd_at] at hbi
            rw [upd_ne (by omega)] at hbj
            simp only [Option.some.injEq, BL.bk.injEq] at hbi
            exact hown.2 j cj q N' hj hbj (by omega)
        · rw [if_neg ei] at hi
          rw [upd_ne (by omega)] at hbi
          by_cases ej : nx = j
          · rw [← ej, upd_at] at hbj
            simp only [Option.some.injEq, BL.bk.injEq] at hbj
            exact hown.2 i ci q M hi hbi (by omega)
          · rw [if_neg ej] at hj
            rw [upd_ne (by omega)] at hbj
            exact m1.inj i j ci cj q M N' hij hi hj hbi hbj
    exact h _ _ ⟨_, _, hr.putv hd m2 m3 (upd_ext hnx) m5 (by simp only [V]; exact .inr ⟨b, N, cap, upd_at, rfl, c1, c2, c3⟩)⟩
end
end Go.Abs
namespace Go.Eng
theorem y_s2ap {P : Program} {n : Nat} {E : Env} {S : List World} {H : List (Nat × Obj)} {t e : TypeId} {len : Nat} {x : Operand} {a : Option Addr} {m cap : Nat} {ty : TypeId} (ht : P.underlying t = some (.array len e)) (hx : ev E x = some (.slice a m cap)) (hm : len ≤ m) : YO P n E S H (.sliceToArrayPointer t x) ty (.pointer a) := by
  intro d pos aft g c w hR hG
  have : (Instr.arrayAt t (.slice a m cap)).run P w = .ok (.pointer a) w := by
    unfold Instr.arrayAt
    simp only [Sem.run_bind, run_underlying ht, Result.andThen_ok]
    rw [if_neg (by omega)]
    simp
  simp only [execOp, hR.ev hx]
  rw [Sem.run_bind, this]
  rfl
end Go.Eng
namespace Go.Abs
open Go Go.Eng
section
variable {P : Program} {E : Ev} {st : St}
theorem y_s2ap {ty t e : TypeId} {x : Operand} {len m : Nat} {cs : List A} (ht : P.underlying t = some (.array len e)) (hx : ev E x = some (.fz m cs)) (h0 : 0 < m) (hm : len ≤ m) : YO P E st (.sliceToArrayPointer t x) ty (.fp cs) := by
  intro w0 X0 n β X a w hr
  obtain ⟨g1, g2⟩ := hr.evo hx
  simp only [V] at g2
  obtain ⟨ad, cap, e1, e2, e3, e4, e5, e6⟩ := g2
  rw [e1] at g1
  cases ad with
  | none => exact absurd (e4 rfl) (by omega)
  | some ad =>
    obtain ⟨b, o, s⟩ := ad
    obtain rfl : s = none := e5 (by omega) _ rfl
    exact ⟨.pointer (some ⟨b, o, none⟩), by simp only [V]; exact ⟨_, _, rfl, e6⟩, hr.old fun w' _ => Eng.y_s2ap ht g1 hm⟩
end
end Go.Abs
namespace Go.Abs
open Go Go.Eng
section
variable {P : Program} {n : Nat}
/-- The frame that forgets the numbers of what was handed in. -/
def bwH (w : World) (β : Bm) (s0 : St) : Bw := ⟨w, fun b => ∃ id cs N, s0.get id = some cs ∧ β id = some (.bk b N), fun _ => none, [], fun id x h => (by cases h), []⟩
theorem fresh_far : ∀ os : List (Nat × Option (List A)), ∃ N, ∀ K, N ≤ K → fresh os K = true
  | [] => ⟨0, fun _ _ => rfl⟩
  | p :: os => by
    obtain ⟨N, h⟩ := fresh_far os
    refine ⟨N + p.1 + 1, fun K hK => ?_⟩
    rw [fresh_cons, if_neg (by omega)]
    exact h K (by omega)
theorem fresh_gone : ∀ (os : List (Nat × Option (List A))) (K : Nat), fresh ((os.map fun p => (p.1, (none : Option (List A)))) ++ []) K = fresh os K
  | [], _ => rfl
  | p :: os, K => by
    rw [List.map_cons, List.cons_append, fresh_cons, fresh_cons, fresh_gone os K]
theorem post_H {w : World} {X : Xs} {β : Bm} {s0 : St} {hd : ∀ id, s0.free id = true → β id = none} {s m : Nat} {ds : List A} {v : Value} {w' : World} (hp : PureL ds) (h : Post (bwH w β s0) X (RetO s m ds) v w') : Post (bw w β s0 hd) X (RetO s m ds) v w' := by
  obtain ⟨r, β', X', st', ⟨id, rfl, hg⟩, h1, h2, hm, hv⟩ := h
  obtain ⟨N0, hN⟩ := fresh_far s0.os
  have hK : s0.free N0 = true := hN N0 (Nat.le_refl _)
  have hnx := hd N0 hK
  have hbel : KB (bw w β s0 hd) w' := ⟨hm.below.os, hm.below.tape, hm.below.output, hm.below.size, hm.below.block, fun s hs => by cases hs⟩
  have hfa : ∀ k, (aft s0 ⟨[]⟩ []).free k = true → s0.free k = true := fun k hk => by
    have := fresh_gone s0.os k
    unfold aft St.free at hk
    unfold St.free
    rw [← this]; exact hk
  have hga : ∀ k ck, (aft s0 ⟨[]⟩ []).get k = some ck → False := fun k ck hk => by
    rcases (aft_get (s0 := s0) (st := ⟨[]⟩) (upds := [])).1 ck hk with h | ⟨_, h⟩
    · cases h
    · cases h
  have ho := hm.obj id ds hg
  unfold OB at ho
  have key : ∀ y : BL, (match (some y : Option BL) with | none => False | some .ph => ds = [] | some (.bk b N) => (bw w β s0 hd).own b ∧ (∀ o, ¬ X' b o) ∧ ∃ us rest ty, w'.heap[b]? = some (row ty (us ++ rest)) ∧ us.length + rest.length = N ∧ VS X' w' (upd β N0 y) ds us ∧ ∀ x ∈ us, x.oneCell' = true) → Mem (bw w β s0 hd) (upd β N0 y) X' ((aft s0 ⟨[]⟩ []).put N0 ds) w' := fun y hy => by
    refine .of hbel (upd_ext hnx) hm.xlt (fun k h => ?_) (fun k es hk => ?_) (fun i j ci cj q M N' hij hi hj hbi hbj => ?_)
    · rw [St.free_put] at h
      split at h
      · cases h
      · rename_i hne
        rw [upd_ne (fun e => hne e.symm)]
        exact hd k (hfa k h)
    · rw [St.get_put] at hk
      split at hk
      · rename_i e; subst e
        simp only [Option.some.injEq] at hk
        subst hk
        unfold OB
        rw [upd_at]
        exact hy
      · exact absurd hk (fun h => hga k es h)
    · rw [St.get_put] at hi hj
      by_cases ei : N0 = i
      · rw [if_neg (by omega)] at hj
        exact absurd hj (fun h => hga j cj h)
      · rw [if_neg ei] at hi
        exact absurd hi (fun h => hga i ci h)
  simp only [V] at hv
  rcases hv with ⟨hβ, rfl, e2, rfl⟩ | ⟨b, N, cap, hβ, rfl, c1, c2, c3⟩
  · rw [hβ] at ho
    refine ⟨.sl N0 s 0 0, upd β N0 .ph, X', _, ⟨N0, rfl, by rw [St.get_put, if_pos rfl]⟩, h1, h2, key .ph ho, ?_⟩
    simp only [V]; exact .inl ⟨upd_at, by simp⟩
  · rw [hβ] at ho
    obtain ⟨o1, o2, us, rest, ety, o3, o4, o5, o6⟩ := ho
    refine ⟨.sl N0 s 0 m, upd β N0 (.bk b N), X', _, ⟨N0, rfl, by rw [St.get_put, if_pos rfl]⟩, h1, h2, key (.bk b N) ⟨o1, o2, us, rest, ety, o3, o4, VS_pure _ _ hp o5, o6⟩, ?_⟩
    simp only [V]; exact .inr ⟨b, N, cap, upd_at, rfl, c1, c2, c3⟩
/-- Into a function that gives its result in an object of its own, and forgets what it was handed. -/
theorem enterHM {f : FuncId} {fn : Func} {c : Code} {args : List A} {s0 : St} {s m : Nat} {ds : List A} (hp : PureL ds) (hf : P.funcs[f]? = some fn) (hb : fn.body = some c)
    (hn : fn.ntmps = n) (hname : (fn.name == "runtime.NumGoroutine") = false) (ha : args.length ≤ n)
    (h : ∀ w0 X0, w0.ids = [] → w0.sus = [] → At w0 X0 n (argsE args 0) s0 (Pw [] (c.wpIn (rF none) 0 P (bodyPostM (rF none) 0 P fn fun e w' => ∃ v, e = .returned v ∧ Post w0 X0 (RetO s m ds) v w')))) : ConS P f args s0 (RetO s m ds) := by
  intro w X β us hd hX hgl ho hi hv
  have hl := VS_len hv
  refine Eng.Fn.mono (R := Post (bwH w β s0) X (RetO s m ds)) ⟨⟨fn, hf, by simp [hb], hname⟩, (callsIn_wide (n := 0)).1 (callsIn_of_wp_marks hf hb trivial (wp_nil (h (bwH w β s0) X rfl rfl _ w ⟨β, X, .of (fun _ _ h => h) (fun _ _ h => .inl h) (.of ⟨rfl, rfl, rfl, Nat.le_refl _, fun _ _ _ => rfl, fun s hs => by cases hs⟩ (fun _ _ h => by cases h) hX hd ho hi) hgl ?_ rfl (fun s hs => by cases hs) (fun t v ht => ?_)⟩)))⟩ (fun _ _ h => post_H hp h)
  · simp [hn]; omega
  · obtain ⟨_, h2⟩ := argsE_at _ _ _ _ ht
    simp only [Nat.sub_zero] at h2
    obtain ⟨u, g1, g2⟩ := VS_get hv h2
    have hlt := (List.getElem?_eq_some_iff.1 g1).1
    refine ⟨u, ?_, g2⟩
    rw [Array.getElem?_append, if_pos (by simpa using hlt)]
    simpa using g1
end
theorem all_rep {p : Value → Bool} {z : Value} {n : Nat} (h : p z = true) : (List.replicate n z).all p = true := List.all_eq_true.2 fun x hx => by rw [List.eq_of_mem_replicate hx]; exact h
section
variable {P : Program} {w0 : Bw} {X0 : Xs} {n : Nat} {E : Ev} {st : St} {Q : Exit → Act → World → Prop} {r : Option Nat} {ds : List Nat}
/-- A guard that says yes may be left out. -/
theorem at_ung {ops : Array Oper} {rest : List Oper} {dst : Option Nat} {op : Op} {ty : TypeId} {pos : String} {aft' : Array Edge} {j t : Nat} {b : Bool} (hj : guardSlot ops j = some t) (hb : E.at? t = some (.b b))
    (h : At w0 X0 n E st (Pw ds (wpListIn (rF r) 0 P ops Q (⟨dst, op, ty, pos, aft', none⟩ :: rest)))) : At w0 X0 n E st (Pw ds (wpListIn (rF r) 0 P ops Q (⟨dst, op, ty, pos, aft', some (j, b)⟩ :: rest))) := fun a w hr => by
  have h1 : wpListIn (rF r) 0 P ops Q (⟨dst, op, ty, pos, aft', none⟩ :: rest) (a.wd ds) w := h a w hr
  show wpListIn (rF r) 0 P ops Q (⟨dst, op, ty, pos, aft', some (j, b)⟩ :: rest) (a.wd ds) w
  unfold wpListIn at h1 ⊢
  rw [if_pos (by simp [Region.wanted])] at h1
  rw [if_pos (by obtain ⟨β, X, hr⟩ := hr; simp [Region.wanted, tmps_wd, hr.yields hj hb])]
  exact h1
end
end Go.Abs

/-! S7P -/
namespace Go.Abs.D2
open Go Go.Eng Go.Abs
/-- Is the head of a cascade valid? -/
def hedB : Nat → List Fil → Bool
  | _, [] => true
  | i, f :: F => decide (f.lv = i ∧ 8 ≤ f.nb ∧ f.nb ≤ 4096) && hedB (i + 1) F
def headB (F : List Fil) : Bool := decide (F.length ≤ 16) && hedB 0 F
theorem hed_drop {F : List Fil} {f : Fil} {i : Nat} (h : F[i]? = some f) : hedB i (F.drop i) = (decide (f.lv = i ∧ 8 ≤ f.nb ∧ f.nb ≤ 4096) && hedB (i + 1) (F.drop (i + 1))) := by
  have hi := (List.getElem?_eq_some_iff.1 h).1
  rw [List.drop_eq_getElem_cons hi, (List.getElem?_eq_some_iff.1 h).2]
  rfl
theorem hed_next {F : List Fil} {f : Fil} {i : Nat} (h0 : hedB 0 F = hedB i (F.drop i)) (h : F[i]? = some f) (h1 : f.lv = i ∧ 8 ≤ f.nb ∧ f.nb ≤ 4096) : hedB 0 F = hedB (i + 1) (F.drop (i + 1)) := by
  rw [h0, hed_drop h, decide_eq_true h1, Bool.true_and]
theorem hed_no {F : List Fil} {f : Fil} {i : Nat} (h0 : hedB 0 F = hedB i (F.drop i)) (h : F[i]? = some f) (h1 : ¬ (f.lv = i ∧ 8 ≤ f.nb ∧ f.nb ≤ 4096)) : headB F = false := by
  unfold headB
  rw [h0, hed_drop h, decide_eq_false h1, Bool.false_and, Bool.and_false]
theorem hed_big {F : List Fil} (h : ¬ F.length ≤ 16) : headB F = false := by unfold headB; rw [decide_eq_false h, Bool.false_and]
theorem hed_end {F : List Fil} (h1 : F.length ≤ 16) (h0 : hedB 0 F = hedB F.length (F.drop F.length)) : headB F = true := by
  unfold headB
  rw [h0, List.drop_length, decide_eq_true h1]; rfl
theorem hed_get : ∀ {F : List Fil} {j i : Nat} {f : Fil}, hedB j F = true → F[i]? = some f → f.lv = (j + i : Nat) ∧ 8 ≤ f.nb ∧ f.nb ≤ 4096
  | [], _, _, _, _, h => by simp at h
  | g :: F, j, i, f, h0, h => by
    simp only [hedB, Bool.and_eq_true, decide_eq_true_eq] at h0
    cases i with
    | zero => simp at h; subst h; exact h0.1
    | succ i =>
      have := hed_get h0.2 (by simpa using h)
      rw [show j + (i + 1) = j + 1 + i by omega]; exact this
theorem head_len {F : List Fil} (h : headB F = true) : F.length ≤ 16 := by
  unfold headB at h; simp only [Bool.and_eq_true, decide_eq_true_eq] at h; exact h.1
theorem head_get {F : List Fil} {i : Nat} {f : Fil} (h : headB F = true) (hf : F[i]? = some f) : f.lv = (i : Nat) ∧ ∃ n : Nat, f.nb = (n : Int) ∧ 8 ≤ n ∧ n ≤ 4096 := by
  unfold headB at h; simp only [Bool.and_eq_true, decide_eq_true_eq] at h
  have := hed_get h.2 hf
  refine ⟨by rw [this.1]; simp, f.nb.toNat, by omega, by omega, by omega⟩
def numB (id : Int) : Bool := decide (0 ≤ id ∧ id < 1024)
theorem num_nat {id : Int} (h : numB id = true) : ∃ j : Nat, id = (j : Int) ∧ j < 1024 := by
  have := of_decide_eq_true h
  exact ⟨id.toNat, by omega, by omega⟩
/-- The bit of a number in the filter of a level; 0 where there is none. -/
@[irreducible] def bitsAt (c : Cas) (id i k : Nat) : Nat := match c.F[i]? with
  | some f => bN c.x i f.nb.toNat id k
  | none => 0
theorem bitsAt_some {c : Cas} {id i k : Nat} {f : Fil} {n : Nat} (h : c.F[i]? = some f) (hn : f.nb = (n : Int)) : bitsAt c id i k = bN c.x i n id k := by
  unfold bitsAt; rw [h]; simp [hn]
theorem bitsAt_none {c : Cas} {id i k : Nat} (h : ¬ i < c.F.length) : bitsAt c id i k = 0 := by
  unfold bitsAt; rw [List.getElem?_eq_none (by omega)]
theorem bitsAt_lt {c : Cas} (hh : headB c.F = true) (id i k : Nat) : bitsAt c id i k < 4096 := by
  by_cases h : i < c.F.length
  · obtain ⟨f, hf⟩ : ∃ f, c.F[i]? = some f := ⟨_, List.getElem?_eq_getElem h⟩
    obtain ⟨_, n, hn, h1, h2⟩ := head_get hh hf
    rw [bitsAt_some hf hn]
    exact Nat.lt_of_lt_of_le (bN_lt (by omega) k) h2
  · rw [bitsAt_none h]; omega
/-- The two bits, aS Go tells them. -/
abbrev bits2 (c : Cas) (id i : Nat) : A := .fz 2 [nJ (bitsAt c id i 0), nJ (bitsAt c id i 1)]
theorem bits2_some {c : Cas} {id i : Nat} {f : Fil} {n : Nat} (h : c.F[i]? = some f) (hn : f.nb = (n : Int)) : A.fz 2 ((bitL c.x i n id 2).map nJ) = bits2 c id i := by
  rw [bitL_2, bits2, bitsAt_some h hn, bitsAt_some h hn]; rfl
theorem bits2_none {c : Cas} {id i : Nat} (h : ¬ i < c.F.length) : A.fz 2 [nJ 0, nJ 0] = bits2 c id i := by
  rw [bits2, bitsAt_none h, bitsAt_none h]
theorem bits2_get (c : Cas) (id i : Nat) {k : Nat} (h : k < 2) : ([nJ (bitsAt c id i 0), nJ (bitsAt c id i 1)].drop (k * 1))[0]? = some (nJ (bitsAt c id i k)) := by
  match k, h with
  | 0, _ => rfl
  | 1, _ => rfl
/-- The place of a bit. -/
def plc (c : Cas) (id j : Nat) : Int := ((32 * (j / 2) + bitsAt c id (j / 2) (j % 2) / 128 : Nat) : Int)
theorem plc_at (c : Cas) (id i : Nat) {k : Nat} (h : k < 2) : plc c id (2 * i + k) = ((32 * i + bitsAt c id i k / 128 : Nat) : Int) := by
  unfold plc
  rw [show (2 * i + k) / 2 = i by omega, show (2 * i + k) % 2 = k by omega]
def plcL (c : Cas) (id n : Nat) : List Int := (List.range n).map (plc c id)
@[simp] theorem len_plcL (c : Cas) (id n : Nat) : (plcL c id n).length = n := by simp [plcL]
theorem plcL_s (c : Cas) (id n : Nat) : plcL c id (n + 1) = plcL c id n ++ [plc c id n] := by simp [plcL, List.range_succ]
def whereL (c : Cas) (id : Nat) : List Int := plcL c id 32 ++ [((512 + id / 128 : Nat) : Int)]
@[simp] theorem len_whereL (c : Cas) (id : Nat) : (whereL c id).length = 33 := by simp [whereL]
abbrev iA : Int → A := .i .i64
theorem plc_app (B : List Int) (c : Cas) (id i : Nat) {k : Nat} (h : k < 2) : (B ++ plcL c id (2 * i + k)).map iA ++ [nJ (32 * i + bitsAt c id i k / 128)] = (B ++ plcL c id (2 * i + (k + 1))).map iA := by
  rw [show 2 * i + (k + 1) = (2 * i + k) + 1 by omega, plcL_s, plc_at c id i h]
  simp
theorem whr_app (B : List Int) (c : Cas) (id : Nat) : (B ++ plcL c id 32).map iA ++ [nJ (512 + id / 128)] = (B ++ whereL c id).map iA := by
  unfold whereL; simp
@[irreducible] def whereA (c : Cas) (id : Int) : A := if headB c.F && numB id then .tu [intsA (whereL c id.toNat), .i .i64 0] else .tu [.nl, .i .i64 370]
theorem where_no {c : Cas} {id : Int} (h : (headB c.F && numB id) = false) : whereA c id = .tu [.nl, .i .i64 370] := by unfold whereA; rw [h]; rfl
theorem where_yes {c : Cas} {j : Nat} (h1 : headB c.F = true) (h2 : numB j = true) : whereA c j = .tu [intsA (whereL c j), .i .i64 0] := by unfold whereA; rw [h1, h2]; rfl
theorem flat_get1 {F : List Fil} {f : Fil} {i : Nat} (h : F[i]? = some f) : (((F.flatMap filC).drop (i * 3)).drop 1)[0]? = some (A.i .i64 f.nb) := by
  have := flat_get h
  have e : (((F.flatMap filC).drop (i * 3)).take 3)[1]? = some (A.i .i64 f.nb) := by rw [this]; rfl
  rw [List.getElem?_drop]
  rwa [List.getElem?_take, if_pos (by omega)] at e
theorem cas_len {c : Cas} (hx : c.x.length = 32) : (casL c).length = 34 := by simp [casL, hx]
theorem cas_all {c : Cas} (hx : c.x.length = 32) : (casL c).take 34 = casL c := List.take_of_length_le (by rw [cas_len hx]; omega)
theorem whr_cases (c : Cas) (id : Int) : headB c.F = false ∨ (headB c.F = true ∧ numB id = false) ∨ (headB c.F = true ∧ ∃ j : Nat, id = (j : Int) ∧ j < 1024 ∧ numB j = true) := by
  cases h1 : headB c.F with
  | false => exact .inl rfl
  | true =>
    cases h2 : numB id with
    | false => exact .inr (.inl ⟨rfl, rfl⟩)
    | true =>
      obtain ⟨j, rfl, hj⟩ := num_nat h2
      exact .inr (.inr ⟨rfl, j, rfl, hj, h2⟩)
def passT (p : Nat → Bool) : Nat → Nat
  | 0 => 0
  | n + 1 => if passT p n = n ∧ p n = true then n + 1 else passT p n
theorem passT_le (p : Nat → Bool) : ∀ n, passT p n ≤ n
  | 0 => Nat.le_refl _
  | n + 1 => by
    unfold passT; split
    · omega
    · have := passT_le p n; omega
theorem passT_all {p : Nat → Bool} : ∀ {n : Nat}, (∀ t, t < n → p t = true) → passT p n = n
  | 0, _ => rfl
  | n + 1, h => by unfold passT; rw [if_pos ⟨passT_all fun t ht => h t (by omega), h n (by omega)⟩]
theorem passT_no {p : Nat → Bool} {i : Nat} : ∀ {n : Nat}, i < n → (∀ t, t < i → p t = true) → p i = false → passT p n = i
  | 0, h, _, _ => by omega
  | n + 1, h, h1, h2 => by
    unfold passT
    by_cases hi : i = n
    · subst hi; rw [if_neg (by rw [h2]; simp), passT_all h1]
    · have := passT_no (n := n) (by omega) h1 h2
      rw [if_neg (by rw [this]; omega), this]
theorem passT_congr {p q : Nat → Bool} : ∀ {n : Nat}, (∀ t, t < n → p t = q t) → passT p n = passT q n
  | 0, _ => rfl
  | n + 1, h => by unfold passT; rw [passT_congr fun t ht => h t (by omega), h n (by omega)]
/-- The blocks: a bit of one. -/
def blkB (bl : List (List UInt8)) (i b : Nat) : Bool := bitA (bl.getD i []) (b % 128)
def metB (c : Cas) (id : Nat) (bl : List (List UInt8)) (i : Nat) : Bool := blkB bl (2 * i) (bitsAt c id i 0) && blkB bl (2 * i + 1) (bitsAt c id i 1)
def readV (c : Cas) (id : Nat) (bl : List (List UInt8)) : Bool := (passT (metB c id bl) c.F.length % 2 == 1) != blkB bl 32 id
def sizB (bl : List (List UInt8)) (m : Nat) : Bool := bl.length == m && !(bl.any no16)
theorem siz_len {bl : List (List UInt8)} {m : Nat} (h : sizB bl m = true) : bl.length = m := by unfold sizB at h; simp at h; exact h.1
theorem siz_get {bl : List (List UInt8)} {m i : Nat} (h : sizB bl m = true) (hi : i < m) : ∃ q, bl[i]? = some q ∧ bl.getD i [] = q ∧ q.length = 16 := by
  have hl := siz_len h
  unfold sizB at h
  rw [Bool.and_eq_true] at h
  obtain ⟨q, hq⟩ : ∃ q, bl[i]? = some q := ⟨_, List.getElem?_eq_getElem (by omega)⟩
  refine ⟨q, hq, by rw [List.getD, hq]; rfl, ?_⟩
  have h2 : bl.any no16 = false := by simpa using h.2
  have := List.any_eq_false.1 h2 q (List.mem_of_getElem? hq)
  simpa [no16] using this
@[irreducible] def readA (c : Cas) (id : Int) (bl : List (List UInt8)) : A := if headB c.F && numB id && sizB bl 33 then .tu [.b (readV c id.toNat bl), .i .i64 0] else .tu [.b false, .i .i64 370]
theorem read_no {c : Cas} {id : Int} {bl : List (List UInt8)} (h : (headB c.F && numB id && sizB bl 33) = false) : readA c id bl = .tu [.b false, .i .i64 370] := by unfold readA; rw [h]; rfl
theorem read_yes {c : Cas} {j : Nat} {bl : List (List UInt8)} (h1 : headB c.F = true) (h2 : numB j = true) (h3 : sizB bl 33 = true) : readA c j bl = .tu [.b (readV c j bl), .i .i64 0] := by unfold readA; rw [h1, h2, h3]; rfl
theorem odd_next (i : Nat) : (!(i % 2 == 1)) = ((i + 1) % 2 == 1) := by
  rw [Bool.eq_iff_iff]; simp; omega
theorem blk_byte (b : UInt8) (r : Nat) : (((UInt8.ofNat (b.toNat / 2 ^ r) &&& 1).toNat : Int) == 1) = b.toNat.testBit r := by
  have h := has_byte b r
  have h1 : ((UInt8.ofNat (b.toNat / 2 ^ r) &&& 1).toNat : Int) = 0 ∨ ((UInt8.ofNat (b.toNat / 2 ^ r) &&& 1).toNat : Int) = 1 := by
    rw [UInt8.toNat_and, show (1 : UInt8).toNat = 1 from rfl, Nat.and_one_is_mod]; omega
  rcases h1 with e | e <;> rw [e] at h ⊢ <;> cases hb : b.toNat.testBit r <;> rw [hb] at h <;> simp at h ⊢
theorem has_bit (q : List UInt8) (b : Nat) : (((UInt8.ofNat ((q.getD (b % 128 / 8) 0).toNat / 2 ^ (b % 8)) &&& 1).toNat : Int) == 1) = bitA q (b % 128) := by
  rw [blk_byte]
  unfold bitA
  rw [show b % 128 % 8 = b % 8 by omega]
theorem blkB_at {bl : List (List UInt8)} {i b : Nat} {q : List UInt8} (h : bl.getD i [] = q) : bitA q (b % 128) = blkB bl i b := by unfold blkB; rw [h]
def idxI (p : Int → Bool) (l : List Int) : Int := if l.any p then (l.findIdx p : Nat) else -1
theorem idxI_ge (p : Int → Bool) (l : List Int) : decide (0 ≤ idxI p l) = l.any p := by
  unfold idxI
  split
  · rename_i h; rw [h]; simp
  · rename_i h; rw [Bool.not_eq_true] at h; rw [h]; decide
theorem take_anyI {p : Int → Bool} {l : List Int} {j : Nat} {x : Int} (h : l[j]? = some x) (h1 : (l.take j).any p = false) (h2 : p x = false) : (l.take (j + 1)).any p = false := by
  rw [List.take_add_one, h]; simp [h1, h2]
theorem idxI_at {p : Int → Bool} {l : List Int} {j : Nat} {x : Int} (h : l[j]? = some x) (h1 : (l.take j).any p = false) (h2 : p x = true) : idxI p l = (j : Int) := by
  have hj := (List.getElem?_eq_some_iff.1 h).1
  have hx := (List.getElem?_eq_some_iff.1 h).2
  have ha : l.any p = true := List.any_eq_true.2 ⟨x, List.mem_of_getElem? h, h2⟩
  unfold idxI
  rw [if_pos ha]
  congr 1
  rw [List.findIdx_eq hj]
  refine ⟨by rw [hx]; exact h2, fun i hi => ?_⟩
  rw [List.any_eq_false] at h1
  simpa using h1 l[i] (List.mem_take_iff_getElem.2 ⟨i, by omega, rfl⟩)
theorem idxI_none {p : Int → Bool} {l : List Int} (h : (l.take l.length).any p = false) : idxI p l = -1 := by
  rw [List.take_length] at h
  unfold idxI; rw [h]; rfl
def askB (c : Cas) (ids : List Int) : Bool := headB c.F && decide (ids.length ≤ 4) && ids.all numB
def notN (id : Int) : Bool := !numB id
theorem askB_no1 {c : Cas} {ids : List Int} (h : headB c.F = false) : askB c ids = false := by unfold askB; rw [h]; rfl
theorem askB_no2 {c : Cas} {ids : List Int} (h : ¬ ids.length ≤ 4) : askB c ids = false := by unfold askB; rw [decide_eq_false h]; simp
theorem askB_3 {c : Cas} {ids : List Int} (h1 : headB c.F = true) (h : ids.length ≤ 4) : (!(ids.any notN)) = askB c ids := by
  unfold askB; rw [decide_eq_true h, h1, List.not_any_eq_all_not]
  simp [notN]
theorem rd_cases (c : Cas) (id : Int) (bl : List (List UInt8)) : headB c.F = false ∨ (headB c.F = true ∧ numB id = false) ∨ (headB c.F = true ∧ ∃ j : Nat, id = (j : Int) ∧ j < 1024 ∧ numB j = true ∧ sizB bl 33 = false) ∨ (headB c.F = true ∧ ∃ j : Nat, id = (j : Int) ∧ j < 1024 ∧ numB j = true ∧ sizB bl 33 = true) := by
  rcases whr_cases c id with h | h | ⟨h1, j, rfl, h2, h3⟩
  · exact .inl h
  · exact .inr (.inl h)
  · cases h : sizB bl 33 with
    | false => exact .inr (.inr (.inl ⟨h1, j, rfl, h2, h3, rfl⟩))
    | true => exact .inr (.inr (.inr ⟨h1, j, rfl, h2, h3, rfl⟩))
theorem met_cases (c : Cas) (j : Nat) (bl : List (List UInt8)) (i : Nat) : blkB bl (2 * i) (bitsAt c j i 0) = false ∨ (blkB bl (2 * i) (bitsAt c j i 0) = true ∧ blkB bl (2 * i + 1) (bitsAt c j i 1) = false) ∨ (blkB bl (2 * i) (bitsAt c j i 0) = true ∧ blkB bl (2 * i + 1) (bitsAt c j i 1) = true ∧ metB c j bl i = true) := by
  unfold metB
  cases blkB bl (2 * i) (bitsAt c j i 0) <;> cases blkB bl (2 * i + 1) (bitsAt c j i 1) <;> simp
theorem met_no0 {c : Cas} {j : Nat} {bl : List (List UInt8)} {i : Nat} (h : blkB bl (2 * i) (bitsAt c j i 0) = false) : metB c j bl i = false := by unfold metB; rw [h]; rfl
theorem met_no1 {c : Cas} {j : Nat} {bl : List (List UInt8)} {i : Nat} (h : blkB bl (2 * i + 1) (bitsAt c j i 1) = false) : metB c j bl i = false := by unfold metB; rw [h]; simp
theorem rd_t {c : Cas} {j : Nat} {bl : List (List UInt8)} {i : Nat} (h : passT (metB c j bl) c.F.length = i) (h2 : blkB bl 32 j = true) : (!(i % 2 == 1)) = readV c j bl := by unfold readV; rw [h, h2]; simp
theorem rd_f {c : Cas} {j : Nat} {bl : List (List UInt8)} {i : Nat} (h : passT (metB c j bl) c.F.length = i) (h2 : blkB bl 32 j = false) : (i % 2 == 1) = readV c j bl := by unfold readV; rw [h, h2]; simp
theorem ak_cases (c : Cas) (ids : List Int) : headB c.F = false ∨ (headB c.F = true ∧ ¬ ids.length ≤ 4) ∨ (headB c.F = true ∧ ids.length ≤ 4) := by
  cases headB c.F
  · exact .inl rfl
  · rcases Decidable.em (ids.length ≤ 4) with h | h
    · exact .inr (.inr ⟨rfl, h⟩)
    · exact .inr (.inl ⟨rfl, h⟩)
def putD (M : List UInt8) (o : Nat) (D : List UInt8) : Nat → List UInt8
  | 0 => M
  | k + 1 => (putD M o D k).set (o + k) (D.getD k 0)
@[simp] theorem len_putD (M : List UInt8) (o : Nat) (D : List UInt8) : ∀ k, (putD M o D k).length = M.length
  | 0 => rfl
  | k + 1 => by simp [putD, len_putD M o D k]
def zeroM : List UInt8 := List.replicate 8320 0
def filF (F : List Fil) : Nat → List UInt8
  | 0 => zeroM
  | i + 1 => putD (filF F i) (512 * i) ((F.map Fil.D).getD i []) ((F.map Fil.D).getD i []).length
@[simp] theorem len_filF (F : List Fil) : ∀ i, (filF F i).length = 8320
  | 0 => by rw [filF, zeroM, List.length_replicate]
  | i + 1 => by rw [filF, len_putD, len_filF F i]
def excF (M : List UInt8) (E : List Int) : Nat → List UInt8
  | 0 => M
  | k + 1 => setA (excF M E k) (65536 + (E.getD k 0).toNat)
@[simp] theorem len_excF (M : List UInt8) (E : List Int) : ∀ k, (excF M E k).length = M.length
  | 0 => rfl
  | k + 1 => by rw [excF, len_setA, len_excF M E k]
@[irreducible] def imgB (c : Cas) : List UInt8 := excF (filF c.F c.F.length) c.E c.E.length
theorem imgB_eq (c : Cas) : imgB c = excF (filF c.F c.F.length) c.E c.E.length := by unfold imgB; rfl
@[simp] theorem len_imgB (c : Cas) : (imgB c).length = 8320 := by rw [imgB_eq]; simp
def blkN (M : List UInt8) (i : Nat) : List UInt8 := (M.drop (16 * i)).take 16
theorem len_blkN {M : List UInt8} {i : Nat} (h : M.length = 8320) (hi : i < 520) : (blkN M i).length = 16 := by unfold blkN; rw [List.length_take, List.length_drop]; omega
def dbN (M : List UInt8) (i : Nat) : List (List UInt8) := (List.range i).map (blkN M)
@[simp] theorem len_dbN (M : List UInt8) (i : Nat) : (dbN M i).length = i := by simp [dbN]
theorem dbN_s (M : List UInt8) (i : Nat) : (dbN M i).map V6.slV ++ [V6.slV (blkN M i)] = (dbN M (i + 1)).map V6.slV := by simp [dbN, List.range_succ]
@[irreducible] def blocksA (c : Cas) : A := if chkC c then .tu [rowsV (dbN (imgB c) 520), .i .i64 0] else .tu [.nl, .i .i64 340]
theorem blocks_no {c : Cas} (h : chkC c = false) : blocksA c = .tu [.nl, .i .i64 340] := by unfold blocksA; rw [h]; rfl
theorem blocks_yes {c : Cas} (h : chkC c = true) : blocksA c = .tu [rowsV (dbN (imgB c) 520), .i .i64 0] := by unfold blocksA; rw [h]; rfl
def atL (c : Cas) (ids : List Int) : List Int := ids.flatMap fun id => whereL c id.toNat
theorem len_atL (c : Cas) : ∀ ids : List Int, (atL c ids).length = 33 * ids.length
  | [] => rfl
  | a :: l => by
    have := len_atL c l
    unfold atL at *
    rw [List.flatMap_cons, List.length_append, len_whereL, this, List.length_cons]; omega
theorem atL_next {c : Cas} {ids : List Int} {i : Nat} {q : Int} (h : ids[i]? = some q) : atL c (ids.take i) ++ whereL c q.toNat = atL c (ids.take (i + 1)) := by
  unfold atL
  rw [List.take_add_one, h]; simp
theorem ask_all {c : Cas} {ids : List Int} (h : askB c ids = true) : headB c.F = true ∧ ids.length ≤ 4 ∧ ∀ q ∈ ids, numB q = true := by
  unfold askB at h
  simp only [Bool.and_eq_true, decide_eq_true_eq, List.all_eq_true] at h
  exact ⟨h.1.1, h.1.2, h.2⟩
theorem Con.atL_cast {P : Program} {f : FuncId} {args : List A} {s0 : St} {c : Cas} {ids : List Int} {k j : Nat} (h : ConS P f args s0 (RetO 1 ((atL c (ids.take k)).length + 33) ((atL c (ids.take k) ++ whereL c j).map iA))) (hq : ids[k]? = some (j : Int)) : ConS P f args s0 (RetO 1 (atL c (ids.take (k + 1))).length ((atL c (ids.take (k + 1))).map iA)) := by
  have e := atL_next (c := c) hq
  rw [Int.toNat_natCast] at e
  rw [← e, List.length_append, len_whereL]
  exact h
abbrev qryE : A := .ag [.nl]
@[irreducible] def sAskA (c : Cas) (ids : List Int) (coins : List (List UInt8)) : A := if askB c ids then askA 520 (atL c ids) 132 coins else .tu [qryE, qryE, .i .i64 370]
theorem sask_no {c : Cas} {ids : List Int} {coins : List (List UInt8)} (h : askB c ids = false) : sAskA c ids coins = .tu [qryE, qryE, .i .i64 370] := by unfold sAskA; rw [h]; rfl
theorem sask_yes {c : Cas} {ids : List Int} {coins : List (List UInt8)} (h : askB c ids = true) : sAskA c ids coins = askA 520 (atL c ids) 132 coins := by unfold sAskA; rw [h]; rfl
end Go.Abs.D2

/-! S7B -/
namespace Go.Abs.D2
open Go Go.Eng Go.Abs Go.Proofs 
set_option linter.unusedSimpArgs false in
set_option linter.unusedVariables false in
set_option maxHeartbeats 1000000 in
set_option maxRecDepth 10000 in
theorem shead_ok (c : Cas) (hx : c.x.length = 32) : Con Tryd.prog 42 [.ag (casL c)] (Ret (.b (headB c.F))) := by
  refine enter Tryd.func42 rfl Tryd.ntmps42 (by kernel_rfl) (Nat.le_of_ble_eq_true rfl) fun w0 X0 hI => ?_
  refine at_seq ?_
  refine at_region ?_
  refine at_op rfl (n_boxA 1 rfl rfl rfl ?_)
  refine s1 (y_p rfl) rfl <| ?_
  refine at_nil ?_
  refine x_tn ?_
  refine at_seq ?_
  refine at_seq ?_
  refine at_region ?_
  refine s1 (y_fld Tryd.underlying27 rfl ti24 (by decide) rfl rfl) rfl <| s1 (y_load ti24 rfl rfl (cas_F hx)) rfl <| s1 (y_len Tryd.underlying24 rfl rfl rfl) rfl <| s1 (y_p rfl) rfl <| ?_
  refine at_nil ?_
  refine x_tn ?_
  refine at_cond rfl (fun hc8 => ?_) (fun hc8 => ?_)
  · have h8 : ¬ c.F.length ≤ 16 := by simp at hc8; omega
    refine at_seq ?_
    refine at_region ?_
    refine s1 (y_p rfl) rfl <| ?_
    refine at_nil ?_
    refine x_tn ?_
    refine at_ret ?_
    refine x_tr ?_
    refine at_result (rs := [.tmp 2]) rfl (r_tmp rfl r_nil) ?_
    exact congrArg A.b (hed_big h8).symm
  · have h8 : c.F.length ≤ 16 := by simp at hc8; omega
    refine at_skip ?_
    refine x_tn ?_
    refine at_seq ?_
    refine at_seq ?_
    refine at_region ?_
    refine s1 (y_fld Tryd.underlying27 rfl ti24 (by decide) rfl rfl) rfl <| s1 (y_load ti24 rfl rfl (cas_F hx)) rfl <| s1 (y_len Tryd.underlying24 rfl rfl rfl) rfl <| s1 ((y_p rfl).v (v' := .i .i64 0) rfl) rfl <| ?_
    refine at_nil ?_
    refine x_tn ?_
    refine at_block ?_
    refine at_loop (ι := Nat) (fun i => [(10, filsA c.F), (11, nJ c.F.length), (12, nJ i)]) (fun i => ⟨[]⟩) (fun i => i ≤ c.F.length ∧ hedB 0 c.F = hedB i (c.F.drop i)) (fun i => c.F.length - i) ?_ ?_
    · exact at_ex (0) (⟨Nat.zero_le _, rfl⟩) [] hI rfl rfl ⟨⟨_, rfl, .pure pu⟩, ⟨_, rfl, .pure pu⟩, ⟨_, rfl, .pure pu⟩, trivial⟩ trivial
    rintro i ⟨hi, hl⟩
    refine at_seq ?_
    refine at_region ?_
    refine s1 (y_p rfl) rfl <| ?_
    refine at_nil ?_
    refine x_tn ?_
    refine at_seq ?_
    refine at_cond rfl (fun hc13 => ?_) (fun hc13 => ?_)
    · have h13 : i < c.F.length := by have := of_decide_eq_true hc13; omega
      obtain ⟨f, hf⟩ : ∃ f, c.F[i]? = some f := ⟨_, List.getElem?_eq_getElem h13⟩
      refine at_skip ?_
      refine x_tn ?_
      refine at_seq ?_
      refine at_block ?_
      refine at_seq ?_
      refine at_region ?_
      refine s1 (y_p rfl) rfl <| s1 (y_ixf i Tryd.underlying24 ti82 rfl rfl rfl (by omega) rfl) rfl <| s1 (y_loadA ti82 rfl rfl (flat_get hf) rfl) rfl <| ?_
      refine at_op rfl (n_alloc 4 rfl ti82 rfl rfl ?_)
      refine s1 (y_p rfl) rfl <| ?_
      refine at_op rfl (n_storeA ti82 rfl rfl rfl (by first | rfl | omega | (simp; done) | (simp [*]; done) | (simp; omega) | (simp [*]; omega) | (simp [D32.len, -List.length_flatten, *]; done) | (simp [D32.len, -List.length_flatten, *]; omega)) (by first | rfl | omega | (simp; done) | (simp [*]; done) | (simp; omega) | (simp [*]; omega) | (simp [D32.len, -List.length_flatten, *]; done) | (simp [D32.len, -List.length_flatten, *]; omega)) ?_)
      refine at_nil ?_
      refine x_tn ?_
      refine at_seq ?_
      refine at_region ?_
      refine s1 (y_fld Tryd.underlying82 rfl ti3 (by decide) rfl rfl) rfl <| s1 (y_load ti3 rfl rfl rfl) rfl <| s1 (y_p rfl) rfl <| s1 (y_p rfl) rfl <| s1 (y_p rfl) rfl <| ?_
      refine g_or 3 rfl rfl rfl rfl (fun hb21 => .step (y_fld Tryd.underlying82 rfl ti3 (by decide) rfl rfl) rfl rfl <| .step (y_load ti3 rfl rfl rfl) rfl rfl <| .step (y_p rfl) rfl rfl <| .done) rfl rfl ?_
      refine s1 (y_p rfl) rfl <| ?_
      refine g_or 3 rfl rfl rfl rfl (fun hb26 => .step (y_fld Tryd.underlying82 rfl ti3 (by decide) rfl rfl) rfl rfl <| .step (y_load ti3 rfl rfl rfl) rfl rfl <| .step (y_p rfl) rfl rfl <| .done) rfl rfl ?_
      refine at_nil ?_
      refine x_tn ?_
      refine at_cond rfl (fun hc30 => ?_) (fun hc30 => ?_)
      · have h30 : ¬ (f.lv = i ∧ 8 ≤ f.nb ∧ f.nb ≤ 4096) := by simp at hc30; omega
        refine at_seq ?_
        refine at_region ?_
        refine s1 (y_p rfl) rfl <| ?_
        refine at_nil ?_
        refine x_tn ?_
        refine at_ret ?_
        refine x_br ?_
        refine x_tr ?_
        refine x_tr ?_
        refine x_br ?_
        refine x_tr ?_
        refine at_result (rs := [.tmp 2]) rfl (r_tmp rfl r_nil) ?_
        exact congrArg A.b (hed_no hl hf h30).symm
      · have h30 : f.lv = i ∧ 8 ≤ f.nb ∧ f.nb ≤ 4096 := by simp at hc30; omega
        refine at_skip ?_
        refine x_bn ?_
        refine x_tn ?_
        refine at_region ?_
        refine s1 (addN _ 1 rfl rfl rfl rfl (by omega)) rfl <| s1 (y_p rfl) rfl <| ?_
        refine at_nil ?_
        exact at_end (i + 1) (⟨by omega, hed_next hl hf h30⟩) (by omega) [] hI rfl rfl ⟨⟨_, rfl, .pure pu⟩, ⟨_, rfl, .pure pu⟩, ⟨_, rfl, .pure pu⟩, trivial⟩ trivial
    · have h13 : i = c.F.length := by have := of_decide_eq_false hc13; omega
      subst h13
      refine at_exit ?_
      refine x_te ?_
      refine x_te ?_
      refine x_be ?_
      refine x_tn ?_
      refine at_seq ?_
      refine at_region ?_
      refine s1 (y_p rfl) rfl <| ?_
      refine at_nil ?_
      refine x_tn ?_
      refine at_ret ?_
      refine at_result (rs := [.tmp 2]) rfl (r_tmp rfl r_nil) ?_
      exact congrArg A.b (hed_end h8 hl).symm
set_option linter.unusedSimpArgs false in
set_option linter.unusedVariables false in
set_option maxHeartbeats 1000000 in
set_option maxRecDepth 10000 in
theorem snum_ok (id : Int) : Con Tryd.prog 43 [.i .i64 id] (Ret (.b (numB id))) := by
  refine enter Tryd.func43 rfl Tryd.ntmps43 (by kernel_rfl) (Nat.le_of_ble_eq_true rfl) fun w0 X0 hI => ?_
  refine at_seq ?_
  refine at_region ?_
  refine s1 (y_p rfl) rfl <| ?_
  refine at_nil ?_
  refine x_tn ?_
  refine at_seq ?_
  refine at_region ?_
  refine s1 (y_p rfl) rfl <| s1 (y_p rfl) rfl <| s1 (y_p rfl) rfl <| ?_
  refine g_and 2 rfl rfl rfl rfl (fun hb5 => .step (y_p rfl) rfl rfl <| .step (y_p rfl) rfl rfl <| .done) rfl rfl ?_
  refine s1 (y_p rfl) rfl <| ?_
  refine at_nil ?_
  refine x_tn ?_
  refine at_ret ?_
  refine at_result (rs := [.tmp 2]) rfl (r_tmp rfl r_nil) ?_
  exact congrArg A.b (by unfold numB; rw [Bool.eq_iff_iff]; simp)
set_option linter.unusedSimpArgs false in
set_option linter.unusedVariables false in
set_option maxHeartbeats 1000000 in
set_option maxRecDepth 10000 in
theorem sbits_ok (c : Cas) (hx : c.x.length = 32) (i j n : Nat) (f : Fil) (hf : c.F[i]? = some f) (hn : f.nb = (n : Int)) (h1 : i < 16) (h2 : 8 ≤ n) (h3 : n ≤ 4096) (h4 : j < 1024) : Con Tryd.prog 52 [.ag (casL c), nJ i, nJ j] (Ret (bits2 c j i)) := by
  refine enter Tryd.func52 rfl Tryd.ntmps52 (by kernel_rfl) (Nat.le_of_ble_eq_true rfl) fun w0 X0 hI => ?_
  refine at_seq ?_
  have hi := (List.getElem?_eq_some_iff.1 hf).1
  have hsz := nat_sized h1 h2 h3
  refine at_region ?_
  refine at_op rfl (n_boxA 3 rfl rfl rfl ?_)
  refine s1 (y_p rfl) rfl <| ?_
  refine at_nil ?_
  refine x_tn ?_
  refine at_seq ?_
  refine at_region ?_
  refine s1 (y_p rfl) rfl <| s1 (y_fld Tryd.underlying27 rfl ti24 (by decide) rfl rfl) rfl <| s1 (y_load ti24 rfl rfl (cas_F hx)) rfl <| s1 (y_p rfl) rfl <| s1 (y_ixf i Tryd.underlying24 ti82 rfl rfl rfl (by omega) rfl) rfl <| s1 (y_fldf Tryd.underlying82 rfl ti3 (by decide) rfl rfl) rfl <| s1 ((y_load ti3 rfl rfl (flat_get1 hf)).v (congrArg (A.i .i64) hn)) rfl <| ?_
  refine at_op rfl (n_call false rfl (.cons (.pure pu) (.cons (.pure pu) (.nil))) (Con.cast (fnew_ok i n) (new_yes hsz)) pu (.inl rfl) rfl ?_)
  refine s1 (y_p rfl) rfl <| s1 (y_p rfl) rfl <| s1 (y_p rfl) rfl <| ?_
  refine at_op rfl (n_alloc 7 rfl ti82 rfl rfl ?_)
  refine at_op rfl (n_storeA ti82 rfl rfl rfl (by first | rfl | omega | (simp; done) | (simp [*]; done) | (simp; omega) | (simp [*]; omega) | (simp [D32.len, -List.length_flatten, *]; done) | (simp [D32.len, -List.length_flatten, *]; omega)) (by first | rfl | omega | (simp; done) | (simp [*]; done) | (simp; omega) | (simp [*]; omega) | (simp [D32.len, -List.length_flatten, *]; done) | (simp [D32.len, -List.length_flatten, *]; omega)) ?_)
  refine s1 (y_p rfl) rfl <| ?_
  refine at_nil ?_
  refine x_tn ?_
  refine at_seq ?_
  refine at_region ?_
  refine s1 (y_fld Tryd.underlying27 rfl ti23 (by decide) rfl rfl) rfl <| s1 (y_loadA ti23 rfl rfl (cas_x hx) (by simp [hx])) rfl <| s1 (y_loadA0 ti82 rfl rfl rfl) rfl <| s1 (y_p rfl) rfl <| ?_
  refine at_op rfl (n_call false rfl (.cons (.pure pu) (.cons (.pure pu) (.cons (.pure pu) (.nil)))) (Con.cast (fbits_ok c.x i n j (List.replicate ((n + 7) / 8) 0) hx) (bits_yes (okB_eq (chk_zero hsz) h4))) pu (.inl rfl) rfl ?_)
  refine s1 (y_p rfl) rfl <| s1 (y_p rfl) rfl <| s1 (y_p rfl) rfl <| s1 (y_p rfl) rfl <| s1 (y_p rfl) rfl <| ?_
  refine at_nil ?_
  refine x_tn ?_
  refine at_seq ?_
  refine at_region ?_
  refine s1 (y_p rfl) rfl <| s1 (y_p rfl) rfl <| ?_
  refine at_nil ?_
  refine x_tn ?_
  refine at_ret ?_
  refine at_result (rs := [.tmp 6]) rfl (r_tmp rfl r_nil) ?_
  exact bits2_some hf hn
set_option linter.unusedSimpArgs false in
set_option linter.unusedVariables false in
set_option maxHeartbeats 1000000 in
set_option maxRecDepth 10000 in
theorem splaces_ok (c : Cas) (id : Nat) : Con Tryd.prog 45 [.ag (casL c), nJ id] (Ret (.fn (.func 77) [] [.fp (casL c), .fp [nJ id]])) := by
  refine enter Tryd.func45 rfl Tryd.ntmps45 (by kernel_rfl) (Nat.le_of_ble_eq_true rfl) fun w0 X0 hI => ?_
  refine at_seq ?_
  refine at_region ?_
  refine at_op rfl (n_boxA 2 rfl rfl rfl ?_)
  refine at_op rfl (n_box1 3 rfl rfl rfl rfl ?_)
  refine s1 (y_p rfl) rfl <| ?_
  refine at_nil ?_
  refine x_tn ?_
  refine at_seq ?_
  refine at_frzP 2 rfl rfl pul ?_
  refine at_frzP 3 rfl rfl pul ?_
  refine at_region ?_
  refine s1 (y_func (us := []) (vs := [.fp (casL c), .fp [nJ id]]) rfl rfl) rfl <| s1 (y_p rfl) rfl <| ?_
  refine at_nil ?_
  refine x_tn ?_
  refine at_ret ?_
  refine at_result (rs := [.tmp 4]) rfl (r_tmp rfl r_nil) ?_
  rfl
set_option linter.unusedSimpArgs false in
set_option linter.unusedVariables false in
set_option maxHeartbeats 1000000 in
set_option maxRecDepth 10000 in
theorem sappend0_ok (c : Cas) (hx : c.x.length = 32) (id : Nat) (hid : id < 1024) (hh : headB c.F = true) : Con Tryd.prog 56 [.nl, .fn (.func 77) [] [.fp (casL c), .fp [nJ id]]] (RetO 1 33 ((([] : List Int) ++ whereL c id).map iA)) := by
  refine enterM Tryd.func56 rfl Tryd.ntmps56 (by kernel_rfl) (Nat.le_of_ble_eq_true rfl) fun w0 X0 hI hS => ?_
  refine at_seq ?_
  refine at_region ?_
  refine at_op rfl (n_box1 2 rfl rfl rfl rfl ?_)
  refine s1 (y_p rfl) rfl <| ?_
  refine at_nil ?_
  refine x_tn ?_
  refine at_seq ?_
  refine at_seq ?_
  refine at_region ?_
  refine s1 (y_p rfl) rfl <| ?_
  refine at_nil ?_
  refine x_tn ?_
  refine at_block ?_
  refine at_range [2] [(0, _), (1, _), (2, _), (4, _), (6, _)] hI rfl ⟨rfl, ⟨rfl, ⟨rfl, ⟨rfl, ⟨rfl, trivial⟩⟩⟩⟩⟩ (by first | rfl | (simp [onlyE, refsE, refs, refsL, refsL_pul, refs_pu, memN]; done)) rfl Tryd.func77 rfl Tryd.ntmps77 (by kernel_rfl) (Nat.le_of_ble_eq_true rfl) fun w1 l1 D1 rc1 hR1 => ?_
  refine at_seq ?_
  refine at_seq ?_
  refine at_region ?_
  refine s1 ((y_p rfl).v (v' := .i .i64 0) rfl) rfl <| ?_
  refine at_nil ?_
  refine x_tn ?_
  refine at_block ?_
  refine at_loop (ι := Nat) (fun i => [(0, yv l1), (1, .fp (casL c)), (2, .fp [nJ id]), (8, nJ i)]) (fun i => ⟨[(2, some ([.sl 111 1 0 (([] : List Int).length + (2 * i))])), (111, some ((([] : List Int) ++ plcL c id (2 * i)).map iA))]⟩) (fun i => i ≤ 16) (fun i => 16 - i) ?_ ?_
  · exact at_ex (0) (Nat.zero_le _) [(2, some 2), (111, none)] hR1.sub.ids rfl rfl ⟨⟨_, rfl, .pure trivial⟩, ⟨_, rfl, .pure pu⟩, ⟨_, rfl, .pure pu⟩, ⟨_, rfl, .pure pu⟩, trivial⟩ ⟨.inr ⟨_, _, rfl, rfl, .cons (.nl rfl) .nil⟩, .inl ⟨rfl, rfl⟩, trivial⟩
  rintro i hi
  refine at_seq ?_
  refine at_region ?_
  refine s1 (y_p rfl) rfl <| ?_
  refine at_nil ?_
  refine x_tn ?_
  refine at_seq ?_
  refine at_cond rfl (fun hc9 => ?_) (fun hc9 => ?_)
  · have h9 : i < 16 := by have := of_decide_eq_true hc9; omega
    refine at_skip ?_
    refine x_tn ?_
    refine at_seq ?_
    refine at_block ?_
    refine at_seq ?_
    refine at_region ?_
    refine s1 (y_p rfl) rfl <| s1 (y_p rfl) rfl <| ?_
    refine at_nil ?_
    refine x_tn ?_
    refine at_seq ?_
    refine at_region ?_
    refine at_op rfl (n_bs1 1011 rfl Tryd.underlying25 ti3 rfl rfl rfl rfl rfl ?_)
    refine s1 (y_p rfl) rfl <| ?_
    refine at_nil ?_
    refine x_tn ?_
    refine at_seq ?_
    refine at_seq ?_
    refine at_region ?_
    refine s1 (y_p rfl) rfl <| s1 (y_fldf Tryd.underlying27 rfl ti24 (by decide) rfl rfl) rfl <| s1 (y_load ti24 rfl rfl (cas_F hx)) rfl <| s1 (y_len Tryd.underlying24 rfl rfl rfl) rfl <| s1 (y_p rfl) rfl <| ?_
    refine at_nil ?_
    refine x_tn ?_
    refine at_cond rfl (fun hc16 => ?_) (fun hc16 => ?_)
    · have h16 : i < c.F.length := by have := of_decide_eq_true hc16; omega
      obtain ⟨f, hf⟩ : ∃ f, c.F[i]? = some f := ⟨_, List.getElem?_eq_getElem h16⟩
      obtain ⟨_, n, hn, hn1, hn2⟩ := head_get hh hf
      refine at_region ?_
      refine s1 (y_loadA ti27 rfl rfl (cas_all hx) (cas_len hx)) rfl <| s1 (y_p rfl) rfl <| s1 (y_load ti3 rfl rfl rfl) rfl <| ?_
      refine at_op rfl (n_call false rfl (.cons (.pure pu) (.cons (.pure pu) (.cons (.pure pu) (.nil)))) (sbits_ok c hx i id n f hf hn (by omega) hn1 hn2 hid) pu (.inl rfl) rfl ?_)
      refine s1 (y_p rfl) rfl <| ?_
      refine at_nil ?_
      refine x_tn ?_
      refine at_seq ?_
      skip
      refine at_region ?_
      refine s1 (y_p rfl) rfl <| s1 (y_len Tryd.underlying25 rfl rfl rfl) rfl <| s1 ((y_p rfl).v (v' := .i .i64 0) rfl) rfl <| ?_
      refine at_nil ?_
      refine x_tn ?_
      refine at_block ?_
      refine at_loop (ι := Nat) (fun k => [(0, yv l1), (1, .fp (casL c)), (2, .fp [nJ id]), (4, nJ i), (8, nJ i), (21, bits2 c id i), (22, nJ 2), (23, nJ k)]) (fun k => ⟨[(2, some ([.sl 111 1 0 (([] : List Int).length + (2 * i + k))])), (111, some ((([] : List Int) ++ plcL c id (2 * i + k)).map iA))]⟩) (fun k => k ≤ 2) (fun k => 2 - k) ?_ ?_
      · exact at_ex (0) (Nat.zero_le _) [(2, some 2), (111, some 111)] hR1.sub.ids rfl rfl ⟨⟨_, rfl, .pure trivial⟩, ⟨_, rfl, .pure pu⟩, ⟨_, rfl, .pure pu⟩, ⟨_, rfl, .pure pu⟩, ⟨_, rfl, .pure pu⟩, ⟨_, rfl, .pure pu⟩, ⟨_, rfl, .pure pu⟩, ⟨_, rfl, .pure pu⟩, trivial⟩ ⟨.inr ⟨_, _, rfl, rfl, .cons (.sl rfl (by first | rfl | omega | (simp; done) | (simp [*]; done) | (simp; omega) | (simp [*]; omega) | (simp [D32.len, -List.length_flatten, *]; done) | (simp [D32.len, -List.length_flatten, *]; omega))) .nil⟩, .inr ⟨_, _, rfl, rfl, .pure pul⟩, trivial⟩
      rintro k hk
      refine at_seq ?_
      refine at_region ?_
      refine s1 (y_p rfl) rfl <| ?_
      refine at_nil ?_
      refine x_tn ?_
      refine at_seq ?_
      refine at_cond rfl (fun hc24 => ?_) (fun hc24 => ?_)
      · have h24 : k < 2 := by have := of_decide_eq_true hc24; omega
        have hbl := bitsAt_lt hh id i k
        refine at_skip ?_
        refine x_tn ?_
        refine at_seq ?_
        refine at_block ?_
        refine at_seq ?_
        refine at_region ?_
        refine s1 (y_ixf k Tryd.underlying25 ti3 rfl rfl rfl (by omega) rfl) rfl <| s1 (y_load ti3 rfl rfl (bits2_get c id i h24)) rfl <| s1 (y_p rfl) rfl <| ?_
        refine at_nil ?_
        refine x_tn ?_
        refine at_seq ?_
        refine at_region ?_
        refine s1 (y_p rfl) rfl <| s1 (y_p rfl) rfl <| s1 (mulN 32 _ rfl rfl rfl rfl (by omega)) rfl <| s1 (y_p rfl) rfl <| s1 (quoN _ 128 rfl rfl rfl rfl (by omega) (by omega)) rfl <| s1 (addN _ _ rfl rfl rfl rfl (by omega)) rfl <| ?_
        refine at_yield [2] [(0, _), (1, _), (2, _), (4, _), (7, _), (8, _), (21, _), (22, _), (23, _), (24, _), (25, _), (26, _), (27, _), (28, _), (29, _), (30, _), (31, _), (32, _)] hR1 hR1.sub.ids rfl ⟨rfl, ⟨rfl, ⟨rfl, ⟨rfl, ⟨rfl, ⟨rfl, ⟨rfl, ⟨rfl, ⟨rfl, ⟨rfl, ⟨rfl, ⟨rfl, ⟨rfl, ⟨rfl, ⟨rfl, ⟨rfl, ⟨rfl, ⟨rfl, trivial⟩⟩⟩⟩⟩⟩⟩⟩⟩⟩⟩⟩⟩⟩⟩⟩⟩⟩ (by first | rfl | (simp [onlyE, refsE, refs, refsL, refsL_pul, refs_pu, memN]; done)) rfl rfl rfl rfl rfl fun w2 tm2 hd2 => ?_
        refine at_region ?_
        refine s1 (y_p rfl) rfl <| ?_
        refine at_nil ?_
        refine at_begin hd2 fun w3 hd3 => ?_
        refine at_block ?_
        refine at_region ?_
        refine s1 (y_load ti25 rfl rfl rfl) rfl <| s1 (y_p rfl) rfl <| ?_
        refine at_op rfl (n_bs1 10 rfl Tryd.underlying25 ti3 rfl rfl rfl rfl rfl ?_)
        refine at_op rfl (n_app 211 rfl Tryd.underlying25 ti3 rfl (.sl rfl (by simp [plcL])) rfl (SM_full rfl (by first | rfl | omega | (simp; done) | (simp [*]; done) | (simp; omega) | (simp [*]; omega) | (simp [D32.len, -List.length_flatten, *]; done) | (simp [D32.len, -List.length_flatten, *]; omega))) (by simp) (by first | omega | (simp only [maxLen]; omega) | (simp [maxLen]; done) | (simp [maxLen]; omega) | (simp [maxLen, *]; omega)) (by first | omega | (simp only [maxLen]; omega) | (simp [maxLen]; done) | (simp [maxLen]; omega) | (simp [maxLen, *]; omega)) rfl (plc_app ([] : List Int) c id i h24) rfl ?_)
        refine at_op rfl (n_store1 ti25 rfl rfl rfl rfl (by first | rfl | omega | (simp; done) | (simp [*]; done) | (simp; omega) | (simp [*]; omega) | (simp [D32.len, -List.length_flatten, *]; done) | (simp [D32.len, -List.length_flatten, *]; omega)) rfl ?_)
        refine at_nil ?_
        refine x_bn ?_
        refine at_rend hR1 hd3 rfl ?_
        refine s1 (y_p rfl) rfl <| ?_
        refine at_nil ?_
        refine x_tn ?_
        refine at_else rfl ?_
        refine at_skip ?_
        refine x_bn ?_
        refine x_tn ?_
        refine at_region ?_
        refine s1 (addN _ 1 rfl rfl rfl rfl (by omega)) rfl <| s1 (y_p rfl) rfl <| ?_
        refine at_nil ?_
        exact at_end (k + 1) (by omega) (by omega) [(2, some 2), (111, some 211)] hR1.sub.ids rfl rfl ⟨⟨_, rfl, .pure trivial⟩, ⟨_, rfl, .pure pu⟩, ⟨_, rfl, .pure pu⟩, ⟨_, rfl, .pure pu⟩, ⟨_, rfl, .pure pu⟩, ⟨_, rfl, .pure pu⟩, ⟨_, rfl, .pure pu⟩, ⟨_, rfl, .pure pu⟩, trivial⟩ ⟨.inr ⟨_, _, rfl, rfl, .cons (.sl rfl (by first | rfl | omega | (simp; done) | (simp [*]; done) | (simp; omega) | (simp [*]; omega) | (simp [D32.len, -List.length_flatten, *]; done) | (simp [D32.len, -List.length_flatten, *]; omega))) .nil⟩, .inr ⟨_, _, rfl, rfl, .of (by rfl) (.pure pul)⟩, trivial⟩
      · have h24 : k = 2 := by have := of_decide_eq_false hc24; omega
        subst h24
        refine at_exit ?_
        refine x_te ?_
        refine x_te ?_
        refine x_be ?_
        refine x_bn ?_
        refine x_tn ?_
        refine at_region ?_
        refine s1 (addN _ 1 rfl rfl rfl rfl (by omega)) rfl <| s1 (y_p rfl) rfl <| ?_
        refine at_nil ?_
        exact at_end (i + 1) (by omega) (by omega) [(2, some 2), (111, some 111)] hR1.sub.ids rfl rfl ⟨⟨_, rfl, .pure trivial⟩, ⟨_, rfl, .pure pu⟩, ⟨_, rfl, .pure pu⟩, ⟨_, rfl, .pure pu⟩, trivial⟩ ⟨.inr ⟨_, _, rfl, rfl, .cons (.sl rfl (by first | rfl | omega | (simp; done) | (simp [*]; done) | (simp; omega) | (simp [*]; omega) | (simp [D32.len, -List.length_flatten, *]; done) | (simp [D32.len, -List.length_flatten, *]; omega))) .nil⟩, .inr ⟨_, _, rfl, rfl, .of (by rw [Nat.mul_succ]) (.pure pul)⟩, trivial⟩
    · have h16 : ¬ i < c.F.length := by have := of_decide_eq_false hc16; omega
      refine at_skip ?_
      refine x_tn ?_
      refine at_seq ?_
      refine at_frz 5 rfl rfl pul rfl ?_
      refine at_say 5 rfl (v' := bits2 c id i) (bits2_none h16) ?_
      refine at_region ?_
      refine s1 (y_p rfl) rfl <| s1 (y_len Tryd.underlying25 rfl rfl rfl) rfl <| s1 ((y_p rfl).v (v' := .i .i64 0) rfl) rfl <| ?_
      refine at_nil ?_
      refine x_tn ?_
      refine at_block ?_
      refine at_loop (ι := Nat) (fun k => [(0, yv l1), (1, .fp (casL c)), (2, .fp [nJ id]), (4, nJ i), (8, nJ i), (21, bits2 c id i), (22, nJ 2), (23, nJ k)]) (fun k => ⟨[(2, some ([.sl 111 1 0 (([] : List Int).length + (2 * i + k))])), (111, some ((([] : List Int) ++ plcL c id (2 * i + k)).map iA))]⟩) (fun k => k ≤ 2) (fun k => 2 - k) ?_ ?_
      · exact at_ex (0) (Nat.zero_le _) [(2, some 2), (111, some 111)] hR1.sub.ids rfl rfl ⟨⟨_, rfl, .pure trivial⟩, ⟨_, rfl, .pure pu⟩, ⟨_, rfl, .pure pu⟩, ⟨_, rfl, .pure pu⟩, ⟨_, rfl, .pure pu⟩, ⟨_, rfl, .pure pu⟩, ⟨_, rfl, .pure pu⟩, ⟨_, rfl, .pure pu⟩, trivial⟩ ⟨.inr ⟨_, _, rfl, rfl, .cons (.sl rfl (by first | rfl | omega | (simp; done) | (simp [*]; done) | (simp; omega) | (simp [*]; omega) | (simp [D32.len, -List.length_flatten, *]; done) | (simp [D32.len, -List.length_flatten, *]; omega))) .nil⟩, .inr ⟨_, _, rfl, rfl, .pure pul⟩, trivial⟩
      rintro k hk
      refine at_seq ?_
      refine at_region ?_
      refine s1 (y_p rfl) rfl <| ?_
      refine at_nil ?_
      refine x_tn ?_
      refine at_seq ?_
      refine at_cond rfl (fun hc24 => ?_) (fun hc24 => ?_)
      · have h24 : k < 2 := by have := of_decide_eq_true hc24; omega
        have hbl := bitsAt_lt hh id i k
        refine at_skip ?_
        refine x_tn ?_
        refine at_seq ?_
        refine at_block ?_
        refine at_seq ?_
        refine at_region ?_
        refine s1 (y_ixf k Tryd.underlying25 ti3 rfl rfl rfl (by omega) rfl) rfl <| s1 (y_load ti3 rfl rfl (bits2_get c id i h24)) rfl <| s1 (y_p rfl) rfl <| ?_
        refine at_nil ?_
        refine x_tn ?_
        refine at_seq ?_
        refine at_region ?_
        refine s1 (y_p rfl) rfl <| s1 (y_p rfl) rfl <| s1 (mulN 32 _ rfl rfl rfl rfl (by omega)) rfl <| s1 (y_p rfl) rfl <| s1 (quoN _ 128 rfl rfl rfl rfl (by omega) (by omega)) rfl <| s1 (addN _ _ rfl rfl rfl rfl (by omega)) rfl <| ?_
        refine at_yield [2] [(0, _), (1, _), (2, _), (4, _), (7, _), (8, _), (21, _), (22, _), (23, _), (24, _), (25, _), (26, _), (27, _), (28, _), (29, _), (30, _), (31, _), (32, _)] hR1 hR1.sub.ids rfl ⟨rfl, ⟨rfl, ⟨rfl, ⟨rfl, ⟨rfl, ⟨rfl, ⟨rfl, ⟨rfl, ⟨rfl, ⟨rfl, ⟨rfl, ⟨rfl, ⟨rfl, ⟨rfl, ⟨rfl, ⟨rfl, ⟨rfl, ⟨rfl, trivial⟩⟩⟩⟩⟩⟩⟩⟩⟩⟩⟩⟩⟩⟩⟩⟩⟩⟩ (by first | rfl | (simp [onlyE, refsE, refs, refsL, refsL_pul, refs_pu, memN]; done)) rfl rfl rfl rfl rfl fun w4 tm4 hd4 => ?_
        refine at_region ?_
        refine s1 (y_p rfl) rfl <| ?_
        refine at_nil ?_
        refine at_begin hd4 fun w5 hd5 => ?_
        refine at_block ?_
        refine at_region ?_
        refine s1 (y_load ti25 rfl rfl rfl) rfl <| s1 (y_p rfl) rfl <| ?_
        refine at_op rfl (n_bs1 10 rfl Tryd.underlying25 ti3 rfl rfl rfl rfl rfl ?_)
        refine at_op rfl (n_app 211 rfl Tryd.underlying25 ti3 rfl (.sl rfl (by simp [plcL])) rfl (SM_full rfl (by first | rfl | omega | (simp; done) | (simp [*]; done) | (simp; omega) | (simp [*]; omega) | (simp [D32.len, -List.length_flatten, *]; done) | (simp [D32.len, -List.length_flatten, *]; omega))) (by simp) (by first | omega | (simp only [maxLen]; omega) | (simp [maxLen]; done) | (simp [maxLen]; omega) | (simp [maxLen, *]; omega)) (by first | omega | (simp only [maxLen]; omega) | (simp [maxLen]; done) | (simp [maxLen]; omega) | (simp [maxLen, *]; omega)) rfl (plc_app ([] : List Int) c id i h24) rfl ?_)
        refine at_op rfl (n_store1 ti25 rfl rfl rfl rfl (by first | rfl | omega | (simp; done) | (simp [*]; done) | (simp; omega) | (simp [*]; omega) | (simp [D32.len, -List.length_flatten, *]; done) | (simp [D32.len, -List.length_flatten, *]; omega)) rfl ?_)
        refine at_nil ?_
        refine x_bn ?_
        refine at_rend hR1 hd5 rfl ?_
        refine s1 (y_p rfl) rfl <| ?_
        refine at_nil ?_
        refine x_tn ?_
        refine at_else rfl ?_
        refine at_skip ?_
        refine x_bn ?_
        refine x_tn ?_
        refine at_region ?_
        refine s1 (addN _ 1 rfl rfl rfl rfl (by omega)) rfl <| s1 (y_p rfl) rfl <| ?_
        refine at_nil ?_
        exact at_end (k + 1) (by omega) (by omega) [(2, some 2), (111, some 211)] hR1.sub.ids rfl rfl ⟨⟨_, rfl, .pure trivial⟩, ⟨_, rfl, .pure pu⟩, ⟨_, rfl, .pure pu⟩, ⟨_, rfl, .pure pu⟩, ⟨_, rfl, .pure pu⟩, ⟨_, rfl, .pure pu⟩, ⟨_, rfl, .pure pu⟩, ⟨_, rfl, .pure pu⟩, trivial⟩ ⟨.inr ⟨_, _, rfl, rfl, .cons (.sl rfl (by first | rfl | omega | (simp; done) | (simp [*]; done) | (simp; omega) | (simp [*]; omega) | (simp [D32.len, -List.length_flatten, *]; done) | (simp [D32.len, -List.length_flatten, *]; omega))) .nil⟩, .inr ⟨_, _, rfl, rfl, .of (by rfl) (.pure pul)⟩, trivial⟩
      · have h24 : k = 2 := by have := of_decide_eq_false hc24; omega
        subst h24
        refine at_exit ?_
        refine x_te ?_
        refine x_te ?_
        refine x_be ?_
        refine x_bn ?_
        refine x_tn ?_
        refine at_region ?_
        refine s1 (addN _ 1 rfl rfl rfl rfl (by omega)) rfl <| s1 (y_p rfl) rfl <| ?_
        refine at_nil ?_
        exact at_end (i + 1) (by omega) (by omega) [(2, some 2), (111, some 111)] hR1.sub.ids rfl rfl ⟨⟨_, rfl, .pure trivial⟩, ⟨_, rfl, .pure pu⟩, ⟨_, rfl, .pure pu⟩, ⟨_, rfl, .pure pu⟩, trivial⟩ ⟨.inr ⟨_, _, rfl, rfl, .cons (.sl rfl (by first | rfl | omega | (simp; done) | (simp [*]; done) | (simp; omega) | (simp [*]; omega) | (simp [D32.len, -List.length_flatten, *]; done) | (simp [D32.len, -List.length_flatten, *]; omega))) .nil⟩, .inr ⟨_, _, rfl, rfl, .of (by rw [Nat.mul_succ]) (.pure pul)⟩, trivial⟩
  · have h9 : i = 16 := by have := of_decide_eq_false hc9; omega
    subst h9
    refine at_exit ?_
    refine x_te ?_
    refine x_te ?_
    refine x_be ?_
    refine x_tn ?_
    refine at_region ?_
    refine s1 (y_p rfl) rfl <| s1 (y_load ti3 rfl rfl rfl) rfl <| s1 (quoN _ 128 rfl rfl rfl rfl (by omega) (by omega)) rfl <| s1 (addN 512 _ rfl rfl rfl rfl (by omega)) rfl <| ?_
    refine at_yield [2] [(0, _), (1, _), (2, _), (8, _), (9, _), (37, _), (38, _), (39, _), (40, _)] hR1 hR1.sub.ids rfl ⟨rfl, ⟨rfl, ⟨rfl, ⟨rfl, ⟨rfl, ⟨rfl, ⟨rfl, ⟨rfl, ⟨rfl, trivial⟩⟩⟩⟩⟩⟩⟩⟩⟩ (by first | rfl | (simp [onlyE, refsE, refs, refsL, refsL_pul, refs_pu, memN]; done)) rfl rfl rfl rfl rfl fun w6 tm6 hd6 => ?_
    refine at_region ?_
    refine s1 (y_p rfl) rfl <| ?_
    refine at_nil ?_
    refine at_begin hd6 fun w7 hd7 => ?_
    refine at_block ?_
    refine at_region ?_
    refine s1 (y_load ti25 rfl rfl rfl) rfl <| s1 (y_p rfl) rfl <| ?_
    refine at_op rfl (n_bs1 10 rfl Tryd.underlying25 ti3 rfl rfl rfl rfl rfl ?_)
    refine at_op rfl (n_app 211 rfl Tryd.underlying25 ti3 rfl (.sl rfl (by simp [plcL])) rfl (SM_full rfl (by first | rfl | omega | (simp; done) | (simp [*]; done) | (simp; omega) | (simp [*]; omega) | (simp [D32.len, -List.length_flatten, *]; done) | (simp [D32.len, -List.length_flatten, *]; omega))) (by simp) (by first | omega | (simp only [maxLen]; omega) | (simp [maxLen]; done) | (simp [maxLen]; omega) | (simp [maxLen, *]; omega)) (by first | omega | (simp only [maxLen]; omega) | (simp [maxLen]; done) | (simp [maxLen]; omega) | (simp [maxLen, *]; omega)) rfl (whr_app ([] : List Int) c id) rfl ?_)
    refine at_op rfl (n_store1 ti25 rfl rfl rfl rfl (by first | rfl | omega | (simp; done) | (simp [*]; done) | (simp; omega) | (simp [*]; omega) | (simp [D32.len, -List.length_flatten, *]; done) | (simp [D32.len, -List.length_flatten, *]; omega)) rfl ?_)
    refine at_nil ?_
    refine x_bn ?_
    refine at_rend hR1 hd7 rfl ?_
    refine at_nil ?_
    refine at_itnil rfl hR1 hS ?_
    refine x_bn ?_
    refine x_tn ?_
    refine at_seq ?_
    refine at_region ?_
    refine s1 (y_load ti25 rfl rfl rfl) rfl <| s1 (y_p rfl) rfl <| ?_
    refine at_nil ?_
    refine x_tn ?_
    refine at_ret ?_
    refine at_resultM (rs := [.tmp 4]) rfl rfl rfl hS rfl (by simp) rfl (r_tmp rfl r_nil) ⟨211, rfl, rfl⟩
set_option linter.unusedSimpArgs false in
set_option linter.unusedVariables false in
set_option maxHeartbeats 1000000 in
set_option maxRecDepth 10000 in
theorem sappend1_ok (c : Cas) (hx : c.x.length = 32) (id : Nat) (hid : id < 1024) (hh : headB c.F = true) (B : List Int) (hB : B.length ≤ 1000) : ConS Tryd.prog 56 [.sl 128 1 0 B.length, .fn (.func 77) [] [.fp (casL c), .fp [nJ id]]] ⟨[(128, some (B.map iA))]⟩ (RetO 1 (B.length + 33) ((B ++ whereL c id).map iA)) := by
  refine enterHM pul Tryd.func56 rfl Tryd.ntmps56 (by kernel_rfl) (Nat.le_of_ble_eq_true rfl) fun w0 X0 hI hS => ?_
  refine at_seq ?_
  refine at_region ?_
  refine at_op rfl (n_box1 2 rfl rfl rfl rfl ?_)
  refine s1 (y_p rfl) rfl <| ?_
  refine at_nil ?_
  refine x_tn ?_
  refine at_seq ?_
  refine at_seq ?_
  refine at_region ?_
  refine s1 (y_p rfl) rfl <| ?_
  refine at_nil ?_
  refine x_tn ?_
  refine at_block ?_
  refine at_range [2] [(1, _), (2, _), (4, _), (6, _)] hI rfl ⟨rfl, ⟨rfl, ⟨rfl, ⟨rfl, trivial⟩⟩⟩⟩ (by first | rfl | (simp [onlyE, refsE, refs, refsL, refsL_pul, refs_pu, memN]; done)) rfl Tryd.func77 rfl Tryd.ntmps77 (by kernel_rfl) (Nat.le_of_ble_eq_true rfl) fun w1 l1 D1 rc1 hR1 => ?_
  refine at_seq ?_
  refine at_seq ?_
  refine at_region ?_
  refine s1 ((y_p rfl).v (v' := .i .i64 0) rfl) rfl <| ?_
  refine at_nil ?_
  refine x_tn ?_
  refine at_block ?_
  refine at_loop (ι := Nat) (fun i => [(0, yv l1), (1, .fp (casL c)), (2, .fp [nJ id]), (8, nJ i)]) (fun i => ⟨[(2, some ([.sl 111 1 0 (B.length + (2 * i))])), (111, some ((B ++ plcL c id (2 * i)).map iA))]⟩) (fun i => i ≤ 16) (fun i => 16 - i) ?_ ?_
  · exact at_ex (0) (Nat.zero_le _) [(2, some 2), (111, some 128)] hR1.sub.ids rfl rfl ⟨⟨_, rfl, .pure trivial⟩, ⟨_, rfl, .pure pu⟩, ⟨_, rfl, .pure pu⟩, ⟨_, rfl, .pure pu⟩, trivial⟩ ⟨.inr ⟨_, _, rfl, rfl, .cons (.sl rfl (by first | rfl | omega | (simp; done) | (simp [*]; done) | (simp; omega) | (simp [*]; omega) | (simp [D32.len, -List.length_flatten, *]; done) | (simp [D32.len, -List.length_flatten, *]; omega))) .nil⟩, .inr ⟨_, _, rfl, rfl, .of (by simp [plcL]) (.pure pul)⟩, trivial⟩
  rintro i hi
  refine at_seq ?_
  refine at_region ?_
  refine s1 (y_p rfl) rfl <| ?_
  refine at_nil ?_
  refine x_tn ?_
  refine at_seq ?_
  refine at_cond rfl (fun hc9 => ?_) (fun hc9 => ?_)
  · have h9 : i < 16 := by have := of_decide_eq_true hc9; omega
    refine at_skip ?_
    refine x_tn ?_
    refine at_seq ?_
    refine at_block ?_
    refine at_seq ?_
    refine at_region ?_
    refine s1 (y_p rfl) rfl <| s1 (y_p rfl) rfl <| ?_
    refine at_nil ?_
    refine x_tn ?_
    refine at_seq ?_
    refine at_region ?_
    refine at_op rfl (n_bs1 1011 rfl Tryd.underlying25 ti3 rfl rfl rfl rfl rfl ?_)
    refine s1 (y_p rfl) rfl <| ?_
    refine at_nil ?_
    refine x_tn ?_
    refine at_seq ?_
    refine at_seq ?_
    refine at_region ?_
    refine s1 (y_p rfl) rfl <| s1 (y_fldf Tryd.underlying27 rfl ti24 (by decide) rfl rfl) rfl <| s1 (y_load ti24 rfl rfl (cas_F hx)) rfl <| s1 (y_len Tryd.underlying24 rfl rfl rfl) rfl <| s1 (y_p rfl) rfl <| ?_
    refine at_nil ?_
    refine x_tn ?_
    refine at_cond rfl (fun hc16 => ?_) (fun hc16 => ?_)
    · have h16 : i < c.F.length := by have := of_decide_eq_true hc16; omega
      obtain ⟨f, hf⟩ : ∃ f, c.F[i]? = some f := ⟨_, List.getElem?_eq_getElem h16⟩
      obtain ⟨_, n, hn, hn1, hn2⟩ := head_get hh hf
      refine at_region ?_
      refine s1 (y_loadA ti27 rfl rfl (cas_all hx) (cas_len hx)) rfl <| s1 (y_p rfl) rfl <| s1 (y_load ti3 rfl rfl rfl) rfl <| ?_
      refine at_op rfl (n_call false rfl (.cons (.pure pu) (.cons (.pure pu) (.cons (.pure pu) (.nil)))) (sbits_ok c hx i id n f hf hn (by omega) hn1 hn2 hid) pu (.inl rfl) rfl ?_)
      refine s1 (y_p rfl) rfl <| ?_
      refine at_nil ?_
      refine x_tn ?_
      refine at_seq ?_
      skip
      refine at_region ?_
      refine s1 (y_p rfl) rfl <| s1 (y_len Tryd.underlying25 rfl rfl rfl) rfl <| s1 ((y_p rfl).v (v' := .i .i64 0) rfl) rfl <| ?_
      refine at_nil ?_
      refine x_tn ?_
      refine at_block ?_
      refine at_loop (ι := Nat) (fun k => [(0, yv l1), (1, .fp (casL c)), (2, .fp [nJ id]), (4, nJ i), (8, nJ i), (21, bits2 c id i), (22, nJ 2), (23, nJ k)]) (fun k => ⟨[(2, some ([.sl 111 1 0 (B.length + (2 * i + k))])), (111, some ((B ++ plcL c id (2 * i + k)).map iA))]⟩) (fun k => k ≤ 2) (fun k => 2 - k) ?_ ?_
      · exact at_ex (0) (Nat.zero_le _) [(2, some 2), (111, some 111)] hR1.sub.ids rfl rfl ⟨⟨_, rfl, .pure trivial⟩, ⟨_, rfl, .pure pu⟩, ⟨_, rfl, .pure pu⟩, ⟨_, rfl, .pure pu⟩, ⟨_, rfl, .pure pu⟩, ⟨_, rfl, .pure pu⟩, ⟨_, rfl, .pure pu⟩, ⟨_, rfl, .pure pu⟩, trivial⟩ ⟨.inr ⟨_, _, rfl, rfl, .cons (.sl rfl (by first | rfl | omega | (simp; done) | (simp [*]; done) | (simp; omega) | (simp [*]; omega) | (simp [D32.len, -List.length_flatten, *]; done) | (simp [D32.len, -List.length_flatten, *]; omega))) .nil⟩, .inr ⟨_, _, rfl, rfl, .pure pul⟩, trivial⟩
      rintro k hk
      refine at_seq ?_
      refine at_region ?_
      refine s1 (y_p rfl) rfl <| ?_
      refine at_nil ?_
      refine x_tn ?_
      refine at_seq ?_
      refine at_cond rfl (fun hc24 => ?_) (fun hc24 => ?_)
      · have h24 : k < 2 := by have := of_decide_eq_true hc24; omega
        have hbl := bitsAt_lt hh id i k
        refine at_skip ?_
        refine x_tn ?_
        refine at_seq ?_
        refine at_block ?_
        refine at_seq ?_
        refine at_region ?_
        refine s1 (y_ixf k Tryd.underlying25 ti3 rfl rfl rfl (by omega) rfl) rfl <| s1 (y_load ti3 rfl rfl (bits2_get c id i h24)) rfl <| s1 (y_p rfl) rfl <| ?_
        refine at_nil ?_
        refine x_tn ?_
        refine at_seq ?_
        refine at_region ?_
        refine s1 (y_p rfl) rfl <| s1 (y_p rfl) rfl <| s1 (mulN 32 _ rfl rfl rfl rfl (by omega)) rfl <| s1 (y_p rfl) rfl <| s1 (quoN _ 128 rfl rfl rfl rfl (by omega) (by omega)) rfl <| s1 (addN _ _ rfl rfl rfl rfl (by omega)) rfl <| ?_
        refine at_yield [2] [(0, _), (1, _), (2, _), (4, _), (7, _), (8, _), (21, _), (22, _), (23, _), (24, _), (25, _), (26, _), (27, _), (28, _), (29, _), (30, _), (31, _), (32, _)] hR1 hR1.sub.ids rfl ⟨rfl, ⟨rfl, ⟨rfl, ⟨rfl, ⟨rfl, ⟨rfl, ⟨rfl, ⟨rfl, ⟨rfl, ⟨rfl, ⟨rfl, ⟨rfl, ⟨rfl, ⟨rfl, ⟨rfl, ⟨rfl, ⟨rfl, ⟨rfl, trivial⟩⟩⟩⟩⟩⟩⟩⟩⟩⟩⟩⟩⟩⟩⟩⟩⟩⟩ (by first | rfl | (simp [onlyE, refsE, refs, refsL, refsL_pul, refs_pu, memN]; done)) rfl rfl rfl rfl rfl fun w2 tm2 hd2 => ?_
        refine at_region ?_
        refine s1 (y_p rfl) rfl <| ?_
        refine at_nil ?_
        refine at_begin hd2 fun w3 hd3 => ?_
        refine at_block ?_
        refine at_region ?_
        refine s1 (y_load ti25 rfl rfl rfl) rfl <| s1 (y_p rfl) rfl <| ?_
        refine at_op rfl (n_bs1 10 rfl Tryd.underlying25 ti3 rfl rfl rfl rfl rfl ?_)
        refine at_op rfl (n_app 211 rfl Tryd.underlying25 ti3 rfl (.sl rfl (by simp [plcL])) rfl (SM_full rfl (by first | rfl | omega | (simp; done) | (simp [*]; done) | (simp; omega) | (simp [*]; omega) | (simp [D32.len, -List.length_flatten, *]; done) | (simp [D32.len, -List.length_flatten, *]; omega))) (by simp) (by first | omega | (simp only [maxLen]; omega) | (simp [maxLen]; done) | (simp [maxLen]; omega) | (simp [maxLen, *]; omega)) (by first | omega | (simp only [maxLen]; omega) | (simp [maxLen]; done) | (simp [maxLen]; omega) | (simp [maxLen, *]; omega)) rfl (plc_app B c id i h24) rfl ?_)
        refine at_op rfl (n_store1 ti25 rfl rfl rfl rfl (by first | rfl | omega | (simp; done) | (simp [*]; done) | (simp; omega) | (simp [*]; omega) | (simp [D32.len, -List.length_flatten, *]; done) | (simp [D32.len, -List.length_flatten, *]; omega)) rfl ?_)
        refine at_nil ?_
        refine x_bn ?_
        refine at_rend hR1 hd3 rfl ?_
        refine s1 (y_p rfl) rfl <| ?_
        refine at_nil ?_
        refine x_tn ?_
        refine at_else rfl ?_
        refine at_skip ?_
        refine x_bn ?_
        refine x_tn ?_
        refine at_region ?_
        refine s1 (addN _ 1 rfl rfl rfl rfl (by omega)) rfl <| s1 (y_p rfl) rfl <| ?_
        refine at_nil ?_
        exact at_end (k + 1) (by omega) (by omega) [(2, some 2), (111, some 211)] hR1.sub.ids rfl rfl ⟨⟨_, rfl, .pure trivial⟩, ⟨_, rfl, .pure pu⟩, ⟨_, rfl, .pure pu⟩, ⟨_, rfl, .pure pu⟩, ⟨_, rfl, .pure pu⟩, ⟨_, rfl, .pure pu⟩, ⟨_, rfl, .pure pu⟩, ⟨_, rfl, .pure pu⟩, trivial⟩ ⟨.inr ⟨_, _, rfl, rfl, .cons (.sl rfl (by first | rfl | omega | (simp; done) | (simp [*]; done) | (simp; omega) | (simp [*]; omega) | (simp [D32.len, -List.length_flatten, *]; done) | (simp [D32.len, -List.length_flatten, *]; omega))) .nil⟩, .inr ⟨_, _, rfl, rfl, .of (by rfl) (.pure pul)⟩, trivial⟩
      · have h24 : k = 2 := by have := of_decide_eq_false hc24; omega
        subst h24
        refine at_exit ?_
        refine x_te ?_
        refine x_te ?_
        refine x_be ?_
        refine x_bn ?_
        refine x_tn ?_
        refine at_region ?_
        refine s1 (addN _ 1 rfl rfl rfl rfl (by omega)) rfl <| s1 (y_p rfl) rfl <| ?_
        refine at_nil ?_
        exact at_end (i + 1) (by omega) (by omega) [(2, some 2), (111, some 111)] hR1.sub.ids rfl rfl ⟨⟨_, rfl, .pure trivial⟩, ⟨_, rfl, .pure pu⟩, ⟨_, rfl, .pure pu⟩, ⟨_, rfl, .pure pu⟩, trivial⟩ ⟨.inr ⟨_, _, rfl, rfl, .cons (.sl rfl (by first | rfl | omega | (simp; done) | (simp [*]; done) | (simp; omega) | (simp [*]; omega) | (simp [D32.len, -List.length_flatten, *]; done) | (simp [D32.len, -List.length_flatten, *]; omega))) .nil⟩, .inr ⟨_, _, rfl, rfl, .of (by rw [Nat.mul_succ]) (.pure pul)⟩, trivial⟩
    · have h16 : ¬ i < c.F.length := by have := of_decide_eq_false hc16; omega
      refine at_skip ?_
      refine x_tn ?_
      refine at_seq ?_
      refine at_frz 5 rfl rfl pul rfl ?_
      refine at_say 5 rfl (v' := bits2 c id i) (bits2_none h16) ?_
      refine at_region ?_
      refine s1 (y_p rfl) rfl <| s1 (y_len Tryd.underlying25 rfl rfl rfl) rfl <| s1 ((y_p rfl).v (v' := .i .i64 0) rfl) rfl <| ?_
      refine at_nil ?_
      refine x_tn ?_
      refine at_block ?_
      refine at_loop (ι := Nat) (fun k => [(0, yv l1), (1, .fp (casL c)), (2, .fp [nJ id]), (4, nJ i), (8, nJ i), (21, bits2 c id i), (22, nJ 2), (23, nJ k)]) (fun k => ⟨[(2, some ([.sl 111 1 0 (B.length + (2 * i + k))])), (111, some ((B ++ plcL c id (2 * i + k)).map iA))]⟩) (fun k => k ≤ 2) (fun k => 2 - k) ?_ ?_
      · exact at_ex (0) (Nat.zero_le _) [(2, some 2), (111, some 111)] hR1.sub.ids rfl rfl ⟨⟨_, rfl, .pure trivial⟩, ⟨_, rfl, .pure pu⟩, ⟨_, rfl, .pure pu⟩, ⟨_, rfl, .pure pu⟩, ⟨_, rfl, .pure pu⟩, ⟨_, rfl, .pure pu⟩, ⟨_, rfl, .pure pu⟩, ⟨_, rfl, .pure pu⟩, trivial⟩ ⟨.inr ⟨_, _, rfl, rfl, .cons (.sl rfl (by first | rfl | omega | (simp; done) | (simp [*]; done) | (simp; omega) | (simp [*]; omega) | (simp [D32.len, -List.length_flatten, *]; done) | (simp [D32.len, -List.length_flatten, *]; omega))) .nil⟩, .inr ⟨_, _, rfl, rfl, .pure pul⟩, trivial⟩
      rintro k hk
      refine at_seq ?_
      refine at_region ?_
      refine s1 (y_p rfl) rfl <| ?_
      refine at_nil ?_
      refine x_tn ?_
      refine at_seq ?_
      refine at_cond rfl (fun hc24 => ?_) (fun hc24 => ?_)
      · have h24 : k < 2 := by have := of_decide_eq_true hc24; omega
        have hbl := bitsAt_lt hh id i k
        refine at_skip ?_
        refine x_tn ?_
        refine at_seq ?_
        refine at_block ?_
        refine at_seq ?_
        refine at_region ?_
        refine s1 (y_ixf k Tryd.underlying25 ti3 rfl rfl rfl (by omega) rfl) rfl <| s1 (y_load ti3 rfl rfl (bits2_get c id i h24)) rfl <| s1 (y_p rfl) rfl <| ?_
        refine at_nil ?_
        refine x_tn ?_
        refine at_seq ?_
        refine at_region ?_
        refine s1 (y_p rfl) rfl <| s1 (y_p rfl) rfl <| s1 (mulN 32 _ rfl rfl rfl rfl (by omega)) rfl <| s1 (y_p rfl) rfl <| s1 (quoN _ 128 rfl rfl rfl rfl (by omega) (by omega)) rfl <| s1 (addN _ _ rfl rfl rfl rfl (by omega)) rfl <| ?_
        refine at_yield [2] [(0, _), (1, _), (2, _), (4, _), (7, _), (8, _), (21, _), (22, _), (23, _), (24, _), (25, _), (26, _), (27, _), (28, _), (29, _), (30, _), (31, _), (32, _)] hR1 hR1.sub.ids rfl ⟨rfl, ⟨rfl, ⟨rfl, ⟨rfl, ⟨rfl, ⟨rfl, ⟨rfl, ⟨rfl, ⟨rfl, ⟨rfl, ⟨rfl, ⟨rfl, ⟨rfl, ⟨rfl, ⟨rfl, ⟨rfl, ⟨rfl, ⟨rfl, trivial⟩⟩⟩⟩⟩⟩⟩⟩⟩⟩⟩⟩⟩⟩⟩⟩⟩⟩ (by first | rfl | (simp [onlyE, refsE, refs, refsL, refsL_pul, refs_pu, memN]; done)) rfl rfl rfl rfl rfl fun w4 tm4 hd4 => ?_
        refine at_region ?_
        refine s1 (y_p rfl) rfl <| ?_
        refine at_nil ?_
        refine at_begin hd4 fun w5 hd5 => ?_
        refine at_block ?_
        refine at_region ?_
        refine s1 (y_load ti25 rfl rfl rfl) rfl <| s1 (y_p rfl) rfl <| ?_
        refine at_op rfl (n_bs1 10 rfl Tryd.underlying25 ti3 rfl rfl rfl rfl rfl ?_)
        refine at_op rfl (n_app 211 rfl Tryd.underlying25 ti3 rfl (.sl rfl (by simp [plcL])) rfl (SM_full rfl (by first | rfl | omega | (simp; done) | (simp [*]; done) | (simp; omega) | (simp [*]; omega) | (simp [D32.len, -List.length_flatten, *]; done) | (simp [D32.len, -List.length_flatten, *]; omega))) (by simp) (by first | omega | (simp only [maxLen]; omega) | (simp [maxLen]; done) | (simp [maxLen]; omega) | (simp [maxLen, *]; omega)) (by first | omega | (simp only [maxLen]; omega) | (simp [maxLen]; done) | (simp [maxLen]; omega) | (simp [maxLen, *]; omega)) rfl (plc_app B c id i h24) rfl ?_)
        refine at_op rfl (n_store1 ti25 rfl rfl rfl rfl (by first | rfl | omega | (simp; done) | (simp [*]; done) | (simp; omega) | (simp [*]; omega) | (simp [D32.len, -List.length_flatten, *]; done) | (simp [D32.len, -List.length_flatten, *]; omega)) rfl ?_)
        refine at_nil ?_
        refine x_bn ?_
        refine at_rend hR1 hd5 rfl ?_
        refine s1 (y_p rfl) rfl <| ?_
        refine at_nil ?_
        refine x_tn ?_
        refine at_else rfl ?_
        refine at_skip ?_
        refine x_bn ?_
        refine x_tn ?_
        refine at_region ?_
        refine s1 (addN _ 1 rfl rfl rfl rfl (by omega)) rfl <| s1 (y_p rfl) rfl <| ?_
        refine at_nil ?_
        exact at_end (k + 1) (by omega) (by omega) [(2, some 2), (111, some 211)] hR1.sub.ids rfl rfl ⟨⟨_, rfl, .pure trivial⟩, ⟨_, rfl, .pure pu⟩, ⟨_, rfl, .pure pu⟩, ⟨_, rfl, .pure pu⟩, ⟨_, rfl, .pure pu⟩, ⟨_, rfl, .pure pu⟩, ⟨_, rfl, .pure pu⟩, ⟨_, rfl, .pure pu⟩, trivial⟩ ⟨.inr ⟨_, _, rfl, rfl, .cons (.sl rfl (by first | rfl | omega | (simp; done) | (simp [*]; done) | (simp; omega) | (simp [*]; omega) | (simp [D32.len, -List.length_flatten, *]; done) | (simp [D32.len, -List.length_flatten, *]; omega))) .nil⟩, .inr ⟨_, _, rfl, rfl, .of (by rfl) (.pure pul)⟩, trivial⟩
      · have h24 : k = 2 := by have := of_decide_eq_false hc24; omega
        subst h24
        refine at_exit ?_
        refine x_te ?_
        refine x_te ?_
        refine x_be ?_
        refine x_bn ?_
        refine x_tn ?_
        refine at_region ?_
        refine s1 (addN _ 1 rfl rfl rfl rfl (by omega)) rfl <| s1 (y_p rfl) rfl <| ?_
        refine at_nil ?_
        exact at_end (i + 1) (by omega) (by omega) [(2, some 2), (111, some 111)] hR1.sub.ids rfl rfl ⟨⟨_, rfl, .pure trivial⟩, ⟨_, rfl, .pure pu⟩, ⟨_, rfl, .pure pu⟩, ⟨_, rfl, .pure pu⟩, trivial⟩ ⟨.inr ⟨_, _, rfl, rfl, .cons (.sl rfl (by first | rfl | omega | (simp; done) | (simp [*]; done) | (simp; omega) | (simp [*]; omega) | (simp [D32.len, -List.length_flatten, *]; done) | (simp [D32.len, -List.length_flatten, *]; omega))) .nil⟩, .inr ⟨_, _, rfl, rfl, .of (by rw [Nat.mul_succ]) (.pure pul)⟩, trivial⟩
  · have h9 : i = 16 := by have := of_decide_eq_false hc9; omega
    subst h9
    refine at_exit ?_
    refine x_te ?_
    refine x_te ?_
    refine x_be ?_
    refine x_tn ?_
    refine at_region ?_
    refine s1 (y_p rfl) rfl <| s1 (y_load ti3 rfl rfl rfl) rfl <| s1 (quoN _ 128 rfl rfl rfl rfl (by omega) (by omega)) rfl <| s1 (addN 512 _ rfl rfl rfl rfl (by omega)) rfl <| ?_
    refine at_yield [2] [(0, _), (1, _), (2, _), (8, _), (9, _), (37, _), (38, _), (39, _), (40, _)] hR1 hR1.sub.ids rfl ⟨rfl, ⟨rfl, ⟨rfl, ⟨rfl, ⟨rfl, ⟨rfl, ⟨rfl, ⟨rfl, ⟨rfl, trivial⟩⟩⟩⟩⟩⟩⟩⟩⟩ (by first | rfl | (simp [onlyE, refsE, refs, refsL, refsL_pul, refs_pu, memN]; done)) rfl rfl rfl rfl rfl fun w6 tm6 hd6 => ?_
    refine at_region ?_
    refine s1 (y_p rfl) rfl <| ?_
    refine at_nil ?_
    refine at_begin hd6 fun w7 hd7 => ?_
    refine at_block ?_
    refine at_region ?_
    refine s1 (y_load ti25 rfl rfl rfl) rfl <| s1 (y_p rfl) rfl <| ?_
    refine at_op rfl (n_bs1 10 rfl Tryd.underlying25 ti3 rfl rfl rfl rfl rfl ?_)
    refine at_op rfl (n_app 211 rfl Tryd.underlying25 ti3 rfl (.sl rfl (by simp [plcL])) rfl (SM_full rfl (by first | rfl | omega | (simp; done) | (simp [*]; done) | (simp; omega) | (simp [*]; omega) | (simp [D32.len, -List.length_flatten, *]; done) | (simp [D32.len, -List.length_flatten, *]; omega))) (by simp) (by first | omega | (simp only [maxLen]; omega) | (simp [maxLen]; done) | (simp [maxLen]; omega) | (simp [maxLen, *]; omega)) (by first | omega | (simp only [maxLen]; omega) | (simp [maxLen]; done) | (simp [maxLen]; omega) | (simp [maxLen, *]; omega)) rfl (whr_app B c id) rfl ?_)
    refine at_op rfl (n_store1 ti25 rfl rfl rfl rfl (by first | rfl | omega | (simp; done) | (simp [*]; done) | (simp; omega) | (simp [*]; omega) | (simp [D32.len, -List.length_flatten, *]; done) | (simp [D32.len, -List.length_flatten, *]; omega)) rfl ?_)
    refine at_nil ?_
    refine x_bn ?_
    refine at_rend hR1 hd7 rfl ?_
    refine at_nil ?_
    refine at_itnil rfl hR1 hS ?_
    refine x_bn ?_
    refine x_tn ?_
    refine at_seq ?_
    refine at_region ?_
    refine s1 (y_load ti25 rfl rfl rfl) rfl <| s1 (y_p rfl) rfl <| ?_
    refine at_nil ?_
    refine x_tn ?_
    refine at_ret ?_
    refine at_resultM (rs := [.tmp 4]) rfl rfl rfl hS rfl (by simp) rfl (r_tmp rfl r_nil) ⟨211, rfl, rfl⟩
set_option linter.unusedSimpArgs false in
set_option linter.unusedVariables false in
set_option maxHeartbeats 1000000 in
set_option maxRecDepth 10000 in
theorem scollect_ok (c : Cas) (hx : c.x.length = 32) (id : Nat) (hid : id < 1024) (hh : headB c.F = true) : Con Tryd.prog 44 [.fn (.func 77) [] [.fp (casL c), .fp [nJ id]]] (Ret (intsA (whereL c id))) := by
  refine enter Tryd.func44 rfl Tryd.ntmps44 (by kernel_rfl) (Nat.le_of_ble_eq_true rfl) fun w0 X0 hI => ?_
  refine at_seq ?_
  refine at_region ?_
  refine s1 (y_p rfl) rfl <| ?_
  refine at_nil ?_
  refine x_tn ?_
  refine at_seq ?_
  refine at_region ?_
  refine s1 (y_p rfl) rfl <| ?_
  refine at_op rfl (n_callO 4 rfl false rfl (.cons (.pure pu) (.cons (.pure pu) .nil)) (sappend0_ok c hx id hid hh) pul (.inl rfl) rfl ?_)
  refine s1 (y_p rfl) rfl <| ?_
  refine at_nil ?_
  refine x_tn ?_
  refine at_ret ?_
  refine at_frz 2 rfl rfl pul (view_eq (by simp) rfl) ?_
  refine at_result (rs := [.tmp 2]) rfl (r_tmp rfl r_nil) ?_
  show A.fz 33 _ = _
  rw [intsA, len_whereL]; rfl
set_option linter.unusedSimpArgs false in
set_option linter.unusedVariables false in
set_option maxHeartbeats 1000000 in
set_option maxRecDepth 10000 in
theorem swhere_ok (c : Cas) (hx : c.x.length = 32) (id : Int) : Con Tryd.prog 15 [.ag (casL c), .i .i64 id] (Ret (whereA c id)) := by
  refine enter Tryd.func15 rfl Tryd.ntmps15 (by kernel_rfl) (Nat.le_of_ble_eq_true rfl) fun w0 X0 hI => ?_
  refine at_seq ?_
  refine at_region ?_
  refine at_op rfl (n_boxA 2 rfl rfl rfl ?_)
  refine s1 (y_p rfl) rfl <| s1 ((y_p rfl).v (v' := .i .i64 0) rfl) rfl <| ?_
  refine at_nil ?_
  refine x_tn ?_
  refine at_seq ?_
  refine at_seq ?_
  rcases whr_cases c id with hcs | hcs | hcs
  · skip
    refine at_region ?_
    refine s1 (y_loadA0 ti27 rfl rfl (cas_len hx)) rfl <| ?_
    refine at_op rfl (n_call false rfl (.cons (.pure pu) (.nil)) (Con.cast (shead_ok c hx) (congrArg A.b hcs)) pu (.inl rfl) rfl ?_)
    refine s1 ((y_p rfl).v (v' := .b true) (rfl)) rfl <| s1 (y_p rfl) rfl <| g0 rfl rfl rfl rfl <| g0 rfl rfl rfl rfl <| g0 rfl rfl rfl rfl <| s1 (y_p rfl) rfl <| ?_
    refine at_nil ?_
    refine x_tn ?_
    refine at_then rfl ?_
    refine at_seq ?_
    refine at_region ?_
    refine s1 (y_p rfl) rfl <| s1 ((y_p rfl).v (v' := .i .i64 370) rfl) rfl <| ?_
    refine at_nil ?_
    refine x_tn ?_
    refine at_ret ?_
    refine x_tr ?_
    refine at_result (rs := [.tmp 4, .tmp 5]) rfl (r_tmp rfl (r_tmp rfl r_nil)) ?_
    rw [where_no (by rw [hcs]; rfl)]; rfl
  · skip
    refine at_region ?_
    refine s1 (y_loadA0 ti27 rfl rfl (cas_len hx)) rfl <| ?_
    refine at_op rfl (n_call false rfl (.cons (.pure pu) (.nil)) (Con.cast (shead_ok c hx) (congrArg A.b hcs.1)) pu (.inl rfl) rfl ?_)
    refine s1 ((y_p rfl).v (v' := .b false) (rfl)) rfl <| s1 (y_p rfl) rfl <| g1 rfl rfl (y_p rfl) rfl <| ?_
    refine at_opg rfl rfl rfl (n_call false rfl (.cons (.pure pu) (.nil)) (Con.cast (snum_ok id) (congrArg A.b hcs.2)) pu (.inl rfl) rfl ?_)
    refine g1 rfl rfl ((y_p rfl).v (v' := .b true) (rfl)) rfl <| s1 (y_p rfl) rfl <| ?_
    refine at_nil ?_
    refine x_tn ?_
    refine at_then rfl ?_
    refine at_seq ?_
    refine at_region ?_
    refine s1 (y_p rfl) rfl <| s1 ((y_p rfl).v (v' := .i .i64 370) rfl) rfl <| ?_
    refine at_nil ?_
    refine x_tn ?_
    refine at_ret ?_
    refine x_tr ?_
    refine at_result (rs := [.tmp 4, .tmp 5]) rfl (r_tmp rfl (r_tmp rfl r_nil)) ?_
    rw [where_no (by rw [hcs.1, hcs.2]; rfl)]; rfl
  · obtain ⟨hh, j, rfl, hid, hnb⟩ := hcs
    refine at_region ?_
    refine s1 (y_loadA0 ti27 rfl rfl (cas_len hx)) rfl <| ?_
    refine at_op rfl (n_call false rfl (.cons (.pure pu) (.nil)) (Con.cast (shead_ok c hx) (congrArg A.b hh)) pu (.inl rfl) rfl ?_)
    refine s1 ((y_p rfl).v (v' := .b false) (rfl)) rfl <| s1 (y_p rfl) rfl <| g1 rfl rfl (y_p rfl) rfl <| ?_
    refine at_opg rfl rfl rfl (n_call false rfl (.cons (.pure pu) (.nil)) (Con.cast (snum_ok j) (congrArg A.b hnb)) pu (.inl rfl) rfl ?_)
    refine g1 rfl rfl ((y_p rfl).v (v' := .b false) (rfl)) rfl <| s1 (y_p rfl) rfl <| ?_
    refine at_nil ?_
    refine x_tn ?_
    refine at_else rfl ?_
    refine at_skip ?_
    refine x_tn ?_
    refine at_seq ?_
    refine at_region ?_
    refine s1 (y_loadA0 ti27 rfl rfl (cas_len hx)) rfl <| s1 (y_p rfl) rfl <| ?_
    refine at_op rfl (n_call false rfl (.cons (.pure pu) (.cons (.pure pu) (.nil))) (splaces_ok c j) pu (.inl rfl) rfl ?_)
    refine at_op rfl (n_call false rfl (.cons (.pure pu) .nil) (scollect_ok c hx j hid hh) pu (.inl rfl) rfl ?_)
    refine s1 (y_p rfl) rfl <| s1 ((y_p rfl).v (v' := .i .i64 0) rfl) rfl <| ?_
    refine at_nil ?_
    refine x_tn ?_
    refine at_ret ?_
    refine at_result (rs := [.tmp 4, .tmp 5]) rfl (r_tmp rfl (r_tmp rfl r_nil)) ?_
    rw [where_yes hh hnb]; rfl
end Go.Abs.D2
