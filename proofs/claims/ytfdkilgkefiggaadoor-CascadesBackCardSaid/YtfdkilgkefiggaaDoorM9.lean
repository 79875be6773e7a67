/-
  The engine, the plain laws and the walks that the rows need, part 9. Conditions: none.
-/
import Derived.Test.YtfdkilgkefiggaaDoorM8
import Derived.ProofKit
import Derived.Deep.Slices
import Derived.LaidMore
import Derived.OpenShut
import Derived.Lib.AppendZerosOnto
set_option linter.unusedVariables false
set_option linter.unusedSimpArgs false
set_option maxHeartbeats 1000000
set_option maxRecDepth 10000
-- AbsL
namespace Go.Abs
open Go Go.Eng
inductive D where
  | int (k : IntKind) | bool | str | sl (e : D) | arr (n : Nat) (e : D) | st (fs : List D)
  deriving Inhabited
mutual
def D.cells : D → Nat
  | .int _ => 1 | .bool => 1 | .str => 1 | .sl _ => 1
  | .arr n e => n * e.cells
  | .st fs => D.cellsL fs
def D.cellsL : List D → Nat
  | [] => 0
  | d :: ds => d.cells + D.cellsL ds
end
mutual
def Den : D → List A → Prop
  | .int k, aS => ∃ n, (Lit.int k n).wf = true ∧ aS = [.i k n]
  | .bool, aS => ∃ b, aS = [.b b]
  | .str, aS => ∃ l : List UInt8, l.length ≤ maxLen ∧ aS = [.s l]
  | .sl e, aS => ∃ ls : List (List A), (∀ x ∈ ls, Den e x) ∧ ls.length ≤ maxLen ∧ aS = [.fz ls.length ls.flatten]
  | .arr n e, aS => ∃ ls : List (List A), (∀ x ∈ ls, Den e x) ∧ ls.length = n ∧ aS = ls.flatten
  | .st fs, aS => DenL fs aS
def DenL : List D → List A → Prop
  | [], aS => aS = []
  | d :: ds, aS => ∃ x y, Den d x ∧ DenL ds y ∧ aS = x ++ y
end
def isInt (k : IntKind) : Option TypeDesc → Bool
  | some (.int j) => Nat.beq (knum j) (knum k)
  | _ => false
def isBool : Option TypeDesc → Bool
  | some .bool => true
  | _ => false
def isStr : Option TypeDesc → Bool
  | some .string => true
  | _ => false
mutual
def fitD (P : Program) : D → TypeId → Bool
  | .int k, t => isInt k (P.underlying t)
  | .bool, t => isBool (P.underlying t)
  | .str, t => isStr (P.underlying t)
  | .sl e, t => match P.underlying t with | some (.slice u) => fitD P e u && Nat.beq (P.cellsOf u) e.cells && Nat.blt 0 e.cells | _ => false
  | .arr n e, t => match P.underlying t with | some (.array m u) => Nat.beq m n && fitD P e u && Nat.beq (P.cellsOf u) e.cells && Nat.beq (P.cellsOf t) (n * e.cells) | _ => false
  | .st ds, t => match P.underlying t with | some (.struct fs) => fitL P ds fs.toList 0 && Nat.beq (P.cellsOf t) (D.cellsL ds) | _ => false
def fitL (P : Program) : List D → List Field → Nat → Bool
  | [], [], _ => true
  | d :: ds, f :: fs, o => Nat.beq f.offset o && Nat.beq (P.cellsOf f.type) d.cells && fitD P d f.type && fitL P ds fs (o + d.cells)
  | _, _, _ => false
end
theorem cell_spot {w : World} {a : Addr} {v : Value} (h : w.cell? a = some v) : a.spot = none := by
  unfold World.cell? at h
  split at h
  · split at h
    · cases h
    · rename_i hs; simpa using hs
  · cases h
theorem add_spot {a : Addr} (h : (a.add 0).spot = none) : a.spot = none := by
  simpa [Addr.add] using h
theorem add_plain {a : Addr} (h : a.spot = none) (i : Nat) : a.add i = ⟨a.block, a.off + i, none⟩ := by
  unfold Addr.add
  cases a
  simp at h
  subst h
  simp
def XW (w : World) : Xs := fun b o => ∃ v, w.cell? ⟨b, o, none⟩ = some v
theorem XW_lt {w : World} : ∀ b o, XW w b o → b < w.heap.size := by
  rintro b o ⟨v, h⟩
  unfold World.cell? at h
  split at h
  · rename_i c e q hb
    obtain ⟨hlt, _⟩ := Array.getElem?_eq_some_iff.1 hb
    exact hlt
  · cases h
section
variable {H : Type} {enc : TypeId × Value → H} {P : Program} {w : World} {base : Nat} {held : Bool}
theorem VM_app {X : Xs} : ∀ {cs ds : List A} {b o : Nat}, VM X w cs b o → VM X w ds b (o + cs.length) → VM X w (cs ++ ds) b o
  | [], ds, b, o, _, h => by simpa using h
  | c :: cs, ds, b, o, h, h' => by
    simp only [VM, List.cons_append] at h ⊢
    refine ⟨h.1, h.2.1, VM_app h.2.2 ?_⟩
    rw [show o + 1 + cs.length = o + (c :: cs).length by simp; omega]
    exact h'
theorem VM_cells {aS : List A} {cs : List Value} {b o : Nat} (hv : VS (XW w) w no aS cs) (h1 : ∀ x ∈ cs, x.oneCell' = true) (hc : ∀ i, i < cs.length → w.cell? ⟨b, o + i, none⟩ = cs[i]?) : VM (XW w) w aS b o := by
  refine VM_of fun j c hj => ?_
  obtain ⟨u, hu, hvu⟩ := VS_get hv hj
  have hlt := (List.getElem?_eq_some_iff.1 hu).1
  have hcell := hc j hlt
  rw [hu] at hcell
  exact ⟨⟨u, hcell⟩, u, hcell, hvu, h1 _ (List.mem_of_getElem? hu)⟩
theorem VM_rows {sz : Nat} {b : Nat} {W : Nat → List A} (hl : ∀ i, (W i).length = sz ∨ True) : ∀ (n o : Nat), (∀ i, i < n → (W i).length = sz ∧ VM (XW w) w (W i) b (o + i * sz)) → VM (XW w) w ((List.range n).map W).flatten b o
  | 0, o, _ => by simp [VM]
  | n + 1, o, h => by
    rw [List.range_succ, List.map_append, List.flatten_append]
    refine VM_app (VM_rows hl n o fun i hi => h i (by omega)) ?_
    have e : ((List.range n).map W).flatten.length = n * sz := by
      have : ∀ m, m ≤ n → ((List.range m).map W).flatten.length = m * sz := by
        intro m
        induction m with
        | zero => intro _; simp
        | succ m ih =>
          intro hm
          rw [List.range_succ, List.map_append, List.flatten_append, List.length_append, ih (by omega)]
          simp only [List.map_cons, List.map_nil, List.flatten_cons, List.flatten_nil, List.append_nil]
          rw [(h m (by omega)).1, Nat.succ_mul]
      exact this n (Nat.le_refl _)
    rw [e]
    simpa using (h n (by omega)).2
theorem isInt_ok {k : IntKind} {x : Option TypeDesc} (h : isInt k x = true) : x = some (.int k) := by
  unfold isInt at h
  split at h
  · rename_i j
    have : knum j = knum k := Nat.eq_of_beq_eq_true h
    have : j = k := by cases j <;> cases k <;> first | rfl | (simp [knum] at this)
    rw [this]
  · cases h
theorem isBool_ok {x : Option TypeDesc} (h : isBool x = true) : x = some .bool := by
  unfold isBool at h; split at h
  · rfl
  · cases h
theorem isStr_ok {x : Option TypeDesc} (h : isStr x = true) : x = some .string := by
  unfold isStr at h; split at h
  · rfl
  · cases h
theorem VS_flatten {X : Xs} {β : Bm} : ∀ {ls : List (List A)} {us : List (List Value)}, ls.length = us.length → (∀ (i : Nat) (l : List A) (u : List Value), ls[i]? = some l → us[i]? = some u → VS X w β l u) → VS X w β ls.flatten us.flatten
  | [], [], _, _ => VS_nil
  | l :: ls, u :: us, hl, h => VS_app (h 0 l u rfl rfl) (VS_flatten (by simpa using hl) fun i l u h1 h2 => h (i + 1) l u (by simpa using h1) (by simpa using h2))
theorem flat_parts {α : Type} {sz : Nat} : ∀ (n : Nat) (l : List α), l.length = n * sz → ((List.range n).map fun i => (l.drop (i * sz)).take sz).flatten = l
  | 0, l, h => by
    have : l = [] := List.eq_nil_of_length_eq_zero (by simpa using h)
    subst this; rfl
  | n + 1, l, h => by
    have hs : (n + 1) * sz = n * sz + sz := Nat.succ_mul n sz
    rw [List.range_succ, List.map_append, List.flatten_append]
    have e : ((List.range n).map fun i => (l.drop (i * sz)).take sz) = (List.range n).map fun i => ((l.take (n * sz)).drop (i * sz)).take sz := by
      refine List.map_congr_left fun i hi => ?_
      have hi' : i < n := by simpa using hi
      rw [List.drop_take, List.take_take]
      congr 1
      have : i * sz + sz ≤ n * sz := by rw [← Nat.succ_mul]; exact Nat.mul_le_mul_right sz hi'
      omega
    rw [e, flat_parts n (l.take (n * sz)) (by rw [List.length_take, h]; omega)]
    simp only [List.map_cons, List.map_nil, List.flatten_cons, List.flatten_nil, List.append_nil]
    rw [List.take_of_length_le (l := l.drop (n * sz)) (by rw [List.length_drop, h]; omega)]
    exact List.take_append_drop _ _
mutual
theorem Den_len : ∀ (d : D) (aS : List A), Den d aS → aS.length = d.cells
  | .int k, aS, h => by simp only [Den] at h; obtain ⟨n, _, rfl⟩ := h; rfl
  | .bool, aS, h => by simp only [Den] at h; obtain ⟨n, rfl⟩ := h; rfl
  | .str, aS, h => by simp only [Den] at h; obtain ⟨n, _, rfl⟩ := h; rfl
  | .sl e, aS, h => by simp only [Den] at h; obtain ⟨n, _, _, rfl⟩ := h; rfl
  | .arr n e, aS, h => by
    simp only [Den] at h
    obtain ⟨ls, h1, h2, rfl⟩ := h
    subst h2
    have : ∀ ls : List (List A), (∀ x ∈ ls, Den e x) → ls.flatten.length = ls.length * e.cells := by
      intro ls
      induction ls with
      | nil => intro _; simp
      | cons l ls ih =>
        intro h
        rw [List.flatten_cons, List.length_append, Den_len e l (h l (.head _)), ih fun x hx => h x (.tail _ hx), List.length_cons, Nat.succ_mul]; omega
    exact this ls h1
  | .st fs, aS, h => by simp only [Den] at h; exact DenL_len fs aS h
theorem DenL_len : ∀ (ds : List D) (aS : List A), DenL ds aS → aS.length = D.cellsL ds
  | [], aS, h => by simp only [DenL] at h; subst h; rfl
  | d :: ds, aS, h => by
    simp only [DenL] at h
    obtain ⟨x, y, h1, h2, rfl⟩ := h
    rw [List.length_append, Den_len d x h1, DenL_len ds y h2]; rfl
end
mutual
theorem open_D : ∀ (d : D) (t : TypeId) (fuel : Nat) (cs : List Value) (x : DataW H × List MemPlace), fitD P d t = true → DataW.trod enc P w base (fun _ => true) held fuel t cs = some x → ∃ aS, Den d aS ∧ VS (XW w) w no aS cs ∧ ∀ u ∈ cs, u.oneCell' = true
  | .int k, t, fuel, cs, x, hf, h => by
    obtain ⟨n, rfl, _, hw⟩ := DataW.trod_int (isInt_ok hf) h
    exact ⟨[.i k n], ⟨n, hw, rfl⟩, VS_cons (by simp [V]) VS_nil, by simp [Value.oneCell']⟩
  | .bool, t, fuel, cs, x, hf, h => by
    obtain ⟨b, rfl, _⟩ := DataW.trod_bool (isBool_ok hf) h
    exact ⟨[.b b], ⟨b, rfl⟩, VS_cons (by simp [V]) VS_nil, by simp [Value.oneCell']⟩
  | .str, t, fuel, cs, x, hf, h => by
    obtain ⟨s, rfl, _, hs⟩ := DataW.trod_string (isStr_ok hf) h
    exact ⟨[.s s.data.toList], ⟨_, by simpa using hs, rfl⟩, VS_cons (by simp [V]) VS_nil, by simp [Value.oneCell']⟩
  | .sl e, t, fuel, cs, x, hf, h => by
    simp only [fitD] at hf
    split at hf
    · rename_i u ht
      simp only [Bool.and_eq_true] at hf
      obtain ⟨⟨hf1, hf2⟩, hf3⟩ := hf
      have hsz : P.cellsOf u = e.cells := Nat.eq_of_beq_eq_true hf2
      have hpos : 0 < e.cells := Nat.lt_of_succ_le (by simpa [Nat.blt] using hf3)
      rcases Deep.open_slice ht h with ⟨rfl, _⟩ | ⟨a, len, cap, m, n, DD, Pl, rfl, _, hl, hm, hmm, _, hx⟩
      · refine ⟨[.fz 0 []], ⟨[], (fun x hx => by cases hx), Nat.zero_le _, rfl⟩, VS_cons ?_ VS_nil, by simp [Value.oneCell']⟩
        simp only [V]
        exact ⟨none, 0, rfl, Nat.le_refl _, Nat.zero_le _, fun _ => rfl, (fun h => absurd h (Nat.lt_irrefl _)), by simp [VM]⟩
      · simp only [if_true] at hmm
        subst hmm
        have hV : ∀ i, i < m → ∃ q : List A × List Value, (Den e q.1 ∧ VS (XW w) w no q.1 q.2 ∧ ∀ u ∈ q.2, u.oneCell' = true) ∧ w.cells? base (a.add (i * P.cellsOf u)) (P.cellsOf u) = some q.2 := fun i hi => by
          obtain ⟨cs', h1, h2⟩ := hx i hi
          obtain ⟨aS, g1, g2, g3⟩ := open_D e u n cs' _ hf1 h2
          exact ⟨(aS, cs'), ⟨g1, g2, g3⟩, h1⟩
        obtain ⟨W, hW⟩ := Deep.choose_lt (α := List A × List Value) (p := fun i q => (Den e q.1 ∧ VS (XW w) w no q.1 q.2 ∧ ∀ u ∈ q.2, u.oneCell' = true) ∧ w.cells? base (a.add (i * P.cellsOf u)) (P.cellsOf u) = some q.2) hV
        rw [hsz] at hW
        have hspot : 0 < m → a.spot = none := fun h0 => by
          obtain ⟨_, _, hc⟩ := World.cells?_some (hW 0 h0).2
          have hln : (W 0).2.length = e.cells := by rw [VS_len (hW 0 h0).1.2.1, Den_len e _ (hW 0 h0).1.1]
          have := hc 0 (by omega)
          rw [List.getElem?_eq_getElem (by omega)] at this
          have h1 := cell_spot this
          rw [Nat.zero_mul] at h1
          exact add_spot (add_spot h1)
        refine ⟨[.fz len ((List.range len).map fun i => (W i).1).flatten], ⟨(List.range len).map fun i => (W i).1, ?_, by simp; omega, by simp⟩, VS_cons ?_ VS_nil, by simp [Value.oneCell']⟩
        · intro x hx
          obtain ⟨i, hi, rfl⟩ := List.mem_map.1 hx
          exact (hW i (by have := List.mem_range.1 hi; omega)).1.1
        · simp only [V]
          refine ⟨some a, m, rfl, hl, hm, (fun h => by cases h), (fun h0 x hx => by cases hx; exact hspot h0), ?_⟩
          refine VM_rows (sz := e.cells) (W := fun i => (W i).1) (fun _ => .inr trivial) len _ fun i hi => ?_
          obtain ⟨⟨g1, g2, g3⟩, g4⟩ := hW i (by omega)
          obtain ⟨_, hlen, hc⟩ := World.cells?_some g4
          refine ⟨Den_len e _ g1, VM_cells g2 g3 fun k hk => ?_⟩
          have h2 := hc k (by omega)
          have hs := hspot (by omega)
          rw [add_plain hs, add_plain rfl] at h2
          exact h2
    · cases hf
  | .arr k e, t, fuel, cs, x, hf, h => by
    simp only [fitD] at hf
    split at hf
    · rename_i m u ht
      simp only [Bool.and_eq_true] at hf
      obtain ⟨⟨⟨hm, hf1⟩, hf2⟩, hf3⟩ := hf
      have hmk : m = k := Nat.eq_of_beq_eq_true hm
      subst hmk
      have hsz : P.cellsOf u = e.cells := Nat.eq_of_beq_eq_true hf2
      have hst : P.cellsOf t = m * e.cells := Nat.eq_of_beq_eq_true hf3
      obtain ⟨xs, n, _, _, hl, hxl, hx⟩ := DataW.trod_array ht h
      rw [hsz] at hx
      rw [hst] at hl
      have hV : ∀ i, i < m → ∃ aS : List A, Den e aS ∧ VS (XW w) w no aS ((cs.drop (i * e.cells)).take e.cells) ∧ ∀ u ∈ (cs.drop (i * e.cells)).take e.cells, u.oneCell' = true := fun i hi => by
        have := hx i hi
        rw [List.getElem?_eq_getElem (by omega)] at this
        exact open_D e u n _ _ hf1 this
      obtain ⟨W, hW⟩ := Deep.choose_lt (α := List A) (p := fun i aS => Den e aS ∧ VS (XW w) w no aS ((cs.drop (i * e.cells)).take e.cells) ∧ ∀ u ∈ (cs.drop (i * e.cells)).take e.cells, u.oneCell' = true) hV
      refine ⟨((List.range m).map W).flatten, ⟨(List.range m).map W, ?_, by simp, rfl⟩, ?_, ?_⟩
      · intro x hx
        obtain ⟨i, hi, rfl⟩ := List.mem_map.1 hx
        exact (hW i (List.mem_range.1 hi)).1
      · have e1 := flat_parts m cs hl
        rw [← e1]
        refine VS_flatten (by simp) fun i l u h1 h2 => ?_
        rw [List.getElem?_map] at h1 h2
        obtain ⟨j, hj, rfl⟩ := Option.map_eq_some_iff.1 h1
        rw [hj] at h2
        simp only [Option.map_some, Option.some.injEq] at h2
        subst h2
        exact (hW j (by have := List.mem_range.1 (List.mem_of_getElem? hj); omega)).2.1
      · intro u hu
        rw [← flat_parts m cs hl] at hu
        obtain ⟨l, hl', hu⟩ := List.mem_flatten.1 hu
        obtain ⟨i, hi, rfl⟩ := List.mem_map.1 hl'
        exact (hW i (List.mem_range.1 hi)).2.2 u hu
    · cases hf
  | .st ds, t, fuel, cs, x, hf, h => by
    simp only [fitD] at hf
    split at hf
    · rename_i fs ht
      simp only [Bool.and_eq_true] at hf
      have hst : P.cellsOf t = D.cellsL ds := Nat.eq_of_beq_eq_true hf.2
      obtain ⟨xs, n, _, _, hl, hxl, hx⟩ := DataW.trod_struct ht h
      obtain ⟨aS, g1, g2, g3⟩ := open_L ds fs.toList 0 n cs hf.1 (by rw [hl, hst]) (fun i f hi => by
        have hi' : fs[i]? = some f := by simpa using hi
        have := hx i f hi'
        have hlt : i < xs.length := by rw [hxl]; exact (Array.getElem?_eq_some_iff.1 hi').1
        rw [List.getElem?_eq_getElem hlt] at this
        exact ⟨_, by rw [Nat.sub_zero]; exact this⟩)
      exact ⟨aS, g1, g2, g3⟩
    · cases hf
theorem open_L : ∀ (ds : List D) (fs : List Field) (o n : Nat) (cs : List Value), fitL P ds fs o = true → cs.length = D.cellsL ds → (∀ (i : Nat) (f : Field), fs[i]? = some f → ∃ y : DataW H × List MemPlace, DataW.trod enc P w base (fun _ => true) held n f.type ((cs.drop (f.offset - o)).take (P.cellsOf f.type)) = some y) → ∃ aS, DenL ds aS ∧ VS (XW w) w no aS cs ∧ ∀ u ∈ cs, u.oneCell' = true
  | [], fs, o, n, cs, hf, hl, _ => by
    have : cs = [] := List.eq_nil_of_length_eq_zero hl
    subst this
    exact ⟨[], rfl, VS_nil, (fun u h => by cases h)⟩
  | d :: ds, [], o, n, cs, hf, hl, _ => by simp [fitL] at hf
  | d :: ds, f :: fs, o, n, cs, hf, hl, h => by
    simp only [fitL, Bool.and_eq_true] at hf
    obtain ⟨⟨⟨h1, h2⟩, h3⟩, h4⟩ := hf
    have e1 : f.offset = o := Nat.eq_of_beq_eq_true h1
    have e2 : P.cellsOf f.type = d.cells := Nat.eq_of_beq_eq_true h2
    have hl' : cs.length = d.cells + D.cellsL ds := hl
    obtain ⟨y, hy⟩ := h 0 f rfl
    rw [e1, e2, Nat.sub_self, List.drop_zero] at hy
    obtain ⟨aS, g1, g2, g3⟩ := open_D d f.type n _ y h3 hy
    have hfo := fitL_off ds fs (o + d.cells) h4
    obtain ⟨bs, k1, k2, k3⟩ := open_L ds fs (o + d.cells) n (cs.drop d.cells) h4 (by rw [List.length_drop]; omega) (fun i f' hi => by
      obtain ⟨y, hy⟩ := h (i + 1) f' (by simpa using hi)
      have hoff := hfo f' (List.mem_of_getElem? hi)
      refine ⟨y, ?_⟩
      rw [List.drop_drop, show d.cells + (f'.offset - (o + d.cells)) = f'.offset - o by omega]
      exact hy)
    refine ⟨aS ++ bs, ⟨aS, bs, g1, k1, rfl⟩, ?_, ?_⟩
    · have := VS_app g2 k2
      rwa [List.take_append_drop] at this
    · intro u hu
      rw [← List.take_append_drop d.cells cs] at hu
      exact (List.mem_append.1 hu).elim (g3 u) (k3 u)
theorem fitL_off : ∀ (ds : List D) (fs : List Field) (o : Nat), fitL P ds fs o = true → ∀ f ∈ fs, o ≤ f.offset
  | [], [], o, _, f, hm => by cases hm
  | [], _ :: _, o, h, f, hm => by simp [fitL] at h
  | _ :: _, [], o, h, f, hm => by cases hm
  | d :: ds, f' :: fs, o, h, f, hm => by
    simp only [fitL, Bool.and_eq_true] at h
    have e1 : f'.offset = o := Nat.eq_of_beq_eq_true h.1.1.1
    rcases List.mem_cons.1 hm with rfl | hm
    · omega
    · have := fitL_off ds fs (o + d.cells) h.2 f hm; omega
end
def argA : D → List A → A
  | .arr _ _, aS => .ag aS
  | .st _, aS => .ag aS
  | _, aS => aS.getD 0 un
theorem row_D {t : TypeId} {r : Reach} {b0 : Nat} {v : Value} {x : DataW H} {ps : List MemPlace} (d : D) (hf : fitD P d t = true) (hval : Value.okWide P w r b0 t v) (h : DataW.Trod enc P w base (fun _ => true) held t v x ps) : ∃ aS, Den d aS ∧ V (XW w) w no (argA d aS) v := by
  obtain ⟨fuel, hfu⟩ := h
  obtain ⟨aS, g1, g2, g3⟩ := open_D d t fuel _ _ hf hfu
  refine ⟨aS, g1, ?_⟩
  have agg : ∀ cs : Array Value, v = .agg cs → V (XW w) w no (.ag aS) v := by
    rintro cs rfl
    simp only [V]
    exact ⟨cs.toList, by simp, g2, g3⟩
  have scal : ∀ a, aS = [a] → v.cells = #[v] → V (XW w) w no (aS.getD 0 un) v := by
    rintro a rfl hv
    rw [hv] at g2
    simp only [VS] at g2
    obtain ⟨u, r, hu, hvu, rfl⟩ := g2
    simp only [List.cons.injEq, and_true] at hu
    subst hu
    exact hvu
  cases d with
  | int k =>
    obtain ⟨n, rfl⟩ := WideShapes.okWide_int (isInt_ok hf) hval
    simp only [Den] at g1
    obtain ⟨m, _, rfl⟩ := g1
    exact scal _ rfl rfl
  | bool =>
    obtain ⟨n, rfl⟩ := WideShapes.okWide_bool (isBool_ok hf) hval
    simp only [Den] at g1
    obtain ⟨m, rfl⟩ := g1
    exact scal _ rfl rfl
  | str =>
    obtain ⟨n, rfl⟩ := WideShapes.okWide_string (isStr_ok hf) hval
    simp only [Den] at g1
    obtain ⟨m, _, rfl⟩ := g1
    exact scal _ rfl rfl
  | sl e =>
    simp only [fitD] at hf
    split at hf
    · rename_i u ht
      obtain ⟨a, len, cap, rfl⟩ := WideShapes.okWide_slice ht hval
      simp only [Den] at g1
      obtain ⟨m, _, _, rfl⟩ := g1
      exact scal _ rfl rfl
    · cases hf
  | arr n e =>
    simp only [fitD] at hf
    split at hf
    · rename_i m u ht
      unfold Value.okWide at hval
      simp only [ht] at hval
      obtain ⟨cs, rfl, _, _⟩ := hval
      exact agg cs rfl
    · cases hf
  | st ds =>
    simp only [fitD] at hf
    split at hf
    · rename_i fs ht
      unfold Value.okWide at hval
      simp only [ht] at hval
      obtain ⟨cs, rfl, _, _⟩ := hval
      exact agg cs rfl
    · cases hf
theorem args_stay (hl : laidOutB P = true) {W W' : World} (hb : RowKit.Below W.heap.size W W') : ∀ (ts : List TypeId) (vs : List Value) (ds : List (DataW H)) (p : List MemPlace), (ts.all fun t => P.readableRec t && decide (t < P.types.size)) = true →
    DataW.TrodAll enc P W 0 (fun _ => true) true ts vs ds p → (∀ x ∈ p, x.block < W.heap.size) → DataW.TrodAll enc P W' 0 (fun b => decide (b < W.heap.size)) true ts vs ds p
  | [], vs, ds, p, _, h, _ => by
    obtain ⟨rfl, rfl, rfl⟩ := ChangeShapes.trodAll_nil h
    rfl
  | t :: ts, vs, ds, p, hall, h, hlt => by
    simp only [List.all_cons, Bool.and_eq_true, decide_eq_true_eq] at hall
    obtain ⟨v, vs', d, ds', a, b, rfl, rfl, rfl, h1, h2⟩ := ChangeShapes.trodAll_cons h
    exact ⟨a, b, RowKit.Below.trod hl hall.1.1 hall.1.2 h1 hb (fun x hx => hlt x (by simp [hx])), args_stay hl hb ts vs' ds' b hall.2 h2 (fun x hx => hlt x (by simp [hx])), rfl⟩
theorem con_true {f : FuncId} {aS : List A} {us : List Value} {W : World} (hc : Con P f aS (Ret (.b true))) (hg : GL (XW W) W) (hv : VS (XW W) W no aS us) :
    Calls P f us.toArray W fun e W' => e = .returned (.bool true) ∧ RowKit.Below W.heap.size W W' := by
  have h := hc W (XW W) no us (fun _ _ => rfl) XW_lt hg (fun id cs h => by cases h) (fun i j ci cj b M N _ h => by cases h) hv
  refine h.calls.mono fun e W' he => ?_
  obtain ⟨v, rfl, r, β', X', st', hr, _, _, hm, hV⟩ := he
  have : r = .b true := hr
  subst this
  simp only [V] at hV
  subst hV
  have kb := hm.below
  refine ⟨rfl, kb.os, kb.tape, kb.output, kb.size, fun k hk => kb.block k hk ?_⟩
  rintro ⟨id, cs, N, h, _⟩
  cases h
theorem arr_lits {t e : TypeId} {n : Nat} {k : IntKind} {fuel : Nat} {cs : List Value} {l : List Int} {p : List MemPlace} {sp : Nat → Bool} {enc : TypeId × Value → Unit} (ht : P.underlying t = some (.array n e)) (he : P.underlying e = some (.int k)) (hc : P.cellsOf e = 1) (hct : P.cellsOf t = n)
    (h : DataW.trod enc P w base sp held fuel t cs = some (.agg (l.map fun i => .lit (.int k i)), p)) : cs = l.map (.int k) := by
  obtain ⟨xs, m, _, hx, hl, hxl, hel⟩ := DataW.trod_array ht h
  simp only [Prod.mk.injEq, DataW.agg.injEq] at hx
  have hll : l.length = n := by have := congrArg List.length hx.1; simp at this; omega
  rw [hct] at hl
  refine List.ext_getElem (by simp; omega) fun i h1 h2 => ?_
  have hi : i < n := by omega
  have := hel i hi
  rw [hc, Nat.mul_one, List.drop_eq_getElem_cons h1, List.take_succ_cons, List.take_zero, List.getElem?_eq_getElem (by omega)] at this
  obtain ⟨q, e1, e2, _⟩ := DataW.trod_int he this
  simp only [List.cons.injEq, and_true] at e1
  rw [List.getElem_map, e1]
  have h3 := congrArg (fun z : List (DataW Unit) => z[i]?) hx.1
  simp only [List.getElem?_map] at h3
  rw [List.getElem?_eq_getElem (by simpa using h2), List.getElem?_eq_getElem (by omega), Option.map_some, Option.map_some, e2] at h3
  simp only [Option.some.injEq, DataW.lit.injEq, Lit.int.injEq, true_and] at h3
  rw [h3]
theorem den_map {α : Type} {e : D} {f : α → List A} {p : α → Prop} (h : ∀ x, Den e x → ∃ y, x = f y ∧ p y) : ∀ ls : List (List A), (∀ x ∈ ls, Den e x) → ∃ ys : List α, ls = ys.map f ∧ ∀ y ∈ ys, p y
  | [], _ => ⟨[], rfl, fun y hy => by cases hy⟩
  | x :: ls, hx => by
    obtain ⟨y, rfl, hy⟩ := h x (hx x (.head _))
    obtain ⟨ys, rfl, hys⟩ := den_map h ls fun z hz => hx z (.tail _ hz)
    exact ⟨y :: ys, rfl, fun z hz => (List.mem_cons.1 hz).elim (fun e => e ▸ hy) (hys z)⟩
theorem flat_sing {α : Type} (f : α → A) (l : List α) : (l.map fun x => [f x]).flatten = l.map f := by
  induction l with
  | nil => rfl
  | cons x l ih => simp [ih]
theorem den_u8 (aS : List A) (h : Den (.int .u8) aS) : ∃ b : UInt8, aS = [u8 b] ∧ True := by
  simp only [Den] at h
  obtain ⟨n, hw, rfl⟩ := h
  refine ⟨UInt8.ofNat n.toNat, ?_, trivial⟩
  simp only [Lit.wf, Bool.and_eq_true, decide_eq_true_eq] at hw
  have h1 : IntKind.u8.min = 0 := rfl
  have h2 : IntKind.u8.max = 255 := rfl
  rw [h1, h2] at hw
  have : ((UInt8.ofNat n.toNat).toNat : Int) = n := by
    rw [UInt8.toNat_ofNat', Nat.mod_eq_of_lt (by omega)]; omega
  rw [u8, this]
theorem den_int (aS : List A) (h : Den (.int .i64) aS) : ∃ n : Int, aS = [.i .i64 n] ∧ (-9223372036854775808 ≤ n ∧ n ≤ 9223372036854775807) := by
  simp only [Den] at h
  obtain ⟨n, hw, rfl⟩ := h
  simp only [Lit.wf, Bool.and_eq_true, decide_eq_true_eq] at hw
  have h1 : IntKind.i64.min = -9223372036854775808 := rfl
  have h2 : IntKind.i64.max = 9223372036854775807 := rfl
  rw [h1, h2] at hw
  exact ⟨n, rfl, hw⟩
theorem den_arr8 {n : Nat} (aS : List A) (h : Den (.arr n (.int .u8)) aS) : ∃ d : List UInt8, aS = d.map u8 ∧ d.length = n := by
  simp only [Den] at h
  obtain ⟨ls, h1, h2, rfl⟩ := h
  obtain ⟨ys, rfl, _⟩ := den_map den_u8 ls h1
  exact ⟨ys, flat_sing _ _, by simpa using h2⟩
theorem den_bytes (aS : List A) (h : Den (.sl (.int .u8)) aS) : ∃ b : List UInt8, aS = [.fz b.length (b.map u8)] ∧ b.length ≤ maxLen := by
  simp only [Den] at h
  obtain ⟨ls, h1, h2, rfl⟩ := h
  obtain ⟨ys, rfl, _⟩ := den_map den_u8 ls h1
  exact ⟨ys, by rw [flat_sing, List.length_map], by simpa using h2⟩
theorem den_ints (aS : List A) (h : Den (.sl (.int .i64)) aS) : ∃ b : List Int, aS = [.fz b.length (b.map (A.i .i64))] ∧ b.length ≤ maxLen ∧ ∀ n ∈ b, -9223372036854775808 ≤ n ∧ n ≤ 9223372036854775807 := by
  simp only [Den] at h
  obtain ⟨ls, h1, h2, rfl⟩ := h
  obtain ⟨ys, rfl, h3⟩ := den_map den_int ls h1
  exact ⟨ys, by rw [flat_sing, List.length_map], by simpa using h2, h3⟩
end
end Go.Abs
-- F3Q
namespace Go.Abs.D2
open Go Go.Eng Go.Abs
abbrev u16 (x : UInt16) : A := .i .u16 (x.toNat : Int)
def hasV (x : List UInt8) (lv nb : Int) (D : List UInt8) (id : Int) : Bool := okB lv nb D id && hasD x lv.toNat nb.toNat id.toNat D
theorem has_form (x : List UInt8) (lv nb : Int) (D : List UInt8) (id : Int) : hasA x lv nb D id = .tu [.b (hasV x lv nb D id), .i .i64 (errF (okB lv nb D id))] := by
  unfold hasA hasV
  cases okB lv nb D id <;> rfl
theorem bit_addD {x : List UInt8} {l n j : Nat} {D : List UInt8} (hn : 0 < n) (hl : D.length = (n + 7) / 8) (k : Nat) : bitA (addD x l n j D) k = (bitA D k || (k == bN x l n j 0 || k == bN x l n j 1)) := by
  have h0 := bN_lt (x := x) (lv := l) (id := j) hn 0
  have h1 := bN_lt (x := x) (lv := l) (id := j) hn 1
  simp only [addD, setsB]
  rw [bit_setA (by simp; omega), bit_setA (by omega), Bool.or_assoc]
theorem chk_addD {x : List UInt8} {l n j : Nat} {D : List UInt8} (h : chkB l n D = true) : chkB l n (addD x l n j D) = true := by
  obtain ⟨l', n', e1, e2, h1, h2, h3, h4, h5⟩ := chk_nat h
  obtain rfl : l = l' := by omega
  obtain rfl : n = n' := by omega
  have h0 := bN_lt (x := x) (lv := l) (id := j) (show 0 < n by omega) 0
  have h1' := bN_lt (x := x) (lv := l) (id := j) (show 0 < n by omega) 1
  refine nat_chk h1 h2 h3 (by simp [h4]) fun k hk hk2 => ?_
  rw [bit_addD (by omega) h4, h5 k hk (by simpa using hk2), beq_eq_false_iff_ne.2 (by omega), beq_eq_false_iff_ne.2 (by omega)]; rfl
def stepF (x : List UInt8) (lv nb : Int) (D : List UInt8) (id : Int) : List UInt8 := if okB lv nb D id then addD x lv.toNat nb.toNat id.toNat D else D
theorem add_yes2 {x : List UInt8} {lv nb id : Int} {D : List UInt8} (h : okB lv nb D id = true) : addA x lv nb D id = .tu [filA lv nb (stepF x lv nb D id), .i .i64 0] := by unfold addA stepF; rw [h]; rfl
@[simp] theorem len_stepF (x : List UInt8) (lv nb : Int) (D : List UInt8) (id : Int) : (stepF x lv nb D id).length = D.length := by unfold stepF; split <;> simp
theorem chk_stepF (x : List UInt8) (lv nb : Int) (D : List UInt8) (id : Int) : chkB lv nb (stepF x lv nb D id) = chkB lv nb D := by
  unfold stepF
  split
  · rename_i h
    obtain ⟨l, n, j, rfl, rfl, rfl, h1, h2, h3, h4, h5, h6⟩ := ok_nat h
    have hc := nat_chk h1 h2 h3 h5 h6
    rw [hc]; exact chk_addD hc
  · rfl
@[irreducible] def addedD (x : List UInt8) (lv nb : Int) (D : List UInt8) (ids : List UInt16) : List UInt8 := ids.foldl (fun D id => stepF x lv nb D ((id.toNat : Nat) : Int)) D
theorem added_0 (x : List UInt8) (lv nb : Int) (D : List UInt8) : addedD x lv nb D [] = D := by unfold addedD; rfl
theorem added_snoc (x : List UInt8) (lv nb : Int) (D : List UInt8) (ids : List UInt16) (q : UInt16) : addedD x lv nb D (ids ++ [q]) = stepF x lv nb (addedD x lv nb D ids) ((q.toNat : Nat) : Int) := by unfold addedD; simp
theorem snoc_ind {α : Type} {p : List α → Prop} (h0 : p []) (h1 : ∀ l q, p l → p (l ++ [q])) (l : List α) : p l := by
  rw [← List.reverse_reverse l]
  induction l.reverse with
  | nil => exact h0
  | cons a m ih => rw [List.reverse_cons]; exact h1 _ _ ih
@[simp] theorem len_added (x : List UInt8) (lv nb : Int) (D : List UInt8) (ids : List UInt16) : (addedD x lv nb D ids).length = D.length :=
  snoc_ind (p := fun ids => (addedD x lv nb D ids).length = D.length) (by rw [added_0]) (fun l q h => by rw [added_snoc, len_stepF, h]) ids
theorem okB_eq {l n j : Nat} {D : List UInt8} (h : chkB l n D = true) (hj : j < 1024) : okB l n D j = true := ok_yes h (by omega)
theorem bit_zero (m k : Nat) : bitA (List.replicate m 0) k = false := by
  unfold bitA
  have : (List.replicate m (0 : UInt8)).getD (k / 8) 0 = 0 := by
    rw [List.getD]
    cases h : (List.replicate m (0 : UInt8))[k / 8]? with
    | none => rfl
    | some v => exact List.eq_of_mem_replicate (List.mem_of_getElem? h)
  rw [this]
  exact Nat.zero_testBit _
theorem chk_zero {l n : Nat} (h : sizedP (l : Int) (n : Int)) : chkB l n (List.replicate ((n + 7) / 8) 0) = true := by
  unfold sizedP at h
  exact nat_chk (by omega) (by omega) (by omega) (by simp) fun k _ _ => bit_zero _ _
structure Fil where
  lv : Int
  nb : Int
  D : List UInt8
theorem den_fil (aS : List A) (h : Den (.st [.int .i64, .int .i64, .sl (.int .u8)]) aS) : ∃ f : Fil, aS = [.i .i64 f.lv, .i .i64 f.nb, slA f.D] ∧ (-9223372036854775808 ≤ f.lv ∧ f.lv ≤ 9223372036854775807) ∧ -9223372036854775808 ≤ f.nb ∧ f.nb ≤ 9223372036854775807 := by
  simp only [Den, DenL] at h
  obtain ⟨a, r, h1, ⟨b, r2, h2, ⟨c, r3, h3, rfl, rfl⟩, rfl⟩, rfl⟩ := h
  obtain ⟨n, rfl, hn⟩ := den_int a (by simpa only [Den] using h1)
  obtain ⟨m, rfl, hm⟩ := den_int b (by simpa only [Den] using h2)
  obtain ⟨D, rfl, _⟩ := den_bytes c (by simpa only [Den] using h3)
  exact ⟨⟨n, m, D⟩, rfl, hn, hm⟩
end Go.Abs.D2
-- C4P
namespace Go.Abs.D2
open Go Go.Eng Go.Abs
def ascB (last : Int) : List Int → Bool
  | [] => true
  | n :: l => decide (last < n ∧ n < 1024) && ascB n l
def listedB (l : List Int) : Bool := ascB (-1) l
def lastI (l : List Int) (i : Nat) : Int := if i = 0 then -1 else l.getD (i - 1) 0
theorem asc_drop {last n : Int} {l : List Int} {i : Nat} (h : l[i]? = some n) : ascB last (l.drop i) = (decide (last < n ∧ n < 1024) && ascB n (l.drop (i + 1))) := by
  have hi := (List.getElem?_eq_some_iff.1 h).1
  rw [List.drop_eq_getElem_cons hi, (List.getElem?_eq_some_iff.1 h).2]
  rfl
theorem lastI_next {n : Int} {l : List Int} {i : Nat} (h : l[i]? = some n) : lastI l (i + 1) = n := by
  unfold lastI
  rw [if_neg (by omega), List.getD, Nat.add_sub_cancel, h]; rfl
theorem asc_next {n : Int} {l : List Int} {i : Nat} (h0 : listedB l = ascB (lastI l i) (l.drop i)) (h : l[i]? = some n) (h1 : lastI l i < n ∧ n < 1024) : listedB l = ascB (lastI l (i + 1)) (l.drop (i + 1)) := by
  rw [h0, asc_drop h, decide_eq_true h1, Bool.true_and, lastI_next h]
theorem asc_no {n : Int} {l : List Int} {i : Nat} (h0 : listedB l = ascB (lastI l i) (l.drop i)) (h : l[i]? = some n) (h1 : ¬ (lastI l i < n ∧ n < 1024)) : listedB l = false := by
  rw [h0, asc_drop h, decide_eq_false h1, Bool.false_and]
theorem asc_end {l : List Int} (h0 : listedB l = ascB (lastI l l.length) (l.drop l.length)) : listedB l = true := by
  rw [h0, List.drop_length]; rfl
theorem asc_start (l : List Int) : listedB l = ascB (lastI l 0) (l.drop 0) := rfl
theorem asc_mem : ∀ {l : List Int} {last : Int}, ascB last l = true → ∀ n ∈ l, last < n ∧ n < 1024
  | [], _, _, n, hn => by cases hn
  | a :: l, last, h, n, hn => by
    simp only [ascB, Bool.and_eq_true, decide_eq_true_eq] at h
    rcases List.mem_cons.1 hn with rfl | hn
    · exact h.1
    · have := asc_mem h.2 n hn
      omega
theorem listed_mem {l : List Int} (h : listedB l = true) : ∀ n ∈ l, 0 ≤ n ∧ n < 1024 := fun n hn => by
  have := asc_mem h n hn
  omega
structure Cas where
  x : List UInt8
  F : List Fil
  E : List Int
abbrev filC (f : Fil) : List A := [.i .i64 f.lv, .i .i64 f.nb, slA f.D]
abbrev filsA (F : List Fil) : A := .fz F.length (F.flatMap filC)
abbrev intsA (E : List Int) : A := .fz E.length (E.map (A.i .i64))
abbrev casL (c : Cas) : List A := c.x.map u8 ++ [filsA c.F, intsA c.E]
def levB : Nat → List Fil → Bool
  | _, [] => true
  | i, f :: F => decide (f.lv = i) && chkB f.lv f.nb f.D && levB (i + 1) F
def chkC (c : Cas) : Bool := decide (c.F.length ≤ 16) && listedB c.E && levB 0 c.F
def errC (b : Bool) : Int := if b then 0 else 340
theorem lev_drop {F : List Fil} {f : Fil} {i : Nat} (h : F[i]? = some f) : levB i (F.drop i) = (decide (f.lv = i) && chkB f.lv f.nb f.D && levB (i + 1) (F.drop (i + 1))) := by
  have hi := (List.getElem?_eq_some_iff.1 h).1
  rw [List.drop_eq_getElem_cons hi, (List.getElem?_eq_some_iff.1 h).2]
  rfl
theorem lev_next {F : List Fil} {f : Fil} {i : Nat} (h0 : levB 0 F = levB i (F.drop i)) (h : F[i]? = some f) (h1 : f.lv = i) (h2 : chkB f.lv f.nb f.D = true) : levB 0 F = levB (i + 1) (F.drop (i + 1)) := by
  rw [h0, lev_drop h, decide_eq_true h1, h2, Bool.true_and, Bool.true_and]
theorem lev_no {F : List Fil} {f : Fil} {i : Nat} (h0 : levB 0 F = levB i (F.drop i)) (h : F[i]? = some f) (h1 : ¬ (f.lv = i ∧ chkB f.lv f.nb f.D = true)) : levB 0 F = false := by
  rw [h0, lev_drop h]
  by_cases h2 : f.lv = i
  · have : chkB f.lv f.nb f.D = false := by rw [Bool.eq_false_iff]; exact fun e => h1 ⟨h2, e⟩
    rw [this]; simp
  · rw [decide_eq_false h2]; simp
theorem lev_end {F : List Fil} (h0 : levB 0 F = levB F.length (F.drop F.length)) : levB 0 F = true := by
  rw [h0, List.drop_length]; rfl
theorem flat_get {F : List Fil} {f : Fil} {i : Nat} (h : F[i]? = some f) : ((F.flatMap filC).drop (i * 3)).take 3 = filC f := by
  induction F generalizing i with
  | nil => simp at h
  | cons g F ih =>
    cases i with
    | zero => simp at h; subst h; simp
    | succ i =>
      have e : (i + 1) * 3 = i * 3 + 3 := by omega
      rw [List.getElem?_cons_succ] at h
      rw [e, List.flatMap_cons, Nat.add_comm, ← List.drop_drop]
      simpa using ih h
end Go.Abs.D2
namespace Go.Abs.D2
open Go Go.Eng Go.Abs
theorem cas_x {c : Cas} (hx : c.x.length = 32) : (casL c).take 32 = c.x.map u8 := by
  rw [List.take_left' (by rw [List.length_map, hx])]
theorem cas_F {c : Cas} (hx : c.x.length = 32) : ((casL c).drop 32)[0]? = some (filsA c.F) := by
  rw [List.drop_left' (by rw [List.length_map, hx])]; rfl
theorem cas_E {c : Cas} (hx : c.x.length = 32) : ((casL c).drop 33)[0]? = some (intsA c.E) := by
  rw [show 33 = 32 + 1 from rfl, ← List.drop_drop, List.drop_left' (by rw [List.length_map, hx])]; rfl
theorem getI4 {l : List Int} {i : Nat} {n : Int} (h : l[i]? = some n) : ((l.map (A.i .i64)).drop (i * 1))[0]? = some (A.i .i64 n) := by
  rw [List.getElem?_drop, show i * 1 + 0 = i by omega, List.getElem?_map, h]; rfl
theorem chkC_no1 {c : Cas} (h : ¬ c.F.length ≤ 16) : chkC c = false := by unfold chkC; rw [decide_eq_false h]; simp
theorem chkC_no2 {c : Cas} (h : listedB c.E = false) : chkC c = false := by unfold chkC; rw [h]; simp
theorem chkC_no3 {c : Cas} (h : levB 0 c.F = false) : chkC c = false := by unfold chkC; rw [h]; simp
theorem chkC_yes {c : Cas} (h1 : c.F.length ≤ 16) (h2 : listedB c.E = true) (h3 : levB 0 c.F = true) : chkC c = true := by unfold chkC; rw [decide_eq_true h1, h2, h3]; rfl
theorem tfC (b : Bool) : b = false ∨ b = true := by cases b <;> simp
theorem valid_cases (q : Int) (i : Nat) : q < 0 ∨ (0 ≤ q ∧ ¬ q < 1024) ∨ (0 ≤ q ∧ q < 1024 ∧ i = 0) ∨ (0 ≤ q ∧ q < 1024 ∧ 0 < i) := by omega
theorem lastI_zero (l : List Int) {i : Nat} (h : i = 0) : lastI l i = -1 := by subst h; rfl
theorem flat_get0 {F : List Fil} {f : Fil} {i : Nat} (h : F[i]? = some f) : ((F.flatMap filC).drop (i * 3))[0]? = some (A.i .i64 f.lv) := by
  have := flat_get h
  have e : (((F.flatMap filC).drop (i * 3)).take 3)[0]? = some (A.i .i64 f.lv) := by rw [this]; rfl
  rwa [List.getElem?_take, if_pos (by omega)] at e
end Go.Abs.D2
-- C4B
namespace Go.Abs.D2
open Go Go.Eng Go.Abs Go.Proofs 
theorem listed_ok (l : List Int) (hn : l.length ≤ maxLen) : Con Tryd.prog 32 [.fz l.length (l.map (A.i .i64))] (Ret (.b (listedB l))) := by
 refine enter Tryd.func32 rfl Tryd.ntmps32 (by kernel_rfl) (Nat.le_of_ble_eq_true rfl) fun w0 X0 hI => ?_
 refine at_seq <| at_region <| s1 (y_p rfl) rfl ?_
 refine at_nil <| x_tn <| at_seq ?_
 simp only [maxLen] at hn
 refine at_region <| s1 ((y_p rfl).v (v' := .i .i64 (-1)) rfl) rfl ?_
 refine at_nil <| x_tn <| at_seq <| at_seq <| at_region <| s1 (y_p rfl) rfl <| s1 (y_len Tryd.underlying24 rfl rfl rfl) rfl <| s1 ((y_p rfl).v (v' := .i .i64 0) rfl) rfl ?_
 refine at_nil <| x_tn <| at_block ?_
 refine at_loop (ι := Nat) (fun i => [(3, .i .i64 (lastI l i)), (6, .fz l.length (l.map (A.i .i64))), (7, nJ l.length), (8, nJ i)]) (fun i => ⟨[]⟩) (fun i => i ≤ l.length ∧ listedB l = ascB (lastI l i) (l.drop i)) (fun i => l.length - i) ?_ ?_
 ·exact at_ex (0) (⟨Nat.zero_le _, asc_start l⟩) [] hI rfl rfl ⟨⟨_, rfl, .pure pu⟩, ⟨_, rfl, .pure pu⟩, ⟨_, rfl, .pure pu⟩, ⟨_, rfl, .pure pu⟩, trivial⟩ trivial
 rintro i ⟨hi, hl⟩
 refine at_seq <| at_region <| s1 (y_p rfl) rfl ?_
 refine at_nil <| x_tn <| at_seq ?_
 refine at_cond rfl (fun hc9 => ?_) (fun hc9 => ?_)
 ·have h9 : i < l.length := by have := of_decide_eq_true hc9; omega
  obtain ⟨q, hq⟩ : ∃ q, l[i]? = some q := ⟨_, List.getElem?_eq_getElem h9⟩
  refine at_skip <| x_tn <| at_seq <| at_block <| at_seq <| at_region <| s1 (y_ixf i Tryd.underlying24 ti3 rfl rfl rfl (by omega) rfl) rfl <| s1 (y_load ti3 rfl rfl (getI4 hq)) rfl <| s1 (y_p rfl) rfl ?_
  refine at_nil <| x_tn <| at_seq <| at_seq <| at_region <| s1 (y_p rfl) rfl <| s1 (y_p rfl) rfl <| s1 (y_p rfl) rfl <| s1 (y_p rfl) rfl ?_
  refine g_or 2 rfl rfl rfl rfl (fun hb15 => .step (y_p rfl) rfl rfl <| .step (y_p rfl) rfl rfl <| .done) rfl rfl ?_
  refine at_nil <| x_tn ?_
  refine at_cond rfl (fun hc18 => ?_) (fun hc18 => ?_)
  ·have h18 : ¬ (lastI l i < q ∧ q < 1024) := by simp at hc18; omega
   refine at_seq <| at_region <| s1 (y_p rfl) rfl ?_
   refine at_nil <| x_tn <| at_ret <| x_tr <| x_br <| x_tr <| x_tr <| x_br <| x_tr ?_
   refine at_result (rs := [.tmp 2]) rfl (r_tmp rfl r_nil) ?_
   exact congrArg A.b (asc_no hl hq h18).symm
  ·have h18 : lastI l i < q ∧ q < 1024 := by simp at hc18; omega
   refine at_skip <| x_tn <| at_region <| s1 ((y_p rfl).v (v' := .i .i64 (lastI l (i + 1))) (congrArg (A.i .i64) (lastI_next hq).symm)) rfl <| s1 (y_p rfl) rfl ?_
   refine at_nil <| x_bn <| x_tn <| at_region <| s1 (addN _ 1 rfl rfl rfl rfl (by omega)) rfl <| s1 (y_p rfl) rfl ?_
   refine at_nil ?_
   exact at_end (i + 1) (⟨by omega, asc_next hl hq h18⟩) (by omega) [] hI rfl rfl ⟨⟨_, rfl, .pure pu⟩, ⟨_, rfl, .pure pu⟩, ⟨_, rfl, .pure pu⟩, ⟨_, rfl, .pure pu⟩, trivial⟩ trivial
 ·have h9 : i = l.length := by have := of_decide_eq_false hc9; omega
  subst h9
  refine at_exit <| x_te <| x_te <| x_be <| x_tn <| at_seq <| at_region <| s1 (y_p rfl) rfl ?_
  refine at_nil <| x_tn <| at_ret ?_
  refine at_result (rs := [.tmp 2]) rfl (r_tmp rfl r_nil) ?_
  exact congrArg A.b (asc_end hl).symm
theorem cchk_ok (c : Cas) (hx : c.x.length = 32) (hn : c.E.length ≤ maxLen) : Con Tryd.prog 17 [.ag (casL c)] (Ret (.i .i64 (errC (chkC c)))) := by
 refine enter Tryd.func17 rfl Tryd.ntmps17 (by kernel_rfl) (Nat.le_of_ble_eq_true rfl) fun w0 X0 hI => ?_
 refine at_seq <| at_region ?_
 refine at_op rfl (n_boxA 1 rfl rfl rfl ?_)
 refine s1 ((y_p rfl).v (v' := .i .i64 0) rfl) rfl ?_
 refine at_nil <| x_tn <| at_seq <| at_seq <| at_region <| s1 (y_fld Tryd.underlying27 rfl ti25 (by decide) rfl rfl) rfl <| s1 (y_load ti25 rfl rfl (cas_F hx)) rfl <| s1 (y_len Tryd.underlying25 rfl rfl rfl) rfl <| s1 (y_p rfl) rfl <| s1 (y_p rfl) rfl ?_
 refine at_bc 9 rfl (fun hc9 => ?_) (fun hc9 => ?_)
 ·have h4 : ¬ c.F.length ≤ 16 := by simp at hc9; omega
  refine g0 rfl rfl rfl rfl <| g0 rfl rfl rfl rfl <| g0 rfl rfl rfl rfl <| g0 rfl rfl rfl rfl <| s1 (y_p rfl) rfl ?_
  refine at_nil <| x_tn ?_
  refine at_then rfl ?_
  refine at_seq <| at_region <| s1 ((y_p rfl).v (v' := .i .i64 340) rfl) rfl ?_
  refine at_nil <| x_tn <| at_ret <| x_tr ?_
  refine at_result (rs := [.tmp 2]) rfl (r_tmp rfl r_nil) ?_
  exact congrArg (A.i .i64) (by rw [chkC_no1 h4]; rfl)
 ·have h4 : c.F.length ≤ 16 := by simp at hc9; omega
  refine g1 rfl rfl (y_fld Tryd.underlying27 rfl ti24 (by decide) rfl rfl) rfl <| g1 rfl rfl (y_load ti24 rfl rfl (cas_E hx)) rfl ?_
  refine at_opg rfl rfl rfl (n_call false rfl (.cons (.pure pu) (.nil)) (listed_ok c.E hn) pu (.inl rfl) rfl ?_)
  refine g1 rfl rfl (y_p rfl) rfl <| s1 (y_p rfl) rfl ?_
  refine at_nil <| x_tn ?_
  refine at_cond rfl (fun hc14 => ?_) (fun hc14 => ?_)
  ·have h14 : listedB c.E = false := by simpa using hc14
   refine at_seq <| at_region <| s1 ((y_p rfl).v (v' := .i .i64 340) rfl) rfl ?_
   refine at_nil <| x_tn <| at_ret <| x_tr ?_
   refine at_result (rs := [.tmp 2]) rfl (r_tmp rfl r_nil) ?_
   exact congrArg (A.i .i64) (by rw [chkC_no2 h14]; rfl)
  ·have h14 : listedB c.E = true := by simpa using hc14
   refine at_skip <| x_tn <| at_seq <| at_seq <| at_region <| s1 (y_fld Tryd.underlying27 rfl ti25 (by decide) rfl rfl) rfl <| s1 (y_load ti25 rfl rfl (cas_F hx)) rfl <| s1 (y_len Tryd.underlying25 rfl rfl rfl) rfl <| s1 ((y_p rfl).v (v' := .i .i64 0) rfl) rfl ?_
   refine at_nil <| x_tn <| at_block ?_
   refine at_loop (ι := Nat) (fun i => [(16, filsA c.F), (17, nJ c.F.length), (18, nJ i)]) (fun i => ⟨[]⟩) (fun i => i ≤ c.F.length ∧ levB 0 c.F = levB i (c.F.drop i)) (fun i => c.F.length - i) ?_ ?_
   ·exact at_ex (0) (⟨Nat.zero_le _, rfl⟩) [] hI rfl rfl ⟨⟨_, rfl, .pure pu⟩, ⟨_, rfl, .pure pu⟩, ⟨_, rfl, .pure pu⟩, trivial⟩ trivial
   rintro i ⟨hi, hl⟩
   refine at_seq <| at_region <| s1 (y_p rfl) rfl ?_
   refine at_nil <| x_tn <| at_seq ?_
   refine at_cond rfl (fun hc19 => ?_) (fun hc19 => ?_)
   ·have h19 : i < c.F.length := by have := of_decide_eq_true hc19; omega
    obtain ⟨f, hf⟩ : ∃ f, c.F[i]? = some f := ⟨_, List.getElem?_eq_getElem h19⟩
    refine at_skip <| x_tn <| at_seq <| at_block <| at_seq <| at_region <| s1 (y_p rfl) rfl <| s1 (y_ixf i Tryd.underlying25 ti50 rfl rfl rfl (by omega) rfl) rfl <| s1 (y_loadA ti50 rfl rfl (flat_get hf) rfl) rfl ?_
    refine at_op rfl (n_alloc 4 rfl ti50 rfl rfl ?_)
    refine s1 (y_p rfl) rfl ?_
    refine at_op rfl (n_storeA ti50 rfl rfl rfl (by first | rfl | omega | (simp <;> omega) | (simp [*] <;> omega)) (by first | rfl | omega | (simp <;> omega) | (simp [*] <;> omega)) ?_)
    refine at_nil <| x_tn <| at_seq <| at_region <| s1 (y_fld Tryd.underlying50 rfl ti3 (by decide) rfl rfl) rfl <| s1 (y_load ti3 rfl rfl rfl) rfl <| s1 (y_p rfl) rfl <| s1 (y_p rfl) rfl <| s1 (y_p rfl) rfl ?_
    refine at_bc 27 rfl (fun hc27 => ?_) (fun hc27 => ?_)
    ·have h27 : ¬ f.lv = i := by simpa using hc27
     refine g0 rfl rfl rfl rfl <| g0 rfl rfl rfl rfl <| g0 rfl rfl rfl rfl <| s1 (y_p rfl) rfl ?_
     refine at_nil <| x_tn ?_
     refine at_then rfl ?_
     refine at_seq <| at_region <| s1 ((y_p rfl).v (v' := .i .i64 340) rfl) rfl ?_
     refine at_nil <| x_tn <| at_ret <| x_br <| x_tr <| x_tr <| x_br <| x_tr ?_
     refine at_result (rs := [.tmp 2]) rfl (r_tmp rfl r_nil) ?_
     exact congrArg (A.i .i64) (by rw [chkC_no3 (lev_no hl hf (fun h => h27 h.1))]; rfl)
    ·have h27 : f.lv = i := by simpa using hc27
     refine g1 rfl rfl (y_loadA0 ti50 rfl rfl rfl) rfl ?_
     refine at_opg rfl rfl rfl (n_call false rfl (.cons (.pure pu) (.nil)) (fchk_ok f.lv f.nb f.D) pu (.inl rfl) rfl ?_)
     refine g1 rfl rfl (y_p rfl) rfl <| s1 (y_p rfl) rfl ?_
     refine at_nil <| x_tn ?_
     refine at_cond rfl (fun hc31 => ?_) (fun hc31 => ?_)
     ·have h31 : ¬ (f.lv = i ∧ chkB f.lv f.nb f.D = true) := by intro h; simp [h.2, errF] at hc31
      refine at_seq <| at_region <| s1 ((y_p rfl).v (v' := .i .i64 340) rfl) rfl ?_
      refine at_nil <| x_tn <| at_ret <| x_br <| x_tr <| x_tr <| x_br <| x_tr ?_
      refine at_result (rs := [.tmp 2]) rfl (r_tmp rfl r_nil) ?_
      exact congrArg (A.i .i64) (by rw [chkC_no3 (lev_no hl hf h31)]; rfl)
     ·have h31 : f.lv = i ∧ chkB f.lv f.nb f.D = true := ⟨h27, by cases hk : chkB f.lv f.nb f.D with | true => rfl | false => simp [hk, errF] at hc31⟩
      refine at_skip <| x_bn <| x_tn <| at_region <| s1 (addN _ 1 rfl rfl rfl rfl (by omega)) rfl <| s1 (y_p rfl) rfl ?_
      refine at_nil ?_
      exact at_end (i + 1) (⟨by omega, lev_next hl hf h31.1 h31.2⟩) (by omega) [] hI rfl rfl ⟨⟨_, rfl, .pure pu⟩, ⟨_, rfl, .pure pu⟩, ⟨_, rfl, .pure pu⟩, trivial⟩ trivial
   ·have h19 : i = c.F.length := by have := of_decide_eq_false hc19; omega
    subst h19
    refine at_exit <| x_te <| x_te <| x_be <| x_tn <| at_seq <| at_region <| s1 ((y_p rfl).v (v' := .i .i64 0) rfl) rfl ?_
    refine at_nil <| x_tn <| at_ret ?_
    refine at_result (rs := [.tmp 2]) rfl (r_tmp rfl r_nil) ?_
    exact congrArg (A.i .i64) (by rw [chkC_yes h4 h14 (lev_end hl)]; rfl)
theorem rvalid_ok (l : List Int) (hn : l.length ≤ maxLen) : Con Tryd.prog 36 [.fz l.length (l.map (A.i .i64))] (Ret (.b (listedB l))) := by
 refine enter Tryd.func36 rfl Tryd.ntmps36 (by kernel_rfl) (Nat.le_of_ble_eq_true rfl) fun w0 X0 hI => ?_
 refine at_seq <| at_region <| s1 (y_p rfl) rfl ?_
 refine at_nil <| x_tn <| at_seq <| at_seq ?_
 simp only [maxLen] at hn
 refine at_region <| s1 ((y_p rfl).v (v' := .i .i64 0) rfl) rfl ?_
 refine at_nil <| x_tn <| at_block ?_
 refine at_loop (ι := Nat) (fun i => [(0, .fz l.length (l.map (A.i .i64))), (3, nJ i)]) (fun i => ⟨[]⟩) (fun i => i ≤ l.length ∧ -1 ≤ lastI l i ∧ listedB l = ascB (lastI l i) (l.drop i)) (fun i => l.length - i) ?_ ?_
 ·exact at_ex (0) (⟨Nat.zero_le _, Int.le_refl _, asc_start l⟩) [] hI rfl rfl ⟨⟨_, rfl, .pure pu⟩, ⟨_, rfl, .pure pu⟩, trivial⟩ trivial
 rintro i ⟨hi, hl0, hl⟩
 refine at_seq <| at_seq <| at_region <| s1 (y_p rfl) rfl <| s1 (y_p rfl) rfl <| s1 (y_len Tryd.underlying24 rfl rfl rfl) rfl <| s1 (y_p rfl) rfl ?_
 refine at_nil <| x_tn ?_
 refine at_cond rfl (fun hc7 => ?_) (fun hc7 => ?_)
 ·have h7 : i < l.length := by have := of_decide_eq_true hc7; omega
  obtain ⟨q, hq⟩ : ∃ q, l[i]? = some q := ⟨_, List.getElem?_eq_getElem h7⟩
  refine at_skip <| x_tn <| at_seq <| at_block <| at_seq ?_
  rcases valid_cases q i with hcs | hcs | hcs | hcs
  ·have hw := hcs
   refine at_draw_tail 27 hmix (by kernel_rfl) ?_
   refine t1 (y_p rfl) rfl <| t1 (y_p rfl) rfl <| t1 (y_ixf i Tryd.underlying24 ti3 rfl rfl rfl (by omega) rfl) rfl <| t1 (y_load ti3 rfl rfl (getI4 hq)) rfl <| t1 ((y_p rfl).v (v' := .b true) (congrArg A.b (decide_eq_true hw))) rfl <| t1 (y_p rfl) rfl <| t0g rfl rfl rfl rfl <| t0g rfl rfl rfl rfl <| t0g rfl rfl rfl rfl <| t0g rfl rfl rfl rfl ?_
   refine t0g rfl rfl rfl rfl <| t1 (y_p rfl) rfl <| t1 (y_p rfl) rfl <| t0g rfl rfl rfl rfl <| t0g rfl rfl rfl rfl <| t0g rfl rfl rfl rfl <| t0u rfl rfl rfl <| t0u rfl rfl rfl <| t0u rfl rfl rfl <| t0u rfl rfl rfl ?_
   refine t0u rfl rfl rfl <| t0u rfl rfl rfl <| t0u rfl rfl rfl <| t0u rfl rfl rfl <| t0u rfl rfl rfl <| t0u rfl rfl rfl <| t0g rfl rfl rfl rfl ?_
   refine at_snil ?_
   refine s1 (y_p rfl) rfl ?_
   refine at_nil <| x_tn ?_
   refine at_then rfl ?_
   refine at_seq <| at_region <| s1 (y_p rfl) rfl ?_
   refine at_nil <| x_tn <| at_ret <| x_br <| x_tr <| x_tr <| x_br <| x_tr ?_
   refine at_result (rs := [.tmp 2]) rfl (r_tmp rfl r_nil) ?_
   exact congrArg A.b (asc_no hl hq (by omega)).symm
  ·obtain ⟨hq0, hq1⟩ := hcs
   refine at_draw_tail 27 hmix (by kernel_rfl) ?_
   refine t1 (y_p rfl) rfl <| t1 (y_p rfl) rfl <| t1 (y_ixf i Tryd.underlying24 ti3 rfl rfl rfl (by omega) rfl) rfl <| t1 (y_load ti3 rfl rfl (getI4 hq)) rfl <| t1 ((y_p rfl).v (v' := .b false) (congrArg A.b (decide_eq_false (by omega)))) rfl <| t1 (y_p rfl) rfl <| t1g rfl rfl (y_p rfl) rfl <| t1g rfl rfl (y_p rfl) rfl <| t1g rfl rfl (y_ixf i Tryd.underlying24 ti3 rfl rfl rfl (by omega) rfl) rfl <| t1g rfl rfl (y_load ti3 rfl rfl (getI4 hq)) rfl ?_
   refine t1g rfl rfl ((y_p rfl).v (v' := .b true) (congrArg A.b (decide_eq_true (by omega)))) rfl <| t1 (y_p rfl) rfl <| t1 (y_p rfl) rfl <| t0g rfl rfl rfl rfl <| t0g rfl rfl rfl rfl <| t0g rfl rfl rfl rfl <| t0u rfl rfl rfl <| t0u rfl rfl rfl <| t0u rfl rfl rfl <| t0u rfl rfl rfl ?_
   refine t0u rfl rfl rfl <| t0u rfl rfl rfl <| t0u rfl rfl rfl <| t0u rfl rfl rfl <| t0u rfl rfl rfl <| t0u rfl rfl rfl <| t0g rfl rfl rfl rfl ?_
   refine at_snil ?_
   refine s1 (y_p rfl) rfl ?_
   refine at_nil <| x_tn ?_
   refine at_then rfl ?_
   refine at_seq <| at_region <| s1 (y_p rfl) rfl ?_
   refine at_nil <| x_tn <| at_ret <| x_br <| x_tr <| x_tr <| x_br <| x_tr ?_
   refine at_result (rs := [.tmp 2]) rfl (r_tmp rfl r_nil) ?_
   exact congrArg A.b (asc_no hl hq (by omega)).symm
  ·obtain ⟨hq0, hq1, hi0⟩ := hcs
   have hla := lastI_zero l hi0
   refine at_draw_tail 27 hmix (by kernel_rfl) ?_
   refine t1 (y_p rfl) rfl <| t1 (y_p rfl) rfl <| t1 (y_ixf i Tryd.underlying24 ti3 rfl rfl rfl (by omega) rfl) rfl <| t1 (y_load ti3 rfl rfl (getI4 hq)) rfl <| t1 ((y_p rfl).v (v' := .b false) (congrArg A.b (decide_eq_false (by omega)))) rfl <| t1 (y_p rfl) rfl <| t1g rfl rfl (y_p rfl) rfl <| t1g rfl rfl (y_p rfl) rfl <| t1g rfl rfl (y_ixf i Tryd.underlying24 ti3 rfl rfl rfl (by omega) rfl) rfl <| t1g rfl rfl (y_load ti3 rfl rfl (getI4 hq)) rfl ?_
   refine t1g rfl rfl ((y_p rfl).v (v' := .b false) (congrArg A.b (decide_eq_false (by omega)))) rfl <| t1 (y_p rfl) rfl <| t1 (y_p rfl) rfl <| t1g rfl rfl (y_p rfl) rfl <| t1g rfl rfl ((y_p rfl).v (v' := .b false) (congrArg A.b (decide_eq_false (by omega)))) rfl <| t1g rfl rfl (y_p rfl) rfl <| t0g rfl rfl rfl rfl <| t0g rfl rfl rfl rfl <| t0g rfl rfl rfl rfl <| t0g rfl rfl rfl rfl ?_
   refine t0g rfl rfl rfl rfl <| t0g rfl rfl rfl rfl <| t0g rfl rfl rfl rfl <| t0g rfl rfl rfl rfl <| t0g rfl rfl rfl rfl <| t0g rfl rfl rfl rfl <| t1g rfl rfl (y_p rfl) rfl ?_
   refine at_snil ?_
   refine s1 (y_p rfl) rfl ?_
   refine at_nil <| x_tn ?_
   refine at_else rfl ?_
   refine at_skip <| x_bn <| x_tn <| at_region <| s1 (y_p rfl) rfl <| s1 (addN _ 1 rfl rfl rfl rfl (by omega)) rfl <| s1 (y_p rfl) rfl ?_
   refine at_nil ?_
   exact at_end (i + 1) (⟨by omega, by rw [lastI_next hq]; omega, asc_next hl hq (by omega)⟩) (by omega) [] hI rfl rfl ⟨⟨_, rfl, .pure pu⟩, ⟨_, rfl, .pure pu⟩, trivial⟩ trivial
  ·obtain ⟨hq0, hq1, hi0⟩ := hcs
   obtain ⟨i, rfl⟩ : ∃ k, i = k + 1 := ⟨i - 1, by omega⟩
   obtain ⟨r, hr⟩ : ∃ r, l[i]? = some r := ⟨_, List.getElem?_eq_getElem (by omega)⟩
   have hla := lastI_next hr
   refine at_draw_tail 27 hmix (by kernel_rfl) ?_
   refine t1 (y_p rfl) rfl <| t1 (y_p rfl) rfl <| t1 (y_ixf (i + 1) Tryd.underlying24 ti3 rfl rfl rfl (by omega) rfl) rfl <| t1 (y_load ti3 rfl rfl (getI4 hq)) rfl <| t1 ((y_p rfl).v (v' := .b false) (congrArg A.b (decide_eq_false (by omega)))) rfl <| t1 (y_p rfl) rfl <| t1g rfl rfl (y_p rfl) rfl <| t1g rfl rfl (y_p rfl) rfl <| t1g rfl rfl (y_ixf (i + 1) Tryd.underlying24 ti3 rfl rfl rfl (by omega) rfl) rfl <| t1g rfl rfl (y_load ti3 rfl rfl (getI4 hq)) rfl ?_
   refine t1g rfl rfl ((y_p rfl).v (v' := .b false) (congrArg A.b (decide_eq_false (by omega)))) rfl <| t1 (y_p rfl) rfl <| t1 (y_p rfl) rfl <| t1g rfl rfl (y_p rfl) rfl <| t1g rfl rfl ((y_p rfl).v (v' := .b true) (congrArg A.b (decide_eq_true (by omega)))) rfl <| t1g rfl rfl (y_p rfl) rfl <| t1g rfl rfl (y_p rfl) rfl <| t1g rfl rfl (y_p rfl) rfl <| t1g rfl rfl ((subN (i + 1) 1 rfl rfl rfl rfl (by omega) (by omega)).v (congrArg (A.i .i64) (by omega : _ = ((i : Nat) : Int)))) rfl <| t1g rfl rfl (y_ixf i Tryd.underlying24 ti3 rfl rfl rfl (by omega) rfl) rfl ?_
   refine t1g rfl rfl (y_load ti3 rfl rfl (getI4 hr)) rfl <| t1g rfl rfl (y_p rfl) rfl <| t1g rfl rfl (y_p rfl) rfl <| t1g rfl rfl (y_ixf (i + 1) Tryd.underlying24 ti3 rfl rfl rfl (by omega) rfl) rfl <| t1g rfl rfl (y_load ti3 rfl rfl (getI4 hq)) rfl <| t1g rfl rfl (y_p rfl) rfl <| t1g rfl rfl (y_p rfl) rfl ?_
   refine at_snil ?_
   refine s1 (y_p rfl) rfl ?_
   refine at_nil <| x_tn ?_
   refine at_cond rfl (fun hc37 => ?_) (fun hc37 => ?_)
   ·have h37 : q ≤ r := by have := of_decide_eq_true hc37; omega
    refine at_seq <| at_region <| s1 (y_p rfl) rfl ?_
    refine at_nil <| x_tn <| at_ret <| x_br <| x_tr <| x_tr <| x_br <| x_tr ?_
    refine at_result (rs := [.tmp 2]) rfl (r_tmp rfl r_nil) ?_
    exact congrArg A.b (asc_no hl hq (by omega)).symm
   ·have h37 : r < q := by have := of_decide_eq_false hc37; omega
    refine at_skip <| x_bn <| x_tn <| at_region <| s1 (y_p rfl) rfl <| s1 (addN _ 1 rfl rfl rfl rfl (by omega)) rfl <| s1 (y_p rfl) rfl ?_
    refine at_nil ?_
    exact at_end (i + 1 + 1) (⟨by omega, by rw [lastI_next hq]; omega, asc_next hl hq (by omega)⟩) (by omega) [] hI rfl rfl ⟨⟨_, rfl, .pure pu⟩, ⟨_, rfl, .pure pu⟩, trivial⟩ trivial
 ·have h7 : i = l.length := by have := of_decide_eq_false hc7; omega
  subst h7
  refine at_exit <| x_te <| x_te <| x_be <| x_tn <| at_seq <| at_region <| s1 (y_p rfl) rfl ?_
  refine at_nil <| x_tn <| at_ret ?_
  refine at_result (rs := [.tmp 2]) rfl (r_tmp rfl r_nil) ?_
  exact congrArg A.b (asc_end hl).symm
theorem rcchk_ok (c : Cas) (hx : c.x.length = 32) (hn : c.E.length ≤ maxLen) (hD : ∀ f ∈ c.F, f.D.length ≤ 1000000) : Con Tryd.prog 18 [.ag (casL c)] (Ret (.i .i64 (errC (chkC c)))) := by
 refine enter Tryd.func18 rfl Tryd.ntmps18 (by kernel_rfl) (Nat.le_of_ble_eq_true rfl) fun w0 X0 hI => ?_
 refine at_seq <| at_region ?_
 refine at_op rfl (n_boxA 1 rfl rfl rfl ?_)
 refine s1 ((y_p rfl).v (v' := .i .i64 0) rfl) rfl ?_
 refine at_nil <| x_tn <| at_seq <| at_seq <| at_region <| s1 (y_fld Tryd.underlying27 rfl ti25 (by decide) rfl rfl) rfl <| s1 (y_load ti25 rfl rfl (cas_F hx)) rfl <| s1 (y_len Tryd.underlying25 rfl rfl rfl) rfl <| s1 (y_p rfl) rfl <| s1 (y_p rfl) rfl ?_
 refine at_bc 8 rfl (fun hc8 => ?_) (fun hc8 => ?_)
 ·have h4 : ¬ c.F.length ≤ 16 := by simp at hc8; omega
  refine g0 rfl rfl rfl rfl <| g0 rfl rfl rfl rfl <| g0 rfl rfl rfl rfl <| g0 rfl rfl rfl rfl <| s1 (y_p rfl) rfl ?_
  refine at_nil <| x_tn ?_
  refine at_then rfl ?_
  refine at_seq <| at_region <| s1 ((y_p rfl).v (v' := .i .i64 340) rfl) rfl ?_
  refine at_nil <| x_tn <| at_ret <| x_tr ?_
  refine at_result (rs := [.tmp 2]) rfl (r_tmp rfl r_nil) ?_
  exact congrArg (A.i .i64) (by rw [chkC_no1 h4]; rfl)
 ·have h4 : c.F.length ≤ 16 := by simp at hc8; omega
  refine g1 rfl rfl (y_fld Tryd.underlying27 rfl ti24 (by decide) rfl rfl) rfl <| g1 rfl rfl (y_load ti24 rfl rfl (cas_E hx)) rfl ?_
  refine at_opg rfl rfl rfl (n_call false rfl (.cons (.pure pu) (.nil)) (rvalid_ok c.E hn) pu (.inl rfl) rfl ?_)
  refine g1 rfl rfl (y_p rfl) rfl <| s1 (y_p rfl) rfl ?_
  refine at_nil <| x_tn ?_
  refine at_cond rfl (fun hc13 => ?_) (fun hc13 => ?_)
  ·have h14 : listedB c.E = false := by simpa using hc13
   refine at_seq <| at_region <| s1 ((y_p rfl).v (v' := .i .i64 340) rfl) rfl ?_
   refine at_nil <| x_tn <| at_ret <| x_tr ?_
   refine at_result (rs := [.tmp 2]) rfl (r_tmp rfl r_nil) ?_
   exact congrArg (A.i .i64) (by rw [chkC_no2 h14]; rfl)
  ·have h14 : listedB c.E = true := by simpa using hc13
   refine at_skip <| x_tn <| at_seq <| at_seq <| at_region <| s1 ((y_p rfl).v (v' := .i .i64 0) rfl) rfl ?_
   refine at_nil <| x_tn <| at_block ?_
   refine at_loop (ι := Nat) (fun i => [(1, .p 1 0), (3, nJ i)]) (fun i => ⟨[(1, some (casL c))]⟩) (fun i => i ≤ c.F.length ∧ levB 0 c.F = levB i (c.F.drop i)) (fun i => c.F.length - i) ?_ ?_
   ·exact at_ex (0) (⟨Nat.zero_le _, rfl⟩) [(1, some 1)] hI rfl rfl ⟨⟨_, rfl, .p rfl⟩, ⟨_, rfl, .pure pu⟩, trivial⟩ ⟨.inr ⟨_, _, rfl, rfl, .pure pul⟩, trivial⟩
   rintro i ⟨hi, hl⟩
   refine at_seq <| at_seq <| at_region <| s1 (y_p rfl) rfl <| s1 (y_fld Tryd.underlying27 rfl ti25 (by decide) rfl rfl) rfl <| s1 (y_load ti25 rfl rfl (cas_F hx)) rfl <| s1 (y_len Tryd.underlying25 rfl rfl rfl) rfl <| s1 (y_p rfl) rfl ?_
   refine at_nil <| x_tn ?_
   refine at_cond rfl (fun hc18 => ?_) (fun hc18 => ?_)
   ·have h19 : i < c.F.length := by have := of_decide_eq_true hc18; omega
    obtain ⟨f, hf⟩ : ∃ f, c.F[i]? = some f := ⟨_, List.getElem?_eq_getElem h19⟩
    refine at_skip <| x_tn <| at_seq <| at_block <| at_seq <| at_region <| s1 (y_fld Tryd.underlying27 rfl ti25 (by decide) rfl rfl) rfl <| s1 (y_load ti25 rfl rfl (cas_F hx)) rfl <| s1 (y_p rfl) rfl <| s1 (y_ixf i Tryd.underlying25 ti50 rfl rfl rfl (by omega) rfl) rfl <| s1 (y_fldf Tryd.underlying50 rfl ti3 (by decide) rfl rfl) rfl <| s1 (y_load ti3 rfl rfl (flat_get0 hf)) rfl <| s1 (y_p rfl) rfl <| s1 (y_p rfl) rfl <| s1 (y_p rfl) rfl ?_
    refine at_bc 29 rfl (fun hc29 => ?_) (fun hc29 => ?_)
    ·have h27 : ¬ f.lv = i := by simpa using hc29
     refine g0 rfl rfl rfl rfl <| g0 rfl rfl rfl rfl <| g0 rfl rfl rfl rfl <| g0 rfl rfl rfl rfl <| g0 rfl rfl rfl rfl <| g0 rfl rfl rfl rfl <| g0 rfl rfl rfl rfl <| s1 (y_p rfl) rfl ?_
     refine at_nil <| x_tn ?_
     refine at_then rfl ?_
     refine at_seq <| at_region <| s1 ((y_p rfl).v (v' := .i .i64 340) rfl) rfl ?_
     refine at_nil <| x_tn <| at_ret <| x_br <| x_tr <| x_tr <| x_br <| x_tr ?_
     refine at_result (rs := [.tmp 2]) rfl (r_tmp rfl r_nil) ?_
     exact congrArg (A.i .i64) (by rw [chkC_no3 (lev_no hl hf (fun h => h27 h.1))]; rfl)
    ·have h27 : f.lv = i := by simpa using hc29
     refine g1 rfl rfl (y_fld Tryd.underlying27 rfl ti25 (by decide) rfl rfl) rfl <| g1 rfl rfl (y_load ti25 rfl rfl (cas_F hx)) rfl <| g1 rfl rfl (y_p rfl) rfl <| g1 rfl rfl (y_ixf i Tryd.underlying25 ti50 rfl rfl rfl (by omega) rfl) rfl <| g1 rfl rfl (y_loadA ti50 rfl rfl (flat_get hf) rfl) rfl ?_
     refine at_opg rfl rfl rfl (n_call false rfl (.cons (.pure pu) (.nil)) (rchk_ok f.lv f.nb f.D (hD f (List.mem_of_getElem? hf))) pu (.inl rfl) rfl ?_)
     refine g1 rfl rfl (y_p rfl) rfl <| s1 (y_p rfl) rfl ?_
     refine at_nil <| x_tn ?_
     refine at_cond rfl (fun hc37 => ?_) (fun hc37 => ?_)
     ·have h31 : ¬ (f.lv = i ∧ chkB f.lv f.nb f.D = true) := by intro h; simp [h.2, errF] at hc37
      refine at_seq <| at_region <| s1 ((y_p rfl).v (v' := .i .i64 340) rfl) rfl ?_
      refine at_nil <| x_tn <| at_ret <| x_br <| x_tr <| x_tr <| x_br <| x_tr ?_
      refine at_result (rs := [.tmp 2]) rfl (r_tmp rfl r_nil) ?_
      exact congrArg (A.i .i64) (by rw [chkC_no3 (lev_no hl hf h31)]; rfl)
     ·have h31 : f.lv = i ∧ chkB f.lv f.nb f.D = true := ⟨h27, by cases hk : chkB f.lv f.nb f.D with | true => rfl | false => simp [hk, errF] at hc37⟩
      refine at_skip <| x_bn <| x_tn <| at_region <| s1 (y_p rfl) rfl <| s1 (addN _ 1 rfl rfl rfl rfl (by omega)) rfl <| s1 (y_p rfl) rfl ?_
      refine at_nil ?_
      exact at_end (i + 1) (⟨by omega, lev_next hl hf h31.1 h31.2⟩) (by omega) [(1, some 1)] hI rfl rfl ⟨⟨_, rfl, .p rfl⟩, ⟨_, rfl, .pure pu⟩, trivial⟩ ⟨.inr ⟨_, _, rfl, rfl, .pure pul⟩, trivial⟩
   ·have h19 : i = c.F.length := by have := of_decide_eq_false hc18; omega
    subst h19
    refine at_exit <| x_te <| x_te <| x_be <| x_tn <| at_seq <| at_region <| s1 ((y_p rfl).v (v' := .i .i64 0) rfl) rfl ?_
    refine at_nil <| x_tn <| at_ret ?_
    refine at_result (rs := [.tmp 2]) rfl (r_tmp rfl r_nil) ?_
    exact congrArg (A.i .i64) (by rw [chkC_yes h4 h14 (lev_end hl)]; rfl)
end Go.Abs.D2
-- V6P
namespace Go.Abs.V6
open Go Go.Eng Go.Abs
def chooses (l : List UInt8) (k : Nat) : Bool := UInt8.ofNat ((l.getD (k / 8) 0).toNat / 2 ^ (k % 8)) &&& 1 == 1
def cut (many : Nat) (l : List UInt8) : List UInt8 := if many % 8 = 0 then l else l.set (many / 8) (l.getD (many / 8) 0 &&& (bitB (many % 8) - 1))
def sized (many : Int) (n : Nat) : Bool := decide (1 ≤ many ∧ many ≤ 1024 ∧ (n : Int) = (many + 7) / 8)
def masked (many : Int) (l : List UInt8) : Bool := sized many l.length && l == cut many.toNat l
def xorL (a b : List UInt8) : List UInt8 := List.zipWith (· ^^^ ·) a b
def zero16 : List UInt8 := List.replicate 16 0
def answer (db : List (List UInt8)) (m : List UInt8) : List UInt8 := (List.range db.length).foldl (fun s n => if chooses m n then xorL s (db.getD n []) else s) zero16
def database (db : List (List UInt8)) : Bool := db.all (fun b => b.length == 16) && decide (1 ≤ db.length ∧ db.length ≤ 1024)
def answers (db ms : List (List UInt8)) : List (List UInt8) × Int :=
  if database db && decide (ms.length ≤ 132) && ms.all (masked db.length) then (ms.map (answer db), 0) else ([], 360)
theorem xor_zero (a b : List UInt8) (ha : a.length = 16) : [a, b].foldl xorL zero16 = xorL a b := by
  simp only [List.foldl_cons, List.foldl_nil]
  have : xorL zero16 a = a := by
    apply List.ext_getElem
    · simp [xorL, zero16, ha]
    · intro i h1 h2
      have e : zero16[i]'(by simp only [zero16, List.length_replicate]; omega) = 0 := by simp only [zero16, List.getElem_replicate]
      simp only [xorL, List.getElem_zipWith, e]
      simp
  rw [this]
def few (ls : List (List UInt8)) (most : Int) : Bool := ls.all (fun l => decide (l.length ≤ 130)) && decide ((ls.length : Int) ≤ most)
theorem all_of_getD {ls : List (List UInt8)} {p : List UInt8 → Prop} (h : ∀ k, k < ls.length → p (ls.getD k [])) : ∀ l ∈ ls, p l := by
  intro l hl
  obtain ⟨k, hk⟩ := List.mem_iff_getElem?.1 hl
  have hlt := (List.getElem?_eq_some_iff.1 hk).1
  have := h k hlt
  simpa [List.getD, hk] using this
theorem few_yes {ls : List (List UInt8)} {most : Int} (h : ∀ k, k < ls.length → (ls.getD k []).length ≤ 130) : few ls most = decide ((ls.length : Int) ≤ most) := by
  have : ls.all (fun l => decide (l.length ≤ 130)) = true := by
    rw [List.all_eq_true]
    intro l hl
    simpa using all_of_getD (p := fun l => l.length ≤ 130) h l hl
  simp [few, this]
def blk (b : UInt8) : List UInt8 := b :: List.replicate 15 0
def want (at' : List Int) (k : Nat) : Int := if k < at'.length then at'.getD k 0 else 0
end Go.Abs.V6
-- AbsR
namespace Go.Abs
open Go Go.Eng
section
variable {P : Program} {w0 : Bw} {X0 : Xs} {n : Nat} {E : Ev} {st : St} {K : Act → World → Prop} {Q : Exit → Act → World → Prop}
theorem zeroCells_oneR (z : Value) (k : Nat) : (Builtin.zeroCells #[z] k).toList = List.replicate k z := by
  apply List.ext_getElem
  · simp [Builtin.zeroCells]
  · intro i h1 h2
    simp [Builtin.zeroCells, Nat.mod_one]
end
end Go.Abs
-- V6Q
namespace Go.Abs.D2
end Go.Abs.D2
namespace Go.Abs.V6
open Go Go.Eng Go.Abs
abbrev slV (p : List UInt8) : A := .fz p.length (p.map u8)
theorem getR {ls : List (List UInt8)} {j : Nat} {q : List UInt8} (h : ls[j]? = some q) : ((ls.map slV).drop (j * 1))[0]? = some (slV q) := by
  rw [List.getElem?_drop, show j * 1 + 0 = j by omega, List.getElem?_map, h]; rfl
end Go.Abs.V6
namespace Go.Abs.D2
open Go Go.Eng Go.Abs
end Go.Abs.D2
namespace Go.Abs.V6
open Go Go.Eng Go.Abs Go.Abs.D2
end Go.Abs.V6
namespace Go.Abs.D2
open Go Go.Eng Go.Abs
end Go.Abs.D2
-- V6R
namespace Go.Abs.D2
open Go Go.Eng Go.Abs
end Go.Abs.D2
-- AbsS
namespace Go.Abs
open Go Go.Eng
section
variable {P : Program} {w0 : Bw} {X0 : Xs} {n : Nat} {E : Ev} {st : St} {K : Act → World → Prop} {Q : Exit → Act → World → Prop}
theorem n_callHO {d : Nat} (nx : Nat) (hfr : st.free nx = true) (s0 : St) (ow : Bool) {f : FuncId} {xs : List Operand} {vs vs' ds : List A} {s m : Nat} {ats : Array TypeId} {ty : TypeId} {pos aft' g} (hxs : evsA E xs = some vs) (hS : SubL st s0 ow s0.os) (hv : VwL st s0 ow vs vs')
    (hc : ConS P f vs' s0 (RetO s m ds)) (hp : PureL ds) (hf : ow = false ∨ FlatL ds) (hd : Nat.ble (d + 1) n = true) (h : At w0 X0 n ((d, .sl nx s 0 m) :: E) ((aft s0 st []).put nx ds) K) :
    At w0 X0 n E st (fun a w => (⟨some d, .call { callee := .value (.func f), args := xs.toArray, argTypes := ats }, ty, pos, aft', g⟩ : Oper).wp P a w K Q) := by
  rintro a w ⟨β, X, hr⟩
  have hss : ∀ id cs, s0.get id = some cs → st.get id = some cs := fun id cs h => (SubL_get hS h).1
  refine call_core (fs := []) (cs := []) hr rfl hxs hS (by simpa using hv) hc fun v w' ⟨r, β', X', st', hR, hsup, hsub, hm, hvv⟩ => ?_
  obtain ⟨id, rfl, hg⟩ := hR
  obtain ⟨m1, m2, m3, m4, m6⟩ := hm.after hr hss hsub hsup (upds := []) (fun p hp => by cases hp)
  have hnx := hr.mem.dom nx hfr
  have hfa : ∀ k, (aft s0 st []).free k = true → st.free k = true := fun k => (aft_get (s0 := s0) (st := st) (upds := [])).2
  have hga : ∀ k ck, (aft s0 st []).get k = some ck → s0.free k = true ∧ st.get k = some ck := fun k ck hk => by
    rcases (aft_get (s0 := s0) (st := st) (upds := [])).1 ck hk with h | h
    · cases h
    · exact h
  have ho := hm.obj id ds hg
  unfold OB at ho
  simp only [V] at hvv
  rcases hvv with ⟨hβ, rfl, _, rfl⟩ | ⟨b, N, cap, hβ, rfl, c1, c2, c3⟩
  · rw [hβ] at ho
    have ho : ds = [] := ho
    subst ho
    have m5 : Mem w0 (upd β nx .ph) (fun b o => X b o ∨ (X' b o ∧ (bw w (rst s0 β) s0 rst_none).own b)) ((aft s0 st []).put nx []) w' := by
      refine .of (m1.below) (fun k y h => (upd_ext hnx) k y (m1.b0 k y h)) (m1.xlt) (fun k h => ?_) (fun k es hk => ?_) (fun i j ci cj q M N' hij hi hj hbi hbj => ?_)
      · rw [St.free_put] at h
        split at h
        · cases h
        · rename_i hne
          rw [upd_ne (fun e => hne e.symm)]
          exact hr.mem.dom k (hfa k h)
      · rw [St.get_put] at hk
        split at hk
        · rename_i e; subst e
          simp only [Option.some.injEq] at hk
          subst hk
          unfold OB
          rw [upd_at]
        · refine (m1.obj k es hk).later (fun _ _ h => ⟨h, rfl⟩) (upd_ext hnx) fun q M hq => ⟨rfl, ?_⟩
          have hk' := m1.obj k es hk
          unfold OB at hk'
          rw [hq] at hk'
          exact hk'.2.1
      · rw [St.get_put] at hi hj
        by_cases ei : nx = i
        · subst ei; rw [upd_at] at hbi; cases hbi
        · rw [if_neg ei] at hi
          rw [upd_ne (by omega)] at hbi
          by_cases ej : nx = j
          · subst ej; rw [upd_at] at hbj; cases hbj
          · rw [if_neg ej] at hj
            rw [upd_ne (by omega)] at hbj
            exact m1.inj i j ci cj q M N' hij hi hj hbi hbj
    exact h _ _ ⟨_, _, hr.putv hd m2 m3 (upd_ext hnx) m5 (by simp only [V]; exact .inl ⟨upd_at, by simp⟩)⟩
  · rw [hβ] at ho
    obtain ⟨o1, o2, us, rest, ety, o3, o4, o5, o6⟩ := ho
    have hown : w0.own b ∧ ∀ k ck q M, (aft s0 st []).get k = some ck → β k = some (.bk q M) → q ≠ b := by
      rcases o1 with h | ⟨id', cs', N', h1, h2⟩
      · have h : w.heap.size ≤ b := h
        refine ⟨Bw.own_new hr.mem.below h, fun k ck q M hk hq => ?_⟩
        have := m6 q M k ck (hga k ck hk).2 hq
        omega
      · obtain ⟨g3, g4⟩ := rst_some h2
        have ho' := hr.mem.obj id' cs' (hss id' cs' h1)
        unfold OB at ho'
        rw [g4] at ho'
        refine ⟨ho'.1, fun k ck q M hk hq e => ?_⟩
        subst e
        obtain ⟨k1, k2⟩ := hga k ck hk
        refine hr.mem.inj k id' ck cs' q M N' (fun e => ?_) k2 (hss id' cs' h1) hq g4
        subst e; rw [k1] at g3; cases g3
    have hnX : ∀ o, ¬ (X b o ∨ (X' b o ∧ (bw w (rst s0 β) s0 rst_none).own b)) := fun o h => by
      rcases h with h | ⟨h, _⟩
      · exact o2 o (hsup b o (.inl h))
      · exact o2 o h
    have hvs : VS (fun b o => X b o ∨ (X' b o ∧ (bw w (rst s0 β) s0 rst_none).own b)) w' (upd β nx (.bk b N)) ds us := by
      rcases hf with hf | hf
      · exact VS_mono (m4 hf) _ _ _ _ (ExtB.refl _) (VS_pure _ _ hp o5)
      · exact VS_flat _ _ hf o5
    have m5 : Mem w0 (upd β nx (.bk b N)) (fun b o => X b o ∨ (X' b o ∧ (bw w (rst s0 β) s0 rst_none).own b)) ((aft s0 st []).put nx ds) w' := by
      refine .of (m1.below) (fun k y h => (upd_ext hnx) k y (m1.b0 k y h)) (m1.xlt) (fun k h => ?_) (fun k es hk => ?_) (fun i j ci cj q M N' hij hi hj hbi hbj => ?_)
      · rw [St.free_put] at h
        split at h
        · cases h
        · rename_i hne
          rw [upd_ne (fun e => hne e.symm)]
          exact hr.mem.dom k (hfa k h)
      · rw [St.get_put] at hk
        split at hk
        · rename_i e; subst e
          simp only [Option.some.injEq] at hk
          subst hk
          unfold OB
          rw [upd_at]
          exact ⟨hown.1, hnX, us, rest, ety, o3, o4, hvs, o6⟩
        · refine (m1.obj k es hk).later (fun _ _ h => ⟨h, rfl⟩) (upd_ext hnx) fun q M hq => ⟨rfl, ?_⟩
          have hk' := m1.obj k es hk
          unfold OB at hk'
          rw [hq] at hk'
          exact hk'.2.1
      · rw [St.get_put] at hi hj
        by_cases ei : nx = i
        · by_cases ej : nx = j
          · omega
          · rw [if_neg ej] at hj
            rw [← ei, upd_at] at hbi
            rw [upd_ne (by omega)] at hbj
            simp only [Option.some.injEq, BL.bk.injEq] at hbi
            exact hown.2 j cj q N' hj hbj (by omega)
        · rw [if_neg ei] at hi
          rw [upd_ne (by omega)] at hbi
          by_cases ej : nx = j
          · rw [← ej, upd_at] at hbj
            simp only [Option.some.injEq, BL.bk.injEq] at hbj
            exact hown.2 i ci q M hi hbi (by omega)
          · rw [if_neg ej] at hj
            rw [upd_ne (by omega)] at hbj
            exact m1.inj i j ci cj q M N' hij hi hj hbi hbj
    exact h _ _ ⟨_, _, hr.putv hd m2 m3 (upd_ext hnx) m5 (by simp only [V]; exact .inr ⟨b, N, cap, upd_at, rfl, c1, c2, c3⟩)⟩
end
end Go.Abs
namespace Go.Eng
end Go.Eng
namespace Go.Abs
open Go Go.Eng
end Go.Abs
namespace Go.Abs
open Go Go.Eng
section
variable {P : Program} {n : Nat}
def bwH (w : World) (β : Bm) (s0 : St) : Bw := ⟨w, fun b => ∃ id cs N, s0.get id = some cs ∧ β id = some (.bk b N), fun _ => none, [], fun id x h => (by cases h), []⟩
theorem fresh_far : ∀ os : List (Nat × Option (List A)), ∃ N, ∀ K, N ≤ K → fresh os K = true
  | [] => ⟨0, fun _ _ => rfl⟩
  | p :: os => by
    obtain ⟨N, h⟩ := fresh_far os
    refine ⟨N + p.1 + 1, fun K hK => ?_⟩
    rw [fresh_cons, if_neg (by omega)]
    exact h K (by omega)
theorem fresh_gone : ∀ (os : List (Nat × Option (List A))) (K : Nat), fresh ((os.map fun p => (p.1, (none : Option (List A)))) ++ []) K = fresh os K
  | [], _ => rfl
  | p :: os, K => by
    rw [List.map_cons, List.cons_append, fresh_cons, fresh_cons, fresh_gone os K]
theorem post_H {w : World} {X : Xs} {β : Bm} {s0 : St} {hd : ∀ id, s0.free id = true → β id = none} {s m : Nat} {ds : List A} {v : Value} {w' : World} (hp : PureL ds) (h : Post (bwH w β s0) X (RetO s m ds) v w') : Post (bw w β s0 hd) X (RetO s m ds) v w' := by
  obtain ⟨r, β', X', st', ⟨id, rfl, hg⟩, h1, h2, hm, hv⟩ := h
  obtain ⟨N0, hN⟩ := fresh_far s0.os
  have hK : s0.free N0 = true := hN N0 (Nat.le_refl _)
  have hnx := hd N0 hK
  have hbel : KB (bw w β s0 hd) w' := ⟨hm.below.os, hm.below.tape, hm.below.output, hm.below.size, hm.below.block, fun s hs => by cases hs⟩
  have hfa : ∀ k, (aft s0 ⟨[]⟩ []).free k = true → s0.free k = true := fun k hk => by
    have := fresh_gone s0.os k
    unfold aft St.free at hk
    unfold St.free
    rw [← this]; exact hk
  have hga : ∀ k ck, (aft s0 ⟨[]⟩ []).get k = some ck → False := fun k ck hk => by
    rcases (aft_get (s0 := s0) (st := ⟨[]⟩) (upds := [])).1 ck hk with h | ⟨_, h⟩
    · cases h
    · cases h
  have ho := hm.obj id ds hg
  unfold OB at ho
  have key : ∀ y : BL, (match (some y : Option BL) with | none => False | some .ph => ds = [] | some (.bk b N) => (bw w β s0 hd).own b ∧ (∀ o, ¬ X' b o) ∧ ∃ us rest ty, w'.heap[b]? = some (row ty (us ++ rest)) ∧ us.length + rest.length = N ∧ VS X' w' (upd β N0 y) ds us ∧ ∀ x ∈ us, x.oneCell' = true) → Mem (bw w β s0 hd) (upd β N0 y) X' ((aft s0 ⟨[]⟩ []).put N0 ds) w' := fun y hy => by
    refine .of hbel (upd_ext hnx) hm.xlt (fun k h => ?_) (fun k es hk => ?_) (fun i j ci cj q M N' hij hi hj hbi hbj => ?_)
    · rw [St.free_put] at h
      split at h
      · cases h
      · rename_i hne
        rw [upd_ne (fun e => hne e.symm)]
        exact hd k (hfa k h)
    · rw [St.get_put] at hk
      split at hk
      · rename_i e; subst e
        simp only [Option.some.injEq] at hk
        subst hk
        unfold OB
        rw [upd_at]
        exact hy
      · exact absurd hk (fun h => hga k es h)
    · rw [St.get_put] at hi hj
      by_cases ei : N0 = i
      · rw [if_neg (by omega)] at hj
        exact absurd hj (fun h => hga j cj h)
      · rw [if_neg ei] at hi
        exact absurd hi (fun h => hga i ci h)
  simp only [V] at hv
  rcases hv with ⟨hβ, rfl, e2, rfl⟩ | ⟨b, N, cap, hβ, rfl, c1, c2, c3⟩
  · rw [hβ] at ho
    refine ⟨.sl N0 s 0 0, upd β N0 .ph, X', _, ⟨N0, rfl, by rw [St.get_put, if_pos rfl]⟩, h1, h2, key .ph ho, ?_⟩
    simp only [V]; exact .inl ⟨upd_at, by simp⟩
  · rw [hβ] at ho
    obtain ⟨o1, o2, us, rest, ety, o3, o4, o5, o6⟩ := ho
    refine ⟨.sl N0 s 0 m, upd β N0 (.bk b N), X', _, ⟨N0, rfl, by rw [St.get_put, if_pos rfl]⟩, h1, h2, key (.bk b N) ⟨o1, o2, us, rest, ety, o3, o4, VS_pure _ _ hp o5, o6⟩, ?_⟩
    simp only [V]; exact .inr ⟨b, N, cap, upd_at, rfl, c1, c2, c3⟩
end
section
variable {P : Program} {w0 : Bw} {X0 : Xs} {n : Nat} {E : Ev} {st : St} {Q : Exit → Act → World → Prop} {r : Option Nat} {ds : List Deferred}
theorem at_ung {ops : Array Oper} {rest : List Oper} {dst : Option Nat} {op : Op} {ty : TypeId} {pos : String} {aft' : Array Edge} {j t : Nat} {b : Bool} (hj : guardSlot ops j = some t) (hb : E.at? t = some (.b b))
    (h : At w0 X0 n E st (Pw ds (wpListIn (rF r) 0 P ops Q (⟨dst, op, ty, pos, aft', none⟩ :: rest)))) : At w0 X0 n E st (Pw ds (wpListIn (rF r) 0 P ops Q (⟨dst, op, ty, pos, aft', some (j, b)⟩ :: rest))) := fun a w hr => by
  have h1 : wpListIn (rF r) 0 P ops Q (⟨dst, op, ty, pos, aft', none⟩ :: rest) (a.wd ds) w := h a w hr
  show wpListIn (rF r) 0 P ops Q (⟨dst, op, ty, pos, aft', some (j, b)⟩ :: rest) (a.wd ds) w
  unfold wpListIn at h1 ⊢
  rw [if_pos (by simp [Region.wanted])] at h1
  rw [if_pos (by obtain ⟨β, X, hr⟩ := hr; simp [Region.wanted, tmps_wd, hr.yields hj hb])]
  exact h1
end
end Go.Abs
-- S7P
namespace Go.Abs.D2
open Go Go.Eng Go.Abs
def numB (id : Int) : Bool := decide (0 ≤ id ∧ id < 1024)
theorem num_nat {id : Int} (h : numB id = true) : ∃ j : Nat, id = (j : Int) ∧ j < 1024 := by
  have := of_decide_eq_true h
  exact ⟨id.toNat, by omega, by omega⟩
@[irreducible] def bitsAt (c : Cas) (id i k : Nat) : Nat := match c.F[i]? with
  | some f => bN c.x i f.nb.toNat id k
  | none => 0
def plc (c : Cas) (id j : Nat) : Int := ((32 * (j / 2) + bitsAt c id (j / 2) (j % 2) / 128 : Nat) : Int)
def plcL (c : Cas) (id n : Nat) : List Int := (List.range n).map (plc c id)
@[simp] theorem len_plcL (c : Cas) (id n : Nat) : (plcL c id n).length = n := by simp [plcL]
theorem plcL_s (c : Cas) (id n : Nat) : plcL c id (n + 1) = plcL c id n ++ [plc c id n] := by simp [plcL, List.range_succ]
def whereL (c : Cas) (id : Nat) : List Int := plcL c id 32 ++ [((512 + id / 128 : Nat) : Int)]
@[simp] theorem len_whereL (c : Cas) (id : Nat) : (whereL c id).length = 33 := by simp [whereL]
abbrev iA : Int → A := .i .i64
theorem cas_len {c : Cas} (hx : c.x.length = 32) : (casL c).length = 34 := by simp [casL, hx]
theorem cas_all {c : Cas} (hx : c.x.length = 32) : (casL c).take 34 = casL c := List.take_of_length_le (by rw [cas_len hx]; omega)
def passT (p : Nat → Bool) : Nat → Nat
  | 0 => 0
  | n + 1 => if passT p n = n ∧ p n = true then n + 1 else passT p n
theorem passT_le (p : Nat → Bool) : ∀ n, passT p n ≤ n
  | 0 => Nat.le_refl _
  | n + 1 => by
    unfold passT; split
    · omega
    · have := passT_le p n; omega
theorem passT_all {p : Nat → Bool} : ∀ {n : Nat}, (∀ t, t < n → p t = true) → passT p n = n
  | 0, _ => rfl
  | n + 1, h => by unfold passT; rw [if_pos ⟨passT_all fun t ht => h t (by omega), h n (by omega)⟩]
theorem passT_no {p : Nat → Bool} {i : Nat} : ∀ {n : Nat}, i < n → (∀ t, t < i → p t = true) → p i = false → passT p n = i
  | 0, h, _, _ => by omega
  | n + 1, h, h1, h2 => by
    unfold passT
    by_cases hi : i = n
    · subst hi; rw [if_neg (by rw [h2]; simp), passT_all h1]
    · have := passT_no (n := n) (by omega) h1 h2
      rw [if_neg (by rw [this]; omega), this]
def blkB (bl : List (List UInt8)) (i b : Nat) : Bool := bitA (bl.getD i []) (b % 128)
def metB (c : Cas) (id : Nat) (bl : List (List UInt8)) (i : Nat) : Bool := blkB bl (2 * i) (bitsAt c id i 0) && blkB bl (2 * i + 1) (bitsAt c id i 1)
def readV (c : Cas) (id : Nat) (bl : List (List UInt8)) : Bool := (passT (metB c id bl) c.F.length % 2 == 1) != blkB bl 32 id
theorem odd_next (i : Nat) : (!(i % 2 == 1)) = ((i + 1) % 2 == 1) := by
  rw [Bool.eq_iff_iff]; simp; omega
def putD (M : List UInt8) (o : Nat) (D : List UInt8) : Nat → List UInt8
  | 0 => M
  | k + 1 => (putD M o D k).set (o + k) (D.getD k 0)
@[simp] theorem len_putD (M : List UInt8) (o : Nat) (D : List UInt8) : ∀ k, (putD M o D k).length = M.length
  | 0 => rfl
  | k + 1 => by simp [putD, len_putD M o D k]
def zeroM : List UInt8 := List.replicate 8320 0
def filF (F : List Fil) : Nat → List UInt8
  | 0 => zeroM
  | i + 1 => putD (filF F i) (512 * i) ((F.map Fil.D).getD i []) ((F.map Fil.D).getD i []).length
@[simp] theorem len_filF (F : List Fil) : ∀ i, (filF F i).length = 8320
  | 0 => by rw [filF, zeroM, List.length_replicate]
  | i + 1 => by rw [filF, len_putD, len_filF F i]
def excF (M : List UInt8) (E : List Int) : Nat → List UInt8
  | 0 => M
  | k + 1 => setA (excF M E k) (65536 + (E.getD k 0).toNat)
@[simp] theorem len_excF (M : List UInt8) (E : List Int) : ∀ k, (excF M E k).length = M.length
  | 0 => rfl
  | k + 1 => by rw [excF, len_setA, len_excF M E k]
@[irreducible] def imgB (c : Cas) : List UInt8 := excF (filF c.F c.F.length) c.E c.E.length
theorem imgB_eq (c : Cas) : imgB c = excF (filF c.F c.F.length) c.E c.E.length := by unfold imgB; rfl
@[simp] theorem len_imgB (c : Cas) : (imgB c).length = 8320 := by rw [imgB_eq]; simp
def blkN (M : List UInt8) (i : Nat) : List UInt8 := (M.drop (16 * i)).take 16
def dbN (M : List UInt8) (i : Nat) : List (List UInt8) := (List.range i).map (blkN M)
@[simp] theorem len_dbN (M : List UInt8) (i : Nat) : (dbN M i).length = i := by simp [dbN]
theorem dbN_s (M : List UInt8) (i : Nat) : (dbN M i).map V6.slV ++ [V6.slV (blkN M i)] = (dbN M (i + 1)).map V6.slV := by simp [dbN, List.range_succ]
end Go.Abs.D2
-- S7Q
namespace Go.Abs.D2
open Go Go.Eng Go.Abs
def rowsJ (a b : List (List UInt8)) (n m : Nat) : List (List UInt8) := (List.range m).map fun k => V6.xorL (a.getD (33 * n + k) []) (b.getD (33 * n + k) [])
@[simp] theorem len_rowsJ (a b : List (List UInt8)) (n m : Nat) : (rowsJ a b n m).length = m := by simp [rowsJ]
theorem rowsJ_s {a b : List (List UInt8)} {n k : Nat} {p q : List UInt8} (hp : a.getD (33 * n + k) [] = p) (hq : b.getD (33 * n + k) [] = q) : (rowsJ a b n k).map V6.slV ++ [V6.slV (V6.xorL p q)] = (rowsJ a b n (k + 1)).map V6.slV := by
  subst hp; subst hq
  simp [rowsJ, List.range_succ]
def resN (c : Cas) (ids : List Int) (a b : List (List UInt8)) (k : Nat) : List Bool := (List.range k).map fun n => readV c (ids.getD n 0).toNat (rowsJ a b n 33)
@[simp] theorem len_resN (c : Cas) (ids : List Int) (a b : List (List UInt8)) (k : Nat) : (resN c ids a b k).length = k := by simp [resN]
theorem resN_s {c : Cas} {ids : List Int} {a b : List (List UInt8)} {k j : Nat} (h : ids[k]? = some (j : Int)) : (resN c ids a b k).map A.b ++ [.b (readV c j (rowsJ a b k 33))] = (resN c ids a b (k + 1)).map A.b := by
  have : (ids.getD k 0).toNat = j := by rw [List.getD, h]; rfl
  simp [resN, List.range_succ, ← this]
structure Epo where
  a : Int
  b : Int
  d : Int
  r : List A
def daysE (l : List Epo) : List Int := l.map Epo.d
@[simp] theorem len_daysE (l : List Epo) : (daysE l).length = l.length := by simp [daysE]
def okE (l : List Epo) : Prop := ∀ e ∈ l, e.r.length = 68
theorem lev_get : ∀ {F : List Fil} {j i : Nat} {f : Fil}, levB j F = true → F[i]? = some f → f.lv = (j + i : Nat) ∧ chkB f.lv f.nb f.D = true
  | [], _, _, _, _, h => by simp at h
  | g :: F, j, i, f, h0, h => by
    simp only [levB, Bool.and_eq_true, decide_eq_true_eq] at h0
    cases i with
    | zero => simp at h; subst h; exact h0.1
    | succ i =>
      have := lev_get h0.2 (by simpa using h)
      rw [show j + (i + 1) = j + 1 + i by omega]; exact this
theorem chkC_all {c : Cas} (h : chkC c = true) : c.F.length ≤ 16 ∧ listedB c.E = true ∧ levB 0 c.F = true := by
  unfold chkC at h
  simp only [Bool.and_eq_true, decide_eq_true_eq] at h
  exact ⟨h.1.1, h.1.2, h.2⟩
theorem chkC_get {c : Cas} (h : chkC c = true) {i : Nat} {f : Fil} (hf : c.F[i]? = some f) : f.lv = (i : Nat) ∧ ∃ n : Nat, f.nb = (n : Int) ∧ 8 ≤ n ∧ n ≤ 4096 ∧ f.D.length = (n + 7) / 8 ∧ chkB (i : Nat) (n : Nat) f.D = true := by
  have := lev_get (chkC_all h).2.2 hf
  obtain ⟨l, n, e1, e2, _, h2, h3, h4, _⟩ := chk_nat this.2
  refine ⟨by rw [this.1]; simp, n, e2, h2, h3, h4, ?_⟩
  have e3 := this.2
  rw [this.1, e2] at e3
  simpa using e3
end Go.Abs.D2
-- S7R
namespace Go.Abs.D2
open Go Go.Eng Go.Abs
abbrev Z32 : List UInt8 := List.replicate 32 0
abbrev cas0 : Cas := ⟨Z32, [], []⟩
abbrev cas1 : Cas := ⟨Z32, [], [0, 1023]⟩
theorem hx1 : cas1.x.length = 32 := rfl
theorem wk_tail : ∀ l : List A, WkL (l ++ [.nl, .nl]) (l ++ [.fz 0 [], .fz 0 []])
  | [] => .cons .nl (.cons .nl .nil)
  | _ :: l => .cons (.eq rfl) (wk_tail l)
theorem wk_cas0 : WkL (Z32.map u8 ++ [.nl, .nl]) (casL cas0) := wk_tail _
end Go.Abs.D2
-- S7T
namespace Go.Abs.D2
open Go Go.Eng Go.Abs
abbrev dFil : D := .st [.int .i64, .int .i64, .sl (.int .u8)]
abbrev dCas : D := .st [.arr 32 (.int .u8), .sl dFil, .sl (.int .i64)]
theorem flat_filC (l : List Fil) : (l.map filC).flatten = l.flatMap filC := by rw [List.flatMap_def]
theorem den_cas (aS : List A) (h : Den dCas aS) : ∃ c : Cas, aS = casL c ∧ c.x.length = 32 ∧ c.E.length ≤ maxLen ∧ c.F.length ≤ maxLen := by
  simp only [Den, DenL] at h
  obtain ⟨a, r, h1, ⟨b, r2, h2, ⟨e, r3, h3, rfl, rfl⟩, rfl⟩, rfl⟩ := h
  obtain ⟨x, rfl, hx⟩ := den_arr8 (n := 32) a (by simpa only [Den] using h1)
  obtain ⟨ls, g1, g2, rfl⟩ := h2
  obtain ⟨F, rfl, _⟩ := den_map (f := filC) (p := fun _ => True) (e := dFil) (fun y hy => by obtain ⟨f, rfl, _⟩ := den_fil y hy; exact ⟨f, rfl, trivial⟩) ls (fun y hy => by simpa only [Den, DenL] using g1 y hy)
  obtain ⟨E, rfl, hE, _⟩ := den_ints e (by simpa only [Den] using h3)
  refine ⟨⟨x, F, E⟩, ?_, hx, hE, by simpa using g2⟩
  rw [flat_filC, List.length_map]; simp
def fewF (F : List Fil) : Bool := decide (F.length ≤ 20) && F.all fun f => decide (f.D.length ≤ 600)
def fewC (c : Cas) : Bool := fewF c.F && decide (c.E.length ≤ 60)
theorem few_no1 {F : List Fil} (h : ¬ F.length ≤ 20) : fewF F = false := by unfold fewF; rw [decide_eq_false h, Bool.false_and]
theorem few_no2 {F : List Fil} {i : Nat} {f : Fil} (hf : F[i]? = some f) (h : ¬ f.D.length ≤ 600) : fewF F = false := by
  unfold fewF
  rw [Bool.and_eq_false_iff]; right
  rw [List.all_eq_false]
  exact ⟨f, List.mem_of_getElem? hf, by simpa using h⟩
theorem few_yes {F : List Fil} (h1 : F.length ≤ 20) (h2 : ∀ i, i < F.length → ∀ f, F[i]? = some f → f.D.length ≤ 600) : fewF F = true := by
  unfold fewF
  rw [decide_eq_true h1, Bool.true_and, List.all_eq_true]
  intro f hf
  obtain ⟨i, hi, rfl⟩ := List.mem_iff_getElem.1 hf
  exact decide_eq_true (h2 i hi _ (List.getElem?_eq_getElem hi))
theorem fewC_spec {c : Cas} (h : fewC c = true) : c.F.length ≤ 20 ∧ (∀ f ∈ c.F, f.D.length ≤ 600) ∧ c.E.length ≤ 60 := by
  unfold fewC fewF at h
  simp only [Bool.and_eq_true, decide_eq_true_eq, List.all_eq_true] at h
  exact ⟨h.1.1, h.1.2, h.2⟩
theorem flat_get2 {F : List Fil} {f : Fil} {i : Nat} (h : F[i]? = some f) : (((F.flatMap filC).drop (i * 3)).drop 2)[0]? = some (slA f.D) := by
  have := flat_get h
  have e : (((F.flatMap filC).drop (i * 3)).take 3)[2]? = some (slA f.D) := by rw [this]; rfl
  rw [List.getElem?_drop]
  rwa [List.getElem?_take, if_pos (by omega)] at e
def hdF (fill : UInt8) (f : Fil) : Fil := ⟨f.lv, f.nb, [fill]⟩
theorem tail_get {x : List UInt8} (hx : x.length = 32) (l : List A) : ((x.map u8 ++ l).drop 32) = l := List.drop_left' (by rw [List.length_map, hx])
theorem tail_set {x : List UInt8} (hx : x.length = 32) (v a b : A) : (x.map u8 ++ [a, b]).set 32 v = x.map u8 ++ [v, b] := by
  rw [List.set_append_right _ _ (by simp [hx]), List.length_map, hx]; rfl
theorem flat_len (F : List Fil) : (F.flatMap filC).length = F.length * 3 := by
  induction F with
  | nil => rfl
  | cons f F ih => rw [List.flatMap_cons, List.length_append, ih, List.length_cons]; simp; omega
end Go.Abs.D2
-- S7U
namespace Go.Abs.D2
open Go Go.Eng Go.Abs
def inE (E : List Int) (id : Nat) : Bool := E.any fun e => e == (id : Int)
def hasAt (c : Cas) (id i : Nat) : Bool := match c.F[i]? with
  | some f => hasD c.x i f.nb.toNat id f.D
  | none => false
theorem hasAt_some {c : Cas} {id i n : Nat} {f : Fil} (h : c.F[i]? = some f) (hn : f.nb = (n : Int)) : hasAt c id i = hasD c.x i n id f.D := by unfold hasAt; rw [h]; simp [hn]
def hasC (c : Cas) (id : Nat) : Bool := (passT (hasAt c id) c.F.length % 2 == 1) != inE c.E id
end Go.Abs.D2
-- C4Q
namespace Go.Abs.D2
open Go Go.Eng Go.Abs
@[irreducible] def hasCA (c : Cas) (id : Int) : A := if chkC c && numB id then .tu [.b (hasC c id.toNat), .i .i64 0] else .tu [.b false, .i .i64 340]
theorem hasc_no {c : Cas} {id : Int} (h : (chkC c && numB id) = false) : hasCA c id = .tu [.b false, .i .i64 340] := by unfold hasCA; rw [h]; rfl
theorem hasc_yes {c : Cas} {j : Nat} (h1 : chkC c = true) (h2 : numB j = true) : hasCA c j = .tu [.b (hasC c j), .i .i64 0] := by unfold hasCA; rw [h1, h2]; rfl
theorem hs_cases (c : Cas) (id : Int) : chkC c = false ∨ (chkC c = true ∧ numB id = false) ∨ (chkC c = true ∧ ∃ j : Nat, id = (j : Int) ∧ j < 1024 ∧ numB j = true) := by
  cases h1 : chkC c with
  | false => exact .inl rfl
  | true =>
    cases h2 : numB id with
    | false => exact .inr (.inl ⟨rfl, rfl⟩)
    | true =>
      obtain ⟨j, rfl, hj⟩ := num_nat h2
      exact .inr (.inr ⟨rfl, j, rfl, hj, h2⟩)
theorem has_at {c : Cas} (h : chkC c = true) {i j : Nat} {f : Fil} (hf : c.F[i]? = some f) (hj : j < 1024) : hasA c.x f.lv f.nb f.D (j : Int) = .tu [.b (hasAt c j i), .i .i64 0] := by
  obtain ⟨e1, n, e2, _, _, _, g⟩ := chkC_get h hf
  rw [hasAt_some hf e2, e1, e2]
  exact has_yes (okB_eq g hj)
theorem asc_pair : ∀ {l : List Int} {last : Int}, ascB last l = true → l.Pairwise (· < ·)
  | [], _, _ => .nil
  | a :: l, last, h => by
    simp only [ascB, Bool.and_eq_true, decide_eq_true_eq] at h
    exact .cons (fun b hb => (asc_mem h.2 b hb).1) (asc_pair h.2)
theorem take_not {E : List Int} (h : listedB E = true) {k : Nat} {q : Int} (hq : E[k]? = some q) : (E.take k).any (fun e => e == q) = false := by
  have hp := asc_pair h
  have hk := (List.getElem?_eq_some_iff.1 hq).1
  rw [← List.take_append_drop k E, List.drop_eq_getElem_cons hk, (List.getElem?_eq_some_iff.1 hq).2] at hp
  have := (List.pairwise_append.1 hp).2.2
  rw [List.any_eq_false]
  intro x hx
  have := this x hx q (.head _)
  simp only [beq_iff_eq]
  omega
theorem exc_hit {E : List Int} (h : listedB E = true) {k j : Nat} {o : Bool} {q : Int} (hq : E[k]? = some q) (he : q = (j : Int)) : (!(o != inE (E.take k) j)) = (o != inE (E.take (k + 1)) j) := by
  subst he
  have h1 : inE (E.take k) j = false := take_not h hq
  have h2 : inE (E.take (k + 1)) j = true := by unfold inE; rw [List.take_add_one, hq]; simp
  rw [h1, h2]; cases o <;> rfl
theorem exc_miss {E : List Int} {k j : Nat} {q : Int} (hq : E[k]? = some q) (he : ¬ q = (j : Int)) : inE (E.take k) j = inE (E.take (k + 1)) j := by
  unfold inE
  rw [List.take_add_one, hq]; simp [he]
theorem exc_0 (o : Bool) (E : List Int) (j : Nat) : o = (o != inE (E.take 0) j) := by
  have : inE (E.take 0) j = false := rfl
  rw [this]; cases o <;> rfl
end Go.Abs.D2
-- C4C
namespace Go.Abs.D2
open Go Go.Eng Go.Abs Go.Proofs 
theorem cpassed_ok (c : Cas) (j : Nat) : Con Tryd.prog 42 [.ag (casL c), nJ j] (Ret (.fn (.func 64) [] [.fp (casL c), .fp [nJ j]])) := by
 refine enter Tryd.func42 rfl Tryd.ntmps42 (by kernel_rfl) (Nat.le_of_ble_eq_true rfl) fun w0 X0 hI => ?_
 refine at_seq <| at_region ?_
 refine at_op rfl (n_boxA 2 rfl rfl rfl ?_)
 refine at_op rfl (n_box1 3 rfl rfl rfl rfl ?_)
 refine s1 (y_p rfl) rfl ?_
 refine at_nil <| x_tn <| at_seq ?_
 refine at_frzP 2 rfl rfl pul ?_
 refine at_frzP 3 rfl rfl pul ?_
 refine at_region <| s1 (y_func (us := []) (vs := [.fp (casL c), .fp [nJ j]]) rfl rfl) rfl <| s1 (y_p rfl) rfl ?_
 refine at_nil <| x_tn <| at_ret ?_
 refine at_result (rs := [.tmp 4]) rfl (r_tmp rfl r_nil) ?_
 rfl
theorem chas_ok (c : Cas) (hx : c.x.length = 32) (hn : c.E.length ≤ maxLen) (id : Int) : Con Tryd.prog 19 [.ag (casL c), .i .i64 id] (Ret (hasCA c id)) := by
 refine enterM Tryd.func19 rfl Tryd.ntmps19 (by kernel_rfl) (Nat.le_of_ble_eq_true rfl) fun w0 X0 hI hS => ?_
 refine at_seq <| at_region ?_
 refine at_op rfl (n_boxA 2 rfl rfl rfl ?_)
 refine at_op rfl (n_alloc 4 rfl ti4 rfl rfl ?_)
 refine s1 ((y_p rfl).v (v' := .i .i64 0) rfl) rfl ?_
 refine at_nil <| x_tn <| at_seq <| at_seq ?_
 rcases hs_cases c id with hcs | hcs | hcs
 ·skip
  refine at_region <| s1 (y_loadA0 ti27 rfl rfl (cas_len hx)) rfl ?_
  refine at_op rfl (n_call false rfl (.cons (.pure pu) (.nil)) (Con.cast (cchk_ok c hx hn) (congrArg (fun b => A.i .i64 (errC b)) hcs)) pu (.inl rfl) rfl ?_)
  refine s1 (y_p rfl) rfl ?_
  refine at_nil <| x_tn <| at_seq <| at_region <| s1 (y_p rfl) rfl <| s1 ((y_p rfl).v (v' := .b true) (rfl)) rfl ?_
  refine at_nil <| x_tn ?_
  refine at_then rfl ?_
  refine at_seq <| at_region <| s1 (y_p rfl) rfl ?_
  refine at_op rfl (n_store1 ti4 rfl rfl rfl rfl (by first | rfl | omega | (simp <;> omega) | (simp [*] <;> omega)) rfl ?_)
  refine s1 (y_p rfl) rfl ?_
  refine at_nil <| x_tn <| at_ret <| x_tr ?_
  refine at_resultM (rs := [.cell 4 4, .tmp 5]) rfl rfl rfl hS (dn := []) rfl hS List.nodup_nil rfl (r_cell ti4 rfl rfl rfl (r_tmp rfl r_nil)) ?_
  show A.tu _ = _; rw [hasc_no (by rw [hcs]; rfl)]; rfl
 ·obtain ⟨hck, hnb⟩ := hcs
  refine at_region <| s1 (y_loadA0 ti27 rfl rfl (cas_len hx)) rfl ?_
  refine at_op rfl (n_call false rfl (.cons (.pure pu) (.nil)) (Con.cast (cchk_ok c hx hn) (congrArg (fun b => A.i .i64 (errC b)) hck)) pu (.inl rfl) rfl ?_)
  refine s1 (y_p rfl) rfl ?_
  refine at_nil <| x_tn <| at_seq <| at_region <| s1 (y_p rfl) rfl <| s1 ((y_p rfl).v (v' := .b false) (rfl)) rfl ?_
  refine at_nil <| x_tn ?_
  refine at_else rfl ?_
  refine at_skip <| x_tn <| at_seq <| at_seq <| at_region <| s1 (y_p rfl) rfl <| s1 (y_p rfl) rfl <| s1 (y_p rfl) rfl ?_
  refine g_or 2 rfl rfl rfl rfl (fun hb16 => .step (y_p rfl) rfl rfl <| .step (y_p rfl) rfl rfl <| .done) rfl rfl ?_
  refine at_say 19 rfl (v' := .b true) (congrArg A.b (by have := of_decide_eq_false hnb; simp; omega)) ?_
  refine at_nil <| x_tn ?_
  refine at_then rfl ?_
  refine at_seq <| at_region ?_
  refine at_op rfl (n_store1 ti4 rfl rfl rfl rfl (by first | rfl | omega | (simp <;> omega) | (simp [*] <;> omega)) rfl ?_)
  refine s1 ((y_p rfl).v (v' := .i .i64 340) rfl) rfl ?_
  refine at_nil <| x_tn <| at_ret <| x_tr ?_
  refine at_resultM (rs := [.cell 4 4, .tmp 5]) rfl rfl rfl hS (dn := []) rfl hS List.nodup_nil rfl (r_cell ti4 rfl rfl rfl (r_tmp rfl r_nil)) ?_
  show A.tu _ = _; rw [hasc_no (by rw [hck, hnb]; rfl)]; rfl
 ·obtain ⟨hck, j, rfl, hj, hnb⟩ := hcs
  obtain ⟨_, hle, _⟩ := chkC_all hck
  have hen := hn
  simp only [maxLen] at hen
  refine at_region <| s1 (y_loadA0 ti27 rfl rfl (cas_len hx)) rfl ?_
  refine at_op rfl (n_call false rfl (.cons (.pure pu) (.nil)) (Con.cast (cchk_ok c hx hn) (congrArg (fun b => A.i .i64 (errC b)) hck)) pu (.inl rfl) rfl ?_)
  refine s1 (y_p rfl) rfl ?_
  refine at_nil <| x_tn <| at_seq <| at_region <| s1 (y_p rfl) rfl <| s1 ((y_p rfl).v (v' := .b false) (rfl)) rfl ?_
  refine at_nil <| x_tn ?_
  refine at_else rfl ?_
  refine at_skip <| x_tn <| at_seq <| at_seq <| at_region <| s1 (y_p rfl) rfl <| s1 (y_p rfl) rfl <| s1 (y_p rfl) rfl ?_
  refine g_or 2 rfl rfl rfl rfl (fun hb16 => .step (y_p rfl) rfl rfl <| .step (y_p rfl) rfl rfl <| .done) rfl rfl ?_
  refine at_say 19 rfl (v' := .b false) (congrArg A.b (by simp; omega)) ?_
  refine at_nil <| x_tn ?_
  refine at_else rfl ?_
  refine at_skip <| x_tn <| at_seq <| at_seq <| at_region <| s1 (y_loadA0 ti27 rfl rfl (cas_len hx)) rfl <| s1 (y_p rfl) rfl ?_
  refine at_op rfl (n_call false rfl (.cons (.pure pu) (.cons (.pure pu) (.nil))) (cpassed_ok c j) pu (.inl rfl) rfl ?_)
  refine at_nil <| x_tn <| at_block ?_
  refine at_range [2, 4] [(0, _), (1, _), (2, _), (4, _), (5, _), (6, _), (9, _), (10, _), (11, _), (12, _), (14, _), (15, _), (16, _), (19, _), (20, _), (21, _), (22, _)] hI rfl ⟨rfl, ⟨rfl, ⟨rfl, ⟨rfl, ⟨rfl, ⟨rfl, ⟨rfl, ⟨rfl, ⟨rfl, ⟨rfl, ⟨rfl, ⟨rfl, ⟨rfl, ⟨rfl, ⟨rfl, ⟨rfl, ⟨rfl, trivial⟩⟩⟩⟩⟩⟩⟩⟩⟩⟩⟩⟩⟩⟩⟩⟩⟩ (by first | rfl | (simp [onlyE, refsE, refs, refsL, refsL_pul, refs_pu, memN]; done)) rfl Tryd.func64 rfl Tryd.ntmps64 (by kernel_rfl) (Nat.le_of_ble_eq_true rfl) fun w1 l1 D1 rc1 hR1 => ?_
  refine at_seq <| at_region <| s1 (y_fldf Tryd.underlying27 rfl ti25 (by decide) rfl rfl) rfl <| s1 (y_load ti25 rfl rfl (cas_F hx)) rfl <| s1 (y_len Tryd.underlying25 rfl rfl rfl) rfl <| s1 ((y_p rfl).v (v' := .i .i64 0) rfl) rfl ?_
  refine at_nil <| x_tn <| at_block ?_
  refine at_loop (ι := Nat) (fun i => [(0, yv l1), (1, .fp (casL c)), (2, .fp [nJ j]), (9, filsA c.F), (10, nJ c.F.length), (11, nJ i)]) (fun i => ⟨[(2, some (casL c)), (4, some ([.b (i % 2 == 1)]))]⟩) (fun i => i ≤ c.F.length ∧ ∀ t, t < i → hasAt c j t = true) (fun i => c.F.length - i) ?_ ?_
  ·exact at_ex (0) (⟨Nat.zero_le _, fun t ht => absurd ht (by omega)⟩) [(2, some 2), (4, some 4)] hR1.sub.ids rfl rfl ⟨⟨_, rfl, .pure trivial⟩, ⟨_, rfl, .pure pu⟩, ⟨_, rfl, .pure pu⟩, ⟨_, rfl, .pure pu⟩, ⟨_, rfl, .pure pu⟩, ⟨_, rfl, .pure pu⟩, trivial⟩ ⟨.inr ⟨_, _, rfl, rfl, .pure pul⟩, .inr ⟨_, _, rfl, rfl, .pure pul⟩, trivial⟩
  rintro i ⟨hi, hp⟩
  refine at_seq <| at_region <| s1 (y_p rfl) rfl ?_
  refine at_nil <| x_tn <| at_seq ?_
  refine at_cond rfl (fun hc12 => ?_) (fun hc12 => ?_)
  ·have h12 : i < c.F.length := by have := of_decide_eq_true hc12; omega
   obtain ⟨f, hf⟩ : ∃ f, c.F[i]? = some f := ⟨_, List.getElem?_eq_getElem h12⟩
   refine at_skip <| x_tn <| at_seq <| at_block <| at_seq <| at_region <| s1 (y_ixf i Tryd.underlying25 ti50 rfl rfl rfl (by omega) rfl) rfl <| s1 (y_loadA ti50 rfl rfl (flat_get hf) rfl) rfl ?_
   refine at_op rfl (n_alloc 1005 rfl ti50 rfl rfl ?_)
   refine at_op rfl (n_storeA ti50 rfl rfl rfl (by first | rfl | omega | (simp <;> omega) | (simp [*] <;> omega)) (by first | rfl | omega | (simp <;> omega) | (simp [*] <;> omega)) ?_)
   refine at_nil <| x_tn <| at_seq <| at_region <| s1 (y_fldf Tryd.underlying27 rfl ti23 (by decide) rfl rfl) rfl <| s1 (y_loadA ti23 rfl rfl (cas_x hx) (by simp [hx])) rfl <| s1 (y_loadA0 ti50 rfl rfl rfl) rfl <| s1 (y_load ti3 rfl rfl rfl) rfl ?_
   refine at_op rfl (n_call false rfl (.cons (.pure pu) (.cons (.pure pu) (.cons (.pure pu) (.nil)))) (Con.cast (fhas_ok c.x f.lv f.nb (j : Int) f.D hx) (has_at hck hf hj)) pu (.inl rfl) rfl ?_)
   refine s1 (y_p rfl) rfl <| s1 (y_p rfl) rfl <| s1 (y_p rfl) rfl <| s1 (y_p rfl) rfl <| s1 (y_p rfl) rfl ?_
   refine at_nil <| x_tn <| at_seq <| at_region <| s1 (y_p rfl) rfl <| s1 (y_p rfl) rfl <| s1 (y_p rfl) rfl ?_
   refine at_bc 25 rfl (fun hc25 => ?_) (fun hc25 => ?_)
   ·have h25 : hasAt c j i = false := by simpa using hc25
    have hps := passT_no h12 hp h25
    refine g0 rfl rfl rfl rfl <| g0 rfl rfl rfl rfl <| g0 rfl rfl rfl rfl <| g0 rfl rfl rfl rfl <| s1 (y_p rfl) rfl ?_
    refine at_nil <| x_tn ?_
    refine at_then rfl ?_
    refine at_ret <| x_br <| x_tr <| x_tr <| x_br ?_
    refine at_itret rfl hR1 hS ?_
    refine x_bn <| x_tn <| at_seq <| at_seq ?_
    refine at_sayO 4 (cs' := [.b (passT (hasAt c j) c.F.length % 2 == 1)]) rfl (by rw [hps]) ?_
    refine at_region <| s1 (y_fld Tryd.underlying27 rfl ti24 (by decide) rfl rfl) rfl <| s1 (y_load ti24 rfl rfl (cas_E hx)) rfl <| s1 (y_len Tryd.underlying24 rfl rfl rfl) rfl <| s1 ((y_p rfl).v (v' := .i .i64 0) rfl) rfl ?_
    refine at_nil <| x_tn <| at_block ?_
    refine at_loop (ι := Nat) (fun k => [(1, nJ j), (4, .p 4 0), (27, intsA c.E), (28, nJ c.E.length), (29, nJ k)]) (fun k => ⟨[(4, some ([.b ((passT (hasAt c j) c.F.length % 2 == 1) != inE (c.E.take k) j)]))]⟩) (fun k => k ≤ c.E.length) (fun k => c.E.length - k) ?_ ?_
    ·exact at_ex (0) (Nat.zero_le _) [(4, some 4)] hI rfl rfl ⟨⟨_, rfl, .pure pu⟩, ⟨_, rfl, .p rfl⟩, ⟨_, rfl, .pure pu⟩, ⟨_, rfl, .pure pu⟩, ⟨_, rfl, .pure pu⟩, trivial⟩ ⟨.inr ⟨_, _, rfl, rfl, .of (by rw [← exc_0]) (.pure pul)⟩, trivial⟩
    rintro k hk
    refine at_seq <| at_region <| s1 (y_p rfl) rfl ?_
    refine at_nil <| x_tn <| at_seq ?_
    refine at_cond rfl (fun hc30 => ?_) (fun hc30 => ?_)
    ·have h30 : k < c.E.length := by have := of_decide_eq_true hc30; omega
     obtain ⟨q, hq⟩ : ∃ q, c.E[k]? = some q := ⟨_, List.getElem?_eq_getElem h30⟩
     refine at_skip <| x_tn <| at_seq <| at_block <| at_seq <| at_region <| s1 (y_ixf k Tryd.underlying24 ti3 rfl rfl rfl (by omega) rfl) rfl <| s1 (y_load ti3 rfl rfl (getI4 hq)) rfl <| s1 (y_p rfl) rfl ?_
     refine at_nil <| x_tn <| at_seq <| at_region <| s1 (y_p rfl) rfl <| s1 (y_p rfl) rfl <| s1 (y_p rfl) rfl ?_
     refine at_nil <| x_tn ?_
     refine at_cond rfl (fun hc35 => ?_) (fun hc35 => ?_)
     ·have h35 : q = (j : Int) := by have := of_decide_eq_true hc35; omega
      refine at_region <| s1 (y_load ti4 rfl rfl rfl) rfl <| s1 (y_p rfl) rfl ?_
      refine at_op rfl (n_store1 ti4 rfl rfl rfl rfl (by first | rfl | omega | (simp <;> omega) | (simp [*] <;> omega)) rfl ?_)
      refine at_nil <| x_bn <| x_tn <| at_region <| s1 (addN _ 1 rfl rfl rfl rfl (by omega)) rfl <| s1 (y_p rfl) rfl ?_
      refine at_nil ?_
      exact at_end (k + 1) (by omega) (by omega) [(4, some 4)] hI rfl rfl ⟨⟨_, rfl, .pure pu⟩, ⟨_, rfl, .p rfl⟩, ⟨_, rfl, .pure pu⟩, ⟨_, rfl, .pure pu⟩, ⟨_, rfl, .pure pu⟩, trivial⟩ ⟨.inr ⟨_, _, rfl, rfl, .of (by rw [← exc_hit hle hq h35]; rfl) (.pure pul)⟩, trivial⟩
     ·have h35 : ¬ q = (j : Int) := by have := of_decide_eq_false hc35; omega
      refine at_skip <| x_bn <| x_tn <| at_region <| s1 (addN _ 1 rfl rfl rfl rfl (by omega)) rfl <| s1 (y_p rfl) rfl ?_
      refine at_nil ?_
      exact at_end (k + 1) (by omega) (by omega) [(4, some 4)] hI rfl rfl ⟨⟨_, rfl, .pure pu⟩, ⟨_, rfl, .p rfl⟩, ⟨_, rfl, .pure pu⟩, ⟨_, rfl, .pure pu⟩, ⟨_, rfl, .pure pu⟩, trivial⟩ ⟨.inr ⟨_, _, rfl, rfl, .of (by rw [← exc_miss hq h35]) (.pure pul)⟩, trivial⟩
    ·have h30 : k = c.E.length := by have := of_decide_eq_false hc30; omega
     subst h30
     refine at_exit <| x_te <| x_te <| x_be <| x_tn <| at_seq <| at_region <| s1 (y_load ti4 rfl rfl rfl) rfl ?_
     refine at_op rfl (n_store1 ti4 rfl rfl rfl rfl (by first | rfl | omega | (simp <;> omega) | (simp [*] <;> omega)) rfl ?_)
     refine s1 ((y_p rfl).v (v' := .i .i64 0) rfl) rfl ?_
     refine at_nil <| x_tn <| at_ret ?_
     refine at_resultM (rs := [.cell 4 4, .tmp 5]) rfl rfl rfl hS (dn := [D1]) rfl rfl (by simp) rfl (r_cell ti4 rfl rfl rfl (r_tmp rfl r_nil)) ?_
     show A.tu _ = _; rw [hasc_yes hck hnb, hasC, List.take_length]
   ·have h25 : hasAt c j i = true := by simpa using hc25
    refine g1 rfl rfl (y_p rfl) rfl <| g1 rfl rfl (y_loadA0 ti50 rfl rfl rfl) rfl ?_
    refine at_ung rfl rfl ?_
    refine at_yield [2, 4, 1005] [(0, _), (1, _), (2, _), (5, _), (6, _), (9, _), (10, _), (11, _), (12, _), (13, _), (14, _), (15, _), (16, _), (17, _), (18, _), (19, _), (20, _), (21, _), (22, _), (23, _), (24, _), (25, _), (26, _), (27, _)] hR1 hR1.sub.ids rfl ⟨rfl, ⟨rfl, ⟨rfl, ⟨rfl, ⟨rfl, ⟨rfl, ⟨rfl, ⟨rfl, ⟨rfl, ⟨rfl, ⟨rfl, ⟨rfl, ⟨rfl, ⟨rfl, ⟨rfl, ⟨rfl, ⟨rfl, ⟨rfl, ⟨rfl, ⟨rfl, ⟨rfl, ⟨rfl, ⟨rfl, ⟨rfl, trivial⟩⟩⟩⟩⟩⟩⟩⟩⟩⟩⟩⟩⟩⟩⟩⟩⟩⟩⟩⟩⟩⟩⟩⟩ (by first | rfl | (simp [onlyE, refsE, refs, refsL, refsL_pul, refs_pu, memN]; done)) rfl rfl rfl rfl rfl fun w2 tm2 hd2 => ?_
    refine at_skip ?_
    refine at_begin hd2 fun w3 hd3 => ?_
    refine at_block <| at_region <| s1 (y_load ti4 rfl rfl rfl) rfl <| s1 (y_p rfl) rfl ?_
    refine at_op rfl (n_store1 ti4 rfl rfl rfl rfl (by first | rfl | omega | (simp <;> omega) | (simp [*] <;> omega)) rfl ?_)
    refine at_nil <| x_bn ?_
    refine at_rend hR1 hd3 rfl ?_
    refine g1 rfl rfl (y_p rfl) rfl <| s1 (y_p rfl) rfl ?_
    refine at_nil <| x_tn ?_
    refine at_else rfl ?_
    refine at_skip <| x_bn <| x_tn <| at_region <| s1 (addN _ 1 rfl rfl rfl rfl (by omega)) rfl <| s1 (y_p rfl) rfl ?_
    refine at_nil ?_
    exact at_end (i + 1) (⟨by omega, all_next hp h25⟩) (by omega) [(2, some 2), (4, some 4)] hR1.sub.ids rfl rfl ⟨⟨_, rfl, .pure trivial⟩, ⟨_, rfl, .pure pu⟩, ⟨_, rfl, .pure pu⟩, ⟨_, rfl, .pure pu⟩, ⟨_, rfl, .pure pu⟩, ⟨_, rfl, .pure pu⟩, trivial⟩ ⟨.inr ⟨_, _, rfl, rfl, .pure pul⟩, .inr ⟨_, _, rfl, rfl, .of (by rw [← odd_next i]; rfl) (.pure pul)⟩, trivial⟩
  ·have h12 : i = c.F.length := by have := of_decide_eq_false hc12; omega
   subst h12
   have hps : passT (hasAt c j) c.F.length = c.F.length := passT_all hp
   refine at_exit <| x_te <| x_te <| x_be ?_
   refine at_itnil rfl hR1 hS ?_
   refine x_bn <| x_tn <| at_seq <| at_seq ?_
   refine at_sayO 4 (cs' := [.b (passT (hasAt c j) c.F.length % 2 == 1)]) rfl (by rw [hps]) ?_
   refine at_region <| s1 (y_fld Tryd.underlying27 rfl ti24 (by decide) rfl rfl) rfl <| s1 (y_load ti24 rfl rfl (cas_E hx)) rfl <| s1 (y_len Tryd.underlying24 rfl rfl rfl) rfl <| s1 ((y_p rfl).v (v' := .i .i64 0) rfl) rfl ?_
   refine at_nil <| x_tn <| at_block ?_
   refine at_loop (ι := Nat) (fun k => [(1, nJ j), (4, .p 4 0), (27, intsA c.E), (28, nJ c.E.length), (29, nJ k)]) (fun k => ⟨[(4, some ([.b ((passT (hasAt c j) c.F.length % 2 == 1) != inE (c.E.take k) j)]))]⟩) (fun k => k ≤ c.E.length) (fun k => c.E.length - k) ?_ ?_
   ·exact at_ex (0) (Nat.zero_le _) [(4, some 4)] hI rfl rfl ⟨⟨_, rfl, .pure pu⟩, ⟨_, rfl, .p rfl⟩, ⟨_, rfl, .pure pu⟩, ⟨_, rfl, .pure pu⟩, ⟨_, rfl, .pure pu⟩, trivial⟩ ⟨.inr ⟨_, _, rfl, rfl, .of (by rw [← exc_0]) (.pure pul)⟩, trivial⟩
   rintro k hk
   refine at_seq <| at_region <| s1 (y_p rfl) rfl ?_
   refine at_nil <| x_tn <| at_seq ?_
   refine at_cond rfl (fun hc30 => ?_) (fun hc30 => ?_)
   ·have h30 : k < c.E.length := by have := of_decide_eq_true hc30; omega
    obtain ⟨q, hq⟩ : ∃ q, c.E[k]? = some q := ⟨_, List.getElem?_eq_getElem h30⟩
    refine at_skip <| x_tn <| at_seq <| at_block <| at_seq <| at_region <| s1 (y_ixf k Tryd.underlying24 ti3 rfl rfl rfl (by omega) rfl) rfl <| s1 (y_load ti3 rfl rfl (getI4 hq)) rfl <| s1 (y_p rfl) rfl ?_
    refine at_nil <| x_tn <| at_seq <| at_region <| s1 (y_p rfl) rfl <| s1 (y_p rfl) rfl <| s1 (y_p rfl) rfl ?_
    refine at_nil <| x_tn ?_
    refine at_cond rfl (fun hc35 => ?_) (fun hc35 => ?_)
    ·have h35 : q = (j : Int) := by have := of_decide_eq_true hc35; omega
     refine at_region <| s1 (y_load ti4 rfl rfl rfl) rfl <| s1 (y_p rfl) rfl ?_
     refine at_op rfl (n_store1 ti4 rfl rfl rfl rfl (by first | rfl | omega | (simp <;> omega) | (simp [*] <;> omega)) rfl ?_)
     refine at_nil <| x_bn <| x_tn <| at_region <| s1 (addN _ 1 rfl rfl rfl rfl (by omega)) rfl <| s1 (y_p rfl) rfl ?_
     refine at_nil ?_
     exact at_end (k + 1) (by omega) (by omega) [(4, some 4)] hI rfl rfl ⟨⟨_, rfl, .pure pu⟩, ⟨_, rfl, .p rfl⟩, ⟨_, rfl, .pure pu⟩, ⟨_, rfl, .pure pu⟩, ⟨_, rfl, .pure pu⟩, trivial⟩ ⟨.inr ⟨_, _, rfl, rfl, .of (by rw [← exc_hit hle hq h35]; rfl) (.pure pul)⟩, trivial⟩
    ·have h35 : ¬ q = (j : Int) := by have := of_decide_eq_false hc35; omega
     refine at_skip <| x_bn <| x_tn <| at_region <| s1 (addN _ 1 rfl rfl rfl rfl (by omega)) rfl <| s1 (y_p rfl) rfl ?_
     refine at_nil ?_
     exact at_end (k + 1) (by omega) (by omega) [(4, some 4)] hI rfl rfl ⟨⟨_, rfl, .pure pu⟩, ⟨_, rfl, .p rfl⟩, ⟨_, rfl, .pure pu⟩, ⟨_, rfl, .pure pu⟩, ⟨_, rfl, .pure pu⟩, trivial⟩ ⟨.inr ⟨_, _, rfl, rfl, .of (by rw [← exc_miss hq h35]) (.pure pul)⟩, trivial⟩
   ·have h30 : k = c.E.length := by have := of_decide_eq_false hc30; omega
    subst h30
    refine at_exit <| x_te <| x_te <| x_be <| x_tn <| at_seq <| at_region <| s1 (y_load ti4 rfl rfl rfl) rfl ?_
    refine at_op rfl (n_store1 ti4 rfl rfl rfl rfl (by first | rfl | omega | (simp <;> omega) | (simp [*] <;> omega)) rfl ?_)
    refine s1 ((y_p rfl).v (v' := .i .i64 0) rfl) rfl ?_
    refine at_nil <| x_tn <| at_ret ?_
    refine at_resultM (rs := [.cell 4 4, .tmp 5]) rfl rfl rfl hS (dn := [D1]) rfl rfl (by simp) rfl (r_cell ti4 rfl rfl rfl (r_tmp rfl r_nil)) ?_
    show A.tu _ = _; rw [hasc_yes hck hnb, hasC, List.take_length]
end Go.Abs.D2
