/-
  The engine, the plain laws and the walks that the rows need, part 10. Conditions: none.
-/
import Derived.Test.YtahjdbnhgdaejaaDoorM9
import Derived.ProofKit
import Derived.Deep.Slices
import Derived.LaidMore
import Derived.OpenShut
import Derived.Lib.AppendZerosOnto
set_option linter.unusedVariables false
set_option linter.unusedSimpArgs false
set_option maxHeartbeats 1000000
set_option maxRecDepth 10000
-- AbsL
namespace Go.Abs
open Go Go.Eng
inductive D where
  | int (k : IntKind) | bool | str | sl (e : D) | arr (n : Nat) (e : D) | st (fs : List D)
  deriving Inhabited
mutual
def D.cells : D → Nat
  | .int _ => 1 | .bool => 1 | .str => 1 | .sl _ => 1
  | .arr n e => n * e.cells
  | .st fs => D.cellsL fs
def D.cellsL : List D → Nat
  | [] => 0
  | d :: ds => d.cells + D.cellsL ds
end
mutual
def Den : D → List A → Prop
  | .int k, aS => ∃ n, (Lit.int k n).wf = true ∧ aS = [.i k n]
  | .bool, aS => ∃ b, aS = [.b b]
  | .str, aS => ∃ l : List UInt8, l.length ≤ maxLen ∧ aS = [.s l]
  | .sl e, aS => ∃ ls : List (List A), (∀ x ∈ ls, Den e x) ∧ ls.length ≤ maxLen ∧ aS = [.fz ls.length ls.flatten]
  | .arr n e, aS => ∃ ls : List (List A), (∀ x ∈ ls, Den e x) ∧ ls.length = n ∧ aS = ls.flatten
  | .st fs, aS => DenL fs aS
def DenL : List D → List A → Prop
  | [], aS => aS = []
  | d :: ds, aS => ∃ x y, Den d x ∧ DenL ds y ∧ aS = x ++ y
end
def isInt (k : IntKind) : Option TypeDesc → Bool
  | some (.int j) => Nat.beq (knum j) (knum k)
  | _ => false
def isBool : Option TypeDesc → Bool
  | some .bool => true
  | _ => false
def isStr : Option TypeDesc → Bool
  | some .string => true
  | _ => false
mutual
def fitD (P : Program) : D → TypeId → Bool
  | .int k, t => isInt k (P.underlying t)
  | .bool, t => isBool (P.underlying t)
  | .str, t => isStr (P.underlying t)
  | .sl e, t => match P.underlying t with | some (.slice u) => fitD P e u && Nat.beq (P.cellsOf u) e.cells && Nat.blt 0 e.cells | _ => false
  | .arr n e, t => match P.underlying t with | some (.array m u) => Nat.beq m n && fitD P e u && Nat.beq (P.cellsOf u) e.cells && Nat.beq (P.cellsOf t) (n * e.cells) | _ => false
  | .st ds, t => match P.underlying t with | some (.struct fs) => fitL P ds fs.toList 0 && Nat.beq (P.cellsOf t) (D.cellsL ds) | _ => false
def fitL (P : Program) : List D → List Field → Nat → Bool
  | [], [], _ => true
  | d :: ds, f :: fs, o => Nat.beq f.offset o && Nat.beq (P.cellsOf f.type) d.cells && fitD P d f.type && fitL P ds fs (o + d.cells)
  | _, _, _ => false
end
theorem cell_spot {w : World} {a : Addr} {v : Value} (h : w.cell? a = some v) : a.spot = none := by
  unfold World.cell? at h
  split at h
  · split at h
    · cases h
    · rename_i hs; simpa using hs
  · cases h
theorem add_spot {a : Addr} (h : (a.add 0).spot = none) : a.spot = none := by
  simpa [Addr.add] using h
theorem add_plain {a : Addr} (h : a.spot = none) (i : Nat) : a.add i = ⟨a.block, a.off + i, none⟩ := by
  unfold Addr.add
  cases a
  simp at h
  subst h
  simp
def XW (w : World) : Xs := fun b o => ∃ v, w.cell? ⟨b, o, none⟩ = some v
theorem XW_lt {w : World} : ∀ b o, XW w b o → b < w.heap.size := by
  rintro b o ⟨v, h⟩
  unfold World.cell? at h
  split at h
  · rename_i c e q hb
    obtain ⟨hlt, _⟩ := Array.getElem?_eq_some_iff.1 hb
    exact hlt
  · cases h
section
variable {H : Type} {enc : TypeId × Value → H} {P : Program} {w : World} {base : Nat} {held : Bool}
theorem VM_app {X : Xs} : ∀ {cs ds : List A} {b o : Nat}, VM X w cs b o → VM X w ds b (o + cs.length) → VM X w (cs ++ ds) b o
  | [], ds, b, o, _, h => by simpa using h
  | c :: cs, ds, b, o, h, h' => by
    simp only [VM, List.cons_append] at h ⊢
    refine ⟨h.1, h.2.1, VM_app h.2.2 ?_⟩
    rw [show o + 1 + cs.length = o + (c :: cs).length by simp; omega]
    exact h'
theorem VM_cells {aS : List A} {cs : List Value} {b o : Nat} (hv : VS (XW w) w no aS cs) (h1 : ∀ x ∈ cs, x.oneCell' = true) (hc : ∀ i, i < cs.length → w.cell? ⟨b, o + i, none⟩ = cs[i]?) : VM (XW w) w aS b o := by
  refine VM_of fun j c hj => ?_
  obtain ⟨u, hu, hvu⟩ := VS_get hv hj
  have hlt := (List.getElem?_eq_some_iff.1 hu).1
  have hcell := hc j hlt
  rw [hu] at hcell
  exact ⟨⟨u, hcell⟩, u, hcell, hvu, h1 _ (List.mem_of_getElem? hu)⟩
theorem VM_rows {sz : Nat} {b : Nat} {W : Nat → List A} (hl : ∀ i, (W i).length = sz ∨ True) : ∀ (n o : Nat), (∀ i, i < n → (W i).length = sz ∧ VM (XW w) w (W i) b (o + i * sz)) → VM (XW w) w ((List.range n).map W).flatten b o
  | 0, o, _ => by simp [VM]
  | n + 1, o, h => by
    rw [List.range_succ, List.map_append, List.flatten_append]
    refine VM_app (VM_rows hl n o fun i hi => h i (by omega)) ?_
    have e : ((List.range n).map W).flatten.length = n * sz := by
      have : ∀ m, m ≤ n → ((List.range m).map W).flatten.length = m * sz := by
        intro m
        induction m with
        | zero => intro _; simp
        | succ m ih =>
          intro hm
          rw [List.range_succ, List.map_append, List.flatten_append, List.length_append, ih (by omega)]
          simp only [List.map_cons, List.map_nil, List.flatten_cons, List.flatten_nil, List.append_nil]
          rw [(h m (by omega)).1, Nat.succ_mul]
      exact this n (Nat.le_refl _)
    rw [e]
    simpa using (h n (by omega)).2
theorem isInt_ok {k : IntKind} {x : Option TypeDesc} (h : isInt k x = true) : x = some (.int k) := by
  unfold isInt at h
  split at h
  · rename_i j
    have : knum j = knum k := Nat.eq_of_beq_eq_true h
    have : j = k := by cases j <;> cases k <;> first | rfl | (simp [knum] at this)
    rw [this]
  · cases h
theorem isBool_ok {x : Option TypeDesc} (h : isBool x = true) : x = some .bool := by
  unfold isBool at h; split at h
  · rfl
  · cases h
theorem isStr_ok {x : Option TypeDesc} (h : isStr x = true) : x = some .string := by
  unfold isStr at h; split at h
  · rfl
  · cases h
theorem VS_flatten {X : Xs} {β : Bm} : ∀ {ls : List (List A)} {us : List (List Value)}, ls.length = us.length → (∀ (i : Nat) (l : List A) (u : List Value), ls[i]? = some l → us[i]? = some u → VS X w β l u) → VS X w β ls.flatten us.flatten
  | [], [], _, _ => VS_nil
  | l :: ls, u :: us, hl, h => VS_app (h 0 l u rfl rfl) (VS_flatten (by simpa using hl) fun i l u h1 h2 => h (i + 1) l u (by simpa using h1) (by simpa using h2))
theorem flat_parts {α : Type} {sz : Nat} : ∀ (n : Nat) (l : List α), l.length = n * sz → ((List.range n).map fun i => (l.drop (i * sz)).take sz).flatten = l
  | 0, l, h => by
    have : l = [] := List.eq_nil_of_length_eq_zero (by simpa using h)
    subst this; rfl
  | n + 1, l, h => by
    have hs : (n + 1) * sz = n * sz + sz := Nat.succ_mul n sz
    rw [List.range_succ, List.map_append, List.flatten_append]
    have e : ((List.range n).map fun i => (l.drop (i * sz)).take sz) = (List.range n).map fun i => ((l.take (n * sz)).drop (i * sz)).take sz := by
      refine List.map_congr_left fun i hi => ?_
      have hi' : i < n := by simpa using hi
      rw [List.drop_take, List.take_take]
      congr 1
      have : i * sz + sz ≤ n * sz := by rw [← Nat.succ_mul]; exact Nat.mul_le_mul_right sz hi'
      omega
    rw [e, flat_parts n (l.take (n * sz)) (by rw [List.length_take, h]; omega)]
    simp only [List.map_cons, List.map_nil, List.flatten_cons, List.flatten_nil, List.append_nil]
    rw [List.take_of_length_le (l := l.drop (n * sz)) (by rw [List.length_drop, h]; omega)]
    exact List.take_append_drop _ _
mutual
theorem Den_len : ∀ (d : D) (aS : List A), Den d aS → aS.length = d.cells
  | .int k, aS, h => by simp only [Den] at h; obtain ⟨n, _, rfl⟩ := h; rfl
  | .bool, aS, h => by simp only [Den] at h; obtain ⟨n, rfl⟩ := h; rfl
  | .str, aS, h => by simp only [Den] at h; obtain ⟨n, _, rfl⟩ := h; rfl
  | .sl e, aS, h => by simp only [Den] at h; obtain ⟨n, _, _, rfl⟩ := h; rfl
  | .arr n e, aS, h => by
    simp only [Den] at h
    obtain ⟨ls, h1, h2, rfl⟩ := h
    subst h2
    have : ∀ ls : List (List A), (∀ x ∈ ls, Den e x) → ls.flatten.length = ls.length * e.cells := by
      intro ls
      induction ls with
      | nil => intro _; simp
      | cons l ls ih =>
        intro h
        rw [List.flatten_cons, List.length_append, Den_len e l (h l (.head _)), ih fun x hx => h x (.tail _ hx), List.length_cons, Nat.succ_mul]; omega
    exact this ls h1
  | .st fs, aS, h => by simp only [Den] at h; exact DenL_len fs aS h
theorem DenL_len : ∀ (ds : List D) (aS : List A), DenL ds aS → aS.length = D.cellsL ds
  | [], aS, h => by simp only [DenL] at h; subst h; rfl
  | d :: ds, aS, h => by
    simp only [DenL] at h
    obtain ⟨x, y, h1, h2, rfl⟩ := h
    rw [List.length_append, Den_len d x h1, DenL_len ds y h2]; rfl
end
mutual
theorem open_D : ∀ (d : D) (t : TypeId) (fuel : Nat) (cs : List Value) (x : DataW H × List MemPlace), fitD P d t = true → DataW.trod enc P w base (fun _ => true) held fuel t cs = some x → ∃ aS, Den d aS ∧ VS (XW w) w no aS cs ∧ ∀ u ∈ cs, u.oneCell' = true
  | .int k, t, fuel, cs, x, hf, h => by
    obtain ⟨n, rfl, _, hw⟩ := DataW.trod_int (isInt_ok hf) h
    exact ⟨[.i k n], ⟨n, hw, rfl⟩, VS_cons (by simp [V]) VS_nil, by simp [Value.oneCell']⟩
  | .bool, t, fuel, cs, x, hf, h => by
    obtain ⟨b, rfl, _⟩ := DataW.trod_bool (isBool_ok hf) h
    exact ⟨[.b b], ⟨b, rfl⟩, VS_cons (by simp [V]) VS_nil, by simp [Value.oneCell']⟩
  | .str, t, fuel, cs, x, hf, h => by
    obtain ⟨s, rfl, _, hs⟩ := DataW.trod_string (isStr_ok hf) h
    exact ⟨[.s s.data.toList], ⟨_, by simpa using hs, rfl⟩, VS_cons (by simp [V]) VS_nil, by simp [Value.oneCell']⟩
  | .sl e, t, fuel, cs, x, hf, h => by
    simp only [fitD] at hf
    split at hf
    · rename_i u ht
      simp only [Bool.and_eq_true] at hf
      obtain ⟨⟨hf1, hf2⟩, hf3⟩ := hf
      have hsz : P.cellsOf u = e.cells := Nat.eq_of_beq_eq_true hf2
      have hpos : 0 < e.cells := Nat.lt_of_succ_le (by simpa [Nat.blt] using hf3)
      rcases Deep.open_slice ht h with ⟨rfl, _⟩ | ⟨a, len, cap, m, n, DD, Pl, rfl, _, hl, hm, hmm, _, hx⟩
      · refine ⟨[.fz 0 []], ⟨[], (fun x hx => by cases hx), Nat.zero_le _, rfl⟩, VS_cons ?_ VS_nil, by simp [Value.oneCell']⟩
        simp only [V]
        exact ⟨none, 0, rfl, Nat.le_refl _, Nat.zero_le _, fun _ => rfl, (fun h => absurd h (Nat.lt_irrefl _)), by simp [VM]⟩
      · simp only [if_true] at hmm
        subst hmm
        have hV : ∀ i, i < m → ∃ q : List A × List Value, (Den e q.1 ∧ VS (XW w) w no q.1 q.2 ∧ ∀ u ∈ q.2, u.oneCell' = true) ∧ w.cells? base (a.add (i * P.cellsOf u)) (P.cellsOf u) = some q.2 := fun i hi => by
          obtain ⟨cs', h1, h2⟩ := hx i hi
          obtain ⟨aS, g1, g2, g3⟩ := open_D e u n cs' _ hf1 h2
          exact ⟨(aS, cs'), ⟨g1, g2, g3⟩, h1⟩
        obtain ⟨W, hW⟩ := Deep.choose_lt (α := List A × List Value) (p := fun i q => (Den e q.1 ∧ VS (XW w) w no q.1 q.2 ∧ ∀ u ∈ q.2, u.oneCell' = true) ∧ w.cells? base (a.add (i * P.cellsOf u)) (P.cellsOf u) = some q.2) hV
        rw [hsz] at hW
        have hspot : 0 < m → a.spot = none := fun h0 => by
          obtain ⟨_, _, hc⟩ := World.cells?_some (hW 0 h0).2
          have hln : (W 0).2.length = e.cells := by rw [VS_len (hW 0 h0).1.2.1, Den_len e _ (hW 0 h0).1.1]
          have := hc 0 (by omega)
          rw [List.getElem?_eq_getElem (by omega)] at this
          have h1 := cell_spot this
          rw [Nat.zero_mul] at h1
          exact add_spot (add_spot h1)
        refine ⟨[.fz len ((List.range len).map fun i => (W i).1).flatten], ⟨(List.range len).map fun i => (W i).1, ?_, by simp; omega, by simp⟩, VS_cons ?_ VS_nil, by simp [Value.oneCell']⟩
        · intro x hx
          obtain ⟨i, hi, rfl⟩ := List.mem_map.1 hx
          exact (hW i (by have := List.mem_range.1 hi; omega)).1.1
        · simp only [V]
          refine ⟨some a, m, rfl, hl, hm, (fun h => by cases h), (fun h0 x hx => by cases hx; exact hspot h0), ?_⟩
          refine VM_rows (sz := e.cells) (W := fun i => (W i).1) (fun _ => .inr trivial) len _ fun i hi => ?_
          obtain ⟨⟨g1, g2, g3⟩, g4⟩ := hW i (by omega)
          obtain ⟨_, hlen, hc⟩ := World.cells?_some g4
          refine ⟨Den_len e _ g1, VM_cells g2 g3 fun k hk => ?_⟩
          have h2 := hc k (by omega)
          have hs := hspot (by omega)
          rw [add_plain hs, add_plain rfl] at h2
          exact h2
    · cases hf
  | .arr k e, t, fuel, cs, x, hf, h => by
    simp only [fitD] at hf
    split at hf
    · rename_i m u ht
      simp only [Bool.and_eq_true] at hf
      obtain ⟨⟨⟨hm, hf1⟩, hf2⟩, hf3⟩ := hf
      have hmk : m = k := Nat.eq_of_beq_eq_true hm
      subst hmk
      have hsz : P.cellsOf u = e.cells := Nat.eq_of_beq_eq_true hf2
      have hst : P.cellsOf t = m * e.cells := Nat.eq_of_beq_eq_true hf3
      obtain ⟨xs, n, _, _, hl, hxl, hx⟩ := DataW.trod_array ht h
      rw [hsz] at hx
      rw [hst] at hl
      have hV : ∀ i, i < m → ∃ aS : List A, Den e aS ∧ VS (XW w) w no aS ((cs.drop (i * e.cells)).take e.cells) ∧ ∀ u ∈ (cs.drop (i * e.cells)).take e.cells, u.oneCell' = true := fun i hi => by
        have := hx i hi
        rw [List.getElem?_eq_getElem (by omega)] at this
        exact open_D e u n _ _ hf1 this
      obtain ⟨W, hW⟩ := Deep.choose_lt (α := List A) (p := fun i aS => Den e aS ∧ VS (XW w) w no aS ((cs.drop (i * e.cells)).take e.cells) ∧ ∀ u ∈ (cs.drop (i * e.cells)).take e.cells, u.oneCell' = true) hV
      refine ⟨((List.range m).map W).flatten, ⟨(List.range m).map W, ?_, by simp, rfl⟩, ?_, ?_⟩
      · intro x hx
        obtain ⟨i, hi, rfl⟩ := List.mem_map.1 hx
        exact (hW i (List.mem_range.1 hi)).1
      · have e1 := flat_parts m cs hl
        rw [← e1]
        refine VS_flatten (by simp) fun i l u h1 h2 => ?_
        rw [List.getElem?_map] at h1 h2
        obtain ⟨j, hj, rfl⟩ := Option.map_eq_some_iff.1 h1
        rw [hj] at h2
        simp only [Option.map_some, Option.some.injEq] at h2
        subst h2
        exact (hW j (by have := List.mem_range.1 (List.mem_of_getElem? hj); omega)).2.1
      · intro u hu
        rw [← flat_parts m cs hl] at hu
        obtain ⟨l, hl', hu⟩ := List.mem_flatten.1 hu
        obtain ⟨i, hi, rfl⟩ := List.mem_map.1 hl'
        exact (hW i (List.mem_range.1 hi)).2.2 u hu
    · cases hf
  | .st ds, t, fuel, cs, x, hf, h => by
    simp only [fitD] at hf
    split at hf
    · rename_i fs ht
      simp only [Bool.and_eq_true] at hf
      have hst : P.cellsOf t = D.cellsL ds := Nat.eq_of_beq_eq_true hf.2
      obtain ⟨xs, n, _, _, hl, hxl, hx⟩ := DataW.trod_struct ht h
      obtain ⟨aS, g1, g2, g3⟩ := open_L ds fs.toList 0 n cs hf.1 (by rw [hl, hst]) (fun i f hi => by
        have hi' : fs[i]? = some f := by simpa using hi
        have := hx i f hi'
        have hlt : i < xs.length := by rw [hxl]; exact (Array.getElem?_eq_some_iff.1 hi').1
        rw [List.getElem?_eq_getElem hlt] at this
        exact ⟨_, by rw [Nat.sub_zero]; exact this⟩)
      exact ⟨aS, g1, g2, g3⟩
    · cases hf
theorem open_L : ∀ (ds : List D) (fs : List Field) (o n : Nat) (cs : List Value), fitL P ds fs o = true → cs.length = D.cellsL ds → (∀ (i : Nat) (f : Field), fs[i]? = some f → ∃ y : DataW H × List MemPlace, DataW.trod enc P w base (fun _ => true) held n f.type ((cs.drop (f.offset - o)).take (P.cellsOf f.type)) = some y) → ∃ aS, DenL ds aS ∧ VS (XW w) w no aS cs ∧ ∀ u ∈ cs, u.oneCell' = true
  | [], fs, o, n, cs, hf, hl, _ => by
    have : cs = [] := List.eq_nil_of_length_eq_zero hl
    subst this
    exact ⟨[], rfl, VS_nil, (fun u h => by cases h)⟩
  | d :: ds, [], o, n, cs, hf, hl, _ => by simp [fitL] at hf
  | d :: ds, f :: fs, o, n, cs, hf, hl, h => by
    simp only [fitL, Bool.and_eq_true] at hf
    obtain ⟨⟨⟨h1, h2⟩, h3⟩, h4⟩ := hf
    have e1 : f.offset = o := Nat.eq_of_beq_eq_true h1
    have e2 : P.cellsOf f.type = d.cells := Nat.eq_of_beq_eq_true h2
    have hl' : cs.length = d.cells + D.cellsL ds := hl
    obtain ⟨y, hy⟩ := h 0 f rfl
    rw [e1, e2, Nat.sub_self, List.drop_zero] at hy
    obtain ⟨aS, g1, g2, g3⟩ := open_D d f.type n _ y h3 hy
    have hfo := fitL_off ds fs (o + d.cells) h4
    obtain ⟨bs, k1, k2, k3⟩ := open_L ds fs (o + d.cells) n (cs.drop d.cells) h4 (by rw [List.length_drop]; omega) (fun i f' hi => by
      obtain ⟨y, hy⟩ := h (i + 1) f' (by simpa using hi)
      have hoff := hfo f' (List.mem_of_getElem? hi)
      refine ⟨y, ?_⟩
      rw [List.drop_drop, show d.cells + (f'.offset - (o + d.cells)) = f'.offset - o by omega]
      exact hy)
    refine ⟨aS ++ bs, ⟨aS, bs, g1, k1, rfl⟩, ?_, ?_⟩
    · have := VS_app g2 k2
      rwa [List.take_append_drop] at this
    · intro u hu
      rw [← List.take_append_drop d.cells cs] at hu
      exact (List.mem_append.1 hu).elim (g3 u) (k3 u)
theorem fitL_off : ∀ (ds : List D) (fs : List Field) (o : Nat), fitL P ds fs o = true → ∀ f ∈ fs, o ≤ f.offset
  | [], [], o, _, f, hm => by cases hm
  | [], _ :: _, o, h, f, hm => by simp [fitL] at h
  | _ :: _, [], o, h, f, hm => by cases hm
  | d :: ds, f' :: fs, o, h, f, hm => by
    simp only [fitL, Bool.and_eq_true] at h
    have e1 : f'.offset = o := Nat.eq_of_beq_eq_true h.1.1.1
    rcases List.mem_cons.1 hm with rfl | hm
    · omega
    · have := fitL_off ds fs (o + d.cells) h.2 f hm; omega
end
def argA : D → List A → A
  | .arr _ _, aS => .ag aS
  | .st _, aS => .ag aS
  | _, aS => aS.getD 0 un
theorem row_D {t : TypeId} {r : Reach} {b0 : Nat} {v : Value} {x : DataW H} {ps : List MemPlace} (d : D) (hf : fitD P d t = true) (hval : Value.okWide P w r b0 t v) (h : DataW.Trod enc P w base (fun _ => true) held t v x ps) : ∃ aS, Den d aS ∧ V (XW w) w no (argA d aS) v := by
  obtain ⟨fuel, hfu⟩ := h
  obtain ⟨aS, g1, g2, g3⟩ := open_D d t fuel _ _ hf hfu
  refine ⟨aS, g1, ?_⟩
  have agg : ∀ cs : Array Value, v = .agg cs → V (XW w) w no (.ag aS) v := by
    rintro cs rfl
    simp only [V]
    exact ⟨cs.toList, by simp, g2, g3⟩
  have scal : ∀ a, aS = [a] → v.cells = #[v] → V (XW w) w no (aS.getD 0 un) v := by
    rintro a rfl hv
    rw [hv] at g2
    simp only [VS] at g2
    obtain ⟨u, r, hu, hvu, rfl⟩ := g2
    simp only [List.cons.injEq, and_true] at hu
    subst hu
    exact hvu
  cases d with
  | int k =>
    obtain ⟨n, rfl⟩ := WideShapes.okWide_int (isInt_ok hf) hval
    simp only [Den] at g1
    obtain ⟨m, _, rfl⟩ := g1
    exact scal _ rfl rfl
  | bool =>
    obtain ⟨n, rfl⟩ := WideShapes.okWide_bool (isBool_ok hf) hval
    simp only [Den] at g1
    obtain ⟨m, rfl⟩ := g1
    exact scal _ rfl rfl
  | str =>
    obtain ⟨n, rfl⟩ := WideShapes.okWide_string (isStr_ok hf) hval
    simp only [Den] at g1
    obtain ⟨m, _, rfl⟩ := g1
    exact scal _ rfl rfl
  | sl e =>
    simp only [fitD] at hf
    split at hf
    · rename_i u ht
      obtain ⟨a, len, cap, rfl⟩ := WideShapes.okWide_slice ht hval
      simp only [Den] at g1
      obtain ⟨m, _, _, rfl⟩ := g1
      exact scal _ rfl rfl
    · cases hf
  | arr n e =>
    simp only [fitD] at hf
    split at hf
    · rename_i m u ht
      unfold Value.okWide at hval
      simp only [ht] at hval
      obtain ⟨cs, rfl, _, _⟩ := hval
      exact agg cs rfl
    · cases hf
  | st ds =>
    simp only [fitD] at hf
    split at hf
    · rename_i fs ht
      unfold Value.okWide at hval
      simp only [ht] at hval
      obtain ⟨cs, rfl, _, _⟩ := hval
      exact agg cs rfl
    · cases hf
theorem args_stay (hl : laidOutB P = true) {W W' : World} (hb : RowKit.Below W.heap.size W W') : ∀ (ts : List TypeId) (vs : List Value) (ds : List (DataW H)) (p : List MemPlace), (ts.all fun t => P.readableRec t && decide (t < P.types.size)) = true →
    DataW.TrodAll enc P W 0 (fun _ => true) true ts vs ds p → (∀ x ∈ p, x.block < W.heap.size) → DataW.TrodAll enc P W' 0 (fun b => decide (b < W.heap.size)) true ts vs ds p
  | [], vs, ds, p, _, h, _ => by
    obtain ⟨rfl, rfl, rfl⟩ := ChangeShapes.trodAll_nil h
    rfl
  | t :: ts, vs, ds, p, hall, h, hlt => by
    simp only [List.all_cons, Bool.and_eq_true, decide_eq_true_eq] at hall
    obtain ⟨v, vs', d, ds', a, b, rfl, rfl, rfl, h1, h2⟩ := ChangeShapes.trodAll_cons h
    exact ⟨a, b, RowKit.Below.trod hl hall.1.1 hall.1.2 h1 hb (fun x hx => hlt x (by simp [hx])), args_stay hl hb ts vs' ds' b hall.2 h2 (fun x hx => hlt x (by simp [hx])), rfl⟩
theorem con_true {f : FuncId} {aS : List A} {us : List Value} {W : World} (hc : Con P f aS (Ret (.b true))) (hg : GL (XW W) W) (hv : VS (XW W) W no aS us) :
    Calls P f us.toArray W fun e W' => e = .returned (.bool true) ∧ RowKit.Below W.heap.size W W' := by
  have h := hc W (XW W) no us (fun _ _ => rfl) XW_lt hg (fun id cs h => by cases h) (fun i j ci cj b M N _ h => by cases h) hv
  refine h.calls.mono fun e W' he => ?_
  obtain ⟨v, rfl, r, β', X', st', hr, _, _, hm, hV⟩ := he
  have : r = .b true := hr
  subst this
  simp only [V] at hV
  subst hV
  have kb := hm.below
  refine ⟨rfl, kb.os, kb.tape, kb.output, kb.size, fun k hk => kb.block k hk ?_⟩
  rintro ⟨id, cs, N, h, _⟩
  cases h
theorem arr_lits {t e : TypeId} {n : Nat} {k : IntKind} {fuel : Nat} {cs : List Value} {l : List Int} {p : List MemPlace} {sp : Nat → Bool} {enc : TypeId × Value → Unit} (ht : P.underlying t = some (.array n e)) (he : P.underlying e = some (.int k)) (hc : P.cellsOf e = 1) (hct : P.cellsOf t = n)
    (h : DataW.trod enc P w base sp held fuel t cs = some (.agg (l.map fun i => .lit (.int k i)), p)) : cs = l.map (.int k) := by
  obtain ⟨xs, m, _, hx, hl, hxl, hel⟩ := DataW.trod_array ht h
  simp only [Prod.mk.injEq, DataW.agg.injEq] at hx
  have hll : l.length = n := by have := congrArg List.length hx.1; simp at this; omega
  rw [hct] at hl
  refine List.ext_getElem (by simp; omega) fun i h1 h2 => ?_
  have hi : i < n := by omega
  have := hel i hi
  rw [hc, Nat.mul_one, List.drop_eq_getElem_cons h1, List.take_succ_cons, List.take_zero, List.getElem?_eq_getElem (by omega)] at this
  obtain ⟨q, e1, e2, _⟩ := DataW.trod_int he this
  simp only [List.cons.injEq, and_true] at e1
  rw [List.getElem_map, e1]
  have h3 := congrArg (fun z : List (DataW Unit) => z[i]?) hx.1
  simp only [List.getElem?_map] at h3
  rw [List.getElem?_eq_getElem (by simpa using h2), List.getElem?_eq_getElem (by omega), Option.map_some, Option.map_some, e2] at h3
  simp only [Option.some.injEq, DataW.lit.injEq, Lit.int.injEq, true_and] at h3
  rw [h3]
theorem den_map {α : Type} {e : D} {f : α → List A} {p : α → Prop} (h : ∀ x, Den e x → ∃ y, x = f y ∧ p y) : ∀ ls : List (List A), (∀ x ∈ ls, Den e x) → ∃ ys : List α, ls = ys.map f ∧ ∀ y ∈ ys, p y
  | [], _ => ⟨[], rfl, fun y hy => by cases hy⟩
  | x :: ls, hx => by
    obtain ⟨y, rfl, hy⟩ := h x (hx x (.head _))
    obtain ⟨ys, rfl, hys⟩ := den_map h ls fun z hz => hx z (.tail _ hz)
    exact ⟨y :: ys, rfl, fun z hz => (List.mem_cons.1 hz).elim (fun e => e ▸ hy) (hys z)⟩
theorem flat_sing {α : Type} (f : α → A) (l : List α) : (l.map fun x => [f x]).flatten = l.map f := by
  induction l with
  | nil => rfl
  | cons x l ih => simp [ih]
theorem den_u8 (aS : List A) (h : Den (.int .u8) aS) : ∃ b : UInt8, aS = [u8 b] ∧ True := by
  simp only [Den] at h
  obtain ⟨n, hw, rfl⟩ := h
  refine ⟨UInt8.ofNat n.toNat, ?_, trivial⟩
  simp only [Lit.wf, Bool.and_eq_true, decide_eq_true_eq] at hw
  have h1 : IntKind.u8.min = 0 := rfl
  have h2 : IntKind.u8.max = 255 := rfl
  rw [h1, h2] at hw
  have : ((UInt8.ofNat n.toNat).toNat : Int) = n := by
    rw [UInt8.toNat_ofNat', Nat.mod_eq_of_lt (by omega)]; omega
  rw [u8, this]
theorem den_int (aS : List A) (h : Den (.int .i64) aS) : ∃ n : Int, aS = [.i .i64 n] ∧ (-9223372036854775808 ≤ n ∧ n ≤ 9223372036854775807) := by
  simp only [Den] at h
  obtain ⟨n, hw, rfl⟩ := h
  simp only [Lit.wf, Bool.and_eq_true, decide_eq_true_eq] at hw
  have h1 : IntKind.i64.min = -9223372036854775808 := rfl
  have h2 : IntKind.i64.max = 9223372036854775807 := rfl
  rw [h1, h2] at hw
  exact ⟨n, rfl, hw⟩
theorem den_arr8 {n : Nat} (aS : List A) (h : Den (.arr n (.int .u8)) aS) : ∃ d : List UInt8, aS = d.map u8 ∧ d.length = n := by
  simp only [Den] at h
  obtain ⟨ls, h1, h2, rfl⟩ := h
  obtain ⟨ys, rfl, _⟩ := den_map den_u8 ls h1
  exact ⟨ys, flat_sing _ _, by simpa using h2⟩
theorem den_arrs8 {n : Nat} (aS : List A) (h : Den (.sl (.arr n (.int .u8))) aS) : ∃ L : List (List UInt8), aS = [.fz L.length (L.flatten.map u8)] ∧ L.length ≤ maxLen ∧ ∀ x ∈ L, x.length = n := by
  simp only [Den] at h
  obtain ⟨ls, h1, h2, rfl⟩ := h
  obtain ⟨ys, rfl, h3⟩ := den_map (f := fun d : List UInt8 => d.map u8) den_arr8 ls (fun x hx => by simp only [Den]; exact h1 x hx)
  exact ⟨ys, by rw [List.length_map, List.map_flatten], by simpa using h2, h3⟩
end
end Go.Abs
-- K6Q
namespace Go.Abs.D2
open Go Go.Eng Go.Abs
theorem ver_signed {x : List UInt8} {k i : Nat} (m : List UInt8) (hk : sizeK (k : Int)) (hi : i < k) : verK (rootD x k) k m i (signD (seedL x i) m) (path (kpubs x k) i) = true := by
  have h1 := climb_good (L := kpubs x k) (kpubs_get hi) (by rw [len_kpubs]; unfold sizeK at hk; omega)
  rw [len_kpubs] at h1
  have h2 := recD_sign (seedL x i) m
  refine ver_kt hk (by unfold atK; omega) h2.2 ?_
  rw [h2.1, rootD_yes hk, h1.1, h1.2]
  simp
theorem path_1 (x : List UInt8) : path (kpubs x 1) 0 = [] := path_one 0 (by simp)
abbrev twoD : List UInt8 := 2 :: List.replicate 31 0
theorem size1 : sizeK ((1 : Nat) : Int) := by decide
theorem sign_10 : signA oneD 1 0 twoD = .tu [leafA 0 (signD (seedL oneD 0) twoD) [], .i .i64 0] := (signA_yes (k := 1) (i := 0) size1 (by omega)).trans (by rw [path_1]; rfl)
theorem sign_44 : signA oneD 4 4 twoD = .tu [leafA 0 [] [], .i .i64 60] := signA_no (by decide)
theorem root_1 : rootA oneD 1 = .tu [.ag ((rootD oneD 1).map u8), .i .i64 0] := (rootA_eq ..).trans (by rw [decide_eq_true (show sizeK 1 by decide)]; rfl)
theorem root_0 : rootA oneD 0 = .tu [.ag (zD.map u8), .i .i64 60] := rootA_no (by decide)
theorem root_257 : rootA oneD 257 = .tu [.ag (zD.map u8), .i .i64 60] := rootA_no (by decide)
theorem ver_1 : verK (rootD oneD 1) 1 twoD 0 (signD (seedL oneD 0) twoD) [] = true := by
  have := ver_signed (x := oneD) (k := 1) (i := 0) twoD size1 (by omega)
  rw [path_1] at this; exact this
theorem ver_nilK (r : List UInt8) (n : Int) (m : List UInt8) : verK r n m 0 [] [] = false := ver_k3 (by decide)
theorem forg_1 : forgA oneD 1 [twoD] twoD 0 (signD (seedL oneD 0) twoD) [] = .tu [.i .i64 0, .i .i64 0] := (forg_ret (forg_own (by decide +kernel))).symm
theorem forg_2 : forgA oneD 1 [] twoD 0 (signD (seedL oneD 0) twoD) [] = .tu [.i .i64 2, .i .i64 0] := by
  refine (forg_ret (forg_hit (i := 0) ver_1 (by decide +kernel) (by decide +kernel) (by omega) ?_ (fun t h => absurd h (by omega)))).symm
  have hs := get_sign (seedL oneD 0) twoD (show 0 < 19 by omega)
  rw [bad_is (x := seedL oneD 0) (m := twoD) (by decide +kernel) hs]; simp
theorem forg_0 : forgA oneD 0 [] twoD 0 [] [] = .tu [.i .i64 0, .i .i64 0] := (forg_ret (forg_no (ver_k1 (by decide)))).symm
theorem tree_1 : tree (kpubs oneD 1) = rootD oneD 1 := (rootD_yes (k := 1) size1).symm
theorem D32_nil : D32 [] := fun y hy => by cases hy
theorem D32_one {q : List UInt8} (h : q.length = 32) : D32 [q] := D32.one h
theorem kp1_view : ((((pubD (seedL oneD 0)).map u8)).drop 0).take (1 * 32) = (kpubs oneD 1).flatten.map u8 := by
  refine view_eq (by rw [List.length_map]; exact len_keyD _) ?_
  simp [kpubs]
def atL (i : Nat) (m : List UInt8) : List (List UInt8) := List.replicate i zD ++ [m]
@[simp] theorem len_atL (i : Nat) (m : List UInt8) : (atL i m).length = i + 1 := by simp [atL]
theorem sgn_atL (i : Nat) (m : List UInt8) : sgnK (atL i m) i = m := by simp [sgnK, atL]
structure Lf where
  a : Int
  S : List (List UInt8)
  P : List (List UInt8)
theorem den_leaf (aS : List A) (h : Den (.st [.int .i64, .sl (.arr 32 (.int .u8)), .sl (.arr 32 (.int .u8))]) aS) : ∃ f : Lf, aS = [.i .i64 f.a, dgs f.S, dgs f.P] ∧ D32 f.S ∧ D32 f.P := by
  simp only [Den, DenL] at h
  obtain ⟨a, r, h1, ⟨b, r2, h2, ⟨c, r3, h3, rfl, rfl⟩, rfl⟩, rfl⟩ := h
  obtain ⟨n, rfl, _⟩ := den_int a (by simpa only [Den] using h1)
  obtain ⟨S, rfl, _, hS⟩ := den_arrs8 b (by simpa only [Den] using h2)
  obtain ⟨P, rfl, _, hP⟩ := den_arrs8 c (by simpa only [Den] using h3)
  exact ⟨⟨n, S, P⟩, rfl, hS, hP⟩
end Go.Abs.D2
-- C5S
namespace Go.Abs.D2
open Go Go.Eng Go.Abs
theorem dg_first (m : List UInt8) {k : Nat} (h : k < 16) : dg m k = dgt m k := by
  unfold dg
  rw [digits_eq, List.getD_eq_getElem?_getD, List.getElem?_append_left (by simpa using h)]
  unfold dl
  simp [h]
theorem dg_last (m : List UInt8) : dg m 16 = sumK m 16 / 16 % 4 ∧ dg m 17 = sumK m 16 / 4 % 4 ∧ dg m 18 = sumK m 16 % 4 := by
  have h : ∀ j, j < 3 → dg m (16 + j) = (tl4 (sumK m 16) 3).getD j 0 := fun j hj => by
    unfold dg
    rw [digits_eq, List.getD_eq_getElem?_getD, List.getD_eq_getElem?_getD, List.getElem?_append_right (by simp)]
    simp
  refine ⟨(h 0 (by omega)).trans ?_, (h 1 (by omega)).trans ?_, (h 2 (by omega)).trans ?_⟩ <;> simp [tl4]
theorem sum_digits (m : List UInt8) : 16 * dg m 16 + 4 * dg m 17 + dg m 18 = sumK m 16 := by
  obtain ⟨h1, h2, h3⟩ := dg_last m
  have := sumK_le m 16
  omega
theorem sum_anti (a b : List UInt8) : ∀ n, (∀ k, k < n → dgt a k ≤ dgt b k) → sumK b n ≤ sumK a n ∧ (sumK a n = sumK b n → ∀ k, k < n → dgt a k = dgt b k)
  | 0, _ => ⟨by rw [sumK_0, sumK_0]; exact Nat.le_refl _, fun _ k h => absurd h (by omega)⟩
  | n + 1, h => by
    obtain ⟨h1, h2⟩ := sum_anti a b n fun k hk => h k (by omega)
    have h3 := h n (by omega)
    have ha := dgt_lt a n
    have hb := dgt_lt b n
    rw [sumK_succ, sumK_succ]
    refine ⟨by omega, fun e k hk => ?_⟩
    rcases Nat.lt_succ_iff_lt_or_eq.1 hk with hk | hk
    · exact h2 (by omega) k hk
    · subst hk; omega
theorem dg_anti {a b : List UInt8} (h : ∀ k, k < 19 → dg a k ≤ dg b k) : ∀ k, k < 19 → dg a k = dg b k := by
  obtain ⟨h1, h2⟩ := sum_anti a b 16 fun k hk => by have := h k (by omega); rwa [dg_first a hk, dg_first b hk] at this
  have ea := sum_digits a
  have eb := sum_digits b
  have h16 := h 16 (by omega)
  have h17 := h 17 (by omega)
  have h18 := h 18 (by omega)
  have e : sumK a 16 = sumK b 16 := by omega
  intro k hk
  rcases Nat.lt_or_ge k 16 with hk' | hk'
  · rw [dg_first a hk', dg_first b hk']; exact h2 e k hk'
  · have : k = 16 ∨ k = 17 ∨ k = 18 := by omega
    rcases this with rfl | rfl | rfl
    · rw [(dg_last a).1, (dg_last b).1, e]
    · rw [(dg_last a).2.1, (dg_last b).2.1, e]
    · rw [(dg_last a).2.2, (dg_last b).2.2, e]
theorem four (a b : List UInt8) : a.getD 0 0 ≠ b.getD 0 0 ∨ (a.getD 0 0 = b.getD 0 0 ∧ a.getD 1 0 ≠ b.getD 1 0) ∨ (a.getD 0 0 = b.getD 0 0 ∧ a.getD 1 0 = b.getD 1 0 ∧ a.getD 2 0 ≠ b.getD 2 0) ∨ (a.getD 0 0 = b.getD 0 0 ∧ a.getD 1 0 = b.getD 1 0 ∧ a.getD 2 0 = b.getD 2 0) := by
  by_cases h0 : a.getD 0 0 = b.getD 0 0
  · by_cases h1 : a.getD 1 0 = b.getD 1 0
    · by_cases h2 : a.getD 2 0 = b.getD 2 0
      · exact .inr (.inr (.inr ⟨h0, h1, h2⟩))
      · exact .inr (.inr (.inl ⟨h0, h1, h2⟩))
    · exact .inr (.inl ⟨h0, h1⟩)
  · exact .inl h0
end Go.Abs.D2
-- K6R
namespace Go.Abs.D2
open Go Go.Eng Go.Abs
abbrev Stp := List UInt8 × List UInt8
abbrev tStep : List UInt8 := [115, 116, 101, 112]
abbrev tPub : List UInt8 := [112, 117, 98, 108, 105, 99]
abbrev tLeaf : List UInt8 := [108, 101, 97, 102]
abbrev tNode : List UInt8 := [110, 111, 100, 101]
def hitP (a b : Stp) : Bool := !(a.1 == []) && (a.1 == b.1 && (!(a.2 == b.2) && tagged a.1 a.2 == tagged b.1 b.2))
def collB (l m : List Stp) : Bool := (l.zip m).any fun p => hitP p.1 p.2
theorem hit_no {t x y : List UInt8} (ht : t ≠ []) (h : hitP (t, x) (t, y) = false) (he : tagged t x = tagged t y) : x = y := by
  unfold hitP at h
  simp only [he, beq_self_eq_true, Bool.true_and, Bool.and_true] at h
  have h1 : (t == ([] : List UInt8)) = false := beq_eq_false_iff_ne.2 ht
  rw [h1] at h
  simpa using h
theorem coll_app {a b c d : List Stp} (h : a.length = c.length) : collB (a ++ b) (c ++ d) = (collB a c || collB b d) := by
  unfold collB
  rw [List.zip_append h, List.any_append]
theorem coll_cons (x y : Stp) (a b : List Stp) : collB (x :: a) (y :: b) = (hitP x y || collB a b) := by simp [collB]
def chS (d : List UInt8) (f : Nat) : List Stp := List.replicate f ([], []) ++ (List.range (3 - f)).map fun j => (tStep, iterD j d)
theorem len_chS (d : List UInt8) {f : Nat} (h : f ≤ 3) : (chS d f).length = 3 := by simp [chS]; omega
theorem ch_back {d e : List UInt8} {f : Nat} (h : iterD (3 - f) d = iterD (3 - f) e) (hc : collB (chS d f) (chS e f) = false) : d = e := by
  unfold chS at hc
  rw [coll_app rfl] at hc
  simp only [Bool.or_eq_false_iff] at hc
  have hc := hc.2
  have key : ∀ n, collB ((List.range n).map fun j => (tStep, iterD j d)) ((List.range n).map fun j => (tStep, iterD j e)) = false → iterD n d = iterD n e → d = e := by
    intro n
    induction n with
    | zero => intro _ h; exact h
    | succ n ih =>
      intro h1 h2
      rw [List.range_succ, List.map_append, List.map_append, coll_app (by simp)] at h1
      simp only [Bool.or_eq_false_iff] at h1
      refine ih h1.1 (hit_no (t := tStep) (by decide) (by simpa [collB] using h1.2) ?_)
      rw [← stepD_eq, ← stepD_eq]; exact h2
  exact key _ hc h
def chainsS (S : List (List UInt8)) (m : List UInt8) (i : Nat) : List Stp := (List.range i).flatMap fun k => chS (S.getD k []) (dg m k)
theorem chainsS_succ (S : List (List UInt8)) (m : List UInt8) (i : Nat) : chainsS S m (i + 1) = chainsS S m i ++ chS (S.getD i []) (dg m i) := by simp [chainsS, List.range_succ]
theorem len_chainsS (S : List (List UInt8)) (m : List UInt8) : ∀ i, (chainsS S m i).length = 3 * i
  | 0 => rfl
  | i + 1 => by rw [chainsS_succ, List.length_append, len_chainsS S m i, len_chS _ (by have := dg_lt m i; omega)]; omega
theorem chains_back {S T : List (List UInt8)} {m : List UInt8} : ∀ i, (∀ k, k < i → iterD (3 - dg m k) (S.getD k []) = iterD (3 - dg m k) (T.getD k [])) → collB (chainsS S m i) (chainsS T m i) = false → ∀ k, k < i → S.getD k [] = T.getD k []
  | 0, _, _, k, hk => absurd hk (by omega)
  | i + 1, h, hc, k, hk => by
    rw [chainsS_succ, chainsS_succ, coll_app (by rw [len_chainsS, len_chainsS])] at hc
    simp only [Bool.or_eq_false_iff] at hc
    rcases Nat.lt_succ_iff_lt_or_eq.1 hk with hk | hk
    · exact chains_back i (fun k hk => h k (by omega)) hc.1 k hk
    · subst hk; exact ch_back (h k (by omega)) hc.2
def foldS : List Bool → List (List UInt8) → List UInt8 → List Stp
  | b :: bs, q :: ps, x => (tNode, if b then q ++ x else x ++ q) :: foldS bs ps (if b then nodeD q x else nodeD x q)
  | _, _, _ => []
theorem foldS_snoc : ∀ (bs : List Bool) (ps : List (List UInt8)) (b : Bool) (q x : List UInt8), bs.length = ps.length → foldS (bs ++ [b]) (ps ++ [q]) x = foldS bs ps x ++ [(tNode, if b then q ++ fold bs ps x else fold bs ps x ++ q)]
  | [], [], b, q, x, _ => by simp [foldS, fold]
  | c :: bs, r :: ps, b, q, x, h => by
    simp only [List.cons_append, foldS, fold]
    rw [foldS_snoc bs ps b q _ (by simpa using h)]
def clS (d : List UInt8) (i n : Nat) (p : List (List UInt8)) : List Stp := (tLeaf, d) :: foldS (rights i n).reverse p (leafD d)
theorem clS_one {d : List UInt8} {i n : Nat} {p : List (List UInt8)} (h : n ≤ 1) : clS d i n p = [(tLeaf, d)] := by
  unfold clS; rw [rights_one h]; simp [foldS]
theorem clS_left {d q : List UInt8} {i n : Nat} {p : List (List UInt8)} (h : 2 ≤ n) (hi : i < halfN n) (hl : p.length = (rights i (halfN n)).length) : clS d i n (p ++ [q]) = clS d i (halfN n) p ++ [(tNode, climb d i (halfN n) p ++ q)] := by
  unfold clS climb
  rw [rights_left h hi, List.reverse_cons, foldS_snoc _ _ _ _ _ (by simpa using hl.symm)]
  rfl
theorem clS_right {d q : List UInt8} {i n : Nat} {p : List (List UInt8)} (h : 2 ≤ n) (hi : ¬ i < halfN n) (hl : p.length = (rights (i - halfN n) (n - halfN n)).length) : clS d i n (p ++ [q]) = clS d (i - halfN n) (n - halfN n) p ++ [(tNode, q ++ climb d (i - halfN n) (n - halfN n) p)] := by
  unfold clS climb
  rw [rights_right h hi, List.reverse_cons, foldS_snoc _ _ _ _ _ (by simpa using hl.symm)]
  rfl
theorem fold_back : ∀ (bs : List Bool) (ps qs : List (List UInt8)) (x y : List UInt8), ps.length = bs.length → qs.length = bs.length → D32 ps → D32 qs → x.length = 32 → y.length = 32 → fold bs ps x = fold bs qs y → collB (foldS bs ps x) (foldS bs qs y) = false → x = y
  | [], [], [], x, y, _, _, _, _, _, _, h, _ => by simpa only [fold] using h
  | b :: bs, p :: ps, q :: qs, x, y, h1, h2, hp, hq, hx, hy, h, hc => by
    simp only [foldS, coll_cons, Bool.or_eq_false_iff] at hc
    simp only [fold] at h
    have hpl := hp p (.head _)
    have hql := hq q (.head _)
    have ih := fold_back bs ps qs _ _ (by simpa using h1) (by simpa using h2) (fun z hz => hp z (.tail _ hz)) (fun z hz => hq z (.tail _ hz)) (by split <;> simp [nodeD]) (by split <;> simp [nodeD]) h hc.2
    cases b with
    | true =>
      have := hit_no (t := tNode) (by decide) hc.1 (by simpa [nodeD] using ih)
      exact (List.append_inj (by simpa using this) (by omega)).2
    | false =>
      have := hit_no (t := tNode) (by decide) hc.1 (by simpa [nodeD] using ih)
      exact (List.append_inj (by simpa using this) (by omega)).1
theorem cl_back {d e : List UInt8} {i n : Nat} {p q : List (List UInt8)} (hp : p.length = (rights i n).length) (hq : q.length = (rights i n).length) (hP : D32 p) (hQ : D32 q) (h : climb d i n p = climb e i n q) (hc : collB (clS d i n p) (clS e i n q) = false) : d = e := by
  unfold clS at hc
  rw [coll_cons] at hc
  simp only [Bool.or_eq_false_iff] at hc
  have := fold_back _ _ _ _ _ (by simpa using hp) (by simpa using hq) hP hQ (by simp [leafD]) (by simp [leafD]) h hc.2
  exact hit_no (t := tLeaf) (by decide) hc.1 this
def wayS (S : List (List UInt8)) (m : List UInt8) (i n : Nat) (P : List (List UInt8)) : List Stp := chainsS S m 19 ++ (tPub, (recL m S 19).flatten) :: clS (keyD (recL m S 19)) i n P
theorem flat_inj : ∀ {L M : List (List UInt8)}, D32 L → D32 M → L.length = M.length → L.flatten = M.flatten → L = M
  | [], [], _, _, _, _ => rfl
  | a :: L, b :: M, hL, hM, hl, h => by
    simp only [List.flatten_cons] at h
    obtain ⟨h1, h2⟩ := List.append_inj h (by rw [hL a (.head _), hM b (.head _)])
    rw [h1, flat_inj (fun z hz => hL z (.tail _ hz)) (fun z hz => hM z (.tail _ hz)) (by simpa using hl) h2]
theorem way_back {S T P Q : List (List UInt8)} {m : List UInt8} {i n : Nat} (hS : D32 S) (hT : D32 T) (hSl : S.length = 19) (hTl : T.length = 19) (hP : D32 P) (hQ : D32 Q) (hp : P.length = (rights i n).length) (hq : Q.length = (rights i n).length)
    (h : climb (keyD (recL m S 19)) i n P = climb (keyD (recL m T 19)) i n Q) (hc : collB (wayS S m i n P) (wayS T m i n Q) = false) : ∀ k, k < 19 → S.getD k [] = T.getD k [] := by
  unfold wayS at hc
  rw [coll_app (by rw [len_chainsS, len_chainsS]), coll_cons] at hc
  simp only [Bool.or_eq_false_iff] at hc
  have hk := cl_back hp hq hP hQ h hc.2.2
  rw [keyD_eq, keyD_eq] at hk
  have hf := hit_no (t := tPub) (by decide) hc.2.1 hk
  have hr := flat_inj (D32_recL hS 19 (by omega)) (D32_recL hT 19 (by omega)) (by simp) hf
  refine chains_back 19 (fun k hk => ?_) hc.1
  have e : (recL m S 19)[k]? = (recL m T 19)[k]? := by rw [hr]
  unfold recL at e
  rw [List.getElem?_map, List.getElem?_map, List.getElem?_range hk] at e
  exact Option.some.inj e
theorem dig_less {m q : List UInt8} (h : (!(q == zD) && digits m == digits q) = false) : ∃ j, j < 19 ∧ dg m j < kdg q j := by
  refine Classical.byContradiction fun hn => ?_
  have hall : ∀ j, j < 19 → kdg q j ≤ dg m j := fun j hj => Nat.le_of_not_lt fun hlt => hn ⟨j, hj, hlt⟩
  cases hq : (q == zD) with
  | true =>
    have h3 : ∀ j, j < 19 → dg m j = 3 := fun j hj => by
      have := hall j hj
      unfold kdg at this
      rw [if_pos hq] at this
      have := dg_lt m j
      omega
    have e := sum_digits m
    rw [h3 16 (by omega), h3 17 (by omega), h3 18 (by omega)] at e
    have hz : sumK m 16 = 0 := by
      have key : ∀ n, n ≤ 16 → sumK m n = 0 := by
        intro n
        induction n with
        | zero => intro _; exact sumK_0 m
        | succ n ih =>
          intro hn
          rw [sumK_succ, ih (by omega), ← dg_first m (by omega), h3 n (by omega)]
      exact key 16 (Nat.le_refl _)
    omega
  | false =>
    rw [hq] at h
    have e := dg_anti (a := q) (b := m) fun k hk => by
      have := hall k hk
      unfold kdg at this
      rwa [if_neg (by rw [hq]; decide)] at this
    have hd : digits m = digits q := by
      apply List.ext_getElem?
      intro k
      by_cases hk : k < 19
      · have h1 : (digits m)[k]? = some (dg m k) := by unfold dg; rw [List.getD, List.getElem?_eq_getElem (by simpa using hk)]; rfl
        have h2 : (digits q)[k]? = some (dg q k) := by unfold dg; rw [List.getD, List.getElem?_eq_getElem (by simpa using hk)]; rfl
        rw [h1, h2, e k hk]
      · rw [List.getElem?_eq_none (by simp; omega), List.getElem?_eq_none (by simp; omega)]
    rw [hd] at h
    simp at h
theorem forged_collides {x : List UInt8} {k i : Nat} {m q : List UInt8} {S P : List (List UInt8)} (hS : D32 S) (hP : D32 P) (hk : sizeK (k : Int)) (hi : i < k) (hv : verK (rootD x k) k m i S P = true) (h2 : (!(q == zD) && digits m == digits q) = false) (hall : ∀ t, t < 19 → badK (seedL x i) m q S t = false) :
    collB (wayS S m i k P) (wayS (signD (seedL x i) m) m i k (path (kpubs x k) i)) = true := by
  cases hc : collB (wayS S m i k P) (wayS (signD (seedL x i) m) m i k (path (kpubs x k) i)) with
  | true => rfl
  | false =>
    exfalso
    obtain ⟨j, hj, hlt⟩ := dig_less h2
    obtain ⟨_, _, hr, he, hcl⟩ := ver_spec hv
    obtain ⟨_, _, hr2, he2, hcl2⟩ := ver_spec (ver_signed (x := x) m hk hi)
    have hSl := recE_len hr
    have hTl := recE_len hr2
    unfold climbE at he he2
    have f1 : fits (i : Int) k P.length := by
      by_cases h : fits (i : Int) k P.length
      · exact h
      · rw [if_neg h] at he; cases he
    have f2 : fits (i : Int) k (path (kpubs x k) i).length := by
      by_cases h : fits (i : Int) k (path (kpubs x k) i).length
      · exact h
      · rw [if_neg h] at he2; cases he2
    unfold climbD at hcl hcl2
    rw [if_pos f1, (rec_yes hSl).1] at hcl
    rw [if_pos f2, (rec_yes hTl).1] at hcl2
    have hp : P.length = (rights i k).length := by have := f1.2.2.2.2; simpa using this
    have hq : (path (kpubs x k) i).length = (rights i k).length := by have := f2.2.2.2.2; simpa using this
    have e := way_back hS (D32_signD _ _) hSl hTl hP (D32_path _ _ _ (Nat.le_refl _)) hp hq (by simpa using hcl.trans hcl2.symm) hc j hj
    have hb := hall j hj
    unfold badK at hb
    rw [decide_eq_true hlt, e] at hb
    have : (signD (seedL x i) m).getD j [] = iterD (dg m j) (firstD (seedL x i) j) := by
      unfold signD signL
      rw [List.getD, List.getElem?_map, List.getElem?_range hj]; rfl
    rw [this] at hb
    simp at hb
def stC (a : Stp) : List A := [.s a.1, .s a.2]
instance {l : List Stp} : IsPureL (l.flatMap stC) := ⟨PureL_mem.2 fun c hc => by
  obtain ⟨a, _, h⟩ := List.mem_flatMap.1 hc
  simp only [stC, List.mem_cons, List.not_mem_nil, or_false] at h
  rcases h with rfl | rfl <;> simp [Pure]⟩
instance {l : List Stp} : IsFlatL (l.flatMap stC) := ⟨FlatL_mem.2 fun c hc => by
  obtain ⟨a, _, h⟩ := List.mem_flatMap.1 hc
  simp only [stC, List.mem_cons, List.not_mem_nil, or_false] at h
  rcases h with rfl | rfl <;> simp [Flat]⟩
theorem len_stC : ∀ l : List Stp, (l.flatMap stC).length = l.length * 2
  | [] => rfl
  | a :: l => by rw [List.flatMap_cons, List.length_append, len_stC l]; simp [stC]; omega
theorem st_snoc (l : List Stp) (a : Stp) : l.flatMap stC ++ [.s a.1, .s a.2] = (l ++ [a]).flatMap stC := by simp [stC]
theorem st_drop {l : List Stp} {i : Nat} {a : Stp} (h : l[i]? = some a) : ∃ r, (l.flatMap stC).drop (i * 2) = .s a.1 :: .s a.2 :: r := by
  obtain ⟨u, v, rfl, hu⟩ : ∃ u v, l = u ++ a :: v ∧ u.length = i := by
    have hi := (List.getElem?_eq_some_iff.1 h).1
    have he := (List.getElem?_eq_some_iff.1 h).2
    exact ⟨l.take i, l.drop (i + 1), by rw [← he, ← List.drop_eq_getElem_cons hi, List.take_append_drop], by simp; omega⟩
  refine ⟨v.flatMap stC, ?_⟩
  rw [List.flatMap_append, List.flatMap_cons, ← hu, ← len_stC u, List.drop_left]
  rfl
theorem st_get0 {l : List Stp} {i : Nat} {a : Stp} (h : l[i]? = some a) : ((l.flatMap stC).drop (i * 2))[0]? = some (.s a.1) := by
  obtain ⟨r, hr⟩ := st_drop h
  rw [hr]; rfl
theorem st_get1 {l : List Stp} {i : Nat} {a : Stp} (h : l[i]? = some a) : (((l.flatMap stC).drop (i * 2)).drop 1)[0]? = some (.s a.2) := by
  obtain ⟨r, hr⟩ := st_drop h
  rw [hr]; rfl
theorem hit_ways (a b : Stp) : (a.1 = [] ∧ hitP a b = false) ∨ (a.1 ≠ [] ∧ a.1 ≠ b.1 ∧ hitP a b = false) ∨ (a.1 ≠ [] ∧ a.1 = b.1 ∧ a.2 = b.2 ∧ hitP a b = false) ∨ (a.1 ≠ [] ∧ a.1 = b.1 ∧ a.2 ≠ b.2 ∧ tagged a.1 a.2 ≠ tagged b.1 b.2 ∧ hitP a b = false) ∨ (a.1 ≠ [] ∧ a.1 = b.1 ∧ a.2 ≠ b.2 ∧ tagged a.1 a.2 = tagged b.1 b.2 ∧ hitP a b = true) := by
  unfold hitP
  by_cases h1 : a.1 = []
  · exact .inl ⟨h1, by rw [h1]; rfl⟩
  · have e1 : (a.1 == ([] : List UInt8)) = false := beq_eq_false_iff_ne.2 h1
    by_cases h2 : a.1 = b.1
    · by_cases h3 : a.2 = b.2
      · exact .inr (.inr (.inl ⟨h1, h2, h3, by simp [h3]⟩))
      · have e3 : (a.2 == b.2) = false := beq_eq_false_iff_ne.2 h3
        by_cases h4 : tagged a.1 a.2 = tagged b.1 b.2
        · exact .inr (.inr (.inr (.inr ⟨h1, h2, h3, h4, by rw [e1, e3, beq_iff_eq.2 h2, beq_iff_eq.2 h4]; rfl⟩)))
        · exact .inr (.inr (.inr (.inl ⟨h1, h2, h3, h4, by rw [beq_eq_false_iff_ne.2 h4]; simp⟩)))
    · exact .inr (.inl ⟨h1, h2, by rw [beq_eq_false_iff_ne.2 h2]; simp⟩)
theorem coll_next {l m : List Stp} {i : Nat} {a b : Stp} (ha : l[i]? = some a) (hb : m[i]? = some b) (h : ((l.zip m).take i).any (fun p => hitP p.1 p.2) = false) (hp : hitP a b = false) : ((l.zip m).take (i + 1)).any (fun p => hitP p.1 p.2) = false := by
  have hz : (l.zip m)[i]? = some (a, b) := by rw [List.getElem?_zip_eq_some]; exact ⟨ha, hb⟩
  rw [List.take_add_one, hz, List.any_append, h]; simp [hp]
theorem coll_yes {l m : List Stp} {i : Nat} {a b : Stp} (ha : l[i]? = some a) (hb : m[i]? = some b) (hp : hitP a b = true) : collB l m = true := by
  have hz : (l.zip m)[i]? = some (a, b) := by rw [List.getElem?_zip_eq_some]; exact ⟨ha, hb⟩
  unfold collB; rw [List.any_eq_true]; exact ⟨_, List.mem_of_getElem? hz, hp⟩
theorem coll_end {l m : List Stp} (hl : l.length = m.length) (h : ((l.zip m).take l.length).any (fun p => hitP p.1 p.2) = false) : collB l m = false := by
  rw [List.take_of_length_le (by simp [hl])] at h; exact h
theorem cut_32 {d : List UInt8} (hd : d.length = 32) : A.fz 32 (((d.map u8).drop (0 * 1)).take (32 * 1)) = .fz d.length (d.map u8) := by
  rw [Nat.zero_mul, List.drop_zero, List.take_of_length_le (by simp [hd]), hd]
theorem path_ways {i n : Nat} {P : List (List UInt8)} (h : P.length = (rights i n).length) : (P = [] ∧ n ≤ 1) ∨ ∃ p q, P = p ++ [q] ∧ 2 ≤ n := by
  rcases List.eq_nil_or_concat P with rfl | ⟨p, q, rfl⟩
  · refine .inl ⟨rfl, ?_⟩
    rcases Nat.lt_or_ge 1 n with h1 | h1
    · have := rights_pos (i := i) (n := n) h1
      simp at h; omega
    · exact h1
  · refine .inr ⟨p, q, by simp, ?_⟩
    rcases Nat.lt_or_ge 1 n with h1 | h1
    · exact h1
    · rw [rights_one h1] at h; simp at h
theorem len_foldS : ∀ (bs : List Bool) (ps : List (List UInt8)) (x : List UInt8), ps.length = bs.length → (foldS bs ps x).length = ps.length
  | [], [], _, _ => rfl
  | _ :: bs, _ :: ps, _, h => by simp only [foldS, List.length_cons]; rw [len_foldS bs ps _ (by simpa using h)]
theorem len_clS {d : List UInt8} {i n : Nat} {P : List (List UInt8)} (h : P.length = (rights i n).length) : (clS d i n P).length = P.length + 1 := by
  unfold clS; rw [List.length_cons, len_foldS _ _ _ (by simpa using h)]
theorem cut_path {p : List (List UInt8)} {z : List UInt8} (h : D32 p) : A.fz p.length ((((p ++ [z]).flatten.map u8).drop (0 * 32)).take (p.length * 32)) = dgs p := by
  have e : p.flatten.length = p.length * 32 := h.len
  rw [Nat.zero_mul, List.drop_zero, List.flatten_append, List.map_append, List.take_append_of_le_length (by rw [List.length_map, e]; exact Nat.le_refl _), List.take_of_length_le (by rw [List.length_map, e]; exact Nat.le_refl _)]
theorem chS_take (z : List UInt8) (f : Nat) (hf : f ≤ 3) : (chS z f).take 3 = chS z f := List.take_of_length_le (by rw [len_chS z hf]; exact Nat.le_refl _)
theorem ch_end {S : List (List UInt8)} {m z : List UInt8} {i : Nat} (hz : S[i]? = some z) : chainsS S m i ++ (chS z (dg m i)).take 3 = chainsS S m (i + 1) := by
  rw [chS_take z _ (by have := dg_lt m i; omega), chainsS_succ, List.getD, hz]; rfl
theorem len_chK {S : List (List UInt8)} {m z : List UInt8} (i : Nat) {k : Nat} (hk : k ≤ 3) : (chainsS S m i ++ (chS z (dg m i)).take k).length = 3 * i + k := by
  rw [List.length_append, len_chainsS, List.length_take, len_chS z (by have := dg_lt m i; omega)]; omega
theorem ch_get_lo {z : List UInt8} {f k : Nat} (h : k < f) : (chS z f)[k]? = some ([], []) := by
  unfold chS
  rw [List.getElem?_append_left (by simpa using h), List.getElem?_replicate, if_pos h]
theorem ch_get_hi {z : List UInt8} {f k : Nat} (h : ¬ k < f) (hk : k < 3) : (chS z f)[k]? = some (tStep, iterD (k - f) z) := by
  unfold chS
  rw [List.getElem?_append_right (by simp; omega), List.length_replicate, List.getElem?_map, List.getElem?_range (by omega)]; rfl
theorem ch_lo {S : List (List UInt8)} {m z : List UInt8} {i k : Nat} (h : k < dg m i) (_ : k < 3) : (chainsS S m i ++ (chS z (dg m i)).take k).flatMap stC ++ [.s [], .s []] = (chainsS S m i ++ (chS z (dg m i)).take (k + 1)).flatMap stC := by
  rw [List.take_add_one, ch_get_lo h, ← List.append_assoc]; exact st_snoc _ ([], [])
theorem ch_hi {S : List (List UInt8)} {m z : List UInt8} {i k : Nat} (h : ¬ k < dg m i) (hk : k < 3) : (chainsS S m i ++ (chS z (dg m i)).take k).flatMap stC ++ [.s tStep, .s (iterD (k - dg m i) z)] = (chainsS S m i ++ (chS z (dg m i)).take (k + 1)).flatMap stC := by
  rw [List.take_add_one, ch_get_hi h hk, ← List.append_assoc]; exact st_snoc _ (tStep, _)
theorem len_recF {S : List (List UInt8)} {m : List UInt8} (hS : D32 S) (hSl : S.length = 19) {i : Nat} (hi : i ≤ 19) : ((recL m S i).flatten.map u8).length = 32 * i := by
  have h := D32_recL (m := m) hS i (by omega)
  rw [List.length_map, h.len, len_recL]; omega
theorem rec_snoc {S : List (List UInt8)} {m z : List UInt8} {i : Nat} (hz : S[i]? = some z) : (recL m S i).flatten.map u8 ++ (iterD (3 - dg m i) z).map u8 = (recL m S (i + 1)).flatten.map u8 := by
  rw [recL_succ, List.getD, hz]; simp
theorem len_wayS {S P : List (List UInt8)} {m : List UInt8} {i n : Nat} (h : P.length = (rights i n).length) : (wayS S m i n P).length = 58 + (P.length + 1) := by
  unfold wayS; rw [List.length_append, len_chainsS, List.length_cons, len_clS h]; omega
end Go.Abs.D2
-- AbsR
namespace Go.Abs
open Go Go.Eng
end Go.Abs
-- AbsS
namespace Go.Abs
open Go Go.Eng
section
variable {P : Program} {w0 : Bw} {X0 : Xs} {n : Nat} {E : Ev} {st : St} {K : Act → World → Prop} {Q : Exit → Act → World → Prop}
theorem n_callHM {mk : Nat → A} (hmk : OneB mk) {d : Nat} (nx : Nat) (hfr : st.free nx = true) (s0 : St) (ow : Bool) {f : FuncId} {xs : List Operand} {vs vs' ds : List A} {ats : Array TypeId} {ty : TypeId} {pos aft' g} (hxs : evsA E xs = some vs) (hS : SubL st s0 ow s0.os) (hv : VwL st s0 ow vs vs')
    (hc : ConS P f vs' s0 (RetM mk ds)) (hp : PureL ds) (hf : ow = false ∨ FlatL ds) (hd : Nat.ble (d + 1) n = true) (h : At w0 X0 n ((d, mk nx) :: E) ((aft s0 st []).put nx ds) K) :
    At w0 X0 n E st (fun a w => (⟨some d, .call { callee := .value (.func f), args := xs.toArray, argTypes := ats }, ty, pos, aft', g⟩ : Oper).wp P a w K Q) := by
  rintro a w ⟨β, X, hr⟩
  have hss : ∀ id cs, s0.get id = some cs → st.get id = some cs := fun id cs h => (SubL_get hS h).1
  refine call_core (fs := []) (cs := []) hr rfl hxs hS (by simpa using hv) hc fun v w' ⟨r, β', X', st', hR, hsup, hsub, hm, hvv⟩ => ?_
  obtain ⟨id, rfl, hg⟩ := hR
  obtain ⟨m1, m2, m3, m4, m6⟩ := hm.after hr hss hsub hsup (upds := []) (fun p hp => by cases hp)
  have hnx := hr.mem.dom nx hfr
  have hfa : ∀ k, (aft s0 st []).free k = true → st.free k = true := fun k => (aft_get (s0 := s0) (st := st) (upds := [])).2
  have hga : ∀ k ck, (aft s0 st []).get k = some ck → s0.free k = true ∧ st.get k = some ck := fun k ck hk => by
    rcases (aft_get (s0 := s0) (st := st) (upds := [])).1 ck hk with h | h
    · cases h
    · exact h
  have ho := hm.obj id ds hg
  unfold OB at ho
  obtain ⟨⟨b, N, hβ⟩, hV⟩ := hmk _ _ _ _ _ hvv
  rw [hβ] at ho
  obtain ⟨o1, o2, us, rest, ety, o3, o4, o5, o6⟩ := ho
  have hown : w0.own b ∧ ∀ k ck q M, (aft s0 st []).get k = some ck → β k = some (.bk q M) → q ≠ b := by
    rcases o1 with h | ⟨id', cs', N', h1, h2⟩
    · have h : w.heap.size ≤ b := h
      refine ⟨Bw.own_new hr.mem.below h, fun k ck q M hk hq => ?_⟩
      have := m6 q M k ck (hga k ck hk).2 hq
      omega
    · obtain ⟨g3, g4⟩ := rst_some h2
      have ho' := hr.mem.obj id' cs' (hss id' cs' h1)
      unfold OB at ho'
      rw [g4] at ho'
      refine ⟨ho'.1, fun k ck q M hk hq e => ?_⟩
      subst e
      obtain ⟨k1, k2⟩ := hga k ck hk
      refine hr.mem.inj k id' ck cs' q M N' (fun e => ?_) k2 (hss id' cs' h1) hq g4
      subst e; rw [k1] at g3; cases g3
  have hnX : ∀ o, ¬ (X b o ∨ (X' b o ∧ (bw w (rst s0 β) s0 rst_none).own b)) := fun o h => by
    rcases h with h | ⟨h, _⟩
    · exact o2 o (hsup b o (.inl h))
    · exact o2 o h
  have hvs : VS (fun b o => X b o ∨ (X' b o ∧ (bw w (rst s0 β) s0 rst_none).own b)) w' (upd β nx (.bk b N)) ds us := by
    rcases hf with hf | hf
    · exact VS_mono (m4 hf) _ _ _ _ (ExtB.refl _) (VS_pure _ _ hp o5)
    · exact VS_flat _ _ hf o5
  have m5 : Mem w0 (upd β nx (.bk b N)) (fun b o => X b o ∨ (X' b o ∧ (bw w (rst s0 β) s0 rst_none).own b)) ((aft s0 st []).put nx ds) w' := by
    refine .of (m1.below) (fun k y h => (upd_ext hnx) k y (m1.b0 k y h)) (m1.xlt) (fun k h => ?_) (fun k es hk => ?_) (fun i j ci cj q M N' hij hi hj hbi hbj => ?_)
    · rw [St.free_put] at h
      split at h
      · cases h
      · rename_i hne
        rw [upd_ne (fun e => hne e.symm)]
        exact hr.mem.dom k (hfa k h)
    · rw [St.get_put] at hk
      split at hk
      · rename_i e; subst e
        simp only [Option.some.injEq] at hk
        subst hk
        unfold OB
        rw [upd_at]
        exact ⟨hown.1, hnX, us, rest, ety, o3, o4, hvs, o6⟩
      · refine (m1.obj k es hk).later (fun _ _ h => ⟨h, rfl⟩) (upd_ext hnx) fun q M hq => ⟨rfl, ?_⟩
        have hk' := m1.obj k es hk
        unfold OB at hk'
        rw [hq] at hk'
        exact hk'.2.1
    · rw [St.get_put] at hi hj
      by_cases ei : nx = i
      · by_cases ej : nx = j
        · omega
        · rw [if_neg ej] at hj
          rw [← ei, upd_at] at hbi
          rw [upd_ne (by omega)] at hbj
          simp only [Option.some.injEq, BL.bk.injEq] at hbi
          exact hown.2 j cj q N' hj hbj (by omega)
      · rw [if_neg ei] at hi
        rw [upd_ne (by omega)] at hbi
        by_cases ej : nx = j
        · rw [← ej, upd_at] at hbj
          simp only [Option.some.injEq, BL.bk.injEq] at hbj
          exact hown.2 i ci q M hi hbi (by omega)
        · rw [if_neg ej] at hj
          rw [upd_ne (by omega)] at hbj
          exact m1.inj i j ci cj q M N' hij hi hj hbi hbj
  exact h _ _ ⟨_, _, hr.putv hd m2 m3 (upd_ext hnx) m5 (hV _ _ _ _ (upd_at.trans hβ.symm))⟩
theorem oneB_tsl {s m : Nat} {r : A} (hm : 0 < m) (hr : Flat r) : OneB (fun i => .tu [.sl i s 0 m, r]) := by
  intro X w β i u h
  simp only [V, VS] at h
  obtain ⟨us, rfl, u1, r1, rfl, h1, u2, r2, rfl, h2, rfl⟩ := h
  rcases h1 with ⟨_, h, _⟩ | ⟨b, N, cap, h1, rfl, h3⟩
  · omega
  · refine ⟨⟨b, N, h1⟩, fun X' w' β' j hj => ?_⟩
    simp only [V, VS]
    exact ⟨_, rfl, _, _, rfl, .inr ⟨b, N, cap, hj.trans h1, rfl, h3⟩, _, [], rfl, V_flat _ _ hr h2, rfl⟩
end
end Go.Abs
namespace Go.Eng
end Go.Eng
namespace Go.Abs
open Go Go.Eng
end Go.Abs
namespace Go.Abs
open Go Go.Eng
end Go.Abs
-- AbsT
namespace Go.Abs
open Go Go.Eng
end Go.Abs
namespace Go.Abs
open Go Go.Eng
end Go.Abs
namespace Go.Abs
open Go Go.Eng
end Go.Abs
-- AbsU
namespace Go.Abs
open Go Go.Eng
section
variable {st stN : St}
mutual
theorem Vw_leS {s0 : St} (h : stle st stN) : ∀ {ow : Bool} {v v' : A}, Vw stN s0 ow v v' → Vw st s0 ow v v'
  | _, _, _, .pure hp => .pure hp
  | _, _, _, .nl => .nl
  | _, _, _, .sl hf hg hm hd hv hp => .sl hf (h _ _ hg) hm hd (VwL_leS h hv) hp
  | _, _, _, .kp hf => .kp hf
  | _, _, _, .ksl hf => .ksl hf
  | _, _, _, .ag hv => .ag (VwL_leS h hv)
  | _, _, _, .fn hv hv' => .fn (VwL_leS h hv) (VwL_leS h hv')
theorem VwL_leS {s0 : St} (h : stle st stN) : ∀ {ow : Bool} {v v' : List A}, VwL stN s0 ow v v' → VwL st s0 ow v v'
  | _, _, _, .nil => .nil
  | _, _, _, .cons hv hs => .cons (Vw_leS h hv) (VwL_leS h hs)
end
theorem SubL_le {s0 : St} {ow : Bool} (h : stle st stN) : ∀ {os : List (Nat × Option (List A))}, SubL stN s0 ow os → SubL st s0 ow os
  | [], _ => trivial
  | (_, none) :: r, hs => SubL_le h (os := r) hs
  | (_, some _) :: r, hs => ⟨⟨h _ _ hs.1.1, VwL_leS h hs.1.2⟩, SubL_le h (os := r) hs.2⟩
end
theorem chg_HK {d nx : Nat} {v : A} {deps u : List Nat} {need : List (Nat × Option Nat)} {ds : List A} {s0 st : St} {upds : List (Nat × List A)} : (⟨d, v, deps, s0.os.map (·.1), (nx, ds) :: upds, need, u⟩ : Stp).chg st = (aft s0 st upds).put nx ds := by
  unfold Stp.chg aft St.put
  simp [List.map_map, Function.comp_def]
section
variable {r : Option Nat} {ds0 : List Deferred} {P : Program} {w0 : Bw} {X0 : Xs} {N : Nat} {E0 : EV} {st0 : St} {Q : Exit → Act → World → Prop} {ops : Array Oper} {n g : Nat} {plan : List Stp} {E : Ev} {st : St} {rest : List Oper} {d : Nat} {ty : TypeId} {pos : String} {aft' : Array Edge} {gd : Option (Nat × Bool)}
theorem fs_callHM {mk : Nat → A} (hmk : OneB mk) {f : FuncId} {xs : List Operand} {vs vs' ds : List A} {ats : Array TypeId} (nx : Nat) (s0 : St) (ow : Bool) (k0 : Nat) (deps : List Nat) (need : List (Nat × Option Nat)) (hg : GuardYes ops (keepI (E0.at k0) deps k0 E) gd) (hxs : evsA (keepI (E0.at k0) deps k0 E) xs = some vs) (hS : SubL (nst plan st0 need) s0 ow s0.os) (hv : VwL (nst plan st0 need) s0 ow vs vs')
    (hc : ConS P f vs' s0 (RetM mk ds)) (hp : PureL ds) (hf : ow = false ∨ FlatL ds) (hb : Nat.ble (d + 1) N = true) (hd : depB k0 deps need = true) (h : FS r ds0 P w0 X0 N Q ops n g E0 st0 (plan ++ [⟨d, mk nx, deps, s0.os.map (·.1), [(nx, ds)], need, []⟩]) (k0 + 1) ((d, mk nx) :: E) ((aft s0 st []).put nx ds) rest) :
    FS r ds0 P w0 X0 N Q ops n g E0 st0 plan k0 E st (⟨some d, .call { callee := .value (.func f), args := xs.toArray, argTypes := ats }, ty, pos, aft', gd⟩ :: rest) :=
  fs_gen ⟨d, mk nx, deps, s0.os.map (·.1), [(nx, ds)], need, []⟩ (fun hk hE _ _ _ hD hs hfr hK => have he' := hD.fin hE hk; ob_gy hg he' (n_callHM hmk nx (hfr _ (.head _) rfl) s0 ow (evs_le he' hxs) (SubL_le hs hS) (VwL_leS hs hv) hc hp hf hb (chg_HK (upds := []) ▸ hK))) hd (chg_HK (upds := []) ▸ h)
end
theorem ConS.nl {P : Program} {f : FuncId} {i s : Nat} {vs : List A} {s0 : St} {R : A → St → Prop} (hi : s0.free i = true) (h : ConS P f (.sl i s 0 0 :: vs) (s0.put i []) R) : ConS P f (.nl :: vs) s0 R := by
  intro w X β us hd hX hgl ho hinj hv
  have hn := hd i hi
  simp only [VS] at hv
  obtain ⟨u, us, rfl, hu, hvs⟩ := hv
  have hext := upd_ext (x := BL.ph) hn
  have hd2 : ∀ id, (s0.put i []).free id = true → (upd β i .ph) id = none := fun id hf => by
    rw [St.free_put] at hf
    split at hf
    · cases hf
    · rename_i hne
      rw [upd_ne (fun e => hne e.symm)]
      exact hd id hf
  have hget : ∀ id cs, (s0.put i []).get id = some cs → (id = i ∧ cs = []) ∨ (id ≠ i ∧ s0.get id = some cs) := fun id cs hg => by
    rw [St.get_put] at hg
    split at hg
    · rename_i e; simp only [Option.some.injEq] at hg; exact .inl ⟨e.symm, hg.symm⟩
    · rename_i e; exact .inr ⟨fun h => e h.symm, hg⟩
  have hownM : ∀ b, (bw w (upd β i .ph) (s0.put i []) hd2).M b → (bw w β s0 hd).M b := fun b ⟨id, cs, N, h1, h2⟩ => by
    rcases hget id cs h1 with ⟨rfl, _⟩ | ⟨hne, h1⟩
    · rw [upd_at] at h2; cases h2
    · rw [upd_ne hne] at h2; exact ⟨id, cs, N, h1, h2⟩
  have hownM2 : ∀ b, (bw w β s0 hd).M b → (bw w (upd β i .ph) (s0.put i []) hd2).M b := fun b ⟨id, cs, N, h1, h2⟩ => by
    have hne : id ≠ i := fun e => by subst e; rw [hn] at h2; cases h2
    refine ⟨id, cs, N, ?_, ?_⟩
    · rw [St.get_put, if_neg (fun e => hne e.symm)]; exact h1
    · rw [upd_ne hne]; exact h2
  have hown : ∀ b, (bw w (upd β i .ph) (s0.put i []) hd2).own b → (bw w β s0 hd).own b := fun b => Or.imp_right (hownM b)
  have hown2 : ∀ b, (bw w β s0 hd).own b → (bw w (upd β i .ph) (s0.put i []) hd2).own b := fun b => Or.imp_right (hownM2 b)
  refine (h w X (upd β i .ph) (u :: us) hd2 hX hgl (fun id cs hg => ?_) (fun a b ca cb q M N hab ha hb ea eb => ?_) ?_).mono fun v w' hP => ?_
  · rcases hget id cs hg with ⟨rfl, rfl⟩ | ⟨hne, hg⟩
    · unfold OB; rw [upd_at]
    · have := ho id cs hg
      unfold OB at this ⊢
      rw [upd_ne hne]
      cases hb : β id with
      | none => rw [hb] at this; exact this
      | some y =>
        rw [hb] at this
        cases y with
        | ph => exact this
        | bk b N =>
          obtain ⟨q1, q2, us', rest, ty, q3, q4, q5, q6⟩ := this
          exact ⟨hown2 b q1, q2, us', rest, ty, q3, q4, VS_mono (fun _ _ h => ⟨h, rfl⟩) _ _ _ _ hext q5, q6⟩
  · rcases hget a ca ha with ⟨rfl, _⟩ | ⟨hna, ha⟩
    · rw [upd_at] at ea; cases ea
    · rcases hget b cb hb with ⟨rfl, _⟩ | ⟨hnb, hb⟩
      · rw [upd_at] at eb; cases eb
      · rw [upd_ne hna] at ea; rw [upd_ne hnb] at eb
        exact hinj a b ca cb q M N hab ha hb ea eb
  · simp only [VS]
    refine ⟨u, us, rfl, ?_, VS_mono (fun _ _ h => ⟨h, rfl⟩) _ _ _ _ hext hvs⟩
    simp only [V] at hu ⊢
    exact .inl ⟨upd_at, trivial, trivial, hu⟩
  · obtain ⟨r, β', X', st', h1, h2, h3, hm, hv⟩ := hP
    refine ⟨r, β', X', st', h1, h2, fun b o hx => (h3 b o hx).imp_right (hown b), ?_, hv⟩
    refine .of ⟨hm.below.os, hm.below.tape, hm.below.output, hm.below.size, fun k hk hM => hm.below.block k hk fun h => hM (hownM k h), fun s hs => by cases hs⟩ (fun k y hk => hm.b0 k y (hext k y hk)) hm.xlt hm.dom (fun id cs hg => ?_) hm.inj
    have := hm.obj id cs hg
    unfold OB at this ⊢
    split
    · rename_i e; rw [e] at this; exact this
    · rename_i e; rw [e] at this; exact this
    · rename_i b N e
      rw [e] at this
      exact ⟨hown b this.1, this.2⟩
end Go.Abs
