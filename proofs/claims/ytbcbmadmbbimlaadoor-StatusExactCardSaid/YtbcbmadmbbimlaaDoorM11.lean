/-
  The engine, the plain laws and the walks that the rows need, part 11. Conditions: none.
-/
import Derived.Test.YtbcbmadmbbimlaaDoorM10
import Derived.MapKept

/-! MapE -/
namespace Go.Eng
open Go Go.MapKept
/-- What a map with integers aS keys holds. -/
structure MapF (es : Array MapEntry) (clk : Nat) (f : Int → Option Value) : Prop where
  st : Stamped es clk
  ent : ∀ x ∈ es.toList, ∃ k, x.key = .int .i64 k ∧ f k = some x.val
  has : ∀ k v, f k = some v → ∃ x ∈ es.toList, x.key = .int .i64 k
def updF (f : Int → Option Value) (k : Int) (v : Value) : Int → Option Value := fun j => if j = k then some v else f j
theorem MapF.empty (clk : Nat) : MapF #[] clk (fun _ => none) := ⟨stamped_empty clk, (fun x hx => by simp at hx), (fun k v h => by cases h)⟩
theorem MapF.keys {es : Array MapEntry} {clk : Nat} {f : Int → Option Value} (h : MapF es clk f) : ∀ x ∈ es.toList, IsKey (.int .i64) x.key := fun x hx => by
  obtain ⟨k, e, _⟩ := h.ent x hx
  rw [e]; rfl
theorem MapF.push {es : Array MapEntry} {clk : Nat} {f : Int → Option Value} (h : MapF es clk f) {k : Int} {v : Value} (hn : ∀ x ∈ es.toList, x.key ≠ .int .i64 k) : MapF (es.push { key := .int .i64 k, val := v, born := clk }) (clk + 1) (updF f k v) := by
  refine ⟨stamped_push h.st hn, fun x hx => ?_, fun j u hj => ?_⟩
  · simp only [Array.toList_push, List.mem_append, List.mem_singleton] at hx
    rcases hx with hx | rfl
    · obtain ⟨j, e1, e2⟩ := h.ent x hx
      refine ⟨j, e1, ?_⟩
      unfold updF
      rw [if_neg (fun e => hn x hx (by rw [e1, e])), e2]
    · exact ⟨k, rfl, by unfold updF; rw [if_pos rfl]⟩
  · unfold updF at hj
    split at hj
    · rename_i e; subst e
      exact ⟨_, by simp only [Array.toList_push, List.mem_append, List.mem_singleton]; exact .inr rfl, rfl⟩
    · obtain ⟨x, hx, e⟩ := h.has j u hj
      exact ⟨x, by simp only [Array.toList_push, List.mem_append, List.mem_singleton]; exact .inl hx, e⟩
theorem MapF.modify {es : Array MapEntry} {clk : Nat} {f : Int → Option Value} (h : MapF es clk f) {k : Int} {v : Value} {j : Nat} {e : MapEntry} (hj : es[j]? = some e) (he : e.key = .int .i64 k) : MapF (es.modify j fun e => { e with key := .int .i64 k, val := v }) clk (updF f k v) := by
  have hkey : ∀ e', es[j]? = some e' → ({ e' with key := .int .i64 k, val := v } : MapEntry).key = e'.key := fun e' he' => by rw [hj] at he'; cases he'; exact he.symm
  have hget : ∀ i : Nat, (es.modify j fun e => { e with key := .int .i64 k, val := v })[i]? = if j = i then some { e with key := .int .i64 k, val := v } else es[i]? := fun i => by
    rw [Array.getElem?_modify]
    split
    · rename_i hji; subst hji; rw [hj]; rfl
    · rfl
  refine ⟨stamped_modify h.st _ _ (fun _ _ => rfl) (fun e' _ he' => hkey e' he'), fun x hx => ?_, fun i u hi => ?_⟩
  · obtain ⟨i, hi⟩ := List.mem_iff_getElem?.1 hx
    rw [Array.getElem?_toList, hget] at hi
    split at hi
    · simp only [Option.some.injEq] at hi
      subst hi
      exact ⟨k, rfl, by unfold updF; rw [if_pos rfl]⟩
    · rename_i hji
      obtain ⟨i', e1, e2⟩ := h.ent x (by rw [List.mem_iff_getElem?]; exact ⟨i, by rw [Array.getElem?_toList]; exact hi⟩)
      refine ⟨i', e1, ?_⟩
      unfold updF
      rw [if_neg ?_, e2]
      intro hk
      have hnd := h.st.2.2
      have g1 : (es.toList.map (·.key))[j]? = some (.int .i64 k) := by rw [List.getElem?_map, Array.getElem?_toList, hj]; simp [he]
      have g2 : (es.toList.map (·.key))[i]? = some (.int .i64 k) := by rw [List.getElem?_map, Array.getElem?_toList, hi]; simp [e1, hk]
      have hlt := (List.getElem?_eq_some_iff.1 g1).1
      exact hji ((List.getElem?_inj hlt hnd).1 (g1.trans g2.symm))
  · unfold updF at hi
    split at hi
    · rename_i e'; subst e'
      exact ⟨{ e with key := .int .i64 i, val := v }, by rw [List.mem_iff_getElem?]; exact ⟨j, by rw [Array.getElem?_toList, hget, if_pos rfl]⟩, rfl⟩
    · rename_i hne
      obtain ⟨x, hx, e1⟩ := h.has i u hi
      obtain ⟨q, hq⟩ := List.mem_iff_getElem?.1 hx
      rw [Array.getElem?_toList] at hq
      refine ⟨x, ?_, e1⟩
      rw [List.mem_iff_getElem?]
      refine ⟨q, ?_⟩
      rw [Array.getElem?_toList, hget, if_neg ?_, hq]
      intro hqj
      subst hqj
      rw [hj] at hq; cases hq
      rw [he] at e1
      simp only [Value.int.injEq, true_and] at e1
      exact hne e1.symm
section
variable {P : Program} {n : Nat} {E : Env} {S : List World} {H : List (Nat × Obj)} {Q : Exit → Act → World → Prop}
theorem n_makeMap {d : Nat} {t ty : TypeId} {pos aft g} {K : Act → World → Prop} (hd : Nat.ble (d + 1) n = true)
    (h : ∀ b, leAll S b → ltAll H b → At n ((d, .map (some b)) :: E) S ((b, .map #[] 0) :: H) K) :
    At n E S H (fun a w => (⟨some d, .makeMap t none, ty, pos, aft, g⟩ : Oper).wp P a w K Q) := by
  intro a w hR hG
  have hf := hG.fresh
  show Oper.wp P _ a w K Q
  unfold Oper.wp
  have : (execOp a.eval ⟨some d, .makeMap t none, ty, pos, aft, g⟩).run P w = .ok (.value (.map (some w.heap.size))) { w with heap := w.heap.push (.map #[] 0) } := by
    simp [execOp, Instr.makeMap]
  rw [this]
  exact h w.heap.size hf.1 hf.2 _ _ (hR.put hd _) (hG.alloc _)
theorem n_mapUpdate {t kt et ty : TypeId} {pos aft g} {x y z : Operand} {b clk : Nat} {es : Array MapEntry} {f : Int → Option Value} {k : Int} {v : Value} {K : Act → World → Prop} (i : Nat) (hm : P.underlying t = some (.map kt et)) (hk : P.underlying kt = some (.int .i64))
    (hx : ev E x = some (.map (some b))) (hy : ev E y = some (.int .i64 k)) (hz : ev E z = some v) (hi : H[i]? = some (b, .map es clk)) (hF : MapF es clk f)
    (h : ∀ es' clk', MapF es' clk' (updF f k v) → At n E S (H.set i (b, .map es' clk')) K) :
    At n E S H (fun a w => (⟨none, .mapUpdate t x y z, ty, pos, aft, g⟩ : Oper).wp P a w K Q) := by
  intro a w hR hG
  have hb := hG.own _ (List.mem_of_getElem? hi)
  simp only at hb
  have hkk : IsKey (.int .i64) (Value.int .i64 k) := rfl
  show Oper.wp P _ a w K Q
  unfold Oper.wp
  rcases findNow_spec hkk es.toList 0 hF.keys with ⟨h1, h2⟩ | ⟨j, e, h1, h2, h3⟩
  · have : (execOp a.eval ⟨none, .mapUpdate t x y z, ty, pos, aft, g⟩).run P w = .ok .skip { w with heap := w.heap.setIfInBounds b (.map (es.push { key := .int .i64 k, val := v, born := clk }) (clk + 1)) } := by
      simp [execOp, hR.ev hx, hR.ev hy, hR.ev hz, Instr.mapUpdate, run_underlying hm, MapKept.run_getObj_map hb, MapKept.run_checkKey hk hkk, MapKept.run_findKey hk h1, MapKept.run_setObj_map _ hb, Result.andThen]
    rw [this]
    exact h _ _ (hF.push h2) _ _ hR (hG.set i hi rfl rfl rfl (by simp) (heap_set hb).1 (fun q hq => (heap_set hb).2 q hq))
  · have hj : es[j]? = some e := by simpa using h2
    have : (execOp a.eval ⟨none, .mapUpdate t x y z, ty, pos, aft, g⟩).run P w = .ok .skip { w with heap := w.heap.setIfInBounds b (.map (es.modify j fun e => { e with key := .int .i64 k, val := v }) clk) } := by
      simp [execOp, hR.ev hx, hR.ev hy, hR.ev hz, Instr.mapUpdate, run_underlying hm, MapKept.run_getObj_map hb, MapKept.run_checkKey hk hkk, MapKept.run_findKey hk h1, hj, h3, MapKept.run_keyThatStays hkk, MapKept.run_setObj_map _ hb, Result.andThen]
    rw [this]
    exact h _ _ (hF.modify hj h3) _ _ hR (hG.set i hi rfl rfl rfl (by simp) (heap_set hb).1 (fun q hq => (heap_set hb).2 q hq))
theorem y_lookup {t kt et ty : TypeId} {x y : Operand} {b clk : Nat} {es : Array MapEntry} {f : Int → Option Value} {k : Int} {zv : Value} (i : Nat) (hm : P.underlying t = some (.map kt et)) (hk : P.underlying kt = some (.int .i64)) (hz0 : ∀ w, (zeroValue et).run P w = .ok zv w)
    (hx : ev E x = some (.map (some b))) (hy : ev E y = some (.int .i64 k)) (hi : H[i]? = some (b, .map es clk)) (hF : MapF es clk f) : YO P n E S H (.lookup t x y false) ty ((f k).getD zv) := by
  intro d pos aft g a w hR hG
  have hb := hG.own _ (List.mem_of_getElem? hi)
  simp only at hb
  have hkk : IsKey (.int .i64) (Value.int .i64 k) := rfl
  have hz := hz0 w
  rcases findNow_spec hkk es.toList 0 hF.keys with ⟨h1, h2⟩ | ⟨j, e, h1, h2, h3⟩
  · have hn : f k = none := by
      cases hf : f k with
      | none => rfl
      | some v => obtain ⟨q, hq, e⟩ := hF.has k v hf; exact absurd e (h2 q hq)
    rw [hn]
    simp [execOp, hR.ev hx, hR.ev hy, Instr.lookup, run_underlying hm, MapKept.run_getObj_map hb, MapKept.run_checkKey hk hkk, MapKept.run_findKey hk h1, hz, Result.andThen]
  · obtain ⟨q, e1, e2⟩ := hF.ent e (List.mem_of_getElem? h2)
    rw [h3] at e1
    simp only [Value.int.injEq, true_and] at e1
    subst e1
    rw [e2]
    simp [execOp, hR.ev hx, hR.ev hy, Instr.lookup, run_underlying hm, MapKept.run_getObj_map hb, MapKept.run_checkKey hk hkk, MapKept.run_findKey hk h1, Result.andThen]
end
/-- Integers that may be read from memory. -/
def RI (w : World) (a : Option Addr) (l : List Int) : Prop := ∀ i v, l[i]? = some v → a = some ⟨ab a, ao a, none⟩ ∧ w.cell? ⟨ab a, ao a + i, none⟩ = some (.int .i64 v)
def setF (L : List Int) : Int → Option Value := fun k => if k ∈ L then some (.bool true) else none
theorem setF_next {L : List Int} {i : Nat} {q : Int} (h : L[i]? = some q) : updF (setF (L.take i)) q (.bool true) = setF (L.take (i + 1)) := by
  funext k
  unfold updF setF
  rw [List.take_add_one, h]
  by_cases e : k = q
  · subst e; simp
  · simp [e]
theorem setF_look (L : List Int) (k : Int) : (setF L k).getD (.bool false) = .bool (decide (k ∈ L)) := by
  unfold setF
  by_cases h : k ∈ L
  · rw [if_pos h, decide_eq_true h]; rfl
  · rw [if_neg h, decide_eq_false h]; rfl
def disjB (a b : List Int) : Bool := b.all fun n => !decide (n ∈ a)
theorem disj_no {a b : List Int} {j : Nat} {q : Int} (h : b[j]? = some q) (hq : q ∈ a) : disjB a b = false := by
  unfold disjB
  rw [List.all_eq_false]
  exact ⟨q, List.mem_of_getElem? h, by simp [hq]⟩
theorem all_next2 {p : Int → Bool} {b : List Int} {j : Nat} {q : Int} (h : b[j]? = some q) (h0 : (b.take j).all p = true) (hq : p q = true) : (b.take (j + 1)).all p = true := by
  rw [List.take_add_one, h]; simp [h0, hq]
end Go.Eng
namespace Go.Eng
open Go
section
variable {P : Program} {n : Nat} {E : Env} {S : List World} {H : List (Nat × Obj)}
theorem y_max {x y : Operand} {a b : Int} {ats : Array TypeId} {ty : TypeId} (hx : ev E x = some (.int .i64 a)) (hy : ev E y = some (.int .i64 b)) : YO P n E S H (.call { callee := .builtin .max, args := #[x, y], argTypes := ats }) ty (.int .i64 (max a b)) := by
  intro d pos aft g a' w hR hG
  have e : (if b > a then b else a) = max a b := by omega
  simp [execOp, resolve, invoke, builtin, hR.ev hx, hR.ev hy, Builtin.max_, Builtin.max2]
  omega
theorem y_min {x y : Operand} {a b : Int} {ats : Array TypeId} {ty : TypeId} (hx : ev E x = some (.int .i64 a)) (hy : ev E y = some (.int .i64 b)) : YO P n E S H (.call { callee := .builtin .min, args := #[x, y], argTypes := ats }) ty (.int .i64 (min a b)) := by
  intro d pos aft g a' w hR hG
  simp [execOp, resolve, invoke, builtin, hR.ev hx, hR.ev hy, Builtin.min_, Builtin.min2]
  omega
end
end Go.Eng
namespace Go.Abs
open Go Go.Eng
section
variable {P : Program} {E : Ev} {st : St}
theorem y_maxN {x y : Operand} {a b c : Nat} {ats : Array TypeId} {ty : TypeId} (hx : ev E x = some (.i .i64 (a : Int))) (hy : ev E y = some (.i .i64 (b : Int))) (hc : max a b = c) : YO P E st (.call { callee := .builtin .max, args := #[x, y], argTypes := ats }) ty (.i .i64 (c : Int)) := by
  intro w0 X0 n β X w1 w hr
  subst hc
  obtain ⟨g1, g2⟩ := hr.evo hx
  obtain ⟨g3, g4⟩ := hr.evo hy
  rw [V_i] at g2 g4
  rw [g2] at g1; rw [g4] at g3
  exact ⟨.int .i64 ((max a b : Nat) : Int), by rw [V_i], hr.old fun w' _ => by have := Eng.y_max (P := P) (n := w1.tmps.size) (S := [w']) (H := []) (ats := ats) (ty := ty) g1 g3; rwa [show max (a : Int) (b : Int) = ((max a b : Nat) : Int) by omega] at this⟩
theorem y_minN {x y : Operand} {a b c : Nat} {ats : Array TypeId} {ty : TypeId} (hx : ev E x = some (.i .i64 (a : Int))) (hy : ev E y = some (.i .i64 (b : Int))) (hc : min a b = c) : YO P E st (.call { callee := .builtin .min, args := #[x, y], argTypes := ats }) ty (.i .i64 (c : Int)) := by
  intro w0 X0 n β X w1 w hr
  subst hc
  obtain ⟨g1, g2⟩ := hr.evo hx
  obtain ⟨g3, g4⟩ := hr.evo hy
  rw [V_i] at g2 g4
  rw [g2] at g1; rw [g4] at g3
  exact ⟨.int .i64 ((min a b : Nat) : Int), by rw [V_i], hr.old fun w' _ => by have := Eng.y_min (P := P) (n := w1.tmps.size) (S := [w']) (H := []) (ats := ats) (ty := ty) g1 g3; rwa [show min (a : Int) (b : Int) = ((min a b : Nat) : Int) by omega] at this⟩
end
end Go.Abs

/-! C4D -/
namespace Go.Abs.D2
open Go Go.Eng Go.Abs Go.Proofs 
end Go.Abs.D2
namespace Go.Eng
open Go Go.Eng Go.Proofs Go.Abs
theorem zero_bool (w : World) : (zeroValue 4).run Tryd.prog w = .ok (.bool false) w := by kernel_rfl
theorem offAll_of {w : World} {b blk clk : Nat} {es : Array MapEntry} (h : w.heap.size ≤ b) : offAll [(b, .map es clk)] w blk := ⟨.inr h, trivial⟩
set_option maxRecDepth 10000 in
set_option maxHeartbeats 1000000 in
theorem disj_raw (w : World) (a1 a2 : Option Addr) (c1 c2 : Nat) (l1 l2 : List Int) (h1 : RI w a1 l1) (h2 : RI w a2 l2) (hn1 : l1.length ≤ maxLen) (hn2 : l2.length ≤ maxLen) : Fn Tryd.prog 67 #[.slice a1 l1.length c1, .slice a2 l2.length c2] w (fun v w2 => v = .bool (disjB l1 l2) ∧ RowKit.Below w.heap.size w w2) := by
  simp only [maxLen] at hn1 hn2
  have hlt0 : True := trivial
  refine enter Tryd.func67 rfl Tryd.ntmps67 (by kernel_rfl) rfl ?_
  refine at_seq ?_
  refine at_region ?_
  refine s1 (y_p rfl) rfl <| ?_
  refine at_nil ?_
  refine x_tn ?_
  refine at_seq ?_
  refine at_region ?_
  refine at_op rfl (n_makeMap rfl fun b hbS hbH => ?_)
  have hlb : w.heap.size ≤ b := hbS.1
  refine s1 (y_p rfl) rfl <| ?_
  refine at_nil ?_
  refine x_tn ?_
  refine at_seq ?_
  refine at_seq ?_
  refine at_region ?_
  refine s1 (y_p rfl) rfl <| s1 (y_len Tryd.underlying25 rfl rfl) rfl <| s1 (y_p rfl) rfl <| ?_
  refine at_nil ?_
  refine x_tn ?_
  refine at_block ?_
  refine at_loop (ι := Nat × Array MapEntry × Nat) (fun ⟨i, es, clk⟩ => [(1, .slice a2 l2.length c2), (5, .map (some b)), (11, .slice a1 l1.length c1), (12, .int .i64 (l1.length : Nat)), (13, .int .i64 (i : Nat))]) (fun ⟨i, es, clk⟩ => [w]) (fun ⟨i, es, clk⟩ => [(b, .map es clk)]) (fun ⟨i, es, clk⟩ => i ≤ l1.length ∧ MapF es clk (setF (l1.take i))) (fun ⟨i, es, clk⟩ => l1.length - i) ?_ ?_
  · exact at_ex (0, #[], 0) ⟨Nat.zero_le _, MapF.empty 0⟩ ⟨rfl, rfl, rfl, rfl, rfl, trivial⟩ (fun _ h => h)
  rintro ⟨i, es, clk⟩ ⟨hi, hF⟩
  dsimp only
  refine at_seq ?_
  refine at_region ?_
  refine s1 (y_p rfl) rfl <| ?_
  refine at_nil ?_
  refine x_tn ?_
  refine at_seq ?_
  refine at_cond rfl (fun hc14 => ?_) (fun hc14 => ?_)
  · have h14 : i < l1.length := by have := of_decide_eq_true hc14; omega
    obtain ⟨q, hq⟩ : ∃ q, l1[i]? = some q := ⟨_, List.getElem?_eq_getElem h14⟩
    have hr := h1 i q hq
    refine at_skip ?_
    refine x_tn ?_
    refine at_seq ?_
    refine at_block ?_
    refine at_seq ?_
    refine at_region ?_
    refine s1 (y_idx1 i Tryd.underlying25 ti3 rfl rfl rfl (by omega) hr.1) rfl <| s1 (y_load ti3 rfl (fun w2 hG2 => hG2.cell' (.head _) hr.2 (offAll_of hlb))) rfl <| s1 (y_p rfl) rfl <| ?_
    refine at_nil ?_
    refine x_tn ?_
    refine at_region ?_
    refine s1 (y_p rfl) rfl <| s1 (y_p rfl) rfl <| ?_
    refine at_op rfl (n_mapUpdate 0 Tryd.underlying123 Tryd.underlying3 rfl rfl rfl rfl hF fun es2 clk2 hF2 => ?_)
    refine at_nil ?_
    refine x_bn ?_
    refine x_tn ?_
    refine at_region ?_
    refine s1 (addN i 1 rfl rfl rfl rfl (by omega)) rfl <| s1 (y_p rfl) rfl <| ?_
    refine at_nil ?_
    exact at_end (x := (i, es, clk)) (i + 1, es2, clk2) ⟨(show i + 1 ≤ l1.length from by omega), by rw [← setF_next hq]; exact hF2⟩ (show l1.length - (i + 1) < l1.length - i from by omega) ⟨rfl, rfl, rfl, rfl, rfl, trivial⟩ (fun _ h => h)
  · have h14 : i = l1.length := by have := of_decide_eq_false hc14; omega
    subst h14
    rw [List.take_length] at hF
    refine at_exit ?_
    refine x_te ?_
    refine x_te ?_
    refine x_be ?_
    refine x_tn ?_
    refine at_seq ?_
    refine at_seq ?_
    refine at_region ?_
    refine s1 (y_p rfl) rfl <| s1 (y_len Tryd.underlying25 rfl rfl) rfl <| s1 (y_p rfl) rfl <| ?_
    refine at_nil ?_
    refine x_tn ?_
    refine at_block ?_
    refine at_loop (ι := Nat) (fun j => [(5, .map (some b)), (20, .slice a2 l2.length c2), (21, .int .i64 (l2.length : Nat)), (22, .int .i64 (j : Nat))]) (fun j => [w]) (fun j => [(b, .map es clk)]) (fun j => j ≤ l2.length ∧ (l2.take j).all (fun n => !decide (n ∈ l1)) = true) (fun j => l2.length - j) ?_ ?_
    · exact at_ex 0 ⟨Nat.zero_le _, rfl⟩ ⟨rfl, rfl, rfl, rfl, trivial⟩ (fun _ h => h)
    rintro j ⟨hj, hall⟩
    refine at_seq ?_
    refine at_region ?_
    refine s1 (y_p rfl) rfl <| ?_
    refine at_nil ?_
    refine x_tn ?_
    refine at_seq ?_
    refine at_cond rfl (fun hc23 => ?_) (fun hc23 => ?_)
    · have h23 : j < l2.length := by have := of_decide_eq_true hc23; omega
      obtain ⟨q, hq⟩ : ∃ q, l2[j]? = some q := ⟨_, List.getElem?_eq_getElem h23⟩
      have hr := h2 j q hq
      refine at_skip ?_
      refine x_tn ?_
      refine at_seq ?_
      refine at_block ?_
      refine at_seq ?_
      refine at_region ?_
      refine s1 (y_idx1 j Tryd.underlying25 ti3 rfl rfl rfl (by omega) hr.1) rfl <| s1 (y_load ti3 rfl (fun w2 hG2 => hG2.cell' (.head _) hr.2 (offAll_of hlb))) rfl <| s1 (y_p rfl) rfl <| ?_
      refine at_nil ?_
      refine x_tn ?_
      refine at_seq ?_
      refine at_region ?_
      refine s1 (y_p rfl) rfl <| s1 (y_p rfl) rfl <| s1 ((y_lookup 0 Tryd.underlying123 Tryd.underlying3 zero_bool rfl rfl rfl hF).v (setF_look l1 q)) rfl <| ?_
      refine at_nil ?_
      refine x_tn ?_
      refine at_cond rfl (fun hc28 => ?_) (fun hc28 => ?_)
      · skip
        refine at_seq ?_
        refine at_region ?_
        refine s1 (y_p rfl) rfl <| ?_
        refine at_nil ?_
        refine x_tn ?_
        refine at_ret ?_
        refine x_br ?_
        refine x_tr ?_
        refine x_tr ?_
        refine x_br ?_
        refine x_tr ?_
        refine at_result (rs := [.tmp 4]) rfl (r_tmp rfl r_nil) fun w1 hG1 => ⟨congrArg Value.bool (disj_no hq (of_decide_eq_true hc28)).symm, hG1.below (.head _) (by intro p hp; rw [List.mem_singleton.1 hp]; exact hlb)⟩
      · skip
        refine at_skip ?_
        refine x_bn ?_
        refine x_tn ?_
        refine at_region ?_
        refine s1 (addN j 1 rfl rfl rfl rfl (by omega)) rfl <| s1 (y_p rfl) rfl <| ?_
        refine at_nil ?_
        exact at_end (x := j) (j + 1) ⟨(show j + 1 ≤ l2.length from by omega), all_next2 hq hall (by rw [hc28]; rfl)⟩ (show l2.length - (j + 1) < l2.length - j from by omega) ⟨rfl, rfl, rfl, rfl, trivial⟩ (fun _ h => h)
    · have h23 : j = l2.length := by have := of_decide_eq_false hc23; omega
      subst h23
      rw [List.take_length] at hall
      refine at_exit ?_
      refine x_te ?_
      refine x_te ?_
      refine x_be ?_
      refine x_tn ?_
      refine at_seq ?_
      refine at_region ?_
      refine s1 (y_p rfl) rfl <| ?_
      refine at_nil ?_
      refine x_tn ?_
      refine at_ret ?_
      refine at_result (rs := [.tmp 4]) rfl (r_tmp rfl r_nil) fun w1 hG1 => ⟨congrArg Value.bool hall.symm, hG1.below (.head _) (by intro p hp; rw [List.mem_singleton.1 hp]; exact hlb)⟩
end Go.Eng
namespace Go.Abs.D2
open Go Go.Eng Go.Abs Go.Proofs
theorem ri_of {X : Xs} {w : World} {a : Option Addr} {cap : Nat} {l : List Int} (h2 : l.length ≤ cap) (h4 : a = none → cap = 0) (h5 : 0 < cap → ∀ x, a = some x → x.spot = none) (h6 : VM X w (l.map (A.i .i64)) (ab a) (ao a)) : Go.Eng.RI w a l := fun i v hi => by
  have hlt := (List.getElem?_eq_some_iff.1 hi).1
  obtain ⟨_, u, e1, e2, _⟩ := VM_get h6 (j := i) (c := .i .i64 v) (by rw [List.getElem?_map, hi]; rfl)
  rw [V_i] at e2
  subst e2
  refine ⟨?_, e1⟩
  cases a with
  | none => exact absurd (h4 rfl) (by omega)
  | some x =>
    have := h5 (by omega) x rfl
    obtain ⟨b, o, s⟩ := x
    simp only at this
    subst this; rfl
theorem disjoint_ok (a b : List Int) (hn1 : a.length ≤ maxLen) (hn2 : b.length ≤ maxLen) : Con Tryd.prog 67 [.fz a.length (a.map (A.i .i64)), .fz b.length (b.map (A.i .i64))] (Ret (.b (Go.Eng.disjB a b))) := by
  intro w X β us hd hX hgl ho hi hv
  simp only [VS] at hv
  obtain ⟨u1, r1, rfl, v1, u2, r2, rfl, v2, rfl⟩ := hv
  simp only [V] at v1 v2
  obtain ⟨a1, c1, rfl, e2, e3, e4, e5, e6⟩ := v1
  obtain ⟨a2, c2, rfl, g2, g3, g4, g5, g6⟩ := v2
  refine Eng.Fn.mono (Go.Eng.disj_raw w a1 a2 c1 c2 a b (ri_of e2 e4 e5 e6) (ri_of g2 g4 g5 g6) hn1 hn2) fun v w' ⟨hv, hb⟩ => ?_
  subst hv
  refine ⟨.b (Go.Eng.disjB a b), β, X, ⟨[]⟩, rfl, fun _ _ h => h, fun _ _ h => .inl h, .of ⟨hb.os, hb.tape, hb.output, hb.size, fun k hk _ => hb.block k hk, fun s hs => by cases hs⟩ (ExtB.refl β) (fun q o h => Nat.lt_of_lt_of_le (hX q o h) hb.size) hd (fun id cs h => by cases h) (fun i j ci cj q M N _ h _ _ _ => by cases h), by simp only [V]⟩
end Go.Abs.D2

/-! C4R -/
namespace Go.Abs.D2
open Go Go.Eng Go.Abs
/-- Numbers added to a filter. -/
def addsI (x : List UInt8) (lv nb : Int) (D : List UInt8) (l : List Int) : List UInt8 := l.foldl (fun D id => stepF x lv nb D id) D
theorem addsI_next {x : List UInt8} {lv nb : Int} {D : List UInt8} {l : List Int} {i : Nat} {q : Int} (h : l[i]? = some q) : stepF x lv nb (addsI x lv nb D (l.take i)) q = addsI x lv nb D (l.take (i + 1)) := by
  unfold addsI; rw [List.take_add_one, h]; simp
theorem chk_addsI (x : List UInt8) (lv nb : Int) (l : List Int) : ∀ D, chkB lv nb (addsI x lv nb D l) = chkB lv nb D := by
  induction l with
  | nil => intro D; rfl
  | cons a l ih => intro D; show chkB lv nb (addsI x lv nb (stepF x lv nb D a) l) = _; rw [ih, chk_stepF]
theorem bit_step {x : List UInt8} {l n j : Nat} {D : List UInt8} (h : chkB l n D = true) (hj : j < 1024) (k : Nat) : bitA (stepF x l n D j) k = (bitA D k || (k == bN x l n j 0 || k == bN x l n j 1)) := by
  have hok := okB_eq h hj
  obtain ⟨l', n', e1, e2, _, h2, _, h4, _⟩ := chk_nat h
  unfold stepF
  rw [hok, if_pos rfl]
  have hn : n = n' := by omega
  subst hn
  exact bit_addD (by omega) h4 k
theorem bit_addsI {x : List UInt8} {l n : Nat} (L : List Int) : ∀ {D : List UInt8}, chkB l n D = true → (∀ q ∈ L, 0 ≤ q ∧ q < 1024) → ∀ k, bitA (addsI x l n D L) k = (bitA D k || L.any fun q => k == bN x l n q.toNat 0 || k == bN x l n q.toNat 1) := by
  induction L with
  | nil => intro D _ _ k; simp [addsI]
  | cons a L ih =>
    intro D h hL k
    obtain ⟨j, rfl⟩ : ∃ j : Nat, a = (j : Int) := ⟨a.toNat, by have := hL a (.head _); omega⟩
    have hj := hL _ (.head _)
    show bitA (addsI x l n (stepF x l n D j) L) k = _
    rw [ih (by rw [chk_stepF]; exact h) (fun q hq => hL q (.tail _ hq)), bit_step h (by omega), List.any_cons]
    simp [Bool.or_assoc]
theorem has_addsI {x : List UInt8} {l n j : Nat} {L : List Int} {D : List UInt8} (h : chkB l n D = true) (hL : ∀ q ∈ L, 0 ≤ q ∧ q < 1024) (hj : (j : Int) ∈ L) : hasD x l n j (addsI x l n D L) = true := by
  unfold hasD
  rw [bit_addsI L h hL, bit_addsI L h hL]
  have h0 : (L.any fun q => bN x l n j 0 == bN x l n q.toNat 0 || bN x l n j 0 == bN x l n q.toNat 1) = true := List.any_eq_true.2 ⟨_, hj, by simp⟩
  have h1 : (L.any fun q => bN x l n j 1 == bN x l n q.toNat 0 || bN x l n j 1 == bN x l n q.toNat 1) = true := List.any_eq_true.2 ⟨_, hj, by simp⟩
  rw [h0, h1]; simp
def nbOf (l : List Int) : Nat := min (max (4 * l.length) 8) 4096
theorem nbOf_ok (l : List Int) : 8 ≤ nbOf l ∧ nbOf l ≤ 4096 := by unfold nbOf; omega
def zeroD (n : Nat) : List UInt8 := List.replicate ((n + 7) / 8) 0
/-- The filter of a level. -/
def filO (x : List UInt8) (i : Nat) (a : List Int) : Fil := ⟨(i : Nat), (nbOf a : Nat), addsI x (i : Nat) (nbOf a : Nat) (zeroD (nbOf a)) a⟩
/-- The numbers of a list that a filter has. -/
def wrongL (x : List UInt8) (f : Fil) (b : List Int) : List Int := b.filter fun n => hasV x f.lv f.nb f.D n
/-- The filters, the numbers to add, those to try, after some rounds. -/
def bS (x : List UInt8) (p q : List Int) : Nat → List Fil × List Int × List Int
  | 0 => ([], p, q)
  | n + 1 => ((bS x p q n).1 ++ [filO x n (bS x p q n).2.1], wrongL x (filO x n (bS x p q n).2.1) (bS x p q n).2.2, (bS x p q n).2.1)
theorem len_bS (x : List UInt8) (p q : List Int) : ∀ n, (bS x p q n).1.length = n
  | 0 => rfl
  | n + 1 => by rw [bS, List.length_append, len_bS x p q n]; rfl
def goB (x : List UInt8) (p q : List Int) (n : Nat) : Bool := !(bS x p q n).2.1.isEmpty
theorem goB_no {x : List UInt8} {p q : List Int} {n : Nat} (h : goB x p q n = false) : (bS x p q n).2.1 = [] := by
  unfold goB at h
  simpa using h
theorem goB_yes {x : List UInt8} {p q : List Int} {n : Nat} (h : 0 < (bS x p q n).2.1.length) : goB x p q n = true := by
  unfold goB
  cases hl : (bS x p q n).2.1 with
  | nil => rw [hl] at h; simp at h
  | cons => rfl
@[irreducible] def endB (x : List UInt8) (p q : List Int) : Nat := passT (goB x p q) 16
theorem endB_eq (x : List UInt8) (p q : List Int) : endB x p q = passT (goB x p q) 16 := by unfold endB; rfl
def casB (x : List UInt8) (p q : List Int) : Cas := ⟨x, (bS x p q (endB x p q)).1, (bS x p q (endB x p q)).2.1⟩
def okB2 (p q : List Int) : Bool := listedB p && listedB q && disjB p q
theorem bS_sub (x : List UInt8) (p q : List Int) : ∀ n, (∀ v ∈ (bS x p q n).2.1, v ∈ p ∨ v ∈ q) ∧ ∀ v ∈ (bS x p q n).2.2, v ∈ p ∨ v ∈ q
  | 0 => ⟨fun _ h => .inl h, fun _ h => .inr h⟩
  | n + 1 => ⟨fun v h => (bS_sub x p q n).2 v ((List.mem_filter.1 h).1), fun v h => (bS_sub x p q n).1 v h⟩
theorem bS_num {x : List UInt8} {p q : List Int} (h : okB2 p q = true) (n : Nat) : (∀ v ∈ (bS x p q n).2.1, 0 ≤ v ∧ v < 1024) ∧ ∀ v ∈ (bS x p q n).2.2, 0 ≤ v ∧ v < 1024 := by
  unfold okB2 at h
  simp only [Bool.and_eq_true] at h
  have h1 := listed_mem h.1.1
  have h2 := listed_mem h.1.2
  obtain ⟨g1, g2⟩ := bS_sub x p q n
  exact ⟨fun v hv => (g1 v hv).elim (h1 v) (h2 v), fun v hv => (g2 v hv).elim (h1 v) (h2 v)⟩
/-- What a number that is in one of the lists goes through. -/
structure Lv (x : List UInt8) (p q : List Int) (j n : Nat) : Prop where
  a : (j : Int) ∈ (bS x p q n).2.1 → ((j : Int) ∈ p ↔ n % 2 = 0)
  b : (j : Int) ∈ (bS x p q n).2.2 → ((j : Int) ∈ p ↔ n % 2 = 1)
theorem lv_ok {x : List UInt8} {p q : List Int} {j : Nat} (hd : ∀ v : Int, v ∈ p → v ∈ q → False) : ∀ n, Lv x p q j n
  | 0 => ⟨fun h => ⟨fun _ => rfl, fun _ => h⟩, fun h => ⟨fun h2 => absurd h (fun h => hd _ h2 h), fun e => absurd e (by omega)⟩⟩
  | n + 1 => by
    have ih := lv_ok (x := x) (j := j) hd n
    refine ⟨fun h => ?_, fun h => ?_⟩
    · have := ih.b ((List.mem_filter.1 h).1)
      rw [this]; omega
    · have := ih.a h
      rw [this]; omega
theorem bS_nd {x : List UInt8} {p q : List Int} {j : Nat} (hd : ∀ v : Int, v ∈ p → v ∈ q → False) (n : Nat) : (j : Int) ∈ (bS x p q n).2.1 → (j : Int) ∈ (bS x p q n).2.2 → False := fun h1 h2 => by
  have h := lv_ok (x := x) (j := j) hd n
  have e1 := h.a h1
  have e2 := h.b h2
  rw [e1] at e2
  omega
theorem gone_next {x : List UInt8} {p q : List Int} {j n : Nat} (h1 : (j : Int) ∉ (bS x p q n).2.1) (h2 : (j : Int) ∉ (bS x p q n).2.2) : ∀ m, n ≤ m → (j : Int) ∉ (bS x p q m).2.1 ∧ (j : Int) ∉ (bS x p q m).2.2 := by
  intro m hm
  induction m with
  | zero => have : n = 0 := by omega
            subst this; exact ⟨h1, h2⟩
  | succ m ih =>
    rcases Nat.lt_or_ge n (m + 1) with h | h
    · obtain ⟨g1, g2⟩ := ih (by omega)
      exact ⟨fun h => g2 ((List.mem_filter.1 h).1), g1⟩
    · have : n = m + 1 := by omega
      subst this; exact ⟨h1, h2⟩
theorem chk_filO (x : List UInt8) (i : Nat) (a : List Int) (hi : i < 16) : chkB (i : Nat) (nbOf a : Nat) (addsI x (i : Nat) (nbOf a : Nat) (zeroD (nbOf a)) a) = true := by
  rw [chk_addsI]
  exact chk_zero (nat_sized hi (nbOf_ok a).1 (nbOf_ok a).2)
theorem bS_get (x : List UInt8) (p q : List Int) : ∀ n i, i < n → (bS x p q n).1[i]? = some (filO x i (bS x p q i).2.1)
  | 0, i, h => by omega
  | n + 1, i, h => by
    rw [bS]
    rcases Nat.lt_or_ge i n with h2 | h2
    · rw [List.getElem?_append_left (by rw [len_bS]; exact h2)]; exact bS_get x p q n i h2
    · have : i = n := by omega
      subst this
      rw [List.getElem?_append_right (by rw [len_bS]; omega), len_bS]; simp
theorem end_le (x : List UInt8) (p q : List Int) : endB x p q ≤ 16 := by rw [endB_eq]; exact passT_le _ _
/-- The level at which a number's filter says something. -/
theorem hasAt_bS {x : List UInt8} {p q : List Int} {j i : Nat} (h : i < endB x p q) : hasAt (casB x p q) j i = hasD x i (nbOf (bS x p q i).2.1) j (filO x i (bS x p q i).2.1).D :=
  hasAt_some (c := casB x p q) (f := filO x i (bS x p q i).2.1) (n := nbOf (bS x p q i).2.1) (bS_get x p q (endB x p q) i h) rfl
theorem hasV_filO {x : List UInt8} {i j : Nat} {a : List Int} (hi : i < 16) (hj : j < 1024) : hasV x (filO x i a).lv (filO x i a).nb (filO x i a).D j = hasD x i (nbOf a) j (filO x i a).D := by
  unfold hasV
  rw [show (filO x i a).lv = ((i : Nat) : Int) from rfl, show (filO x i a).nb = ((nbOf a : Nat) : Int) from rfl, show (filO x i a).D = addsI x (i : Nat) (nbOf a : Nat) (zeroD (nbOf a)) a from rfl, okB_eq (chk_filO x i a hi) hj]
  simp
theorem passT_at (p : Nat → Bool) : ∀ n, (passT p n = n ∧ ∀ t, t < n → p t = true) ∨ (passT p n < n ∧ (∀ t, t < passT p n → p t = true) ∧ p (passT p n) = false)
  | 0 => .inl ⟨rfl, fun t h => by omega⟩
  | n + 1 => by
    rcases passT_at p n with ⟨h1, h2⟩ | ⟨h1, h2, h3⟩
    · cases hp : p n with
      | true =>
        left
        have e : passT p (n + 1) = n + 1 := by unfold passT; rw [if_pos ⟨h1, hp⟩]
        exact ⟨e, fun t ht => (Nat.lt_or_ge t n).elim (h2 t) fun hg => by have : t = n := by omega
                                                                          subst this; exact hp⟩
      | false =>
        right
        have e : passT p (n + 1) = n := by unfold passT; rw [if_neg (by rw [hp]; simp), h1]
        rw [e]
        exact ⟨by omega, h2, hp⟩
    · right
      have e : passT p (n + 1) = passT p n := by rw [passT, if_neg (by omega)]
      rw [e]
      exact ⟨by omega, h2, h3⟩
/-- A cascade is exact for all numbers of both lists. -/
theorem exact_ok {x : List UInt8} {p q : List Int} (hok : okB2 p q = true) {j : Nat} (hj : j < 1024) (hpq : (j : Int) ∈ p ∨ (j : Int) ∈ q) : hasC (casB x p q) j = decide ((j : Int) ∈ p) := by
  have hd : ∀ v : Int, v ∈ p → v ∈ q → False := fun v h1 h2 => by
    unfold okB2 at hok
    simp only [Bool.and_eq_true] at hok
    have := hok.2
    unfold disjB at this
    have := List.all_eq_true.1 this v h2
    simp [h1] at this
  have hE := end_le x p q
  -- aS long aS all filters are passed the number is in one of the lists
  have stay : ∀ m, m ≤ endB x p q → (∀ t, t < m → hasAt (casB x p q) j t = true) → (j : Int) ∈ (bS x p q m).2.1 ∨ (j : Int) ∈ (bS x p q m).2.2 := by
    intro m
    induction m with
    | zero => intro _ _; exact hpq
    | succ m ih =>
      intro hm hall
      rcases ih (by omega) (fun t ht => hall t (by omega)) with h | h
      · exact .inr h
      · left
        have := hall m (by omega)
        rw [hasAt_bS (by omega)] at this
        rw [bS]
        exact List.mem_filter.2 ⟨h, by rw [hasV_filO (by omega) hj]; exact this⟩
  have stop : ∀ m, m < endB x p q → (∀ t, t < m → hasAt (casB x p q) j t = true) → hasAt (casB x p q) j m = false → (j : Int) ∈ (bS x p q m).2.2 ∧ inE (bS x p q (endB x p q)).2.1 j = false := by
    intro m hm hall hno
    have hna : (j : Int) ∉ (bS x p q m).2.1 := fun h => by
      rw [hasAt_bS hm] at hno
      have h2 := bS_num (x := x) hok m
      have := has_addsI (x := x) (l := m) (n := nbOf (bS x p q m).2.1) (D := zeroD (nbOf (bS x p q m).2.1)) (chk_zero (nat_sized (by omega) (nbOf_ok _).1 (nbOf_ok _).2)) h2.1 h
      rw [show (filO x m (bS x p q m).2.1).D = addsI x (m : Nat) (nbOf (bS x p q m).2.1 : Nat) (zeroD (nbOf (bS x p q m).2.1)) (bS x p q m).2.1 from rfl, this] at hno
      cases hno
    have hb : (j : Int) ∈ (bS x p q m).2.2 := (stay m (by omega) hall).elim (fun h => absurd h hna) id
    refine ⟨hb, ?_⟩
    have h1 : (j : Int) ∉ (bS x p q (m + 1)).2.1 := fun h => by
      rw [bS] at h
      have := (List.mem_filter.1 h).2
      rw [hasV_filO (by omega) hj, ← hasAt_bS hm, hno] at this
      cases this
    have h2 : (j : Int) ∉ (bS x p q (m + 1)).2.2 := hna
    have := (gone_next h1 h2 (endB x p q) (by omega)).1
    unfold inE
    rw [List.any_eq_false]
    intro v hv
    simp only [beq_iff_eq]
    intro e; subst e; exact this hv
  unfold hasC
  have hlen : (casB x p q).F.length = endB x p q := len_bS ..
  rw [hlen]
  show ((passT (hasAt (casB x p q) j) (endB x p q) % 2 == 1) != inE (bS x p q (endB x p q)).2.1 j) = _
  rcases passT_at (hasAt (casB x p q) j) (endB x p q) with ⟨h1, h2⟩ | ⟨h1, h2, h3⟩
  · rw [h1]
    have hin := stay _ (Nat.le_refl _) h2
    have hl := lv_ok (x := x) (j := j) hd (endB x p q)
    rcases hin with ha | hb
    · -- sixteen levels
      have h16 : endB x p q = 16 := by
        rcases passT_at (goB x p q) 16 with ⟨e, _⟩ | ⟨_, _, e⟩
        · exact (endB_eq x p q).trans e
        · rw [← endB_eq] at e
          rw [goB_no e] at ha
          cases ha
      have e1 := hl.a ha
      have hi : inE (bS x p q (endB x p q)).2.1 j = true := List.any_eq_true.2 ⟨_, ha, by simp⟩
      rw [hi, decide_eq_true (e1.2 (by omega))]
      rw [h16]; rfl
    · have hi : inE (bS x p q (endB x p q)).2.1 j = false := by
        unfold inE
        rw [List.any_eq_false]
        intro v hv
        simp only [beq_iff_eq]
        intro e; subst e
        exact bS_nd hd _ hv hb
      have e1 := hl.b hb
      rw [hi, Bool.bne_false]
      by_cases hp : (j : Int) ∈ p
      · rw [decide_eq_true hp, e1.1 hp]; rfl
      · rw [decide_eq_false hp]
        have h0 : ¬ (endB x p q % 2 = 1) := fun h => hp (e1.2 h)
        have : endB x p q % 2 = 0 := by omega
        rw [this]; rfl
  · obtain ⟨hb, hi⟩ := stop _ h1 h2 h3
    have e1 := (lv_ok (x := x) (j := j) hd _).b hb
    rw [hi, Bool.bne_false]
    by_cases hp : (j : Int) ∈ p
    · rw [decide_eq_true hp, e1.1 hp]; rfl
    · rw [decide_eq_false hp]
      have h0 : ¬ (passT (hasAt (casB x p q) j) (endB x p q) % 2 = 1) := fun h => hp (e1.2 h)
      have : passT (hasAt (casB x p q) j) (endB x p q) % 2 = 0 := by omega
      rw [this]; rfl
@[irreducible] def buildA (x : List UInt8) (p q : List Int) : A := if okB2 p q then .tu [.ag (casL (casB x p q)), .i .i64 0] else .tu [.ag (casL ⟨List.replicate 32 0, [], []⟩), .i .i64 340]
theorem build_no {x : List UInt8} {p q : List Int} (h : okB2 p q = false) : buildA x p q = .tu [.ag (casL ⟨List.replicate 32 0, [], []⟩), .i .i64 340] := by unfold buildA; rw [h]; rfl
theorem build_yes {x : List UInt8} {p q : List Int} (h : okB2 p q = true) : buildA x p q = .tu [.ag (casL (casB x p q)), .i .i64 0] := by unfold buildA; rw [h]; rfl
theorem ok2_cases (p q : List Int) : (listedB p = false ∧ okB2 p q = false) ∨ (listedB p = true ∧ listedB q = false ∧ okB2 p q = false) ∨ (listedB p = true ∧ listedB q = true ∧ disjB p q = false ∧ okB2 p q = false) ∨ (listedB p = true ∧ listedB q = true ∧ disjB p q = true ∧ okB2 p q = true) := by
  unfold okB2
  cases listedB p <;> cases listedB q <;> cases disjB p q <;> simp
theorem filt_next {l : List Int} {p : Int → Bool} {i : Nat} {q : Int} (h : l[i]? = some q) (hp : p q = true) : ((l.take i).filter p).map iA ++ [.i .i64 q] = ((l.take (i + 1)).filter p).map iA := by
  rw [List.take_add_one, h]; simp [hp]
theorem filt_miss {l : List Int} {p : Int → Bool} {i : Nat} {q : Int} (h : l[i]? = some q) (hp : p q = false) : (l.take i).filter p = (l.take (i + 1)).filter p := by
  rw [List.take_add_one, h]; simp [hp]
theorem bS_flat (x : List UInt8) (p q : List Int) (n : Nat) : ((bS x p q n).1).flatMap filC ++ filC (filO x n (bS x p q n).2.1) = ((bS x p q (n + 1)).1).flatMap filC := by
  rw [bS]; simp
theorem bS_len {x : List UInt8} {p q : List Int} (hp : p.length ≤ 100) (hq : q.length ≤ 100) : ∀ n, (bS x p q n).2.1.length ≤ 100 ∧ (bS x p q n).2.2.length ≤ 100
  | 0 => ⟨hp, hq⟩
  | n + 1 => ⟨Nat.le_trans (List.length_filter_le _ _) (bS_len hp hq n).2, (bS_len hp hq n).1⟩
theorem add_fil {x : List UInt8} {i : Nat} {a : List Int} {k : Nat} {q : Int} (hi : i < 16) (hq : a[k]? = some q) (h0 : 0 ≤ q ∧ q < 1024) : addA x (i : Nat) (nbOf a : Nat) (addsI x (i : Nat) (nbOf a : Nat) (zeroD (nbOf a)) (a.take k)) q = .tu [filA (i : Nat) (nbOf a : Nat) (addsI x (i : Nat) (nbOf a : Nat) (zeroD (nbOf a)) (a.take (k + 1))), .i .i64 0] := by
  obtain ⟨j, rfl⟩ : ∃ j : Nat, q = (j : Int) := ⟨q.toNat, by omega⟩
  have hc : chkB (i : Nat) (nbOf a : Nat) (addsI x (i : Nat) (nbOf a : Nat) (zeroD (nbOf a)) (a.take k)) = true := by
    rw [chk_addsI]; exact chk_zero (nat_sized hi (nbOf_ok a).1 (nbOf_ok a).2)
  rw [add_yes2 (okB_eq hc (by omega)), addsI_next hq]
theorem end_no {x : List UInt8} {p q : List Int} {n : Nat} (h : n < 16) (h1 : ∀ t, t < n → goB x p q t = true) (h2 : goB x p q n = false) : endB x p q = n := by rw [endB_eq]; exact passT_no h h1 h2
theorem end_all {x : List UInt8} {p q : List Int} (h1 : ∀ t, t < 16 → goB x p q t = true) : endB x p q = 16 := by rw [endB_eq]; exact passT_all h1
theorem cas_form {x : List UInt8} {p q : List Int} {n : Nat} (h : endB x p q = n) : casB x p q = ⟨x, (bS x p q n).1, (bS x p q n).2.1⟩ := by subst h; rfl
theorem wrong_next {x : List UInt8} {f : Fil} {l : List Int} {i : Nat} {q : Int} (h : l[i]? = some q) (hp : hasV x f.lv f.nb f.D q = true) : (wrongL x f (l.take i)).map iA ++ [.i .i64 q] = (wrongL x f (l.take (i + 1))).map iA := filt_next h hp
theorem wrong_miss {x : List UInt8} {f : Fil} {l : List Int} {i : Nat} {q : Int} (h : l[i]? = some q) (hp : hasV x f.lv f.nb f.D q = false) : wrongL x f (l.take i) = wrongL x f (l.take (i + 1)) := filt_miss h hp
theorem len_wrong (x : List UInt8) (f : Fil) (l : List Int) : (wrongL x f l).length ≤ l.length := List.length_filter_le _ _
theorem wrong_len {x : List UInt8} {f : Fil} {l : List Int} {i : Nat} {q : Int} (h : l[i]? = some q) (hp : hasV x f.lv f.nb f.D q = true) : (wrongL x f (l.take i)).length + 1 = (wrongL x f (l.take (i + 1))).length := by
  have := congrArg List.length (wrong_next h hp)
  simpa using this
theorem goB_nil {x : List UInt8} {p q : List Int} {n : Nat} (h : ¬ 0 < (bS x p q n).2.1.length) : goB x p q n = false := by
  unfold goB
  have : (bS x p q n).2.1 = [] := List.length_eq_zero_iff.1 (by omega)
  rw [this]; rfl
theorem end_any {x : List UInt8} {p q : List Int} {n : Nat} (hn : n ≤ 16) (h1 : ∀ t, t < n → goB x p q t = true) (h : ¬ 0 < (bS x p q n).2.1.length) : endB x p q = n := by
  rcases Nat.lt_or_ge n 16 with h2 | h2
  · exact end_no h2 h1 (goB_nil h)
  · have : n = 16 := by omega
    subst this; exact end_all h1
theorem st_salt {x : List UInt8} : (Z32.map u8 ++ [A.nl, A.nl]).take 0 ++ cellsA (.ag (x.map u8)) ++ (Z32.map u8 ++ [A.nl, A.nl]).drop (0 + 32) = x.map u8 ++ [.nl, .nl] := by
  show [] ++ x.map u8 ++ [A.nl, A.nl] = _
  rfl
theorem tail_get1 {x : List UInt8} (hx : x.length = 32) (a b : A) : ((x.map u8 ++ [a, b]).drop 33) = [b] := by
  rw [show 33 = 32 + 1 from rfl, ← List.drop_drop, tail_get hx]; rfl
theorem tail_set1 {x : List UInt8} (hx : x.length = 32) (v a b : A) : (x.map u8 ++ [a, b]).set 33 v = x.map u8 ++ [a, v] := by
  rw [List.set_append_right _ _ (by simp [hx]), List.length_map, hx]; rfl
theorem cas_end {x : List UInt8} {p q : List Int} {n : Nat} (h : endB x p q = n) : x.map u8 ++ [.fz n ((bS x p q n).1.flatMap filC), .fz (bS x p q n).2.1.length ((bS x p q n).2.1.map iA)] = casL (casB x p q) := by
  rw [cas_form h, casL, filsA, intsA, len_bS]
def few34 (p q : List Int) : Bool := decide (p.length ≤ 60) && decide (q.length ≤ 60)
theorem few34_spec {p q : List Int} (h : few34 p q = true) : p.length ≤ 60 ∧ q.length ≤ 60 := by
  unfold few34 at h; simpa using h
end Go.Abs.D2

/-! C4E -/
namespace Go.Abs.D2
open Go Go.Eng Go.Abs Go.Proofs 
set_option linter.unusedSimpArgs false in
set_option linter.unusedVariables false in
set_option maxHeartbeats 1000000 in
set_option maxRecDepth 10000 in
theorem cbuild1_ok (x : List UInt8) (hx : x.length = 32) (f : Fil) (q : Int) : Con Tryd.prog 71 [.i .i64 q, .fp (x.map u8), .fp (filC f)] (Ret (.b (hasV x f.lv f.nb f.D q))) := by
  refine enter Tryd.func71 rfl Tryd.ntmps71 (by kernel_rfl) (Nat.le_of_ble_eq_true rfl) fun w0 X0 hI => ?_
  refine at_seq ?_
  refine at_region ?_
  refine s1 (y_p rfl) rfl <| ?_
  refine at_nil ?_
  refine x_tn ?_
  refine at_seq ?_
  refine at_region ?_
  refine s1 (y_loadA ti23 rfl rfl (List.take_of_length_le (by simp [hx])) (by simp [hx])) rfl <| s1 (y_loadA ti82 rfl rfl rfl rfl) rfl <| s1 (y_p rfl) rfl <| ?_
  refine at_op rfl (n_call false rfl (.cons (.pure pu) (.cons (.pure pu) (.cons (.pure pu) (.nil)))) (Con.cast (fhas_ok x f.lv f.nb q f.D hx) (has_form ..)) pu (.inl rfl) rfl ?_)
  refine s1 (y_p rfl) rfl <| s1 (y_p rfl) rfl <| s1 (y_p rfl) rfl <| s1 (y_p rfl) rfl <| s1 (y_p rfl) rfl <| ?_
  refine at_nil ?_
  refine x_tn ?_
  refine at_seq ?_
  refine at_region ?_
  refine s1 (y_p rfl) rfl <| s1 (y_p rfl) rfl <| ?_
  refine at_nil ?_
  refine x_tn ?_
  refine at_ret ?_
  refine at_result (rs := [.tmp 4]) rfl (r_tmp rfl r_nil) ?_
  rfl
set_option linter.unusedSimpArgs false in
set_option linter.unusedVariables false in
set_option maxHeartbeats 1000000 in
set_option maxRecDepth 10000 in
theorem cchoose_ok (x : List UInt8) (hx : x.length = 32) (f : Fil) (l : List Int) (hn : l.length ≤ 100) : Con Tryd.prog 70 [.fz l.length (l.map (A.i .i64)), .fn (.func 71) [] [.fp (x.map u8), .fp (filC f)]] (Ret (intsA (wrongL x f l))) := by
  refine enter Tryd.func70 rfl Tryd.ntmps70 (by kernel_rfl) (Nat.le_of_ble_eq_true rfl) fun w0 X0 hI => ?_
  refine at_seq ?_
  refine at_region ?_
  refine s1 (y_p rfl) rfl <| ?_
  refine at_nil ?_
  refine x_tn ?_
  refine at_seq ?_
  refine at_seq ?_
  refine at_region ?_
  refine s1 (y_p rfl) rfl <| s1 (y_len Tryd.underlying25 rfl rfl rfl) rfl <| s1 ((y_p rfl).v (v' := .i .i64 0) rfl) rfl <| ?_
  refine at_nil ?_
  refine x_tn ?_
  refine at_block ?_
  refine at_loop (ι := Nat) (fun i => [(1, .fn (.func 71) [] [.fp (x.map u8), .fp (filC f)]), (4, .sl 119 1 0 (wrongL x f (l.take i)).length), (7, .fz l.length (l.map (A.i .i64))), (8, nJ l.length), (9, nJ i)]) (fun i => ⟨[(119, some ((wrongL x f (l.take i)).map iA))]⟩) (fun i => i ≤ l.length) (fun i => l.length - i) ?_ ?_
  · exact at_ex (0) (Nat.zero_le _) [(119, none)] hI rfl rfl ⟨⟨_, rfl, .pure pu⟩, ⟨_, rfl, .nl rfl⟩, ⟨_, rfl, .pure pu⟩, ⟨_, rfl, .pure pu⟩, ⟨_, rfl, .pure pu⟩, trivial⟩ ⟨.inl ⟨rfl, rfl⟩, trivial⟩
  rintro i hi
  have hwl := len_wrong x f (l.take i)
  rw [List.length_take] at hwl
  refine at_seq ?_
  refine at_region ?_
  refine s1 (y_p rfl) rfl <| ?_
  refine at_nil ?_
  refine x_tn ?_
  refine at_seq ?_
  refine at_cond rfl (fun hc10 => ?_) (fun hc10 => ?_)
  · have h10 : i < l.length := by have := of_decide_eq_true hc10; omega
    obtain ⟨q, hq⟩ : ∃ q, l[i]? = some q := ⟨_, List.getElem?_eq_getElem h10⟩
    refine at_skip ?_
    refine x_tn ?_
    refine at_seq ?_
    refine at_block ?_
    refine at_seq ?_
    refine at_region ?_
    refine s1 (y_ixf i Tryd.underlying25 ti3 rfl rfl rfl (by omega) rfl) rfl <| s1 (y_load ti3 rfl rfl (getI4 hq)) rfl <| s1 (y_p rfl) rfl <| ?_
    refine at_nil ?_
    refine x_tn ?_
    refine at_seq ?_
    refine at_region ?_
    refine s1 (y_p rfl) rfl <| s1 (y_p rfl) rfl <| ?_
    refine at_op rfl (n_callv false rfl rfl (.cons (.pure pu) (.cons (.pure pu) (.cons (.pure pu) .nil))) (cbuild1_ok x hx f q) pu (.inl rfl) rfl ?_)
    refine at_nil ?_
    refine x_tn ?_
    refine at_cond rfl (fun hc15 => ?_) (fun hc15 => ?_)
    · have hwn := wrong_len hq hc15
      refine at_region ?_
      refine s1 (y_p rfl) rfl <| s1 (y_p rfl) rfl <| ?_
      refine at_op rfl (n_bs1 18 rfl Tryd.underlying25 ti3 rfl rfl rfl rfl rfl ?_)
      refine at_op rfl (n_app 19 rfl Tryd.underlying25 ti3 rfl (.sl rfl (by simp)) rfl (SM_full rfl (by first | rfl | omega | (simp; done) | (simp [*]; done) | (simp; omega) | (simp [*]; omega) | (simp [D32.len, -List.length_flatten, *]; done) | (simp [D32.len, -List.length_flatten, *]; omega))) (by simp) (by simp only [maxLen]; omega) (by omega) rfl (wrong_next hq hc15) rfl ?_)
      refine s1 (y_p rfl) rfl <| ?_
      refine at_nil ?_
      refine x_bn ?_
      refine x_tn ?_
      refine at_region ?_
      refine s1 (addN _ 1 rfl rfl rfl rfl (by omega)) rfl <| s1 (y_p rfl) rfl <| ?_
      refine at_nil ?_
      exact at_end (i + 1) (by omega) (by omega) [(119, some 19)] hI rfl rfl ⟨⟨_, rfl, .pure pu⟩, ⟨_, rfl, .sl rfl (by first | rfl | omega | (simp; done) | (simp [*]; done) | (simp; omega) | (simp [*]; omega) | (simp [D32.len, -List.length_flatten, *]; done) | (simp [D32.len, -List.length_flatten, *]; omega))⟩, ⟨_, rfl, .pure pu⟩, ⟨_, rfl, .pure pu⟩, ⟨_, rfl, .pure pu⟩, trivial⟩ ⟨.inr ⟨_, _, rfl, rfl, .pure pul⟩, trivial⟩
    · have hfm := wrong_miss hq hc15
      have hwn : (wrongL x f (l.take i)).length = (wrongL x f (l.take (i + 1))).length := by rw [hfm]
      refine at_skip ?_
      refine x_bn ?_
      refine x_tn ?_
      refine at_region ?_
      refine s1 (addN _ 1 rfl rfl rfl rfl (by omega)) rfl <| s1 (y_p rfl) rfl <| ?_
      refine at_nil ?_
      exact at_end (i + 1) (by omega) (by omega) [(119, some 119)] hI rfl rfl ⟨⟨_, rfl, .pure pu⟩, ⟨_, rfl, .sl rfl (by first | rfl | omega | (simp; done) | (simp [*]; done) | (simp; omega) | (simp [*]; omega) | (simp [D32.len, -List.length_flatten, *]; done) | (simp [D32.len, -List.length_flatten, *]; omega))⟩, ⟨_, rfl, .pure pu⟩, ⟨_, rfl, .pure pu⟩, ⟨_, rfl, .pure pu⟩, trivial⟩ ⟨.inr ⟨_, _, rfl, rfl, .of (by rw [hfm]) (.pure pul)⟩, trivial⟩
  · obtain rfl : i = l.length := by have := of_decide_eq_false hc10; omega
    refine at_exit ?_
    refine x_te ?_
    refine x_te ?_
    refine x_be ?_
    refine x_tn ?_
    refine at_seq ?_
    refine at_frz 4 rfl rfl pul (view_eq (by simp) rfl) ?_
    refine at_say 4 rfl (v' := intsA (wrongL x f l)) (by rw [List.take_length]) ?_
    refine at_region ?_
    refine s1 (y_p rfl) rfl <| s1 (y_p rfl) rfl <| ?_
    refine at_nil ?_
    refine x_tn ?_
    refine at_ret ?_
    refine at_result (rs := [.tmp 4]) rfl (r_tmp rfl r_nil) ?_
    rfl
set_option linter.unusedSimpArgs false in
set_option linter.unusedVariables false in
set_option maxHeartbeats 1000000 in
set_option maxRecDepth 10000 in
theorem cbuild_ok (x : List UInt8) (hx : x.length = 32) (p q : List Int) (hp : p.length ≤ 100) (hq100 : q.length ≤ 100) : Con Tryd.prog 34 [.ag (x.map u8), .fz p.length (p.map (A.i .i64)), .fz q.length (q.map (A.i .i64))] (Ret (buildA x p q)) := by
  refine enter Tryd.func34 rfl Tryd.ntmps34 (by kernel_rfl) (Nat.le_of_ble_eq_true rfl) fun w0 X0 hI => ?_
  refine at_seq ?_
  refine at_region ?_
  refine at_op rfl (n_boxA 3 rfl rfl rfl ?_)
  refine at_op rfl (n_alloc 6 rfl ti27 rfl rfl ?_)
  refine s1 ((y_p rfl).v (v' := .i .i64 0) rfl) rfl <| ?_
  refine at_nil ?_
  refine x_tn ?_
  refine at_seq ?_
  refine at_seq ?_
  rcases ok2_cases p q with hcs | hcs | hcs | hcs
  · obtain ⟨h1, hb⟩ := hcs
    refine at_frzP 3 rfl rfl pul ?_
    refine at_region ?_
    refine s1 (y_p rfl) rfl <| ?_
    refine at_op rfl (n_call false rfl (.cons (.pure pu) (.nil)) (Con.cast (listed_ok p (by simp only [maxLen]; omega)) (congrArg A.b h1)) pu (.inl rfl) rfl ?_)
    refine s1 ((y_p rfl).v (v' := .b true) (rfl)) rfl <| s1 (y_p rfl) rfl <| g0 rfl rfl rfl rfl <| g0 rfl rfl rfl rfl <| g0 rfl rfl rfl rfl <| s1 (y_p rfl) rfl <| s1 (y_p rfl) rfl <| g0 rfl rfl rfl rfl <| g0 rfl rfl rfl rfl <| g0 rfl rfl rfl rfl <| ?_
    refine g0 rfl rfl rfl rfl <| s1 (y_p rfl) rfl <| ?_
    refine at_nil ?_
    refine x_tn ?_
    refine at_then rfl ?_
    refine at_seq ?_
    refine at_region ?_
    refine s1 (y_loadA0 ti27 rfl rfl rfl) rfl <| ?_
    refine at_op rfl (n_storeA ti27 rfl rfl rfl (by first | rfl | omega | (simp; done) | (simp [*]; done) | (simp; omega) | (simp [*]; omega) | (simp [D32.len, -List.length_flatten, *]; done) | (simp [D32.len, -List.length_flatten, *]; omega)) (by first | rfl | omega | (simp; done) | (simp [*]; done) | (simp; omega) | (simp [*]; omega) | (simp [D32.len, -List.length_flatten, *]; done) | (simp [D32.len, -List.length_flatten, *]; omega)) ?_)
    refine s1 ((y_p rfl).v (v' := .i .i64 340) rfl) rfl <| ?_
    refine at_nil ?_
    refine x_tn ?_
    refine at_ret ?_
    refine x_tr ?_
    refine at_sayO 6 (cs' := Z32.map u8 ++ [.nl, .nl]) rfl rfl ?_
    refine at_wkO 6 rfl wk_cas0 ?_
    refine at_result (rs := [.cell 6 27, .tmp 7]) rfl (r_cellA ti27 rfl rfl rfl rfl (r_tmp rfl r_nil)) ?_
    show A.tu _ = _; rw [build_no hb]; rfl
  · obtain ⟨h1, h2, hb⟩ := hcs
    refine at_frzP 3 rfl rfl pul ?_
    refine at_region ?_
    refine s1 (y_p rfl) rfl <| ?_
    refine at_op rfl (n_call false rfl (.cons (.pure pu) (.nil)) (Con.cast (listed_ok p (by simp only [maxLen]; omega)) (congrArg A.b h1)) pu (.inl rfl) rfl ?_)
    refine s1 ((y_p rfl).v (v' := .b false) (rfl)) rfl <| s1 (y_p rfl) rfl <| g1 rfl rfl (y_p rfl) rfl <| ?_
    refine at_opg rfl rfl rfl (n_call false rfl (.cons (.pure pu) (.nil)) (Con.cast (listed_ok q (by simp only [maxLen]; omega)) (congrArg A.b h2)) pu (.inl rfl) rfl ?_)
    refine g1 rfl rfl ((y_p rfl).v (v' := .b true) (rfl)) rfl <| s1 (y_p rfl) rfl <| s1 (y_p rfl) rfl <| g0 rfl rfl rfl rfl <| g0 rfl rfl rfl rfl <| g0 rfl rfl rfl rfl <| g0 rfl rfl rfl rfl <| s1 (y_p rfl) rfl <| ?_
    refine at_nil ?_
    refine x_tn ?_
    refine at_then rfl ?_
    refine at_seq ?_
    refine at_region ?_
    refine s1 (y_loadA0 ti27 rfl rfl rfl) rfl <| ?_
    refine at_op rfl (n_storeA ti27 rfl rfl rfl (by first | rfl | omega | (simp; done) | (simp [*]; done) | (simp; omega) | (simp [*]; omega) | (simp [D32.len, -List.length_flatten, *]; done) | (simp [D32.len, -List.length_flatten, *]; omega)) (by first | rfl | omega | (simp; done) | (simp [*]; done) | (simp; omega) | (simp [*]; omega) | (simp [D32.len, -List.length_flatten, *]; done) | (simp [D32.len, -List.length_flatten, *]; omega)) ?_)
    refine s1 ((y_p rfl).v (v' := .i .i64 340) rfl) rfl <| ?_
    refine at_nil ?_
    refine x_tn ?_
    refine at_ret ?_
    refine x_tr ?_
    refine at_sayO 6 (cs' := Z32.map u8 ++ [.nl, .nl]) rfl rfl ?_
    refine at_wkO 6 rfl wk_cas0 ?_
    refine at_result (rs := [.cell 6 27, .tmp 7]) rfl (r_cellA ti27 rfl rfl rfl rfl (r_tmp rfl r_nil)) ?_
    show A.tu _ = _; rw [build_no hb]; rfl
  · obtain ⟨h1, h2, h3, hb⟩ := hcs
    refine at_frzP 3 rfl rfl pul ?_
    refine at_region ?_
    refine s1 (y_p rfl) rfl <| ?_
    refine at_op rfl (n_call false rfl (.cons (.pure pu) (.nil)) (Con.cast (listed_ok p (by simp only [maxLen]; omega)) (congrArg A.b h1)) pu (.inl rfl) rfl ?_)
    refine s1 ((y_p rfl).v (v' := .b false) (rfl)) rfl <| s1 (y_p rfl) rfl <| g1 rfl rfl (y_p rfl) rfl <| ?_
    refine at_opg rfl rfl rfl (n_call false rfl (.cons (.pure pu) (.nil)) (Con.cast (listed_ok q (by simp only [maxLen]; omega)) (congrArg A.b h2)) pu (.inl rfl) rfl ?_)
    refine g1 rfl rfl ((y_p rfl).v (v' := .b false) (rfl)) rfl <| s1 (y_p rfl) rfl <| s1 (y_p rfl) rfl <| g1 rfl rfl (y_p rfl) rfl <| g1 rfl rfl (y_p rfl) rfl <| ?_
    refine at_opg rfl rfl rfl (n_call false rfl (.cons (.pure pu) (.cons (.pure pu) (.nil))) (Con.cast (disjoint_ok p q (by simp only [maxLen]; omega) (by simp only [maxLen]; omega)) (congrArg A.b h3)) pu (.inl rfl) rfl ?_)
    refine g1 rfl rfl ((y_p rfl).v (v' := .b true) (rfl)) rfl <| s1 (y_p rfl) rfl <| ?_
    refine at_nil ?_
    refine x_tn ?_
    refine at_then rfl ?_
    refine at_seq ?_
    refine at_region ?_
    refine s1 (y_loadA0 ti27 rfl rfl rfl) rfl <| ?_
    refine at_op rfl (n_storeA ti27 rfl rfl rfl (by first | rfl | omega | (simp; done) | (simp [*]; done) | (simp; omega) | (simp [*]; omega) | (simp [D32.len, -List.length_flatten, *]; done) | (simp [D32.len, -List.length_flatten, *]; omega)) (by first | rfl | omega | (simp; done) | (simp [*]; done) | (simp; omega) | (simp [*]; omega) | (simp [D32.len, -List.length_flatten, *]; done) | (simp [D32.len, -List.length_flatten, *]; omega)) ?_)
    refine s1 ((y_p rfl).v (v' := .i .i64 340) rfl) rfl <| ?_
    refine at_nil ?_
    refine x_tn ?_
    refine at_ret ?_
    refine x_tr ?_
    refine at_sayO 6 (cs' := Z32.map u8 ++ [.nl, .nl]) rfl rfl ?_
    refine at_wkO 6 rfl wk_cas0 ?_
    refine at_result (rs := [.cell 6 27, .tmp 7]) rfl (r_cellA ti27 rfl rfl rfl rfl (r_tmp rfl r_nil)) ?_
    show A.tu _ = _; rw [build_no hb]; rfl
  · obtain ⟨h1, h2, h3, hb⟩ := hcs
    refine at_frzP 3 rfl rfl pul ?_
    refine at_region ?_
    refine s1 (y_p rfl) rfl <| ?_
    refine at_op rfl (n_call false rfl (.cons (.pure pu) (.nil)) (Con.cast (listed_ok p (by simp only [maxLen]; omega)) (congrArg A.b h1)) pu (.inl rfl) rfl ?_)
    refine s1 ((y_p rfl).v (v' := .b false) (rfl)) rfl <| s1 (y_p rfl) rfl <| g1 rfl rfl (y_p rfl) rfl <| ?_
    refine at_opg rfl rfl rfl (n_call false rfl (.cons (.pure pu) (.nil)) (Con.cast (listed_ok q (by simp only [maxLen]; omega)) (congrArg A.b h2)) pu (.inl rfl) rfl ?_)
    refine g1 rfl rfl ((y_p rfl).v (v' := .b false) (rfl)) rfl <| s1 (y_p rfl) rfl <| s1 (y_p rfl) rfl <| g1 rfl rfl (y_p rfl) rfl <| g1 rfl rfl (y_p rfl) rfl <| ?_
    refine at_opg rfl rfl rfl (n_call false rfl (.cons (.pure pu) (.cons (.pure pu) (.nil))) (Con.cast (disjoint_ok p q (by simp only [maxLen]; omega) (by simp only [maxLen]; omega)) (congrArg A.b h3)) pu (.inl rfl) rfl ?_)
    refine g1 rfl rfl ((y_p rfl).v (v' := .b false) (rfl)) rfl <| s1 (y_p rfl) rfl <| ?_
    refine at_nil ?_
    refine x_tn ?_
    refine at_else rfl ?_
    refine at_skip ?_
    refine x_tn ?_
    refine at_seq ?_
    refine at_sayO 6 (cs' := Z32.map u8 ++ [.nl, .nl]) rfl rfl ?_
    refine at_region ?_
    refine s1 (y_loadA ti23 rfl rfl (List.take_of_length_le (by simp [hx])) (by simp [hx])) rfl <| s1 (y_fld Tryd.underlying27 rfl ti23 (by decide) rfl rfl) rfl <| ?_
    refine at_say 30 rfl (v' := .p 6 0) rfl ?_
    refine at_op rfl (n_store ti23 rfl rfl rfl rfl rfl (by rw [show cellsA (A.ag (x.map u8)) = x.map u8 from rfl, List.length_map, hx]) (Nat.le_of_ble_eq_true rfl) st_salt ?_)
    refine at_nil ?_
    refine x_tn ?_
    refine at_seq ?_
    refine at_region ?_
    refine s1 (y_p rfl) rfl <| s1 (y_p rfl) rfl <| s1 (y_p rfl) rfl <| s1 (y_p rfl) rfl <| ?_
    refine at_nil ?_
    refine x_tn ?_
    refine at_seq ?_
    refine at_block ?_
    refine at_loop (ι := Nat) (fun n => [(3, .fp (x.map u8)), (6, .p 6 0), (8, intsA (bS x p q n).2.1), (9, intsA (bS x p q n).2.2)]) (fun n => ⟨[(6, some (x.map u8 ++ [.sl 180 3 0 n, .nl])), (180, some ((bS x p q n).1.flatMap filC))]⟩) (fun n => n ≤ 16 ∧ ∀ t, t < n → goB x p q t = true) (fun n => 16 - n) ?_ ?_
    · exact at_ex (0) (⟨by omega, fun t ht => absurd ht (by omega)⟩) [(6, some 6), (180, none)] hI rfl rfl ⟨⟨_, rfl, .pure pu⟩, ⟨_, rfl, .p rfl⟩, ⟨_, rfl, .pure pu⟩, ⟨_, rfl, .pure pu⟩, trivial⟩ ⟨.inr ⟨_, _, rfl, rfl, .app (.pure pul) (.cons (.nl rfl) (.cons (.pure pu) .nil))⟩, .inl ⟨rfl, rfl⟩, trivial⟩
    rintro n ⟨hn, hgo⟩
    obtain ⟨hal, hbl⟩ := bS_len (x := x) hp hq100 n
    have hfl : ((bS x p q n).1.flatMap filC).length = n * 3 := by rw [flat_len, len_bS]
    have hnb := nbOf_ok (bS x p q n).2.1
    have hnum := (bS_num (x := x) hb n).1
    refine at_seq ?_
    refine at_seq ?_
    refine at_region ?_
    refine s1 (y_p rfl) rfl <| s1 (y_len Tryd.underlying25 rfl rfl rfl) rfl <| s1 (y_p rfl) rfl <| s1 (y_p rfl) rfl <| ?_
    refine at_bc 36 rfl (fun hc36 => ?_) (fun hc36 => ?_)
    · have h36 : 0 < (bS x p q n).2.1.length := by have := of_decide_eq_true hc36; omega
      refine g1 rfl rfl (y_fld Tryd.underlying27 rfl ti24 (by decide) rfl rfl) rfl <| g1 rfl rfl (y_load ti24 rfl rfl (congrArg (fun l => l[0]?) (tail_get hx _))) rfl <| g1 rfl rfl (y_len Tryd.underlying24 rfl rfl rfl) rfl <| g1 rfl rfl (y_p rfl) rfl <| s1 (y_p rfl) rfl <| ?_
      refine at_nil ?_
      refine x_tn ?_
      refine at_cond rfl (fun hc41 => ?_) (fun hc41 => ?_)
      · have h41 : n < 16 := by have := of_decide_eq_true hc41; omega
        refine at_skip ?_
        refine x_tn ?_
        refine at_block ?_
        refine at_seq ?_
        refine at_region ?_
        refine s1 (y_fld Tryd.underlying27 rfl ti24 (by decide) rfl rfl) rfl <| s1 (y_load ti24 rfl rfl (congrArg (fun l => l[0]?) (tail_get hx _))) rfl <| s1 (y_len Tryd.underlying24 rfl rfl rfl) rfl <| s1 (y_p rfl) rfl <| s1 (y_len Tryd.underlying25 rfl rfl rfl) rfl <| s1 (mulN 4 _ rfl rfl rfl rfl (by omega)) rfl <| s1 (y_maxN (a := 4 * (bS x p q n).2.1.length) (b := 8) rfl rfl rfl) rfl <| s1 (y_minN (a := max (4 * (bS x p q n).2.1.length) 8) (b := 4096) (c := nbOf (bS x p q n).2.1) rfl rfl rfl) rfl <| ?_
        refine at_op rfl (n_call false rfl (.cons (.pure pu) (.cons (.pure pu) (.nil))) (Con.cast (fnew_ok n (nbOf (bS x p q n).2.1)) (new_yes (nat_sized h41 hnb.1 hnb.2))) pu (.inl rfl) rfl ?_)
        refine s1 (y_p rfl) rfl <| s1 (y_p rfl) rfl <| s1 (y_p rfl) rfl <| ?_
        refine at_op rfl (n_alloc 10 rfl ti82 rfl rfl ?_)
        refine at_op rfl (n_storeA ti82 rfl rfl rfl (by first | rfl | omega | (simp; done) | (simp [*]; done) | (simp; omega) | (simp [*]; omega) | (simp [D32.len, -List.length_flatten, *]; done) | (simp [D32.len, -List.length_flatten, *]; omega)) (by first | rfl | omega | (simp; done) | (simp [*]; done) | (simp; omega) | (simp [*]; omega) | (simp [D32.len, -List.length_flatten, *]; done) | (simp [D32.len, -List.length_flatten, *]; omega)) ?_)
        refine s1 (y_p rfl) rfl <| ?_
        refine at_nil ?_
        refine x_tn ?_
        refine at_seq ?_
        refine at_seq ?_
        refine at_region ?_
        refine s1 (y_p rfl) rfl <| s1 ((y_p rfl).v (v' := .b false) (rfl)) rfl <| ?_
        refine at_nil ?_
        refine x_tn ?_
        refine at_else rfl ?_
        refine at_skip ?_
        refine x_tn ?_
        refine at_seq ?_
        refine at_seq ?_
        refine at_region ?_
        refine s1 (y_p rfl) rfl <| s1 (y_len Tryd.underlying25 rfl rfl rfl) rfl <| s1 ((y_p rfl).v (v' := .i .i64 0) rfl) rfl <| ?_
        refine at_nil ?_
        refine x_tn ?_
        refine at_block ?_
        refine at_loop (ι := Nat) (fun k => [(3, .fp (x.map u8)), (6, .p 6 0), (8, intsA (bS x p q n).2.1), (9, intsA (bS x p q n).2.2), (10, .p 10 0), (58, intsA (bS x p q n).2.1), (59, nJ (bS x p q n).2.1.length), (60, nJ k)]) (fun k => ⟨[(6, some (x.map u8 ++ [.sl 180 3 0 n, .nl])), (180, some ((bS x p q n).1.flatMap filC)), (10, some ([nJ n, nJ (nbOf (bS x p q n).2.1), slA (addsI x (n : Nat) (nbOf (bS x p q n).2.1 : Nat) (zeroD (nbOf (bS x p q n).2.1)) ((bS x p q n).2.1.take k))]))]⟩) (fun k => k ≤ (bS x p q n).2.1.length) (fun k => (bS x p q n).2.1.length - k) ?_ ?_
        · exact at_ex (0) (Nat.zero_le _) [(6, some 6), (10, some 10), (180, some 180)] hI rfl rfl ⟨⟨_, rfl, .pure pu⟩, ⟨_, rfl, .p rfl⟩, ⟨_, rfl, .pure pu⟩, ⟨_, rfl, .pure pu⟩, ⟨_, rfl, .p rfl⟩, ⟨_, rfl, .pure pu⟩, ⟨_, rfl, .pure pu⟩, ⟨_, rfl, .pure pu⟩, trivial⟩ ⟨.inr ⟨_, _, rfl, rfl, .app (.pure pul) (.cons (.sl rfl rfl) (.cons (.pure pu) .nil))⟩, .inr ⟨_, _, rfl, rfl, .pure pul⟩, .inr ⟨_, _, rfl, rfl, .of (by rfl) (.pure pul)⟩, trivial⟩
        rintro k hk
        refine at_seq ?_
        refine at_region ?_
        refine s1 (y_p rfl) rfl <| ?_
        refine at_nil ?_
        refine x_tn ?_
        refine at_seq ?_
        refine at_cond rfl (fun hc61 => ?_) (fun hc61 => ?_)
        · have h61 : k < (bS x p q n).2.1.length := by have := of_decide_eq_true hc61; omega
          obtain ⟨v, hv⟩ : ∃ v, (bS x p q n).2.1[k]? = some v := ⟨_, List.getElem?_eq_getElem h61⟩
          have hv0 := hnum v (List.mem_of_getElem? hv)
          refine at_skip ?_
          refine x_tn ?_
          refine at_seq ?_
          refine at_block ?_
          refine at_seq ?_
          refine at_region ?_
          refine s1 (y_ixf k Tryd.underlying25 ti3 rfl rfl rfl (by omega) rfl) rfl <| s1 (y_load ti3 rfl rfl (getI4 hv)) rfl <| s1 (y_p rfl) rfl <| ?_
          refine at_nil ?_
          refine x_tn ?_
          refine at_seq ?_
          refine at_region ?_
          refine s1 (y_loadA ti23 rfl rfl (List.take_of_length_le (by simp [hx])) (by simp [hx])) rfl <| s1 (y_loadA0 ti82 rfl rfl rfl) rfl <| s1 (y_p rfl) rfl <| ?_
          refine at_op rfl (n_call false rfl (.cons (.pure pu) (.cons (.pure pu) (.cons (.pure pu) (.nil)))) (Con.cast (fadd_ok x (n : Nat) (nbOf (bS x p q n).2.1 : Nat) v (addsI x (n : Nat) (nbOf (bS x p q n).2.1 : Nat) (zeroD (nbOf (bS x p q n).2.1)) ((bS x p q n).2.1.take k)) hx) (add_fil h41 hv hv0)) pu (.inl rfl) rfl ?_)
          refine s1 (y_p rfl) rfl <| s1 (y_p rfl) rfl <| s1 (y_p rfl) rfl <| ?_
          refine at_op rfl (n_storeA ti82 rfl rfl rfl (by first | rfl | omega | (simp; done) | (simp [*]; done) | (simp; omega) | (simp [*]; omega) | (simp [D32.len, -List.length_flatten, *]; done) | (simp [D32.len, -List.length_flatten, *]; omega)) (by first | rfl | omega | (simp; done) | (simp [*]; done) | (simp; omega) | (simp [*]; omega) | (simp [D32.len, -List.length_flatten, *]; done) | (simp [D32.len, -List.length_flatten, *]; omega)) ?_)
          refine s1 (y_p rfl) rfl <| ?_
          refine at_nil ?_
          refine x_tn ?_
          refine at_seq ?_
          refine at_region ?_
          refine s1 (y_p rfl) rfl <| s1 ((y_p rfl).v (v' := .b false) (rfl)) rfl <| ?_
          refine at_nil ?_
          refine x_tn ?_
          refine at_else rfl ?_
          refine at_skip ?_
          refine x_bn ?_
          refine x_tn ?_
          refine at_region ?_
          refine s1 (addN _ 1 rfl rfl rfl rfl (by omega)) rfl <| s1 (y_p rfl) rfl <| ?_
          refine at_nil ?_
          exact at_end (k + 1) (by omega) (by omega) [(6, some 6), (10, some 10), (180, some 180)] hI rfl rfl ⟨⟨_, rfl, .pure pu⟩, ⟨_, rfl, .p rfl⟩, ⟨_, rfl, .pure pu⟩, ⟨_, rfl, .pure pu⟩, ⟨_, rfl, .p rfl⟩, ⟨_, rfl, .pure pu⟩, ⟨_, rfl, .pure pu⟩, ⟨_, rfl, .pure pu⟩, trivial⟩ ⟨.inr ⟨_, _, rfl, rfl, .app (.pure pul) (.cons (.sl rfl rfl) (.cons (.pure pu) .nil))⟩, .inr ⟨_, _, rfl, rfl, .pure pul⟩, .inr ⟨_, _, rfl, rfl, .pure pul⟩, trivial⟩
        · have h61 : k = (bS x p q n).2.1.length := by have := of_decide_eq_false hc61; omega
          subst h61
          refine at_exit ?_
          refine x_te ?_
          refine x_te ?_
          refine x_be ?_
          refine x_tn ?_
          refine at_seq ?_
          refine at_sayO 10 (cs' := filC (filO x n (bS x p q n).2.1)) rfl (by rw [List.take_length]; rfl) ?_
          refine at_region ?_
          refine s1 (y_fld Tryd.underlying27 rfl ti24 (by decide) rfl rfl) rfl <| s1 (y_load ti24 rfl rfl (congrArg (fun l => l[0]?) (tail_get hx _))) rfl <| s1 (y_loadA0 ti82 rfl rfl rfl) rfl <| ?_
          refine at_op rfl (n_bs 79 rfl Tryd.underlying24 ti82 rfl rfl rfl (by first | (simp [cellsA]; done) | (simp [cellsA, *]; done)) rfl rfl rfl rfl ?_)
          refine at_op rfl (n_app 80 rfl Tryd.underlying24 ti82 rfl (.sl rfl (by rw [hfl])) rfl (SM_full rfl (by first | rfl | omega | (simp; done) | (simp [*]; done) | (simp; omega) | (simp [*]; omega) | (simp [D32.len, -List.length_flatten, *]; done) | (simp [D32.len, -List.length_flatten, *]; omega))) rfl (by simp only [maxLen]; omega) (by omega) rfl (bS_flat x p q n) rfl ?_)
          refine s1 (y_fld Tryd.underlying27 rfl ti24 (by decide) rfl rfl) rfl <| ?_
          refine at_op rfl (n_store1 ti24 rfl rfl rfl rfl (by simp [hx]) (tail_set hx _ _ _) ?_)
          refine at_nil ?_
          refine x_tn ?_
          refine at_frzP 10 rfl rfl pul ?_
          refine at_region ?_
          refine s1 (y_p rfl) rfl <| s1 (y_func (us := []) (vs := [.fp (x.map u8), .fp (filC (filO x n (bS x p q n).2.1))]) rfl rfl) rfl <| ?_
          refine at_op rfl (n_call false rfl (.cons (.pure pu) (.cons (.pure pu) .nil)) (cchoose_ok x hx (filO x n (bS x p q n).2.1) (bS x p q n).2.2 hbl) pu (.inl rfl) rfl ?_)
          refine s1 (y_p rfl) rfl <| s1 (y_p rfl) rfl <| s1 (y_p rfl) rfl <| ?_
          refine at_nil ?_
          refine x_bn ?_
          exact at_end (n + 1) (⟨by omega, all_next hgo (goB_yes h36)⟩) (by omega) [(6, some 6), (180, some 80)] hI rfl rfl ⟨⟨_, rfl, .pure pu⟩, ⟨_, rfl, .p rfl⟩, ⟨_, rfl, .pure pu⟩, ⟨_, rfl, .pure pu⟩, trivial⟩ ⟨.inr ⟨_, _, rfl, rfl, .app (.pure pul) (.cons (.sl rfl (by first | rfl | omega | (simp; done) | (simp [*]; done) | (simp; omega) | (simp [*]; omega) | (simp [D32.len, -List.length_flatten, *]; done) | (simp [D32.len, -List.length_flatten, *]; omega))) (.cons (.pure pu) .nil))⟩, .inr ⟨_, _, rfl, rfl, .pure pul⟩, trivial⟩
      · have h41 : n = 16 := by have := of_decide_eq_false hc41; omega
        subst h41
        have hend := end_all hgo
        refine at_exit ?_
        refine x_te ?_
        refine x_te ?_
        refine x_be ?_
        refine x_tn ?_
        refine at_seq ?_
        refine at_region ?_
        refine s1 (y_fld Tryd.underlying27 rfl ti25 (by decide) rfl rfl) rfl <| s1 (y_load ti25 rfl rfl (congrArg (fun l => l[0]?) (tail_get1 hx _ _))) rfl <| s1 (y_p rfl) rfl <| ?_
        refine at_op rfl (n_app 89 rfl Tryd.underlying25 ti3 rfl .nl rfl rfl (by simp) (by simp only [maxLen]; omega) (by omega) rfl rfl rfl ?_)
        refine s1 (y_fld Tryd.underlying27 rfl ti25 (by decide) rfl rfl) rfl <| ?_
        refine at_op rfl (n_store1 ti25 rfl rfl rfl rfl (by simp [hx]) (tail_set1 hx _ _ _) ?_)
        refine at_nil ?_
        refine x_tn ?_
        refine at_seq ?_
        refine at_frzO 6 32 rfl (by rw [List.getElem?_append_right (by simp [hx]), List.length_map, hx]; rfl) rfl rfl pul (view_eq (by rw [flat_len, len_bS]) rfl) (tail_set hx _ _ _) ?_
        refine at_frzO 6 33 rfl (by rw [List.getElem?_append_right (by simp [hx]), List.length_map, hx]; rfl) rfl rfl pul (view_eq (by simp) rfl) (tail_set1 hx _ _ _) ?_
        refine at_sayO 6 (cs' := casL (casB x p q)) rfl (by rw [Nat.zero_add, List.nil_append]; exact cas_end hend) ?_
        refine at_region ?_
        refine s1 (y_loadA0 ti27 rfl rfl (cas_len (c := casB x p q) hx)) rfl <| ?_
        refine at_op rfl (n_storeA ti27 rfl rfl rfl (cas_len (c := casB x p q) hx) (cas_len (c := casB x p q) hx) ?_)
        refine s1 ((y_p rfl).v (v' := .i .i64 0) rfl) rfl <| ?_
        refine at_nil ?_
        refine x_tn ?_
        refine at_ret ?_
        refine at_result (rs := [.cell 6 27, .tmp 7]) rfl (r_cellA ti27 rfl rfl (cas_all (c := casB x p q) hx) (cas_len (c := casB x p q) hx) (r_tmp rfl r_nil)) ?_
        show A.tu _ = _; rw [build_yes hb]
    · have h36 : ¬ 0 < (bS x p q n).2.1.length := by have := of_decide_eq_false hc36; omega
      have hend := end_any hn hgo h36
      refine g0 rfl rfl rfl rfl <| g0 rfl rfl rfl rfl <| g0 rfl rfl rfl rfl <| g0 rfl rfl rfl rfl <| s1 (y_p rfl) rfl <| ?_
      refine at_nil ?_
      refine x_tn ?_
      refine at_else rfl ?_
      refine at_exit ?_
      refine x_te ?_
      refine x_te ?_
      refine x_be ?_
      refine x_tn ?_
      refine at_seq ?_
      refine at_region ?_
      refine s1 (y_fld Tryd.underlying27 rfl ti25 (by decide) rfl rfl) rfl <| s1 (y_load ti25 rfl rfl (congrArg (fun l => l[0]?) (tail_get1 hx _ _))) rfl <| s1 (y_p rfl) rfl <| ?_
      refine at_op rfl (n_app 89 rfl Tryd.underlying25 ti3 rfl .nl rfl rfl (by simp) (by simp only [maxLen]; omega) (by omega) rfl rfl rfl ?_)
      refine s1 (y_fld Tryd.underlying27 rfl ti25 (by decide) rfl rfl) rfl <| ?_
      refine at_op rfl (n_store1 ti25 rfl rfl rfl rfl (by simp [hx]) (tail_set1 hx _ _ _) ?_)
      refine at_nil ?_
      refine x_tn ?_
      refine at_seq ?_
      refine at_frzO 6 32 rfl (by rw [List.getElem?_append_right (by simp [hx]), List.length_map, hx]; rfl) rfl rfl pul (view_eq (by rw [flat_len, len_bS]) rfl) (tail_set hx _ _ _) ?_
      refine at_frzO 6 33 rfl (by rw [List.getElem?_append_right (by simp [hx]), List.length_map, hx]; rfl) rfl rfl pul (view_eq (by simp) rfl) (tail_set1 hx _ _ _) ?_
      refine at_sayO 6 (cs' := casL (casB x p q)) rfl (by rw [Nat.zero_add, List.nil_append]; exact cas_end hend) ?_
      refine at_region ?_
      refine s1 (y_loadA0 ti27 rfl rfl (cas_len (c := casB x p q) hx)) rfl <| ?_
      refine at_op rfl (n_storeA ti27 rfl rfl rfl (cas_len (c := casB x p q) hx) (cas_len (c := casB x p q) hx) ?_)
      refine s1 ((y_p rfl).v (v' := .i .i64 0) rfl) rfl <| ?_
      refine at_nil ?_
      refine x_tn ?_
      refine at_ret ?_
      refine at_result (rs := [.cell 6 27, .tmp 7]) rfl (r_cellA ti27 rfl rfl (cas_all (c := casB x p q) hx) (cas_len (c := casB x p q) hx) (r_tmp rfl r_nil)) ?_
      show A.tu _ = _; rw [build_yes hb]
end Go.Abs.D2

/-! C4F -/
namespace Go.Abs.D2
open Go Go.Eng Go.Abs Go.Proofs 
set_option linter.unusedSimpArgs false in
set_option linter.unusedVariables false in
set_option maxHeartbeats 1000000 in
set_option maxRecDepth 10000 in
theorem rin_ok (l : List Int) (v : Int) (hn : l.length ≤ maxLen) : Con Tryd.prog 36 [.fz l.length (l.map (A.i .i64)), .i .i64 v] (Ret (.b (decide (v ∈ l)))) := by
  refine enter Tryd.func36 rfl Tryd.ntmps36 (by kernel_rfl) (Nat.le_of_ble_eq_true rfl) fun w0 X0 hI => ?_
  refine at_seq ?_
  refine at_region ?_
  refine s1 (y_p rfl) rfl <| ?_
  refine at_nil ?_
  refine x_tn ?_
  refine at_seq ?_
  refine at_seq ?_
  simp only [maxLen] at hn
  refine at_region ?_
  refine s1 ((y_p rfl).v (v' := .i .i64 0) rfl) rfl <| ?_
  refine at_nil ?_
  refine x_tn ?_
  refine at_block ?_
  refine at_loop (ι := Nat) (fun i => [(0, .fz l.length (l.map (A.i .i64))), (1, .i .i64 v), (5, nJ i)]) (fun i => ⟨[]⟩) (fun i => i ≤ l.length ∧ (l.take i).any (fun e => e == v) = false) (fun i => l.length - i) ?_ ?_
  · exact at_ex (0) (⟨Nat.zero_le _, rfl⟩) [] hI rfl rfl ⟨⟨_, rfl, .pure pu⟩, ⟨_, rfl, .pure pu⟩, ⟨_, rfl, .pure pu⟩, trivial⟩ trivial
  rintro i ⟨hi, hi2⟩
  refine at_seq ?_
  refine at_seq ?_
  refine at_region ?_
  refine s1 (y_p rfl) rfl <| s1 (y_p rfl) rfl <| s1 (y_len Tryd.underlying25 rfl rfl rfl) rfl <| s1 (y_p rfl) rfl <| ?_
  refine at_nil ?_
  refine x_tn ?_
  refine at_cond rfl (fun hc9 => ?_) (fun hc9 => ?_)
  · have h9 : i < l.length := by have := of_decide_eq_true hc9; omega
    obtain ⟨q, hq⟩ : ∃ q, l[i]? = some q := ⟨_, List.getElem?_eq_getElem h9⟩
    refine at_skip ?_
    refine x_tn ?_
    refine at_seq ?_
    refine at_block ?_
    refine at_seq ?_
    refine at_region ?_
    refine s1 (y_p rfl) rfl <| s1 (y_p rfl) rfl <| s1 (y_ixf i Tryd.underlying25 ti3 rfl rfl rfl (by omega) rfl) rfl <| s1 (y_load ti3 rfl rfl (getI4 hq)) rfl <| s1 (y_p rfl) rfl <| s1 (y_p rfl) rfl <| ?_
    refine at_nil ?_
    refine x_tn ?_
    refine at_cond rfl (fun hc17 => ?_) (fun hc17 => ?_)
    · have h17 : q = v := by simpa using hc17
      refine at_seq ?_
      refine at_region ?_
      refine s1 (y_p rfl) rfl <| ?_
      refine at_nil ?_
      refine x_tn ?_
      refine at_ret ?_
      refine x_br ?_
      refine x_tr ?_
      refine x_tr ?_
      refine x_br ?_
      refine x_tr ?_
      refine at_result (rs := [.tmp 4]) rfl (r_tmp rfl r_nil) ?_
      exact congrArg A.b (decide_eq_true (h17 ▸ List.mem_of_getElem? hq)).symm
    · skip
      refine at_skip ?_
      refine x_bn ?_
      refine x_tn ?_
      refine at_region ?_
      refine s1 (y_p rfl) rfl <| s1 (addN _ 1 rfl rfl rfl rfl (by omega)) rfl <| s1 (y_p rfl) rfl <| ?_
      refine at_nil ?_
      exact at_end (i + 1) (⟨by omega, take_anyI hq hi2 hc17⟩) (by omega) [] hI rfl rfl ⟨⟨_, rfl, .pure pu⟩, ⟨_, rfl, .pure pu⟩, ⟨_, rfl, .pure pu⟩, trivial⟩ trivial
  · have h9 : i = l.length := by have := of_decide_eq_false hc9; omega
    subst h9
    rw [List.take_length] at hi2
    refine at_exit ?_
    refine x_te ?_
    refine x_te ?_
    refine x_be ?_
    refine x_tn ?_
    refine at_seq ?_
    refine at_region ?_
    refine s1 (y_p rfl) rfl <| ?_
    refine at_nil ?_
    refine x_tn ?_
    refine at_ret ?_
    refine at_result (rs := [.tmp 4]) rfl (r_tmp rfl r_nil) ?_
    exact congrArg A.b (decide_eq_false (fun h => by have := List.any_eq_false.1 hi2 v h; simp at this)).symm
set_option linter.unusedSimpArgs false in
set_option linter.unusedVariables false in
set_option maxHeartbeats 1000000 in
set_option maxRecDepth 10000 in
theorem rfew34_ok (p q : List Int) : Con Tryd.prog 33 [.fz p.length (p.map (A.i .i64)), .fz q.length (q.map (A.i .i64))] (Ret (.b (few34 p q))) := by
  refine enter Tryd.func33 rfl Tryd.ntmps33 (by kernel_rfl) (Nat.le_of_ble_eq_true rfl) fun w0 X0 hI => ?_
  refine at_seq ?_
  refine at_region ?_
  refine s1 (y_p rfl) rfl <| ?_
  refine at_nil ?_
  refine x_tn ?_
  refine at_seq ?_
  refine at_region ?_
  refine s1 (y_p rfl) rfl <| s1 (y_len Tryd.underlying25 rfl rfl rfl) rfl <| s1 (y_p rfl) rfl <| s1 (y_p rfl) rfl <| ?_
  refine g_and 3 rfl rfl rfl rfl (fun hb8 => .step (y_p rfl) rfl rfl <| .step (y_len Tryd.underlying25 rfl rfl rfl) rfl rfl <| .step (y_p rfl) rfl rfl <| .done) rfl rfl ?_
  refine s1 (y_p rfl) rfl <| ?_
  refine at_nil ?_
  refine x_tn ?_
  refine at_ret ?_
  refine at_result (rs := [.tmp 4]) rfl (r_tmp rfl r_nil) ?_
  exact congrArg A.b (by unfold few34; rw [Bool.eq_iff_iff]; simp; omega)
end Go.Abs.D2

/-! V6S -/
namespace Go.Abs.D2
open Go Go.Eng Go.Abs
def joinT (p q : List UInt8) : Nat → List UInt8
  | 0 => List.replicate 16 0
  | i + 1 => (joinT p q i).set i (p.getD i 0 ^^^ q.getD i 0)
@[simp] theorem len_joinT (p q : List UInt8) : ∀ i, (joinT p q i).length = 16
  | 0 => by simp [joinT]
  | i + 1 => by rw [joinT, List.length_set, len_joinT p q i]
theorem getB {l : List Bool} {i : Nat} {b : Bool} (h : l[i]? = some b) : ((l.map A.b).drop (i * 1))[0]? = some (.b b) := by
  rw [List.getElem?_drop, show i * 1 + 0 = i by omega, List.getElem?_map, h]; rfl
end Go.Abs.D2

/-! S7V -/
namespace Go.Abs.D2
open Go Go.Eng Go.Abs
theorem u8_inj : ∀ {a b : List UInt8}, a.map u8 = b.map u8 → a = b
  | [], [], _ => rfl
  | [], _ :: _, h => by cases h
  | _ :: _, [], h => by cases h
  | x :: a, y :: b, h => by
    simp only [List.map_cons, List.cons.injEq] at h
    have h1 : (x.toNat : Int) = (y.toNat : Int) := by
      have := h.1
      simp only [u8, A.i.injEq, true_and] at this
      exact this
    have : x = y := UInt8.toNat_inj.1 (by omega)
    rw [this, u8_inj h.2]
/-- What two servers' answers come to: the chain of calls. -/
theorem chkC_casB {x : List UInt8} {p q : List Int} (h : okB2 p q = true) : chkC (casB x p q) = true := by
  have hsub := bS_sub x p q (endB x p q)
  have hE := end_le x p q
  have hasc : ∀ n, listedB (bS x p q n).2.1 = true ∧ listedB (bS x p q n).2.2 = true := by
    intro n
    induction n with
    | zero =>
      unfold okB2 at h
      simp only [Bool.and_eq_true] at h
      exact ⟨h.1.1, h.1.2⟩
    | succ n ih =>
      refine ⟨?_, ih.1⟩
      rw [bS]
      have key : ∀ (l : List Int) (f : Int → Bool) (last : Int), ascB last l = true → ascB last (l.filter f) = true := by
        intro l f
        induction l with
        | nil => intro last _; rfl
        | cons a l ih2 =>
          intro last hl
          simp only [ascB, Bool.and_eq_true, decide_eq_true_eq] at hl
          cases hf : f a with
          | true =>
            rw [List.filter_cons_of_pos hf]
            simp only [ascB, Bool.and_eq_true, decide_eq_true_eq]
            exact ⟨hl.1, ih2 _ hl.2⟩
          | false =>
            rw [List.filter_cons_of_neg (by rw [hf]; simp)]
            have h3 := ih2 a hl.2
            have mono : ∀ (m : List Int) (u v : Int), u ≤ v → ascB v m = true → ascB u m = true := by
              intro m u v huv hm
              cases m with
              | nil => rfl
              | cons b m =>
                simp only [ascB, Bool.and_eq_true, decide_eq_true_eq] at hm ⊢
                exact ⟨⟨by omega, hm.1.2⟩, hm.2⟩
            exact mono _ _ _ (by omega) h3
      exact key _ _ _ ih.2
  have hlev : ∀ n, n ≤ 16 → ∀ F : List Fil, (∀ i, i < F.length → ∃ a, F[i]? = some (filO x (n + i) a)) → n + F.length ≤ 16 → levB n F = true := by
    intro n hn F
    induction F generalizing n with
    | nil => intro _ _; rfl
    | cons f F ih =>
      intro hF hl
      rw [List.length_cons] at hl
      obtain ⟨a, ha⟩ := hF 0 (by simp)
      simp only [List.getElem?_cons_zero, Option.some.injEq, Nat.add_zero] at ha
      subst ha
      simp only [levB, Bool.and_eq_true, decide_eq_true_eq]
      refine ⟨⟨rfl, chk_filO x n a (by omega)⟩, ih (n + 1) (by omega) (fun i hi => ?_) (by omega)⟩
      obtain ⟨b, hb⟩ := hF (i + 1) (by rw [List.length_cons]; omega)
      exact ⟨b, by rw [List.getElem?_cons_succ] at hb; rw [hb, show n + 1 + i = n + (i + 1) by omega]⟩
  refine chkC_yes ?_ (hasc _).1 ?_
  · show (bS x p q (endB x p q)).1.length ≤ 16
    rw [len_bS]; exact hE
  · refine hlev 0 (by omega) _ (fun i hi => ?_) ?_
    · have hi' : i < endB x p q := by
        have : i < (bS x p q (endB x p q)).1.length := hi
        rwa [len_bS] at this
      exact ⟨_, by rw [Nat.zero_add]; exact bS_get x p q _ i hi'⟩
    · show 0 + (bS x p q (endB x p q)).1.length ≤ 16
      rw [len_bS]; omega
/-- What the law's asked gives. -/
theorem db_any {c : Cas} : (dbN (imgB c) 520).any no16 = false := by
  rw [List.any_eq_false]
  intro b hb
  unfold dbN at hb
  obtain ⟨i, hi, rfl⟩ := List.mem_map.1 hb
  simp [no16, len_blkN (len_imgB c) (List.mem_range.1 hi)]
theorem atL_at {c : Cas} : ∀ {ids : List Int} {n k : Nat}, n < ids.length → k < 33 → (atL c ids)[33 * n + k]? = (whereL c (ids.getD n 0).toNat)[k]?
  | [], _, _, h, _ => by simp at h
  | a :: ids, n, k, h, hk => by
    unfold atL
    rw [List.flatMap_cons]
    cases n with
    | zero => rw [show 33 * 0 + k = k by omega, List.getElem?_append_left (by rw [len_whereL]; exact hk)]; rfl
    | succ n =>
      rw [List.getElem?_append_right (by rw [len_whereL]; omega), len_whereL, show 33 * (n + 1) + k - 33 = 33 * n + k by omega]
      have := atL_at (c := c) (ids := ids) (n := n) (k := k) (by simpa using h) hk
      unfold atL at this
      rw [this]; rfl
theorem siz_answers {db ms : List (List UInt8)} (hdb : ∀ b ∈ db, b.length = 16) (h : ms.length = 132) : sizB (ms.map (V6.answer db)) 132 = true := by
  unfold sizB
  rw [List.length_map, h, Bool.and_eq_true]
  refine ⟨rfl, ?_⟩
  rw [Bool.not_eq_true', List.any_eq_false]
  intro x hx
  obtain ⟨m, _, rfl⟩ := List.mem_map.1 hx
  have := congrArg (fun v : A => match v with | .fz n _ => n | _ => 0) (answer_fz hdb m)
  simp only at this
  simp [no16, ← this]
/-- The blocks that come of both answers are those at the places. -/
theorem rows_blk {c : Cas} {ids : List Int} {coins a b : List (List UInt8)} (hk : askB c ids = true) (hR : ∀ k, k < coins.length → V6.Round (520 : Nat) (atL c ids) coins a b k) (hc : coins.length = 132) (ha : a.length = 132) (hb : b.length = 132) {n j : Nat} (hn : ids[n]? = some (j : Int)) :
    rowsJ (a.map (V6.answer (dbN (imgB c) 520))) (b.map (V6.answer (dbN (imgB c) 520))) n 33 = blkL c j := by
  obtain ⟨_, hi4, hall⟩ := ask_all hk
  have hnl := (List.getElem?_eq_some_iff.1 hn).1
  have hj : j < 1024 := by
    obtain ⟨j', e, h⟩ := num_nat (hall _ (List.mem_of_getElem? hn))
    omega
  have hal := len_atL c ids
  apply List.ext_getElem?
  intro k
  rcases Nat.lt_or_ge k 33 with h | h
  · have h132 : 33 * n + k < coins.length := by omega
    obtain ⟨i, x, y, d, hw, hi, hd, hx, hy, hjn⟩ := reads_at (db := dbN (imgB c) 520) db_any (by rw [len_dbN]; exact hR _ h132) h132 (by omega) (by omega)
    have hwk : (whereL c j)[k]? = some (i : Int) := by
      have h1 := atL_at (c := c) (ids := ids) hnl h
      rw [show (ids.getD n 0).toNat = j by rw [List.getD, hn]; rfl] at h1
      rw [← h1]
      rw [← hw, V6.want_yes (by omega)]
      simp [List.getD, List.getElem?_eq_getElem (show 33 * n + k < (atL c ids).length by omega)]
    have hdi : d = blkN (imgB c) i := by
      unfold dbN at hd
      rw [List.getElem?_map, List.getElem?_range (by rw [len_dbN] at hi; exact hi)] at hd
      simpa using hd.symm
    have hxy : V6.xorL (V6.answer (dbN (imgB c) 520) x) (V6.answer (dbN (imgB c) 520) y) = d := by
      have h16 : ∀ q ∈ dbN (imgB c) 520, q.length = 16 := fun q hq => by
        have := (List.any_eq_false.1 (db_any (c := c))) q hq
        simpa [no16] using this
      have l1 : ∀ m, (V6.answer (dbN (imgB c) 520) m).length = 16 := fun m => by
        have := congrArg (fun v : A => match v with | .fz n _ => n | _ => 0) (answer_fz h16 m)
        exact this.symm
      rw [join_16 (l1 x) (l1 y)] at hjn
      simp only [A.tu.injEq, List.cons.injEq, and_true] at hjn
      have h2 : (V6.xorL (V6.answer (dbN (imgB c) 520) x) (V6.answer (dbN (imgB c) 520) y)).map u8 = d.map u8 := by
        have := congrArg (fun v : A => match v with | .fz _ cs => cs | _ => []) hjn
        exact this
      exact u8_inj h2
    unfold rowsJ blkL
    rw [List.getElem?_map, List.getElem?_range h, List.getElem?_map, hwk]
    simp only [Option.map_some, Int.toNat_natCast]
    rw [show (a.map (V6.answer (dbN (imgB c) 520))).getD (33 * n + k) [] = V6.answer (dbN (imgB c) 520) x by rw [List.getD, hx, Option.getD_some], show (b.map (V6.answer (dbN (imgB c) 520))).getD (33 * n + k) [] = V6.answer (dbN (imgB c) 520) y by rw [List.getD, hy, Option.getD_some], hxy, hdi]
  · rw [List.getElem?_eq_none (by rw [len_rowsJ]; exact h), List.getElem?_eq_none (by rw [blkL, List.length_map, len_whereL]; exact h)]
theorem db_16 {c : Cas} : ∀ q ∈ dbN (imgB c) 520, q.length = 16 := fun q hq => by
  have := (List.any_eq_false.1 (db_any (c := c))) q hq
  simpa [no16] using this
abbrev exL (c : Cas) (ids : List Int) : List Bool := ids.map fun id => hasC c id.toNat
theorem res_ex {c : Cas} (hck : chkC c = true) {ids : List Int} {coins a b : List (List UInt8)} (hk : askB c ids = true) (hR : ∀ k, k < coins.length → V6.Round (520 : Nat) (atL c ids) coins a b k) (hc : coins.length = 132) (ha : a.length = 132) (hb : b.length = 132) {fill : UInt8} :
    resA (headC c fill) ids (a.map (V6.answer (dbN (imgB c) 520))) (b.map (V6.answer (dbN (imgB c) 520))) = .tu [boolsA (exL c ids), .i .i64 0] := by
  have hrs : rsB (headC c fill) ids (a.map (V6.answer (dbN (imgB c) 520))) (b.map (V6.answer (dbN (imgB c) 520))) = true := by
    unfold rsB
    rw [askB_hd, hk, siz_answers db_16 ha, siz_answers db_16 hb]; rfl
  rw [res_yes hrs]
  obtain ⟨_, _, hall⟩ := ask_all hk
  have e : resN (headC c fill) ids (a.map (V6.answer (dbN (imgB c) 520))) (b.map (V6.answer (dbN (imgB c) 520))) ids.length = exL c ids := by
    apply List.ext_getElem?
    intro n
    rcases Nat.lt_or_ge n ids.length with h | h
    · obtain ⟨v, hv⟩ : ∃ v, ids[n]? = some v := ⟨_, List.getElem?_eq_getElem h⟩
      obtain ⟨j, rfl, hj⟩ := num_nat (hall v (List.mem_of_getElem? hv))
      unfold resN
      rw [List.getElem?_map, List.getElem?_range h, List.getElem?_map, hv]
      simp only [Option.map_some]
      rw [show (ids.getD n 0).toNat = j by rw [List.getD, hv, Option.getD_some, Int.toNat_natCast], rows_blk hk hR hc ha hb hv, read_hd, read_has hck, Int.toNat_natCast]
    · rw [List.getElem?_eq_none (by rw [len_resN]; exact h), List.getElem?_eq_none (by rw [List.length_map]; exact h)]
  rw [e]
theorem ex_cases (p q : List Int) (f : Bool) (ids : List Int) : few34 p q = false ∨ (few34 p q = true ∧ 10 < ids.length) ∨ (few34 p q = true ∧ ids.length ≤ 10 ∧ f = false) ∨ (few34 p q = true ∧ ids.length ≤ 10 ∧ f = true) := by
  cases few34 p q
  · exact .inl rfl
  · rcases Nat.lt_or_ge 10 ids.length with h | h
    · exact .inr (.inl ⟨rfl, h⟩)
    · cases f
      · exact .inr (.inr (.inl ⟨rfl, h, rfl⟩))
      · exact .inr (.inr (.inr ⟨rfl, h, rfl⟩))
theorem in_cases {p q : List Int} (hok : okB2 p q = true) (v : Int) : (v ∈ p ∧ ¬ v ∈ q) ∨ (¬ v ∈ p ∧ v ∈ q) ∨ (¬ v ∈ p ∧ ¬ v ∈ q) := by
  by_cases h1 : v ∈ p
  · left
    refine ⟨h1, fun h2 => ?_⟩
    unfold okB2 at hok
    simp only [Bool.and_eq_true] at hok
    have := hok.2
    unfold disjB at this
    have := List.all_eq_true.1 this v h2
    simp [h1] at this
  · by_cases h2 : v ∈ q
    · exact .inr (.inl ⟨h1, h2⟩)
    · exact .inr (.inr ⟨h1, h2⟩)
theorem ans_both {c : Cas} {ids : List Int} {coins a b : List (List UInt8)} (hR : ∀ k, k < coins.length → V6.Round (520 : Nat) (atL c ids) coins a b k) (hc : coins.length = 132) (ha : a.length = 132) (hb : b.length = 132) : ansOk (dbN (imgB c) 520) a = true ∧ ansOk (dbN (imgB c) 520) b = true := by
  rcases reads_cases (db := dbN (imgB c) 520) (at1 := atL c ids) (coins := coins) (a := a) (b := b) (by omega) (by omega) (by omega) (by omega) (by rw [len_dbN]; exact hR) with ⟨h, _⟩ | ⟨_, h⟩
  · rw [db_any] at h; cases h
  · exact h
theorem len_casB {x : List UInt8} {p q : List Int} (hp : p.length ≤ 100) (hq : q.length ≤ 100) : (casB x p q).E.length ≤ 100 ∧ (casB x p q).F.length ≤ 16 := by
  refine ⟨(bS_len hp hq _).1, ?_⟩
  show (bS x p q (endB x p q)).1.length ≤ 16
  rw [len_bS]; exact end_le x p q
end Go.Abs.D2

/-! S7M -/
namespace Go.Abs.D2
open Go Go.Eng Go.Abs Go.Proofs 
set_option linter.unusedSimpArgs false in
set_option linter.unusedVariables false in
set_option maxHeartbeats 1000000 in
set_option maxRecDepth 10000 in
theorem lasked_no (c : Cas) (hx : c.x.length = 32) (ids : List Int) (coins : List (List UInt8)) (e : Int) (he : e ≠ 0) (hA : sAskA c ids coins = .tu [qryE, qryE, .i .i64 e]) : Con Tryd.prog 35 [.ag (casL (headC c 7)), rowsV (dbN (imgB c) 520), .fz ids.length (ids.map (A.i .i64)), .fz coins.length (coins.map V6.slV)] (Ret (.tu [.nl, .i .i64 e])) := by
  refine enter Tryd.func35 rfl Tryd.ntmps35 (by kernel_rfl) (Nat.le_of_ble_eq_true rfl) fun w0 X0 hI => ?_
  refine at_seq ?_
  refine at_region ?_
  refine at_op rfl (n_boxA 4 rfl rfl rfl ?_)
  refine s1 (y_p rfl) rfl <| s1 ((y_p rfl).v (v' := .i .i64 0) rfl) rfl <| ?_
  refine at_nil ?_
  refine x_tn ?_
  refine at_seq ?_
  refine at_region ?_
  refine s1 (y_loadA0 ti27 rfl rfl (cas_len (c := headC c 7) hx)) rfl <| s1 (y_p rfl) rfl <| s1 (y_p rfl) rfl <| ?_
  refine at_op rfl (n_call false rfl (.cons (.pure pu) (.cons (.pure pu) (.cons (.pure pu) (.nil)))) (Con.cast (sask_ok (headC c 7) hx ids coins) ((sAskA_hd c 7 ids coins).trans hA)) pu (.inl rfl) rfl ?_)
  refine s1 (y_p rfl) rfl <| s1 (y_p rfl) rfl <| s1 (y_p rfl) rfl <| s1 (y_p rfl) rfl <| ?_
  refine at_op rfl (n_alloc 10 rfl ti46 rfl rfl ?_)
  refine at_op rfl (n_alloc 11 rfl ti46 rfl rfl ?_)
  refine at_op rfl (n_storeA ti46 rfl rfl rfl (by first | rfl | omega | (simp; done) | (simp [*]; done) | (simp; omega) | (simp [*]; omega) | (simp [D32.len, -List.length_flatten, *]; done) | (simp [D32.len, -List.length_flatten, *]; omega)) (by first | rfl | omega | (simp; done) | (simp [*]; done) | (simp; omega) | (simp [*]; omega) | (simp [D32.len, -List.length_flatten, *]; done) | (simp [D32.len, -List.length_flatten, *]; omega)) ?_)
  refine at_op rfl (n_storeA ti46 rfl rfl rfl (by first | rfl | omega | (simp; done) | (simp [*]; done) | (simp; omega) | (simp [*]; omega) | (simp [D32.len, -List.length_flatten, *]; done) | (simp [D32.len, -List.length_flatten, *]; omega)) (by first | rfl | omega | (simp; done) | (simp [*]; done) | (simp; omega) | (simp [*]; omega) | (simp [D32.len, -List.length_flatten, *]; done) | (simp [D32.len, -List.length_flatten, *]; omega)) ?_)
  refine s1 (y_p rfl) rfl <| ?_
  refine at_nil ?_
  refine x_tn ?_
  refine at_seq ?_
  refine at_seq ?_
  refine at_region ?_
  refine s1 (y_p rfl) rfl <| s1 ((y_p rfl).v (v' := .b true) (congrArg A.b (by simpa using he))) rfl <| ?_
  refine at_nil ?_
  refine x_tn ?_
  refine at_then rfl ?_
  refine at_seq ?_
  refine at_region ?_
  refine s1 (y_p rfl) rfl <| s1 (y_p rfl) rfl <| s1 (y_p rfl) rfl <| ?_
  refine at_nil ?_
  refine x_tn ?_
  refine at_ret ?_
  refine x_tr ?_
  refine at_result (rs := [.tmp 8, .tmp 9]) rfl (r_tmp rfl (r_tmp rfl r_nil)) ?_
  rfl
set_option linter.unusedSimpArgs false in
set_option linter.unusedVariables false in
set_option maxHeartbeats 1000000 in
set_option maxRecDepth 10000 in
theorem lasked_yes (c : Cas) (hx : c.x.length = 32) (hck : chkC c = true) (ids : List Int) (coins a b : List (List UInt8)) (hA : sAskA c ids coins = .tu [.ag [rowsV a], .ag [rowsV b], .i .i64 0]) (hk : askB c ids = true) (hc : coins.length = 132) (hal : a.length = 132) (hbl : b.length = 132) (hR : ∀ k, k < coins.length → V6.Round (520 : Nat) (atL c ids) coins a b k) : Con Tryd.prog 35 [.ag (casL (headC c 7)), rowsV (dbN (imgB c) 520), .fz ids.length (ids.map (A.i .i64)), .fz coins.length (coins.map V6.slV)] (Ret (.tu [boolsA (exL c ids), .i .i64 0])) := by
  refine enter Tryd.func35 rfl Tryd.ntmps35 (by kernel_rfl) (Nat.le_of_ble_eq_true rfl) fun w0 X0 hI => ?_
  refine at_seq ?_
  refine at_region ?_
  refine at_op rfl (n_boxA 4 rfl rfl rfl ?_)
  refine s1 (y_p rfl) rfl <| s1 ((y_p rfl).v (v' := .i .i64 0) rfl) rfl <| ?_
  refine at_nil ?_
  refine x_tn ?_
  refine at_seq ?_
  obtain ⟨ha1, hb1⟩ := ans_both hR hc hal hbl
  refine at_region ?_
  refine s1 (y_loadA0 ti27 rfl rfl (cas_len (c := headC c 7) hx)) rfl <| s1 (y_p rfl) rfl <| s1 (y_p rfl) rfl <| ?_
  refine at_op rfl (n_call false rfl (.cons (.pure pu) (.cons (.pure pu) (.cons (.pure pu) (.nil)))) (Con.cast (sask_ok (headC c 7) hx ids coins) ((sAskA_hd c 7 ids coins).trans hA)) pu (.inl rfl) rfl ?_)
  refine s1 (y_p rfl) rfl <| s1 (y_p rfl) rfl <| s1 (y_p rfl) rfl <| s1 (y_p rfl) rfl <| ?_
  refine at_op rfl (n_alloc 10 rfl ti46 rfl rfl ?_)
  refine at_op rfl (n_alloc 11 rfl ti46 rfl rfl ?_)
  refine at_op rfl (n_storeA ti46 rfl rfl rfl (by first | rfl | omega | (simp; done) | (simp [*]; done) | (simp; omega) | (simp [*]; omega) | (simp [D32.len, -List.length_flatten, *]; done) | (simp [D32.len, -List.length_flatten, *]; omega)) (by first | rfl | omega | (simp; done) | (simp [*]; done) | (simp; omega) | (simp [*]; omega) | (simp [D32.len, -List.length_flatten, *]; done) | (simp [D32.len, -List.length_flatten, *]; omega)) ?_)
  refine at_op rfl (n_storeA ti46 rfl rfl rfl (by first | rfl | omega | (simp; done) | (simp [*]; done) | (simp; omega) | (simp [*]; omega) | (simp [D32.len, -List.length_flatten, *]; done) | (simp [D32.len, -List.length_flatten, *]; omega)) (by first | rfl | omega | (simp; done) | (simp [*]; done) | (simp; omega) | (simp [*]; omega) | (simp [D32.len, -List.length_flatten, *]; done) | (simp [D32.len, -List.length_flatten, *]; omega)) ?_)
  refine s1 (y_p rfl) rfl <| ?_
  refine at_nil ?_
  refine x_tn ?_
  refine at_seq ?_
  refine at_seq ?_
  refine at_region ?_
  refine s1 (y_p rfl) rfl <| s1 ((y_p rfl).v (v' := .b false) (rfl)) rfl <| ?_
  refine at_nil ?_
  refine x_tn ?_
  refine at_else rfl ?_
  refine at_skip ?_
  refine x_tn ?_
  refine at_seq ?_
  refine at_region ?_
  refine s1 (y_p rfl) rfl <| s1 (y_loadA0 ti46 rfl rfl rfl) rfl <| ?_
  refine at_op rfl (n_call false rfl (.cons (.pure pu) (.cons (.pure pu) (.nil))) (Con.cast (vanswer_ok (dbN (imgB c) 520) a) (answersA_yes ha1)) pu (.inl rfl) rfl ?_)
  refine s1 (y_p rfl) rfl <| s1 (y_p rfl) rfl <| s1 (y_p rfl) rfl <| ?_
  refine at_op rfl (n_alloc 13 rfl ti43 rfl rfl ?_)
  refine at_op rfl (n_storeA ti43 rfl rfl rfl (by first | rfl | omega | (simp; done) | (simp [*]; done) | (simp; omega) | (simp [*]; omega) | (simp [D32.len, -List.length_flatten, *]; done) | (simp [D32.len, -List.length_flatten, *]; omega)) (by first | rfl | omega | (simp; done) | (simp [*]; done) | (simp; omega) | (simp [*]; omega) | (simp [D32.len, -List.length_flatten, *]; done) | (simp [D32.len, -List.length_flatten, *]; omega)) ?_)
  refine s1 (y_p rfl) rfl <| ?_
  refine at_nil ?_
  refine x_tn ?_
  refine at_seq ?_
  refine at_seq ?_
  refine at_region ?_
  refine s1 (y_p rfl) rfl <| s1 ((y_p rfl).v (v' := .b false) (rfl)) rfl <| ?_
  refine at_nil ?_
  refine x_tn ?_
  refine at_else rfl ?_
  refine at_skip ?_
  refine x_tn ?_
  refine at_seq ?_
  refine at_region ?_
  refine s1 (y_p rfl) rfl <| s1 (y_loadA0 ti46 rfl rfl rfl) rfl <| ?_
  refine at_op rfl (n_call false rfl (.cons (.pure pu) (.cons (.pure pu) (.nil))) (Con.cast (vanswer_ok (dbN (imgB c) 520) b) (answersA_yes hb1)) pu (.inl rfl) rfl ?_)
  refine s1 (y_p rfl) rfl <| s1 (y_p rfl) rfl <| s1 (y_p rfl) rfl <| ?_
  refine at_op rfl (n_alloc 14 rfl ti43 rfl rfl ?_)
  refine at_op rfl (n_storeA ti43 rfl rfl rfl (by first | rfl | omega | (simp; done) | (simp [*]; done) | (simp; omega) | (simp [*]; omega) | (simp [D32.len, -List.length_flatten, *]; done) | (simp [D32.len, -List.length_flatten, *]; omega)) (by first | rfl | omega | (simp; done) | (simp [*]; done) | (simp; omega) | (simp [*]; omega) | (simp [D32.len, -List.length_flatten, *]; done) | (simp [D32.len, -List.length_flatten, *]; omega)) ?_)
  refine s1 (y_p rfl) rfl <| ?_
  refine at_nil ?_
  refine x_tn ?_
  refine at_seq ?_
  refine at_seq ?_
  refine at_region ?_
  refine s1 (y_p rfl) rfl <| s1 ((y_p rfl).v (v' := .b false) (rfl)) rfl <| ?_
  refine at_nil ?_
  refine x_tn ?_
  refine at_else rfl ?_
  refine at_skip ?_
  refine x_tn ?_
  refine at_seq ?_
  refine at_region ?_
  refine s1 (y_loadA0 ti27 rfl rfl (cas_len (c := headC c 7) hx)) rfl <| s1 (y_p rfl) rfl <| s1 (y_loadA0 ti43 rfl rfl rfl) rfl <| s1 (y_loadA0 ti43 rfl rfl rfl) rfl <| ?_
  refine at_op rfl (n_call false rfl (.cons (.pure pu) (.cons (.pure pu) (.cons (.pure pu) (.cons (.pure pu) (.nil))))) (Con.cast (sresult_ok (headC c 7) hx ids (a.map (V6.answer (dbN (imgB c) 520))) (b.map (V6.answer (dbN (imgB c) 520)))) (res_ex hck hk hR hc hal hbl)) pu (.inl rfl) rfl ?_)
  refine s1 (y_p rfl) rfl <| s1 (y_p rfl) rfl <| s1 (y_p rfl) rfl <| s1 (y_p rfl) rfl <| ?_
  refine at_nil ?_
  refine x_tn ?_
  refine at_ret ?_
  refine at_result (rs := [.tmp 8, .tmp 9]) rfl (r_tmp rfl (r_tmp rfl r_nil)) ?_
  rfl
set_option linter.unusedSimpArgs false in
set_option linter.unusedVariables false in
set_option maxHeartbeats 1000000 in
set_option maxRecDepth 10000 in
theorem law_exact (x : List UInt8) (hx : x.length = 32) (p q ids : List Int) (coins : List (List UInt8)) (hcn : coins.length ≤ maxLen) : Con Tryd.prog 9 [.ag (x.map u8), .fz p.length (p.map (A.i .i64)), .fz q.length (q.map (A.i .i64)), .fz ids.length (ids.map (A.i .i64)), .fz coins.length (coins.map V6.slV)] (Ret (.b true)) := by
  refine enter Tryd.func9 rfl Tryd.ntmps9 (by kernel_rfl) (Nat.le_of_ble_eq_true rfl) fun w0 X0 hI => ?_
  refine at_seq ?_
  refine at_region ?_
  refine at_op rfl (n_boxA 5 rfl rfl rfl ?_)
  refine s1 (y_p rfl) rfl <| ?_
  refine at_nil ?_
  refine x_tn ?_
  refine at_seq ?_
  refine at_seq ?_
  refine at_region ?_
  refine at_op rfl (n_call false rfl (.nil) (sane_ok) pu (.inl rfl) rfl ?_)
  refine s1 (y_p rfl) rfl <| ?_
  refine at_nil ?_
  refine x_tn ?_
  refine at_else rfl ?_
  refine at_skip ?_
  refine x_tn ?_
  refine at_seq ?_
  refine at_seq ?_
  rcases ex_cases p q (V6.few coins 140) ids with hcs | hcs | hcs | hcs
  · skip
    refine at_region ?_
    refine s1 (y_p rfl) rfl <| s1 (y_p rfl) rfl <| ?_
    refine at_op rfl (n_call false rfl (.cons (.pure pu) (.cons (.pure pu) (.nil))) (Con.cast (rfew34_ok p q) (congrArg A.b hcs)) pu (.inl rfl) rfl ?_)
    refine s1 (y_p rfl) rfl <| s1 (y_p rfl) rfl <| g0 rfl rfl rfl rfl <| g0 rfl rfl rfl rfl <| g0 rfl rfl rfl rfl <| s1 (y_p rfl) rfl <| s1 (y_p rfl) rfl <| g0 rfl rfl rfl rfl <| g0 rfl rfl rfl rfl <| g0 rfl rfl rfl rfl <| ?_
    refine s1 (y_p rfl) rfl <| ?_
    refine at_nil ?_
    refine x_tn ?_
    refine at_then rfl ?_
    refine at_seq ?_
    refine at_region ?_
    refine s1 (y_p rfl) rfl <| ?_
    refine at_nil ?_
    refine x_tn ?_
    refine at_ret ?_
    refine x_tr ?_
    refine at_result (rs := [.tmp 10]) rfl (r_tmp rfl r_nil) ?_
    rfl
  · obtain ⟨hf, hi⟩ := hcs
    refine at_region ?_
    refine s1 (y_p rfl) rfl <| s1 (y_p rfl) rfl <| ?_
    refine at_op rfl (n_call false rfl (.cons (.pure pu) (.cons (.pure pu) (.nil))) (Con.cast (rfew34_ok p q) (congrArg A.b hf)) pu (.inl rfl) rfl ?_)
    refine s1 (y_p rfl) rfl <| s1 (y_p rfl) rfl <| g1 rfl rfl (y_p rfl) rfl <| g1 rfl rfl (y_len Tryd.underlying25 rfl rfl rfl) rfl <| g1 rfl rfl ((y_p rfl).v (v' := .b true) (congrArg A.b (decide_eq_true (by omega)))) rfl <| s1 (y_p rfl) rfl <| s1 (y_p rfl) rfl <| g0 rfl rfl rfl rfl <| g0 rfl rfl rfl rfl <| g0 rfl rfl rfl rfl <| ?_
    refine s1 (y_p rfl) rfl <| ?_
    refine at_nil ?_
    refine x_tn ?_
    refine at_then rfl ?_
    refine at_seq ?_
    refine at_region ?_
    refine s1 (y_p rfl) rfl <| ?_
    refine at_nil ?_
    refine x_tn ?_
    refine at_ret ?_
    refine x_tr ?_
    refine at_result (rs := [.tmp 10]) rfl (r_tmp rfl r_nil) ?_
    rfl
  · obtain ⟨hf, hi, hw⟩ := hcs
    refine at_region ?_
    refine s1 (y_p rfl) rfl <| s1 (y_p rfl) rfl <| ?_
    refine at_op rfl (n_call false rfl (.cons (.pure pu) (.cons (.pure pu) (.nil))) (Con.cast (rfew34_ok p q) (congrArg A.b hf)) pu (.inl rfl) rfl ?_)
    refine s1 (y_p rfl) rfl <| s1 (y_p rfl) rfl <| g1 rfl rfl (y_p rfl) rfl <| g1 rfl rfl (y_len Tryd.underlying25 rfl rfl rfl) rfl <| g1 rfl rfl ((y_p rfl).v (v' := .b false) (congrArg A.b (decide_eq_false (by omega)))) rfl <| s1 (y_p rfl) rfl <| s1 (y_p rfl) rfl <| g1 rfl rfl (y_p rfl) rfl <| ?_
    refine at_opg rfl rfl rfl (n_call false rfl (.cons (.pure pu) (.cons (.pure pu) (.nil))) (Con.cast (few36_ok coins 140 hcn) (congrArg A.b hw)) pu (.inl rfl) rfl ?_)
    refine g1 rfl rfl (y_p rfl) rfl <| s1 (y_p rfl) rfl <| ?_
    refine at_nil ?_
    refine x_tn ?_
    refine at_then rfl ?_
    refine at_seq ?_
    refine at_region ?_
    refine s1 (y_p rfl) rfl <| ?_
    refine at_nil ?_
    refine x_tn ?_
    refine at_ret ?_
    refine x_tr ?_
    refine at_result (rs := [.tmp 10]) rfl (r_tmp rfl r_nil) ?_
    rfl
  · obtain ⟨hf, hi, hw⟩ := hcs
    obtain ⟨hp60, hq60⟩ := few34_spec hf
    refine at_region ?_
    refine s1 (y_p rfl) rfl <| s1 (y_p rfl) rfl <| ?_
    refine at_op rfl (n_call false rfl (.cons (.pure pu) (.cons (.pure pu) (.nil))) (Con.cast (rfew34_ok p q) (congrArg A.b hf)) pu (.inl rfl) rfl ?_)
    refine s1 (y_p rfl) rfl <| s1 (y_p rfl) rfl <| g1 rfl rfl (y_p rfl) rfl <| g1 rfl rfl (y_len Tryd.underlying25 rfl rfl rfl) rfl <| g1 rfl rfl ((y_p rfl).v (v' := .b false) (congrArg A.b (decide_eq_false (by omega)))) rfl <| s1 (y_p rfl) rfl <| s1 (y_p rfl) rfl <| g1 rfl rfl (y_p rfl) rfl <| ?_
    refine at_opg rfl rfl rfl (n_call false rfl (.cons (.pure pu) (.cons (.pure pu) (.nil))) (Con.cast (few36_ok coins 140 hcn) (congrArg A.b hw)) pu (.inl rfl) rfl ?_)
    refine g1 rfl rfl (y_p rfl) rfl <| s1 (y_p rfl) rfl <| ?_
    refine at_nil ?_
    refine x_tn ?_
    refine at_else rfl ?_
    refine at_skip ?_
    refine x_tn ?_
    refine at_seq ?_
    rcases tfC (okB2 p q) with hcs | hcs
    · have hb := hcs
      refine at_region ?_
      refine s1 (y_loadA0 ti23 rfl rfl (by simp [hx])) rfl <| s1 (y_p rfl) rfl <| s1 (y_p rfl) rfl <| ?_
      refine at_op rfl (n_call false rfl (.cons (.pure pu) (.cons (.pure pu) (.cons (.pure pu) (.nil)))) (Con.cast (cbuild_ok x hx p q (by omega) (by omega)) (build_no hb)) pu (.inl rfl) rfl ?_)
      refine s1 (y_p rfl) rfl <| s1 (y_p rfl) rfl <| s1 (y_p rfl) rfl <| ?_
      refine at_op rfl (n_alloc 11 rfl ti27 rfl rfl ?_)
      refine at_op rfl (n_storeA ti27 rfl rfl rfl (cas_len (c := cas0) rfl) (by first | rfl | omega | (simp; done) | (simp [*]; done) | (simp; omega) | (simp [*]; omega) | (simp [D32.len, -List.length_flatten, *]; done) | (simp [D32.len, -List.length_flatten, *]; omega)) ?_)
      refine s1 (y_p rfl) rfl <| ?_
      refine at_nil ?_
      refine x_tn ?_
      refine at_seq ?_
      refine at_seq ?_
      refine at_region ?_
      refine s1 (y_p rfl) rfl <| s1 ((y_p rfl).v (v' := .b true) (rfl)) rfl <| ?_
      refine at_nil ?_
      refine x_tn ?_
      refine at_then rfl ?_
      refine at_seq ?_
      refine at_region ?_
      refine s1 (y_p rfl) rfl <| ?_
      refine at_nil ?_
      refine x_tn ?_
      refine at_ret ?_
      refine x_tr ?_
      refine at_result (rs := [.tmp 10]) rfl (r_tmp rfl r_nil) ?_
      rfl
    · have hb := hcs
      have hck := chkC_casB (x := x) hb
      obtain ⟨hEl, hFl⟩ := len_casB (x := x) (p := p) (q := q) (by omega) (by omega)
      have hnE : (casB x p q).E.length ≤ maxLen := by simp only [maxLen]; omega
      refine at_region ?_
      refine s1 (y_loadA0 ti23 rfl rfl (by simp [hx])) rfl <| s1 (y_p rfl) rfl <| s1 (y_p rfl) rfl <| ?_
      refine at_op rfl (n_call false rfl (.cons (.pure pu) (.cons (.pure pu) (.cons (.pure pu) (.nil)))) (Con.cast (cbuild_ok x hx p q (by omega) (by omega)) (build_yes hb)) pu (.inl rfl) rfl ?_)
      refine s1 (y_p rfl) rfl <| s1 (y_p rfl) rfl <| s1 (y_p rfl) rfl <| ?_
      refine at_op rfl (n_alloc 11 rfl ti27 rfl rfl ?_)
      refine at_op rfl (n_storeA ti27 rfl rfl rfl (cas_len (c := casB x p q) hx) (by first | rfl | omega | (simp; done) | (simp [*]; done) | (simp; omega) | (simp [*]; omega) | (simp [D32.len, -List.length_flatten, *]; done) | (simp [D32.len, -List.length_flatten, *]; omega)) ?_)
      refine s1 (y_p rfl) rfl <| ?_
      refine at_nil ?_
      refine x_tn ?_
      refine at_seq ?_
      refine at_seq ?_
      refine at_region ?_
      refine s1 (y_p rfl) rfl <| s1 ((y_p rfl).v (v' := .b false) (rfl)) rfl <| ?_
      refine at_nil ?_
      refine x_tn ?_
      refine at_else rfl ?_
      refine at_skip ?_
      refine x_tn ?_
      refine at_seq ?_
      refine at_region ?_
      refine s1 (y_loadA0 ti27 rfl rfl (cas_len (c := casB x p q) hx)) rfl <| ?_
      refine at_op rfl (n_call false rfl (.cons (.pure pu) (.nil)) (Con.cast (sblocks_ok (casB x p q) hx hnE) (blocks_yes hck)) pu (.inl rfl) rfl ?_)
      refine s1 (y_p rfl) rfl <| s1 (y_p rfl) rfl <| s1 (y_p rfl) rfl <| s1 (y_p rfl) rfl <| s1 (y_p rfl) rfl <| ?_
      refine at_nil ?_
      refine x_tn ?_
      refine at_seq ?_
      rcases sask_form (casB x p q) ids coins with hcs | hcs
      · obtain ⟨e, he, hA⟩ := hcs
        refine at_region ?_
        refine s1 (y_loadA0 ti27 rfl rfl (cas_len (c := casB x p q) hx)) rfl <| ?_
        refine at_op rfl (n_call false rfl (.cons (.pure pu) (.cons (.pure pu) (.nil))) (shd_ok (casB x p q) hx 7 (by omega)) pu (.inl rfl) rfl ?_)
        refine s1 (y_p rfl) rfl <| s1 (y_p rfl) rfl <| s1 (y_p rfl) rfl <| ?_
        refine at_op rfl (n_call false rfl (.cons (.pure pu) (.cons (.pure pu) (.cons (.pure pu) (.cons (.pure pu) (.nil))))) (lasked_no (casB x p q) hx ids coins e he hA) pu (.inl rfl) rfl ?_)
        refine s1 (y_p rfl) rfl <| s1 (y_p rfl) rfl <| s1 (y_p rfl) rfl <| s1 (y_p rfl) rfl <| s1 (y_p rfl) rfl <| ?_
        refine at_nil ?_
        refine x_tn ?_
        refine at_seq ?_
        refine at_seq ?_
        refine at_region ?_
        refine s1 (y_p rfl) rfl <| s1 ((y_p rfl).v (v' := .b false) (rfl)) rfl <| ?_
        refine at_nil ?_
        refine x_tn ?_
        refine at_else rfl ?_
        refine at_skip ?_
        refine x_tn ?_
        refine at_seq ?_
        refine at_seq ?_
        refine at_region ?_
        refine s1 (y_p rfl) rfl <| s1 ((y_p rfl).v (v' := .b true) (congrArg A.b (by simpa using he))) rfl <| ?_
        refine at_nil ?_
        refine x_tn ?_
        refine at_then rfl ?_
        refine at_seq ?_
        refine at_region ?_
        refine s1 (y_loadA0 ti27 rfl rfl (cas_len (c := casB x p q) hx)) rfl <| s1 (y_p rfl) rfl <| s1 (y_p rfl) rfl <| ?_
        refine at_op rfl (n_call false rfl (.cons (.pure pu) (.cons (.pure pu) (.cons (.pure pu) (.nil)))) (Con.cast (sask_ok (casB x p q) hx ids coins) hA) pu (.inl rfl) rfl ?_)
        refine s1 (y_p rfl) rfl <| s1 (y_p rfl) rfl <| s1 (y_p rfl) rfl <| s1 (y_p rfl) rfl <| ?_
        refine at_op rfl (n_alloc 17 rfl ti46 rfl rfl ?_)
        refine at_op rfl (n_alloc 18 rfl ti46 rfl rfl ?_)
        refine at_op rfl (n_storeA ti46 rfl rfl rfl (by first | rfl | omega | (simp; done) | (simp [*]; done) | (simp; omega) | (simp [*]; omega) | (simp [D32.len, -List.length_flatten, *]; done) | (simp [D32.len, -List.length_flatten, *]; omega)) (by first | rfl | omega | (simp; done) | (simp [*]; done) | (simp; omega) | (simp [*]; omega) | (simp [D32.len, -List.length_flatten, *]; done) | (simp [D32.len, -List.length_flatten, *]; omega)) ?_)
        refine at_op rfl (n_storeA ti46 rfl rfl rfl (by first | rfl | omega | (simp; done) | (simp [*]; done) | (simp; omega) | (simp [*]; omega) | (simp [D32.len, -List.length_flatten, *]; done) | (simp [D32.len, -List.length_flatten, *]; omega)) (by first | rfl | omega | (simp; done) | (simp [*]; done) | (simp; omega) | (simp [*]; omega) | (simp [D32.len, -List.length_flatten, *]; done) | (simp [D32.len, -List.length_flatten, *]; omega)) ?_)
        refine s1 (y_p rfl) rfl <| ?_
        refine at_nil ?_
        refine x_tn ?_
        refine at_seq ?_
        refine at_region ?_
        refine s1 (y_p rfl) rfl <| s1 (y_p rfl) rfl <| s1 ((y_p rfl).v (v' := .b true) (congrArg A.b (by simp))) rfl <| s1 (y_p rfl) rfl <| ?_
        refine at_nil ?_
        refine x_tn ?_
        refine at_ret ?_
        refine x_tr ?_
        refine at_result (rs := [.tmp 10]) rfl (r_tmp rfl r_nil) ?_
        rfl
      · obtain ⟨a, b, hA, hk, hcl, hl1, hal, hbl, hR⟩ := hcs
        obtain ⟨_, hi4, hall⟩ := ask_all hk
        refine at_region ?_
        refine s1 (y_loadA0 ti27 rfl rfl (cas_len (c := casB x p q) hx)) rfl <| ?_
        refine at_op rfl (n_call false rfl (.cons (.pure pu) (.cons (.pure pu) (.nil))) (shd_ok (casB x p q) hx 7 (by omega)) pu (.inl rfl) rfl ?_)
        refine s1 (y_p rfl) rfl <| s1 (y_p rfl) rfl <| s1 (y_p rfl) rfl <| ?_
        refine at_op rfl (n_call false rfl (.cons (.pure pu) (.cons (.pure pu) (.cons (.pure pu) (.cons (.pure pu) (.nil))))) (lasked_yes (casB x p q) hx hck ids coins a b hA hk hcl hal hbl hR) pu (.inl rfl) rfl ?_)
        refine s1 (y_p rfl) rfl <| s1 (y_p rfl) rfl <| s1 (y_p rfl) rfl <| s1 (y_p rfl) rfl <| s1 (y_p rfl) rfl <| ?_
        refine at_nil ?_
        refine x_tn ?_
        refine at_seq ?_
        refine at_seq ?_
        refine at_region ?_
        refine s1 (y_p rfl) rfl <| s1 ((y_p rfl).v (v' := .b false) (rfl)) rfl <| ?_
        refine at_nil ?_
        refine x_tn ?_
        refine at_else rfl ?_
        refine at_skip ?_
        refine x_tn ?_
        refine at_seq ?_
        refine at_seq ?_
        refine at_region ?_
        refine s1 (y_p rfl) rfl <| s1 ((y_p rfl).v (v' := .b false) (rfl)) rfl <| ?_
        refine at_nil ?_
        refine x_tn ?_
        refine at_else rfl ?_
        refine at_skip ?_
        refine x_tn ?_
        refine at_seq ?_
        refine at_seq ?_
        refine at_region ?_
        refine s1 (y_p rfl) rfl <| s1 (y_len Tryd.underlying49 rfl rfl rfl) rfl <| s1 (y_p rfl) rfl <| s1 (y_len Tryd.underlying25 rfl rfl rfl) rfl <| s1 ((y_p rfl).v (v' := .b false) (congrArg A.b (by simp))) rfl <| ?_
        refine at_nil ?_
        refine x_tn ?_
        refine at_else rfl ?_
        refine at_skip ?_
        refine x_tn ?_
        refine at_seq ?_
        refine at_seq ?_
        refine at_region ?_
        refine s1 (y_p rfl) rfl <| s1 (y_len Tryd.underlying25 rfl rfl rfl) rfl <| s1 ((y_p rfl).v (v' := .i .i64 0) rfl) rfl <| ?_
        refine at_nil ?_
        refine x_tn ?_
        refine at_block ?_
        refine at_loop (ι := Nat) (fun k => [(1, .fz p.length (p.map (A.i .i64))), (2, .fz q.length (q.map (A.i .i64))), (11, .p 11 0), (15, boolsA (exL (casB x p q) ids)), (83, .fz ids.length (ids.map (A.i .i64))), (84, nJ ids.length), (85, nJ k)]) (fun k => ⟨[(11, some (casL (casB x p q)))]⟩) (fun k => k ≤ ids.length) (fun k => ids.length - k) ?_ ?_
        · exact at_ex (0) (Nat.zero_le _) [(11, some 11)] hI rfl rfl ⟨⟨_, rfl, .pure pu⟩, ⟨_, rfl, .pure pu⟩, ⟨_, rfl, .p rfl⟩, ⟨_, rfl, .pure pu⟩, ⟨_, rfl, .pure pu⟩, ⟨_, rfl, .pure pu⟩, ⟨_, rfl, .pure pu⟩, trivial⟩ ⟨.inr ⟨_, _, rfl, rfl, .pure pul⟩, trivial⟩
        rintro k hk1
        have hxl : (exL (casB x p q) ids).length = ids.length := List.length_map ..
        refine at_seq ?_
        refine at_region ?_
        refine s1 (y_p rfl) rfl <| ?_
        refine at_nil ?_
        refine x_tn ?_
        refine at_seq ?_
        refine at_cond rfl (fun hc86 => ?_) (fun hc86 => ?_)
        · have h86 : k < ids.length := by have := of_decide_eq_true hc86; omega
          obtain ⟨v, hv⟩ : ∃ v, ids[k]? = some v := ⟨_, List.getElem?_eq_getElem h86⟩
          have hnb := hall v (List.mem_of_getElem? hv)
          obtain ⟨j, rfl, hj⟩ := num_nat hnb
          have hbk : (exL (casB x p q) ids)[k]? = some (hasC (casB x p q) j) := by rw [List.getElem?_map, hv]; rfl
          refine at_skip ?_
          refine x_tn ?_
          refine at_seq ?_
          refine at_block ?_
          refine at_seq ?_
          refine at_region ?_
          refine s1 (y_p rfl) rfl <| s1 (y_ixf k Tryd.underlying25 ti3 rfl rfl rfl (by omega) rfl) rfl <| s1 (y_load ti3 rfl rfl (getI4 hv)) rfl <| s1 (y_p rfl) rfl <| s1 (y_p rfl) rfl <| ?_
          refine at_nil ?_
          refine x_tn ?_
          refine at_seq ?_
          refine at_region ?_
          refine s1 (y_loadA0 ti27 rfl rfl (cas_len (c := casB x p q) hx)) rfl <| s1 (y_p rfl) rfl <| ?_
          refine at_op rfl (n_call false rfl (.cons (.pure pu) (.cons (.pure pu) (.nil))) (Con.cast (chas_ok (casB x p q) hx hnE j) (hasc_yes hck hnb)) pu (.inl rfl) rfl ?_)
          refine s1 (y_p rfl) rfl <| s1 (y_p rfl) rfl <| s1 (y_p rfl) rfl <| s1 (y_p rfl) rfl <| s1 (y_p rfl) rfl <| ?_
          refine at_nil ?_
          refine x_tn ?_
          refine at_seq ?_
          rcases in_cases hb (j : Int) with hcs | hcs | hcs
          · obtain ⟨hp1, hq1⟩ := hcs
            have hex : hasC (casB x p q) j = true := (exact_ok hb hj (.inl hp1)).trans (decide_eq_true hp1)
            refine at_region ?_
            refine s1 (y_p rfl) rfl <| s1 ((y_p rfl).v (v' := .b false) (rfl)) rfl <| s1 (y_p rfl) rfl <| g1 rfl rfl (y_p rfl) rfl <| g1 rfl rfl (y_p rfl) rfl <| g1 rfl rfl (y_ixf k Tryd.underlying49 ti4 rfl rfl rfl (by omega) rfl) rfl <| g1 rfl rfl (y_load ti4 rfl rfl (getB hbk)) rfl <| g1 rfl rfl (y_p rfl) rfl <| g1 rfl rfl ((y_neb Tryd.underlying4 rfl rfl).v (v' := .b false) (congrArg A.b (by simp))) rfl <| s1 (y_p rfl) rfl <| ?_
            refine s1 (y_p rfl) rfl <| g1 rfl rfl (y_p rfl) rfl <| g1 rfl rfl (y_p rfl) rfl <| ?_
            refine at_opg rfl rfl rfl (n_call false rfl (.cons (.pure pu) (.cons (.pure pu) (.nil))) (Con.cast (rin_ok p (j : Int) (by simp only [maxLen]; omega)) (congrArg A.b (decide_eq_true hp1))) pu (.inl rfl) rfl ?_)
            refine g1 rfl rfl (y_p rfl) rfl <| g1 rfl rfl (y_p rfl) rfl <| g1 rfl rfl (y_p rfl) rfl <| g1 rfl rfl (y_ixf k Tryd.underlying49 ti4 rfl rfl rfl (by omega) rfl) rfl <| g1 rfl rfl (y_load ti4 rfl rfl (getB hbk)) rfl <| g1 rfl rfl ((y_p rfl).v (v' := .b false) (congrArg A.b (by rw [hex]; rfl))) rfl <| g1 rfl rfl (y_p rfl) rfl <| s1 (y_p rfl) rfl <| s1 (y_p rfl) rfl <| g1 rfl rfl (y_p rfl) rfl <| ?_
            refine g1 rfl rfl (y_p rfl) rfl <| ?_
            refine at_opg rfl rfl rfl (n_call false rfl (.cons (.pure pu) (.cons (.pure pu) (.nil))) (Con.cast (rin_ok q (j : Int) (by simp only [maxLen]; omega)) (congrArg A.b (decide_eq_false hq1))) pu (.inl rfl) rfl ?_)
            refine g1 rfl rfl (y_p rfl) rfl <| g0 rfl rfl rfl rfl <| g0 rfl rfl rfl rfl <| g0 rfl rfl rfl rfl <| g0 rfl rfl rfl rfl <| g1 rfl rfl (y_p rfl) rfl <| s1 (y_p rfl) rfl <| ?_
            refine at_nil ?_
            refine x_tn ?_
            refine at_else rfl ?_
            refine at_skip ?_
            refine x_bn ?_
            refine x_tn ?_
            refine at_region ?_
            refine s1 (addN _ 1 rfl rfl rfl rfl (by omega)) rfl <| s1 (y_p rfl) rfl <| ?_
            refine at_nil ?_
            exact at_end (k + 1) (by omega) (by omega) [(11, some 11)] hI rfl rfl ⟨⟨_, rfl, .pure pu⟩, ⟨_, rfl, .pure pu⟩, ⟨_, rfl, .p rfl⟩, ⟨_, rfl, .pure pu⟩, ⟨_, rfl, .pure pu⟩, ⟨_, rfl, .pure pu⟩, ⟨_, rfl, .pure pu⟩, trivial⟩ ⟨.inr ⟨_, _, rfl, rfl, .pure pul⟩, trivial⟩
          · obtain ⟨hp1, hq1⟩ := hcs
            have hex : hasC (casB x p q) j = false := (exact_ok hb hj (.inr hq1)).trans (decide_eq_false hp1)
            refine at_region ?_
            refine s1 (y_p rfl) rfl <| s1 ((y_p rfl).v (v' := .b false) (rfl)) rfl <| s1 (y_p rfl) rfl <| g1 rfl rfl (y_p rfl) rfl <| g1 rfl rfl (y_p rfl) rfl <| g1 rfl rfl (y_ixf k Tryd.underlying49 ti4 rfl rfl rfl (by omega) rfl) rfl <| g1 rfl rfl (y_load ti4 rfl rfl (getB hbk)) rfl <| g1 rfl rfl (y_p rfl) rfl <| g1 rfl rfl ((y_neb Tryd.underlying4 rfl rfl).v (v' := .b false) (congrArg A.b (by simp))) rfl <| s1 (y_p rfl) rfl <| ?_
            refine s1 (y_p rfl) rfl <| g1 rfl rfl (y_p rfl) rfl <| g1 rfl rfl (y_p rfl) rfl <| ?_
            refine at_opg rfl rfl rfl (n_call false rfl (.cons (.pure pu) (.cons (.pure pu) (.nil))) (Con.cast (rin_ok p (j : Int) (by simp only [maxLen]; omega)) (congrArg A.b (decide_eq_false hp1))) pu (.inl rfl) rfl ?_)
            refine g1 rfl rfl (y_p rfl) rfl <| g0 rfl rfl rfl rfl <| g0 rfl rfl rfl rfl <| g0 rfl rfl rfl rfl <| g0 rfl rfl rfl rfl <| g0 rfl rfl rfl rfl <| g1 rfl rfl (y_p rfl) rfl <| s1 (y_p rfl) rfl <| s1 (y_p rfl) rfl <| g1 rfl rfl (y_p rfl) rfl <| ?_
            refine g1 rfl rfl (y_p rfl) rfl <| ?_
            refine at_opg rfl rfl rfl (n_call false rfl (.cons (.pure pu) (.cons (.pure pu) (.nil))) (Con.cast (rin_ok q (j : Int) (by simp only [maxLen]; omega)) (congrArg A.b (decide_eq_true hq1))) pu (.inl rfl) rfl ?_)
            refine g1 rfl rfl (y_p rfl) rfl <| g1 rfl rfl (y_p rfl) rfl <| g1 rfl rfl (y_p rfl) rfl <| g1 rfl rfl (y_ixf k Tryd.underlying49 ti4 rfl rfl rfl (by omega) rfl) rfl <| g1 rfl rfl ((y_load ti4 rfl rfl (getB hbk)).v (v' := .b false) (congrArg A.b hex)) rfl <| g1 rfl rfl (y_p rfl) rfl <| s1 (y_p rfl) rfl <| ?_
            refine at_nil ?_
            refine x_tn ?_
            refine at_else rfl ?_
            refine at_skip ?_
            refine x_bn ?_
            refine x_tn ?_
            refine at_region ?_
            refine s1 (addN _ 1 rfl rfl rfl rfl (by omega)) rfl <| s1 (y_p rfl) rfl <| ?_
            refine at_nil ?_
            exact at_end (k + 1) (by omega) (by omega) [(11, some 11)] hI rfl rfl ⟨⟨_, rfl, .pure pu⟩, ⟨_, rfl, .pure pu⟩, ⟨_, rfl, .p rfl⟩, ⟨_, rfl, .pure pu⟩, ⟨_, rfl, .pure pu⟩, ⟨_, rfl, .pure pu⟩, ⟨_, rfl, .pure pu⟩, trivial⟩ ⟨.inr ⟨_, _, rfl, rfl, .pure pul⟩, trivial⟩
          · obtain ⟨hp1, hq1⟩ := hcs
            refine at_region ?_
            refine s1 (y_p rfl) rfl <| s1 ((y_p rfl).v (v' := .b false) (rfl)) rfl <| s1 (y_p rfl) rfl <| g1 rfl rfl (y_p rfl) rfl <| g1 rfl rfl (y_p rfl) rfl <| g1 rfl rfl (y_ixf k Tryd.underlying49 ti4 rfl rfl rfl (by omega) rfl) rfl <| g1 rfl rfl (y_load ti4 rfl rfl (getB hbk)) rfl <| g1 rfl rfl (y_p rfl) rfl <| g1 rfl rfl ((y_neb Tryd.underlying4 rfl rfl).v (v' := .b false) (congrArg A.b (by simp))) rfl <| s1 (y_p rfl) rfl <| ?_
            refine s1 (y_p rfl) rfl <| g1 rfl rfl (y_p rfl) rfl <| g1 rfl rfl (y_p rfl) rfl <| ?_
            refine at_opg rfl rfl rfl (n_call false rfl (.cons (.pure pu) (.cons (.pure pu) (.nil))) (Con.cast (rin_ok p (j : Int) (by simp only [maxLen]; omega)) (congrArg A.b (decide_eq_false hp1))) pu (.inl rfl) rfl ?_)
            refine g1 rfl rfl (y_p rfl) rfl <| g0 rfl rfl rfl rfl <| g0 rfl rfl rfl rfl <| g0 rfl rfl rfl rfl <| g0 rfl rfl rfl rfl <| g0 rfl rfl rfl rfl <| g1 rfl rfl (y_p rfl) rfl <| s1 (y_p rfl) rfl <| s1 (y_p rfl) rfl <| g1 rfl rfl (y_p rfl) rfl <| ?_
            refine g1 rfl rfl (y_p rfl) rfl <| ?_
            refine at_opg rfl rfl rfl (n_call false rfl (.cons (.pure pu) (.cons (.pure pu) (.nil))) (Con.cast (rin_ok q (j : Int) (by simp only [maxLen]; omega)) (congrArg A.b (decide_eq_false hq1))) pu (.inl rfl) rfl ?_)
            refine g1 rfl rfl (y_p rfl) rfl <| g0 rfl rfl rfl rfl <| g0 rfl rfl rfl rfl <| g0 rfl rfl rfl rfl <| g0 rfl rfl rfl rfl <| g1 rfl rfl (y_p rfl) rfl <| s1 (y_p rfl) rfl <| ?_
            refine at_nil ?_
            refine x_tn ?_
            refine at_else rfl ?_
            refine at_skip ?_
            refine x_bn ?_
            refine x_tn ?_
            refine at_region ?_
            refine s1 (addN _ 1 rfl rfl rfl rfl (by omega)) rfl <| s1 (y_p rfl) rfl <| ?_
            refine at_nil ?_
            exact at_end (k + 1) (by omega) (by omega) [(11, some 11)] hI rfl rfl ⟨⟨_, rfl, .pure pu⟩, ⟨_, rfl, .pure pu⟩, ⟨_, rfl, .p rfl⟩, ⟨_, rfl, .pure pu⟩, ⟨_, rfl, .pure pu⟩, ⟨_, rfl, .pure pu⟩, ⟨_, rfl, .pure pu⟩, trivial⟩ ⟨.inr ⟨_, _, rfl, rfl, .pure pul⟩, trivial⟩
        · skip
          refine at_exit ?_
          refine x_te ?_
          refine x_te ?_
          refine x_be ?_
          refine x_tn ?_
          refine at_seq ?_
          refine at_region ?_
          refine s1 (y_p rfl) rfl <| ?_
          refine at_nil ?_
          refine x_tn ?_
          refine at_ret ?_
          refine at_result (rs := [.tmp 10]) rfl (r_tmp rfl r_nil) ?_
          rfl
end Go.Abs.D2
