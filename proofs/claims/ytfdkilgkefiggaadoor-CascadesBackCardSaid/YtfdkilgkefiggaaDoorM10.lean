/-
  The engine, the plain laws and the walks that the rows need, part 10. Conditions: none.
-/
import Derived.Test.YtfdkilgkefiggaaDoorM9
import Derived.MapKept
set_option linter.unusedVariables false
set_option linter.unusedSimpArgs false
set_option maxHeartbeats 1000000
set_option maxRecDepth 10000
-- MapE
namespace Go.Eng
open Go Go.MapKept
structure MapF (es : Array MapEntry) (clk : Nat) (f : Int → Option Value) : Prop where
  st : Stamped es clk
  ent : ∀ x ∈ es.toList, ∃ k, x.key = .int .i64 k ∧ f k = some x.val
  has : ∀ k v, f k = some v → ∃ x ∈ es.toList, x.key = .int .i64 k
def updF (f : Int → Option Value) (k : Int) (v : Value) : Int → Option Value := fun j => if j = k then some v else f j
theorem MapF.empty (clk : Nat) : MapF #[] clk (fun _ => none) := ⟨stamped_empty clk, (fun x hx => by simp at hx), (fun k v h => by cases h)⟩
theorem MapF.keys {es : Array MapEntry} {clk : Nat} {f : Int → Option Value} (h : MapF es clk f) : ∀ x ∈ es.toList, IsKey (.int .i64) x.key := fun x hx => by
  obtain ⟨k, e, _⟩ := h.ent x hx
  rw [e]; rfl
theorem MapF.push {es : Array MapEntry} {clk : Nat} {f : Int → Option Value} (h : MapF es clk f) {k : Int} {v : Value} (hn : ∀ x ∈ es.toList, x.key ≠ .int .i64 k) : MapF (es.push { key := .int .i64 k, val := v, born := clk }) (clk + 1) (updF f k v) := by
  refine ⟨stamped_push h.st hn, fun x hx => ?_, fun j u hj => ?_⟩
  · simp only [Array.toList_push, List.mem_append, List.mem_singleton] at hx
    rcases hx with hx | rfl
    · obtain ⟨j, e1, e2⟩ := h.ent x hx
      refine ⟨j, e1, ?_⟩
      unfold updF
      rw [if_neg (fun e => hn x hx (by rw [e1, e])), e2]
    · exact ⟨k, rfl, by unfold updF; rw [if_pos rfl]⟩
  · unfold updF at hj
    split at hj
    · rename_i e; subst e
      exact ⟨_, by simp only [Array.toList_push, List.mem_append, List.mem_singleton]; exact .inr rfl, rfl⟩
    · obtain ⟨x, hx, e⟩ := h.has j u hj
      exact ⟨x, by simp only [Array.toList_push, List.mem_append, List.mem_singleton]; exact .inl hx, e⟩
theorem MapF.modify {es : Array MapEntry} {clk : Nat} {f : Int → Option Value} (h : MapF es clk f) {k : Int} {v : Value} {j : Nat} {e : MapEntry} (hj : es[j]? = some e) (he : e.key = .int .i64 k) : MapF (es.modify j fun e => { e with key := .int .i64 k, val := v }) clk (updF f k v) := by
  have hkey : ∀ e', es[j]? = some e' → ({ e' with key := .int .i64 k, val := v } : MapEntry).key = e'.key := fun e' he' => by rw [hj] at he'; cases he'; exact he.symm
  have hget : ∀ i : Nat, (es.modify j fun e => { e with key := .int .i64 k, val := v })[i]? = if j = i then some { e with key := .int .i64 k, val := v } else es[i]? := fun i => by
    rw [Array.getElem?_modify]
    split
    · rename_i hji; subst hji; rw [hj]; rfl
    · rfl
  refine ⟨stamped_modify h.st _ _ (fun _ _ => rfl) (fun e' _ he' => hkey e' he'), fun x hx => ?_, fun i u hi => ?_⟩
  · obtain ⟨i, hi⟩ := List.mem_iff_getElem?.1 hx
    rw [Array.getElem?_toList, hget] at hi
    split at hi
    · simp only [Option.some.injEq] at hi
      subst hi
      exact ⟨k, rfl, by unfold updF; rw [if_pos rfl]⟩
    · rename_i hji
      obtain ⟨i', e1, e2⟩ := h.ent x (by rw [List.mem_iff_getElem?]; exact ⟨i, by rw [Array.getElem?_toList]; exact hi⟩)
      refine ⟨i', e1, ?_⟩
      unfold updF
      rw [if_neg ?_, e2]
      intro hk
      have hnd := h.st.2.2
      have g1 : (es.toList.map (·.key))[j]? = some (.int .i64 k) := by rw [List.getElem?_map, Array.getElem?_toList, hj]; simp [he]
      have g2 : (es.toList.map (·.key))[i]? = some (.int .i64 k) := by rw [List.getElem?_map, Array.getElem?_toList, hi]; simp [e1, hk]
      have hlt := (List.getElem?_eq_some_iff.1 g1).1
      exact hji ((List.getElem?_inj hlt hnd).1 (g1.trans g2.symm))
  · unfold updF at hi
    split at hi
    · rename_i e'; subst e'
      exact ⟨{ e with key := .int .i64 i, val := v }, by rw [List.mem_iff_getElem?]; exact ⟨j, by rw [Array.getElem?_toList, hget, if_pos rfl]⟩, rfl⟩
    · rename_i hne
      obtain ⟨x, hx, e1⟩ := h.has i u hi
      obtain ⟨q, hq⟩ := List.mem_iff_getElem?.1 hx
      rw [Array.getElem?_toList] at hq
      refine ⟨x, ?_, e1⟩
      rw [List.mem_iff_getElem?]
      refine ⟨q, ?_⟩
      rw [Array.getElem?_toList, hget, if_neg ?_, hq]
      intro hqj
      subst hqj
      rw [hj] at hq; cases hq
      rw [he] at e1
      simp only [Value.int.injEq, true_and] at e1
      exact hne e1.symm
section
variable {P : Program} {n : Nat} {E : Env} {S : List World} {H : List (Nat × Obj)} {Q : Exit → Act → World → Prop}
theorem n_makeMap {d : Nat} {t ty : TypeId} {pos aft g} {K : Act → World → Prop} (hd : Nat.ble (d + 1) n = true)
    (h : ∀ b, leAll S b → ltAll H b → At n ((d, .map (some b)) :: E) S ((b, .map #[] 0) :: H) K) :
    At n E S H (fun a w => (⟨some d, .makeMap t none, ty, pos, aft, g⟩ : Oper).wp P a w K Q) := by
  intro a w hR hG
  have hf := hG.fresh
  show Oper.wp P _ a w K Q
  unfold Oper.wp
  have : (execOp a.eval ⟨some d, .makeMap t none, ty, pos, aft, g⟩).run P w = .ok (.value (.map (some w.heap.size))) { w with heap := w.heap.push (.map #[] 0) } := by
    simp [execOp, Instr.makeMap]
  rw [this]
  exact h w.heap.size hf.1 hf.2 _ _ (hR.put hd _) (hG.alloc _)
theorem n_mapUpdate {t kt et ty : TypeId} {pos aft g} {x y z : Operand} {b clk : Nat} {es : Array MapEntry} {f : Int → Option Value} {k : Int} {v : Value} {K : Act → World → Prop} (i : Nat) (hm : P.underlying t = some (.map kt et)) (hk : P.underlying kt = some (.int .i64))
    (hx : ev E x = some (.map (some b))) (hy : ev E y = some (.int .i64 k)) (hz : ev E z = some v) (hi : H[i]? = some (b, .map es clk)) (hF : MapF es clk f)
    (h : ∀ es' clk', MapF es' clk' (updF f k v) → At n E S (H.set i (b, .map es' clk')) K) :
    At n E S H (fun a w => (⟨none, .mapUpdate t x y z, ty, pos, aft, g⟩ : Oper).wp P a w K Q) := by
  intro a w hR hG
  have hb := hG.own _ (List.mem_of_getElem? hi)
  simp only at hb
  have hkk : IsKey (.int .i64) (Value.int .i64 k) := rfl
  show Oper.wp P _ a w K Q
  unfold Oper.wp
  rcases findNow_spec hkk es.toList 0 hF.keys with ⟨h1, h2⟩ | ⟨j, e, h1, h2, h3⟩
  · have : (execOp a.eval ⟨none, .mapUpdate t x y z, ty, pos, aft, g⟩).run P w = .ok .skip { w with heap := w.heap.setIfInBounds b (.map (es.push { key := .int .i64 k, val := v, born := clk }) (clk + 1)) } := by
      simp [execOp, hR.ev hx, hR.ev hy, hR.ev hz, Instr.mapUpdate, run_underlying hm, MapKept.run_getObj_map hb, MapKept.run_checkKey hk hkk, MapKept.run_findKey hk h1, MapKept.run_setObj_map _ hb, Result.andThen]
    rw [this]
    exact h _ _ (hF.push h2) _ _ hR (hG.set i hi rfl rfl rfl (by simp) (heap_set hb).1 (fun q hq => (heap_set hb).2 q hq))
  · have hj : es[j]? = some e := by simpa using h2
    have : (execOp a.eval ⟨none, .mapUpdate t x y z, ty, pos, aft, g⟩).run P w = .ok .skip { w with heap := w.heap.setIfInBounds b (.map (es.modify j fun e => { e with key := .int .i64 k, val := v }) clk) } := by
      simp [execOp, hR.ev hx, hR.ev hy, hR.ev hz, Instr.mapUpdate, run_underlying hm, MapKept.run_getObj_map hb, MapKept.run_checkKey hk hkk, MapKept.run_findKey hk h1, hj, h3, MapKept.run_keyThatStays hkk, MapKept.run_setObj_map _ hb, Result.andThen]
    rw [this]
    exact h _ _ (hF.modify hj h3) _ _ hR (hG.set i hi rfl rfl rfl (by simp) (heap_set hb).1 (fun q hq => (heap_set hb).2 q hq))
theorem y_lookup {t kt et ty : TypeId} {x y : Operand} {b clk : Nat} {es : Array MapEntry} {f : Int → Option Value} {k : Int} {zv : Value} (i : Nat) (hm : P.underlying t = some (.map kt et)) (hk : P.underlying kt = some (.int .i64)) (hz0 : ∀ w, (zeroValue et).run P w = .ok zv w)
    (hx : ev E x = some (.map (some b))) (hy : ev E y = some (.int .i64 k)) (hi : H[i]? = some (b, .map es clk)) (hF : MapF es clk f) : YO P n E S H (.lookup t x y false) ty ((f k).getD zv) := by
  intro d pos aft g a w hR hG
  have hb := hG.own _ (List.mem_of_getElem? hi)
  simp only at hb
  have hkk : IsKey (.int .i64) (Value.int .i64 k) := rfl
  have hz := hz0 w
  rcases findNow_spec hkk es.toList 0 hF.keys with ⟨h1, h2⟩ | ⟨j, e, h1, h2, h3⟩
  · have hn : f k = none := by
      cases hf : f k with
      | none => rfl
      | some v => obtain ⟨q, hq, e⟩ := hF.has k v hf; exact absurd e (h2 q hq)
    rw [hn]
    simp [execOp, hR.ev hx, hR.ev hy, Instr.lookup, run_underlying hm, MapKept.run_getObj_map hb, MapKept.run_checkKey hk hkk, MapKept.run_findKey hk h1, hz, Result.andThen]
  · obtain ⟨q, e1, e2⟩ := hF.ent e (List.mem_of_getElem? h2)
    rw [h3] at e1
    simp only [Value.int.injEq, true_and] at e1
    subst e1
    rw [e2]
    simp [execOp, hR.ev hx, hR.ev hy, Instr.lookup, run_underlying hm, MapKept.run_getObj_map hb, MapKept.run_checkKey hk hkk, MapKept.run_findKey hk h1, Result.andThen]
end
def RI (w : World) (a : Option Addr) (l : List Int) : Prop := ∀ i v, l[i]? = some v → a = some ⟨ab a, ao a, none⟩ ∧ w.cell? ⟨ab a, ao a + i, none⟩ = some (.int .i64 v)
def setF (L : List Int) : Int → Option Value := fun k => if k ∈ L then some (.bool true) else none
theorem setF_next {L : List Int} {i : Nat} {q : Int} (h : L[i]? = some q) : updF (setF (L.take i)) q (.bool true) = setF (L.take (i + 1)) := by
  funext k
  unfold updF setF
  rw [List.take_add_one, h]
  by_cases e : k = q
  · subst e; simp
  · simp [e]
theorem setF_look (L : List Int) (k : Int) : (setF L k).getD (.bool false) = .bool (decide (k ∈ L)) := by
  unfold setF
  by_cases h : k ∈ L
  · rw [if_pos h, decide_eq_true h]; rfl
  · rw [if_neg h, decide_eq_false h]; rfl
def disjB (a b : List Int) : Bool := b.all fun n => !decide (n ∈ a)
theorem disj_no {a b : List Int} {j : Nat} {q : Int} (h : b[j]? = some q) (hq : q ∈ a) : disjB a b = false := by
  unfold disjB
  rw [List.all_eq_false]
  exact ⟨q, List.mem_of_getElem? h, by simp [hq]⟩
theorem all_next2 {p : Int → Bool} {b : List Int} {j : Nat} {q : Int} (h : b[j]? = some q) (h0 : (b.take j).all p = true) (hq : p q = true) : (b.take (j + 1)).all p = true := by
  rw [List.take_add_one, h]; simp [h0, hq]
end Go.Eng
namespace Go.Eng
open Go
section
variable {P : Program} {n : Nat} {E : Env} {S : List World} {H : List (Nat × Obj)}
theorem y_max {x y : Operand} {a b : Int} {ats : Array TypeId} {ty : TypeId} (hx : ev E x = some (.int .i64 a)) (hy : ev E y = some (.int .i64 b)) : YO P n E S H (.call { callee := .builtin .max, args := #[x, y], argTypes := ats }) ty (.int .i64 (max a b)) := by
  intro d pos aft g a' w hR hG
  have e : (if b > a then b else a) = max a b := by omega
  simp [execOp, resolve, invoke, builtin, hR.ev hx, hR.ev hy, Builtin.max_, Builtin.max2]
  omega
theorem y_min {x y : Operand} {a b : Int} {ats : Array TypeId} {ty : TypeId} (hx : ev E x = some (.int .i64 a)) (hy : ev E y = some (.int .i64 b)) : YO P n E S H (.call { callee := .builtin .min, args := #[x, y], argTypes := ats }) ty (.int .i64 (min a b)) := by
  intro d pos aft g a' w hR hG
  simp [execOp, resolve, invoke, builtin, hR.ev hx, hR.ev hy, Builtin.min_, Builtin.min2]
  omega
end
end Go.Eng
namespace Go.Abs
open Go Go.Eng
section
variable {P : Program} {E : Ev} {st : St}
theorem y_maxN {x y : Operand} {a b c : Nat} {ats : Array TypeId} {ty : TypeId} (hx : ev E x = some (.i .i64 (a : Int))) (hy : ev E y = some (.i .i64 (b : Int))) (hc : max a b = c) : YO P E st (.call { callee := .builtin .max, args := #[x, y], argTypes := ats }) ty (.i .i64 (c : Int)) := by
  intro w0 X0 n β X w1 w hr
  subst hc
  obtain ⟨g1, g2⟩ := hr.evo hx
  obtain ⟨g3, g4⟩ := hr.evo hy
  rw [V_i] at g2 g4
  rw [g2] at g1; rw [g4] at g3
  exact ⟨.int .i64 ((max a b : Nat) : Int), by rw [V_i], hr.old fun w' _ => by have := Eng.y_max (P := P) (n := w1.tmps.size) (S := [w']) (H := []) (ats := ats) (ty := ty) g1 g3; rwa [show max (a : Int) (b : Int) = ((max a b : Nat) : Int) by omega] at this⟩
theorem y_minN {x y : Operand} {a b c : Nat} {ats : Array TypeId} {ty : TypeId} (hx : ev E x = some (.i .i64 (a : Int))) (hy : ev E y = some (.i .i64 (b : Int))) (hc : min a b = c) : YO P E st (.call { callee := .builtin .min, args := #[x, y], argTypes := ats }) ty (.i .i64 (c : Int)) := by
  intro w0 X0 n β X w1 w hr
  subst hc
  obtain ⟨g1, g2⟩ := hr.evo hx
  obtain ⟨g3, g4⟩ := hr.evo hy
  rw [V_i] at g2 g4
  rw [g2] at g1; rw [g4] at g3
  exact ⟨.int .i64 ((min a b : Nat) : Int), by rw [V_i], hr.old fun w' _ => by have := Eng.y_min (P := P) (n := w1.tmps.size) (S := [w']) (H := []) (ats := ats) (ty := ty) g1 g3; rwa [show min (a : Int) (b : Int) = ((min a b : Nat) : Int) by omega] at this⟩
end
end Go.Abs
-- C4D
namespace Go.Abs.D2
open Go Go.Eng Go.Abs Go.Proofs 
end Go.Abs.D2
namespace Go.Eng
open Go Go.Eng Go.Proofs Go.Abs
theorem zero_bool (w : World) : (zeroValue 4).run Tryd.prog w = .ok (.bool false) w := by kernel_rfl
theorem offAll_of {w : World} {b blk clk : Nat} {es : Array MapEntry} (h : w.heap.size ≤ b) : offAll [(b, .map es clk)] w blk := ⟨.inr h, trivial⟩
theorem disj_raw (w : World) (a1 a2 : Option Addr) (c1 c2 : Nat) (l1 l2 : List Int) (h1 : RI w a1 l1) (h2 : RI w a2 l2) (hn1 : l1.length ≤ maxLen) (hn2 : l2.length ≤ maxLen) : Fn Tryd.prog 33 #[.slice a1 l1.length c1, .slice a2 l2.length c2] w (fun v w2 => v = .bool (disjB l1 l2) ∧ RowKit.Below w.heap.size w w2) := by
 simp only [maxLen] at hn1 hn2
 have hlt0 : True := trivial
 refine enter Tryd.func33 rfl Tryd.ntmps33 (by kernel_rfl) rfl ?_
 refine at_seq <| at_region <| s1 (y_p rfl) rfl ?_
 refine at_nil <| x_tn <| at_seq <| at_region ?_
 refine at_op rfl (n_makeMap rfl fun b hbS hbH => ?_)
 have hlb : w.heap.size ≤ b := hbS.1
 refine s1 (y_p rfl) rfl ?_
 refine at_nil <| x_tn <| at_seq <| at_seq <| at_region <| s1 (y_p rfl) rfl <| s1 (y_len Tryd.underlying24 rfl rfl) rfl <| s1 (y_p rfl) rfl ?_
 refine at_nil <| x_tn <| at_block ?_
 refine at_loop (ι := Nat × Array MapEntry × Nat) (fun ⟨i, es, clk⟩ => [(1, .slice a2 l2.length c2), (5, .map (some b)), (11, .slice a1 l1.length c1), (12, .int .i64 (l1.length : Nat)), (13, .int .i64 (i : Nat))]) (fun ⟨i, es, clk⟩ => [w]) (fun ⟨i, es, clk⟩ => [(b, .map es clk)]) (fun ⟨i, es, clk⟩ => i ≤ l1.length ∧ MapF es clk (setF (l1.take i))) (fun ⟨i, es, clk⟩ => l1.length - i) ?_ ?_
 ·exact at_ex (0, #[], 0) ⟨Nat.zero_le _, MapF.empty 0⟩ ⟨rfl, rfl, rfl, rfl, rfl, trivial⟩ (fun _ h => h)
 rintro ⟨i, es, clk⟩ ⟨hi, hF⟩
 dsimp only
 refine at_seq <| at_region <| s1 (y_p rfl) rfl ?_
 refine at_nil <| x_tn <| at_seq ?_
 refine at_cond rfl (fun hc14 => ?_) (fun hc14 => ?_)
 ·have h14 : i < l1.length := by have := of_decide_eq_true hc14; omega
  obtain ⟨q, hq⟩ : ∃ q, l1[i]? = some q := ⟨_, List.getElem?_eq_getElem h14⟩
  have hr := h1 i q hq
  refine at_skip <| x_tn <| at_seq <| at_block <| at_seq <| at_region <| s1 (y_idx1 i Tryd.underlying24 ti3 rfl rfl rfl (by omega) hr.1) rfl <| s1 (y_load ti3 rfl (fun w2 hG2 => hG2.cell' (.head _) hr.2 (offAll_of hlb))) rfl <| s1 (y_p rfl) rfl ?_
  refine at_nil <| x_tn <| at_region <| s1 (y_p rfl) rfl <| s1 (y_p rfl) rfl ?_
  refine at_op rfl (n_mapUpdate 0 Tryd.underlying86 Tryd.underlying3 rfl rfl rfl rfl hF fun es2 clk2 hF2 => ?_)
  refine at_nil <| x_bn <| x_tn <| at_region <| s1 (addN i 1 rfl rfl rfl rfl (by omega)) rfl <| s1 (y_p rfl) rfl ?_
  refine at_nil ?_
  exact at_end (x := (i, es, clk)) (i + 1, es2, clk2) ⟨(show i + 1 ≤ l1.length from by omega), by rw [← setF_next hq]; exact hF2⟩ (show l1.length - (i + 1) < l1.length - i from by omega) ⟨rfl, rfl, rfl, rfl, rfl, trivial⟩ (fun _ h => h)
 ·have h14 : i = l1.length := by have := of_decide_eq_false hc14; omega
  subst h14
  rw [List.take_length] at hF
  refine at_exit <| x_te <| x_te <| x_be <| x_tn <| at_seq <| at_seq <| at_region <| s1 (y_p rfl) rfl <| s1 (y_len Tryd.underlying24 rfl rfl) rfl <| s1 (y_p rfl) rfl ?_
  refine at_nil <| x_tn <| at_block ?_
  refine at_loop (ι := Nat) (fun j => [(5, .map (some b)), (20, .slice a2 l2.length c2), (21, .int .i64 (l2.length : Nat)), (22, .int .i64 (j : Nat))]) (fun j => [w]) (fun j => [(b, .map es clk)]) (fun j => j ≤ l2.length ∧ (l2.take j).all (fun n => !decide (n ∈ l1)) = true) (fun j => l2.length - j) ?_ ?_
  ·exact at_ex 0 ⟨Nat.zero_le _, rfl⟩ ⟨rfl, rfl, rfl, rfl, trivial⟩ (fun _ h => h)
  rintro j ⟨hj, hall⟩
  refine at_seq <| at_region <| s1 (y_p rfl) rfl ?_
  refine at_nil <| x_tn <| at_seq ?_
  refine at_cond rfl (fun hc23 => ?_) (fun hc23 => ?_)
  ·have h23 : j < l2.length := by have := of_decide_eq_true hc23; omega
   obtain ⟨q, hq⟩ : ∃ q, l2[j]? = some q := ⟨_, List.getElem?_eq_getElem h23⟩
   have hr := h2 j q hq
   refine at_skip <| x_tn <| at_seq <| at_block <| at_seq <| at_region <| s1 (y_idx1 j Tryd.underlying24 ti3 rfl rfl rfl (by omega) hr.1) rfl <| s1 (y_load ti3 rfl (fun w2 hG2 => hG2.cell' (.head _) hr.2 (offAll_of hlb))) rfl <| s1 (y_p rfl) rfl ?_
   refine at_nil <| x_tn <| at_seq <| at_region <| s1 (y_p rfl) rfl <| s1 (y_p rfl) rfl <| s1 ((y_lookup 0 Tryd.underlying86 Tryd.underlying3 zero_bool rfl rfl rfl hF).v (setF_look l1 q)) rfl ?_
   refine at_nil <| x_tn ?_
   refine at_cond rfl (fun hc28 => ?_) (fun hc28 => ?_)
   ·skip
    refine at_seq <| at_region <| s1 (y_p rfl) rfl ?_
    refine at_nil <| x_tn <| at_ret <| x_br <| x_tr <| x_tr <| x_br <| x_tr ?_
    refine at_result (rs := [.tmp 4]) rfl (r_tmp rfl r_nil) fun w1 hG1 => ⟨congrArg Value.bool (disj_no hq (of_decide_eq_true hc28)).symm, hG1.below (.head _) (by intro p hp; rw [List.mem_singleton.1 hp]; exact hlb)⟩
   ·skip
    refine at_skip <| x_bn <| x_tn <| at_region <| s1 (addN j 1 rfl rfl rfl rfl (by omega)) rfl <| s1 (y_p rfl) rfl ?_
    refine at_nil ?_
    exact at_end (x := j) (j + 1) ⟨(show j + 1 ≤ l2.length from by omega), all_next2 hq hall (by rw [hc28]; rfl)⟩ (show l2.length - (j + 1) < l2.length - j from by omega) ⟨rfl, rfl, rfl, rfl, trivial⟩ (fun _ h => h)
  ·have h23 : j = l2.length := by have := of_decide_eq_false hc23; omega
   subst h23
   rw [List.take_length] at hall
   refine at_exit <| x_te <| x_te <| x_be <| x_tn <| at_seq <| at_region <| s1 (y_p rfl) rfl ?_
   refine at_nil <| x_tn <| at_ret ?_
   refine at_result (rs := [.tmp 4]) rfl (r_tmp rfl r_nil) fun w1 hG1 => ⟨congrArg Value.bool hall.symm, hG1.below (.head _) (by intro p hp; rw [List.mem_singleton.1 hp]; exact hlb)⟩
end Go.Eng
namespace Go.Abs.D2
open Go Go.Eng Go.Abs Go.Proofs
theorem ri_of {X : Xs} {w : World} {a : Option Addr} {cap : Nat} {l : List Int} (h2 : l.length ≤ cap) (h4 : a = none → cap = 0) (h5 : 0 < cap → ∀ x, a = some x → x.spot = none) (h6 : VM X w (l.map (A.i .i64)) (ab a) (ao a)) : Go.Eng.RI w a l := fun i v hi => by
 have hlt := (List.getElem?_eq_some_iff.1 hi).1
 obtain ⟨_, u, e1, e2, _⟩ := VM_get h6 (j := i) (c := .i .i64 v) (by rw [List.getElem?_map, hi]; rfl)
 rw [V_i] at e2
 subst e2
 refine ⟨?_, e1⟩
 cases a with
 | none => exact absurd (h4 rfl) (by omega)
 | some x =>
  have := h5 (by omega) x rfl
  obtain ⟨b, o, s⟩ := x
  simp only at this
  subst this; rfl
theorem disjoint_ok (a b : List Int) (hn1 : a.length ≤ maxLen) (hn2 : b.length ≤ maxLen) : Con Tryd.prog 33 [.fz a.length (a.map (A.i .i64)), .fz b.length (b.map (A.i .i64))] (Ret (.b (Go.Eng.disjB a b))) := by
 intro w X β us hd hX hgl ho hi hv
 simp only [VS] at hv
 obtain ⟨u1, r1, rfl, v1, u2, r2, rfl, v2, rfl⟩ := hv
 simp only [V] at v1 v2
 obtain ⟨a1, c1, rfl, e2, e3, e4, e5, e6⟩ := v1
 obtain ⟨a2, c2, rfl, g2, g3, g4, g5, g6⟩ := v2
 refine Eng.Fn.mono (Go.Eng.disj_raw w a1 a2 c1 c2 a b (ri_of e2 e4 e5 e6) (ri_of g2 g4 g5 g6) hn1 hn2) fun v w' ⟨hv, hb⟩ => ?_
 subst hv
 refine ⟨.b (Go.Eng.disjB a b), β, X, ⟨[]⟩, rfl, fun _ _ h => h, fun _ _ h => .inl h, .of ⟨hb.os, hb.tape, hb.output, hb.size, fun k hk _ => hb.block k hk, fun s hs => by cases hs⟩ (ExtB.refl β) (fun q o h => Nat.lt_of_lt_of_le (hX q o h) hb.size) hd (fun id cs h => by cases h) (fun i j ci cj q M N _ h _ _ _ => by cases h), by simp only [V]⟩
end Go.Abs.D2
-- C4R
namespace Go.Abs.D2
open Go Go.Eng Go.Abs
def addsI (x : List UInt8) (lv nb : Int) (D : List UInt8) (l : List Int) : List UInt8 := l.foldl (fun D id => stepF x lv nb D id) D
theorem addsI_next {x : List UInt8} {lv nb : Int} {D : List UInt8} {l : List Int} {i : Nat} {q : Int} (h : l[i]? = some q) : stepF x lv nb (addsI x lv nb D (l.take i)) q = addsI x lv nb D (l.take (i + 1)) := by
  unfold addsI; rw [List.take_add_one, h]; simp
theorem chk_addsI (x : List UInt8) (lv nb : Int) (l : List Int) : ∀ D, chkB lv nb (addsI x lv nb D l) = chkB lv nb D := by
  induction l with
  | nil => intro D; rfl
  | cons a l ih => intro D; show chkB lv nb (addsI x lv nb (stepF x lv nb D a) l) = _; rw [ih, chk_stepF]
theorem bit_step {x : List UInt8} {l n j : Nat} {D : List UInt8} (h : chkB l n D = true) (hj : j < 1024) (k : Nat) : bitA (stepF x l n D j) k = (bitA D k || (k == bN x l n j 0 || k == bN x l n j 1)) := by
  have hok := okB_eq h hj
  obtain ⟨l', n', e1, e2, _, h2, _, h4, _⟩ := chk_nat h
  unfold stepF
  rw [hok, if_pos rfl]
  have hn : n = n' := by omega
  subst hn
  exact bit_addD (by omega) h4 k
theorem bit_addsI {x : List UInt8} {l n : Nat} (L : List Int) : ∀ {D : List UInt8}, chkB l n D = true → (∀ q ∈ L, 0 ≤ q ∧ q < 1024) → ∀ k, bitA (addsI x l n D L) k = (bitA D k || L.any fun q => k == bN x l n q.toNat 0 || k == bN x l n q.toNat 1) := by
  induction L with
  | nil => intro D _ _ k; simp [addsI]
  | cons a L ih =>
    intro D h hL k
    obtain ⟨j, rfl⟩ : ∃ j : Nat, a = (j : Int) := ⟨a.toNat, by have := hL a (.head _); omega⟩
    have hj := hL _ (.head _)
    show bitA (addsI x l n (stepF x l n D j) L) k = _
    rw [ih (by rw [chk_stepF]; exact h) (fun q hq => hL q (.tail _ hq)), bit_step h (by omega), List.any_cons]
    simp [Bool.or_assoc]
theorem has_addsI {x : List UInt8} {l n j : Nat} {L : List Int} {D : List UInt8} (h : chkB l n D = true) (hL : ∀ q ∈ L, 0 ≤ q ∧ q < 1024) (hj : (j : Int) ∈ L) : hasD x l n j (addsI x l n D L) = true := by
  unfold hasD
  rw [bit_addsI L h hL, bit_addsI L h hL]
  have h0 : (L.any fun q => bN x l n j 0 == bN x l n q.toNat 0 || bN x l n j 0 == bN x l n q.toNat 1) = true := List.any_eq_true.2 ⟨_, hj, by simp⟩
  have h1 : (L.any fun q => bN x l n j 1 == bN x l n q.toNat 0 || bN x l n j 1 == bN x l n q.toNat 1) = true := List.any_eq_true.2 ⟨_, hj, by simp⟩
  rw [h0, h1]; simp
def nbOf (l : List Int) : Nat := min (max (4 * l.length) 8) 4096
theorem nbOf_ok (l : List Int) : 8 ≤ nbOf l ∧ nbOf l ≤ 4096 := by unfold nbOf; omega
def zeroD (n : Nat) : List UInt8 := List.replicate ((n + 7) / 8) 0
def filO (x : List UInt8) (i : Nat) (a : List Int) : Fil := ⟨(i : Nat), (nbOf a : Nat), addsI x (i : Nat) (nbOf a : Nat) (zeroD (nbOf a)) a⟩
def wrongL (x : List UInt8) (f : Fil) (b : List Int) : List Int := b.filter fun n => hasV x f.lv f.nb f.D n
def bS (x : List UInt8) (p q : List Int) : Nat → List Fil × List Int × List Int
  | 0 => ([], p, q)
  | n + 1 => ((bS x p q n).1 ++ [filO x n (bS x p q n).2.1], wrongL x (filO x n (bS x p q n).2.1) (bS x p q n).2.2, (bS x p q n).2.1)
theorem len_bS (x : List UInt8) (p q : List Int) : ∀ n, (bS x p q n).1.length = n
  | 0 => rfl
  | n + 1 => by rw [bS, List.length_append, len_bS x p q n]; rfl
def goB (x : List UInt8) (p q : List Int) (n : Nat) : Bool := !(bS x p q n).2.1.isEmpty
theorem goB_no {x : List UInt8} {p q : List Int} {n : Nat} (h : goB x p q n = false) : (bS x p q n).2.1 = [] := by
  unfold goB at h
  simpa using h
theorem goB_yes {x : List UInt8} {p q : List Int} {n : Nat} (h : 0 < (bS x p q n).2.1.length) : goB x p q n = true := by
  unfold goB
  cases hl : (bS x p q n).2.1 with
  | nil => rw [hl] at h; simp at h
  | cons => rfl
@[irreducible] def endB (x : List UInt8) (p q : List Int) : Nat := passT (goB x p q) 16
theorem endB_eq (x : List UInt8) (p q : List Int) : endB x p q = passT (goB x p q) 16 := by unfold endB; rfl
def casB (x : List UInt8) (p q : List Int) : Cas := ⟨x, (bS x p q (endB x p q)).1, (bS x p q (endB x p q)).2.1⟩
def okB2 (p q : List Int) : Bool := listedB p && listedB q && disjB p q
theorem bS_sub (x : List UInt8) (p q : List Int) : ∀ n, (∀ v ∈ (bS x p q n).2.1, v ∈ p ∨ v ∈ q) ∧ ∀ v ∈ (bS x p q n).2.2, v ∈ p ∨ v ∈ q
  | 0 => ⟨fun _ h => .inl h, fun _ h => .inr h⟩
  | n + 1 => ⟨fun v h => (bS_sub x p q n).2 v ((List.mem_filter.1 h).1), fun v h => (bS_sub x p q n).1 v h⟩
theorem bS_num {x : List UInt8} {p q : List Int} (h : okB2 p q = true) (n : Nat) : (∀ v ∈ (bS x p q n).2.1, 0 ≤ v ∧ v < 1024) ∧ ∀ v ∈ (bS x p q n).2.2, 0 ≤ v ∧ v < 1024 := by
  unfold okB2 at h
  simp only [Bool.and_eq_true] at h
  have h1 := listed_mem h.1.1
  have h2 := listed_mem h.1.2
  obtain ⟨g1, g2⟩ := bS_sub x p q n
  exact ⟨fun v hv => (g1 v hv).elim (h1 v) (h2 v), fun v hv => (g2 v hv).elim (h1 v) (h2 v)⟩
structure Lv (x : List UInt8) (p q : List Int) (j n : Nat) : Prop where
  a : (j : Int) ∈ (bS x p q n).2.1 → ((j : Int) ∈ p ↔ n % 2 = 0)
  b : (j : Int) ∈ (bS x p q n).2.2 → ((j : Int) ∈ p ↔ n % 2 = 1)
theorem lv_ok {x : List UInt8} {p q : List Int} {j : Nat} (hd : ∀ v : Int, v ∈ p → v ∈ q → False) : ∀ n, Lv x p q j n
  | 0 => ⟨fun h => ⟨fun _ => rfl, fun _ => h⟩, fun h => ⟨fun h2 => absurd h (fun h => hd _ h2 h), fun e => absurd e (by omega)⟩⟩
  | n + 1 => by
    have ih := lv_ok (x := x) (j := j) hd n
    refine ⟨fun h => ?_, fun h => ?_⟩
    · have := ih.b ((List.mem_filter.1 h).1)
      rw [this]; omega
    · have := ih.a h
      rw [this]; omega
theorem bS_nd {x : List UInt8} {p q : List Int} {j : Nat} (hd : ∀ v : Int, v ∈ p → v ∈ q → False) (n : Nat) : (j : Int) ∈ (bS x p q n).2.1 → (j : Int) ∈ (bS x p q n).2.2 → False := fun h1 h2 => by
  have h := lv_ok (x := x) (j := j) hd n
  have e1 := h.a h1
  have e2 := h.b h2
  rw [e1] at e2
  omega
theorem gone_next {x : List UInt8} {p q : List Int} {j n : Nat} (h1 : (j : Int) ∉ (bS x p q n).2.1) (h2 : (j : Int) ∉ (bS x p q n).2.2) : ∀ m, n ≤ m → (j : Int) ∉ (bS x p q m).2.1 ∧ (j : Int) ∉ (bS x p q m).2.2 := by
  intro m hm
  induction m with
  | zero => have : n = 0 := by omega
            subst this; exact ⟨h1, h2⟩
  | succ m ih =>
    rcases Nat.lt_or_ge n (m + 1) with h | h
    · obtain ⟨g1, g2⟩ := ih (by omega)
      exact ⟨fun h => g2 ((List.mem_filter.1 h).1), g1⟩
    · have : n = m + 1 := by omega
      subst this; exact ⟨h1, h2⟩
theorem chk_filO (x : List UInt8) (i : Nat) (a : List Int) (hi : i < 16) : chkB (i : Nat) (nbOf a : Nat) (addsI x (i : Nat) (nbOf a : Nat) (zeroD (nbOf a)) a) = true := by
  rw [chk_addsI]
  exact chk_zero (nat_sized hi (nbOf_ok a).1 (nbOf_ok a).2)
theorem bS_get (x : List UInt8) (p q : List Int) : ∀ n i, i < n → (bS x p q n).1[i]? = some (filO x i (bS x p q i).2.1)
  | 0, i, h => by omega
  | n + 1, i, h => by
    rw [bS]
    rcases Nat.lt_or_ge i n with h2 | h2
    · rw [List.getElem?_append_left (by rw [len_bS]; exact h2)]; exact bS_get x p q n i h2
    · have : i = n := by omega
      subst this
      rw [List.getElem?_append_right (by rw [len_bS]; omega), len_bS]; simp
theorem end_le (x : List UInt8) (p q : List Int) : endB x p q ≤ 16 := by rw [endB_eq]; exact passT_le _ _
theorem hasAt_bS {x : List UInt8} {p q : List Int} {j i : Nat} (h : i < endB x p q) : hasAt (casB x p q) j i = hasD x i (nbOf (bS x p q i).2.1) j (filO x i (bS x p q i).2.1).D :=
  hasAt_some (c := casB x p q) (f := filO x i (bS x p q i).2.1) (n := nbOf (bS x p q i).2.1) (bS_get x p q (endB x p q) i h) rfl
theorem hasV_filO {x : List UInt8} {i j : Nat} {a : List Int} (hi : i < 16) (hj : j < 1024) : hasV x (filO x i a).lv (filO x i a).nb (filO x i a).D j = hasD x i (nbOf a) j (filO x i a).D := by
  unfold hasV
  rw [show (filO x i a).lv = ((i : Nat) : Int) from rfl, show (filO x i a).nb = ((nbOf a : Nat) : Int) from rfl, show (filO x i a).D = addsI x (i : Nat) (nbOf a : Nat) (zeroD (nbOf a)) a from rfl, okB_eq (chk_filO x i a hi) hj]
  simp
theorem passT_at (p : Nat → Bool) : ∀ n, (passT p n = n ∧ ∀ t, t < n → p t = true) ∨ (passT p n < n ∧ (∀ t, t < passT p n → p t = true) ∧ p (passT p n) = false)
  | 0 => .inl ⟨rfl, fun t h => by omega⟩
  | n + 1 => by
    rcases passT_at p n with ⟨h1, h2⟩ | ⟨h1, h2, h3⟩
    · cases hp : p n with
      | true =>
        left
        have e : passT p (n + 1) = n + 1 := by unfold passT; rw [if_pos ⟨h1, hp⟩]
        exact ⟨e, fun t ht => (Nat.lt_or_ge t n).elim (h2 t) fun hg => by have : t = n := by omega
                                                                          subst this; exact hp⟩
      | false =>
        right
        have e : passT p (n + 1) = n := by unfold passT; rw [if_neg (by rw [hp]; simp), h1]
        rw [e]
        exact ⟨by omega, h2, hp⟩
    · right
      have e : passT p (n + 1) = passT p n := by rw [passT, if_neg (by omega)]
      rw [e]
      exact ⟨by omega, h2, h3⟩
theorem exact_ok {x : List UInt8} {p q : List Int} (hok : okB2 p q = true) {j : Nat} (hj : j < 1024) (hpq : (j : Int) ∈ p ∨ (j : Int) ∈ q) : hasC (casB x p q) j = decide ((j : Int) ∈ p) := by
  have hd : ∀ v : Int, v ∈ p → v ∈ q → False := fun v h1 h2 => by
    unfold okB2 at hok
    simp only [Bool.and_eq_true] at hok
    have := hok.2
    unfold disjB at this
    have := List.all_eq_true.1 this v h2
    simp [h1] at this
  have hE := end_le x p q
  -- aS long aS all filters are passed the number is in one of the lists
  have stay : ∀ m, m ≤ endB x p q → (∀ t, t < m → hasAt (casB x p q) j t = true) → (j : Int) ∈ (bS x p q m).2.1 ∨ (j : Int) ∈ (bS x p q m).2.2 := by
    intro m
    induction m with
    | zero => intro _ _; exact hpq
    | succ m ih =>
      intro hm hall
      rcases ih (by omega) (fun t ht => hall t (by omega)) with h | h
      · exact .inr h
      · left
        have := hall m (by omega)
        rw [hasAt_bS (by omega)] at this
        rw [bS]
        exact List.mem_filter.2 ⟨h, by rw [hasV_filO (by omega) hj]; exact this⟩
  have stop : ∀ m, m < endB x p q → (∀ t, t < m → hasAt (casB x p q) j t = true) → hasAt (casB x p q) j m = false → (j : Int) ∈ (bS x p q m).2.2 ∧ inE (bS x p q (endB x p q)).2.1 j = false := by
    intro m hm hall hno
    have hna : (j : Int) ∉ (bS x p q m).2.1 := fun h => by
      rw [hasAt_bS hm] at hno
      have h2 := bS_num (x := x) hok m
      have := has_addsI (x := x) (l := m) (n := nbOf (bS x p q m).2.1) (D := zeroD (nbOf (bS x p q m).2.1)) (chk_zero (nat_sized (by omega) (nbOf_ok _).1 (nbOf_ok _).2)) h2.1 h
      rw [show (filO x m (bS x p q m).2.1).D = addsI x (m : Nat) (nbOf (bS x p q m).2.1 : Nat) (zeroD (nbOf (bS x p q m).2.1)) (bS x p q m).2.1 from rfl, this] at hno
      cases hno
    have hb : (j : Int) ∈ (bS x p q m).2.2 := (stay m (by omega) hall).elim (fun h => absurd h hna) id
    refine ⟨hb, ?_⟩
    have h1 : (j : Int) ∉ (bS x p q (m + 1)).2.1 := fun h => by
      rw [bS] at h
      have := (List.mem_filter.1 h).2
      rw [hasV_filO (by omega) hj, ← hasAt_bS hm, hno] at this
      cases this
    have h2 : (j : Int) ∉ (bS x p q (m + 1)).2.2 := hna
    have := (gone_next h1 h2 (endB x p q) (by omega)).1
    unfold inE
    rw [List.any_eq_false]
    intro v hv
    simp only [beq_iff_eq]
    intro e; subst e; exact this hv
  unfold hasC
  have hlen : (casB x p q).F.length = endB x p q := len_bS ..
  rw [hlen]
  show ((passT (hasAt (casB x p q) j) (endB x p q) % 2 == 1) != inE (bS x p q (endB x p q)).2.1 j) = _
  rcases passT_at (hasAt (casB x p q) j) (endB x p q) with ⟨h1, h2⟩ | ⟨h1, h2, h3⟩
  · rw [h1]
    have hin := stay _ (Nat.le_refl _) h2
    have hl := lv_ok (x := x) (j := j) hd (endB x p q)
    rcases hin with ha | hb
    · -- sixteen levels
      have h16 : endB x p q = 16 := by
        rcases passT_at (goB x p q) 16 with ⟨e, _⟩ | ⟨_, _, e⟩
        · exact (endB_eq x p q).trans e
        · rw [← endB_eq] at e
          rw [goB_no e] at ha
          cases ha
      have e1 := hl.a ha
      have hi : inE (bS x p q (endB x p q)).2.1 j = true := List.any_eq_true.2 ⟨_, ha, by simp⟩
      rw [hi, decide_eq_true (e1.2 (by omega))]
      rw [h16]; rfl
    · have hi : inE (bS x p q (endB x p q)).2.1 j = false := by
        unfold inE
        rw [List.any_eq_false]
        intro v hv
        simp only [beq_iff_eq]
        intro e; subst e
        exact bS_nd hd _ hv hb
      have e1 := hl.b hb
      rw [hi, Bool.bne_false]
      by_cases hp : (j : Int) ∈ p
      · rw [decide_eq_true hp, e1.1 hp]; rfl
      · rw [decide_eq_false hp]
        have h0 : ¬ (endB x p q % 2 = 1) := fun h => hp (e1.2 h)
        have : endB x p q % 2 = 0 := by omega
        rw [this]; rfl
  · obtain ⟨hb, hi⟩ := stop _ h1 h2 h3
    have e1 := (lv_ok (x := x) (j := j) hd _).b hb
    rw [hi, Bool.bne_false]
    by_cases hp : (j : Int) ∈ p
    · rw [decide_eq_true hp, e1.1 hp]; rfl
    · rw [decide_eq_false hp]
      have h0 : ¬ (passT (hasAt (casB x p q) j) (endB x p q) % 2 = 1) := fun h => hp (e1.2 h)
      have : passT (hasAt (casB x p q) j) (endB x p q) % 2 = 0 := by omega
      rw [this]; rfl
@[irreducible] def buildA (x : List UInt8) (p q : List Int) : A := if okB2 p q then .tu [.ag (casL (casB x p q)), .i .i64 0] else .tu [.ag (casL ⟨List.replicate 32 0, [], []⟩), .i .i64 340]
theorem build_no {x : List UInt8} {p q : List Int} (h : okB2 p q = false) : buildA x p q = .tu [.ag (casL ⟨List.replicate 32 0, [], []⟩), .i .i64 340] := by unfold buildA; rw [h]; rfl
theorem build_yes {x : List UInt8} {p q : List Int} (h : okB2 p q = true) : buildA x p q = .tu [.ag (casL (casB x p q)), .i .i64 0] := by unfold buildA; rw [h]; rfl
theorem ok2_cases (p q : List Int) : (listedB p = false ∧ okB2 p q = false) ∨ (listedB p = true ∧ listedB q = false ∧ okB2 p q = false) ∨ (listedB p = true ∧ listedB q = true ∧ disjB p q = false ∧ okB2 p q = false) ∨ (listedB p = true ∧ listedB q = true ∧ disjB p q = true ∧ okB2 p q = true) := by
  unfold okB2
  cases listedB p <;> cases listedB q <;> cases disjB p q <;> simp
theorem filt_next {l : List Int} {p : Int → Bool} {i : Nat} {q : Int} (h : l[i]? = some q) (hp : p q = true) : ((l.take i).filter p).map iA ++ [.i .i64 q] = ((l.take (i + 1)).filter p).map iA := by
  rw [List.take_add_one, h]; simp [hp]
theorem filt_miss {l : List Int} {p : Int → Bool} {i : Nat} {q : Int} (h : l[i]? = some q) (hp : p q = false) : (l.take i).filter p = (l.take (i + 1)).filter p := by
  rw [List.take_add_one, h]; simp [hp]
theorem bS_flat (x : List UInt8) (p q : List Int) (n : Nat) : ((bS x p q n).1).flatMap filC ++ filC (filO x n (bS x p q n).2.1) = ((bS x p q (n + 1)).1).flatMap filC := by
  rw [bS]; simp
theorem bS_len {x : List UInt8} {p q : List Int} (hp : p.length ≤ 100) (hq : q.length ≤ 100) : ∀ n, (bS x p q n).2.1.length ≤ 100 ∧ (bS x p q n).2.2.length ≤ 100
  | 0 => ⟨hp, hq⟩
  | n + 1 => ⟨Nat.le_trans (List.length_filter_le _ _) (bS_len hp hq n).2, (bS_len hp hq n).1⟩
theorem add_fil {x : List UInt8} {i : Nat} {a : List Int} {k : Nat} {q : Int} (hi : i < 16) (hq : a[k]? = some q) (h0 : 0 ≤ q ∧ q < 1024) : addA x (i : Nat) (nbOf a : Nat) (addsI x (i : Nat) (nbOf a : Nat) (zeroD (nbOf a)) (a.take k)) q = .tu [filA (i : Nat) (nbOf a : Nat) (addsI x (i : Nat) (nbOf a : Nat) (zeroD (nbOf a)) (a.take (k + 1))), .i .i64 0] := by
  obtain ⟨j, rfl⟩ : ∃ j : Nat, q = (j : Int) := ⟨q.toNat, by omega⟩
  have hc : chkB (i : Nat) (nbOf a : Nat) (addsI x (i : Nat) (nbOf a : Nat) (zeroD (nbOf a)) (a.take k)) = true := by
    rw [chk_addsI]; exact chk_zero (nat_sized hi (nbOf_ok a).1 (nbOf_ok a).2)
  rw [add_yes2 (okB_eq hc (by omega)), addsI_next hq]
theorem end_no {x : List UInt8} {p q : List Int} {n : Nat} (h : n < 16) (h1 : ∀ t, t < n → goB x p q t = true) (h2 : goB x p q n = false) : endB x p q = n := by rw [endB_eq]; exact passT_no h h1 h2
theorem end_all {x : List UInt8} {p q : List Int} (h1 : ∀ t, t < 16 → goB x p q t = true) : endB x p q = 16 := by rw [endB_eq]; exact passT_all h1
theorem cas_form {x : List UInt8} {p q : List Int} {n : Nat} (h : endB x p q = n) : casB x p q = ⟨x, (bS x p q n).1, (bS x p q n).2.1⟩ := by subst h; rfl
theorem wrong_next {x : List UInt8} {f : Fil} {l : List Int} {i : Nat} {q : Int} (h : l[i]? = some q) (hp : hasV x f.lv f.nb f.D q = true) : (wrongL x f (l.take i)).map iA ++ [.i .i64 q] = (wrongL x f (l.take (i + 1))).map iA := filt_next h hp
theorem wrong_miss {x : List UInt8} {f : Fil} {l : List Int} {i : Nat} {q : Int} (h : l[i]? = some q) (hp : hasV x f.lv f.nb f.D q = false) : wrongL x f (l.take i) = wrongL x f (l.take (i + 1)) := filt_miss h hp
theorem len_wrong (x : List UInt8) (f : Fil) (l : List Int) : (wrongL x f l).length ≤ l.length := List.length_filter_le _ _
theorem wrong_len {x : List UInt8} {f : Fil} {l : List Int} {i : Nat} {q : Int} (h : l[i]? = some q) (hp : hasV x f.lv f.nb f.D q = true) : (wrongL x f (l.take i)).length + 1 = (wrongL x f (l.take (i + 1))).length := by
  have := congrArg List.length (wrong_next h hp)
  simpa using this
theorem goB_nil {x : List UInt8} {p q : List Int} {n : Nat} (h : ¬ 0 < (bS x p q n).2.1.length) : goB x p q n = false := by
  unfold goB
  have : (bS x p q n).2.1 = [] := List.length_eq_zero_iff.1 (by omega)
  rw [this]; rfl
theorem end_any {x : List UInt8} {p q : List Int} {n : Nat} (hn : n ≤ 16) (h1 : ∀ t, t < n → goB x p q t = true) (h : ¬ 0 < (bS x p q n).2.1.length) : endB x p q = n := by
  rcases Nat.lt_or_ge n 16 with h2 | h2
  · exact end_no h2 h1 (goB_nil h)
  · have : n = 16 := by omega
    subst this; exact end_all h1
theorem st_salt {x : List UInt8} : (Z32.map u8 ++ [A.nl, A.nl]).take 0 ++ cellsA (.ag (x.map u8)) ++ (Z32.map u8 ++ [A.nl, A.nl]).drop (0 + 32) = x.map u8 ++ [.nl, .nl] := by
  show [] ++ x.map u8 ++ [A.nl, A.nl] = _
  rfl
theorem tail_get1 {x : List UInt8} (hx : x.length = 32) (a b : A) : ((x.map u8 ++ [a, b]).drop 33) = [b] := by
  rw [show 33 = 32 + 1 from rfl, ← List.drop_drop, tail_get hx]; rfl
theorem tail_set1 {x : List UInt8} (hx : x.length = 32) (v a b : A) : (x.map u8 ++ [a, b]).set 33 v = x.map u8 ++ [a, v] := by
  rw [List.set_append_right _ _ (by simp [hx]), List.length_map, hx]; rfl
theorem cas_end {x : List UInt8} {p q : List Int} {n : Nat} (h : endB x p q = n) : x.map u8 ++ [.fz n ((bS x p q n).1.flatMap filC), .fz (bS x p q n).2.1.length ((bS x p q n).2.1.map iA)] = casL (casB x p q) := by
  rw [cas_form h, casL, filsA, intsA, len_bS]
end Go.Abs.D2
-- C4E
namespace Go.Abs.D2
open Go Go.Eng Go.Abs Go.Proofs 
theorem cbuild1_ok (x : List UInt8) (hx : x.length = 32) (f : Fil) (q : Int) : Con Tryd.prog 35 [.i .i64 q, .fp (x.map u8), .fp (filC f)] (Ret (.b (hasV x f.lv f.nb f.D q))) := by
 refine enter Tryd.func35 rfl Tryd.ntmps35 (by kernel_rfl) (Nat.le_of_ble_eq_true rfl) fun w0 X0 hI => ?_
 refine at_seq <| at_region <| s1 (y_p rfl) rfl ?_
 refine at_nil <| x_tn <| at_seq <| at_region <| s1 (y_loadA ti23 rfl rfl (List.take_of_length_le (by simp [hx])) (by simp [hx])) rfl <| s1 (y_loadA ti50 rfl rfl rfl rfl) rfl <| s1 (y_p rfl) rfl ?_
 refine at_op rfl (n_call false rfl (.cons (.pure pu) (.cons (.pure pu) (.cons (.pure pu) (.nil)))) (Con.cast (fhas_ok x f.lv f.nb q f.D hx) (has_form ..)) pu (.inl rfl) rfl ?_)
 refine s1 (y_p rfl) rfl <| s1 (y_p rfl) rfl <| s1 (y_p rfl) rfl <| s1 (y_p rfl) rfl <| s1 (y_p rfl) rfl ?_
 refine at_nil <| x_tn <| at_seq <| at_region <| s1 (y_p rfl) rfl <| s1 (y_p rfl) rfl ?_
 refine at_nil <| x_tn <| at_ret ?_
 refine at_result (rs := [.tmp 4]) rfl (r_tmp rfl r_nil) ?_
 rfl
theorem cchoose_ok (x : List UInt8) (hx : x.length = 32) (f : Fil) (l : List Int) (hn : l.length ≤ 100) : Con Tryd.prog 34 [.fz l.length (l.map (A.i .i64)), .fn (.func 35) [] [.fp (x.map u8), .fp (filC f)]] (Ret (intsA (wrongL x f l))) := by
 refine enter Tryd.func34 rfl Tryd.ntmps34 (by kernel_rfl) (Nat.le_of_ble_eq_true rfl) fun w0 X0 hI => ?_
 refine at_seq <| at_region <| s1 (y_p rfl) rfl ?_
 refine at_nil <| x_tn <| at_seq <| at_seq <| at_region <| s1 (y_p rfl) rfl <| s1 (y_len Tryd.underlying24 rfl rfl rfl) rfl <| s1 ((y_p rfl).v (v' := .i .i64 0) rfl) rfl ?_
 refine at_nil <| x_tn <| at_block ?_
 refine at_loop (ι := Nat) (fun i => [(1, .fn (.func 35) [] [.fp (x.map u8), .fp (filC f)]), (4, .sl 119 1 0 (wrongL x f (l.take i)).length), (7, .fz l.length (l.map (A.i .i64))), (8, nJ l.length), (9, nJ i)]) (fun i => ⟨[(119, some ((wrongL x f (l.take i)).map iA))]⟩) (fun i => i ≤ l.length) (fun i => l.length - i) ?_ ?_
 ·exact at_ex (0) (Nat.zero_le _) [(119, none)] hI rfl rfl ⟨⟨_, rfl, .pure pu⟩, ⟨_, rfl, .nl rfl⟩, ⟨_, rfl, .pure pu⟩, ⟨_, rfl, .pure pu⟩, ⟨_, rfl, .pure pu⟩, trivial⟩ ⟨.inl ⟨rfl, rfl⟩, trivial⟩
 rintro i hi
 have hwl := len_wrong x f (l.take i)
 rw [List.length_take] at hwl
 refine at_seq <| at_region <| s1 (y_p rfl) rfl ?_
 refine at_nil <| x_tn <| at_seq ?_
 refine at_cond rfl (fun hc10 => ?_) (fun hc10 => ?_)
 ·have h10 : i < l.length := by have := of_decide_eq_true hc10; omega
  obtain ⟨q, hq⟩ : ∃ q, l[i]? = some q := ⟨_, List.getElem?_eq_getElem h10⟩
  refine at_skip <| x_tn <| at_seq <| at_block <| at_seq <| at_region <| s1 (y_ixf i Tryd.underlying24 ti3 rfl rfl rfl (by omega) rfl) rfl <| s1 (y_load ti3 rfl rfl (getI4 hq)) rfl <| s1 (y_p rfl) rfl ?_
  refine at_nil <| x_tn <| at_seq <| at_region <| s1 (y_p rfl) rfl <| s1 (y_p rfl) rfl ?_
  refine at_op rfl (n_callv false rfl rfl (.cons (.pure pu) (.cons (.pure pu) (.cons (.pure pu) .nil))) (cbuild1_ok x hx f q) pu (.inl rfl) rfl ?_)
  refine at_nil <| x_tn ?_
  refine at_cond rfl (fun hc15 => ?_) (fun hc15 => ?_)
  ·have hwn := wrong_len hq hc15
   refine at_region <| s1 (y_p rfl) rfl <| s1 (y_p rfl) rfl ?_
   refine at_op rfl (n_bs1 18 rfl Tryd.underlying24 ti3 rfl rfl rfl rfl rfl ?_)
   refine at_op rfl (n_app 19 rfl Tryd.underlying24 ti3 rfl (.sl rfl (by simp)) rfl (SM_full rfl (by first | rfl | omega | (simp <;> omega) | (simp [*] <;> omega))) (by simp) (by simp only [maxLen]; omega) (by omega) rfl (wrong_next hq hc15) rfl ?_)
   refine s1 (y_p rfl) rfl ?_
   refine at_nil <| x_bn <| x_tn <| at_region <| s1 (addN _ 1 rfl rfl rfl rfl (by omega)) rfl <| s1 (y_p rfl) rfl ?_
   refine at_nil ?_
   exact at_end (i + 1) (by omega) (by omega) [(119, some 19)] hI rfl rfl ⟨⟨_, rfl, .pure pu⟩, ⟨_, rfl, .sl rfl (by first | rfl | omega | (simp <;> omega) | (simp [*] <;> omega))⟩, ⟨_, rfl, .pure pu⟩, ⟨_, rfl, .pure pu⟩, ⟨_, rfl, .pure pu⟩, trivial⟩ ⟨.inr ⟨_, _, rfl, rfl, .pure pul⟩, trivial⟩
  ·have hfm := wrong_miss hq hc15
   have hwn : (wrongL x f (l.take i)).length = (wrongL x f (l.take (i + 1))).length := by rw [hfm]
   refine at_skip <| x_bn <| x_tn <| at_region <| s1 (addN _ 1 rfl rfl rfl rfl (by omega)) rfl <| s1 (y_p rfl) rfl ?_
   refine at_nil ?_
   exact at_end (i + 1) (by omega) (by omega) [(119, some 119)] hI rfl rfl ⟨⟨_, rfl, .pure pu⟩, ⟨_, rfl, .sl rfl (by first | rfl | omega | (simp <;> omega) | (simp [*] <;> omega))⟩, ⟨_, rfl, .pure pu⟩, ⟨_, rfl, .pure pu⟩, ⟨_, rfl, .pure pu⟩, trivial⟩ ⟨.inr ⟨_, _, rfl, rfl, .of (by rw [hfm]) (.pure pul)⟩, trivial⟩
 ·obtain rfl : i = l.length := by have := of_decide_eq_false hc10; omega
  refine at_exit <| x_te <| x_te <| x_be <| x_tn <| at_seq ?_
  refine at_frz 4 rfl rfl pul (view_eq (by simp) rfl) ?_
  refine at_say 4 rfl (v' := intsA (wrongL x f l)) (by rw [List.take_length]) ?_
  refine at_region <| s1 (y_p rfl) rfl <| s1 (y_p rfl) rfl ?_
  refine at_nil <| x_tn <| at_ret ?_
  refine at_result (rs := [.tmp 4]) rfl (r_tmp rfl r_nil) ?_
  rfl
theorem cbuild_ok (x : List UInt8) (hx : x.length = 32) (p q : List Int) (hp : p.length ≤ 100) (hq100 : q.length ≤ 100) : Con Tryd.prog 14 [.ag (x.map u8), .fz p.length (p.map (A.i .i64)), .fz q.length (q.map (A.i .i64))] (Ret (buildA x p q)) := by
 refine enter Tryd.func14 rfl Tryd.ntmps14 (by kernel_rfl) (Nat.le_of_ble_eq_true rfl) fun w0 X0 hI => ?_
 refine at_seq <| at_region ?_
 refine at_op rfl (n_boxA 3 rfl rfl rfl ?_)
 refine at_op rfl (n_alloc 6 rfl ti27 rfl rfl ?_)
 refine s1 ((y_p rfl).v (v' := .i .i64 0) rfl) rfl ?_
 refine at_nil <| x_tn <| at_seq <| at_seq ?_
 rcases ok2_cases p q with hcs | hcs | hcs | hcs
 ·obtain ⟨h1, hb⟩ := hcs
  refine at_frzP 3 rfl rfl pul ?_
  refine at_region <| s1 (y_p rfl) rfl ?_
  refine at_op rfl (n_call false rfl (.cons (.pure pu) (.nil)) (Con.cast (listed_ok p (by simp only [maxLen]; omega)) (congrArg A.b h1)) pu (.inl rfl) rfl ?_)
  refine s1 ((y_p rfl).v (v' := .b true) (rfl)) rfl <| s1 (y_p rfl) rfl <| g0 rfl rfl rfl rfl <| g0 rfl rfl rfl rfl <| g0 rfl rfl rfl rfl <| s1 (y_p rfl) rfl <| s1 (y_p rfl) rfl <| g0 rfl rfl rfl rfl <| g0 rfl rfl rfl rfl <| g0 rfl rfl rfl rfl ?_
  refine g0 rfl rfl rfl rfl <| s1 (y_p rfl) rfl ?_
  refine at_nil <| x_tn ?_
  refine at_then rfl ?_
  refine at_seq <| at_region <| s1 (y_loadA0 ti27 rfl rfl rfl) rfl ?_
  refine at_op rfl (n_storeA ti27 rfl rfl rfl (by first | rfl | omega | (simp <;> omega) | (simp [*] <;> omega)) (by first | rfl | omega | (simp <;> omega) | (simp [*] <;> omega)) ?_)
  refine s1 ((y_p rfl).v (v' := .i .i64 340) rfl) rfl ?_
  refine at_nil <| x_tn <| at_ret <| x_tr ?_
  refine at_sayO 6 (cs' := Z32.map u8 ++ [.nl, .nl]) rfl rfl ?_
  refine at_wkO 6 rfl wk_cas0 ?_
  refine at_result (rs := [.cell 6 27, .tmp 7]) rfl (r_cellA ti27 rfl rfl rfl rfl (r_tmp rfl r_nil)) ?_
  show A.tu _ = _; rw [build_no hb]; rfl
 ·obtain ⟨h1, h2, hb⟩ := hcs
  refine at_frzP 3 rfl rfl pul ?_
  refine at_region <| s1 (y_p rfl) rfl ?_
  refine at_op rfl (n_call false rfl (.cons (.pure pu) (.nil)) (Con.cast (listed_ok p (by simp only [maxLen]; omega)) (congrArg A.b h1)) pu (.inl rfl) rfl ?_)
  refine s1 ((y_p rfl).v (v' := .b false) (rfl)) rfl <| s1 (y_p rfl) rfl <| g1 rfl rfl (y_p rfl) rfl ?_
  refine at_opg rfl rfl rfl (n_call false rfl (.cons (.pure pu) (.nil)) (Con.cast (listed_ok q (by simp only [maxLen]; omega)) (congrArg A.b h2)) pu (.inl rfl) rfl ?_)
  refine g1 rfl rfl ((y_p rfl).v (v' := .b true) (rfl)) rfl <| s1 (y_p rfl) rfl <| s1 (y_p rfl) rfl <| g0 rfl rfl rfl rfl <| g0 rfl rfl rfl rfl <| g0 rfl rfl rfl rfl <| g0 rfl rfl rfl rfl <| s1 (y_p rfl) rfl ?_
  refine at_nil <| x_tn ?_
  refine at_then rfl ?_
  refine at_seq <| at_region <| s1 (y_loadA0 ti27 rfl rfl rfl) rfl ?_
  refine at_op rfl (n_storeA ti27 rfl rfl rfl (by first | rfl | omega | (simp <;> omega) | (simp [*] <;> omega)) (by first | rfl | omega | (simp <;> omega) | (simp [*] <;> omega)) ?_)
  refine s1 ((y_p rfl).v (v' := .i .i64 340) rfl) rfl ?_
  refine at_nil <| x_tn <| at_ret <| x_tr ?_
  refine at_sayO 6 (cs' := Z32.map u8 ++ [.nl, .nl]) rfl rfl ?_
  refine at_wkO 6 rfl wk_cas0 ?_
  refine at_result (rs := [.cell 6 27, .tmp 7]) rfl (r_cellA ti27 rfl rfl rfl rfl (r_tmp rfl r_nil)) ?_
  show A.tu _ = _; rw [build_no hb]; rfl
 ·obtain ⟨h1, h2, h3, hb⟩ := hcs
  refine at_frzP 3 rfl rfl pul ?_
  refine at_region <| s1 (y_p rfl) rfl ?_
  refine at_op rfl (n_call false rfl (.cons (.pure pu) (.nil)) (Con.cast (listed_ok p (by simp only [maxLen]; omega)) (congrArg A.b h1)) pu (.inl rfl) rfl ?_)
  refine s1 ((y_p rfl).v (v' := .b false) (rfl)) rfl <| s1 (y_p rfl) rfl <| g1 rfl rfl (y_p rfl) rfl ?_
  refine at_opg rfl rfl rfl (n_call false rfl (.cons (.pure pu) (.nil)) (Con.cast (listed_ok q (by simp only [maxLen]; omega)) (congrArg A.b h2)) pu (.inl rfl) rfl ?_)
  refine g1 rfl rfl ((y_p rfl).v (v' := .b false) (rfl)) rfl <| s1 (y_p rfl) rfl <| s1 (y_p rfl) rfl <| g1 rfl rfl (y_p rfl) rfl <| g1 rfl rfl (y_p rfl) rfl ?_
  refine at_opg rfl rfl rfl (n_call false rfl (.cons (.pure pu) (.cons (.pure pu) (.nil))) (Con.cast (disjoint_ok p q (by simp only [maxLen]; omega) (by simp only [maxLen]; omega)) (congrArg A.b h3)) pu (.inl rfl) rfl ?_)
  refine g1 rfl rfl ((y_p rfl).v (v' := .b true) (rfl)) rfl <| s1 (y_p rfl) rfl ?_
  refine at_nil <| x_tn ?_
  refine at_then rfl ?_
  refine at_seq <| at_region <| s1 (y_loadA0 ti27 rfl rfl rfl) rfl ?_
  refine at_op rfl (n_storeA ti27 rfl rfl rfl (by first | rfl | omega | (simp <;> omega) | (simp [*] <;> omega)) (by first | rfl | omega | (simp <;> omega) | (simp [*] <;> omega)) ?_)
  refine s1 ((y_p rfl).v (v' := .i .i64 340) rfl) rfl ?_
  refine at_nil <| x_tn <| at_ret <| x_tr ?_
  refine at_sayO 6 (cs' := Z32.map u8 ++ [.nl, .nl]) rfl rfl ?_
  refine at_wkO 6 rfl wk_cas0 ?_
  refine at_result (rs := [.cell 6 27, .tmp 7]) rfl (r_cellA ti27 rfl rfl rfl rfl (r_tmp rfl r_nil)) ?_
  show A.tu _ = _; rw [build_no hb]; rfl
 ·obtain ⟨h1, h2, h3, hb⟩ := hcs
  refine at_frzP 3 rfl rfl pul ?_
  refine at_region <| s1 (y_p rfl) rfl ?_
  refine at_op rfl (n_call false rfl (.cons (.pure pu) (.nil)) (Con.cast (listed_ok p (by simp only [maxLen]; omega)) (congrArg A.b h1)) pu (.inl rfl) rfl ?_)
  refine s1 ((y_p rfl).v (v' := .b false) (rfl)) rfl <| s1 (y_p rfl) rfl <| g1 rfl rfl (y_p rfl) rfl ?_
  refine at_opg rfl rfl rfl (n_call false rfl (.cons (.pure pu) (.nil)) (Con.cast (listed_ok q (by simp only [maxLen]; omega)) (congrArg A.b h2)) pu (.inl rfl) rfl ?_)
  refine g1 rfl rfl ((y_p rfl).v (v' := .b false) (rfl)) rfl <| s1 (y_p rfl) rfl <| s1 (y_p rfl) rfl <| g1 rfl rfl (y_p rfl) rfl <| g1 rfl rfl (y_p rfl) rfl ?_
  refine at_opg rfl rfl rfl (n_call false rfl (.cons (.pure pu) (.cons (.pure pu) (.nil))) (Con.cast (disjoint_ok p q (by simp only [maxLen]; omega) (by simp only [maxLen]; omega)) (congrArg A.b h3)) pu (.inl rfl) rfl ?_)
  refine g1 rfl rfl ((y_p rfl).v (v' := .b false) (rfl)) rfl <| s1 (y_p rfl) rfl ?_
  refine at_nil <| x_tn ?_
  refine at_else rfl ?_
  refine at_skip <| x_tn <| at_seq ?_
  refine at_sayO 6 (cs' := Z32.map u8 ++ [.nl, .nl]) rfl rfl ?_
  refine at_region <| s1 (y_loadA ti23 rfl rfl (List.take_of_length_le (by simp [hx])) (by simp [hx])) rfl <| s1 (y_fld Tryd.underlying27 rfl ti23 (by decide) rfl rfl) rfl ?_
  refine at_say 30 rfl (v' := .p 6 0) rfl ?_
  refine at_op rfl (n_store ti23 rfl rfl rfl rfl rfl (by rw [show cellsA (A.ag (x.map u8)) = x.map u8 from rfl, List.length_map, hx]) (Nat.le_of_ble_eq_true rfl) st_salt ?_)
  refine at_nil <| x_tn <| at_seq <| at_region <| s1 (y_p rfl) rfl <| s1 (y_p rfl) rfl <| s1 (y_p rfl) rfl <| s1 (y_p rfl) rfl ?_
  refine at_nil <| x_tn <| at_seq <| at_block ?_
  refine at_loop (ι := Nat) (fun n => [(3, .fp (x.map u8)), (6, .p 6 0), (8, intsA (bS x p q n).2.1), (9, intsA (bS x p q n).2.2)]) (fun n => ⟨[(6, some (x.map u8 ++ [.sl 180 3 0 n, .nl])), (180, some ((bS x p q n).1.flatMap filC))]⟩) (fun n => n ≤ 16 ∧ ∀ t, t < n → goB x p q t = true) (fun n => 16 - n) ?_ ?_
  ·exact at_ex (0) (⟨by omega, fun t ht => absurd ht (by omega)⟩) [(6, some 6), (180, none)] hI rfl rfl ⟨⟨_, rfl, .pure pu⟩, ⟨_, rfl, .p rfl⟩, ⟨_, rfl, .pure pu⟩, ⟨_, rfl, .pure pu⟩, trivial⟩ ⟨.inr ⟨_, _, rfl, rfl, .app (.pure pul) (.cons (.nl rfl) (.cons (.pure pu) .nil))⟩, .inl ⟨rfl, rfl⟩, trivial⟩
  rintro n ⟨hn, hgo⟩
  obtain ⟨hal, hbl⟩ := bS_len (x := x) hp hq100 n
  have hfl : ((bS x p q n).1.flatMap filC).length = n * 3 := by rw [flat_len, len_bS]
  have hnb := nbOf_ok (bS x p q n).2.1
  have hnum := (bS_num (x := x) hb n).1
  refine at_seq <| at_seq <| at_region <| s1 (y_p rfl) rfl <| s1 (y_len Tryd.underlying24 rfl rfl rfl) rfl <| s1 (y_p rfl) rfl <| s1 (y_p rfl) rfl ?_
  refine at_bc 36 rfl (fun hc36 => ?_) (fun hc36 => ?_)
  ·have h36 : 0 < (bS x p q n).2.1.length := by have := of_decide_eq_true hc36; omega
   refine g1 rfl rfl (y_fld Tryd.underlying27 rfl ti25 (by decide) rfl rfl) rfl <| g1 rfl rfl (y_load ti25 rfl rfl (congrArg (fun l => l[0]?) (tail_get hx _))) rfl <| g1 rfl rfl (y_len Tryd.underlying25 rfl rfl rfl) rfl <| g1 rfl rfl (y_p rfl) rfl <| s1 (y_p rfl) rfl ?_
   refine at_nil <| x_tn ?_
   refine at_cond rfl (fun hc41 => ?_) (fun hc41 => ?_)
   ·have h41 : n < 16 := by have := of_decide_eq_true hc41; omega
    refine at_skip <| x_tn <| at_block <| at_seq <| at_region <| s1 (y_fld Tryd.underlying27 rfl ti25 (by decide) rfl rfl) rfl <| s1 (y_load ti25 rfl rfl (congrArg (fun l => l[0]?) (tail_get hx _))) rfl <| s1 (y_len Tryd.underlying25 rfl rfl rfl) rfl <| s1 (y_p rfl) rfl <| s1 (y_len Tryd.underlying24 rfl rfl rfl) rfl <| s1 (mulN 4 _ rfl rfl rfl rfl (by omega)) rfl <| s1 (y_maxN (a := 4 * (bS x p q n).2.1.length) (b := 8) rfl rfl rfl) rfl <| s1 (y_minN (a := max (4 * (bS x p q n).2.1.length) 8) (b := 4096) (c := nbOf (bS x p q n).2.1) rfl rfl rfl) rfl ?_
    refine at_op rfl (n_call false rfl (.cons (.pure pu) (.cons (.pure pu) (.nil))) (Con.cast (fnew_ok n (nbOf (bS x p q n).2.1)) (new_yes (nat_sized h41 hnb.1 hnb.2))) pu (.inl rfl) rfl ?_)
    refine s1 (y_p rfl) rfl <| s1 (y_p rfl) rfl <| s1 (y_p rfl) rfl ?_
    refine at_op rfl (n_alloc 10 rfl ti50 rfl rfl ?_)
    refine at_op rfl (n_storeA ti50 rfl rfl rfl (by first | rfl | omega | (simp <;> omega) | (simp [*] <;> omega)) (by first | rfl | omega | (simp <;> omega) | (simp [*] <;> omega)) ?_)
    refine s1 (y_p rfl) rfl ?_
    refine at_nil <| x_tn <| at_seq <| at_seq <| at_region <| s1 (y_p rfl) rfl <| s1 ((y_p rfl).v (v' := .b false) (rfl)) rfl ?_
    refine at_nil <| x_tn ?_
    refine at_else rfl ?_
    refine at_skip <| x_tn <| at_seq <| at_seq <| at_region <| s1 (y_p rfl) rfl <| s1 (y_len Tryd.underlying24 rfl rfl rfl) rfl <| s1 ((y_p rfl).v (v' := .i .i64 0) rfl) rfl ?_
    refine at_nil <| x_tn <| at_block ?_
    refine at_loop (ι := Nat) (fun k => [(3, .fp (x.map u8)), (6, .p 6 0), (8, intsA (bS x p q n).2.1), (9, intsA (bS x p q n).2.2), (10, .p 10 0), (58, intsA (bS x p q n).2.1), (59, nJ (bS x p q n).2.1.length), (60, nJ k)]) (fun k => ⟨[(6, some (x.map u8 ++ [.sl 180 3 0 n, .nl])), (180, some ((bS x p q n).1.flatMap filC)), (10, some ([nJ n, nJ (nbOf (bS x p q n).2.1), slA (addsI x (n : Nat) (nbOf (bS x p q n).2.1 : Nat) (zeroD (nbOf (bS x p q n).2.1)) ((bS x p q n).2.1.take k))]))]⟩) (fun k => k ≤ (bS x p q n).2.1.length) (fun k => (bS x p q n).2.1.length - k) ?_ ?_
    ·exact at_ex (0) (Nat.zero_le _) [(6, some 6), (10, some 10), (180, some 180)] hI rfl rfl ⟨⟨_, rfl, .pure pu⟩, ⟨_, rfl, .p rfl⟩, ⟨_, rfl, .pure pu⟩, ⟨_, rfl, .pure pu⟩, ⟨_, rfl, .p rfl⟩, ⟨_, rfl, .pure pu⟩, ⟨_, rfl, .pure pu⟩, ⟨_, rfl, .pure pu⟩, trivial⟩ ⟨.inr ⟨_, _, rfl, rfl, .app (.pure pul) (.cons (.sl rfl rfl) (.cons (.pure pu) .nil))⟩, .inr ⟨_, _, rfl, rfl, .pure pul⟩, .inr ⟨_, _, rfl, rfl, .of (by rfl) (.pure pul)⟩, trivial⟩
    rintro k hk
    refine at_seq <| at_region <| s1 (y_p rfl) rfl ?_
    refine at_nil <| x_tn <| at_seq ?_
    refine at_cond rfl (fun hc61 => ?_) (fun hc61 => ?_)
    ·have h61 : k < (bS x p q n).2.1.length := by have := of_decide_eq_true hc61; omega
     obtain ⟨v, hv⟩ : ∃ v, (bS x p q n).2.1[k]? = some v := ⟨_, List.getElem?_eq_getElem h61⟩
     have hv0 := hnum v (List.mem_of_getElem? hv)
     refine at_skip <| x_tn <| at_seq <| at_block <| at_seq <| at_region <| s1 (y_ixf k Tryd.underlying24 ti3 rfl rfl rfl (by omega) rfl) rfl <| s1 (y_load ti3 rfl rfl (getI4 hv)) rfl <| s1 (y_p rfl) rfl ?_
     refine at_nil <| x_tn <| at_seq <| at_region <| s1 (y_loadA ti23 rfl rfl (List.take_of_length_le (by simp [hx])) (by simp [hx])) rfl <| s1 (y_loadA0 ti50 rfl rfl rfl) rfl <| s1 (y_p rfl) rfl ?_
     refine at_op rfl (n_call false rfl (.cons (.pure pu) (.cons (.pure pu) (.cons (.pure pu) (.nil)))) (Con.cast (fadd_ok x (n : Nat) (nbOf (bS x p q n).2.1 : Nat) v (addsI x (n : Nat) (nbOf (bS x p q n).2.1 : Nat) (zeroD (nbOf (bS x p q n).2.1)) ((bS x p q n).2.1.take k)) hx) (add_fil h41 hv hv0)) pu (.inl rfl) rfl ?_)
     refine s1 (y_p rfl) rfl <| s1 (y_p rfl) rfl <| s1 (y_p rfl) rfl ?_
     refine at_op rfl (n_storeA ti50 rfl rfl rfl (by first | rfl | omega | (simp <;> omega) | (simp [*] <;> omega)) (by first | rfl | omega | (simp <;> omega) | (simp [*] <;> omega)) ?_)
     refine s1 (y_p rfl) rfl ?_
     refine at_nil <| x_tn <| at_seq <| at_region <| s1 (y_p rfl) rfl <| s1 ((y_p rfl).v (v' := .b false) (rfl)) rfl ?_
     refine at_nil <| x_tn ?_
     refine at_else rfl ?_
     refine at_skip <| x_bn <| x_tn <| at_region <| s1 (addN _ 1 rfl rfl rfl rfl (by omega)) rfl <| s1 (y_p rfl) rfl ?_
     refine at_nil ?_
     exact at_end (k + 1) (by omega) (by omega) [(6, some 6), (10, some 10), (180, some 180)] hI rfl rfl ⟨⟨_, rfl, .pure pu⟩, ⟨_, rfl, .p rfl⟩, ⟨_, rfl, .pure pu⟩, ⟨_, rfl, .pure pu⟩, ⟨_, rfl, .p rfl⟩, ⟨_, rfl, .pure pu⟩, ⟨_, rfl, .pure pu⟩, ⟨_, rfl, .pure pu⟩, trivial⟩ ⟨.inr ⟨_, _, rfl, rfl, .app (.pure pul) (.cons (.sl rfl rfl) (.cons (.pure pu) .nil))⟩, .inr ⟨_, _, rfl, rfl, .pure pul⟩, .inr ⟨_, _, rfl, rfl, .pure pul⟩, trivial⟩
    ·have h61 : k = (bS x p q n).2.1.length := by have := of_decide_eq_false hc61; omega
     subst h61
     refine at_exit <| x_te <| x_te <| x_be <| x_tn <| at_seq ?_
     refine at_sayO 10 (cs' := filC (filO x n (bS x p q n).2.1)) rfl (by rw [List.take_length]; rfl) ?_
     refine at_region <| s1 (y_fld Tryd.underlying27 rfl ti25 (by decide) rfl rfl) rfl <| s1 (y_load ti25 rfl rfl (congrArg (fun l => l[0]?) (tail_get hx _))) rfl <| s1 (y_loadA0 ti50 rfl rfl rfl) rfl ?_
     refine at_op rfl (n_bs 79 rfl Tryd.underlying25 ti50 rfl rfl rfl (by first | (simp [cellsA]; done) | (simp [cellsA, *]; done)) rfl rfl rfl rfl ?_)
     refine at_op rfl (n_app 80 rfl Tryd.underlying25 ti50 rfl (.sl rfl (by rw [hfl])) rfl (SM_full rfl (by first | rfl | omega | (simp <;> omega) | (simp [*] <;> omega))) rfl (by simp only [maxLen]; omega) (by omega) rfl (bS_flat x p q n) rfl ?_)
     refine s1 (y_fld Tryd.underlying27 rfl ti25 (by decide) rfl rfl) rfl ?_
     refine at_op rfl (n_store1 ti25 rfl rfl rfl rfl (by simp [hx]) (tail_set hx _ _ _) ?_)
     refine at_nil <| x_tn ?_
     refine at_frzP 10 rfl rfl pul ?_
     refine at_region <| s1 (y_p rfl) rfl <| s1 (y_func (us := []) (vs := [.fp (x.map u8), .fp (filC (filO x n (bS x p q n).2.1))]) rfl rfl) rfl ?_
     refine at_op rfl (n_call false rfl (.cons (.pure pu) (.cons (.pure pu) .nil)) (cchoose_ok x hx (filO x n (bS x p q n).2.1) (bS x p q n).2.2 hbl) pu (.inl rfl) rfl ?_)
     refine s1 (y_p rfl) rfl <| s1 (y_p rfl) rfl <| s1 (y_p rfl) rfl ?_
     refine at_nil <| x_bn ?_
     exact at_end (n + 1) (⟨by omega, all_next hgo (goB_yes h36)⟩) (by omega) [(6, some 6), (180, some 80)] hI rfl rfl ⟨⟨_, rfl, .pure pu⟩, ⟨_, rfl, .p rfl⟩, ⟨_, rfl, .pure pu⟩, ⟨_, rfl, .pure pu⟩, trivial⟩ ⟨.inr ⟨_, _, rfl, rfl, .app (.pure pul) (.cons (.sl rfl (by first | rfl | omega | (simp <;> omega) | (simp [*] <;> omega))) (.cons (.pure pu) .nil))⟩, .inr ⟨_, _, rfl, rfl, .pure pul⟩, trivial⟩
   ·have h41 : n = 16 := by have := of_decide_eq_false hc41; omega
    subst h41
    have hend := end_all hgo
    refine at_exit <| x_te <| x_te <| x_be <| x_tn <| at_seq <| at_region <| s1 (y_fld Tryd.underlying27 rfl ti24 (by decide) rfl rfl) rfl <| s1 (y_load ti24 rfl rfl (congrArg (fun l => l[0]?) (tail_get1 hx _ _))) rfl <| s1 (y_p rfl) rfl ?_
    refine at_op rfl (n_app 89 rfl Tryd.underlying24 ti3 rfl .nl rfl rfl (by simp) (by simp only [maxLen]; omega) (by omega) rfl rfl rfl ?_)
    refine s1 (y_fld Tryd.underlying27 rfl ti24 (by decide) rfl rfl) rfl ?_
    refine at_op rfl (n_store1 ti24 rfl rfl rfl rfl (by simp [hx]) (tail_set1 hx _ _ _) ?_)
    refine at_nil <| x_tn <| at_seq ?_
    refine at_frzO 6 32 rfl (by rw [List.getElem?_append_right (by simp [hx]), List.length_map, hx]; rfl) rfl rfl pul (view_eq (by rw [flat_len, len_bS]) rfl) (tail_set hx _ _ _) ?_
    refine at_frzO 6 33 rfl (by rw [List.getElem?_append_right (by simp [hx]), List.length_map, hx]; rfl) rfl rfl pul (view_eq (by simp) rfl) (tail_set1 hx _ _ _) ?_
    refine at_sayO 6 (cs' := casL (casB x p q)) rfl (by rw [Nat.zero_add, List.nil_append]; exact cas_end hend) ?_
    refine at_region <| s1 (y_loadA0 ti27 rfl rfl (cas_len (c := casB x p q) hx)) rfl ?_
    refine at_op rfl (n_storeA ti27 rfl rfl rfl (cas_len (c := casB x p q) hx) (cas_len (c := casB x p q) hx) ?_)
    refine s1 ((y_p rfl).v (v' := .i .i64 0) rfl) rfl ?_
    refine at_nil <| x_tn <| at_ret ?_
    refine at_result (rs := [.cell 6 27, .tmp 7]) rfl (r_cellA ti27 rfl rfl (cas_all (c := casB x p q) hx) (cas_len (c := casB x p q) hx) (r_tmp rfl r_nil)) ?_
    show A.tu _ = _; rw [build_yes hb]
  ·have h36 : ¬ 0 < (bS x p q n).2.1.length := by have := of_decide_eq_false hc36; omega
   have hend := end_any hn hgo h36
   refine g0 rfl rfl rfl rfl <| g0 rfl rfl rfl rfl <| g0 rfl rfl rfl rfl <| g0 rfl rfl rfl rfl <| s1 (y_p rfl) rfl ?_
   refine at_nil <| x_tn ?_
   refine at_else rfl ?_
   refine at_exit <| x_te <| x_te <| x_be <| x_tn <| at_seq <| at_region <| s1 (y_fld Tryd.underlying27 rfl ti24 (by decide) rfl rfl) rfl <| s1 (y_load ti24 rfl rfl (congrArg (fun l => l[0]?) (tail_get1 hx _ _))) rfl <| s1 (y_p rfl) rfl ?_
   refine at_op rfl (n_app 89 rfl Tryd.underlying24 ti3 rfl .nl rfl rfl (by simp) (by simp only [maxLen]; omega) (by omega) rfl rfl rfl ?_)
   refine s1 (y_fld Tryd.underlying27 rfl ti24 (by decide) rfl rfl) rfl ?_
   refine at_op rfl (n_store1 ti24 rfl rfl rfl rfl (by simp [hx]) (tail_set1 hx _ _ _) ?_)
   refine at_nil <| x_tn <| at_seq ?_
   refine at_frzO 6 32 rfl (by rw [List.getElem?_append_right (by simp [hx]), List.length_map, hx]; rfl) rfl rfl pul (view_eq (by rw [flat_len, len_bS]) rfl) (tail_set hx _ _ _) ?_
   refine at_frzO 6 33 rfl (by rw [List.getElem?_append_right (by simp [hx]), List.length_map, hx]; rfl) rfl rfl pul (view_eq (by simp) rfl) (tail_set1 hx _ _ _) ?_
   refine at_sayO 6 (cs' := casL (casB x p q)) rfl (by rw [Nat.zero_add, List.nil_append]; exact cas_end hend) ?_
   refine at_region <| s1 (y_loadA0 ti27 rfl rfl (cas_len (c := casB x p q) hx)) rfl ?_
   refine at_op rfl (n_storeA ti27 rfl rfl rfl (cas_len (c := casB x p q) hx) (cas_len (c := casB x p q) hx) ?_)
   refine s1 ((y_p rfl).v (v' := .i .i64 0) rfl) rfl ?_
   refine at_nil <| x_tn <| at_ret ?_
   refine at_result (rs := [.cell 6 27, .tmp 7]) rfl (r_cellA ti27 rfl rfl (cas_all (c := casB x p q) hx) (cas_len (c := casB x p q) hx) (r_tmp rfl r_nil)) ?_
   show A.tu _ = _; rw [build_yes hb]
end Go.Abs.D2
-- C4F
namespace Go.Abs.D2
open Go Go.Eng Go.Abs Go.Proofs 
end Go.Abs.D2
-- AbsT
namespace Go.Abs
open Go Go.Eng
def RetOS (s m : Nat) (cs : List A) (upds : List (Nat × List A)) : A → St → Prop := fun r st => ∃ id, r = .sl id s 0 m ∧ st.get id = some cs ∧ ∀ p ∈ upds, st.get p.1 = some p.2 ∧ p.1 ≠ id
section
variable {P : Program} {w0 : Bw} {X0 : Xs} {n : Nat} {E : Ev} {st : St} {K : Act → World → Prop} {Q : Exit → Act → World → Prop}
theorem n_callHK {d : Nat} (nx : Nat) (hfr : st.free nx = true) (s0 : St) (upds : List (Nat × List A)) (ow : Bool) {f : FuncId} {x : Operand} {xs : List Operand} {fs cs vs vs' ds : List A} {s m : Nat} {ats : Array TypeId} {ty : TypeId} {pos aft' g} (hx : ev E x = some (.fn (.func f) fs cs)) (hxs : evsA E xs = some vs) (hS : SubL st s0 ow s0.os) (hv : VwL st s0 ow (fs ++ vs ++ cs) vs')
    (hc : ConS P f vs' s0 (RetOS s m ds upds)) (hp : PureL ds) (hf : ow = false ∨ FlatL ds) (hu : ∀ p ∈ upds, (∃ cs, s0.get p.1 = some cs) ∧ KpL s0 ow p.2) (hd : Nat.ble (d + 1) n = true) (h : At w0 X0 n ((d, .sl nx s 0 m) :: E) ((aft s0 st upds).put nx ds) K) :
    At w0 X0 n E st (fun a w => (⟨some d, .call { callee := .value x, args := xs.toArray, argTypes := ats }, ty, pos, aft', g⟩ : Oper).wp P a w K Q) := by
  rintro a w ⟨β, X, hr⟩
  have hss : ∀ id cs, s0.get id = some cs → st.get id = some cs := fun id cs h => (SubL_get hS h).1
  refine call_core hr hx hxs hS hv hc fun v w' ⟨r, β', X', st', hR, hsup, hsub, hm, hvv⟩ => ?_
  obtain ⟨id, rfl, hg, hup⟩ := hR
  obtain ⟨m1, m2, m3, m4, m6⟩ := hm.afterK hr hss hsub hsup (upds := upds) (fun p hp => ⟨(hup p hp).1, (hu p hp).1, (hu p hp).2⟩)
  have hnx := hr.mem.dom nx hfr
  have hfa : ∀ k, (aft s0 st upds).free k = true → st.free k = true := fun k => (aft_get (s0 := s0) (st := st) (upds := upds)).2
  have hga : ∀ k ck, (aft s0 st upds).get k = some ck → (k, ck) ∈ upds ∨ (s0.free k = true ∧ st.get k = some ck) := fun k ck hk => (aft_get (s0 := s0) (st := st) (upds := upds)).1 ck hk
  have ho := hm.obj id ds hg
  unfold OB at ho
  have key : ∀ y : BL, OB (upd β nx y) (fun b o => X b o ∨ (X' b o ∧ (bw w (rst s0 β) s0 rst_none).own b)) w' w0 nx ds → (∀ k ck q M N', (aft s0 st upds).get k = some ck → β k = some (.bk q M) → y = .bk q N' → False) → Mem w0 (upd β nx y) (fun b o => X b o ∨ (X' b o ∧ (bw w (rst s0 β) s0 rst_none).own b)) ((aft s0 st upds).put nx ds) w' := fun y hy hfresh => by
    refine .of (m1.below) (fun k y h => (upd_ext hnx) k y (m1.b0 k y h)) (m1.xlt) (fun k h => ?_) (fun k es hk => ?_) (fun i j ci cj q M N' hij hi hj hbi hbj => ?_)
    · rw [St.free_put] at h
      split at h
      · cases h
      · rename_i hne
        rw [upd_ne (fun e => hne e.symm)]
        exact hr.mem.dom k (hfa k h)
    · rw [St.get_put] at hk
      split at hk
      · rename_i e; subst e
        simp only [Option.some.injEq] at hk
        subst hk
        exact hy
      · refine (m1.obj k es hk).later (fun _ _ h => ⟨h, rfl⟩) (upd_ext hnx) fun q M hq => ⟨rfl, ?_⟩
        have hk' := m1.obj k es hk
        unfold OB at hk'
        rw [hq] at hk'
        exact hk'.2.1
    · rw [St.get_put] at hi hj
      by_cases ei : nx = i
      · by_cases ej : nx = j
        · omega
        · rw [if_neg ej] at hj
          rw [← ei, upd_at] at hbi
          rw [upd_ne (by omega)] at hbj
          exact hfresh j cj q N' M hj hbj (Option.some.inj hbi)
      · rw [if_neg ei] at hi
        rw [upd_ne (by omega)] at hbi
        by_cases ej : nx = j
        · rw [← ej, upd_at] at hbj
          exact hfresh i ci q M N' hi hbi (Option.some.inj hbj)
        · rw [if_neg ej] at hj
          rw [upd_ne (by omega)] at hbj
          exact m1.inj i j ci cj q M N' hij hi hj hbi hbj
  simp only [V] at hvv
  rcases hvv with ⟨hβ, rfl, _, rfl⟩ | ⟨b, N, cap, hβ, rfl, c1, c2, c3⟩
  · rw [hβ] at ho
    have ho : ds = [] := ho
    subst ho
    exact h _ _ ⟨_, _, hr.putv hd m2 m3 (upd_ext hnx) (key .ph (by unfold OB; rw [upd_at]) (fun _ _ _ _ _ _ _ e => by cases e)) (by simp only [V]; exact .inl ⟨upd_at, by simp⟩)⟩
  · rw [hβ] at ho
    obtain ⟨o1, o2, us, rest, ety, o3, o4, o5, o6⟩ := ho
    have hown : w0.own b ∧ ∀ k ck q M N', (aft s0 st upds).get k = some ck → β k = some (.bk q M) → BL.bk b N = .bk q N' → False := by
      have hsame : ∀ k ck q M, (k, ck) ∈ upds → β k = some (.bk q M) → q ≠ b := fun k ck q M hk hq e => by
        obtain ⟨g1, g2⟩ := hup _ hk
        obtain ⟨⟨c0, g3⟩, _⟩ := hu _ hk
        have g4 : β' k = some (.bk q M) := hm.b0 k _ (by show rst s0 β k = _; rw [rst_eq (get_free g3)]; exact hq)
        subst e
        exact hm.inj k id ck ds q M N g2 g1 hg g4 hβ
      rcases o1 with h | ⟨id', cs', N', h1, h2⟩
      · have h : w.heap.size ≤ b := h
        refine ⟨Bw.own_new hr.mem.below h, fun k ck q M N' hk hq e => ?_⟩
        simp only [BL.bk.injEq] at e
        rcases hga k ck hk with hk | ⟨_, hk⟩
        · exact hsame k ck q M hk hq e.1.symm
        · have := m6 q M k ck hk hq
          omega
      · obtain ⟨g3, g4⟩ := rst_some h2
        have ho' := hr.mem.obj id' cs' (hss id' cs' h1)
        unfold OB at ho'
        rw [g4] at ho'
        refine ⟨ho'.1, fun k ck q M N2 hk hq e => ?_⟩
        simp only [BL.bk.injEq] at e
        rcases hga k ck hk with hk | ⟨k1, k2⟩
        · exact hsame k ck q M hk hq e.1.symm
        · obtain ⟨rfl, _⟩ := e
          refine hr.mem.inj k id' ck cs' b M N' (fun e => ?_) k2 (hss id' cs' h1) hq g4
          subst e; rw [k1] at g3; cases g3
    have hnX : ∀ o, ¬ (X b o ∨ (X' b o ∧ (bw w (rst s0 β) s0 rst_none).own b)) := fun o h => by
      rcases h with h | ⟨h, _⟩
      · exact o2 o (hsup b o (.inl h))
      · exact o2 o h
    have hvs : VS (fun b o => X b o ∨ (X' b o ∧ (bw w (rst s0 β) s0 rst_none).own b)) w' (upd β nx (.bk b N)) ds us := by
      rcases hf with hf | hf
      · exact VS_mono (m4 hf) _ _ _ _ (ExtB.refl _) (VS_pure _ _ hp o5)
      · exact VS_flat _ _ hf o5
    exact h _ _ ⟨_, _, hr.putv hd m2 m3 (upd_ext hnx) (key (.bk b N) (by unfold OB; rw [upd_at]; exact ⟨hown.1, hnX, us, rest, ety, o3, o4, hvs, o6⟩) hown.2) (by simp only [V]; exact .inr ⟨b, N, cap, upd_at, rfl, c1, c2, c3⟩)⟩
end
end Go.Abs
namespace Go.Abs
open Go Go.Eng
section
variable {P : Program} {n : Nat}
def bwT (w : World) (β : Bm) (s0 : St) (T : List Nat) : Bw := ⟨w, fun b => ∃ id cs N, s0.get id = some cs ∧ β id = some (.bk b N), fun id => if id ∈ T then β id else none, T, (fun id x h => by
  by_cases hi : id ∈ T
  · exact hi
  · rw [if_neg hi] at h; cases h), []⟩
def OnlyT (T : List Nat) (upds : List (Nat × List A)) : Prop := ∀ p ∈ upds, ∀ (X : Xs) (w : World) (β1 β2 : Bm) (us : List Value), (∀ t ∈ T, β2 t = β1 t) → VS X w β1 p.2 us → VS X w β2 p.2 us
theorem post_T {w : World} {X : Xs} {β : Bm} {s0 : St} {hd : ∀ id, s0.free id = true → β id = none} {T : List Nat} {s m : Nat} {ds : List A} {upds : List (Nat × List A)} {v : Value} {w' : World} (hp : PureL ds) (hT : ∀ t ∈ T, ∃ x, β t = some x) (hU : ∀ p ∈ upds, p.1 ∈ T) (hO : OnlyT T upds)
    (h : Post (bwT w β s0 T) X (RetOS s m ds upds) v w') : Post (bw w β s0 hd) X (RetOS s m ds upds) v w' := by
  obtain ⟨r, β', X', st', ⟨id, rfl, hg, hup⟩, h1, h2, hm, hv⟩ := h
  obtain ⟨N0, hN⟩ := fresh_far s0.os
  have hK : s0.free N0 = true := hN N0 (Nat.le_refl _)
  have hnx := hd N0 hK
  have hNT : N0 ∉ T := fun hn => by obtain ⟨x, e⟩ := hT N0 hn; rw [hnx] at e; cases e
  have hsame : ∀ t ∈ T, β' t = β t := fun t ht => by
    obtain ⟨x, e⟩ := hT t ht
    rw [e]
    exact hm.b0 t x (by show (if t ∈ T then β t else none) = some x; rw [if_pos ht]; exact e)
  have hbel : KB (bw w β s0 hd) w' := ⟨hm.below.os, hm.below.tape, hm.below.output, hm.below.size, hm.below.block, fun s hs => by cases hs⟩
  have hfa : ∀ k, (aft s0 ⟨[]⟩ upds).free k = true → s0.free k = true := fun k hk => by
    have key : ∀ (l : List (Nat × List A)) os, fresh ((l.map fun p => (p.1, some p.2)) ++ os) k = true → fresh os k = true := by
      intro l os
      induction l with
      | nil => exact fun h => h
      | cons p l ih =>
        simp only [List.map_cons, List.cons_append]
        rw [fresh_cons]
        intro h
        split at h
        · cases h
        · exact ih h
    unfold aft St.free at hk
    rw [List.append_assoc] at hk
    have := key _ _ hk
    rw [fresh_gone] at this
    exact this
  have hga : ∀ k ck, (aft s0 ⟨[]⟩ upds).get k = some ck → (k, ck) ∈ upds := fun k ck hk => by
    rcases (aft_get (s0 := s0) (st := ⟨[]⟩) (upds := upds)).1 ck hk with h | ⟨_, h⟩
    · exact h
    · cases h
  have ho := hm.obj id ds hg
  unfold OB at ho
  have hb2 : ∀ y, ∀ t ∈ T, (upd β N0 y) t = β' t := fun y t ht => by
    rw [upd_ne (show t ≠ N0 by rintro rfl; exact hNT ht), hsame t ht]
  have key : ∀ y : BL, OB (upd β N0 y) X' w' (bw w β s0 hd) N0 ds → (∀ k ck q M N', (k, ck) ∈ upds → β k = some (.bk q M) → y = .bk q N' → False) → Mem (bw w β s0 hd) (upd β N0 y) X' ((aft s0 ⟨[]⟩ upds).put N0 ds) w' := fun y hy hfresh => by
    refine .of hbel (upd_ext hnx) hm.xlt (fun k h => ?_) (fun k es hk => ?_) (fun i j ci cj q M N' hij hi hj hbi hbj => ?_)
    · rw [St.free_put] at h
      split at h
      · cases h
      · rename_i hne
        rw [upd_ne (fun e => hne e.symm)]
        exact hd k (hfa k h)
    · rw [St.get_put] at hk
      split at hk
      · rename_i e; subst e
        simp only [Option.some.injEq] at hk
        subst hk
        exact hy
      · have hu := hga k es hk
        have hkT := hU _ hu
        have hob := hm.obj k es (hup _ hu).1
        have e1 := hb2 y k hkT
        unfold OB at hob ⊢
        rw [e1]
        split
        · rename_i h'; rw [h'] at hob; exact hob
        · rename_i h'; rw [h'] at hob; exact hob
        · rename_i b N h'
          rw [h'] at hob
          obtain ⟨q1, q2, us, rest, ty, q3, q4, q5, q6⟩ := hob
          exact ⟨q1, q2, us, rest, ty, q3, q4, hO _ hu X' w' β' _ us (hb2 y) q5, q6⟩
    · rw [St.get_put] at hi hj
      by_cases ei : N0 = i
      · rw [if_neg (by omega)] at hj
        have hu := hga j cj hj
        rw [← ei, upd_at] at hbi
        rw [upd_ne (by omega)] at hbj
        exact hfresh j cj q N' M hu hbj (Option.some.inj hbi)
      · rw [if_neg ei] at hi
        have hui := hga i ci hi
        rw [upd_ne (fun e => ei e.symm)] at hbi
        by_cases ej : N0 = j
        · rw [← ej, upd_at] at hbj
          exact hfresh i ci q M N' hui hbi (Option.some.inj hbj)
        · rw [if_neg ej] at hj
          have huj := hga j cj hj
          rw [upd_ne (fun e => ej e.symm)] at hbj
          exact hm.inj i j ci cj q M N' hij (hup _ hui).1 (hup _ huj).1 ((hsame i (hU _ hui)).trans hbi) ((hsame j (hU _ huj)).trans hbj)
  have hget : ∀ p ∈ upds, ((aft s0 ⟨[]⟩ upds).put N0 ds).get p.1 = some p.2 ∧ p.1 ≠ N0 := fun p hp' => by
    have hne : p.1 ≠ N0 := fun e => hNT (by rw [← e]; exact hU p hp')
    refine ⟨?_, hne⟩
    rw [St.get_put, if_neg (fun e => hne e.symm)]
    have key2 : ∀ (l : List (Nat × List A)) os, (∀ q ∈ l, st'.get q.1 = some q.2) → p ∈ l → look ((l.map fun q => (q.1, some q.2)) ++ os) p.1 = some p.2 := by
      intro l os
      induction l with
      | nil => intro _ h; cases h
      | cons q l ih =>
        intro hq hpl
        simp only [List.map_cons, List.cons_append]
        rw [look_cons]
        split
        · rename_i e
          have e1 := hq q (.head _)
          rw [e, (hup p hp').1] at e1
          exact e1.symm
        · rename_i e
          rcases List.mem_cons.1 hpl with rfl | hpl
          · exact absurd rfl e
          · exact ih (fun q hq' => hq q (.tail _ hq')) hpl
    show look _ _ = _
    unfold aft
    dsimp only
    rw [List.append_assoc]
    exact key2 upds _ (fun q hq => (hup q hq).1) hp'
  simp only [V] at hv
  rcases hv with ⟨hβ, rfl, e2, rfl⟩ | ⟨b, N, cap, hβ, rfl, c1, c2, c3⟩
  · rw [hβ] at ho
    have ho : ds = [] := ho
    subst ho
    refine ⟨.sl N0 s 0 0, upd β N0 .ph, X', _, ⟨N0, rfl, by rw [St.get_put, if_pos rfl], hget⟩, h1, h2, key .ph (by unfold OB; rw [upd_at]) (fun _ _ _ _ _ _ _ e => by cases e), ?_⟩
    simp only [V]; exact .inl ⟨upd_at, by simp⟩
  · rw [hβ] at ho
    obtain ⟨o1, o2, us, rest, ety, o3, o4, o5, o6⟩ := ho
    refine ⟨.sl N0 s 0 m, upd β N0 (.bk b N), X', _, ⟨N0, rfl, by rw [St.get_put, if_pos rfl], hget⟩, h1, h2, key (.bk b N) (by unfold OB; rw [upd_at]; exact ⟨o1, o2, us, rest, ety, o3, o4, VS_pure _ _ hp o5, o6⟩) (fun k ck q M N' hu hk e => ?_), ?_⟩
    · simp only [BL.bk.injEq] at e
      obtain ⟨rfl, _⟩ := e
      exact hm.inj k id ck ds b M N (hup _ hu).2 (hup _ hu).1 hg ((hsame k (hU _ hu)).trans hk) hβ
    · simp only [V]; exact .inr ⟨b, N, cap, upd_at, rfl, c1, c2, c3⟩
theorem enterK {f : FuncId} {fn : Func} {c : Code} {args : List A} {s0 : St} {s m : Nat} {ds : List A} {upds : List (Nat × List A)} (T : List Nat) (hp : PureL ds) (hU : ∀ p ∈ upds, p.1 ∈ T) (hTs : ∀ t ∈ T, ∃ cs, s0.get t = some cs) (hO : OnlyT T upds) (hf : P.funcs[f]? = some fn) (hb : fn.body = some c)
    (hn : fn.ntmps = n) (hname : (fn.name == "runtime.NumGoroutine") = false) (ha : args.length ≤ n)
    (h : ∀ w0 X0, w0.ids = T → At w0 X0 n (argsE args 0) s0 (Pw [] (c.wpIn (rF none) 0 P (bodyPost P fn fun e w' => ∃ v, e = .returned v ∧ Post w0 X0 (RetOS s m ds upds) v w')))) : ConS P f args s0 (RetOS s m ds upds) := by
  intro w X β us hd hX hgl ho hi hv
  have hl := VS_len hv
  have hT : ∀ t ∈ T, ∃ x, β t = some x := fun t ht => by
    obtain ⟨cs, e⟩ := hTs t ht
    have := ho t cs e
    unfold OB at this
    cases hb' : β t with
    | none => rw [hb'] at this; exact this.elim
    | some x => exact ⟨x, rfl⟩
  refine Eng.Fn.mono (R := Post (bwT w β s0 T) X (RetOS s m ds upds)) ⟨⟨fn, hf, by simp [hb], hname⟩, calls_of_wp hf hb (wpIn_wide.1 (wp_nil (h (bwT w β s0 T) X rfl _ w ⟨β, X, .of (fun _ _ h => h) (fun _ _ h => .inl h) (.of ⟨rfl, rfl, rfl, Nat.le_refl _, fun _ _ _ => rfl, fun s hs => by cases hs⟩ (fun id x h => ?_) hX hd ho hi) hgl ?_ rfl (fun s hs => by cases hs) (fun t v ht => ?_)⟩)))⟩ (fun _ _ h => post_T hp hT hU hO h)
  · have h : (if id ∈ T then β id else none) = some x := h
    split at h
    · exact h
    · cases h
  · simp [hn]; omega
  · obtain ⟨_, h2⟩ := argsE_at _ _ _ _ ht
    simp only [Nat.sub_zero] at h2
    obtain ⟨u, g1, g2⟩ := VS_get hv h2
    have hlt := (List.getElem?_eq_some_iff.1 g1).1
    refine ⟨u, ?_, g2⟩
    rw [Array.getElem?_append, if_pos (by simpa using hlt)]
    simpa using g1
end
end Go.Abs
namespace Go.Abs
open Go Go.Eng
def RetMM (mk : Nat → A) (mkc : Nat → List A) : A → St → Prop := fun r st => ∃ id, r = mk id ∧ st.get id = some (mkc id)
def Dep (mk : Nat → A) : Prop := ∀ X w β i u, V X w β (mk i) u → ∀ X' w' β' j, β' j = β i → V X' w' β' (mk j) u
def DepL (mkc : Nat → List A) : Prop := ∀ X w β i us, VS X w β (mkc i) us → ∀ X' w' β' j, β' j = β i → VS X' w' β' (mkc j) us
theorem dep_flat {v : A} (h : Flat v) : Dep (fun _ => v) := fun _ _ _ _ _ hv _ _ _ _ _ => V_flat _ _ h hv
theorem dep_fn {f : Fn} : Dep (fun i => .fn f [] [.p i 0]) := fun _ _ _ _ _ hv _ _ _ _ hj => (oneB_fn _ _ _ _ _ hv).2 _ _ _ _ hj
theorem depL_nil : DepL (fun _ => []) := fun _ _ _ _ us h _ _ _ _ _ => by simp only [VS] at h ⊢; exact h
theorem depL_cons {a : Nat → A} {l : Nat → List A} (h1 : Dep a) (h2 : DepL l) : DepL (fun i => a i :: l i) := fun _ _ _ _ us h _ _ _ _ hj => by
  simp only [VS] at h ⊢
  obtain ⟨u, r, rfl, g1, g2⟩ := h
  exact ⟨u, r, rfl, h1 _ _ _ _ _ g1 _ _ _ _ hj, h2 _ _ _ _ _ g2 _ _ _ _ hj⟩
theorem dep_ag {l : Nat → List A} (h : DepL l) : Dep (fun i => .ag (l i)) := fun _ _ _ _ _ hv _ _ _ _ hj => by
  simp only [V] at hv ⊢
  obtain ⟨us, e1, e2, e3⟩ := hv
  exact ⟨us, e1, h _ _ _ _ _ e2 _ _ _ _ hj, e3⟩
theorem oneB_ag {l : Nat → List A} {f : Fn} (k : Nat) (h : DepL l) (hk : ∀ i, (l i)[k]? = some (.fn f [] [.p i 0])) : OneB (fun i => .ag (l i)) := by
  intro X w β i u hv
  refine ⟨?_, fun X' w' β' j hj => dep_ag h _ _ _ _ _ hv _ _ _ _ hj⟩
  simp only [V] at hv
  obtain ⟨us, _, e2, _⟩ := hv
  obtain ⟨u', _, g⟩ := VS_get e2 (hk i)
  exact (oneB_fn _ _ _ _ _ g).1
section
variable {P : Program} {w0 : Bw} {X0 : Xs} {n : Nat} {E : Ev} {st : St} {Q : Exit → Act → World → Prop}
theorem n_callvMM {K : Act → World → Prop} {mk : Nat → A} {mkc : Nat → List A} (hmk : OneB mk) (hmc : DepL mkc) {d : Nat} (nx : Nat) (hfr : st.free nx = true) {f : FuncId} {x : Operand} {xs : List Operand} {fs cs vs vs' : List A} {ats : Array TypeId} {ty : TypeId} {pos aft' g} (ow : Bool) (hx : ev E x = some (.fn (.func f) fs cs)) (hxs : evsA E xs = some vs) (hv : VwL st ⟨[]⟩ ow (fs ++ vs ++ cs) vs')
    (hc : Con P f vs' (RetMM mk mkc)) (hd : Nat.ble (d + 1) n = true) (h : At w0 X0 n ((d, mk nx) :: E) (st.put nx (mkc nx)) K) :
    At w0 X0 n E st (fun a w => (⟨some d, .call { callee := .value x, args := xs.toArray, argTypes := ats }, ty, pos, aft', g⟩ : Oper).wp P a w K Q) := by
  rintro a w ⟨β, X, hr⟩
  refine call_core hr hx hxs (s0 := ⟨[]⟩) trivial hv hc fun v w' ⟨r, β', X', st', hR, hsup, hsub, hm, hvv⟩ => ?_
  obtain ⟨id, rfl, hg⟩ := hR
  obtain ⟨m1, m2, m3, m4, m6⟩ := hm.after hr (fun id cs h => by cases h) hsub hsup (upds := []) (fun p hp => by cases hp)
  rw [aft_nil] at m1
  have hnx := hr.mem.dom nx hfr
  have ho := hm.obj id (mkc id) hg
  unfold OB at ho
  obtain ⟨⟨b, N, hβ⟩, hV⟩ := hmk _ _ _ _ _ hvv
  rw [hβ] at ho
  obtain ⟨o1, o2, us, rest, ety, o3, o4, o5, o6⟩ := ho
  have o1 : w.heap.size ≤ b := by
    rcases o1 with h | ⟨id', cs', N', h, _⟩
    · exact h
    · cases h
  have hnX : ∀ o, ¬ (X b o ∨ (X' b o ∧ (bw w (rst ⟨[]⟩ β) ⟨[]⟩ rst_none).own b)) := fun o h => by
    rcases h with h | ⟨h, _⟩
    · exact o2 o (hsup b o (.inl h))
    · exact o2 o h
  have hvs : VS (fun b o => X b o ∨ (X' b o ∧ (bw w (rst ⟨[]⟩ β) ⟨[]⟩ rst_none).own b)) w' (upd β nx (.bk b N)) (mkc nx) us := hmc _ _ _ _ _ o5 _ _ _ _ (upd_at.trans hβ.symm)
  have hfresh : ∀ k ck q M, st.get k = some ck → β k = some (.bk q M) → q ≠ b := fun k ck q M hk hq => by
    have := m6 q M k ck hk hq
    omega
  have m5 : Mem w0 (upd β nx (.bk b N)) (fun b o => X b o ∨ (X' b o ∧ (bw w (rst ⟨[]⟩ β) ⟨[]⟩ rst_none).own b)) (st.put nx (mkc nx)) w' := by
    refine .of (m1.below) (fun k y h => (upd_ext hnx) k y (m1.b0 k y h)) (m1.xlt) (fun k h => ?_) (fun k es hk => ?_) (fun i j ci cj q M N' hij hi hj hbi hbj => ?_)
    · rw [St.free_put] at h
      split at h
      · cases h
      · rename_i hne
        rw [upd_ne (fun e => hne e.symm)]
        exact hr.mem.dom k h
    · rw [St.get_put] at hk
      split at hk
      · rename_i e; subst e
        simp only [Option.some.injEq] at hk
        subst hk
        unfold OB
        rw [upd_at]
        exact ⟨Bw.own_new hr.mem.below o1, hnX, us, rest, ety, o3, o4, hvs, o6⟩
      · refine (m1.obj k es hk).later (fun _ _ h => ⟨h, rfl⟩) (upd_ext hnx) fun q M hq => ⟨rfl, ?_⟩
        have hk' := m1.obj k es hk
        unfold OB at hk'
        rw [hq] at hk'
        exact hk'.2.1
    · rw [St.get_put] at hi hj
      by_cases ei : nx = i
      · by_cases ej : nx = j
        · omega
        · rw [if_neg ej] at hj
          rw [← ei, upd_at] at hbi
          rw [upd_ne (by omega)] at hbj
          simp only [Option.some.injEq, BL.bk.injEq] at hbi
          exact hfresh j cj q N' hj hbj (by omega)
      · rw [if_neg ei] at hi
        rw [upd_ne (by omega)] at hbi
        by_cases ej : nx = j
        · rw [← ej, upd_at] at hbj
          simp only [Option.some.injEq, BL.bk.injEq] at hbj
          exact hfresh i ci q M hi hbi (by omega)
        · rw [if_neg ej] at hj
          rw [upd_ne (by omega)] at hbj
          exact hr.mem.inj i j ci cj q M N' hij hi hj hbi hbj
  exact h _ _ ⟨_, _, hr.putv hd m2 m3 (upd_ext hnx) m5 (hV _ _ _ _ (upd_at.trans hβ.symm))⟩
theorem n_callMM {K : Act → World → Prop} {mk : Nat → A} {mkc : Nat → List A} (hmk : OneB mk) (hmc : DepL mkc) {d : Nat} (nx : Nat) (hfr : st.free nx = true) {f : FuncId} {xs : List Operand} {vs vs' : List A} {ats : Array TypeId} {ty : TypeId} {pos aft' g} (ow : Bool) (hxs : evsA E xs = some vs) (hv : VwL st ⟨[]⟩ ow vs vs')
    (hc : Con P f vs' (RetMM mk mkc)) (hd : Nat.ble (d + 1) n = true) (h : At w0 X0 n ((d, mk nx) :: E) (st.put nx (mkc nx)) K) :
    At w0 X0 n E st (fun a w => (⟨some d, .call { callee := .value (.func f), args := xs.toArray, argTypes := ats }, ty, pos, aft', g⟩ : Oper).wp P a w K Q) :=
  n_callvMM hmk hmc nx hfr (fs := []) (cs := []) ow rfl hxs (by simpa using hv) hc hd h
end
theorem onlyT_of {T0 : Nat} {mkc : Nat → List A} (h : DepL mkc) : OnlyT [T0] [(T0, mkc T0)] := fun p hp X w β1 β2 us hβ hv => by
  rw [List.mem_singleton.1 hp] at hv ⊢
  exact h X w β1 T0 us hv X w β2 T0 (hβ T0 (.head _))
theorem one_in {T0 : Nat} {c : List A} : ∀ p ∈ [(T0, c)], p.1 ∈ [T0] := fun p hp => by rw [List.mem_singleton.1 hp]; exact .head _
end Go.Abs
-- C1P
namespace Go.Abs.D2
open Go Go.Eng Go.Abs
inductive CV where
  | mk (k n : Int) (s : List UInt8) (l : List CV)
mutual
def CV.cells : CV → List A
  | .mk k n s l => [.i .i64 k, .i .i64 n, .s s, .fz l.length (CV.cellsL l)]
def CV.cellsL : List CV → List A
  | [] => []
  | v :: l => v.cells ++ CV.cellsL l
end
mutual
def CV.size : CV → Nat
  | .mk _ _ _ l => CV.sizeL l + 1
def CV.sizeL : List CV → Nat
  | [] => 0
  | v :: l => v.size + CV.sizeL l + 1
end
theorem CV.size_mem : ∀ {l : List CV} {v : CV}, v ∈ l → v.size < CV.sizeL l
  | [], _, h => by cases h
  | u :: l, v, h => by
    rcases List.mem_cons.1 h with rfl | h
    · simp only [CV.sizeL]; omega
    · have := CV.size_mem h
      simp only [CV.sizeL]; omega
mutual
def CV.okB : CV → Bool
  | .mk k n s l => if k = 1 then s.isEmpty && l.isEmpty else if k = 2 then decide (n = 0) && l.isEmpty else if k = 3 then decide (n = 0) && s.isEmpty && CV.okBL l else false
def CV.okBL : List CV → Bool
  | [] => true
  | v :: l => v.okB && CV.okBL l
end
mutual
def CV.depth : CV → Nat
  | .mk k _ _ l => if k = 3 then CV.depthL l + 1 else 0
def CV.depthL : List CV → Nat
  | [] => 0
  | v :: l => max v.depth (CV.depthL l)
end
def numL (u : Nat) : List UInt8 := if _h : u < 128 then [UInt8.ofNat u] else UInt8.ofNat (u % 128 + 128) :: numL (u / 128)
theorem numL_small {u : Nat} (h : u < 128) : numL u = [UInt8.ofNat u] := by rw [numL, dif_pos h]
theorem numL_big {u : Nat} (h : ¬ u < 128) : numL u = UInt8.ofNat (u % 128 + 128) :: numL (u / 128) := by rw [numL, dif_neg h]
def unsI (n : Int) : Nat := if 0 ≤ n then 2 * n.toNat else 2 * (-(n + 1)).toNat + 1
mutual
def CV.enc : CV → List UInt8
  | .mk k n s l => if k = 1 then 1 :: numL (unsI n) else if k = 2 then 2 :: (numL s.length ++ s) else 3 :: (numL l.length ++ CV.encL l)
def CV.encL : List CV → List UInt8
  | [] => []
  | v :: l => v.enc ++ CV.encL l
end
@[simp] theorem CV.len_cells (v : CV) : v.cells.length = 4 := by cases v; simp [CV.cells]
theorem CV.cellsL_flat : ∀ l : List CV, CV.cellsL l = l.flatMap CV.cells
  | [] => rfl
  | v :: l => by rw [CV.cellsL, CV.cellsL_flat l, List.flatMap_cons]
theorem CV.get : ∀ {l : List CV} {i : Nat} {v : CV}, l[i]? = some v → ((CV.cellsL l).drop (i * 4)).take 4 = v.cells
  | [], _, _, h => by simp at h
  | u :: l, i, v, h => by
    rw [CV.cellsL]
    cases i with
    | zero => simp at h; subst h; rw [Nat.zero_mul, List.drop_zero, List.take_left' (CV.len_cells u)]
    | succ i =>
      rw [show (i + 1) * 4 = 4 + i * 4 by omega, ← List.drop_drop, List.drop_left' (CV.len_cells u)]
      exact CV.get (by simpa using h)
theorem CV.okBL_all : ∀ (l : List CV), CV.okBL l = l.all CV.okB
  | [] => rfl
  | v :: l => by rw [CV.okBL, CV.okBL_all l, List.all_cons]
theorem CV.encL_flat : ∀ (l : List CV), CV.encL l = l.flatMap CV.enc
  | [] => rfl
  | v :: l => by rw [CV.encL, CV.encL_flat l, List.flatMap_cons]
theorem CV.encL_next {l : List CV} {i : Nat} {v : CV} (h : l[i]? = some v) : CV.encL (l.take i) ++ v.enc = CV.encL (l.take (i + 1)) := by
  rw [CV.encL_flat, CV.encL_flat, List.take_add_one, h]; simp
theorem CV.depthL_next {l : List CV} {i : Nat} {v : CV} (h : l[i]? = some v) : max (CV.depthL (l.take i)) v.depth = CV.depthL (l.take (i + 1)) := by
  have key : ∀ (m : List CV) (u : CV), CV.depthL (m ++ [u]) = max (CV.depthL m) u.depth := by
    intro m u
    induction m with
    | nil => simp [CV.depthL]
    | cons a m ih => simp only [List.cons_append, CV.depthL, ih]; omega
  rw [List.take_add_one, h]
  exact (key _ _).symm
theorem CV.depth_mem : ∀ {l : List CV} {v : CV}, v ∈ l → v.depth ≤ CV.depthL l
  | [], _, h => by cases h
  | u :: l, v, h => by
    rcases List.mem_cons.1 h with rfl | h
    · simp only [CV.depthL]; omega
    · have := CV.depth_mem h
      simp only [CV.depthL]; omega
theorem CV.depth_size : ∀ (n : Nat) (v : CV), v.size ≤ n → v.depth ≤ v.size
  | 0, v, h => by cases v; simp only [CV.size] at h; omega
  | n + 1, .mk k m s l, h => by
    simp only [CV.size] at h
    have hl : CV.depthL l ≤ CV.sizeL l := by
      have key : ∀ (q : List CV), CV.sizeL q ≤ n → CV.depthL q ≤ CV.sizeL q := by
        intro q
        induction q with
        | nil => intro _; exact Nat.le_refl _
        | cons a q ih =>
          intro hq
          simp only [CV.sizeL] at hq
          have h1 := CV.depth_size n a (by omega)
          have h2 := ih (by omega)
          simp only [CV.depthL, CV.sizeL]; omega
      exact key l (by omega)
    simp only [CV.depth, CV.size]
    split <;> omega
@[irreducible] def chkV (v : CV) : Int := if v.okB then (if v.depth ≤ 16 then 0 else 2) else 1
@[irreducible] def encA (v : CV) : A := if chkV v = 0 then .tu [.fz v.enc.length (v.enc.map u8), .i .i64 0] else .tu [.nl, .i .i64 (chkV v)]
def numP (u k : Nat) : List UInt8 := (List.range k).map fun i => UInt8.ofNat (u / 128 ^ i % 128 + 128)
@[simp] theorem len_numP (u k : Nat) : (numP u k).length = k := by simp [numP]
theorem numP_s (u k : Nat) : numP u k ++ [UInt8.ofNat (u / 128 ^ k % 128 + 128)] = numP u (k + 1) := by simp [numP, List.range_succ]
theorem numL_P (u : Nat) : ∀ k, (∀ i, i < k → 128 ≤ u / 128 ^ i) → numL u = numP u k ++ numL (u / 128 ^ k)
  | 0, _ => by simp [numP]
  | k + 1, h => by
    rw [numL_P u k fun i hi => h i (by omega), numL_big (by have := h k (by omega); omega), ← numP_s, List.append_assoc, Nat.div_div_eq_div_mul, ← Nat.pow_succ]
    rfl
theorem numL_end {u k : Nat} (h : ∀ i, i < k → 128 ≤ u / 128 ^ i) (h2 : u / 128 ^ k < 128) : numP u k ++ [UInt8.ofNat (u / 128 ^ k)] = numL u := by
  rw [numL_P u k h, numL_small h2]
theorem and127 (w : BitVec 64) : (w &&& 127#64).toNat = w.toNat % 128 := by
  rw [BitVec.toNat_and]
  exact Nat.and_two_pow_sub_one_eq_mod _ 7
theorem or128 : ∀ x, x < 128 → UInt8.ofNat x ||| 128 = UInt8.ofNat (x + 128) := by decide +kernel
theorem uns_nat {n : Int} (h0 : -9223372036854775808 ≤ n) (h1 : n ≤ 9223372036854775807) : unsI n < 2 ^ 64 := by
  unfold unsI; split <;> omega
theorem pow_lim {u k : Nat} (h : u < 2 ^ 64) (hk : 10 ≤ k) : u / 128 ^ k = 0 := by
  apply Nat.div_eq_of_lt
  have : 128 ^ 10 ≤ 128 ^ k := Nat.pow_le_pow_right (by omega) hk
  have h2 : (2 : Nat) ^ 64 < 128 ^ 10 := by decide
  omega
theorem len_numL {u : Nat} (h : u < 2 ^ 64) : (numL u).length ≤ 11 := by
  have key : ∀ (k u : Nat), u < 128 ^ (k + 1) → (numL u).length ≤ k + 1 := by
    intro k
    induction k with
    | zero => intro u hu; rw [numL_small (by omega)]; exact Nat.le_refl _
    | succ k ih =>
      intro u hu
      by_cases hs : u < 128
      · rw [numL_small hs]; simp
      · rw [numL_big hs, List.length_cons]
        have := ih (u / 128) (by rw [Nat.div_lt_iff_lt_mul (by omega)]; rw [Nat.pow_succ] at hu; exact hu)
        omega
  exact key 10 u (by have h2 : (2 : Nat) ^ 64 < 128 ^ 11 := by decide
                     omega)
theorem pow128 (k : Nat) : 2 ^ (7 * k) = 128 ^ k := by rw [Nat.pow_mul]
theorem shr_num (u : BitVec 64) (k : Nat) : (u >>> (7 * k)).toNat = u.toNat / 128 ^ k := by rw [BitVec.toNat_ushiftRight, Nat.shiftRight_eq_div_pow, pow128]
theorem num_ge (u : BitVec 64) (k : Nat) : decide (((u >>> (7 * k)).toNat : Int) ≥ 128) = decide (128 ≤ u.toNat / 128 ^ k) := by
  rw [shr_num]; exact decide_eq_decide.2 (by omega)
theorem num_byte (u : BitVec 64) (k : Nat) : UInt8.ofNat (((u >>> (7 * k)) &&& c64 127)).toNat ||| 128 = UInt8.ofNat (u.toNat / 128 ^ k % 128 + 128) := by
  rw [and127, shr_num]; exact or128 _ (Nat.mod_lt _ (by omega))
theorem num_app (B : List UInt8) (u : BitVec 64) (k : Nat) : (B ++ numP u.toNat k).map u8 ++ [u8 (UInt8.ofNat (u.toNat / 128 ^ k % 128 + 128))] = (B ++ numP u.toNat (k + 1)).map u8 := by
  rw [← numP_s]; simp
theorem shr_next (u : BitVec 64) (k : Nat) : (u >>> (7 * k)) >>> 7 = u >>> (7 * (k + 1)) := by
  apply BitVec.eq_of_toNat_eq
  rw [BitVec.toNat_ushiftRight, BitVec.toNat_ushiftRight, BitVec.toNat_ushiftRight, ← Nat.shiftRight_add]
  rfl
theorem num_last (B : List UInt8) {u : BitVec 64} {k : Nat} (h : ∀ i, i < k → 128 ≤ u.toNat / 128 ^ i) (h2 : u.toNat / 128 ^ k < 128) : (B ++ numP u.toNat k).map u8 ++ [u8 (UInt8.ofNat (u.toNat / 128 ^ k))] = (B ++ numL u.toNat).map u8 := by
  rw [← numL_end h h2]; simp
theorem num_len (B : List UInt8) {u : BitVec 64} {k : Nat} (h : ∀ i, i < k → 128 ≤ u.toNat / 128 ^ i) (h2 : u.toNat / 128 ^ k < 128) : B.length + k + 1 = (B ++ numL u.toNat).length := by
  rw [← numL_end h h2]; simp; omega
theorem uns_conv (n : Int) : IntKind.u64.wrap n = ((BitVec.ofInt 64 n).toNat : Int) := by
  simp only [IntKind.wrap, IntKind.bits, IntKind.signed, BitVec.toNat_ofInt]
  simp
  omega
theorem uns_shr {n : Int} (h0 : -9223372036854775808 ≤ n) (h1 : n ≤ 9223372036854775807) : n.fdiv (2 ^ min (63 : Int).toNat IntKind.i64.bits) = if 0 ≤ n then 0 else -1 := by
  rw [show (2 : Int) ^ min (63 : Int).toNat IntKind.i64.bits = 9223372036854775808 from by decide]
  rw [Int.fdiv_eq_ediv_of_nonneg _ (by omega)]
  split <;> omega
theorem uns_conv2 (n : Int) : IntKind.u64.wrap (if 0 ≤ n then 0 else -1) = ((if 0 ≤ n then (0 : BitVec 64) else BitVec.allOnes 64).toNat : Int) := by
  split <;> rfl
theorem uns_xor {n : Int} (h0 : -9223372036854775808 ≤ n) (h1 : n ≤ 9223372036854775807) : (BitVec.ofInt 64 n <<< 1) ^^^ (if 0 ≤ n then (0 : BitVec 64) else BitVec.allOnes 64) = c64 (unsI n) := by
  apply BitVec.eq_of_toNat_eq
  have hc : (c64 (unsI n)).toNat = unsI n := by
    rw [c64, BitVec.toNat_ofNat, Nat.mod_eq_of_lt (uns_nat h0 h1)]
  rw [hc]
  unfold unsI
  split
  · rename_i h
    rw [show (BitVec.ofInt 64 n <<< 1) ^^^ (0 : BitVec 64) = BitVec.ofInt 64 n <<< 1 from BitVec.xor_zero, BitVec.toNat_shiftLeft, Nat.shiftLeft_eq, BitVec.toNat_ofInt]
    omega
  · rename_i h
    rw [BitVec.xor_allOnes, BitVec.toNat_not, BitVec.toNat_shiftLeft, Nat.shiftLeft_eq, BitVec.toNat_ofInt]
    omega
theorem all_nextV {l : List CV} {i : Nat} {v : CV} {p : CV → Bool} (hv : l[i]? = some v) (h : (l.take i).all p = true) (h2 : p v = true) : (l.take (i + 1)).all p = true := by
  rw [List.take_add_one, hv]; simp [h, h2]
theorem len_z (l : List CV) : ((l.length : Int) == 0) = l.isEmpty := by
  cases l with
  | nil => rfl
  | cons v l =>
    have h : (((v :: l).length : Int) == 0) = false := by
      rw [beq_eq_false_iff_ne, List.length_cons]; omega
    rw [h]; rfl
theorem okV_1 {k n : Int} {s : List UInt8} {l : List CV} (h : k = 1) : (s.isEmpty && ((l.length : Int) == 0)) = CV.okB (.mk k n s l) := by
  rw [CV.okB, if_pos h, len_z]
theorem okV_2 {k n : Int} {s : List UInt8} {l : List CV} (h : k = 2) : ((n == 0) && ((l.length : Int) == 0)) = CV.okB (.mk k n s l) := by
  rw [CV.okB, if_neg (by omega), if_pos h, len_z]; rfl
theorem okV_3n {k n : Int} {s : List UInt8} {l : List CV} (h : k = 3) (h2 : (n != 0 || !s.isEmpty) = true) : false = CV.okB (.mk k n s l) := by
  rw [CV.okB, if_neg (by omega), if_neg (by omega), if_pos h]
  cases s <;> simp_all
theorem okV_3f {k n : Int} {s : List UInt8} {l : List CV} (h : k = 3) {i : Nat} {v : CV} (hv : l[i]? = some v) (h2 : v.okB = false) : false = CV.okB (.mk k n s l) := by
  rw [CV.okB, if_neg (by omega), if_neg (by omega), if_pos h, CV.okBL_all]
  have : l.all CV.okB = false := by
    rw [List.all_eq_false]; exact ⟨v, List.mem_of_getElem? hv, by simp [h2]⟩
  rw [this]; simp
theorem okV_3 {k n : Int} {s : List UInt8} {l : List CV} (h : k = 3) (hn : (n != 0 || !s.isEmpty) = false) (h2 : (l.take l.length).all CV.okB = true) : true = CV.okB (.mk k n s l) := by
  rw [List.take_length] at h2
  rw [CV.okB, if_neg (by omega), if_neg (by omega), if_pos h, CV.okBL_all, h2]
  cases s <;> simp_all
theorem okV_0 {k n : Int} {s : List UInt8} {l : List CV} (h1 : k ≠ 1) (h2 : k ≠ 2) (h3 : k ≠ 3) : false = CV.okB (.mk k n s l) := by
  rw [CV.okB, if_neg h1, if_neg h2, if_neg h3]
theorem CV.rec_size {p : CV → Prop} (N : Nat) (h : ∀ k n s l, CV.sizeL l < N → (∀ v ∈ l, p v) → p (.mk k n s l)) : ∀ v : CV, v.size ≤ N → p v := by
  have key : ∀ (q : Nat) (v : CV), v.size ≤ q → q ≤ N → p v := by
    intro q
    induction q with
    | zero => intro v hv; cases v; simp only [CV.size] at hv; omega
    | succ q ih =>
      intro v hv hq
      obtain ⟨k, n, s, l⟩ := v
      simp only [CV.size] at hv
      exact h k n s l (by omega) fun u hu => ih u (by have := CV.size_mem hu; omega) (by omega)
  exact fun v hv => key N v hv (Nat.le_refl _)
theorem CV.len_sizeL : ∀ l : List CV, l.length ≤ CV.sizeL l
  | [] => Nat.le_refl _
  | v :: l => by simp only [List.length_cons, CV.sizeL]; have := CV.len_sizeL l; omega
theorem CV.depthL_size : ∀ l : List CV, CV.depthL l ≤ CV.sizeL l
  | [] => Nat.le_refl _
  | v :: l => by simp only [CV.depthL, CV.sizeL]; have := CV.depthL_size l; have := CV.depth_size v.size v (Nat.le_refl _); omega
theorem CV.pure_cells (v : CV) : PureL v.cells := by
  obtain ⟨k, n, s, l⟩ := v
  exact ⟨trivial, trivial, trivial, trivial, trivial⟩
instance (v : CV) : IsPureL v.cells := ⟨v.pure_cells⟩
theorem CV.get4 {l : List CV} {i : Nat} {k n : Int} {s : List UInt8} {q : List CV} (h : l[i]? = some (.mk k n s q)) : ((CV.cellsL l).drop (i * 4)).take 4 = [.i .i64 k, .i .i64 n, .s s, .fz q.length (CV.cellsL q)] := CV.get h
theorem okV_kind {k n : Int} {s : List UInt8} {l : List CV} (h : CV.okB (.mk k n s l) = true) : k = 1 ∨ k = 2 ∨ (k = 3 ∧ CV.okBL l = true) := by
  rw [CV.okB] at h
  split at h
  · exact .inl (by assumption)
  · split at h
    · exact .inr (.inl (by assumption))
    · split at h
      · simp only [Bool.and_eq_true] at h; exact .inr (.inr ⟨by assumption, h.2⟩)
      · cases h
mutual
def CV.rng : CV → Bool
  | .mk _ n _ l => decide (-9223372036854775808 ≤ n) && decide (n ≤ 9223372036854775807) && CV.rngL l
def CV.rngL : List CV → Bool
  | [] => true
  | v :: l => v.rng && CV.rngL l
end
theorem CV.rngL_all : ∀ (l : List CV), CV.rngL l = l.all CV.rng
  | [] => rfl
  | v :: l => by rw [CV.rngL, CV.rngL_all l, List.all_cons]
theorem CV.len_enc (v : CV) : 0 < v.enc.length := by
  obtain ⟨k, n, s, l⟩ := v
  rw [CV.enc]
  split
  · simp
  · split <;> simp
theorem CV.len_encL : ∀ l : List CV, l.length ≤ (CV.encL l).length
  | [] => Nat.le_refl _
  | v :: l => by
    have := CV.len_encL l
    have := v.len_enc
    rw [CV.encL, List.length_append, List.length_cons]; omega
theorem CV.encL_take (l : List CV) (i : Nat) : (CV.encL (l.take i)).length ≤ (CV.encL l).length := by
  conv => rhs; rw [← List.take_append_drop i l, CV.encL_flat]
  rw [List.flatMap_append, List.length_append, CV.encL_flat]; omega
theorem app_one (B : List UInt8) (x : UInt8) : B.map u8 ++ [u8 x] = (B ++ [x]).map u8 := by simp
theorem app_str (B s R : List UInt8) (h : B ++ s = R) : B.map u8 ++ s.map u8 = R.map u8 := by rw [← h]; simp
theorem c64_nat {n : Nat} (h : n < 2 ^ 64) : (c64 n).toNat = n := by rw [c64, BitVec.toNat_ofNat, Nat.mod_eq_of_lt h]
theorem chkV_1 {v : CV} (h : v.okB = false) : chkV v = 1 := by unfold chkV; rw [h]; rfl
theorem chkV_2 {v : CV} (h : v.okB = true) (h2 : 16 < v.depth) : chkV v = 2 := by unfold chkV; rw [if_pos h, if_neg (by omega)]
theorem chkV_0 {v : CV} (h : v.okB = true) (h2 : ¬ 16 < v.depth) : chkV v = 0 := by unfold chkV; rw [if_pos h, if_pos (by omega)]
theorem chkV_ok {v : CV} (h : chkV v = 0) : v.okB = true := by
  unfold chkV at h
  split at h
  · assumption
  · omega
theorem encA_no {v : CV} (h : chkV v ≠ 0) : encA v = .tu [.nl, .i .i64 (chkV v)] := by unfold encA; rw [if_neg h]
theorem encA_yes {v : CV} (h : chkV v = 0) : encA v = .tu [.fz v.enc.length (v.enc.map u8), .i .i64 0] := by unfold encA; rw [if_pos h]
theorem retOS_cast {C C' : List UInt8} {id T : Nat} {tc : List A} {st : St} (hC : C = C') (h : st.get id = some (C.map u8)) (h2 : st.get T = some tc) (h3 : T ≠ id) : RetOS 1 C'.length (C'.map u8) [(T, tc)] (.sl id 1 0 C.length) st := by
  subst hC
  exact ⟨id, rfl, h, fun p hp => by rw [List.mem_singleton.1 hp]; exact ⟨h2, h3⟩⟩
theorem uns_pos {n : Int} (h : 0 ≤ n) (h1 : n ≤ 9223372036854775807) : c64 2 * BitVec.ofInt 64 n = c64 (unsI n) := by
  apply BitVec.eq_of_toNat_eq
  rw [c64_nat (uns_nat (by omega) h1), BitVec.toNat_mul, BitVec.toNat_ofInt, c64_nat (by omega), unsI, if_pos h]
  omega
theorem neg_val {n : Int} (h0 : -9223372036854775808 ≤ n) (h : ¬ 0 ≤ n) : IntKind.i64.wrap (0 - (n + 1)) = -(n + 1) := by
  rw [IntKind.wrap_i64]; omega
theorem uns_neg {n : Int} (h0 : -9223372036854775808 ≤ n) (h : ¬ 0 ≤ n) : c64 2 * BitVec.ofInt 64 (-(n + 1)) + c64 1 = c64 (unsI n) := by
  apply BitVec.eq_of_toNat_eq
  rw [c64_nat (uns_nat h0 (by omega)), BitVec.toNat_add, BitVec.toNat_mul, BitVec.toNat_ofInt, c64_nat (by omega), c64_nat (by omega), unsI, if_neg h]
  omega
theorem okV_3r {k n : Int} {s : List UInt8} {l : List CV} (h : k = 3) (h2 : (l.take l.length).all CV.okB = true) : ((n == 0) && s.isEmpty) = CV.okB (.mk k n s l) := by
  rw [List.take_length] at h2
  rw [CV.okB, if_neg (by omega), if_neg (by omega), if_pos h, CV.okBL_all, h2, Bool.and_true]; rfl
theorem num_rem (u : BitVec 64) : UInt8.ofNat (u % c64 128 + c64 128).toNat = UInt8.ofNat (u.toNat % 128 + 128) := by
  rw [BitVec.toNat_add, BitVec.toNat_umod, c64_nat (by omega), Nat.mod_eq_of_lt (by omega)]
theorem num_quo (u : BitVec 64) : (u / c64 128).toNat = u.toNat / 128 := by rw [BitVec.toNat_udiv, c64_nat (by omega)]
end Go.Abs.D2
-- C1Q
namespace Go.Abs.D2
open Go Go.Eng Go.Abs
def rdN : Nat → List UInt8 → Option (Nat × List UInt8)
  | _, [] => none
  | i, c :: r => if (i = 9 ∧ 1 < c.toNat) ∨ (0 < i ∧ c.toNat = 0) then none else if c.toNat < 128 then some (c.toNat, r) else (rdN (i + 1) r).map fun p => (c.toNat % 128 + 128 * p.1, p.2)
theorem rdN_bad {i : Nat} {c : UInt8} {r : List UInt8} (h : (i = 9 ∧ 1 < c.toNat) ∨ (0 < i ∧ c.toNat = 0)) : rdN i (c :: r) = none := by rw [rdN, if_pos h]
theorem rdN_end {i : Nat} {c : UInt8} {r : List UInt8} (h : ¬ ((i = 9 ∧ 1 < c.toNat) ∨ (0 < i ∧ c.toNat = 0))) (h2 : c.toNat < 128) : rdN i (c :: r) = some (c.toNat, r) := by rw [rdN, if_neg h, if_pos h2]
theorem rdN_go {i : Nat} {c : UInt8} {r : List UInt8} (h : ¬ ((i = 9 ∧ 1 < c.toNat) ∨ (0 < i ∧ c.toNat = 0))) (h2 : ¬ c.toNat < 128) : rdN i (c :: r) = (rdN (i + 1) r).map fun p => (c.toNat % 128 + 128 * p.1, p.2) := by rw [rdN, if_neg h, if_neg h2]
theorem big_le (i : Nat) (h : i ≤ 8) : 256 ≤ 2 ^ (64 - 7 * i) := by
  have : 2 ^ 8 ≤ 2 ^ (64 - 7 * i) := Nat.pow_le_pow_right (by omega) (by omega)
  simpa using this
theorem pow_next (i : Nat) (h : i ≤ 8) : 2 ^ (64 - 7 * i) = 128 * 2 ^ (64 - 7 * (i + 1)) := by
  rw [show (128 : Nat) = 2 ^ 7 from rfl, ← Nat.pow_add]; congr 1; omega
theorem pow_9 : 2 ^ (64 - 7 * 9) = 2 := rfl
theorem ofNat_nat {n : Nat} (h : n < 256) : (UInt8.ofNat n).toNat = n := by simp; omega
theorem rdN_num : ∀ (q i u : Nat) (rest : List UInt8), u ≤ q → i ≤ 9 → u < 2 ^ (64 - 7 * i) → (0 < i → 0 < u) → rdN i (numL u ++ rest) = some (u, rest) := by
  intro q
  induction q with
  | zero =>
    intro i u rest h1 h2 h3 h4
    obtain rfl : u = 0 := by omega
    have : i = 0 := by omega
    subst this
    rw [numL_small (by omega)]
    exact rdN_end (by simp) (by simp)
  | succ q ih =>
    intro i u rest h1 h2 h3 h4
    by_cases hs : u < 128
    · rw [numL_small hs]
      have hc : (UInt8.ofNat u).toNat = u := ofNat_nat (by omega)
      have hn : ¬ ((i = 9 ∧ 1 < (UInt8.ofNat u).toNat) ∨ (0 < i ∧ (UInt8.ofNat u).toNat = 0)) := by
        rw [hc]
        rintro (⟨rfl, h⟩ | ⟨h, h'⟩)
        · rw [pow_9] at h3; omega
        · have := h4 h; omega
      have := rdN_end (r := rest) hn (by rw [hc]; exact hs)
      rw [hc] at this
      exact this
    · have h8 : i ≤ 8 := by
        rcases Nat.lt_or_ge i 9 with h | h
        · omega
        · obtain rfl : i = 9 := by omega
          rw [pow_9] at h3; omega
      rw [numL_big hs]
      have hc : (UInt8.ofNat (u % 128 + 128)).toNat = u % 128 + 128 := ofNat_nat (by omega)
      have hn : ¬ ((i = 9 ∧ 1 < (UInt8.ofNat (u % 128 + 128)).toNat) ∨ (0 < i ∧ (UInt8.ofNat (u % 128 + 128)).toNat = 0)) := by
        rw [hc]; omega
      have hg := rdN_go (r := numL (u / 128) ++ rest) hn (by rw [hc]; omega)
      rw [hc] at hg
      have hp := pow_next i h8
      rw [ih (i + 1) (u / 128) rest (by omega) (by omega) (by omega) (fun _ => by omega)] at hg
      show rdN i (UInt8.ofNat (u % 128 + 128) :: (numL (u / 128) ++ rest)) = _
      rw [hg]
      simp only [Option.map_some, Option.some.injEq, Prod.mk.injEq, and_true]
      omega
theorem rdN_enc {u : Nat} (h : u < 2 ^ 64) (rest : List UInt8) : rdN 0 (numL u ++ rest) = some (u, rest) := rdN_num u 0 u rest (Nat.le_refl _) (by omega) h (fun h => absurd h (by omega))
theorem rdN_spec : ∀ {l : List UInt8} {i u : Nat} {rest : List UInt8}, i ≤ 9 → rdN i l = some (u, rest) → numL u ++ rest = l ∧ u < 2 ^ (64 - 7 * i) ∧ (0 < i → 0 < u)
  | [], _, _, _, _, h => by simp [rdN] at h
  | c :: r, i, u, rest, hi, h => by
    by_cases hb : (i = 9 ∧ 1 < c.toNat) ∨ (0 < i ∧ c.toNat = 0)
    · rw [rdN_bad hb] at h; cases h
    · by_cases hs : c.toNat < 128
      · rw [rdN_end hb hs] at h
        simp only [Option.some.injEq, Prod.mk.injEq] at h
        obtain ⟨rfl, rfl⟩ := h
        refine ⟨by rw [numL_small hs]; simp, ?_, fun h => by omega⟩
        rcases Nat.lt_or_ge i 9 with h | h
        · have := big_le i (by omega); omega
        · obtain rfl : i = 9 := by omega
          rw [pow_9]; omega
      · rw [rdN_go hb hs] at h
        obtain ⟨⟨u', q⟩, h1, h2⟩ := Option.map_eq_some_iff.1 h
        simp only [Prod.mk.injEq] at h2
        obtain ⟨rfl, rfl⟩ := h2
        have h8 : i ≤ 8 := by omega
        obtain ⟨g1, g2, g3⟩ := rdN_spec (i := i + 1) (by omega) h1
        have hp := pow_next i h8
        have hc := c.toNat_lt
        have g4 := g3 (by omega)
        refine ⟨?_, by omega, fun _ => by omega⟩
        rw [numL_big (by omega), ← g1]
        have e1 : (c.toNat % 128 + 128 * u') % 128 + 128 = c.toNat := by omega
        have e2 : (c.toNat % 128 + 128 * u') / 128 = u' := by omega
        rw [e1, e2]
        simp
def sgnI (u : Nat) : Int := if u % 2 = 0 then ((u / 2 : Nat) : Int) else -((u / 2 : Nat) : Int) - 1
theorem sgn_uns (n : Int) : sgnI (unsI n) = n := by
  unfold sgnI unsI
  split <;> split <;> omega
theorem uns_sgn (u : Nat) : unsI (sgnI u) = u := by
  unfold sgnI unsI
  split <;> split <;> omega
theorem sgn_rng {u : Nat} (h : u < 2 ^ 64) : -9223372036854775808 ≤ sgnI u ∧ sgnI u ≤ 9223372036854775807 := by
  unfold sgnI; split <;> omega
def manyV (f : List UInt8 → Option (CV × List UInt8)) : Nat → List UInt8 → Option (List CV × List UInt8)
  | 0, l => some ([], l)
  | n + 1, l => (f l).bind fun p => (manyV f n p.2).map fun q => (p.1 :: q.1, q.2)
def rdB (sub : Nat → List UInt8 → Option (List CV × List UInt8)) : List UInt8 → Option (CV × List UInt8)
  | [] => none
  | c :: r =>
    if c = 1 then (rdN 0 r).map fun p => (.mk 1 (sgnI p.1) [] [], p.2)
    else if c = 2 then (rdN 0 r).bind fun p => if p.1 ≤ p.2.length then some (.mk 2 0 (p.2.take p.1) [], p.2.drop p.1) else none
    else if c = 3 then (rdN 0 r).bind fun p => if p.1 ≤ p.2.length then (sub p.1 p.2).map fun q => (.mk 3 0 [] q.1, q.2) else none
    else none
def rdV : Nat → List UInt8 → Option (CV × List UInt8)
  | 0 => rdB fun _ _ => none
  | d + 1 => rdB (manyV (rdV d))
theorem rdV_eq : ∀ d, ∃ sub, rdV d = rdB sub
  | 0 => ⟨_, rfl⟩
  | _ + 1 => ⟨_, rfl⟩
theorem manyV_spec {f : List UInt8 → Option (CV × List UInt8)} {p : CV → Prop} (hf : ∀ l v rest, f l = some (v, rest) → v.enc ++ rest = l ∧ p v) : ∀ (n : Nat) (l : List UInt8) (vs : List CV) (rest : List UInt8), manyV f n l = some (vs, rest) → vs.length = n ∧ CV.encL vs ++ rest = l ∧ ∀ v ∈ vs, p v
  | 0, l, vs, rest, h => by
    simp only [manyV, Option.some.injEq, Prod.mk.injEq] at h
    obtain ⟨rfl, rfl⟩ := h
    exact ⟨rfl, by simp [CV.encL], fun v h => by cases h⟩
  | n + 1, l, vs, rest, h => by
    simp only [manyV] at h
    obtain ⟨⟨v, r⟩, h1, h2⟩ := Option.bind_eq_some_iff.1 h
    obtain ⟨⟨ws, q⟩, h3, h4⟩ := Option.map_eq_some_iff.1 h2
    simp only [Prod.mk.injEq] at h4
    obtain ⟨rfl, rfl⟩ := h4
    obtain ⟨g1, g2, g3⟩ := manyV_spec hf n r ws q h3
    obtain ⟨g4, g5⟩ := hf l v r h1
    refine ⟨by simp [g1], by rw [CV.encL, List.append_assoc, g2, g4], fun u hu => ?_⟩
    rcases List.mem_cons.1 hu with rfl | hu
    · exact g5
    · exact g3 u hu
def Rd (d : Nat) (v : CV) : Prop := v.okB = true ∧ v.depth ≤ d ∧ v.rng = true
theorem depthL_le {d : Nat} : ∀ {vs : List CV}, (∀ v ∈ vs, v.depth ≤ d) → CV.depthL vs ≤ d
  | [], _ => Nat.zero_le _
  | v :: vs, h => by simp only [CV.depthL]; have := h v (.head _); have := depthL_le (vs := vs) fun u hu => h u (.tail _ hu); omega
theorem rdB_spec {sub : Nat → List UInt8 → Option (List CV × List UInt8)} {d : Nat} (hs : ∀ n l vs rest, sub n l = some (vs, rest) → vs.length = n ∧ CV.encL vs ++ rest = l ∧ 0 < d ∧ ∀ v ∈ vs, Rd (d - 1) v) {l : List UInt8} {v : CV} {rest : List UInt8} (hl : l.length < 2 ^ 64) (h : rdB sub l = some (v, rest)) : v.enc ++ rest = l ∧ Rd d v := by
  cases l with
  | nil => cases h
  | cons c r =>
    simp only [List.length_cons] at hl
    simp only [rdB] at h
    split at h
    · rename_i hc
      obtain ⟨⟨u, q⟩, h1, h2⟩ := Option.map_eq_some_iff.1 h
      simp only [Prod.mk.injEq] at h2
      obtain ⟨rfl, rfl⟩ := h2
      obtain ⟨g1, g2, _⟩ := rdN_spec (by omega) h1
      obtain ⟨g3, g4⟩ := sgn_rng g2
      refine ⟨?_, ?_, ?_, ?_⟩
      · rw [CV.enc, if_pos rfl, uns_sgn, hc, ← g1]; rfl
      · rw [CV.okB, if_pos rfl]; rfl
      · rw [CV.depth, if_neg (by omega)]; omega
      · simp [CV.rng, CV.rngL, g3, g4]
    · split at h
      · rename_i hc
        obtain ⟨⟨u, q⟩, h1, h2⟩ := Option.bind_eq_some_iff.1 h
        dsimp only at h2
        split at h2
        · rename_i hle
          simp only [Option.some.injEq, Prod.mk.injEq] at h2
          obtain ⟨rfl, rfl⟩ := h2
          obtain ⟨g1, g2, _⟩ := rdN_spec (by omega) h1
          refine ⟨?_, ?_, ?_, ?_⟩
          · rw [CV.enc, if_neg (by omega), if_pos rfl, List.length_take, Nat.min_eq_left hle, hc, ← g1, List.cons_append, List.append_assoc, List.take_append_drop]
          · rw [CV.okB, if_neg (by omega), if_pos rfl]; rfl
          · rw [CV.depth, if_neg (by omega)]; omega
          · simp [CV.rng, CV.rngL]
        · cases h2
      · split at h
        · rename_i hc
          obtain ⟨⟨u, q⟩, h1, h2⟩ := Option.bind_eq_some_iff.1 h
          dsimp only at h2
          split at h2
          · rename_i hle
            obtain ⟨⟨vs, q2⟩, h3, h4⟩ := Option.map_eq_some_iff.1 h2
            simp only [Prod.mk.injEq] at h4
            obtain ⟨rfl, rfl⟩ := h4
            obtain ⟨g1, g2, _⟩ := rdN_spec (by omega) h1
            obtain ⟨k1, k2, k3, k4⟩ := hs _ _ _ _ h3
            refine ⟨?_, ?_, ?_, ?_⟩
            · rw [CV.enc, if_neg (by omega), if_neg (by omega), k1, hc, ← g1, ← k2]; simp
            · rw [CV.okB, if_neg (by omega), if_neg (by omega), if_pos rfl, CV.okBL_all, List.all_eq_true.2 fun v hv => (k4 v hv).1]; rfl
            · rw [CV.depth, if_pos rfl]
              have := depthL_le fun v hv => (k4 v hv).2.1
              omega
            · simp only [CV.rng, CV.rngL_all, List.all_eq_true.2 fun v hv => (k4 v hv).2.2]; rfl
          · cases h2
        · cases h
theorem rdV_spec : ∀ (d : Nat) {l : List UInt8} {v : CV} {rest : List UInt8}, l.length < 2 ^ 64 → rdV d l = some (v, rest) → v.enc ++ rest = l ∧ Rd d v
  | 0, l, v, rest, hl, h => rdB_spec (sub := fun _ _ => none) (fun n l vs rest h => by cases h) hl h
  | d + 1, l, v, rest, hl, h => by
    -- the elements' own strings are shorter
    cases l with
    | nil => cases h
    | cons c r =>
      refine rdB_spec (sub := fun n q => if q.length < 2 ^ 64 then manyV (rdV d) n q else none) (fun n q vs rest hq => ?_) hl ?_
      · split at hq
        · rename_i hql
          obtain ⟨g1, g2, g3⟩ := manyV_spec (f := fun l => if l.length < 2 ^ 64 then rdV d l else none) (p := Rd d) (fun l v rest hv => by
            split at hv
            · rename_i hll; exact rdV_spec d hll hv
            · cases hv) n q vs rest (by
            have key : ∀ (n : Nat) (q : List UInt8), q.length < 2 ^ 64 → manyV (rdV d) n q = manyV (fun l => if l.length < 2 ^ 64 then rdV d l else none) n q := by
              intro n
              induction n with
              | zero => intro q _; rfl
              | succ n ih =>
                intro q hq
                simp only [manyV]
                rw [if_pos hq]
                cases hv : rdV d q with
                | none => rfl
                | some p =>
                  have hp := (rdV_spec d hq hv).1
                  have : p.2.length < 2 ^ 64 := by rw [← hp, List.length_append] at hq; omega
                  simp only [Option.bind_some]
                  rw [ih p.2 this]
            rw [← key n q hql]; exact hq)
          exact ⟨g1, g2, by omega, g3⟩
        · cases hq
      · rw [← h]
        have key : ∀ q : List UInt8, q.length ≤ r.length → (if q.length < 2 ^ 64 then manyV (rdV d) q.length q else none) = manyV (rdV d) q.length q := fun q hq => if_pos (by simp only [List.length_cons] at hl; omega)
        show rdB _ (c :: r) = rdB _ (c :: r)
        simp only [rdB]
        split
        · rfl
        · split
          · rfl
          · split
            · cases hn : rdN 0 r with
              | none => rfl
              | some p =>
                have hp := (rdN_spec (by omega) hn).1
                have : p.2.length < 2 ^ 64 := by simp only [List.length_cons] at hl; rw [← hp, List.length_append] at hl; omega
                simp only [Option.bind_some, if_pos this]
            · rfl
theorem manyV_enc {f : List UInt8 → Option (CV × List UInt8)} : ∀ (vs : List CV) (rest : List UInt8), (∀ v ∈ vs, ∀ rest, f (v.enc ++ rest) = some (v, rest)) → manyV f vs.length (CV.encL vs ++ rest) = some (vs, rest)
  | [], rest, _ => by simp [manyV, CV.encL]
  | v :: vs, rest, h => by
    simp only [List.length_cons, manyV, CV.encL, List.append_assoc]
    rw [h v (.head _)]
    simp only [Option.bind_some]
    rw [manyV_enc vs rest fun u hu => h u (.tail _ hu)]
    rfl
theorem rdV_enc : ∀ (d : Nat) (v : CV) (rest : List UInt8), v.okB = true → v.depth ≤ d → v.rng = true → v.enc.length < 2 ^ 64 → rdV d (v.enc ++ rest) = some (v, rest) := by
  intro d
  induction d with
  | zero =>
    intro v rest ho hd hr hl
    obtain ⟨k, n, s, l⟩ := v
    rcases okV_kind ho with rfl | rfl | ⟨rfl, _⟩
    · rw [CV.okB, if_pos rfl] at ho
      simp only [Bool.and_eq_true, List.isEmpty_iff] at ho
      obtain ⟨rfl, rfl⟩ := ho
      simp only [CV.rng, Bool.and_eq_true, decide_eq_true_eq] at hr
      rw [CV.enc, if_pos rfl, rdV, List.cons_append, rdB, if_pos rfl, rdN_enc (uns_nat hr.1.1 hr.1.2)]
      simp [sgn_uns]
    · rw [CV.okB, if_neg (by omega), if_pos rfl] at ho
      simp only [Bool.and_eq_true, List.isEmpty_iff, decide_eq_true_eq] at ho
      obtain ⟨rfl, rfl⟩ := ho
      rw [CV.enc, if_neg (by omega), if_pos rfl] at hl
      simp only [List.length_cons, List.length_append] at hl
      rw [CV.enc, if_neg (by omega), if_pos rfl, rdV, List.cons_append, rdB, if_neg (by decide), if_pos rfl, List.append_assoc, rdN_enc (by omega)]
      simp
    · rw [CV.depth, if_pos rfl] at hd; omega
  | succ d ih =>
    intro v rest ho hd hr hl
    obtain ⟨k, n, s, l⟩ := v
    rcases okV_kind ho with rfl | rfl | ⟨rfl, hol⟩
    · rw [CV.okB, if_pos rfl] at ho
      simp only [Bool.and_eq_true, List.isEmpty_iff] at ho
      obtain ⟨rfl, rfl⟩ := ho
      simp only [CV.rng, Bool.and_eq_true, decide_eq_true_eq] at hr
      rw [CV.enc, if_pos rfl, rdV, List.cons_append, rdB, if_pos rfl, rdN_enc (uns_nat hr.1.1 hr.1.2)]
      simp [sgn_uns]
    · rw [CV.okB, if_neg (by omega), if_pos rfl] at ho
      simp only [Bool.and_eq_true, List.isEmpty_iff, decide_eq_true_eq] at ho
      obtain ⟨rfl, rfl⟩ := ho
      rw [CV.enc, if_neg (by omega), if_pos rfl] at hl
      simp only [List.length_cons, List.length_append] at hl
      rw [CV.enc, if_neg (by omega), if_pos rfl, rdV, List.cons_append, rdB, if_neg (by decide), if_pos rfl, List.append_assoc, rdN_enc (by omega)]
      simp
    · rw [CV.okB, if_neg (by omega), if_neg (by omega), if_pos rfl] at ho
      simp only [Bool.and_eq_true, List.isEmpty_iff, decide_eq_true_eq] at ho
      obtain ⟨⟨rfl, rfl⟩, _⟩ := ho
      rw [CV.enc, if_neg (by omega), if_neg (by omega)] at hl
      simp only [List.length_cons, List.length_append] at hl
      have hle := CV.len_encL l
      rw [CV.depth, if_pos rfl] at hd
      rw [CV.okBL_all] at hol
      simp only [CV.rng, Bool.and_eq_true, CV.rngL_all] at hr
      have hel : ∀ v ∈ l, v.enc.length ≤ (CV.encL l).length := fun v hv => by
        obtain ⟨i, hi⟩ := List.getElem?_of_mem hv
        have h1 := CV.encL_take l (i + 1)
        rw [← CV.encL_next hi, List.length_append] at h1
        omega
      rw [CV.enc, if_neg (by omega), if_neg (by omega), rdV, List.cons_append, rdB, if_neg (by decide), if_neg (by decide), if_pos rfl, List.append_assoc, rdN_enc (by omega)]
      simp only [Option.bind_some, List.length_append]
      rw [if_pos (by omega), manyV_enc l rest fun v hv rest => ih v rest (List.all_eq_true.1 hol v hv) (by have := CV.depth_mem hv; omega) (List.all_eq_true.1 hr.2 v hv) (by have := hel v hv; omega)]
      rfl
end Go.Abs.D2
-- AbsU
namespace Go.Abs
open Go Go.Eng
section
variable {st stN : St}
mutual
theorem Vw_leS {s0 : St} (h : stle st stN) : ∀ {ow : Bool} {v v' : A}, Vw stN s0 ow v v' → Vw st s0 ow v v'
  | _, _, _, .pure hp => .pure hp
  | _, _, _, .nl => .nl
  | _, _, _, .sl hf hg hm hd hv hp => .sl hf (h _ _ hg) hm hd (VwL_leS h hv) hp
  | _, _, _, .kp hf => .kp hf
  | _, _, _, .ksl hf => .ksl hf
  | _, _, _, .ag hv => .ag (VwL_leS h hv)
  | _, _, _, .fn hv hv' => .fn (VwL_leS h hv) (VwL_leS h hv')
theorem VwL_leS {s0 : St} (h : stle st stN) : ∀ {ow : Bool} {v v' : List A}, VwL stN s0 ow v v' → VwL st s0 ow v v'
  | _, _, _, .nil => .nil
  | _, _, _, .cons hv hs => .cons (Vw_leS h hv) (VwL_leS h hs)
end
theorem SubL_le {s0 : St} {ow : Bool} (h : stle st stN) : ∀ {os : List (Nat × Option (List A))}, SubL stN s0 ow os → SubL st s0 ow os
  | [], _ => trivial
  | (_, none) :: r, hs => SubL_le h (os := r) hs
  | (_, some _) :: r, hs => ⟨⟨h _ _ hs.1.1, VwL_leS h hs.1.2⟩, SubL_le h (os := r) hs.2⟩
end
theorem chg_HK {d nx : Nat} {v : A} {deps u : List Nat} {need : List (Nat × Option Nat)} {ds : List A} {s0 st : St} {upds : List (Nat × List A)} : (⟨d, v, deps, s0.os.map (·.1), (nx, ds) :: upds, need, u⟩ : Stp).chg st = (aft s0 st upds).put nx ds := by
  unfold Stp.chg aft St.put
  simp [List.map_map, Function.comp_def]
section
variable {r : Option Nat} {ds0 : List Deferred} {P : Program} {w0 : Bw} {X0 : Xs} {N : Nat} {E0 : EV} {st0 : St} {Q : Exit → Act → World → Prop} {ops : Array Oper} {n g : Nat} {plan : List Stp} {E : Ev} {st : St} {rest : List Oper} {d : Nat} {ty : TypeId} {pos : String} {aft' : Array Edge} {gd : Option (Nat × Bool)}
theorem fs_callHO {f : FuncId} {xs : List Operand} {vs vs' ds : List A} {s m : Nat} {ats : Array TypeId} (nx : Nat) (s0 : St) (ow : Bool) (k0 : Nat) (deps : List Nat) (need : List (Nat × Option Nat)) (hg : GuardYes ops (keepI (E0.at k0) deps k0 E) gd) (hxs : evsA (keepI (E0.at k0) deps k0 E) xs = some vs) (hS : SubL (nst plan st0 need) s0 ow s0.os) (hv : VwL (nst plan st0 need) s0 ow vs vs')
    (hc : ConS P f vs' s0 (RetO s m ds)) (hp : PureL ds) (hf : ow = false ∨ FlatL ds) (hb : Nat.ble (d + 1) N = true) (hd : depB k0 deps need = true) (h : FS r ds0 P w0 X0 N Q ops n g E0 st0 (plan ++ [⟨d, .sl nx s 0 m, deps, s0.os.map (·.1), [(nx, ds)], need, []⟩]) (k0 + 1) ((d, .sl nx s 0 m) :: E) ((aft s0 st []).put nx ds) rest) :
    FS r ds0 P w0 X0 N Q ops n g E0 st0 plan k0 E st (⟨some d, .call { callee := .value (.func f), args := xs.toArray, argTypes := ats }, ty, pos, aft', gd⟩ :: rest) :=
  fs_gen ⟨d, .sl nx s 0 m, deps, s0.os.map (·.1), [(nx, ds)], need, []⟩ (fun hk hE _ _ _ hD hs hfr hK => have he' := hD.fin hE hk; ob_gy hg he' (n_callHO nx (hfr _ (.head _) rfl) s0 ow (evs_le he' hxs) (SubL_le hs hS) (VwL_leS hs hv) hc hp hf hb (chg_HK (upds := []) ▸ hK))) hd (chg_HK (upds := []) ▸ h)
theorem fs_callHK {f : FuncId} {x : Operand} {xs : List Operand} {fs cs vs vs' ds : List A} {s m : Nat} {ats : Array TypeId} (nx : Nat) (s0 : St) (upds : List (Nat × List A)) (ow : Bool) (k0 : Nat) (deps : List Nat) (need : List (Nat × Option Nat)) (hg : GuardYes ops (keepI (E0.at k0) deps k0 E) gd) (hx : ev (keepI (E0.at k0) deps k0 E) x = some (.fn (.func f) fs cs)) (hxs : evsA (keepI (E0.at k0) deps k0 E) xs = some vs) (hnx : memN (upds.map (·.1)) nx = false) (hS : SubL (nst plan st0 need) s0 ow s0.os) (hv : VwL (nst plan st0 need) s0 ow (fs ++ vs ++ cs) vs')
    (hc : ConS P f vs' s0 (RetOS s m ds upds)) (hp : PureL ds) (hf : ow = false ∨ FlatL ds) (hu : ∀ p ∈ upds, (∃ cs, s0.get p.1 = some cs) ∧ KpL s0 ow p.2) (hb : Nat.ble (d + 1) N = true) (hd : depB k0 deps need = true) (h : FS r ds0 P w0 X0 N Q ops n g E0 st0 (plan ++ [⟨d, .sl nx s 0 m, deps, s0.os.map (·.1), (nx, ds) :: upds, need, upds.map (·.1)⟩]) (k0 + 1) ((d, .sl nx s 0 m) :: E) ((aft s0 st upds).put nx ds) rest) :
    FS r ds0 P w0 X0 N Q ops n g E0 st0 plan k0 E st (⟨some d, .call { callee := .value x, args := xs.toArray, argTypes := ats }, ty, pos, aft', gd⟩ :: rest) :=
  fs_gen ⟨d, .sl nx s 0 m, deps, s0.os.map (·.1), (nx, ds) :: upds, need, upds.map (·.1)⟩ (fun hk hE _ _ _ hD hs hfr hK => have he' := hD.fin hE hk; ob_gy hg he' (n_callHK nx (hfr _ (.head _) hnx) s0 upds ow (ev_le he' hx) (evs_le he' hxs) (SubL_le hs hS) (VwL_leS hs hv) hc hp hf hu hb (chg_HK ▸ hK))) hd (chg_HK ▸ h)
end
theorem ConS.nl {P : Program} {f : FuncId} {i s : Nat} {vs : List A} {s0 : St} {R : A → St → Prop} (hi : s0.free i = true) (h : ConS P f (.sl i s 0 0 :: vs) (s0.put i []) R) : ConS P f (.nl :: vs) s0 R := by
  intro w X β us hd hX hgl ho hinj hv
  have hn := hd i hi
  simp only [VS] at hv
  obtain ⟨u, us, rfl, hu, hvs⟩ := hv
  have hext := upd_ext (x := BL.ph) hn
  have hd2 : ∀ id, (s0.put i []).free id = true → (upd β i .ph) id = none := fun id hf => by
    rw [St.free_put] at hf
    split at hf
    · cases hf
    · rename_i hne
      rw [upd_ne (fun e => hne e.symm)]
      exact hd id hf
  have hget : ∀ id cs, (s0.put i []).get id = some cs → (id = i ∧ cs = []) ∨ (id ≠ i ∧ s0.get id = some cs) := fun id cs hg => by
    rw [St.get_put] at hg
    split at hg
    · rename_i e; simp only [Option.some.injEq] at hg; exact .inl ⟨e.symm, hg.symm⟩
    · rename_i e; exact .inr ⟨fun h => e h.symm, hg⟩
  have hownM : ∀ b, (bw w (upd β i .ph) (s0.put i []) hd2).M b → (bw w β s0 hd).M b := fun b ⟨id, cs, N, h1, h2⟩ => by
    rcases hget id cs h1 with ⟨rfl, _⟩ | ⟨hne, h1⟩
    · rw [upd_at] at h2; cases h2
    · rw [upd_ne hne] at h2; exact ⟨id, cs, N, h1, h2⟩
  have hownM2 : ∀ b, (bw w β s0 hd).M b → (bw w (upd β i .ph) (s0.put i []) hd2).M b := fun b ⟨id, cs, N, h1, h2⟩ => by
    have hne : id ≠ i := fun e => by subst e; rw [hn] at h2; cases h2
    refine ⟨id, cs, N, ?_, ?_⟩
    · rw [St.get_put, if_neg (fun e => hne e.symm)]; exact h1
    · rw [upd_ne hne]; exact h2
  have hown : ∀ b, (bw w (upd β i .ph) (s0.put i []) hd2).own b → (bw w β s0 hd).own b := fun b => Or.imp_right (hownM b)
  have hown2 : ∀ b, (bw w β s0 hd).own b → (bw w (upd β i .ph) (s0.put i []) hd2).own b := fun b => Or.imp_right (hownM2 b)
  refine (h w X (upd β i .ph) (u :: us) hd2 hX hgl (fun id cs hg => ?_) (fun a b ca cb q M N hab ha hb ea eb => ?_) ?_).mono fun v w' hP => ?_
  · rcases hget id cs hg with ⟨rfl, rfl⟩ | ⟨hne, hg⟩
    · unfold OB; rw [upd_at]
    · have := ho id cs hg
      unfold OB at this ⊢
      rw [upd_ne hne]
      cases hb : β id with
      | none => rw [hb] at this; exact this
      | some y =>
        rw [hb] at this
        cases y with
        | ph => exact this
        | bk b N =>
          obtain ⟨q1, q2, us', rest, ty, q3, q4, q5, q6⟩ := this
          exact ⟨hown2 b q1, q2, us', rest, ty, q3, q4, VS_mono (fun _ _ h => ⟨h, rfl⟩) _ _ _ _ hext q5, q6⟩
  · rcases hget a ca ha with ⟨rfl, _⟩ | ⟨hna, ha⟩
    · rw [upd_at] at ea; cases ea
    · rcases hget b cb hb with ⟨rfl, _⟩ | ⟨hnb, hb⟩
      · rw [upd_at] at eb; cases eb
      · rw [upd_ne hna] at ea; rw [upd_ne hnb] at eb
        exact hinj a b ca cb q M N hab ha hb ea eb
  · simp only [VS]
    refine ⟨u, us, rfl, ?_, VS_mono (fun _ _ h => ⟨h, rfl⟩) _ _ _ _ hext hvs⟩
    simp only [V] at hu ⊢
    exact .inl ⟨upd_at, trivial, trivial, hu⟩
  · obtain ⟨r, β', X', st', h1, h2, h3, hm, hv⟩ := hP
    refine ⟨r, β', X', st', h1, h2, fun b o hx => (h3 b o hx).imp_right (hown b), ?_, hv⟩
    refine .of ⟨hm.below.os, hm.below.tape, hm.below.output, hm.below.size, fun k hk hM => hm.below.block k hk fun h => hM (hownM k h), fun s hs => by cases hs⟩ (fun k y hk => hm.b0 k y (hext k y hk)) hm.xlt hm.dom (fun id cs hg => ?_) hm.inj
    have := hm.obj id cs hg
    unfold OB at this ⊢
    split
    · rename_i e; rw [e] at this; exact this
    · rename_i e; rw [e] at this; exact this
    · rename_i b N e
      rw [e] at this
      exact ⟨hown b this.1, this.2⟩
section
variable {P : Program} {n : Nat}
theorem enterH {f : FuncId} {fn : Func} {c : Code} {args : List A} {s0 : St} {s m : Nat} {ds : List A} (hp : PureL ds) (hf : P.funcs[f]? = some fn) (hb : fn.body = some c)
    (hn : fn.ntmps = n) (hname : (fn.name == "runtime.NumGoroutine") = false) (ha : args.length ≤ n)
    (h : ∀ w0 X0, w0.ids = [] → At w0 X0 n (argsE args 0) s0 (Pw [] (c.wpIn (rF none) 0 P (bodyPost P fn fun e w' => ∃ v, e = .returned v ∧ Post w0 X0 (RetO s m ds) v w')))) : ConS P f args s0 (RetO s m ds) := by
  intro w X β us hd hX hgl ho hi hv
  have hl := VS_len hv
  refine Eng.Fn.mono (R := Post (bwH w β s0) X (RetO s m ds)) ⟨⟨fn, hf, by simp [hb], hname⟩, calls_of_wp hf hb (wpIn_wide.1 (wp_nil (h (bwH w β s0) X rfl _ w ⟨β, X, .of (fun _ _ h => h) (fun _ _ h => .inl h) (.of ⟨rfl, rfl, rfl, Nat.le_refl _, fun _ _ _ => rfl, fun s hs => by cases hs⟩ (fun _ _ h => by cases h) hX hd ho hi) hgl ?_ rfl (fun s hs => by cases hs) (fun t v ht => ?_)⟩)))⟩ (fun _ _ h => post_H hp h)
  · simp [hn]; omega
  · obtain ⟨_, h2⟩ := argsE_at _ _ _ _ ht
    simp only [Nat.sub_zero] at h2
    obtain ⟨u, g1, g2⟩ := VS_get hv h2
    have hlt := (List.getElem?_eq_some_iff.1 g1).1
    refine ⟨u, ?_, g2⟩
    rw [Array.getElem?_append, if_pos (by simpa using hlt)]
    simpa using g1
end
theorem no_in {T : List Nat} : ∀ p ∈ ([] : List (Nat × List A)), p.1 ∈ T := fun p hp => by cases hp
theorem no_get {st : St} : ∀ t ∈ ([] : List Nat), ∃ cs, st.get t = some cs := fun p hp => by cases hp
theorem onlyT_nil {T : List Nat} : OnlyT T [] := fun p hp => by cases hp
theorem no_upd {s0 : St} {ow : Bool} : ∀ p ∈ ([] : List (Nat × List A)), (∃ cs, s0.get p.1 = some cs) ∧ KpL s0 ow p.2 := fun p hp => by cases hp
theorem retOS_nil {s m id : Nat} {cs : List A} {st : St} (h : st.get id = some cs) : RetOS s m cs [] (.sl id s 0 m) st := ⟨id, rfl, h, fun p hp => by cases hp⟩
theorem one_get {st : St} {T : Nat} {cs : List A} (h : st.get T = some cs) : ∀ t ∈ [T], ∃ cs, st.get t = some cs := fun t ht => by
  rw [List.mem_singleton.1 ht]; exact ⟨_, h⟩
end Go.Abs
