/-
  The second engine, part O: an element of an array held as a value; slices against nil. Conditions: none; nothing of any program stands here.
-/
import Derived.Test.YtjnbpinnjbdnpaaAbsN
namespace Go.Abs
open Go Go.Eng
section
variable {P : Program} {E : Ev} {st : St} {t t' e ty : TypeId} {x y i : Operand}

/-- An element of one cell. -/
theorem y_ixv {by' : Nat} {zero : List Value} {k : IntKind} {iv : Int} {n : Nat} {cs : List A} {v : A} (j : Nat) (ht : P.underlying t = some (.array n e)) (he : TI P e 1 by' zero false) (hx : ev E x = some (.ag cs)) (hi : ev E i = some (.i k iv)) (hj : iv = (j : Int)) (hn : j < n) (hv : cs[j]? = some v) : YO P E st (.index t x i) ty v := by
  intro w0 X0 n0 β X a w hr
  obtain ⟨h1, h2⟩ := hr.evo hx
  obtain ⟨h3, h4⟩ := hr.evo hi
  simp only [V] at h2
  obtain ⟨us, e1, e2, e3⟩ := h2
  rw [V_i] at h4
  rw [e1] at h1
  rw [h4] at h3
  subst hj
  obtain ⟨u, g1, g2⟩ := VS_get e2 hv
  refine ⟨u, g2, hr.old fun w' _ => fun d pos aft g a' w'' hR _ => ?_⟩
  have key : (Instr.index t (.agg us.toArray) (.int k (j : Int))).run P w'' = .ok u w'' := by
    simp [Instr.index, run_underlying ht, asIntOf, hn, he.sizeOf w'', part, he.isAgg w'', g1, go_sem]
  simp [execOp, hR.ev h1, hR.ev h3, key]
/-- .. of more. -/
theorem y_ixvA {size by' : Nat} {zero : List Value} {k : IntKind} {iv : Int} {n : Nat} {cs ds : List A} (j : Nat) (ht : P.underlying t = some (.array n e)) (he : TI P e size by' zero true) (hx : ev E x = some (.ag cs)) (hi : ev E i = some (.i k iv)) (hj : iv = (j : Int)) (hn : j < n) (hv : (cs.drop (j * size)).take size = ds) : YO P E st (.index t x i) ty (.ag ds) := by
  intro w0 X0 n0 β X a w hr
  obtain ⟨h1, h2⟩ := hr.evo hx
  obtain ⟨h3, h4⟩ := hr.evo hi
  simp only [V] at h2
  obtain ⟨us, e1, e2, e3⟩ := h2
  rw [V_i] at h4
  rw [e1] at h1
  rw [h4] at h3
  subst hj
  subst hv
  refine ⟨.agg ((us.drop (j * size)).take size).toArray, by simp only [V]; exact ⟨_, rfl, VS_take (VS_drop e2 _) _, fun x hx => e3 x (List.mem_of_mem_drop (List.mem_of_mem_take hx))⟩, hr.old fun w' _ => fun d pos aft g a' w'' hR _ => ?_⟩
  have key : (Instr.index t (.agg us.toArray) (.int k (j : Int))).run P w'' = .ok (.agg ((us.drop (j * size)).take size).toArray) w'' := by
    simp [Instr.index, run_underlying ht, asIntOf, hn, he.sizeOf w'', part, he.isAgg w'', go_sem]
  simp [execOp, hR.ev h1, hR.ev h3, key]
/-- A slice that is not empty is not nil. -/
theorem y_fznil {n : Nat} {cs : List A} (ht : P.underlying t = some (.slice e)) (hx : ev E x = some (.fz n cs)) (hy : ev E y = some .nl) (hn : 0 < n) : YO P E st (.binOp .eql t x y t') ty (.b false) := by
  intro w0 X0 n0 β X a w hr
  obtain ⟨h1, h2⟩ := hr.evo hx
  obtain ⟨h3, h4⟩ := hr.evo hy
  simp only [V] at h2 h4
  obtain ⟨ad, cap, g1, g2, g3, g4, _⟩ := h2
  rw [g1] at h1; rw [h4] at h3
  have hs : ad.isNone = false := by
    cases ad with
    | none => have := g4 rfl; omega
    | some _ => rfl
  exact ⟨.bool ad.isNone, by simp only [V, hs], hr.old fun w' _ => Eng.y_nil ht h1 h3⟩
end
end Go.Abs
