/-
  The second engine, part P: objects that pointers lead to, given up to be read for good; interface values. Conditions: none; nothing of any program stands here.
-/
import Derived.Test.YtjnbpinnjbdnpaaAbsO
namespace Go.Abs
open Go Go.Eng
section
variable {P : Program} {w0 : Bw} {X0 : Xs} {n : Nat} {E : Ev} {st : St} {K : Act → World → Prop}

/-- What a slot's pointer leads to is turned no more. -/
theorem at_frzP (t : Nat) {id : Nat} {cs : List A} (ht : E.at? t = some (.p id 0)) (hg : st.get id = some cs) (hp : PureL cs) (h : At w0 X0 n ((t, .fp cs) :: E) (st.del id) K) : At w0 X0 n E st K := by
  rintro a w ⟨β, X, hr⟩
  obtain ⟨u, g1, g2⟩ := hr.slot t _ ht
  simp only [V] at g2
  obtain ⟨b, N, hβ, rfl⟩ := g2
  obtain ⟨m1, m2, m3, m4⟩ := hr.mem.freeze hg hβ
  refine h a w ⟨β, _, hr.say ht m1 m2 m3 fun u hu => ?_⟩
  simp only [V] at hu ⊢
  obtain ⟨b', N', hb', rfl⟩ := hu
  rw [hβ] at hb'
  simp only [Option.some.injEq, BL.bk.injEq] at hb'
  obtain ⟨rfl, rfl⟩ := hb'
  have := m4 0 cs.length hp
  rw [List.drop_zero, List.take_length] at this
  exact ⟨b, 0, rfl, this⟩

variable {t t' ty : TypeId} {x : Operand}
/-- A value as an interface's. -/
theorem y_mkic {v : A} (hc : P.concrete t = true) (hx : ev E x = some v) : YO P E st (.makeInterface t x) ty (.ic t v) := by
  intro w0 X0 n0 β X a w hr
  obtain ⟨h1, h2⟩ := hr.evo hx
  refine ⟨.iface t _, by simp only [V]; exact ⟨_, rfl, h2⟩, hr.old fun w' _ => fun d pos aft g a' w'' hR _ => ?_⟩
  simp [execOp, hR.ev h1, run_makeInterface w'' t _ hc]
def ifaceD : TypeDesc → Bool
  | .interface _ => true
  | _ => false
/-- An interface's value asked for its own type. -/
theorem y_tayes {v : A} {d : TypeDesc} (hu : P.underlying t = some d) (hd : ifaceD d = false) (hx : ev E x = some (.ic t v)) : YO P E st (.typeAssert x t' t true) ty (.tu [v, .b true]) := by
  intro w0 X0 n0 β X a w hr
  obtain ⟨h1, h2⟩ := hr.evo hx
  simp only [V] at h2
  obtain ⟨u, e1, e2⟩ := h2
  rw [e1] at h1
  refine ⟨.tuple #[u, .bool true], by simp only [V]; exact ⟨[u, .bool true], rfl, VS_cons e2 (VS_cons (by simp [V]) VS_nil)⟩, hr.old fun w' _ => fun d' pos aft g a' w'' hR _ => ?_⟩
  have key : (Instr.typeAssert (.iface t u) t' t true).run P w'' = .ok (.tuple #[u, .bool true]) w'' := by
    cases d <;> first | (cases hd; done) | simp [Instr.typeAssert, run_underlying hu]
  simp [execOp, hR.ev h1, key]
/-- .. for another type: the zero value, and no. -/
theorem y_tano {t2 : TypeId} {v : A} {d : TypeDesc} {z : Value} (hu : P.underlying t = some d) (hd : ifaceD d = false) (hz : (P.info? t).bind (·.zero) = some z) (hx : ev E x = some (.ic t2 v)) (hne : Nat.beq t2 t = false) : YO P E st (.typeAssert x t' t true) ty (.tu [.raw z, .b false]) := by
  intro w0 X0 n0 β X a w hr
  obtain ⟨h1, h2⟩ := hr.evo hx
  simp only [V] at h2
  obtain ⟨u, e1, e2⟩ := h2
  rw [e1] at h1
  refine ⟨.tuple #[z, .bool false], by simp only [V]; exact ⟨[z, .bool false], rfl, VS_cons (by simp [V]) (VS_cons (by simp [V]) VS_nil)⟩, hr.old fun w' _ => fun d' pos aft g a' w'' hR _ => ?_⟩
  have hn : t2 ≠ t := Nat.ne_of_beq_eq_false hne
  obtain ⟨i, hi, hz'⟩ := Option.bind_eq_some_iff.1 hz
  have hzv : (zeroValue t).run P w'' = .ok z w'' := by simp [Go.zeroValue, Go.typeInfo, hi, hz']
  have key : (Instr.typeAssert (.iface t2 u) t' t true).run P w'' = .ok (.tuple #[z, .bool false]) w'' := by
    cases d <;> first | (cases hd; done) | simp [Instr.typeAssert, run_underlying hu, hn, hzv]
  simp [execOp, hR.ev h1, key]
end
end Go.Abs
