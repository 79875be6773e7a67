/-
  The engine, the plain laws and the walks that the rows need, part 12. Conditions: none.
-/
import Derived.Test.YtahjdbnhgdaejaaDoorM11
import Derived.RecoverIn
set_option linter.unusedVariables false
set_option linter.unusedSimpArgs false
set_option maxHeartbeats 1000000
set_option maxRecDepth 10000
-- AbsW
namespace Go.Abs
open Go Go.Eng
abbrev pch (u : Value) : List PanicEntry := [{ v := u, recovered := false }]
def EndX (w0 : Bw) (X0 : Xs) (R : A → St → Prop) (pn : Value → Prop) (e : Ending) (w' : World) : Prop :=
  (∃ v, e = .returned v ∧ Post w0 X0 R v w') ∨ ∃ u, e = .panicked (pch u) ∧ pn u ∧ Post w0 X0 (fun _ _ => True) undef w'
def ConE (P : Program) (f : FuncId) (args : List A) (s0 : St) (R : A → St → Prop) (pn : Value → Prop) : Prop :=
  ∀ w X β us (hd : ∀ id, s0.free id = true → β id = none), (∀ b o, X b o → b < w.heap.size) → GL X w → (∀ id cs, s0.get id = some cs → OB β X w (bw w β s0 hd) id cs) →
    (∀ i j ci cj b M N, i ≠ j → s0.get i = some ci → s0.get j = some cj → β i = some (.bk b M) → β j = some (.bk b N) → False) → VS X w β args us → Callable P f ∧ Calls P f us.toArray w (EndX (bw w β s0 hd) X R pn)
section
variable {P : Program} {f : FuncId} {args : List A} {s0 : St} {R R' : A → St → Prop} {pn : Value → Prop}
theorem Post.mono {w0 : Bw} {X : Xs} {v : Value} {w' : World} (h : Post w0 X R v w') (hr : ∀ r st, R r st → R' r st) : Post w0 X R' v w' := let ⟨r, β', X', st', h1, h2⟩ := h; ⟨r, β', X', st', hr _ _ h1, h2⟩
theorem ConE.ret (h : ConE P f args s0 R pn) (hr : ∀ r st, R r st → R' r st) (hn : ∀ u, ¬ pn u) : ConS P f args s0 R' := fun w X β us hd h1 h2 h3 h4 h5 =>
  let ⟨c, k⟩ := h w X β us hd h1 h2 h3 h4 h5
  ⟨c, k.mono fun e w' he => by
    rcases he with ⟨v, e1, e2⟩ | ⟨u, _, e2, _⟩
    · exact ⟨v, e1, e2.mono hr⟩
    · exact absurd e2 (hn u)⟩
end
end Go.Abs
-- AbsY
namespace Go.Abs
open Go Go.Eng
end Go.Abs
-- AbsZ
namespace Go.Eng
open Go
end Go.Eng
namespace Go.Abs
open Go Go.Eng
end Go.Abs
