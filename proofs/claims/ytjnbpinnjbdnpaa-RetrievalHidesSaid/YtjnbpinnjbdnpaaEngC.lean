/-
  The engine, part C: entering a function, calls by contract, results. Conditions: none; nothing of any program stands here.
-/
import Derived.Test.YtjnbpinnjbdnpaaEngB
namespace Go.Eng

/-- A function with a body. -/
def Callable (P : Program) (f : FuncId) : Prop := ∃ fn, P.funcs[f]? = some fn ∧ fn.body.isNone = false ∧ (fn.name == "runtime.NumGoroutine") = false

/-- The contract of a call: it returns, and of what it returns and the world behind it R holds. -/
structure Fn (P : Program) (f : FuncId) (args : Array Value) (w : World) (R : Value → World → Prop) : Prop where
  callable : Callable P f
  calls : Calls P f args w fun e w' => ∃ v, e = .returned v ∧ R v w'

theorem Fn.mono {P f args w R R'} (h : Fn P f args w R) (hr : ∀ v w', R v w' → R' v w') : Fn P f args w R' :=
  ⟨h.callable, h.calls.mono fun _ _ ⟨v, he, hv⟩ => ⟨v, he, hr _ _ hv⟩⟩

def argEnv : List Value → Nat → Env
  | [], _ => []
  | v :: r, k => (k, v) :: argEnv r (k + 1)

theorem argEnv_at : ∀ (l : List Value) (k t : Nat) (v : Value), (argEnv l k).at? t = some v → k ≤ t ∧ l[t - k]? = some v
  | [], _, _, _, h => by simp [argEnv, Env.at?] at h
  | u :: r, k, t, v, h => by
    simp only [argEnv, Env.at?] at h
    cases hb : Nat.beq k t with
    | true =>
      rw [hb] at h
      have : k = t := Nat.eq_of_beq_eq_true hb
      subst this
      simp only [cond_true, Option.some.injEq] at h
      subst h
      simp
    | false =>
      rw [hb] at h
      have hne : k ≠ t := Nat.ne_of_beq_eq_false hb
      obtain ⟨h1, h2⟩ := argEnv_at r (k + 1) t v h
      refine ⟨by omega, ?_⟩
      rw [show t - k = (t - (k + 1)) + 1 by omega]
      simpa using h2

/-- Into a function: its frame is the arguments and what is not yet known. -/
theorem enter {P : Program} {f : FuncId} {fn : Func} {c : Code} {args : List Value} {n : Nat} {w : World} {R : Value → World → Prop} (hf : P.funcs[f]? = some fn) (hb : fn.body = some c)
    (hn : fn.ntmps = n) (hname : (fn.name == "runtime.NumGoroutine") = false) (ha : Nat.ble args.length n = true)
    (h : At n (argEnv args 0) [w] [] (c.wp P (bodyPost P fn fun e w' => ∃ v, e = .returned v ∧ R v w'))) : Fn P f args.toArray w R := by
  refine ⟨⟨fn, hf, by simp [hb], hname⟩, calls_of_wp hf hb (h _ w ⟨?_, rfl, ?_⟩ (Good.start w))⟩
  · have := Nat.le_of_ble_eq_true ha
    simp [hn]; omega
  · intro t v ht
    obtain ⟨_, h2⟩ := argEnv_at _ _ _ _ ht
    have hlt : t < args.length := by
      have := (List.getElem?_eq_some_iff.1 h2).1
      simpa using this
    simp only [Nat.sub_zero] at h2
    rw [Array.getElem?_append, if_pos (by simpa using hlt)]
    simpa using h2

section
variable {P : Program} {n : Nat} {E : Env} {S : List World} {H : List (Nat × Obj)} {Q : Exit → Act → World → Prop}

def retf (tmps : Array Value) : ResultVar → Sem Value
  | .tmp t => pure (tmps.getD t undef)
  | .cell x t => do loadVar t (← asAddr (tmps.getD x undef))

/-- What the results come to. -/
def Rets (P : Program) (n : Nat) (E : Env) (S : List World) (H : List (Nat × Obj)) (rs : List ResultVar) (vs : List Value) : Prop :=
  At n E S H fun a w => (rs.mapM (retf a.tmps)).run P w = .ok vs w

theorem r_nil : Rets P n E S H [] [] := fun _ _ _ _ => by simp
theorem r_tmp {t : Nat} {v : Value} {rs : List ResultVar} {vs : List Value} (ht : E.at? t = some v) (h : Rets P n E S H rs vs) : Rets P n E S H (.tmp t :: rs) (v :: vs) := fun a w hR hG => by
  have h1 := hR.slot t v ht
  have h2 := h a w hR hG
  simp only at h2
  simp only [List.mapM_cons, Sem.run_bind, Sem.run_pure, Result.andThen_ok, retf]
  rw [h2]
  simp [h1]

theorem r_cell {x t : Nat} {b o : Nat} {v : Value} {rs : List ResultVar} {vs : List Value} (hx : E.at? x = some (.pointer (some ⟨b, o, none⟩)))
    (hv : ∀ w, Good S H w → (loadVar t ⟨b, o, none⟩).run P w = .ok v w) (h : Rets P n E S H rs vs) : Rets P n E S H (.cell x t :: rs) (v :: vs) := fun a w hR hG => by
  have h1 := hR.slot x _ hx
  have h2 := h a w hR hG
  simp only at h2
  have e1 : (asAddr (a.tmps.getD x undef)).run P w = .ok ⟨b, o, none⟩ w := by simp [h1, asAddr]
  simp only [List.mapM_cons, Sem.run_bind, retf]
  rw [e1]
  simp only [Result.andThen_ok, hv w hG]
  rw [h2]
  rfl

/-- The value that one or several results make. -/
def retv : List Value → Value
  | [v] => v
  | vs => .tuple vs.toArray

theorem run_results {fn : Func} {rs : List ResultVar} {vs : List Value} (hrs : fn.results = rs.toArray) (h : Rets P n E S H rs vs) {a w} (hR : Rep n E a) (hG : Good S H w) :
    (results fn a.tmps).run P w = .ok (retv vs) w := by
  have h2 := h a w hR hG
  simp only at h2
  have e : results fn a.tmps = (do let vs ← fn.results.mapM (retf a.tmps); pure (if h : vs.size = 1 then vs[0] else .tuple vs)) := by
    unfold results
    congr 2
  rw [e, Sem.run_bind, hrs, List.mapM_toArray, Sem.run_map, h2]
  match vs with
  | [] => simp [retv]
  | [v] => simp [retv]
  | u :: v :: r => simp [retv]

theorem at_result {fn : Func} {R : Value → World → Prop} {rs : List ResultVar} {vs : List Value} (hrs : fn.results = rs.toArray) (hr : Rets P n E S H rs vs) (h : ∀ w, Good S H w → R (retv vs) w) :
    At n E S H (bodyPost P fn (fun e w' => ∃ v, e = .returned v ∧ R v w') .ret) := fun _ w hR hG =>
  ⟨hR.defers, _, run_results hrs hr hR hG, _, rfl, h w hG⟩

theorem at_result' {fn : Func} {R : Value → World → Prop} {rs : List ResultVar} {vs : List Value} (hrs : fn.results = rs.toArray) (hr : Rets P n E S H rs vs) (h : ∀ w, Good S H w → R (retv vs) w) :
    At n E S H (bodyPost P fn (fun e w' => ∃ v, e = .returned v ∧ R v w') .normal) := fun _ w hR hG =>
  ⟨hR.defers, _, run_results hrs hr hR hG, _, rfl, h w hG⟩

def evs (E : Env) : List Operand → Option (List Value)
  | [] => some []
  | x :: r =>
    match ev E x, evs E r with
    | some v, some vs => some (v :: vs)
    | _, _ => none

theorem Rep.evs {a} (hR : Rep n E a) : ∀ {l : List Operand} {vs : List Value}, Eng.evs E l = some vs → l.map a.eval = vs
  | [], vs, h => by simp only [Eng.evs, Option.some.injEq] at h; subst h; rfl
  | x :: r, vs, h => by
    simp only [Eng.evs] at h
    split at h
    · rename_i v us hv hus
      simp only [Option.some.injEq] at h
      subst h
      simp [hR.ev hv, Rep.evs hR hus]
    · cases h

/-- A call of a function value. -/
theorem n_callv {d : Option Nat} {f : FuncId} {x : Operand} {xs : List Operand} {vs : List Value} {fst cap : Array Value} {ats : Array TypeId} {ty : TypeId} {pos aft g} {K : Act → World → Prop}
    (hx : ev E x = some (.func (.func f) fst cap)) (hargs : evs E xs = some vs) (hd : okDst n d = true)
    (h : ∀ w, Good S H w → Fn P f (fst ++ vs.toArray ++ cap) w fun v w' => ∀ a, Rep n (E.put d v) a → K a w') :
    At n E S H (fun a w => (⟨d, .call { callee := .value x, args := xs.toArray, argTypes := ats }, ty, pos, aft, g⟩ : Oper).wp P a w K Q) := by
  intro a w hR hG
  obtain ⟨⟨fn, hf, hb, hname⟩, hc⟩ := h w hG
  show Oper.wp P _ a w K Q
  unfold Oper.wp
  have hrun : (execOp a.eval ⟨d, .call { callee := .value x, args := xs.toArray, argTypes := ats }, ty, pos, aft, g⟩).run P w = .ok (.enter f (fst ++ vs.toArray ++ cap)) w := by
    have he : xs.toArray.map a.eval = vs.toArray := by rw [List.map_toArray, hR.evs hargs]
    have e1 : execOp a.eval ⟨d, .call { callee := .value x, args := xs.toArray, argTypes := ats }, ty, pos, aft, g⟩ = callFunc f (fst ++ vs.toArray ++ cap) := by
      show (do let d ← Deferred.ofValue (a.eval x) (xs.toArray.map a.eval); invoke d.target d.args : Sem Next) = _
      rw [hR.ev hx, he]
      rfl
    rw [e1]
    unfold callFunc
    rw [Sem.run_bind, run_program]
    simp only [Result.andThen_ok, hf, hname, hb, Bool.false_eq_true, if_false]
    rfl
  rw [hrun]
  show Calls P f _ w _
  refine hc.mono fun e w' => ?_
  rintro ⟨v, rfl, hv⟩
  exact hv _ (hR.putD hd v)

/-- A call of a function that the text names. -/
theorem n_call {d : Option Nat} {f : FuncId} {xs : List Operand} {vs : List Value} {ats : Array TypeId} {ty : TypeId} {pos aft g} {K : Act → World → Prop}
    (hargs : evs E xs = some vs) (hd : okDst n d = true)
    (h : ∀ w, Good S H w → Fn P f vs.toArray w fun v w' => ∀ a, Rep n (E.put d v) a → K a w') :
    At n E S H (fun a w => (⟨d, .call { callee := .value (.func f), args := xs.toArray, argTypes := ats }, ty, pos, aft, g⟩ : Oper).wp P a w K Q) :=
  n_callv (x := .func f) rfl hargs hd fun w hG => by simpa using h w hG

/-- The same, first in a list of operations. -/
theorem c1 {ops : Array Oper} {rest : List Oper} {d : Nat} {f : FuncId} {xs : List Operand} {vs : List Value} {ats : Array TypeId} {ty : TypeId} {pos aft}
    (hargs : evs E xs = some vs) (hd : Nat.ble (d + 1) n = true)
    (h : ∀ w, Good S H w → Fn P f vs.toArray w fun v w' => ∀ a, Rep n ((d, v) :: E) a → wpList P ops Q rest a w') :
    At n E S H (wpList P ops Q (⟨some d, .call { callee := .value (.func f), args := xs.toArray, argTypes := ats }, ty, pos, aft, none⟩ :: rest)) :=
  at_op rfl (n_call hargs hd h)

theorem c1v {ops : Array Oper} {rest : List Oper} {d : Nat} {f : FuncId} {x : Operand} {xs : List Operand} {vs : List Value} {fst cap : Array Value} {ats : Array TypeId} {ty : TypeId} {pos aft}
    (hx : ev E x = some (.func (.func f) fst cap)) (hargs : evs E xs = some vs) (hd : Nat.ble (d + 1) n = true)
    (h : ∀ w, Good S H w → Fn P f (fst ++ vs.toArray ++ cap) w fun v w' => ∀ a, Rep n ((d, v) :: E) a → wpList P ops Q rest a w') :
    At n E S H (wpList P ops Q (⟨some d, .call { callee := .value x, args := xs.toArray, argTypes := ats }, ty, pos, aft, none⟩ :: rest)) :=
  at_op rfl (n_callv hx hargs hd h)

/-- A call whose guard says yes. -/
theorem c1g {ops : Array Oper} {rest : List Oper} {d j t : Nat} {b : Bool} {f : FuncId} {xs : List Operand} {vs : List Value} {ats : Array TypeId} {ty : TypeId} {pos aft}
    (hj : guardSlot ops j = some t) (hb : E.at? t = some (.bool b)) (hargs : evs E xs = some vs) (hd : Nat.ble (d + 1) n = true)
    (h : ∀ w, Good S H w → Fn P f vs.toArray w fun v w' => ∀ a, Rep n ((d, v) :: E) a → wpList P ops Q rest a w') :
    At n E S H (wpList P ops Q (⟨some d, .call { callee := .value (.func f), args := xs.toArray, argTypes := ats }, ty, pos, aft, some (j, b)⟩ :: rest)) :=
  at_opg rfl hj hb (n_call hargs hd h)

theorem a1 {ops : Array Oper} {rest : List Oper} {d : Nat} {t ty : TypeId} {pos aft} {size by' zero agg} (ht : TI P t size by' zero agg) (hd : Nat.ble (d + 1) n = true)
    (h : ∀ b, leAll S b → ltAll H b → At n ((d, .pointer (some ⟨b, 0, none⟩)) :: E) S ((b, row t zero) :: H) (wpList P ops Q rest)) :
    At n E S H (wpList P ops Q (⟨some d, .alloc t, ty, pos, aft, none⟩ :: rest)) := at_op rfl (n_alloc ht hd h)

theorem b1 {ops : Array Oper} {rest : List Oper} {d : Nat} {t ty : TypeId} {pos aft} {x : Operand} {v : Value} (cs : List Value) (hx : ev E x = some v) (hv : v.cells = cs.toArray) (hd : Nat.ble (d + 1) n = true)
    (h : ∀ b, leAll S b → ltAll H b → At n ((d, .pointer (some ⟨b, 0, none⟩)) :: E) S ((b, row t cs) :: H) (wpList P ops Q rest)) :
    At n E S H (wpList P ops Q (⟨some d, .box t x, ty, pos, aft, none⟩ :: rest)) := at_op rfl (n_box hx hv hd h)

/-- A store of one cell into own block 'i'. -/
theorem st1 {ops : Array Oper} {rest : List Oper} {t by' zero ety} {ty : TypeId} {pos aft} {x y : Operand} {b o : Nat} {cs : List Value} {v : Value} (i : Nat) (ht : TI P t 1 by' zero false)
    (hx : ev E x = some (.pointer (some ⟨b, o, none⟩))) (hy : ev E y = some v) (hv : v.oneCell' = true) (hi : H[i]? = some (b, row ety cs)) (hfit : o < cs.length)
    (h : At n E S (H.set i (b, row ety (cs.set o v))) (wpList P ops Q rest)) :
    At n E S H (wpList P ops Q (⟨none, .store t x y, ty, pos, aft, none⟩ :: rest)) := at_op rfl (n_store1 i ht hx hy hv hi hfit h)

/-- A store of a struct or an array into own block 'i'. -/
theorem stn {ops : Array Oper} {rest : List Oper} {t size by' zero agg ety} {ty : TypeId} {pos aft} {x y : Operand} {b o : Nat} {cs us : List Value} {v : Value} (i : Nat) (ht : TI P t size by' zero agg)
    (hx : ev E x = some (.pointer (some ⟨b, o, none⟩))) (hy : ev E y = some v) (hv : v.cells = us.toArray) (hi : H[i]? = some (b, row ety cs)) (hl : us.length = size) (h1 : ∀ u ∈ us, u.oneCell' = true) (hfit : o + size ≤ cs.length)
    (cs' : List Value) (hcs : cs.take o ++ us ++ cs.drop (o + us.length) = cs')
    (h : At n E S (H.set i (b, row ety cs')) (wpList P ops Q rest)) :
    At n E S H (wpList P ops Q (⟨none, .store t x y, ty, pos, aft, none⟩ :: rest)) := at_op rfl (n_store i ht hx hy hv hi hl h1 hfit cs' hcs h)

end
end Go.Eng
