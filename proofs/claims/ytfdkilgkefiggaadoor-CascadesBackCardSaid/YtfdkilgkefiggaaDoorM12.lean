/-
  The engine, the plain laws and the walks that the rows need, part 12. Conditions: none.
-/
import Derived.Test.YtfdkilgkefiggaaDoorM11
import Derived.RecoverIn
set_option linter.unusedVariables false
set_option linter.unusedSimpArgs false
set_option maxHeartbeats 1000000
set_option maxRecDepth 10000
-- AbsW
namespace Go.Abs
open Go Go.Eng
abbrev pch (u : Value) : List PanicEntry := [{ v := u, recovered := false }]
def EndX (w0 : Bw) (X0 : Xs) (R : A → St → Prop) (pn : Value → Prop) (e : Ending) (w' : World) : Prop :=
  (∃ v, e = .returned v ∧ Post w0 X0 R v w') ∨ ∃ u, e = .panicked (pch u) ∧ pn u ∧ Post w0 X0 (fun _ _ => True) undef w'
def ConE (P : Program) (f : FuncId) (args : List A) (s0 : St) (R : A → St → Prop) (pn : Value → Prop) : Prop :=
  ∀ w X β us (hd : ∀ id, s0.free id = true → β id = none), (∀ b o, X b o → b < w.heap.size) → GL X w → (∀ id cs, s0.get id = some cs → OB β X w (bw w β s0 hd) id cs) →
    (∀ i j ci cj b M N, i ≠ j → s0.get i = some ci → s0.get j = some cj → β i = some (.bk b M) → β j = some (.bk b N) → False) → VS X w β args us → Callable P f ∧ Calls P f us.toArray w (EndX (bw w β s0 hd) X R pn)
def ConX (P : Program) (f : FuncId) (args : List A) (s0 : St) (pn : Value → Prop) : Prop := ConE P f args s0 (fun _ _ => False) pn
section
variable {P : Program} {f : FuncId} {args : List A} {s0 : St} {R R' : A → St → Prop} {pn : Value → Prop}
theorem Post.mono {w0 : Bw} {X : Xs} {v : Value} {w' : World} (h : Post w0 X R v w') (hr : ∀ r st, R r st → R' r st) : Post w0 X R' v w' := let ⟨r, β', X', st', h1, h2⟩ := h; ⟨r, β', X', st', hr _ _ h1, h2⟩
theorem ConE.ret (h : ConE P f args s0 R pn) (hr : ∀ r st, R r st → R' r st) (hn : ∀ u, ¬ pn u) : ConS P f args s0 R' := fun w X β us hd h1 h2 h3 h4 h5 =>
  let ⟨c, k⟩ := h w X β us hd h1 h2 h3 h4 h5
  ⟨c, k.mono fun e w' he => by
    rcases he with ⟨v, e1, e2⟩ | ⟨u, _, e2, _⟩
    · exact ⟨v, e1, e2.mono hr⟩
    · exact absurd e2 (hn u)⟩
theorem ConE.pan (h : ConE P f args s0 R pn) (hr : ∀ r st, ¬ R r st) : ConX P f args s0 pn := fun w X β us hd h1 h2 h3 h4 h5 =>
  let ⟨c, k⟩ := h w X β us hd h1 h2 h3 h4 h5
  ⟨c, k.mono fun e w' he => by
    rcases he with ⟨v, e1, e2⟩ | h
    · exact .inl ⟨v, e1, e2.mono fun r st h => hr r st h⟩
    · exact .inr h⟩
end
section
variable {r : Option Nat} {ds : List Deferred} {P : Program} {w0 : Bw} {X0 : Xs} {n : Nat} {E : Ev} {st : St} {Q : Exit → Act → World → Prop} {K : Act → World → Prop}
theorem call_coreX {d : Option Nat} {f : FuncId} {x : Operand} {xs : List Operand} {fs cs vs vs' : List A} {s0 : St} {ats : Array TypeId} {ty : TypeId} {pos aft g} {ow : Bool} {pn : Value → Prop} {β : Bm} {X : Xs} {a : Act} {w : World} (hr : RelX w0 X0 n E st β X a w) (hx : ev E x = some (.fn (.func f) fs cs)) (hxs : evsA E xs = some vs) (hSub : SubL st s0 ow s0.os) (hv : VwL st s0 ow (fs ++ vs ++ cs) vs')
    (hc : ConX P f vs' s0 pn) (h : ∀ u w', pn u → Post (bw w (rst s0 β) s0 rst_none) (Xo ow st s0 β X) (fun _ _ => True) undef w' → Q (.panic (pch u)) a w') :
    (⟨d, .call { callee := .value x, args := xs.toArray, argTypes := ats }, ty, pos, aft, g⟩ : Oper).wp P a w K Q := by
  have hss : ∀ id cs, s0.get id = some cs → st.get id = some cs := fun id cs h => (SubL_get hSub h).1
  obtain ⟨e1, e2⟩ := hr.evo hx
  obtain ⟨us, e3, e4⟩ := hr.evs hxs
  simp only [V] at e2
  obtain ⟨uf, uc, e5, e6, e7⟩ := e2
  have hall := VwL_V hr hv (VS_app (VS_app e6 e4) e7)
  obtain ⟨hcal, hcall⟩ := hc w (Xo ow st s0 β X) (rst s0 β) (uf ++ us ++ uc) rst_none (Xo_lt hr) (hr.gl.mono fun b o h => ⟨.inl h, rfl⟩)
    (fun id cs hg => by
      have hst := hss id cs hg
      have ho := hr.mem.obj id cs hst
      have hf := get_free hg
      unfold OB at ho ⊢
      rw [rst_eq hf]
      split
      · rename_i h'; rw [h'] at ho; exact ho
      · rename_i h'; rw [h'] at ho; exact ho
      · rename_i b N h'
        rw [h'] at ho
        obtain ⟨h1, h2, us, rest, ty, h3, h4, h5, h6⟩ := ho
        refine ⟨.inr ⟨id, cs, N, hg, by rw [rst_eq hf]; exact h'⟩, fun o h => ?_, us, rest, ty, h3, h4, ?_, h6⟩
        · rcases h with h | ⟨_, id', cs', N', k1, k2, k3, _⟩
          · exact h2 o h
          · refine hr.mem.inj id id' cs cs' b N N' (fun e => ?_) hst k2 h' k3
            subst e; rw [hf] at k1; cases k1
        · exact VwL_V hr (SubL_get hSub hg).2 h5)
    (fun i j ci cj b M N hij hi hj hbi hbj => hr.mem.inj i j ci cj b M N hij (hss i ci hi) (hss j cj hj) (rst_some hbi).2 (rst_some hbj).2) hall
  have hm := Eng.Rep.evs (full_rep a hr.defers) e3
  unfold Oper.wp
  rw [run_callv hcal e5 hm]
  show Calls P f _ w _
  refine hcall.mono fun e w' he => ?_
  rcases he with ⟨v, _, _, _, _, _, h, _⟩ | ⟨u, rfl, hp, hpo⟩
  · exact h.elim
  · exact h u w' hp hpo
theorem n_callX {d : Option Nat} {f : FuncId} {x : Operand} {xs : List Operand} {fs cs vs vs' : List A} {ats : Array TypeId} {ty : TypeId} {pos aft' g} {pn : Value → Prop} (s0 : St) (ow : Bool) (hx : ev E x = some (.fn (.func f) fs cs)) (hxs : evsA E xs = some vs) (hS : SubL st s0 ow s0.os) (hv : VwL st s0 ow (fs ++ vs ++ cs) vs')
    (hc : ConX P f vs' s0 pn) (h : ∀ u, pn u → At w0 X0 n E (aft s0 st []) (Q (.panic (pch u)))) :
    At w0 X0 n E st (fun a w => (⟨d, .call { callee := .value x, args := xs.toArray, argTypes := ats }, ty, pos, aft', g⟩ : Oper).wp P a w K Q) := by
  rintro a w ⟨β, X, hr⟩
  refine call_coreX hr hx hxs hS hv hc fun u w' hp ⟨r, β', X', st', _, hsup, hsub, hm, _⟩ => ?_
  obtain ⟨m1, m2, m3, _, _⟩ := hm.after hr (fun id cs h => (SubL_get hS h).1) hsub hsup (upds := []) (fun p hp => by cases hp)
  refine h u hp a w' ⟨β, _, .of (fun b o h => (m2 b o (hr.x0 b o h)).1) (fun b o h => ?_) m1 (hr.gl.mono m2) hr.size hr.defers (fun s hs => Sus.slots_mono m2 (hr.sslot s hs)) fun t v ht => ?_⟩
  · rcases m3 b o h with h | h
    · exact hr.xn b o h
    · exact .inr h
  · obtain ⟨u, h1, h2⟩ := hr.slot t v ht
    exact ⟨u, h1, V_mono m2 _ _ β β (ExtB.refl β) h2⟩
section
variable {ops : Array Oper} {rest : List Oper}
theorem p_callv {d : Option Nat} {f : FuncId} {x : Operand} {xs : List Operand} {fs cs vs vs' : List A} {ats : Array TypeId} {ty : TypeId} {pos aft'} {pn : Value → Prop} (s0 : St) (ow : Bool) (hx : ev E x = some (.fn (.func f) fs cs)) (hxs : evsA E xs = some vs) (hS : SubL st s0 ow s0.os) (hv : VwL st s0 ow (fs ++ vs ++ cs) vs')
    (hc : ConX P f vs' s0 pn) (h : ∀ u, pn u → At w0 X0 n E (aft s0 st []) (Pw ds (Q (.panic (pch u))))) :
    At w0 X0 n E st (Pw ds (wpListIn (rF r) 0 P ops Q (⟨d, .call { callee := .value x, args := xs.toArray, argTypes := ats }, ty, pos, aft', none⟩ :: rest))) :=
  at_op rfl (n_callX s0 ow hx hxs hS hv hc h)
theorem p_call {d : Option Nat} {f : FuncId} {xs : List Operand} {vs vs' : List A} {ats : Array TypeId} {ty : TypeId} {pos aft'} {pn : Value → Prop} (s0 : St) (ow : Bool) (hxs : evsA E xs = some vs) (hS : SubL st s0 ow s0.os) (hv : VwL st s0 ow vs vs')
    (hc : ConX P f vs' s0 pn) (h : ∀ u, pn u → At w0 X0 n E (aft s0 st []) (Pw ds (Q (.panic (pch u))))) :
    At w0 X0 n E st (Pw ds (wpListIn (rF r) 0 P ops Q (⟨d, .call { callee := .value (.func f), args := xs.toArray, argTypes := ats }, ty, pos, aft', none⟩ :: rest))) :=
  p_callv (fs := []) (cs := []) s0 ow rfl hxs hS (by simpa using hv) hc h
mutual
def valA : A → Option Value
  | .b x => some (.bool x)
  | .i k m => some (.int k m)
  | .s l => some (.string ⟨l.toArray⟩)
  | .ag cs => (valL cs).map fun us => .agg us.toArray
  | .ic t v => (valA v).map fun u => .iface t u
  | _ => none
def valL : List A → Option (List Value)
  | [] => some []
  | c :: cs => match valA c, valL cs with
    | some u, some us => some (u :: us)
    | _, _ => none
end
mutual
theorem V_val {X : Xs} {w : World} {β : Bm} : ∀ {v : A} {u z : Value}, V X w β v u → valA v = some z → u = z
  | .b x, u, z, h, e => by simp only [V, valA, Option.some.injEq] at h e; rw [h, e]
  | .i k m, u, z, h, e => by simp only [V, valA, Option.some.injEq] at h e; rw [h, e]
  | .s l, u, z, h, e => by simp only [V, valA, Option.some.injEq] at h e; rw [h, e]
  | .ag cs, u, z, h, e => by
    simp only [V, valA] at h e
    obtain ⟨us, rfl, h2, _⟩ := h
    obtain ⟨vs, h3, rfl⟩ := Option.map_eq_some_iff.1 e
    rw [VS_val h2 h3]
  | .ic t v, u, z, h, e => by
    simp only [V, valA] at h e
    obtain ⟨x, rfl, h2⟩ := h
    obtain ⟨y, h3, rfl⟩ := Option.map_eq_some_iff.1 e
    rw [V_val h2 h3]
  | .nl, _, _, _, e => by simp only [valA] at e; cases e
  | .fz _ _, _, _, _, e => by simp only [valA] at e; cases e
  | .fp _, _, _, _, e => by simp only [valA] at e; cases e
  | .p _ _, _, _, _, e => by simp only [valA] at e; cases e
  | .sl _ _ _ _, _, _, _, e => by simp only [valA] at e; cases e
  | .tu _, _, _, _, e => by simp only [valA] at e; cases e
  | .fn _ _ _, _, _, _, e => by simp only [valA] at e; cases e
  | .raw _, _, _, _, e => by simp only [valA] at e; cases e
theorem VS_val {X : Xs} {w : World} {β : Bm} : ∀ {vs : List A} {us zs : List Value}, VS X w β vs us → valL vs = some zs → us = zs
  | [], us, zs, h, e => by simp only [VS, valL, Option.some.injEq] at h e; rw [h, ← e]
  | c :: cs, us, zs, h, e => by
    simp only [VS, valL] at h e
    obtain ⟨u, r, rfl, h1, h2⟩ := h
    split at e
    · rename_i y ys e1 e2
      simp only [Option.some.injEq] at e
      rw [V_val h1 e1, VS_val h2 e2, e]
    · cases e
end
theorem p_panic {d : Option Nat} {x : Operand} {ty : TypeId} {pos aft'} {t : TypeId} {v : A} {u : Value} (hx : ev E x = some (.ic t v)) (hu : valA v = some u) (h : At w0 X0 n E st (Pw ds (Q (.panic (pch (.iface t u)))))) :
    At w0 X0 n E st (Pw ds (wpListIn (rF r) 0 P ops Q (⟨d, .panic x, ty, pos, aft', none⟩ :: rest))) :=
  at_op rfl fun a w hr => by
    have hr' := hr
    obtain ⟨β, X, hx'⟩ := hr
    have hv := hx'.evl hx
    simp only [V] at hv
    obtain ⟨z, e1, e2⟩ := hv
    have e3 := V_val e2 hu
    subst e3
    have e : (execOp a.eval (⟨d, .panic x, ty, pos, aft', none⟩ : Oper)).run P w = .halt (.panic (.iface t z)) w := by
      simp only [execOp, e1]; rfl
    show Oper.upon P _ a _ _ ((execOp a.eval (⟨d, .panic x, ty, pos, aft', none⟩ : Oper)).run P w)
    rw [e]
    exact h a w hr'
end
theorem x_tp {N : Act → World → Prop} {ch : List PanicEntry} (h : At w0 X0 n E st (Pw ds (Q (.panic ch)))) : At w0 X0 n E st (Pw ds (Exit.then N Q (.panic ch))) := h
theorem x_bp {id : Nat} {ch : List PanicEntry} (h : At w0 X0 n E st (Pw ds (Q (.panic ch)))) : At w0 X0 n E st (Pw ds (Exit.inBlock id Q (.panic ch))) := h
theorem at_panicked {fn : Func} {R : A → St → Prop} {pn : Value → Prop} {u : Value} (h : pn u) : At w0 X0 n E st (Pw [] (bodyPost P fn (EndX w0 X0 R pn) (.panic (pch u)))) := fun a w ⟨β, X, hr⟩ => by
  show bodyPost P fn _ (.panic (pch u)) (a.wd []) w
  rw [wd_nil]
  exact ⟨hr.defers, .inr ⟨u, rfl, h, .raw undef, β, X, st, trivial, hr.x0, hr.xn, hr.mem, by simp only [V]⟩⟩
theorem at_resultE {fn : Func} {R : A → St → Prop} {pn : Value → Prop} {rs : List ResultVar} {vs : List A} (hrs : fn.results = rs.toArray) (hv : Rets P E st rs vs) (h : R (retA vs) st) :
    At w0 X0 n E st (Pw [] (bodyPost P fn (EndX w0 X0 R pn) .ret)) := fun a w hr =>
  let ⟨h1, v, h2, h3⟩ := at_result (R := R) hrs hv h a w hr
  ⟨h1, v, h2, .inl h3⟩
theorem enterE {f : FuncId} {fn : Func} {c : Code} {args : List A} {s0 : St} {R : A → St → Prop} {pn : Value → Prop} (hf : P.funcs[f]? = some fn) (hb : fn.body = some c)
    (hn : fn.ntmps = n) (hname : (fn.name == "runtime.NumGoroutine") = false) (ha : args.length ≤ n)
    (h : ∀ w0 X0, w0.ids = s0.os.map Prod.fst → At w0 X0 n (argsE args 0) s0 (Pw [] (c.wpIn (rF none) 0 P (bodyPost P fn (EndX w0 X0 R pn))))) : ConE P f args s0 R pn := by
  intro w X β us hd hX hgl ho hi hv
  have hl := VS_len hv
  refine ⟨⟨fn, hf, by simp [hb], hname⟩, calls_of_wp hf hb (wpIn_wide.1 (wp_nil (h (bw w β s0 hd) X rfl _ w ⟨β, X, .of (fun _ _ h => h) (fun _ _ h => .inl h) (.of ⟨rfl, rfl, rfl, Nat.le_refl _, fun _ _ _ => rfl, fun s hs => by cases hs⟩ (ExtB.refl β) hX hd ho hi) hgl ?_ rfl (fun s hs => by cases hs) (fun t v ht => ?_)⟩)))⟩
  · simp [hn]; omega
  · obtain ⟨_, h2⟩ := argsE_at _ _ _ _ ht
    simp only [Nat.sub_zero] at h2
    obtain ⟨u, g1, g2⟩ := VS_get hv h2
    have hlt := (List.getElem?_eq_some_iff.1 g1).1
    refine ⟨u, ?_, g2⟩
    rw [Array.getElem?_append, if_pos (by simpa using hlt)]
    simpa using g1
end
end Go.Abs
-- AbsY
namespace Go.Abs
open Go Go.Eng
abbrev bot : A := .fz (maxLen + 1) []
section
variable {P : Program} {w0 : Bw} {X0 : Xs} {n : Nat} {E : Ev} {st : St} {K : Act → World → Prop}
theorem at_bot {t : Nat} (h : E.at? t = some bot) : At w0 X0 n E st K := fun a w ⟨β, X, hr⟩ => by
  obtain ⟨u, _, hv⟩ := hr.slot t _ h
  simp only [V] at hv
  obtain ⟨_, cap, _, h2, h3, _⟩ := hv
  exact absurd (Nat.le_trans h2 h3) (Nat.not_succ_le_self _)
end
theorem chg_G {d : Nat} {v : A} {deps u : List Nat} {need : List (Nat × Option Nat)} {s0 st : St} {upds : List (Nat × List A)} : (⟨d, v, deps, s0.os.map (·.1), upds, need, u⟩ : Stp).chg st = aft s0 st upds := by
  unfold Stp.chg aft
  simp [List.map_map, Function.comp_def]
section
variable {r : Option Nat} {ds0 : List Deferred} {P : Program} {w0 : Bw} {X0 : Xs} {N : Nat} {E0 : EV} {st0 : St} {Q : Exit → Act → World → Prop} {ops : Array Oper} {n g : Nat} {plan : List Stp} {E : Ev} {st : St} {rest : List Oper} {d : Nat} {op : Op} {ty : TypeId} {pos : String} {aft' : Array Edge} {gd : Option (Nat × Bool)}
theorem fs_callG {f : FuncId} {x : Operand} {xs : List Operand} {fs cs vs vs' : List A} {ats : Array TypeId} {ret : A} (s0 : St) (upds : List (Nat × List A)) (ow : Bool) (k0 : Nat) (deps : List Nat) (need : List (Nat × Option Nat)) (hg : GuardYes ops (keepI (E0.at k0) deps k0 E) gd) (hx : ev (keepI (E0.at k0) deps k0 E) x = some (.fn (.func f) fs cs)) (hxs : evsA (keepI (E0.at k0) deps k0 E) xs = some vs) (hS : SubL (nst plan st0 need) s0 ow s0.os) (hv : VwL (nst plan st0 need) s0 ow (fs ++ vs ++ cs) vs')
    (hc : ConS P f vs' s0 (RetS ret upds)) (hp : Pure ret) (hf : ow = false ∨ Flat ret) (hu : ∀ p ∈ upds, (∃ cs, s0.get p.1 = some cs) ∧ PureL p.2 ∧ (ow = false ∨ FlatL p.2)) (hb : Nat.ble (d + 1) N = true) (hd : depB k0 deps need = true) (h : FS r ds0 P w0 X0 N Q ops n g E0 st0 (plan ++ [⟨d, ret, deps, s0.os.map (·.1), upds, need, upds.map (·.1)⟩]) (k0 + 1) ((d, ret) :: E) (aft s0 st upds) rest) :
    FS r ds0 P w0 X0 N Q ops n g E0 st0 plan k0 E st (⟨some d, .call { callee := .value x, args := xs.toArray, argTypes := ats }, ty, pos, aft', gd⟩ :: rest) :=
  fs_gen ⟨d, ret, deps, s0.os.map (·.1), upds, need, upds.map (·.1)⟩ (fun hk hE _ _ _ hD hs _ hK => have he' := hD.fin hE hk; ob_gy hg he' (n_callG s0 upds ow (ev_le he' hx) (evs_le he' hxs) (SubL_le hs hS) (VwL_leS hs hv) hc hp hf hu hb (chg_G ▸ hK))) hd (chg_G ▸ h)
theorem fs_callGd {f : FuncId} {xs : List Operand} {vs vs' : List A} {ats : Array TypeId} {ret : A} (s0 : St) (upds : List (Nat × List A)) (ow : Bool) (k0 : Nat) (deps : List Nat) (need : List (Nat × Option Nat)) (hg : GuardYes ops (keepI (E0.at k0) deps k0 E) gd) (hxs : evsA (keepI (E0.at k0) deps k0 E) xs = some vs) (hS : SubL (nst plan st0 need) s0 ow s0.os) (hv : VwL (nst plan st0 need) s0 ow vs vs')
    (hc : ConS P f vs' s0 (RetS ret upds)) (hp : Pure ret) (hf : ow = false ∨ Flat ret) (hu : ∀ p ∈ upds, (∃ cs, s0.get p.1 = some cs) ∧ PureL p.2 ∧ (ow = false ∨ FlatL p.2)) (hb : Nat.ble (d + 1) N = true) (hd : depB k0 deps need = true) (h : FS r ds0 P w0 X0 N Q ops n g E0 st0 (plan ++ [⟨d, ret, deps, s0.os.map (·.1), upds, need, upds.map (·.1)⟩]) (k0 + 1) ((d, ret) :: E) (aft s0 st upds) rest) :
    FS r ds0 P w0 X0 N Q ops n g E0 st0 plan k0 E st (⟨some d, .call { callee := .value (.func f), args := xs.toArray, argTypes := ats }, ty, pos, aft', gd⟩ :: rest) :=
  fs_callG (fs := []) (cs := []) s0 upds ow k0 deps need hg rfl hxs hS (by simpa using hv) hc hp hf hu hb hd h
theorem fs_callX {f : FuncId} {x : Operand} {xs : List Operand} {fs cs vs vs' : List A} {ats : Array TypeId} {pn : Value → Prop} (s0 : St) (ow : Bool) (k0 : Nat) (deps : List Nat) (need : List (Nat × Option Nat)) (hg : GuardYes ops (keepI (E0.at k0) deps k0 E) gd) (hx : ev (keepI (E0.at k0) deps k0 E) x = some (.fn (.func f) fs cs)) (hxs : evsA (keepI (E0.at k0) deps k0 E) xs = some vs) (hS : SubL (nst plan st0 need) s0 ow s0.os) (hv : VwL (nst plan st0 need) s0 ow (fs ++ vs ++ cs) vs')
    (hc : ConX P f vs' s0 pn) (hq : ∀ u, pn u → ∀ E st, At w0 X0 N E st (Pw ds0 (Q (.panic (pch u))))) (hd : depB k0 deps need = true) (h : FS r ds0 P w0 X0 N Q ops n g E0 st0 (plan ++ [⟨d, bot, deps, [], [], need, []⟩]) (k0 + 1) ((d, bot) :: E) st rest) :
    FS r ds0 P w0 X0 N Q ops n g E0 st0 plan k0 E st (⟨some d, .call { callee := .value x, args := xs.toArray, argTypes := ats }, ty, pos, aft', gd⟩ :: rest) :=
  fs_gen ⟨d, bot, deps, [], [], need, []⟩ (fun hk hE _ _ _ hD hs _ _ => have he' := hD.fin hE hk; ob_gy hg he' (n_callX s0 ow (ev_le he' hx) (evs_le he' hxs) (SubL_le hs hS) (VwL_leS hs hv) hc fun u hp => hq u hp _ _)) hd h
theorem fs_callXd {f : FuncId} {xs : List Operand} {vs vs' : List A} {ats : Array TypeId} {pn : Value → Prop} (s0 : St) (ow : Bool) (k0 : Nat) (deps : List Nat) (need : List (Nat × Option Nat)) (hg : GuardYes ops (keepI (E0.at k0) deps k0 E) gd) (hxs : evsA (keepI (E0.at k0) deps k0 E) xs = some vs) (hS : SubL (nst plan st0 need) s0 ow s0.os) (hv : VwL (nst plan st0 need) s0 ow vs vs')
    (hc : ConX P f vs' s0 pn) (hq : ∀ u, pn u → ∀ E st, At w0 X0 N E st (Pw ds0 (Q (.panic (pch u))))) (hd : depB k0 deps need = true) (h : FS r ds0 P w0 X0 N Q ops n g E0 st0 (plan ++ [⟨d, bot, deps, [], [], need, []⟩]) (k0 + 1) ((d, bot) :: E) st rest) :
    FS r ds0 P w0 X0 N Q ops n g E0 st0 plan k0 E st (⟨some d, .call { callee := .value (.func f), args := xs.toArray, argTypes := ats }, ty, pos, aft', gd⟩ :: rest) :=
  fs_callX (fs := []) (cs := []) s0 ow k0 deps need hg rfl hxs hS (by simpa using hv) hc hq hd h
theorem fs_bot (t k0 : Nat) (deps : List Nat) (ht : (keepI (E0.at k0) deps k0 E).at? t = some bot) (hd : depB k0 deps [] = true) (h : FS r ds0 P w0 X0 N Q ops n g E0 st0 (plan ++ [⟨d, bot, deps, [], [], [], []⟩]) (k0 + 1) ((d, bot) :: E) st rest) : FS r ds0 P w0 X0 N Q ops n g E0 st0 plan k0 E st (⟨some d, op, ty, pos, aft', gd⟩ :: rest) :=
  fs_gen ⟨d, bot, deps, [], [], [], []⟩ (fun hk hE _ _ _ hD _ _ _ => at_bot (hD.fin hE hk _ _ ht)) hd h
theorem fs_endB {k0 t : Nat} (hB : planB .any ops n g plan E0 st0 N = true) (h : E.at? t = some bot) : FS r ds0 P w0 X0 N Q ops n g E0 st0 plan k0 E st [] := fs_end hB (at_bot h)
end
def PtrL : List A → Prop
  | [] => True
  | .p _ _ :: r => PtrL r
  | _ => False
theorem VS_ptr {X X' : Xs} {w w' : World} {β β' : Bm} : ∀ {cs : List A} {us : List Value}, PtrL cs → (∀ id ∈ refsL cs, β' id = β id) → VS X w β cs us → VS X' w' β' cs us
  | [], us, _, _, h => by simp only [VS] at h ⊢; exact h
  | .p id off :: r, us, hp, hb, h => by
    simp only [VS, V] at h ⊢
    obtain ⟨u, q, rfl, h1, h2⟩ := h
    refine ⟨u, q, rfl, by rw [hb id (by simp [refsL, refs])]; exact h1, VS_ptr hp (fun i hi => hb i ?_) h2⟩
    simp only [refsL, List.mem_append]
    exact .inr hi
structure Df (w0 w1 : Bw) (ids : List Nat) (cs : List A) (us : List Value) : Prop where
  w : w1.w = w0.w
  M : w1.M = w0.M
  sus : w1.sus = w0.sus
  ids : w1.ids = ids
  ext : ExtB w0.β w1.β
  caps : ∀ X w β, ExtB w1.β β → VS X w β cs us
abbrev dfr (g : FuncId) (us : List Value) : Deferred := { target := .fn (.func g) us.toArray, args := #[] }
section
variable {P : Program} {w0 w1 : Bw} {X0 : Xs} {n : Nat} {E : Ev} {st : St} {Q : Exit → Act → World → Prop}
theorem at_defer {x : Operand} {g : FuncId} {cs : List A} {ops : Array Oper} {rest : List Oper} {ats : Array TypeId} {ty : TypeId} {pos : String} {aft' : Array Edge} {idsB : List Nat} (ids : List Nat) (hI : w0.ids = idsB) (hs : (idsB.all (memN ids)) = true) (hx : ev E x = some (.fn (.func g) [] cs)) (hp : PtrL cs) (hids : ((refsL cs).all (memN ids)) = true)
    (h : ∀ w1 us, Df w0 w1 ids cs us → At w1 X0 n E st (Pw [dfr g us] (wpListIn (rF none) 0 P ops Q rest))) :
    At w0 X0 n E st (Pw [] (wpListIn (rF none) 0 P ops Q (⟨none, .defer { callee := .value x, args := #[], argTypes := ats }, ty, pos, aft', none⟩ :: rest))) := fun a w ⟨β, X, hr⟩ => by
  have hgv := hr.evl hx
  simp only [V] at hgv
  obtain ⟨us0, us, e1, e2, e3⟩ := hgv
  simp only [VS] at e2
  subst e2
  have hall := List.all_eq_true.1 hids
  have key := h (mkB w0 β ids w0.sus) us ⟨rfl, rfl, rfl, rfl, mkB_ext hI hs hr.mem.b0, fun X' w' β' hb => VS_ptr hp (fun id hi => ?_) e3⟩ a w
    ⟨β, X, hr.rebase rfl rfl .refl onlyB_ext (fun s hs' => kept_qt (hr.mem.below.sus s hs') (fun b hb => hb) fun b o _ _ => rfl) hr.sslot hr.size hr.defers hr.slot⟩
  · show wpListIn (rF none) 0 P ops Q (_ :: rest) (a.wd []) w
    unfold wpListIn
    rw [if_pos (by simp [Region.wanted])]
    unfold Oper.wpIn
    refine ⟨fun _ _ => trivial, ?_⟩
    have e : (Oper.semAt (rF none).round (a.wd []).eval (⟨none, .defer { callee := .value x, args := #[], argTypes := ats }, ty, pos, aft', none⟩ : Oper)).run P w = .ok (.defer (dfr g us)) w := by
      show (Oper.semAt none _ _).run P w = _
      rw [Oper.semAt_none, evalf_wd]
      simp only [execOp, resolve, e1]
      simp [Deferred.ofValue]
    rw [e]
    show wpListIn (rF none) 0 P ops Q rest _ w
    have e5 : ({ tmps := (a.wd []).tmps, defers := dfr g us :: (a.wd []).defers } : Act).put none undef = a.wd [dfr g us] := by
      simp [Act.wd, Act.put, hr.defers]
    rw [e5]
    exact key
  · have hm := hall id hi
    obtain ⟨hv⟩ : Nonempty (∃ b N, β id = some (.bk b N)) := ⟨by
      have go : ∀ {cs : List A} {us : List Value}, PtrL cs → id ∈ refsL cs → VS X w β cs us → ∃ b N, β id = some (.bk b N) := by
        intro cs
        induction cs with
        | nil => intro us _ h; cases h
        | cons c cs ih =>
          intro us hp hi hv
          cases c with
          | p i o =>
            simp only [VS, V] at hv
            obtain ⟨u, q, _, ⟨b, N, h1, _⟩, h2⟩ := hv
            simp only [refsL, refs, List.mem_append, List.mem_singleton] at hi
            rcases hi with hi | hi
            · subst hi; exact ⟨b, N, h1⟩
            · exact ih hp hi h2
          | _ => exact hp.elim
      exact go hp hi e3⟩
    obtain ⟨b, N, hv⟩ := hv
    rw [hv]
    exact hb id _ (by show onlyB ids β id = _; rw [onlyB_eq hm]; exact hv)
def ConR (P : Program) (g : FuncId) (k : Nat) : Prop := ∀ (us : List Value) (w : World), us.length = k → CallsDIn (rF none) 0 P g us.toArray .returning w fun e u' w' => (∃ v, e = .returned v) ∧ u' = .returning ∧ w' = w
def ConD (P : Program) (g : FuncId) (args : List A) (s0 : St) (pn : Value → Prop) (upds : List (Nat × List A)) : Prop :=
  ∀ u, pn u → ∀ w X β us (hd : ∀ id, s0.free id = true → β id = none), (∀ b o, X b o → b < w.heap.size) → GL X w → (∀ id cs, s0.get id = some cs → OB β X w (bw w β s0 hd) id cs) →
    (∀ i j ci cj b M N, i ≠ j → s0.get i = some ci → s0.get j = some cj → β i = some (.bk b M) → β j = some (.bk b N) → False) → VS X w β args us →
    CallsDIn (rF none) 0 P g us.toArray (.panicking (pch u)) w fun e u' w' => ∃ v, e = .returned v ∧ u' = .panicking [{ v := u, recovered := true }] ∧ Post (bw w β s0 hd) X (RetS (.tu []) upds) v w'
theorem run_inv {g : FuncId} {us : List Value} {w : World} (hc : Callable P g) : (invoke (.fn (.func g) us.toArray) #[]).run P w = .ok (.enter g us.toArray) w := by
  obtain ⟨fn, h1, h2, h3⟩ := hc
  cases hb : fn.body with
  | none => rw [hb] at h2; cases h2
  | some c =>
    have e : invoke (.fn (.func g) us.toArray) #[] = callFunc g (#[] ++ us.toArray) := rfl
    rw [e, run_callFn h1 hb h3]
    simp
theorem at_leaveR {fn : Func} {R : A → St → Prop} {ids : List Nat} {cs : List A} {us : List Value} {g : FuncId} {rs : List ResultVar} {vs : List A} (hdf : Df w0 w1 ids cs us) (hs0 : w0.sus = []) (hcal : Callable P g) (hc : ConR P g cs.length) (hrs : fn.results = rs.toArray) (hv : Rets P E st rs vs) (h : R (retA vs) st) :
    At w1 X0 n E st (Pw [dfr g us] (bodyPostM (rF none) 0 P fn (fun e w' => ∃ v, e = .returned v ∧ Post w0 X0 R v w') .ret)) := fun a w ⟨β, X, hr⟩ => by
  show LeavesInM (rF none) 0 P fn a.tmps _ (a.wd [dfr g us]).defers .returning w
  have e : (a.wd [dfr g us]).defers = [dfr g us] := by simp [Act.wd, hr.defers]
  rw [e]
  have hl : us.length = cs.length := VS_len (hdf.caps X w β hr.mem.b0)
  refine ⟨by simp, .inr ⟨(fun h => by cases h), .func g, us.toArray, g, us.toArray, rfl, run_inv hcal, fun _ _ => trivial, (hc us w hl).mono fun e' u' w' ⟨⟨v, e1⟩, e2, e3⟩ => ?_⟩⟩
  subst e1; subst e2; subst e3
  obtain ⟨us', h1, h2⟩ := hv _ _ _ _ _ _ _ hr.toRelQ
  have hr0 : RelX w0 X0 n E st β X a w' := hr.rebase hdf.w.symm hdf.M.symm .refl (fun id x hx => hr.mem.b0 id x (hdf.ext id x hx)) (fun s hs => by rw [hs0] at hs; cases hs) (fun s hs => by rw [hs0] at hs; cases hs) hr.size hr.defers hr.slot
  exact ⟨_, run_results hrs h1, _, rfl, _, β, X, st, h, hr0.x0, hr0.xn, hr0.mem, V_retA h2⟩
theorem at_leaveX {fn : Func} {R : A → St → Prop} {ids : List Nat} {cs : List A} {us : List Value} {g : FuncId} {rs : List ResultVar} {vs : List A} {u : Value} {pn : Value → Prop} {upds : List (Nat × List A)} (s0 : St) (hdf : Df w0 w1 ids cs us) (hs0 : w0.sus = []) (hcal : Callable P g) (hS : SubL st s0 false s0.os) (hvw : VwL st s0 false cs cs) (hc : ConD P g cs s0 pn upds) (hpn : pn u)
    (hu : ∀ p ∈ upds, (∃ cs, s0.get p.1 = some cs) ∧ PureL p.2) (hrs : fn.results = rs.toArray) (hv : Rets P E (aft s0 st upds) rs vs) (h : R (retA vs) (aft s0 st upds)) :
    At w1 X0 n E st (Pw [dfr g us] (bodyPostM (rF none) 0 P fn (fun e w' => ∃ v, e = .returned v ∧ Post w0 X0 R v w') (.panic (pch u)))) := fun a w ⟨β, X, hr⟩ => by
  show LeavesInM (rF none) 0 P fn a.tmps _ (a.wd [dfr g us]).defers (.panicking (pch u)) w
  have e : (a.wd [dfr g us]).defers = [dfr g us] := by simp [Act.wd, hr.defers]
  rw [e]
  have hall := VwL_V hr hvw (hdf.caps X w β hr.mem.b0)
  have hss : ∀ id cs, s0.get id = some cs → st.get id = some cs := fun id cs h => (SubL_get hS h).1
  have hcall := hc u hpn w (Xo false st s0 β X) (rst s0 β) us rst_none (Xo_lt hr) (hr.gl.mono fun b o h => ⟨.inl h, rfl⟩)
    (fun id cs hg => by
      have hst := hss id cs hg
      have ho := hr.mem.obj id cs hst
      have hf := get_free hg
      unfold OB at ho ⊢
      rw [rst_eq hf]
      split
      · rename_i h'; rw [h'] at ho; exact ho
      · rename_i h'; rw [h'] at ho; exact ho
      · rename_i b N h'
        rw [h'] at ho
        obtain ⟨h1, h2, us, rest, ty, h3, h4, h5, h6⟩ := ho
        refine ⟨.inr ⟨id, cs, N, hg, by rw [rst_eq hf]; exact h'⟩, fun o h => ?_, us, rest, ty, h3, h4, ?_, h6⟩
        · rcases h with h | ⟨h, _⟩
          · exact h2 o h
          · cases h
        · exact VwL_V hr (SubL_get hS hg).2 h5)
    (fun i j ci cj b M N hij hi hj hbi hbj => hr.mem.inj i j ci cj b M N hij (hss i ci hi) (hss j cj hj) (rst_some hbi).2 (rst_some hbj).2) hall
  refine ⟨by simp, .inr ⟨(fun h => by cases h), .func g, us.toArray, g, us.toArray, rfl, run_inv hcal, fun _ _ => trivial, hcall.mono fun e' u' w' ⟨v, e1, e2, hpo⟩ => ?_⟩⟩
  subst e1; subst e2
  obtain ⟨r, β', X', st', ⟨_, hR2⟩, hsup, hsub, hm, _⟩ := hpo
  obtain ⟨m1, m2, m3, _, _⟩ := hm.after hr hss hsub hsup (upds := upds) (fun p hp => ⟨hR2 p hp, (hu p hp).1, (hu p hp).2, .inl rfl⟩)
  have hr1 : RelX w1 X0 n E (aft s0 st upds) β _ a w' := .of (fun b o h => (m2 b o (hr.x0 b o h)).1) (fun b o h => by
      rcases m3 b o h with h | h
      · exact hr.xn b o h
      · exact .inr h) m1 (hr.gl.mono m2) hr.size hr.defers (fun s hs => Sus.slots_mono m2 (hr.sslot s hs)) fun t v ht => by
    obtain ⟨u, h1, h2⟩ := hr.slot t v ht
    exact ⟨u, h1, V_mono m2 _ _ β β (ExtB.refl β) h2⟩
  obtain ⟨us', h1, h2⟩ := hv _ _ _ _ _ _ _ hr1.toRelQ
  have hr0 : RelX w0 X0 n E (aft s0 st upds) β _ a w' := hr1.rebase hdf.w.symm hdf.M.symm .refl (fun id x hx => hr1.mem.b0 id x (hdf.ext id x hx)) (fun s hs => by rw [hs0] at hs; cases hs) (fun s hs => by rw [hs0] at hs; cases hs) hr1.size hr1.defers hr1.slot
  exact ⟨_, run_results hrs h1, _, rfl, _, β, _, _, h, hr0.x0, hr0.xn, hr0.mem, V_retA h2⟩
theorem run_recover {ρ : Operand → Value} {d : Option Nat} {ty : TypeId} {pos aft g} {w : World} : (execOp ρ (⟨d, .call { callee := .builtin .recover, args := #[], argTypes := #[] }, ty, pos, aft, g⟩ : Oper)).run P w = .ok .recover w := rfl
theorem opsS_val {Q : Exit → Act → List Frame → World → Prop} {a : Act} {cs : List Frame} {w : World} {ops : Array Oper} {o : Oper} {i : Nat} {rest : List Nat} {v : Value} (ho : ops[i]? = some o) (hg : o.guard = none) (hr : (execOp a.eval o).run P w = .ok (.value v) w) (h : wpOpsSIn (rF none) 0 P ops Q rest (a.put o.dst v) cs w) :
    wpOpsSIn (rF none) 0 P ops Q (i :: rest) a cs w := by
  unfold wpOpsSIn
  rw [ho]
  refine ⟨fun _ _ => trivial, ?_⟩
  rw [if_pos (by simp [Region.wanted, hg]), hr]
  exact h
theorem opsS_rec0 {Q : Exit → Act → List Frame → World → Prop} {a : Act} {cs : List Frame} {w : World} {ops : Array Oper} {d : Option Nat} {ty : TypeId} {pos aft} {i : Nat} {rest : List Nat} (ho : ops[i]? = some ⟨d, .call { callee := .builtin .recover, args := #[], argTypes := #[] }, ty, pos, aft, none⟩) (hr : recoverD cs = none) (h : wpOpsSIn (rF none) 0 P ops Q rest (a.put d .nilIface) cs w) :
    wpOpsSIn (rF none) 0 P ops Q (i :: rest) a cs w := by
  unfold wpOpsSIn
  rw [ho]
  refine ⟨fun _ _ => trivial, ?_⟩
  rw [if_pos (by simp [Region.wanted]), run_recover]
  simp only [hr]
  exact h
theorem opsS_rec1 {Q : Exit → Act → List Frame → World → Prop} {a : Act} {cs cs' : List Frame} {w : World} {ops : Array Oper} {d : Option Nat} {ty : TypeId} {pos aft} {i : Nat} {rest : List Nat} {v : Value} (ho : ops[i]? = some ⟨d, .call { callee := .builtin .recover, args := #[], argTypes := #[] }, ty, pos, aft, none⟩) (hr : recoverD cs = some (v, cs')) (h : wpOpsSIn (rF none) 0 P ops Q rest (a.put d v) cs' w) :
    wpOpsSIn (rF none) 0 P ops Q (i :: rest) a cs w := by
  unfold wpOpsSIn
  rw [ho]
  refine ⟨fun _ _ => trivial, ?_⟩
  rw [if_pos (by simp [Region.wanted]), run_recover]
  simp only [hr]
  exact h
theorem opsS_nil {Q : Exit → Act → List Frame → World → Prop} {a : Act} {cs : List Frame} {w : World} {ops : Array Oper} (h : Q .normal a cs w) : wpOpsSIn (rF none) 0 P ops Q [] a cs w := h
theorem put_eval {a : Act} {m : Nat} (ha : a.tmps.size = m) (t : Nat) (v : Value) (ht : t < m) : (a.put (some t) v).eval (.tmp t) = v := by
  have : t < a.tmps.size := by omega
  simp [Act.put, Act.eval, this]
theorem put_size {a : Act} {m : Nat} (ha : a.tmps.size = m) (t : Nat) (v : Value) : (a.put (some t) v).tmps.size = m := by simp [Act.put, ha]
theorem conR {g : FuncId} {fn : Func} {k : Nat} {id1 id2 d2 d3 d4 d5 : Nat} {y : Code} {ty1 ty2 ty3 ty4 ti tj : TypeId} {p1 p2 p3 p4 : String} {a1 a2 a3 a4 : Array Edge} (hf : P.funcs[g]? = some fn)
    (hb : fn.body = some (.seq (.region id1 #[⟨some d3, .call { callee := .builtin .recover, args := #[], argTypes := #[] }, ty1, p1, a1, none⟩, ⟨some d2, .assign (.tmp d3), ty2, p2, a2, none⟩] false)
      (.seq (.region id2 #[⟨some d4, .move (.tmp d2), ty3, p3, a3, none⟩, ⟨some d5, .binOp .neq ti (.tmp d4) (.const .nilIface) tj, ty4, p4, a4, none⟩] false) (.cond (.tmp d5) y .skip))))
    (hne : ∀ (w : World), (execOp (fun _ => .nilIface) (⟨some d5, .binOp .neq ti (.tmp d4) (.const .nilIface) tj, ty4, p4, a4, none⟩ : Oper)).run P w = .ok (.value (.bool false)) w) (hres : fn.results = #[]) (hn : k ≤ fn.ntmps ∧ d2 < fn.ntmps ∧ d3 < fn.ntmps ∧ d4 < fn.ntmps ∧ d5 < fn.ntmps) : ConR P g k := by
  obtain ⟨n1, n2, n3, n4, n5⟩ := hn
  intro us w hl
  refine callsDIn_of_wpSIn hf hb trivial fun c₀ cs hu => ?_
  have hrec : recoverD (c₀ :: cs) = none := by simp [recoverD, hu]
  obtain ⟨a0, ha0⟩ : ∃ a0 : Act, a0 = { tmps := us.toArray ++ Array.replicate (fn.ntmps - us.toArray.size) undef, defers := [] } := ⟨_, rfl⟩
  have hs0 : a0.tmps.size = fn.ntmps := by rw [ha0]; simp [hl]; omega
  have hd0 : a0.defers = [] := by rw [ha0]
  rw [← ha0]
  refine wpSIn_seq (wpSIn_region (opsS_rec0 rfl hrec (opsS_val (v := .nilIface) rfl rfl ?_ (opsS_nil (wpSIn_seq (wpSIn_region (opsS_val (v := .nilIface) rfl rfl ?_ (opsS_val (v := .bool false) rfl rfl ?_ (opsS_nil (wpSIn_cond (t := false) ?_ (wpSIn_of_wpIn rfl (wpIn_skip ?_))))))))))))
  · show Result.ok (Next.value ((a0.put (some d3) .nilIface).eval (.tmp d3))) w = _
    rw [put_eval hs0 d3 _ n3]
  · show Result.ok (Next.value (((a0.put (some d3) .nilIface).put (some d2) .nilIface).eval (.tmp d2))) w = _
    rw [put_eval (put_size hs0 _ _) d2 _ n2]
  · show (execOp (((a0.put (some d3) .nilIface).put (some d2) .nilIface).put (some d4) .nilIface).eval (⟨some d5, .binOp .neq ti (.tmp d4) (.const .nilIface) tj, ty4, p4, a4, none⟩ : Oper)).run P w = _
    rw [← hne w]
    have := put_eval (put_size (put_size hs0 d3 .nilIface) d2 .nilIface) d4 .nilIface n4
    simp only [execOp, this]
    rfl
  · exact put_eval (put_size (put_size (put_size hs0 _ _) _ _) _ _) d5 _ n5
  · refine ⟨hd0, .returning, by rw [← hu], ?_⟩
    exact ⟨.tuple #[], by simp [results, hres], ⟨_, rfl⟩, rfl, rfl⟩
theorem conD {g : FuncId} {fn : Func} {args : List A} {s0 : St} {pn : Value → Prop} {upds : List (Nat × List A)} {id1 d2 d3 : Nat} {y : Code} {ty1 ty2 : TypeId} {p1 p2 : String} {a1 a2 : Array Edge} (vA : A) (hpn : ∀ u, pn u → ∀ X w β, V X w β vA u) (hf : P.funcs[g]? = some fn)
    (hb : fn.body = some (.seq (.region id1 #[⟨some d3, .call { callee := .builtin .recover, args := #[], argTypes := #[] }, ty1, p1, a1, none⟩, ⟨some d2, .assign (.tmp d3), ty2, p2, a2, none⟩] false) y))
    (hn : fn.ntmps = n) (hna : args.length ≤ n) (hn2 : Nat.ble (d2 + 1) n = true) (hn3 : Nat.ble (d3 + 1) n = true)
    (h : ∀ w0 X0, w0.ids = s0.os.map Prod.fst → At w0 X0 n ((d2, vA) :: (d3, vA) :: argsE args 0) s0 (Pw [] (y.wpIn (rF none) 0 P (bodyPost P fn fun e w' => ∃ v, e = .returned v ∧ Post w0 X0 (RetS (.tu []) upds) v w')))) : ConD P g args s0 pn upds := by
  intro u hu w X β us hd hX hgl ho hi hv
  have hl := VS_len hv
  refine callsDIn_of_wpSIn hf hb trivial fun c₀ cs hm => ?_
  have hrec : recoverD (c₀ :: cs) = some (u, { c₀ with mode := .panicking [{ v := u, recovered := true }] } :: cs) := by simp [recoverD, hm]
  obtain ⟨a0, ha0⟩ : ∃ a0 : Act, a0 = { tmps := us.toArray ++ Array.replicate (fn.ntmps - us.toArray.size) undef, defers := [] } := ⟨_, rfl⟩
  have hs0 : a0.tmps.size = n := by rw [ha0]; simp [hn, hl]; omega
  have hd0 : a0.defers = [] := by rw [ha0]
  have hr0 : RelX (bw w β s0 hd) X n (argsE args 0) s0 β X a0 w := .of (fun _ _ h => h) (fun _ _ h => .inl h) (.of ⟨rfl, rfl, rfl, Nat.le_refl _, fun _ _ _ => rfl, fun s hs => by cases hs⟩ (ExtB.refl β) hX hd ho hi) hgl hs0 hd0 (fun s hs => by cases hs) (fun t v ht => by
    obtain ⟨_, h2⟩ := argsE_at _ _ _ _ ht
    simp only [Nat.sub_zero] at h2
    obtain ⟨u, g1, g2⟩ := VS_get hv h2
    have hlt := (List.getElem?_eq_some_iff.1 g1).1
    refine ⟨u, ?_, g2⟩
    rw [ha0, Array.getElem?_append, if_pos (by simpa using hlt)]
    simpa using g1)
  have hrel := (hr0.put hn3 (hpn u hu X w β)).put hn2 (hpn u hu X w β)
  have key := h (bw w β s0 hd) X rfl _ w ⟨β, X, hrel⟩
  rw [← ha0]
  refine wpSIn_seq (wpSIn_region (opsS_rec1 rfl hrec (opsS_val (v := u) rfl rfl ?_ (opsS_nil ?_))))
  · show Result.ok (Next.value ((a0.put (some d3) u).eval (.tmp d3))) w = _
    rw [put_eval hs0 d3 _ (Nat.le_of_ble_eq_true hn3)]
  · refine wpSIn_of_wpIn rfl (wpIn_mono (wp_nil key) fun e a' w' hq => ?_)
    cases e with
    | normal => obtain ⟨h1, v, h2, h3⟩ := hq; obtain ⟨v', h4, h5⟩ := h3; exact ⟨h1, _, rfl, v, h2, v', h4, rfl, h5⟩
    | ret => obtain ⟨h1, v, h2, h3⟩ := hq; obtain ⟨v', h4, h5⟩ := h3; exact ⟨h1, _, rfl, v, h2, v', h4, rfl, h5⟩
    | panic ch => obtain ⟨_, v, h4, _⟩ := hq; cases h4
    | exit id => exact hq.elim
    | goto l => exact hq.elim
    | outgrown => obtain ⟨v, h4, _⟩ := hq; cases h4
end
end Go.Abs
-- AbsZ
namespace Go.Eng
open Go
section
variable {P : Program} {n : Nat} {E : Env} {S : List World} {H : List (Nat × Obj)}
theorem run_sliceBounds3 {len cap l h : Nat} {lo : Option Operand} {hi mx : Operand} {a : Act} (hR : Rep n E a) (hlo : Bnd E lo 0 l) (hhi : Bnd E (some hi) 0 h) (hmx : Bnd E (some mx) 0 h) (h1 : l ≤ h) (h2 : h ≤ cap) (w : World) :
    (Instr.sliceBounds true len cap (lo.map a.eval) (some (a.eval hi)) (some (a.eval mx))).run P w = .ok (l, h, h) w := by
  have em : (Instr.sliceBound (a.eval mx) cap .slice3Acap).run P w = .ok h w := by
    rcases hmx with ⟨h', _⟩ | ⟨y, k, iv, e, hy, rfl⟩
    · cases h'
    · cases e; simp [hR.ev hy, Instr.sliceBound, asIntOf, h2]
  have eh : (Instr.sliceBound (a.eval hi) h .slice3B).run P w = .ok h w := by
    rcases hhi with ⟨h', _⟩ | ⟨y, k, iv, e, hy, rfl⟩
    · cases h'
    · cases e; simp [hR.ev hy, Instr.sliceBound, asIntOf]
  unfold Instr.sliceBounds
  rcases hlo with ⟨rfl, rfl⟩ | ⟨y, k, iv, rfl, hy, rfl⟩
  · simp [em, eh]
  · have el : (Instr.sliceBound (a.eval y) h .slice3C).run P w = .ok l w := by
      simp [hR.ev hy, Instr.sliceBound, asIntOf, h1]
    simp [em, eh, el]
theorem y_slice3 {t e : TypeId} {size by' zero agg} {x hi mx : Operand} {lo : Option Operand} {a : Option Addr} {m cap l h : Nat} {ty : TypeId} (ht : P.underlying t = some (.slice e)) (he : TI P e size by' zero agg)
    (hx : ev E x = some (.slice a m cap)) (hlo : Bnd E lo 0 l) (hhi : Bnd E (some hi) 0 h) (hmx : Bnd E (some mx) 0 h) (h1 : l ≤ h) (h2 : h ≤ cap) :
    YO P n E S H (.slice t x lo (some hi) (some mx)) ty (.slice (ash a h l size) (h - l) (h - l)) := by
  intro d pos aft g b w hR hG
  have hb := run_sliceBounds3 (P := P) (len := m) hR hlo hhi hmx h1 h2 w
  have : (Instr.sliceAt t (.slice a m cap) (lo.map b.eval) (some (b.eval hi)) (some (b.eval mx))).run P w = .ok (.slice (ash a h l size) (h - l) (h - l)) w := by
    unfold Instr.sliceAt
    simp only [Sem.run_bind, run_underlying ht, Result.andThen_ok, Instr.slice, hb, he.sizeOf w, Sem.run_pure, ash]
  simp only [execOp, hR.ev hx]
  rw [Sem.run_bind]
  simp only [Option.map_some]
  rw [this]
  rfl
end
end Go.Eng
namespace Go.Abs
open Go Go.Eng
section
variable {P : Program} {E : Ev} {st : St}
theorem y_cutf3 {t e ty : TypeId} {size by' : Nat} {zero : List Value} {agg : Bool} {x hi mx : Operand} {lo : Option Operand} {m l h : Nat} {cs ds : List A} (k : Nat) (ht : P.underlying t = some (.slice e)) (he : TI P e size by' zero agg) (hx : ev E x = some (.fz m cs)) (hl : cs.length = m * size) (hlo : BndA E lo 0 l) (hhi : BndA E (some hi) 0 h) (hmx : BndA E (some mx) 0 h) (h1 : l ≤ h) (h2 : h ≤ m) (hk : h - l = k) (hd : (cs.drop (l * size)).take (k * size) = ds) :
    YO P E st (.slice t x lo (some hi) (some mx)) ty (.fz k ds) := by
  intro w0 X0 n β X a w hr
  subst hk; subst hd
  obtain ⟨g1, g2⟩ := hr.evo hx
  simp only [V] at g2
  obtain ⟨ad, cap, e1, e2, e3, e4, e5, e6⟩ := g2
  rw [e1] at g1
  refine ⟨.slice (ash ad h l size) (h - l) (h - l), ?_, hr.old fun w' _ => Eng.y_slice3 ht he g1 (hlo.old hr) (hhi.old hr) (hmx.old hr) h1 (by omega)⟩
  obtain ⟨us, v1, v2, v3⟩ := VM_vals e6
  have hsl : Sl w size ad m cap us := ⟨by rw [VS_len v1, hl], e2, e3, e4, e5, v3⟩
  have hd := hsl.drop l h h1 h2
  simp only [V]
  refine ⟨_, _, rfl, Nat.le_refl _, by omega, fun ha => ?_, fun hp x hx => ?_, ?_⟩
  · have hn : ad = none := by
      unfold ash at ha
      split at ha
      · exact ha
      · simpa using ha
    have := e4 hn
    omega
  · unfold ash at hx
    rw [if_neg (by omega)] at hx
    obtain ⟨z, hz, rfl⟩ := Option.map_eq_some_iff.1 hx
    have hs := e5 (by omega) z hz
    unfold Addr.add
    split
    · simp_all
    · simp_all
  · rw [ab_ash]
    refine VM_of fun j c hj => ?_
    have hj' := hj
    rw [List.getElem?_take] at hj
    split at hj
    · rename_i hjl
      rw [List.getElem?_drop] at hj
      obtain ⟨u, q1, q2⟩ := VS_get (VS_take (VS_drop v1 (l * size)) ((h - l) * size)) hj'
      obtain ⟨x1, u', x2, x3, x4⟩ := VM_get e6 hj
      have hpos : 0 < h - l := by
        rcases Nat.eq_zero_or_pos (h - l) with hz | hz
        · rw [hz] at hjl; simp at hjl
        · exact hz
      have heq : ao (ash ad h l size) + j = ao ad + (l * size + j) := by
        unfold ash
        rw [if_neg (by omega)]
        cases ad with
        | none => have := e4 rfl; omega
        | some z => simp only [Option.map_some, ao]; unfold Addr.add; split <;> simp_all [Nat.add_assoc]
      rw [heq]
      exact ⟨x1, u', x2, x3, x4⟩
    · cases hj
theorem run_eqIn_ic {t T : TypeId} {z : Value} {ms : Array (String × TypeId)} (ht : P.underlying t = some (.interface ms)) (d : Nat) (w : World) : (Op.equalIn (d + 1) t (.iface T z) .nilIface).run P w = .ok false w := by
  simp [Op.equalIn, run_underlying ht]
theorem y_icne {t T ty tj : TypeId} {x : Operand} {v : A} {ms : Array (String × TypeId)} (ht : P.underlying t = some (.interface ms)) (hx : ev E x = some (.ic T v)) : YO P E st (.binOp .neq t x (.const .nilIface) tj) ty (.b true) := by
  intro w0 X0 n β X a w hr'
  obtain ⟨h1, h2⟩ := hr'.evo hx
  simp only [V] at h2
  obtain ⟨z, h3, _⟩ := h2
  refine ⟨.bool true, by simp only [V], fun d pos aft g w' _ => ?_⟩
  have heq : (Op.equalIn (9999 + 1) t (.iface T z) .nilIface).run P w' = .ok false w' := run_eqIn_ic ht _ _
  have e1 : (binOp .neq t (.iface T z) .nilIface).run P w' = .ok (.bool true) w' := by
    show (do pure (.bool (!(← Op.equalIn (9999 + 1) t (.iface T z) .nilIface))) : Sem Value).run P w' = _
    rw [Sem.run_bind, heq]
    rfl
  have e2 : (eqGuard .neq t x (.const .nilIface) (.iface T z) .nilIface).run P w' = .ok () w' := rfl
  have e3 : a.eval (.const .nilIface) = .nilIface := rfl
  simp only [execOp, h3, e3]
  rw [Sem.run_bind, Sem.run_bind, e2]
  simp only [Result.andThen_ok]
  rw [e1]
  rfl
theorem run_eqIn_nn {t : TypeId} {ms : Array (String × TypeId)} (ht : P.underlying t = some (.interface ms)) (d : Nat) (w : World) : (Op.equalIn (d + 1) t .nilIface .nilIface).run P w = .ok true w := by
  simp [Op.equalIn, run_underlying ht]
theorem run_nnil {t ty tj : TypeId} {ms : Array (String × TypeId)} {d : Option Nat} {x : Nat} {pos : String} {aft : Array Edge} {g : Option (Nat × Bool)} (ht : P.underlying t = some (.interface ms)) (w : World) : (execOp (fun _ => .nilIface) (⟨d, .binOp .neq t (.tmp x) (.const .nilIface) tj, ty, pos, aft, g⟩ : Oper)).run P w = .ok (.value (.bool false)) w := by
  have e1 : (binOp .neq t .nilIface .nilIface).run P w = .ok (.bool false) w := by
    show (do pure (.bool (!(← Op.equalIn (9999 + 1) t .nilIface .nilIface))) : Sem Value).run P w = _
    rw [Sem.run_bind, run_eqIn_nn ht]
    rfl
  have e2 : (eqGuard .neq t (.tmp x) (.const .nilIface) .nilIface .nilIface).run P w = .ok () w := rfl
  simp only [execOp]
  rw [Sem.run_bind, Sem.run_bind, e2]
  simp only [Result.andThen_ok]
  rw [e1]
  rfl
end
theorem two_upd {s0 : St} {i j : Nat} {ci cj di dj : List A} (h1 : s0.get i = some ci) (h2 : s0.get j = some cj) (h3 : PureL di) (h4 : PureL dj) : ∀ p ∈ [(i, di), (j, dj)], (∃ cs, s0.get p.1 = some cs) ∧ PureL p.2 := fun p hp => by
  rcases List.mem_cons.1 hp with rfl | hp
  · exact ⟨⟨_, h1⟩, h3⟩
  · rw [List.mem_singleton.1 hp]; exact ⟨⟨_, h2⟩, h4⟩
theorem V_brk {X : Xs} {w : World} {β : Bm} {t : TypeId} {v : A} {z : Value} (h : V X w β v z) : V X w β (.ic t v) (.iface t z) := by
  simp only [V]; exact ⟨_, rfl, h⟩
theorem V_ag0 {X : Xs} {w : World} {β : Bm} : V X w β (.ag []) (.agg #[]) := by
  simp only [V]; exact ⟨[], rfl, VS_nil, fun x h => by cases h⟩
end Go.Abs
-- C1R
namespace Go.Abs
theorem ConX.imp {P : Program} {f : FuncId} {args : List A} {s0 : St} {p q : Value → Prop} (h : ConX P f args s0 p) (hpq : ∀ u, p u → q u) : ConX P f args s0 q := fun w X β us hd h1 h2 h3 h4 h5 =>
  let ⟨c, k⟩ := h w X β us hd h1 h2 h3 h4 h5
  ⟨c, k.mono fun _ _ he => he.imp_right fun ⟨u, e1, e2, e3⟩ => ⟨u, e1, hpq u e2, e3⟩⟩
end Go.Abs
namespace Go.Abs.D2
open Go Go.Eng Go.Abs
theorem take_gt {l : List UInt8} {n : Nat} (hl : l.length ≤ 1000000) : decide ((n : Int) > ((c64 l.length).toNat : Int)) = decide (l.length < n) := by
  rw [c64_nat (by omega)]; exact decide_eq_decide.2 (by omega)
theorem cut_lo (l : List UInt8) (n : Nat) : ((l.map u8).drop (0 * 1)).take (n * 1) = (l.take n).map u8 := by simp [List.map_take]
theorem cut_hi (l : List UInt8) (n : Nat) : ((l.map u8).drop (n * 1)).take ((l.drop n).length * 1) = (l.drop n).map u8 := by
  rw [Nat.mul_one, Nat.mul_one, ← List.map_drop, ← (List.length_map .. : (List.map u8 (l.drop n)).length = (l.drop n).length), List.take_length]
theorem rdN_start (l : List UInt8) : (rdN 0 l).map (fun p => (0 + 128 ^ 0 * p.1, p.2)) = rdN 0 l := by
  cases rdN 0 l <;> simp
theorem num_cases (r : List UInt8) : r = [] ∨ ∃ c r', r = c :: r' := by cases r <;> simp
theorem num_lt {acc i x : Nat} (h : acc < 128 ^ i) : acc + 128 ^ i * (x % 128) < 128 ^ (i + 1) := by
  rw [Nat.pow_succ]
  have : 128 ^ i * (x % 128) ≤ 128 ^ i * 127 := Nat.mul_le_mul_left _ (by omega)
  omega
theorem numR_step {l : List UInt8} {i acc : Nat} {c : UInt8} {r : List UInt8} (h : rdN 0 l = (rdN i (c :: r)).map (fun p => (acc + 128 ^ i * p.1, p.2))) (hb : ¬ ((i = 9 ∧ 1 < c.toNat) ∨ (0 < i ∧ c.toNat = 0))) (h2 : ¬ c.toNat < 128) : rdN 0 l = (rdN (i + 1) r).map (fun p => (acc + 128 ^ i * (c.toNat % 128) + 128 ^ (i + 1) * p.1, p.2)) := by
  rw [h, rdN_go hb h2]
  cases rdN (i + 1) r with
  | none => rfl
  | some p =>
    simp only [Option.map_some, Option.some.injEq, Prod.mk.injEq, and_true]
    rw [Nat.mul_add, Nat.pow_succ, Nat.mul_assoc]
    omega
theorem num_ways (i : Nat) (c : UInt8) : (((i = 9 ∧ 1 < c.toNat) ∨ (0 < i ∧ c.toNat = 0)) ∧ i = 9 ∧ 1 < c.toNat) ∨ (((i = 9 ∧ 1 < c.toNat) ∨ (0 < i ∧ c.toNat = 0)) ∧ i ≠ 9 ∧ 0 < i ∧ c.toNat = 0) ∨ (¬ ((i = 9 ∧ 1 < c.toNat) ∨ (0 < i ∧ c.toNat = 0)) ∧ i = 9 ∧ c.toNat = 1) ∨ (¬ ((i = 9 ∧ 1 < c.toNat) ∨ (0 < i ∧ c.toNat = 0)) ∧ i = 0) ∨ (¬ ((i = 9 ∧ 1 < c.toNat) ∨ (0 < i ∧ c.toNat = 0)) ∧ i ≠ 9 ∧ 0 < i ∧ c.toNat ≠ 0) ∨ (((i = 9 ∧ 1 < c.toNat) ∨ (0 < i ∧ c.toNat = 0)) ∧ i = 9 ∧ c.toNat = 0) := by
  omega
theorem num_more {i : Nat} {c : UInt8} (hi : i ≤ 9) (hb : ¬ ((i = 9 ∧ 1 < c.toNat) ∨ (0 < i ∧ c.toNat = 0))) (h : ¬ c.toNat < 128) : i ≤ 8 := by omega
theorem shl_nat {acc i x : Nat} (ha : acc < 128 ^ i) (h : acc + 128 ^ i * x < 2 ^ 64) : (c64 acc ||| (c64 x <<< (7 * i))) = c64 (acc + 128 ^ i * x) := by
  have hx : 128 ^ i * x < 2 ^ 64 := by omega
  have hac : acc < 2 ^ 64 := by omega
  apply BitVec.eq_of_toNat_eq
  by_cases h0 : x = 0
  · subst h0
    have e : c64 0 <<< (7 * i) = 0#64 := by
      apply BitVec.eq_of_toNat_eq
      rw [BitVec.toNat_shiftLeft, c64_nat (by omega), Nat.zero_shiftLeft]
    rw [e, BitVec.or_zero, Nat.mul_zero, Nat.add_zero]
  · have hx2 : x < 2 ^ 64 := Nat.lt_of_le_of_lt (Nat.le_mul_of_pos_left x (Nat.pow_pos (by omega))) hx
    rw [BitVec.toNat_or, BitVec.toNat_shiftLeft, c64_nat hac, c64_nat hx2, c64_nat h, Nat.shiftLeft_eq, pow128, Nat.mul_comm x, Nat.mod_eq_of_lt hx, Nat.or_comm]
    have := Nat.shiftLeft_add_eq_or_of_lt (a := x) (b := acc) (i := 7 * i) (by rw [pow128]; exact ha)
    rw [Nat.shiftLeft_eq, pow128, Nat.mul_comm x] at this
    rw [← this, Nat.add_comm]
theorem num_room {acc i : Nat} {c : UInt8} (ha : acc < 128 ^ i) (hi : i ≤ 9) (hb : ¬ ((i = 9 ∧ 1 < c.toNat) ∨ (0 < i ∧ c.toNat = 0))) : acc + 128 ^ i * (c.toNat % 128) < 2 ^ 64 := by
  have hp : 128 ^ 9 = 9223372036854775808 := rfl
  rcases Nat.lt_or_ge i 9 with h | h
  · have h1 : 128 ^ i * (c.toNat % 128) ≤ 128 ^ i * 127 := Nat.mul_le_mul_left _ (by omega)
    have h2 : 128 ^ (i + 1) ≤ 128 ^ 9 := Nat.pow_le_pow_right (by omega) (by omega)
    rw [Nat.pow_succ] at h2
    omega
  · obtain rfl : i = 9 := by omega
    have h1 : 128 ^ 9 * (c.toNat % 128) ≤ 128 ^ 9 * 1 := Nat.mul_le_mul_left _ (by omega)
    omega
theorem and_127 (c : UInt8) : (c &&& 127).toNat = c.toNat % 128 := by
  rw [UInt8.toNat_and]
  exact Nat.and_two_pow_sub_one_eq_mod _ 7
theorem num_or {acc i : Nat} {c : UInt8} (ha : acc < 128 ^ i) (hi : i ≤ 9) (hb : ¬ ((i = 9 ∧ 1 < c.toNat) ∨ (0 < i ∧ c.toNat = 0))) : c64 acc ||| (c64 (c &&& 127).toNat <<< (7 * i)) = c64 (acc + 128 ^ i * (c.toNat % 128)) := by
  rw [and_127]; exact shl_nat ha (num_room ha hi hb)
theorem num_ret {acc i : Nat} {c : UInt8} (ha : acc < 128 ^ i) (hi : i ≤ 9) (hb : ¬ ((i = 9 ∧ 1 < c.toNat) ∨ (0 < i ∧ c.toNat = 0))) (h : c.toNat < 128) : A.i .u64 ((acc + 128 ^ i * c.toNat : Nat) : Int) = w64 (c64 (acc + 128 ^ i * (c.toNat % 128))) := by
  have := num_room ha hi hb
  rw [Nat.mod_eq_of_lt h] at this ⊢
  show _ = A.i .u64 ((c64 _).toNat : Int)
  rw [c64_nat this]
theorem opt_cases {α : Type} (o : Option α) : o = none ∨ ∃ p, o = some p := by cases o <;> simp
theorem sgn_half {u : Nat} (h : u < 2 ^ 64) : A.i .i64 (IntKind.i64.wrap ((c64 u >>> 1).toNat : Int)) = .i .i64 ((u / 2 : Nat) : Int) := by
  rw [BitVec.toNat_ushiftRight, c64_nat h, Nat.shiftRight_eq_div_pow, IntKind.wrap_i64]
  exact congrArg (A.i .i64) (by omega)
theorem sgn_low {u : Nat} (h : u < 2 ^ 64) : A.i .i64 (IntKind.i64.wrap ((c64 u &&& c64 1).toNat : Int)) = .i .i64 ((u % 2 : Nat) : Int) := by
  rw [BitVec.toNat_and, c64_nat h, c64_nat (by omega), Nat.and_one_is_mod, IntKind.wrap_i64]
  exact congrArg (A.i .i64) (by omega)
theorem sgn_neg (u : Nat) : A.i .i64 (IntKind.i64.wrap (0 - ((u % 2 : Nat) : Int))) = .i .i64 (-((u % 2 : Nat) : Int)) := by
  rw [IntKind.wrap_i64]; exact congrArg (A.i .i64) (by omega)
theorem sgn_xor {u : Nat} (h : u < 2 ^ 64) : A.i .i64 (IntKind.i64.wrap (((BitVec.ofInt 64 ((u / 2 : Nat) : Int) ^^^ BitVec.ofInt 64 (-((u % 2 : Nat) : Int))).toNat : Nat) : Int)) = .i .i64 (sgnI u) := by
  refine congrArg (A.i .i64) ?_
  rw [IntKind.wrap_i64]
  unfold sgnI
  split
  · rename_i h0
    rw [h0, show BitVec.ofInt 64 (-((0 : Nat) : Int)) = 0#64 from rfl, BitVec.xor_zero, BitVec.toNat_ofInt]
    omega
  · rename_i h0
    rw [show u % 2 = 1 by omega, show BitVec.ofInt 64 (-((1 : Nat) : Int)) = BitVec.allOnes 64 from rfl, BitVec.xor_allOnes, BitVec.toNat_not, BitVec.toNat_ofInt]
    omega
theorem byte_wrap (c : UInt8) : A.i .i64 (IntKind.i64.wrap (c.toNat : Int)) = .i .i64 (c.toNat : Int) := by
  have := c.toNat_lt
  rw [IntKind.wrap_i64]; exact congrArg (A.i .i64) (by omega)
theorem val_ways (l : List UInt8) : l = [] ∨ (∃ r, l = 1 :: r) ∨ (∃ r, l = 2 :: r) ∨ (∃ r, l = 3 :: r) ∨ ∃ c r, l = c :: r ∧ c ≠ 1 ∧ c ≠ 2 ∧ c ≠ 3 := by
  cases l with
  | nil => exact .inl rfl
  | cons c r =>
    by_cases h1 : c = 1
    · exact .inr (.inl ⟨r, by rw [h1]⟩)
    · by_cases h2 : c = 2
      · exact .inr (.inr (.inl ⟨r, by rw [h2]⟩))
      · by_cases h3 : c = 3
        · exact .inr (.inr (.inr (.inl ⟨r, by rw [h3]⟩)))
        · exact .inr (.inr (.inr (.inr ⟨c, r, rfl, h1, h2, h3⟩)))
theorem txt_ways (o : Option (Nat × List UInt8)) : o = none ∨ (∃ u q, o = some (u, q) ∧ ¬ u ≤ q.length) ∨ ∃ u q, o = some (u, q) ∧ u ≤ q.length := by
  cases o with
  | none => exact .inl rfl
  | some p =>
    by_cases h : p.1 ≤ p.2.length
    · exact .inr (.inr ⟨_, _, rfl, h⟩)
    · exact .inr (.inl ⟨_, _, rfl, h⟩)
theorem lst_ways (d : Nat) (o : Option (Nat × List UInt8)) : o = none ∨ (∃ u q, o = some (u, q) ∧ d = 0) ∨ (∃ u q, o = some (u, q) ∧ d ≠ 0 ∧ ¬ u ≤ q.length) ∨ ∃ u q d', o = some (u, q) ∧ d = d' + 1 ∧ u ≤ q.length := by
  cases o with
  | none => exact .inl rfl
  | some p =>
    cases d with
    | zero => exact .inr (.inl ⟨_, _, rfl, rfl⟩)
    | succ d =>
      by_cases h : p.1 ≤ p.2.length
      · exact .inr (.inr (.inr ⟨_, _, d, rfl, rfl, h⟩))
      · exact .inr (.inr (.inl ⟨_, _, rfl, by omega, h⟩))
theorem val_nil (d : Nat) : rdV d [] = none := by cases d <;> rfl
theorem val_1n {d : Nat} {r : List UInt8} (h : rdN 0 r = none) : rdV d (1 :: r) = none := by
  obtain ⟨sub, e⟩ := rdV_eq d; rw [e, rdB, if_pos rfl, h]; rfl
theorem val_1 {d u : Nat} {r q : List UInt8} (h : rdN 0 r = some (u, q)) : rdV d (1 :: r) = some (.mk 1 (sgnI u) [] [], q) := by
  obtain ⟨sub, e⟩ := rdV_eq d; rw [e, rdB, if_pos rfl, h]; rfl
theorem val_2n {d : Nat} {r : List UInt8} (h : rdN 0 r = none) : rdV d (2 :: r) = none := by
  obtain ⟨sub, e⟩ := rdV_eq d; rw [e, rdB, if_neg (by decide), if_pos rfl, h]; rfl
theorem val_2l {d u : Nat} {r q : List UInt8} (h : rdN 0 r = some (u, q)) (hn : ¬ u ≤ q.length) : rdV d (2 :: r) = none := by
  obtain ⟨sub, e⟩ := rdV_eq d; rw [e, rdB, if_neg (by decide), if_pos rfl, h, Option.bind_some]; exact if_neg hn
theorem val_2 {d u : Nat} {r q : List UInt8} (h : rdN 0 r = some (u, q)) (hn : u ≤ q.length) : rdV d (2 :: r) = some (.mk 2 0 (q.take u) [], q.drop u) := by
  obtain ⟨sub, e⟩ := rdV_eq d; rw [e, rdB, if_neg (by decide), if_pos rfl, h, Option.bind_some]; exact if_pos hn
theorem val_3n {d : Nat} {r : List UInt8} (h : rdN 0 r = none) : rdV d (3 :: r) = none := by
  obtain ⟨sub, e⟩ := rdV_eq d; rw [e, rdB, if_neg (by decide), if_neg (by decide), if_pos rfl, h]; rfl
theorem val_30 {u : Nat} {r q : List UInt8} (h : rdN 0 r = some (u, q)) : rdV 0 (3 :: r) = none := by
  rw [rdV, rdB, if_neg (by decide), if_neg (by decide), if_pos rfl, h, Option.bind_some]; dsimp only; split <;> rfl
theorem val_3l {d u : Nat} {r q : List UInt8} (h : rdN 0 r = some (u, q)) (hn : ¬ u ≤ q.length) : rdV d (3 :: r) = none := by
  obtain ⟨sub, e⟩ := rdV_eq d; rw [e, rdB, if_neg (by decide), if_neg (by decide), if_pos rfl, h, Option.bind_some]; exact if_neg hn
theorem val_3 {d u : Nat} {r q : List UInt8} (h : rdN 0 r = some (u, q)) (hn : u ≤ q.length) : rdV (d + 1) (3 :: r) = (manyV (rdV d) u q).map fun p => (.mk 3 0 [] p.1, p.2) := by
  rw [rdV, rdB, if_neg (by decide), if_neg (by decide), if_pos rfl, h, Option.bind_some]; exact if_pos hn
theorem val_o {d : Nat} {c : UInt8} {r : List UInt8} (h1 : c ≠ 1) (h2 : c ≠ 2) (h3 : c ≠ 3) : rdV d (c :: r) = none := by
  obtain ⟨sub, e⟩ := rdV_eq d; rw [e, rdB, if_neg h1, if_neg h2, if_neg h3]
theorem many_start (f : List UInt8 → Option (CV × List UInt8)) (n : Nat) (q : List UInt8) : manyV f n q = (manyV f (n - ([] : List CV).length) q).map fun p => (([] : List CV) ++ p.1, p.2) := by
  rw [List.length_nil, Nat.sub_zero]
  cases manyV f n q <;> simp
theorem many_none {f : List UInt8 → Option (CV × List UInt8)} {n : Nat} {q r : List UInt8} {vs : List CV} (h : manyV f n q = (manyV f (n - vs.length) r).map fun p => (vs ++ p.1, p.2)) (hl : vs.length < n) (hn : f r = none) : manyV f n q = none := by
  rw [h, show n - vs.length = (n - vs.length - 1) + 1 by omega, manyV, hn]; rfl
theorem many_next {f : List UInt8 → Option (CV × List UInt8)} {n : Nat} {q r r' : List UInt8} {vs : List CV} {v : CV} (h : manyV f n q = (manyV f (n - vs.length) r).map fun p => (vs ++ p.1, p.2)) (hl : vs.length < n) (hv : f r = some (v, r')) : manyV f n q = (manyV f (n - (vs ++ [v]).length) r').map fun p => ((vs ++ [v]) ++ p.1, p.2) := by
  rw [h, show n - vs.length = (n - (vs ++ [v]).length) + 1 by simp; omega, manyV, hv, Option.bind_some]
  cases manyV f (n - (vs ++ [v]).length) r' <;> simp
theorem many_end {f : List UInt8 → Option (CV × List UInt8)} {n : Nat} {q r : List UInt8} {vs : List CV} (h : manyV f n q = (manyV f (n - vs.length) r).map fun p => (vs ++ p.1, p.2)) (hl : vs.length = n) : manyV f n q = some (vs, r) := by
  rw [h, hl, Nat.sub_self, manyV]; simp
@[simp] theorem CV.len_cellsL : ∀ l : List CV, (CV.cellsL l).length = l.length * 4
  | [] => rfl
  | v :: l => by rw [CV.cellsL, List.length_append, CV.len_cells, CV.len_cellsL l, List.length_cons]; omega
theorem CV.cellsL_snoc (l : List CV) (v : CV) : CV.cellsL l ++ v.cells = CV.cellsL (l ++ [v]) := by rw [CV.cellsL_flat, CV.cellsL_flat]; simp
theorem CV.pure_cellsL (l : List CV) : PureL (CV.cellsL l) := by rw [CV.cellsL_flat]; exact PureL_flatMap _ CV.pure_cells l
instance (l : List CV) : IsPureL (CV.cellsL l) := ⟨CV.pure_cellsL l⟩
theorem CV.cellsL_all (l : List CV) : ((CV.cellsL l).drop 0).take (l.length * 4) = CV.cellsL l := by rw [List.drop_zero, ← CV.len_cellsL l, List.take_length]
theorem wk_cv {a b c : A} : WkL [a, b, c, .nl] [a, b, c, .fz 0 []] := .cons (.eq rfl) (.cons (.eq rfl) (.cons (.eq rfl) (.cons .nl .nil)))
theorem cnt_next (n : Nat) : w64 (c64 n + c64 1) = w64 (c64 (n + 1)) := congrArg w64 (by
  apply BitVec.eq_of_toNat_eq
  simp [c64, BitVec.toNat_add, BitVec.toNat_ofNat])
theorem cnt_lt {i n : Nat} (hi : i < 2 ^ 64) (hn : n < 2 ^ 64) : decide (((c64 i).toNat : Int) < ((c64 n).toNat : Int)) = decide (i < n) := by
  rw [c64_nat hi, c64_nat hn]; exact decide_eq_decide.2 (by omega)
@[irreducible] def decV (b : List UInt8) : Option CV := match rdV 16 b with
  | some (v, []) => some v
  | _ => none
@[irreducible] def decA (b : List UInt8) : A := match decV b with
  | some v => .tu [.ag v.cells, .i .i64 0]
  | none => .tu [.ag [.i .i64 0, .i .i64 0, .s [], .nl], .i .i64 10]
theorem dec_n {b : List UInt8} (h : rdV 16 b = none) : decV b = none := by unfold decV; rw [h]
theorem dec_r {b : List UInt8} {v : CV} {c : UInt8} {r : List UInt8} (h : rdV 16 b = some (v, c :: r)) : decV b = none := by unfold decV; rw [h]
theorem dec_y {b : List UInt8} {v : CV} (h : rdV 16 b = some (v, [])) : decV b = some v := by unfold decV; rw [h]
theorem decA_n {b : List UInt8} (h : decV b = none) : decA b = .tu [.ag [.i .i64 0, .i .i64 0, .s [], .nl], .i .i64 10] := by unfold decA; rw [h]
theorem decA_y {b : List UInt8} {v : CV} (h : decV b = some v) : decA b = .tu [.ag v.cells, .i .i64 0] := by unfold decA; rw [h]
theorem dec_ways (b : List UInt8) : rdV 16 b = none ∨ (∃ v c r, rdV 16 b = some (v, c :: r)) ∨ ∃ v, rdV 16 b = some (v, []) := by
  cases h : rdV 16 b with
  | none => exact .inl rfl
  | some p =>
    obtain ⟨v, r⟩ := p
    cases r with
    | nil => exact .inr (.inr ⟨v, rfl⟩)
    | cons c r => exact .inr (.inl ⟨v, c, r, rfl⟩)
theorem dec_spec {b : List UInt8} {v : CV} (hl : b.length < 2 ^ 64) (h : decV b = some v) : v.enc = b ∧ Rd 16 v := by
  rcases dec_ways b with h' | ⟨_, _, _, h'⟩ | ⟨v', h'⟩
  · rw [dec_n h'] at h; cases h
  · rw [dec_r h'] at h; cases h
  · rw [dec_y h'] at h
    simp only [Option.some.injEq] at h
    subst h
    have := rdV_spec 16 hl h'
    rwa [List.append_nil] at this
theorem dec_enc {v : CV} (h : Rd 16 v) (hl : v.enc.length < 2 ^ 64) : decV v.enc = some v := by
  have := rdV_enc 16 v [] h.1 h.2.1 h.2.2 hl
  rw [List.append_nil] at this
  exact dec_y this
end Go.Abs.D2
-- C1S
namespace Go.Abs.D2
open Go Go.Eng Go.Abs
def rnum : Nat → List UInt8 → Nat × Nat × Bool
  | _, [] => (0, 0, true)
  | i, c :: r => if (i = 9 ∧ 1 < c.toNat) ∨ (0 < i ∧ c.toNat = 0) then (0, 1, true) else if c.toNat < 128 then (c.toNat, 1, false) else
    (if (rnum (i + 1) r).2.2 then 0 else c.toNat % 128 + 128 * (rnum (i + 1) r).1, (rnum (i + 1) r).2.1 + 1, (rnum (i + 1) r).2.2)
theorem rnum_rd : ∀ (l : List UInt8) (i : Nat), (rdN i l = if (rnum i l).2.2 then none else some ((rnum i l).1, l.drop (rnum i l).2.1)) ∧ (rnum i l).2.1 ≤ l.length ∧ ((rnum i l).2.2 = true → (rnum i l).1 = 0)
  | [], i => by simp [rnum, rdN]
  | c :: r, i => by
    have ih := rnum_rd r (i + 1)
    by_cases hb : (i = 9 ∧ 1 < c.toNat) ∨ (0 < i ∧ c.toNat = 0)
    · rw [rdN_bad hb, rnum, if_pos hb]; simp
    · by_cases hs : c.toNat < 128
      · rw [rdN_end hb hs, rnum, if_neg hb, if_pos hs]; simp
      · rw [rdN_go hb hs, rnum, if_neg hb, if_neg hs, ih.1]
        cases h : (rnum (i + 1) r).2.2 with
        | true => simp; exact ih.2.1
        | false => simp; exact ih.2.1
def rfin (acc i : Nat) (p : Nat × Nat × Bool) : Nat × Nat × Bool := (if p.2.2 then 0 else acc + 128 ^ i * p.1, i + p.2.1, p.2.2)
theorem rfin_0 {l : List UInt8} : rnum 0 l = rfin 0 0 (rnum 0 l) := by
  have h := (rnum_rd l 0).2.2
  unfold rfin
  cases h2 : (rnum 0 l).2.2 with
  | true => rw [h2] at h; ext <;> simp [h2, h]
  | false => ext <;> simp [h2]
theorem rfin_bad {acc i : Nat} {c : UInt8} {r : List UInt8} (hb : (i = 9 ∧ 1 < c.toNat) ∨ (0 < i ∧ c.toNat = 0)) : rfin acc i (rnum i (c :: r)) = (0, i + 1, true) := by rw [rnum, if_pos hb]; rfl
theorem rfin_end {acc i : Nat} {c : UInt8} {r : List UInt8} (hb : ¬ ((i = 9 ∧ 1 < c.toNat) ∨ (0 < i ∧ c.toNat = 0))) (h : c.toNat < 128) : rfin acc i (rnum i (c :: r)) = (acc + 128 ^ i * c.toNat, i + 1, false) := by rw [rnum, if_neg hb, if_pos h]; rfl
theorem rfin_go {acc i : Nat} {c : UInt8} {r : List UInt8} (hb : ¬ ((i = 9 ∧ 1 < c.toNat) ∨ (0 < i ∧ c.toNat = 0))) (h : ¬ c.toNat < 128) : rfin acc i (rnum i (c :: r)) = rfin (acc + 128 ^ i * (c.toNat % 128)) (i + 1) (rnum (i + 1) r) := by
  rw [rnum, if_neg hb, if_neg h]
  unfold rfin
  cases h2 : (rnum (i + 1) r).2.2 with
  | true => simp; omega
  | false =>
    simp only [Bool.false_eq_true, if_false, Prod.mk.injEq, and_true]
    constructor
    · rw [Nat.mul_add, Nat.pow_succ, Nat.mul_assoc]; omega
    · omega
def zV : CV := .mk 0 0 [] []
def manyF (f : List UInt8 → CV × Nat × Bool) : Nat → List UInt8 → List CV × Nat × Bool
  | 0, _ => ([], 0, false)
  | n + 1, l => if (f l).2.2 then ([(f l).1], (f l).2.1, true) else ((f l).1 :: (manyF f n (l.drop (f l).2.1)).1, (f l).2.1 + (manyF f n (l.drop (f l).2.1)).2.1, (manyF f n (l.drop (f l).2.1)).2.2)
def rvB (sub : Option (Nat → List UInt8 → List CV × Nat × Bool)) : List UInt8 → CV × Nat × Bool
  | [] => (zV, 0, true)
  | c :: r =>
    if c = 1 then (.mk 1 (sgnI (rnum 0 r).1) [] [], (rnum 0 r).2.1 + 1, (rnum 0 r).2.2)
    else if c = 2 then (if (rnum 0 r).2.2 = true ∨ ¬ (rnum 0 r).1 ≤ (r.drop (rnum 0 r).2.1).length then (zV, (rnum 0 r).2.1 + 1, true) else (.mk 2 0 ((r.drop (rnum 0 r).2.1).take (rnum 0 r).1) [], (rnum 0 r).2.1 + 1 + (rnum 0 r).1, false))
    else if c = 3 then (if (rnum 0 r).2.2 = true ∨ ¬ (rnum 0 r).1 ≤ (r.drop (rnum 0 r).2.1).length then (zV, (rnum 0 r).2.1 + 1, true) else match sub with
      | none => (zV, (rnum 0 r).2.1 + 1, true)
      | some g => (.mk 3 0 [] (g (rnum 0 r).1 (r.drop (rnum 0 r).2.1)).1, (rnum 0 r).2.1 + 1 + (g (rnum 0 r).1 (r.drop (rnum 0 r).2.1)).2.1, (g (rnum 0 r).1 (r.drop (rnum 0 r).2.1)).2.2))
    else (zV, 1, true)
def rvV : Nat → List UInt8 → CV × Nat × Bool
  | 0 => rvB none
  | d + 1 => rvB (some (manyF (rvV d)))
theorem manyF_rd {f : List UInt8 → CV × Nat × Bool} {g : List UInt8 → Option (CV × List UInt8)} (h : ∀ l, (g l = if (f l).2.2 then none else some ((f l).1, l.drop (f l).2.1)) ∧ (f l).2.1 ≤ l.length) : ∀ (n : Nat) (l : List UInt8), (manyV g n l = if (manyF f n l).2.2 then none else some ((manyF f n l).1, l.drop (manyF f n l).2.1)) ∧ (manyF f n l).2.1 ≤ l.length
  | 0, l => by simp [manyV, manyF]
  | n + 1, l => by
    have ih := manyF_rd h n (l.drop (f l).2.1)
    obtain ⟨h1, h2⟩ := h l
    rw [manyV, manyF, h1]
    cases hb : (f l).2.2 with
    | true => simp; exact h2
    | false =>
      simp only [Bool.false_eq_true, if_false, Option.bind_some, ih.1]
      have h3 := ih.2
      rw [List.length_drop] at h3
      cases hc : (manyF f n (l.drop (f l).2.1)).2.2 with
      | true => simp; omega
      | false => simp [List.drop_drop]; omega
theorem rvV_rd : ∀ (d : Nat) (l : List UInt8), (rdV d l = if (rvV d l).2.2 then none else some ((rvV d l).1, l.drop (rvV d l).2.1)) ∧ (rvV d l).2.1 ≤ l.length := by
  have key : ∀ (sub : Nat → List UInt8 → Option (List CV × List UInt8)) (g : Option (Nat → List UInt8 → List CV × Nat × Bool)), (∀ n l, match g with
      | none => sub n l = none
      | some f => (sub n l = if (f n l).2.2 then none else some ((f n l).1, l.drop (f n l).2.1)) ∧ (f n l).2.1 ≤ l.length) → ∀ l, (rdB sub l = if (rvB g l).2.2 then none else some ((rvB g l).1, l.drop (rvB g l).2.1)) ∧ (rvB g l).2.1 ≤ l.length := by
    intro sub g h l
    cases l with
    | nil => simp [rdB, rvB]
    | cons c r =>
      obtain ⟨h1, h2, _⟩ := rnum_rd r 0
      simp only [rdB, rvB, List.length_cons]
      split
      · rw [h1]
        cases hb : (rnum 0 r).2.2 with
        | true => simp; omega
        | false => simp; omega
      · split
        · rw [h1]
          cases hb : (rnum 0 r).2.2 with
          | true => simp; omega
          | false =>
            simp only [Bool.false_eq_true, if_false, Option.bind_some, false_or]
            by_cases hle : (rnum 0 r).1 ≤ (r.drop (rnum 0 r).2.1).length
            · have h3 := hle
              rw [List.length_drop] at h3
              rw [if_pos hle, if_neg (Decidable.not_not.2 hle)]
              simp only [Bool.false_eq_true, if_false, Option.some.injEq, Prod.mk.injEq, true_and, List.drop_drop]
              refine ⟨?_, by omega⟩
              rw [show (rnum 0 r).2.1 + 1 + (rnum 0 r).1 = ((rnum 0 r).2.1 + (rnum 0 r).1) + 1 by omega, List.drop_succ_cons]
            · rw [if_neg hle, if_pos hle]; simp; omega
        · split
          · rw [h1]
            cases hb : (rnum 0 r).2.2 with
            | true => simp; omega
            | false =>
              simp only [Bool.false_eq_true, if_false, Option.bind_some, false_or]
              by_cases hle : (rnum 0 r).1 ≤ (r.drop (rnum 0 r).2.1).length
              · rw [if_pos hle, if_neg (Decidable.not_not.2 hle)]
                have hs := h (rnum 0 r).1 (r.drop (rnum 0 r).2.1)
                cases g with
                | none => rw [hs]; simp; omega
                | some f =>
                  simp only at hs ⊢
                  rw [hs.1]
                  have h4 := hs.2
                  rw [List.length_drop] at h4
                  cases hc : (f (rnum 0 r).1 (r.drop (rnum 0 r).2.1)).2.2 with
                  | true => simp; omega
                  | false =>
                    simp only [Bool.false_eq_true, if_false, Option.map_some, Option.some.injEq, Prod.mk.injEq, true_and, List.drop_drop]
                    refine ⟨?_, by omega⟩
                    rw [show (rnum 0 r).2.1 + 1 + (f (rnum 0 r).1 (r.drop (rnum 0 r).2.1)).2.1 = ((rnum 0 r).2.1 + (f (rnum 0 r).1 (r.drop (rnum 0 r).2.1)).2.1) + 1 by omega, List.drop_succ_cons]
              · rw [if_neg hle, if_pos hle]; simp; omega
          · simp
  intro d
  induction d with
  | zero => exact key _ none fun n l => rfl
  | succ d ih => exact key _ (some (manyF (rvV d))) fun n l => manyF_rd ih n l
theorem rnum_lt (l : List UInt8) : (rnum 0 l).1 < 2 ^ 64 := by
  obtain ⟨h1, _, h3⟩ := rnum_rd l 0
  cases hb : (rnum 0 l).2.2 with
  | true => rw [h3 hb]; omega
  | false =>
    rw [hb] at h1
    exact (rdN_spec (by omega) h1).2.1
theorem getU8 {b : List UInt8} {a : Nat} {c : UInt8} {r : List UInt8} (h : b.drop a = c :: r) : ((b.map u8).drop (a * 1))[0]? = some (u8 c) := by
  rw [Nat.mul_one, ← List.map_drop, h]; rfl
theorem drop_lt {b : List UInt8} {a : Nat} {c : UInt8} {r : List UInt8} (h : b.drop a = c :: r) : a < b.length := by
  have := congrArg List.length h
  simp at this; omega
theorem drop_nx {b : List UInt8} {a : Nat} {c : UInt8} {r : List UInt8} (h : b.drop a = c :: r) : b.drop (a + 1) = r := by
  rw [← List.drop_drop, h]; rfl
theorem drop_len {b : List UInt8} {a : Nat} (h : b.drop a = []) : b.length ≤ a := by simpa using h
theorem nil_ways (i : Nat) : i = 0 ∨ (i ≠ 9 ∧ 0 < i) ∨ i = 9 := by omega
theorem rem_byte (c : UInt8) : A.i .u8 ((c.toNat : Int).tmod 128) = u8 (UInt8.ofNat (c.toNat % 128)) := by
  have := c.toNat_lt
  show _ = A.i .u8 ((UInt8.ofNat (c.toNat % 128)).toNat : Int)
  rw [ofNat_nat (by omega)]
  exact congrArg (A.i .u8) (Int.ofNat_tmod _ _).symm
theorem num_add {acc i : Nat} {c : UInt8} (ha : acc < 128 ^ i) (hi : i ≤ 9) (hb : ¬ ((i = 9 ∧ 1 < c.toNat) ∨ (0 < i ∧ c.toNat = 0))) : c64 acc + (c64 (UInt8.ofNat (c.toNat % 128)).toNat <<< (7 * i)) = c64 (acc + 128 ^ i * (c.toNat % 128)) := by
  have hr := num_room ha hi hb
  have hx : 128 ^ i * (c.toNat % 128) < 2 ^ 64 := by omega
  rw [ofNat_nat (by omega)]
  apply BitVec.eq_of_toNat_eq
  rw [BitVec.toNat_add, BitVec.toNat_shiftLeft, c64_nat (by omega), c64_nat (by omega), c64_nat hr, Nat.shiftLeft_eq, pow128, Nat.mul_comm (c.toNat % 128), Nat.mod_eq_of_lt hx, Nat.mod_eq_of_lt hr]
theorem num_add0 (acc : Nat) : c64 acc + (c64 (UInt8.ofNat ((0 : UInt8).toNat % 128)).toNat <<< (7 * 0)) = c64 acc := by
  apply BitVec.eq_of_toNat_eq
  simp [c64]
theorem rvV_nil (d : Nat) : rvV d [] = (zV, 0, true) := by cases d <;> rfl
theorem rvB_c (sub : Option (Nat → List UInt8 → List CV × Nat × Bool)) (c : UInt8) (r : List UInt8) : rvB sub (c :: r) =
    if c = 1 then (.mk 1 (sgnI (rnum 0 r).1) [] [], (rnum 0 r).2.1 + 1, (rnum 0 r).2.2)
    else if c = 2 then (if (rnum 0 r).2.2 = true ∨ ¬ (rnum 0 r).1 ≤ (r.drop (rnum 0 r).2.1).length then (zV, (rnum 0 r).2.1 + 1, true) else (.mk 2 0 ((r.drop (rnum 0 r).2.1).take (rnum 0 r).1) [], (rnum 0 r).2.1 + 1 + (rnum 0 r).1, false))
    else if c = 3 then (if (rnum 0 r).2.2 = true ∨ ¬ (rnum 0 r).1 ≤ (r.drop (rnum 0 r).2.1).length then (zV, (rnum 0 r).2.1 + 1, true) else match sub with
      | none => (zV, (rnum 0 r).2.1 + 1, true)
      | some g => (.mk 3 0 [] (g (rnum 0 r).1 (r.drop (rnum 0 r).2.1)).1, (rnum 0 r).2.1 + 1 + (g (rnum 0 r).1 (r.drop (rnum 0 r).2.1)).2.1, (g (rnum 0 r).1 (r.drop (rnum 0 r).2.1)).2.2))
    else (zV, 1, true) := by rw [rvB.eq_def]
theorem rvV_eq : ∀ d, ∃ sub, rvV d = rvB sub
  | 0 => ⟨_, rfl⟩
  | _ + 1 => ⟨_, rfl⟩
section
variable {d u k2 : Nat} {r : List UInt8} {bd : Bool}
theorem rvV_1 (h : rnum 0 r = (u, k2, bd)) : rvV d (1 :: r) = (.mk 1 (sgnI u) [] [], k2 + 1, bd) := by
  obtain ⟨sub, e⟩ := rvV_eq d; rw [e, rvB_c, if_pos rfl, h]
theorem rvV_2n (h : rnum 0 r = (u, k2, bd)) (hn : bd = true ∨ ¬ u ≤ (r.drop k2).length) : rvV d (2 :: r) = (zV, k2 + 1, true) := by
  obtain ⟨sub, e⟩ := rvV_eq d; rw [e, rvB_c, if_neg (by decide), if_pos rfl, h]; exact if_pos hn
theorem rvV_2 (h : rnum 0 r = (u, k2, false)) (hn : u ≤ (r.drop k2).length) : rvV d (2 :: r) = (.mk 2 0 ((r.drop k2).take u) [], k2 + 1 + u, false) := by
  obtain ⟨sub, e⟩ := rvV_eq d; rw [e, rvB_c, if_neg (by decide), if_pos rfl, h]; exact if_neg (by simpa using hn)
theorem rvV_3n (h : rnum 0 r = (u, k2, bd)) (hn : bd = true ∨ ¬ u ≤ (r.drop k2).length) : rvV d (3 :: r) = (zV, k2 + 1, true) := by
  obtain ⟨sub, e⟩ := rvV_eq d; rw [e, rvB_c, if_neg (by decide), if_neg (by decide), if_pos rfl, h]; exact if_pos hn
theorem rvV_30 (h : rnum 0 r = (u, k2, bd)) : rvV 0 (3 :: r) = (zV, k2 + 1, true) := by
  rw [rvV, rvB_c, if_neg (by decide), if_neg (by decide), if_pos rfl, h]; dsimp only; split <;> rfl
theorem rvV_3 {vs : List CV} {off : Nat} {bd2 : Bool} (h : rnum 0 r = (u, k2, false)) (hn : u ≤ (r.drop k2).length) (hm : manyF (rvV d) u (r.drop k2) = (vs, off, bd2)) : rvV (d + 1) (3 :: r) = (.mk 3 0 [] vs, k2 + 1 + off, bd2) := by
  rw [rvV, rvB_c, if_neg (by decide), if_neg (by decide), if_pos rfl, h]
  simp only
  rw [if_neg (by simpa using hn), hm]
theorem rvV_o {c : UInt8} (h1 : c ≠ 1) (h2 : c ≠ 2) (h3 : c ≠ 3) : rvV d (c :: r) = (zV, 1, true) := by
  obtain ⟨sub, e⟩ := rvV_eq d; rw [e, rvB_c, if_neg h1, if_neg h2, if_neg h3]
end
def mfin (vs : List CV) (off : Nat) (p : List CV × Nat × Bool) : List CV × Nat × Bool := (vs ++ p.1, off + p.2.1, p.2.2)
def mgo (f : List UInt8 → CV × Nat × Bool) (n : Nat) (l : List UInt8) (bd : Bool) : List CV × Nat × Bool := if bd then ([], 0, true) else manyF f n l
theorem mgo_start (f : List UInt8 → CV × Nat × Bool) (n : Nat) (l : List UInt8) : manyF f n l = mfin [] 0 (mgo f (n - ([] : List CV).length) (l.drop 0) false) := by
  unfold mfin mgo; simp
theorem mgo_next {f : List UInt8 → CV × Nat × Bool} {n off k : Nat} {L : List UInt8} {vs : List CV} {v : CV} {bd : Bool} (h : manyF f n L = mfin vs off (mgo f (n - vs.length) (L.drop off) false)) (hl : vs.length < n) (hv : f (L.drop off) = (v, k, bd)) : manyF f n L = mfin (vs ++ [v]) (off + k) (mgo f (n - (vs ++ [v]).length) (L.drop (off + k)) bd) := by
  rw [h, show n - vs.length = (n - (vs ++ [v]).length) + 1 by simp; omega]
  unfold mfin mgo
  rw [if_neg (by decide), manyF, hv]
  cases bd with
  | true => simp
  | false => simp [List.drop_drop]; omega
theorem mgo_end {f : List UInt8 → CV × Nat × Bool} {n off : Nat} {L : List UInt8} {vs : List CV} {bd : Bool} (h : manyF f n L = mfin vs off (mgo f (n - vs.length) (L.drop off) bd)) (hl : bd = true ∨ vs.length = n) : manyF f n L = (vs, off, bd) := by
  rw [h]
  cases bd with
  | true => unfold mfin mgo; simp
  | false =>
    rcases hl with hl | hl
    · cases hl
    · rw [hl, Nat.sub_self]; unfold mfin mgo; simp [manyF]
theorem loop_ways (i n : Nat) (bd : Bool) (h : i ≤ n) : (i < n ∧ bd = false) ∨ (i < n ∧ bd = true) ∨ i = n := by
  rcases Nat.lt_or_ge i n with h1 | h1
  · cases bd
    · exact .inl ⟨h1, rfl⟩
    · exact .inr (.inl ⟨h1, rfl⟩)
  · exact .inr (.inr (by omega))
theorem bad_ways (bd : Bool) (u n : Nat) : bd = true ∨ (bd = false ∧ ¬ u ≤ n) ∨ (bd = false ∧ u ≤ n) := by
  by_cases h : u ≤ n <;> cases bd <;> simp [h]
theorem lev_ways (bd : Bool) (u n d : Nat) : bd = true ∨ (bd = false ∧ ¬ u ≤ n) ∨ (bd = false ∧ u ≤ n ∧ d = 0) ∨ ∃ d', bd = false ∧ u ≤ n ∧ d = d' + 1 := by
  cases bd with
  | true => exact .inl rfl
  | false =>
    by_cases h : u ≤ n
    · cases d with
      | zero => exact .inr (.inr (.inl ⟨rfl, h, rfl⟩))
      | succ d => exact .inr (.inr (.inr ⟨d, rfl, h, rfl⟩))
    · exact .inr (.inl ⟨rfl, h⟩)
theorem num_parts (b : List UInt8) (a : Nat) : ∃ u k2 bd, rnum 0 (b.drop a) = (u, k2, bd) ∧ k2 ≤ (b.drop a).length ∧ u < 2 ^ 64 := ⟨_, _, _, rfl, (rnum_rd _ 0).2.1, rnum_lt _⟩
theorem val_parts (d : Nat) (l : List UInt8) : ∃ v k bd, rvV d l = (v, k, bd) ∧ k ≤ l.length := ⟨_, _, _, rfl, (rvV_rd d l).2⟩
theorem rem2 {u : Nat} (h : u < 2 ^ 64) : A.b (((c64 u % c64 2).toNat : Int) == 1) = .b (decide (u % 2 = 1)) := by
  rw [BitVec.toNat_umod, c64_nat h, c64_nat (by omega)]
  refine congrArg A.b ?_
  rw [Bool.eq_iff_iff, beq_iff_eq, decide_eq_true_eq]; omega
theorem conv_w {u : Nat} (h : u < 2 ^ 63) : A.i .i64 (IntKind.i64.wrap ((c64 u).toNat : Int)) = .i .i64 ((u : Nat) : Int) := by
  rw [c64_nat (by omega), IntKind.wrap_i64]; exact congrArg (A.i .i64) (by omega)
theorem conv_half {u : Nat} (h : u < 2 ^ 64) : A.i .i64 (IntKind.i64.wrap ((c64 u / c64 2).toNat : Int)) = .i .i64 ((u / 2 : Nat) : Int) := by
  rw [BitVec.toNat_udiv, c64_nat h, c64_nat (by omega), IntKind.wrap_i64]; exact congrArg (A.i .i64) (by omega)
theorem neg_half {u : Nat} (h : u < 2 ^ 64) : A.i .i64 (IntKind.i64.wrap (0 - ((u / 2 : Nat) : Int))) = .i .i64 (-((u / 2 : Nat) : Int)) := by
  rw [IntKind.wrap_i64]; exact congrArg (A.i .i64) (by omega)
theorem sgn_odd {u : Nat} (h : u % 2 = 1) : -((u / 2 : Nat) : Int) - 1 = sgnI u := by unfold sgnI; rw [if_neg (by omega)]
theorem sgn_even {u : Nat} (h : ¬ u % 2 = 1) : ((u / 2 : Nat) : Int) = sgnI u := by unfold sgnI; rw [if_pos (by omega)]
theorem gt_no {u n : Nat} (hu : u < 2 ^ 64) (hn : n < 2 ^ 64) (h : u ≤ n) : A.b (decide (((c64 u).toNat : Int) > ((c64 n).toNat : Int))) = .b false := by
  rw [c64_nat hu, c64_nat hn]; exact congrArg A.b (decide_eq_false (by omega))
theorem gt_yes {u n : Nat} (hu : u < 2 ^ 64) (hn : n < 2 ^ 64) (h : ¬ u ≤ n) : A.b (decide (((c64 u).toNat : Int) > ((c64 n).toNat : Int))) = .b true := by
  rw [c64_nat hu, c64_nat hn]; exact congrArg A.b (decide_eq_true (by omega))
theorem cut_mid (b : List UInt8) (i k n : Nat) : ((b.map u8).drop ((i + k) * 1)).take (n * 1) = (((b.drop i).drop k).take n).map u8 := by
  rw [Nat.mul_one, Nat.mul_one, List.drop_drop, ← List.map_drop, ← List.map_take]
theorem rdec_bad {b : List UInt8} {v : CV} {k : Nat} (h : rvV 16 b = (v, k, true)) : decV b = none := by
  have := (rvV_rd 16 b).1
  rw [h] at this
  exact dec_n this
theorem rdec_more {b : List UInt8} {v : CV} {k : Nat} (h : rvV 16 b = (v, k, false)) (hk : k ≠ b.length) : decV b = none := by
  obtain ⟨h1, h2⟩ := rvV_rd 16 b
  rw [h] at h1 h2
  dsimp only at h1 h2
  rw [if_neg (by decide)] at h1
  cases hd : b.drop k with
  | nil => have := drop_len hd; omega
  | cons c r => rw [hd] at h1; exact dec_r h1
theorem rdec_ok {b : List UInt8} {v : CV} {k : Nat} (h : rvV 16 b = (v, k, false)) (hk : k = b.length) : decV b = some v := by
  have h1 := (rvV_rd 16 b).1
  rw [h] at h1
  dsimp only at h1
  rw [if_neg (by decide), hk, List.drop_length] at h1
  exact dec_y h1
theorem rdec_ways (b : List UInt8) : (∃ v k, rvV 16 b = (v, k, true) ∧ decV b = none) ∨ (∃ v k, rvV 16 b = (v, k, false) ∧ k ≠ b.length ∧ decV b = none) ∨ ∃ v, rvV 16 b = (v, b.length, false) ∧ decV b = some v := by
  obtain ⟨v, k, bd, h, _⟩ := val_parts 16 b
  cases bd with
  | true => exact .inl ⟨v, k, h, rdec_bad h⟩
  | false =>
    by_cases hk : k = b.length
    · exact .inr (.inr ⟨v, by rw [h, hk], rdec_ok h hk⟩)
    · exact .inr (.inl ⟨v, k, h, hk, rdec_more h hk⟩)
theorem Rd.chk {v : CV} (h : Rd 16 v) : chkV v = 0 := by
  unfold chkV; rw [if_pos h.1, if_pos h.2.1]
theorem numL_pos (u : Nat) : 1 ≤ (numL u).length := by
  by_cases h : u < 128
  · rw [numL_small h]; simp
  · rw [numL_big h]; simp
theorem CV.size_enc : ∀ (n : Nat) (v : CV), v.size ≤ n → v.okB = true → v.size + 1 ≤ v.enc.length
  | 0, v, h, _ => by cases v; simp only [CV.size] at h; omega
  | n + 1, .mk k m s l, h, ho => by
    simp only [CV.size] at h
    have hl : ∀ (q : List CV), CV.sizeL q ≤ n → CV.okBL q = true → CV.sizeL q ≤ (CV.encL q).length := by
      intro q
      induction q with
      | nil => intro _ _; exact Nat.zero_le _
      | cons a q ih =>
        intro hq hoq
        simp only [CV.sizeL] at hq
        simp only [CV.okBL, Bool.and_eq_true] at hoq
        have h1 := CV.size_enc n a (by omega) hoq.1
        have h2 := ih (by omega) hoq.2
        simp only [CV.encL, CV.sizeL, List.length_append]; omega
    simp only [CV.size]
    rcases okV_kind ho with rfl | rfl | ⟨rfl, hol⟩
    · rw [CV.okB, if_pos rfl] at ho
      simp only [Bool.and_eq_true, List.isEmpty_iff] at ho
      obtain ⟨rfl, rfl⟩ := ho
      have := numL_pos (unsI m)
      rw [CV.enc, if_pos rfl, List.length_cons]; simp only [CV.sizeL]; omega
    · rw [CV.okB, if_neg (by omega), if_pos rfl] at ho
      simp only [Bool.and_eq_true, List.isEmpty_iff, decide_eq_true_eq] at ho
      obtain ⟨rfl, rfl⟩ := ho
      have := numL_pos s.length
      rw [CV.enc, if_neg (by omega), if_pos rfl, List.length_cons, List.length_append]; simp only [CV.sizeL]; omega
    · have := numL_pos l.length
      have := hl l (by omega) hol
      rw [CV.enc, if_neg (by omega), if_neg (by omega), List.length_cons, List.length_append]; omega
end Go.Abs.D2
-- C1J
namespace Go.Abs.D2
open Go Go.Eng Go.Abs Go.Proofs 
theorem rnext_c (b : List UInt8) (a : Nat) (c : UInt8) (r : List UInt8) (hb : b.length ≤ 1000000) (h : b.drop a = c :: r) : ConS Tryd.prog 98 [.p 400 0] ⟨[(400, some [.fz b.length (b.map u8), nJ (a), .b false])]⟩ (RetS (u8 c) [(400, [.fz b.length (b.map u8), nJ (a + 1), .b false])]) := by
 refine enterS Tryd.func98 rfl Tryd.ntmps98 (by kernel_rfl) (Nat.le_of_ble_eq_true rfl) fun w0 X0 hI => ?_
 refine at_seq <| at_region <| s1 ((y_p rfl).v (v' := .i .u8 0) rfl) rfl ?_
 refine at_nil <| x_tn <| at_seq <| at_seq ?_
 have hlt := drop_lt h
 refine at_draw_tail 9 hmix (by kernel_rfl) ?_
 refine t1 (y_p rfl) rfl <| t1 (y_nilc rfl rfl) rfl <| t1 (y_fld Tryd.underlying103 rfl ti3 (by decide) rfl rfl) rfl <| t1 (y_load ti3 rfl rfl rfl) rfl <| t1 (y_p rfl) rfl <| t1 (y_nilc rfl rfl) rfl <| t1 (y_fld Tryd.underlying103 rfl ti40 (by decide) rfl rfl) rfl <| t1 (y_load ti40 rfl rfl rfl) rfl <| t1 (y_len Tryd.underlying40 rfl rfl rfl) rfl ?_
 refine at_snil ?_
 refine s1 ((y_p rfl).v (v' := .b false) (congrArg A.b (decide_eq_false (by omega)))) rfl ?_
 refine at_nil <| x_tn ?_
 refine at_else rfl ?_
 refine at_skip <| x_tn <| at_seq <| at_region <| s1 (y_p rfl) rfl <| s1 (y_nilc rfl rfl) rfl <| s1 (y_fld Tryd.underlying103 rfl ti3 (by decide) rfl rfl) rfl <| s1 (y_load ti3 rfl rfl rfl) rfl <| s1 (addN _ 1 rfl rfl rfl rfl (by omega)) rfl <| s1 (y_nilc rfl rfl) rfl <| s1 (y_fld Tryd.underlying103 rfl ti3 (by decide) rfl rfl) rfl ?_
 refine at_op rfl (n_store1 ti3 rfl rfl rfl rfl (by first | rfl | omega | (simp <;> omega) | (simp [*] <;> omega)) rfl ?_)
 refine at_nil <| x_tn <| at_seq ?_
 refine at_draw_tail 11 hmix (by kernel_rfl) ?_
 refine t1 (y_p rfl) rfl <| t1 (y_nilc rfl rfl) rfl <| t1 (y_fld Tryd.underlying103 rfl ti40 (by decide) rfl rfl) rfl <| t1 (y_load ti40 rfl rfl rfl) rfl <| t1 (y_p rfl) rfl <| t1 (y_nilc rfl rfl) rfl <| t1 (y_fld Tryd.underlying103 rfl ti3 (by decide) rfl rfl) rfl <| t1 (y_load ti3 rfl rfl rfl) rfl <| t1 ((subN (a + 1) 1 rfl rfl rfl rfl (by omega) (by omega)).v (v' := nJ (a)) (congrArg nJ (Nat.add_sub_cancel _ _))) rfl <| t1 (y_ixf a Tryd.underlying40 ti5 rfl rfl rfl (by omega) rfl) rfl ?_
 refine t1 (y_load ti5 rfl rfl (getU8 h)) rfl ?_
 refine at_snil ?_
 refine s1 (y_p rfl) rfl ?_
 refine at_nil <| x_tn <| at_ret ?_
 refine at_result (rs := [.tmp 2]) rfl (r_tmp rfl r_nil) (retS_1 rfl)
theorem rnext_n (b : List UInt8) (a : Nat) (hb : b.length ≤ 1000000) (h : b.drop a = []) : ConS Tryd.prog 98 [.p 400 0] ⟨[(400, some [.fz b.length (b.map u8), nJ (a), .b false])]⟩ (RetS (u8 0) [(400, [.fz b.length (b.map u8), nJ (a), .b true])]) := by
 refine enterS Tryd.func98 rfl Tryd.ntmps98 (by kernel_rfl) (Nat.le_of_ble_eq_true rfl) fun w0 X0 hI => ?_
 refine at_seq <| at_region <| s1 ((y_p rfl).v (v' := .i .u8 0) rfl) rfl ?_
 refine at_nil <| x_tn <| at_seq <| at_seq ?_
 have hlt := drop_len h
 refine at_draw_tail 9 hmix (by kernel_rfl) ?_
 refine t1 (y_p rfl) rfl <| t1 (y_nilc rfl rfl) rfl <| t1 (y_fld Tryd.underlying103 rfl ti3 (by decide) rfl rfl) rfl <| t1 (y_load ti3 rfl rfl rfl) rfl <| t1 (y_p rfl) rfl <| t1 (y_nilc rfl rfl) rfl <| t1 (y_fld Tryd.underlying103 rfl ti40 (by decide) rfl rfl) rfl <| t1 (y_load ti40 rfl rfl rfl) rfl <| t1 (y_len Tryd.underlying40 rfl rfl rfl) rfl ?_
 refine at_snil ?_
 refine s1 ((y_p rfl).v (v' := .b true) (congrArg A.b (decide_eq_true (by omega)))) rfl ?_
 refine at_nil <| x_tn ?_
 refine at_then rfl ?_
 refine at_seq <| at_region <| s1 (y_p rfl) rfl <| s1 (y_nilc rfl rfl) rfl <| s1 (y_fld Tryd.underlying103 rfl ti4 (by decide) rfl rfl) rfl ?_
 refine at_op rfl (n_store1 ti4 rfl rfl rfl rfl (by first | rfl | omega | (simp <;> omega) | (simp [*] <;> omega)) rfl ?_)
 refine at_nil <| x_tn <| at_seq <| at_region <| s1 ((y_p rfl).v (v' := .i .u8 0) rfl) rfl ?_
 refine at_nil <| x_tn <| at_ret <| x_tr ?_
 refine at_result (rs := [.tmp 2]) rfl (r_tmp rfl r_nil) (retS_1 rfl)
theorem rnumber_ok (b : List UInt8) (a0 : Nat) (ha0 : a0 ≤ b.length) (hb : b.length ≤ 1000000) : ConS Tryd.prog 99 [.p 400 0] ⟨[(400, some [.fz b.length (b.map u8), nJ (a0), .b false])]⟩ (RetS (w64 (c64 (rnum 0 (b.drop a0)).1)) [(400, [.fz b.length (b.map u8), nJ (a0 + (rnum 0 (b.drop a0)).2.1), .b (rnum 0 (b.drop a0)).2.2])]) := by
 refine enterS Tryd.func99 rfl Tryd.ntmps99 (by kernel_rfl) (Nat.le_of_ble_eq_true rfl) fun w0 X0 hI => ?_
 refine at_seq <| at_region <| s1 ((y_p rfl).v (v' := .i .u64 0) rfl) rfl ?_
 refine at_nil <| x_tn <| at_seq <| at_region <| s1 ((y_p rfl).v (v' := .i .u64 0) rfl) rfl ?_
 refine at_nil <| x_tn <| at_seq <| at_seq <| at_region <| s1 ((y_p rfl).v (v' := .i .i64 0) rfl) rfl ?_
 refine at_nil <| x_tn <| at_block ?_
 refine at_loop (ι := Nat × Nat) (fun ⟨i, acc⟩ => [(0, .p 400 0), (3, w64 (c64 acc)), (4, nJ i)]) (fun ⟨i, acc⟩ => ⟨[(400, some ([.fz b.length (b.map u8), nJ (a0 + i), .b false]))]⟩) (fun ⟨i, acc⟩ => i ≤ 9 ∧ a0 + i ≤ b.length ∧ acc < 128 ^ i ∧ rnum 0 (b.drop a0) = rfin acc i (rnum i (b.drop (a0 + i)))) (fun ⟨i, acc⟩ => 10 - i) ?_ ?_
 ·exact at_ex ((0, 0)) (⟨by omega, by omega, by omega, rfin_0⟩) [(400, some 400)] hI rfl rfl ⟨⟨_, rfl, .p rfl⟩, ⟨_, rfl, .pure pu⟩, ⟨_, rfl, .pure pu⟩, trivial⟩ ⟨.inr ⟨_, _, rfl, rfl, .pure pul⟩, trivial⟩
 rintro ⟨i, acc⟩ ⟨hi, hai, hac, hst⟩
 dsimp only
 refine at_seq <| at_seq <| at_region <| s1 (y_p rfl) rfl <| s1 (y_nilc rfl rfl) rfl <| s1 (y_fld Tryd.underlying103 rfl ti4 (by decide) rfl rfl) rfl <| s1 (y_load ti4 rfl rfl rfl) rfl <| s1 (y_p rfl) rfl ?_
 refine at_nil <| x_tn ?_
 refine at_then rfl ?_
 refine at_skip <| x_tn <| at_seq <| at_block <| at_seq ?_
 rcases num_cases (b.drop (a0 + i)) with hcs | hcs
 ·have hd := hcs
  have hdl := drop_len hd
  refine at_region <| s1 (y_p rfl) rfl ?_
  refine at_op rfl (n_callGd ⟨[(400, some [.fz b.length (b.map u8), nJ (a0 + i), .b false])]⟩ [(400, [.fz b.length (b.map u8), nJ (a0 + i), .b true])] false rfl ⟨⟨rfl, VwL.pure pul⟩, trivial⟩ (.cons (.kp rfl) .nil) (rnext_n b (a0 + i) hb hd) pu (.inl rfl) (fun p hp => by rw [List.mem_singleton.1 hp]; exact ⟨⟨_, rfl⟩, pul, .inl rfl⟩) rfl ?_)
  refine s1 (y_p rfl) rfl ?_
  refine at_nil <| x_tn <| at_seq <| at_seq ?_
  rcases nil_ways i with hcs | hcs | hcs
  ·subst hcs
   have ha0 : acc = 0 := by omega
   subst ha0
   refine at_region <| s1 (y_p rfl) rfl <| s1 ((y_p rfl).v (v' := .b false) (rfl)) rfl <| s1 (y_p rfl) rfl <| g0 rfl rfl rfl rfl <| g0 rfl rfl rfl rfl <| s1 (y_p rfl) rfl <| s1 (y_p rfl) rfl <| g1 rfl rfl (y_p rfl) rfl <| g1 rfl rfl ((y_p rfl).v (v' := .b false) (rfl)) rfl <| g1 rfl rfl (y_p rfl) rfl ?_
   refine g0 rfl rfl rfl rfl <| g0 rfl rfl rfl rfl <| g1 rfl rfl (y_p rfl) rfl <| s1 (y_p rfl) rfl ?_
   refine at_nil <| x_tn ?_
   refine at_else rfl ?_
   refine at_skip <| x_tn <| at_seq <| at_region <| s1 (y_p rfl) rfl <| s1 (y_p rfl) rfl <| s1 ((y_rem rfl rfl (by decide)).v (rem_byte 0)) rfl <| s1 (of8_64 _ Tryd.underlying5 Tryd.underlying117 rfl) rfl <| s1 (y_p rfl) rfl <| s1 (mulN 7 0 rfl rfl rfl rfl (by omega)) rfl <| s1 (shl64 _ _ rfl rfl rfl (by omega)) rfl <| s1 ((add64 _ _ rfl rfl).v (v' := w64 (c64 0)) (congrArg w64 (num_add0 0))) rfl <| s1 (y_p rfl) rfl ?_
   refine at_nil <| x_tn <| at_seq <| at_region <| s1 (y_p rfl) rfl <| s1 ((y_p rfl).v (v' := .b true) (rfl)) rfl ?_
   refine at_nil <| x_tn ?_
   refine at_then rfl ?_
   refine at_seq <| at_region <| s1 (y_p rfl) rfl <| s1 (y_p rfl) rfl ?_
   refine at_nil <| x_tn <| at_ret <| x_br <| x_tr <| x_tr <| x_br <| x_tr ?_
   rw [show rnum 0 (b.drop a0) = (0, 0, true) from hst.trans (by rw [hd]; rfl)]
   refine at_result (rs := [.tmp 2]) rfl (r_tmp rfl r_nil) (retS_1 rfl)
  ·obtain ⟨h9, hi0⟩ := hcs
   refine at_region <| s1 (y_p rfl) rfl <| s1 ((y_p rfl).v (v' := .b false) (congrArg A.b (beq_eq_false_iff_ne.2 (by omega)))) rfl <| s1 (y_p rfl) rfl <| g0 rfl rfl rfl rfl <| g0 rfl rfl rfl rfl <| s1 (y_p rfl) rfl <| s1 (y_p rfl) rfl <| g1 rfl rfl (y_p rfl) rfl <| g1 rfl rfl ((y_p rfl).v (v' := .b true) (congrArg A.b (decide_eq_true (by omega)))) rfl <| g1 rfl rfl (y_p rfl) rfl ?_
   refine g1 rfl rfl (y_p rfl) rfl <| g1 rfl rfl ((y_p rfl).v (v' := .b true) (rfl)) rfl <| g1 rfl rfl (y_p rfl) rfl <| s1 (y_p rfl) rfl ?_
   refine at_nil <| x_tn ?_
   refine at_then rfl ?_
   refine at_seq <| at_region <| s1 (y_p rfl) rfl <| s1 (y_nilc rfl rfl) rfl <| s1 (y_fld Tryd.underlying103 rfl ti4 (by decide) rfl rfl) rfl ?_
   refine at_op rfl (n_store1 ti4 rfl rfl rfl rfl (by first | rfl | omega | (simp <;> omega) | (simp [*] <;> omega)) rfl ?_)
   refine at_nil <| x_tn <| at_seq <| at_region <| s1 ((y_p rfl).v (v' := .i .u64 0) rfl) rfl ?_
   refine at_nil <| x_tn <| at_ret <| x_tr <| x_br <| x_tr <| x_tr <| x_br <| x_tr ?_
   rw [show rnum 0 (b.drop a0) = (0, i, true) from hst.trans (by rw [hd]; rfl)]
   refine at_result (rs := [.tmp 2]) rfl (r_tmp rfl r_nil) (retS_1 rfl)
  ·have h9 := hcs
   refine at_region <| s1 (y_p rfl) rfl <| s1 ((y_p rfl).v (v' := .b true) (congrArg A.b (beq_iff_eq.2 (by omega)))) rfl <| s1 (y_p rfl) rfl <| g1 rfl rfl (y_p rfl) rfl <| g1 rfl rfl ((y_p rfl).v (v' := .b false) (rfl)) rfl <| s1 (y_p rfl) rfl <| s1 (y_p rfl) rfl <| g1 rfl rfl (y_p rfl) rfl <| g1 rfl rfl ((y_p rfl).v (v' := .b true) (congrArg A.b (decide_eq_true (by omega)))) rfl <| g1 rfl rfl (y_p rfl) rfl ?_
   refine g1 rfl rfl (y_p rfl) rfl <| g1 rfl rfl ((y_p rfl).v (v' := .b true) (rfl)) rfl <| g1 rfl rfl (y_p rfl) rfl <| s1 (y_p rfl) rfl ?_
   refine at_nil <| x_tn ?_
   refine at_then rfl ?_
   refine at_seq <| at_region <| s1 (y_p rfl) rfl <| s1 (y_nilc rfl rfl) rfl <| s1 (y_fld Tryd.underlying103 rfl ti4 (by decide) rfl rfl) rfl ?_
   refine at_op rfl (n_store1 ti4 rfl rfl rfl rfl (by first | rfl | omega | (simp <;> omega) | (simp [*] <;> omega)) rfl ?_)
   refine at_nil <| x_tn <| at_seq <| at_region <| s1 ((y_p rfl).v (v' := .i .u64 0) rfl) rfl ?_
   refine at_nil <| x_tn <| at_ret <| x_tr <| x_br <| x_tr <| x_tr <| x_br <| x_tr ?_
   rw [show rnum 0 (b.drop a0) = (0, i, true) from hst.trans (by rw [hd]; rfl)]
   refine at_result (rs := [.tmp 2]) rfl (r_tmp rfl r_nil) (retS_1 rfl)
 ·obtain ⟨c, r, hd⟩ := hcs
  have hcl := c.toNat_lt
  have hdl := drop_lt hd
  refine at_region <| s1 (y_p rfl) rfl ?_
  refine at_op rfl (n_callGd ⟨[(400, some [.fz b.length (b.map u8), nJ (a0 + i), .b false])]⟩ [(400, [.fz b.length (b.map u8), nJ (a0 + i + 1), .b false])] false rfl ⟨⟨rfl, VwL.pure pul⟩, trivial⟩ (.cons (.kp rfl) .nil) (rnext_c b (a0 + i) c r hb hd) pu (.inl rfl) (fun p hp => by rw [List.mem_singleton.1 hp]; exact ⟨⟨_, rfl⟩, pul, .inl rfl⟩) rfl ?_)
  refine s1 (y_p rfl) rfl ?_
  refine at_nil <| x_tn <| at_seq <| at_seq ?_
  rcases num_ways i c with hcs | hcs | hcs | hcs | hcs | hcs
  ·obtain ⟨hbad, h9, h1⟩ := hcs
   refine at_region <| s1 (y_p rfl) rfl <| s1 ((y_p rfl).v (v' := .b true) (congrArg A.b (beq_iff_eq.2 (by omega)))) rfl <| s1 (y_p rfl) rfl <| g1 rfl rfl (y_p rfl) rfl <| g1 rfl rfl ((y_p rfl).v (v' := .b true) (congrArg A.b (decide_eq_true (by omega)))) rfl <| s1 (y_p rfl) rfl <| s1 (y_p rfl) rfl <| g0 rfl rfl rfl rfl <| g0 rfl rfl rfl rfl <| g0 rfl rfl rfl rfl ?_
   refine g0u rfl rfl rfl <| g0u rfl rfl rfl <| g0 rfl rfl rfl rfl <| s1 (y_p rfl) rfl ?_
   refine at_nil <| x_tn ?_
   refine at_then rfl ?_
   refine at_seq <| at_region <| s1 (y_p rfl) rfl <| s1 (y_nilc rfl rfl) rfl <| s1 (y_fld Tryd.underlying103 rfl ti4 (by decide) rfl rfl) rfl ?_
   refine at_op rfl (n_store1 ti4 rfl rfl rfl rfl (by first | rfl | omega | (simp <;> omega) | (simp [*] <;> omega)) rfl ?_)
   refine at_nil <| x_tn <| at_seq <| at_region <| s1 ((y_p rfl).v (v' := .i .u64 0) rfl) rfl ?_
   refine at_nil <| x_tn <| at_ret <| x_tr <| x_br <| x_tr <| x_tr <| x_br <| x_tr ?_
   rw [show rnum 0 (b.drop a0) = (0, i + 1, true) from hst.trans (by rw [hd]; exact rfin_bad hbad)]
   refine at_result (rs := [.tmp 2]) rfl (r_tmp rfl r_nil) (retS_1 rfl)
  ·obtain ⟨hbad, h1, h2, h3⟩ := hcs
   refine at_region <| s1 (y_p rfl) rfl <| s1 ((y_p rfl).v (v' := .b false) (congrArg A.b (beq_eq_false_iff_ne.2 (by omega)))) rfl <| s1 (y_p rfl) rfl <| g0 rfl rfl rfl rfl <| g0 rfl rfl rfl rfl <| s1 (y_p rfl) rfl <| s1 (y_p rfl) rfl <| g1 rfl rfl (y_p rfl) rfl <| g1 rfl rfl ((y_p rfl).v (v' := .b true) (congrArg A.b (decide_eq_true (by omega)))) rfl <| g1 rfl rfl (y_p rfl) rfl ?_
   refine g1 rfl rfl (y_p rfl) rfl <| g1 rfl rfl ((y_p rfl).v (v' := .b true) (congrArg A.b (beq_iff_eq.2 (by omega)))) rfl <| g1 rfl rfl (y_p rfl) rfl <| s1 (y_p rfl) rfl ?_
   refine at_nil <| x_tn ?_
   refine at_then rfl ?_
   refine at_seq <| at_region <| s1 (y_p rfl) rfl <| s1 (y_nilc rfl rfl) rfl <| s1 (y_fld Tryd.underlying103 rfl ti4 (by decide) rfl rfl) rfl ?_
   refine at_op rfl (n_store1 ti4 rfl rfl rfl rfl (by first | rfl | omega | (simp <;> omega) | (simp [*] <;> omega)) rfl ?_)
   refine at_nil <| x_tn <| at_seq <| at_region <| s1 ((y_p rfl).v (v' := .i .u64 0) rfl) rfl ?_
   refine at_nil <| x_tn <| at_ret <| x_tr <| x_br <| x_tr <| x_tr <| x_br <| x_tr ?_
   rw [show rnum 0 (b.drop a0) = (0, i + 1, true) from hst.trans (by rw [hd]; exact rfin_bad hbad)]
   refine at_result (rs := [.tmp 2]) rfl (r_tmp rfl r_nil) (retS_1 rfl)
  ·obtain ⟨hbad, h9, h1⟩ := hcs
   refine at_region <| s1 (y_p rfl) rfl <| s1 ((y_p rfl).v (v' := .b true) (congrArg A.b (beq_iff_eq.2 (by omega)))) rfl <| s1 (y_p rfl) rfl <| g1 rfl rfl (y_p rfl) rfl <| g1 rfl rfl ((y_p rfl).v (v' := .b false) (congrArg A.b (decide_eq_false (by omega)))) rfl <| s1 (y_p rfl) rfl <| s1 (y_p rfl) rfl <| g1 rfl rfl (y_p rfl) rfl <| g1 rfl rfl ((y_p rfl).v (v' := .b true) (congrArg A.b (decide_eq_true (by omega)))) rfl <| g1 rfl rfl (y_p rfl) rfl ?_
   refine g1 rfl rfl (y_p rfl) rfl <| g1 rfl rfl ((y_p rfl).v (v' := .b false) (congrArg A.b (beq_eq_false_iff_ne.2 (by omega)))) rfl <| g1 rfl rfl (y_p rfl) rfl <| s1 (y_p rfl) rfl ?_
   refine at_nil <| x_tn ?_
   refine at_else rfl ?_
   refine at_skip <| x_tn <| at_seq <| at_region <| s1 (y_p rfl) rfl <| s1 (y_p rfl) rfl <| s1 ((y_rem rfl rfl (by decide)).v (rem_byte c)) rfl <| s1 (of8_64 _ Tryd.underlying5 Tryd.underlying117 rfl) rfl <| s1 (y_p rfl) rfl <| s1 (mulN 7 i rfl rfl rfl rfl (by omega)) rfl <| s1 (shl64 _ _ rfl rfl rfl (by omega)) rfl <| s1 ((add64 _ _ rfl rfl).v (v' := w64 (c64 (acc + 128 ^ i * (c.toNat % 128)))) (congrArg w64 (num_add hac hi hbad))) rfl <| s1 (y_p rfl) rfl ?_
   refine at_nil <| x_tn <| at_seq <| at_region <| s1 (y_p rfl) rfl <| s1 ((y_p rfl).v (v' := .b (decide (c.toNat < 128))) (congrArg A.b (decide_eq_decide.2 (by omega)))) rfl ?_
   refine at_nil <| x_tn ?_
   refine at_cond rfl (fun hc41 => ?_) (fun hc41 => ?_)
   ·have hsm : c.toNat < 128 := of_decide_eq_true hc41
    refine at_seq <| at_region <| s1 (y_p rfl) rfl <| s1 (y_p rfl) rfl ?_
    refine at_nil <| x_tn <| at_ret <| x_br <| x_tr <| x_tr <| x_br <| x_tr ?_
    rw [show rnum 0 (b.drop a0) = (acc + 128 ^ i * c.toNat, i + 1, false) from hst.trans (by rw [hd]; exact rfin_end hbad hsm)]
    refine at_result (rs := [.tmp 2]) rfl (r_tmp rfl r_nil) ?_
    rw [show c.toNat % 128 = c.toNat from Nat.mod_eq_of_lt hsm]
    exact retS_1 rfl
   ·have hbig : ¬ c.toNat < 128 := of_decide_eq_false hc41
    have hi8 : i ≤ 8 := num_more hi hbad hbig
    refine at_skip <| x_bn <| x_tn <| at_region <| s1 (y_p rfl) rfl <| s1 (addN _ 1 rfl rfl rfl rfl (by omega)) rfl <| s1 (y_p rfl) rfl ?_
    refine at_nil ?_
    exact at_end (x := (i, acc)) ((i + 1, acc + 128 ^ i * (c.toNat % 128))) (⟨show i + 1 ≤ 9 by omega, show a0 + (i + 1) ≤ b.length by omega, num_lt hac, hst.trans (by rw [hd, rfin_go hbad hbig, ← drop_nx hd]; rfl)⟩) (show 10 - (i + 1) < 10 - i by omega) [(400, some 400)] hI rfl rfl ⟨⟨_, rfl, .p rfl⟩, ⟨_, rfl, .pure pu⟩, ⟨_, rfl, .pure pu⟩, trivial⟩ ⟨.inr ⟨_, _, rfl, rfl, .pure pul⟩, trivial⟩
  ·obtain ⟨hbad, h9⟩ := hcs
   refine at_region <| s1 (y_p rfl) rfl <| s1 ((y_p rfl).v (v' := .b false) (congrArg A.b (beq_eq_false_iff_ne.2 (by omega)))) rfl <| s1 (y_p rfl) rfl <| g0 rfl rfl rfl rfl <| g0 rfl rfl rfl rfl <| s1 (y_p rfl) rfl <| s1 (y_p rfl) rfl <| g1 rfl rfl (y_p rfl) rfl <| g1 rfl rfl ((y_p rfl).v (v' := .b false) (congrArg A.b (decide_eq_false (by omega)))) rfl <| g1 rfl rfl (y_p rfl) rfl ?_
   refine g0 rfl rfl rfl rfl <| g0 rfl rfl rfl rfl <| g1 rfl rfl (y_p rfl) rfl <| s1 (y_p rfl) rfl ?_
   refine at_nil <| x_tn ?_
   refine at_else rfl ?_
   refine at_skip <| x_tn <| at_seq <| at_region <| s1 (y_p rfl) rfl <| s1 (y_p rfl) rfl <| s1 ((y_rem rfl rfl (by decide)).v (rem_byte c)) rfl <| s1 (of8_64 _ Tryd.underlying5 Tryd.underlying117 rfl) rfl <| s1 (y_p rfl) rfl <| s1 (mulN 7 i rfl rfl rfl rfl (by omega)) rfl <| s1 (shl64 _ _ rfl rfl rfl (by omega)) rfl <| s1 ((add64 _ _ rfl rfl).v (v' := w64 (c64 (acc + 128 ^ i * (c.toNat % 128)))) (congrArg w64 (num_add hac hi hbad))) rfl <| s1 (y_p rfl) rfl ?_
   refine at_nil <| x_tn <| at_seq <| at_region <| s1 (y_p rfl) rfl <| s1 ((y_p rfl).v (v' := .b (decide (c.toNat < 128))) (congrArg A.b (decide_eq_decide.2 (by omega)))) rfl ?_
   refine at_nil <| x_tn ?_
   refine at_cond rfl (fun hc41 => ?_) (fun hc41 => ?_)
   ·have hsm : c.toNat < 128 := of_decide_eq_true hc41
    refine at_seq <| at_region <| s1 (y_p rfl) rfl <| s1 (y_p rfl) rfl ?_
    refine at_nil <| x_tn <| at_ret <| x_br <| x_tr <| x_tr <| x_br <| x_tr ?_
    rw [show rnum 0 (b.drop a0) = (acc + 128 ^ i * c.toNat, i + 1, false) from hst.trans (by rw [hd]; exact rfin_end hbad hsm)]
    refine at_result (rs := [.tmp 2]) rfl (r_tmp rfl r_nil) ?_
    rw [show c.toNat % 128 = c.toNat from Nat.mod_eq_of_lt hsm]
    exact retS_1 rfl
   ·have hbig : ¬ c.toNat < 128 := of_decide_eq_false hc41
    have hi8 : i ≤ 8 := num_more hi hbad hbig
    refine at_skip <| x_bn <| x_tn <| at_region <| s1 (y_p rfl) rfl <| s1 (addN _ 1 rfl rfl rfl rfl (by omega)) rfl <| s1 (y_p rfl) rfl ?_
    refine at_nil ?_
    exact at_end (x := (i, acc)) ((i + 1, acc + 128 ^ i * (c.toNat % 128))) (⟨show i + 1 ≤ 9 by omega, show a0 + (i + 1) ≤ b.length by omega, num_lt hac, hst.trans (by rw [hd, rfin_go hbad hbig, ← drop_nx hd]; rfl)⟩) (show 10 - (i + 1) < 10 - i by omega) [(400, some 400)] hI rfl rfl ⟨⟨_, rfl, .p rfl⟩, ⟨_, rfl, .pure pu⟩, ⟨_, rfl, .pure pu⟩, trivial⟩ ⟨.inr ⟨_, _, rfl, rfl, .pure pul⟩, trivial⟩
  ·obtain ⟨hbad, h1, h2, h3⟩ := hcs
   refine at_region <| s1 (y_p rfl) rfl <| s1 ((y_p rfl).v (v' := .b false) (congrArg A.b (beq_eq_false_iff_ne.2 (by omega)))) rfl <| s1 (y_p rfl) rfl <| g0 rfl rfl rfl rfl <| g0 rfl rfl rfl rfl <| s1 (y_p rfl) rfl <| s1 (y_p rfl) rfl <| g1 rfl rfl (y_p rfl) rfl <| g1 rfl rfl ((y_p rfl).v (v' := .b true) (congrArg A.b (decide_eq_true (by omega)))) rfl <| g1 rfl rfl (y_p rfl) rfl ?_
   refine g1 rfl rfl (y_p rfl) rfl <| g1 rfl rfl ((y_p rfl).v (v' := .b false) (congrArg A.b (beq_eq_false_iff_ne.2 (by omega)))) rfl <| g1 rfl rfl (y_p rfl) rfl <| s1 (y_p rfl) rfl ?_
   refine at_nil <| x_tn ?_
   refine at_else rfl ?_
   refine at_skip <| x_tn <| at_seq <| at_region <| s1 (y_p rfl) rfl <| s1 (y_p rfl) rfl <| s1 ((y_rem rfl rfl (by decide)).v (rem_byte c)) rfl <| s1 (of8_64 _ Tryd.underlying5 Tryd.underlying117 rfl) rfl <| s1 (y_p rfl) rfl <| s1 (mulN 7 i rfl rfl rfl rfl (by omega)) rfl <| s1 (shl64 _ _ rfl rfl rfl (by omega)) rfl <| s1 ((add64 _ _ rfl rfl).v (v' := w64 (c64 (acc + 128 ^ i * (c.toNat % 128)))) (congrArg w64 (num_add hac hi hbad))) rfl <| s1 (y_p rfl) rfl ?_
   refine at_nil <| x_tn <| at_seq <| at_region <| s1 (y_p rfl) rfl <| s1 ((y_p rfl).v (v' := .b (decide (c.toNat < 128))) (congrArg A.b (decide_eq_decide.2 (by omega)))) rfl ?_
   refine at_nil <| x_tn ?_
   refine at_cond rfl (fun hc41 => ?_) (fun hc41 => ?_)
   ·have hsm : c.toNat < 128 := of_decide_eq_true hc41
    refine at_seq <| at_region <| s1 (y_p rfl) rfl <| s1 (y_p rfl) rfl ?_
    refine at_nil <| x_tn <| at_ret <| x_br <| x_tr <| x_tr <| x_br <| x_tr ?_
    rw [show rnum 0 (b.drop a0) = (acc + 128 ^ i * c.toNat, i + 1, false) from hst.trans (by rw [hd]; exact rfin_end hbad hsm)]
    refine at_result (rs := [.tmp 2]) rfl (r_tmp rfl r_nil) ?_
    rw [show c.toNat % 128 = c.toNat from Nat.mod_eq_of_lt hsm]
    exact retS_1 rfl
   ·have hbig : ¬ c.toNat < 128 := of_decide_eq_false hc41
    have hi8 : i ≤ 8 := num_more hi hbad hbig
    refine at_skip <| x_bn <| x_tn <| at_region <| s1 (y_p rfl) rfl <| s1 (addN _ 1 rfl rfl rfl rfl (by omega)) rfl <| s1 (y_p rfl) rfl ?_
    refine at_nil ?_
    exact at_end (x := (i, acc)) ((i + 1, acc + 128 ^ i * (c.toNat % 128))) (⟨show i + 1 ≤ 9 by omega, show a0 + (i + 1) ≤ b.length by omega, num_lt hac, hst.trans (by rw [hd, rfin_go hbad hbig, ← drop_nx hd]; rfl)⟩) (show 10 - (i + 1) < 10 - i by omega) [(400, some 400)] hI rfl rfl ⟨⟨_, rfl, .p rfl⟩, ⟨_, rfl, .pure pu⟩, ⟨_, rfl, .pure pu⟩, trivial⟩ ⟨.inr ⟨_, _, rfl, rfl, .pure pul⟩, trivial⟩
  ·obtain ⟨hbad, h9, h1⟩ := hcs
   refine at_region <| s1 (y_p rfl) rfl <| s1 ((y_p rfl).v (v' := .b true) (congrArg A.b (beq_iff_eq.2 (by omega)))) rfl <| s1 (y_p rfl) rfl <| g1 rfl rfl (y_p rfl) rfl <| g1 rfl rfl ((y_p rfl).v (v' := .b false) (congrArg A.b (decide_eq_false (by omega)))) rfl <| s1 (y_p rfl) rfl <| s1 (y_p rfl) rfl <| g1 rfl rfl (y_p rfl) rfl <| g1 rfl rfl ((y_p rfl).v (v' := .b true) (congrArg A.b (decide_eq_true (by omega)))) rfl <| g1 rfl rfl (y_p rfl) rfl ?_
   refine g1 rfl rfl (y_p rfl) rfl <| g1 rfl rfl ((y_p rfl).v (v' := .b true) (congrArg A.b (beq_iff_eq.2 (by omega)))) rfl <| g1 rfl rfl (y_p rfl) rfl <| s1 (y_p rfl) rfl ?_
   refine at_nil <| x_tn ?_
   refine at_then rfl ?_
   refine at_seq <| at_region <| s1 (y_p rfl) rfl <| s1 (y_nilc rfl rfl) rfl <| s1 (y_fld Tryd.underlying103 rfl ti4 (by decide) rfl rfl) rfl ?_
   refine at_op rfl (n_store1 ti4 rfl rfl rfl rfl (by first | rfl | omega | (simp <;> omega) | (simp [*] <;> omega)) rfl ?_)
   refine at_nil <| x_tn <| at_seq <| at_region <| s1 ((y_p rfl).v (v' := .i .u64 0) rfl) rfl ?_
   refine at_nil <| x_tn <| at_ret <| x_tr <| x_br <| x_tr <| x_tr <| x_br <| x_tr ?_
   rw [show rnum 0 (b.drop a0) = (0, i + 1, true) from hst.trans (by rw [hd]; exact rfin_bad hbad)]
   refine at_result (rs := [.tmp 2]) rfl (r_tmp rfl r_nil) (retS_1 rfl)
end Go.Abs.D2
-- C1K
namespace Go.Abs.D2
open Go Go.Eng Go.Abs Go.Proofs 
theorem rvalue_step (b : List UInt8) (hb : b.length ≤ 1000000) (d k : Nat) (hk : k + d = 16) (a : Nat) (ha : a ≤ b.length) (ih : ∀ d', d = d' + 1 → ∀ a : Nat, a ≤ b.length → ConS Tryd.prog 75 [.p 400 0, nJ (k + 1)] ⟨[(400, some [.fz b.length (b.map u8), nJ (a), .b false])]⟩ (RetS (.ag (CV.cells (rvV d' (b.drop (a))).1)) [(400, [.fz b.length (b.map u8), nJ (a + (rvV d' (b.drop (a))).2.1), .b (rvV d' (b.drop (a))).2.2])])) : ConS Tryd.prog 75 [.p 400 0, nJ k] ⟨[(400, some [.fz b.length (b.map u8), nJ (a), .b false])]⟩ (RetS (.ag (CV.cells (rvV d (b.drop a)).1)) [(400, [.fz b.length (b.map u8), nJ (a + (rvV d (b.drop a)).2.1), .b (rvV d (b.drop a)).2.2])]) := by
 refine enterS Tryd.func75 rfl Tryd.ntmps75 (by kernel_rfl) (Nat.le_of_ble_eq_true rfl) fun w0 X0 hI => ?_
 refine at_seq <| at_region ?_
 refine at_op rfl (n_alloc 4 rfl ti71 rfl rfl ?_)
 refine at_nil <| x_tn <| at_seq <| at_seq ?_
 rcases val_ways (b.drop a) with hcs | hcs | hcs | hcs | hcs
 ·have hd := hcs
  have hdl := drop_len hd
  refine at_region <| s1 (y_p rfl) rfl ?_
  refine at_op rfl (n_callGd ⟨[(400, some [.fz b.length (b.map u8), nJ (a), .b false])]⟩ [(400, [.fz b.length (b.map u8), nJ (a), .b true])] false rfl ⟨⟨rfl, VwL.pure pul⟩, trivial⟩ (.cons (.kp rfl) .nil) (rnext_n b a hb hd) pu (.inl rfl) (fun p hp => by rw [List.mem_singleton.1 hp]; exact ⟨⟨_, rfl⟩, pul, .inl rfl⟩) rfl ?_)
  refine at_nil <| x_tn <| at_block <| at_seq <| at_region <| s1 ((y_p rfl).v (v' := .b false) (rfl)) rfl <| s1 (y_p rfl) rfl ?_
  refine at_nil <| x_tn ?_
  refine at_else rfl ?_
  refine at_seq <| at_region <| s1 ((y_p rfl).v (v' := .b false) (rfl)) rfl <| s1 (y_p rfl) rfl ?_
  refine at_nil <| x_tn ?_
  refine at_else rfl ?_
  refine at_seq <| at_region <| s1 ((y_p rfl).v (v' := .b false) (rfl)) rfl <| s1 (y_p rfl) rfl ?_
  refine at_nil <| x_tn ?_
  refine at_else rfl ?_
  refine at_skip <| x_bn <| x_tn <| at_seq <| at_region <| s1 (y_p rfl) rfl <| s1 (y_nilc rfl rfl) rfl <| s1 (y_fld Tryd.underlying103 rfl ti4 (by decide) rfl rfl) rfl ?_
  refine at_op rfl (n_store1 ti4 rfl rfl rfl rfl (by first | rfl | omega | (simp <;> omega) | (simp [*] <;> omega)) rfl ?_)
  refine at_nil <| x_tn <| at_seq <| at_region <| s1 (y_bld (out := [_, _, _, _]) [[evC (.int .i64 0)], [evC (.int .i64 0)], [evC (.string ByteArray.empty)], [evC (.slice none 0 0)]] ti71 rfl Tryd.underlying71 (by kernel_rfl) rfl rfl trivial rfl) rfl ?_
  refine at_op rfl (n_storeA ti71 rfl rfl rfl (by first | rfl | omega | (simp <;> omega) | (simp [*] <;> omega)) (by first | rfl | omega | (simp <;> omega) | (simp [*] <;> omega)) ?_)
  refine at_nil <| x_tn <| at_ret ?_
  refine at_wkO 4 rfl wk_cv ?_
  refine at_result (rs := [.cell 4 71]) rfl (r_cellA ti71 rfl rfl rfl rfl r_nil) ?_
  rw [show rvV _ (b.drop a) = (zV, 0, true) from by rw [hd]; exact rvV_nil d]
  dsimp only
  skip
  exact retS_1 rfl
 ·obtain ⟨r, hd⟩ := hcs
  obtain rfl : b.drop (a + 1) = r := drop_nx hd
  have hlt := drop_lt hd
  obtain ⟨u, k2, bd, hp, hk2, hu⟩ := num_parts b (a + 1)
  rw [List.length_drop] at hk2
  have hN := rnumber_ok b (a + 1) (by omega) hb
  rw [hp] at hN
  dsimp only at hN
  have hld : ((b.drop (a + 1)).drop k2).length = b.length - (a + 1 + k2) := by rw [List.length_drop, List.length_drop]; omega
  refine at_region <| s1 (y_p rfl) rfl ?_
  refine at_op rfl (n_callGd ⟨[(400, some [.fz b.length (b.map u8), nJ (a), .b false])]⟩ [(400, [.fz b.length (b.map u8), nJ (a + 1), .b false])] false rfl ⟨⟨rfl, VwL.pure pul⟩, trivial⟩ (.cons (.kp rfl) .nil) (rnext_c b a 1 (b.drop (a + 1)) hb hd) pu (.inl rfl) (fun p hp => by rw [List.mem_singleton.1 hp]; exact ⟨⟨_, rfl⟩, pul, .inl rfl⟩) rfl ?_)
  refine at_nil <| x_tn <| at_block <| at_seq <| at_region <| s1 ((y_p rfl).v (v' := .b true) (rfl)) rfl <| s1 (y_p rfl) rfl ?_
  refine at_nil <| x_tn ?_
  refine at_then rfl ?_
  refine at_seq <| at_region <| s1 (y_p rfl) rfl ?_
  refine at_op rfl (n_callGd ⟨[(400, some [.fz b.length (b.map u8), nJ (a + 1), .b false])]⟩ [(400, [.fz b.length (b.map u8), nJ (a + 1 + k2), .b bd])] false rfl ⟨⟨rfl, VwL.pure pul⟩, trivial⟩ (.cons (.kp rfl) .nil) (hN) pu (.inl rfl) (fun p hp => by rw [List.mem_singleton.1 hp]; exact ⟨⟨_, rfl⟩, pul, .inl rfl⟩) rfl ?_)
  refine s1 (y_p rfl) rfl ?_
  refine at_nil <| x_tn <| at_seq <| at_seq <| at_region <| s1 (y_p rfl) rfl <| s1 (rem64 _ (c64 2) rfl rfl (by decide)) rfl <| s1 ((y_p rfl).v (v' := .b (decide (u % 2 = 1))) (rem2 hu)) rfl ?_
  refine at_nil <| x_tn ?_
  refine at_cond rfl (fun hc18 => ?_) (fun hc18 => ?_)
  ·have h18 : u % 2 = 1 := of_decide_eq_true hc18
   refine at_seq <| at_region <| s1 (y_p rfl) rfl <| s1 (quo64 _ (c64 2) rfl rfl (by decide)) rfl <| s1 ((y_conv Tryd.underlying117 Tryd.underlying3 rfl).v (conv_half hu)) rfl <| s1 ((y_neg rfl).v (neg_half hu)) rfl <| s1 ((subI rfl rfl (by omega) (by omega)).v (v' := .i .i64 (sgnI u)) (congrArg (A.i .i64) (sgn_odd h18))) rfl <| s1 (y_bld (out := [_, _, _, _]) [[evC (.int .i64 0)], [evC (.int .i64 0)], [evC (.string ByteArray.empty)], [evC (.slice none 0 0)]] ti71 rfl Tryd.underlying71 (by kernel_rfl) rfl rfl ⟨⟨by (first | rfl | omega | (simp; done) | (simp [*]; done) | (simp [cellsA, *]; done)), rfl⟩, ⟨⟨by (first | rfl | omega | (simp; done) | (simp [*]; done) | (simp [cellsA, *]; done)), rfl⟩, trivial⟩⟩ rfl) rfl ?_
   refine at_op rfl (n_storeA ti71 rfl rfl rfl (by first | rfl | omega | (simp <;> omega) | (simp [*] <;> omega)) (by first | rfl | omega | (simp <;> omega) | (simp [*] <;> omega)) ?_)
   refine at_nil <| x_tn <| at_ret <| x_tr <| x_br <| x_tr ?_
   refine at_wkO 4 rfl wk_cv ?_
   refine at_result (rs := [.cell 4 71]) rfl (r_cellA ti71 rfl rfl rfl rfl r_nil) ?_
   rw [show rvV _ (b.drop a) = (.mk 1 (sgnI u) [] [], k2 + 1, bd) from by rw [hd]; exact rvV_1 hp]
   dsimp only
   rw [show a + (k2 + 1) = a + 1 + k2 by omega]
   exact retS_1 rfl
  ·have h18 : ¬ u % 2 = 1 := of_decide_eq_false hc18
   refine at_skip <| x_tn <| at_seq <| at_region <| s1 (y_p rfl) rfl <| s1 (quo64 _ (c64 2) rfl rfl (by decide)) rfl <| s1 (((y_conv Tryd.underlying117 Tryd.underlying3 rfl).v (conv_half hu)).v (v' := .i .i64 (sgnI u)) (congrArg (A.i .i64) (sgn_even h18))) rfl <| s1 (y_bld (out := [_, _, _, _]) [[evC (.int .i64 0)], [evC (.int .i64 0)], [evC (.string ByteArray.empty)], [evC (.slice none 0 0)]] ti71 rfl Tryd.underlying71 (by kernel_rfl) rfl rfl ⟨⟨by (first | rfl | omega | (simp; done) | (simp [*]; done) | (simp [cellsA, *]; done)), rfl⟩, ⟨⟨by (first | rfl | omega | (simp; done) | (simp [*]; done) | (simp [cellsA, *]; done)), rfl⟩, trivial⟩⟩ rfl) rfl ?_
   refine at_op rfl (n_storeA ti71 rfl rfl rfl (by first | rfl | omega | (simp <;> omega) | (simp [*] <;> omega)) (by first | rfl | omega | (simp <;> omega) | (simp [*] <;> omega)) ?_)
   refine at_nil <| x_tn <| at_ret <| x_br <| x_tr ?_
   refine at_wkO 4 rfl wk_cv ?_
   refine at_result (rs := [.cell 4 71]) rfl (r_cellA ti71 rfl rfl rfl rfl r_nil) ?_
   rw [show rvV _ (b.drop a) = (.mk 1 (sgnI u) [] [], k2 + 1, bd) from by rw [hd]; exact rvV_1 hp]
   dsimp only
   rw [show a + (k2 + 1) = a + 1 + k2 by omega]
   exact retS_1 rfl
 ·obtain ⟨r, hd⟩ := hcs
  obtain rfl : b.drop (a + 1) = r := drop_nx hd
  have hlt := drop_lt hd
  obtain ⟨u, k2, bd, hp, hk2, hu⟩ := num_parts b (a + 1)
  rw [List.length_drop] at hk2
  have hN := rnumber_ok b (a + 1) (by omega) hb
  rw [hp] at hN
  dsimp only at hN
  have hld : ((b.drop (a + 1)).drop k2).length = b.length - (a + 1 + k2) := by rw [List.length_drop, List.length_drop]; omega
  refine at_region <| s1 (y_p rfl) rfl ?_
  refine at_op rfl (n_callGd ⟨[(400, some [.fz b.length (b.map u8), nJ (a), .b false])]⟩ [(400, [.fz b.length (b.map u8), nJ (a + 1), .b false])] false rfl ⟨⟨rfl, VwL.pure pul⟩, trivial⟩ (.cons (.kp rfl) .nil) (rnext_c b a 2 (b.drop (a + 1)) hb hd) pu (.inl rfl) (fun p hp => by rw [List.mem_singleton.1 hp]; exact ⟨⟨_, rfl⟩, pul, .inl rfl⟩) rfl ?_)
  refine at_nil <| x_tn <| at_block <| at_seq <| at_region <| s1 ((y_p rfl).v (v' := .b false) (rfl)) rfl <| s1 (y_p rfl) rfl ?_
  refine at_nil <| x_tn ?_
  refine at_else rfl ?_
  refine at_seq <| at_region <| s1 ((y_p rfl).v (v' := .b true) (rfl)) rfl <| s1 (y_p rfl) rfl ?_
  refine at_nil <| x_tn ?_
  refine at_then rfl ?_
  refine at_seq <| at_region <| s1 (y_p rfl) rfl ?_
  refine at_op rfl (n_callGd ⟨[(400, some [.fz b.length (b.map u8), nJ (a + 1), .b false])]⟩ [(400, [.fz b.length (b.map u8), nJ (a + 1 + k2), .b bd])] false rfl ⟨⟨rfl, VwL.pure pul⟩, trivial⟩ (.cons (.kp rfl) .nil) (hN) pu (.inl rfl) (fun p hp => by rw [List.mem_singleton.1 hp]; exact ⟨⟨_, rfl⟩, pul, .inl rfl⟩) rfl ?_)
  refine s1 (y_p rfl) rfl ?_
  refine at_nil <| x_tn <| at_seq <| at_seq ?_
  rcases bad_ways bd u ((b.drop (a + 1)).drop k2).length with hcs | hcs | hcs
  ·subst hcs
   refine at_draw_tail 18 hmix (by kernel_rfl) ?_
   refine t1 (y_p rfl) rfl <| t1 (y_nilc rfl rfl) rfl <| t1 (y_fld Tryd.underlying103 rfl ti4 (by decide) rfl rfl) rfl <| t1 (y_load ti4 rfl rfl rfl) rfl <| t1 (y_p rfl) rfl <| t0g rfl rfl rfl rfl <| t0g rfl rfl rfl rfl <| t0g rfl rfl rfl rfl <| t0g rfl rfl rfl rfl <| t0g rfl rfl rfl rfl ?_
   refine t0g rfl rfl rfl rfl <| t0g rfl rfl rfl rfl <| t0g rfl rfl rfl rfl <| t0g rfl rfl rfl rfl <| t0g rfl rfl rfl rfl <| t0g rfl rfl rfl rfl <| t0g rfl rfl rfl rfl <| t0g rfl rfl rfl rfl ?_
   refine at_snil ?_
   refine s1 (y_p rfl) rfl ?_
   refine at_nil <| x_tn ?_
   refine at_then rfl ?_
   refine at_seq <| at_region <| s1 (y_p rfl) rfl <| s1 (y_nilc rfl rfl) rfl <| s1 (y_fld Tryd.underlying103 rfl ti4 (by decide) rfl rfl) rfl ?_
   refine at_op rfl (n_store1 ti4 rfl rfl rfl rfl (by first | rfl | omega | (simp <;> omega) | (simp [*] <;> omega)) rfl ?_)
   refine at_nil <| x_tn <| at_seq <| at_region <| s1 (y_bld (out := [_, _, _, _]) [[evC (.int .i64 0)], [evC (.int .i64 0)], [evC (.string ByteArray.empty)], [evC (.slice none 0 0)]] ti71 rfl Tryd.underlying71 (by kernel_rfl) rfl rfl trivial rfl) rfl ?_
   refine at_op rfl (n_storeA ti71 rfl rfl rfl (by first | rfl | omega | (simp <;> omega) | (simp [*] <;> omega)) (by first | rfl | omega | (simp <;> omega) | (simp [*] <;> omega)) ?_)
   refine at_nil <| x_tn <| at_ret <| x_tr <| x_br <| x_tr ?_
   refine at_wkO 4 rfl wk_cv ?_
   refine at_result (rs := [.cell 4 71]) rfl (r_cellA ti71 rfl rfl rfl rfl r_nil) ?_
   rw [show rvV _ (b.drop a) = (zV, k2 + 1, true) from by rw [hd]; exact rvV_2n hp (.inl rfl)]
   dsimp only
   rw [show a + (k2 + 1) = a + 1 + k2 by omega]
   exact retS_1 rfl
  ·obtain ⟨rfl, hn⟩ := hcs
   rw [hld] at hn
   refine at_draw_tail 18 hmix (by kernel_rfl) ?_
   refine t1 (y_p rfl) rfl <| t1 (y_nilc rfl rfl) rfl <| t1 (y_fld Tryd.underlying103 rfl ti4 (by decide) rfl rfl) rfl <| t1 (y_load ti4 rfl rfl rfl) rfl <| t1 (y_p rfl) rfl <| t1g rfl rfl (y_p rfl) rfl <| t1g rfl rfl (y_p rfl) rfl <| t1g rfl rfl (y_nilc rfl rfl) rfl <| t1g rfl rfl (y_fld Tryd.underlying103 rfl ti40 (by decide) rfl rfl) rfl <| t1g rfl rfl (y_load ti40 rfl rfl rfl) rfl ?_
   refine t1g rfl rfl (y_len Tryd.underlying40 rfl rfl rfl) rfl <| t1g rfl rfl (y_p rfl) rfl <| t1g rfl rfl (y_nilc rfl rfl) rfl <| t1g rfl rfl (y_fld Tryd.underlying103 rfl ti3 (by decide) rfl rfl) rfl <| t1g rfl rfl (y_load ti3 rfl rfl rfl) rfl <| t1g rfl rfl (subN b.length (a + 1 + k2) rfl rfl rfl rfl (by omega) (by omega)) rfl <| t1g rfl rfl (ofN_64 _ Tryd.underlying3 Tryd.underlying117 rfl rfl) rfl <| t1g rfl rfl ((y_p rfl).v (v' := .b true) (gt_yes hu (by omega) (by omega))) rfl ?_
   refine at_snil ?_
   refine s1 (y_p rfl) rfl ?_
   refine at_nil <| x_tn ?_
   refine at_then rfl ?_
   refine at_seq <| at_region <| s1 (y_p rfl) rfl <| s1 (y_nilc rfl rfl) rfl <| s1 (y_fld Tryd.underlying103 rfl ti4 (by decide) rfl rfl) rfl ?_
   refine at_op rfl (n_store1 ti4 rfl rfl rfl rfl (by first | rfl | omega | (simp <;> omega) | (simp [*] <;> omega)) rfl ?_)
   refine at_nil <| x_tn <| at_seq <| at_region <| s1 (y_bld (out := [_, _, _, _]) [[evC (.int .i64 0)], [evC (.int .i64 0)], [evC (.string ByteArray.empty)], [evC (.slice none 0 0)]] ti71 rfl Tryd.underlying71 (by kernel_rfl) rfl rfl trivial rfl) rfl ?_
   refine at_op rfl (n_storeA ti71 rfl rfl rfl (by first | rfl | omega | (simp <;> omega) | (simp [*] <;> omega)) (by first | rfl | omega | (simp <;> omega) | (simp [*] <;> omega)) ?_)
   refine at_nil <| x_tn <| at_ret <| x_tr <| x_br <| x_tr ?_
   refine at_wkO 4 rfl wk_cv ?_
   refine at_result (rs := [.cell 4 71]) rfl (r_cellA ti71 rfl rfl rfl rfl r_nil) ?_
   rw [show rvV _ (b.drop a) = (zV, k2 + 1, true) from by rw [hd]; exact rvV_2n hp (.inr (by omega))]
   dsimp only
   rw [show a + (k2 + 1) = a + 1 + k2 by omega]
   exact retS_1 rfl
  ·obtain ⟨rfl, hn⟩ := hcs
   rw [hld] at hn
   refine at_draw_tail 18 hmix (by kernel_rfl) ?_
   refine t1 (y_p rfl) rfl <| t1 (y_nilc rfl rfl) rfl <| t1 (y_fld Tryd.underlying103 rfl ti4 (by decide) rfl rfl) rfl <| t1 (y_load ti4 rfl rfl rfl) rfl <| t1 (y_p rfl) rfl <| t1g rfl rfl (y_p rfl) rfl <| t1g rfl rfl (y_p rfl) rfl <| t1g rfl rfl (y_nilc rfl rfl) rfl <| t1g rfl rfl (y_fld Tryd.underlying103 rfl ti40 (by decide) rfl rfl) rfl <| t1g rfl rfl (y_load ti40 rfl rfl rfl) rfl ?_
   refine t1g rfl rfl (y_len Tryd.underlying40 rfl rfl rfl) rfl <| t1g rfl rfl (y_p rfl) rfl <| t1g rfl rfl (y_nilc rfl rfl) rfl <| t1g rfl rfl (y_fld Tryd.underlying103 rfl ti3 (by decide) rfl rfl) rfl <| t1g rfl rfl (y_load ti3 rfl rfl rfl) rfl <| t1g rfl rfl (subN b.length (a + 1 + k2) rfl rfl rfl rfl (by omega) (by omega)) rfl <| t1g rfl rfl (ofN_64 _ Tryd.underlying3 Tryd.underlying117 rfl rfl) rfl <| t1g rfl rfl ((y_p rfl).v (v' := .b false) (gt_no hu (by omega) (by omega))) rfl ?_
   refine at_snil ?_
   refine s1 (y_p rfl) rfl ?_
   refine at_nil <| x_tn ?_
   refine at_else rfl ?_
   refine at_skip <| x_tn <| at_seq <| at_region <| s1 (y_p rfl) rfl <| s1 (y_p rfl) rfl <| s1 (y_nilc rfl rfl) rfl <| s1 (y_fld Tryd.underlying103 rfl ti3 (by decide) rfl rfl) rfl <| s1 (y_load ti3 rfl rfl rfl) rfl <| s1 (y_p rfl) rfl <| s1 ((y_conv Tryd.underlying117 Tryd.underlying3 rfl).v (conv_w (by omega))) rfl <| s1 (addN (a + 1 + k2) u rfl rfl rfl rfl (by omega)) rfl <| s1 (y_nilc rfl rfl) rfl <| s1 (y_fld Tryd.underlying103 rfl ti3 (by decide) rfl rfl) rfl ?_
   refine at_op rfl (n_store1 ti3 rfl rfl rfl rfl (by first | rfl | omega | (simp <;> omega) | (simp [*] <;> omega)) rfl ?_)
   refine at_nil <| x_tn <| at_seq ?_
   refine at_draw_tail 18 hmix (by kernel_rfl) ?_
   refine t1 (y_p rfl) rfl <| t1 (y_nilc rfl rfl) rfl <| t1 (y_fld Tryd.underlying103 rfl ti40 (by decide) rfl rfl) rfl <| t1 (y_load ti40 rfl rfl rfl) rfl <| t1 (y_p rfl) rfl <| t1 (y_nilc rfl rfl) rfl <| t1 (y_fld Tryd.underlying103 rfl ti3 (by decide) rfl rfl) rfl <| t1 (y_load ti3 rfl rfl rfl) rfl <| t1 (y_p rfl) rfl <| t1 ((y_conv Tryd.underlying117 Tryd.underlying3 rfl).v (conv_w (by omega))) rfl ?_
   refine t1 ((subN (a + 1 + k2 + u) u rfl rfl rfl rfl (by omega) (by omega)).v (v' := nJ (a + 1 + k2)) (congrArg nJ (Nat.add_sub_cancel _ _))) rfl <| t1 (y_p rfl) rfl <| t1 (y_nilc rfl rfl) rfl <| t1 (y_fld Tryd.underlying103 rfl ti3 (by decide) rfl rfl) rfl <| t1 (y_load ti3 rfl rfl rfl) rfl <| t1 (y_cutf (ds := (((b.drop (a + 1)).drop k2).take u).map u8) u Tryd.underlying40 ti5 rfl (by simp) (bs rfl rfl) (bs rfl rfl) (by omega) (by omega) (by omega) (cut_mid b (a + 1) k2 u)) rfl <| t1 (y_str Tryd.underlying40 Tryd.underlying5 Tryd.underlying9 rfl rfl (by rw [List.length_take, Nat.min_eq_left (by omega)])) rfl <| t1 (y_bld (out := [_, _, _, _]) [[evC (.int .i64 0)], [evC (.int .i64 0)], [evC (.string ByteArray.empty)], [evC (.slice none 0 0)]] ti71 rfl Tryd.underlying71 (by kernel_rfl) rfl rfl ⟨⟨by (first | rfl | omega | (simp; done) | (simp [*]; done) | (simp [cellsA, *]; done)), rfl⟩, ⟨⟨by (first | rfl | omega | (simp; done) | (simp [*]; done) | (simp [cellsA, *]; done)), rfl⟩, trivial⟩⟩ rfl) rfl ?_
   refine at_snil ?_
   refine at_op rfl (n_storeA ti71 rfl rfl rfl (by first | rfl | omega | (simp <;> omega) | (simp [*] <;> omega)) (by first | rfl | omega | (simp <;> omega) | (simp [*] <;> omega)) ?_)
   refine at_nil <| x_tn <| at_ret <| x_br <| x_tr ?_
   refine at_wkO 4 rfl wk_cv ?_
   refine at_result (rs := [.cell 4 71]) rfl (r_cellA ti71 rfl rfl rfl rfl r_nil) ?_
   rw [show rvV _ (b.drop a) = (.mk 2 0 (((b.drop (a + 1)).drop k2).take u) [], k2 + 1 + u, false) from by rw [hd]; exact rvV_2 hp (by omega)]
   dsimp only
   rw [show a + (k2 + 1 + u) = a + 1 + k2 + u by omega]
   exact retS_1 rfl
 ·obtain ⟨r, hd⟩ := hcs
  obtain rfl : b.drop (a + 1) = r := drop_nx hd
  have hlt := drop_lt hd
  obtain ⟨u, k2, bd, hp, hk2, hu⟩ := num_parts b (a + 1)
  rw [List.length_drop] at hk2
  have hN := rnumber_ok b (a + 1) (by omega) hb
  rw [hp] at hN
  dsimp only at hN
  have hld : ((b.drop (a + 1)).drop k2).length = b.length - (a + 1 + k2) := by rw [List.length_drop, List.length_drop]; omega
  refine at_region <| s1 (y_p rfl) rfl ?_
  refine at_op rfl (n_callGd ⟨[(400, some [.fz b.length (b.map u8), nJ (a), .b false])]⟩ [(400, [.fz b.length (b.map u8), nJ (a + 1), .b false])] false rfl ⟨⟨rfl, VwL.pure pul⟩, trivial⟩ (.cons (.kp rfl) .nil) (rnext_c b a 3 (b.drop (a + 1)) hb hd) pu (.inl rfl) (fun p hp => by rw [List.mem_singleton.1 hp]; exact ⟨⟨_, rfl⟩, pul, .inl rfl⟩) rfl ?_)
  refine at_nil <| x_tn <| at_block <| at_seq <| at_region <| s1 ((y_p rfl).v (v' := .b false) (rfl)) rfl <| s1 (y_p rfl) rfl ?_
  refine at_nil <| x_tn ?_
  refine at_else rfl ?_
  refine at_seq <| at_region <| s1 ((y_p rfl).v (v' := .b false) (rfl)) rfl <| s1 (y_p rfl) rfl ?_
  refine at_nil <| x_tn ?_
  refine at_else rfl ?_
  refine at_seq <| at_region <| s1 ((y_p rfl).v (v' := .b true) (rfl)) rfl <| s1 (y_p rfl) rfl ?_
  refine at_nil <| x_tn ?_
  refine at_then rfl ?_
  refine at_seq <| at_region <| s1 (y_p rfl) rfl ?_
  refine at_op rfl (n_callGd ⟨[(400, some [.fz b.length (b.map u8), nJ (a + 1), .b false])]⟩ [(400, [.fz b.length (b.map u8), nJ (a + 1 + k2), .b bd])] false rfl ⟨⟨rfl, VwL.pure pul⟩, trivial⟩ (.cons (.kp rfl) .nil) (hN) pu (.inl rfl) (fun p hp => by rw [List.mem_singleton.1 hp]; exact ⟨⟨_, rfl⟩, pul, .inl rfl⟩) rfl ?_)
  refine s1 (y_p rfl) rfl ?_
  refine at_nil <| x_tn <| at_seq <| at_seq ?_
  rcases lev_ways bd u ((b.drop (a + 1)).drop k2).length d with hcs | hcs | hcs | hcs
  ·subst hcs
   refine at_draw_tail 22 hmix (by kernel_rfl) ?_
   refine t1 (y_p rfl) rfl <| t1 (y_nilc rfl rfl) rfl <| t1 (y_fld Tryd.underlying103 rfl ti4 (by decide) rfl rfl) rfl <| t1 (y_load ti4 rfl rfl rfl) rfl <| t1 (y_p rfl) rfl <| t0g rfl rfl rfl rfl <| t0g rfl rfl rfl rfl <| t0g rfl rfl rfl rfl <| t0g rfl rfl rfl rfl <| t0g rfl rfl rfl rfl ?_
   refine t0g rfl rfl rfl rfl <| t0g rfl rfl rfl rfl <| t0g rfl rfl rfl rfl <| t0g rfl rfl rfl rfl <| t0g rfl rfl rfl rfl <| t0g rfl rfl rfl rfl <| t0g rfl rfl rfl rfl <| t0g rfl rfl rfl rfl <| t1 (y_p rfl) rfl <| t1 (y_p rfl) rfl ?_
   refine t0g rfl rfl rfl rfl <| t0g rfl rfl rfl rfl ?_
   refine at_snil ?_
   refine s1 (y_p rfl) rfl ?_
   refine at_nil <| x_tn ?_
   refine at_then rfl ?_
   refine at_seq <| at_region <| s1 (y_p rfl) rfl <| s1 (y_nilc rfl rfl) rfl <| s1 (y_fld Tryd.underlying103 rfl ti4 (by decide) rfl rfl) rfl ?_
   refine at_op rfl (n_store1 ti4 rfl rfl rfl rfl (by first | rfl | omega | (simp <;> omega) | (simp [*] <;> omega)) rfl ?_)
   refine at_nil <| x_tn <| at_seq <| at_region <| s1 (y_bld (out := [_, _, _, _]) [[evC (.int .i64 0)], [evC (.int .i64 0)], [evC (.string ByteArray.empty)], [evC (.slice none 0 0)]] ti71 rfl Tryd.underlying71 (by kernel_rfl) rfl rfl trivial rfl) rfl ?_
   refine at_op rfl (n_storeA ti71 rfl rfl rfl (by first | rfl | omega | (simp <;> omega) | (simp [*] <;> omega)) (by first | rfl | omega | (simp <;> omega) | (simp [*] <;> omega)) ?_)
   refine at_nil <| x_tn <| at_ret <| x_tr <| x_br <| x_tr ?_
   refine at_wkO 4 rfl wk_cv ?_
   refine at_result (rs := [.cell 4 71]) rfl (r_cellA ti71 rfl rfl rfl rfl r_nil) ?_
   rw [show rvV _ (b.drop a) = (zV, k2 + 1, true) from by rw [hd]; exact rvV_3n hp (.inl rfl)]
   dsimp only
   rw [show a + (k2 + 1) = a + 1 + k2 by omega]
   exact retS_1 rfl
  ·obtain ⟨rfl, hn⟩ := hcs
   rw [hld] at hn
   refine at_draw_tail 22 hmix (by kernel_rfl) ?_
   refine t1 (y_p rfl) rfl <| t1 (y_nilc rfl rfl) rfl <| t1 (y_fld Tryd.underlying103 rfl ti4 (by decide) rfl rfl) rfl <| t1 (y_load ti4 rfl rfl rfl) rfl <| t1 (y_p rfl) rfl <| t1g rfl rfl (y_p rfl) rfl <| t1g rfl rfl (y_p rfl) rfl <| t1g rfl rfl (y_nilc rfl rfl) rfl <| t1g rfl rfl (y_fld Tryd.underlying103 rfl ti40 (by decide) rfl rfl) rfl <| t1g rfl rfl (y_load ti40 rfl rfl rfl) rfl ?_
   refine t1g rfl rfl (y_len Tryd.underlying40 rfl rfl rfl) rfl <| t1g rfl rfl (y_p rfl) rfl <| t1g rfl rfl (y_nilc rfl rfl) rfl <| t1g rfl rfl (y_fld Tryd.underlying103 rfl ti3 (by decide) rfl rfl) rfl <| t1g rfl rfl (y_load ti3 rfl rfl rfl) rfl <| t1g rfl rfl (subN b.length (a + 1 + k2) rfl rfl rfl rfl (by omega) (by omega)) rfl <| t1g rfl rfl (ofN_64 _ Tryd.underlying3 Tryd.underlying117 rfl rfl) rfl <| t1g rfl rfl ((y_p rfl).v (v' := .b true) (gt_yes hu (by omega) (by omega))) rfl <| t1 (y_p rfl) rfl <| t1 (y_p rfl) rfl ?_
   refine t0g rfl rfl rfl rfl <| t0g rfl rfl rfl rfl ?_
   refine at_snil ?_
   refine s1 (y_p rfl) rfl ?_
   refine at_nil <| x_tn ?_
   refine at_then rfl ?_
   refine at_seq <| at_region <| s1 (y_p rfl) rfl <| s1 (y_nilc rfl rfl) rfl <| s1 (y_fld Tryd.underlying103 rfl ti4 (by decide) rfl rfl) rfl ?_
   refine at_op rfl (n_store1 ti4 rfl rfl rfl rfl (by first | rfl | omega | (simp <;> omega) | (simp [*] <;> omega)) rfl ?_)
   refine at_nil <| x_tn <| at_seq <| at_region <| s1 (y_bld (out := [_, _, _, _]) [[evC (.int .i64 0)], [evC (.int .i64 0)], [evC (.string ByteArray.empty)], [evC (.slice none 0 0)]] ti71 rfl Tryd.underlying71 (by kernel_rfl) rfl rfl trivial rfl) rfl ?_
   refine at_op rfl (n_storeA ti71 rfl rfl rfl (by first | rfl | omega | (simp <;> omega) | (simp [*] <;> omega)) (by first | rfl | omega | (simp <;> omega) | (simp [*] <;> omega)) ?_)
   refine at_nil <| x_tn <| at_ret <| x_tr <| x_br <| x_tr ?_
   refine at_wkO 4 rfl wk_cv ?_
   refine at_result (rs := [.cell 4 71]) rfl (r_cellA ti71 rfl rfl rfl rfl r_nil) ?_
   rw [show rvV _ (b.drop a) = (zV, k2 + 1, true) from by rw [hd]; exact rvV_3n hp (.inr (by omega))]
   dsimp only
   rw [show a + (k2 + 1) = a + 1 + k2 by omega]
   exact retS_1 rfl
  ·obtain ⟨rfl, hn, rfl⟩ := hcs
   rw [hld] at hn
   refine at_draw_tail 22 hmix (by kernel_rfl) ?_
   refine t1 (y_p rfl) rfl <| t1 (y_nilc rfl rfl) rfl <| t1 (y_fld Tryd.underlying103 rfl ti4 (by decide) rfl rfl) rfl <| t1 (y_load ti4 rfl rfl rfl) rfl <| t1 (y_p rfl) rfl <| t1g rfl rfl (y_p rfl) rfl <| t1g rfl rfl (y_p rfl) rfl <| t1g rfl rfl (y_nilc rfl rfl) rfl <| t1g rfl rfl (y_fld Tryd.underlying103 rfl ti40 (by decide) rfl rfl) rfl <| t1g rfl rfl (y_load ti40 rfl rfl rfl) rfl ?_
   refine t1g rfl rfl (y_len Tryd.underlying40 rfl rfl rfl) rfl <| t1g rfl rfl (y_p rfl) rfl <| t1g rfl rfl (y_nilc rfl rfl) rfl <| t1g rfl rfl (y_fld Tryd.underlying103 rfl ti3 (by decide) rfl rfl) rfl <| t1g rfl rfl (y_load ti3 rfl rfl rfl) rfl <| t1g rfl rfl (subN b.length (a + 1 + k2) rfl rfl rfl rfl (by omega) (by omega)) rfl <| t1g rfl rfl (ofN_64 _ Tryd.underlying3 Tryd.underlying117 rfl rfl) rfl <| t1g rfl rfl ((y_p rfl).v (v' := .b false) (gt_no hu (by omega) (by omega))) rfl <| t1 (y_p rfl) rfl <| t1 (y_p rfl) rfl ?_
   refine t1g rfl rfl (y_p rfl) rfl <| t1g rfl rfl ((y_p rfl).v (v' := .b true) (congrArg A.b (beq_iff_eq.2 (by omega)))) rfl ?_
   refine at_snil ?_
   refine s1 (y_p rfl) rfl ?_
   refine at_nil <| x_tn ?_
   refine at_then rfl ?_
   refine at_seq <| at_region <| s1 (y_p rfl) rfl <| s1 (y_nilc rfl rfl) rfl <| s1 (y_fld Tryd.underlying103 rfl ti4 (by decide) rfl rfl) rfl ?_
   refine at_op rfl (n_store1 ti4 rfl rfl rfl rfl (by first | rfl | omega | (simp <;> omega) | (simp [*] <;> omega)) rfl ?_)
   refine at_nil <| x_tn <| at_seq <| at_region <| s1 (y_bld (out := [_, _, _, _]) [[evC (.int .i64 0)], [evC (.int .i64 0)], [evC (.string ByteArray.empty)], [evC (.slice none 0 0)]] ti71 rfl Tryd.underlying71 (by kernel_rfl) rfl rfl trivial rfl) rfl ?_
   refine at_op rfl (n_storeA ti71 rfl rfl rfl (by first | rfl | omega | (simp <;> omega) | (simp [*] <;> omega)) (by first | rfl | omega | (simp <;> omega) | (simp [*] <;> omega)) ?_)
   refine at_nil <| x_tn <| at_ret <| x_tr <| x_br <| x_tr ?_
   refine at_wkO 4 rfl wk_cv ?_
   refine at_result (rs := [.cell 4 71]) rfl (r_cellA ti71 rfl rfl rfl rfl r_nil) ?_
   rw [show rvV _ (b.drop a) = (zV, k2 + 1, true) from by rw [hd]; exact rvV_30 hp]
   dsimp only
   rw [show a + (k2 + 1) = a + 1 + k2 by omega]
   exact retS_1 rfl
  ·obtain ⟨d', rfl, hn, rfl⟩ := hcs
   rw [hld] at hn
   refine at_draw_tail 22 hmix (by kernel_rfl) ?_
   refine t1 (y_p rfl) rfl <| t1 (y_nilc rfl rfl) rfl <| t1 (y_fld Tryd.underlying103 rfl ti4 (by decide) rfl rfl) rfl <| t1 (y_load ti4 rfl rfl rfl) rfl <| t1 (y_p rfl) rfl <| t1g rfl rfl (y_p rfl) rfl <| t1g rfl rfl (y_p rfl) rfl <| t1g rfl rfl (y_nilc rfl rfl) rfl <| t1g rfl rfl (y_fld Tryd.underlying103 rfl ti40 (by decide) rfl rfl) rfl <| t1g rfl rfl (y_load ti40 rfl rfl rfl) rfl ?_
   refine t1g rfl rfl (y_len Tryd.underlying40 rfl rfl rfl) rfl <| t1g rfl rfl (y_p rfl) rfl <| t1g rfl rfl (y_nilc rfl rfl) rfl <| t1g rfl rfl (y_fld Tryd.underlying103 rfl ti3 (by decide) rfl rfl) rfl <| t1g rfl rfl (y_load ti3 rfl rfl rfl) rfl <| t1g rfl rfl (subN b.length (a + 1 + k2) rfl rfl rfl rfl (by omega) (by omega)) rfl <| t1g rfl rfl (ofN_64 _ Tryd.underlying3 Tryd.underlying117 rfl rfl) rfl <| t1g rfl rfl ((y_p rfl).v (v' := .b false) (gt_no hu (by omega) (by omega))) rfl <| t1 (y_p rfl) rfl <| t1 (y_p rfl) rfl ?_
   refine t1g rfl rfl (y_p rfl) rfl <| t1g rfl rfl ((y_p rfl).v (v' := .b false) (congrArg A.b (beq_eq_false_iff_ne.2 (by omega)))) rfl ?_
   refine at_snil ?_
   refine s1 (y_p rfl) rfl ?_
   refine at_nil <| x_tn ?_
   refine at_else rfl ?_
   refine at_skip <| x_tn <| at_seq <| at_region <| s1 (y_bld (out := [_, _, _, _]) [[evC (.int .i64 0)], [evC (.int .i64 0)], [evC (.string ByteArray.empty)], [evC (.slice none 0 0)]] ti71 rfl Tryd.underlying71 (by kernel_rfl) rfl rfl ⟨⟨by (first | rfl | omega | (simp; done) | (simp [*]; done) | (simp [cellsA, *]; done)), rfl⟩, trivial⟩ rfl) rfl ?_
   refine at_op rfl (n_alloc 8 rfl ti71 rfl rfl ?_)
   refine at_op rfl (n_storeA ti71 rfl rfl rfl (by first | rfl | omega | (simp <;> omega) | (simp [*] <;> omega)) (by first | rfl | omega | (simp <;> omega) | (simp [*] <;> omega)) ?_)
   refine at_nil <| x_tn <| at_seq <| at_seq <| at_region <| s1 ((y_p rfl).v (v' := .i .u64 0) rfl) rfl ?_
   refine at_nil <| x_tn <| at_block ?_
   refine at_loop (ι := List CV × Nat × Bool) (fun ⟨vs, off, bd2⟩ => [(0, .p 400 0), (1, nJ k), (4, .p 4 0), (7, w64 (c64 u)), (8, .p 8 0), (9, w64 (c64 vs.length))]) (fun ⟨vs, off, bd2⟩ => ⟨[(4, some ([.i .i64 0, .i .i64 0, .s [], .nl])), (8, some ([.i .i64 3, .i .i64 0, .s [], .sl 158 4 0 vs.length])), (158, some (CV.cellsL vs)), (400, some ([.fz b.length (b.map u8), nJ (a + 1 + k2 + off), .b bd2]))]⟩) (fun ⟨vs, off, bd2⟩ => vs.length ≤ u ∧ a + 1 + k2 + off ≤ b.length ∧ manyF (rvV d') u ((b.drop (a + 1)).drop k2) = mfin vs off (mgo (rvV d') (u - vs.length) (((b.drop (a + 1)).drop k2).drop off) bd2)) (fun ⟨vs, off, bd2⟩ => u - vs.length) ?_ ?_
   ·exact at_ex (([], 0, false)) (⟨Nat.zero_le _, by omega, mgo_start _ _ _⟩) [(4, some 4), (8, some 8), (158, none), (400, some 400)] hI rfl rfl ⟨⟨_, rfl, .p rfl⟩, ⟨_, rfl, .pure pu⟩, ⟨_, rfl, .p rfl⟩, ⟨_, rfl, .pure pu⟩, ⟨_, rfl, .p rfl⟩, ⟨_, rfl, .pure pu⟩, trivial⟩ ⟨.inr ⟨_, _, rfl, rfl, .pure pul⟩, .inr ⟨_, _, rfl, rfl, .cons (.pure pu) (.cons (.pure pu) (.cons (.pure pu) (.cons (.nl rfl) .nil)))⟩, .inl ⟨rfl, rfl⟩, .inr ⟨_, _, rfl, rfl, .pure pul⟩, trivial⟩
   rintro ⟨vs, off, bd2⟩ ⟨hvs, hof, hm⟩
   dsimp only
   have hpos : b.drop (a + 1 + k2 + off) = ((b.drop (a + 1)).drop k2).drop off := by rw [List.drop_drop, List.drop_drop]; congr 1; omega
   refine at_seq <| at_seq ?_
   rcases loop_ways vs.length u bd2 hvs with hcs | hcs | hcs
   ·obtain ⟨h50, rfl⟩ := hcs
    refine at_region <| s1 (y_p rfl) rfl <| s1 (y_p rfl) rfl <| s1 ((y_p rfl).v (v' := .b true) (congrArg A.b ((cnt_lt (by omega) hu).trans (decide_eq_true h50)))) rfl <| s1 (y_p rfl) rfl <| g1 rfl rfl (y_p rfl) rfl <| g1 rfl rfl (y_nilc rfl rfl) rfl <| g1 rfl rfl (y_fld Tryd.underlying103 rfl ti4 (by decide) rfl rfl) rfl <| g1 rfl rfl (y_load ti4 rfl rfl rfl) rfl <| g1 rfl rfl ((y_p rfl).v (v' := .b true) (rfl)) rfl <| s1 (y_p rfl) rfl ?_
    refine at_nil <| x_tn ?_
    refine at_then rfl ?_
    refine at_skip <| x_tn <| at_seq <| at_block ?_
    obtain ⟨v, k3, bd3, hv, hk3⟩ := val_parts d' (b.drop (a + 1 + k2 + off))
    rw [List.length_drop] at hk3
    have hV := ih d' rfl (a + 1 + k2 + off) hof
    rw [hv] at hV
    dsimp only at hV
    refine at_fs ⟨_, [], []⟩ 9 4 hmix (le_refl rfl) ?_
    refine fs_q 0 [] [(8, none)] (y_fld Tryd.underlying71 rfl ti69 (by decide) rfl rfl) rfl rfl ?_
    refine fs_q 1 [0] [(8, none)] (y_load ti69 rfl rfl rfl) rfl rfl ?_
    refine fs_q 2 [] [(400, none)] (y_p rfl) rfl rfl ?_
    refine fs_q 3 [] [] (y_p rfl) rfl rfl ?_
    refine fs_q 4 [3] [] (addN _ 1 rfl rfl rfl rfl (by omega)) rfl rfl ?_
    refine fs_callGd ⟨[(400, some [.fz b.length (b.map u8), nJ (a + 1 + k2 + off), .b false])]⟩ [(400, [.fz b.length (b.map u8), nJ (a + 1 + k2 + off + k3), .b bd3])] false 5 [2, 4] [(400, none)] gy0 rfl ⟨⟨rfl, VwL.pure pul⟩, trivial⟩ (.cons (.kp rfl) (.cons (.pure pu) .nil)) (hV) pu (.inl rfl) (fun p hp => by rw [List.mem_singleton.1 hp]; exact ⟨⟨_, rfl⟩, pul, .inl rfl⟩) rfl rfl ?_
    refine fs_bs 134 6 [5] gy0 Tryd.underlying69 ti71 rfl rfl rfl (by simp [cellsA]) (show cellsA (A.ag (CV.cells v)) ++ [] = CV.cells v from List.append_nil _) rfl rfl rfl rfl ?_
    refine fs_app 135 7 [1, 6] [(134, some 6), (158, none)] gy0 Tryd.underlying69 ti71 rfl (.sl rfl (by simp)) rfl (SM_full rfl (by first | rfl | omega | (simp <;> omega) | (simp [*] <;> omega))) (by simp) (by simp only [maxLen]; omega) (by omega) rfl rfl rfl rfl ?_
    refine fs_q 8 [] [(8, none)] (y_fld Tryd.underlying71 rfl ti69 (by decide) rfl rfl) rfl rfl ?_
    refine fs_end (by kernel_rfl) ?_
    refine at_op rfl (n_store1 ti69 rfl rfl rfl rfl (by first | rfl | omega | (simp <;> omega) | (simp [*] <;> omega)) rfl ?_)
    refine at_nil <| x_bn <| x_tn <| at_region <| s1 (y_p rfl) rfl <| s1 ((add64 _ (c64 1) rfl rfl).v (v' := w64 (c64 (vs ++ [v]).length)) ((cnt_next vs.length).trans (by rw [List.length_append]; rfl))) rfl <| s1 (y_p rfl) rfl ?_
    refine at_nil ?_
    exact at_end (x := (vs, off, false)) ((vs ++ [v], off + k3, bd3)) (⟨show (vs ++ [v]).length ≤ u by simp; omega, show a + 1 + k2 + (off + k3) ≤ b.length by omega, mgo_next hm h50 (hpos ▸ hv)⟩) (show u - (vs ++ [v]).length < u - vs.length by simp; omega) [(4, some 4), (8, some 8), (158, some 135), (400, some 400)] hI rfl rfl ⟨⟨_, rfl, .p rfl⟩, ⟨_, rfl, .pure pu⟩, ⟨_, rfl, .p rfl⟩, ⟨_, rfl, .pure pu⟩, ⟨_, rfl, .p rfl⟩, ⟨_, rfl, .pure pu⟩, trivial⟩ ⟨.inr ⟨_, _, rfl, rfl, .pure pul⟩, .inr ⟨_, _, rfl, rfl, .cons (.pure pu) (.cons (.pure pu) (.cons (.pure pu) (.cons (.sl rfl (by simp)) .nil)))⟩, .inr ⟨_, _, rfl, rfl, .of (CV.cellsL_snoc vs v) (.pure pul)⟩, .inr ⟨_, _, rfl, rfl, .of (congrArg (fun n : Nat => [A.fz b.length (b.map u8), nJ n, .b bd3]) (Nat.add_assoc (a + 1 + k2) off k3)) (.pure pul)⟩, trivial⟩
   ·obtain ⟨h50, rfl⟩ := hcs
    refine at_region <| s1 (y_p rfl) rfl <| s1 (y_p rfl) rfl <| s1 ((y_p rfl).v (v' := .b true) (congrArg A.b ((cnt_lt (by omega) hu).trans (decide_eq_true h50)))) rfl <| s1 (y_p rfl) rfl <| g1 rfl rfl (y_p rfl) rfl <| g1 rfl rfl (y_nilc rfl rfl) rfl <| g1 rfl rfl (y_fld Tryd.underlying103 rfl ti4 (by decide) rfl rfl) rfl <| g1 rfl rfl (y_load ti4 rfl rfl rfl) rfl <| g1 rfl rfl ((y_p rfl).v (v' := .b false) (rfl)) rfl <| s1 (y_p rfl) rfl ?_
    refine at_nil <| x_tn ?_
    refine at_else rfl ?_
    refine at_exit <| x_te <| x_te <| x_be <| x_tn <| at_seq ?_
    refine at_frzO 8 3 rfl rfl rfl rfl pul (CV.cellsL_all vs) rfl ?_
    refine at_region <| s1 (y_loadA0 ti71 rfl rfl rfl) rfl ?_
    refine at_op rfl (n_storeA ti71 rfl rfl rfl (by first | rfl | omega | (simp <;> omega) | (simp [*] <;> omega)) (by first | rfl | omega | (simp <;> omega) | (simp [*] <;> omega)) ?_)
    refine at_nil <| x_tn <| at_ret <| x_br <| x_tr ?_
    refine at_result (rs := [.cell 4 71]) rfl (r_cellA ti71 rfl rfl rfl rfl r_nil) ?_
    rw [show rvV _ (b.drop a) = (.mk 3 0 [] vs, k2 + 1 + off, true) from by rw [hd]; exact rvV_3 hp (by omega) (mgo_end hm (.inl rfl))]
    dsimp only
    rw [show a + (k2 + 1 + off) = a + 1 + k2 + off by omega]
    exact retS_1 rfl
   ·have h50 := hcs
    refine at_region <| s1 (y_p rfl) rfl <| s1 (y_p rfl) rfl <| s1 ((y_p rfl).v (v' := .b false) (congrArg A.b ((cnt_lt (by omega) hu).trans (decide_eq_false (by omega))))) rfl <| s1 (y_p rfl) rfl <| g0 rfl rfl rfl rfl <| g0 rfl rfl rfl rfl <| g0 rfl rfl rfl rfl <| g0 rfl rfl rfl rfl <| g0 rfl rfl rfl rfl <| s1 (y_p rfl) rfl ?_
    refine at_nil <| x_tn ?_
    refine at_else rfl ?_
    refine at_exit <| x_te <| x_te <| x_be <| x_tn <| at_seq ?_
    refine at_frzO 8 3 rfl rfl rfl rfl pul (CV.cellsL_all vs) rfl ?_
    refine at_region <| s1 (y_loadA0 ti71 rfl rfl rfl) rfl ?_
    refine at_op rfl (n_storeA ti71 rfl rfl rfl (by first | rfl | omega | (simp <;> omega) | (simp [*] <;> omega)) (by first | rfl | omega | (simp <;> omega) | (simp [*] <;> omega)) ?_)
    refine at_nil <| x_tn <| at_ret <| x_br <| x_tr ?_
    refine at_result (rs := [.cell 4 71]) rfl (r_cellA ti71 rfl rfl rfl rfl r_nil) ?_
    rw [show rvV _ (b.drop a) = (.mk 3 0 [] vs, k2 + 1 + off, bd2) from by rw [hd]; exact rvV_3 hp (by omega) (mgo_end hm (.inr h50))]
    dsimp only
    rw [show a + (k2 + 1 + off) = a + 1 + k2 + off by omega]
    exact retS_1 rfl
 ·obtain ⟨c, r, hd, h1, h2, h3⟩ := hcs
  obtain rfl : b.drop (a + 1) = r := drop_nx hd
  have hlt := drop_lt hd
  refine at_region <| s1 (y_p rfl) rfl ?_
  refine at_op rfl (n_callGd ⟨[(400, some [.fz b.length (b.map u8), nJ (a), .b false])]⟩ [(400, [.fz b.length (b.map u8), nJ (a + 1), .b false])] false rfl ⟨⟨rfl, VwL.pure pul⟩, trivial⟩ (.cons (.kp rfl) .nil) (rnext_c b a c (b.drop (a + 1)) hb hd) pu (.inl rfl) (fun p hp => by rw [List.mem_singleton.1 hp]; exact ⟨⟨_, rfl⟩, pul, .inl rfl⟩) rfl ?_)
  refine at_nil <| x_tn <| at_block <| at_seq <| at_region <| s1 ((y_p rfl).v (v' := .b false) (congrArg A.b (beq_eq_false_iff_ne.2 fun h => h1 (by rw [← UInt8.toNat_inj]; show c.toNat = 1; omega)))) rfl <| s1 (y_p rfl) rfl ?_
  refine at_nil <| x_tn ?_
  refine at_else rfl ?_
  refine at_seq <| at_region <| s1 ((y_p rfl).v (v' := .b false) (congrArg A.b (beq_eq_false_iff_ne.2 fun h => h2 (by rw [← UInt8.toNat_inj]; show c.toNat = 2; omega)))) rfl <| s1 (y_p rfl) rfl ?_
  refine at_nil <| x_tn ?_
  refine at_else rfl ?_
  refine at_seq <| at_region <| s1 ((y_p rfl).v (v' := .b false) (congrArg A.b (beq_eq_false_iff_ne.2 fun h => h3 (by rw [← UInt8.toNat_inj]; show c.toNat = 3; omega)))) rfl <| s1 (y_p rfl) rfl ?_
  refine at_nil <| x_tn ?_
  refine at_else rfl ?_
  refine at_skip <| x_bn <| x_tn <| at_seq <| at_region <| s1 (y_p rfl) rfl <| s1 (y_nilc rfl rfl) rfl <| s1 (y_fld Tryd.underlying103 rfl ti4 (by decide) rfl rfl) rfl ?_
  refine at_op rfl (n_store1 ti4 rfl rfl rfl rfl (by first | rfl | omega | (simp <;> omega) | (simp [*] <;> omega)) rfl ?_)
  refine at_nil <| x_tn <| at_seq <| at_region <| s1 (y_bld (out := [_, _, _, _]) [[evC (.int .i64 0)], [evC (.int .i64 0)], [evC (.string ByteArray.empty)], [evC (.slice none 0 0)]] ti71 rfl Tryd.underlying71 (by kernel_rfl) rfl rfl trivial rfl) rfl ?_
  refine at_op rfl (n_storeA ti71 rfl rfl rfl (by first | rfl | omega | (simp <;> omega) | (simp [*] <;> omega)) (by first | rfl | omega | (simp <;> omega) | (simp [*] <;> omega)) ?_)
  refine at_nil <| x_tn <| at_ret ?_
  refine at_wkO 4 rfl wk_cv ?_
  refine at_result (rs := [.cell 4 71]) rfl (r_cellA ti71 rfl rfl rfl rfl r_nil) ?_
  rw [show rvV _ (b.drop a) = (zV, 1, true) from by rw [hd]; exact rvV_o h1 h2 h3]
  dsimp only
  skip
  exact retS_1 rfl
theorem rvalue_ok (b : List UInt8) (hb : b.length ≤ 1000000) : ∀ (d k : Nat), k + d = 16 → ∀ a : Nat, a ≤ b.length → ConS Tryd.prog 75 [.p 400 0, nJ k] ⟨[(400, some [.fz b.length (b.map u8), nJ (a), .b false])]⟩ (RetS (.ag (CV.cells (rvV d (b.drop (a))).1)) [(400, [.fz b.length (b.map u8), nJ (a + (rvV d (b.drop (a))).2.1), .b (rvV d (b.drop (a))).2.2])]) := by
 intro d
 induction d with
 | zero => exact fun k hk a ha => rvalue_step b hb 0 k hk a ha fun d' h => by cases h
 | succ d ih => exact fun k hk a ha => rvalue_step b hb (d + 1) k hk a ha fun d' h => by cases h; exact ih (k + 1) (by omega)
end Go.Abs.D2
-- C1E
namespace Go.Abs.D2
open Go Go.Eng Go.Abs Go.Proofs 
theorem rformed_step (k n : Int) (s : List UInt8) (l : List CV) (hl : CV.sizeL l < 1000000) (ih : ∀ v ∈ l, Con Tryd.prog 89 [.ag v.cells] (Ret (.b v.okB))) : Con Tryd.prog 89 [.ag [.i .i64 k, .i .i64 n, .s s, .fz l.length (CV.cellsL l)]] (Ret (.b (CV.okB (.mk k n s l)))) := by
 refine enter Tryd.func89 rfl Tryd.ntmps89 (by kernel_rfl) (Nat.le_of_ble_eq_true rfl) fun w0 X0 hI => ?_
 refine at_seq <| at_region ?_
 refine at_op rfl (n_boxA 1 rfl rfl rfl ?_)
 refine s1 (y_p rfl) rfl ?_
 refine at_nil <| x_tn <| at_seq <| at_seq ?_
 have hll := CV.len_sizeL l
 refine at_region <| s1 (y_fld Tryd.underlying71 rfl ti3 (by decide) rfl rfl) rfl <| s1 (y_load ti3 rfl rfl rfl) rfl ?_
 refine at_nil <| x_tn <| at_block <| at_seq <| at_region <| s1 (y_p rfl) rfl <| s1 (y_p rfl) rfl ?_
 refine at_nil <| x_tn ?_
 refine at_cond rfl (fun hc6 => ?_) (fun hc6 => ?_)
 ·have hk1 : k = 1 := by simpa using hc6
  refine at_seq <| at_region <| s1 (y_fld Tryd.underlying71 rfl ti9 (by decide) rfl rfl) rfl <| s1 (y_load ti9 rfl rfl rfl) rfl <| s1 ((y_p rfl).v (v' := .b s.isEmpty) (congrArg A.b (by cases s <;> rfl))) rfl <| s1 (y_p rfl) rfl ?_
  refine g_and 4 rfl rfl rfl rfl (fun hb11 => .step (y_fld Tryd.underlying71 rfl ti69 (by decide) rfl rfl) rfl rfl <| .step (y_load ti69 rfl rfl rfl) rfl rfl <| .step (y_len Tryd.underlying69 rfl rfl rfl) rfl rfl <| .step (y_p rfl) rfl rfl <| .done) rfl rfl ?_
  refine s1 (y_p rfl) rfl ?_
  refine at_nil <| x_tn <| at_ret <| x_br <| x_tr ?_
  refine at_result (rs := [.tmp 2]) rfl (r_tmp rfl r_nil) ?_
  exact congrArg A.b (okV_1 hk1)
 ·have hk1 : ¬ k = 1 := by simpa using hc6
  refine at_seq <| at_region <| s1 (y_p rfl) rfl <| s1 (y_p rfl) rfl ?_
  refine at_nil <| x_tn ?_
  refine at_cond rfl (fun hc17 => ?_) (fun hc17 => ?_)
  ·have hk2 : k = 2 := by simpa using hc17
   refine at_seq <| at_region <| s1 (y_fld Tryd.underlying71 rfl ti3 (by decide) rfl rfl) rfl <| s1 (y_load ti3 rfl rfl rfl) rfl <| s1 (y_p rfl) rfl <| s1 (y_p rfl) rfl ?_
   refine g_and 4 rfl rfl rfl rfl (fun hb22 => .step (y_fld Tryd.underlying71 rfl ti69 (by decide) rfl rfl) rfl rfl <| .step (y_load ti69 rfl rfl rfl) rfl rfl <| .step (y_len Tryd.underlying69 rfl rfl rfl) rfl rfl <| .step (y_p rfl) rfl rfl <| .done) rfl rfl ?_
   refine s1 (y_p rfl) rfl ?_
   refine at_nil <| x_tn <| at_ret <| x_br <| x_tr ?_
   refine at_result (rs := [.tmp 2]) rfl (r_tmp rfl r_nil) ?_
   exact congrArg A.b (okV_2 hk2)
  ·have hk2 : ¬ k = 2 := by simpa using hc17
   refine at_seq <| at_region <| s1 (y_p rfl) rfl <| s1 (y_p rfl) rfl ?_
   refine at_nil <| x_tn ?_
   refine at_cond rfl (fun hc28 => ?_) (fun hc28 => ?_)
   ·have hk3 : k = 3 := by simpa using hc28
    refine at_seq <| at_seq <| at_region <| s1 ((y_p rfl).v (v' := .i .i64 0) rfl) rfl ?_
    refine at_nil <| x_tn <| at_block ?_
    refine at_loop (ι := Nat) (fun i => [(1, .p 1 0), (3, nJ i)]) (fun i => ⟨[(1, some ([.i .i64 k, .i .i64 n, .s s, .fz l.length (CV.cellsL l)]))]⟩) (fun i => i ≤ l.length ∧ (l.take i).all CV.okB = true) (fun i => l.length - i) ?_ ?_
    ·exact at_ex (0) (⟨Nat.zero_le _, rfl⟩) [(1, some 1)] hI rfl rfl ⟨⟨_, rfl, .p rfl⟩, ⟨_, rfl, .pure pu⟩, trivial⟩ ⟨.inr ⟨_, _, rfl, rfl, .pure pul⟩, trivial⟩
    rintro i ⟨hi, hi2⟩
    refine at_seq <| at_seq <| at_region <| s1 (y_p rfl) rfl <| s1 (y_fld Tryd.underlying71 rfl ti69 (by decide) rfl rfl) rfl <| s1 (y_load ti69 rfl rfl rfl) rfl <| s1 (y_len Tryd.underlying69 rfl rfl rfl) rfl <| s1 (y_p rfl) rfl ?_
    refine at_nil <| x_tn ?_
    refine at_cond rfl (fun hc34 => ?_) (fun hc34 => ?_)
    ·have h43 : i < l.length := by have := of_decide_eq_true hc34; omega
     obtain ⟨v, hv⟩ : ∃ v, l[i]? = some v := ⟨_, List.getElem?_eq_getElem h43⟩
     have hvm := List.mem_of_getElem? hv
     refine at_skip <| x_tn <| at_seq <| at_block <| at_seq <| at_region <| s1 (y_fld Tryd.underlying71 rfl ti69 (by decide) rfl rfl) rfl <| s1 (y_load ti69 rfl rfl rfl) rfl <| s1 (y_p rfl) rfl <| s1 (y_ixf i Tryd.underlying69 ti71 rfl rfl rfl (by omega) rfl) rfl <| s1 (y_loadA ti71 rfl rfl (CV.get hv) (CV.len_cells v)) rfl ?_
     refine at_op rfl (n_call false rfl (.cons (.pure pu) (.nil)) (ih v hvm) pu (.inl rfl) rfl ?_)
     refine s1 (y_p rfl) rfl ?_
     refine at_nil <| x_tn ?_
     refine at_cond rfl (fun hc43 => ?_) (fun hc43 => ?_)
     ·have h43 : v.okB = false := by simpa using hc43
      refine at_seq <| at_region <| s1 (y_p rfl) rfl ?_
      refine at_nil <| x_tn <| at_ret <| x_br <| x_tr <| x_tr <| x_br <| x_tr <| x_br <| x_tr ?_
      refine at_result (rs := [.tmp 2]) rfl (r_tmp rfl r_nil) ?_
      exact congrArg A.b (okV_3f hk3 hv h43)
     ·have h43 : v.okB = true := by simpa using hc43
      refine at_skip <| x_bn <| x_tn <| at_region <| s1 (y_p rfl) rfl <| s1 (addN _ 1 rfl rfl rfl rfl (by omega)) rfl <| s1 (y_p rfl) rfl ?_
      refine at_nil ?_
      exact at_end (i + 1) (⟨by omega, all_nextV hv hi2 h43⟩) (by omega) [(1, some 1)] hI rfl rfl ⟨⟨_, rfl, .p rfl⟩, ⟨_, rfl, .pure pu⟩, trivial⟩ ⟨.inr ⟨_, _, rfl, rfl, .pure pul⟩, trivial⟩
    ·obtain rfl : i = l.length := by have := of_decide_eq_false hc34; omega
     refine at_exit <| x_te <| x_te <| x_be <| x_tn <| at_seq <| at_region <| s1 (y_fld Tryd.underlying71 rfl ti3 (by decide) rfl rfl) rfl <| s1 (y_load ti3 rfl rfl rfl) rfl <| s1 (y_p rfl) rfl <| s1 (y_p rfl) rfl ?_
     refine g_and 3 rfl rfl rfl rfl (fun hb47 => .step (y_fld Tryd.underlying71 rfl ti9 (by decide) rfl rfl) rfl rfl <| .step (y_load ti9 rfl rfl rfl) rfl rfl <| .step ((y_p rfl).v (v' := .b s.isEmpty) (congrArg A.b (by cases s <;> rfl))) rfl rfl <| .done) rfl rfl ?_
     refine s1 (y_p rfl) rfl ?_
     refine at_nil <| x_tn <| at_ret <| x_br <| x_tr ?_
     refine at_result (rs := [.tmp 2]) rfl (r_tmp rfl r_nil) ?_
     exact congrArg A.b (okV_3r hk3 hi2)
   ·have hk3 : ¬ k = 3 := by simpa using hc28
    refine at_skip <| x_bn <| x_tn <| at_seq <| at_region <| s1 (y_p rfl) rfl ?_
    refine at_nil <| x_tn <| at_ret ?_
    refine at_result (rs := [.tmp 2]) rfl (r_tmp rfl r_nil) ?_
    exact congrArg A.b (okV_0 hk1 hk2 hk3)
theorem rformed_ok (v : CV) (h : v.size ≤ 1000000) : Con Tryd.prog 89 [.ag v.cells] (Ret (.b v.okB)) := CV.rec_size (p := fun v => Con Tryd.prog 89 [.ag v.cells] (Ret (.b v.okB))) 1000000 (fun k n s l hl ih => rformed_step k n s l hl ih) v h
theorem rdepth_step (k n : Int) (s : List UInt8) (l : List CV) (hl : CV.sizeL l < 1000000) (ih : ∀ v ∈ l, Con Tryd.prog 90 [.ag v.cells] (Ret (nJ v.depth))) : Con Tryd.prog 90 [.ag [.i .i64 k, .i .i64 n, .s s, .fz l.length (CV.cellsL l)]] (Ret (nJ (CV.depth (.mk k n s l)))) := by
 refine enter Tryd.func90 rfl Tryd.ntmps90 (by kernel_rfl) (Nat.le_of_ble_eq_true rfl) fun w0 X0 hI => ?_
 refine at_seq <| at_region ?_
 refine at_op rfl (n_boxA 1 rfl rfl rfl ?_)
 refine s1 ((y_p rfl).v (v' := .i .i64 0) rfl) rfl ?_
 refine at_nil <| x_tn <| at_seq <| at_seq ?_
 have hll := CV.len_sizeL l
 have hdl := CV.depthL_size l
 refine at_region <| s1 (y_fld Tryd.underlying71 rfl ti3 (by decide) rfl rfl) rfl <| s1 (y_load ti3 rfl rfl rfl) rfl <| s1 (y_p rfl) rfl ?_
 refine at_nil <| x_tn ?_
 refine at_cond rfl (fun hc7 => ?_) (fun hc7 => ?_)
 ·have hk3 : ¬ k = 3 := by simpa using hc7
  refine at_seq <| at_region <| s1 ((y_p rfl).v (v' := .i .i64 0) rfl) rfl ?_
  refine at_nil <| x_tn <| at_ret <| x_tr ?_
  refine at_result (rs := [.tmp 2]) rfl (r_tmp rfl r_nil) ?_
  exact congrArg nJ (show 0 = CV.depth (.mk k n s l) by rw [CV.depth, if_neg hk3])
 ·have hk3 : k = 3 := by simpa using hc7
  refine at_skip <| x_tn <| at_seq <| at_region <| s1 ((y_p rfl).v (v' := .i .i64 0) rfl) rfl ?_
  refine at_nil <| x_tn <| at_seq <| at_seq <| at_region <| s1 ((y_p rfl).v (v' := .i .i64 0) rfl) rfl ?_
  refine at_nil <| x_tn <| at_block ?_
  refine at_loop (ι := Nat) (fun i => [(1, .p 1 0), (3, nJ (CV.depthL (l.take i))), (4, nJ i)]) (fun i => ⟨[(1, some ([.i .i64 k, .i .i64 n, .s s, .fz l.length (CV.cellsL l)]))]⟩) (fun i => i ≤ l.length) (fun i => l.length - i) ?_ ?_
  ·exact at_ex (0) (Nat.zero_le _) [(1, some 1)] hI rfl rfl ⟨⟨_, rfl, .p rfl⟩, ⟨_, rfl, .pure pu⟩, ⟨_, rfl, .pure pu⟩, trivial⟩ ⟨.inr ⟨_, _, rfl, rfl, .pure pul⟩, trivial⟩
  rintro i hi
  refine at_seq <| at_seq <| at_region <| s1 (y_p rfl) rfl <| s1 (y_fld Tryd.underlying71 rfl ti69 (by decide) rfl rfl) rfl <| s1 (y_load ti69 rfl rfl rfl) rfl <| s1 (y_len Tryd.underlying69 rfl rfl rfl) rfl <| s1 (y_p rfl) rfl ?_
  refine at_nil <| x_tn ?_
  refine at_cond rfl (fun hc12 => ?_) (fun hc12 => ?_)
  ·have h43 : i < l.length := by have := of_decide_eq_true hc12; omega
   obtain ⟨v, hv⟩ : ∃ v, l[i]? = some v := ⟨_, List.getElem?_eq_getElem h43⟩
   have hvm := List.mem_of_getElem? hv
   refine at_skip <| x_tn <| at_seq <| at_block <| at_region <| s1 (y_p rfl) rfl <| s1 (y_fld Tryd.underlying71 rfl ti69 (by decide) rfl rfl) rfl <| s1 (y_load ti69 rfl rfl rfl) rfl <| s1 (y_p rfl) rfl <| s1 (y_ixf i Tryd.underlying69 ti71 rfl rfl rfl (by omega) rfl) rfl <| s1 (y_loadA ti71 rfl rfl (CV.get hv) (CV.len_cells v)) rfl ?_
   refine at_op rfl (n_call false rfl (.cons (.pure pu) (.nil)) (ih v hvm) pu (.inl rfl) rfl ?_)
   refine s1 ((y_maxN (a := CV.depthL (l.take i)) (b := v.depth) rfl rfl rfl).v (v' := nJ (CV.depthL (l.take (i + 1)))) (congrArg nJ (CV.depthL_next hv))) rfl <| s1 (y_p rfl) rfl ?_
   refine at_nil <| x_bn <| x_tn <| at_region <| s1 (y_p rfl) rfl <| s1 (addN _ 1 rfl rfl rfl rfl (by omega)) rfl <| s1 (y_p rfl) rfl ?_
   refine at_nil ?_
   exact at_end (i + 1) (by omega) (by omega) [(1, some 1)] hI rfl rfl ⟨⟨_, rfl, .p rfl⟩, ⟨_, rfl, .pure pu⟩, ⟨_, rfl, .pure pu⟩, trivial⟩ ⟨.inr ⟨_, _, rfl, rfl, .pure pul⟩, trivial⟩
  ·obtain rfl : i = l.length := by have := of_decide_eq_false hc12; omega
   refine at_exit <| x_te <| x_te <| x_be <| x_tn <| at_seq <| at_region <| s1 ((y_p rfl).v (v' := nJ (CV.depthL l)) (by rw [List.take_length])) rfl <| s1 (addN _ 1 rfl rfl rfl rfl (by omega)) rfl <| s1 (y_p rfl) rfl ?_
   refine at_nil <| x_tn <| at_ret ?_
   refine at_result (rs := [.tmp 2]) rfl (r_tmp rfl r_nil) ?_
   exact congrArg nJ (show CV.depthL l + 1 = CV.depth (.mk k n s l) by rw [CV.depth, if_pos hk3])
theorem rdepth_ok (v : CV) (h : v.size ≤ 1000000) : Con Tryd.prog 90 [.ag v.cells] (Ret (nJ v.depth)) := CV.rec_size (p := fun v => Con Tryd.prog 90 [.ag v.cells] (Ret (nJ v.depth))) 1000000 (fun k n s l hl ih => rdepth_step k n s l hl ih) v h
theorem rcheckV_ok (v : CV) (h : v.size ≤ 1000000) : Con Tryd.prog 67 [.ag v.cells] (Ret (.i .i64 (chkV v))) := by
 refine enter Tryd.func67 rfl Tryd.ntmps67 (by kernel_rfl) (Nat.le_of_ble_eq_true rfl) fun w0 X0 hI => ?_
 refine at_seq <| at_region ?_
 refine at_op rfl (n_boxA 1 rfl rfl rfl ?_)
 refine s1 ((y_p rfl).v (v' := .i .i64 0) rfl) rfl ?_
 refine at_nil <| x_tn <| at_seq <| at_seq <| at_region <| s1 (y_loadA0 ti71 rfl rfl (CV.len_cells v)) rfl ?_
 refine at_op rfl (n_call false rfl (.cons (.pure pu) (.nil)) (rformed_ok v h) pu (.inl rfl) rfl ?_)
 refine s1 (y_p rfl) rfl ?_
 refine at_nil <| x_tn ?_
 refine at_cond rfl (fun hc5 => ?_) (fun hc5 => ?_)
 ·have h5 : v.okB = false := by simpa using hc5
  refine at_seq <| at_region <| s1 ((y_p rfl).v (v' := .i .i64 1) rfl) rfl ?_
  refine at_nil <| x_tn <| at_ret <| x_tr ?_
  refine at_result (rs := [.tmp 2]) rfl (r_tmp rfl r_nil) ?_
  exact congrArg (A.i .i64) (chkV_1 h5).symm
 ·have h5 : v.okB = true := by simpa using hc5
  refine at_skip <| x_tn <| at_seq <| at_seq <| at_region <| s1 (y_loadA0 ti71 rfl rfl (CV.len_cells v)) rfl ?_
  refine at_op rfl (n_call false rfl (.cons (.pure pu) (.nil)) (rdepth_ok v h) pu (.inl rfl) rfl ?_)
  refine s1 (y_p rfl) rfl ?_
  refine at_nil <| x_tn ?_
  refine at_cond rfl (fun hc8 => ?_) (fun hc8 => ?_)
  ·have h8 : 16 < v.depth := by have := of_decide_eq_true hc8; omega
   refine at_seq <| at_region <| s1 ((y_p rfl).v (v' := .i .i64 2) rfl) rfl ?_
   refine at_nil <| x_tn <| at_ret <| x_tr ?_
   refine at_result (rs := [.tmp 2]) rfl (r_tmp rfl r_nil) ?_
   exact congrArg (A.i .i64) (chkV_2 h5 h8).symm
  ·have h8 : ¬ 16 < v.depth := by have := of_decide_eq_false hc8; omega
   refine at_skip <| x_tn <| at_seq <| at_region <| s1 ((y_p rfl).v (v' := .i .i64 0) rfl) rfl ?_
   refine at_nil <| x_tn <| at_ret ?_
   refine at_result (rs := [.tmp 2]) rfl (r_tmp rfl r_nil) ?_
   exact congrArg (A.i .i64) (chkV_0 h5 h8).symm
theorem runsigned_ok (n : Int) (h0 : -9223372036854775808 ≤ n) (h1 : n ≤ 9223372036854775807) : Con Tryd.prog 92 [.i .i64 n] (Ret (w64 (c64 (unsI n)))) := by
 refine enter Tryd.func92 rfl Tryd.ntmps92 (by kernel_rfl) (Nat.le_of_ble_eq_true rfl) fun w0 X0 hI => ?_
 refine at_seq <| at_region <| s1 ((y_p rfl).v (v' := .i .u64 0) rfl) rfl ?_
 refine at_nil <| x_tn <| at_seq <| at_seq <| at_region <| s1 (y_p rfl) rfl <| s1 (y_p rfl) rfl ?_
 refine at_nil <| x_tn ?_
 refine at_cond rfl (fun hc4 => ?_) (fun hc4 => ?_)
 ·have h4 : 0 ≤ n := by have := of_decide_eq_true hc4; omega
  refine at_seq <| at_region <| s1 (y_p rfl) rfl <| s1 ((y_conv Tryd.underlying3 Tryd.underlying117 rfl).v (v' := w64 (BitVec.ofInt 64 (n))) (congrArg (A.i .u64) (uns_conv _))) rfl <| s1 ((mul64 (c64 2) _ rfl rfl).v (v' := w64 (c64 (unsI n))) (congrArg w64 (uns_pos h4 h1))) rfl <| s1 (y_p rfl) rfl ?_
  refine at_nil <| x_tn <| at_ret <| x_tr ?_
  refine at_result (rs := [.tmp 2]) rfl (r_tmp rfl (r_nil)) rfl
 ·have h4 : ¬ 0 ≤ n := by have := of_decide_eq_false hc4; omega
  refine at_skip <| x_tn <| at_seq <| at_region <| s1 (y_p rfl) rfl <| s1 (addI rfl rfl (by omega) (by omega)) rfl <| s1 ((y_neg rfl).v (v' := .i .i64 (-(n + 1))) (congrArg (A.i .i64) (neg_val h0 h4))) rfl <| s1 ((y_conv Tryd.underlying3 Tryd.underlying117 rfl).v (v' := w64 (BitVec.ofInt 64 (-(n + 1)))) (congrArg (A.i .u64) (uns_conv _))) rfl <| s1 (mul64 (c64 2) _ rfl rfl) rfl <| s1 ((add64 _ (c64 1) rfl rfl).v (v' := w64 (c64 (unsI n))) (congrArg w64 (uns_neg h0 h4))) rfl <| s1 (y_p rfl) rfl ?_
  refine at_nil <| x_tn <| at_ret ?_
  refine at_result (rs := [.tmp 2]) rfl (r_tmp rfl (r_nil)) rfl
theorem rnumeral_step (u : BitVec 64) (ih : 128 ≤ u.toNat → Con Tryd.prog 91 [w64 (u / c64 128)] (RetO 1 (numL (u.toNat / 128)).length ((numL (u.toNat / 128)).map u8))) : Con Tryd.prog 91 [w64 u] (RetO 1 (numL u.toNat).length ((numL u.toNat).map u8)) := by
 refine enter Tryd.func91 rfl Tryd.ntmps91 (by kernel_rfl) (Nat.le_of_ble_eq_true rfl) fun w0 X0 hI => ?_
 refine at_seq <| at_region <| s1 (y_p rfl) rfl ?_
 refine at_nil <| x_tn <| at_seq <| at_seq <| at_region <| s1 (y_p rfl) rfl <| s1 ((y_p rfl).v (v' := .b (decide (u.toNat < 128))) (congrArg A.b (decide_eq_decide.2 (by omega)))) rfl ?_
 refine at_nil <| x_tn ?_
 refine at_cond rfl (fun hc4 => ?_) (fun hc4 => ?_)
 ·have h4 : u.toNat < 128 := of_decide_eq_true hc4
  refine at_seq <| at_region <| s1 (y_p rfl) rfl <| s1 (to8_64 _ Tryd.underlying117 Tryd.underlying5 rfl) rfl ?_
  refine at_op rfl (n_bs1 7 rfl Tryd.underlying40 ti5 rfl rfl rfl rfl rfl ?_)
  refine s1 (y_p rfl) rfl ?_
  refine at_nil <| x_tn <| at_ret <| x_tr ?_
  rw [numL_small h4]
  refine at_result (rs := [.tmp 2]) rfl (r_tmp rfl r_nil) ⟨7, rfl, rfl⟩
 ·have h4 : ¬ u.toNat < 128 := of_decide_eq_false hc4
  have hnl := len_numL (u := u.toNat / 128) (by omega)
  refine at_skip <| x_tn <| at_seq <| at_region <| s1 (y_p rfl) rfl <| s1 (rem64 _ (c64 128) rfl rfl (by decide)) rfl <| s1 (add64 _ (c64 128) rfl rfl) rfl <| s1 ((to8_64 _ Tryd.underlying117 Tryd.underlying5 rfl).v (v' := u8 (UInt8.ofNat (u.toNat % 128 + 128))) (congrArg u8 (num_rem u))) rfl ?_
  refine at_op rfl (n_bs1 12 rfl Tryd.underlying40 ti5 rfl rfl rfl rfl rfl ?_)
  refine s1 (y_p rfl) rfl <| s1 (quo64 _ (c64 128) rfl rfl (by decide)) rfl ?_
  refine at_op rfl (n_callO 15 rfl false rfl (.cons (.pure pu) (.nil)) (ih (by omega)) pul (.inl rfl) rfl ?_)
  refine at_op rfl (n_app 16 rfl Tryd.underlying40 ti5 rfl (.sl rfl rfl) rfl (SM_full rfl (by first | rfl | omega | (simp <;> omega) | (simp [*] <;> omega))) (by simp) (by simp only [maxLen]; omega) (by omega) rfl (show [u8 (UInt8.ofNat (u.toNat % 128 + 128))] ++ (numL (u.toNat / 128)).map u8 = (numL u.toNat).map u8 by rw [numL_big h4]; rfl) rfl ?_)
  refine s1 (y_p rfl) rfl ?_
  refine at_nil <| x_tn <| at_ret ?_
  have hlb : 1 + (numL (u.toNat / 128)).length = (numL u.toNat).length := by rw [numL_big h4, List.length_cons, Nat.add_comm]
  refine at_result (rs := [.tmp 2]) rfl (r_tmp rfl r_nil) ⟨16, ?_, rfl⟩
  rw [← hlb]; rfl
theorem rnumeral_ok (u : BitVec 64) : Con Tryd.prog 91 [w64 u] (RetO 1 (numL u.toNat).length ((numL u.toNat).map u8)) := by
  have key : ∀ (q : Nat) (u : BitVec 64), u.toNat ≤ q → Con Tryd.prog 91 [w64 u] (RetO 1 (numL u.toNat).length ((numL u.toNat).map u8)) := by
    intro q
    induction q with
    | zero => intro u hu; exact rnumeral_step u fun h => absurd h (by omega)
    | succ q ih => intro u hu; exact rnumeral_step u fun h => by have := ih (u / c64 128) (by rw [num_quo]; omega); rw [num_quo] at this; exact this
  exact key u.toNat u (Nat.le_refl _)
theorem rnumeral_at (R : List UInt8) (u : BitVec 64) (h : numL u.toNat = R) : Con Tryd.prog 91 [w64 u] (RetO 1 R.length (R.map u8)) := by subst h; exact rnumeral_ok u
end Go.Abs.D2
-- C1F
namespace Go.Abs.D2
open Go Go.Eng Go.Abs Go.Proofs 
theorem rencode_step (k n : Int) (s : List UInt8) (l : List CV) (hk : k = 1 ∨ k = 2 ∨ (k = 3 ∧ CV.okBL l = true)) (hrg : (CV.mk k n s l).rng = true) (R : List UInt8) (hR : (CV.mk k n s l).enc = R) (hl : R.length ≤ 100000000) (ih : ∀ v ∈ l, v.okB = true → v.rng = true → v.enc.length ≤ 100000000 → Con Tryd.prog 68 [.ag v.cells] (RetO 1 v.enc.length (v.enc.map u8))) : Con Tryd.prog 68 [.ag [.i .i64 k, .i .i64 n, .s s, .fz l.length (CV.cellsL l)]] (RetO 1 R.length (R.map u8)) := by
 refine enter Tryd.func68 rfl Tryd.ntmps68 (by kernel_rfl) (Nat.le_of_ble_eq_true rfl) fun w0 X0 hI => ?_
 refine at_seq <| at_region ?_
 refine at_op rfl (n_boxA 1 rfl rfl rfl ?_)
 refine s1 (y_p rfl) rfl ?_
 refine at_nil <| x_tn <| at_seq <| at_seq ?_
 rcases hk with hcs | hcs | hcs
 ·subst hcs
  simp only [CV.rng, Bool.and_eq_true, decide_eq_true_eq] at hrg
  have hR1 : 1 :: numL (unsI n) = R := by rw [← hR]; rfl
  have hR1l : R.length = (numL (unsI n)).length + 1 := by rw [← hR1]; rfl
  have hnl := len_numL (uns_nat hrg.1.1 hrg.1.2)
  refine at_region <| s1 (y_fld Tryd.underlying71 rfl ti3 (by decide) rfl rfl) rfl <| s1 (y_load ti3 rfl rfl rfl) rfl ?_
  refine at_nil <| x_tn <| at_block <| at_seq <| at_region <| s1 (y_p rfl) rfl <| s1 ((y_p rfl).v (v' := .b true) (rfl)) rfl ?_
  refine at_nil <| x_tn ?_
  refine at_then rfl ?_
  refine at_seq <| at_region ?_
  refine at_op rfl (n_bs1 9 rfl Tryd.underlying40 ti5 rfl rfl rfl rfl rfl ?_)
  refine s1 (y_fld Tryd.underlying71 rfl ti3 (by decide) rfl rfl) rfl <| s1 (y_load ti3 rfl rfl rfl) rfl ?_
  refine at_op rfl (n_call false rfl (.cons (.pure pu) (.nil)) (runsigned_ok n hrg.1.1 hrg.1.2) pu (.inl rfl) rfl ?_)
  refine at_op rfl (n_callO 13 rfl false rfl (.cons (.pure pu) (.nil)) (rnumeral_at (numL (unsI n)) _ (by rw [c64_nat (uns_nat hrg.1.1 hrg.1.2)])) pul (.inl rfl) rfl ?_)
  refine at_op rfl (n_app 14 rfl Tryd.underlying40 ti5 rfl (.sl rfl (by simp)) rfl (SM_full rfl (by first | rfl | omega | (simp <;> omega) | (simp [*] <;> omega))) (by simp) (by simp only [maxLen]; omega) (by omega) rfl (show [u8 1] ++ (numL (unsI n)).map u8 = R.map u8 by rw [← hR1]; rfl) rfl ?_)
  refine s1 (y_p rfl) rfl ?_
  refine at_nil <| x_tn <| at_ret <| x_br <| x_tr ?_
  refine at_result (rs := [.tmp 2]) rfl (r_tmp rfl r_nil) ⟨14, ?_, rfl⟩
  rw [hR1l, Nat.add_comm]; rfl
 ·subst hcs
  have hR2 : 2 :: (numL s.length ++ s) = R := by rw [← hR]; rfl
  have hR2l : R.length = 1 + (numL s.length).length + s.length := by rw [← hR2]; simp; omega
  refine at_region <| s1 (y_fld Tryd.underlying71 rfl ti3 (by decide) rfl rfl) rfl <| s1 (y_load ti3 rfl rfl rfl) rfl ?_
  refine at_nil <| x_tn <| at_block <| at_seq <| at_region <| s1 (y_p rfl) rfl <| s1 ((y_p rfl).v (v' := .b false) (rfl)) rfl ?_
  refine at_nil <| x_tn ?_
  refine at_else rfl ?_
  refine at_seq <| at_region <| s1 (y_p rfl) rfl <| s1 ((y_p rfl).v (v' := .b true) (rfl)) rfl ?_
  refine at_nil <| x_tn ?_
  refine at_then rfl ?_
  refine at_seq ?_
  refine at_fs ⟨_, [], []⟩ 10 4 hmix (le_refl rfl) ?_
  refine fs_bs1 17 0 [] gy0 Tryd.underlying40 ti5 rfl rfl rfl rfl rfl rfl ?_
  refine fs_q 1 [] [(1, none)] (y_fld Tryd.underlying71 rfl ti9 (by decide) rfl rfl) rfl rfl ?_
  refine fs_q 2 [1] [(1, none)] (y_load ti9 rfl rfl rfl) rfl rfl ?_
  refine fs_q 3 [2] [] (y_lens Tryd.underlying9 rfl rfl) rfl rfl ?_
  refine fs_q 4 [3] [] (ofN_64 _ Tryd.underlying3 Tryd.underlying117 rfl rfl) rfl rfl ?_
  refine fs_callO 22 false 5 [4] [] gy0 rfl (.cons (.pure pu) (.nil)) (rnumeral_at (numL s.length) _ (by rw [c64_nat (by omega)])) pul (.inl rfl) rfl rfl ?_
  refine fs_app 23 6 [0, 5] [(17, some 0), (22, some 5)] gy0 Tryd.underlying40 ti5 rfl (.sl rfl (by simp)) rfl (SM_full rfl (by first | rfl | omega | (simp <;> omega) | (simp [*] <;> omega))) (by simp) (by simp only [maxLen]; omega) (by omega) rfl (show [u8 2] ++ (numL s.length).map u8 = (2 :: numL s.length).map u8 from rfl) rfl rfl ?_
  refine fs_q 7 [] [(1, none)] (y_fld Tryd.underlying71 rfl ti9 (by decide) rfl rfl) rfl rfl ?_
  refine fs_q 8 [7] [(1, none)] (y_load ti9 rfl rfl rfl) rfl rfl ?_
  refine fs_apps 26 9 [6, 8] [(23, some 6)] gy0 Tryd.underlying40 Tryd.underlying9 ti5 rfl rfl (by simp; omega) (by omega) rfl (by simp only [maxLen]; omega) (by omega) (show (2 :: numL s.length).map u8 ++ s.map u8 = R.map u8 by rw [← hR2]; simp) rfl rfl ?_
  refine fs_end (by kernel_rfl) ?_
  refine s1 (y_p rfl) rfl ?_
  refine at_nil <| x_tn <| at_ret <| x_br <| x_tr ?_
  refine at_result (rs := [.tmp 2]) rfl (r_tmp rfl r_nil) ⟨26, ?_, rfl⟩
  rw [hR2l]; rfl
 ·obtain ⟨rfl, hok⟩ := hcs
  simp only [CV.rng, Bool.and_eq_true, decide_eq_true_eq] at hrg
  have hR3 : 3 :: (numL l.length ++ CV.encL l) = R := by rw [← hR]; rfl
  have hRl : R.length = 1 + (numL l.length).length + (CV.encL l).length := by rw [← hR3]; simp; omega
  have hnl := CV.len_encL l
  rw [CV.okBL_all] at hok
  have hrl := hrg.2
  rw [CV.rngL_all] at hrl
  refine at_region <| s1 (y_fld Tryd.underlying71 rfl ti3 (by decide) rfl rfl) rfl <| s1 (y_load ti3 rfl rfl rfl) rfl ?_
  refine at_nil <| x_tn <| at_block <| at_seq <| at_region <| s1 (y_p rfl) rfl <| s1 ((y_p rfl).v (v' := .b false) (rfl)) rfl ?_
  refine at_nil <| x_tn ?_
  refine at_else rfl ?_
  refine at_seq <| at_region <| s1 (y_p rfl) rfl <| s1 ((y_p rfl).v (v' := .b false) (rfl)) rfl ?_
  refine at_nil <| x_tn ?_
  refine at_else rfl ?_
  refine at_skip <| x_bn <| x_tn <| at_seq <| at_region ?_
  refine at_op rfl (n_bs1 27 rfl Tryd.underlying40 ti5 rfl rfl rfl rfl rfl ?_)
  refine s1 (y_fld Tryd.underlying71 rfl ti69 (by decide) rfl rfl) rfl <| s1 (y_load ti69 rfl rfl rfl) rfl <| s1 (y_len Tryd.underlying69 rfl rfl rfl) rfl <| s1 (ofN_64 _ Tryd.underlying3 Tryd.underlying117 rfl rfl) rfl ?_
  refine at_op rfl (n_callO 32 rfl false rfl (.cons (.pure pu) (.nil)) (rnumeral_at (numL l.length) _ (by rw [c64_nat (by omega)])) pul (.inl rfl) rfl ?_)
  refine at_op rfl (n_app 33 rfl Tryd.underlying40 ti5 rfl (.sl rfl (by simp)) rfl (SM_full rfl (by first | rfl | omega | (simp <;> omega) | (simp [*] <;> omega))) (by simp) (by simp only [maxLen]; omega) (by omega) rfl (show [u8 3] ++ (numL l.length).map u8 = (3 :: (numL l.length ++ CV.encL (l.take 0))).map u8 by simp [CV.encL]) rfl ?_)
  refine s1 (y_p rfl) rfl ?_
  refine at_nil <| x_tn <| at_seq <| at_seq <| at_region <| s1 ((y_p rfl).v (v' := .i .i64 0) rfl) rfl ?_
  refine at_nil <| x_tn <| at_block ?_
  refine at_loop (ι := Nat) (fun i => [(1, .p 1 0), (3, .sl 140 1 0 (1 + (numL l.length).length + (CV.encL (l.take i)).length)), (4, nJ i)]) (fun i => ⟨[(1, some ([.i .i64 3, .i .i64 n, .s s, .fz l.length (CV.cellsL l)])), (140, some ((3 :: (numL l.length ++ CV.encL (l.take i))).map u8))]⟩) (fun i => i ≤ l.length) (fun i => l.length - i) ?_ ?_
  ·exact at_ex (0) (Nat.zero_le _) [(1, some 1), (140, some 33)] hI rfl rfl ⟨⟨_, rfl, .p rfl⟩, ⟨_, rfl, .sl rfl (by first | rfl | omega | (simp <;> omega) | (simp [*] <;> omega))⟩, ⟨_, rfl, .pure pu⟩, trivial⟩ ⟨.inr ⟨_, _, rfl, rfl, .pure pul⟩, .inr ⟨_, _, rfl, rfl, .pure pul⟩, trivial⟩
  rintro i hi
  have hli := CV.encL_take l i
  have hli2 := CV.encL_take l (i + 1)
  have hCl : (3 :: (numL l.length ++ CV.encL (l.take i))).length = 1 + (numL l.length).length + (CV.encL (l.take i)).length := by simp; omega
  refine at_seq <| at_seq <| at_region <| s1 (y_p rfl) rfl <| s1 (y_fld Tryd.underlying71 rfl ti69 (by decide) rfl rfl) rfl <| s1 (y_load ti69 rfl rfl rfl) rfl <| s1 (y_len Tryd.underlying69 rfl rfl rfl) rfl <| s1 (y_p rfl) rfl ?_
  refine at_nil <| x_tn ?_
  refine at_cond rfl (fun hc38 => ?_) (fun hc38 => ?_)
  ·have h38 : i < l.length := by have := of_decide_eq_true hc38; omega
   obtain ⟨v, hv⟩ : ∃ v, l[i]? = some v := ⟨_, List.getElem?_eq_getElem h38⟩
   have hvm := List.mem_of_getElem? hv
   have hvo := List.all_eq_true.1 hok _ hvm
   have hvr := List.all_eq_true.1 hrl _ hvm
   have hvl : (CV.encL (l.take i)).length + v.enc.length = (CV.encL (l.take (i + 1))).length := by rw [← CV.encL_next hv, List.length_append]
   refine at_skip <| x_tn <| at_seq <| at_block <| at_region <| s1 (y_p rfl) rfl <| s1 (y_fld Tryd.underlying71 rfl ti69 (by decide) rfl rfl) rfl <| s1 (y_load ti69 rfl rfl rfl) rfl <| s1 (y_p rfl) rfl <| s1 (y_ixf i Tryd.underlying69 ti71 rfl rfl rfl (by omega) rfl) rfl <| s1 (y_loadA ti71 rfl rfl (CV.get hv) (CV.len_cells v)) rfl ?_
   refine at_op rfl (n_callO 47 rfl false rfl (.cons (.pure pu) (.nil)) (ih v hvm hvo hvr (by omega)) pul (.inl rfl) rfl ?_)
   refine at_op rfl (n_app 48 rfl Tryd.underlying40 ti5 rfl (.sl rfl (by rw [List.length_map, hCl]; omega)) rfl (SM_full rfl (by first | rfl | omega | (simp <;> omega) | (simp [*] <;> omega))) (by simp) (by simp only [maxLen]; omega) (by omega) rfl (show (3 :: (numL l.length ++ CV.encL (l.take i))).map u8 ++ v.enc.map u8 = (3 :: (numL l.length ++ CV.encL (l.take (i + 1)))).map u8 by rw [← CV.encL_next hv]; simp) rfl ?_)
   refine s1 (y_p rfl) rfl ?_
   refine at_nil <| x_bn <| x_tn <| at_region <| s1 (y_p rfl) rfl <| s1 (addN _ 1 rfl rfl rfl rfl (by omega)) rfl <| s1 (y_p rfl) rfl ?_
   refine at_nil ?_
   exact at_end (i + 1) (by omega) (by omega) [(1, some 1), (140, some 48)] hI rfl rfl ⟨⟨_, rfl, .p rfl⟩, ⟨_, rfl, .sl rfl (by first | rfl | omega | (simp <;> omega) | (simp [*] <;> omega))⟩, ⟨_, rfl, .pure pu⟩, trivial⟩ ⟨.inr ⟨_, _, rfl, rfl, .pure pul⟩, .inr ⟨_, _, rfl, rfl, .pure pul⟩, trivial⟩
  ·obtain rfl : i = l.length := by have := of_decide_eq_false hc38; omega
   refine at_exit <| x_te <| x_te <| x_be <| x_tn <| at_seq <| at_region <| s1 (y_p rfl) rfl <| s1 (y_p rfl) rfl ?_
   refine at_nil <| x_tn <| at_ret ?_
   refine at_sayO 140 (cs' := R.map u8) rfl (by rw [List.take_length, hR3]) ?_
   refine at_result (rs := [.tmp 2]) rfl (r_tmp rfl r_nil) ⟨140, ?_, rfl⟩
   rw [hRl, List.take_length]; rfl
theorem rencode_ok (v : CV) (ho : v.okB = true) (hr : v.rng = true) (hl : v.enc.length ≤ 100000000) : Con Tryd.prog 68 [.ag v.cells] (RetO 1 v.enc.length (v.enc.map u8)) := by
 have key : ∀ u : CV, u.size ≤ v.size → u.okB = true → u.rng = true → u.enc.length ≤ 100000000 → Con Tryd.prog 68 [.ag u.cells] (RetO 1 u.enc.length (u.enc.map u8)) := by
  refine CV.rec_size _ fun k n s l _ ih => ?_
  intro h1 h2 h3
  exact rencode_step k n s l (okV_kind h1) h2 _ rfl h3 ih
 exact key v (Nat.le_refl _) ho hr hl
theorem rencode0_ok (v : CV) (hs : v.size ≤ 1000000) (hrg : v.rng = true) (hl : v.enc.length ≤ 100000000) : Con Tryd.prog 49 [.ag v.cells] (Ret (encA v)) := by
 refine enter Tryd.func49 rfl Tryd.ntmps49 (by kernel_rfl) (Nat.le_of_ble_eq_true rfl) fun w0 X0 hI => ?_
 refine at_seq <| at_region ?_
 refine at_op rfl (n_boxA 1 rfl rfl rfl ?_)
 refine s1 (y_p rfl) rfl <| s1 ((y_p rfl).v (v' := .i .i64 0) rfl) rfl ?_
 refine at_nil <| x_tn <| at_seq <| at_region <| s1 (y_loadA0 ti71 rfl rfl (CV.len_cells v)) rfl ?_
 refine at_op rfl (n_call false rfl (.cons (.pure pu) (.nil)) (rcheckV_ok v hs) pu (.inl rfl) rfl ?_)
 refine s1 (y_p rfl) rfl ?_
 refine at_nil <| x_tn <| at_seq <| at_seq <| at_region <| s1 (y_p rfl) rfl <| s1 (y_p rfl) rfl ?_
 refine at_nil <| x_tn ?_
 refine at_cond rfl (fun hc8 => ?_) (fun hc8 => ?_)
 ·have h9 : chkV v ≠ 0 := by simpa using hc8
  refine at_seq <| at_region <| s1 (y_p rfl) rfl <| s1 (y_p rfl) rfl <| s1 (y_p rfl) rfl ?_
  refine at_nil <| x_tn <| at_ret <| x_tr ?_
  refine at_result (rs := [.tmp 2, .tmp 3]) rfl (r_tmp rfl (r_tmp rfl r_nil)) ?_
  exact (encA_no h9).symm
 ·have h9 : chkV v = 0 := by simpa using hc8
  have hok := chkV_ok h9
  refine at_skip <| x_tn <| at_seq <| at_region <| s1 (y_loadA0 ti71 rfl rfl (CV.len_cells v)) rfl ?_
  refine at_op rfl (n_callO 11 rfl false rfl (.cons (.pure pu) (.nil)) (rencode_ok v hok hrg hl) pul (.inl rfl) rfl ?_)
  refine s1 (y_p rfl) rfl <| s1 ((y_p rfl).v (v' := .i .i64 0) rfl) rfl ?_
  refine at_nil <| x_tn <| at_ret ?_
  refine at_frz 2 rfl rfl pul (view_eq (by simp) rfl) ?_
  refine at_result (rs := [.tmp 2, .tmp 3]) rfl (r_tmp rfl (r_tmp rfl r_nil)) ?_
  exact (encA_yes h9).symm
end Go.Abs.D2
-- C1L
namespace Go.Abs.D2
open Go Go.Eng Go.Abs Go.Proofs 
theorem rdecode_ok (b : List UInt8) (hb : b.length ≤ 1000000) : Con Tryd.prog 54 [.fz b.length (b.map u8)] (Ret (decA b)) := by
 refine enter Tryd.func54 rfl Tryd.ntmps54 (by kernel_rfl) (Nat.le_of_ble_eq_true rfl) fun w0 X0 hI => ?_
 refine at_seq <| at_region ?_
 refine at_op rfl (n_alloc 2 rfl ti71 rfl rfl ?_)
 refine s1 ((y_p rfl).v (v' := .i .i64 0) rfl) rfl ?_
 refine at_nil <| x_tn <| at_seq <| at_region <| s1 (y_p rfl) rfl <| s1 (y_bld (out := [_, _, _]) [[evC (.slice none 0 0)], [evC (.int .i64 0)], [evC (.bool false)]] ti103 rfl Tryd.underlying103 (by kernel_rfl) rfl rfl ⟨⟨by (first | rfl | omega | (simp; done) | (simp [*]; done) | (simp [cellsA, *]; done)), rfl⟩, trivial⟩ rfl) rfl ?_
 refine at_op rfl (n_boxA 400 rfl rfl rfl ?_)
 refine s1 (y_p rfl) rfl ?_
 refine at_nil <| x_tn <| at_seq ?_
 rcases rdec_ways b with hcs | hcs | hcs
 ·obtain ⟨v, k, hr, hdec⟩ := hcs
  have hV := rvalue_ok b hb 16 0 rfl 0 (Nat.zero_le _)
  rw [List.drop_zero, hr] at hV
  dsimp only at hV
  refine at_region <| s1 (y_p rfl) rfl ?_
  refine at_op rfl (n_callGd ⟨[(400, some [.fz b.length (b.map u8), nJ (0), .b false])]⟩ [(400, [.fz b.length (b.map u8), nJ (0 + k), .b true])] false rfl ⟨⟨rfl, VwL.pure pul⟩, trivial⟩ (.cons (.kp rfl) (.cons (.pure pu) .nil)) (hV) pu (.inl rfl) (fun p hp => by rw [List.mem_singleton.1 hp]; exact ⟨⟨_, rfl⟩, pul, .inl rfl⟩) rfl ?_)
  refine at_op rfl (n_alloc 5 rfl ti71 rfl rfl ?_)
  refine at_op rfl (n_storeA ti71 rfl rfl rfl (CV.len_cells v) (by rfl) ?_)
  refine at_nil <| x_tn <| at_seq <| at_seq ?_
  refine at_fs ⟨_, [], []⟩ 25 4 hmix (le_refl rfl) ?_
  refine fs_q 0 [] [(400, none)] (y_p rfl) rfl rfl ?_
  refine fs_q 1 [0] [(400, none)] (y_nilc rfl rfl) rfl rfl ?_
  refine fs_q 2 [1] [(400, none)] (y_fld Tryd.underlying103 rfl ti4 (by decide) rfl rfl) rfl rfl ?_
  refine fs_q 3 [2] [(400, none)] (y_load ti4 rfl rfl rfl) rfl rfl ?_
  refine fs_q 4 [3] [] (y_p rfl) rfl rfl ?_
  refine fs_q0 5 [4] rfl rfl rfl rfl rfl ?_
  refine fs_q0 6 [4, 5] rfl rfl rfl rfl rfl ?_
  refine fs_q0 7 [4, 6] rfl rfl rfl rfl rfl ?_
  refine fs_q0 8 [4, 7] rfl rfl rfl rfl rfl ?_
  refine fs_q0 9 [4] rfl rfl rfl rfl rfl ?_
  refine fs_q0 10 [4, 9] rfl rfl rfl rfl rfl ?_
  refine fs_q0 11 [4, 8, 10] rfl rfl rfl rfl rfl ?_
  refine fs_q 12 [4, 11] [] (y_p rfl) rfl rfl ?_
  refine fs_q 13 [12] [] (y_p rfl) rfl rfl ?_
  refine fs_q0 14 [13] rfl rfl rfl rfl rfl ?_
  refine fs_q0 15 [13, 14] rfl rfl rfl rfl rfl ?_
  refine fs_q0 16 [13, 15] rfl rfl rfl rfl rfl ?_
  refine fs_q 17 [13, 16] [] (y_p rfl) rfl rfl ?_
  refine fs_q 18 [17] [] (y_p rfl) rfl rfl ?_
  refine fs_q0 19 [18] rfl rfl rfl rfl rfl ?_
  refine fs_q0 20 [18, 19] rfl rfl rfl rfl rfl ?_
  refine fs_q0 21 [18, 20] rfl rfl rfl rfl rfl ?_
  refine fs_q0 22 [18] rfl rfl rfl rfl rfl ?_
  refine fs_q0 23 [18, 22] rfl rfl rfl rfl rfl ?_
  refine fs_q0 24 [18, 21, 23] rfl rfl rfl rfl rfl ?_
  refine fs_end (by kernel_rfl) ?_
  refine s1 (y_p rfl) rfl ?_
  refine at_nil <| x_tn ?_
  refine at_then rfl ?_
  refine at_seq <| at_region <| s1 (y_bld (out := [_, _, _, _]) [[evC (.int .i64 0)], [evC (.int .i64 0)], [evC (.string ByteArray.empty)], [evC (.slice none 0 0)]] ti71 rfl Tryd.underlying71 (by kernel_rfl) rfl rfl trivial rfl) rfl ?_
  refine at_op rfl (n_storeA ti71 rfl rfl rfl (by first | rfl | omega | (simp <;> omega) | (simp [*] <;> omega)) (by first | rfl | omega | (simp <;> omega) | (simp [*] <;> omega)) ?_)
  refine s1 ((y_p rfl).v (v' := .i .i64 10) rfl) rfl ?_
  refine at_nil <| x_tn <| at_ret <| x_tr ?_
  refine at_result (rs := [.cell 2 71, .tmp 3]) rfl (r_cellA ti71 rfl rfl rfl rfl (r_tmp rfl r_nil)) ?_
  exact (decA_n hdec).symm
 ·obtain ⟨v, k, hr, hk, hdec⟩ := hcs
  have hV := rvalue_ok b hb 16 0 rfl 0 (Nat.zero_le _)
  rw [List.drop_zero, hr] at hV
  dsimp only at hV
  refine at_region <| s1 (y_p rfl) rfl ?_
  refine at_op rfl (n_callGd ⟨[(400, some [.fz b.length (b.map u8), nJ (0), .b false])]⟩ [(400, [.fz b.length (b.map u8), nJ (0 + k), .b false])] false rfl ⟨⟨rfl, VwL.pure pul⟩, trivial⟩ (.cons (.kp rfl) (.cons (.pure pu) .nil)) (hV) pu (.inl rfl) (fun p hp => by rw [List.mem_singleton.1 hp]; exact ⟨⟨_, rfl⟩, pul, .inl rfl⟩) rfl ?_)
  refine at_op rfl (n_alloc 5 rfl ti71 rfl rfl ?_)
  refine at_op rfl (n_storeA ti71 rfl rfl rfl (CV.len_cells v) (by rfl) ?_)
  refine at_nil <| x_tn <| at_seq <| at_seq ?_
  refine at_fs ⟨_, [], []⟩ 25 4 hmix (le_refl rfl) ?_
  refine fs_q 0 [] [(400, none)] (y_p rfl) rfl rfl ?_
  refine fs_q 1 [0] [(400, none)] (y_nilc rfl rfl) rfl rfl ?_
  refine fs_q 2 [1] [(400, none)] (y_fld Tryd.underlying103 rfl ti4 (by decide) rfl rfl) rfl rfl ?_
  refine fs_q 3 [2] [(400, none)] (y_load ti4 rfl rfl rfl) rfl rfl ?_
  refine fs_q 4 [3] [] (y_p rfl) rfl rfl ?_
  refine fs_qg 5 [4] [(400, none)] rfl rfl (y_p rfl) rfl rfl ?_
  refine fs_qg 6 [4, 5] [(400, none)] rfl rfl (y_nilc rfl rfl) rfl rfl ?_
  refine fs_qg 7 [4, 6] [(400, none)] rfl rfl (y_fld Tryd.underlying103 rfl ti3 (by decide) rfl rfl) rfl rfl ?_
  refine fs_qg 8 [4, 7] [(400, none)] rfl rfl (y_load ti3 rfl rfl rfl) rfl rfl ?_
  refine fs_qg 9 [4] [] rfl rfl (y_p rfl) rfl rfl ?_
  refine fs_qg 10 [4, 9] [] rfl rfl (y_len Tryd.underlying40 rfl rfl rfl) rfl rfl ?_
  refine fs_qg 11 [4, 8, 10] [] rfl rfl ((y_p rfl).v (v' := .b true) (congrArg A.b (bne_iff_ne.2 (by omega)))) rfl rfl ?_
  refine fs_q 12 [4, 11] [] (y_p rfl) rfl rfl ?_
  refine fs_q 13 [12] [] (y_p rfl) rfl rfl ?_
  refine fs_q0 14 [13] rfl rfl rfl rfl rfl ?_
  refine fs_q0 15 [13, 14] rfl rfl rfl rfl rfl ?_
  refine fs_q0 16 [13, 15] rfl rfl rfl rfl rfl ?_
  refine fs_q 17 [13, 16] [] (y_p rfl) rfl rfl ?_
  refine fs_q 18 [17] [] (y_p rfl) rfl rfl ?_
  refine fs_q0 19 [18] rfl rfl rfl rfl rfl ?_
  refine fs_q0 20 [18, 19] rfl rfl rfl rfl rfl ?_
  refine fs_q0 21 [18, 20] rfl rfl rfl rfl rfl ?_
  refine fs_q0 22 [18] rfl rfl rfl rfl rfl ?_
  refine fs_q0 23 [18, 22] rfl rfl rfl rfl rfl ?_
  refine fs_q0 24 [18, 21, 23] rfl rfl rfl rfl rfl ?_
  refine fs_end (by kernel_rfl) ?_
  refine s1 (y_p rfl) rfl ?_
  refine at_nil <| x_tn ?_
  refine at_then rfl ?_
  refine at_seq <| at_region <| s1 (y_bld (out := [_, _, _, _]) [[evC (.int .i64 0)], [evC (.int .i64 0)], [evC (.string ByteArray.empty)], [evC (.slice none 0 0)]] ti71 rfl Tryd.underlying71 (by kernel_rfl) rfl rfl trivial rfl) rfl ?_
  refine at_op rfl (n_storeA ti71 rfl rfl rfl (by first | rfl | omega | (simp <;> omega) | (simp [*] <;> omega)) (by first | rfl | omega | (simp <;> omega) | (simp [*] <;> omega)) ?_)
  refine s1 ((y_p rfl).v (v' := .i .i64 10) rfl) rfl ?_
  refine at_nil <| x_tn <| at_ret <| x_tr ?_
  refine at_result (rs := [.cell 2 71, .tmp 3]) rfl (r_cellA ti71 rfl rfl rfl rfl (r_tmp rfl r_nil)) ?_
  exact (decA_n hdec).symm
 ·obtain ⟨v, hr, hdec⟩ := hcs
  obtain ⟨henc, hrd⟩ := dec_spec (by omega) hdec
  have hsz := CV.size_enc v.size v (Nat.le_refl _) hrd.1
  have hV := rvalue_ok b hb 16 0 rfl 0 (Nat.zero_le _)
  rw [List.drop_zero, hr] at hV
  dsimp only at hV
  refine at_region <| s1 (y_p rfl) rfl ?_
  refine at_op rfl (n_callGd ⟨[(400, some [.fz b.length (b.map u8), nJ (0), .b false])]⟩ [(400, [.fz b.length (b.map u8), nJ (0 + b.length), .b false])] false rfl ⟨⟨rfl, VwL.pure pul⟩, trivial⟩ (.cons (.kp rfl) (.cons (.pure pu) .nil)) (hV) pu (.inl rfl) (fun p hp => by rw [List.mem_singleton.1 hp]; exact ⟨⟨_, rfl⟩, pul, .inl rfl⟩) rfl ?_)
  refine at_op rfl (n_alloc 5 rfl ti71 rfl rfl ?_)
  refine at_op rfl (n_storeA ti71 rfl rfl rfl (CV.len_cells v) (by rfl) ?_)
  refine at_nil <| x_tn <| at_seq <| at_seq ?_
  refine at_fs ⟨_, [], []⟩ 25 4 hmix (le_refl rfl) ?_
  refine fs_q 0 [] [(400, none)] (y_p rfl) rfl rfl ?_
  refine fs_q 1 [0] [(400, none)] (y_nilc rfl rfl) rfl rfl ?_
  refine fs_q 2 [1] [(400, none)] (y_fld Tryd.underlying103 rfl ti4 (by decide) rfl rfl) rfl rfl ?_
  refine fs_q 3 [2] [(400, none)] (y_load ti4 rfl rfl rfl) rfl rfl ?_
  refine fs_q 4 [3] [] (y_p rfl) rfl rfl ?_
  refine fs_qg 5 [4] [(400, none)] rfl rfl (y_p rfl) rfl rfl ?_
  refine fs_qg 6 [4, 5] [(400, none)] rfl rfl (y_nilc rfl rfl) rfl rfl ?_
  refine fs_qg 7 [4, 6] [(400, none)] rfl rfl (y_fld Tryd.underlying103 rfl ti3 (by decide) rfl rfl) rfl rfl ?_
  refine fs_qg 8 [4, 7] [(400, none)] rfl rfl (y_load ti3 rfl rfl rfl) rfl rfl ?_
  refine fs_qg 9 [4] [] rfl rfl (y_p rfl) rfl rfl ?_
  refine fs_qg 10 [4, 9] [] rfl rfl (y_len Tryd.underlying40 rfl rfl rfl) rfl rfl ?_
  refine fs_qg 11 [4, 8, 10] [] rfl rfl ((y_p rfl).v (v' := .b false) (congrArg A.b (by simp))) rfl rfl ?_
  refine fs_q 12 [4, 11] [] (y_p rfl) rfl rfl ?_
  refine fs_q 13 [12] [] (y_p rfl) rfl rfl ?_
  refine fs_qg 14 [13] [(5, none)] rfl rfl (y_loadA0 ti71 rfl rfl (CV.len_cells v)) rfl rfl ?_
  refine fs_call false 15 [13, 14] [] (gy1 rfl rfl) rfl (.cons (.pure pu) (.nil)) (Con.cast (rcheckV_ok v (by rw [henc] at hsz; omega)) (congrArg (A.i .i64) hrd.chk)) pu (.inl rfl) rfl rfl ?_
  refine fs_qg 16 [13, 15] [] rfl rfl ((y_p rfl).v (v' := .b false) (rfl)) rfl rfl ?_
  refine fs_q 17 [13, 16] [] (y_p rfl) rfl rfl ?_
  refine fs_q 18 [17] [] (y_p rfl) rfl rfl ?_
  refine fs_qg 19 [18] [(5, none)] rfl rfl (y_loadA0 ti71 rfl rfl (CV.len_cells v)) rfl rfl ?_
  refine fs_callO 31 false 20 [18, 19] [] (gy1 rfl rfl) rfl (.cons (.pure pu) (.nil)) (rencode_ok v hrd.1 hrd.2.2 (by rw [henc]; omega)) pul (.inl rfl) rfl rfl ?_
  refine fs_qg 21 [18, 20] [(31, some 20)] rfl rfl ((y_str (l := v.enc) Tryd.underlying40 Tryd.underlying5 Tryd.underlying9 rfl (SM_full rfl (by simp)) rfl).v (v' := .s b) (congrArg A.s henc)) rfl rfl ?_
  refine fs_qg 22 [18] [] rfl rfl (y_p rfl) rfl rfl ?_
  refine fs_qg 23 [18, 22] [] rfl rfl (y_str Tryd.underlying40 Tryd.underlying5 Tryd.underlying9 rfl rfl (by simp)) rfl rfl ?_
  refine fs_qg 24 [18, 21, 23] [] rfl rfl ((y_p rfl).v (v' := .b false) (congrArg A.b (by simp))) rfl rfl ?_
  refine fs_end (by kernel_rfl) ?_
  refine s1 (y_p rfl) rfl ?_
  refine at_nil <| x_tn ?_
  refine at_else rfl ?_
  refine at_skip <| x_tn <| at_seq <| at_region <| s1 (y_loadA0 ti71 rfl rfl (CV.len_cells v)) rfl ?_
  refine at_op rfl (n_storeA ti71 rfl rfl rfl (CV.len_cells v) (by rfl) ?_)
  refine s1 ((y_p rfl).v (v' := .i .i64 0) rfl) rfl ?_
  refine at_nil <| x_tn <| at_ret ?_
  refine at_result (rs := [.cell 2 71, .tmp 3]) rfl (r_cellA ti71 rfl rfl (List.take_of_length_le (by simp)) (CV.len_cells v) (r_tmp rfl r_nil)) ?_
  exact (decA_y hdec).symm
end Go.Abs.D2
