/-
  The second engine, part Q: nil slices read as empty ones, within structs, results and objects. Conditions: none; nothing of any program stands here.
-/
import Derived.Test.YtbjfpoafphggnaaDoorAbsP
namespace Go.Abs
open Go Go.Eng
mutual
/-- The second says no more than the first. -/
inductive Wk : A → A → Prop where
  | eq {v v' : A} (h : v = v') : Wk v v'
  | nl : Wk .nl (.fz 0 [])
  | ag {cs cs' : List A} (h : WkL cs cs') : Wk (.ag cs) (.ag cs')
  | tu {cs cs' : List A} (h : WkL cs cs') : Wk (.tu cs) (.tu cs')
inductive WkL : List A → List A → Prop where
  | nil : WkL [] []
  | cons {c c' : A} {cs cs' : List A} (h : Wk c c') (hs : WkL cs cs') : WkL (c :: cs) (c' :: cs')
end
theorem WkL.same : ∀ {cs : List A}, WkL cs cs
  | [] => .nil
  | _ :: _ => .cons (.eq rfl) WkL.same
mutual
theorem Wk_V {X : Xs} {w : World} {β : Bm} : ∀ {v v' : A} {u : Value}, Wk v v' → V X w β v u → V X w β v' u
  | _, _, _, .eq h, hv => h ▸ hv
  | _, _, _, .nl, hv => V_nlfz hv
  | _, _, _, .ag h, hv => by
    simp only [V] at hv ⊢
    obtain ⟨us, e1, e2, e3⟩ := hv
    exact ⟨us, e1, WkL_VS h e2, e3⟩
  | _, _, _, .tu h, hv => by
    simp only [V] at hv ⊢
    obtain ⟨us, e1, e2⟩ := hv
    exact ⟨us, e1, WkL_VS h e2⟩
theorem WkL_VS {X : Xs} {w : World} {β : Bm} : ∀ {cs cs' : List A} {us : List Value}, WkL cs cs' → VS X w β cs us → VS X w β cs' us
  | _, _, _, .nil, hv => hv
  | _, _, _, .cons h hs, hv => by
    simp only [VS] at hv
    obtain ⟨u, r, rfl, h1, h2⟩ := hv
    exact VS_cons (Wk_V h h1) (WkL_VS hs h2)
end
section
variable {P : Program} {w0 : Bw} {X0 : Xs} {n : Nat} {E : Ev} {st : St} {K : Act → World → Prop}
theorem at_wk (t : Nat) {v v' : A} (ht : E.at? t = some v) (hw : Wk v v') (h : At w0 X0 n ((t, v') :: E) st K) : At w0 X0 n E st K := by
  rintro a w ⟨β, X, hr⟩
  exact h a w ⟨β, X, hr.say ht hr.mem (fun _ _ h => ⟨h, rfl⟩) (fun _ _ h => .inl h) (fun u hu => Wk_V hw hu)⟩
theorem at_wkO (id : Nat) {cs cs' : List A} (hg : st.get id = some cs) (hw : WkL cs cs') (h : At w0 X0 n E (st.put id cs') K) : At w0 X0 n E st K := by
  rintro a w ⟨β, X, hr⟩
  have hm : Mem w0 β X (st.put id cs') w := by
    refine .of hr.mem.below hr.mem.b0 hr.mem.xlt (fun k hk => ?_) (fun k ds hk => ?_) (fun i j ci cj b M N hij h1 h2 => ?_)
    · rw [St.free_put] at hk
      split at hk
      · cases hk
      · exact hr.mem.dom k hk
    · rw [St.get_put] at hk
      split at hk
      · rename_i he
        subst he
        simp only [Option.some.injEq] at hk
        subst hk
        have := hr.mem.obj id cs hg
        unfold OB at this ⊢
        split at this
        · exact this
        · subst this; cases hw; rfl
        · obtain ⟨h1, h2, us, rest, ty, h3, h4, h5, h6⟩ := this
          exact ⟨h1, h2, us, rest, ty, h3, h4, WkL_VS hw h5, h6⟩
      · exact hr.mem.obj k ds hk
    · have g : ∀ (k : Nat) (c : List A), (st.put id cs').get k = some c → ∃ c', st.get k = some c' := by
        intro k c hk
        rw [St.get_put] at hk
        split at hk
        · rename_i he; subst he; exact ⟨_, hg⟩
        · exact ⟨_, hk⟩
      obtain ⟨c1, e1⟩ := g _ _ h1
      obtain ⟨c2, e2⟩ := g _ _ h2
      exact hr.mem.inj i j c1 c2 b M N hij e1 e2
  exact h a w ⟨β, X, .of hr.x0 hr.xn hm hr.gl hr.size hr.defers hr.sslot hr.slot⟩
end
theorem Con.wk {P : Program} {f : FuncId} {args : List A} {r r' : A} (h : Con P f args (Ret r)) (hw : Wk r r') : Con P f args (Ret r') := h.weak fun _ _ _ _ hv => Wk_V hw hv
/-! A call that an own slice is given up to. -/
section
variable {P : Program} {w0 : Bw} {X0 : Xs} {n : Nat} {E F : Ev} {st : St} {K : Act → World → Prop} {Q : Exit → Act → World → Prop}
theorem n_callF {d : Nat} {f : FuncId} {xs : List Operand} {vs : List A} {ats : Array TypeId} {ty : TypeId} {pos aft' g} {ret : A} (t : Nat) {id s off m m' : Nat} {cs ds : List A} (ht : E.at? t = some (.sl id s off m)) (hg : st.get id = some cs) (hpc : PureL cs) (hm : m = m') (hdd : (cs.drop off).take (m * s) = ds)
    (hxs : evsA ((t, .fz m' ds) :: E) xs = some vs) (hpv : PureL vs) (hc : Con P f vs (Ret ret)) (hp : Pure ret) (hd : Nat.ble (d + 1) n = true) (h : At w0 X0 n ((d, ret) :: E) (st.del id) K) :
    At w0 X0 n E st (fun a w => (⟨some d, .call { callee := .value (.func f), args := xs.toArray, argTypes := ats }, ty, pos, aft', g⟩ : Oper).wp P a w K Q) := by
  rintro a w ⟨β, X, hr⟩
  subst hdd; subst hm
  obtain ⟨u, g1, g2⟩ := hr.slot t _ ht
  obtain ⟨X1, m1, m2, m3, m4⟩ := frz_V hr.mem hg hpc g2
  have hr2 := hr.say ht m1 m2 m3 (fun u hu => m4 s off m u hu)
  have hr1 : RelX w0 X0 n E (st.del id) β X1 a w := .of (fun b o h => (m2 b o (hr.x0 b o h)).1) (fun b o h => (m3 b o h).elim (hr.xn b o) .inr) m1 (hr.gl.mono m2) hr.size hr.defers (fun s hs => Sus.slots_mono m2 (hr.sslot s hs)) (fun t v hv => let ⟨u, q1, q2⟩ := hr.slot t v hv; ⟨u, q1, V_mono m2 _ _ _ _ (ExtB.refl β) q2⟩)
  have hcS : ConS P f vs ⟨[]⟩ (RetS ret []) := ConS.mono hc fun r st h => ⟨h, (fun p hp => by cases hp)⟩
  refine call_core (fs := []) (cs := []) (s0 := ⟨[]⟩) (ow := false) hr2 rfl hxs trivial (by simpa using VwL.pure hpv) hcS fun v w' ⟨r, β', X', st', ⟨hR, hR2⟩, hsup, hsub, hm, hvv⟩ => ?_
  obtain ⟨k1, k2, k3, k4, _⟩ := hm.after hr2 (fun id cs h => by cases h) hsub hsup (upds := []) (fun p hp => by cases hp)
  subst hR
  exact h _ _ ⟨β, _, hr1.putv hd k2 k3 (ExtB.refl β) k1 (V_mono (k4 rfl) _ _ _ _ (ExtB.refl β) (V_pure _ _ hp hvv))⟩
theorem lev_put {p : Nat × A} (h : lev E F) : lev (p :: E) (p :: F) := fun t v ht => by
  obtain ⟨k, u⟩ := p
  simp only [Ev.at?] at ht ⊢
  cases hb : Nat.beq k t with
  | true => rw [hb] at ht; exact ht
  | false => rw [hb] at ht; exact h t v ht
variable {r : Option Nat} {ds0 : List Nat} {N : Nat} {E0 : EV} {st0 : St} {ops : Array Oper} {k g : Nat} {plan : List Stp} {rest : List Oper} {gd : Option (Nat × Bool)} {d : Nat} {ty : TypeId} {pos : String} {aft : Array Edge}
theorem fs_callF {f : FuncId} {xs : List Operand} {vs : List A} {ats : Array TypeId} {ret : A} (t : Nat) {id s off m m' : Nat} {cs ds : List A} (k0 : Nat) (deps : List Nat) (need : List (Nat × Option Nat)) (hg : GuardYes ops (keepI (E0.at k0) deps k0 E) gd) (ht : (keepI (E0.at k0) deps k0 E).at? t = some (.sl id s off m)) (hgt : (nst plan st0 need).get id = some cs) (hpc : PureL cs) (hm : m = m') (hdd : (cs.drop off).take (m * s) = ds)
    (hxs : evsA ((t, .fz m' ds) :: keepI (E0.at k0) deps k0 E) xs = some vs) (hpv : PureL vs) (hc : Con P f vs (Ret ret)) (hp : Pure ret) (hb : Nat.ble (d + 1) N = true) (hd : depB k0 deps need = true) (h : FS r ds0 P w0 X0 N Q ops k g E0 st0 (plan ++ [⟨d, ret, deps, [id], [], need, []⟩]) (k0 + 1) ((d, ret) :: E) (st.del id) rest) :
    FS r ds0 P w0 X0 N Q ops k g E0 st0 plan k0 E st (⟨some d, .call { callee := .value (.func f), args := xs.toArray, argTypes := ats }, ty, pos, aft, gd⟩ :: rest) :=
  fs_gen ⟨d, ret, deps, [id], [], need, []⟩ (fun hk hE _ _ _ hD hs _ hK => have he' := hD.fin hE hk; ob_gy hg he' (n_callF t (he' _ _ ht) (hs _ _ hgt) hpc hm hdd (evs_le (lev_put he') hxs) hpv hc hp hb hK)) hd h
end
end Go.Abs
