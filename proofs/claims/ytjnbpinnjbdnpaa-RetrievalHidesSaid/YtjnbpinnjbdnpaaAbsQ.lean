/-
  The second engine, part Q: nil slices read as empty ones, within structs, results and objects. Conditions: none; nothing of any program stands here.
-/
import Derived.Test.YtjnbpinnjbdnpaaAbsP
namespace Go.Abs
open Go Go.Eng
mutual
/-- The second says no more than the first. -/
inductive Wk : A → A → Prop where
  | eq {v v' : A} (h : v = v') : Wk v v'
  | nl : Wk .nl (.fz 0 [])
  | ag {cs cs' : List A} (h : WkL cs cs') : Wk (.ag cs) (.ag cs')
  | tu {cs cs' : List A} (h : WkL cs cs') : Wk (.tu cs) (.tu cs')
inductive WkL : List A → List A → Prop where
  | nil : WkL [] []
  | cons {c c' : A} {cs cs' : List A} (h : Wk c c') (hs : WkL cs cs') : WkL (c :: cs) (c' :: cs')
end
instance {v k} [h : IsFlat v] : IsFlatL (List.replicate k v) := ⟨FlatL_mem.2 fun c hc => by rw [List.eq_of_mem_replicate hc]; exact h.out⟩
theorem WkL.same : ∀ {cs : List A}, WkL cs cs
  | [] => .nil
  | _ :: _ => .cons (.eq rfl) WkL.same
mutual
theorem Wk_V {X : Xs} {w : World} {β : Bm} : ∀ {v v' : A} {u : Value}, Wk v v' → V X w β v u → V X w β v' u
  | _, _, _, .eq h, hv => h ▸ hv
  | _, _, _, .nl, hv => V_nlfz hv
  | _, _, _, .ag h, hv => by
    simp only [V] at hv ⊢
    obtain ⟨us, e1, e2, e3⟩ := hv
    exact ⟨us, e1, WkL_VS h e2, e3⟩
  | _, _, _, .tu h, hv => by
    simp only [V] at hv ⊢
    obtain ⟨us, e1, e2⟩ := hv
    exact ⟨us, e1, WkL_VS h e2⟩
theorem WkL_VS {X : Xs} {w : World} {β : Bm} : ∀ {cs cs' : List A} {us : List Value}, WkL cs cs' → VS X w β cs us → VS X w β cs' us
  | _, _, _, .nil, hv => hv
  | _, _, _, .cons h hs, hv => by
    simp only [VS] at hv
    obtain ⟨u, r, rfl, h1, h2⟩ := hv
    exact VS_cons (Wk_V h h1) (WkL_VS hs h2)
end
section
variable {P : Program} {w0 : Bw} {X0 : Xs} {n : Nat} {E : Ev} {st : St} {K : Act → World → Prop}
theorem at_wk (t : Nat) {v v' : A} (ht : E.at? t = some v) (hw : Wk v v') (h : At w0 X0 n ((t, v') :: E) st K) : At w0 X0 n E st K := by
  rintro a w ⟨β, X, hr⟩
  exact h a w ⟨β, X, hr.say ht hr.mem (fun _ _ h => ⟨h, rfl⟩) (fun _ _ h => .inl h) (fun u hu => Wk_V hw hu)⟩
theorem at_wkO (id : Nat) {cs cs' : List A} (hg : st.get id = some cs) (hw : WkL cs cs') (h : At w0 X0 n E (st.put id cs') K) : At w0 X0 n E st K := by
  rintro a w ⟨β, X, hr⟩
  have hm : Mem w0 β X (st.put id cs') w := by
    refine .of hr.mem.below hr.mem.b0 hr.mem.xlt (fun k hk => ?_) (fun k ds hk => ?_) (fun i j ci cj b M N hij h1 h2 => ?_)
    · rw [St.free_put] at hk
      split at hk
      · cases hk
      · exact hr.mem.dom k hk
    · rw [St.get_put] at hk
      split at hk
      · rename_i he
        subst he
        simp only [Option.some.injEq] at hk
        subst hk
        have := hr.mem.obj id cs hg
        unfold OB at this ⊢
        split at this
        · exact this
        · subst this; cases hw; rfl
        · obtain ⟨h1, h2, us, rest, ty, h3, h4, h5, h6⟩ := this
          exact ⟨h1, h2, us, rest, ty, h3, h4, WkL_VS hw h5, h6⟩
      · exact hr.mem.obj k ds hk
    · have g : ∀ (k : Nat) (c : List A), (st.put id cs').get k = some c → ∃ c', st.get k = some c' := by
        intro k c hk
        rw [St.get_put] at hk
        split at hk
        · rename_i he; subst he; exact ⟨_, hg⟩
        · exact ⟨_, hk⟩
      obtain ⟨c1, e1⟩ := g _ _ h1
      obtain ⟨c2, e2⟩ := g _ _ h2
      exact hr.mem.inj i j c1 c2 b M N hij e1 e2
  exact h a w ⟨β, X, .of hr.x0 hr.xn hm hr.gl hr.size hr.defers hr.sslot hr.slot⟩
end
theorem Con.wk {P : Program} {f : FuncId} {args : List A} {r r' : A} (h : Con P f args (Ret r)) (hw : Wk r r') : Con P f args (Ret r') := h.weak fun _ _ _ _ hv => Wk_V hw hv
/-! A call that an own slice is given up to. -/
section
variable {P : Program} {w0 : Bw} {X0 : Xs} {n : Nat} {E F : Ev} {st : St} {K : Act → World → Prop} {Q : Exit → Act → World → Prop}
theorem n_callF {d : Nat} {f : FuncId} {xs : List Operand} {vs : List A} {ats : Array TypeId} {ty : TypeId} {pos aft' g} {ret : A} (t : Nat) {id s off m m' : Nat} {cs ds : List A} (ht : E.at? t = some (.sl id s off m)) (hg : st.get id = some cs) (hpc : PureL cs) (hm : m = m') (hdd : (cs.drop off).take (m * s) = ds)
    (hxs : evsA ((t, .fz m' ds) :: E) xs = some vs) (hpv : PureL vs) (hc : Con P f vs (Ret ret)) (hp : Pure ret) (hd : Nat.ble (d + 1) n = true) (h : At w0 X0 n ((d, ret) :: E) (st.del id) K) :
    At w0 X0 n E st (fun a w => (⟨some d, .call { callee := .value (.func f), args := xs.toArray, argTypes := ats }, ty, pos, aft', g⟩ : Oper).wp P a w K Q) := by
  rintro a w ⟨β, X, hr⟩
  subst hdd; subst hm
  obtain ⟨u, g1, g2⟩ := hr.slot t _ ht
  obtain ⟨X1, m1, m2, m3, m4⟩ := frz_V hr.mem hg hpc g2
  have hr2 := hr.say ht m1 m2 m3 (fun u hu => m4 s off m u hu)
  have hr1 : RelX w0 X0 n E (st.del id) β X1 a w := .of (fun b o h => (m2 b o (hr.x0 b o h)).1) (fun b o h => (m3 b o h).elim (hr.xn b o) .inr) m1 (hr.gl.mono m2) hr.size hr.defers (fun s hs => Sus.slots_mono m2 (hr.sslot s hs)) (fun t v hv => let ⟨u, q1, q2⟩ := hr.slot t v hv; ⟨u, q1, V_mono m2 _ _ _ _ (ExtB.refl β) q2⟩)
  have hcS : ConS P f vs ⟨[]⟩ (RetS ret []) := ConS.mono hc fun r st h => ⟨h, (fun p hp => by cases hp)⟩
  refine call_core (fs := []) (cs := []) (s0 := ⟨[]⟩) (ow := false) hr2 rfl hxs trivial (by simpa using VwL.pure hpv) hcS fun v w' ⟨r, β', X', st', ⟨hR, hR2⟩, hsup, hsub, hm, hvv⟩ => ?_
  obtain ⟨k1, k2, k3, k4, _⟩ := hm.after hr2 (fun id cs h => by cases h) hsub hsup (upds := []) (fun p hp => by cases hp)
  subst hR
  exact h _ _ ⟨β, _, hr1.putv hd k2 k3 (ExtB.refl β) k1 (V_mono (k4 rfl) _ _ _ _ (ExtB.refl β) (V_pure _ _ hp hvv))⟩
theorem lev_put {p : Nat × A} (h : lev E F) : lev (p :: E) (p :: F) := fun t v ht => by
  obtain ⟨k, u⟩ := p
  simp only [Ev.at?] at ht ⊢
  cases hb : Nat.beq k t with
  | true => rw [hb] at ht; exact ht
  | false => rw [hb] at ht; exact h t v ht
variable {r : Option Nat} {ds0 : List Nat} {N : Nat} {E0 : EV} {st0 : St} {ops : Array Oper} {k g : Nat} {plan : List Stp} {rest : List Oper} {gd : Option (Nat × Bool)} {d : Nat} {ty : TypeId} {pos : String} {aft : Array Edge}
theorem fs_callF {f : FuncId} {xs : List Operand} {vs : List A} {ats : Array TypeId} {ret : A} (t : Nat) {id s off m m' : Nat} {cs ds : List A} (k0 : Nat) (deps : List Nat) (need : List (Nat × Option Nat)) (hg : GuardYes ops (keepI (E0.at k0) deps k0 E) gd) (ht : (keepI (E0.at k0) deps k0 E).at? t = some (.sl id s off m)) (hgt : (nst plan st0 need).get id = some cs) (hpc : PureL cs) (hm : m = m') (hdd : (cs.drop off).take (m * s) = ds)
    (hxs : evsA ((t, .fz m' ds) :: keepI (E0.at k0) deps k0 E) xs = some vs) (hpv : PureL vs) (hc : Con P f vs (Ret ret)) (hp : Pure ret) (hb : Nat.ble (d + 1) N = true) (hd : depB k0 deps need = true) (h : FS r ds0 P w0 X0 N Q ops k g E0 st0 (plan ++ [⟨d, ret, deps, [id], [], need, []⟩]) (k0 + 1) ((d, ret) :: E) (st.del id) rest) :
    FS r ds0 P w0 X0 N Q ops k g E0 st0 plan k0 E st (⟨some d, .call { callee := .value (.func f), args := xs.toArray, argTypes := ats }, ty, pos, aft, gd⟩ :: rest) :=
  fs_gen ⟨d, ret, deps, [id], [], need, []⟩ (fun hk hE _ _ _ hD hs _ hK => have he' := hD.fin hE hk; ob_gy hg he' (n_callF t (he' _ _ ht) (hs _ _ hgt) hpc hm hdd (evs_le (lev_put he') hxs) hpv hc hp hb hK)) hd h
theorem fs_copyC {dT sT e : TypeId} {by' : Nat} {zero : List Value} {agg : Bool} {x y : Operand} {vy : A} {id off m kk : Nat} {cs news cs' : List A} (c k0 : Nat) (deps : List Nat) (need : List (Nat × Option Nat)) (hg : GuardYes ops (keepI (E0.at k0) deps k0 E) gd) (ht : P.underlying dT = some (.slice e)) (he : TI P e 1 by' zero agg) (hx : ev (keepI (E0.at k0) deps k0 E) x = some (.sl id 1 off m)) (hgt : (nst plan st0 need).get id = some cs) (hy : ev (keepI (E0.at k0) deps k0 E) y = some vy) (hn : SM (nst plan st0 need) vy = some (kk, news)) (hnl : news.length = kk)
    (hc : c = Nat.min kk m) (hc0 : 0 < c) (hfit : off + c ≤ cs.length) (hcs : cs.take off ++ news.take c ++ cs.drop (off + c) = cs') (hb : Nat.ble (d + 1) N = true) (hd : depB k0 deps need = true) (h : FS r ds0 P w0 X0 N Q ops k g E0 st0 (plan ++ [⟨d, .i .i64 (c : Int), deps, [], [(id, cs')], need, [id]⟩]) (k0 + 1) ((d, .i .i64 (c : Int)) :: E) (st.put id cs') rest) :
    FS r ds0 P w0 X0 N Q ops k g E0 st0 plan k0 E st (⟨some d, .call { callee := .builtin .copy, args := #[x, y], argTypes := #[dT, sT] }, ty, pos, aft, gd⟩ :: rest) :=
  fs_gen ⟨d, .i .i64 (c : Int), deps, [], [(id, cs')], need, [id]⟩ (fun hk hE _ _ _ hD hs _ hK => have he' := hD.fin hE hk; ob_gy hg he' (n_copyC c ht he (ev_le he' hx) (hs _ _ hgt) (ev_le he' hy) (SM_le hs hn) hnl hc hc0 hfit hcs hb hK)) hd h
end
end Go.Abs
namespace Go.Eng
theorem madeCells_rep (z : Value) (s m : Nat) (hs : 0 < s) : madeCells (List.replicate s z).toArray m = (List.replicate m z).toArray := by
  unfold madeCells
  apply Array.ext
  · simp
  · intro i h1 h2
    have hlt : i % s < s := Nat.mod_lt _ hs
    simp [hlt]
section
variable {P : Program} {n : Nat} {E : Env} {S : List World} {H : List (Nat × Obj)} {Q : Exit → Act → World → Prop}
theorem n_makeZ {d : Nat} {t e : TypeId} {by' s : Nat} {z : Value} {agg} {x y : Operand} {k k' : IntKind} {iv jv : Int} {ty : TypeId} {pos aft g} {K : Act → World → Prop} (l c : Nat) (ht : P.underlying t = some (.slice e)) (he : TI P e s by' (List.replicate s z) agg) (hs : 0 < s)
    (hx : ev E x = some (.int k iv)) (hy : ev E y = some (.int k' jv)) (hl : iv = (l : Int)) (hc : jv = (c : Int)) (hlc : l ≤ c) (hby : by' * c ≤ 281474976710656) (hc63 : c ≤ 9223372036854775807) (hd : Nat.ble (d + 1) n = true)
    (h : ∀ b, leAll S b → ltAll H b → At n ((d, .slice (some ⟨b, 0, none⟩) l c) :: E) S ((b, row e (List.replicate (c * s) z)) :: H) K) :
    At n E S H (fun a w => (⟨some d, .makeSlice t x y, ty, pos, aft, g⟩ : Oper).wp P a w K Q) := by
  intro a w hR hG
  have hf := hG.fresh
  obtain ⟨⟨i, z', h1, h2, h3, h4, h5⟩, _⟩ := he
  have hz' : z'.cells = (List.replicate s z).toArray := by rw [← Array.toList_inj]; simpa using h5
  subst hl; subst hc
  have hrun := run_make (P := P) w t e i z' ht h1 h2 k k' l c (by omega) (by omega) (by rw [h4, ← Int.natCast_mul]; omega) (by omega)
  simp only [Int.toNat_natCast, h3, hz', madeCells_rep z s (c * s) hs] at hrun
  show Oper.wp P _ a w K Q
  unfold Oper.wp
  have e1 : (execOp a.eval ⟨some d, .makeSlice t x y, ty, pos, aft, g⟩).run P w = .ok (.value (.slice (some ⟨w.heap.size, 0, none⟩) l c)) (w.alloc (row e (List.replicate (c * s) z))) := by
    simp only [execOp, hR.ev hx, hR.ev hy]
    rw [Sem.run_bind, hrun]
    rfl
  rw [e1]
  exact h w.heap.size hf.1 hf.2 _ _ (hR.put hd _) (hG.alloc _)
end
end Go.Eng
namespace Go.Abs
open Go Go.Eng
section
variable {P : Program} {w0 : Bw} {X0 : Xs} {n : Nat} {E : Ev} {st : St} {K : Act → World → Prop} {Q : Exit → Act → World → Prop}
/-- 'make([]T, l, c)', elements of cells that are alike. -/
theorem n_makeZ {d : Nat} (id s : Nat) (hf : st.free id = true) {t e : TypeId} {by' : Nat} {z : Value} {agg} {x y : Operand} {k k' : IntKind} {iv jv : Int} {ty : TypeId} {pos aft g} (l c : Nat) (ht : P.underlying t = some (.slice e)) (he : TI P e s by' (List.replicate s z) agg) (hs : 0 < s) (hz : z.oneCell' = true)
    (hx : ev E x = some (.i k iv)) (hy : ev E y = some (.i k' jv)) (hl : iv = (l : Int)) (hc : jv = (c : Int)) (hlc : l ≤ c) (hby : by' * c ≤ 281474976710656) (hc63 : c ≤ 9223372036854775807) (hd : Nat.ble (d + 1) n = true)
    (h : At w0 X0 n ((d, .sl id s 0 l) :: E) (st.put id (List.replicate (l * s) (evC z))) K) :
    At w0 X0 n E st (fun a w => (⟨some d, .makeSlice t x y, ty, pos, aft, g⟩ : Oper).wp P a w K Q) := by
  rintro a w ⟨β, X, hr⟩
  obtain ⟨e1, e2⟩ := hr.evo hx
  obtain ⟨e3, e4⟩ := hr.evo hy
  rw [V_i] at e2 e4
  rw [e2] at e1; rw [e4] at e3
  refine Eng.n_makeZ (S := [w]) (H := []) (E := full a) (n := a.tmps.size) l c ht he hs e1 e3 hl hc hlc hby hc63 (by rw [hr.size]; exact hd) (fun b hS hH a1 w1 hR hG => ?_) a w (full_rep a hr.defers) (Eng.Good.start w)
  have hb : w.heap.size ≤ b := hS.1
  have hbel := gd_below hG (by simp [hb])
  have hw := hG.own _ (.head _)
  simp only at hw
  have hls : l * s + (c - l) * s = c * s := by rw [← Nat.add_mul, show l + (c - l) = c by omega]
  have hm := hr.mem.push id hf (cs := List.replicate (l * s) (evC z)) (us := List.replicate (l * s) z) (rest := List.replicate ((c - l) * s) z) (ty := e) (N := c * s) hbel hb (by rw [hw]; simp only [row, List.replicate_append_replicate]; rw [hls]) (by simp only [List.length_replicate]; exact hls)
    (by have := VS_evC (X := X) (w := w1) (β := upd β id (.bk b (c * s))) (List.replicate (l * s) z); simpa using this) (by intro q hq; rw [List.eq_of_mem_replicate hq]; exact hz)
  exact h a1 w1 ⟨_, X, hr.next hR (ExtX.of_below hr.mem.xlt hbel) (fun _ _ h => .inl h) (upd_ext (hr.mem.dom id hf)) hm (by simp only [V]; exact .inr ⟨b, c * s, c, upd_at, rfl, hlc, by simp only [maxLen]; omega, by omega⟩)⟩
end
end Go.Abs
namespace Go.Abs
open Go Go.Eng
section
variable {P : Program} {w0 : Bw} {X0 : Xs} {n : Nat} {E : Ev} {st : St} {Q : Exit → Act → World → Prop} {r : Option Nat} {ds : List Nat} {ops : Array Oper} {rest : List Oper} {d : Nat} {op : Op} {ty : TypeId} {pos : String} {aft : Array Edge}
/-! An operation whose guard was itself left out: it is left out, too. -/
theorem RelQ.yields_un {β : Bm} {X : Xs} {a : Act} {w : World} (h : RelQ w0 X0 n E st β X a w) {j t : Nat} (hj : guardSlot ops j = some t) (hb : E.at? t = some un) : yielded ops a.tmps j = none := by
  obtain ⟨u, h1, h2⟩ := h.slot t _ hb
  simp only [V] at h2
  subst h2
  unfold guardSlot at hj
  simp only [yielded, hj, h1, Option.bind_some]
  rfl
theorem g0u {j t : Nat} {b : Bool} (hj : guardSlot ops j = some t) (hb : E.at? t = some un) (hd : Nat.ble (d + 1) n = true)
    (h : At w0 X0 n ((d, un) :: E) st (Pw ds (wpListIn (rF r) 0 P ops Q rest))) : At w0 X0 n E st (Pw ds (wpListIn (rF r) 0 P ops Q (⟨some d, op, ty, pos, aft, some (j, b)⟩ :: rest))) :=
  fun a w ⟨β, X, hr⟩ => by
    show wpListIn (rF r) 0 P ops Q (_ :: rest) (a.wd ds) w
    unfold wpListIn
    rw [if_neg (by simp [Region.wanted, tmps_wd, hr.yields_un hj hb])]
    refine ⟨fun _ _ => trivial, ?_⟩
    rw [put_wd]
    exact h _ _ ⟨β, X, hr.putD (d := some d) hd (by simp [V])⟩
theorem t0u {j t : Nat} {b : Bool} {K : Act → World → Prop} (hj : guardSlot ops j = some t) (hb : E.at? t = some un) (hd : Nat.ble (d + 1) n = true)
    (h : At w0 X0 n ((d, un) :: E) st (fun a w => wpStill P ops w (fun a' => K a' w) rest a)) : At w0 X0 n E st (fun a w => wpStill P ops w (fun a' => K a' w) (⟨some d, op, ty, pos, aft, some (j, b)⟩ :: rest) a) :=
  fun a w ⟨β, X, hr⟩ => by
    show wpStill P ops w (fun a' => K a' w) (_ :: rest) a
    unfold wpStill
    rw [if_neg (by simp [Region.wanted, hr.yields_un hj hb])]
    exact h _ _ ⟨β, X, hr.put hd (by simp [V])⟩
theorem ob_g0u {j t : Nat} {b : Bool} {K : Act → World → Prop} (hj : guardSlot ops j = some t) (hb : E.at? t = some un) (hd : Nat.ble (d + 1) n = true) (h : At w0 X0 n ((d, un) :: E) st K) : At w0 X0 n E st (stepK P ops Q ⟨some d, op, ty, pos, aft, some (j, b)⟩ K) := fun a w ⟨β, X, hr⟩ => by
  unfold stepK
  rw [if_neg (by simp [Region.wanted, hr.yields_un hj hb])]
  exact h _ _ ⟨β, X, hr.put hd (by simp [V])⟩
variable {E0 : EV} {st0 : St} {k g : Nat} {plan : List Stp} {ds0 : List Nat}
theorem fs_q0u {j t : Nat} {b : Bool} (k0 : Nat) (deps : List Nat) (hj : guardSlot ops j = some t) (hbv : (keepI (E0.at k0) deps k0 E).at? t = some un) (hb : Nat.ble (d + 1) n = true) (hd : depB k0 deps [] = true)
    (h : FS r ds0 P w0 X0 n Q ops k g E0 st0 (plan ++ [⟨d, un, deps, [], [], [], []⟩]) (k0 + 1) ((d, un) :: E) st rest) : FS r ds0 P w0 X0 n Q ops k g E0 st0 plan k0 E st (⟨some d, op, ty, pos, aft, some (j, b)⟩ :: rest) :=
  fs_gen ⟨d, un, deps, [], [], [], []⟩ (fun hk hE _ _ _ hD _ _ hK => have he := hD.fin hE hk; ob_g0u hj (he _ _ hbv) hb hK) hd h
end
end Go.Abs
namespace Go.Abs
open Go Go.Eng
/-! Two objects handed in, the first of which may hold a slice of the second. -/
theorem upd_K2 {s0 : St} {ow : Bool} {i j : Nat} {ci cj ci0 cj0 : List A} (h1 : s0.get i = some ci0) (h2 : s0.get j = some cj0) (k1 : KpL s0 ow ci) (k2 : KpL s0 ow cj) : ∀ p ∈ [(i, ci), (j, cj)], (∃ cs, s0.get p.1 = some cs) ∧ KpL s0 ow p.2 := fun p hq => by
  rcases List.mem_cons.1 hq with rfl | hq
  · exact ⟨⟨_, h1⟩, k1⟩
  · rw [List.mem_singleton] at hq
    subst hq
    exact ⟨⟨_, h2⟩, k2⟩
theorem retS_2 {st : St} {r : A} {i j : Nat} {ci cj : List A} (h1 : st.get i = some ci) (h2 : st.get j = some cj) : RetS r [(i, ci), (j, cj)] r st := ⟨rfl, fun p hq => by
  rcases List.mem_cons.1 hq with rfl | hq
  · exact h1
  · rw [List.mem_singleton] at hq
    subst hq
    exact h2⟩
theorem KpL_sl {s0 : St} {ow : Bool} {j s off n : Nat} {cj : List A} (h : s0.get j = some cj) : KpL s0 ow [.sl j s off n] := ⟨⟨_, h⟩, trivial⟩
end Go.Abs
