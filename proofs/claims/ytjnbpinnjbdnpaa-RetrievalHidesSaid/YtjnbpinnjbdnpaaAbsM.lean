/-
  The second engine, part M: arrays written in part, slices that lie in objects, nil slices as empty ones, bytes. Conditions: none; nothing of any program stands here.
-/
import Derived.Test.YtjnbpinnjbdnpaaAbsK
namespace Go.Abs
open Go Go.Eng

theorem fill_part (size : Nat) : ∀ (vs : List (Value × List Value)) (k : Nat) (pre z : List Value), (∀ p ∈ vs, p.1.cells = p.2.toArray ∧ p.2.length = size) → pre.length = k * size → vs.length * size ≤ z.length →
    Instr.fill (fun i => some (i * size, size)) (pre ++ z).toArray (idxd vs k) = some (pre ++ flat vs ++ z.drop (vs.length * size)).toArray
  | [], _, pre, z, _, _, _ => by simp [idxd, flat, Instr.fill]
  | (v, c) :: r, k, pre, z, hv, hp, hz => by
    obtain ⟨h1, h2⟩ := hv (v, c) (by simp)
    simp only at h1 h2
    have hz' : (r.length + 1) * size ≤ z.length := by simpa using hz
    rw [Nat.add_mul, Nat.one_mul] at hz'
    simp only [idxd, Instr.fill, h1, List.size_toArray, h2]
    have hno : ¬ ((decide (size ≠ size) || decide (k * size + size > (pre ++ z).length)) = true) := by
      rw [List.length_append, hp]
      simp; omega
    rw [if_neg hno]
    have hw := wr_cells c 0 (k * size) pre z (by omega) (by omega)
    have ez : c.toArray.zipIdx = (c.zipIdx 0).toArray := by simp
    rw [ez, List.foldl_toArray]
    refine Eq.trans (congrArg (fun a => Instr.fill (fun i => some (i * size, size)) a (idxd r (k + 1))) hw) ?_
    rw [fill_part size r (k + 1) (pre ++ c) (z.drop c.length) (fun p hp => hv p (by simp [hp])) (by rw [List.length_append, hp, h2, Nat.add_mul, Nat.one_mul]) (by rw [List.length_drop]; omega)]
    simp only [flat, List.drop_drop, List.length_cons, h2, List.append_assoc]
    rw [show size + r.length * size = (r.length + 1) * size by rw [Nat.add_mul, Nat.one_mul]; omega]

section
variable {P : Program} {w0 : Bw} {X0 : Xs} {n : Nat} {E : Ev} {st : St} {β : Bm} {X : Xs} {a : Act} {w : World} {Q : Exit → Act → World → Prop} {K : Act → World → Prop}

/-- An array built: the first places written, elements of one cell. -/
theorem y_bldP {t e : TypeId} {len size by' by2 : Nat} {zero zero' : List Value} {agg : Bool} {parts : List (Nat × Operand)} {vs out : List A} {ty : TypeId} (ht : TI P t len by' zero true) (hzl : zero.length = len) (hz1 : zero.all (·.oneCell') = true) (hu : P.underlying t = some (.array len e)) (he : TI P e size by2 zero' agg) (hs : size = 1)
    (hp : pvA E parts 0 = some vs) (hlen : vs.length ≤ len) (h1 : vs.all one = true) (ho : vs ++ (zero.map evC).drop vs.length = out) : YO P E st (.build t parts.toArray) ty (.ag out) := by
  subst hs; subst ho
  intro w0 X0 n β X a w hr
  have key : ∀ (parts : List (Nat × Operand)) (k : Nat) (vs : List A), pvA E parts k = some vs → vs.all one = true → ∃ us : List Value, evps (full a) parts = some (idxd (ones us) k) ∧ VS X w β vs us ∧ ∀ x ∈ us, x.oneCell' = true := by
    intro parts
    induction parts with
    | nil => intro k vs h _; simp only [pvA, Option.some.injEq] at h; subst h; exact ⟨[], rfl, VS_nil, (fun x hx => by cases hx)⟩
    | cons p r ih =>
      intro k vs h h1
      obtain ⟨i, x⟩ := p
      simp only [pvA] at h
      split at h
      · rename_i v vs' hik hx hrest
        simp only [Option.some.injEq] at h
        subst h
        simp only [List.all_cons, Bool.and_eq_true] at h1
        have : i = k := Nat.eq_of_beq_eq_true hik
        subst this
        obtain ⟨us, g1, g2, g3⟩ := ih (i + 1) vs' hrest h1.2
        obtain ⟨e1, e2⟩ := hr.evo hx
        exact ⟨a.eval x :: us, by simp only [evps, e1, g1, ones, idxd], VS_cons e2 g2, fun q hq => by rcases List.mem_cons.1 hq with rfl | hq; exact V_one h1.1 e2; exact g3 q hq⟩
      · cases h
  obtain ⟨us, g1, g2, g3⟩ := key parts 0 vs hp h1
  have hul := VS_len g2
  have hzv : VS X w β ((zero.map evC).drop vs.length) (zero.drop vs.length) := VS_drop (VS_evC zero) _
  refine ⟨.agg (us ++ zero.drop us.length).toArray, ?_, fun d pos aft g w' _ => ?_⟩
  · simp only [V]
    refine ⟨_, rfl, VS_app g2 (by rw [hul]; exact hzv), fun x hx => ?_⟩
    rcases List.mem_append.1 hx with hx | hx
    · exact g3 x hx
    · exact List.all_eq_true.1 hz1 x (List.mem_of_mem_drop hx)
  obtain ⟨z, hz', hzc⟩ := ht.zeroValue w'
  have hfill : Instr.fill (fun i => some (i * 1, 1)) zero.toArray (idxd (ones us) 0) = some (us ++ zero.drop us.length).toArray := by
    have hol : ∀ l : List Value, (ones l).length = l.length := fun l => by induction l with | nil => rfl | cons x l ih => simp [ones, ih]
    have := fill_part 1 (ones us) 0 [] zero (ones_ok g3) (by simp) (by rw [hol, hul, hzl]; omega)
    rw [List.nil_append, List.nil_append, flat_ones, hol, Nat.mul_one] at this
    exact this
  have : (Instr.build t (idxd (ones us) 0).toArray).run P w' = .ok (.agg (us ++ zero.drop us.length).toArray) w' := by
    unfold Instr.build
    rw [Sem.run_bind, hz']
    simp only [Result.andThen_ok, hzc]
    rw [Sem.run_bind, run_underlying hu]
    simp only [Result.andThen_ok]
    rw [Sem.run_bind, he.sizeOf w']
    simp only [Result.andThen_ok, hfill]
    rfl
  have e : execOp a.eval ⟨d, .build t parts.toArray, ty, pos, aft, g⟩ = Next.value <$> Instr.build t (parts.toArray.map fun (i, x) => (i, a.eval x)) := by simp [execOp]
  have e0 : (parts.toArray.map fun (i, x) => (i, a.eval x)) = (idxd (ones us) 0).toArray := by rw [List.map_toArray, (full_rep a hr.defers).evps g1]
  rw [e, e0, Sem.run_map, this]
  rfl

/-- An own slice that lies in an own object is turned no more. -/
theorem at_frzO (k j : Nat) {id s off m : Nat} {cs ds vs vs' : List A} (hk : st.get k = some vs) (hj : vs[j]? = some (.sl id s off m)) (hg : st.get id = some cs) (hne : Nat.beq id k = false) (hp : PureL cs) (hd : (cs.drop off).take (m * s) = ds) (hvs : vs.set j (.fz m ds) = vs') (h : At w0 X0 n E ((st.del id).put k vs') K) : At w0 X0 n E st K := by
  rintro a w ⟨β, X, hr⟩
  subst hd; subst hvs
  have hob := hr.mem.obj k vs hk
  have hne' : id ≠ k := Nat.ne_of_beq_eq_false hne
  obtain ⟨x, hβk⟩ : ∃ x, β k = some x := by
    unfold OB at hob
    split at hob
    · exact hob.elim
    · rename_i hb; exact ⟨_, hb⟩
    · rename_i hb; exact ⟨_, hb⟩
  cases x with
  | ph =>
    unfold OB at hob
    rw [hβk] at hob
    simp only at hob
    subst hob
    simp at hj
  | bk b N =>
    have hob' := hob
    unfold OB at hob
    rw [hβk] at hob
    simp only at hob
    obtain ⟨_, _, us, rest, ty, hw, hl, hvs, hone⟩ := hob
    obtain ⟨u, hu, hvu⟩ := VS_get hvs hj
    obtain ⟨X1, m1, m2, m3, m4⟩ := frz_V hr.mem hg hp hvu
    have hk1 : (st.del id).get k = some vs := by rw [St.get_del, if_neg hne']; exact hk
    have hob1 := m1.obj k vs hk1
    unfold OB at hob1
    rw [hβk] at hob1
    simp only at hob1
    obtain ⟨q1, q2, us', rest', ty', q3, q4, q5, q6⟩ := hob1
    have huse : us' ++ rest' = us ++ rest ∧ us'.length = us.length := by
      rw [hw] at q3
      have := Option.some.inj q3
      have h2 : (us ++ rest).toArray = (us' ++ rest').toArray := by
        unfold row at this
        injection this
      have h3 := VS_len q5
      have h4 := VS_len hvs
      exact ⟨by simpa using congrArg Array.toList h2.symm, by omega⟩
    have hus : us' = us := List.append_inj_left huse.1 huse.2
    subst hus
    have hset : VS X1 w β (vs.set j (.fz m ((cs.drop off).take (m * s)))) us' := by
      have := VS_set q5 (j := j) (m4 s off m u hvu)
      have e : us'.set j u = us' := by
        refine List.ext_getElem (by simp) fun i h1 h2 => ?_
        rw [List.getElem_set]
        split
        · rename_i e; subst e
          have := (List.getElem?_eq_some_iff.1 hu).2
          exact this.symm
        · rfl
      rwa [e] at this
    refine h a w ⟨β, X1, .of (fun b o h => (m2 b o (hr.x0 b o h)).1) (fun b o h => (m3 b o h).elim (hr.xn b o) .inr) (.of m1.below m1.b0 m1.xlt (fun i hi => ?_) (fun i c hi => ?_) (fun i i2 ci cj b M N hij hi hj' h1 h2 => ?_)) (hr.gl.mono m2) hr.size hr.defers (fun s hs => Sus.slots_mono m2 (hr.sslot s hs)) (fun t v ht => ?_)⟩
    · rw [St.free_put] at hi
      split at hi
      · cases hi
      · exact m1.dom i hi
    · rw [St.get_put] at hi
      split at hi
      · rename_i e; subst e
        simp only [Option.some.injEq] at hi
        subst hi
        unfold OB
        rw [hβk]
        exact ⟨q1, q2, us', rest', ty', q3, q4, hset, q6⟩
      · exact m1.obj i c hi
    · skip
      have g' : ∀ i c, ((st.del id).put k (vs.set j (.fz m ((cs.drop off).take (m * s))))).get i = some c → ∃ c', (st.del id).get i = some c' := fun i c hi => by
        rw [St.get_put] at hi
        split at hi
        · rename_i e; subst e; exact ⟨_, hk1⟩
        · exact ⟨c, hi⟩
      obtain ⟨c1, e1⟩ := g' _ _ hi
      obtain ⟨c2, e2⟩ := g' _ _ hj'
      exact m1.inj _ _ _ _ _ _ _ hij e1 e2 h1 h2
    · obtain ⟨u, g1, g2⟩ := hr.slot t v ht
      exact ⟨u, g1, V_mono m2 _ _ _ _ (ExtB.refl β) g2⟩

theorem V_nlfz {u : Value} (h : V X w β .nl u) : V X w β (.fz 0 []) u := by
  simp only [V] at h ⊢
  subst h
  exact ⟨none, 0, rfl, Nat.le_refl _, Nat.zero_le _, fun _ => rfl, (fun h => absurd h (Nat.lt_irrefl _)), by simp [VM]⟩
/-- A nil slice as an empty one. -/
theorem at_nlfz (t : Nat) (ht : E.at? t = some .nl) (h : At w0 X0 n ((t, .fz 0 []) :: E) st K) : At w0 X0 n E st K := by
  rintro a w ⟨β, X, hr⟩
  exact h a w ⟨β, X, hr.say ht hr.mem (fun _ _ h => ⟨h, rfl⟩) (fun _ _ h => .inl h) (fun u hu => V_nlfz hu)⟩
/-- What a result reads as in other words. -/
theorem Con.weak {f : FuncId} {args : List A} {r r' : A} (h : Con P f args (Ret r)) (hw : ∀ X w β u, V X w β r u → V X w β r' u) : Con P f args (Ret r') := by
  intro w X β us hd hx hg ho hi hv
  refine (h w X β us hd hx hg ho hi hv).mono fun v w' hp => ?_
  obtain ⟨q, β', X', st', hr, h1, h2, h3, h4⟩ := hp
  have : q = r := hr
  subst this
  exact ⟨r', β', X', st', rfl, h1, h2, h3, hw _ _ _ _ h4⟩
theorem Con.cast {f : FuncId} {args : List A} {r r' : A} (h : Con P f args (Ret r)) (e : r = r') : Con P f args (Ret r') := e ▸ h
theorem V_nl_tu {e : A} {u : Value} (h : V X w β (.tu [.nl, e]) u) : V X w β (.tu [.fz 0 [], e]) u := by
  simp only [V] at h ⊢
  obtain ⟨us, h1, h2⟩ := h
  simp only [VS] at h2
  obtain ⟨u1, r, rfl, h3, h4⟩ := h2
  exact ⟨_, h1, VS_cons (V_nlfz h3) (by simp only [VS]; exact h4)⟩
section
variable {t t' ty : TypeId} {x y : Operand}
/-- '%' of bytes. -/
theorem remB (p q : UInt8) (hx : ev E x = some (u8 p)) (hy : ev E y = some (u8 q)) (hq : 0 < q.toNat) : YO P E st (.binOp .rem t x y t') ty (u8 (p % q)) := by
  refine (y_rem hx hy (by omega)).v (congrArg (A.i .u8) ?_)
  rw [UInt8.toNat_mod]
  exact (Int.ofNat_tmod _ _).symm
end
theorem ofN_u8 {src dst ty : TypeId} {x : Operand} {ds : TypeDesc} {j : Int} {k : IntKind} (n : Nat) (hs : P.underlying src = some ds) (ht : P.underlying dst = some (.int .u8)) (hx : ev E x = some (.i k j)) (hj : j = (n : Int)) : YO P E st (.convert src dst x) ty (u8 (UInt8.ofNat n)) := by
  subst hj
  refine (y_conv hs ht hx).v (congrArg (A.i .u8) ?_)
  rw [UInt8.toNat_ofNat']
  simp [IntKind.wrap, IntKind.signed, IntKind.bits]
theorem freeze_heap (w : World) (p : Addr) (n : Nat) : (w.freeze p n).heap.size = w.heap.size ∧ ∀ k : Nat, k ≠ p.block → (w.freeze p n).heap[k]? = w.heap[k]? := by
  unfold World.freeze
  split
  · exact ⟨rfl, fun _ _ => rfl⟩
  · exact ⟨by simp, fun k hk => by simp [Array.getElem?_modify, Ne.symm hk]⟩
theorem freeze_cell (w : World) (p : Addr) (n : Nat) (a : Addr) : (w.freeze p n).cell? a = w.cell? a := by
  unfold World.freeze
  split
  · rfl
  · unfold World.cell?
    simp only [Array.getElem?_modify]
    by_cases h : p.block = a.block
    · simp only [h, if_true]
      cases hb : w.heap[a.block]? with
      | none => rfl
      | some o => cases o <;> simp
    · simp only [h, if_false]
theorem freeze_other (w : World) (p : Addr) (n b : Nat) (hb : w.heap[b]? = some (Obj.deferred (some [])) ∨ ∃ r : Loop, w.heap[b]? = some (Obj.loop r)) : (w.freeze p n).heap[b]? = w.heap[b]? := by
  by_cases h : b = p.block
  · subst h
    unfold World.freeze
    split
    · rfl
    · rcases hb with hb | ⟨_, hb⟩ <;> simp [Array.getElem?_modify, hb]
  · exact (freeze_heap w p n).2 b h
theorem freeze_rest (w : World) (p : Addr) (n : Nat) : (w.freeze p n).os = w.os ∧ (w.freeze p n).tape = w.tape ∧ (w.freeze p n).output = w.output := by
  unfold World.freeze
  split <;> exact ⟨rfl, rfl, rfl⟩
/-- A block that is no object's any more is marked. -/
theorem Mem.mark (hm : Mem w0 β X st w) (p : Addr) (k : Nat) (hown : w0.own p.block) (hno : ∀ id cs N, st.get id = some cs → β id ≠ some (.bk p.block N)) : Mem w0 β X st (w.freeze p k) ∧ ExtX X X w (w.freeze p k) := by
  have hx : ExtX X X w (w.freeze p k) := fun b o h => ⟨h, freeze_cell w p k _⟩
  obtain ⟨r1, r2, r3⟩ := freeze_rest w p k
  obtain ⟨s1, s2⟩ := freeze_heap w p k
  refine ⟨.of ⟨r1.trans hm.below.os, r2.trans hm.below.tape, r3.trans hm.below.output, by rw [s1]; exact hm.below.size, fun j hj hM => ?_, fun s hs => Sus.kept_mono (hm.below.sus s hs) fun b hb => freeze_other w p k b hb⟩ hm.b0 (fun b o h => by rw [s1]; exact hm.xlt b o h) hm.dom (fun id cs hg => ?_) hm.inj, hx⟩
  · have : j ≠ p.block := by
      rintro rfl
      rcases hown with h | h
      · omega
      · exact hM h
    rw [s2 j this]
    exact hm.below.block j hj hM
  · have h := hm.obj id cs hg
    unfold OB at *
    split
    · rename_i hb; rw [hb] at h; exact h
    · rename_i hb; rw [hb] at h; exact h
    · rename_i b N hb
      rw [hb] at h
      simp only at h
      obtain ⟨q1, q2, us, rest, ty, q3, q4, q5, q6⟩ := h
      have : b ≠ p.block := by rintro rfl; exact hno id cs N hg hb
      exact ⟨q1, q2, us, rest, ty, by rw [s2 b this]; exact q3, q4, VS_mono hx _ _ _ _ (ExtB.refl β) q5, q6⟩
/-- '[]byte("..")' of a constant: the literal's slice, marked. -/
theorem n_cvb {d : Nat} {t e ty : TypeId} {x : Operand} {id off m : Nat} {cs ds : List A} {pos aft g} (ht : P.underlying t = some (.slice e)) (he : P.underlying e = some (.int .u8)) (hx : ev E x = some (.sl id 1 off m)) (hg : st.get id = some cs) (hc0 : cs ≠ []) (hp : PureL cs) (hds : (cs.drop off).take (m * 1) = ds) (hd : Nat.ble (d + 1) n = true)
    (h : At w0 X0 n ((d, .fz m ds) :: E) (st.del id) K) : At w0 X0 n E st (fun a w => (⟨some d, .convert t t x, ty, pos, aft, g⟩ : Oper).wp P a w K Q) := by
  rintro a w ⟨β, X, hr⟩
  subst hds
  obtain ⟨e1, e2⟩ := hr.evo hx
  have hob := hr.mem.obj id cs hg
  have hv := e2
  simp only [V] at e2
  rcases e2 with ⟨hβ, _⟩ | ⟨b, N, cap, hβ, hu, c1, c2, c3⟩
  · unfold OB at hob
    rw [hβ] at hob
    exact absurd hob hc0
  · unfold OB at hob
    rw [hβ] at hob
    simp only at hob
    obtain ⟨hown, _, us, rest, te, hw, _⟩ := hob
    obtain ⟨X1, m1, m2, m3, m4⟩ := frz_V hr.mem hg hp hv
    obtain ⟨k1, k2⟩ := m1.mark ⟨b, (us ++ rest).length, none⟩ 1 hown (fun id2 cs2 N2 hg2 hb2 => by
      rw [St.get_del] at hg2
      split at hg2
      · cases hg2
      · rename_i hne
        exact hr.mem.inj id id2 cs cs2 b N N2 hne hg hg2 hβ hb2)
    have hrun : (execOp a.eval ⟨some d, .convert t t x, ty, pos, aft, g⟩).run P w = .ok (.value (.slice (some ⟨b, off, none⟩) m cap)) (w.freeze ⟨b, (us ++ rest).length, none⟩ 1) := by
      have hsh : w.shape? b = some (te, (us ++ rest).length) := by
        unfold World.shape?
        rw [hw]
        simp
      simp [execOp, hu, convert, run_underlying ht, run_underlying he, markStringish, hsh]
    unfold Oper.wp
    rw [hrun]
    rw [hu] at hv
    have hx2 : ExtX X X1 w (w.freeze ⟨b, (us ++ rest).length, none⟩ 1) := fun b o h => ⟨(m2 b o h).1, (k2 b o (m2 b o h).1).2.trans (m2 b o h).2⟩
    exact h _ _ ⟨β, X1, hr.putv hd hx2 m3 (ExtB.refl β) k1 (V_mono k2 _ _ _ _ (ExtB.refl β) (m4 1 off m _ hv))⟩
/-- A slot that says either. -/
theorem at_bc (t : Nat) {b : Bool} (hb : E.at? t = some (.b b)) (h1 : b = true → At w0 X0 n ((t, .b true) :: E) st K) (h0 : b = false → At w0 X0 n ((t, .b false) :: E) st K) : At w0 X0 n E st K := by
  cases b with
  | true => exact at_say t hb rfl (h1 rfl)
  | false => exact at_say t hb rfl (h0 rfl)
end
end Go.Abs
