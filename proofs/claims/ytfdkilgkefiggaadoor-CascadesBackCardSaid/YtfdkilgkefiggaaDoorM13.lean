/-
  The engine, the plain laws and the walks that the rows need, part 13. Conditions: none.
-/
import Derived.Test.YtfdkilgkefiggaaDoorM12
import Derived.Lib.BufferWrite
set_option linter.unusedVariables false
set_option linter.unusedSimpArgs false
set_option maxHeartbeats 1000000
set_option maxRecDepth 10000
-- AbsX
namespace Go.Abs
open Go Go.Eng
theorem VS_byteC {X : Xs} {w : World} {β : Bm} : ∀ l : List UInt8, VS X w β (l.map u8) (l.map fun b => Value.int .u8 b.toNat)
  | [] => VS_nil
  | b :: l => VS_cons (by simp only [V]) (VS_byteC l)
section
variable {P : Program} {w0 : Bw} {X0 : Xs} {n : Nat} {E : Ev} {st : St} {K : Act → World → Prop} {Q : Exit → Act → World → Prop}
theorem n_copyS {d : Option Nat} {dT sT ty e : TypeId} {by' : Nat} {zero : List Value} {agg : Bool} {x y : Operand} {id off m : Nat} {cs cs' : List A} {l : List UInt8} {pos aft g} (ht : P.underlying dT = some (.slice e)) (he : TI P e 1 by' zero agg) (hx : ev E x = some (.sl id 1 off m)) (hg : st.get id = some cs) (hy : ev E y = some (.s l))
    (hk0 : 0 < m) (hkm : l.length ≤ m) (hfit : off + l.length ≤ cs.length) (hcs : cs.take off ++ l.map u8 ++ cs.drop (off + l.length) = cs') (hd : okDst n d = true) (h : At w0 X0 n (E.put d (.i .i64 (l.length : Int))) (st.put id cs') K) :
    At w0 X0 n E st (fun a w => (⟨d, .call { callee := .builtin .copy, args := #[x, y], argTypes := #[dT, sT] }, ty, pos, aft, g⟩ : Oper).wp P a w K Q) := by
  rintro a w ⟨β, X, hr⟩
  obtain ⟨e1, e2⟩ := hr.evo hx
  obtain ⟨e3, e4⟩ := hr.evo hy
  simp only [V] at e4
  simp only [V] at e2
  rcases e2 with ⟨_, rfl, _⟩ | ⟨b, N, cap, hβ, e5, c1, c2, c3⟩
  · omega
  · have ho := hr.mem.obj id cs hg
    unfold OB at ho
    rw [hβ] at ho
    obtain ⟨p1, p2, us, rest, ety, p3, p4, p5, p6⟩ := ho
    have hul := VS_len p5
    have hss : (⟨l.toArray⟩ : ByteArray).size = l.length := by simp [ByteArray.size]
    obtain ⟨⟨i, z, i1, i2, i3, i4, i5⟩, hu⟩ := he
    have hrun := Lib.run_copy_row_string (P := P) w dT sT ty e b off m cap ⟨l.toArray⟩ (us ++ rest).toArray ety ht (by rw [i1]; simp [i3]) p3 (by rw [hss]; exact hkm) (by rw [hss]; simp; omega)
    rw [hss] at hrun
    have hbc : Lib.byteCells (⟨l.toArray⟩ : ByteArray).data.toList = l.map fun b => Value.int .u8 b.toNat := by simp [Lib.byteCells]
    rw [hbc] at hrun
    obtain ⟨nus, hnus⟩ : ∃ nus, nus = l.map fun b : UInt8 => Value.int .u8 (b.toNat : Int) := ⟨_, rfl⟩
    have hnl : nus.length = l.length := by rw [hnus]; simp
    rw [← hnus] at hrun
    have hlist : (us ++ rest).toArray.toList.take off ++ nus ++ (us ++ rest).toArray.toList.drop (off + l.length) = (us.take off ++ nus ++ us.drop (off + l.length)) ++ rest := by
      simp only []
      rw [List.take_append_of_le_length (by omega), List.drop_append_of_le_length (by omega)]
      simp
    rw [hlist] at hrun
    have hG := Eng.Good.setRow (gd_one p3) 0 (cs := us ++ rest) rfl ((us.take off ++ nus ++ us.drop (off + l.length)) ++ rest)
    simp only [List.set_cons_zero] at hG
    have hone : ∀ q ∈ nus, q.oneCell' = true := by rw [hnus]; intro q hq; obtain ⟨c, _, rfl⟩ := List.mem_map.1 hq; rfl
    obtain ⟨hm1, hx1⟩ := hr.mem.write (cs' := cs') hg hβ hG (by simp only [List.length_append, List.length_take, List.length_drop]; omega)
      (by rw [← hcs]; exact VS_app (VS_app (VS_take p5 off) (by rw [hnus]; exact VS_byteC l)) (VS_drop p5 _))
      (by intro q hq; simp only [List.mem_append] at hq; rcases hq with (hq | hq) | hq; exact p6 q (List.mem_of_mem_take hq); exact hone q hq; exact p6 q (List.mem_of_mem_drop hq))
    have hexec : (execOp a.eval ⟨d, .call { callee := .builtin .copy, args := #[x, y], argTypes := #[dT, sT] }, ty, pos, aft, g⟩).run P w = .ok (.value (goInt l.length)) (w.setRow b (us.take off ++ nus ++ us.drop (off + l.length) ++ rest).toArray) := by
      have h1 : execOp a.eval ⟨d, .call { callee := .builtin .copy, args := #[x, y], argTypes := #[dT, sT] }, ty, pos, aft, g⟩ = (do pure (.value (← Builtin.copy_ #[dT, sT] ty #[.slice (some ⟨b, off, none⟩) m cap, .string ⟨l.toArray⟩])) : Sem Next) := by
        simp only [execOp, resolve, List.map_toArray, List.map_cons, List.map_nil, e5, e4, pure_bind, invoke, builtin]
      rw [h1, Sem.run_bind, hrun]
      rfl
    unfold Oper.wp
    rw [hexec]
    refine h _ _ ⟨β, X, ?_⟩
    have hkk : goInt l.length = .int .i64 (l.length : Int) := rfl
    cases d with
    | none => exact hr.next0 (full_rep a hr.defers) hx1 (fun _ _ h => .inl h) (ExtB.refl β) hm1
    | some d => exact hr.putv hd hx1 (fun _ _ h => .inl h) (ExtB.refl β) hm1 (by simp only [V]; exact hkk)
variable {r : Option Nat} {ds0 : List Deferred} {N g : Nat} {E0 : EV} {st0 : St} {ops : Array Oper} {nn : Nat} {plan : List Stp} {rest : List Oper} {d : Nat} {ty : TypeId} {pos : String} {aft' : Array Edge} {gd : Option (Nat × Bool)}
theorem fs_s2b {src dst e : TypeId} {x : Operand} {l : List UInt8} (k0 : Nat) (deps : List Nat) (need : List (Nat × Option Nat)) (hg : GuardYes ops (keepI (E0.at k0) deps k0 E) gd) (hs : P.underlying src = some .string) (hdt : P.underlying dst = some (.slice e)) (he : P.underlying e = some (.int .u8)) (hx : ev (keepI (E0.at k0) deps k0 E) x = some (.s l)) (hl : l.length ≤ maxLen) (hb : Nat.ble (d + 1) N = true) (hd : depB k0 deps need = true)
    (h : FS r ds0 P w0 X0 N Q ops nn g E0 st0 (plan ++ [⟨d, .fz l.length (l.map u8), deps, [], [], need, []⟩]) (k0 + 1) ((d, .fz l.length (l.map u8)) :: E) st rest) :
    FS r ds0 P w0 X0 N Q ops nn g E0 st0 plan k0 E st (⟨some d, .convert src dst x, ty, pos, aft', gd⟩ :: rest) :=
  fs_gen ⟨d, .fz l.length (l.map u8), deps, [], [], need, []⟩ (fun hk hE _ _ _ hD _ _ hK => have he' := hD.fin hE hk; ob_gy hg he' (n_s2b hs hdt he (ev_le he' hx) hl hb hK)) hd h
end
theorem PureL_get : ∀ {l : List A} {i : Nat} {c : A}, PureL l → l[i]? = some c → Pure c
  | [], _, _, _, h => by simp at h
  | _ :: _, 0, _, hp, h => by simp at h; subst h; exact hp.1
  | _ :: l, i + 1, _, hp, h => PureL_get (l := l) (i := i) hp.2 (by simpa using h)
section
variable {P : Program} {w0 : Bw} {X0 : Xs} {n : Nat} {E : Ev} {st : St} {K : Act → World → Prop} {Q : Exit → Act → World → Prop}
theorem n_bsZ {d : Nat} {t e : TypeId} {size by' zero agg} {len : Nat} {parts : List (Nat × Operand)} {vs cs : List A} {ty : TypeId} {pos aft g} (ht : P.underlying t = some (.slice e)) (he : TI P e size by' zero agg)
    (hp : pvA E parts 0 = some vs) (hlen : len = vs.length) (hce : vs.all cel = true) (hcl : ∀ v ∈ vs, (cellsA v).length = size) (hfl : flatA vs = cs) (hpu : PureL cs) (hs : Nat.ble (len * size) 16777216 = true) (hs2 : Nat.ble len 16777216 = true) (hd : Nat.ble (d + 1) n = true)
    (h : At w0 X0 n ((d, .fz len cs) :: E) st K) :
    At w0 X0 n E st (fun a w => (⟨some d, .buildSlice t len parts.toArray, ty, pos, aft, g⟩ : Oper).wp P a w K Q) := by
  rintro a w ⟨β, X, hr⟩
  subst hfl
  obtain ⟨us, g1, g2, g3, g4, g5⟩ := pvA_old hr hp (fun v hv => ⟨isAgOr v (List.all_eq_true.1 hce v hv), hcl v hv⟩)
  refine Eng.n_bs (S := [w]) (H := []) (E := full a) (n := a.tmps.size) us ht he g1 rfl (by omega) g3 hs (by rw [hr.size]; exact hd) (fun b hS hH a1 w1 hR hG => ?_) a w (full_rep a hr.defers) (Eng.Good.start w)
  have hb : w.heap.size ≤ b := hS.1
  have hbel := gd_below hG (by simp [hb])
  have hw := hG.own _ (.head _)
  simp only at hw
  have hbl : b < w1.heap.size := (Array.getElem?_eq_some_iff.1 hw).1
  obtain ⟨m1, m2, m3⟩ := hr.mem.see (b := b) (flatA vs).length hbel hb hbl
  have hm2 := Nat.le_of_ble_eq_true hs2
  have hll := VS_len g4
  refine h a1 w1 ⟨β, _, hr.next hR m2 m3 (ExtB.refl β) m1 ?_⟩
  simp only [V]
  refine ⟨_, _, rfl, Nat.le_refl _, by simp only [maxLen]; omega, (fun h => by cases h), (fun _ x hx => by cases hx; rfl), VM_of fun j c hj => ?_⟩
  have hjl := (List.getElem?_eq_some_iff.1 hj).1
  obtain ⟨u, q1, q2⟩ := VS_get g4 hj
  refine ⟨.inr ⟨rfl, by simpa [ao] using hjl⟩, u, ?_, V_mono m2 _ _ _ _ (ExtB.refl _) (V_pure _ _ (PureL_get hpu hj) q2), g5 u (List.mem_of_getElem? q1)⟩
  simp only [ab, ao, Nat.zero_add, World.cell?, hw]
  simp [q1]
variable {r : Option Nat} {ds0 : List Deferred} {N g : Nat} {E0 : EV} {st0 : St} {ops : Array Oper} {nn : Nat} {plan : List Stp} {rest : List Oper} {d : Nat} {ty : TypeId} {pos : String} {aft' : Array Edge} {gd : Option (Nat × Bool)}
theorem fs_bsZ {t e : TypeId} {size by' zero agg} {len : Nat} {parts : List (Nat × Operand)} {vs cs : List A} (k0 : Nat) (deps : List Nat) (hg : GuardYes ops (keepI (E0.at k0) deps k0 E) gd) (ht : P.underlying t = some (.slice e)) (he : TI P e size by' zero agg)
    (hp : pvA (keepI (E0.at k0) deps k0 E) parts 0 = some vs) (hlen : len = vs.length) (hce : vs.all cel = true) (hcl : ∀ v ∈ vs, (cellsA v).length = size) (hfl : flatA vs = cs) (hpu : PureL cs) (hs : Nat.ble (len * size) 16777216 = true) (hs2 : Nat.ble len 16777216 = true) (hb : Nat.ble (d + 1) N = true) (hd : depB k0 deps [] = true)
    (h : FS r ds0 P w0 X0 N Q ops nn g E0 st0 (plan ++ [⟨d, .fz len cs, deps, [], [], [], []⟩]) (k0 + 1) ((d, .fz len cs) :: E) st rest) : FS r ds0 P w0 X0 N Q ops nn g E0 st0 plan k0 E st (⟨some d, .buildSlice t len parts.toArray, ty, pos, aft', gd⟩ :: rest) :=
  fs_gen ⟨d, .fz len cs, deps, [], [], [], []⟩ (fun hk hE _ _ _ hD _ _ hK => have he' := hD.fin hE hk; ob_gy hg he' (n_bsZ ht he (pvA_le he' hp) hlen hce hcl hfl hpu hs hs2 hb hK)) hd h
end
end Go.Abs
-- C4S
namespace Go.Abs.D2
open Go Go.Eng Go.Abs
abbrev intV (n : Int) : CV := .mk 1 n [] []
abbrev txtV (s : List UInt8) : CV := .mk 2 0 s []
abbrev lstV (l : List CV) : CV := .mk 3 0 [] l
abbrev filV (f : Fil) : CV := lstV [intV f.nb, txtV f.D]
def casV (c : Cas) : CV := lstV [txtV c.x, lstV (c.F.map filV), lstV (c.E.map intV)]
def CV.kd : CV → Int | .mk k _ _ _ => k
def CV.nm : CV → Int | .mk _ n _ _ => n
def CV.st : CV → List UInt8 | .mk _ _ s _ => s
def CV.ls : CV → List CV | .mk _ _ _ l => l
theorem okB_int (n : Int) : (intV n).okB = true := by rw [CV.okB, if_pos rfl]; rfl
theorem okB_txt (s : List UInt8) : (txtV s).okB = true := by rw [CV.okB, if_neg (by decide), if_pos rfl]; rfl
theorem okB_lst {l : List CV} (h : ∀ v ∈ l, v.okB = true) : (lstV l).okB = true := by
  rw [CV.okB, if_neg (by decide), if_neg (by decide), if_pos rfl, CV.okBL_all, List.all_eq_true.2 h]; rfl
theorem okB_fil (f : Fil) : (filV f).okB = true := okB_lst fun v hv => by
  simp only [List.mem_cons, List.not_mem_nil, or_false] at hv
  rcases hv with rfl | rfl
  · exact okB_int _
  · exact okB_txt _
theorem okB_cas (c : Cas) : (casV c).okB = true := okB_lst fun v hv => by
  simp only [List.mem_cons, List.not_mem_nil, or_false] at hv
  rcases hv with rfl | rfl | rfl
  · exact okB_txt _
  · exact okB_lst fun v hv => by obtain ⟨f, _, rfl⟩ := List.mem_map.1 hv; exact okB_fil f
  · exact okB_lst fun v hv => by obtain ⟨f, _, rfl⟩ := List.mem_map.1 hv; exact okB_int f
theorem dep_lst {l : List CV} {d : Nat} (h : ∀ v ∈ l, v.depth ≤ d) : (lstV l).depth ≤ d + 1 := by
  rw [CV.depth, if_pos rfl]; have := depthL_le h; omega
theorem dep_int (n : Int) : (intV n).depth = 0 := by rw [CV.depth, if_neg (by decide)]
theorem dep_txt (s : List UInt8) : (txtV s).depth = 0 := by rw [CV.depth, if_neg (by decide)]
theorem dep_cas (c : Cas) : (casV c).depth ≤ 16 := by
  refine Nat.le_trans (dep_lst (d := 2) fun v hv => ?_) (by omega)
  simp only [List.mem_cons, List.not_mem_nil, or_false] at hv
  rcases hv with rfl | rfl | rfl
  · rw [dep_txt]; omega
  · exact dep_lst (d := 1) fun v hv => by
      obtain ⟨f, _, rfl⟩ := List.mem_map.1 hv
      exact dep_lst (d := 0) fun v hv => by
        simp only [List.mem_cons, List.not_mem_nil, or_false] at hv
        rcases hv with rfl | rfl
        · rw [dep_int]; exact Nat.le_refl _
        · rw [dep_txt]; exact Nat.le_refl _
  · exact dep_lst (d := 1) fun v hv => by obtain ⟨f, _, rfl⟩ := List.mem_map.1 hv; rw [dep_int]; omega
theorem rng_int {n : Int} (h0 : -9223372036854775808 ≤ n) (h1 : n ≤ 9223372036854775807) : (intV n).rng = true := by simp [CV.rng, CV.rngL, h0, h1]
theorem rng_txt (s : List UInt8) : (txtV s).rng = true := by simp [CV.rng, CV.rngL]
theorem rng_lst {l : List CV} (h : ∀ v ∈ l, v.rng = true) : (lstV l).rng = true := by
  simp only [CV.rng, CV.rngL_all, List.all_eq_true.2 h]; rfl
theorem chkC_nb {c : Cas} (h : chkC c = true) : ∀ f ∈ c.F, 0 ≤ f.nb ∧ f.nb ≤ 4096 ∧ f.D.length ≤ 512 := fun f hf => by
  obtain ⟨i, hi⟩ := List.mem_iff_getElem?.1 hf
  obtain ⟨_, n, h1, h2, h3, h4, _⟩ := chkC_get h hi
  omega
theorem rng_cas {c : Cas} (h : chkC c = true) : (casV c).rng = true := rng_lst fun v hv => by
  simp only [List.mem_cons, List.not_mem_nil, or_false] at hv
  rcases hv with rfl | rfl | rfl
  · exact rng_txt _
  · exact rng_lst fun v hv => by
      obtain ⟨f, hf, rfl⟩ := List.mem_map.1 hv
      obtain ⟨h1, h2, _⟩ := chkC_nb h f hf
      exact rng_lst fun v hv => by
        simp only [List.mem_cons, List.not_mem_nil, or_false] at hv
        rcases hv with rfl | rfl
        · exact rng_int (by omega) (by omega)
        · exact rng_txt _
  · exact rng_lst fun v hv => by
      obtain ⟨n, hn, rfl⟩ := List.mem_map.1 hv
      obtain ⟨_, he, _⟩ := chkC_all h
      have := listed_mem he n hn
      exact rng_int (by omega) (by omega)
theorem encL_le {l : List CV} {k : Nat} (h : ∀ v ∈ l, v.enc.length ≤ k) : (CV.encL l).length ≤ l.length * k := by
  induction l with
  | nil => simp [CV.encL]
  | cons v l ih =>
    have h1 := h v (.head _)
    have h2 := ih fun u hu => h u (.tail _ hu)
    rw [CV.encL, List.length_append, List.length_cons, Nat.succ_mul]; omega
theorem enc_int {n : Int} (h0 : -9223372036854775808 ≤ n) (h1 : n ≤ 9223372036854775807) : (intV n).enc.length ≤ 12 := by
  have := len_numL (uns_nat h0 h1)
  rw [CV.enc, if_pos rfl, List.length_cons]; omega
theorem enc_txt {s : List UInt8} (h : s.length < 2 ^ 64) : (txtV s).enc.length ≤ s.length + 12 := by
  have := len_numL h
  rw [CV.enc, if_neg (by decide), if_pos rfl, List.length_cons, List.length_append]; omega
theorem enc_lst {l : List CV} (h : l.length < 2 ^ 64) : (lstV l).enc.length ≤ (CV.encL l).length + 12 := by
  have := len_numL h
  rw [CV.enc, if_neg (by decide), if_neg (by decide), List.length_cons, List.length_append]; omega
theorem asc_len : ∀ {l : List Int} {last : Int}, ascB last l = true → last < 1024 → last + l.length < 1024
  | [], last, _, h => by simpa using h
  | n :: l, last, h, _ => by
    simp only [ascB, Bool.and_eq_true, decide_eq_true_eq] at h
    have := asc_len h.2 h.1.2
    simp only [List.length_cons]; omega
theorem listed_len {l : List Int} (h : listedB l = true) : l.length ≤ 1024 := by
  have := asc_len h (by omega)
  omega
theorem enc_cas {c : Cas} (h : chkC c = true) (hx : c.x.length = 32) : (casV c).enc.length ≤ 30000 := by
  obtain ⟨h1, h2, _⟩ := chkC_all h
  have he := listed_len h2
  have e1 : (txtV c.x).enc.length ≤ 44 := by have := enc_txt (s := c.x) (by omega); omega
  have e2 : (lstV (c.F.map filV)).enc.length ≤ 10000 := by
    have q1 := enc_lst (l := c.F.map filV) (by rw [List.length_map]; omega)
    have q2 := encL_le (l := c.F.map filV) (k := 600) fun v hv => by
      obtain ⟨f, hf, rfl⟩ := List.mem_map.1 hv
      obtain ⟨k1, k2, k3⟩ := chkC_nb h f hf
      have q3 : (filV f).enc.length ≤ _ := enc_lst (l := [intV f.nb, txtV f.D]) (by simp)
      have q4 := enc_int (n := f.nb) (by omega) (by omega)
      have q5 := enc_txt (s := f.D) (by omega)
      simp only [CV.encL, List.length_append, List.length_nil] at q3
      omega
    rw [List.length_map] at q2
    omega
  have e3 : (lstV (c.E.map intV)).enc.length ≤ 12300 := by
    have q1 := enc_lst (l := c.E.map intV) (by rw [List.length_map]; omega)
    have q2 := encL_le (l := c.E.map intV) (k := 12) fun v hv => by
      obtain ⟨n, hn, rfl⟩ := List.mem_map.1 hv
      have := listed_mem h2 n hn
      exact enc_int (by omega) (by omega)
    rw [List.length_map] at q2
    omega
  have q := enc_lst (l := [txtV c.x, lstV (c.F.map filV), lstV (c.E.map intV)]) (by simp)
  simp only [CV.encL, List.length_append, List.length_nil] at q
  show (lstV _).enc.length ≤ _
  omega
theorem rd_cas {c : Cas} (h : chkC c = true) : Rd 16 (casV c) := ⟨okB_cas c, dep_cas c, rng_cas h⟩
theorem dec_cas {c : Cas} (h : chkC c = true) (hx : c.x.length = 32) : decV (casV c).enc = some (casV c) := dec_enc (rd_cas h) (by have := enc_cas h hx; omega)
def partsB (v : CV) (ks : List Int) : Bool := decide (v.kd = 3) && (v.ls.map CV.kd == ks)
def nthV (v : CV) (i : Nat) : CV := v.ls.getD i zV
def filR (i : Nat) (v : CV) : Fil := ⟨i, (nthV v 0).nm, (nthV v 1).st⟩
def filsR (l : List CV) : List Fil := l.mapIdx filR
theorem filsR_next {l : List CV} {i : Nat} {v : CV} (h : l[i]? = some v) : filsR (l.take i) ++ [filR i v] = filsR (l.take (i + 1)) := by
  have hi := (List.getElem?_eq_some_iff.1 h).1
  unfold filsR
  rw [List.take_add_one, h]
  simp only [Option.toList_some, List.mapIdx_append, List.mapIdx_cons, List.mapIdx_nil, List.length_take, Nat.zero_add]
  rw [Nat.min_eq_left (by omega)]
@[simp] theorem len_filsR (l : List CV) : (filsR l).length = l.length := by simp [filsR]
def readB (v : CV) : Bool := partsB v [2, 3, 3] && decide ((nthV v 0).st.length = 32) && (nthV v 1).ls.all (fun e => partsB e [1, 2]) && (nthV v 2).ls.all (fun e => decide (e.kd = 1))
def readC (v : CV) : Cas := ⟨(nthV v 0).st, filsR (nthV v 1).ls, (nthV v 2).ls.map CV.nm⟩
def rreadB (v : CV) : Bool := decide (v.ls.length = 3) && decide ((nthV v 0).st.length = 32) && (nthV v 1).ls.all (fun e => decide (e.ls.length = 2))
theorem parts_len {v : CV} {ks : List Int} (h : partsB v ks = true) : v.kd = 3 ∧ v.ls.length = ks.length := by
  unfold partsB at h
  simp only [Bool.and_eq_true, decide_eq_true_eq, beq_iff_eq] at h
  exact ⟨h.1, by rw [← h.2, List.length_map]⟩
theorem rread_of {v : CV} (h : readB v = true) : rreadB v = true := by
  unfold readB at h
  simp only [Bool.and_eq_true, decide_eq_true_eq, List.all_eq_true] at h
  obtain ⟨⟨⟨h1, h2⟩, h3⟩, _⟩ := h
  unfold rreadB
  simp only [Bool.and_eq_true, decide_eq_true_eq, List.all_eq_true]
  exact ⟨⟨(parts_len h1).2, h2⟩, fun e he => (parts_len (h3 e he)).2⟩
theorem okB_kd {v : CV} (h : v.okB = true) : (v.kd = 1 → v = intV v.nm) ∧ (v.kd = 2 → v = txtV v.st) ∧ (v.kd = 3 → v = lstV v.ls ∧ ∀ u ∈ v.ls, u.okB = true) := by
  obtain ⟨k, n, s, l⟩ := v
  simp only [CV.kd, CV.nm, CV.st, CV.ls]
  refine ⟨?_, ?_, ?_⟩
  · rintro rfl
    rw [CV.okB, if_pos rfl] at h
    simp only [Bool.and_eq_true, List.isEmpty_iff] at h
    obtain ⟨rfl, rfl⟩ := h; rfl
  · rintro rfl
    rw [CV.okB, if_neg (by decide), if_pos rfl] at h
    simp only [Bool.and_eq_true, List.isEmpty_iff, decide_eq_true_eq] at h
    obtain ⟨rfl, rfl⟩ := h; rfl
  · rintro rfl
    rw [CV.okB, if_neg (by decide), if_neg (by decide), if_pos rfl] at h
    simp only [Bool.and_eq_true, List.isEmpty_iff, decide_eq_true_eq] at h
    obtain ⟨⟨rfl, rfl⟩, h⟩ := h
    rw [CV.okBL_all] at h
    exact ⟨rfl, List.all_eq_true.1 h⟩
theorem parts_3 {v : CV} {a b c : Int} (h : partsB v [a, b, c] = true) : ∃ u1 u2 u3, v.ls = [u1, u2, u3] ∧ u1.kd = a ∧ u2.kd = b ∧ u3.kd = c := by
  unfold partsB at h
  simp only [Bool.and_eq_true, decide_eq_true_eq, beq_iff_eq] at h
  obtain ⟨_, h⟩ := h
  match hl : v.ls, h with
  | [u1, u2, u3], h => simp only [List.map_cons, List.map_nil, List.cons.injEq, and_true] at h; exact ⟨u1, u2, u3, rfl, h.1, h.2.1, h.2.2⟩
theorem parts_2 {v : CV} {a b : Int} (h : partsB v [a, b] = true) : ∃ u1 u2, v.ls = [u1, u2] ∧ u1.kd = a ∧ u2.kd = b := by
  unfold partsB at h
  simp only [Bool.and_eq_true, decide_eq_true_eq, beq_iff_eq] at h
  obtain ⟨_, h⟩ := h
  match hl : v.ls, h with
  | [u1, u2], h => simp only [List.map_cons, List.map_nil, List.cons.injEq, and_true] at h; exact ⟨u1, u2, rfl, h.1, h.2⟩
theorem filV_filR {v : CV} (h : v.okB = true) (hp : partsB v [1, 2] = true) (i : Nat) : filV (filR i v) = v := by
  obtain ⟨h1, h2⟩ := (okB_kd h).2.2 (parts_len hp).1
  obtain ⟨a, b, hl, ha, hb⟩ := parts_2 hp
  have ka := (okB_kd (h2 a (by rw [hl]; exact .head _))).1 ha
  have kb := (okB_kd (h2 b (by rw [hl]; exact .tail _ (.head _)))).2.1 hb
  have e0 : nthV v 0 = a := by unfold nthV; rw [hl]; rfl
  have e1 : nthV v 1 = b := by unfold nthV; rw [hl]; rfl
  rw [h1, hl]
  show lstV [intV (nthV (lstV [a, b]) 0).nm, txtV (nthV (lstV [a, b]) 1).st] = _
  show lstV [intV a.nm, txtV b.st] = _
  rw [← ka, ← kb]
theorem map_filsR {l : List CV} (h : ∀ v ∈ l, ∀ i, filV (filR i v) = v) : (filsR l).map filV = l := by
  unfold filsR
  apply List.ext_getElem?
  intro i
  rw [List.getElem?_map, List.getElem?_mapIdx]
  cases hi : l[i]? with
  | none => rfl
  | some v => simp only [Option.map_some]; rw [h v (List.mem_of_getElem? hi) i]
theorem casV_readC {v : CV} (ho : v.okB = true) (h : readB v = true) : casV (readC v) = v := by
  unfold readB at h
  simp only [Bool.and_eq_true, decide_eq_true_eq, List.all_eq_true] at h
  obtain ⟨⟨⟨h1, _⟩, h3⟩, h4⟩ := h
  obtain ⟨k1, k2⟩ := (okB_kd ho).2.2 (parts_len h1).1
  obtain ⟨a, b, c, hl, ha, hb, hc⟩ := parts_3 h1
  have ka := (okB_kd (k2 a (by rw [hl]; exact .head _))).2.1 ha
  obtain ⟨kb, kb2⟩ := (okB_kd (k2 b (by rw [hl]; exact .tail _ (.head _)))).2.2 hb
  obtain ⟨kc, kc2⟩ := (okB_kd (k2 c (by rw [hl]; exact .tail _ (.tail _ (.head _))))).2.2 hc
  have e0 : nthV v 0 = a := by unfold nthV; rw [hl]; rfl
  have e1 : nthV v 1 = b := by unfold nthV; rw [hl]; rfl
  have e2 : nthV v 2 = c := by unfold nthV; rw [hl]; rfl
  rw [e1] at h3
  rw [e2] at h4
  unfold casV readC
  rw [e0, e1, e2]
  dsimp only
  rw [map_filsR fun u hu i => filV_filR (kb2 u hu) (h3 u hu) i]
  have hc3 : (c.ls.map CV.nm).map intV = c.ls := by
    rw [List.map_map]
    refine (List.map_congr_left fun u hu => ?_).trans (List.map_id _)
    exact ((okB_kd (kc2 u hu)).1 (h4 u hu)).symm
  rw [hc3, ← ka, ← kb, ← kc, ← hl, ← k1]
theorem filsR_filV (F : List Fil) (h : ∀ (i : Nat) (f : Fil), F[i]? = some f → f.lv = i) : filsR (F.map filV) = F := by
  unfold filsR
  apply List.ext_getElem?
  intro i
  rw [List.getElem?_mapIdx, List.getElem?_map]
  cases hi : F[i]? with
  | none => rfl
  | some f =>
    simp only [Option.map_some, Option.some.injEq]
    have := h i f hi
    obtain ⟨lv, nb, D⟩ := f
    simp only at this
    subst this
    rfl
theorem readB_cas {c : Cas} (hx : c.x.length = 32) : readB (casV c) = true := by
  unfold readB
  simp only [Bool.and_eq_true, decide_eq_true_eq, List.all_eq_true]
  refine ⟨⟨⟨rfl, hx⟩, fun e he => ?_⟩, fun e he => ?_⟩
  · obtain ⟨f, _, rfl⟩ := List.mem_map.1 (show e ∈ c.F.map filV from he); rfl
  · obtain ⟨n, _, rfl⟩ := List.mem_map.1 (show e ∈ c.E.map intV from he); rfl
theorem readC_cas {c : Cas} (h : chkC c = true) : readC (casV c) = c := by
  have h1 : filsR (c.F.map filV) = c.F := filsR_filV _ fun i f hi => (chkC_get h hi).1
  have h2 : (c.E.map intV).map CV.nm = c.E := by
    rw [List.map_map]; exact (List.map_congr_left fun _ _ => rfl).trans (List.map_id _)
  show Cas.mk c.x (filsR (c.F.map filV)) ((c.E.map intV).map CV.nm) = c
  rw [h1, h2]
abbrev casN : List A := Z32.map u8 ++ [.nl, .nl]
@[irreducible] def encCA (c : Cas) : A := if chkC c then .tu [.fz (casV c).enc.length ((casV c).enc.map u8), .i .i64 0] else .tu [.nl, .i .i64 340]
theorem encCA_y {c : Cas} (h : chkC c = true) : encCA c = .tu [.fz (casV c).enc.length ((casV c).enc.map u8), .i .i64 0] := by unfold encCA; rw [h]; rfl
theorem encCA_n {c : Cas} (h : chkC c = false) : encCA c = .tu [.nl, .i .i64 340] := by unfold encCA; rw [h]; rfl
@[irreducible] def decCb (b : List UInt8) : Option Cas := match decV b with
  | some v => if readB v && chkC (readC v) then some (readC v) else none
  | none => none
@[irreducible] def decCe (b : List UInt8) : Int := match decV b with
  | some v => if readB v && chkC (readC v) then 0 else 340
  | none => 10
@[irreducible] def decCA (b : List UInt8) : A := match decCb b with
  | some c => .tu [.ag (casL c), .i .i64 0]
  | none => .tu [.ag casN, .i .i64 (decCe b)]
theorem decCA_y {b : List UInt8} {v : CV} (h : decV b = some v) (h1 : readB v = true) (h2 : chkC (readC v) = true) : decCA b = .tu [.ag (casL (readC v)), .i .i64 0] := by
  unfold decCA decCb; rw [h]; simp [h1, h2]
theorem decCA_n {b : List UInt8} {v : CV} (h : decV b = some v) (h1 : (readB v && chkC (readC v)) = false) : decCA b = .tu [.ag casN, .i .i64 340] := by
  unfold decCA decCb decCe; rw [h]; simp [h1]
theorem decCA_e {b : List UInt8} (h : decV b = none) : decCA b = .tu [.ag casN, .i .i64 10] := by
  unfold decCA decCb decCe; rw [h]
theorem rdec_iff {b : List UInt8} {v : CV} (hb : b.length < 2 ^ 64) (h : decV b = some v) : (readB v && chkC (readC v)) = (rreadB v && (chkC (readC v) && ((casV (readC v)).enc == b))) := by
  obtain ⟨he, hr⟩ := dec_spec hb h
  cases h1 : readB v with
  | true =>
    rw [rread_of h1, casV_readC hr.1 h1, he]; simp
  | false =>
    cases h2 : rreadB v with
    | false => rfl
    | true =>
      cases h3 : chkC (readC v) with
      | false => rfl
      | true =>
        simp only [Bool.false_and, Bool.true_and]
        refine (beq_eq_false_iff_ne.2 fun h4 => ?_).symm
        have hx : (readC v).x.length = 32 := by
          unfold rreadB at h2
          simp only [Bool.and_eq_true, decide_eq_true_eq] at h2
          exact h2.1.2
        have h5 := dec_cas h3 hx
        rw [h4, h] at h5
        simp only [Option.some.injEq] at h5
        have h6 := readB_cas hx
        rw [← h5, h1] at h6
        cases h6
theorem view_cv {l : List CV} {m : Nat} (h : m = l.length) : ((CV.cellsL l).drop 0).take (m * 4) = CV.cellsL l := by subst h; exact CV.cellsL_all l
theorem one_cv (v : CV) : cellsA (A.ag (CV.cells v)) ++ [] = CV.cells v := List.append_nil _
theorem fil_nextV {F : List Fil} {i : Nat} {f : Fil} (h : F[i]? = some f) : CV.cellsL ((F.take i).map filV) ++ CV.cells (filV f) = CV.cellsL ((F.take (i + 1)).map filV) := by
  rw [CV.cellsL_snoc, List.take_add_one, h]; simp
theorem int_nextV {E : List Int} {i : Nat} {q : Int} (h : E[i]? = some q) : CV.cellsL ((E.take i).map intV) ++ CV.cells (intV q) = CV.cellsL ((E.take (i + 1)).map intV) := by
  rw [CV.cellsL_snoc, List.take_add_one, h]; simp
theorem cas_cut {c : Cas} (hx : c.x.length = 32) : A.fz 32 (((casL c).drop (0 * 1)).take (32 * 1)) = .fz c.x.length (c.x.map u8) := by
  rw [Nat.zero_mul, List.drop_zero, cas_x hx, hx]
theorem encA_cas {c : Cas} (h : chkC c = true) : encA (casV c) = .tu [.fz (casV c).enc.length ((casV c).enc.map u8), .i .i64 0] := encA_yes (rd_cas h).chk
abbrev tagC : List UInt8 := [99, 97, 115, 99, 97, 100, 101]
@[irreducible] def digC (c : Cas) : List UInt8 := tagged tagC (casV c).enc
theorem digC_eq (c : Cas) : digC c = tagged tagC (casV c).enc := by unfold digC; rfl
@[simp] theorem len_digC (c : Cas) : (digC c).length = 32 := by rw [digC_eq]; simp
@[irreducible] def digCA (c : Cas) : A := if chkC c then .tu [.ag ((digC c).map u8), .i .i64 0] else .tu [.ag (Z32.map u8), .i .i64 340]
theorem digCA_y {c : Cas} (h : chkC c = true) : digCA c = .tu [.ag ((digC c).map u8), .i .i64 0] := by unfold digCA; rw [h]; rfl
theorem digCA_n {c : Cas} (h : chkC c = false) : digCA c = .tu [.ag (Z32.map u8), .i .i64 340] := by unfold digCA; rw [h]; rfl
theorem size_cas {c : Cas} (h : chkC c = true) (hx : c.x.length = 32) : (casV c).size ≤ 1000000 := by
  have h1 := CV.size_enc (casV c).size (casV c) (Nat.le_refl _) (okB_cas c)
  have h2 := enc_cas h hx
  omega
theorem get_kd {l : List CV} {i : Nat} {v : CV} (h : l[i]? = some v) : (((CV.cellsL l).drop (i * 4)).drop 0)[0]? = some (.i .i64 v.kd) := by
  have e : (((CV.cellsL l).drop (i * 4)).take 4)[0]? = some (A.i .i64 v.kd) := by rw [CV.get h]; cases v; rfl
  rwa [List.getElem?_take_of_lt (by omega)] at e
theorem parts_ways (v : CV) (ks : List Int) : (v.kd ≠ 3 ∧ partsB v ks = false) ∨ (v.kd = 3 ∧ v.ls.length ≠ ks.length ∧ partsB v ks = false) ∨ (v.kd = 3 ∧ v.ls.length = ks.length) := by
  by_cases h1 : v.kd = 3
  · by_cases h2 : v.ls.length = ks.length
    · exact .inr (.inr ⟨h1, h2⟩)
    · refine .inr (.inl ⟨h1, h2, ?_⟩)
      cases h3 : partsB v ks with
      | false => rfl
      | true => exact absurd (parts_len h3).2 h2
  · refine .inl ⟨h1, ?_⟩
    unfold partsB; simp [h1]
theorem kd_next {l : List CV} {ks : List Int} {i : Nat} {v : CV} {q : Int} (h : (l.take i).map CV.kd = ks.take i) (hv : l[i]? = some v) (hq : ks[i]? = some q) (e : v.kd = q) : (l.take (i + 1)).map CV.kd = ks.take (i + 1) := by
  rw [List.take_add_one, List.take_add_one, hv, hq]; simp [h, e]
theorem parts_no {k n : Int} {s : List UInt8} {l : List CV} {ks : List Int} {i : Nat} {v : CV} {q : Int} (hv : l[i]? = some v) (hq : ks[i]? = some q) (e : v.kd ≠ q) : partsB (.mk k n s l) ks = false := by
  unfold partsB
  have : (l.map CV.kd == ks) = false := beq_eq_false_iff_ne.2 fun h => e (by
    have h1 : (l.map CV.kd)[i]? = some v.kd := by rw [List.getElem?_map, hv]; rfl
    rw [h, hq] at h1; exact (Option.some.inj h1).symm)
  show (_ && (l.map CV.kd == ks)) = false
  rw [this, Bool.and_false]
theorem parts_yes {n : Int} {s : List UInt8} {l : List CV} {ks : List Int} (h : (l.take ks.length).map CV.kd = ks.take ks.length) (hl : l.length = ks.length) : partsB (.mk 3 n s l) ks = true := by
  rw [List.take_length, ← hl, List.take_length] at h
  unfold partsB
  show (_ && (l.map CV.kd == ks)) = true
  rw [h]; simp [CV.kd]
theorem kd_mk {v : CV} {k : Int} (h : v.kd = k) : ∃ n s l, v = .mk k n s l := by cases v; subst h; exact ⟨_, _, _, rfl⟩
theorem read_ways (v : CV) : partsB v [2, 3, 3] = false ∨ ∃ n s na sa la nb sb lb nc sc lc, v = .mk 3 n s [.mk 2 na sa la, .mk 3 nb sb lb, .mk 3 nc sc lc] := by
  cases h : partsB v [2, 3, 3] with
  | false => exact .inl rfl
  | true =>
    obtain ⟨a, b, c, hl, ha, hb, hc⟩ := parts_3 h
    obtain ⟨na, sa, la, rfl⟩ := kd_mk ha
    obtain ⟨nb, sb, lb, rfl⟩ := kd_mk hb
    obtain ⟨nc, sc, lc, rfl⟩ := kd_mk hc
    obtain ⟨n, s, l, rfl⟩ := kd_mk (parts_len h).1
    exact .inr ⟨n, s, na, sa, la, nb, sb, lb, nc, sc, lc, by rw [show l = _ from hl]⟩
theorem parts2_mk {v : CV} (h : partsB v [1, 2] = true) : ∃ n s na sa la nb sb lb, v = .mk 3 n s [.mk 1 na sa la, .mk 2 nb sb lb] := by
  obtain ⟨a, b, hl, ha, hb⟩ := parts_2 h
  obtain ⟨na, sa, la, rfl⟩ := kd_mk ha
  obtain ⟨nb, sb, lb, rfl⟩ := kd_mk hb
  obtain ⟨n, s, l, rfl⟩ := kd_mk (parts_len h).1
  exact ⟨n, s, na, sa, la, nb, sb, lb, by rw [show l = _ from hl]⟩
@[irreducible] def readVA (v : CV) : A := if readB v then .tu [.ag (casL (readC v)), .b true] else .tu [.ag casN, .b false]
theorem readVA_y {v : CV} (h : readB v = true) : readVA v = .tu [.ag (casL (readC v)), .b true] := by unfold readVA; rw [h]; rfl
theorem readVA_n {v : CV} (h : readB v = false) : readVA v = .tu [.ag casN, .b false] := by unfold readVA; rw [h]; rfl
section
variable {n na nb nc : Int} {s sa sb : List UInt8} {la lb lc : List CV} {sc : List UInt8}
theorem readB_len (h : sa.length ≠ 32) : readB (.mk 3 n s [.mk 2 na sa la, .mk 3 nb sb lb, .mk 3 nc sc lc]) = false := by
  unfold readB; rw [show (nthV (CV.mk 3 n s [.mk 2 na sa la, .mk 3 nb sb lb, .mk 3 nc sc lc]) 0).st = sa from rfl, decide_eq_false h]; simp
theorem readB_fil {i : Nat} {v : CV} (hv : lb[i]? = some v) (h : partsB v [1, 2] = false) : readB (.mk 3 n s [.mk 2 na sa la, .mk 3 nb sb lb, .mk 3 nc sc lc]) = false := by
  unfold readB
  have : (lb.all fun e => partsB e [1, 2]) = false := by rw [List.all_eq_false]; exact ⟨v, List.mem_of_getElem? hv, by simp [h]⟩
  rw [show (nthV (CV.mk 3 n s [.mk 2 na sa la, .mk 3 nb sb lb, .mk 3 nc sc lc]) 1).ls = lb from rfl, this]; simp
theorem readB_int {i : Nat} {v : CV} (hv : lc[i]? = some v) (h : v.kd ≠ 1) : readB (.mk 3 n s [.mk 2 na sa la, .mk 3 nb sb lb, .mk 3 nc sc lc]) = false := by
  unfold readB
  have : (lc.all fun e => decide (e.kd = 1)) = false := by rw [List.all_eq_false]; exact ⟨v, List.mem_of_getElem? hv, by simp [h]⟩
  rw [show (nthV (CV.mk 3 n s [.mk 2 na sa la, .mk 3 nb sb lb, .mk 3 nc sc lc]) 2).ls = lc from rfl, this]; simp
theorem readB_yes (hx : sa.length = 32) (h1 : (lb.take lb.length).all (fun e => partsB e [1, 2]) = true) (h2 : (lc.take lc.length).all (fun e => decide (e.kd = 1)) = true) : readB (.mk 3 n s [.mk 2 na sa la, .mk 3 nb sb lb, .mk 3 nc sc lc]) = true := by
  rw [List.take_length] at h1 h2
  unfold readB
  rw [show (nthV (CV.mk 3 n s [.mk 2 na sa la, .mk 3 nb sb lb, .mk 3 nc sc lc]) 0).st = sa from rfl, show (nthV (CV.mk 3 n s [.mk 2 na sa la, .mk 3 nb sb lb, .mk 3 nc sc lc]) 1).ls = lb from rfl, show (nthV (CV.mk 3 n s [.mk 2 na sa la, .mk 3 nb sb lb, .mk 3 nc sc lc]) 2).ls = lc from rfl, h1, h2, decide_eq_true hx]
  rfl
theorem read_cells (_hx : sa.length = 32) : casL (readC (.mk 3 n s [.mk 2 na sa la, .mk 3 nb sb lb, .mk 3 nc sc lc])) = sa.map u8 ++ [.fz lb.length ((filsR lb).flatMap filC), .fz lc.length ((lc.map CV.nm).map iA)] := by
  show sa.map u8 ++ [.fz (filsR lb).length ((filsR lb).flatMap filC), .fz (lc.map CV.nm).length ((lc.map CV.nm).map iA)] = _
  rw [len_filsR, List.length_map]
end
theorem casN_copy {sa : List UInt8} (hx : sa.length = 32) : casN.take 0 ++ sa.map u8 ++ casN.drop (0 + sa.length) = sa.map u8 ++ [.nl, .nl] := by rw [hx]; rfl
theorem filsR_flat {l : List CV} {i : Nat} {v : CV} (h : l[i]? = some v) : (filsR (l.take i)).flatMap filC ++ filC (filR i v) = (filsR (l.take (i + 1))).flatMap filC := by rw [← filsR_next h]; simp
theorem flat_filsR (l : List CV) : ((filsR l).flatMap filC).length = l.length * 3 := by rw [flat_len, len_filsR]
theorem nms_next {l : List CV} {i : Nat} {v : CV} (h : l[i]? = some v) : ((l.take i).map CV.nm).map iA ++ [.i .i64 v.nm] = ((l.take (i + 1)).map CV.nm).map iA := by
  rw [List.take_add_one, h]; simp
theorem all_nextK {l : List CV} {i : Nat} {v : CV} {p : CV → Bool} (hv : l[i]? = some v) (h : (l.take i).all p = true) (h2 : p v = true) : (l.take (i + 1)).all p = true := all_nextV hv h h2
theorem read_ways3 (v : CV) : partsB v [2, 3, 3] = false ∨ (∃ n s na sa la nb sb lb nc sc lc, v = .mk 3 n s [.mk 2 na sa la, .mk 3 nb sb lb, .mk 3 nc sc lc] ∧ sa.length ≠ 32) ∨ ∃ n s na sa la nb sb lb nc sc lc, v = .mk 3 n s [.mk 2 na sa la, .mk 3 nb sb lb, .mk 3 nc sc lc] ∧ sa.length = 32 := by
  rcases read_ways v with h | ⟨n, s, na, sa, la, nb, sb, lb, nc, sc, lc, h⟩
  · exact .inl h
  · by_cases hx : sa.length = 32
    · exact .inr (.inr ⟨n, s, na, sa, la, nb, sb, lb, nc, sc, lc, h, hx⟩)
    · exact .inr (.inl ⟨n, s, na, sa, la, nb, sb, lb, nc, sc, lc, h, hx⟩)
theorem readB_parts {v : CV} (h : partsB v [2, 3, 3] = false) : readB v = false := by unfold readB; rw [h]; rfl
theorem mem_enc : ∀ {l : List CV} {v : CV}, v ∈ l → v.enc.length ≤ (CV.encL l).length
  | [], _, h => by cases h
  | u :: l, v, h => by
    rw [CV.encL, List.length_append]
    rcases List.mem_cons.1 h with rfl | h
    · omega
    · have := mem_enc h; omega
theorem enc_3 (n : Int) (s : List UInt8) (l : List CV) : (CV.encL l).length ≤ (CV.mk 3 n s l).enc.length := by
  rw [CV.enc, if_neg (by decide), if_neg (by decide), List.length_cons, List.length_append]; omega
theorem enc_2 (n : Int) (s : List UInt8) (l : List CV) : s.length ≤ (CV.mk 2 n s l).enc.length := by
  rw [CV.enc, if_neg (by decide), if_pos rfl, List.length_cons, List.length_append]; omega
theorem txt_small {n na nb nc nv na1 nb1 : Int} {s sa sb sc sv sa1 sb1 : List UInt8} {la lb lc la1 lb1 : List CV} {N i : Nat} (h : (CV.mk 3 n s [.mk 2 na sa la, .mk 3 nb sb lb, .mk 3 nc sc lc]).enc.length ≤ N) (hv : lb[i]? = some (.mk 3 nv sv [.mk 1 na1 sa1 la1, .mk 2 nb1 sb1 lb1])) : sb1.length ≤ N := by
  have h1 := enc_3 n s [.mk 2 na sa la, .mk 3 nb sb lb, .mk 3 nc sc lc]
  have h2 := mem_enc (l := [.mk 2 na sa la, .mk 3 nb sb lb, .mk 3 nc sc lc]) (v := .mk 3 nb sb lb) (.tail _ (.head _))
  have h3 := enc_3 nb sb lb
  have h4 := mem_enc (List.mem_of_getElem? hv)
  have h5 := enc_3 nv sv [.mk 1 na1 sa1 la1, .mk 2 nb1 sb1 lb1]
  have h6 := mem_enc (l := [.mk 1 na1 sa1 la1, .mk 2 nb1 sb1 lb1]) (v := .mk 2 nb1 sb1 lb1) (.tail _ (.head _))
  have h7 := enc_2 nb1 sb1 lb1
  omega
theorem readC_x {v : CV} (h : readB v = true) : (readC v).x.length = 32 := by
  unfold readB at h
  simp only [Bool.and_eq_true, decide_eq_true_eq] at h
  exact h.1.1.2
theorem readC_E {v : CV} (h : partsB v [2, 3, 3] = true) : (readC v).E.length ≤ v.enc.length := by
  rcases read_ways v with h' | ⟨n, s, na, sa, la, nb, sb, lb, nc, sc, lc, rfl⟩
  · rw [h'] at h; cases h
  · have h1 := enc_3 n s [.mk 2 na sa la, .mk 3 nb sb lb, .mk 3 nc sc lc]
    have h2 := mem_enc (l := [.mk 2 na sa la, .mk 3 nb sb lb, .mk 3 nc sc lc]) (v := .mk 3 nc sc lc) (.tail _ (.tail _ (.head _)))
    have h3 := enc_3 nc sc lc
    have h4 := CV.len_encL lc
    show (lc.map CV.nm).length ≤ _
    rw [List.length_map]; omega
theorem readB_p {v : CV} (h : readB v = true) : partsB v [2, 3, 3] = true := by
  unfold readB at h
  simp only [Bool.and_eq_true, decide_eq_true_eq] at h
  exact h.1.1.1
theorem decc_ways (b : List UInt8) : decV b = none ∨ (∃ k n s l, decV b = some (.mk k n s l) ∧ readB (.mk k n s l) = false) ∨ (∃ k n s l, decV b = some (.mk k n s l) ∧ readB (.mk k n s l) = true ∧ chkC (readC (.mk k n s l)) = false) ∨ ∃ k n s l, decV b = some (.mk k n s l) ∧ readB (.mk k n s l) = true ∧ chkC (readC (.mk k n s l)) = true := by
  cases h : decV b with
  | none => exact .inl rfl
  | some v =>
    obtain ⟨k, n, s, l⟩ := v
    cases h1 : readB (.mk k n s l) with
    | false => exact .inr (.inl ⟨k, n, s, l, rfl, h1⟩)
    | true =>
      cases h2 : chkC (readC (.mk k n s l)) with
      | false => exact .inr (.inr (.inl ⟨k, n, s, l, rfl, h1, h2⟩))
      | true => exact .inr (.inr (.inr ⟨k, n, s, l, rfl, h1, h2⟩))
end Go.Abs.D2
-- C4T
namespace Go.Abs.D2
open Go Go.Eng Go.Abs
def two (e : CV) : Bool := decide (e.ls.length = 2)
def okN (l : List CV) : Nat := (l.takeWhile two).length
theorem okN_at : ∀ {l : List CV} {i : Nat} {v : CV}, l[i]? = some v → (l.take i).all two = true → two v = false → okN l = i
  | [], _, _, h, _, _ => by simp at h
  | u :: l, 0, v, h, _, h2 => by simp at h; subst h; unfold okN; rw [List.takeWhile_cons]; simp [h2]
  | u :: l, i + 1, v, h, h1, h2 => by
    simp only [List.take_succ_cons, List.all_cons, Bool.and_eq_true] at h1
    have := okN_at (l := l) (i := i) (by simpa using h) h1.2 h2
    unfold okN at this ⊢
    rw [List.takeWhile_cons, if_pos h1.1, List.length_cons, this]
@[irreducible] def rreadA (v : CV) : A :=
  if v.ls.length = 3 ∧ (nthV v 0).st.length = 32 then
    (if (nthV v 1).ls.all two then .tu [.ag (casL (readC v)), .b true]
     else .tu [.ag ((nthV v 0).st.map u8 ++ [.fz (okN (nthV v 1).ls) ((filsR ((nthV v 1).ls.take (okN (nthV v 1).ls))).flatMap filC), .fz 0 []]), .b false])
  else .tu [.ag casN, .b false]
theorem rreadB_eq (v : CV) : rreadB v = (decide (v.ls.length = 3) && decide ((nthV v 0).st.length = 32) && (nthV v 1).ls.all two) := rfl
section
variable {k n ka na kb nb kc nc : Int} {s sa sb sc : List UInt8} {l la lb lc : List CV}
theorem rread_3 (h : l.length ≠ 3) : rreadA (.mk k n s l) = .tu [.ag casN, .b false] := by unfold rreadA; rw [if_neg fun h' => h h'.1]
theorem rread_32 (h : sa.length ≠ 32) : rreadA (.mk k n s [.mk ka na sa la, .mk kb nb sb lb, .mk kc nc sc lc]) = .tu [.ag casN, .b false] := by unfold rreadA; rw [if_neg fun h' => h h'.2]
theorem rread_f {i : Nat} {v : CV} (hx : sa.length = 32) (hv : lb[i]? = some v) (h1 : (lb.take i).all two = true) (h2 : two v = false) : rreadA (.mk k n s [.mk ka na sa la, .mk kb nb sb lb, .mk kc nc sc lc]) = .tu [.ag (sa.map u8 ++ [.fz i ((filsR (lb.take i)).flatMap filC), .fz 0 []]), .b false] := by
  unfold rreadA
  rw [if_pos ⟨rfl, hx⟩]
  have hall : lb.all two = false := by rw [List.all_eq_false]; exact ⟨v, List.mem_of_getElem? hv, by simp [h2]⟩
  rw [show (nthV (CV.mk k n s [.mk ka na sa la, .mk kb nb sb lb, .mk kc nc sc lc]) 1).ls = lb from rfl, show (nthV (CV.mk k n s [.mk ka na sa la, .mk kb nb sb lb, .mk kc nc sc lc]) 0).st = sa from rfl, hall, okN_at hv h1 h2]
  rfl
theorem rread_y (hx : sa.length = 32) (h1 : (lb.take lb.length).all two = true) : rreadA (.mk k n s [.mk ka na sa la, .mk kb nb sb lb, .mk kc nc sc lc]) = .tu [.ag (sa.map u8 ++ [.fz lb.length ((filsR lb).flatMap filC), .fz lc.length ((lc.map CV.nm).map iA)]), .b true] := by
  rw [List.take_length] at h1
  unfold rreadA
  rw [if_pos ⟨rfl, hx⟩, show (nthV (CV.mk k n s [.mk ka na sa la, .mk kb nb sb lb, .mk kc nc sc lc]) 1).ls = lb from rfl, h1, if_pos rfl]
  show A.tu [.ag (sa.map u8 ++ [.fz (filsR lb).length ((filsR lb).flatMap filC), .fz (lc.map CV.nm).length ((lc.map CV.nm).map iA)]), .b true] = _
  rw [len_filsR, List.length_map]
end
theorem rread_yes {v : CV} (h : rreadB v = true) : rreadA v = .tu [.ag (casL (readC v)), .b true] := by
  rw [rreadB_eq] at h
  simp only [Bool.and_eq_true, decide_eq_true_eq] at h
  unfold rreadA; rw [if_pos h.1, h.2, if_pos rfl]
theorem rread_no {v : CV} (h : rreadB v = false) : ∃ cs : List A, cs.length = 34 ∧ PureL cs ∧ rreadA v = .tu [.ag cs, .b false] := by
  unfold rreadA
  by_cases h1 : v.ls.length = 3 ∧ (nthV v 0).st.length = 32
  · rw [rreadB_eq, decide_eq_true h1.1, decide_eq_true h1.2] at h
    simp only [Bool.true_and] at h
    rw [if_pos h1, h]
    exact ⟨(nthV v 0).st.map u8 ++ [_, _], by simp [h1.2], PureL_app (PureL_u8 _) (show PureL [A.fz (okN (nthV v 1).ls) ((filsR ((nthV v 1).ls.take (okN (nthV v 1).ls))).flatMap filC), A.fz 0 []] from ⟨trivial, trivial, trivial⟩), rfl⟩
  · rw [if_neg h1]
    exact ⟨casN, rfl, PureL_app (PureL_u8 _) (show PureL [.nl, .nl] from ⟨trivial, trivial, trivial⟩), rfl⟩
theorem len3 {l : List CV} (h : l.length = 3) : ∃ ka na sa la kb nb sb lb kc nc sc lc, l = [.mk ka na sa la, .mk kb nb sb lb, .mk kc nc sc lc] := by
  match l, h with
  | [.mk ka na sa la, .mk kb nb sb lb, .mk kc nc sc lc], _ => exact ⟨ka, na, sa, la, kb, nb, sb, lb, kc, nc, sc, lc, rfl⟩
theorem len2 {l : List CV} (h : l.length = 2) : ∃ ka na sa la kb nb sb lb, l = [.mk ka na sa la, .mk kb nb sb lb] := by
  match l, h with
  | [.mk ka na sa la, .mk kb nb sb lb], _ => exact ⟨ka, na, sa, la, kb, nb, sb, lb, rfl⟩
theorem rread_ways (l : List CV) : l.length ≠ 3 ∨ (∃ ka na sa la kb nb sb lb kc nc sc lc, l = [.mk ka na sa la, .mk kb nb sb lb, .mk kc nc sc lc] ∧ sa.length ≠ 32) ∨ ∃ ka na sa la kb nb sb lb kc nc sc lc, l = [.mk ka na sa la, .mk kb nb sb lb, .mk kc nc sc lc] ∧ sa.length = 32 := by
  by_cases h : l.length = 3
  · obtain ⟨ka, na, sa, la, kb, nb, sb, lb, kc, nc, sc, lc, e⟩ := len3 h
    by_cases hx : sa.length = 32
    · exact .inr (.inr ⟨ka, na, sa, la, kb, nb, sb, lb, kc, nc, sc, lc, e, hx⟩)
    · exact .inr (.inl ⟨ka, na, sa, la, kb, nb, sb, lb, kc, nc, sc, lc, e, hx⟩)
  · exact .inl h
theorem salt_set {sa : List UInt8} (hx : sa.length = 32) {i : Nat} {b : UInt8} (hb : sa[i]? = some b) : ((sa.take i ++ List.replicate (32 - i) 0).map u8 ++ [A.nl, A.nl]).set (0 + i * 1) (u8 b) = (sa.take (i + 1) ++ List.replicate (32 - (i + 1)) 0).map u8 ++ [A.nl, A.nl] := by
  have hi := (List.getElem?_eq_some_iff.1 hb).1
  rw [Nat.zero_add, Nat.mul_one, List.take_add_one, hb]
  obtain ⟨m, hm⟩ : ∃ m, 32 - i = m + 1 := ⟨31 - i, by omega⟩
  rw [hm, show 32 - (i + 1) = m by omega, List.replicate_succ]
  simp only [List.map_append, List.map_cons, Option.toList_some, List.map_nil, List.append_assoc, List.cons_append]
  rw [List.set_append_right _ _ (by simp; omega), List.length_map, List.length_take, Nat.min_eq_left (by omega), Nat.sub_self, List.set_cons_zero]
  simp
theorem salt_0 (sa : List UInt8) : casN = (sa.take 0 ++ List.replicate (32 - 0) 0).map u8 ++ [A.nl, A.nl] := rfl
theorem salt_32 {sa : List UInt8} (hx : sa.length = 32) : (sa.take 32 ++ List.replicate (32 - 32) 0).map u8 ++ [A.nl, A.nl] = sa.map u8 ++ [A.nl, A.nl] := by
  rw [List.take_of_length_le (by omega)]; simp
theorem txt_small2 {k n ka na kb nb kc nc kv nv k1 n1 nb1 : Int} {s sa sb sc sv s1 sb1 : List UInt8} {la lb lc l1 lb1 : List CV} {i : Nat} (ho : (CV.mk k n s [.mk ka na sa la, .mk kb nb sb lb, .mk kc nc sc lc]).okB = true) {N : Nat} (h : (CV.mk k n s [.mk ka na sa la, .mk kb nb sb lb, .mk kc nc sc lc]).enc.length ≤ N) {k2 : Int} (hv : lb[i]? = some (.mk kv nv sv [.mk k1 n1 s1 l1, .mk k2 nb1 sb1 lb1])) : sb1.length ≤ N := by
  rcases okV_kind ho with rfl | rfl | ⟨rfl, h1⟩
  · rw [CV.okB, if_pos rfl] at ho; simp at ho
  · rw [CV.okB, if_neg (by decide), if_pos rfl] at ho; simp at ho
  · rw [CV.okBL_all] at h1
    have hb := List.all_eq_true.1 h1 (.mk kb nb sb lb) (.tail _ (.head _))
    have e1 := enc_3 n s [.mk ka na sa la, .mk kb nb sb lb, .mk kc nc sc lc]
    have e2 := mem_enc (l := [.mk ka na sa la, .mk kb nb sb lb, .mk kc nc sc lc]) (v := .mk kb nb sb lb) (.tail _ (.head _))
    rcases okV_kind hb with rfl | rfl | ⟨rfl, h2⟩
    · rw [CV.okB, if_pos rfl] at hb
      simp only [Bool.and_eq_true, List.isEmpty_iff] at hb
      rw [hb.2] at hv; simp at hv
    · rw [CV.okB, if_neg (by decide), if_pos rfl] at hb
      simp only [Bool.and_eq_true, List.isEmpty_iff] at hb
      rw [hb.2] at hv; simp at hv
    · rw [CV.okBL_all] at h2
      have hvo := List.all_eq_true.1 h2 _ (List.mem_of_getElem? hv)
      have e3 := enc_3 nb sb lb
      have e4 := mem_enc (List.mem_of_getElem? hv)
      rcases okV_kind hvo with rfl | rfl | ⟨rfl, h3⟩
      · rw [CV.okB, if_pos rfl] at hvo; simp at hvo
      · rw [CV.okB, if_neg (by decide), if_pos rfl] at hvo; simp at hvo
      · rw [CV.okBL_all] at h3
        have hto := List.all_eq_true.1 h3 (.mk k2 nb1 sb1 lb1) (.tail _ (.head _))
        have e5 := enc_3 nv sv [.mk k1 n1 s1 l1, .mk k2 nb1 sb1 lb1]
        have e6 := mem_enc (l := [.mk k1 n1 s1 l1, .mk k2 nb1 sb1 lb1]) (v := .mk k2 nb1 sb1 lb1) (.tail _ (.head _))
        rcases okV_kind hto with rfl | rfl | ⟨rfl, h4⟩
        · rw [CV.okB, if_pos rfl] at hto
          simp only [Bool.and_eq_true, List.isEmpty_iff] at hto
          rw [hto.1]; simp
        · have e7 := enc_2 nb1 sb1 lb1
          omega
        · rw [CV.okB, if_neg (by decide), if_neg (by decide), if_pos rfl] at hto
          simp only [Bool.and_eq_true, List.isEmpty_iff] at hto
          rw [hto.1.2]; simp
def filT (f : Fil) : Int × Int × List UInt8 := (f.lv, f.nb, f.D)
@[irreducible] def sameC (c d : Cas) : Bool := (c.x == d.x) && (c.E == d.E) && (c.F.map filT == d.F.map filT)
theorem filT_inj {f g : Fil} (h : filT f = filT g) : f = g := by
  obtain ⟨a, b, c⟩ := f
  obtain ⟨a', b', c'⟩ := g
  simp only [filT, Prod.mk.injEq] at h
  obtain ⟨rfl, rfl, rfl⟩ := h; rfl
theorem sameC_iff {c d : Cas} : sameC c d = true ↔ c = d := by
  unfold sameC
  simp only [Bool.and_eq_true, beq_iff_eq]
  constructor
  · rintro ⟨⟨h1, h2⟩, h3⟩
    have : c.F = d.F := by
      have hl : c.F.length = d.F.length := by have := congrArg List.length h3; simpa using this
      apply List.ext_getElem?
      intro i
      have hi := congrArg (fun l => l[i]?) h3
      simp only [List.getElem?_map] at hi
      cases h4 : c.F[i]? with
      | none => cases h5 : d.F[i]? with
        | none => rfl
        | some g => rw [h4, h5] at hi; cases hi
      | some f => cases h5 : d.F[i]? with
        | none => rw [h4, h5] at hi; cases hi
        | some g => rw [h4, h5] at hi; rw [filT_inj (Option.some.inj hi)]
    obtain ⟨_, _, _⟩ := c
    obtain ⟨_, _, _⟩ := d
    simp only at h1 h2 this
    rw [h1, h2, this]
  · rintro rfl; exact ⟨⟨rfl, rfl⟩, rfl⟩
theorem sameC_self (c : Cas) : sameC c c = true := sameC_iff.2 rfl
theorem sameC_x {c d : Cas} (h : c.x ≠ d.x) : sameC c d = false := by
  cases h1 : sameC c d with
  | false => rfl
  | true => exact absurd (congrArg Cas.x (sameC_iff.1 h1)) h
theorem sameC_n {c d : Cas} (h : c.F.length ≠ d.F.length) : sameC c d = false := by
  cases h1 : sameC c d with
  | false => rfl
  | true => exact absurd (congrArg (fun c => c.F.length) (sameC_iff.1 h1)) h
theorem sameC_e {c d : Cas} (h : (c.E == d.E) = false) : sameC c d = false := by
  cases h1 : sameC c d with
  | false => rfl
  | true => rw [sameC_iff.1 h1] at h; simp at h
theorem sameC_f {c d : Cas} {i : Nat} {f g : Fil} (hf : c.F[i]? = some f) (hg : d.F[i]? = some g) (h : f ≠ g) : sameC c d = false := by
  cases h1 : sameC c d with
  | false => rfl
  | true => rw [sameC_iff.1 h1, hg] at hf; exact absurd (Option.some.inj hf).symm h
theorem sameC_y {c d : Cas} (h1 : c.x = d.x) (h2 : c.F.length = d.F.length) (h3 : (c.E == d.E) = true) (h4 : c.F.take c.F.length = d.F.take c.F.length) : sameC c d = true := by
  rw [List.take_length, h2, List.take_length] at h4
  refine sameC_iff.2 ?_
  obtain ⟨_, _, _⟩ := c
  obtain ⟨_, _, _⟩ := d
  simp only [beq_iff_eq] at h1 h3 h4
  rw [h1, h3, h4]
theorem same_ways (c d : Cas) : c.x ≠ d.x ∨ (c.x = d.x ∧ c.F.length ≠ d.F.length) ∨ (c.x = d.x ∧ c.F.length = d.F.length ∧ (c.E == d.E) = false) ∨ (c.x = d.x ∧ c.F.length = d.F.length ∧ (c.E == d.E) = true) := by
  by_cases h1 : c.x = d.x
  · by_cases h2 : c.F.length = d.F.length
    · cases h3 : c.E == d.E with
      | false => exact .inr (.inr (.inl ⟨h1, h2, rfl⟩))
      | true => exact .inr (.inr (.inr ⟨h1, h2, rfl⟩))
    · exact .inr (.inl ⟨h1, h2⟩)
  · exact .inl h1
theorem fil_ways (f g : Fil) : (f.lv ≠ g.lv ∧ f ≠ g) ∨ (f.lv = g.lv ∧ f.nb ≠ g.nb ∧ f ≠ g) ∨ (f.lv = g.lv ∧ f.nb = g.nb ∧ f.D ≠ g.D ∧ f ≠ g) ∨ (f.lv = g.lv ∧ f.nb = g.nb ∧ f.D = g.D ∧ f = g) := by
  by_cases h1 : f.lv = g.lv
  · by_cases h2 : f.nb = g.nb
    · by_cases h3 : f.D = g.D
      · exact .inr (.inr (.inr ⟨h1, h2, h3, filT_inj (by simp [filT, h1, h2, h3])⟩))
      · exact .inr (.inr (.inl ⟨h1, h2, h3, fun h => h3 (by rw [h])⟩))
    · exact .inr (.inl ⟨h1, h2, fun h => h2 (by rw [h])⟩)
  · exact .inl ⟨h1, fun h => h1 (by rw [h])⟩
theorem eq_ways (a b : Nat) : a ≠ b ∨ a = b := by omega
theorem wk_app {l : List A} {m m' : List A} (h : WkL m m') : WkL (l ++ m) (l ++ m') := by
  induction l with
  | nil => exact h
  | cons a l ih => exact .cons (.eq rfl) ih
theorem wk_tailR (l : List A) (a : A) : WkL (l ++ [a, .nl]) (l ++ [a, .fz 0 []]) := wk_app (.cons (.eq rfl) (.cons .nl .nil))
theorem get_nm {l : List CV} {i : Nat} {v : CV} (h : l[i]? = some v) : (((CV.cellsL l).drop (i * 4)).drop 1)[0]? = some (.i .i64 v.nm) := by
  have e : (((CV.cellsL l).drop (i * 4)).take 4)[1]? = some (A.i .i64 v.nm) := by rw [CV.get h]; cases v; rfl
  rw [List.getElem?_take_of_lt (by omega)] at e
  rw [List.getElem?_drop]; exact e
def Sm (N : Nat) (u : CV) : Prop := (u.okB = true ∧ u.enc.length ≤ N) ∨ u = zV
theorem Sm.parts {N : Nat} {u : CV} (h : Sm N u) : (∀ e ∈ u.ls, Sm N e) ∧ u.st.length ≤ N ∧ u.ls.length ≤ N := by
  rcases h with ⟨ho, hl⟩ | rfl
  · obtain ⟨k, n, s, l⟩ := u
    rcases okV_kind ho with rfl | rfl | ⟨rfl, h1⟩
    · rw [CV.okB, if_pos rfl] at ho
      simp only [Bool.and_eq_true, List.isEmpty_iff] at ho
      obtain ⟨rfl, rfl⟩ := ho
      exact ⟨(fun e he => by cases he), Nat.zero_le _, Nat.zero_le _⟩
    · rw [CV.okB, if_neg (by decide), if_pos rfl] at ho
      simp only [Bool.and_eq_true, List.isEmpty_iff] at ho
      obtain ⟨_, rfl⟩ := ho
      have := enc_2 n s []
      exact ⟨(fun e he => by cases he), show s.length ≤ N by omega, Nat.zero_le _⟩
    · rw [CV.okB, if_neg (by decide), if_neg (by decide), if_pos rfl] at ho
      simp only [Bool.and_eq_true, List.isEmpty_iff] at ho
      obtain ⟨⟨_, rfl⟩, _⟩ := ho
      rw [CV.okBL_all] at h1
      have e1 := enc_3 n [] l
      have e2 := CV.len_encL l
      exact ⟨fun e he => .inl ⟨List.all_eq_true.1 h1 e he, by have := mem_enc (show e ∈ l from he); omega⟩, Nat.zero_le _, show l.length ≤ N by omega⟩
  · exact ⟨(fun e he => by cases he), Nat.zero_le _, Nat.zero_le _⟩
theorem Sm.nth {N : Nat} {u : CV} (h : Sm N u) (i : Nat) : Sm N (nthV u i) := by
  unfold nthV
  rw [List.getD_eq_getElem?_getD]
  cases hi : u.ls[i]? with
  | none => exact .inr rfl
  | some e => exact h.parts.1 e (List.mem_of_getElem? hi)
theorem Sm.cas {N : Nat} {v : CV} (h : Sm N v) : (∀ f ∈ (readC v).F, f.D.length ≤ N) ∧ (readC v).E.length ≤ N ∧ (readC v).F.length ≤ N := by
  refine ⟨fun f hf => ?_, ?_, ?_⟩
  · obtain ⟨i, hi⟩ := List.mem_iff_getElem?.1 hf
    have hi : (List.mapIdx filR (nthV v 1).ls)[i]? = some f := hi
    rw [List.getElem?_mapIdx] at hi
    obtain ⟨e, he, rfl⟩ := Option.map_eq_some_iff.1 hi
    exact (((h.nth 1).parts.1 e (List.mem_of_getElem? he)).nth 1).parts.2.1
  · show ((nthV v 2).ls.map CV.nm).length ≤ N
    rw [List.length_map]; exact (h.nth 2).parts.2.2
  · show (filsR (nthV v 1).ls).length ≤ N
    rw [len_filsR]; exact (h.nth 1).parts.2.2
theorem rreadB_x {v : CV} (h : rreadB v = true) : (readC v).x.length = 32 := by
  rw [rreadB_eq] at h
  simp only [Bool.and_eq_true, decide_eq_true_eq] at h
  exact h.1.2
theorem rdecc_ways (b : List UInt8) : decV b = none ∨ (∃ k n s l, decV b = some (.mk k n s l) ∧ rreadB (.mk k n s l) = false) ∨ (∃ k n s l, decV b = some (.mk k n s l) ∧ rreadB (.mk k n s l) = true ∧ chkC (readC (.mk k n s l)) = false) ∨ (∃ k n s l, decV b = some (.mk k n s l) ∧ rreadB (.mk k n s l) = true ∧ chkC (readC (.mk k n s l)) = true ∧ ((casV (readC (.mk k n s l))).enc == b) = false) ∨ ∃ k n s l, decV b = some (.mk k n s l) ∧ rreadB (.mk k n s l) = true ∧ chkC (readC (.mk k n s l)) = true ∧ ((casV (readC (.mk k n s l))).enc == b) = true := by
  cases h : decV b with
  | none => exact .inl rfl
  | some v =>
    obtain ⟨k, n, s, l⟩ := v
    cases h1 : rreadB (.mk k n s l) with
    | false => exact .inr (.inl ⟨k, n, s, l, rfl, h1⟩)
    | true =>
      cases h2 : chkC (readC (.mk k n s l)) with
      | false => exact .inr (.inr (.inl ⟨k, n, s, l, rfl, h1, h2⟩))
      | true =>
        cases h3 : ((casV (readC (.mk k n s l))).enc == b) with
        | false => exact .inr (.inr (.inr (.inl ⟨k, n, s, l, rfl, h1, h2, h3⟩)))
        | true => exact .inr (.inr (.inr (.inr ⟨k, n, s, l, rfl, h1, h2, h3⟩)))
theorem decCA_rn {b : List UInt8} {v : CV} (hb : b.length < 2 ^ 64) (h : decV b = some v) (h1 : (rreadB v && (chkC (readC v) && ((casV (readC v)).enc == b))) = false) : decCA b = .tu [.ag casN, .i .i64 340] := decCA_n h ((rdec_iff hb h).trans h1)
theorem decCA_ry {b : List UInt8} {v : CV} (hb : b.length < 2 ^ 64) (h : decV b = some v) (h1 : (rreadB v && (chkC (readC v) && ((casV (readC v)).enc == b))) = true) : decCA b = .tu [.ag (casL (readC v)), .i .i64 0] := by
  have h2 := (rdec_iff hb h).trans h1
  simp only [Bool.and_eq_true] at h2
  exact decCA_y h h2.1 h2.2
end Go.Abs.D2
-- C4J
namespace Go.Abs.D2
open Go Go.Eng Go.Abs Go.Proofs 
theorem rintV_ok (n : Int) : Con Tryd.prog 69 [.i .i64 n] (Ret (.ag (CV.cells (intV n)))) := by
 refine enter Tryd.func69 rfl Tryd.ntmps69 (by kernel_rfl) (Nat.le_of_ble_eq_true rfl) fun w0 X0 hI => ?_
 refine at_seq <| at_region ?_
 refine at_op rfl (n_alloc 2 rfl ti71 rfl rfl ?_)
 refine at_nil <| x_tn <| at_seq <| at_region <| s1 (y_p rfl) rfl <| s1 (y_bld (out := [_, _, _, _]) [[evC (.int .i64 0)], [evC (.int .i64 0)], [evC (.string ByteArray.empty)], [evC (.slice none 0 0)]] ti71 rfl Tryd.underlying71 (by kernel_rfl) rfl rfl ⟨⟨by (first | rfl | omega | (simp; done) | (simp [*]; done) | (simp [cellsA, *]; done)), rfl⟩, ⟨⟨by (first | rfl | omega | (simp; done) | (simp [*]; done) | (simp [cellsA, *]; done)), rfl⟩, trivial⟩⟩ rfl) rfl ?_
 refine at_op rfl (n_storeA ti71 rfl rfl rfl (by first | rfl | omega | (simp <;> omega) | (simp [*] <;> omega)) (by first | rfl | omega | (simp <;> omega) | (simp [*] <;> omega)) ?_)
 refine at_nil <| x_tn <| at_ret ?_
 refine at_wkO 2 rfl wk_cv ?_
 refine at_result (rs := [.cell 2 71]) rfl (r_cellA ti71 rfl rfl rfl rfl r_nil) ?_
 rfl
theorem rtxtV_ok (l : List UInt8) : Con Tryd.prog 70 [.fz l.length (l.map u8)] (Ret (.ag (CV.cells (txtV l)))) := by
 refine enter Tryd.func70 rfl Tryd.ntmps70 (by kernel_rfl) (Nat.le_of_ble_eq_true rfl) fun w0 X0 hI => ?_
 refine at_seq <| at_region ?_
 refine at_op rfl (n_alloc 2 rfl ti71 rfl rfl ?_)
 refine at_nil <| x_tn <| at_seq <| at_region <| s1 (y_p rfl) rfl <| s1 (y_str Tryd.underlying40 Tryd.underlying5 Tryd.underlying9 rfl rfl (by simp)) rfl <| s1 (y_bld (out := [_, _, _, _]) [[evC (.int .i64 0)], [evC (.int .i64 0)], [evC (.string ByteArray.empty)], [evC (.slice none 0 0)]] ti71 rfl Tryd.underlying71 (by kernel_rfl) rfl rfl ⟨⟨by (first | rfl | omega | (simp; done) | (simp [*]; done) | (simp [cellsA, *]; done)), rfl⟩, ⟨⟨by (first | rfl | omega | (simp; done) | (simp [*]; done) | (simp [cellsA, *]; done)), rfl⟩, trivial⟩⟩ rfl) rfl ?_
 refine at_op rfl (n_storeA ti71 rfl rfl rfl (by first | rfl | omega | (simp <;> omega) | (simp [*] <;> omega)) (by first | rfl | omega | (simp <;> omega) | (simp [*] <;> omega)) ?_)
 refine at_nil <| x_tn <| at_ret ?_
 refine at_wkO 2 rfl wk_cv ?_
 refine at_result (rs := [.cell 2 71]) rfl (r_cellA ti71 rfl rfl rfl rfl r_nil) ?_
 rfl
theorem rcont_ok (c : Cas) (hx : c.x.length = 32) (hn : c.E.length ≤ 1000000) (hF : c.F.length ≤ 1000) : Con Tryd.prog 50 [.ag (casL c)] (Ret (.ag (CV.cells (casV c)))) := by
 refine enter Tryd.func50 rfl Tryd.ntmps50 (by kernel_rfl) (Nat.le_of_ble_eq_true rfl) fun w0 X0 hI => ?_
 refine at_seq <| at_region ?_
 refine at_op rfl (n_boxA 1 rfl rfl rfl ?_)
 refine at_op rfl (n_alloc 2 rfl ti71 rfl rfl ?_)
 refine at_nil <| x_tn <| at_seq <| at_region <| s1 (y_bld (out := [_, _, _, _]) [[evC (.int .i64 0)], [evC (.int .i64 0)], [evC (.string ByteArray.empty)], [evC (.slice none 0 0)]] ti71 rfl Tryd.underlying71 (by kernel_rfl) rfl rfl ⟨⟨by (first | rfl | omega | (simp; done) | (simp [*]; done) | (simp [cellsA, *]; done)), rfl⟩, trivial⟩ rfl) rfl ?_
 refine at_op rfl (n_alloc 3 rfl ti71 rfl rfl ?_)
 refine at_op rfl (n_storeA ti71 rfl rfl rfl (by first | rfl | omega | (simp <;> omega) | (simp [*] <;> omega)) (by first | rfl | omega | (simp <;> omega) | (simp [*] <;> omega)) ?_)
 refine at_nil <| x_tn <| at_seq <| at_seq <| at_region <| s1 ((y_p rfl).v (v' := .i .i64 0) rfl) rfl ?_
 refine at_nil <| x_tn <| at_block ?_
 refine at_loop (ι := Nat) (fun i => [(1, .p 1 0), (2, .p 2 0), (3, .p 3 0), (4, nJ i)]) (fun i => ⟨[(1, some (casL c)), (2, some ([.i .i64 0, .i .i64 0, .s [], .nl])), (3, some ([.i .i64 3, .i .i64 0, .s [], .sl 131 4 0 i])), (131, some (CV.cellsL ((c.F.take i).map filV)))]⟩) (fun i => i ≤ c.F.length) (fun i => c.F.length - i) ?_ ?_
 ·exact at_ex (0) (Nat.zero_le _) [(1, some 1), (2, some 2), (3, some 3), (131, none)] hI rfl rfl ⟨⟨_, rfl, .p rfl⟩, ⟨_, rfl, .p rfl⟩, ⟨_, rfl, .p rfl⟩, ⟨_, rfl, .pure pu⟩, trivial⟩ ⟨.inr ⟨_, _, rfl, rfl, .pure pul⟩, .inr ⟨_, _, rfl, rfl, .pure pul⟩, .inr ⟨_, _, rfl, rfl, .cons (.pure pu) (.cons (.pure pu) (.cons (.pure pu) (.cons (.nl rfl) .nil)))⟩, .inl ⟨rfl, rfl⟩, trivial⟩
 rintro i hi
 refine at_seq <| at_seq <| at_region <| s1 (y_p rfl) rfl <| s1 (y_fld Tryd.underlying27 rfl ti25 (by decide) rfl rfl) rfl <| s1 (y_load ti25 rfl rfl (cas_F hx)) rfl <| s1 (y_len Tryd.underlying25 rfl rfl rfl) rfl <| s1 (y_p rfl) rfl ?_
 refine at_nil <| x_tn ?_
 refine at_cond rfl (fun hc13 => ?_) (fun hc13 => ?_)
 ·have h19 : i < c.F.length := by have := of_decide_eq_true hc13; omega
  obtain ⟨f, hf⟩ : ∃ f, c.F[i]? = some f := ⟨_, List.getElem?_eq_getElem h19⟩
  refine at_skip <| x_tn <| at_seq <| at_block <| at_seq <| at_region <| s1 (y_fld Tryd.underlying27 rfl ti25 (by decide) rfl rfl) rfl <| s1 (y_load ti25 rfl rfl (cas_F hx)) rfl <| s1 (y_p rfl) rfl <| s1 (y_ixf i Tryd.underlying25 ti50 rfl rfl rfl (by omega) rfl) rfl <| s1 (y_loadA ti50 rfl rfl (flat_get hf) rfl) rfl ?_
  refine at_op rfl (n_alloc 5 rfl ti50 rfl rfl ?_)
  refine at_op rfl (n_storeA ti50 rfl rfl rfl (by first | rfl | omega | (simp <;> omega) | (simp [*] <;> omega)) (by first | rfl | omega | (simp <;> omega) | (simp [*] <;> omega)) ?_)
  refine at_nil <| x_tn ?_
  refine at_fs ⟨_, [], []⟩ 13 4 hmix (le_refl rfl) ?_
  refine fs_q 0 [] [(3, none)] (y_fld Tryd.underlying71 rfl ti69 (by decide) rfl rfl) rfl rfl ?_
  refine fs_q 1 [0] [(3, none)] (y_load ti69 rfl rfl rfl) rfl rfl ?_
  refine fs_q 2 [] [(5, none)] (y_fld Tryd.underlying50 rfl ti3 (by decide) rfl rfl) rfl rfl ?_
  refine fs_q 3 [2] [(5, none)] (y_load ti3 rfl rfl rfl) rfl rfl ?_
  refine fs_call false 4 [3] [] gy0 rfl (.cons (.pure pu) (.nil)) (rintV_ok f.nb) pu (.inl rfl) rfl rfl ?_
  refine fs_q 5 [] [(5, none)] (y_fld Tryd.underlying50 rfl ti40 (by decide) rfl rfl) rfl rfl ?_
  refine fs_q 6 [5] [(5, none)] (y_load ti40 rfl rfl rfl) rfl rfl ?_
  refine fs_call false 7 [6] [] gy0 rfl (.cons (.pure pu) (.nil)) (rtxtV_ok f.D) pu (.inl rfl) rfl rfl ?_
  refine fs_bsZ 8 [4, 7] gy0 Tryd.underlying69 ti71 rfl rfl rfl (by simp [cellsA]) (show _ = CV.cellsL [intV f.nb, txtV f.D] from rfl) pul rfl rfl rfl rfl ?_
  refine fs_q 9 [8] [] (y_bld (out := [_, _, _, _]) [[evC (.int .i64 0)], [evC (.int .i64 0)], [evC (.string ByteArray.empty)], [evC (.slice none 0 0)]] ti71 rfl Tryd.underlying71 (by kernel_rfl) rfl rfl ⟨⟨by (first | rfl | omega | (simp; done) | (simp [*]; done) | (simp [cellsA, *]; done)), rfl⟩, ⟨⟨by (first | rfl | omega | (simp; done) | (simp [*]; done) | (simp [cellsA, *]; done)), rfl⟩, trivial⟩⟩ rfl) rfl rfl ?_
  refine fs_bsZ 10 [9] gy0 Tryd.underlying69 ti71 rfl rfl rfl (by simp [cellsA]) (one_cv (filV f)) pul rfl rfl rfl rfl ?_
  refine fs_app 32 11 [1, 10] [(131, none)] gy0 Tryd.underlying69 ti71 rfl (.sl rfl (by simp; omega)) rfl rfl (by simp) (by simp only [maxLen]; omega) (by omega) rfl rfl rfl rfl ?_
  refine fs_q 12 [] [(3, none)] (y_fld Tryd.underlying71 rfl ti69 (by decide) rfl rfl) rfl rfl ?_
  refine fs_end (by kernel_rfl) ?_
  refine at_op rfl (n_store1 ti69 rfl rfl rfl rfl (by first | rfl | omega | (simp <;> omega) | (simp [*] <;> omega)) rfl ?_)
  refine at_nil <| x_bn <| x_tn <| at_region <| s1 (y_p rfl) rfl <| s1 (addN _ 1 rfl rfl rfl rfl (by omega)) rfl <| s1 (y_p rfl) rfl ?_
  refine at_nil ?_
  exact at_end (i + 1) (by omega) (by omega) [(1, some 1), (2, some 2), (3, some 3), (131, some 32)] hI rfl rfl ⟨⟨_, rfl, .p rfl⟩, ⟨_, rfl, .p rfl⟩, ⟨_, rfl, .p rfl⟩, ⟨_, rfl, .pure pu⟩, trivial⟩ ⟨.inr ⟨_, _, rfl, rfl, .pure pul⟩, .inr ⟨_, _, rfl, rfl, .pure pul⟩, .inr ⟨_, _, rfl, rfl, .cons (.pure pu) (.cons (.pure pu) (.cons (.pure pu) (.cons (.sl rfl (by simp)) .nil)))⟩, .inr ⟨_, _, rfl, rfl, .of (fil_nextV hf) (.pure pul)⟩, trivial⟩
 ·obtain rfl : i = c.F.length := by have := of_decide_eq_false hc13; omega
  refine at_exit <| x_te <| x_te <| x_be <| x_tn <| at_seq ?_
  refine at_sayO 131 (cs' := CV.cellsL (c.F.map filV)) rfl (by rw [List.take_length]) ?_
  refine at_region <| s1 (y_bld (out := [_, _, _, _]) [[evC (.int .i64 0)], [evC (.int .i64 0)], [evC (.string ByteArray.empty)], [evC (.slice none 0 0)]] ti71 rfl Tryd.underlying71 (by kernel_rfl) rfl rfl ⟨⟨by (first | rfl | omega | (simp; done) | (simp [*]; done) | (simp [cellsA, *]; done)), rfl⟩, trivial⟩ rfl) rfl ?_
  refine at_op rfl (n_alloc 6 rfl ti71 rfl rfl ?_)
  refine at_op rfl (n_storeA ti71 rfl rfl rfl (by first | rfl | omega | (simp <;> omega) | (simp [*] <;> omega)) (by first | rfl | omega | (simp <;> omega) | (simp [*] <;> omega)) ?_)
  refine at_nil <| x_tn <| at_seq <| at_seq <| at_region <| s1 ((y_p rfl).v (v' := .i .i64 0) rfl) rfl ?_
  refine at_nil <| x_tn <| at_block ?_
  refine at_loop (ι := Nat) (fun k => [(1, .p 1 0), (2, .p 2 0), (3, .p 3 0), (6, .p 6 0), (7, nJ k)]) (fun k => ⟨[(1, some (casL c)), (2, some ([.i .i64 0, .i .i64 0, .s [], .nl])), (3, some ([.i .i64 3, .i .i64 0, .s [], .sl 131 4 0 c.F.length])), (131, some (CV.cellsL (c.F.map filV))), (6, some ([.i .i64 3, .i .i64 0, .s [], .sl 146 4 0 k])), (146, some (CV.cellsL ((c.E.take k).map intV)))]⟩) (fun k => k ≤ c.E.length) (fun k => c.E.length - k) ?_ ?_
  ·exact at_ex (0) (Nat.zero_le _) [(1, some 1), (2, some 2), (3, some 3), (6, some 6), (131, some 131), (146, none)] hI rfl rfl ⟨⟨_, rfl, .p rfl⟩, ⟨_, rfl, .p rfl⟩, ⟨_, rfl, .p rfl⟩, ⟨_, rfl, .p rfl⟩, ⟨_, rfl, .pure pu⟩, trivial⟩ ⟨.inr ⟨_, _, rfl, rfl, .pure pul⟩, .inr ⟨_, _, rfl, rfl, .pure pul⟩, .inr ⟨_, _, rfl, rfl, .cons (.pure pu) (.cons (.pure pu) (.cons (.pure pu) (.cons (.sl rfl (by simp)) .nil)))⟩, .inr ⟨_, _, rfl, rfl, .pure pul⟩, .inr ⟨_, _, rfl, rfl, .cons (.pure pu) (.cons (.pure pu) (.cons (.pure pu) (.cons (.nl rfl) .nil)))⟩, .inl ⟨rfl, rfl⟩, trivial⟩
  rintro k hk
  refine at_seq <| at_seq <| at_region <| s1 (y_p rfl) rfl <| s1 (y_fld Tryd.underlying27 rfl ti24 (by decide) rfl rfl) rfl <| s1 (y_load ti24 rfl rfl (cas_E hx)) rfl <| s1 (y_len Tryd.underlying24 rfl rfl rfl) rfl <| s1 (y_p rfl) rfl ?_
  refine at_nil <| x_tn ?_
  refine at_cond rfl (fun hc39 => ?_) (fun hc39 => ?_)
  ·have h30 : k < c.E.length := by have := of_decide_eq_true hc39; omega
   obtain ⟨q, hq⟩ : ∃ q, c.E[k]? = some q := ⟨_, List.getElem?_eq_getElem h30⟩
   refine at_skip <| x_tn <| at_seq <| at_block ?_
   refine at_fs ⟨_, [], []⟩ 11 4 hmix (le_refl rfl) ?_
   refine fs_q 0 [] [(6, none)] (y_fld Tryd.underlying71 rfl ti69 (by decide) rfl rfl) rfl rfl ?_
   refine fs_q 1 [0] [(6, none)] (y_load ti69 rfl rfl rfl) rfl rfl ?_
   refine fs_q 2 [] [(1, none)] (y_fld Tryd.underlying27 rfl ti24 (by decide) rfl rfl) rfl rfl ?_
   refine fs_q 3 [2] [(1, none)] (y_load ti24 rfl rfl (cas_E hx)) rfl rfl ?_
   refine fs_q 4 [] [] (y_p rfl) rfl rfl ?_
   refine fs_q 5 [3, 4] [] (y_ixf k Tryd.underlying24 ti3 rfl rfl rfl (by omega) rfl) rfl rfl ?_
   refine fs_q 6 [5] [] (y_load ti3 rfl rfl (getI4 hq)) rfl rfl ?_
   refine fs_call false 7 [6] [] gy0 rfl (.cons (.pure pu) (.nil)) (rintV_ok q) pu (.inl rfl) rfl rfl ?_
   refine fs_bsZ 8 [7] gy0 Tryd.underlying69 ti71 rfl rfl rfl (by simp [cellsA]) (one_cv (intV q)) pul rfl rfl rfl rfl ?_
   refine fs_app 51 9 [1, 8] [(146, none)] gy0 Tryd.underlying69 ti71 rfl (.sl rfl (by simp; omega)) rfl rfl (by simp) (by simp only [maxLen]; omega) (by omega) rfl rfl rfl rfl ?_
   refine fs_q 10 [] [(6, none)] (y_fld Tryd.underlying71 rfl ti69 (by decide) rfl rfl) rfl rfl ?_
   refine fs_end (by kernel_rfl) ?_
   refine at_op rfl (n_store1 ti69 rfl rfl rfl rfl (by first | rfl | omega | (simp <;> omega) | (simp [*] <;> omega)) rfl ?_)
   refine at_nil <| x_bn <| x_tn <| at_region <| s1 (y_p rfl) rfl <| s1 (addN _ 1 rfl rfl rfl rfl (by omega)) rfl <| s1 (y_p rfl) rfl ?_
   refine at_nil ?_
   exact at_end (k + 1) (by omega) (by omega) [(1, some 1), (2, some 2), (3, some 3), (6, some 6), (131, some 131), (146, some 51)] hI rfl rfl ⟨⟨_, rfl, .p rfl⟩, ⟨_, rfl, .p rfl⟩, ⟨_, rfl, .p rfl⟩, ⟨_, rfl, .p rfl⟩, ⟨_, rfl, .pure pu⟩, trivial⟩ ⟨.inr ⟨_, _, rfl, rfl, .pure pul⟩, .inr ⟨_, _, rfl, rfl, .pure pul⟩, .inr ⟨_, _, rfl, rfl, .cons (.pure pu) (.cons (.pure pu) (.cons (.pure pu) (.cons (.sl rfl (by simp)) .nil)))⟩, .inr ⟨_, _, rfl, rfl, .pure pul⟩, .inr ⟨_, _, rfl, rfl, .cons (.pure pu) (.cons (.pure pu) (.cons (.pure pu) (.cons (.sl rfl (by simp)) .nil)))⟩, .inr ⟨_, _, rfl, rfl, .of (int_nextV hq) (.pure pul)⟩, trivial⟩
  ·obtain rfl : k = c.E.length := by have := of_decide_eq_false hc39; omega
   refine at_exit <| x_te <| x_te <| x_be <| x_tn <| at_seq ?_
   refine at_sayO 146 (cs' := CV.cellsL (c.E.map intV)) rfl (by rw [List.take_length]) ?_
   refine at_frzP 1 rfl rfl pul ?_
   refine at_frzO 3 3 rfl rfl rfl rfl pul (view_cv (by simp)) rfl ?_
   refine at_frzO 6 3 rfl rfl rfl rfl pul (view_cv (by simp)) rfl ?_
   refine at_sayO 3 (cs' := CV.cells (lstV (c.F.map filV))) rfl (by rw [show CV.cells (lstV (c.F.map filV)) = [.i .i64 3, .i .i64 0, .s [], .fz (c.F.map filV).length (CV.cellsL (c.F.map filV))] from rfl, List.length_map]; rfl) ?_
   refine at_sayO 6 (cs' := CV.cells (lstV (c.E.map intV))) rfl (by rw [show CV.cells (lstV (c.E.map intV)) = [.i .i64 3, .i .i64 0, .s [], .fz (c.E.map intV).length (CV.cellsL (c.E.map intV))] from rfl, List.length_map]; rfl) ?_
   refine at_fs ⟨_, [], []⟩ 7 4 hmix (le_refl rfl) ?_
   refine fs_q 0 [] [] (y_fldf Tryd.underlying27 rfl ti23 (by decide) rfl rfl) rfl rfl ?_
   refine fs_q 1 [0] [] ((y_cutfa (ds := ((casL c).drop (0 * 1)).take (32 * 1)) 32 Tryd.underlying23 ti5 rfl (by simp [maxLen]) bn bn (Nat.zero_le _) (Nat.le_refl _) (by simp [hx]) rfl rfl).v (cas_cut hx)) rfl rfl ?_
   refine fs_call false 2 [1] [] gy0 rfl (.cons (.pure pu) (.nil)) (rtxtV_ok c.x) pu (.inl rfl) rfl rfl ?_
   refine fs_q 3 [] [(3, none)] (y_loadA0 ti71 rfl rfl rfl) rfl rfl ?_
   refine fs_q 4 [] [(6, none)] (y_loadA0 ti71 rfl rfl rfl) rfl rfl ?_
   refine fs_bsZ 5 [2, 3, 4] gy0 Tryd.underlying69 ti71 rfl rfl rfl (by simp [cellsA]) (show _ = CV.cellsL [txtV c.x, lstV (c.F.map filV), lstV (c.E.map intV)] from rfl) pul rfl rfl rfl rfl ?_
   refine fs_q 6 [5] [] (y_bld (out := [_, _, _, _]) [[evC (.int .i64 0)], [evC (.int .i64 0)], [evC (.string ByteArray.empty)], [evC (.slice none 0 0)]] ti71 rfl Tryd.underlying71 (by kernel_rfl) rfl rfl ⟨⟨by (first | rfl | omega | (simp; done) | (simp [*]; done) | (simp [cellsA, *]; done)), rfl⟩, ⟨⟨by (first | rfl | omega | (simp; done) | (simp [*]; done) | (simp [cellsA, *]; done)), rfl⟩, trivial⟩⟩ rfl) rfl rfl ?_
   refine fs_end (by kernel_rfl) ?_
   refine at_op rfl (n_storeA ti71 rfl rfl rfl (by first | rfl | omega | (simp <;> omega) | (simp [*] <;> omega)) (by first | rfl | omega | (simp <;> omega) | (simp [*] <;> omega)) ?_)
   refine at_nil <| x_tn <| at_ret ?_
   refine at_result (rs := [.cell 2 71]) rfl (r_cellA ti71 rfl rfl rfl rfl r_nil) ?_
   rfl
theorem rencC_ok (c : Cas) (hx : c.x.length = 32) (hn : c.E.length ≤ maxLen) (hD : ∀ f ∈ c.F, f.D.length ≤ 1000000) : Con Tryd.prog 22 [.ag (casL c)] (Ret (encCA c)) := by
 refine enter Tryd.func22 rfl Tryd.ntmps22 (by kernel_rfl) (Nat.le_of_ble_eq_true rfl) fun w0 X0 hI => ?_
 refine at_seq <| at_region ?_
 refine at_op rfl (n_boxA 1 rfl rfl rfl ?_)
 refine s1 (y_p rfl) rfl <| s1 ((y_p rfl).v (v' := .i .i64 0) rfl) rfl ?_
 refine at_nil <| x_tn <| at_seq <| at_seq ?_
 rcases tfC (chkC c) with hcs | hcs
 ·skip
  refine at_region <| s1 (y_loadA0 ti27 rfl rfl (cas_len hx)) rfl ?_
  refine at_op rfl (n_call false rfl (.cons (.pure pu) (.nil)) (Con.cast (rcchk_ok c hx hn hD) (congrArg (fun b => A.i .i64 (errC b)) hcs)) pu (.inl rfl) rfl ?_)
  refine s1 ((y_p rfl).v (v' := .b true) (rfl)) rfl ?_
  refine at_nil <| x_tn ?_
  refine at_then rfl ?_
  refine at_seq <| at_region <| s1 (y_p rfl) rfl <| s1 ((y_p rfl).v (v' := .i .i64 340) rfl) rfl ?_
  refine at_nil <| x_tn <| at_ret <| x_tr ?_
  refine at_result (rs := [.tmp 2, .tmp 3]) rfl (r_tmp rfl (r_tmp rfl r_nil)) ?_
  exact (encCA_n hcs).symm
 ·obtain ⟨hF, hE, _⟩ := chkC_all hcs
  have hEl := listed_len hE
  have hel := enc_cas hcs hx
  refine at_region <| s1 (y_loadA0 ti27 rfl rfl (cas_len hx)) rfl ?_
  refine at_op rfl (n_call false rfl (.cons (.pure pu) (.nil)) (Con.cast (rcchk_ok c hx hn hD) (congrArg (fun b => A.i .i64 (errC b)) hcs)) pu (.inl rfl) rfl ?_)
  refine s1 ((y_p rfl).v (v' := .b false) (rfl)) rfl ?_
  refine at_nil <| x_tn ?_
  refine at_else rfl ?_
  refine at_skip <| x_tn <| at_seq <| at_region <| s1 (y_loadA0 ti27 rfl rfl (cas_len hx)) rfl ?_
  refine at_op rfl (n_call false rfl (.cons (.pure pu) (.nil)) (rcont_ok c hx (by omega) (by omega)) pu (.inl rfl) rfl ?_)
  refine at_op rfl (n_call false rfl (.cons (.pure pu) (.nil)) (Con.cast (rencode0_ok (casV c) (size_cas hcs hx) (rng_cas hcs) (Nat.le_trans hel (by omega))) (encA_cas hcs)) pu (.inl rfl) rfl ?_)
  refine s1 (y_p rfl) rfl <| s1 (y_p rfl) rfl <| s1 (y_p rfl) rfl <| s1 (y_p rfl) rfl <| s1 (y_p rfl) rfl ?_
  refine at_nil <| x_tn <| at_seq <| at_region <| s1 (y_p rfl) rfl <| s1 (y_p rfl) rfl <| s1 ((y_p rfl).v (v' := .i .i64 0) rfl) rfl ?_
  refine at_nil <| x_tn <| at_ret ?_
  refine at_result (rs := [.tmp 2, .tmp 3]) rfl (r_tmp rfl (r_tmp rfl r_nil)) ?_
  exact (encCA_y hcs).symm
theorem rdigC_ok (c : Cas) (hx : c.x.length = 32) (hn : c.E.length ≤ maxLen) (hD : ∀ f ∈ c.F, f.D.length ≤ 1000000) : Con Tryd.prog 24 [.ag (casL c)] (Ret (digCA c)) := by
 refine enter Tryd.func24 rfl Tryd.ntmps24 (by kernel_rfl) (Nat.le_of_ble_eq_true rfl) fun w0 X0 hI => ?_
 refine at_seq <| at_region ?_
 refine at_op rfl (n_boxA 1 rfl rfl rfl ?_)
 refine at_op rfl (n_alloc 2 rfl ti23 rfl rfl ?_)
 refine s1 ((y_p rfl).v (v' := .i .i64 0) rfl) rfl ?_
 refine at_nil <| x_tn <| at_seq ?_
 rcases tfC (chkC c) with hcs | hcs
 ·skip
  refine at_region <| s1 (y_loadA0 ti27 rfl rfl (cas_len hx)) rfl ?_
  refine at_op rfl (n_call false rfl (.cons (.pure pu) (.nil)) (Con.cast (rencC_ok c hx hn hD) (encCA_n hcs)) pu (.inl rfl) rfl ?_)
  refine s1 (y_p rfl) rfl <| s1 (y_p rfl) rfl <| s1 (y_p rfl) rfl <| s1 (y_p rfl) rfl <| s1 (y_p rfl) rfl ?_
  refine at_nil <| x_tn <| at_seq <| at_seq <| at_region <| s1 (y_p rfl) rfl <| s1 ((y_p rfl).v (v' := .b true) (rfl)) rfl ?_
  refine at_nil <| x_tn ?_
  refine at_then rfl ?_
  refine at_seq <| at_region <| s1 (y_bld0 ti23 rfl Tryd.underlying23 ti5 rfl) rfl <| s1 (y_p rfl) rfl ?_
  refine at_op rfl (n_storeA ti23 rfl rfl rfl (by first | rfl | omega | (simp <;> omega) | (simp [*] <;> omega)) (by first | rfl | omega | (simp <;> omega) | (simp [*] <;> omega)) ?_)
  refine s1 (y_p rfl) rfl ?_
  refine at_nil <| x_tn <| at_ret <| x_tr ?_
  refine at_result (rs := [.cell 2 23, .tmp 3]) rfl (r_cellA ti23 rfl rfl rfl rfl (r_tmp rfl r_nil)) ?_
  exact (digCA_n hcs).symm
 ·have hel := enc_cas hcs hx
  refine at_region <| s1 (y_loadA0 ti27 rfl rfl (cas_len hx)) rfl ?_
  refine at_op rfl (n_call false rfl (.cons (.pure pu) (.nil)) (Con.cast (rencC_ok c hx hn hD) (encCA_y hcs)) pu (.inl rfl) rfl ?_)
  refine s1 (y_p rfl) rfl <| s1 (y_p rfl) rfl <| s1 (y_p rfl) rfl <| s1 (y_p rfl) rfl <| s1 (y_p rfl) rfl ?_
  refine at_nil <| x_tn <| at_seq <| at_seq <| at_region <| s1 (y_p rfl) rfl <| s1 ((y_p rfl).v (v' := .b false) (rfl)) rfl ?_
  refine at_nil <| x_tn ?_
  refine at_else rfl ?_
  refine at_skip <| x_tn <| at_seq <| at_region <| s1 (y_p rfl) rfl ?_
  refine at_op rfl (n_call false rfl (.cons (.pure pu) (.cons (.pure pu) (.nil))) (Con.cast (rtagged_ok tagC (casV c).enc (by omega) (by decide)) (congrArg (fun l : List UInt8 => A.ag (l.map u8)) (digC_eq c).symm)) pu (.inl rfl) rfl ?_)
  refine at_op rfl (n_storeA ti23 rfl rfl rfl (by first | rfl | omega | (simp <;> omega) | (simp [*] <;> omega)) (by first | rfl | omega | (simp <;> omega) | (simp [*] <;> omega)) ?_)
  refine s1 ((y_p rfl).v (v' := .i .i64 0) rfl) rfl ?_
  refine at_nil <| x_tn <| at_ret ?_
  refine at_result (rs := [.cell 2 23, .tmp 3]) rfl (r_cellA ti23 rfl rfl (List.take_of_length_le (by simp)) (by simp) (r_tmp rfl r_nil)) ?_
  exact (digCA_y hcs).symm
end Go.Abs.D2
-- C4K
namespace Go.Abs.D2
open Go Go.Eng Go.Abs Go.Proofs 
theorem rread_ok (k n : Int) (s : List UInt8) (l : List CV) (hsz : (CV.mk k n s l).size ≤ 1000000) (hel : (CV.mk k n s l).enc.length ≤ 1000000) (ho : (CV.mk k n s l).okB = true) : Con Tryd.prog 55 [.ag [.i .i64 k, .i .i64 n, .s s, .fz l.length (CV.cellsL l)]] (Ret (rreadA (.mk k n s l))) := by
 refine enter Tryd.func55 rfl Tryd.ntmps55 (by kernel_rfl) (Nat.le_of_ble_eq_true rfl) fun w0 X0 hI => ?_
 refine at_seq <| at_region ?_
 refine at_op rfl (n_boxA 1 rfl rfl rfl ?_)
 refine at_op rfl (n_alloc 2 rfl ti27 rfl rfl ?_)
 refine s1 (y_p rfl) rfl ?_
 refine at_nil <| x_tn <| at_seq ?_
 rcases rread_ways l with hcs | hcs | hcs
 ·have hp := hcs
  have hlz := CV.len_sizeL l
  simp only [CV.size] at hsz
  refine at_region <| s1 (y_bld (out := _) [(List.replicate 32 (.int .u8 0)).map evC, [evC (.slice none 0 0)], [evC (.slice none 0 0)]] ti27 rfl Tryd.underlying27 (by kernel_rfl) rfl rfl trivial rfl) rfl ?_
  refine at_op rfl (n_alloc 4 rfl ti27 rfl rfl ?_)
  refine at_op rfl (n_storeA ti27 rfl rfl rfl (by first | rfl | omega | (simp <;> omega) | (simp [*] <;> omega)) (by first | rfl | omega | (simp <;> omega) | (simp [*] <;> omega)) ?_)
  refine at_nil <| x_tn <| at_seq <| at_seq <| at_region <| s1 (y_fld Tryd.underlying71 rfl ti69 (by decide) rfl rfl) rfl <| s1 (y_load ti69 rfl rfl rfl) rfl <| s1 (y_len Tryd.underlying69 rfl rfl rfl) rfl <| s1 ((y_p rfl).v (v' := .b true) (congrArg A.b (bne_iff_ne.2 (by omega)))) rfl <| s1 (y_p rfl) rfl <| g0 rfl rfl rfl rfl <| g0 rfl rfl rfl rfl <| g0 rfl rfl rfl rfl <| g0 rfl rfl rfl rfl <| g0 rfl rfl rfl rfl ?_
  refine g0 rfl rfl rfl rfl <| g0 rfl rfl rfl rfl <| s1 (y_p rfl) rfl ?_
  refine at_nil <| x_tn ?_
  refine at_then rfl ?_
  refine at_seq <| at_region <| s1 (y_loadA0 ti27 rfl rfl rfl) rfl ?_
  refine at_op rfl (n_storeA ti27 rfl rfl rfl (by first | rfl | omega | (simp <;> omega) | (simp [*] <;> omega)) (by first | rfl | omega | (simp <;> omega) | (simp [*] <;> omega)) ?_)
  refine s1 (y_p rfl) rfl ?_
  refine at_nil <| x_tn <| at_ret <| x_tr ?_
  refine at_result (rs := [.cell 2 27, .tmp 3]) rfl (r_cellA ti27 rfl rfl rfl rfl (r_tmp rfl r_nil)) ?_
  exact (rread_3 hp).symm
 ·obtain ⟨ka, na, sa, la, kb, nb, sb, lb, kc, nc, sc, lc, rfl, hx⟩ := hcs
  have hlb := CV.len_sizeL lb
  have hlc := CV.len_sizeL lc
  simp only [CV.sizeL, CV.size] at hsz
  refine at_region <| s1 (y_bld (out := _) [(List.replicate 32 (.int .u8 0)).map evC, [evC (.slice none 0 0)], [evC (.slice none 0 0)]] ti27 rfl Tryd.underlying27 (by kernel_rfl) rfl rfl trivial rfl) rfl ?_
  refine at_op rfl (n_alloc 4 rfl ti27 rfl rfl ?_)
  refine at_op rfl (n_storeA ti27 rfl rfl rfl (by first | rfl | omega | (simp <;> omega) | (simp [*] <;> omega)) (by first | rfl | omega | (simp <;> omega) | (simp [*] <;> omega)) ?_)
  refine at_nil <| x_tn <| at_seq <| at_seq <| at_region <| s1 (y_fld Tryd.underlying71 rfl ti69 (by decide) rfl rfl) rfl <| s1 (y_load ti69 rfl rfl rfl) rfl <| s1 (y_len Tryd.underlying69 rfl rfl rfl) rfl <| s1 ((y_p rfl).v (v' := .b false) (rfl)) rfl <| s1 (y_p rfl) rfl <| g1 rfl rfl (y_fld Tryd.underlying71 rfl ti69 (by decide) rfl rfl) rfl <| g1 rfl rfl (y_load ti69 rfl rfl rfl) rfl <| g1 rfl rfl (y_ixf 0 Tryd.underlying69 ti71 rfl rfl rfl (Nat.le_of_ble_eq_true rfl) rfl) rfl <| g1 rfl rfl (y_fldf Tryd.underlying71 rfl ti9 (by decide) rfl rfl) rfl <| g1 rfl rfl (y_load ti9 rfl rfl rfl) rfl ?_
  refine g1 rfl rfl (y_lens Tryd.underlying9 rfl rfl) rfl <| g1 rfl rfl ((y_p rfl).v (v' := .b true) (congrArg A.b (bne_iff_ne.2 (by omega)))) rfl <| s1 (y_p rfl) rfl ?_
  refine at_nil <| x_tn ?_
  refine at_then rfl ?_
  refine at_seq <| at_region <| s1 (y_loadA0 ti27 rfl rfl rfl) rfl ?_
  refine at_op rfl (n_storeA ti27 rfl rfl rfl (by first | rfl | omega | (simp <;> omega) | (simp [*] <;> omega)) (by first | rfl | omega | (simp <;> omega) | (simp [*] <;> omega)) ?_)
  refine s1 (y_p rfl) rfl ?_
  refine at_nil <| x_tn <| at_ret <| x_tr ?_
  refine at_result (rs := [.cell 2 27, .tmp 3]) rfl (r_cellA ti27 rfl rfl rfl rfl (r_tmp rfl r_nil)) ?_
  exact (rread_32 hx).symm
 ·obtain ⟨ka, na, sa, la, kb, nb, sb, lb, kc, nc, sc, lc, rfl, hx⟩ := hcs
  have hlb := CV.len_sizeL lb
  have hlc := CV.len_sizeL lc
  simp only [CV.sizeL, CV.size] at hsz
  refine at_region <| s1 (y_bld (out := _) [(List.replicate 32 (.int .u8 0)).map evC, [evC (.slice none 0 0)], [evC (.slice none 0 0)]] ti27 rfl Tryd.underlying27 (by kernel_rfl) rfl rfl trivial rfl) rfl ?_
  refine at_op rfl (n_alloc 4 rfl ti27 rfl rfl ?_)
  refine at_op rfl (n_storeA ti27 rfl rfl rfl (by first | rfl | omega | (simp <;> omega) | (simp [*] <;> omega)) (by first | rfl | omega | (simp <;> omega) | (simp [*] <;> omega)) ?_)
  refine at_nil <| x_tn <| at_seq <| at_seq <| at_region <| s1 (y_fld Tryd.underlying71 rfl ti69 (by decide) rfl rfl) rfl <| s1 (y_load ti69 rfl rfl rfl) rfl <| s1 (y_len Tryd.underlying69 rfl rfl rfl) rfl <| s1 ((y_p rfl).v (v' := .b false) (rfl)) rfl <| s1 (y_p rfl) rfl <| g1 rfl rfl (y_fld Tryd.underlying71 rfl ti69 (by decide) rfl rfl) rfl <| g1 rfl rfl (y_load ti69 rfl rfl rfl) rfl <| g1 rfl rfl (y_ixf 0 Tryd.underlying69 ti71 rfl rfl rfl (Nat.le_of_ble_eq_true rfl) rfl) rfl <| g1 rfl rfl (y_fldf Tryd.underlying71 rfl ti9 (by decide) rfl rfl) rfl <| g1 rfl rfl (y_load ti9 rfl rfl rfl) rfl ?_
  refine g1 rfl rfl (y_lens Tryd.underlying9 rfl rfl) rfl <| g1 rfl rfl ((y_p rfl).v (v' := .b false) (congrArg A.b (by simp [hx]))) rfl <| s1 (y_p rfl) rfl ?_
  refine at_nil <| x_tn ?_
  refine at_else rfl ?_
  refine at_skip <| x_tn <| at_seq <| at_seq <| at_region <| s1 ((y_p rfl).v (v' := .i .i64 0) rfl) rfl ?_
  refine at_nil <| x_tn <| at_block ?_
  refine at_loop (ι := Nat) (fun i => [(1, .p 1 0), (2, .p 2 0), (4, .p 4 0), (5, nJ i)]) (fun i => ⟨[(1, some ([.i .i64 k, .i .i64 n, .s s, .fz 3 (CV.cellsL [.mk ka na sa la, .mk kb nb sb lb, .mk kc nc sc lc])])), (2, some (casN)), (4, some ((sa.take i ++ List.replicate (32 - i) 0).map u8 ++ [A.nl, A.nl]))]⟩) (fun i => i ≤ 32) (fun i => 32 - i) ?_ ?_
  ·exact at_ex (0) (by omega) [(1, some 1), (2, some 2), (4, some 4)] hI rfl rfl ⟨⟨_, rfl, .p rfl⟩, ⟨_, rfl, .p rfl⟩, ⟨_, rfl, .p rfl⟩, ⟨_, rfl, .pure pu⟩, trivial⟩ ⟨.inr ⟨_, _, rfl, rfl, .pure pul⟩, .inr ⟨_, _, rfl, rfl, .pure pul⟩, .inr ⟨_, _, rfl, rfl, .of (salt_0 sa) (.pure pul)⟩, trivial⟩
  rintro i hi
  refine at_seq <| at_seq <| at_region <| s1 (y_p rfl) rfl <| s1 (y_p rfl) rfl ?_
  refine at_nil <| x_tn ?_
  refine at_cond rfl (fun hc25 => ?_) (fun hc25 => ?_)
  ·have h25 : i < 32 := by have := of_decide_eq_true hc25; omega
   obtain ⟨q, hq⟩ : ∃ q, sa[i]? = some q := ⟨_, List.getElem?_eq_getElem (by omega)⟩
   refine at_skip <| x_tn <| at_seq <| at_block <| at_region <| s1 (y_p rfl) rfl <| s1 (y_fld Tryd.underlying71 rfl ti69 (by decide) rfl rfl) rfl <| s1 (y_load ti69 rfl rfl rfl) rfl <| s1 (y_ixf 0 Tryd.underlying69 ti71 rfl rfl rfl (Nat.le_of_ble_eq_true rfl) rfl) rfl <| s1 (y_fldf Tryd.underlying71 rfl ti9 (by decide) rfl rfl) rfl <| s1 (y_load ti9 rfl rfl rfl) rfl <| s1 (y_p rfl) rfl <| s1 (y_sidx i q Tryd.underlying9 rfl rfl rfl hq) rfl <| s1 (y_fld Tryd.underlying27 rfl ti23 (by decide) rfl rfl) rfl <| s1 (y_ixa i Tryd.underlying23 ti5 rfl rfl rfl (by omega) rfl) rfl ?_
   refine at_op rfl (n_store1 ti5 rfl rfl rfl rfl (by simp; omega) (salt_set hx hq) ?_)
   refine at_nil <| x_bn <| x_tn <| at_region <| s1 (y_p rfl) rfl <| s1 (addN _ 1 rfl rfl rfl rfl (by omega)) rfl <| s1 (y_p rfl) rfl ?_
   refine at_nil ?_
   exact at_end (i + 1) (by omega) (by omega) [(1, some 1), (2, some 2), (4, some 4)] hI rfl rfl ⟨⟨_, rfl, .p rfl⟩, ⟨_, rfl, .p rfl⟩, ⟨_, rfl, .p rfl⟩, ⟨_, rfl, .pure pu⟩, trivial⟩ ⟨.inr ⟨_, _, rfl, rfl, .pure pul⟩, .inr ⟨_, _, rfl, rfl, .pure pul⟩, .inr ⟨_, _, rfl, rfl, .pure pul⟩, trivial⟩
  ·obtain rfl : i = 32 := by have := of_decide_eq_false hc25; omega
   refine at_exit <| x_te <| x_te <| x_be <| x_tn <| at_seq <| at_seq ?_
   refine at_sayO 4 (cs' := sa.map u8 ++ [A.nl, A.nl]) rfl (salt_32 hx) ?_
   refine at_region <| s1 ((y_p rfl).v (v' := .i .i64 0) rfl) rfl ?_
   refine at_nil <| x_tn <| at_block ?_
   refine at_loop (ι := Nat) (fun i => [(1, .p 1 0), (2, .p 2 0), (4, .p 4 0), (6, nJ i)]) (fun i => ⟨[(1, some ([.i .i64 k, .i .i64 n, .s s, .fz 3 (CV.cellsL [.mk ka na sa la, .mk kb nb sb lb, .mk kc nc sc lc])])), (2, some (casN)), (4, some (sa.map u8 ++ [.sl 162 3 0 i, .nl])), (162, some ((filsR (lb.take i)).flatMap filC))]⟩) (fun i => i ≤ lb.length ∧ (lb.take i).all two = true) (fun i => lb.length - i) ?_ ?_
   ·exact at_ex (0) (⟨Nat.zero_le _, rfl⟩) [(1, some 1), (2, some 2), (4, some 4), (162, none)] hI rfl rfl ⟨⟨_, rfl, .p rfl⟩, ⟨_, rfl, .p rfl⟩, ⟨_, rfl, .p rfl⟩, ⟨_, rfl, .pure pu⟩, trivial⟩ ⟨.inr ⟨_, _, rfl, rfl, .pure pul⟩, .inr ⟨_, _, rfl, rfl, .pure pul⟩, .inr ⟨_, _, rfl, rfl, .app (.pure pul) (.cons (.nl rfl) (.cons (.pure pu) .nil))⟩, .inl ⟨rfl, rfl⟩, trivial⟩
   rintro i ⟨hi, hi2⟩
   have hfl := flat_filsR (lb.take i)
   rw [List.length_take] at hfl
   refine at_seq <| at_seq <| at_region <| s1 (y_p rfl) rfl <| s1 (y_fld Tryd.underlying71 rfl ti69 (by decide) rfl rfl) rfl <| s1 (y_load ti69 rfl rfl rfl) rfl <| s1 (y_ixf 1 Tryd.underlying69 ti71 rfl rfl rfl (Nat.le_of_ble_eq_true rfl) rfl) rfl <| s1 (y_fldf Tryd.underlying71 rfl ti69 (by decide) rfl rfl) rfl <| s1 (y_load ti69 rfl rfl rfl) rfl <| s1 (y_len Tryd.underlying69 rfl rfl rfl) rfl <| s1 (y_p rfl) rfl ?_
   refine at_nil <| x_tn ?_
   refine at_cond rfl (fun hc45 => ?_) (fun hc45 => ?_)
   ·have h37 : i < lb.length := by have := of_decide_eq_true hc45; omega
    obtain ⟨v, hv⟩ : ∃ v, lb[i]? = some v := ⟨_, List.getElem?_eq_getElem h37⟩
    have hvm := CV.size_mem (List.mem_of_getElem? hv)
    obtain ⟨kv, nv, sv, lv⟩ := v
    have hvl := CV.len_sizeL lv
    simp only [CV.size] at hvm
    refine at_skip <| x_tn <| at_seq <| at_block <| at_seq <| at_region <| s1 (y_fld Tryd.underlying71 rfl ti69 (by decide) rfl rfl) rfl <| s1 (y_load ti69 rfl rfl rfl) rfl <| s1 (y_ixf 1 Tryd.underlying69 ti71 rfl rfl rfl (Nat.le_of_ble_eq_true rfl) rfl) rfl <| s1 (y_fldf Tryd.underlying71 rfl ti69 (by decide) rfl rfl) rfl <| s1 (y_load ti69 rfl rfl rfl) rfl <| s1 (y_p rfl) rfl <| s1 (y_ixf i Tryd.underlying69 ti71 rfl rfl rfl (by omega) rfl) rfl <| s1 (y_loadA ti71 rfl rfl (CV.get4 hv) rfl) rfl ?_
    refine at_op rfl (n_alloc 7 rfl ti71 rfl rfl ?_)
    refine at_op rfl (n_storeA ti71 rfl rfl rfl (by first | rfl | omega | (simp <;> omega) | (simp [*] <;> omega)) (by first | rfl | omega | (simp <;> omega) | (simp [*] <;> omega)) ?_)
    refine at_nil <| x_tn <| at_seq <| at_seq ?_
    rcases eq_ways lv.length 2 with hcs | hcs
    ·skip
     refine at_region <| s1 (y_fld Tryd.underlying71 rfl ti69 (by decide) rfl rfl) rfl <| s1 (y_load ti69 rfl rfl rfl) rfl <| s1 (y_len Tryd.underlying69 rfl rfl rfl) rfl <| s1 ((y_p rfl).v (v' := .b true) (congrArg A.b (bne_iff_ne.2 (by omega)))) rfl ?_
     refine at_nil <| x_tn ?_
     refine at_then rfl ?_
     refine at_seq ?_
     refine at_frzO 4 32 rfl (by rw [List.getElem?_append_right (by simp [hx]), List.length_map, hx]; rfl) rfl rfl pul (view_eq (by rw [hfl, Nat.min_eq_left hi]) rfl) (tail_set hx _ _ _) ?_
     refine at_wkO 4 rfl (wk_tailR (sa.map u8) _) ?_
     refine at_region <| s1 (y_loadA0 ti27 rfl rfl (by simp [hx])) rfl ?_
     refine at_op rfl (n_storeA ti27 rfl rfl rfl (by simp [hx]) (by simp) ?_)
     refine s1 (y_p rfl) rfl ?_
     refine at_nil <| x_tn <| at_ret <| x_tr <| x_br <| x_tr <| x_tr <| x_br <| x_tr ?_
     refine at_result (rs := [.cell 2 27, .tmp 3]) rfl (r_cellA ti27 rfl rfl (List.take_of_length_le (by simp [hx])) (by simp [hx]) (r_tmp rfl r_nil)) ?_
     exact (rread_f hx hv hi2 (decide_eq_false hcs)).symm
    ·obtain ⟨k1, n1, z1, q1, k2, n2, z2, q2, rfl⟩ := len2 hcs
     have hsb := txt_small2 ho hel hv
     refine at_region <| s1 (y_fld Tryd.underlying71 rfl ti69 (by decide) rfl rfl) rfl <| s1 (y_load ti69 rfl rfl rfl) rfl <| s1 (y_len Tryd.underlying69 rfl rfl rfl) rfl <| s1 ((y_p rfl).v (v' := .b false) (rfl)) rfl ?_
     refine at_nil <| x_tn ?_
     refine at_else rfl ?_
     refine at_skip <| x_tn ?_
     refine at_fs ⟨_, [], []⟩ 18 4 hmix (le_refl rfl) ?_
     refine fs_q 0 [] [(4, none)] (y_fld Tryd.underlying27 rfl ti25 (by decide) rfl rfl) rfl rfl ?_
     refine fs_q 1 [0] [(4, none)] (y_load ti25 rfl rfl (congrArg (fun l => l[0]?) (tail_get hx _))) rfl rfl ?_
     refine fs_q 2 [] [] (y_p rfl) rfl rfl ?_
     refine fs_q 3 [] [(7, none)] (y_fld Tryd.underlying71 rfl ti69 (by decide) rfl rfl) rfl rfl ?_
     refine fs_q 4 [3] [(7, none)] (y_load ti69 rfl rfl rfl) rfl rfl ?_
     refine fs_q 5 [4] [] (y_ixf 0 Tryd.underlying69 ti71 rfl rfl rfl (Nat.le_of_ble_eq_true rfl) rfl) rfl rfl ?_
     refine fs_q 6 [5] [] (y_fldf Tryd.underlying71 rfl ti3 (by decide) rfl rfl) rfl rfl ?_
     refine fs_q 7 [6] [] (y_load ti3 rfl rfl rfl) rfl rfl ?_
     refine fs_q 8 [] [(7, none)] (y_fld Tryd.underlying71 rfl ti69 (by decide) rfl rfl) rfl rfl ?_
     refine fs_q 9 [8] [(7, none)] (y_load ti69 rfl rfl rfl) rfl rfl ?_
     refine fs_q 10 [9] [] (y_ixf 1 Tryd.underlying69 ti71 rfl rfl rfl (Nat.le_of_ble_eq_true rfl) rfl) rfl rfl ?_
     refine fs_q 11 [10] [] (y_fldf Tryd.underlying71 rfl ti9 (by decide) rfl rfl) rfl rfl ?_
     refine fs_q 12 [11] [] (y_load ti9 rfl rfl rfl) rfl rfl ?_
     refine fs_s2b 13 [12] [] gy0 Tryd.underlying9 Tryd.underlying40 Tryd.underlying5 rfl (by first | omega | (simp only [maxLen]; omega) | (simp [maxLen]; done) | (simp [maxLen]; omega) | (simp [maxLen, *]; omega)) rfl rfl ?_
     refine fs_q 14 [2, 7, 13] [] (y_bld (out := [_, _, _]) [[evC (.int .i64 0)], [evC (.int .i64 0)], [evC (.slice none 0 0)]] ti50 rfl Tryd.underlying50 (by kernel_rfl) rfl rfl ⟨⟨by (first | rfl | omega | (simp; done) | (simp [*]; done) | (simp [cellsA, *]; done)), rfl⟩, ⟨⟨by (first | rfl | omega | (simp; done) | (simp [*]; done) | (simp [cellsA, *]; done)), rfl⟩, ⟨⟨by (first | rfl | omega | (simp; done) | (simp [*]; done) | (simp [cellsA, *]; done)), rfl⟩, trivial⟩⟩⟩ rfl) rfl rfl ?_
     refine fs_bs 76 15 [14] gy0 Tryd.underlying25 ti50 rfl rfl rfl (by simp [cellsA]) (show _ = filC (filR i (.mk kv nv sv [.mk k1 n1 z1 q1, .mk k2 n2 z2 q2])) from List.append_nil _) rfl rfl rfl rfl ?_
     refine fs_app 77 16 [1, 15] [(76, some 15), (162, none)] gy0 Tryd.underlying25 ti50 rfl (.sl rfl (by rw [hfl, Nat.min_eq_left hi])) rfl (SM_full rfl (by first | rfl | omega | (simp <;> omega) | (simp [*] <;> omega))) (by simp) (by simp only [maxLen]; omega) (by omega) rfl rfl rfl rfl ?_
     refine fs_q 17 [] [(4, none)] (y_fld Tryd.underlying27 rfl ti25 (by decide) rfl rfl) rfl rfl ?_
     refine fs_end (by kernel_rfl) ?_
     refine at_op rfl (n_store1 ti25 rfl rfl rfl rfl (by simp [hx]) (tail_set hx _ _ _) ?_)
     refine at_nil <| x_bn <| x_tn <| at_region <| s1 (y_p rfl) rfl <| s1 (addN _ 1 rfl rfl rfl rfl (by omega)) rfl <| s1 (y_p rfl) rfl ?_
     refine at_nil ?_
     exact at_end (i + 1) (⟨by omega, all_nextK hv hi2 rfl⟩) (by omega) [(1, some 1), (2, some 2), (4, some 4), (162, some 77)] hI rfl rfl ⟨⟨_, rfl, .p rfl⟩, ⟨_, rfl, .p rfl⟩, ⟨_, rfl, .p rfl⟩, ⟨_, rfl, .pure pu⟩, trivial⟩ ⟨.inr ⟨_, _, rfl, rfl, .pure pul⟩, .inr ⟨_, _, rfl, rfl, .pure pul⟩, .inr ⟨_, _, rfl, rfl, .app (.pure pul) (.cons (.sl rfl (by simp)) (.cons (.pure pu) .nil))⟩, .inr ⟨_, _, rfl, rfl, .of (filsR_flat hv) (.pure pul)⟩, trivial⟩
   ·obtain rfl : i = lb.length := by have := of_decide_eq_false hc45; omega
    refine at_exit <| x_te <| x_te <| x_be <| x_tn <| at_seq <| at_seq ?_
    refine at_sayO 162 (cs' := (filsR lb).flatMap filC) rfl (by rw [List.take_length]) ?_
    refine at_region <| s1 ((y_p rfl).v (v' := .i .i64 0) rfl) rfl ?_
    refine at_nil <| x_tn <| at_block ?_
    refine at_loop (ι := Nat) (fun j => [(1, .p 1 0), (2, .p 2 0), (4, .p 4 0), (8, nJ j)]) (fun j => ⟨[(1, some ([.i .i64 k, .i .i64 n, .s s, .fz 3 (CV.cellsL [.mk ka na sa la, .mk kb nb sb lb, .mk kc nc sc lc])])), (2, some (casN)), (4, some (sa.map u8 ++ [.sl 162 3 0 lb.length, .sl 184 1 0 j])), (162, some ((filsR lb).flatMap filC)), (184, some (((lc.take j).map CV.nm).map iA))]⟩) (fun j => j ≤ lc.length) (fun j => lc.length - j) ?_ ?_
    ·exact at_ex (0) (Nat.zero_le _) [(1, some 1), (2, some 2), (4, some 4), (162, some 162), (184, none)] hI rfl rfl ⟨⟨_, rfl, .p rfl⟩, ⟨_, rfl, .p rfl⟩, ⟨_, rfl, .p rfl⟩, ⟨_, rfl, .pure pu⟩, trivial⟩ ⟨.inr ⟨_, _, rfl, rfl, .pure pul⟩, .inr ⟨_, _, rfl, rfl, .pure pul⟩, .inr ⟨_, _, rfl, rfl, .app (.pure pul) (.cons (.sl rfl (by simp)) (.cons (.nl rfl) .nil))⟩, .inr ⟨_, _, rfl, rfl, .pure pul⟩, .inl ⟨rfl, rfl⟩, trivial⟩
    rintro j hj
    refine at_seq <| at_seq <| at_region <| s1 (y_p rfl) rfl <| s1 (y_fld Tryd.underlying71 rfl ti69 (by decide) rfl rfl) rfl <| s1 (y_load ti69 rfl rfl rfl) rfl <| s1 (y_ixf 2 Tryd.underlying69 ti71 rfl rfl rfl (Nat.le_of_ble_eq_true rfl) rfl) rfl <| s1 (y_fldf Tryd.underlying71 rfl ti69 (by decide) rfl rfl) rfl <| s1 (y_load ti69 rfl rfl rfl) rfl <| s1 (y_len Tryd.underlying69 rfl rfl rfl) rfl <| s1 (y_p rfl) rfl ?_
    refine at_nil <| x_tn ?_
    refine at_cond rfl (fun hc86 => ?_) (fun hc86 => ?_)
    ·have h72 : j < lc.length := by have := of_decide_eq_true hc86; omega
     obtain ⟨v, hv⟩ : ∃ v, lc[j]? = some v := ⟨_, List.getElem?_eq_getElem h72⟩
     obtain ⟨kv, nv, sv, lv⟩ := v
     refine at_skip <| x_tn <| at_seq <| at_block ?_
     refine at_fs ⟨_, [], []⟩ 14 4 hmix (le_refl rfl) ?_
     refine fs_q 0 [] [(4, none)] (y_fld Tryd.underlying27 rfl ti24 (by decide) rfl rfl) rfl rfl ?_
     refine fs_q 1 [0] [(4, none)] (y_load ti24 rfl rfl (congrArg (fun l => l[0]?) (tail_get1 hx _ _))) rfl rfl ?_
     refine fs_q 2 [] [(1, none)] (y_fld Tryd.underlying71 rfl ti69 (by decide) rfl rfl) rfl rfl ?_
     refine fs_q 3 [2] [(1, none)] (y_load ti69 rfl rfl rfl) rfl rfl ?_
     refine fs_q 4 [3] [] (y_ixf 2 Tryd.underlying69 ti71 rfl rfl rfl (Nat.le_of_ble_eq_true rfl) rfl) rfl rfl ?_
     refine fs_q 5 [4] [] (y_fldf Tryd.underlying71 rfl ti69 (by decide) rfl rfl) rfl rfl ?_
     refine fs_q 6 [5] [] (y_load ti69 rfl rfl rfl) rfl rfl ?_
     refine fs_q 7 [] [] (y_p rfl) rfl rfl ?_
     refine fs_q 8 [6, 7] [] (y_ixf j Tryd.underlying69 ti71 rfl rfl rfl (by omega) rfl) rfl rfl ?_
     refine fs_q 9 [8] [] (y_fldf Tryd.underlying71 rfl ti3 (by decide) rfl rfl) rfl rfl ?_
     refine fs_q 10 [9] [] (y_load ti3 rfl rfl (get_nm hv)) rfl rfl ?_
     refine fs_bs1 100 11 [10] gy0 Tryd.underlying24 ti3 rfl rfl rfl rfl rfl rfl ?_
     refine fs_app 101 12 [1, 11] [(100, some 11), (184, none)] gy0 Tryd.underlying24 ti3 rfl (.sl rfl (by simp; omega)) rfl (SM_full rfl (by first | rfl | omega | (simp <;> omega) | (simp [*] <;> omega))) (by simp) (by simp only [maxLen]; omega) (by omega) rfl (nms_next hv) rfl rfl ?_
     refine fs_q 13 [] [(4, none)] (y_fld Tryd.underlying27 rfl ti24 (by decide) rfl rfl) rfl rfl ?_
     refine fs_end (by kernel_rfl) ?_
     refine at_op rfl (n_store1 ti24 rfl rfl rfl rfl (by simp [hx]) (tail_set1 hx _ _ _) ?_)
     refine at_nil <| x_bn <| x_tn <| at_region <| s1 (y_p rfl) rfl <| s1 (addN _ 1 rfl rfl rfl rfl (by omega)) rfl <| s1 (y_p rfl) rfl ?_
     refine at_nil ?_
     exact at_end (j + 1) (by omega) (by omega) [(1, some 1), (2, some 2), (4, some 4), (162, some 162), (184, some 101)] hI rfl rfl ⟨⟨_, rfl, .p rfl⟩, ⟨_, rfl, .p rfl⟩, ⟨_, rfl, .p rfl⟩, ⟨_, rfl, .pure pu⟩, trivial⟩ ⟨.inr ⟨_, _, rfl, rfl, .pure pul⟩, .inr ⟨_, _, rfl, rfl, .pure pul⟩, .inr ⟨_, _, rfl, rfl, .app (.pure pul) (.cons (.sl rfl (by simp)) (.cons (.sl rfl (by simp)) .nil))⟩, .inr ⟨_, _, rfl, rfl, .pure pul⟩, .inr ⟨_, _, rfl, rfl, .pure pul⟩, trivial⟩
    ·obtain rfl : j = lc.length := by have := of_decide_eq_false hc86; omega
     refine at_exit <| x_te <| x_te <| x_be <| x_tn <| at_seq ?_
     refine at_sayO 184 (cs' := (lc.map CV.nm).map iA) rfl (by rw [List.take_length]) ?_
     refine at_frzO 4 32 rfl (by rw [List.getElem?_append_right (by simp [hx]), List.length_map, hx]; rfl) rfl rfl pul (view_eq (by rw [flat_filsR]) rfl) (tail_set hx _ _ _) ?_
     refine at_frzO 4 33 rfl (by rw [List.getElem?_append_right (by simp [hx]), List.length_map, hx]; rfl) rfl rfl pul (view_eq (by simp) rfl) (tail_set1 hx _ _ _) ?_
     refine at_region <| s1 (y_loadA0 ti27 rfl rfl (by simp [hx])) rfl ?_
     refine at_op rfl (n_storeA ti27 rfl rfl rfl (by simp [hx]) (by simp) ?_)
     refine s1 (y_p rfl) rfl ?_
     refine at_nil <| x_tn <| at_ret ?_
     refine at_result (rs := [.cell 2 27, .tmp 3]) rfl (r_cellA ti27 rfl rfl (List.take_of_length_le (by simp [hx])) (by simp [hx]) (r_tmp rfl r_nil)) ?_
     exact (rread_y hx hi2).symm
end Go.Abs.D2
-- C4L
namespace Go.Abs.D2
open Go Go.Eng Go.Abs Go.Proofs 
theorem rdecC_ok (b : List UInt8) (hb : b.length ≤ 1000000) : Con Tryd.prog 26 [.fz b.length (b.map u8)] (Ret (decCA b)) := by
 refine enter Tryd.func26 rfl Tryd.ntmps26 (by kernel_rfl) (Nat.le_of_ble_eq_true rfl) fun w0 X0 hI => ?_
 refine at_seq <| at_region ?_
 refine at_op rfl (n_alloc 2 rfl ti27 rfl rfl ?_)
 refine s1 ((y_p rfl).v (v' := .i .i64 0) rfl) rfl ?_
 refine at_nil <| x_tn <| at_seq ?_
 rcases rdecc_ways b with hcs | hcs | hcs | hcs | hcs
 ·have hd := hcs
  refine at_region <| s1 (y_p rfl) rfl ?_
  refine at_op rfl (n_call false rfl (.cons (.pure pu) (.nil)) (Con.cast (rdecode_ok b hb) (decA_n hd)) pu (.inl rfl) rfl ?_)
  refine s1 (y_p rfl) rfl <| s1 (y_p rfl) rfl <| s1 (y_p rfl) rfl ?_
  refine at_op rfl (n_alloc 4 rfl ti71 rfl rfl ?_)
  refine at_op rfl (n_storeA ti71 rfl rfl rfl (by first | rfl | omega | (simp <;> omega) | (simp [*] <;> omega)) (by first | rfl | omega | (simp <;> omega) | (simp [*] <;> omega)) ?_)
  refine s1 (y_p rfl) rfl ?_
  refine at_nil <| x_tn <| at_seq <| at_seq <| at_region <| s1 (y_p rfl) rfl <| s1 ((y_p rfl).v (v' := .b true) (rfl)) rfl ?_
  refine at_nil <| x_tn ?_
  refine at_then rfl ?_
  refine at_seq <| at_region <| s1 (y_bld (out := _) [(List.replicate 32 (.int .u8 0)).map evC, [evC (.slice none 0 0)], [evC (.slice none 0 0)]] ti27 rfl Tryd.underlying27 (by kernel_rfl) rfl rfl trivial rfl) rfl <| s1 (y_p rfl) rfl ?_
  refine at_op rfl (n_storeA ti27 rfl rfl rfl (by first | rfl | omega | (simp <;> omega) | (simp [*] <;> omega)) (by first | rfl | omega | (simp <;> omega) | (simp [*] <;> omega)) ?_)
  refine s1 (y_p rfl) rfl ?_
  refine at_nil <| x_tn <| at_ret <| x_tr ?_
  refine at_result (rs := [.cell 2 27, .tmp 3]) rfl (r_cellA ti27 rfl rfl rfl rfl (r_tmp rfl r_nil)) ?_
  exact (decCA_e hd).symm
 ·obtain ⟨k, n, s, l, hd, h1⟩ := hcs
  obtain ⟨henc, hrd⟩ := dec_spec (by omega) hd
  have hsz := CV.size_enc (CV.mk k n s l).size (.mk k n s l) (Nat.le_refl _) hrd.1
  have hel : (CV.mk k n s l).enc.length ≤ 1000000 := by rw [henc]; exact hb
  have hsz2 : (CV.mk k n s l).size ≤ 1000000 := by omega
  obtain ⟨cs, hcl, hcp, hrr⟩ := rread_no h1
  haveI : IsPureL cs := ⟨hcp⟩
  refine at_region <| s1 (y_p rfl) rfl ?_
  refine at_op rfl (n_call false rfl (.cons (.pure pu) (.nil)) (Con.cast (rdecode_ok b hb) ((decA_y hd).trans rfl)) pu (.inl rfl) rfl ?_)
  refine s1 (y_p rfl) rfl <| s1 (y_p rfl) rfl <| s1 (y_p rfl) rfl ?_
  refine at_op rfl (n_alloc 4 rfl ti71 rfl rfl ?_)
  refine at_op rfl (n_storeA ti71 rfl rfl rfl (by first | rfl | omega | (simp <;> omega) | (simp [*] <;> omega)) (by first | rfl | omega | (simp <;> omega) | (simp [*] <;> omega)) ?_)
  refine s1 (y_p rfl) rfl ?_
  refine at_nil <| x_tn <| at_seq <| at_seq <| at_region <| s1 (y_p rfl) rfl <| s1 ((y_p rfl).v (v' := .b false) (rfl)) rfl ?_
  refine at_nil <| x_tn ?_
  refine at_else rfl ?_
  refine at_skip <| x_tn <| at_seq <| at_region <| s1 (y_loadA0 ti71 rfl rfl rfl) rfl ?_
  refine at_op rfl (n_call false rfl (.cons (.pure pu) (.nil)) (Con.cast (rread_ok k n s l hsz2 hel hrd.1) hrr) pu (.inl rfl) rfl ?_)
  refine s1 (y_p rfl) rfl <| s1 (y_p rfl) rfl <| s1 (y_p rfl) rfl ?_
  refine at_op rfl (n_alloc 6 rfl ti27 rfl rfl ?_)
  refine at_op rfl (n_storeA ti27 rfl rfl rfl (by first | rfl | omega | (simp <;> omega) | (simp [*] <;> omega)) (by first | rfl | omega | (simp <;> omega) | (simp [*] <;> omega)) ?_)
  refine s1 (y_p rfl) rfl ?_
  refine at_nil <| x_tn <| at_seq <| at_seq <| at_region <| s1 (y_p rfl) rfl <| s1 ((y_p rfl).v (v' := .b true) (rfl)) rfl <| s1 (y_p rfl) rfl <| g0 rfl rfl rfl rfl <| g0 rfl rfl rfl rfl <| g0 rfl rfl rfl rfl <| s1 (y_p rfl) rfl ?_
  refine at_nil <| x_tn ?_
  refine at_then rfl ?_
  refine at_seq <| at_region <| s1 (y_bld (out := _) [(List.replicate 32 (.int .u8 0)).map evC, [evC (.slice none 0 0)], [evC (.slice none 0 0)]] ti27 rfl Tryd.underlying27 (by kernel_rfl) rfl rfl trivial rfl) rfl ?_
  refine at_op rfl (n_storeA ti27 rfl rfl rfl (by first | rfl | omega | (simp <;> omega) | (simp [*] <;> omega)) (by first | rfl | omega | (simp <;> omega) | (simp [*] <;> omega)) ?_)
  refine s1 ((y_p rfl).v (v' := .i .i64 340) rfl) rfl ?_
  refine at_nil <| x_tn <| at_ret <| x_tr ?_
  refine at_result (rs := [.cell 2 27, .tmp 3]) rfl (r_cellA ti27 rfl rfl rfl rfl (r_tmp rfl r_nil)) ?_
  exact (decCA_rn (by omega) hd (by rw [h1]; rfl)).symm
 ·obtain ⟨k, n, s, l, hd, h1, h2⟩ := hcs
  obtain ⟨henc, hrd⟩ := dec_spec (by omega) hd
  have hsz := CV.size_enc (CV.mk k n s l).size (.mk k n s l) (Nat.le_refl _) hrd.1
  have hel : (CV.mk k n s l).enc.length ≤ 1000000 := by rw [henc]; exact hb
  have hsz2 : (CV.mk k n s l).size ≤ 1000000 := by omega
  have hx := rreadB_x h1
  obtain ⟨hD, hE, _⟩ := Sm.cas (N := 1000000) (v := .mk k n s l) (.inl ⟨hrd.1, hel⟩)
  have hE2 : (readC (.mk k n s l)).E.length ≤ maxLen := by simp only [maxLen]; omega
  refine at_region <| s1 (y_p rfl) rfl ?_
  refine at_op rfl (n_call false rfl (.cons (.pure pu) (.nil)) (Con.cast (rdecode_ok b hb) ((decA_y hd).trans rfl)) pu (.inl rfl) rfl ?_)
  refine s1 (y_p rfl) rfl <| s1 (y_p rfl) rfl <| s1 (y_p rfl) rfl ?_
  refine at_op rfl (n_alloc 4 rfl ti71 rfl rfl ?_)
  refine at_op rfl (n_storeA ti71 rfl rfl rfl (by first | rfl | omega | (simp <;> omega) | (simp [*] <;> omega)) (by first | rfl | omega | (simp <;> omega) | (simp [*] <;> omega)) ?_)
  refine s1 (y_p rfl) rfl ?_
  refine at_nil <| x_tn <| at_seq <| at_seq <| at_region <| s1 (y_p rfl) rfl <| s1 ((y_p rfl).v (v' := .b false) (rfl)) rfl ?_
  refine at_nil <| x_tn ?_
  refine at_else rfl ?_
  refine at_skip <| x_tn <| at_seq <| at_region <| s1 (y_loadA0 ti71 rfl rfl rfl) rfl ?_
  refine at_op rfl (n_call false rfl (.cons (.pure pu) (.nil)) (Con.cast (rread_ok k n s l hsz2 hel hrd.1) (rread_yes h1)) pu (.inl rfl) rfl ?_)
  refine s1 (y_p rfl) rfl <| s1 (y_p rfl) rfl <| s1 (y_p rfl) rfl ?_
  refine at_op rfl (n_alloc 6 rfl ti27 rfl rfl ?_)
  refine at_op rfl (n_storeA ti27 rfl rfl rfl (by first | rfl | omega | (simp <;> omega) | (simp [*] <;> omega)) (by first | rfl | omega | (simp <;> omega) | (simp [*] <;> omega)) ?_)
  refine s1 (y_p rfl) rfl ?_
  refine at_nil <| x_tn <| at_seq <| at_seq <| at_region <| s1 (y_p rfl) rfl <| s1 ((y_p rfl).v (v' := .b false) (rfl)) rfl <| s1 (y_p rfl) rfl <| g1 rfl rfl (y_loadA0 ti27 rfl rfl (cas_len hx)) rfl ?_
  refine at_opg rfl rfl rfl (n_call false rfl (.cons (.pure pu) (.nil)) (Con.cast (rcchk_ok (readC (.mk k n s l)) hx hE2 hD) (congrArg (fun b => A.i .i64 (errC b)) h2)) pu (.inl rfl) rfl ?_)
  refine g1 rfl rfl ((y_p rfl).v (v' := .b true) (rfl)) rfl <| s1 (y_p rfl) rfl ?_
  refine at_nil <| x_tn ?_
  refine at_then rfl ?_
  refine at_seq <| at_region <| s1 (y_bld (out := _) [(List.replicate 32 (.int .u8 0)).map evC, [evC (.slice none 0 0)], [evC (.slice none 0 0)]] ti27 rfl Tryd.underlying27 (by kernel_rfl) rfl rfl trivial rfl) rfl ?_
  refine at_op rfl (n_storeA ti27 rfl rfl rfl (by first | rfl | omega | (simp <;> omega) | (simp [*] <;> omega)) (by first | rfl | omega | (simp <;> omega) | (simp [*] <;> omega)) ?_)
  refine s1 ((y_p rfl).v (v' := .i .i64 340) rfl) rfl ?_
  refine at_nil <| x_tn <| at_ret <| x_tr ?_
  refine at_result (rs := [.cell 2 27, .tmp 3]) rfl (r_cellA ti27 rfl rfl rfl rfl (r_tmp rfl r_nil)) ?_
  exact (decCA_rn (by omega) hd (by rw [h1, h2]; rfl)).symm
 ·obtain ⟨k, n, s, l, hd, h1, h2, h3⟩ := hcs
  obtain ⟨henc, hrd⟩ := dec_spec (by omega) hd
  have hsz := CV.size_enc (CV.mk k n s l).size (.mk k n s l) (Nat.le_refl _) hrd.1
  have hel : (CV.mk k n s l).enc.length ≤ 1000000 := by rw [henc]; exact hb
  have hsz2 : (CV.mk k n s l).size ≤ 1000000 := by omega
  have hx := rreadB_x h1
  obtain ⟨hD, hE, _⟩ := Sm.cas (N := 1000000) (v := .mk k n s l) (.inl ⟨hrd.1, hel⟩)
  have hE2 : (readC (.mk k n s l)).E.length ≤ maxLen := by simp only [maxLen]; omega
  refine at_region <| s1 (y_p rfl) rfl ?_
  refine at_op rfl (n_call false rfl (.cons (.pure pu) (.nil)) (Con.cast (rdecode_ok b hb) ((decA_y hd).trans rfl)) pu (.inl rfl) rfl ?_)
  refine s1 (y_p rfl) rfl <| s1 (y_p rfl) rfl <| s1 (y_p rfl) rfl ?_
  refine at_op rfl (n_alloc 4 rfl ti71 rfl rfl ?_)
  refine at_op rfl (n_storeA ti71 rfl rfl rfl (by first | rfl | omega | (simp <;> omega) | (simp [*] <;> omega)) (by first | rfl | omega | (simp <;> omega) | (simp [*] <;> omega)) ?_)
  refine s1 (y_p rfl) rfl ?_
  refine at_nil <| x_tn <| at_seq <| at_seq <| at_region <| s1 (y_p rfl) rfl <| s1 ((y_p rfl).v (v' := .b false) (rfl)) rfl ?_
  refine at_nil <| x_tn ?_
  refine at_else rfl ?_
  refine at_skip <| x_tn <| at_seq <| at_region <| s1 (y_loadA0 ti71 rfl rfl rfl) rfl ?_
  refine at_op rfl (n_call false rfl (.cons (.pure pu) (.nil)) (Con.cast (rread_ok k n s l hsz2 hel hrd.1) (rread_yes h1)) pu (.inl rfl) rfl ?_)
  refine s1 (y_p rfl) rfl <| s1 (y_p rfl) rfl <| s1 (y_p rfl) rfl ?_
  refine at_op rfl (n_alloc 6 rfl ti27 rfl rfl ?_)
  refine at_op rfl (n_storeA ti27 rfl rfl rfl (by first | rfl | omega | (simp <;> omega) | (simp [*] <;> omega)) (by first | rfl | omega | (simp <;> omega) | (simp [*] <;> omega)) ?_)
  refine s1 (y_p rfl) rfl ?_
  refine at_nil <| x_tn <| at_seq <| at_seq <| at_region <| s1 (y_p rfl) rfl <| s1 ((y_p rfl).v (v' := .b false) (rfl)) rfl <| s1 (y_p rfl) rfl <| g1 rfl rfl (y_loadA0 ti27 rfl rfl (cas_len hx)) rfl ?_
  refine at_opg rfl rfl rfl (n_call false rfl (.cons (.pure pu) (.nil)) (Con.cast (rcchk_ok (readC (.mk k n s l)) hx hE2 hD) (congrArg (fun b => A.i .i64 (errC b)) h2)) pu (.inl rfl) rfl ?_)
  refine g1 rfl rfl ((y_p rfl).v (v' := .b false) (rfl)) rfl <| s1 (y_p rfl) rfl ?_
  refine at_nil <| x_tn ?_
  refine at_else rfl ?_
  refine at_skip <| x_tn <| at_seq <| at_region <| s1 (y_loadA0 ti27 rfl rfl (cas_len hx)) rfl ?_
  refine at_op rfl (n_call false rfl (.cons (.pure pu) (.nil)) (Con.cast (rencC_ok (readC (.mk k n s l)) hx hE2 hD) (encCA_y h2)) pu (.inl rfl) rfl ?_)
  refine s1 (y_p rfl) rfl <| s1 (y_p rfl) rfl <| s1 (y_p rfl) rfl <| s1 (y_p rfl) rfl <| s1 (y_p rfl) rfl ?_
  refine at_nil <| x_tn <| at_seq <| at_seq <| at_region <| s1 (y_p rfl) rfl <| s1 (y_str Tryd.underlying40 Tryd.underlying5 Tryd.underlying9 rfl rfl rfl) rfl <| s1 (y_p rfl) rfl <| s1 (y_str Tryd.underlying40 Tryd.underlying5 Tryd.underlying9 rfl rfl rfl) rfl <| s1 ((y_p rfl).v (v' := .b true) (congrArg A.b (by simp [bne, h3]))) rfl ?_
  refine at_nil <| x_tn ?_
  refine at_then rfl ?_
  refine at_seq <| at_region <| s1 (y_bld (out := _) [(List.replicate 32 (.int .u8 0)).map evC, [evC (.slice none 0 0)], [evC (.slice none 0 0)]] ti27 rfl Tryd.underlying27 (by kernel_rfl) rfl rfl trivial rfl) rfl ?_
  refine at_op rfl (n_storeA ti27 rfl rfl rfl (by first | rfl | omega | (simp <;> omega) | (simp [*] <;> omega)) (by first | rfl | omega | (simp <;> omega) | (simp [*] <;> omega)) ?_)
  refine s1 ((y_p rfl).v (v' := .i .i64 340) rfl) rfl ?_
  refine at_nil <| x_tn <| at_ret <| x_tr ?_
  refine at_result (rs := [.cell 2 27, .tmp 3]) rfl (r_cellA ti27 rfl rfl rfl rfl (r_tmp rfl r_nil)) ?_
  exact (decCA_rn (by omega) hd (by rw [h1, h2, h3]; rfl)).symm
 ·obtain ⟨k, n, s, l, hd, h1, h2, h3⟩ := hcs
  obtain ⟨henc, hrd⟩ := dec_spec (by omega) hd
  have hsz := CV.size_enc (CV.mk k n s l).size (.mk k n s l) (Nat.le_refl _) hrd.1
  have hel : (CV.mk k n s l).enc.length ≤ 1000000 := by rw [henc]; exact hb
  have hsz2 : (CV.mk k n s l).size ≤ 1000000 := by omega
  have hx := rreadB_x h1
  obtain ⟨hD, hE, _⟩ := Sm.cas (N := 1000000) (v := .mk k n s l) (.inl ⟨hrd.1, hel⟩)
  have hE2 : (readC (.mk k n s l)).E.length ≤ maxLen := by simp only [maxLen]; omega
  refine at_region <| s1 (y_p rfl) rfl ?_
  refine at_op rfl (n_call false rfl (.cons (.pure pu) (.nil)) (Con.cast (rdecode_ok b hb) ((decA_y hd).trans rfl)) pu (.inl rfl) rfl ?_)
  refine s1 (y_p rfl) rfl <| s1 (y_p rfl) rfl <| s1 (y_p rfl) rfl ?_
  refine at_op rfl (n_alloc 4 rfl ti71 rfl rfl ?_)
  refine at_op rfl (n_storeA ti71 rfl rfl rfl (by first | rfl | omega | (simp <;> omega) | (simp [*] <;> omega)) (by first | rfl | omega | (simp <;> omega) | (simp [*] <;> omega)) ?_)
  refine s1 (y_p rfl) rfl ?_
  refine at_nil <| x_tn <| at_seq <| at_seq <| at_region <| s1 (y_p rfl) rfl <| s1 ((y_p rfl).v (v' := .b false) (rfl)) rfl ?_
  refine at_nil <| x_tn ?_
  refine at_else rfl ?_
  refine at_skip <| x_tn <| at_seq <| at_region <| s1 (y_loadA0 ti71 rfl rfl rfl) rfl ?_
  refine at_op rfl (n_call false rfl (.cons (.pure pu) (.nil)) (Con.cast (rread_ok k n s l hsz2 hel hrd.1) (rread_yes h1)) pu (.inl rfl) rfl ?_)
  refine s1 (y_p rfl) rfl <| s1 (y_p rfl) rfl <| s1 (y_p rfl) rfl ?_
  refine at_op rfl (n_alloc 6 rfl ti27 rfl rfl ?_)
  refine at_op rfl (n_storeA ti27 rfl rfl rfl (by first | rfl | omega | (simp <;> omega) | (simp [*] <;> omega)) (by first | rfl | omega | (simp <;> omega) | (simp [*] <;> omega)) ?_)
  refine s1 (y_p rfl) rfl ?_
  refine at_nil <| x_tn <| at_seq <| at_seq <| at_region <| s1 (y_p rfl) rfl <| s1 ((y_p rfl).v (v' := .b false) (rfl)) rfl <| s1 (y_p rfl) rfl <| g1 rfl rfl (y_loadA0 ti27 rfl rfl (cas_len hx)) rfl ?_
  refine at_opg rfl rfl rfl (n_call false rfl (.cons (.pure pu) (.nil)) (Con.cast (rcchk_ok (readC (.mk k n s l)) hx hE2 hD) (congrArg (fun b => A.i .i64 (errC b)) h2)) pu (.inl rfl) rfl ?_)
  refine g1 rfl rfl ((y_p rfl).v (v' := .b false) (rfl)) rfl <| s1 (y_p rfl) rfl ?_
  refine at_nil <| x_tn ?_
  refine at_else rfl ?_
  refine at_skip <| x_tn <| at_seq <| at_region <| s1 (y_loadA0 ti27 rfl rfl (cas_len hx)) rfl ?_
  refine at_op rfl (n_call false rfl (.cons (.pure pu) (.nil)) (Con.cast (rencC_ok (readC (.mk k n s l)) hx hE2 hD) (encCA_y h2)) pu (.inl rfl) rfl ?_)
  refine s1 (y_p rfl) rfl <| s1 (y_p rfl) rfl <| s1 (y_p rfl) rfl <| s1 (y_p rfl) rfl <| s1 (y_p rfl) rfl ?_
  refine at_nil <| x_tn <| at_seq <| at_seq <| at_region <| s1 (y_p rfl) rfl <| s1 (y_str Tryd.underlying40 Tryd.underlying5 Tryd.underlying9 rfl rfl rfl) rfl <| s1 (y_p rfl) rfl <| s1 (y_str Tryd.underlying40 Tryd.underlying5 Tryd.underlying9 rfl rfl rfl) rfl <| s1 ((y_p rfl).v (v' := .b false) (congrArg A.b (by simp [bne, h3]))) rfl ?_
  refine at_nil <| x_tn ?_
  refine at_else rfl ?_
  refine at_skip <| x_tn <| at_seq <| at_region <| s1 (y_loadA0 ti27 rfl rfl (cas_len hx)) rfl ?_
  refine at_op rfl (n_storeA ti27 rfl rfl rfl (cas_len hx) (by simp) ?_)
  refine s1 ((y_p rfl).v (v' := .i .i64 0) rfl) rfl ?_
  refine at_nil <| x_tn <| at_ret ?_
  refine at_result (rs := [.cell 2 27, .tmp 3]) rfl (r_cellA ti27 rfl rfl (cas_all hx) (cas_len hx) (r_tmp rfl r_nil)) ?_
  exact (decCA_ry (by omega) hd (by rw [h1, h2, h3]; rfl)).symm
theorem sameI4_ok (L M : List Int) (hL : L.length ≤ maxLen) (hM : M.length ≤ maxLen) : Con Tryd.prog 30 [.fz L.length (L.map (A.i .i64)), .fz M.length (M.map (A.i .i64))] (Ret (.b (L == M))) := by
 refine enter Tryd.func30 rfl Tryd.ntmps30 (by kernel_rfl) (Nat.le_of_ble_eq_true rfl) fun w0 X0 hI => ?_
 refine at_seq <| at_region <| s1 (y_p rfl) rfl ?_
 refine at_nil <| x_tn <| at_seq <| at_seq ?_
 rcases eq_ways L.length M.length with hcs | hcs
 ·skip
  simp only [maxLen] at hL hM
  refine at_region <| s1 (y_p rfl) rfl <| s1 (y_len Tryd.underlying24 rfl rfl rfl) rfl <| s1 (y_p rfl) rfl <| s1 (y_len Tryd.underlying24 rfl rfl rfl) rfl <| s1 ((y_p rfl).v (v' := .b true) (congrArg A.b (bne_iff_ne.2 (by omega)))) rfl ?_
  refine at_nil <| x_tn ?_
  refine at_then rfl ?_
  refine at_seq <| at_region <| s1 (y_p rfl) rfl ?_
  refine at_nil <| x_tn <| at_ret <| x_tr ?_
  refine at_result (rs := [.tmp 4]) rfl (r_tmp rfl r_nil) ?_
  exact congrArg A.b (beq_eq_false_iff_ne.2 fun h => hcs (by rw [h])).symm
 ·skip
  simp only [maxLen] at hL hM
  refine at_region <| s1 (y_p rfl) rfl <| s1 (y_len Tryd.underlying24 rfl rfl rfl) rfl <| s1 (y_p rfl) rfl <| s1 (y_len Tryd.underlying24 rfl rfl rfl) rfl <| s1 ((y_p rfl).v (v' := .b false) (congrArg A.b (by simp [hcs]))) rfl ?_
  refine at_nil <| x_tn ?_
  refine at_else rfl ?_
  refine at_skip <| x_tn <| at_seq <| at_seq <| at_region <| s1 ((y_p rfl).v (v' := .i .i64 0) rfl) rfl ?_
  refine at_nil <| x_tn <| at_block ?_
  refine at_loop (ι := Nat) (fun i => [(0, .fz L.length (L.map (A.i .i64))), (1, .fz M.length (M.map (A.i .i64))), (5, nJ i)]) (fun i => ⟨[]⟩) (fun i => i ≤ L.length ∧ L.take i = M.take i) (fun i => L.length - i) ?_ ?_
  ·exact at_ex (0) (⟨Nat.zero_le _, rfl⟩) [] hI rfl rfl ⟨⟨_, rfl, .pure pu⟩, ⟨_, rfl, .pure pu⟩, ⟨_, rfl, .pure pu⟩, trivial⟩ trivial
  rintro i ⟨hi, hi2⟩
  refine at_seq <| at_seq <| at_region <| s1 (y_p rfl) rfl <| s1 (y_p rfl) rfl <| s1 (y_len Tryd.underlying24 rfl rfl rfl) rfl <| s1 (y_p rfl) rfl ?_
  refine at_nil <| x_tn ?_
  refine at_cond rfl (fun hc14 => ?_) (fun hc14 => ?_)
  ·have h14 : i < L.length := by have := of_decide_eq_true hc14; omega
   obtain ⟨q, hq⟩ : ∃ q, L[i]? = some q := ⟨_, List.getElem?_eq_getElem h14⟩
   obtain ⟨p, hp⟩ : ∃ p, M[i]? = some p := ⟨_, List.getElem?_eq_getElem (by omega)⟩
   refine at_skip <| x_tn <| at_seq <| at_block <| at_seq ?_
   refine at_draw_tail 8 hmix (by kernel_rfl) ?_
   refine t1 (y_p rfl) rfl <| t1 (y_p rfl) rfl <| t1 (y_ixf i Tryd.underlying24 ti3 rfl rfl rfl (by omega) rfl) rfl <| t1 (y_load ti3 rfl rfl (getI4 hq)) rfl <| t1 (y_p rfl) rfl <| t1 (y_p rfl) rfl <| t1 (y_ixf i Tryd.underlying24 ti3 rfl rfl rfl (by omega) rfl) rfl <| t1 (y_load ti3 rfl rfl (getI4 hp)) rfl ?_
   refine at_snil ?_
   refine s1 (y_p rfl) rfl ?_
   refine at_nil <| x_tn ?_
   refine at_cond rfl (fun hc25 => ?_) (fun hc25 => ?_)
   ·have h25 : q ≠ p := by simpa using hc25
    refine at_seq <| at_region <| s1 (y_p rfl) rfl ?_
    refine at_nil <| x_tn <| at_ret <| x_br <| x_tr <| x_tr <| x_br <| x_tr ?_
    refine at_result (rs := [.tmp 4]) rfl (r_tmp rfl r_nil) ?_
    exact congrArg A.b (beq_eq_false_iff_ne.2 fun h => h25 (by rw [h, hp] at hq; exact (Option.some.inj hq).symm)).symm
   ·have h25 : q = p := by simpa using hc25
    refine at_skip <| x_bn <| x_tn <| at_region <| s1 (y_p rfl) rfl <| s1 (addN _ 1 rfl rfl rfl rfl (by omega)) rfl <| s1 (y_p rfl) rfl ?_
    refine at_nil ?_
    exact at_end (i + 1) (⟨by omega, by rw [List.take_add_one, List.take_add_one, hq, hp, hi2, h25]⟩) (by omega) [] hI rfl rfl ⟨⟨_, rfl, .pure pu⟩, ⟨_, rfl, .pure pu⟩, ⟨_, rfl, .pure pu⟩, trivial⟩ trivial
  ·obtain rfl : i = L.length := by have := of_decide_eq_false hc14; omega
   refine at_exit <| x_te <| x_te <| x_be <| x_tn <| at_seq <| at_region <| s1 (y_p rfl) rfl ?_
   refine at_nil <| x_tn <| at_ret ?_
   refine at_result (rs := [.tmp 4]) rfl (r_tmp rfl r_nil) ?_
   exact congrArg A.b (beq_iff_eq.2 (by rw [List.take_length, hcs, List.take_length] at hi2; exact hi2)).symm
theorem rsame_ok (c d : Cas) (hc : c.x.length = 32) (hd : d.x.length = 32) (hcn : c.E.length ≤ maxLen) (hdn : d.E.length ≤ maxLen) (hcF : c.F.length ≤ 1000000) : Con Tryd.prog 16 [.ag (casL c), .ag (casL d)] (Ret (.b (sameC c d))) := by
 refine enter Tryd.func16 rfl Tryd.ntmps16 (by kernel_rfl) (Nat.le_of_ble_eq_true rfl) fun w0 X0 hI => ?_
 refine at_seq <| at_region ?_
 refine at_op rfl (n_boxA 2 rfl rfl rfl ?_)
 refine at_op rfl (n_boxA 3 rfl rfl rfl ?_)
 refine s1 (y_p rfl) rfl ?_
 refine at_nil <| x_tn <| at_seq <| at_seq ?_
 rcases same_ways c d with hcs | hcs | hcs | hcs
 ·skip
  refine at_region <| s1 (y_fld Tryd.underlying27 rfl ti23 (by decide) rfl rfl) rfl <| s1 (y_loadA ti23 rfl rfl (cas_x hc) (by simp [hc])) rfl <| s1 (y_fld Tryd.underlying27 rfl ti23 (by decide) rfl rfl) rfl <| s1 (y_loadA ti23 rfl rfl (cas_x hd) (by simp [hd])) rfl <| s1 ((y_aqn Tryd.underlying23 Tryd.underlying5 ti5 (by kernel_rfl) rfl rfl (by first | assumption | (simp; done) | (simp [*]; done)) (by first | assumption | (simp; done) | (simp [*]; done))).v (v' := .b true) (congrArg A.b (by simp [hcs]))) rfl <| s1 (y_p rfl) rfl <| g0 rfl rfl rfl rfl <| g0 rfl rfl rfl rfl <| g0 rfl rfl rfl rfl <| g0 rfl rfl rfl rfl ?_
  refine g0 rfl rfl rfl rfl <| g0 rfl rfl rfl rfl <| g0 rfl rfl rfl rfl <| s1 (y_p rfl) rfl <| s1 (y_p rfl) rfl <| g0 rfl rfl rfl rfl <| g0 rfl rfl rfl rfl <| g0 rfl rfl rfl rfl <| g0 rfl rfl rfl rfl <| g0 rfl rfl rfl rfl ?_
  refine g0 rfl rfl rfl rfl <| s1 (y_p rfl) rfl ?_
  refine at_nil <| x_tn ?_
  refine at_then rfl ?_
  refine at_seq <| at_region <| s1 (y_p rfl) rfl ?_
  refine at_nil <| x_tn <| at_ret <| x_tr ?_
  refine at_result (rs := [.tmp 4]) rfl (r_tmp rfl r_nil) ?_
  exact congrArg A.b (sameC_x hcs).symm
 ·obtain ⟨h1, h2⟩ := hcs
  refine at_region <| s1 (y_fld Tryd.underlying27 rfl ti23 (by decide) rfl rfl) rfl <| s1 (y_loadA ti23 rfl rfl (cas_x hc) (by simp [hc])) rfl <| s1 (y_fld Tryd.underlying27 rfl ti23 (by decide) rfl rfl) rfl <| s1 (y_loadA ti23 rfl rfl (cas_x hd) (by simp [hd])) rfl <| s1 ((y_aqn Tryd.underlying23 Tryd.underlying5 ti5 (by kernel_rfl) rfl rfl (by first | assumption | (simp; done) | (simp [*]; done)) (by first | assumption | (simp; done) | (simp [*]; done))).v (v' := .b false) (congrArg A.b (by simp [h1]))) rfl <| s1 (y_p rfl) rfl <| g1 rfl rfl (y_fld Tryd.underlying27 rfl ti25 (by decide) rfl rfl) rfl <| g1 rfl rfl (y_load ti25 rfl rfl (cas_F hc)) rfl <| g1 rfl rfl (y_len Tryd.underlying25 rfl rfl rfl) rfl <| g1 rfl rfl (y_fld Tryd.underlying27 rfl ti25 (by decide) rfl rfl) rfl ?_
  refine g1 rfl rfl (y_load ti25 rfl rfl (cas_F hd)) rfl <| g1 rfl rfl (y_len Tryd.underlying25 rfl rfl rfl) rfl <| g1 rfl rfl ((y_p rfl).v (v' := .b true) (congrArg A.b (bne_iff_ne.2 (by omega)))) rfl <| s1 (y_p rfl) rfl <| s1 (y_p rfl) rfl <| g0 rfl rfl rfl rfl <| g0 rfl rfl rfl rfl <| g0 rfl rfl rfl rfl <| g0 rfl rfl rfl rfl <| g0 rfl rfl rfl rfl ?_
  refine g0 rfl rfl rfl rfl <| s1 (y_p rfl) rfl ?_
  refine at_nil <| x_tn ?_
  refine at_then rfl ?_
  refine at_seq <| at_region <| s1 (y_p rfl) rfl ?_
  refine at_nil <| x_tn <| at_ret <| x_tr ?_
  refine at_result (rs := [.tmp 4]) rfl (r_tmp rfl r_nil) ?_
  exact congrArg A.b (sameC_n h2).symm
 ·obtain ⟨h1, h2, h3⟩ := hcs
  refine at_region <| s1 (y_fld Tryd.underlying27 rfl ti23 (by decide) rfl rfl) rfl <| s1 (y_loadA ti23 rfl rfl (cas_x hc) (by simp [hc])) rfl <| s1 (y_fld Tryd.underlying27 rfl ti23 (by decide) rfl rfl) rfl <| s1 (y_loadA ti23 rfl rfl (cas_x hd) (by simp [hd])) rfl <| s1 ((y_aqn Tryd.underlying23 Tryd.underlying5 ti5 (by kernel_rfl) rfl rfl (by first | assumption | (simp; done) | (simp [*]; done)) (by first | assumption | (simp; done) | (simp [*]; done))).v (v' := .b false) (congrArg A.b (by simp [h1]))) rfl <| s1 (y_p rfl) rfl <| g1 rfl rfl (y_fld Tryd.underlying27 rfl ti25 (by decide) rfl rfl) rfl <| g1 rfl rfl (y_load ti25 rfl rfl (cas_F hc)) rfl <| g1 rfl rfl (y_len Tryd.underlying25 rfl rfl rfl) rfl <| g1 rfl rfl (y_fld Tryd.underlying27 rfl ti25 (by decide) rfl rfl) rfl ?_
  refine g1 rfl rfl (y_load ti25 rfl rfl (cas_F hd)) rfl <| g1 rfl rfl (y_len Tryd.underlying25 rfl rfl rfl) rfl <| g1 rfl rfl ((y_p rfl).v (v' := .b false) (congrArg A.b (by simp [h2]))) rfl <| s1 (y_p rfl) rfl <| s1 (y_p rfl) rfl <| g1 rfl rfl (y_fld Tryd.underlying27 rfl ti24 (by decide) rfl rfl) rfl <| g1 rfl rfl (y_load ti24 rfl rfl (cas_E hc)) rfl <| g1 rfl rfl (y_fld Tryd.underlying27 rfl ti24 (by decide) rfl rfl) rfl <| g1 rfl rfl (y_load ti24 rfl rfl (cas_E hd)) rfl ?_
  refine at_opg rfl rfl rfl (n_call false rfl (.cons (.pure pu) (.cons (.pure pu) (.nil))) (Con.cast (sameI4_ok c.E d.E hcn hdn) (congrArg A.b h3)) pu (.inl rfl) rfl ?_)
  refine g1 rfl rfl ((y_p rfl).v (v' := .b true) (rfl)) rfl <| s1 (y_p rfl) rfl ?_
  refine at_nil <| x_tn ?_
  refine at_then rfl ?_
  refine at_seq <| at_region <| s1 (y_p rfl) rfl ?_
  refine at_nil <| x_tn <| at_ret <| x_tr ?_
  refine at_result (rs := [.tmp 4]) rfl (r_tmp rfl r_nil) ?_
  exact congrArg A.b (sameC_e h3).symm
 ·obtain ⟨h1, h2, h3⟩ := hcs
  refine at_region <| s1 (y_fld Tryd.underlying27 rfl ti23 (by decide) rfl rfl) rfl <| s1 (y_loadA ti23 rfl rfl (cas_x hc) (by simp [hc])) rfl <| s1 (y_fld Tryd.underlying27 rfl ti23 (by decide) rfl rfl) rfl <| s1 (y_loadA ti23 rfl rfl (cas_x hd) (by simp [hd])) rfl <| s1 ((y_aqn Tryd.underlying23 Tryd.underlying5 ti5 (by kernel_rfl) rfl rfl (by first | assumption | (simp; done) | (simp [*]; done)) (by first | assumption | (simp; done) | (simp [*]; done))).v (v' := .b false) (congrArg A.b (by simp [h1]))) rfl <| s1 (y_p rfl) rfl <| g1 rfl rfl (y_fld Tryd.underlying27 rfl ti25 (by decide) rfl rfl) rfl <| g1 rfl rfl (y_load ti25 rfl rfl (cas_F hc)) rfl <| g1 rfl rfl (y_len Tryd.underlying25 rfl rfl rfl) rfl <| g1 rfl rfl (y_fld Tryd.underlying27 rfl ti25 (by decide) rfl rfl) rfl ?_
  refine g1 rfl rfl (y_load ti25 rfl rfl (cas_F hd)) rfl <| g1 rfl rfl (y_len Tryd.underlying25 rfl rfl rfl) rfl <| g1 rfl rfl ((y_p rfl).v (v' := .b false) (congrArg A.b (by simp [h2]))) rfl <| s1 (y_p rfl) rfl <| s1 (y_p rfl) rfl <| g1 rfl rfl (y_fld Tryd.underlying27 rfl ti24 (by decide) rfl rfl) rfl <| g1 rfl rfl (y_load ti24 rfl rfl (cas_E hc)) rfl <| g1 rfl rfl (y_fld Tryd.underlying27 rfl ti24 (by decide) rfl rfl) rfl <| g1 rfl rfl (y_load ti24 rfl rfl (cas_E hd)) rfl ?_
  refine at_opg rfl rfl rfl (n_call false rfl (.cons (.pure pu) (.cons (.pure pu) (.nil))) (Con.cast (sameI4_ok c.E d.E hcn hdn) (congrArg A.b h3)) pu (.inl rfl) rfl ?_)
  refine g1 rfl rfl ((y_p rfl).v (v' := .b false) (rfl)) rfl <| s1 (y_p rfl) rfl ?_
  refine at_nil <| x_tn ?_
  refine at_else rfl ?_
  refine at_skip <| x_tn <| at_seq <| at_seq <| at_region <| s1 ((y_p rfl).v (v' := .i .i64 0) rfl) rfl ?_
  refine at_nil <| x_tn <| at_block ?_
  refine at_loop (ι := Nat) (fun i => [(2, .p 2 0), (3, .p 3 0), (5, nJ i)]) (fun i => ⟨[(2, some (casL c)), (3, some (casL d))]⟩) (fun i => i ≤ c.F.length ∧ c.F.take i = d.F.take i) (fun i => c.F.length - i) ?_ ?_
  ·exact at_ex (0) (⟨Nat.zero_le _, rfl⟩) [(2, some 2), (3, some 3)] hI rfl rfl ⟨⟨_, rfl, .p rfl⟩, ⟨_, rfl, .p rfl⟩, ⟨_, rfl, .pure pu⟩, trivial⟩ ⟨.inr ⟨_, _, rfl, rfl, .pure pul⟩, .inr ⟨_, _, rfl, rfl, .pure pul⟩, trivial⟩
  rintro i ⟨hi, hi2⟩
  refine at_seq <| at_seq <| at_region <| s1 (y_p rfl) rfl <| s1 (y_fld Tryd.underlying27 rfl ti25 (by decide) rfl rfl) rfl <| s1 (y_load ti25 rfl rfl (cas_F hc)) rfl <| s1 (y_len Tryd.underlying25 rfl rfl rfl) rfl <| s1 (y_p rfl) rfl ?_
  refine at_nil <| x_tn ?_
  refine at_cond rfl (fun hc34 => ?_) (fun hc34 => ?_)
  ·have h34 : i < c.F.length := by have := of_decide_eq_true hc34; omega
   obtain ⟨f, hf⟩ : ∃ f, c.F[i]? = some f := ⟨_, List.getElem?_eq_getElem h34⟩
   obtain ⟨g, hg⟩ : ∃ g, d.F[i]? = some g := ⟨_, List.getElem?_eq_getElem (by omega)⟩
   refine at_skip <| x_tn <| at_seq <| at_block <| at_seq <| at_region <| s1 (y_fld Tryd.underlying27 rfl ti25 (by decide) rfl rfl) rfl <| s1 (y_load ti25 rfl rfl (cas_F hc)) rfl <| s1 (y_p rfl) rfl <| s1 (y_ixf i Tryd.underlying25 ti50 rfl rfl rfl (by omega) rfl) rfl <| s1 (y_loadA ti50 rfl rfl (flat_get hf) rfl) rfl ?_
   refine at_op rfl (n_alloc 6 rfl ti50 rfl rfl ?_)
   refine at_op rfl (n_storeA ti50 rfl rfl rfl (by first | rfl | omega | (simp <;> omega) | (simp [*] <;> omega)) (by first | rfl | omega | (simp <;> omega) | (simp [*] <;> omega)) ?_)
   refine at_nil <| x_tn <| at_seq <| at_region <| s1 (y_fld Tryd.underlying27 rfl ti25 (by decide) rfl rfl) rfl <| s1 (y_load ti25 rfl rfl (cas_F hd)) rfl <| s1 (y_p rfl) rfl <| s1 (y_ixf i Tryd.underlying25 ti50 rfl rfl rfl (by omega) rfl) rfl <| s1 (y_loadA ti50 rfl rfl (flat_get hg) rfl) rfl ?_
   refine at_op rfl (n_alloc 7 rfl ti50 rfl rfl ?_)
   refine at_op rfl (n_storeA ti50 rfl rfl rfl (by first | rfl | omega | (simp <;> omega) | (simp [*] <;> omega)) (by first | rfl | omega | (simp <;> omega) | (simp [*] <;> omega)) ?_)
   refine at_nil <| x_tn <| at_seq ?_
   rcases fil_ways f g with hcs | hcs | hcs | hcs
   ·obtain ⟨h3a, h4⟩ := hcs
    refine at_region <| s1 (y_fld Tryd.underlying50 rfl ti3 (by decide) rfl rfl) rfl <| s1 (y_load ti3 rfl rfl rfl) rfl <| s1 (y_fld Tryd.underlying50 rfl ti3 (by decide) rfl rfl) rfl <| s1 (y_load ti3 rfl rfl rfl) rfl <| s1 ((y_p rfl).v (v' := .b true) (congrArg A.b (bne_iff_ne.2 h3a))) rfl <| s1 (y_p rfl) rfl <| g0 rfl rfl rfl rfl <| g0 rfl rfl rfl rfl <| g0 rfl rfl rfl rfl <| g0 rfl rfl rfl rfl ?_
    refine g0 rfl rfl rfl rfl <| s1 (y_p rfl) rfl <| s1 (y_p rfl) rfl <| g0 rfl rfl rfl rfl <| g0 rfl rfl rfl rfl <| g0 rfl rfl rfl rfl <| g0 rfl rfl rfl rfl <| g0 rfl rfl rfl rfl <| g0 rfl rfl rfl rfl <| g0 rfl rfl rfl rfl ?_
    refine s1 (y_p rfl) rfl ?_
    refine at_nil <| x_tn ?_
    refine at_then rfl ?_
    refine at_seq <| at_region <| s1 (y_p rfl) rfl ?_
    refine at_nil <| x_tn <| at_ret <| x_br <| x_tr <| x_tr <| x_br <| x_tr ?_
    refine at_result (rs := [.tmp 4]) rfl (r_tmp rfl r_nil) ?_
    exact congrArg A.b (sameC_f hf hg h4).symm
   ·obtain ⟨h3a, h3b, h4⟩ := hcs
    refine at_region <| s1 (y_fld Tryd.underlying50 rfl ti3 (by decide) rfl rfl) rfl <| s1 (y_load ti3 rfl rfl rfl) rfl <| s1 (y_fld Tryd.underlying50 rfl ti3 (by decide) rfl rfl) rfl <| s1 (y_load ti3 rfl rfl rfl) rfl <| s1 ((y_p rfl).v (v' := .b false) (congrArg A.b (by simp [h3a]))) rfl <| s1 (y_p rfl) rfl <| g1 rfl rfl (y_fld Tryd.underlying50 rfl ti3 (by decide) rfl rfl) rfl <| g1 rfl rfl (y_load ti3 rfl rfl rfl) rfl <| g1 rfl rfl (y_fld Tryd.underlying50 rfl ti3 (by decide) rfl rfl) rfl <| g1 rfl rfl (y_load ti3 rfl rfl rfl) rfl ?_
    refine g1 rfl rfl ((y_p rfl).v (v' := .b true) (congrArg A.b (bne_iff_ne.2 h3b))) rfl <| s1 (y_p rfl) rfl <| s1 (y_p rfl) rfl <| g0 rfl rfl rfl rfl <| g0 rfl rfl rfl rfl <| g0 rfl rfl rfl rfl <| g0 rfl rfl rfl rfl <| g0 rfl rfl rfl rfl <| g0 rfl rfl rfl rfl <| g0 rfl rfl rfl rfl ?_
    refine s1 (y_p rfl) rfl ?_
    refine at_nil <| x_tn ?_
    refine at_then rfl ?_
    refine at_seq <| at_region <| s1 (y_p rfl) rfl ?_
    refine at_nil <| x_tn <| at_ret <| x_br <| x_tr <| x_tr <| x_br <| x_tr ?_
    refine at_result (rs := [.tmp 4]) rfl (r_tmp rfl r_nil) ?_
    exact congrArg A.b (sameC_f hf hg h4).symm
   ·obtain ⟨h3a, h3b, h3c, h4⟩ := hcs
    refine at_region <| s1 (y_fld Tryd.underlying50 rfl ti3 (by decide) rfl rfl) rfl <| s1 (y_load ti3 rfl rfl rfl) rfl <| s1 (y_fld Tryd.underlying50 rfl ti3 (by decide) rfl rfl) rfl <| s1 (y_load ti3 rfl rfl rfl) rfl <| s1 ((y_p rfl).v (v' := .b false) (congrArg A.b (by simp [h3a]))) rfl <| s1 (y_p rfl) rfl <| g1 rfl rfl (y_fld Tryd.underlying50 rfl ti3 (by decide) rfl rfl) rfl <| g1 rfl rfl (y_load ti3 rfl rfl rfl) rfl <| g1 rfl rfl (y_fld Tryd.underlying50 rfl ti3 (by decide) rfl rfl) rfl <| g1 rfl rfl (y_load ti3 rfl rfl rfl) rfl ?_
    refine g1 rfl rfl ((y_p rfl).v (v' := .b false) (congrArg A.b (by simp [h3b]))) rfl <| s1 (y_p rfl) rfl <| s1 (y_p rfl) rfl <| g1 rfl rfl (y_fld Tryd.underlying50 rfl ti40 (by decide) rfl rfl) rfl <| g1 rfl rfl (y_load ti40 rfl rfl rfl) rfl <| g1 rfl rfl (y_str Tryd.underlying40 Tryd.underlying5 Tryd.underlying9 rfl rfl rfl) rfl <| g1 rfl rfl (y_fld Tryd.underlying50 rfl ti40 (by decide) rfl rfl) rfl <| g1 rfl rfl (y_load ti40 rfl rfl rfl) rfl <| g1 rfl rfl (y_str Tryd.underlying40 Tryd.underlying5 Tryd.underlying9 rfl rfl rfl) rfl <| g1 rfl rfl ((y_p rfl).v (v' := .b true) (congrArg A.b (by simpa using h3c))) rfl ?_
    refine s1 (y_p rfl) rfl ?_
    refine at_nil <| x_tn ?_
    refine at_then rfl ?_
    refine at_seq <| at_region <| s1 (y_p rfl) rfl ?_
    refine at_nil <| x_tn <| at_ret <| x_br <| x_tr <| x_tr <| x_br <| x_tr ?_
    refine at_result (rs := [.tmp 4]) rfl (r_tmp rfl r_nil) ?_
    exact congrArg A.b (sameC_f hf hg h4).symm
   ·obtain ⟨h3a, h3b, h3c, h4⟩ := hcs
    refine at_region <| s1 (y_fld Tryd.underlying50 rfl ti3 (by decide) rfl rfl) rfl <| s1 (y_load ti3 rfl rfl rfl) rfl <| s1 (y_fld Tryd.underlying50 rfl ti3 (by decide) rfl rfl) rfl <| s1 (y_load ti3 rfl rfl rfl) rfl <| s1 ((y_p rfl).v (v' := .b false) (congrArg A.b (by simp [h3a]))) rfl <| s1 (y_p rfl) rfl <| g1 rfl rfl (y_fld Tryd.underlying50 rfl ti3 (by decide) rfl rfl) rfl <| g1 rfl rfl (y_load ti3 rfl rfl rfl) rfl <| g1 rfl rfl (y_fld Tryd.underlying50 rfl ti3 (by decide) rfl rfl) rfl <| g1 rfl rfl (y_load ti3 rfl rfl rfl) rfl ?_
    refine g1 rfl rfl ((y_p rfl).v (v' := .b false) (congrArg A.b (by simp [h3b]))) rfl <| s1 (y_p rfl) rfl <| s1 (y_p rfl) rfl <| g1 rfl rfl (y_fld Tryd.underlying50 rfl ti40 (by decide) rfl rfl) rfl <| g1 rfl rfl (y_load ti40 rfl rfl rfl) rfl <| g1 rfl rfl (y_str Tryd.underlying40 Tryd.underlying5 Tryd.underlying9 rfl rfl rfl) rfl <| g1 rfl rfl (y_fld Tryd.underlying50 rfl ti40 (by decide) rfl rfl) rfl <| g1 rfl rfl (y_load ti40 rfl rfl rfl) rfl <| g1 rfl rfl (y_str Tryd.underlying40 Tryd.underlying5 Tryd.underlying9 rfl rfl rfl) rfl <| g1 rfl rfl ((y_p rfl).v (v' := .b false) (congrArg A.b (by simp [h3c]))) rfl ?_
    refine s1 (y_p rfl) rfl ?_
    refine at_nil <| x_tn ?_
    refine at_else rfl ?_
    refine at_skip <| x_bn <| x_tn <| at_region <| s1 (y_p rfl) rfl <| s1 (addN _ 1 rfl rfl rfl rfl (by omega)) rfl <| s1 (y_p rfl) rfl ?_
    refine at_nil ?_
    exact at_end (i + 1) (⟨by omega, by rw [List.take_add_one, List.take_add_one, hf, hg, hi2, h4]⟩) (by omega) [(2, some 2), (3, some 3)] hI rfl rfl ⟨⟨_, rfl, .p rfl⟩, ⟨_, rfl, .p rfl⟩, ⟨_, rfl, .pure pu⟩, trivial⟩ ⟨.inr ⟨_, _, rfl, rfl, .pure pul⟩, .inr ⟨_, _, rfl, rfl, .pure pul⟩, trivial⟩
  ·obtain rfl : i = c.F.length := by have := of_decide_eq_false hc34; omega
   refine at_exit <| x_te <| x_te <| x_be <| x_tn <| at_seq <| at_region <| s1 (y_p rfl) rfl ?_
   refine at_nil <| x_tn <| at_ret ?_
   refine at_result (rs := [.tmp 4]) rfl (r_tmp rfl r_nil) ?_
   exact congrArg A.b (sameC_y h1 h2 h3 hi2).symm
end Go.Abs.D2
-- C4M
namespace Go.Abs.D2
open Go Go.Eng Go.Abs Go.Proofs 
end Go.Abs.D2
-- C4N
namespace Go.Abs.D2
open Go Go.Eng Go.Abs Go.Proofs 
end Go.Abs.D2
-- C1G
namespace Go.Abs.D2
open Go Go.Eng Go.Abs Go.Proofs 
abbrev brk : Value := .iface 99 (.agg #[])
theorem take_step (l : List UInt8) (n : Nat) (hl : l.length ≤ 1000000) : ConE Tryd.prog 95 [.p 400 0, .i .u64 (n : Nat)] ⟨[(400, some [.fz (l).length ((l).map u8)])]⟩ (fun r st => n ≤ l.length ∧ RetS (.fz n ((l.take n).map u8)) [(400, [.fz (l.drop n).length ((l.drop n).map u8)])] r st) (fun u => l.length < n ∧ u = brk) := by
 refine enterE Tryd.func95 rfl Tryd.ntmps95 (by kernel_rfl) (Nat.le_of_ble_eq_true rfl) fun w0 X0 hI => ?_
 refine at_seq <| at_region <| s1 (y_p rfl) rfl ?_
 refine at_nil <| x_tn <| at_seq <| at_seq <| at_region <| s1 (y_p rfl) rfl <| s1 (y_p rfl) rfl <| s1 (y_nilc rfl rfl) rfl <| s1 (y_fld Tryd.underlying97 rfl ti40 (by decide) rfl rfl) rfl <| s1 (y_load ti40 rfl rfl rfl) rfl <| s1 (y_len Tryd.underlying40 rfl rfl rfl) rfl <| s1 (ofN_64 _ Tryd.underlying3 Tryd.underlying117 rfl rfl) rfl <| s1 ((y_p rfl).v (v' := .b (decide (l.length < n))) (congrArg A.b (take_gt hl))) rfl ?_
 refine at_nil <| x_tn ?_
 refine at_cond rfl (fun hc13 => ?_) (fun hc13 => ?_)
 ·have h13 : l.length < n := of_decide_eq_true hc13
  refine at_region <| s1 (y_bld (out := []) [] ti99 rfl Tryd.underlying99 (by kernel_rfl) rfl rfl trivial rfl) rfl <| s1 (y_mkic (by kernel_rfl) rfl) rfl ?_
  refine p_panic rfl rfl ?_
  refine x_tp ?_
  exact at_panicked ⟨h13, rfl⟩
 ·have h13 : ¬ l.length < n := of_decide_eq_false hc13
  refine at_skip <| x_tn <| at_seq <| at_region <| s1 (y_p rfl) rfl <| s1 (y_nilc rfl rfl) rfl <| s1 (y_fld Tryd.underlying97 rfl ti40 (by decide) rfl rfl) rfl <| s1 (y_load ti40 rfl rfl rfl) rfl <| s1 (y_p rfl) rfl <| s1 (y_p rfl) rfl <| s1 (y_cutf3 (ds := (l.take n).map u8) n Tryd.underlying40 ti5 rfl (by simp) bn (bs rfl rfl) (bs rfl rfl) (Nat.zero_le _) (by omega) rfl (cut_lo l n)) rfl <| s1 (y_p rfl) rfl ?_
  refine at_nil <| x_tn <| at_seq ?_
  refine at_draw_tail 19 hmix (by kernel_rfl) ?_
  refine t1 (y_p rfl) rfl <| t1 (y_p rfl) rfl <| t1 (y_nilc rfl rfl) rfl <| t1 (y_fld Tryd.underlying97 rfl ti40 (by decide) rfl rfl) rfl <| t1 (y_load ti40 rfl rfl rfl) rfl <| t1 (y_p rfl) rfl <| t1 (y_p rfl) rfl <| t1 (y_nilc rfl rfl) rfl <| t1 (y_fld Tryd.underlying97 rfl ti40 (by decide) rfl rfl) rfl <| t1 (y_load ti40 rfl rfl rfl) rfl ?_
  refine t1 (y_len Tryd.underlying40 rfl rfl rfl) rfl <| t1 (y_p rfl) rfl <| t1 (y_nilc rfl rfl) rfl <| t1 (y_fld Tryd.underlying97 rfl ti40 (by decide) rfl rfl) rfl <| t1 (y_load ti40 rfl rfl rfl) rfl <| t1 (y_len Tryd.underlying40 rfl rfl rfl) rfl <| t1 (y_cutf3 (ds := (l.drop n).map u8) (l.drop n).length Tryd.underlying40 ti5 rfl (by simp) (bs rfl rfl) (bs rfl rfl) (bs rfl rfl) (by omega) (Nat.le_refl _) (by simp) (cut_hi l n)) rfl <| t1 (y_nilc rfl rfl) rfl <| t1 (y_fld Tryd.underlying97 rfl ti40 (by decide) rfl rfl) rfl ?_
  refine at_snil ?_
  refine at_op rfl (n_store1 ti40 rfl rfl rfl rfl (by first | rfl | omega | (simp <;> omega) | (simp [*] <;> omega)) rfl ?_)
  refine at_nil <| x_tn <| at_seq <| at_region <| s1 (y_p rfl) rfl <| s1 (y_p rfl) rfl ?_
  refine at_nil <| x_tn <| at_ret ?_
  refine at_resultE (rs := [.tmp 4]) rfl (r_tmp rfl r_nil) ⟨by omega, retS_1 rfl⟩
theorem take_ok (l : List UInt8) (n : Nat) (hl : l.length ≤ 1000000) (h : n ≤ l.length) : ConS Tryd.prog 95 [.p 400 0, .i .u64 (n : Nat)] ⟨[(400, some [.fz (l).length ((l).map u8)])]⟩ (RetS (.fz n ((l.take n).map u8)) [(400, [.fz (l.drop n).length ((l.drop n).map u8)])]) := (take_step l n hl).ret (fun _ _ h => h.2) (fun _ hu => absurd hu.1 (by omega))
theorem take_no (l : List UInt8) (n : Nat) (hl : l.length ≤ 1000000) (h : l.length < n) : ConX Tryd.prog 95 [.p 400 0, .i .u64 (n : Nat)] ⟨[(400, some [.fz (l).length ((l).map u8)])]⟩ (fun u => u = brk) := ((take_step l n hl).pan (fun _ _ h' => absurd h'.1 (by omega))).imp fun _ hu => hu.2
theorem takeW_ok (l : List UInt8) (n : Nat) (hl : l.length ≤ 1000000) (hn : n < 2 ^ 64) (h : n ≤ l.length) : ConS Tryd.prog 95 [.p 400 0, w64 (c64 n)] ⟨[(400, some [.fz (l).length ((l).map u8)])]⟩ (RetS (.fz n ((l.take n).map u8)) [(400, [.fz (l.drop n).length ((l.drop n).map u8)])]) := by
  rw [show w64 (c64 n) = .i .u64 (n : Nat) from congrArg (fun n : Nat => A.i .u64 (n : Int)) (c64_nat hn)]
  exact take_ok l n hl h
theorem takeW_no (l : List UInt8) (n : Nat) (hl : l.length ≤ 1000000) (hn : n < 2 ^ 64) (h : l.length < n) : ConX Tryd.prog 95 [.p 400 0, w64 (c64 n)] ⟨[(400, some [.fz (l).length ((l).map u8)])]⟩ (fun u => u = brk) := by
  rw [show w64 (c64 n) = .i .u64 (n : Nat) from congrArg (fun n : Nat => A.i .u64 (n : Int)) (c64_nat hn)]
  exact take_no l n hl h
theorem take1_ok (c : UInt8) (r : List UInt8) (hl : (c :: r).length ≤ 1000000) : ConS Tryd.prog 95 [.p 400 0, .i .u64 1] ⟨[(400, some [.fz (c :: r).length ((c :: r).map u8)])]⟩ (RetS (.fz 1 [u8 c]) [(400, [.fz (r).length ((r).map u8)])]) := take_ok (c :: r) 1 hl (by simp)
theorem take1_no : ConX Tryd.prog 95 [.p 400 0, .i .u64 1] ⟨[(400, some [.fz (([] : List UInt8)).length ((([] : List UInt8)).map u8)])]⟩ (fun u => u = brk) := take_no [] 1 (by simp) (by simp)
theorem number_step (l : List UInt8) (hl : l.length ≤ 1000000) : ConE Tryd.prog 97 [.p 400 0] ⟨[(400, some [.fz (l).length ((l).map u8)])]⟩ (fun r st => ∃ u rest, rdN 0 l = some (u, rest) ∧ RetS (.i .u64 (u : Nat)) [(400, [.fz (rest).length ((rest).map u8)])] r st) (fun u => rdN 0 l = none ∧ u = brk) := by
 refine enterE Tryd.func97 rfl Tryd.ntmps97 (by kernel_rfl) (Nat.le_of_ble_eq_true rfl) fun w0 X0 hI => ?_
 refine at_seq <| at_region <| s1 ((y_p rfl).v (v' := .i .u64 0) rfl) rfl ?_
 refine at_nil <| x_tn <| at_seq <| at_region <| s1 ((y_p rfl).v (v' := .i .i64 0) rfl) rfl ?_
 refine at_nil <| x_tn <| at_block ?_
 refine at_loop (ι := Nat × Nat × List UInt8) (fun ⟨i, acc, r⟩ => [(0, .p 400 0), (2, w64 (c64 acc)), (3, nJ i)]) (fun ⟨i, acc, r⟩ => ⟨[(400, some ([.fz r.length (r.map u8)]))]⟩) (fun ⟨i, acc, r⟩ => i ≤ 9 ∧ acc < 128 ^ i ∧ r.length ≤ l.length ∧ rdN 0 l = (rdN i r).map (fun p => (acc + 128 ^ i * p.1, p.2))) (fun ⟨i, acc, r⟩ => 10 - i) ?_ ?_
 ·exact at_ex ((0, 0, l)) (⟨by omega, by omega, Nat.le_refl _, (rdN_start l).symm⟩) [(400, some 400)] hI rfl rfl ⟨⟨_, rfl, .p rfl⟩, ⟨_, rfl, .pure pu⟩, ⟨_, rfl, .pure pu⟩, trivial⟩ ⟨.inr ⟨_, _, rfl, rfl, .pure pul⟩, trivial⟩
 rintro ⟨i, acc, r⟩ ⟨hi, hac, hrl, hst⟩
 dsimp only
 refine at_seq <| at_block <| at_seq ?_
 rcases num_cases r with hcs | hcs
 ·subst hcs
  refine at_region <| s1 (y_p rfl) rfl ?_
  refine p_call ⟨[(400, some [.fz (([] : List UInt8)).length ((([] : List UInt8)).map u8)])]⟩ false rfl ⟨⟨rfl, VwL.pure pul⟩, trivial⟩ (.cons (.kp rfl) (.cons (.pure pu) .nil)) (take1_no) (fun u hu => ?_)
  refine x_tp ?_
  refine x_bp ?_
  refine x_tp ?_
  refine x_tp ?_
  refine x_bp ?_
  exact at_panicked ⟨by rw [hst]; rfl, hu⟩
 ·obtain ⟨c, r, rfl⟩ := hcs
  have hcl := c.toNat_lt
  simp only [List.length_cons] at hrl
  refine at_region <| s1 (y_p rfl) rfl ?_
  refine at_op rfl (n_callGd ⟨[(400, some [.fz (c :: r).length ((c :: r).map u8)])]⟩ [(400, [.fz (r).length ((r).map u8)])] false rfl ⟨⟨rfl, VwL.pure pul⟩, trivial⟩ (.cons (.kp rfl) (.cons (.pure pu) .nil)) (take1_ok c r (by simp only [List.length_cons]; omega)) pu (.inl rfl) (fun p hp => by rw [List.mem_singleton.1 hp]; exact ⟨⟨_, rfl⟩, pul, .inl rfl⟩) rfl ?_)
  refine s1 (y_ixf 0 Tryd.underlying40 ti5 rfl rfl rfl (by omega) rfl) rfl <| s1 (y_load ti5 rfl rfl rfl) rfl <| s1 (y_p rfl) rfl ?_
  refine at_nil <| x_tn <| at_seq <| at_seq ?_
  rcases num_ways i c with hcs | hcs | hcs | hcs | hcs | hcs
  ·obtain ⟨hbad, h9, h1⟩ := hcs
   refine at_region <| s1 (y_p rfl) rfl <| s1 ((y_p rfl).v (v' := .b true) (congrArg A.b (beq_iff_eq.2 (by omega)))) rfl <| s1 (y_p rfl) rfl <| g1 rfl rfl (y_p rfl) rfl <| g1 rfl rfl ((y_p rfl).v (v' := .b true) (congrArg A.b (decide_eq_true (by omega)))) rfl <| s1 (y_p rfl) rfl <| s1 (y_p rfl) rfl <| g0 rfl rfl rfl rfl <| g0 rfl rfl rfl rfl <| g0 rfl rfl rfl rfl ?_
   refine g0u rfl rfl rfl <| g0u rfl rfl rfl <| g0 rfl rfl rfl rfl <| s1 (y_p rfl) rfl ?_
   refine at_nil <| x_tn ?_
   refine at_then rfl ?_
   refine at_region <| s1 (y_bld (out := []) [] ti99 rfl Tryd.underlying99 (by kernel_rfl) rfl rfl trivial rfl) rfl <| s1 (y_mkic (by kernel_rfl) rfl) rfl ?_
   refine p_panic rfl rfl ?_
   refine x_tp ?_
   refine x_bp ?_
   refine x_tp ?_
   refine x_tp ?_
   refine x_bp ?_
   exact at_panicked ⟨by rw [hst, rdN_bad hbad]; rfl, rfl⟩
  ·obtain ⟨hbad, h1, h2, h3⟩ := hcs
   refine at_region <| s1 (y_p rfl) rfl <| s1 ((y_p rfl).v (v' := .b false) (congrArg A.b (beq_eq_false_iff_ne.2 (by omega)))) rfl <| s1 (y_p rfl) rfl <| g0 rfl rfl rfl rfl <| g0 rfl rfl rfl rfl <| s1 (y_p rfl) rfl <| s1 (y_p rfl) rfl <| g1 rfl rfl (y_p rfl) rfl <| g1 rfl rfl ((y_p rfl).v (v' := .b true) (congrArg A.b (decide_eq_true (by omega)))) rfl <| g1 rfl rfl (y_p rfl) rfl ?_
   refine g1 rfl rfl (y_p rfl) rfl <| g1 rfl rfl ((y_p rfl).v (v' := .b true) (congrArg A.b (beq_iff_eq.2 (by omega)))) rfl <| g1 rfl rfl (y_p rfl) rfl <| s1 (y_p rfl) rfl ?_
   refine at_nil <| x_tn ?_
   refine at_then rfl ?_
   refine at_region <| s1 (y_bld (out := []) [] ti99 rfl Tryd.underlying99 (by kernel_rfl) rfl rfl trivial rfl) rfl <| s1 (y_mkic (by kernel_rfl) rfl) rfl ?_
   refine p_panic rfl rfl ?_
   refine x_tp ?_
   refine x_bp ?_
   refine x_tp ?_
   refine x_tp ?_
   refine x_bp ?_
   exact at_panicked ⟨by rw [hst, rdN_bad hbad]; rfl, rfl⟩
  ·obtain ⟨hbad, h9, h1⟩ := hcs
   refine at_region <| s1 (y_p rfl) rfl <| s1 ((y_p rfl).v (v' := .b true) (congrArg A.b (beq_iff_eq.2 (by omega)))) rfl <| s1 (y_p rfl) rfl <| g1 rfl rfl (y_p rfl) rfl <| g1 rfl rfl ((y_p rfl).v (v' := .b false) (congrArg A.b (decide_eq_false (by omega)))) rfl <| s1 (y_p rfl) rfl <| s1 (y_p rfl) rfl <| g1 rfl rfl (y_p rfl) rfl <| g1 rfl rfl ((y_p rfl).v (v' := .b true) (congrArg A.b (decide_eq_true (by omega)))) rfl <| g1 rfl rfl (y_p rfl) rfl ?_
   refine g1 rfl rfl (y_p rfl) rfl <| g1 rfl rfl ((y_p rfl).v (v' := .b false) (congrArg A.b (beq_eq_false_iff_ne.2 (by omega)))) rfl <| g1 rfl rfl (y_p rfl) rfl <| s1 (y_p rfl) rfl ?_
   refine at_nil <| x_tn ?_
   refine at_else rfl ?_
   refine at_skip <| x_tn <| at_seq <| at_region <| s1 (y_p rfl) rfl <| s1 (y_p rfl) rfl <| s1 (andB _ (127 : UInt8) rfl rfl) rfl <| s1 (of8_64 _ Tryd.underlying5 Tryd.underlying117 rfl) rfl <| s1 (y_p rfl) rfl <| s1 (mulN 7 i rfl rfl rfl rfl (by omega)) rfl <| s1 (shl64 _ _ rfl rfl rfl (by omega)) rfl <| s1 ((or64 _ _ rfl rfl).v (v' := w64 (c64 (acc + 128 ^ i * (c.toNat % 128)))) (congrArg w64 (num_or hac hi hbad))) rfl <| s1 (y_p rfl) rfl ?_
   refine at_nil <| x_tn <| at_seq <| at_region <| s1 (y_p rfl) rfl <| s1 ((y_p rfl).v (v' := .b (decide (c.toNat < 128))) (congrArg A.b (decide_eq_decide.2 (by omega)))) rfl ?_
   refine at_nil <| x_tn ?_
   refine at_cond rfl (fun hc36 => ?_) (fun hc36 => ?_)
   ·have hsm : c.toNat < 128 := of_decide_eq_true hc36
    refine at_seq <| at_region <| s1 (y_p rfl) rfl <| s1 (y_p rfl) rfl ?_
    refine at_nil <| x_tn <| at_ret <| x_br <| x_tr <| x_tr <| x_br ?_
    refine at_resultE (rs := [.tmp 2]) rfl (r_tmp rfl r_nil) ⟨acc + 128 ^ i * c.toNat, r, by rw [hst, rdN_end hbad hsm]; rfl, ?_⟩
    rw [num_ret hac hi hbad hsm]
    exact retS_1 rfl
   ·have hbig : ¬ c.toNat < 128 := of_decide_eq_false hc36
    have hi8 : i ≤ 8 := num_more hi hbad hbig
    refine at_skip <| x_bn <| x_tn <| at_region <| s1 (y_p rfl) rfl <| s1 (addN _ 1 rfl rfl rfl rfl (by omega)) rfl <| s1 (y_p rfl) rfl ?_
    refine at_nil ?_
    exact at_end (x := (i, acc, r)) ((i + 1, acc + 128 ^ i * (c.toNat % 128), r)) (⟨show i + 1 ≤ 9 by omega, num_lt hac, show r.length ≤ l.length by omega, numR_step hst hbad hbig⟩) (show 10 - (i + 1) < 10 - i by omega) [(400, some 400)] hI rfl rfl ⟨⟨_, rfl, .p rfl⟩, ⟨_, rfl, .pure pu⟩, ⟨_, rfl, .pure pu⟩, trivial⟩ ⟨.inr ⟨_, _, rfl, rfl, .pure pul⟩, trivial⟩
  ·obtain ⟨hbad, h9⟩ := hcs
   refine at_region <| s1 (y_p rfl) rfl <| s1 ((y_p rfl).v (v' := .b false) (congrArg A.b (beq_eq_false_iff_ne.2 (by omega)))) rfl <| s1 (y_p rfl) rfl <| g0 rfl rfl rfl rfl <| g0 rfl rfl rfl rfl <| s1 (y_p rfl) rfl <| s1 (y_p rfl) rfl <| g1 rfl rfl (y_p rfl) rfl <| g1 rfl rfl ((y_p rfl).v (v' := .b false) (congrArg A.b (decide_eq_false (by omega)))) rfl <| g1 rfl rfl (y_p rfl) rfl ?_
   refine g0 rfl rfl rfl rfl <| g0 rfl rfl rfl rfl <| g1 rfl rfl (y_p rfl) rfl <| s1 (y_p rfl) rfl ?_
   refine at_nil <| x_tn ?_
   refine at_else rfl ?_
   refine at_skip <| x_tn <| at_seq <| at_region <| s1 (y_p rfl) rfl <| s1 (y_p rfl) rfl <| s1 (andB _ (127 : UInt8) rfl rfl) rfl <| s1 (of8_64 _ Tryd.underlying5 Tryd.underlying117 rfl) rfl <| s1 (y_p rfl) rfl <| s1 (mulN 7 i rfl rfl rfl rfl (by omega)) rfl <| s1 (shl64 _ _ rfl rfl rfl (by omega)) rfl <| s1 ((or64 _ _ rfl rfl).v (v' := w64 (c64 (acc + 128 ^ i * (c.toNat % 128)))) (congrArg w64 (num_or hac hi hbad))) rfl <| s1 (y_p rfl) rfl ?_
   refine at_nil <| x_tn <| at_seq <| at_region <| s1 (y_p rfl) rfl <| s1 ((y_p rfl).v (v' := .b (decide (c.toNat < 128))) (congrArg A.b (decide_eq_decide.2 (by omega)))) rfl ?_
   refine at_nil <| x_tn ?_
   refine at_cond rfl (fun hc36 => ?_) (fun hc36 => ?_)
   ·have hsm : c.toNat < 128 := of_decide_eq_true hc36
    refine at_seq <| at_region <| s1 (y_p rfl) rfl <| s1 (y_p rfl) rfl ?_
    refine at_nil <| x_tn <| at_ret <| x_br <| x_tr <| x_tr <| x_br ?_
    refine at_resultE (rs := [.tmp 2]) rfl (r_tmp rfl r_nil) ⟨acc + 128 ^ i * c.toNat, r, by rw [hst, rdN_end hbad hsm]; rfl, ?_⟩
    rw [num_ret hac hi hbad hsm]
    exact retS_1 rfl
   ·have hbig : ¬ c.toNat < 128 := of_decide_eq_false hc36
    have hi8 : i ≤ 8 := num_more hi hbad hbig
    refine at_skip <| x_bn <| x_tn <| at_region <| s1 (y_p rfl) rfl <| s1 (addN _ 1 rfl rfl rfl rfl (by omega)) rfl <| s1 (y_p rfl) rfl ?_
    refine at_nil ?_
    exact at_end (x := (i, acc, r)) ((i + 1, acc + 128 ^ i * (c.toNat % 128), r)) (⟨show i + 1 ≤ 9 by omega, num_lt hac, show r.length ≤ l.length by omega, numR_step hst hbad hbig⟩) (show 10 - (i + 1) < 10 - i by omega) [(400, some 400)] hI rfl rfl ⟨⟨_, rfl, .p rfl⟩, ⟨_, rfl, .pure pu⟩, ⟨_, rfl, .pure pu⟩, trivial⟩ ⟨.inr ⟨_, _, rfl, rfl, .pure pul⟩, trivial⟩
  ·obtain ⟨hbad, h1, h2, h3⟩ := hcs
   refine at_region <| s1 (y_p rfl) rfl <| s1 ((y_p rfl).v (v' := .b false) (congrArg A.b (beq_eq_false_iff_ne.2 (by omega)))) rfl <| s1 (y_p rfl) rfl <| g0 rfl rfl rfl rfl <| g0 rfl rfl rfl rfl <| s1 (y_p rfl) rfl <| s1 (y_p rfl) rfl <| g1 rfl rfl (y_p rfl) rfl <| g1 rfl rfl ((y_p rfl).v (v' := .b true) (congrArg A.b (decide_eq_true (by omega)))) rfl <| g1 rfl rfl (y_p rfl) rfl ?_
   refine g1 rfl rfl (y_p rfl) rfl <| g1 rfl rfl ((y_p rfl).v (v' := .b false) (congrArg A.b (beq_eq_false_iff_ne.2 (by omega)))) rfl <| g1 rfl rfl (y_p rfl) rfl <| s1 (y_p rfl) rfl ?_
   refine at_nil <| x_tn ?_
   refine at_else rfl ?_
   refine at_skip <| x_tn <| at_seq <| at_region <| s1 (y_p rfl) rfl <| s1 (y_p rfl) rfl <| s1 (andB _ (127 : UInt8) rfl rfl) rfl <| s1 (of8_64 _ Tryd.underlying5 Tryd.underlying117 rfl) rfl <| s1 (y_p rfl) rfl <| s1 (mulN 7 i rfl rfl rfl rfl (by omega)) rfl <| s1 (shl64 _ _ rfl rfl rfl (by omega)) rfl <| s1 ((or64 _ _ rfl rfl).v (v' := w64 (c64 (acc + 128 ^ i * (c.toNat % 128)))) (congrArg w64 (num_or hac hi hbad))) rfl <| s1 (y_p rfl) rfl ?_
   refine at_nil <| x_tn <| at_seq <| at_region <| s1 (y_p rfl) rfl <| s1 ((y_p rfl).v (v' := .b (decide (c.toNat < 128))) (congrArg A.b (decide_eq_decide.2 (by omega)))) rfl ?_
   refine at_nil <| x_tn ?_
   refine at_cond rfl (fun hc36 => ?_) (fun hc36 => ?_)
   ·have hsm : c.toNat < 128 := of_decide_eq_true hc36
    refine at_seq <| at_region <| s1 (y_p rfl) rfl <| s1 (y_p rfl) rfl ?_
    refine at_nil <| x_tn <| at_ret <| x_br <| x_tr <| x_tr <| x_br ?_
    refine at_resultE (rs := [.tmp 2]) rfl (r_tmp rfl r_nil) ⟨acc + 128 ^ i * c.toNat, r, by rw [hst, rdN_end hbad hsm]; rfl, ?_⟩
    rw [num_ret hac hi hbad hsm]
    exact retS_1 rfl
   ·have hbig : ¬ c.toNat < 128 := of_decide_eq_false hc36
    have hi8 : i ≤ 8 := num_more hi hbad hbig
    refine at_skip <| x_bn <| x_tn <| at_region <| s1 (y_p rfl) rfl <| s1 (addN _ 1 rfl rfl rfl rfl (by omega)) rfl <| s1 (y_p rfl) rfl ?_
    refine at_nil ?_
    exact at_end (x := (i, acc, r)) ((i + 1, acc + 128 ^ i * (c.toNat % 128), r)) (⟨show i + 1 ≤ 9 by omega, num_lt hac, show r.length ≤ l.length by omega, numR_step hst hbad hbig⟩) (show 10 - (i + 1) < 10 - i by omega) [(400, some 400)] hI rfl rfl ⟨⟨_, rfl, .p rfl⟩, ⟨_, rfl, .pure pu⟩, ⟨_, rfl, .pure pu⟩, trivial⟩ ⟨.inr ⟨_, _, rfl, rfl, .pure pul⟩, trivial⟩
  ·obtain ⟨hbad, h9, h1⟩ := hcs
   refine at_region <| s1 (y_p rfl) rfl <| s1 ((y_p rfl).v (v' := .b true) (congrArg A.b (beq_iff_eq.2 (by omega)))) rfl <| s1 (y_p rfl) rfl <| g1 rfl rfl (y_p rfl) rfl <| g1 rfl rfl ((y_p rfl).v (v' := .b false) (congrArg A.b (decide_eq_false (by omega)))) rfl <| s1 (y_p rfl) rfl <| s1 (y_p rfl) rfl <| g1 rfl rfl (y_p rfl) rfl <| g1 rfl rfl ((y_p rfl).v (v' := .b true) (congrArg A.b (decide_eq_true (by omega)))) rfl <| g1 rfl rfl (y_p rfl) rfl ?_
   refine g1 rfl rfl (y_p rfl) rfl <| g1 rfl rfl ((y_p rfl).v (v' := .b true) (congrArg A.b (beq_iff_eq.2 (by omega)))) rfl <| g1 rfl rfl (y_p rfl) rfl <| s1 (y_p rfl) rfl ?_
   refine at_nil <| x_tn ?_
   refine at_then rfl ?_
   refine at_region <| s1 (y_bld (out := []) [] ti99 rfl Tryd.underlying99 (by kernel_rfl) rfl rfl trivial rfl) rfl <| s1 (y_mkic (by kernel_rfl) rfl) rfl ?_
   refine p_panic rfl rfl ?_
   refine x_tp ?_
   refine x_bp ?_
   refine x_tp ?_
   refine x_tp ?_
   refine x_bp ?_
   exact at_panicked ⟨by rw [hst, rdN_bad hbad]; rfl, rfl⟩
theorem number_ok (l : List UInt8) (hl : l.length ≤ 1000000) {u : Nat} {rest : List UInt8} (h : rdN 0 l = some (u, rest)) : ConS Tryd.prog 97 [.p 400 0] ⟨[(400, some [.fz (l).length ((l).map u8)])]⟩ (RetS (w64 (c64 u)) [(400, [.fz (rest).length ((rest).map u8)])]) := (number_step l hl).ret (fun r st ⟨u', rest', e, hr⟩ => by
  have hu := (rdN_spec (by omega) h).2.1
  rw [h] at e
  simp only [Option.some.injEq, Prod.mk.injEq] at e
  obtain ⟨rfl, rfl⟩ := e
  rw [show w64 (c64 u) = .i .u64 (u : Nat) from congrArg (fun n : Nat => A.i .u64 (n : Int)) (c64_nat hu)]
  exact hr) (fun _ hu => by rw [h] at hu; cases hu.1)
theorem number_no (l : List UInt8) (hl : l.length ≤ 1000000) (h : rdN 0 l = none) : ConX Tryd.prog 97 [.p 400 0] ⟨[(400, some [.fz (l).length ((l).map u8)])]⟩ (fun u => u = brk) := ((number_step l hl).pan (fun r st ⟨u', rest', e, hr⟩ => by rw [h] at e; cases e)).imp fun _ hu => hu.2
end Go.Abs.D2
-- C1H
namespace Go.Abs.D2
open Go Go.Eng Go.Abs Go.Proofs 
theorem csigned_ok (u : Nat) (hu : u < 2 ^ 64) : Con Tryd.prog 96 [w64 (c64 u)] (Ret (.i .i64 (sgnI u))) := by
 refine enter Tryd.func96 rfl Tryd.ntmps96 (by kernel_rfl) (Nat.le_of_ble_eq_true rfl) fun w0 X0 hI => ?_
 refine at_seq <| at_region <| s1 ((y_p rfl).v (v' := .i .i64 0) rfl) rfl ?_
 refine at_nil <| x_tn <| at_seq <| at_region <| s1 (y_p rfl) rfl <| s1 (shr64 _ 1 rfl rfl rfl (by decide)) rfl <| s1 ((y_conv Tryd.underlying117 Tryd.underlying3 rfl).v (sgn_half hu)) rfl <| s1 (y_p rfl) rfl <| s1 (and64 _ (c64 1) rfl rfl) rfl <| s1 ((y_conv Tryd.underlying117 Tryd.underlying3 rfl).v (sgn_low hu)) rfl <| s1 ((y_neg rfl).v (sgn_neg u)) rfl <| s1 ((y_bits rfl rfl (.inr (.inr (.inl rfl)))).v (sgn_xor hu)) rfl <| s1 (y_p rfl) rfl ?_
 refine at_nil <| x_tn <| at_ret ?_
 refine at_result (rs := [.tmp 2]) rfl (r_tmp rfl (r_nil)) rfl
theorem value_step (d k : Nat) (hk : k + d = 16) (l : List UInt8) (hl : l.length ≤ 1000000) (ih : ∀ d', d = d' + 1 → ∀ l : List UInt8, l.length ≤ 1000000 → (∀ v rest, rdV d' l = some (v, rest) → ConS Tryd.prog 73 [.p 400 0, nJ (k + 1)] ⟨[(400, some [.fz (l).length ((l).map u8)])]⟩ (RetS (.ag (CV.cells v)) [(400, [.fz (rest).length ((rest).map u8)])])) ∧ (rdV d' l = none → ConX Tryd.prog 73 [.p 400 0, nJ (k + 1)] ⟨[(400, some [.fz (l).length ((l).map u8)])]⟩ (fun u => u = brk))) : ConE Tryd.prog 73 [.p 400 0, nJ k] ⟨[(400, some [.fz (l).length ((l).map u8)])]⟩ (fun r st => ∃ v rest, rdV d l = some (v, rest) ∧ RetS (.ag (CV.cells v)) [(400, [.fz (rest).length ((rest).map u8)])] r st) (fun u => rdV d l = none ∧ u = brk) := by
 refine enterE Tryd.func73 rfl Tryd.ntmps73 (by kernel_rfl) (Nat.le_of_ble_eq_true rfl) fun w0 X0 hI => ?_
 refine at_seq <| at_region ?_
 refine at_op rfl (n_alloc 4 rfl ti71 rfl rfl ?_)
 refine at_nil <| x_tn <| at_seq ?_
 rcases val_ways l with hcs | hcs | hcs | hcs | hcs
 ·subst hcs
  refine at_region <| s1 (y_p rfl) rfl ?_
  refine p_call ⟨[(400, some [.fz (([] : List UInt8)).length ((([] : List UInt8)).map u8)])]⟩ false rfl ⟨⟨rfl, VwL.pure pul⟩, trivial⟩ (.cons (.kp rfl) (.cons (.pure pu) .nil)) (take1_no) (fun u hu => ?_)
  refine x_tp ?_
  exact at_panicked ⟨val_nil d, hu⟩
 ·obtain ⟨r, rfl⟩ := hcs
  simp only [List.length_cons] at hl
  refine at_region <| s1 (y_p rfl) rfl ?_
  refine at_op rfl (n_callGd ⟨[(400, some [.fz ((1 : UInt8) :: r).length (((1 : UInt8) :: r).map u8)])]⟩ [(400, [.fz (r).length ((r).map u8)])] false rfl ⟨⟨rfl, VwL.pure pul⟩, trivial⟩ (.cons (.kp rfl) (.cons (.pure pu) .nil)) (take1_ok 1 r (by simp only [List.length_cons]; omega)) pu (.inl rfl) (fun p hp => by rw [List.mem_singleton.1 hp]; exact ⟨⟨_, rfl⟩, pul, .inl rfl⟩) rfl ?_)
  refine s1 (y_ixf 0 Tryd.underlying40 ti5 rfl rfl rfl (by omega) rfl) rfl <| s1 (y_load ti5 rfl rfl rfl) rfl <| s1 ((y_conv Tryd.underlying5 Tryd.underlying3 rfl).v (v' := .i .i64 1) (byte_wrap 1)) rfl <| s1 (y_fld Tryd.underlying71 rfl ti3 (by decide) rfl rfl) rfl ?_
  refine at_op rfl (n_store1 ti3 rfl rfl rfl rfl (by first | rfl | omega | (simp <;> omega) | (simp [*] <;> omega)) rfl ?_)
  refine at_nil <| x_tn <| at_seq <| at_seq <| at_region <| s1 (y_fld Tryd.underlying71 rfl ti3 (by decide) rfl rfl) rfl <| s1 (y_load ti3 rfl rfl rfl) rfl ?_
  refine at_nil <| x_tn <| at_block <| at_seq <| at_region <| s1 ((y_p rfl).v (v' := .b true) (rfl)) rfl <| s1 (y_p rfl) rfl ?_
  refine at_nil <| x_tn ?_
  refine at_then rfl ?_
  rcases opt_cases (rdN 0 r) with hcs | hcs
  ·have hq := hcs
   refine at_region <| s1 (y_p rfl) rfl ?_
   refine p_call ⟨[(400, some [.fz (r).length ((r).map u8)])]⟩ false rfl ⟨⟨rfl, VwL.pure pul⟩, trivial⟩ (.cons (.kp rfl) .nil) (number_no r (by omega) hq) (fun u hu => ?_)
   refine x_bp ?_
   refine x_tp ?_
   exact at_panicked ⟨val_1n hq, hu⟩
  ·obtain ⟨⟨u, q⟩, hq⟩ := hcs
   have hu := (rdN_spec (by omega) hq).2.1
   have hql := (rdN_spec (by omega) hq).1
   have hqr : q.length ≤ r.length := by rw [← hql]; simp
   refine at_region <| s1 (y_p rfl) rfl ?_
   refine at_op rfl (n_callGd ⟨[(400, some [.fz (r).length ((r).map u8)])]⟩ [(400, [.fz (q).length ((q).map u8)])] false rfl ⟨⟨rfl, VwL.pure pul⟩, trivial⟩ (.cons (.kp rfl) .nil) (number_ok r (by omega) hq) pu (.inl rfl) (fun p hp => by rw [List.mem_singleton.1 hp]; exact ⟨⟨_, rfl⟩, pul, .inl rfl⟩) rfl ?_)
   refine at_op rfl (n_call false rfl (.cons (.pure pu) (.nil)) (csigned_ok u hu) pu (.inl rfl) rfl ?_)
   refine s1 (y_fld Tryd.underlying71 rfl ti3 (by decide) rfl rfl) rfl ?_
   refine at_op rfl (n_store1 ti3 rfl rfl rfl rfl (by first | rfl | omega | (simp <;> omega) | (simp [*] <;> omega)) rfl ?_)
   refine at_nil <| x_bn <| x_tn <| at_seq ?_
   refine at_wkO 4 rfl wk_cv ?_
   refine at_region <| s1 (y_loadA0 ti71 rfl rfl rfl) rfl ?_
   refine at_op rfl (n_storeA ti71 rfl rfl rfl (by first | rfl | omega | (simp <;> omega) | (simp [*] <;> omega)) (by first | rfl | omega | (simp <;> omega) | (simp [*] <;> omega)) ?_)
   refine at_nil <| x_tn <| at_ret ?_
   refine at_resultE (rs := [.cell 4 71]) rfl (r_cellA ti71 rfl rfl rfl rfl r_nil) ⟨_, _, val_1 hq, retS_1 rfl⟩
 ·obtain ⟨r, rfl⟩ := hcs
  simp only [List.length_cons] at hl
  refine at_region <| s1 (y_p rfl) rfl ?_
  refine at_op rfl (n_callGd ⟨[(400, some [.fz ((2 : UInt8) :: r).length (((2 : UInt8) :: r).map u8)])]⟩ [(400, [.fz (r).length ((r).map u8)])] false rfl ⟨⟨rfl, VwL.pure pul⟩, trivial⟩ (.cons (.kp rfl) (.cons (.pure pu) .nil)) (take1_ok 2 r (by simp only [List.length_cons]; omega)) pu (.inl rfl) (fun p hp => by rw [List.mem_singleton.1 hp]; exact ⟨⟨_, rfl⟩, pul, .inl rfl⟩) rfl ?_)
  refine s1 (y_ixf 0 Tryd.underlying40 ti5 rfl rfl rfl (by omega) rfl) rfl <| s1 (y_load ti5 rfl rfl rfl) rfl <| s1 ((y_conv Tryd.underlying5 Tryd.underlying3 rfl).v (v' := .i .i64 2) (byte_wrap 2)) rfl <| s1 (y_fld Tryd.underlying71 rfl ti3 (by decide) rfl rfl) rfl ?_
  refine at_op rfl (n_store1 ti3 rfl rfl rfl rfl (by first | rfl | omega | (simp <;> omega) | (simp [*] <;> omega)) rfl ?_)
  refine at_nil <| x_tn <| at_seq <| at_seq <| at_region <| s1 (y_fld Tryd.underlying71 rfl ti3 (by decide) rfl rfl) rfl <| s1 (y_load ti3 rfl rfl rfl) rfl ?_
  refine at_nil <| x_tn <| at_block <| at_seq <| at_region <| s1 ((y_p rfl).v (v' := .b false) (rfl)) rfl <| s1 (y_p rfl) rfl ?_
  refine at_nil <| x_tn ?_
  refine at_else rfl ?_
  refine at_seq <| at_region <| s1 ((y_p rfl).v (v' := .b true) (rfl)) rfl <| s1 (y_p rfl) rfl ?_
  refine at_nil <| x_tn ?_
  refine at_then rfl ?_
  rcases txt_ways (rdN 0 r) with hcs | hcs | hcs
  ·have hq := hcs
   refine at_region <| s1 (y_p rfl) rfl <| s1 (y_p rfl) rfl ?_
   refine p_call ⟨[(400, some [.fz (r).length ((r).map u8)])]⟩ false rfl ⟨⟨rfl, VwL.pure pul⟩, trivial⟩ (.cons (.kp rfl) .nil) (number_no r (by omega) hq) (fun u hu => ?_)
   refine x_bp ?_
   refine x_tp ?_
   exact at_panicked ⟨val_2n hq, hu⟩
  ·obtain ⟨u, q, hq, hn⟩ := hcs
   have hu := (rdN_spec (by omega) hq).2.1
   have hql := (rdN_spec (by omega) hq).1
   have hqr : q.length ≤ r.length := by rw [← hql]; simp
   refine at_region <| s1 (y_p rfl) rfl <| s1 (y_p rfl) rfl ?_
   refine at_op rfl (n_callGd ⟨[(400, some [.fz (r).length ((r).map u8)])]⟩ [(400, [.fz (q).length ((q).map u8)])] false rfl ⟨⟨rfl, VwL.pure pul⟩, trivial⟩ (.cons (.kp rfl) .nil) (number_ok r (by omega) hq) pu (.inl rfl) (fun p hp => by rw [List.mem_singleton.1 hp]; exact ⟨⟨_, rfl⟩, pul, .inl rfl⟩) rfl ?_)
   refine p_call ⟨[(400, some [.fz (q).length ((q).map u8)])]⟩ false rfl ⟨⟨rfl, VwL.pure pul⟩, trivial⟩ (.cons (.kp rfl) (.cons (.pure pu) .nil)) (takeW_no q u (by omega) hu (by omega)) (fun u hu => ?_)
   refine x_bp ?_
   refine x_tp ?_
   exact at_panicked ⟨val_2l hq hn, ‹_ = brk›⟩
  ·obtain ⟨u, q, hq, hn⟩ := hcs
   have hu := (rdN_spec (by omega) hq).2.1
   have hql := (rdN_spec (by omega) hq).1
   have hqr : q.length ≤ r.length := by rw [← hql]; simp
   refine at_region <| s1 (y_p rfl) rfl <| s1 (y_p rfl) rfl ?_
   refine at_op rfl (n_callGd ⟨[(400, some [.fz (r).length ((r).map u8)])]⟩ [(400, [.fz (q).length ((q).map u8)])] false rfl ⟨⟨rfl, VwL.pure pul⟩, trivial⟩ (.cons (.kp rfl) .nil) (number_ok r (by omega) hq) pu (.inl rfl) (fun p hp => by rw [List.mem_singleton.1 hp]; exact ⟨⟨_, rfl⟩, pul, .inl rfl⟩) rfl ?_)
   refine at_op rfl (n_callGd ⟨[(400, some [.fz (q).length ((q).map u8)])]⟩ [(400, [.fz (q.drop u).length ((q.drop u).map u8)])] false rfl ⟨⟨rfl, VwL.pure pul⟩, trivial⟩ (.cons (.kp rfl) (.cons (.pure pu) .nil)) (takeW_ok q u (by omega) hu hn) pu (.inl rfl) (fun p hp => by rw [List.mem_singleton.1 hp]; exact ⟨⟨_, rfl⟩, pul, .inl rfl⟩) rfl ?_)
   refine s1 (y_str Tryd.underlying40 Tryd.underlying5 Tryd.underlying9 rfl rfl (by rw [List.length_take, Nat.min_eq_left hn])) rfl <| s1 (y_fld Tryd.underlying71 rfl ti9 (by decide) rfl rfl) rfl ?_
   refine at_op rfl (n_store1 ti9 rfl rfl rfl rfl (by first | rfl | omega | (simp <;> omega) | (simp [*] <;> omega)) rfl ?_)
   refine at_nil <| x_bn <| x_tn <| at_seq ?_
   refine at_wkO 4 rfl wk_cv ?_
   refine at_region <| s1 (y_loadA0 ti71 rfl rfl rfl) rfl ?_
   refine at_op rfl (n_storeA ti71 rfl rfl rfl (by first | rfl | omega | (simp <;> omega) | (simp [*] <;> omega)) (by first | rfl | omega | (simp <;> omega) | (simp [*] <;> omega)) ?_)
   refine at_nil <| x_tn <| at_ret ?_
   refine at_resultE (rs := [.cell 4 71]) rfl (r_cellA ti71 rfl rfl rfl rfl r_nil) ⟨_, _, val_2 hq hn, retS_1 rfl⟩
 ·obtain ⟨r, rfl⟩ := hcs
  simp only [List.length_cons] at hl
  refine at_region <| s1 (y_p rfl) rfl ?_
  refine at_op rfl (n_callGd ⟨[(400, some [.fz ((3 : UInt8) :: r).length (((3 : UInt8) :: r).map u8)])]⟩ [(400, [.fz (r).length ((r).map u8)])] false rfl ⟨⟨rfl, VwL.pure pul⟩, trivial⟩ (.cons (.kp rfl) (.cons (.pure pu) .nil)) (take1_ok 3 r (by simp only [List.length_cons]; omega)) pu (.inl rfl) (fun p hp => by rw [List.mem_singleton.1 hp]; exact ⟨⟨_, rfl⟩, pul, .inl rfl⟩) rfl ?_)
  refine s1 (y_ixf 0 Tryd.underlying40 ti5 rfl rfl rfl (by omega) rfl) rfl <| s1 (y_load ti5 rfl rfl rfl) rfl <| s1 ((y_conv Tryd.underlying5 Tryd.underlying3 rfl).v (v' := .i .i64 3) (byte_wrap 3)) rfl <| s1 (y_fld Tryd.underlying71 rfl ti3 (by decide) rfl rfl) rfl ?_
  refine at_op rfl (n_store1 ti3 rfl rfl rfl rfl (by first | rfl | omega | (simp <;> omega) | (simp [*] <;> omega)) rfl ?_)
  refine at_nil <| x_tn <| at_seq <| at_seq <| at_region <| s1 (y_fld Tryd.underlying71 rfl ti3 (by decide) rfl rfl) rfl <| s1 (y_load ti3 rfl rfl rfl) rfl ?_
  refine at_nil <| x_tn <| at_block <| at_seq <| at_region <| s1 ((y_p rfl).v (v' := .b false) (rfl)) rfl <| s1 (y_p rfl) rfl ?_
  refine at_nil <| x_tn ?_
  refine at_else rfl ?_
  refine at_seq <| at_region <| s1 ((y_p rfl).v (v' := .b false) (rfl)) rfl <| s1 (y_p rfl) rfl ?_
  refine at_nil <| x_tn ?_
  refine at_else rfl ?_
  refine at_seq <| at_region <| s1 ((y_p rfl).v (v' := .b true) (rfl)) rfl <| s1 (y_p rfl) rfl ?_
  refine at_nil <| x_tn ?_
  refine at_then rfl ?_
  refine at_seq ?_
  rcases lst_ways d (rdN 0 r) with hcs | hcs | hcs | hcs
  ·have hq := hcs
   refine at_region <| s1 (y_p rfl) rfl ?_
   refine p_call ⟨[(400, some [.fz (r).length ((r).map u8)])]⟩ false rfl ⟨⟨rfl, VwL.pure pul⟩, trivial⟩ (.cons (.kp rfl) .nil) (number_no r (by omega) hq) (fun u hu => ?_)
   refine x_tp ?_
   refine x_bp ?_
   refine x_tp ?_
   exact at_panicked ⟨val_3n hq, hu⟩
  ·obtain ⟨u, q, hq, rfl⟩ := hcs
   have hu := (rdN_spec (by omega) hq).2.1
   have hql := (rdN_spec (by omega) hq).1
   have hqr : q.length ≤ r.length := by rw [← hql]; simp
   refine at_region <| s1 (y_p rfl) rfl ?_
   refine at_op rfl (n_callGd ⟨[(400, some [.fz (r).length ((r).map u8)])]⟩ [(400, [.fz (q).length ((q).map u8)])] false rfl ⟨⟨rfl, VwL.pure pul⟩, trivial⟩ (.cons (.kp rfl) .nil) (number_ok r (by omega) hq) pu (.inl rfl) (fun p hp => by rw [List.mem_singleton.1 hp]; exact ⟨⟨_, rfl⟩, pul, .inl rfl⟩) rfl ?_)
   refine s1 (y_p rfl) rfl ?_
   refine at_nil <| x_tn <| at_seq <| at_seq <| at_region <| s1 (y_p rfl) rfl <| s1 ((y_p rfl).v (v' := .b true) (congrArg A.b (beq_iff_eq.2 (by omega)))) rfl <| s1 (y_p rfl) rfl <| g0 rfl rfl rfl rfl <| g0 rfl rfl rfl rfl <| g0 rfl rfl rfl rfl <| g0 rfl rfl rfl rfl <| g0 rfl rfl rfl rfl <| g0 rfl rfl rfl rfl <| g0 rfl rfl rfl rfl ?_
   refine g0 rfl rfl rfl rfl <| s1 (y_p rfl) rfl ?_
   refine at_nil <| x_tn ?_
   refine at_then rfl ?_
   refine at_region <| s1 (y_bld (out := []) [] ti99 rfl Tryd.underlying99 (by kernel_rfl) rfl rfl trivial rfl) rfl <| s1 (y_mkic (by kernel_rfl) rfl) rfl ?_
   refine p_panic rfl rfl ?_
   refine x_tp ?_
   refine x_bp ?_
   refine x_tp ?_
   exact at_panicked ⟨val_30 hq, rfl⟩
  ·obtain ⟨u, q, hq, hd, hn⟩ := hcs
   have hu := (rdN_spec (by omega) hq).2.1
   have hql := (rdN_spec (by omega) hq).1
   have hqr : q.length ≤ r.length := by rw [← hql]; simp
   refine at_region <| s1 (y_p rfl) rfl ?_
   refine at_op rfl (n_callGd ⟨[(400, some [.fz (r).length ((r).map u8)])]⟩ [(400, [.fz (q).length ((q).map u8)])] false rfl ⟨⟨rfl, VwL.pure pul⟩, trivial⟩ (.cons (.kp rfl) .nil) (number_ok r (by omega) hq) pu (.inl rfl) (fun p hp => by rw [List.mem_singleton.1 hp]; exact ⟨⟨_, rfl⟩, pul, .inl rfl⟩) rfl ?_)
   refine s1 (y_p rfl) rfl ?_
   refine at_nil <| x_tn <| at_seq <| at_seq <| at_region <| s1 (y_p rfl) rfl <| s1 ((y_p rfl).v (v' := .b false) (congrArg A.b (beq_eq_false_iff_ne.2 (by omega)))) rfl <| s1 (y_p rfl) rfl <| g1 rfl rfl (y_p rfl) rfl <| g1 rfl rfl (y_p rfl) rfl <| g1 rfl rfl (y_nilc rfl rfl) rfl <| g1 rfl rfl (y_fld Tryd.underlying97 rfl ti40 (by decide) rfl rfl) rfl <| g1 rfl rfl (y_load ti40 rfl rfl rfl) rfl <| g1 rfl rfl (y_len Tryd.underlying40 rfl rfl rfl) rfl <| g1 rfl rfl (ofN_64 _ Tryd.underlying3 Tryd.underlying117 rfl rfl) rfl ?_
   refine g1 rfl rfl ((y_p rfl).v (v' := .b true) (congrArg A.b (by rw [c64_nat hu, c64_nat (by omega)]; exact decide_eq_true (by omega)))) rfl <| s1 (y_p rfl) rfl ?_
   refine at_nil <| x_tn ?_
   refine at_then rfl ?_
   refine at_region <| s1 (y_bld (out := []) [] ti99 rfl Tryd.underlying99 (by kernel_rfl) rfl rfl trivial rfl) rfl <| s1 (y_mkic (by kernel_rfl) rfl) rfl ?_
   refine p_panic rfl rfl ?_
   refine x_tp ?_
   refine x_bp ?_
   refine x_tp ?_
   exact at_panicked ⟨val_3l hq hn, rfl⟩
  ·obtain ⟨u, q, d', hq, rfl, hn⟩ := hcs
   have hu := (rdN_spec (by omega) hq).2.1
   have hql := (rdN_spec (by omega) hq).1
   have hqr : q.length ≤ r.length := by rw [← hql]; simp
   refine at_region <| s1 (y_p rfl) rfl ?_
   refine at_op rfl (n_callGd ⟨[(400, some [.fz (r).length ((r).map u8)])]⟩ [(400, [.fz (q).length ((q).map u8)])] false rfl ⟨⟨rfl, VwL.pure pul⟩, trivial⟩ (.cons (.kp rfl) .nil) (number_ok r (by omega) hq) pu (.inl rfl) (fun p hp => by rw [List.mem_singleton.1 hp]; exact ⟨⟨_, rfl⟩, pul, .inl rfl⟩) rfl ?_)
   refine s1 (y_p rfl) rfl ?_
   refine at_nil <| x_tn <| at_seq <| at_seq <| at_region <| s1 (y_p rfl) rfl <| s1 ((y_p rfl).v (v' := .b false) (congrArg A.b (beq_eq_false_iff_ne.2 (by omega)))) rfl <| s1 (y_p rfl) rfl <| g1 rfl rfl (y_p rfl) rfl <| g1 rfl rfl (y_p rfl) rfl <| g1 rfl rfl (y_nilc rfl rfl) rfl <| g1 rfl rfl (y_fld Tryd.underlying97 rfl ti40 (by decide) rfl rfl) rfl <| g1 rfl rfl (y_load ti40 rfl rfl rfl) rfl <| g1 rfl rfl (y_len Tryd.underlying40 rfl rfl rfl) rfl <| g1 rfl rfl (ofN_64 _ Tryd.underlying3 Tryd.underlying117 rfl rfl) rfl ?_
   refine g1 rfl rfl ((y_p rfl).v (v' := .b false) (congrArg A.b (by rw [c64_nat hu, c64_nat (by omega)]; exact decide_eq_false (by omega)))) rfl <| s1 (y_p rfl) rfl ?_
   refine at_nil <| x_tn ?_
   refine at_else rfl ?_
   refine at_skip <| x_tn <| at_seq <| at_region <| s1 (y_p rfl) rfl <| s1 ((y_p rfl).v (v' := .i .u64 0) rfl) rfl ?_
   refine at_nil <| x_tn <| at_block ?_
   refine at_loop (ι := List CV × List UInt8) (fun ⟨vs, r2⟩ => [(0, .p 400 0), (1, nJ k), (4, .p 4 0), (48, w64 (c64 u)), (49, w64 (c64 vs.length))]) (fun ⟨vs, r2⟩ => ⟨[(4, some ([.i .i64 3, .i .i64 0, .s [], .sl 158 4 0 vs.length])), (158, some (CV.cellsL vs)), (400, some ([.fz r2.length (r2.map u8)]))]⟩) (fun ⟨vs, r2⟩ => vs.length ≤ u ∧ r2.length ≤ q.length ∧ manyV (rdV d') u q = (manyV (rdV d') (u - vs.length) r2).map (fun p => (vs ++ p.1, p.2))) (fun ⟨vs, r2⟩ => u - vs.length) ?_ ?_
   ·exact at_ex (([], q)) (⟨Nat.zero_le _, Nat.le_refl _, many_start _ _ _⟩) [(4, some 4), (158, none), (400, some 400)] hI rfl rfl ⟨⟨_, rfl, .p rfl⟩, ⟨_, rfl, .pure pu⟩, ⟨_, rfl, .p rfl⟩, ⟨_, rfl, .pure pu⟩, ⟨_, rfl, .pure pu⟩, trivial⟩ ⟨.inr ⟨_, _, rfl, rfl, .cons (.pure pu) (.cons (.pure pu) (.cons (.pure pu) (.cons (.nl rfl) .nil)))⟩, .inl ⟨rfl, rfl⟩, .inr ⟨_, _, rfl, rfl, .pure pul⟩, trivial⟩
   rintro ⟨vs, r2⟩ ⟨hvs, hr2, hm⟩
   dsimp only
   refine at_seq <| at_region <| s1 ((y_p rfl).v (v' := .b (decide (vs.length < u))) (congrArg A.b (cnt_lt (by omega) hu))) rfl ?_
   refine at_nil <| x_tn <| at_seq ?_
   refine at_cond rfl (fun hc50 => ?_) (fun hc50 => ?_)
   ·have h50 : vs.length < u := of_decide_eq_true hc50
    refine at_skip <| x_tn <| at_seq <| at_block ?_
    rcases opt_cases (rdV d' r2) with hcs | hcs
    ·have hv := hcs
     refine at_fs ⟨_, [], []⟩ 9 4 hmix (le_refl rfl) ?_
     refine fs_q 0 [] [(4, none)] (y_fld Tryd.underlying71 rfl ti69 (by decide) rfl rfl) rfl rfl ?_
     refine fs_q 1 [0] [(4, none)] (y_load ti69 rfl rfl rfl) rfl rfl ?_
     refine fs_q 2 [] [(400, none)] (y_p rfl) rfl rfl ?_
     refine fs_q 3 [] [] (y_p rfl) rfl rfl ?_
     refine fs_q 4 [3] [] (addN _ 1 rfl rfl rfl rfl (by omega)) rfl rfl ?_
     refine fs_callXd ⟨[(400, some [.fz (r2).length ((r2).map u8)])]⟩ false 5 [2, 4] [(400, none)] gy0 rfl ⟨⟨rfl, VwL.pure pul⟩, trivial⟩ (.cons (.kp rfl) (.cons (.pure pu) .nil)) ((ih d' rfl r2 (by omega)).2 hv) (fun u hu E1 st1 => ?_) rfl ?_
     ·skip
      refine x_bp ?_
      refine x_tp ?_
      refine x_tp ?_
      refine x_bp ?_
      refine x_bp ?_
      refine x_tp ?_
      exact at_panicked ⟨by rw [val_3 hq hn, many_none hm h50 hv]; rfl, ‹_ = brk›⟩
     refine fs_bot 56 6 [5] rfl rfl ?_
     refine fs_bot 57 7 [1, 6] rfl rfl ?_
     refine fs_q 8 [] [(4, none)] (y_fld Tryd.underlying71 rfl ti69 (by decide) rfl rfl) rfl rfl ?_
     exact fs_endB (t := 56) (by kernel_rfl) rfl
    ·obtain ⟨⟨v, r3⟩, hv⟩ := hcs
     have hvr := (rdV_spec d' (by omega) hv).1
     have hr3 : r3.length ≤ r2.length := by rw [← hvr]; simp
     refine at_fs ⟨_, [], []⟩ 9 4 hmix (le_refl rfl) ?_
     refine fs_q 0 [] [(4, none)] (y_fld Tryd.underlying71 rfl ti69 (by decide) rfl rfl) rfl rfl ?_
     refine fs_q 1 [0] [(4, none)] (y_load ti69 rfl rfl rfl) rfl rfl ?_
     refine fs_q 2 [] [(400, none)] (y_p rfl) rfl rfl ?_
     refine fs_q 3 [] [] (y_p rfl) rfl rfl ?_
     refine fs_q 4 [3] [] (addN _ 1 rfl rfl rfl rfl (by omega)) rfl rfl ?_
     refine fs_callGd ⟨[(400, some [.fz (r2).length ((r2).map u8)])]⟩ [(400, [.fz (r3).length ((r3).map u8)])] false 5 [2, 4] [(400, none)] gy0 rfl ⟨⟨rfl, VwL.pure pul⟩, trivial⟩ (.cons (.kp rfl) (.cons (.pure pu) .nil)) ((ih d' rfl r2 (by omega)).1 v r3 hv) pu (.inl rfl) (fun p hp => by rw [List.mem_singleton.1 hp]; exact ⟨⟨_, rfl⟩, pul, .inl rfl⟩) rfl rfl ?_
     refine fs_bs 57 6 [5] gy0 Tryd.underlying69 ti71 rfl rfl rfl (by simp [cellsA]) (show cellsA (A.ag (CV.cells v)) ++ [] = CV.cells v from List.append_nil _) rfl rfl rfl rfl ?_
     refine fs_app 58 7 [1, 6] [(57, some 6), (158, none)] gy0 Tryd.underlying69 ti71 rfl (.sl rfl (by simp)) rfl (SM_full rfl (by first | rfl | omega | (simp <;> omega) | (simp [*] <;> omega))) (by simp) (by simp only [maxLen]; omega) (by omega) rfl rfl rfl rfl ?_
     refine fs_q 8 [] [(4, none)] (y_fld Tryd.underlying71 rfl ti69 (by decide) rfl rfl) rfl rfl ?_
     refine fs_end (by kernel_rfl) ?_
     refine at_op rfl (n_store1 ti69 rfl rfl rfl rfl (by first | rfl | omega | (simp <;> omega) | (simp [*] <;> omega)) rfl ?_)
     refine at_nil <| x_bn <| x_tn <| at_region <| s1 ((add64 _ (c64 1) rfl rfl).v (v' := w64 (c64 (vs ++ [v]).length)) ((cnt_next vs.length).trans (by rw [List.length_append]; rfl))) rfl <| s1 (y_p rfl) rfl ?_
     refine at_nil ?_
     exact at_end (x := (vs, r2)) ((vs ++ [v], r3)) (⟨show (vs ++ [v]).length ≤ u by simp; omega, show r3.length ≤ q.length by omega, many_next hm h50 hv⟩) (show u - (vs ++ [v]).length < u - vs.length by simp; omega) [(4, some 4), (158, some 58), (400, some 400)] hI rfl rfl ⟨⟨_, rfl, .p rfl⟩, ⟨_, rfl, .pure pu⟩, ⟨_, rfl, .p rfl⟩, ⟨_, rfl, .pure pu⟩, ⟨_, rfl, .pure pu⟩, trivial⟩ ⟨.inr ⟨_, _, rfl, rfl, .cons (.pure pu) (.cons (.pure pu) (.cons (.pure pu) (.cons (.sl rfl (by simp)) .nil)))⟩, .inr ⟨_, _, rfl, rfl, .of (CV.cellsL_snoc vs v) (.pure pul)⟩, .inr ⟨_, _, rfl, rfl, .pure pul⟩, trivial⟩
   ·have h50 : vs.length = u := by have := of_decide_eq_false hc50; omega
    refine at_exit <| x_te <| x_te <| x_be <| x_bn <| x_tn <| at_seq ?_
    refine at_frzO 4 3 rfl rfl rfl rfl pul (CV.cellsL_all vs) rfl ?_
    refine at_region <| s1 (y_loadA0 ti71 rfl rfl rfl) rfl ?_
    refine at_op rfl (n_storeA ti71 rfl rfl rfl (by first | rfl | omega | (simp <;> omega) | (simp [*] <;> omega)) (by first | rfl | omega | (simp <;> omega) | (simp [*] <;> omega)) ?_)
    refine at_nil <| x_tn <| at_ret ?_
    refine at_resultE (rs := [.cell 4 71]) rfl (r_cellA ti71 rfl rfl rfl rfl r_nil) ⟨_, _, (val_3 hq hn).trans (by rw [many_end hm h50]; rfl), retS_1 rfl⟩
 ·obtain ⟨c, r, rfl, h1, h2, h3⟩ := hcs
  simp only [List.length_cons] at hl
  refine at_region <| s1 (y_p rfl) rfl ?_
  refine at_op rfl (n_callGd ⟨[(400, some [.fz (c :: r).length ((c :: r).map u8)])]⟩ [(400, [.fz (r).length ((r).map u8)])] false rfl ⟨⟨rfl, VwL.pure pul⟩, trivial⟩ (.cons (.kp rfl) (.cons (.pure pu) .nil)) (take1_ok c r (by simp only [List.length_cons]; omega)) pu (.inl rfl) (fun p hp => by rw [List.mem_singleton.1 hp]; exact ⟨⟨_, rfl⟩, pul, .inl rfl⟩) rfl ?_)
  refine s1 (y_ixf 0 Tryd.underlying40 ti5 rfl rfl rfl (by omega) rfl) rfl <| s1 (y_load ti5 rfl rfl rfl) rfl <| s1 ((y_conv Tryd.underlying5 Tryd.underlying3 rfl).v (byte_wrap c)) rfl <| s1 (y_fld Tryd.underlying71 rfl ti3 (by decide) rfl rfl) rfl ?_
  refine at_op rfl (n_store1 ti3 rfl rfl rfl rfl (by first | rfl | omega | (simp <;> omega) | (simp [*] <;> omega)) rfl ?_)
  refine at_nil <| x_tn <| at_seq <| at_seq <| at_region <| s1 (y_fld Tryd.underlying71 rfl ti3 (by decide) rfl rfl) rfl <| s1 (y_load ti3 rfl rfl rfl) rfl ?_
  refine at_nil <| x_tn <| at_block <| at_seq <| at_region <| s1 ((y_p rfl).v (v' := .b false) (congrArg A.b (beq_eq_false_iff_ne.2 fun h => h1 (by rw [← UInt8.toNat_inj]; show c.toNat = 1; omega)))) rfl <| s1 (y_p rfl) rfl ?_
  refine at_nil <| x_tn ?_
  refine at_else rfl ?_
  refine at_seq <| at_region <| s1 ((y_p rfl).v (v' := .b false) (congrArg A.b (beq_eq_false_iff_ne.2 fun h => h2 (by rw [← UInt8.toNat_inj]; show c.toNat = 2; omega)))) rfl <| s1 (y_p rfl) rfl ?_
  refine at_nil <| x_tn ?_
  refine at_else rfl ?_
  refine at_seq <| at_region <| s1 ((y_p rfl).v (v' := .b false) (congrArg A.b (beq_eq_false_iff_ne.2 fun h => h3 (by rw [← UInt8.toNat_inj]; show c.toNat = 3; omega)))) rfl <| s1 (y_p rfl) rfl ?_
  refine at_nil <| x_tn ?_
  refine at_else rfl ?_
  refine at_region <| s1 (y_bld (out := []) [] ti99 rfl Tryd.underlying99 (by kernel_rfl) rfl rfl trivial rfl) rfl <| s1 (y_mkic (by kernel_rfl) rfl) rfl ?_
  refine p_panic rfl rfl ?_
  refine x_bp ?_
  refine x_tp ?_
  exact at_panicked ⟨val_o h1 h2 h3, rfl⟩
theorem value_both : ∀ (d k : Nat), k + d = 16 → ∀ l : List UInt8, l.length ≤ 1000000 → (∀ v rest, rdV d l = some (v, rest) → ConS Tryd.prog 73 [.p 400 0, nJ k] ⟨[(400, some [.fz (l).length ((l).map u8)])]⟩ (RetS (.ag (CV.cells v)) [(400, [.fz (rest).length ((rest).map u8)])])) ∧ (rdV d l = none → ConX Tryd.prog 73 [.p 400 0, nJ k] ⟨[(400, some [.fz (l).length ((l).map u8)])]⟩ (fun u => u = brk)) := by
 have fin : ∀ (d k : Nat), k + d = 16 → (∀ d', d = d' + 1 → ∀ l : List UInt8, l.length ≤ 1000000 → (∀ v rest, rdV d' l = some (v, rest) → ConS Tryd.prog 73 [.p 400 0, nJ (k + 1)] ⟨[(400, some [.fz (l).length ((l).map u8)])]⟩ (RetS (.ag (CV.cells v)) [(400, [.fz (rest).length ((rest).map u8)])])) ∧ (rdV d' l = none → ConX Tryd.prog 73 [.p 400 0, nJ (k + 1)] ⟨[(400, some [.fz (l).length ((l).map u8)])]⟩ (fun u => u = brk))) → ∀ l : List UInt8, l.length ≤ 1000000 → (∀ v rest, rdV d l = some (v, rest) → ConS Tryd.prog 73 [.p 400 0, nJ k] ⟨[(400, some [.fz (l).length ((l).map u8)])]⟩ (RetS (.ag (CV.cells v)) [(400, [.fz (rest).length ((rest).map u8)])])) ∧ (rdV d l = none → ConX Tryd.prog 73 [.p 400 0, nJ k] ⟨[(400, some [.fz (l).length ((l).map u8)])]⟩ (fun u => u = brk)) := fun d k hk ih l hl =>
  ⟨fun v rest h => (value_step d k hk l hl ih).ret (fun r st ⟨v', rest', e, hr⟩ => by
   rw [h] at e
   simp only [Option.some.injEq, Prod.mk.injEq] at e
   obtain ⟨rfl, rfl⟩ := e
   exact hr) (fun _ hu => by rw [h] at hu; cases hu.1), fun h => ((value_step d k hk l hl ih).pan (fun r st ⟨u', rest', e, hr⟩ => by rw [h] at e; cases e)).imp fun _ hu => hu.2⟩
 intro d
 induction d with
 | zero => exact fun k hk => fin 0 k hk fun d' h => by cases h
 | succ d ih => exact fun k hk => fin (d + 1) k hk fun d' h => by cases h; exact ih (k + 1) (by omega)
end Go.Abs.D2
-- C1I
namespace Go.Abs.D2
open Go Go.Eng Go.Abs Go.Proofs 
theorem decD (c0 c1 c2 c3 e0 : A) : ConD Tryd.prog 72 [.p 2 0, .p 3 0] ⟨[(2, some [c0, c1, c2, c3]), (3, some [e0])]⟩ (fun u => u = brk) [(2, [.i .i64 0, .i .i64 0, .s [], .nl]), (3, [.i .i64 10])] := by
 refine conD (.ic 99 (.ag [])) (fun u hu X w β => by rw [hu]; exact V_brk V_ag0) Tryd.func72 rfl Tryd.ntmps72 (Nat.le_of_ble_eq_true rfl) rfl rfl fun w0 X0 hI => ?_
 refine at_seq <| at_region <| s1 (y_p rfl) rfl <| s1 (y_icne Tryd.underlying20 rfl) rfl ?_
 refine at_nil <| x_tn ?_
 refine at_then rfl ?_
 refine at_region <| s1 (y_bld (out := [_, _, _, _]) [[evC (.int .i64 0)], [evC (.int .i64 0)], [evC (.string ByteArray.empty)], [evC (.slice none 0 0)]] ti71 rfl Tryd.underlying71 (by kernel_rfl) rfl rfl trivial rfl) rfl ?_
 refine at_op rfl (n_storeA ti71 rfl rfl rfl (by first | rfl | omega | (simp <;> omega) | (simp [*] <;> omega)) (by first | rfl | omega | (simp <;> omega) | (simp [*] <;> omega)) ?_)
 refine at_op rfl (n_store1 ti31 rfl rfl rfl rfl (by first | rfl | omega | (simp <;> omega) | (simp [*] <;> omega)) rfl ?_)
 refine at_nil ?_
 refine at_result' (rs := []) rfl r_nil (retS_2 rfl rfl)
theorem decR : ConR Tryd.prog 72 2 := conR Tryd.func72 rfl (fun w => run_nnil Tryd.underlying20 w) rfl ⟨Nat.le_of_ble_eq_true rfl, Nat.le_of_ble_eq_true rfl, Nat.le_of_ble_eq_true rfl, Nat.le_of_ble_eq_true rfl, Nat.le_of_ble_eq_true rfl⟩
theorem decCal : Callable Tryd.prog 72 := ⟨_, Tryd.func72, rfl, by kernel_rfl⟩
theorem cdecode_ok (b : List UInt8) (hb : b.length ≤ 1000000) : Con Tryd.prog 52 [.fz b.length (b.map u8)] (Ret (decA b)) := by
 refine enterM Tryd.func52 rfl Tryd.ntmps52 (by kernel_rfl) (Nat.le_of_ble_eq_true rfl) fun w0 X0 hI hS => ?_
 refine at_seq <| at_region ?_
 refine at_op rfl (n_alloc 2 rfl ti71 rfl rfl ?_)
 refine at_op rfl (n_alloc 3 rfl ti31 rfl rfl ?_)
 refine at_nil <| x_tn <| at_seq <| at_region <| s1 (y_func (us := []) (vs := [.p 2 0, .p 3 0]) rfl rfl) rfl ?_
 refine at_defer [2, 3] hI rfl rfl trivial rfl fun w1 us hdf => ?_
 refine at_nil <| x_tn <| at_seq <| at_region <| s1 (y_p rfl) rfl <| s1 (y_bld (out := [_]) [[evC (.slice none 0 0)]] ti97 rfl Tryd.underlying97 (by kernel_rfl) rfl rfl ⟨⟨by (first | rfl | omega | (simp; done) | (simp [*]; done) | (simp [cellsA, *]; done)), rfl⟩, trivial⟩ rfl) rfl ?_
 refine at_op rfl (n_boxA 400 rfl rfl rfl ?_)
 refine s1 (y_p rfl) rfl ?_
 refine at_nil <| x_tn <| at_seq ?_
 rcases dec_ways b with hcs | hcs | hcs
 ·have hr := hcs
  refine at_region <| s1 (y_p rfl) rfl ?_
  refine p_call ⟨[(400, some [.fz (b).length ((b).map u8)])]⟩ false rfl ⟨⟨rfl, VwL.pure pul⟩, trivial⟩ (.cons (.kp rfl) (.cons (.pure pu) .nil)) (((value_both 16 0 rfl) b hb).2 hr) (fun u hu => ?_)
  refine x_tp ?_
  refine at_leaveX ⟨[(2, some [.i .i64 0, .i .i64 0, .s [], .nl]), (3, some [.i .i64 0])]⟩ hdf hS decCal ⟨⟨rfl, VwL.pure pul⟩, ⟨rfl, VwL.pure pul⟩, trivial⟩ (.cons (.kp rfl) (.cons (.kp rfl) .nil)) (decD _ _ _ _ _) (hu) (two_upd rfl rfl pul pul) rfl (r_cellA ti71 rfl rfl rfl rfl (r_cell ti31 rfl rfl rfl r_nil)) ?_
  exact (decA_n (dec_n hr)).symm
 ·obtain ⟨⟨k, n, s, l⟩, c, r, hr⟩ := hcs
  refine at_region <| s1 (y_p rfl) rfl ?_
  refine at_op rfl (n_callGd ⟨[(400, some [.fz (b).length ((b).map u8)])]⟩ [(400, [.fz (c :: r).length ((c :: r).map u8)])] false rfl ⟨⟨rfl, VwL.pure pul⟩, trivial⟩ (.cons (.kp rfl) (.cons (.pure pu) .nil)) (((value_both 16 0 rfl) b hb).1 _ _ hr) pu (.inl rfl) (fun p hp => by rw [List.mem_singleton.1 hp]; exact ⟨⟨_, rfl⟩, pul, .inl rfl⟩) rfl ?_)
  refine at_op rfl (n_storeA ti71 rfl rfl rfl (by first | rfl | omega | (simp <;> omega) | (simp [*] <;> omega)) (by first | rfl | omega | (simp <;> omega) | (simp [*] <;> omega)) ?_)
  refine at_nil <| x_tn <| at_seq <| at_seq <| at_region <| s1 (y_p rfl) rfl <| s1 (y_nilc rfl rfl) rfl <| s1 (y_fld Tryd.underlying97 rfl ti40 (by decide) rfl rfl) rfl <| s1 (y_load ti40 rfl rfl rfl) rfl <| s1 (y_len Tryd.underlying40 rfl rfl rfl) rfl <| s1 ((y_p rfl).v (v' := .b true) (congrArg A.b (decide_eq_true (by simp only [List.length_cons]; omega)))) rfl ?_
  refine at_nil <| x_tn ?_
  refine at_then rfl ?_
  refine at_region <| s1 (y_bld (out := []) [] ti99 rfl Tryd.underlying99 (by kernel_rfl) rfl rfl trivial rfl) rfl <| s1 (y_mkic (by kernel_rfl) rfl) rfl ?_
  refine p_panic rfl rfl ?_
  refine x_tp ?_
  refine at_leaveX ⟨[(2, some [.i .i64 k, .i .i64 n, .s s, .fz l.length (CV.cellsL l)]), (3, some [.i .i64 0])]⟩ hdf hS decCal ⟨⟨rfl, VwL.pure pul⟩, ⟨rfl, VwL.pure pul⟩, trivial⟩ (.cons (.kp rfl) (.cons (.kp rfl) .nil)) (decD _ _ _ _ _) (rfl) (two_upd rfl rfl pul pul) rfl (r_cellA ti71 rfl rfl rfl rfl (r_cell ti31 rfl rfl rfl r_nil)) ?_
  exact (decA_n (dec_r hr)).symm
 ·obtain ⟨⟨k, n, s, l⟩, hr⟩ := hcs
  refine at_region <| s1 (y_p rfl) rfl ?_
  refine at_op rfl (n_callGd ⟨[(400, some [.fz (b).length ((b).map u8)])]⟩ [(400, [.fz (([] : List UInt8)).length ((([] : List UInt8)).map u8)])] false rfl ⟨⟨rfl, VwL.pure pul⟩, trivial⟩ (.cons (.kp rfl) (.cons (.pure pu) .nil)) (((value_both 16 0 rfl) b hb).1 _ _ hr) pu (.inl rfl) (fun p hp => by rw [List.mem_singleton.1 hp]; exact ⟨⟨_, rfl⟩, pul, .inl rfl⟩) rfl ?_)
  refine at_op rfl (n_storeA ti71 rfl rfl rfl (by first | rfl | omega | (simp <;> omega) | (simp [*] <;> omega)) (by first | rfl | omega | (simp <;> omega) | (simp [*] <;> omega)) ?_)
  refine at_nil <| x_tn <| at_seq <| at_seq <| at_region <| s1 (y_p rfl) rfl <| s1 (y_nilc rfl rfl) rfl <| s1 (y_fld Tryd.underlying97 rfl ti40 (by decide) rfl rfl) rfl <| s1 (y_load ti40 rfl rfl rfl) rfl <| s1 (y_len Tryd.underlying40 rfl rfl rfl) rfl <| s1 ((y_p rfl).v (v' := .b false) (rfl)) rfl ?_
  refine at_nil <| x_tn ?_
  refine at_else rfl ?_
  refine at_skip <| x_tn <| at_seq <| at_region <| s1 (y_loadA0 ti71 rfl rfl rfl) rfl ?_
  refine at_op rfl (n_storeA ti71 rfl rfl rfl (by first | rfl | omega | (simp <;> omega) | (simp [*] <;> omega)) (by first | rfl | omega | (simp <;> omega) | (simp [*] <;> omega)) ?_)
  refine at_op rfl (n_store1 ti31 rfl rfl rfl rfl (by first | rfl | omega | (simp <;> omega) | (simp [*] <;> omega)) rfl ?_)
  refine at_nil <| x_tn <| at_ret ?_
  refine at_leaveR hdf hS decCal decR rfl (r_cellA ti71 rfl rfl rfl rfl (r_cell ti31 rfl rfl rfl r_nil)) ?_
  exact (decA_y (dec_y hr)).symm
end Go.Abs.D2
-- C1B
namespace Go.Abs.D2
open Go Go.Eng Go.Abs Go.Proofs 
theorem cnumeral_ok (B : List UInt8) (u : BitVec 64) (hB : B.length ≤ 100000000) : ConS Tryd.prog 85 [.sl 128 1 0 B.length, w64 u] ⟨[(128, some (B.map u8))]⟩ (RetO 1 (B ++ numL u.toNat).length ((B ++ numL u.toNat).map u8)) := by
 refine enterH pul Tryd.func85 rfl Tryd.ntmps85 (by kernel_rfl) (Nat.le_of_ble_eq_true rfl) fun w0 X0 hI => ?_
 refine at_seq <| at_region <| s1 (y_p rfl) rfl ?_
 refine at_nil <| x_tn <| at_seq <| at_block ?_
 refine at_loop (ι := Nat) (fun k => [(0, .sl 130 1 0 (B.length + k)), (1, w64 (u >>> (7 * k)))]) (fun k => ⟨[(130, some ((B ++ numP u.toNat (k)).map u8))]⟩) (fun k => k ≤ 10 ∧ ∀ i, i < k → 128 ≤ u.toNat / 128 ^ i) (fun k => 10 - k) ?_ ?_
 ·exact at_ex (0) (⟨by omega, fun t ht => absurd ht (by omega)⟩) [(130, some 128)] hI rfl rfl ⟨⟨_, rfl, .sl rfl (by first | rfl | omega | (simp <;> omega) | (simp [*] <;> omega))⟩, ⟨_, rfl, .pure pu⟩, trivial⟩ ⟨.inr ⟨_, _, rfl, rfl, .of (by simp [numP]) (.pure pul)⟩, trivial⟩
 rintro k ⟨hk, hk2⟩
 have hsh := shr_num u k
 have hpl : (B ++ numP u.toNat (k)).length = B.length + k := by simp
 refine at_seq <| at_seq <| at_region <| s1 (y_p rfl) rfl <| s1 ((y_p rfl).v (v' := .b (decide (128 ≤ u.toNat / 128 ^ k))) (congrArg A.b (num_ge u k))) rfl ?_
 refine at_nil <| x_tn ?_
 refine at_cond rfl (fun hc6 => ?_) (fun hc6 => ?_)
 ·have h6 : 128 ≤ u.toNat / 128 ^ k := of_decide_eq_true hc6
  have hk9 : k < 10 := Nat.lt_of_not_le fun h => by rw [pow_lim u.isLt h] at h6; omega
  refine at_skip <| x_tn <| at_block <| at_seq <| at_region <| s1 (y_p rfl) rfl <| s1 (y_p rfl) rfl <| s1 (and64 _ (c64 127) rfl rfl) rfl <| s1 (to8_64 _ Tryd.underlying117 Tryd.underlying5 rfl) rfl <| s1 ((orB _ (128 : UInt8) rfl rfl).v (v' := u8 (UInt8.ofNat (u.toNat / 128 ^ k % 128 + 128))) (congrArg u8 (num_byte u k))) rfl ?_
  refine at_op rfl (n_bs1 12 rfl Tryd.underlying40 ti5 rfl rfl rfl rfl rfl ?_)
  refine at_op rfl (n_app 13 rfl Tryd.underlying40 ti5 rfl (.sl rfl (by simp)) rfl (SM_full rfl (by first | rfl | omega | (simp <;> omega) | (simp [*] <;> omega))) (by simp) (by simp only [maxLen]; omega) (by omega) rfl (num_app B u k) rfl ?_)
  refine s1 (y_p rfl) rfl ?_
  refine at_nil <| x_tn <| at_region <| s1 (y_p rfl) rfl <| s1 ((shr64 _ 7 rfl rfl rfl (by decide)).v (v' := w64 (u >>> (7 * (k + 1)))) (congrArg w64 (shr_next u k))) rfl <| s1 (y_p rfl) rfl ?_
  refine at_nil <| x_bn ?_
  exact at_end (k + 1) (⟨by omega, all_next hk2 h6⟩) (by omega) [(130, some 13)] hI rfl rfl ⟨⟨_, rfl, .sl rfl (by first | rfl | omega | (simp <;> omega) | (simp [*] <;> omega))⟩, ⟨_, rfl, .pure pu⟩, trivial⟩ ⟨.inr ⟨_, _, rfl, rfl, .pure pul⟩, trivial⟩
 ·have h6 : ¬ 128 ≤ u.toNat / 128 ^ k := of_decide_eq_false hc6
  refine at_exit <| x_te <| x_te <| x_be <| x_tn <| at_seq <| at_region <| s1 (y_p rfl) rfl <| s1 (y_p rfl) rfl <| s1 ((to8_64 _ Tryd.underlying117 Tryd.underlying5 rfl).v (v' := u8 (UInt8.ofNat (u.toNat / 128 ^ k))) (by rw [hsh])) rfl ?_
  refine at_op rfl (n_bs1 19 rfl Tryd.underlying40 ti5 rfl rfl rfl rfl rfl ?_)
  refine at_op rfl (n_app 20 rfl Tryd.underlying40 ti5 rfl (.sl rfl (by simp)) rfl (SM_full rfl (by first | rfl | omega | (simp <;> omega) | (simp [*] <;> omega))) (by simp) (by simp only [maxLen]; omega) (by omega) rfl (num_last B hk2 (Nat.lt_of_not_le h6)) rfl ?_)
  refine s1 (y_p rfl) rfl ?_
  refine at_nil <| x_tn <| at_ret ?_
  have hll := num_len B hk2 (Nat.lt_of_not_le h6)
  refine at_result (rs := [.tmp 4]) rfl (r_tmp rfl r_nil) ⟨20, ?_, rfl⟩
  rw [← hll]; rfl
theorem cnumeral_at (B R : List UInt8) (u : BitVec 64) (m : Nat) (hB : B.length ≤ 100000000) (hm : m = B.length) (hR : B ++ numL u.toNat = R) : ConS Tryd.prog 85 [.sl 128 1 0 m, w64 u] ⟨[(128, some (B.map u8))]⟩ (RetO 1 R.length (R.map u8)) := by
  subst hm; subst hR
  exact cnumeral_ok B u hB
theorem cunsigned_ok (n : Int) (h0 : -9223372036854775808 ≤ n) (h1 : n ≤ 9223372036854775807) : Con Tryd.prog 86 [.i .i64 n] (Ret (w64 (c64 (unsI n)))) := by
 refine enter Tryd.func86 rfl Tryd.ntmps86 (by kernel_rfl) (Nat.le_of_ble_eq_true rfl) fun w0 X0 hI => ?_
 refine at_seq <| at_region <| s1 ((y_p rfl).v (v' := .i .u64 0) rfl) rfl ?_
 refine at_nil <| x_tn <| at_seq <| at_region <| s1 (y_p rfl) rfl <| s1 ((y_conv Tryd.underlying3 Tryd.underlying117 rfl).v (v' := w64 (BitVec.ofInt 64 n)) (congrArg (A.i .u64) (uns_conv n))) rfl <| s1 (shl64 _ 1 rfl rfl rfl (by decide)) rfl <| s1 (y_p rfl) rfl <| s1 ((y_shr rfl rfl (by decide)).v (v' := .i .i64 (if 0 ≤ n then 0 else -1)) (congrArg (A.i .i64) (uns_shr h0 h1))) rfl <| s1 ((y_conv Tryd.underlying3 Tryd.underlying117 rfl).v (v' := w64 (if 0 ≤ n then 0 else BitVec.allOnes 64)) (congrArg (A.i .u64) (uns_conv2 n))) rfl <| s1 ((xor64 _ _ rfl rfl).v (v' := w64 (c64 (unsI n))) (congrArg w64 (uns_xor h0 h1))) rfl <| s1 (y_p rfl) rfl ?_
 refine at_nil <| x_tn <| at_ret ?_
 refine at_result (rs := [.tmp 2]) rfl (r_tmp rfl r_nil) ?_
 rfl
theorem cformed_step (k n : Int) (s : List UInt8) (l : List CV) (hl : CV.sizeL l < 1000000) (ih : ∀ v ∈ l, Con Tryd.prog 82 [.ag v.cells] (Ret (.b v.okB))) : Con Tryd.prog 82 [.ag [.i .i64 k, .i .i64 n, .s s, .fz l.length (CV.cellsL l)]] (Ret (.b (CV.okB (.mk k n s l)))) := by
 refine enter Tryd.func82 rfl Tryd.ntmps82 (by kernel_rfl) (Nat.le_of_ble_eq_true rfl) fun w0 X0 hI => ?_
 refine at_seq <| at_region ?_
 refine at_op rfl (n_boxA 1 rfl rfl rfl ?_)
 refine s1 (y_p rfl) rfl ?_
 refine at_nil <| x_tn <| at_seq <| at_seq ?_
 have hll := CV.len_sizeL l
 refine at_region <| s1 (y_fld Tryd.underlying71 rfl ti3 (by decide) rfl rfl) rfl <| s1 (y_load ti3 rfl rfl rfl) rfl ?_
 refine at_nil <| x_tn <| at_block <| at_seq <| at_region <| s1 (y_p rfl) rfl <| s1 (y_p rfl) rfl ?_
 refine at_nil <| x_tn ?_
 refine at_cond rfl (fun hc7 => ?_) (fun hc7 => ?_)
 ·have hk1 : k = 1 := by simpa using hc7
  refine at_seq <| at_region <| s1 (y_fld Tryd.underlying71 rfl ti9 (by decide) rfl rfl) rfl <| s1 (y_load ti9 rfl rfl rfl) rfl <| s1 ((y_p rfl).v (v' := .b s.isEmpty) (congrArg A.b (by cases s <;> rfl))) rfl <| s1 (y_p rfl) rfl ?_
  refine g_and 4 rfl rfl rfl rfl (fun hb12 => .step (y_fld Tryd.underlying71 rfl ti69 (by decide) rfl rfl) rfl rfl <| .step (y_load ti69 rfl rfl rfl) rfl rfl <| .step (y_len Tryd.underlying69 rfl rfl rfl) rfl rfl <| .step (y_p rfl) rfl rfl <| .done) rfl rfl ?_
  refine s1 (y_p rfl) rfl ?_
  refine at_nil <| x_tn <| at_ret <| x_br <| x_tr ?_
  refine at_result (rs := [.tmp 2]) rfl (r_tmp rfl r_nil) ?_
  exact congrArg A.b (okV_1 hk1)
 ·have hk1 : ¬ k = 1 := by simpa using hc7
  refine at_seq <| at_region <| s1 (y_p rfl) rfl <| s1 (y_p rfl) rfl ?_
  refine at_nil <| x_tn ?_
  refine at_cond rfl (fun hc18 => ?_) (fun hc18 => ?_)
  ·have hk2 : k = 2 := by simpa using hc18
   refine at_seq <| at_region <| s1 (y_fld Tryd.underlying71 rfl ti3 (by decide) rfl rfl) rfl <| s1 (y_load ti3 rfl rfl rfl) rfl <| s1 (y_p rfl) rfl <| s1 (y_p rfl) rfl ?_
   refine g_and 4 rfl rfl rfl rfl (fun hb23 => .step (y_fld Tryd.underlying71 rfl ti69 (by decide) rfl rfl) rfl rfl <| .step (y_load ti69 rfl rfl rfl) rfl rfl <| .step (y_len Tryd.underlying69 rfl rfl rfl) rfl rfl <| .step (y_p rfl) rfl rfl <| .done) rfl rfl ?_
   refine s1 (y_p rfl) rfl ?_
   refine at_nil <| x_tn <| at_ret <| x_br <| x_tr ?_
   refine at_result (rs := [.tmp 2]) rfl (r_tmp rfl r_nil) ?_
   exact congrArg A.b (okV_2 hk2)
  ·have hk2 : ¬ k = 2 := by simpa using hc18
   refine at_seq <| at_region <| s1 (y_p rfl) rfl <| s1 (y_p rfl) rfl ?_
   refine at_nil <| x_tn ?_
   refine at_cond rfl (fun hc29 => ?_) (fun hc29 => ?_)
   ·have hk3 : k = 3 := by simpa using hc29
    refine at_seq <| at_seq <| at_region <| s1 (y_fld Tryd.underlying71 rfl ti3 (by decide) rfl rfl) rfl <| s1 (y_load ti3 rfl rfl rfl) rfl <| s1 (y_p rfl) rfl <| s1 (y_p rfl) rfl ?_
    refine g_or 3 rfl rfl rfl rfl (fun hb34 => .step (y_fld Tryd.underlying71 rfl ti9 (by decide) rfl rfl) rfl rfl <| .step (y_load ti9 rfl rfl rfl) rfl rfl <| .step ((y_p rfl).v (v' := .b (!s.isEmpty)) (congrArg A.b (by cases s <;> rfl))) rfl rfl <| .done) rfl rfl ?_
    refine at_nil <| x_tn ?_
    refine at_cond rfl (fun hc38 => ?_) (fun hc38 => ?_)
    ·skip
     refine at_seq <| at_region <| s1 (y_p rfl) rfl ?_
     refine at_nil <| x_tn <| at_ret <| x_tr <| x_br <| x_tr ?_
     refine at_result (rs := [.tmp 2]) rfl (r_tmp rfl r_nil) ?_
     exact congrArg A.b (okV_3n hk3 hc38)
    ·skip
     refine at_skip <| x_tn <| at_seq <| at_seq <| at_region <| s1 (y_fld Tryd.underlying71 rfl ti69 (by decide) rfl rfl) rfl <| s1 (y_load ti69 rfl rfl rfl) rfl <| s1 (y_len Tryd.underlying69 rfl rfl rfl) rfl <| s1 ((y_p rfl).v (v' := .i .i64 0) rfl) rfl ?_
     refine at_nil <| x_tn <| at_block ?_
     refine at_loop (ι := Nat) (fun i => [(40, .fz l.length (CV.cellsL l)), (41, nJ l.length), (42, nJ i)]) (fun i => ⟨[]⟩) (fun i => i ≤ l.length ∧ (l.take i).all CV.okB = true) (fun i => l.length - i) ?_ ?_
     ·exact at_ex (0) (⟨Nat.zero_le _, rfl⟩) [] hI rfl rfl ⟨⟨_, rfl, .pure pu⟩, ⟨_, rfl, .pure pu⟩, ⟨_, rfl, .pure pu⟩, trivial⟩ trivial
     rintro i ⟨hi, hi2⟩
     refine at_seq <| at_region <| s1 (y_p rfl) rfl ?_
     refine at_nil <| x_tn <| at_seq ?_
     refine at_cond rfl (fun hc43 => ?_) (fun hc43 => ?_)
     ·have h43 : i < l.length := by have := of_decide_eq_true hc43; omega
      obtain ⟨v, hv⟩ : ∃ v, l[i]? = some v := ⟨_, List.getElem?_eq_getElem h43⟩
      have hvm := List.mem_of_getElem? hv
      refine at_skip <| x_tn <| at_seq <| at_block <| at_seq <| at_region <| s1 (y_ixf i Tryd.underlying69 ti71 rfl rfl rfl (by omega) rfl) rfl <| s1 (y_loadA ti71 rfl rfl (CV.get hv) (CV.len_cells v)) rfl ?_
      refine at_op rfl (n_alloc 4 rfl ti71 rfl rfl ?_)
      refine at_op rfl (n_storeA ti71 rfl rfl rfl (CV.len_cells v) (by first | rfl | omega | (simp <;> omega) | (simp [*] <;> omega)) ?_)
      refine at_nil <| x_tn <| at_seq <| at_region <| s1 (y_loadA0 ti71 rfl rfl (CV.len_cells v)) rfl ?_
      refine at_op rfl (n_call false rfl (.cons (.pure pu) (.nil)) (ih v hvm) pu (.inl rfl) rfl ?_)
      refine s1 (y_p rfl) rfl ?_
      refine at_nil <| x_tn ?_
      refine at_cond rfl (fun hc48 => ?_) (fun hc48 => ?_)
      ·have h48 : v.okB = false := by simpa using hc48
       refine at_seq <| at_region <| s1 (y_p rfl) rfl ?_
       refine at_nil <| x_tn <| at_ret <| x_br <| x_tr <| x_tr <| x_br <| x_tr <| x_br <| x_tr ?_
       refine at_result (rs := [.tmp 2]) rfl (r_tmp rfl r_nil) ?_
       exact congrArg A.b (okV_3f hk3 hv h48)
      ·have h48 : v.okB = true := by simpa using hc48
       refine at_skip <| x_bn <| x_tn <| at_region <| s1 (addN _ 1 rfl rfl rfl rfl (by omega)) rfl <| s1 (y_p rfl) rfl ?_
       refine at_nil ?_
       exact at_end (i + 1) (⟨by omega, all_nextV hv hi2 h48⟩) (by omega) [] hI rfl rfl ⟨⟨_, rfl, .pure pu⟩, ⟨_, rfl, .pure pu⟩, ⟨_, rfl, .pure pu⟩, trivial⟩ trivial
     ·obtain rfl : i = l.length := by have := of_decide_eq_false hc43; omega
      refine at_exit <| x_te <| x_te <| x_be <| x_tn <| at_seq <| at_region <| s1 (y_p rfl) rfl ?_
      refine at_nil <| x_tn <| at_ret <| x_br <| x_tr ?_
      refine at_result (rs := [.tmp 2]) rfl (r_tmp rfl r_nil) ?_
      exact congrArg A.b (okV_3 hk3 hc38 hi2)
   ·have hk3 : ¬ k = 3 := by simpa using hc29
    refine at_skip <| x_bn <| x_tn <| at_seq <| at_region <| s1 (y_p rfl) rfl ?_
    refine at_nil <| x_tn <| at_ret ?_
    refine at_result (rs := [.tmp 2]) rfl (r_tmp rfl r_nil) ?_
    exact congrArg A.b (okV_0 hk1 hk2 hk3)
theorem cformed_ok (v : CV) (h : v.size ≤ 1000000) : Con Tryd.prog 82 [.ag v.cells] (Ret (.b v.okB)) := CV.rec_size (p := fun v => Con Tryd.prog 82 [.ag v.cells] (Ret (.b v.okB))) 1000000 (fun k n s l hl ih => cformed_step k n s l hl ih) v h
theorem cdepth_step (k n : Int) (s : List UInt8) (l : List CV) (hl : CV.sizeL l < 1000000) (ih : ∀ v ∈ l, Con Tryd.prog 83 [.ag v.cells] (Ret (nJ v.depth))) : Con Tryd.prog 83 [.ag [.i .i64 k, .i .i64 n, .s s, .fz l.length (CV.cellsL l)]] (Ret (nJ (CV.depth (.mk k n s l)))) := by
 refine enter Tryd.func83 rfl Tryd.ntmps83 (by kernel_rfl) (Nat.le_of_ble_eq_true rfl) fun w0 X0 hI => ?_
 refine at_seq <| at_region ?_
 refine at_op rfl (n_boxA 1 rfl rfl rfl ?_)
 refine s1 ((y_p rfl).v (v' := .i .i64 0) rfl) rfl ?_
 refine at_nil <| x_tn <| at_seq <| at_seq ?_
 have hll := CV.len_sizeL l
 have hdl := CV.depthL_size l
 refine at_region <| s1 (y_fld Tryd.underlying71 rfl ti3 (by decide) rfl rfl) rfl <| s1 (y_load ti3 rfl rfl rfl) rfl <| s1 (y_p rfl) rfl ?_
 refine at_nil <| x_tn ?_
 refine at_cond rfl (fun hc8 => ?_) (fun hc8 => ?_)
 ·have hk3 : ¬ k = 3 := by simpa using hc8
  refine at_seq <| at_region <| s1 ((y_p rfl).v (v' := .i .i64 0) rfl) rfl ?_
  refine at_nil <| x_tn <| at_ret <| x_tr ?_
  refine at_result (rs := [.tmp 2]) rfl (r_tmp rfl r_nil) ?_
  exact congrArg nJ (show 0 = CV.depth (.mk k n s l) by rw [CV.depth, if_neg hk3])
 ·have hk3 : k = 3 := by simpa using hc8
  refine at_skip <| x_tn <| at_seq <| at_region <| s1 ((y_p rfl).v (v' := .i .i64 0) rfl) rfl ?_
  refine at_nil <| x_tn <| at_seq <| at_seq <| at_region <| s1 (y_fld Tryd.underlying71 rfl ti69 (by decide) rfl rfl) rfl <| s1 (y_load ti69 rfl rfl rfl) rfl <| s1 (y_len Tryd.underlying69 rfl rfl rfl) rfl <| s1 ((y_p rfl).v (v' := .i .i64 0) rfl) rfl ?_
  refine at_nil <| x_tn <| at_block ?_
  refine at_loop (ι := Nat) (fun i => [(3, nJ (CV.depthL (l.take i))), (10, .fz l.length (CV.cellsL l)), (11, nJ l.length), (12, nJ i)]) (fun i => ⟨[]⟩) (fun i => i ≤ l.length) (fun i => l.length - i) ?_ ?_
  ·exact at_ex (0) (Nat.zero_le _) [] hI rfl rfl ⟨⟨_, rfl, .pure pu⟩, ⟨_, rfl, .pure pu⟩, ⟨_, rfl, .pure pu⟩, ⟨_, rfl, .pure pu⟩, trivial⟩ trivial
  rintro i hi
  refine at_seq <| at_region <| s1 (y_p rfl) rfl ?_
  refine at_nil <| x_tn <| at_seq ?_
  refine at_cond rfl (fun hc13 => ?_) (fun hc13 => ?_)
  ·have h43 : i < l.length := by have := of_decide_eq_true hc13; omega
   obtain ⟨v, hv⟩ : ∃ v, l[i]? = some v := ⟨_, List.getElem?_eq_getElem h43⟩
   have hvm := List.mem_of_getElem? hv
   refine at_skip <| x_tn <| at_seq <| at_block <| at_seq <| at_region <| s1 (y_ixf i Tryd.underlying69 ti71 rfl rfl rfl (by omega) rfl) rfl <| s1 (y_loadA ti71 rfl rfl (CV.get hv) (CV.len_cells v)) rfl ?_
   refine at_op rfl (n_alloc 5 rfl ti71 rfl rfl ?_)
   refine at_op rfl (n_storeA ti71 rfl rfl rfl (CV.len_cells v) (by first | rfl | omega | (simp <;> omega) | (simp [*] <;> omega)) ?_)
   refine at_nil <| x_tn <| at_region <| s1 (y_p rfl) rfl <| s1 (y_loadA0 ti71 rfl rfl (CV.len_cells v)) rfl ?_
   refine at_op rfl (n_call false rfl (.cons (.pure pu) (.nil)) (ih v hvm) pu (.inl rfl) rfl ?_)
   refine s1 ((y_maxN (a := CV.depthL (l.take i)) (b := v.depth) rfl rfl rfl).v (v' := nJ (CV.depthL (l.take (i + 1)))) (congrArg nJ (CV.depthL_next hv))) rfl <| s1 (y_p rfl) rfl ?_
   refine at_nil <| x_bn <| x_tn <| at_region <| s1 (addN _ 1 rfl rfl rfl rfl (by omega)) rfl <| s1 (y_p rfl) rfl ?_
   refine at_nil ?_
   exact at_end (i + 1) (by omega) (by omega) [] hI rfl rfl ⟨⟨_, rfl, .pure pu⟩, ⟨_, rfl, .pure pu⟩, ⟨_, rfl, .pure pu⟩, ⟨_, rfl, .pure pu⟩, trivial⟩ trivial
  ·obtain rfl : i = l.length := by have := of_decide_eq_false hc13; omega
   refine at_exit <| x_te <| x_te <| x_be <| x_tn <| at_seq <| at_region <| s1 ((y_p rfl).v (v' := nJ (CV.depthL l)) (by rw [List.take_length])) rfl <| s1 (addN _ 1 rfl rfl rfl rfl (by omega)) rfl <| s1 (y_p rfl) rfl ?_
   refine at_nil <| x_tn <| at_ret ?_
   refine at_result (rs := [.tmp 2]) rfl (r_tmp rfl r_nil) ?_
   exact congrArg nJ (show CV.depthL l + 1 = CV.depth (.mk k n s l) by rw [CV.depth, if_pos hk3])
theorem cdepth_ok (v : CV) (h : v.size ≤ 1000000) : Con Tryd.prog 83 [.ag v.cells] (Ret (nJ v.depth)) := CV.rec_size (p := fun v => Con Tryd.prog 83 [.ag v.cells] (Ret (nJ v.depth))) 1000000 (fun k n s l hl ih => cdepth_step k n s l hl ih) v h
theorem ccheckV_ok (v : CV) (h : v.size ≤ 1000000) : Con Tryd.prog 65 [.ag v.cells] (Ret (.i .i64 (chkV v))) := by
 refine enter Tryd.func65 rfl Tryd.ntmps65 (by kernel_rfl) (Nat.le_of_ble_eq_true rfl) fun w0 X0 hI => ?_
 refine at_seq <| at_region ?_
 refine at_op rfl (n_boxA 1 rfl rfl rfl ?_)
 refine s1 ((y_p rfl).v (v' := .i .i64 0) rfl) rfl ?_
 refine at_nil <| x_tn <| at_seq <| at_seq <| at_region <| s1 (y_loadA0 ti71 rfl rfl (CV.len_cells v)) rfl ?_
 refine at_op rfl (n_call false rfl (.cons (.pure pu) (.nil)) (cformed_ok v h) pu (.inl rfl) rfl ?_)
 refine s1 (y_p rfl) rfl ?_
 refine at_nil <| x_tn ?_
 refine at_cond rfl (fun hc5 => ?_) (fun hc5 => ?_)
 ·have h5 : v.okB = false := by simpa using hc5
  refine at_seq <| at_region <| s1 ((y_p rfl).v (v' := .i .i64 1) rfl) rfl ?_
  refine at_nil <| x_tn <| at_ret <| x_tr ?_
  refine at_result (rs := [.tmp 2]) rfl (r_tmp rfl r_nil) ?_
  exact congrArg (A.i .i64) (chkV_1 h5).symm
 ·have h5 : v.okB = true := by simpa using hc5
  refine at_skip <| x_tn <| at_seq <| at_seq <| at_region <| s1 (y_loadA0 ti71 rfl rfl (CV.len_cells v)) rfl ?_
  refine at_op rfl (n_call false rfl (.cons (.pure pu) (.nil)) (cdepth_ok v h) pu (.inl rfl) rfl ?_)
  refine s1 (y_p rfl) rfl ?_
  refine at_nil <| x_tn ?_
  refine at_cond rfl (fun hc8 => ?_) (fun hc8 => ?_)
  ·have h8 : 16 < v.depth := by have := of_decide_eq_true hc8; omega
   refine at_seq <| at_region <| s1 ((y_p rfl).v (v' := .i .i64 2) rfl) rfl ?_
   refine at_nil <| x_tn <| at_ret <| x_tr ?_
   refine at_result (rs := [.tmp 2]) rfl (r_tmp rfl r_nil) ?_
   exact congrArg (A.i .i64) (chkV_2 h5 h8).symm
  ·have h8 : ¬ 16 < v.depth := by have := of_decide_eq_false hc8; omega
   refine at_skip <| x_tn <| at_seq <| at_region <| s1 ((y_p rfl).v (v' := .i .i64 0) rfl) rfl ?_
   refine at_nil <| x_tn <| at_ret ?_
   refine at_result (rs := [.tmp 2]) rfl (r_tmp rfl r_nil) ?_
   exact congrArg (A.i .i64) (chkV_0 h5 h8).symm
end Go.Abs.D2
-- C1C
namespace Go.Abs.D2
open Go Go.Eng Go.Abs Go.Proofs 
def wTab (i : Nat) : List A := [.raw .nilFunc, .fn (.func 84) [] [], .fn (.func 87) [] [], .fn (.func 88) [] [.p i 0]]
theorem dep_wTab : DepL wTab := depL_cons (dep_flat trivial) (depL_cons (dep_flat ⟨trivial, trivial⟩) (depL_cons (dep_flat ⟨trivial, trivial⟩) (depL_cons dep_fn depL_nil)))
theorem cw1_ok (B R : List UInt8) (n : Int) (s : List UInt8) (l : List CV) (h0 : -9223372036854775808 ≤ n) (h1 : n ≤ 9223372036854775807) (hR : B ++ 1 :: numL (unsI n) = R) (hl : R.length ≤ 100000000) : ConS Tryd.prog 84 [.sl 131 1 0 B.length, .ag [.i .i64 1, .i .i64 n, .s s, .fz l.length (CV.cellsL l)]] ⟨[(131, some (B.map u8))]⟩ (RetOS 1 R.length (R.map u8) []) := by
 refine enterK [] pul no_in no_get onlyT_nil Tryd.func84 rfl Tryd.ntmps84 (by kernel_rfl) (Nat.le_of_ble_eq_true rfl) fun w0 X0 hI => ?_
 refine at_seq <| at_region ?_
 refine at_op rfl (n_boxA 3 rfl rfl rfl ?_)
 refine s1 (y_p rfl) rfl ?_
 refine at_nil <| x_tn <| at_seq ?_
 have hlen : B.length + 1 ≤ 100000000 := by rw [← hR] at hl; simp at hl; omega
 refine at_fs ⟨_, [], []⟩ 7 4 hmix (le_refl rfl) ?_
 refine fs_q 0 [] [(131, none)] (y_p rfl) rfl rfl ?_
 refine fs_bs1 6 1 [] gy0 Tryd.underlying40 ti5 rfl rfl rfl rfl rfl rfl ?_
 refine fs_app 128 2 [0, 1] [(6, some 1), (131, none)] gy0 Tryd.underlying40 ti5 rfl (.sl rfl (by simp)) rfl (SM_full rfl (by first | rfl | omega | (simp <;> omega) | (simp [*] <;> omega))) (by simp) (by simp only [maxLen]; omega) (by omega) rfl (app_one B 1) rfl rfl ?_
 refine fs_q 3 [] [(3, none)] (y_fld Tryd.underlying71 rfl ti3 (by decide) rfl rfl) rfl rfl ?_
 refine fs_q 4 [3] [(3, none)] (y_load ti3 rfl rfl rfl) rfl rfl ?_
 refine fs_call false 5 [4] [] gy0 rfl (.cons (.pure pu) (.nil)) (cunsigned_ok n h0 h1) pu (.inl rfl) rfl rfl ?_
 refine fs_callHO 11 ⟨[(128, some ((B ++ [1]).map u8))]⟩ true 6 [2, 5] [(128, some 2)] gy0 rfl ⟨⟨rfl, VwL.pure pul⟩, trivial⟩ (.cons (.ksl rfl) (.cons (.pure pu) .nil)) (cnumeral_at (B ++ [1]) (R) (c64 (unsI n)) (B.length + 1) (by simp; omega) (by simp) (by rw [c64_nat (uns_nat h0 h1), ← hR]; simp)) pul (.inr ful) rfl rfl ?_
 refine fs_end (by kernel_rfl) ?_
 refine s1 (y_p rfl) rfl ?_
 refine at_nil <| x_tn <| at_ret ?_
 refine at_result (rs := [.tmp 4]) rfl (r_tmp rfl r_nil) (retOS_nil rfl)
theorem cw2_ok (B R : List UInt8) (n : Int) (s : List UInt8) (l : List CV) (hR : B ++ 2 :: (numL s.length ++ s) = R) (hl : R.length ≤ 100000000) : ConS Tryd.prog 87 [.sl 131 1 0 B.length, .ag [.i .i64 2, .i .i64 n, .s s, .fz l.length (CV.cellsL l)]] ⟨[(131, some (B.map u8))]⟩ (RetOS 1 R.length (R.map u8) []) := by
 refine enterK [] pul no_in no_get onlyT_nil Tryd.func87 rfl Tryd.ntmps87 (by kernel_rfl) (Nat.le_of_ble_eq_true rfl) fun w0 X0 hI => ?_
 refine at_seq <| at_region ?_
 refine at_op rfl (n_boxA 3 rfl rfl rfl ?_)
 refine s1 (y_p rfl) rfl ?_
 refine at_nil <| x_tn <| at_seq ?_
 have hlen : B.length + 1 + s.length ≤ 100000000 := by rw [← hR] at hl; simp at hl; omega
 have hlen2 : (B ++ 2 :: numL s.length).length + s.length = R.length := by rw [← hR]; simp; omega
 refine at_fs ⟨_, [], []⟩ 11 4 hmix (le_refl rfl) ?_
 refine fs_q 0 [] [(131, none)] (y_p rfl) rfl rfl ?_
 refine fs_bs1 6 1 [] gy0 Tryd.underlying40 ti5 rfl rfl rfl rfl rfl rfl ?_
 refine fs_app 128 2 [0, 1] [(6, some 1), (131, none)] gy0 Tryd.underlying40 ti5 rfl (.sl rfl (by simp)) rfl (SM_full rfl (by first | rfl | omega | (simp <;> omega) | (simp [*] <;> omega))) (by simp) (by simp only [maxLen]; omega) (by omega) rfl (app_one B 2) rfl rfl ?_
 refine fs_q 3 [] [(3, none)] (y_fld Tryd.underlying71 rfl ti9 (by decide) rfl rfl) rfl rfl ?_
 refine fs_q 4 [3] [(3, none)] (y_load ti9 rfl rfl rfl) rfl rfl ?_
 refine fs_q 5 [4] [] (y_lens Tryd.underlying9 rfl rfl) rfl rfl ?_
 refine fs_q 6 [5] [] (ofN_64 _ Tryd.underlying3 Tryd.underlying117 rfl rfl) rfl rfl ?_
 refine fs_callHO 12 ⟨[(128, some ((B ++ [2]).map u8))]⟩ true 7 [2, 6] [(128, some 2)] gy0 rfl ⟨⟨rfl, VwL.pure pul⟩, trivial⟩ (.cons (.ksl rfl) (.cons (.pure pu) .nil)) (cnumeral_at (B ++ [2]) (B ++ 2 :: numL s.length) (c64 s.length) (B.length + 1) (by simp; omega) (by simp) (by rw [c64_nat (by omega)]; simp)) pul (.inr ful) rfl rfl ?_
 refine fs_q 8 [] [(3, none)] (y_fld Tryd.underlying71 rfl ti9 (by decide) rfl rfl) rfl rfl ?_
 refine fs_q 9 [8] [(3, none)] (y_load ti9 rfl rfl rfl) rfl rfl ?_
 refine fs_apps 15 10 [7, 9] [(12, some 7)] gy0 Tryd.underlying40 Tryd.underlying9 ti5 rfl rfl (by simp) (by simp; omega) rfl (by simp only [maxLen]; omega) (by omega) (app_str _ _ R (by rw [← hR]; simp)) rfl rfl ?_
 refine fs_end (by kernel_rfl) ?_
 refine s1 (y_p rfl) rfl ?_
 refine at_nil <| x_tn <| at_ret ?_
 refine at_result (rs := [.tmp 4]) rfl (r_tmp rfl r_nil) ?_
 rw [← hlen2]
 exact retOS_nil rfl
theorem wTab_upd {s0 : St} {ow : Bool} {T : Nat} {cs : List A} (h : s0.get T = some cs) : ∀ p ∈ [(T, wTab T)], (∃ cs, s0.get p.1 = some cs) ∧ KpL s0 ow p.2 := fun p hp => by
  rw [List.mem_singleton.1 hp]
  exact ⟨⟨_, h⟩, .inl ⟨trivial, .inr trivial⟩, .inl ⟨⟨trivial, trivial⟩, .inr ⟨trivial, trivial⟩⟩, .inl ⟨⟨trivial, trivial⟩, .inr ⟨trivial, trivial⟩⟩, Kp_fn h, trivial⟩
theorem cw3_step (n : Int) (s : List UInt8) (l : List CV) (ih : ∀ v ∈ l, ∀ (n : Int) (s : List UInt8) (q : List CV), v = .mk 3 n s q → CV.okBL q = true → CV.rngL q = true → ∀ B R : List UInt8, B ++ 3 :: (numL q.length ++ CV.encL q) = R → R.length ≤ 100000000 → ConS Tryd.prog 88 [.sl 131 1 0 B.length, .ag [.i .i64 3, .i .i64 n, .s s, .fz q.length (CV.cellsL q)], .p 11 0] ⟨[(131, some (B.map u8)), (11, some (wTab 11))]⟩ (RetOS 1 R.length (R.map u8) [(11, wTab 11)])) (hok : CV.okBL l = true) (hrg : CV.rngL l = true) (B R : List UInt8) (hR : B ++ 3 :: (numL l.length ++ CV.encL l) = R) (hl : R.length ≤ 100000000) : ConS Tryd.prog 88 [.sl 131 1 0 B.length, .ag [.i .i64 3, .i .i64 n, .s s, .fz l.length (CV.cellsL l)], .p 11 0] ⟨[(131, some (B.map u8)), (11, some (wTab 11))]⟩ (RetOS 1 R.length (R.map u8) [(11, wTab 11)]) := by
 refine enterK [11] pul one_in (one_get rfl) (onlyT_of dep_wTab) Tryd.func88 rfl Tryd.ntmps88 (by kernel_rfl) (Nat.le_of_ble_eq_true rfl) fun w0 X0 hI => ?_
 refine at_seq <| at_region ?_
 refine at_op rfl (n_boxA 4 rfl rfl rfl ?_)
 refine s1 (y_p rfl) rfl ?_
 refine at_nil <| x_tn <| at_seq ?_
 have hnl := CV.len_encL l
 have hRl : R.length = B.length + 1 + (numL l.length).length + (CV.encL l).length := by rw [← hR]; simp; omega
 rw [CV.okBL_all] at hok
 rw [CV.rngL_all] at hrg
 refine at_fs ⟨_, [], []⟩ 8 4 hmix (le_refl rfl) ?_
 refine fs_q 0 [] [(131, none)] (y_p rfl) rfl rfl ?_
 refine fs_bs1 9 1 [] gy0 Tryd.underlying40 ti5 rfl rfl rfl rfl rfl rfl ?_
 refine fs_app 128 2 [0, 1] [(9, some 1), (131, none)] gy0 Tryd.underlying40 ti5 rfl (.sl rfl (by simp)) rfl (SM_full rfl (by first | rfl | omega | (simp <;> omega) | (simp [*] <;> omega))) (by simp) (by simp only [maxLen]; omega) (by omega) rfl (app_one B 3) rfl rfl ?_
 refine fs_q 3 [] [(4, none)] (y_fld Tryd.underlying71 rfl ti69 (by decide) rfl rfl) rfl rfl ?_
 refine fs_q 4 [3] [(4, none)] (y_load ti69 rfl rfl rfl) rfl rfl ?_
 refine fs_q 5 [4] [] (y_len Tryd.underlying69 rfl rfl rfl) rfl rfl ?_
 refine fs_q 6 [5] [] (ofN_64 _ Tryd.underlying3 Tryd.underlying117 rfl rfl) rfl rfl ?_
 refine fs_callHO 15 ⟨[(128, some ((B ++ [3]).map u8))]⟩ true 7 [2, 6] [(128, some 2)] gy0 rfl ⟨⟨rfl, VwL.pure pul⟩, trivial⟩ (.cons (.ksl rfl) (.cons (.pure pu) .nil)) (cnumeral_at (B ++ [3]) (B ++ 3 :: (numL l.length ++ CV.encL (l.take 0))) (c64 l.length) (B.length + 1) (by simp; omega) (by simp) (by rw [c64_nat (by omega)]; simp [CV.encL])) pul (.inr ful) rfl rfl ?_
 refine fs_end (by kernel_rfl) ?_
 refine s1 (y_p rfl) rfl ?_
 refine at_nil <| x_tn <| at_seq <| at_seq <| at_region <| s1 (y_fld Tryd.underlying71 rfl ti69 (by decide) rfl rfl) rfl <| s1 (y_load ti69 rfl rfl rfl) rfl <| s1 (y_len Tryd.underlying69 rfl rfl rfl) rfl <| s1 ((y_p rfl).v (v' := .i .i64 0) rfl) rfl ?_
 refine at_nil <| x_tn <| at_block ?_
 refine at_loop (ι := Nat) (fun i => [(0, .sl 131 1 0 (B ++ 3 :: (numL l.length ++ CV.encL (l.take i))).length), (2, .p 11 0), (17, .fz l.length (CV.cellsL l)), (18, nJ l.length), (19, nJ i)]) (fun i => ⟨[(131, some ((B ++ 3 :: (numL l.length ++ CV.encL (l.take i))).map u8)), (11, some (wTab 11))]⟩) (fun i => i ≤ l.length) (fun i => l.length - i) ?_ ?_
 ·exact at_ex (0) (Nat.zero_le _) [(11, some 11), (131, some 15)] hI rfl rfl ⟨⟨_, rfl, .sl rfl (by first | rfl | omega | (simp <;> omega) | (simp [*] <;> omega))⟩, ⟨_, rfl, .p rfl⟩, ⟨_, rfl, .pure pu⟩, ⟨_, rfl, .pure pu⟩, ⟨_, rfl, .pure pu⟩, trivial⟩ ⟨.inr ⟨_, _, rfl, rfl, .pure pul⟩, .inr ⟨_, _, rfl, rfl, .cons (.pure trivial) (.cons (.pure pu) (.cons (.pure pu) (.cons (.fn .nil (.cons (.p rfl) .nil)) .nil)))⟩, trivial⟩
 rintro i hi
 have hli := CV.encL_take l i
 have hli2 := CV.encL_take l (i + 1)
 have hCl : (B ++ 3 :: (numL l.length ++ CV.encL (l.take i))).length = B.length + 1 + (numL l.length).length + (CV.encL (l.take i)).length := by simp; omega
 have hCl2 : (B ++ 3 :: (numL l.length ++ CV.encL (l.take (i + 1)))).length = B.length + 1 + (numL l.length).length + (CV.encL (l.take (i + 1))).length := by simp; omega
 refine at_seq <| at_region <| s1 (y_p rfl) rfl ?_
 refine at_nil <| x_tn <| at_seq ?_
 refine at_cond rfl (fun hc20 => ?_) (fun hc20 => ?_)
 ·have h20 : i < l.length := by have := of_decide_eq_true hc20; omega
  obtain ⟨⟨k2, n2, s2, q2⟩, hv⟩ : ∃ v, l[i]? = some v := ⟨_, List.getElem?_eq_getElem h20⟩
  have hvm := List.mem_of_getElem? hv
  have hvo := List.all_eq_true.1 hok _ hvm
  have hvr := List.all_eq_true.1 hrg _ hvm
  simp only [CV.rng, Bool.and_eq_true, decide_eq_true_eq] at hvr
  refine at_skip <| x_tn <| at_seq <| at_block <| at_seq <| at_region <| s1 (y_ixf i Tryd.underlying69 ti71 rfl rfl rfl (by omega) rfl) rfl <| s1 (y_loadA ti71 rfl rfl (CV.get4 hv) rfl) rfl ?_
  refine at_op rfl (n_alloc 7 rfl ti71 rfl rfl ?_)
  refine at_op rfl (n_storeA ti71 rfl rfl rfl (by first | rfl | omega | (simp <;> omega) | (simp [*] <;> omega)) (by first | rfl | omega | (simp <;> omega) | (simp [*] <;> omega)) ?_)
  refine at_nil <| x_tn ?_
  rcases okV_kind hvo with hcs | hcs | hcs
  ·subst hcs
   refine at_fs ⟨_, [], []⟩ 7 4 hmix (le_refl rfl) ?_
   refine fs_q 0 [] [(7, none)] (y_fld Tryd.underlying71 rfl ti3 (by decide) rfl rfl) rfl rfl ?_
   refine fs_q 1 [0] [(7, none)] (y_load ti3 rfl rfl rfl) rfl rfl ?_
   refine fs_q 2 [1] [(11, none)] (y_ixa 1 Tryd.underlying91 ti90 rfl rfl rfl (by decide) rfl) rfl rfl ?_
   refine fs_q 3 [2] [(11, none)] (y_load ti90 rfl rfl rfl) rfl rfl ?_
   refine fs_q 4 [] [(131, none)] (y_p rfl) rfl rfl ?_
   refine fs_q 5 [] [(7, none)] (y_loadA0 ti71 rfl rfl (by first | rfl | omega | (simp <;> omega) | (simp [*] <;> omega))) rfl rfl ?_
   refine fs_callHK 29 ⟨[(131, some ((B ++ 3 :: (numL l.length ++ CV.encL (l.take i))).map u8))]⟩ [] true 6 [3, 4, 5] [(131, none)] gy0 rfl rfl rfl ⟨⟨rfl, VwL.pure pul⟩, trivial⟩ (.cons (.ksl rfl) (.cons (.pure pu) .nil)) (cw1_ok _ (B ++ 3 :: (numL l.length ++ CV.encL (l.take (i + 1)))) n2 s2 q2 hvr.1.1 hvr.1.2 (by rw [← CV.encL_next hv]; simp [CV.enc]) (by omega)) pul (.inr ful) no_upd rfl rfl ?_
   refine fs_end (by kernel_rfl) ?_
   refine s1 (y_p rfl) rfl ?_
   refine at_nil <| x_bn <| x_tn <| at_region <| s1 (addN _ 1 rfl rfl rfl rfl (by omega)) rfl <| s1 (y_p rfl) rfl ?_
   refine at_nil ?_
   exact at_end (i + 1) (by omega) (by omega) [(11, some 11), (131, some 29)] hI rfl rfl ⟨⟨_, rfl, .sl rfl (by first | rfl | omega | (simp <;> omega) | (simp [*] <;> omega))⟩, ⟨_, rfl, .p rfl⟩, ⟨_, rfl, .pure pu⟩, ⟨_, rfl, .pure pu⟩, ⟨_, rfl, .pure pu⟩, trivial⟩ ⟨.inr ⟨_, _, rfl, rfl, .pure pul⟩, .inr ⟨_, _, rfl, rfl, .cons (.pure trivial) (.cons (.pure pu) (.cons (.pure pu) (.cons (.fn .nil (.cons (.p rfl) .nil)) .nil)))⟩, trivial⟩
  ·subst hcs
   refine at_fs ⟨_, [], []⟩ 7 4 hmix (le_refl rfl) ?_
   refine fs_q 0 [] [(7, none)] (y_fld Tryd.underlying71 rfl ti3 (by decide) rfl rfl) rfl rfl ?_
   refine fs_q 1 [0] [(7, none)] (y_load ti3 rfl rfl rfl) rfl rfl ?_
   refine fs_q 2 [1] [(11, none)] (y_ixa 2 Tryd.underlying91 ti90 rfl rfl rfl (by decide) rfl) rfl rfl ?_
   refine fs_q 3 [2] [(11, none)] (y_load ti90 rfl rfl rfl) rfl rfl ?_
   refine fs_q 4 [] [(131, none)] (y_p rfl) rfl rfl ?_
   refine fs_q 5 [] [(7, none)] (y_loadA0 ti71 rfl rfl (by first | rfl | omega | (simp <;> omega) | (simp [*] <;> omega))) rfl rfl ?_
   refine fs_callHK 29 ⟨[(131, some ((B ++ 3 :: (numL l.length ++ CV.encL (l.take i))).map u8))]⟩ [] true 6 [3, 4, 5] [(131, none)] gy0 rfl rfl rfl ⟨⟨rfl, VwL.pure pul⟩, trivial⟩ (.cons (.ksl rfl) (.cons (.pure pu) .nil)) (cw2_ok _ (B ++ 3 :: (numL l.length ++ CV.encL (l.take (i + 1)))) n2 s2 q2 (by rw [← CV.encL_next hv]; simp [CV.enc]) (by omega)) pul (.inr ful) no_upd rfl rfl ?_
   refine fs_end (by kernel_rfl) ?_
   refine s1 (y_p rfl) rfl ?_
   refine at_nil <| x_bn <| x_tn <| at_region <| s1 (addN _ 1 rfl rfl rfl rfl (by omega)) rfl <| s1 (y_p rfl) rfl ?_
   refine at_nil ?_
   exact at_end (i + 1) (by omega) (by omega) [(11, some 11), (131, some 29)] hI rfl rfl ⟨⟨_, rfl, .sl rfl (by first | rfl | omega | (simp <;> omega) | (simp [*] <;> omega))⟩, ⟨_, rfl, .p rfl⟩, ⟨_, rfl, .pure pu⟩, ⟨_, rfl, .pure pu⟩, ⟨_, rfl, .pure pu⟩, trivial⟩ ⟨.inr ⟨_, _, rfl, rfl, .pure pul⟩, .inr ⟨_, _, rfl, rfl, .cons (.pure trivial) (.cons (.pure pu) (.cons (.pure pu) (.cons (.fn .nil (.cons (.p rfl) .nil)) .nil)))⟩, trivial⟩
  ·obtain ⟨rfl, hq2⟩ := hcs
   refine at_fs ⟨_, [], []⟩ 7 4 hmix (le_refl rfl) ?_
   refine fs_q 0 [] [(7, none)] (y_fld Tryd.underlying71 rfl ti3 (by decide) rfl rfl) rfl rfl ?_
   refine fs_q 1 [0] [(7, none)] (y_load ti3 rfl rfl rfl) rfl rfl ?_
   refine fs_q 2 [1] [(11, none)] (y_ixa 3 Tryd.underlying91 ti90 rfl rfl rfl (by decide) rfl) rfl rfl ?_
   refine fs_q 3 [2] [(11, none)] (y_load ti90 rfl rfl rfl) rfl rfl ?_
   refine fs_q 4 [] [(131, none)] (y_p rfl) rfl rfl ?_
   refine fs_q 5 [] [(7, none)] (y_loadA0 ti71 rfl rfl (by first | rfl | omega | (simp <;> omega) | (simp [*] <;> omega))) rfl rfl ?_
   refine fs_callHK 29 ⟨[(131, some ((B ++ 3 :: (numL l.length ++ CV.encL (l.take i))).map u8)), (11, some (wTab 11))]⟩ [(11, wTab 11)] true 6 [3, 4, 5] [(11, none), (131, none)] gy0 rfl rfl rfl ⟨⟨rfl, VwL.pure pul⟩, ⟨rfl, (.cons (.pure trivial) (.cons (.pure pu) (.cons (.pure pu) (.cons (.fn .nil (.cons (.kp rfl) .nil)) .nil))))⟩, trivial⟩ (.cons (.ksl rfl) (.cons (.pure pu) (.cons (.kp rfl) .nil))) (ih _ hvm n2 s2 q2 rfl hq2 hvr.2 _ (B ++ 3 :: (numL l.length ++ CV.encL (l.take (i + 1)))) (by rw [← CV.encL_next hv]; simp [CV.enc]) (by omega)) pul (.inr ful) (wTab_upd rfl) rfl rfl ?_
   refine fs_end (by kernel_rfl) ?_
   refine s1 (y_p rfl) rfl ?_
   refine at_nil <| x_bn <| x_tn <| at_region <| s1 (addN _ 1 rfl rfl rfl rfl (by omega)) rfl <| s1 (y_p rfl) rfl ?_
   refine at_nil ?_
   exact at_end (i + 1) (by omega) (by omega) [(11, some 11), (131, some 29)] hI rfl rfl ⟨⟨_, rfl, .sl rfl (by first | rfl | omega | (simp <;> omega) | (simp [*] <;> omega))⟩, ⟨_, rfl, .p rfl⟩, ⟨_, rfl, .pure pu⟩, ⟨_, rfl, .pure pu⟩, ⟨_, rfl, .pure pu⟩, trivial⟩ ⟨.inr ⟨_, _, rfl, rfl, .pure pul⟩, .inr ⟨_, _, rfl, rfl, .cons (.pure trivial) (.cons (.pure pu) (.cons (.pure pu) (.cons (.fn .nil (.cons (.p rfl) .nil)) .nil)))⟩, trivial⟩
 ·obtain rfl : i = l.length := by have := of_decide_eq_false hc20; omega
  refine at_exit <| x_te <| x_te <| x_be <| x_tn <| at_seq <| at_region <| s1 (y_p rfl) rfl <| s1 (y_p rfl) rfl ?_
  refine at_nil <| x_tn <| at_ret ?_
  refine at_result (rs := [.tmp 5]) rfl (r_tmp rfl r_nil) ?_
  rw [← hR]
  exact retOS_cast (by rw [List.take_length]) rfl rfl (by decide)
theorem cw3_ok (n : Int) (s : List UInt8) (l : List CV) (hok : CV.okBL l = true) (hrg : CV.rngL l = true) (B R : List UInt8) (hR : B ++ 3 :: (numL l.length ++ CV.encL l) = R) (hl : R.length ≤ 100000000) : ConS Tryd.prog 88 [.sl 131 1 0 B.length, .ag [.i .i64 3, .i .i64 n, .s s, .fz l.length (CV.cellsL l)], .p 11 0] ⟨[(131, some (B.map u8)), (11, some (wTab 11))]⟩ (RetOS 1 R.length (R.map u8) [(11, wTab 11)]) := by
 have key : ∀ v : CV, v.size ≤ (CV.mk 3 n s l).size → ∀ (n : Int) (s : List UInt8) (q : List CV), v = .mk 3 n s q → CV.okBL q = true → CV.rngL q = true → ∀ B R : List UInt8, B ++ 3 :: (numL q.length ++ CV.encL q) = R → R.length ≤ 100000000 → ConS Tryd.prog 88 [.sl 131 1 0 B.length, .ag [.i .i64 3, .i .i64 n, .s s, .fz q.length (CV.cellsL q)], .p 11 0] ⟨[(131, some (B.map u8)), (11, some (wTab 11))]⟩ (RetOS 1 R.length (R.map u8) [(11, wTab 11)]) := by
  refine CV.rec_size _ fun k n s l hl ih => ?_
  rintro n' s' q e
  cases e
  exact cw3_step n s l ih
 exact key _ (Nat.le_refl _) n s l rfl hok hrg B R hR hl
theorem cwriters_ok : Con Tryd.prog 66 [] (RetMM (fun i => .ag (wTab i)) wTab) := by
 refine enter Tryd.func66 rfl Tryd.ntmps66 (by kernel_rfl) (Nat.le_of_ble_eq_true rfl) fun w0 X0 hI => ?_
 refine at_seq <| at_region ?_
 refine at_op rfl (n_alloc 0 rfl ti91 rfl rfl ?_)
 refine at_nil <| x_tn <| at_seq <| at_region <| s1 (y_ixa 1 Tryd.underlying91 ti90 rfl rfl rfl (by omega) rfl) rfl ?_
 refine at_op rfl (n_store1 ti90 rfl rfl rfl rfl (by first | rfl | omega | (simp <;> omega) | (simp [*] <;> omega)) rfl ?_)
 refine at_nil <| x_tn <| at_seq <| at_region <| s1 (y_ixa 2 Tryd.underlying91 ti90 rfl rfl rfl (by omega) rfl) rfl ?_
 refine at_op rfl (n_store1 ti90 rfl rfl rfl rfl (by first | rfl | omega | (simp <;> omega) | (simp [*] <;> omega)) rfl ?_)
 refine at_nil <| x_tn <| at_seq <| at_region <| s1 (y_func (us := []) (vs := [.p 0 0]) rfl rfl) rfl <| s1 (y_ixa 3 Tryd.underlying91 ti90 rfl rfl rfl (by omega) rfl) rfl ?_
 refine at_op rfl (n_store1 ti90 rfl rfl rfl rfl (by first | rfl | omega | (simp <;> omega) | (simp [*] <;> omega)) rfl ?_)
 refine at_nil <| x_tn <| at_seq <| at_region <| s1 (y_loadA0 ti91 rfl rfl rfl) rfl ?_
 refine at_op rfl (n_storeA ti91 rfl rfl rfl rfl rfl ?_)
 refine at_nil <| x_tn <| at_ret ?_
 refine at_result (rs := [.cell 0 91]) rfl (r_cellA ti91 rfl rfl rfl rfl r_nil) ⟨0, rfl, rfl⟩
end Go.Abs.D2
-- C1D
namespace Go.Abs.D2
open Go Go.Eng Go.Abs Go.Proofs 
theorem cencode_ok (k n : Int) (s : List UInt8) (l : List CV) (hs : (CV.mk k n s l).size ≤ 1000000) (hrg : (CV.mk k n s l).rng = true) (hl : (CV.mk k n s l).enc.length ≤ 100000000) : Con Tryd.prog 48 [.ag [.i .i64 k, .i .i64 n, .s s, .fz l.length (CV.cellsL l)]] (Ret (encA (.mk k n s l))) := by
 refine enter Tryd.func48 rfl Tryd.ntmps48 (by kernel_rfl) (Nat.le_of_ble_eq_true rfl) fun w0 X0 hI => ?_
 refine at_seq <| at_region ?_
 refine at_op rfl (n_boxA 1 rfl rfl rfl ?_)
 refine s1 (y_p rfl) rfl <| s1 ((y_p rfl).v (v' := .i .i64 0) rfl) rfl ?_
 refine at_nil <| x_tn <| at_seq <| at_seq ?_
 simp only [CV.rng, Bool.and_eq_true, decide_eq_true_eq] at hrg
 refine at_region <| s1 (y_loadA0 ti71 rfl rfl rfl) rfl ?_
 refine at_op rfl (n_call false rfl (.cons (.pure pu) (.nil)) (ccheckV_ok (.mk k n s l) hs) pu (.inl rfl) rfl ?_)
 refine s1 (y_p rfl) rfl ?_
 refine at_nil <| x_tn <| at_seq <| at_region <| s1 (y_p rfl) rfl <| s1 (y_p rfl) rfl ?_
 refine at_nil <| x_tn ?_
 refine at_cond rfl (fun hc9 => ?_) (fun hc9 => ?_)
 ·have h9 : chkV (.mk k n s l) ≠ 0 := by simpa using hc9
  refine at_seq <| at_region <| s1 (y_p rfl) rfl <| s1 (y_p rfl) rfl <| s1 (y_p rfl) rfl ?_
  refine at_nil <| x_tn <| at_ret <| x_tr ?_
  refine at_result (rs := [.tmp 2, .tmp 3]) rfl (r_tmp rfl (r_tmp rfl r_nil)) ?_
  exact (encA_no h9).symm
 ·have h9 : chkV (.mk k n s l) = 0 := by simpa using hc9
  have hok := chkV_ok h9
  refine at_skip <| x_tn <| at_seq <| at_region ?_
  refine at_op rfl (n_callMM (mk := fun i => .ag (wTab i)) (mkc := wTab) (oneB_ag (f := .func 88) 3 dep_wTab (fun _ => rfl)) dep_wTab 11 rfl true rfl .nil cwriters_ok rfl ?_)
  refine at_op rfl (n_alloc 5 rfl ti91 rfl rfl ?_)
  refine at_op rfl (n_storeA ti91 rfl rfl rfl rfl rfl ?_)
  refine at_nil <| x_tn <| at_seq ?_
  rcases okV_kind hok with hcs | hcs | hcs
  ·subst hcs
   refine at_fs ⟨_, [], []⟩ 6 4 hmix (le_refl rfl) ?_
   refine fs_q 0 [] [(1, none)] (y_fld Tryd.underlying71 rfl ti3 (by decide) rfl rfl) rfl rfl ?_
   refine fs_q 1 [0] [(1, none)] (y_load ti3 rfl rfl rfl) rfl rfl ?_
   refine fs_q 2 [1] [(5, none)] (y_ixa 1 Tryd.underlying91 ti90 rfl rfl rfl (by decide) rfl) rfl rfl ?_
   refine fs_q 3 [2] [(5, none)] (y_load ti90 rfl rfl rfl) rfl rfl ?_
   refine fs_q 4 [] [(1, none)] (y_loadA0 ti71 rfl rfl rfl) rfl rfl ?_
   refine fs_callHK 17 ⟨[]⟩ [] true 5 [3, 4] [] gy0 rfl rfl rfl trivial (.cons (.pure pu) (.cons (.pure pu) .nil)) (ConS.nl (i := 131) rfl (cw1_ok [] (CV.enc (.mk 1 n s l)) n s l hrg.1.1 hrg.1.2 rfl hl)) pul (.inr ful) no_upd rfl rfl ?_
   refine fs_end (by kernel_rfl) ?_
   refine s1 (y_p rfl) rfl <| s1 ((y_p rfl).v (v' := .i .i64 0) rfl) rfl ?_
   refine at_nil <| x_tn <| at_ret ?_
   refine at_frz 2 rfl rfl pul (view_eq (by simp) rfl) ?_
   refine at_result (rs := [.tmp 2, .tmp 3]) rfl (r_tmp rfl (r_tmp rfl r_nil)) ?_
   exact (encA_yes h9).symm
  ·subst hcs
   refine at_fs ⟨_, [], []⟩ 6 4 hmix (le_refl rfl) ?_
   refine fs_q 0 [] [(1, none)] (y_fld Tryd.underlying71 rfl ti3 (by decide) rfl rfl) rfl rfl ?_
   refine fs_q 1 [0] [(1, none)] (y_load ti3 rfl rfl rfl) rfl rfl ?_
   refine fs_q 2 [1] [(5, none)] (y_ixa 2 Tryd.underlying91 ti90 rfl rfl rfl (by decide) rfl) rfl rfl ?_
   refine fs_q 3 [2] [(5, none)] (y_load ti90 rfl rfl rfl) rfl rfl ?_
   refine fs_q 4 [] [(1, none)] (y_loadA0 ti71 rfl rfl rfl) rfl rfl ?_
   refine fs_callHK 17 ⟨[]⟩ [] true 5 [3, 4] [] gy0 rfl rfl rfl trivial (.cons (.pure pu) (.cons (.pure pu) .nil)) (ConS.nl (i := 131) rfl (cw2_ok [] (CV.enc (.mk 2 n s l)) n s l rfl hl)) pul (.inr ful) no_upd rfl rfl ?_
   refine fs_end (by kernel_rfl) ?_
   refine s1 (y_p rfl) rfl <| s1 ((y_p rfl).v (v' := .i .i64 0) rfl) rfl ?_
   refine at_nil <| x_tn <| at_ret ?_
   refine at_frz 2 rfl rfl pul (view_eq (by simp) rfl) ?_
   refine at_result (rs := [.tmp 2, .tmp 3]) rfl (r_tmp rfl (r_tmp rfl r_nil)) ?_
   exact (encA_yes h9).symm
  ·obtain ⟨rfl, hq2⟩ := hcs
   refine at_fs ⟨_, [], []⟩ 6 4 hmix (le_refl rfl) ?_
   refine fs_q 0 [] [(1, none)] (y_fld Tryd.underlying71 rfl ti3 (by decide) rfl rfl) rfl rfl ?_
   refine fs_q 1 [0] [(1, none)] (y_load ti3 rfl rfl rfl) rfl rfl ?_
   refine fs_q 2 [1] [(5, none)] (y_ixa 3 Tryd.underlying91 ti90 rfl rfl rfl (by decide) rfl) rfl rfl ?_
   refine fs_q 3 [2] [(5, none)] (y_load ti90 rfl rfl rfl) rfl rfl ?_
   refine fs_q 4 [] [(1, none)] (y_loadA0 ti71 rfl rfl rfl) rfl rfl ?_
   refine fs_callHK 17 ⟨[(11, some (wTab 11))]⟩ [(11, wTab 11)] true 5 [3, 4] [(11, none)] gy0 rfl rfl rfl ⟨⟨rfl, (.cons (.pure trivial) (.cons (.pure pu) (.cons (.pure pu) (.cons (.fn .nil (.cons (.kp rfl) .nil)) .nil))))⟩, trivial⟩ (.cons (.pure pu) (.cons (.pure pu) (.cons (.kp rfl) .nil))) (ConS.nl (i := 131) rfl (cw3_ok n s l hq2 hrg.2 [] (CV.enc (.mk 3 n s l)) rfl hl)) pul (.inr ful) (wTab_upd rfl) rfl rfl ?_
   refine fs_end (by kernel_rfl) ?_
   refine s1 (y_p rfl) rfl <| s1 ((y_p rfl).v (v' := .i .i64 0) rfl) rfl ?_
   refine at_nil <| x_tn <| at_ret ?_
   refine at_frz 2 rfl rfl pul (view_eq (by simp) rfl) ?_
   refine at_result (rs := [.tmp 2, .tmp 3]) rfl (r_tmp rfl (r_tmp rfl r_nil)) ?_
   exact (encA_yes h9).symm
end Go.Abs.D2
-- C4G
namespace Go.Abs.D2
open Go Go.Eng Go.Abs Go.Proofs 
theorem cnumV_ok (n : Int) : Con Tryd.prog 46 [.i .i64 n] (Ret (.ag (CV.cells (intV n)))) := by
 refine enter Tryd.func46 rfl Tryd.ntmps46 (by kernel_rfl) (Nat.le_of_ble_eq_true rfl) fun w0 X0 hI => ?_
 refine at_seq <| at_region ?_
 refine at_op rfl (n_alloc 2 rfl ti71 rfl rfl ?_)
 refine at_nil <| x_tn <| at_seq <| at_region <| s1 (y_p rfl) rfl <| s1 (y_bld (out := [_, _, _, _]) [[evC (.int .i64 0)], [evC (.int .i64 0)], [evC (.string ByteArray.empty)], [evC (.slice none 0 0)]] ti71 rfl Tryd.underlying71 (by kernel_rfl) rfl rfl ⟨⟨by (first | rfl | omega | (simp; done) | (simp [*]; done) | (simp [cellsA, *]; done)), rfl⟩, ⟨⟨by (first | rfl | omega | (simp; done) | (simp [*]; done) | (simp [cellsA, *]; done)), rfl⟩, trivial⟩⟩ rfl) rfl ?_
 refine at_op rfl (n_storeA ti71 rfl rfl rfl (by first | rfl | omega | (simp <;> omega) | (simp [*] <;> omega)) (by first | rfl | omega | (simp <;> omega) | (simp [*] <;> omega)) ?_)
 refine at_nil <| x_tn <| at_ret ?_
 refine at_wkO 2 rfl wk_cv ?_
 refine at_result (rs := [.cell 2 71]) rfl (r_cellA ti71 rfl rfl rfl rfl r_nil) ?_
 rfl
theorem ctxtV_ok (l : List UInt8) : Con Tryd.prog 47 [.fz l.length (l.map u8)] (Ret (.ag (CV.cells (txtV l)))) := by
 refine enter Tryd.func47 rfl Tryd.ntmps47 (by kernel_rfl) (Nat.le_of_ble_eq_true rfl) fun w0 X0 hI => ?_
 refine at_seq <| at_region ?_
 refine at_op rfl (n_alloc 2 rfl ti71 rfl rfl ?_)
 refine at_nil <| x_tn <| at_seq <| at_region <| s1 (y_p rfl) rfl <| s1 (y_str Tryd.underlying40 Tryd.underlying5 Tryd.underlying9 rfl rfl (by simp)) rfl <| s1 (y_bld (out := [_, _, _, _]) [[evC (.int .i64 0)], [evC (.int .i64 0)], [evC (.string ByteArray.empty)], [evC (.slice none 0 0)]] ti71 rfl Tryd.underlying71 (by kernel_rfl) rfl rfl ⟨⟨by (first | rfl | omega | (simp; done) | (simp [*]; done) | (simp [cellsA, *]; done)), rfl⟩, ⟨⟨by (first | rfl | omega | (simp; done) | (simp [*]; done) | (simp [cellsA, *]; done)), rfl⟩, trivial⟩⟩ rfl) rfl ?_
 refine at_op rfl (n_storeA ti71 rfl rfl rfl (by first | rfl | omega | (simp <;> omega) | (simp [*] <;> omega)) (by first | rfl | omega | (simp <;> omega) | (simp [*] <;> omega)) ?_)
 refine at_nil <| x_tn <| at_ret ?_
 refine at_wkO 2 rfl wk_cv ?_
 refine at_result (rs := [.cell 2 71]) rfl (r_cellA ti71 rfl rfl rfl rfl r_nil) ?_
 rfl
theorem clstV_ok (l : List CV) : Con Tryd.prog 45 [.fz l.length (CV.cellsL l)] (Ret (.ag (CV.cells (lstV l)))) := by
 refine enter Tryd.func45 rfl Tryd.ntmps45 (by kernel_rfl) (Nat.le_of_ble_eq_true rfl) fun w0 X0 hI => ?_
 refine at_seq <| at_region ?_
 refine at_op rfl (n_alloc 2 rfl ti71 rfl rfl ?_)
 refine at_nil <| x_tn <| at_seq <| at_region <| s1 (y_p rfl) rfl <| s1 (y_bld (out := [_, _, _, _]) [[evC (.int .i64 0)], [evC (.int .i64 0)], [evC (.string ByteArray.empty)], [evC (.slice none 0 0)]] ti71 rfl Tryd.underlying71 (by kernel_rfl) rfl rfl ⟨⟨by (first | rfl | omega | (simp; done) | (simp [*]; done) | (simp [cellsA, *]; done)), rfl⟩, ⟨⟨by (first | rfl | omega | (simp; done) | (simp [*]; done) | (simp [cellsA, *]; done)), rfl⟩, trivial⟩⟩ rfl) rfl ?_
 refine at_op rfl (n_storeA ti71 rfl rfl rfl (by first | rfl | omega | (simp <;> omega) | (simp [*] <;> omega)) (by first | rfl | omega | (simp <;> omega) | (simp [*] <;> omega)) ?_)
 refine at_nil <| x_tn <| at_ret ?_
 refine at_result (rs := [.cell 2 71]) rfl (r_cellA ti71 rfl rfl rfl rfl r_nil) ?_
 rfl
theorem cencC_ok (c : Cas) (hx : c.x.length = 32) (hn : c.E.length ≤ maxLen) : Con Tryd.prog 21 [.ag (casL c)] (Ret (encCA c)) := by
 refine enter Tryd.func21 rfl Tryd.ntmps21 (by kernel_rfl) (Nat.le_of_ble_eq_true rfl) fun w0 X0 hI => ?_
 refine at_seq <| at_region ?_
 refine at_op rfl (n_boxA 1 rfl rfl rfl ?_)
 refine s1 (y_p rfl) rfl <| s1 ((y_p rfl).v (v' := .i .i64 0) rfl) rfl ?_
 refine at_nil <| x_tn <| at_seq <| at_seq ?_
 rcases tfC (chkC c) with hcs | hcs
 ·skip
  refine at_region <| s1 (y_loadA0 ti27 rfl rfl (cas_len hx)) rfl ?_
  refine at_op rfl (n_call false rfl (.cons (.pure pu) (.nil)) (Con.cast (cchk_ok c hx hn) (congrArg (fun b => A.i .i64 (errC b)) hcs)) pu (.inl rfl) rfl ?_)
  refine s1 (y_p rfl) rfl ?_
  refine at_nil <| x_tn <| at_seq <| at_region <| s1 (y_p rfl) rfl <| s1 ((y_p rfl).v (v' := .b true) (rfl)) rfl ?_
  refine at_nil <| x_tn ?_
  refine at_then rfl ?_
  refine at_seq <| at_region <| s1 (y_p rfl) rfl <| s1 (y_p rfl) rfl <| s1 (y_p rfl) rfl ?_
  refine at_nil <| x_tn <| at_ret <| x_tr ?_
  refine at_result (rs := [.tmp 2, .tmp 3]) rfl (r_tmp rfl (r_tmp rfl r_nil)) ?_
  exact (encCA_n hcs).symm
 ·obtain ⟨hF, hE, _⟩ := chkC_all hcs
  have hEl := listed_len hE
  have hel := enc_cas hcs hx
  refine at_region <| s1 (y_loadA0 ti27 rfl rfl (cas_len hx)) rfl ?_
  refine at_op rfl (n_call false rfl (.cons (.pure pu) (.nil)) (Con.cast (cchk_ok c hx hn) (congrArg (fun b => A.i .i64 (errC b)) hcs)) pu (.inl rfl) rfl ?_)
  refine s1 (y_p rfl) rfl ?_
  refine at_nil <| x_tn <| at_seq <| at_region <| s1 (y_p rfl) rfl <| s1 ((y_p rfl).v (v' := .b false) (rfl)) rfl ?_
  refine at_nil <| x_tn ?_
  refine at_else rfl ?_
  refine at_skip <| x_tn <| at_seq <| at_region <| s1 (y_p rfl) rfl <| s1 (y_p rfl) rfl ?_
  refine at_nil <| x_tn <| at_seq <| at_seq <| at_region <| s1 (y_fld Tryd.underlying27 rfl ti25 (by decide) rfl rfl) rfl <| s1 (y_load ti25 rfl rfl (cas_F hx)) rfl <| s1 (y_len Tryd.underlying25 rfl rfl rfl) rfl <| s1 ((y_p rfl).v (v' := .i .i64 0) rfl) rfl ?_
  refine at_nil <| x_tn <| at_block ?_
  refine at_loop (ι := Nat) (fun i => [(1, .p 1 0), (5, .sl 133 4 0 i), (6, .nl), (17, filsA c.F), (18, nJ c.F.length), (19, nJ i)]) (fun i => ⟨[(1, some (casL c)), (133, some (CV.cellsL ((c.F.take i).map filV)))]⟩) (fun i => i ≤ c.F.length) (fun i => c.F.length - i) ?_ ?_
  ·exact at_ex (0) (Nat.zero_le _) [(1, some 1), (133, none)] hI rfl rfl ⟨⟨_, rfl, .p rfl⟩, ⟨_, rfl, .nl rfl⟩, ⟨_, rfl, .pure pu⟩, ⟨_, rfl, .pure pu⟩, ⟨_, rfl, .pure pu⟩, ⟨_, rfl, .pure pu⟩, trivial⟩ ⟨.inr ⟨_, _, rfl, rfl, .pure pul⟩, .inl ⟨rfl, rfl⟩, trivial⟩
  rintro i hi
  refine at_seq <| at_region <| s1 (y_p rfl) rfl ?_
  refine at_nil <| x_tn <| at_seq ?_
  refine at_cond rfl (fun hc20 => ?_) (fun hc20 => ?_)
  ·have h19 : i < c.F.length := by have := of_decide_eq_true hc20; omega
   obtain ⟨f, hf⟩ : ∃ f, c.F[i]? = some f := ⟨_, List.getElem?_eq_getElem h19⟩
   refine at_skip <| x_tn <| at_seq <| at_block <| at_seq <| at_region <| s1 (y_ixf i Tryd.underlying25 ti50 rfl rfl rfl (by omega) rfl) rfl <| s1 (y_loadA ti50 rfl rfl (flat_get hf) rfl) rfl ?_
   refine at_op rfl (n_alloc 8 rfl ti50 rfl rfl ?_)
   refine at_op rfl (n_storeA ti50 rfl rfl rfl (by first | rfl | omega | (simp <;> omega) | (simp [*] <;> omega)) (by first | rfl | omega | (simp <;> omega) | (simp [*] <;> omega)) ?_)
   refine at_nil <| x_tn ?_
   refine at_fs ⟨_, [], []⟩ 11 4 hmix (le_refl rfl) ?_
   refine fs_q 0 [] [(133, none)] (y_p rfl) rfl rfl ?_
   refine fs_q 1 [] [(8, none)] (y_fld Tryd.underlying50 rfl ti3 (by decide) rfl rfl) rfl rfl ?_
   refine fs_q 2 [1] [(8, none)] (y_load ti3 rfl rfl rfl) rfl rfl ?_
   refine fs_call false 3 [2] [] gy0 rfl (.cons (.pure pu) (.nil)) (cnumV_ok f.nb) pu (.inl rfl) rfl rfl ?_
   refine fs_q 4 [] [(8, none)] (y_fld Tryd.underlying50 rfl ti40 (by decide) rfl rfl) rfl rfl ?_
   refine fs_q 5 [4] [(8, none)] (y_load ti40 rfl rfl rfl) rfl rfl ?_
   refine fs_call false 6 [5] [] gy0 rfl (.cons (.pure pu) (.nil)) (ctxtV_ok f.D) pu (.inl rfl) rfl rfl ?_
   refine fs_bs 30 7 [3, 6] gy0 Tryd.underlying69 ti71 rfl rfl rfl (by simp [cellsA]) (show _ = CV.cellsL [intV f.nb, txtV f.D] from rfl) rfl rfl rfl rfl ?_
   refine fs_callF 30 8 [7] [(30, some 7)] gy0 rfl rfl  pul rfl (CV.cellsL_all [intV f.nb, txtV f.D]) rfl (by exact pul) (clstV_ok [intV f.nb, txtV f.D]) pu rfl rfl ?_
   refine fs_bs 32 9 [8] gy0 Tryd.underlying69 ti71 rfl rfl rfl (by simp [cellsA]) (one_cv (filV f)) rfl rfl rfl rfl ?_
   refine fs_app 33 10 [0, 9] [(32, some 9), (133, none)] gy0 Tryd.underlying69 ti71 rfl (.sl rfl (by simp; omega)) rfl (SM_full rfl (by first | rfl | omega | (simp <;> omega) | (simp [*] <;> omega))) (by simp) (by simp only [maxLen]; omega) (by omega) rfl rfl rfl rfl ?_
   refine fs_end (by kernel_rfl) ?_
   refine s1 (y_p rfl) rfl ?_
   refine at_nil <| x_bn <| x_tn <| at_region <| s1 (addN _ 1 rfl rfl rfl rfl (by omega)) rfl <| s1 (y_p rfl) rfl ?_
   refine at_nil ?_
   exact at_end (i + 1) (by omega) (by omega) [(1, some 1), (133, some 33)] hI rfl rfl ⟨⟨_, rfl, .p rfl⟩, ⟨_, rfl, .sl rfl (by first | rfl | omega | (simp <;> omega) | (simp [*] <;> omega))⟩, ⟨_, rfl, .pure pu⟩, ⟨_, rfl, .pure pu⟩, ⟨_, rfl, .pure pu⟩, ⟨_, rfl, .pure pu⟩, trivial⟩ ⟨.inr ⟨_, _, rfl, rfl, .pure pul⟩, .inr ⟨_, _, rfl, rfl, .of (fil_nextV hf) (.pure pul)⟩, trivial⟩
  ·obtain rfl : i = c.F.length := by have := of_decide_eq_false hc20; omega
   refine at_exit <| x_te <| x_te <| x_be <| x_tn <| at_seq <| at_seq ?_
   refine at_sayO 133 (cs' := CV.cellsL (c.F.map filV)) rfl (by rw [List.take_length]) ?_
   refine at_region <| s1 (y_fld Tryd.underlying27 rfl ti24 (by decide) rfl rfl) rfl <| s1 (y_load ti24 rfl rfl (cas_E hx)) rfl <| s1 (y_len Tryd.underlying24 rfl rfl rfl) rfl <| s1 ((y_p rfl).v (v' := .i .i64 0) rfl) rfl ?_
   refine at_nil <| x_tn <| at_block ?_
   refine at_loop (ι := Nat) (fun k => [(1, .p 1 0), (5, .sl 133 4 0 c.F.length), (6, .sl 146 4 0 k), (36, intsA c.E), (37, nJ c.E.length), (38, nJ k)]) (fun k => ⟨[(1, some (casL c)), (133, some (CV.cellsL (c.F.map filV))), (146, some (CV.cellsL ((c.E.take k).map intV)))]⟩) (fun k => k ≤ c.E.length) (fun k => c.E.length - k) ?_ ?_
   ·exact at_ex (0) (Nat.zero_le _) [(1, some 1), (133, some 133), (146, none)] hI rfl rfl ⟨⟨_, rfl, .p rfl⟩, ⟨_, rfl, .sl rfl (by first | rfl | omega | (simp <;> omega) | (simp [*] <;> omega))⟩, ⟨_, rfl, .nl rfl⟩, ⟨_, rfl, .pure pu⟩, ⟨_, rfl, .pure pu⟩, ⟨_, rfl, .pure pu⟩, trivial⟩ ⟨.inr ⟨_, _, rfl, rfl, .pure pul⟩, .inr ⟨_, _, rfl, rfl, .pure pul⟩, .inl ⟨rfl, rfl⟩, trivial⟩
   rintro k hk
   refine at_seq <| at_region <| s1 (y_p rfl) rfl ?_
   refine at_nil <| x_tn <| at_seq ?_
   refine at_cond rfl (fun hc39 => ?_) (fun hc39 => ?_)
   ·have h30 : k < c.E.length := by have := of_decide_eq_true hc39; omega
    obtain ⟨q, hq⟩ : ∃ q, c.E[k]? = some q := ⟨_, List.getElem?_eq_getElem h30⟩
    refine at_skip <| x_tn <| at_seq <| at_block <| at_seq <| at_region <| s1 (y_ixf k Tryd.underlying24 ti3 rfl rfl rfl (by omega) rfl) rfl <| s1 (y_load ti3 rfl rfl (getI4 hq)) rfl <| s1 (y_p rfl) rfl ?_
    refine at_nil <| x_tn <| at_region <| s1 (y_p rfl) rfl <| s1 (y_p rfl) rfl ?_
    refine at_op rfl (n_call false rfl (.cons (.pure pu) (.nil)) (cnumV_ok q) pu (.inl rfl) rfl ?_)
    refine at_op rfl (n_bs 45 rfl Tryd.underlying69 ti71 rfl rfl rfl (by simp [cellsA]) (one_cv (intV q)) rfl rfl rfl ?_)
    refine at_op rfl (n_app 46 rfl Tryd.underlying69 ti71 rfl (.sl rfl (by simp; omega)) rfl (SM_full rfl (by first | rfl | omega | (simp <;> omega) | (simp [*] <;> omega))) (by simp) (by simp only [maxLen]; omega) (by omega) rfl rfl rfl ?_)
    refine s1 (y_p rfl) rfl ?_
    refine at_nil <| x_bn <| x_tn <| at_region <| s1 (addN _ 1 rfl rfl rfl rfl (by omega)) rfl <| s1 (y_p rfl) rfl ?_
    refine at_nil ?_
    exact at_end (k + 1) (by omega) (by omega) [(1, some 1), (133, some 133), (146, some 46)] hI rfl rfl ⟨⟨_, rfl, .p rfl⟩, ⟨_, rfl, .sl rfl (by first | rfl | omega | (simp <;> omega) | (simp [*] <;> omega))⟩, ⟨_, rfl, .sl rfl (by first | rfl | omega | (simp <;> omega) | (simp [*] <;> omega))⟩, ⟨_, rfl, .pure pu⟩, ⟨_, rfl, .pure pu⟩, ⟨_, rfl, .pure pu⟩, trivial⟩ ⟨.inr ⟨_, _, rfl, rfl, .pure pul⟩, .inr ⟨_, _, rfl, rfl, .pure pul⟩, .inr ⟨_, _, rfl, rfl, .of (int_nextV hq) (.pure pul)⟩, trivial⟩
   ·obtain rfl : k = c.E.length := by have := of_decide_eq_false hc39; omega
    refine at_exit <| x_te <| x_te <| x_be <| x_tn <| at_seq ?_
    refine at_sayO 146 (cs' := CV.cellsL (c.E.map intV)) rfl (by rw [List.take_length]) ?_
    refine at_frzP 1 rfl rfl pul ?_
    refine at_region <| s1 (y_fldf Tryd.underlying27 rfl ti23 (by decide) rfl rfl) rfl <| s1 ((y_cutfa (ds := ((casL c).drop (0 * 1)).take (32 * 1)) 32 Tryd.underlying23 ti5 rfl (by simp [maxLen]) bn bn (Nat.zero_le _) (Nat.le_refl _) (by simp [hx]) rfl rfl).v (cas_cut hx)) rfl ?_
    refine at_op rfl (n_call false rfl (.cons (.pure pu) (.nil)) (ctxtV_ok c.x) pu (.inl rfl) rfl ?_)
    refine s1 (y_p rfl) rfl ?_
    refine at_op rfl (n_callF 51 rfl rfl pul (by simp) (view_cv (by simp)) rfl (by exact pul) (clstV_ok (c.F.map filV)) pu rfl ?_)
    refine s1 (y_p rfl) rfl ?_
    refine at_op rfl (n_callF 53 rfl rfl pul (by simp) (view_cv (by simp)) rfl (by exact pul) (clstV_ok (c.E.map intV)) pu rfl ?_)
    refine at_op rfl (n_bs 55 rfl Tryd.underlying69 ti71 rfl rfl rfl (by simp [cellsA]) (show _ = CV.cellsL [txtV c.x, lstV (c.F.map filV), lstV (c.E.map intV)] from rfl) rfl rfl rfl ?_)
    refine at_op rfl (n_callF 55 rfl rfl pul rfl (CV.cellsL_all [txtV c.x, lstV (c.F.map filV), lstV (c.E.map intV)]) rfl (by exact pul) (clstV_ok [txtV c.x, lstV (c.F.map filV), lstV (c.E.map intV)]) pu rfl ?_)
    refine at_op rfl (n_call false rfl (.cons (.pure pu) (.nil)) (Con.cast (cencode_ok 3 0 [] [txtV c.x, lstV (c.F.map filV), lstV (c.E.map intV)] (size_cas hcs hx) (rng_cas hcs) (Nat.le_trans hel (by omega))) (encA_cas hcs)) pu (.inl rfl) rfl ?_)
    refine s1 (y_p rfl) rfl <| s1 (y_p rfl) rfl <| s1 (y_p rfl) rfl <| s1 (y_p rfl) rfl ?_
    refine at_nil <| x_tn <| at_ret ?_
    refine at_result (rs := [.tmp 2, .tmp 3]) rfl (r_tmp rfl (r_tmp rfl r_nil)) ?_
    exact (encCA_y hcs).symm
theorem cdigC_ok (c : Cas) (hx : c.x.length = 32) (hn : c.E.length ≤ maxLen) : Con Tryd.prog 23 [.ag (casL c)] (Ret (digCA c)) := by
 refine enter Tryd.func23 rfl Tryd.ntmps23 (by kernel_rfl) (Nat.le_of_ble_eq_true rfl) fun w0 X0 hI => ?_
 refine at_seq <| at_region ?_
 refine at_op rfl (n_boxA 1 rfl rfl rfl ?_)
 refine at_op rfl (n_alloc 2 rfl ti23 rfl rfl ?_)
 refine s1 ((y_p rfl).v (v' := .i .i64 0) rfl) rfl ?_
 refine at_nil <| x_tn <| at_seq ?_
 rcases tfC (chkC c) with hcs | hcs
 ·skip
  refine at_region <| s1 (y_loadA0 ti27 rfl rfl (cas_len hx)) rfl ?_
  refine at_op rfl (n_call false rfl (.cons (.pure pu) (.nil)) (Con.cast (cencC_ok c hx hn) (encCA_n hcs)) pu (.inl rfl) rfl ?_)
  refine s1 (y_p rfl) rfl <| s1 (y_p rfl) rfl <| s1 (y_p rfl) rfl <| s1 (y_p rfl) rfl <| s1 (y_p rfl) rfl ?_
  refine at_nil <| x_tn <| at_seq <| at_seq <| at_region <| s1 (y_p rfl) rfl <| s1 ((y_p rfl).v (v' := .b true) (rfl)) rfl ?_
  refine at_nil <| x_tn ?_
  refine at_then rfl ?_
  refine at_seq <| at_region <| s1 (y_loadA0 ti23 rfl rfl rfl) rfl <| s1 (y_p rfl) rfl ?_
  refine at_op rfl (n_storeA ti23 rfl rfl rfl (by first | rfl | omega | (simp <;> omega) | (simp [*] <;> omega)) (by first | rfl | omega | (simp <;> omega) | (simp [*] <;> omega)) ?_)
  refine s1 (y_p rfl) rfl ?_
  refine at_nil <| x_tn <| at_ret <| x_tr ?_
  refine at_result (rs := [.cell 2 23, .tmp 3]) rfl (r_cellA ti23 rfl rfl rfl rfl (r_tmp rfl r_nil)) ?_
  exact (digCA_n hcs).symm
 ·have hel := enc_cas hcs hx
  refine at_region <| s1 (y_loadA0 ti27 rfl rfl (cas_len hx)) rfl ?_
  refine at_op rfl (n_call false rfl (.cons (.pure pu) (.nil)) (Con.cast (cencC_ok c hx hn) (encCA_y hcs)) pu (.inl rfl) rfl ?_)
  refine s1 (y_p rfl) rfl <| s1 (y_p rfl) rfl <| s1 (y_p rfl) rfl <| s1 (y_p rfl) rfl <| s1 (y_p rfl) rfl ?_
  refine at_nil <| x_tn <| at_seq <| at_seq <| at_region <| s1 (y_p rfl) rfl <| s1 ((y_p rfl).v (v' := .b false) (rfl)) rfl ?_
  refine at_nil <| x_tn ?_
  refine at_else rfl ?_
  refine at_skip <| x_tn <| at_seq <| at_region <| s1 (y_p rfl) rfl ?_
  refine at_op rfl (n_call false rfl (.cons (.pure pu) (.cons (.pure pu) (.nil))) (Con.cast (tagged_ok tagC (casV c).enc (by omega) (by decide)) (congrArg (fun l : List UInt8 => A.ag (l.map u8)) (digC_eq c).symm)) pu (.inl rfl) rfl ?_)
  refine at_op rfl (n_storeA ti23 rfl rfl rfl (by first | rfl | omega | (simp <;> omega) | (simp [*] <;> omega)) (by first | rfl | omega | (simp <;> omega) | (simp [*] <;> omega)) ?_)
  refine s1 ((y_p rfl).v (v' := .i .i64 0) rfl) rfl ?_
  refine at_nil <| x_tn <| at_ret ?_
  refine at_result (rs := [.cell 2 23, .tmp 3]) rfl (r_cellA ti23 rfl rfl (List.take_of_length_le (by simp)) (by simp) (r_tmp rfl r_nil)) ?_
  exact (digCA_y hcs).symm
end Go.Abs.D2
-- C4H
namespace Go.Abs.D2
open Go Go.Eng Go.Abs Go.Proofs 
theorem cparts_ok (k n : Int) (s : List UInt8) (l : List CV) (ks : List Int) (hl : l.length ≤ maxLen) (hk : ks.length ≤ 10) : Con Tryd.prog 74 [.ag [.i .i64 k, .i .i64 n, .s s, .fz l.length (CV.cellsL l)], .fz ks.length (ks.map (A.i .i64))] (Ret (.b (partsB (.mk k n s l) ks))) := by
 refine enter Tryd.func74 rfl Tryd.ntmps74 (by kernel_rfl) (Nat.le_of_ble_eq_true rfl) fun w0 X0 hI => ?_
 refine at_seq <| at_region ?_
 refine at_op rfl (n_boxA 2 rfl rfl rfl ?_)
 refine s1 (y_p rfl) rfl ?_
 refine at_nil <| x_tn <| at_seq <| at_seq ?_
 rcases parts_ways (.mk k n s l) ks with hcs | hcs | hcs
 ·obtain ⟨h1, h2⟩ := hcs
  have h1 : k ≠ 3 := h1
  simp only [maxLen] at hl
  refine at_region <| s1 (y_fld Tryd.underlying71 rfl ti3 (by decide) rfl rfl) rfl <| s1 (y_load ti3 rfl rfl rfl) rfl <| s1 ((y_p rfl).v (v' := .b true) (congrArg A.b (bne_iff_ne.2 h1))) rfl <| s1 (y_p rfl) rfl <| g0 rfl rfl rfl rfl <| g0 rfl rfl rfl rfl <| g0 rfl rfl rfl rfl <| g0 rfl rfl rfl rfl <| g0 rfl rfl rfl rfl <| g0 rfl rfl rfl rfl ?_
  refine s1 (y_p rfl) rfl ?_
  refine at_nil <| x_tn ?_
  refine at_then rfl ?_
  refine at_seq <| at_region <| s1 (y_p rfl) rfl ?_
  refine at_nil <| x_tn <| at_ret <| x_tr ?_
  refine at_result (rs := [.tmp 4]) rfl (r_tmp rfl r_nil) ?_
  exact congrArg A.b h2.symm
 ·obtain ⟨h1, h2, h3⟩ := hcs
  have h1 : k = 3 := h1
  have h2 : l.length ≠ ks.length := h2
  simp only [maxLen] at hl
  refine at_region <| s1 (y_fld Tryd.underlying71 rfl ti3 (by decide) rfl rfl) rfl <| s1 (y_load ti3 rfl rfl rfl) rfl <| s1 ((y_p rfl).v (v' := .b false) (congrArg A.b (by simp [h1]))) rfl <| s1 (y_p rfl) rfl <| g1 rfl rfl (y_fld Tryd.underlying71 rfl ti69 (by decide) rfl rfl) rfl <| g1 rfl rfl (y_load ti69 rfl rfl rfl) rfl <| g1 rfl rfl (y_len Tryd.underlying69 rfl rfl rfl) rfl <| g1 rfl rfl (y_p rfl) rfl <| g1 rfl rfl (y_len Tryd.underlying24 rfl rfl rfl) rfl <| g1 rfl rfl ((y_p rfl).v (v' := .b true) (congrArg A.b (bne_iff_ne.2 (by omega)))) rfl ?_
  refine s1 (y_p rfl) rfl ?_
  refine at_nil <| x_tn ?_
  refine at_then rfl ?_
  refine at_seq <| at_region <| s1 (y_p rfl) rfl ?_
  refine at_nil <| x_tn <| at_ret <| x_tr ?_
  refine at_result (rs := [.tmp 4]) rfl (r_tmp rfl r_nil) ?_
  exact congrArg A.b h3.symm
 ·obtain ⟨h1, h2⟩ := hcs
  obtain rfl : k = 3 := h1
  have h2 : l.length = ks.length := h2
  simp only [maxLen] at hl
  refine at_region <| s1 (y_fld Tryd.underlying71 rfl ti3 (by decide) rfl rfl) rfl <| s1 (y_load ti3 rfl rfl rfl) rfl <| s1 ((y_p rfl).v (v' := .b false) (rfl)) rfl <| s1 (y_p rfl) rfl <| g1 rfl rfl (y_fld Tryd.underlying71 rfl ti69 (by decide) rfl rfl) rfl <| g1 rfl rfl (y_load ti69 rfl rfl rfl) rfl <| g1 rfl rfl (y_len Tryd.underlying69 rfl rfl rfl) rfl <| g1 rfl rfl (y_p rfl) rfl <| g1 rfl rfl (y_len Tryd.underlying24 rfl rfl rfl) rfl <| g1 rfl rfl ((y_p rfl).v (v' := .b false) (congrArg A.b (by simp [h2]))) rfl ?_
  refine s1 (y_p rfl) rfl ?_
  refine at_nil <| x_tn ?_
  refine at_else rfl ?_
  refine at_skip <| x_tn <| at_seq <| at_seq <| at_region <| s1 (y_p rfl) rfl <| s1 (y_len Tryd.underlying24 rfl rfl rfl) rfl <| s1 ((y_p rfl).v (v' := .i .i64 0) rfl) rfl ?_
  refine at_nil <| x_tn <| at_block ?_
  refine at_loop (ι := Nat) (fun i => [(2, .p 2 0), (18, .fz ks.length (ks.map (A.i .i64))), (19, nJ ks.length), (20, nJ i)]) (fun i => ⟨[(2, some ([.i .i64 3, .i .i64 n, .s s, .fz l.length (CV.cellsL l)]))]⟩) (fun i => i ≤ ks.length ∧ (l.take i).map CV.kd = ks.take i) (fun i => ks.length - i) ?_ ?_
  ·exact at_ex (0) (⟨Nat.zero_le _, rfl⟩) [(2, some 2)] hI rfl rfl ⟨⟨_, rfl, .p rfl⟩, ⟨_, rfl, .pure pu⟩, ⟨_, rfl, .pure pu⟩, ⟨_, rfl, .pure pu⟩, trivial⟩ ⟨.inr ⟨_, _, rfl, rfl, .pure pul⟩, trivial⟩
  rintro i ⟨hi, hi2⟩
  refine at_seq <| at_region <| s1 (y_p rfl) rfl ?_
  refine at_nil <| x_tn <| at_seq ?_
  refine at_cond rfl (fun hc21 => ?_) (fun hc21 => ?_)
  ·have h21 : i < ks.length := by have := of_decide_eq_true hc21; omega
   obtain ⟨q, hq⟩ : ∃ q, ks[i]? = some q := ⟨_, List.getElem?_eq_getElem h21⟩
   obtain ⟨v, hv⟩ : ∃ v, l[i]? = some v := ⟨_, List.getElem?_eq_getElem (by omega)⟩
   refine at_skip <| x_tn <| at_seq <| at_block <| at_seq <| at_region <| s1 (y_p rfl) rfl <| s1 (y_ixf i Tryd.underlying24 ti3 rfl rfl rfl (by omega) rfl) rfl <| s1 (y_load ti3 rfl rfl (getI4 hq)) rfl <| s1 (y_p rfl) rfl <| s1 (y_p rfl) rfl ?_
   refine at_nil <| x_tn <| at_seq <| at_region <| s1 (y_fld Tryd.underlying71 rfl ti69 (by decide) rfl rfl) rfl <| s1 (y_load ti69 rfl rfl rfl) rfl <| s1 (y_p rfl) rfl <| s1 (y_ixf i Tryd.underlying69 ti71 rfl rfl rfl (by omega) rfl) rfl <| s1 (y_fldf Tryd.underlying71 rfl ti3 (by decide) rfl rfl) rfl <| s1 (y_load ti3 rfl rfl (get_kd hv)) rfl <| s1 (y_p rfl) rfl <| s1 (y_p rfl) rfl ?_
   refine at_nil <| x_tn ?_
   refine at_cond rfl (fun hc32 => ?_) (fun hc32 => ?_)
   ·have h32 : v.kd ≠ q := by simpa using hc32
    refine at_seq <| at_region <| s1 (y_p rfl) rfl ?_
    refine at_nil <| x_tn <| at_ret <| x_br <| x_tr <| x_tr <| x_br <| x_tr ?_
    refine at_result (rs := [.tmp 4]) rfl (r_tmp rfl r_nil) ?_
    exact congrArg A.b (parts_no hv hq h32).symm
   ·have h32 : v.kd = q := by simpa using hc32
    refine at_skip <| x_bn <| x_tn <| at_region <| s1 (addN _ 1 rfl rfl rfl rfl (by omega)) rfl <| s1 (y_p rfl) rfl ?_
    refine at_nil ?_
    exact at_end (i + 1) (⟨by omega, kd_next hi2 hv hq h32⟩) (by omega) [(2, some 2)] hI rfl rfl ⟨⟨_, rfl, .p rfl⟩, ⟨_, rfl, .pure pu⟩, ⟨_, rfl, .pure pu⟩, ⟨_, rfl, .pure pu⟩, trivial⟩ ⟨.inr ⟨_, _, rfl, rfl, .pure pul⟩, trivial⟩
  ·obtain rfl : i = ks.length := by have := of_decide_eq_false hc21; omega
   refine at_exit <| x_te <| x_te <| x_be <| x_tn <| at_seq <| at_region <| s1 (y_p rfl) rfl ?_
   refine at_nil <| x_tn <| at_ret ?_
   refine at_result (rs := [.tmp 4]) rfl (r_tmp rfl r_nil) ?_
   exact congrArg A.b (parts_yes hi2 h2).symm
theorem cread_ok (k n : Int) (s : List UInt8) (l : List CV) (hsz : (CV.mk k n s l).size ≤ 1000000) (hel : (CV.mk k n s l).enc.length ≤ 1000000) : Con Tryd.prog 53 [.ag [.i .i64 k, .i .i64 n, .s s, .fz l.length (CV.cellsL l)]] (Ret (readVA (.mk k n s l))) := by
 refine enter Tryd.func53 rfl Tryd.ntmps53 (by kernel_rfl) (Nat.le_of_ble_eq_true rfl) fun w0 X0 hI => ?_
 refine at_seq <| at_region ?_
 refine at_op rfl (n_boxA 1 rfl rfl rfl ?_)
 refine at_op rfl (n_alloc 2 rfl ti27 rfl rfl ?_)
 refine s1 (y_p rfl) rfl ?_
 refine at_nil <| x_tn <| at_seq <| at_seq ?_
 rcases read_ways3 (.mk k n s l) with hcs | hcs | hcs
 ·have hp := hcs
  have hlz := CV.len_sizeL l
  simp only [CV.size] at hsz
  refine at_region <| s1 (y_loadA0 ti71 rfl rfl rfl) rfl ?_
  refine at_op rfl (n_bs1 9 rfl Tryd.underlying24 ti3 rfl rfl rfl rfl rfl ?_)
  refine at_op rfl (n_call true rfl (.cons (.pure pu) (.cons (.sl rfl rfl (by first | rfl | omega | (simp <;> omega) | (simp [*] <;> omega)) (view_eq (by first | rfl | omega | (simp <;> omega) | (simp [*] <;> omega)) (by first | rfl | (simp; done) | (simp [*]; done))) (VwL.pure pul) pul) (.nil))) (Con.cast (cparts_ok (k) (n) (s) (l) [2, 3, 3] (by simp only [maxLen]; omega) (by decide)) (congrArg A.b hp)) pu (.inr fu) rfl ?_)
  refine s1 (y_p rfl) rfl <| s1 (y_p rfl) rfl <| g0 rfl rfl rfl rfl <| g0 rfl rfl rfl rfl <| g0 rfl rfl rfl rfl <| g0 rfl rfl rfl rfl <| g0 rfl rfl rfl rfl <| g0 rfl rfl rfl rfl <| g0 rfl rfl rfl rfl <| s1 (y_p rfl) rfl ?_
  refine at_nil <| x_tn ?_
  refine at_then rfl ?_
  refine at_seq <| at_region <| s1 (y_loadA0 ti27 rfl rfl rfl) rfl ?_
  refine at_op rfl (n_storeA ti27 rfl rfl rfl (by first | rfl | omega | (simp <;> omega) | (simp [*] <;> omega)) (by first | rfl | omega | (simp <;> omega) | (simp [*] <;> omega)) ?_)
  refine s1 (y_p rfl) rfl ?_
  refine at_nil <| x_tn <| at_ret <| x_tr ?_
  refine at_result (rs := [.cell 2 27, .tmp 3]) rfl (r_cellA ti27 rfl rfl rfl rfl (r_tmp rfl r_nil)) ?_
  exact (readVA_n (readB_parts hp)).symm
 ·obtain ⟨n', s', na, sa, la, nb, sb, lb, nc, sc, lc, hv, hx⟩ := hcs
  simp only [CV.mk.injEq] at hv
  obtain ⟨rfl, rfl, rfl, rfl⟩ := hv
  have hlb := CV.len_sizeL lb
  have hlc := CV.len_sizeL lc
  simp only [CV.sizeL, CV.size] at hsz
  refine at_region <| s1 (y_loadA0 ti71 rfl rfl rfl) rfl ?_
  refine at_op rfl (n_bs1 9 rfl Tryd.underlying24 ti3 rfl rfl rfl rfl rfl ?_)
  refine at_op rfl (n_call true rfl (.cons (.pure pu) (.cons (.sl rfl rfl (by first | rfl | omega | (simp <;> omega) | (simp [*] <;> omega)) (view_eq (by first | rfl | omega | (simp <;> omega) | (simp [*] <;> omega)) (by first | rfl | (simp; done) | (simp [*]; done))) (VwL.pure pul) pul) (.nil))) (Con.cast (cparts_ok (3) (n) (s) ([.mk 2 na sa la, .mk 3 nb sb lb, .mk 3 nc sc lc]) [2, 3, 3] (by simp only [maxLen]; simp) (by decide)) (congrArg A.b (show partsB _ _ = true from rfl))) pu (.inr fu) rfl ?_)
  refine s1 (y_p rfl) rfl <| s1 (y_p rfl) rfl <| g1 rfl rfl (y_fld Tryd.underlying71 rfl ti69 (by decide) rfl rfl) rfl <| g1 rfl rfl (y_load ti69 rfl rfl rfl) rfl <| g1 rfl rfl (y_ixf 0 Tryd.underlying69 ti71 rfl rfl rfl (Nat.le_of_ble_eq_true rfl) rfl) rfl <| g1 rfl rfl (y_fldf Tryd.underlying71 rfl ti9 (by decide) rfl rfl) rfl <| g1 rfl rfl (y_load ti9 rfl rfl rfl) rfl <| g1 rfl rfl (y_lens Tryd.underlying9 rfl rfl) rfl <| g1 rfl rfl ((y_p rfl).v (v' := .b true) (congrArg A.b (bne_iff_ne.2 (by omega)))) rfl <| s1 (y_p rfl) rfl ?_
  refine at_nil <| x_tn ?_
  refine at_then rfl ?_
  refine at_seq <| at_region <| s1 (y_loadA0 ti27 rfl rfl rfl) rfl ?_
  refine at_op rfl (n_storeA ti27 rfl rfl rfl (by first | rfl | omega | (simp <;> omega) | (simp [*] <;> omega)) (by first | rfl | omega | (simp <;> omega) | (simp [*] <;> omega)) ?_)
  refine s1 (y_p rfl) rfl ?_
  refine at_nil <| x_tn <| at_ret <| x_tr ?_
  refine at_result (rs := [.cell 2 27, .tmp 3]) rfl (r_cellA ti27 rfl rfl rfl rfl (r_tmp rfl r_nil)) ?_
  exact (readVA_n (readB_len hx)).symm
 ·obtain ⟨n', s', na, sa, la, nb, sb, lb, nc, sc, lc, hv, hx⟩ := hcs
  simp only [CV.mk.injEq] at hv
  obtain ⟨rfl, rfl, rfl, rfl⟩ := hv
  have hlb := CV.len_sizeL lb
  have hlc := CV.len_sizeL lc
  simp only [CV.sizeL, CV.size] at hsz
  refine at_region <| s1 (y_loadA0 ti71 rfl rfl rfl) rfl ?_
  refine at_op rfl (n_bs1 9 rfl Tryd.underlying24 ti3 rfl rfl rfl rfl rfl ?_)
  refine at_op rfl (n_call true rfl (.cons (.pure pu) (.cons (.sl rfl rfl (by first | rfl | omega | (simp <;> omega) | (simp [*] <;> omega)) (view_eq (by first | rfl | omega | (simp <;> omega) | (simp [*] <;> omega)) (by first | rfl | (simp; done) | (simp [*]; done))) (VwL.pure pul) pul) (.nil))) (Con.cast (cparts_ok (3) (n) (s) ([.mk 2 na sa la, .mk 3 nb sb lb, .mk 3 nc sc lc]) [2, 3, 3] (by simp only [maxLen]; simp) (by decide)) (congrArg A.b (show partsB _ _ = true from rfl))) pu (.inr fu) rfl ?_)
  refine s1 (y_p rfl) rfl <| s1 (y_p rfl) rfl <| g1 rfl rfl (y_fld Tryd.underlying71 rfl ti69 (by decide) rfl rfl) rfl <| g1 rfl rfl (y_load ti69 rfl rfl rfl) rfl <| g1 rfl rfl (y_ixf 0 Tryd.underlying69 ti71 rfl rfl rfl (Nat.le_of_ble_eq_true rfl) rfl) rfl <| g1 rfl rfl (y_fldf Tryd.underlying71 rfl ti9 (by decide) rfl rfl) rfl <| g1 rfl rfl (y_load ti9 rfl rfl rfl) rfl <| g1 rfl rfl (y_lens Tryd.underlying9 rfl rfl) rfl <| g1 rfl rfl ((y_p rfl).v (v' := .b false) (congrArg A.b (by simp [hx]))) rfl <| s1 (y_p rfl) rfl ?_
  refine at_nil <| x_tn ?_
  refine at_else rfl ?_
  refine at_skip <| x_tn <| at_seq ?_
  refine at_draw_tail 7 hmix (by kernel_rfl) ?_
  refine t1 (y_fld Tryd.underlying27 rfl ti23 (by decide) rfl rfl) rfl <| t1 (y_cuta0 Tryd.underlying23 ti5 rfl rfl (by simp) (by simp [maxLen])) rfl <| t1 (y_fld Tryd.underlying71 rfl ti69 (by decide) rfl rfl) rfl <| t1 (y_load ti69 rfl rfl rfl) rfl <| t1 (y_ixf 0 Tryd.underlying69 ti71 rfl rfl rfl (Nat.le_of_ble_eq_true rfl) rfl) rfl <| t1 (y_fldf Tryd.underlying71 rfl ti9 (by decide) rfl rfl) rfl <| t1 (y_load ti9 rfl rfl rfl) rfl ?_
  refine at_snil ?_
  refine at_op rfl (n_copyS Tryd.underlying40 ti5 rfl rfl rfl (by decide) (by omega) (by simp; omega) (casN_copy hx) rfl ?_)
  refine at_nil <| x_tn <| at_seq <| at_seq <| at_region <| s1 (y_fld Tryd.underlying71 rfl ti69 (by decide) rfl rfl) rfl <| s1 (y_load ti69 rfl rfl rfl) rfl <| s1 (y_ixf 1 Tryd.underlying69 ti71 rfl rfl rfl (Nat.le_of_ble_eq_true rfl) rfl) rfl <| s1 (y_fldf Tryd.underlying71 rfl ti69 (by decide) rfl rfl) rfl <| s1 (y_load ti69 rfl rfl rfl) rfl <| s1 (y_len Tryd.underlying69 rfl rfl rfl) rfl <| s1 ((y_p rfl).v (v' := .i .i64 0) rfl) rfl ?_
  refine at_nil <| x_tn <| at_block ?_
  refine at_loop (ι := Nat) (fun i => [(1, .p 1 0), (2, .p 2 0), (34, .fz lb.length (CV.cellsL lb)), (35, nJ lb.length), (36, nJ i)]) (fun i => ⟨[(1, some ([.i .i64 3, .i .i64 n, .s s, .fz 3 (CV.cellsL [.mk 2 na sa la, .mk 3 nb sb lb, .mk 3 nc sc lc])])), (2, some (sa.map u8 ++ [.sl 162 3 0 i, .nl])), (162, some ((filsR (lb.take i)).flatMap filC))]⟩) (fun i => i ≤ lb.length ∧ (lb.take i).all (fun e => partsB e [1, 2]) = true) (fun i => lb.length - i) ?_ ?_
  ·exact at_ex (0) (⟨Nat.zero_le _, rfl⟩) [(1, some 1), (2, some 2), (162, none)] hI rfl rfl ⟨⟨_, rfl, .p rfl⟩, ⟨_, rfl, .p rfl⟩, ⟨_, rfl, .pure pu⟩, ⟨_, rfl, .pure pu⟩, ⟨_, rfl, .pure pu⟩, trivial⟩ ⟨.inr ⟨_, _, rfl, rfl, .pure pul⟩, .inr ⟨_, _, rfl, rfl, .app (.pure pul) (.cons (.nl rfl) (.cons (.pure pu) .nil))⟩, .inl ⟨rfl, rfl⟩, trivial⟩
  rintro i ⟨hi, hi2⟩
  have hfl := flat_filsR (lb.take i)
  rw [List.length_take] at hfl
  refine at_seq <| at_region <| s1 (y_p rfl) rfl ?_
  refine at_nil <| x_tn <| at_seq ?_
  refine at_cond rfl (fun hc37 => ?_) (fun hc37 => ?_)
  ·have h37 : i < lb.length := by have := of_decide_eq_true hc37; omega
   obtain ⟨v, hv⟩ : ∃ v, lb[i]? = some v := ⟨_, List.getElem?_eq_getElem h37⟩
   have hvm := CV.size_mem (List.mem_of_getElem? hv)
   obtain ⟨kv, nv, sv, lv⟩ := v
   have hvl := CV.len_sizeL lv
   simp only [CV.size] at hvm
   refine at_skip <| x_tn <| at_seq <| at_block <| at_seq ?_
   rcases tfC (partsB (.mk kv nv sv lv) [1, 2]) with hcs | hcs
   ·skip
    refine at_region <| s1 (y_p rfl) rfl <| s1 (y_ixf i Tryd.underlying69 ti71 rfl rfl rfl (by omega) rfl) rfl <| s1 (y_loadA ti71 rfl rfl (CV.get4 hv) rfl) rfl ?_
    refine at_op rfl (n_alloc 5 rfl ti71 rfl rfl ?_)
    refine s1 (y_p rfl) rfl ?_
    refine at_op rfl (n_storeA ti71 rfl rfl rfl (by first | rfl | omega | (simp <;> omega) | (simp [*] <;> omega)) (by first | rfl | omega | (simp <;> omega) | (simp [*] <;> omega)) ?_)
    refine at_nil <| x_tn <| at_seq <| at_seq <| at_region <| s1 (y_loadA0 ti71 rfl rfl rfl) rfl ?_
    refine at_op rfl (n_bs1 42 rfl Tryd.underlying24 ti3 rfl rfl rfl rfl rfl ?_)
    refine at_op rfl (n_call true rfl (.cons (.pure pu) (.cons (.sl rfl rfl (by first | rfl | omega | (simp <;> omega) | (simp [*] <;> omega)) (view_eq (by first | rfl | omega | (simp <;> omega) | (simp [*] <;> omega)) (by first | rfl | (simp; done) | (simp [*]; done))) (VwL.pure pul) pul) (.nil))) (Con.cast (cparts_ok (kv) (nv) (sv) (lv) [1, 2] (by simp only [maxLen]; omega) (by decide)) (congrArg A.b hcs)) pu (.inr fu) rfl ?_)
    refine s1 ((y_p rfl).v (v' := .b true) (rfl)) rfl ?_
    refine at_nil <| x_tn ?_
    refine at_then rfl ?_
    refine at_seq <| at_region <| s1 (y_bld (out := _) [(List.replicate 32 (.int .u8 0)).map evC, [evC (.slice none 0 0)], [evC (.slice none 0 0)]] ti27 rfl Tryd.underlying27 (by kernel_rfl) rfl rfl trivial rfl) rfl ?_
    refine at_op rfl (n_storeA ti27 rfl rfl rfl (by first | rfl | omega | (simp <;> omega) | (simp [*] <;> omega)) (by first | rfl | omega | (simp <;> omega) | (simp [*] <;> omega)) ?_)
    refine s1 (y_p rfl) rfl ?_
    refine at_nil <| x_tn <| at_ret <| x_tr <| x_br <| x_tr <| x_tr <| x_br <| x_tr ?_
    refine at_result (rs := [.cell 2 27, .tmp 3]) rfl (r_cellA ti27 rfl rfl rfl rfl (r_tmp rfl r_nil)) ?_
    exact (readVA_n (readB_fil hv hcs)).symm
   ·obtain ⟨n1, s1, na1, sa1, la1, nb1, sb1, lb1, hw⟩ := parts2_mk hcs
    simp only [CV.mk.injEq] at hw
    obtain ⟨rfl, rfl, rfl, rfl⟩ := hw
    have hsb := txt_small hel hv
    refine at_region <| s1 (y_p rfl) rfl <| s1 (y_ixf i Tryd.underlying69 ti71 rfl rfl rfl (by omega) rfl) rfl <| s1 (y_loadA ti71 rfl rfl (CV.get4 hv) rfl) rfl ?_
    refine at_op rfl (n_alloc 5 rfl ti71 rfl rfl ?_)
    refine s1 (y_p rfl) rfl ?_
    refine at_op rfl (n_storeA ti71 rfl rfl rfl (by first | rfl | omega | (simp <;> omega) | (simp [*] <;> omega)) (by first | rfl | omega | (simp <;> omega) | (simp [*] <;> omega)) ?_)
    refine at_nil <| x_tn <| at_seq <| at_seq <| at_region <| s1 (y_loadA0 ti71 rfl rfl rfl) rfl ?_
    refine at_op rfl (n_bs1 42 rfl Tryd.underlying24 ti3 rfl rfl rfl rfl rfl ?_)
    refine at_op rfl (n_call true rfl (.cons (.pure pu) (.cons (.sl rfl rfl (by first | rfl | omega | (simp <;> omega) | (simp [*] <;> omega)) (view_eq (by first | rfl | omega | (simp <;> omega) | (simp [*] <;> omega)) (by first | rfl | (simp; done) | (simp [*]; done))) (VwL.pure pul) pul) (.nil))) (Con.cast (cparts_ok (3) (nv) (sv) ([.mk 1 na1 sa1 la1, .mk 2 nb1 sb1 lb1]) [1, 2] (by simp only [maxLen]; simp) (by decide)) (congrArg A.b (show partsB _ _ = true from rfl))) pu (.inr fu) rfl ?_)
    refine s1 ((y_p rfl).v (v' := .b false) (rfl)) rfl ?_
    refine at_nil <| x_tn ?_
    refine at_else rfl ?_
    refine at_skip <| x_tn ?_
    refine at_fs ⟨_, [], []⟩ 18 4 hmix (le_refl rfl) ?_
    refine fs_q 0 [] [(2, none)] (y_fld Tryd.underlying27 rfl ti25 (by decide) rfl rfl) rfl rfl ?_
    refine fs_q 1 [0] [(2, none)] (y_load ti25 rfl rfl (congrArg (fun l => l[0]?) (tail_get hx _))) rfl rfl ?_
    refine fs_q 2 [] [] (y_p rfl) rfl rfl ?_
    refine fs_q 3 [] [(5, none)] (y_fld Tryd.underlying71 rfl ti69 (by decide) rfl rfl) rfl rfl ?_
    refine fs_q 4 [3] [(5, none)] (y_load ti69 rfl rfl rfl) rfl rfl ?_
    refine fs_q 5 [4] [] (y_ixf 0 Tryd.underlying69 ti71 rfl rfl rfl (Nat.le_of_ble_eq_true rfl) rfl) rfl rfl ?_
    refine fs_q 6 [5] [] (y_fldf Tryd.underlying71 rfl ti3 (by decide) rfl rfl) rfl rfl ?_
    refine fs_q 7 [6] [] (y_load ti3 rfl rfl rfl) rfl rfl ?_
    refine fs_q 8 [] [(5, none)] (y_fld Tryd.underlying71 rfl ti69 (by decide) rfl rfl) rfl rfl ?_
    refine fs_q 9 [8] [(5, none)] (y_load ti69 rfl rfl rfl) rfl rfl ?_
    refine fs_q 10 [9] [] (y_ixf 1 Tryd.underlying69 ti71 rfl rfl rfl (Nat.le_of_ble_eq_true rfl) rfl) rfl rfl ?_
    refine fs_q 11 [10] [] (y_fldf Tryd.underlying71 rfl ti9 (by decide) rfl rfl) rfl rfl ?_
    refine fs_q 12 [11] [] (y_load ti9 rfl rfl rfl) rfl rfl ?_
    refine fs_s2b 13 [12] [] gy0 Tryd.underlying9 Tryd.underlying40 Tryd.underlying5 rfl (by first | omega | (simp only [maxLen]; omega) | (simp [maxLen]; done) | (simp [maxLen]; omega) | (simp [maxLen, *]; omega)) rfl rfl ?_
    refine fs_q 14 [2, 7, 13] [] (y_bld (out := [_, _, _]) [[evC (.int .i64 0)], [evC (.int .i64 0)], [evC (.slice none 0 0)]] ti50 rfl Tryd.underlying50 (by kernel_rfl) rfl rfl ⟨⟨by (first | rfl | omega | (simp; done) | (simp [*]; done) | (simp [cellsA, *]; done)), rfl⟩, ⟨⟨by (first | rfl | omega | (simp; done) | (simp [*]; done) | (simp [cellsA, *]; done)), rfl⟩, ⟨⟨by (first | rfl | omega | (simp; done) | (simp [*]; done) | (simp [cellsA, *]; done)), rfl⟩, trivial⟩⟩⟩ rfl) rfl rfl ?_
    refine fs_bs 61 15 [14] gy0 Tryd.underlying25 ti50 rfl rfl rfl (by simp [cellsA]) (show _ = filC (filR i (.mk 3 nv sv [.mk 1 na1 sa1 la1, .mk 2 nb1 sb1 lb1])) from List.append_nil _) rfl rfl rfl rfl ?_
    refine fs_app 62 16 [1, 15] [(61, some 15), (162, none)] gy0 Tryd.underlying25 ti50 rfl (.sl rfl (by rw [hfl, Nat.min_eq_left hi])) rfl (SM_full rfl (by first | rfl | omega | (simp <;> omega) | (simp [*] <;> omega))) (by simp) (by simp only [maxLen]; omega) (by omega) rfl rfl rfl rfl ?_
    refine fs_q 17 [] [(2, none)] (y_fld Tryd.underlying27 rfl ti25 (by decide) rfl rfl) rfl rfl ?_
    refine fs_end (by kernel_rfl) ?_
    refine at_op rfl (n_store1 ti25 rfl rfl rfl rfl (by simp [hx]) (tail_set hx _ _ _) ?_)
    refine at_nil <| x_bn <| x_tn <| at_region <| s1 (addN _ 1 rfl rfl rfl rfl (by omega)) rfl <| s1 (y_p rfl) rfl ?_
    refine at_nil ?_
    exact at_end (i + 1) (⟨by omega, all_nextK hv hi2 rfl⟩) (by omega) [(1, some 1), (2, some 2), (162, some 62)] hI rfl rfl ⟨⟨_, rfl, .p rfl⟩, ⟨_, rfl, .p rfl⟩, ⟨_, rfl, .pure pu⟩, ⟨_, rfl, .pure pu⟩, ⟨_, rfl, .pure pu⟩, trivial⟩ ⟨.inr ⟨_, _, rfl, rfl, .pure pul⟩, .inr ⟨_, _, rfl, rfl, .app (.pure pul) (.cons (.sl rfl (by simp)) (.cons (.pure pu) .nil))⟩, .inr ⟨_, _, rfl, rfl, .of (filsR_flat hv) (.pure pul)⟩, trivial⟩
  ·obtain rfl : i = lb.length := by have := of_decide_eq_false hc37; omega
   refine at_exit <| x_te <| x_te <| x_be <| x_tn <| at_seq <| at_seq ?_
   refine at_sayO 162 (cs' := (filsR lb).flatMap filC) rfl (by rw [List.take_length]) ?_
   refine at_region <| s1 (y_fld Tryd.underlying71 rfl ti69 (by decide) rfl rfl) rfl <| s1 (y_load ti69 rfl rfl rfl) rfl <| s1 (y_ixf 2 Tryd.underlying69 ti71 rfl rfl rfl (Nat.le_of_ble_eq_true rfl) rfl) rfl <| s1 (y_fldf Tryd.underlying71 rfl ti69 (by decide) rfl rfl) rfl <| s1 (y_load ti69 rfl rfl rfl) rfl <| s1 (y_len Tryd.underlying69 rfl rfl rfl) rfl <| s1 ((y_p rfl).v (v' := .i .i64 0) rfl) rfl ?_
   refine at_nil <| x_tn <| at_block ?_
   refine at_loop (ι := Nat) (fun j => [(2, .p 2 0), (69, .fz lc.length (CV.cellsL lc)), (70, nJ lc.length), (71, nJ j)]) (fun j => ⟨[(2, some (sa.map u8 ++ [.sl 162 3 0 lb.length, .sl 184 1 0 j])), (162, some ((filsR lb).flatMap filC)), (184, some (((lc.take j).map CV.nm).map iA))]⟩) (fun j => j ≤ lc.length ∧ (lc.take j).all (fun e => decide (e.kd = 1)) = true) (fun j => lc.length - j) ?_ ?_
   ·exact at_ex (0) (⟨Nat.zero_le _, rfl⟩) [(2, some 2), (162, some 162), (184, none)] hI rfl rfl ⟨⟨_, rfl, .p rfl⟩, ⟨_, rfl, .pure pu⟩, ⟨_, rfl, .pure pu⟩, ⟨_, rfl, .pure pu⟩, trivial⟩ ⟨.inr ⟨_, _, rfl, rfl, .app (.pure pul) (.cons (.sl rfl (by simp)) (.cons (.nl rfl) .nil))⟩, .inr ⟨_, _, rfl, rfl, .pure pul⟩, .inl ⟨rfl, rfl⟩, trivial⟩
   rintro j ⟨hj, hj2⟩
   refine at_seq <| at_region <| s1 (y_p rfl) rfl ?_
   refine at_nil <| x_tn <| at_seq ?_
   refine at_cond rfl (fun hc72 => ?_) (fun hc72 => ?_)
   ·have h72 : j < lc.length := by have := of_decide_eq_true hc72; omega
    obtain ⟨v, hv⟩ : ∃ v, lc[j]? = some v := ⟨_, List.getElem?_eq_getElem h72⟩
    obtain ⟨kv, nv, sv, lv⟩ := v
    refine at_skip <| x_tn <| at_seq <| at_block <| at_seq <| at_region <| s1 (y_ixf j Tryd.underlying69 ti71 rfl rfl rfl (by omega) rfl) rfl <| s1 (y_loadA ti71 rfl rfl (CV.get4 hv) rfl) rfl ?_
    refine at_op rfl (n_alloc 7 rfl ti71 rfl rfl ?_)
    refine at_op rfl (n_storeA ti71 rfl rfl rfl (by first | rfl | omega | (simp <;> omega) | (simp [*] <;> omega)) (by first | rfl | omega | (simp <;> omega) | (simp [*] <;> omega)) ?_)
    refine at_nil <| x_tn <| at_seq <| at_seq <| at_region <| s1 (y_fld Tryd.underlying71 rfl ti3 (by decide) rfl rfl) rfl <| s1 (y_load ti3 rfl rfl rfl) rfl <| s1 (y_p rfl) rfl ?_
    refine at_nil <| x_tn ?_
    refine at_cond rfl (fun hc77 => ?_) (fun hc77 => ?_)
    ·have h77 : kv ≠ 1 := by simpa using hc77
     refine at_seq <| at_region <| s1 (y_bld (out := _) [(List.replicate 32 (.int .u8 0)).map evC, [evC (.slice none 0 0)], [evC (.slice none 0 0)]] ti27 rfl Tryd.underlying27 (by kernel_rfl) rfl rfl trivial rfl) rfl ?_
     refine at_op rfl (n_storeA ti27 rfl rfl rfl (by first | rfl | omega | (simp <;> omega) | (simp [*] <;> omega)) (by first | rfl | omega | (simp <;> omega) | (simp [*] <;> omega)) ?_)
     refine s1 (y_p rfl) rfl ?_
     refine at_nil <| x_tn <| at_ret <| x_tr <| x_br <| x_tr <| x_tr <| x_br <| x_tr ?_
     refine at_result (rs := [.cell 2 27, .tmp 3]) rfl (r_cellA ti27 rfl rfl rfl rfl (r_tmp rfl r_nil)) ?_
     exact (readVA_n (readB_int hv h77)).symm
    ·have h77 : kv = 1 := by simpa using hc77
     refine at_skip <| x_tn <| at_region <| s1 (y_fld Tryd.underlying27 rfl ti24 (by decide) rfl rfl) rfl <| s1 (y_load ti24 rfl rfl (congrArg (fun l => l[0]?) (tail_get1 hx _ _))) rfl <| s1 (y_fld Tryd.underlying71 rfl ti3 (by decide) rfl rfl) rfl <| s1 (y_load ti3 rfl rfl rfl) rfl ?_
     refine at_op rfl (n_bs1 83 rfl Tryd.underlying24 ti3 rfl rfl rfl rfl rfl ?_)
     refine at_op rfl (n_app 84 rfl Tryd.underlying24 ti3 rfl (.sl rfl (by simp; omega)) rfl (SM_full rfl (by first | rfl | omega | (simp <;> omega) | (simp [*] <;> omega))) (by simp) (by simp only [maxLen]; omega) (by omega) rfl (nms_next hv) rfl ?_)
     refine s1 (y_fld Tryd.underlying27 rfl ti24 (by decide) rfl rfl) rfl ?_
     refine at_op rfl (n_store1 ti24 rfl rfl rfl rfl (by simp [hx]) (tail_set1 hx _ _ _) ?_)
     refine at_nil <| x_bn <| x_tn <| at_region <| s1 (addN _ 1 rfl rfl rfl rfl (by omega)) rfl <| s1 (y_p rfl) rfl ?_
     refine at_nil ?_
     exact at_end (j + 1) (⟨by omega, all_nextK hv hj2 (decide_eq_true h77)⟩) (by omega) [(2, some 2), (162, some 162), (184, some 84)] hI rfl rfl ⟨⟨_, rfl, .p rfl⟩, ⟨_, rfl, .pure pu⟩, ⟨_, rfl, .pure pu⟩, ⟨_, rfl, .pure pu⟩, trivial⟩ ⟨.inr ⟨_, _, rfl, rfl, .app (.pure pul) (.cons (.sl rfl (by simp)) (.cons (.sl rfl (by simp)) .nil))⟩, .inr ⟨_, _, rfl, rfl, .pure pul⟩, .inr ⟨_, _, rfl, rfl, .pure pul⟩, trivial⟩
   ·obtain rfl : j = lc.length := by have := of_decide_eq_false hc72; omega
    refine at_exit <| x_te <| x_te <| x_be <| x_tn <| at_seq ?_
    refine at_sayO 184 (cs' := (lc.map CV.nm).map iA) rfl (by rw [List.take_length]) ?_
    refine at_frzO 2 32 rfl (by rw [List.getElem?_append_right (by simp [hx]), List.length_map, hx]; rfl) rfl rfl pul (view_eq (by rw [flat_filsR]) rfl) (tail_set hx _ _ _) ?_
    refine at_frzO 2 33 rfl (by rw [List.getElem?_append_right (by simp [hx]), List.length_map, hx]; rfl) rfl rfl pul (view_eq (by simp) rfl) (tail_set1 hx _ _ _) ?_
    refine at_region <| s1 (y_loadA0 ti27 rfl rfl (by simp [hx])) rfl ?_
    refine at_op rfl (n_storeA ti27 rfl rfl rfl (by simp [hx]) (by simp [hx]) ?_)
    refine s1 (y_p rfl) rfl ?_
    refine at_nil <| x_tn <| at_ret ?_
    refine at_result (rs := [.cell 2 27, .tmp 3]) rfl (r_cellA ti27 rfl rfl (List.take_of_length_le (by simp [hx])) (by simp [hx]) (r_tmp rfl r_nil)) ?_
    rw [readVA_y (readB_yes hx hi2 hj2), read_cells hx]
    rfl
end Go.Abs.D2
-- C4I
namespace Go.Abs.D2
open Go Go.Eng Go.Abs Go.Proofs 
theorem cdecC_ok (b : List UInt8) (hb : b.length ≤ 1000000) : Con Tryd.prog 25 [.fz b.length (b.map u8)] (Ret (decCA b)) := by
 refine enter Tryd.func25 rfl Tryd.ntmps25 (by kernel_rfl) (Nat.le_of_ble_eq_true rfl) fun w0 X0 hI => ?_
 refine at_seq <| at_region ?_
 refine at_op rfl (n_alloc 2 rfl ti27 rfl rfl ?_)
 refine s1 ((y_p rfl).v (v' := .i .i64 0) rfl) rfl ?_
 refine at_nil <| x_tn <| at_seq ?_
 rcases decc_ways b with hcs | hcs | hcs | hcs
 ·have hd := hcs
  refine at_region <| s1 (y_p rfl) rfl ?_
  refine at_op rfl (n_call false rfl (.cons (.pure pu) (.nil)) (Con.cast (cdecode_ok b hb) (decA_n hd)) pu (.inl rfl) rfl ?_)
  refine s1 (y_p rfl) rfl <| s1 (y_p rfl) rfl <| s1 (y_p rfl) rfl ?_
  refine at_op rfl (n_alloc 4 rfl ti71 rfl rfl ?_)
  refine at_op rfl (n_storeA ti71 rfl rfl rfl (by first | rfl | omega | (simp <;> omega) | (simp [*] <;> omega)) (by first | rfl | omega | (simp <;> omega) | (simp [*] <;> omega)) ?_)
  refine s1 (y_p rfl) rfl ?_
  refine at_nil <| x_tn <| at_seq <| at_seq <| at_region <| s1 (y_p rfl) rfl <| s1 ((y_p rfl).v (v' := .b true) (rfl)) rfl ?_
  refine at_nil <| x_tn ?_
  refine at_then rfl ?_
  refine at_seq <| at_region <| s1 (y_loadA0 ti27 rfl rfl rfl) rfl <| s1 (y_p rfl) rfl ?_
  refine at_op rfl (n_storeA ti27 rfl rfl rfl (by first | rfl | omega | (simp <;> omega) | (simp [*] <;> omega)) (by first | rfl | omega | (simp <;> omega) | (simp [*] <;> omega)) ?_)
  refine s1 (y_p rfl) rfl ?_
  refine at_nil <| x_tn <| at_ret <| x_tr ?_
  refine at_result (rs := [.cell 2 27, .tmp 3]) rfl (r_cellA ti27 rfl rfl rfl rfl (r_tmp rfl r_nil)) ?_
  exact (decCA_e hd).symm
 ·obtain ⟨k, n, s, l, hd, h1⟩ := hcs
  obtain ⟨henc, hrd⟩ := dec_spec (by omega) hd
  have hsz := CV.size_enc (CV.mk k n s l).size (.mk k n s l) (Nat.le_refl _) hrd.1
  have hel : (CV.mk k n s l).enc.length ≤ 1000000 := by rw [henc]; exact hb
  have hsz2 : (CV.mk k n s l).size ≤ 1000000 := by omega
  refine at_region <| s1 (y_p rfl) rfl ?_
  refine at_op rfl (n_call false rfl (.cons (.pure pu) (.nil)) (Con.cast (cdecode_ok b hb) ((decA_y hd).trans rfl)) pu (.inl rfl) rfl ?_)
  refine s1 (y_p rfl) rfl <| s1 (y_p rfl) rfl <| s1 (y_p rfl) rfl ?_
  refine at_op rfl (n_alloc 4 rfl ti71 rfl rfl ?_)
  refine at_op rfl (n_storeA ti71 rfl rfl rfl (by first | rfl | omega | (simp <;> omega) | (simp [*] <;> omega)) (by first | rfl | omega | (simp <;> omega) | (simp [*] <;> omega)) ?_)
  refine s1 (y_p rfl) rfl ?_
  refine at_nil <| x_tn <| at_seq <| at_seq <| at_region <| s1 (y_p rfl) rfl <| s1 ((y_p rfl).v (v' := .b false) (rfl)) rfl ?_
  refine at_nil <| x_tn ?_
  refine at_else rfl ?_
  refine at_skip <| x_tn <| at_seq <| at_region <| s1 (y_loadA0 ti71 rfl rfl rfl) rfl ?_
  refine at_op rfl (n_call false rfl (.cons (.pure pu) (.nil)) (Con.cast (cread_ok k n s l hsz2 hel) (readVA_n h1)) pu (.inl rfl) rfl ?_)
  refine s1 (y_p rfl) rfl <| s1 (y_p rfl) rfl <| s1 (y_p rfl) rfl ?_
  refine at_op rfl (n_storeA ti27 rfl rfl rfl (by first | rfl | omega | (simp <;> omega) | (simp [*] <;> omega)) (by first | rfl | omega | (simp <;> omega) | (simp [*] <;> omega)) ?_)
  refine s1 (y_p rfl) rfl ?_
  refine at_nil <| x_tn <| at_seq <| at_seq <| at_region <| s1 (y_p rfl) rfl <| s1 ((y_p rfl).v (v' := .b true) (rfl)) rfl <| s1 (y_p rfl) rfl <| g0 rfl rfl rfl rfl <| g0 rfl rfl rfl rfl <| g0 rfl rfl rfl rfl <| s1 (y_p rfl) rfl ?_
  refine at_nil <| x_tn ?_
  refine at_then rfl ?_
  refine at_seq <| at_region <| s1 (y_bld (out := _) [(List.replicate 32 (.int .u8 0)).map evC, [evC (.slice none 0 0)], [evC (.slice none 0 0)]] ti27 rfl Tryd.underlying27 (by kernel_rfl) rfl rfl trivial rfl) rfl ?_
  refine at_op rfl (n_storeA ti27 rfl rfl rfl (by first | rfl | omega | (simp <;> omega) | (simp [*] <;> omega)) (by first | rfl | omega | (simp <;> omega) | (simp [*] <;> omega)) ?_)
  refine s1 ((y_p rfl).v (v' := .i .i64 340) rfl) rfl ?_
  refine at_nil <| x_tn <| at_ret <| x_tr ?_
  refine at_result (rs := [.cell 2 27, .tmp 3]) rfl (r_cellA ti27 rfl rfl rfl rfl (r_tmp rfl r_nil)) ?_
  exact (decCA_n hd (by rw [h1]; rfl)).symm
 ·obtain ⟨k, n, s, l, hd, h1, h2⟩ := hcs
  obtain ⟨henc, hrd⟩ := dec_spec (by omega) hd
  have hsz := CV.size_enc (CV.mk k n s l).size (.mk k n s l) (Nat.le_refl _) hrd.1
  have hel : (CV.mk k n s l).enc.length ≤ 1000000 := by rw [henc]; exact hb
  have hsz2 : (CV.mk k n s l).size ≤ 1000000 := by omega
  have hx := readC_x h1
  have hE := readC_E (readB_p h1)
  have hE2 : (readC (.mk k n s l)).E.length ≤ maxLen := by simp only [maxLen]; omega
  refine at_region <| s1 (y_p rfl) rfl ?_
  refine at_op rfl (n_call false rfl (.cons (.pure pu) (.nil)) (Con.cast (cdecode_ok b hb) ((decA_y hd).trans rfl)) pu (.inl rfl) rfl ?_)
  refine s1 (y_p rfl) rfl <| s1 (y_p rfl) rfl <| s1 (y_p rfl) rfl ?_
  refine at_op rfl (n_alloc 4 rfl ti71 rfl rfl ?_)
  refine at_op rfl (n_storeA ti71 rfl rfl rfl (by first | rfl | omega | (simp <;> omega) | (simp [*] <;> omega)) (by first | rfl | omega | (simp <;> omega) | (simp [*] <;> omega)) ?_)
  refine s1 (y_p rfl) rfl ?_
  refine at_nil <| x_tn <| at_seq <| at_seq <| at_region <| s1 (y_p rfl) rfl <| s1 ((y_p rfl).v (v' := .b false) (rfl)) rfl ?_
  refine at_nil <| x_tn ?_
  refine at_else rfl ?_
  refine at_skip <| x_tn <| at_seq <| at_region <| s1 (y_loadA0 ti71 rfl rfl rfl) rfl ?_
  refine at_op rfl (n_call false rfl (.cons (.pure pu) (.nil)) (Con.cast (cread_ok k n s l hsz2 hel) (readVA_y h1)) pu (.inl rfl) rfl ?_)
  refine s1 (y_p rfl) rfl <| s1 (y_p rfl) rfl <| s1 (y_p rfl) rfl ?_
  refine at_op rfl (n_storeA ti27 rfl rfl rfl (by first | rfl | omega | (simp <;> omega) | (simp [*] <;> omega)) (by first | rfl | omega | (simp <;> omega) | (simp [*] <;> omega)) ?_)
  refine s1 (y_p rfl) rfl ?_
  refine at_nil <| x_tn <| at_seq <| at_seq <| at_region <| s1 (y_p rfl) rfl <| s1 ((y_p rfl).v (v' := .b false) (rfl)) rfl <| s1 (y_p rfl) rfl <| g1 rfl rfl (y_loadA0 ti27 rfl rfl (cas_len hx)) rfl ?_
  refine at_opg rfl rfl rfl (n_call false rfl (.cons (.pure pu) (.nil)) (Con.cast (cchk_ok (readC (.mk k n s l)) hx hE2) (congrArg (fun b => A.i .i64 (errC b)) h2)) pu (.inl rfl) rfl ?_)
  refine g1 rfl rfl ((y_p rfl).v (v' := .b true) (rfl)) rfl <| s1 (y_p rfl) rfl ?_
  refine at_nil <| x_tn ?_
  refine at_then rfl ?_
  refine at_seq <| at_region <| s1 (y_bld (out := _) [(List.replicate 32 (.int .u8 0)).map evC, [evC (.slice none 0 0)], [evC (.slice none 0 0)]] ti27 rfl Tryd.underlying27 (by kernel_rfl) rfl rfl trivial rfl) rfl ?_
  refine at_op rfl (n_storeA ti27 rfl rfl rfl (by first | rfl | omega | (simp <;> omega) | (simp [*] <;> omega)) (by first | rfl | omega | (simp <;> omega) | (simp [*] <;> omega)) ?_)
  refine s1 ((y_p rfl).v (v' := .i .i64 340) rfl) rfl ?_
  refine at_nil <| x_tn <| at_ret <| x_tr ?_
  refine at_result (rs := [.cell 2 27, .tmp 3]) rfl (r_cellA ti27 rfl rfl rfl rfl (r_tmp rfl r_nil)) ?_
  exact (decCA_n hd (by rw [h1, h2]; rfl)).symm
 ·obtain ⟨k, n, s, l, hd, h1, h2⟩ := hcs
  obtain ⟨henc, hrd⟩ := dec_spec (by omega) hd
  have hsz := CV.size_enc (CV.mk k n s l).size (.mk k n s l) (Nat.le_refl _) hrd.1
  have hel : (CV.mk k n s l).enc.length ≤ 1000000 := by rw [henc]; exact hb
  have hsz2 : (CV.mk k n s l).size ≤ 1000000 := by omega
  have hx := readC_x h1
  have hE := readC_E (readB_p h1)
  have hE2 : (readC (.mk k n s l)).E.length ≤ maxLen := by simp only [maxLen]; omega
  refine at_region <| s1 (y_p rfl) rfl ?_
  refine at_op rfl (n_call false rfl (.cons (.pure pu) (.nil)) (Con.cast (cdecode_ok b hb) ((decA_y hd).trans rfl)) pu (.inl rfl) rfl ?_)
  refine s1 (y_p rfl) rfl <| s1 (y_p rfl) rfl <| s1 (y_p rfl) rfl ?_
  refine at_op rfl (n_alloc 4 rfl ti71 rfl rfl ?_)
  refine at_op rfl (n_storeA ti71 rfl rfl rfl (by first | rfl | omega | (simp <;> omega) | (simp [*] <;> omega)) (by first | rfl | omega | (simp <;> omega) | (simp [*] <;> omega)) ?_)
  refine s1 (y_p rfl) rfl ?_
  refine at_nil <| x_tn <| at_seq <| at_seq <| at_region <| s1 (y_p rfl) rfl <| s1 ((y_p rfl).v (v' := .b false) (rfl)) rfl ?_
  refine at_nil <| x_tn ?_
  refine at_else rfl ?_
  refine at_skip <| x_tn <| at_seq <| at_region <| s1 (y_loadA0 ti71 rfl rfl rfl) rfl ?_
  refine at_op rfl (n_call false rfl (.cons (.pure pu) (.nil)) (Con.cast (cread_ok k n s l hsz2 hel) (readVA_y h1)) pu (.inl rfl) rfl ?_)
  refine s1 (y_p rfl) rfl <| s1 (y_p rfl) rfl <| s1 (y_p rfl) rfl ?_
  refine at_op rfl (n_storeA ti27 rfl rfl rfl (by first | rfl | omega | (simp <;> omega) | (simp [*] <;> omega)) (by first | rfl | omega | (simp <;> omega) | (simp [*] <;> omega)) ?_)
  refine s1 (y_p rfl) rfl ?_
  refine at_nil <| x_tn <| at_seq <| at_seq <| at_region <| s1 (y_p rfl) rfl <| s1 ((y_p rfl).v (v' := .b false) (rfl)) rfl <| s1 (y_p rfl) rfl <| g1 rfl rfl (y_loadA0 ti27 rfl rfl (cas_len hx)) rfl ?_
  refine at_opg rfl rfl rfl (n_call false rfl (.cons (.pure pu) (.nil)) (Con.cast (cchk_ok (readC (.mk k n s l)) hx hE2) (congrArg (fun b => A.i .i64 (errC b)) h2)) pu (.inl rfl) rfl ?_)
  refine g1 rfl rfl ((y_p rfl).v (v' := .b false) (rfl)) rfl <| s1 (y_p rfl) rfl ?_
  refine at_nil <| x_tn ?_
  refine at_else rfl ?_
  refine at_skip <| x_tn <| at_seq <| at_region <| s1 (y_loadA0 ti27 rfl rfl (cas_len hx)) rfl ?_
  refine at_op rfl (n_storeA ti27 rfl rfl rfl (cas_len hx) (cas_len hx) ?_)
  refine s1 ((y_p rfl).v (v' := .i .i64 0) rfl) rfl ?_
  refine at_nil <| x_tn <| at_ret ?_
  refine at_result (rs := [.cell 2 27, .tmp 3]) rfl (r_cellA ti27 rfl rfl (cas_all hx) (cas_len hx) (r_tmp rfl r_nil)) ?_
  exact (decCA_y hd h1 h2).symm
end Go.Abs.D2
-- V6S
namespace Go.Abs.D2
open Go Go.Eng Go.Abs
def joinT (p q : List UInt8) : Nat → List UInt8
  | 0 => List.replicate 16 0
  | i + 1 => (joinT p q i).set i (p.getD i 0 ^^^ q.getD i 0)
@[simp] theorem len_joinT (p q : List UInt8) : ∀ i, (joinT p q i).length = 16
  | 0 => by simp [joinT]
  | i + 1 => by rw [joinT, List.length_set, len_joinT p q i]
theorem getB {l : List Bool} {i : Nat} {b : Bool} (h : l[i]? = some b) : ((l.map A.b).drop (i * 1))[0]? = some (.b b) := by
  rw [List.getElem?_drop, show i * 1 + 0 = i by omega, List.getElem?_map, h]; rfl
end Go.Abs.D2
-- S7V
namespace Go.Abs.D2
open Go Go.Eng Go.Abs
theorem chkC_casB {x : List UInt8} {p q : List Int} (h : okB2 p q = true) : chkC (casB x p q) = true := by
  have hsub := bS_sub x p q (endB x p q)
  have hE := end_le x p q
  have hasc : ∀ n, listedB (bS x p q n).2.1 = true ∧ listedB (bS x p q n).2.2 = true := by
    intro n
    induction n with
    | zero =>
      unfold okB2 at h
      simp only [Bool.and_eq_true] at h
      exact ⟨h.1.1, h.1.2⟩
    | succ n ih =>
      refine ⟨?_, ih.1⟩
      rw [bS]
      have key : ∀ (l : List Int) (f : Int → Bool) (last : Int), ascB last l = true → ascB last (l.filter f) = true := by
        intro l f
        induction l with
        | nil => intro last _; rfl
        | cons a l ih2 =>
          intro last hl
          simp only [ascB, Bool.and_eq_true, decide_eq_true_eq] at hl
          cases hf : f a with
          | true =>
            rw [List.filter_cons_of_pos hf]
            simp only [ascB, Bool.and_eq_true, decide_eq_true_eq]
            exact ⟨hl.1, ih2 _ hl.2⟩
          | false =>
            rw [List.filter_cons_of_neg (by rw [hf]; simp)]
            have h3 := ih2 a hl.2
            have mono : ∀ (m : List Int) (u v : Int), u ≤ v → ascB v m = true → ascB u m = true := by
              intro m u v huv hm
              cases m with
              | nil => rfl
              | cons b m =>
                simp only [ascB, Bool.and_eq_true, decide_eq_true_eq] at hm ⊢
                exact ⟨⟨by omega, hm.1.2⟩, hm.2⟩
            exact mono _ _ _ (by omega) h3
      exact key _ _ _ ih.2
  have hlev : ∀ n, n ≤ 16 → ∀ F : List Fil, (∀ i, i < F.length → ∃ a, F[i]? = some (filO x (n + i) a)) → n + F.length ≤ 16 → levB n F = true := by
    intro n hn F
    induction F generalizing n with
    | nil => intro _ _; rfl
    | cons f F ih =>
      intro hF hl
      rw [List.length_cons] at hl
      obtain ⟨a, ha⟩ := hF 0 (by simp)
      simp only [List.getElem?_cons_zero, Option.some.injEq, Nat.add_zero] at ha
      subst ha
      simp only [levB, Bool.and_eq_true, decide_eq_true_eq]
      refine ⟨⟨rfl, chk_filO x n a (by omega)⟩, ih (n + 1) (by omega) (fun i hi => ?_) (by omega)⟩
      obtain ⟨b, hb⟩ := hF (i + 1) (by rw [List.length_cons]; omega)
      exact ⟨b, by rw [List.getElem?_cons_succ] at hb; rw [hb, show n + 1 + i = n + (i + 1) by omega]⟩
  refine chkC_yes ?_ (hasc _).1 ?_
  · show (bS x p q (endB x p q)).1.length ≤ 16
    rw [len_bS]; exact hE
  · refine hlev 0 (by omega) _ (fun i hi => ?_) ?_
    · have hi' : i < endB x p q := by
        have : i < (bS x p q (endB x p q)).1.length := hi
        rwa [len_bS] at this
      exact ⟨_, by rw [Nat.zero_add]; exact bS_get x p q _ i hi'⟩
    · show 0 + (bS x p q (endB x p q)).1.length ≤ 16
      rw [len_bS]; omega
end Go.Abs.D2
