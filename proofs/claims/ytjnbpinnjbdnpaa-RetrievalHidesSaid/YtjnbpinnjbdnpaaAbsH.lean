/-
  The second engine, part H: small words for the walks, and arrays held against each other. Conditions: none; nothing of any program stands here.
-/
import Derived.Test.YtjnbpinnjbdnpaaAbsG
namespace Go.Abs
open Go Go.Eng

class IsPure (v : A) : Prop where out : Pure v
class IsPureL (l : List A) : Prop where out : PureL l
class IsFlat (v : A) : Prop where out : Flat v
class IsFlatL (l : List A) : Prop where out : FlatL l
theorem pu {v : A} [h : IsPure v] : Pure v := h.out
theorem pul {l : List A} [h : IsPureL l] : PureL l := h.out
theorem fu {v : A} [h : IsFlat v] : Flat v := h.out
theorem ful {l : List A} [h : IsFlatL l] : FlatL l := h.out
instance {x} : IsPure (.b x) := ⟨trivial⟩
instance {k n} : IsPure (.i k n) := ⟨trivial⟩
instance {l} : IsPure (.s l) := ⟨trivial⟩
instance : IsPure .nl := ⟨trivial⟩
instance {n cs} : IsPure (.fz n cs) := ⟨trivial⟩
instance {cs} : IsPure (.fp cs) := ⟨trivial⟩
instance {v} : IsPure (.raw v) := ⟨trivial⟩
instance {cs} [h : IsPureL cs] : IsPure (.ag cs) := ⟨by simp only [Pure]; exact h.out⟩
instance {cs} [h : IsPureL cs] : IsPure (.tu cs) := ⟨by simp only [Pure]; exact h.out⟩
instance {t v} [h : IsPure v] : IsPure (.ic t v) := ⟨by simp only [Pure]; exact h.out⟩
instance {f a c} [h : IsPureL a] [h' : IsPureL c] : IsPure (.fn f a c) := ⟨by simp only [Pure]; exact ⟨h.out, h'.out⟩⟩
instance {v} : IsPure (evC v) := ⟨by unfold evC; split <;> trivial⟩
instance {v} : IsFlat (evC v) := ⟨by unfold evC; split <;> trivial⟩
instance : IsPureL [] := ⟨trivial⟩
instance {v l} [h : IsPure v] [h' : IsPureL l] : IsPureL (v :: l) := ⟨⟨h.out, h'.out⟩⟩
instance {l m} [h : IsPureL l] [h' : IsPureL m] : IsPureL (l ++ m) := ⟨PureL_app h.out h'.out⟩
instance {α : Type} {f : α → A} {l : List α} [h : ∀ x, IsPure (f x)] : IsPureL (l.map f) := ⟨PureL_map f (fun x => (h x).out) l⟩
instance {α : Type} {f : α → List A} {l : List α} [h : ∀ x, IsPureL (f x)] : IsPureL (l.flatMap f) := ⟨PureL_flatMap f (fun x => (h x).out) l⟩
theorem PureL_mem : ∀ {l : List A}, PureL l ↔ ∀ c ∈ l, Pure c
  | [] => ⟨fun _ c h => (by cases h), fun _ => trivial⟩
  | c :: l => ⟨fun h d hd => by rcases List.mem_cons.1 hd with rfl | hd; exact h.1; exact PureL_mem.1 h.2 d hd, fun h => ⟨h c (.head _), PureL_mem.2 fun d hd => h d (.tail _ hd)⟩⟩
theorem FlatL_mem : ∀ {l : List A}, FlatL l ↔ ∀ c ∈ l, Flat c
  | [] => ⟨fun _ c h => (by cases h), fun _ => trivial⟩
  | c :: l => ⟨fun h d hd => by rcases List.mem_cons.1 hd with rfl | hd; exact h.1; exact FlatL_mem.1 h.2 d hd, fun h => ⟨h c (.head _), FlatL_mem.2 fun d hd => h d (.tail _ hd)⟩⟩
instance {l k} [h : IsPureL l] : IsPureL (List.take k l) := ⟨PureL_mem.2 fun c hc => PureL_mem.1 h.out c (List.mem_of_mem_take hc)⟩
instance {l k} [h : IsPureL l] : IsPureL (List.drop k l) := ⟨PureL_mem.2 fun c hc => PureL_mem.1 h.out c (List.mem_of_mem_drop hc)⟩
instance {v k} [h : IsPure v] : IsPureL (List.replicate k v) := ⟨PureL_mem.2 fun c hc => by rw [List.eq_of_mem_replicate hc]; exact h.out⟩
instance {x} : IsFlat (.b x) := ⟨trivial⟩
instance {k n} : IsFlat (.i k n) := ⟨trivial⟩
instance {l} : IsFlat (.s l) := ⟨trivial⟩
instance : IsFlat .nl := ⟨trivial⟩
instance {v} : IsFlat (.raw v) := ⟨trivial⟩
instance {cs} [h : IsFlatL cs] : IsFlat (.ag cs) := ⟨by simp only [Flat]; exact h.out⟩
instance {cs} [h : IsFlatL cs] : IsFlat (.tu cs) := ⟨by simp only [Flat]; exact h.out⟩
instance {t v} [h : IsFlat v] : IsFlat (.ic t v) := ⟨by simp only [Flat]; exact h.out⟩
instance : IsFlatL [] := ⟨trivial⟩
instance {v l} [h : IsFlat v] [h' : IsFlatL l] : IsFlatL (v :: l) := ⟨⟨h.out, h'.out⟩⟩
instance {l m} [h : IsFlatL l] [h' : IsFlatL m] : IsFlatL (l ++ m) := ⟨FlatL_app h.out h'.out⟩
instance {α : Type} {f : α → A} {l : List α} [h : ∀ x, IsFlat (f x)] : IsFlatL (l.map f) := ⟨FlatL_map f (fun x => (h x).out) l⟩
instance {α : Type} {f : α → List A} {l : List α} [h : ∀ x, IsFlatL (f x)] : IsFlatL (l.flatMap f) := ⟨FlatL_flatMap f (fun x => (h x).out) l⟩
instance {l k} [h : IsFlatL l] : IsFlatL (List.take k l) := ⟨FlatL_mem.2 fun c hc => FlatL_mem.1 h.out c (List.mem_of_mem_take hc)⟩
instance {l k} [h : IsFlatL l] : IsFlatL (List.drop k l) := ⟨FlatL_mem.2 fun c hc => FlatL_mem.1 h.out c (List.mem_of_mem_drop hc)⟩

@[simp] theorem evC_i (k : IntKind) (n : Int) : evC (.int k n) = .i k n := rfl
@[simp] theorem evC_b (b : Bool) : evC (.bool b) = .b b := rfl
theorem le_refl {E F : Ev} (h : E = F) : lev E F := fun _ _ g => by rw [h]; exact g
theorem view_all {cs : List A} {k : Nat} (h : cs.length = k) : (cs.drop 0).take k = cs := by rw [List.drop_zero]; exact List.take_of_length_le (by omega)
theorem view_eq {cs ds : List A} {k : Nat} (h : cs.length = k) (he : cs = ds) : (cs.drop 0).take k = ds := (view_all h).trans he
theorem Ren.of {ρ : Rho} {v v' x : A} (h : v = v') (hr : Ren ρ v' x) : Ren ρ v x := h ▸ hr
theorem RenL.of {ρ : Rho} {v v' x : List A} (h : v = v') (hr : RenL ρ v' x) : RenL ρ v x := h ▸ hr

section
variable {P : Program} {w0 : Bw} {X0 : Xs} {n : Nat} {E : Ev} {st : St} {K : Act → World → Prop}

/-- An object reads the same in other words. -/
theorem at_sayO (id : Nat) {cs cs' : List A} (hg : st.get id = some cs) (h1 : cs = cs') (h : At w0 X0 n E (st.put id cs') K) : At w0 X0 n E st K := by
  subst h1
  refine fun a w hr => h a w (hr.weaken (fun _ _ h => h) (fun k c hk => ?_) (fun k hk => ?_))
  · rw [St.get_put] at hk
    split at hk
    · rename_i e; subst e; rw [hg]; exact hk
    · exact hk
  · rw [St.free_put] at hk
    split at hk
    · cases hk
    · exact hk

theorem run_part_one {e : TypeId} {k : IntKind} {w : World} (he : P.underlying e = some (.int k)) {l : List Value} {i : Nat} {v : Value} (h : l[i]? = some v) : (part e l.toArray i).run P w = .ok v w := by
  unfold part
  have hag : (isAgg e).run P w = .ok false w := by unfold Go.isAgg; rw [Sem.run_bind, run_underlying he]; rfl
  rw [Sem.run_bind, hag]
  simp [h]

/-- Two arrays of integers. -/
theorem run_eqArr {t e : TypeId} {len : Nat} {k : IntKind} {by' : Nat} {zero : List Value} {agg : Bool} (ht : P.underlying t = some (.array len e)) (he : P.underlying e = some (.int k)) (hs : TI P e 1 by' zero agg) (w : World) (d : Nat) : ∀ (xs ys : List Int), xs.length = len → ys.length = len →
    (Op.equalIn (d + 2) t (.agg (xs.map (Value.int k)).toArray) (.agg (ys.map (Value.int k)).toArray)).run P w = .ok (xs == ys) w := by
  intro xs ys hx hy
  unfold Op.equalIn
  simp only [Sem.run_bind, run_underlying ht, Result.andThen_ok, hs.sizeOf w]
  simp only [Std.Legacy.Range.forIn_eq_forIn_range', Std.Legacy.Range.size, Nat.sub_zero, Nat.add_sub_cancel, Nat.div_one, Nat.mul_one]
  have key : ∀ (m s : Nat), s + m = len → (forIn (m := Sem) (List.range' s m) ((none, ()) : Option Bool × Unit) fun i _ => do
      let a ← part e (xs.map (Value.int k)).toArray i
      let b ← part e (ys.map (Value.int k)).toArray i
      let r ← Op.equalIn (d + 1) e a b
      if (!r) = true then pure (ForInStep.done (some false, ())) else pure (ForInStep.yield (none, ()))).run P w = .ok (if xs.drop s == ys.drop s then (none, ()) else (some false, ())) w := by
    intro m
    induction m with
    | zero =>
      intro s hs'
      have h1 : xs.drop s = [] := List.drop_eq_nil_of_le (by omega)
      have h2 : ys.drop s = [] := List.drop_eq_nil_of_le (by omega)
      simp [h1, h2]
    | succ m ih =>
      intro s hs'
      obtain ⟨x, hxs⟩ : ∃ x, xs[s]? = some x := ⟨xs[s]'(by omega), by simp [show s < xs.length by omega]⟩
      obtain ⟨y, hys⟩ : ∃ y, ys[s]? = some y := ⟨ys[s]'(by omega), by simp [show s < ys.length by omega]⟩
      have p1 := run_part_one (P := P) (w := w) he (l := xs.map (Value.int k)) (i := s) (v := .int k x) (by simp [hxs])
      have p2 := run_part_one (P := P) (w := w) he (l := ys.map (Value.int k)) (i := s) (v := .int k y) (by simp [hys])
      have p3 := run_equalIn_int (P := P) w d e k k x y he
      rw [List.range'_succ]
      simp only [List.forIn_cons, Sem.run_bind]
      rw [p1]
      simp only [Result.andThen_ok]
      rw [p2]
      simp only [Result.andThen_ok]
      rw [p3]
      simp only [Result.andThen_ok]
      have dx : xs.drop s = x :: xs.drop (s + 1) := by
        rw [List.drop_eq_getElem_cons (by omega)]
        congr 1
        have := (List.getElem?_eq_some_iff.1 hxs).2; exact this
      have dy : ys.drop s = y :: ys.drop (s + 1) := by
        rw [List.drop_eq_getElem_cons (by omega)]
        congr 1
        have := (List.getElem?_eq_some_iff.1 hys).2; exact this
      rw [dx, dy]
      cases hxy : (x == y) with
      | false => simp [hxy]
      | true =>
        have hih := ih (s + 1) (by omega)
        simp only [Bool.not_true, Bool.false_eq_true, if_false, Sem.run_pure, Result.andThen_ok]
        rw [hih]
        simp only [List.cons_beq_cons, hxy, Bool.true_and]
  have := key len 0 (by omega)
  simp only [List.drop_zero] at this
  rw [this]
  cases h : (xs == ys) <;> simp

theorem VS_int {X : Xs} {w : World} {β : Bm} {k : IntKind} : ∀ {l : List Int} {us : List Value}, VS X w β (l.map (A.i k)) us → us = l.map (Value.int k)
  | [], us, h => by simpa [VS] using h
  | x :: l, us, h => by
    simp only [List.map_cons, VS] at h
    obtain ⟨u, r, rfl, h1, h2⟩ := h
    rw [V_i] at h1
    rw [h1, VS_int h2]; rfl

theorem y_arr {op : BinOp} (hop : op = .eql ∨ op = .neq) {t t' e ty : TypeId} {x y : Operand} {len : Nat} {k : IntKind} {by' : Nat} {zero : List Value} {agg : Bool} {xs ys : List Int} (ht : P.underlying t = some (.array len e)) (he : P.underlying e = some (.int k)) (hs : TI P e 1 by' zero agg) (hm : P.eqGuardType P.depth t = false) (hx : ev E x = some (.ag (xs.map (.i k)))) (hy : ev E y = some (.ag (ys.map (.i k)))) (hlx : xs.length = len) (hly : ys.length = len) :
    YO P E st (.binOp op t x y t') ty (.b (if op = .eql then xs == ys else !(xs == ys))) := by
  intro w0 X0 n β X a w hr
  obtain ⟨_, h2⟩ := hr.evo hx
  obtain ⟨_, h4⟩ := hr.evo hy
  simp only [V] at h2 h4
  obtain ⟨us, e1, e2, _⟩ := h2
  obtain ⟨vs, e3, e4, _⟩ := h4
  have e5 := VS_int e2
  have e6 := VS_int e4
  subst e5; subst e6
  refine ⟨.bool (if op = .eql then xs == ys else !(xs == ys)), by simp only [V], fun d pos aft g w' _ => ?_⟩
  have hr' := run_eqArr (P := P) ht he hs w' 9998 xs ys hlx hly
  simp only [execOp, e1, e3]
  rw [Sem.run_bind, Sem.run_bind, run_eqGuard_agg (P := P) w' op t x y _ _ hm]
  simp only [Result.andThen_ok]
  rcases hop with rfl | rfl
  · rw [run_eql_struct, hr']; rfl
  · rw [run_neq_struct, hr']; rfl

theorem map_u8 (l : List UInt8) : l.map u8 = (l.map fun x : UInt8 => (x.toNat : Int)).map (A.i .u8) := by simp [List.map_map, Function.comp_def]
theorem beq_u8 (l m : List UInt8) : ((l.map fun x : UInt8 => (x.toNat : Int)) == (m.map fun x : UInt8 => (x.toNat : Int))) = (l == m) := by
  rw [Bool.eq_iff_iff]
  simp only [beq_iff_eq]
  refine ⟨fun h => ?_, fun h => by rw [h]⟩
  refine List.map_inj_right (f := fun x : UInt8 => (x.toNat : Int)) (fun x y hxy => ?_) |>.1 h
  exact UInt8.toNat_inj.1 (Int.ofNat_inj.1 hxy)

/-- Two arrays of bytes. -/
theorem y_aq {t t' e ty : TypeId} {x y : Operand} {len : Nat} {by' : Nat} {zero : List Value} {agg : Bool} {l m : List UInt8} (ht : P.underlying t = some (.array len e)) (he : P.underlying e = some (.int .u8)) (hs : TI P e 1 by' zero agg) (hm : P.eqGuardType P.depth t = false) (hx : ev E x = some (.ag (l.map u8))) (hy : ev E y = some (.ag (m.map u8))) (hl : l.length = len) (hlm : m.length = len) :
    YO P E st (.binOp .eql t x y t') ty (.b (l == m)) :=
  (y_arr (.inl rfl) ht he hs hm (by rw [← map_u8]; exact hx) (by rw [← map_u8]; exact hy) (by simpa using hl) (by simpa using hlm)).v (by rw [if_pos rfl, beq_u8])
theorem y_aqn {t t' e ty : TypeId} {x y : Operand} {len : Nat} {by' : Nat} {zero : List Value} {agg : Bool} {l m : List UInt8} (ht : P.underlying t = some (.array len e)) (he : P.underlying e = some (.int .u8)) (hs : TI P e 1 by' zero agg) (hm : P.eqGuardType P.depth t = false) (hx : ev E x = some (.ag (l.map u8))) (hy : ev E y = some (.ag (m.map u8))) (hl : l.length = len) (hlm : m.length = len) :
    YO P E st (.binOp .neq t x y t') ty (.b (!(l == m))) :=
  (y_arr (.inr rfl) ht he hs hm (by rw [← map_u8]; exact hx) (by rw [← map_u8]; exact hy) (by simpa using hl) (by simpa using hlm)).v (by rw [if_neg (by decide), beq_u8])
end
end Go.Abs
