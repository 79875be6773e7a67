/-
  The engine, the plain laws and the walks that the rows need, part 8. Conditions: none.
-/
import Derived.Test.YtfdkilgkefiggaaDoorM7
import Derived.Lib.ConvBytes
import Derived.Laws.Strings
import Derived.KernelRfl
set_option linter.unusedVariables false
set_option linter.unusedSimpArgs false
set_option maxHeartbeats 1000000
set_option maxRecDepth 10000
-- AbsJ
namespace Go.Abs
open Go Go.Eng
section
variable {P : Program} {w0 : Bw} {X0 X : Xs} {n : Nat} {E : Ev} {st : St} {β : Bm} {a : Act} {w : World} {Q : Exit → Act → World → Prop} {K : Act → World → Prop}
theorem Mem.see (hm : Mem w0 β X st w) {w1 : World} {b : Nat} (L : Nat) (hbel : RowKit.Below w.heap.size w w1) (hb : w.heap.size ≤ b) (hb1 : b < w1.heap.size) :
    let X1 : Xs := fun q o => X q o ∨ (q = b ∧ o < L)
    Mem w0 β X1 st w1 ∧ ExtX X X1 w w1 ∧ (∀ q o, X1 q o → X q o ∨ w0.own q) := by
  intro X1
  have hx : ExtX X X1 w w1 := fun q o h => ⟨.inl h, World.cell?_of_block (w := w) (hbel.block q (hm.xlt q o h))⟩
  refine ⟨.of (hm.below.trans hbel) hm.b0 (fun q o h => ?_) hm.dom (fun k ds hg => ?_) (fun i j ci cj q M N' hij hi hj hbi hbj => hm.inj i j ci cj q M N' hij hi hj hbi hbj), hx, fun q o h => ?_⟩
  · rcases h with h | ⟨rfl, _⟩
    · exact Nat.lt_of_lt_of_le (hm.xlt q o h) hbel.size
    · exact hb1
  · refine (hm.obj k ds hg).later hx (ExtB.refl β) fun q M hq => ?_
    have ho := hm.obj k ds hg
    unfold OB at ho
    rw [hq] at ho
    obtain ⟨_, h2, us', rest', ty', h3, _⟩ := ho
    have hlt := (Array.getElem?_eq_some_iff.1 h3).1
    refine ⟨hbel.block q hlt, fun o h => ?_⟩
    rcases h with h | ⟨rfl, _⟩
    · exact h2 o h
    · omega
  · rcases h with h | ⟨rfl, _⟩
    · exact .inl h
    · exact .inr (Bw.own_new hm.below hb)
theorem n_s2b {d : Nat} {src dst e ty : TypeId} {pos aft g} {x : Operand} {l : List UInt8} (hs : P.underlying src = some .string) (hdt : P.underlying dst = some (.slice e)) (he : P.underlying e = some (.int .u8)) (hx : ev E x = some (.s l)) (hl : l.length ≤ maxLen) (hd : Nat.ble (d + 1) n = true)
    (h : At w0 X0 n ((d, .fz l.length (l.map u8)) :: E) st K) : At w0 X0 n E st (fun a w => (⟨some d, .convert src dst x, ty, pos, aft, g⟩ : Oper).wp P a w K Q) := by
  rintro a w ⟨β, X, hr⟩
  obtain ⟨e1, e2⟩ := hr.evo hx
  rw [V_s] at e2
  rw [e2] at e1
  have hrun := Go.Lib.run_convert_string_bytes (P := P) w src dst e ⟨l.toArray⟩ hs hdt he
  have hsz : (⟨l.toArray⟩ : ByteArray).size = l.length := by simp [ByteArray.size]
  have hbel : RowKit.Below w.heap.size w (Go.Lib.bytesWorld w e ⟨l.toArray⟩) := ⟨rfl, rfl, rfl, by rw [Go.Lib.bytesWorld_size]; omega, fun k hk => Go.Lib.bytesWorld_at_old w e _ k hk⟩
  obtain ⟨m1, m2, m3⟩ := hr.mem.see (b := w.heap.size) l.length hbel (Nat.le_refl _) (by rw [Go.Lib.bytesWorld_size]; omega)
  have hexec : (execOp a.eval ⟨some d, .convert src dst x, ty, pos, aft, g⟩).run P w = .ok (.value (.slice (some ⟨w.heap.size, 0, none⟩) l.length (grownCap w l.length 0 e))) (Go.Lib.bytesWorld w e ⟨l.toArray⟩) := by
    simp only [hsz] at hrun
    simp [execOp, e2, hrun]
  unfold Oper.wp
  rw [hexec]
  refine h _ _ ⟨β, _, hr.putv hd m2 m3 (ExtB.refl β) m1 ?_⟩
  simp only [V]
  refine ⟨_, _, rfl, grownCap_ge w l.length 0 e, grownCap_le_maxLen w l.length 0 e hl, (fun h => by cases h), (fun _ x hx => by cases hx; rfl), VM_of fun j c hj => ?_⟩
  have hjl : j < l.length := by simpa using (List.getElem?_eq_some_iff.1 hj).1
  rw [List.getElem?_map, List.getElem?_eq_getElem hjl] at hj
  simp only [Option.map_some, Option.some.injEq] at hj
  subst hj
  have hc := Go.Lib.bytesWorld_cell w e ⟨l.toArray⟩ j (by rw [hsz]; exact hjl)
  refine ⟨.inr ⟨rfl, by simpa [ao] using hjl⟩, .int .u8 (l[j].toNat : Int), ?_, by rw [V_i], rfl⟩
  simp only [ab, ao, Nat.zero_add]
  rw [hc]
  simp [List.getD_eq_getElem?_getD, hjl]
theorem y_sidx {t ty : TypeId} {x i : Operand} {l : List UInt8} {k : IntKind} {iv : Int} (j : Nat) (b : UInt8) (ht : P.underlying t = some .string) (hx : ev E x = some (.s l)) (hi : ev E i = some (.i k iv)) (hj : iv = (j : Int)) (hb : l[j]? = some b) : YO P E st (.index t x i) ty (u8 b) := by
  intro w0 X0 n β X a w hr
  obtain ⟨h1, h2⟩ := hr.evo hx
  obtain ⟨h3, h4⟩ := hr.evo hi
  rw [V_s] at h2
  rw [V_i] at h4
  rw [h2] at h1
  rw [h4] at h3
  subst hj
  refine ⟨_, by rw [V_i], hr.old fun w' _ => fun d pos aft g a' w'' hR _ => ?_⟩
  have hl := (List.getElem?_eq_some_iff.1 hb).1
  have key := run_index_string (P := P) w'' t ⟨l.toArray⟩ k (j : Int) ht
  rw [dif_pos ⟨by omega, by simpa [ByteArray.size] using hl⟩] at key
  have hbb : ((⟨l.toArray⟩ : ByteArray)[(j : Int).toNat]'(by simpa [ByteArray.size] using hl)) = b := by
    obtain ⟨_, h⟩ := List.getElem?_eq_some_iff.1 hb
    show l.toArray[(j : Int).toNat]'(by simpa using hl) = b
    simpa using h
  rw [hbb] at key
  simp [execOp, hR.ev h1, hR.ev h3, key]
theorem n_clear {t e ty : TypeId} {by' : Nat} {z : Value} {agg : Bool} {x : Operand} {id off m : Nat} {cs cs' : List A} {d : Option Nat} {pos aft g} (ht : P.underlying t = some (.slice e)) (he : TI P e 1 by' [z] agg) (hz : z.oneCell' = true) (hx : ev E x = some (.sl id 1 off m)) (hg : st.get id = some cs)
    (hfit : off + m ≤ cs.length) (hcs : cs.take off ++ List.replicate m (evC z) ++ cs.drop (off + m) = cs') (hd : d = none) (h : At w0 X0 n E (st.put id cs') K) :
    At w0 X0 n E st (fun a w => (⟨d, .call { callee := .builtin .clear, args := #[x], argTypes := #[t] }, ty, pos, aft, g⟩ : Oper).wp P a w K Q) := by
  rintro a w ⟨β, X, hr⟩
  subst hd
  obtain ⟨e1, e2⟩ := hr.evo hx
  have hexec0 : ∀ v w1, a.eval x = v → (Builtin.clear_ #[t] ty #[v]).run P w = .ok (.tuple #[]) w1 → (execOp a.eval ⟨none, .call { callee := .builtin .clear, args := #[x], argTypes := #[t] }, ty, pos, aft, g⟩).run P w = .ok (.value (.tuple #[])) w1 := by
    intro v w1 hv hrun
    have h1 : execOp a.eval ⟨none, .call { callee := .builtin .clear, args := #[x], argTypes := #[t] }, ty, pos, aft, g⟩ = (do pure (.value (← Builtin.clear_ #[t] ty #[v])) : Sem Next) := by
      simp only [execOp, resolve, List.map_toArray, List.map_cons, List.map_nil, hv, pure_bind, invoke, builtin]
    rw [h1, Sem.run_bind, hrun]
    rfl
  have stay : cs' = cs → (execOp a.eval ⟨none, .call { callee := .builtin .clear, args := #[x], argTypes := #[t] }, ty, pos, aft, g⟩).run P w = .ok (.value (.tuple #[])) w → (⟨none, .call { callee := .builtin .clear, args := #[x], argTypes := #[t] }, ty, pos, aft, g⟩ : Oper).wp P a w K Q := by
    intro hcc hex
    subst hcc
    unfold Oper.wp
    rw [hex]
    exact h _ _ ⟨β, X, hr.next0 (full_rep a hr.defers) (fun _ _ h => ⟨h, rfl⟩) (fun _ _ h => .inl h) (ExtB.refl β) (hr.mem.drop (fun id' hf => by rw [St.free_put] at hf; split at hf; cases hf; exact hf) (fun id' ds hk => by
      rw [St.get_put] at hk
      split at hk
      · rename_i e; subst e; simp only [Option.some.injEq] at hk; subst hk; exact hg
      · exact hk))⟩
  simp only [V] at e2
  rcases e2 with ⟨_, rfl, rfl, e3⟩ | ⟨b, N, cap, hβ, e5, c1, c2, c3⟩
  · refine stay (by simpa using hcs.symm) (hexec0 _ _ e3 ?_)
    simp [Builtin.clear_, run_underlying ht]
  · rcases Nat.eq_zero_or_pos m with rfl | hm
    · refine stay (by simpa using hcs.symm) (hexec0 _ _ e5 ?_)
      simp [Builtin.clear_, run_underlying ht]
    · have ho := hr.mem.obj id cs hg
      unfold OB at ho
      rw [hβ] at ho
      obtain ⟨p1, p2, us, rest, ety, p3, p4, p5, p6⟩ := ho
      have hul := VS_len p5
      obtain ⟨zv, hzv, hzc⟩ := he.zeroValue w
      have hzc1 : (Builtin.zeroCells zv.cells m).toList = List.replicate m z := by
        rw [hzc]
        simp [Builtin.zeroCells]
        apply List.ext_getElem
        · simp
        · intro i h1 h2
          simp [Nat.mod_one]
      have hst := run_storeCells_at P b off ety (List.replicate m z) 0 (us ++ rest).toArray w p3 (by simp; omega) (by intro v hv'; rw [List.eq_of_mem_replicate hv']; exact hz)
      simp only [Nat.add_zero, List.length_replicate] at hst
      have hlist : (us ++ rest).toArray.toList.take off ++ List.replicate m z ++ (us ++ rest).toArray.toList.drop (off + m) = (us.take off ++ List.replicate m z ++ us.drop (off + m)) ++ rest := by
        simp only []
        rw [List.take_append_of_le_length (by omega), List.drop_append_of_le_length (by omega)]
        simp
      rw [hlist] at hst
      have hG := Eng.Good.setRow (gd_one p3) 0 (cs := us ++ rest) rfl ((us.take off ++ List.replicate m z ++ us.drop (off + m)) ++ rest)
      simp only [List.set_cons_zero] at hG
      have hev : VS X w β (List.replicate m (evC z)) (List.replicate m z) := by have := VS_evC (X := X) (w := w) (β := β) (List.replicate m z); simpa using this
      obtain ⟨hm1, hx1⟩ := hr.mem.write (cs' := cs') hg hβ hG (by simp only [List.length_append, List.length_take, List.length_drop, List.length_replicate]; omega)
        (by rw [← hcs]; exact VS_app (VS_app (VS_take p5 off) hev) (VS_drop p5 _))
        (by intro q hq; simp only [List.mem_append] at hq; rcases hq with (hq | hq) | hq; exact p6 q (List.mem_of_mem_take hq); rw [List.eq_of_mem_replicate hq]; exact hz; exact p6 q (List.mem_of_mem_drop hq))
      obtain ⟨k, rfl⟩ : ∃ k, m = k + 1 := ⟨m - 1, by omega⟩
      have hrun : (Builtin.clear_ #[t] ty #[.slice (some ⟨b, off, none⟩) (k + 1) cap]).run P w = .ok (.tuple #[]) (w.setRow b ((us.take off ++ List.replicate (k + 1) z ++ us.drop (off + (k + 1))) ++ rest).toArray) := by
        simp only [Builtin.clear_]
        simp [run_underlying ht, hzv, hzc1, hst]
      have hexec := hexec0 _ _ e5 hrun
      unfold Oper.wp
      rw [hexec]
      exact h _ _ ⟨β, X, hr.next0 (full_rep a hr.defers) hx1 (fun _ _ h => .inl h) (ExtB.refl β) hm1⟩
theorem n_copyC {d : Option Nat} {dT sT ty e : TypeId} {by' : Nat} {zero : List Value} {agg : Bool} {x y : Operand} {vy : A} {id off m k : Nat} {cs news cs' : List A} {pos aft g} (c : Nat) (ht : P.underlying dT = some (.slice e)) (he : TI P e 1 by' zero agg) (hx : ev E x = some (.sl id 1 off m)) (hg : st.get id = some cs) (hy : ev E y = some vy) (hn : SM st vy = some (k, news)) (hnl : news.length = k)
    (hc : c = Nat.min k m) (hc0 : 0 < c) (hfit : off + c ≤ cs.length) (hcs : cs.take off ++ news.take c ++ cs.drop (off + c) = cs') (hd : okDst n d = true) (h : At w0 X0 n (E.put d (.i .i64 (c : Int))) (st.put id cs') K) :
    At w0 X0 n E st (fun a w => (⟨d, .call { callee := .builtin .copy, args := #[x, y], argTypes := #[dT, sT] }, ty, pos, aft, g⟩ : Oper).wp P a w K Q) := by
  rintro a w ⟨β, X, hr⟩
  obtain ⟨e1, e2⟩ := hr.evo hx
  obtain ⟨e3, e4⟩ := hr.evo hy
  have hck : c ≤ k := by rw [hc]; exact Nat.min_le_left _ _
  have hcm : c ≤ m := by rw [hc]; exact Nat.min_le_right _ _
  obtain ⟨ay, cy, nus, f1, f2, f3, f4⟩ := slice_cells (s := 1) hr.toRelQ e4 hn (by omega)
  have hsl := f4 w .refl
  have hnu := VS_len f2
  simp only [V] at e2
  rcases e2 with ⟨_, rfl, _⟩ | ⟨b, N, cap, hβ, e5, c1, c2, c3⟩
  · omega
  · have ho := hr.mem.obj id cs hg
    unfold OB at ho
    rw [hβ] at ho
    obtain ⟨p1, p2, us, rest, ety, p3, p4, p5, p6⟩ := ho
    have hul := VS_len p5
    have hax := hsl.addr (by omega)
    have hnt : (nus.take c).length = c := by rw [List.length_take]; omega
    obtain ⟨⟨i, z, i1, i2, i3, i4, i5⟩, hu⟩ := he
    have hrun := run_copy_row (P := P) w dT sT ty e b off m cap ⟨ab ay, ao ay, none⟩ k cy (us ++ rest).toArray ety (nus.take c) ht (by rw [i1]; simp [i3]) p3 (by rw [hnt, hc])
      (fun j u hj => by
        rw [List.getElem?_take] at hj
        split at hj
        · rw [addr_add]; exact hsl.cell j u hj
        · cases hj) (by simp; omega) (fun q hq => f3 q (List.mem_of_mem_take hq))
    rw [← hax] at hrun
    rw [hnt] at hrun
    have hlist : (us ++ rest).toArray.toList.take off ++ nus.take c ++ (us ++ rest).toArray.toList.drop (off + c) = (us.take off ++ nus.take c ++ us.drop (off + c)) ++ rest := by
      simp only []
      rw [List.take_append_of_le_length (by omega), List.drop_append_of_le_length (by omega)]
      simp
    rw [hlist] at hrun
    have hG := Eng.Good.setRow (gd_one p3) 0 (cs := us ++ rest) rfl ((us.take off ++ nus.take c ++ us.drop (off + c)) ++ rest)
    simp only [List.set_cons_zero] at hG
    obtain ⟨hm1, hx1⟩ := hr.mem.write (cs' := cs') hg hβ hG (by simp only [List.length_append, List.length_take, List.length_drop]; omega)
      (by rw [← hcs]; exact VS_app (VS_app (VS_take p5 off) (VS_take f2 c)) (VS_drop p5 _))
      (by intro q hq; simp only [List.mem_append] at hq; rcases hq with (hq | hq) | hq; exact p6 q (List.mem_of_mem_take hq); exact f3 q (List.mem_of_mem_take hq); exact p6 q (List.mem_of_mem_drop hq))
    have hexec : (execOp a.eval ⟨d, .call { callee := .builtin .copy, args := #[x, y], argTypes := #[dT, sT] }, ty, pos, aft, g⟩).run P w = .ok (.value (goInt c)) (w.setRow b (us.take off ++ nus.take c ++ us.drop (off + c) ++ rest).toArray) := by
      have h1 : execOp a.eval ⟨d, .call { callee := .builtin .copy, args := #[x, y], argTypes := #[dT, sT] }, ty, pos, aft, g⟩ = (do pure (.value (← Builtin.copy_ #[dT, sT] ty #[.slice (some ⟨b, off, none⟩) m cap, .slice ay k cy])) : Sem Next) := by
        simp only [execOp, resolve, List.map_toArray, List.map_cons, List.map_nil, e5, f1, pure_bind, invoke, builtin]
      rw [h1, Sem.run_bind, hrun]
      rfl
    unfold Oper.wp
    rw [hexec]
    refine h _ _ ⟨β, X, ?_⟩
    have hkk : goInt c = .int .i64 (c : Int) := rfl
    cases d with
    | none => exact hr.next0 (full_rep a hr.defers) hx1 (fun _ _ h => .inl h) (ExtB.refl β) hm1
    | some d => exact hr.putv hd hx1 (fun _ _ h => .inl h) (ExtB.refl β) hm1 (by rw [hkk]; simp only [V])
theorem upd_1 {s0 : St} {ow : Bool} {k : Nat} {c c0 : List A} (h : s0.get k = some c0) (hp : PureL c) (hf : FlatL c) : ∀ p ∈ [(k, c)], (∃ cs, s0.get p.1 = some cs) ∧ PureL p.2 ∧ (ow = false ∨ FlatL p.2) := fun p hq => by
  simp only [List.mem_singleton] at hq
  subst hq
  exact ⟨⟨c0, h⟩, hp, .inr hf⟩
theorem retS_1 {r : A} {k : Nat} {c : List A} (h : st.get k = some c) : RetS r [(k, c)] r st := ⟨rfl, fun p hq => by
  simp only [List.mem_singleton] at hq
  subst hq
  exact h⟩
end
end Go.Abs
-- D2Q
namespace Go.Abs.D2
open Go Go.Abs
def wpart (b : List UInt8) (o : Nat) : Nat → BitVec 32
  | 0 => 0
  | j + 1 => wpart b o j <<< 8 ||| c32 (b.getD (o + j) 0).toNat
theorem wpart_4 (b : List UInt8) (o : Nat) : wpart b o 4 = word b o := by
  simp only [wpart, Nat.add_zero]
  exact word_steps _ _ _ _
theorem part_0 (b : List UInt8) (i : Nat) (h : i < 16) : (words b i).map w32 ++ List.replicate (64 - i) (w32 0) = (words b i).map w32 ++ [w32 (wpart b (4 * i) 0)] ++ List.replicate (63 - i) (w32 0) := by
  rw [show 64 - i = (63 - i) + 1 by omega, List.replicate_succ]
  simp [wpart]
theorem part_end (b : List UInt8) (i : Nat) (h : i < 16) : (words b i).map w32 ++ [w32 (wpart b (4 * i) 4)] ++ List.replicate (63 - i) (w32 0) = (words b (i + 1)).map w32 ++ List.replicate (64 - (i + 1)) (w32 0) := by
  rw [words_succ, wpart_4, show 64 - (i + 1) = 63 - i by omega]
  simp
theorem get_part (b : List UInt8) (i j : Nat) : (((words b i).map w32 ++ [w32 (wpart b (4 * i) j)] ++ List.replicate (63 - i) (w32 0)).drop (0 + i * 1))[0]? = some (w32 (wpart b (4 * i) j)) := by
  rw [List.getElem?_drop, List.append_assoc, List.getElem?_append_right (by simp)]
  simp
theorem set_part (b : List UInt8) (i j : Nat) : ((words b i).map w32 ++ [w32 (wpart b (4 * i) j)] ++ List.replicate (63 - i) (w32 0)).set (0 + i * 1) (w32 (wpart b (4 * i) (j + 1))) = (words b i).map w32 ++ [w32 (wpart b (4 * i) (j + 1))] ++ List.replicate (63 - i) (w32 0) := by
  rw [List.append_assoc, List.set_append_right _ _ (by simp)]
  simp
def sumS (s t : S8) (i : Nat) : List (BitVec 32) := (s.add t).l.take i ++ s.l.drop i
theorem len_sumS (s t : S8) (i : Nat) : (sumS s t i).length = 8 := by
  simp [sumS]; omega
theorem sum_8 (s t : S8) : sumS s t 8 = (s.add t).l := rfl
theorem set_sum (s t : S8) (i : Nat) (h : i < 8) : ((sumS s t i).map w32).set (0 + i * 1) (w32 ((sumS s t i).getD i 0 + t.l.getD i 0)) = (sumS s t (i + 1)).map w32 := by
  match i, h with
  | 0, _ => rfl
  | 1, _ => rfl
  | 2, _ => rfl
  | 3, _ => rfl
  | 4, _ => rfl
  | 5, _ => rfl
  | 6, _ => rfl
  | 7, _ => rfl
def gK : List A := match lookG glob 0 with | some vs => vs.map evC | none => []
theorem gK_eq : gK = kTab.map w32 := by kernel_rfl
theorem getK (t : Nat) (h : t < 64) : (gK.drop (t * 1))[0]? = some (w32 (kTab.getD t 0)) :=
  getW1 t (by simpa using h) (by rw [gK_eq])
abbrev slA (p : List UInt8) : A := .fz p.length (p.map u8)
def hs (s : List UInt8) : S8 := absAll (s.length / 64) h0 s
def rem (s : List UInt8) : List UInt8 := s.drop (64 * (s.length / 64))
@[simp] theorem len_rem (s : List UInt8) : (rem s).length = s.length % 64 := by
  simp only [rem, List.length_drop]; omega
theorem hs_rem (s : List UInt8) : s = s.take (64 * (s.length / 64)) ++ rem s := (List.take_append_drop _ _).symm
theorem rem_app {s c : List UInt8} (h : s.length % 64 + c.length < 64) : rem (s ++ c) = rem s ++ c ∧ hs (s ++ c) = hs s ∧ (s ++ c).length % 64 = s.length % 64 + c.length := by
  have hd : (s ++ c).length / 64 = s.length / 64 := by simp only [List.length_append]; omega
  refine ⟨?_, ?_, by simp only [List.length_append]; omega⟩
  · unfold rem
    rw [hd, List.drop_append_of_le_length (by omega)]
  · unfold hs
    rw [hd]
    conv => lhs; rw [hs_rem s, List.append_assoc]
    conv => rhs; rw [hs_rem s]
    rw [absAll_cut _ _ _ _ (by simp; omega), absAll_cut _ _ _ _ (by simp; omega)]
theorem rem_full {s c : List UInt8} (h : s.length % 64 + c.length = 64) : rem (s ++ c) = [] ∧ hs (s ++ c) = comp (hs s) (rem s ++ c) ∧ (s ++ c).length % 64 = 0 := by
  have hl : (s ++ c).length = 64 * (s.length / 64 + 1) := by simp only [List.length_append]; omega
  have hd : (s ++ c).length / 64 = s.length / 64 + 1 := by omega
  refine ⟨?_, ?_, by omega⟩
  · unfold rem
    exact List.drop_eq_nil_of_le (by omega)
  · unfold hs
    rw [hd, absAll_snoc, List.drop_append_of_le_length (by omega)]
    congr 1
    · conv => lhs; rw [hs_rem s, List.append_assoc]
      conv => rhs; rw [hs_rem s]
      rw [absAll_cut _ _ _ _ (by simp; omega), absAll_cut _ _ _ _ (by simp; omega)]
    · exact List.take_of_length_le (by have := len_rem s; unfold rem at this; simp only [List.length_append, this]; omega)
abbrev fitN (p s : List UInt8) (j : Nat) : Nat := Nat.min (p.length - j) (64 - s.length % 64)
theorem buf_copy (s tl p : List UInt8) (j c : Nat) :
    ((rem s ++ tl).map u8).take (s.length % 64) ++ ((p.drop j).map u8).take c ++ ((rem s ++ tl).map u8).drop (s.length % 64 + c) = (rem s ++ (p.drop j).take c ++ tl.drop c).map u8 := by
  rw [← List.map_take, ← List.map_take, ← List.map_drop, ← List.map_append, ← List.map_append]
  rw [List.take_left' (len_rem s), ← List.drop_drop, List.drop_left' (len_rem s)]
theorem getP {parts : List (List UInt8)} {p : List UInt8} {i : Nat} (h : parts[i]? = some p) : ((parts.map slA).drop (i * 1))[0]? = some (slA p) := by
  rw [List.getElem?_drop, List.getElem?_map, show i * 1 + 0 = i by omega, h]; rfl
theorem cut_p (p : List UInt8) (j c : Nat) : (((p.drop j).map u8).drop (c * 1)).take ((p.length - (j + c)) * 1) = (p.drop (j + c)).map u8 := by
  rw [Nat.mul_one, Nat.mul_one, ← List.map_drop, List.drop_drop]
  exact List.take_of_length_le (by simp)
theorem take_p (p : List UInt8) (j c : Nat) : p.take j ++ (p.drop j).take c = p.take (j + c) := by rw [← List.take_add]
theorem cat_p {parts : List (List UInt8)} {p : List UInt8} {i : Nat} (h : parts[i]? = some p) : (parts.take i).flatten ++ p.take p.length = (parts.take (i + 1)).flatten := by
  rw [List.take_add_one, h, List.take_length]; simp
theorem set_128 (s tl : List UInt8) (ht : tl.length = 64 - s.length % 64) : ((rem s ++ tl).map u8).set (0 + s.length % 64 * 1) (.i .u8 128) = (rem s ++ [128] ++ tl.drop 1).map u8 := by
  have : tl ≠ [] := by intro h; subst h; simp at ht; omega
  obtain ⟨x, r, rfl⟩ := List.exists_cons_of_ne_nil this
  rw [List.map_append, List.set_append_right _ _ (by simp)]
  simp
theorem fill_0 (s tl : List UInt8) (ht : tl.length = 64 - s.length % 64) (o : Nat) (ho : o = 0 + (if 64 = s.length % 64 + 1 then 0 else (s.length % 64 + 1) * 1)) :
    ((rem s ++ [128] ++ tl.drop 1).map u8).take o ++ List.replicate (64 - (s.length % 64 + 1)) (evC (.int .u8 0)) ++ ((rem s ++ [128] ++ tl.drop 1).map u8).drop (o + (64 - (s.length % 64 + 1))) = (rem s ++ [128] ++ List.replicate (63 - s.length % 64) 0).map u8 := by
  have he : evC (.int .u8 0) = u8 0 := rfl
  subst ho
  rw [he]
  by_cases h : 64 = s.length % 64 + 1
  · rw [if_pos h, show 64 - (s.length % 64 + 1) = 0 by omega, show 63 - s.length % 64 = 0 by omega, show tl.drop 1 = [] from List.drop_eq_nil_of_le (by omega)]
    simp
  · rw [if_neg h]
    have e1 : ((rem s ++ [128] ++ tl.drop 1).map u8).take (0 + (s.length % 64 + 1) * 1) = (rem s ++ [128]).map u8 := by
      rw [← List.map_take, List.take_left' (by simp)]
    have e2 : ((rem s ++ [128] ++ tl.drop 1).map u8).drop (0 + (s.length % 64 + 1) * 1 + (64 - (s.length % 64 + 1))) = [] := List.drop_eq_nil_of_le (by simp; omega)
    rw [e1, e2, show 64 - (s.length % 64 + 1) = 63 - s.length % 64 by omega]
    simp
theorem at0 (s p : List UInt8) : s ++ p.take 0 = s := by simp
theorem add_len (s p : List UInt8) : w64 (c64 s.length + c64 p.length) = w64 (c64 (s ++ p.take p.length).length) := by
  rw [List.take_length, List.length_append]
  exact congrArg w64 (BitVec.ofNat_add _ _).symm
theorem len_part {parts : List (List UInt8)} {p : List UInt8} (h : p ∈ parts) : p.length ≤ parts.flatten.length := by
  induction parts with
  | nil => cases h
  | cons q r ih =>
    simp only [List.flatten_cons, List.length_append]
    rcases List.mem_cons.1 h with rfl | h
    · omega
    · have := ih h; omega
theorem zeros_64 : (List.replicate 64 (Value.int .u8 0)).map evC = (rem [] ++ List.replicate 64 0).map u8 := by kernel_rfl
theorem clear_64 {l : List A} (h : l.length = 64) : l.take 0 ++ List.replicate 64 (evC (.int .u8 0)) ++ l.drop (0 + 64) = (List.replicate 64 (0 : UInt8)).map u8 := by
  rw [List.drop_eq_nil_of_le (by omega)]
  rfl
theorem next_full {s p tl : List UInt8} {j c : Nat} (hc : c ≤ p.length - j) (ht : tl.length = 64 - (s ++ p.take j).length % 64) (h : (s ++ p.take j).length % 64 + c = 64) :
    rem (s ++ p.take (j + c)) = [] ∧ hs (s ++ p.take (j + c)) = comp (hs (s ++ p.take j)) (rem (s ++ p.take j) ++ (p.drop j).take c ++ tl.drop c) ∧ (s ++ p.take (j + c)).length % 64 = 0 := by
  have e : (s ++ p.take j) ++ (p.drop j).take c = s ++ p.take (j + c) := by rw [List.append_assoc, take_p]
  have hl : ((p.drop j).take c).length = c := by rw [List.length_take, List.length_drop]; omega
  have := rem_full (s := s ++ p.take j) (c := (p.drop j).take c) (by omega)
  rw [e] at this
  rw [show tl.drop c = [] from List.drop_eq_nil_of_le (by omega), List.append_nil]
  exact this
theorem next_part {s p : List UInt8} {j c : Nat} (hc : c ≤ p.length - j) (h : (s ++ p.take j).length % 64 + c < 64) :
    rem (s ++ p.take (j + c)) = rem (s ++ p.take j) ++ (p.drop j).take c ∧ hs (s ++ p.take (j + c)) = hs (s ++ p.take j) ∧ (s ++ p.take (j + c)).length % 64 = (s ++ p.take j).length % 64 + c := by
  have e : (s ++ p.take j) ++ (p.drop j).take c = s ++ p.take (j + c) := by rw [List.append_assoc, take_p]
  have hl : ((p.drop j).take c).length = c := by rw [List.length_take, List.length_drop]; omega
  have := rem_app (s := s ++ p.take j) (c := (p.drop j).take c) (by omega)
  rw [e, hl] at this
  exact this
def lastS (s : List UInt8) : S8 := if s.length % 64 + 1 > 56 then comp (hs s) (rem s ++ [128] ++ List.replicate (63 - s.length % 64) 0) else hs s
def lastB (s : List UInt8) : List UInt8 := if s.length % 64 + 1 > 56 then List.replicate 56 0 else rem s ++ [128] ++ List.replicate (55 - s.length % 64) 0
theorem len_lastB (s : List UInt8) : (lastB s).length = 56 := by
  unfold lastB; split <;> simp; omega
theorem lastB_far {s : List UInt8} (h : s.length % 64 + 1 > 56) : (List.replicate 64 (0 : UInt8)).map u8 = (lastB s ++ List.replicate (8 - 0) 0 ++ (be64 (8 * s.length)).drop (8 - 0)).map u8 := by
  rw [lastB, if_pos h, List.drop_eq_nil_of_le (by simp), List.append_nil, List.replicate_append_replicate]
theorem lastB_near {s : List UInt8} (h : ¬ s.length % 64 + 1 > 56) : (rem s ++ [128] ++ List.replicate (63 - s.length % 64) 0).map u8 = (lastB s ++ List.replicate (8 - 0) 0 ++ (be64 (8 * s.length)).drop (8 - 0)).map u8 := by
  rw [lastB, if_neg h, List.drop_eq_nil_of_le (by simp), List.append_nil, List.append_assoc _ _ (List.replicate (8 - 0) 0), List.replicate_append_replicate, show 55 - s.length % 64 + (8 - 0) = 63 - s.length % 64 by omega]
theorem set_be (s : List UInt8) (i : Nat) (x : UInt8) (hi : i < 8) (hx : x = UInt8.ofNat (8 * s.length / 2 ^ (8 * i))) :
    ((lastB s ++ List.replicate (8 - i) 0 ++ (be64 (8 * s.length)).drop (8 - i)).map u8).set (0 + (63 - i) * 1) (u8 x) = (lastB s ++ List.replicate (8 - (i + 1)) 0 ++ (be64 (8 * s.length)).drop (8 - (i + 1))).map u8 := by
  subst hx
  have hl := len_lastB s
  rw [← List.map_set, show 8 - i = (8 - (i + 1)) + 1 by omega, List.replicate_succ', ← List.append_assoc, List.append_assoc (lastB s ++ _), List.set_append_right _ _ (by simp; omega)]
  congr 2
  have hd : (be64 (8 * s.length)).drop (8 - (i + 1)) = UInt8.ofNat (8 * s.length / 2 ^ (8 * i)) :: (be64 (8 * s.length)).drop (8 - (i + 1) + 1) := by
    rw [List.drop_eq_getElem_cons (by simp; omega)]
    congr 1
    have := be64_at (8 * s.length) (8 - (i + 1)) (by omega)
    rw [List.getElem?_eq_getElem (by simp; omega)] at this
    rw [Option.some.inj this, show 7 - (8 - (i + 1)) = i by omega]
  rw [hd, show 0 + (63 - i) * 1 - (lastB s ++ List.replicate (8 - (i + 1)) (0 : UInt8)).length = 0 by simp; omega]
  rfl
def fin (s : List UInt8) : S8 := absAll ((pad s).length / 64) h0 (pad s)
theorem fin_last (s : List UInt8) : comp (lastS s) (lastB s ++ be64 (8 * s.length)) = fin s := by
  have hr := len_rem s
  have hz := zeros_spec s.length
  have hp := len_pad s
  have split : pad s = s.take (64 * (s.length / 64)) ++ (rem s ++ [128] ++ List.replicate (zeros s.length) 0 ++ be64 (8 * s.length)) := by
    conv => lhs; rw [pad]; rw [hs_rem s]
    have : (s.take (64 * (s.length / 64)) ++ rem s).length = s.length := by rw [← hs_rem s]
    rw [this]
    simp [List.append_assoc]
  have hhs : absAll (s.length / 64) h0 (s.take (64 * (s.length / 64))) = hs s := by
    unfold hs
    conv => rhs; rw [hs_rem s]
    rw [absAll_cut _ _ _ _ (by simp; omega)]
    congr 1
    simp; omega
  unfold fin
  by_cases h : s.length % 64 + 1 > 56
  · have hzz : zeros s.length = (63 - s.length % 64) + 56 := by omega
    rw [show (pad s).length / 64 = s.length / 64 + (1 + 1) by omega, split, absAll_app _ _ _ _ _ (by simp; omega), hhs, lastS, lastB, if_pos h, if_pos h, hzz, ← List.replicate_append_replicate]
    rw [show rem s ++ [128] ++ (List.replicate (63 - s.length % 64) 0 ++ List.replicate 56 0) ++ be64 (8 * s.length) = (rem s ++ [128] ++ List.replicate (63 - s.length % 64) 0) ++ (List.replicate 56 0 ++ be64 (8 * s.length)) by simp [List.append_assoc]]
    rw [absAll_app 1 1 _ _ _ (by simp; omega)]
    simp only [absAll]
    rw [List.take_of_length_le (by simp; omega), List.take_of_length_le (by simp)]
  · have hzz : zeros s.length = 55 - s.length % 64 := by omega
    rw [show (pad s).length / 64 = s.length / 64 + 1 by omega, split, absAll_app _ _ _ _ _ (by simp; omega), hhs, lastS, lastB, if_neg h, if_neg h, hzz]
    simp only [absAll]
    rw [List.take_of_length_le (by simp; omega)]
end Go.Abs.D2
-- D2R
namespace Go.Abs.D2
open Go Go.Eng Go.Abs
@[irreducible] def halfN (n : Nat) : Nat := 2 ^ (n - 1).log2
theorem halfN_lt {n : Nat} (h : 2 ≤ n) : 0 < halfN n ∧ halfN n < n ∧ n ≤ 2 * halfN n := by
  unfold halfN
  have h1 := Nat.log2_self_le (n := n - 1) (by omega)
  have h2 := Nat.lt_log2_self (n := n - 1)
  rw [Nat.pow_succ] at h2
  exact ⟨Nat.two_pow_pos _, by omega, by omega⟩
end Go.Abs.D2
-- D2T
namespace Go.Abs.D2
open Go Go.Eng Go.Abs
def D32 (L : List (List UInt8)) : Prop := ∀ x ∈ L, x.length = 32
theorem D32.take {L : List (List UInt8)} (h : D32 L) (k : Nat) : D32 (L.take k) := fun x hx => h x (List.mem_of_mem_take hx)
theorem D32.drop {L : List (List UInt8)} (h : D32 L) (k : Nat) : D32 (L.drop k) := fun x hx => h x (List.mem_of_mem_drop hx)
theorem D32.len {L : List (List UInt8)} (h : D32 L) : L.flatten.length = L.length * 32 := by
  induction L with
  | nil => rfl
  | cons x L ih =>
    rw [List.flatten_cons, List.length_append, h x (.head _), ih fun y hy => h y (.tail _ hy), List.length_cons]; omega
def nodeD (a b : List UInt8) : List UInt8 := tagged [110, 111, 100, 101] (a ++ b)
def treeF : Nat → List (List UInt8) → List UInt8
  | _, [] => tagged [101, 109, 112, 116, 121] []
  | _, [x] => tagged [108, 101, 97, 102] x
  | 0, _ => []
  | f + 1, L => nodeD (treeF f (L.take (halfN L.length))) (treeF f (L.drop (halfN L.length)))
theorem treeF_two {f : Nat} {L : List (List UInt8)} (h : 2 ≤ L.length) : treeF (f + 1) L = nodeD (treeF f (L.take (halfN L.length))) (treeF f (L.drop (halfN L.length))) := by
  match L, h with
  | _ :: _ :: _, _ => rfl
theorem treeF_more : ∀ (f g : Nat) (L : List (List UInt8)), L.length ≤ f → L.length ≤ g → treeF f L = treeF g L
  | _, _, [], _, _ => by simp only [treeF]
  | _, _, [x], _, _ => by simp only [treeF]
  | 0, _, _ :: _ :: _, h, _ => by simp at h
  | _, 0, _ :: _ :: _, _, h => by simp at h
  | f + 1, g + 1, a :: b :: L, h1, h2 => by
    have hh := halfN_lt (n := (a :: b :: L).length) (by simp)
    have e : 2 ≤ (a :: b :: L).length := by simp
    rw [treeF_two e, treeF_two e]
    congr 1
    · exact treeF_more f g _ (by rw [List.length_take]; omega) (by rw [List.length_take]; omega)
    · exact treeF_more f g _ (by rw [List.length_drop]; omega) (by rw [List.length_drop]; omega)
@[irreducible] def tree (L : List (List UInt8)) : List UInt8 := treeF L.length L
theorem tree_nil : tree [] = tagged [101, 109, 112, 116, 121] [] := by unfold tree; rfl
theorem tree_one (x : List UInt8) : tree [x] = tagged [108, 101, 97, 102] x := by unfold tree; rfl
theorem tree_two {L : List (List UInt8)} (h : 2 ≤ L.length) : tree L = nodeD (tree (L.take (halfN L.length))) (tree (L.drop (halfN L.length))) := by
  have hh := halfN_lt h
  unfold tree
  obtain ⟨f, hf⟩ : ∃ f, L.length = f + 1 := ⟨L.length - 1, by omega⟩
  conv => lhs; rw [hf]
  rw [treeF_two h]
  congr 1
  · exact treeF_more _ _ _ (by rw [List.length_take]; omega) (Nat.le_refl _)
  · exact treeF_more _ _ _ (by rw [List.length_drop]; omega) (Nat.le_refl _)
@[simp] theorem len_tree (L : List (List UInt8)) : (tree L).length = 32 := by
  match L with
  | [] => rw [tree_nil, len_tagged]
  | [x] => rw [tree_one, len_tagged]
  | a :: b :: r => rw [tree_two (by simp)]; exact len_tagged _ _
theorem D32.app {L M : List (List UInt8)} (h : D32 L) (h' : D32 M) : D32 (L ++ M) := fun x hx => (List.mem_append.1 hx).elim (h x) (h' x)
theorem D32.one {x : List UInt8} (h : x.length = 32) : D32 [x] := fun y hy => by rw [List.mem_singleton.1 hy]; exact h
end Go.Abs.D2
-- AbsK
namespace Go.Abs
open Go Go.Eng
inductive GRun (P : Program) (ops : Array Oper) (n : Nat) (Eb : Ev) (st : St) (j : Nat) (want : Bool) : Ev → List Oper → Ev → List Oper → Prop where
  | done {E l} : GRun P ops n Eb st j want E l E l
  | step {E F : Ev} {d : Nat} {op : Op} {ty : TypeId} {pos : String} {aft : Array Edge} {v : A} {l rest : List Oper} (hy : YO P E st op ty v) (hd : Nat.ble (d + 1) n = true) (hf : Eb.at? d = none) (h : GRun P ops n Eb st j want ((d, v) :: E) l F rest) :
      GRun P ops n Eb st j want E (⟨some d, op, ty, pos, aft, some (j, want)⟩ :: l) F rest
section
variable {r : Option Nat} {ds0 : List Deferred}
variable {P : Program} {w0 : Bw} {X0 : Xs} {n : Nat} {E Eb F : Ev} {st : St} {ops : Array Oper} {Q : Exit → Act → World → Prop} {j t : Nat} {want : Bool} {l rest : List Oper}
theorem gr_yes (hj : guardSlot ops j = some t) (ht : Eb.at? t = some (.b want)) (h : GRun P ops n Eb st j want E l F rest) : E.at? t = some (.b want) → At w0 X0 n F st (Pw ds0 (wpListIn (rF r) 0 P ops Q rest)) → At w0 X0 n E st (Pw ds0 (wpListIn (rF r) 0 P ops Q l)) := by
  induction h with
  | done => exact fun _ h => h
  | @step E F d op ty pos aft v l rest hy hd hf h ih =>
    intro hE hK
    have hdt : d ≠ t := fun e => by subst e; rw [hf] at ht; cases ht
    refine g1 hj hE hy hd (ih ?_ hK)
    simp only [Ev.at?]
    rw [show Nat.beq d t = false from (by cases hb : Nat.beq d t with | false => rfl | true => exact absurd (Nat.eq_of_beq_eq_true hb) hdt)]
    exact hE
def skipB (j : Nat) (want : Bool) (Eb : Ev) (n : Nat) : Nat → List Oper → Bool
  | 0, _ => true
  | _ + 1, [] => false
  | k + 1, o :: r => match o.dst, o.guard with
    | some d, some (j', w) => Nat.beq j j' && (w == want) && Nat.ble (d + 1) n && (Eb.at? d).isNone && skipB j want Eb n k r
    | _, _ => false
theorem sk_no (hj : guardSlot ops j = some t) (ht : Eb.at? t = some (.b (!want))) : ∀ (k : Nat) (l : List Oper) (E1 : Ev), skipB j want Eb n k l = true → (∀ s v, Eb.at? s = some v → E1.at? s = some v) → At w0 X0 n Eb st (Pw ds0 (wpListIn (rF r) 0 P ops Q (l.drop k))) → At w0 X0 n E1 st (Pw ds0 (wpListIn (rF r) 0 P ops Q l))
  | 0, l, E1, _, hl, hK => fun a w hr => hK a w (hr.weaken hl (fun _ _ h => h) (fun _ h => h))
  | k + 1, [], _, h, _, _ => by cases h
  | k + 1, o :: r, E1, h, hl, hK => by
    simp only [skipB] at h
    split at h
    · rename_i d j' w hd hg
      simp only [Bool.and_eq_true, beq_iff_eq, Option.isNone_iff_eq_none] at h
      obtain ⟨⟨⟨⟨h1, h2⟩, h3⟩, h4⟩, h5⟩ := h
      have h1 := Nat.eq_of_beq_eq_true (by simpa using h1 : Nat.beq j j' = true)
      have h2 := h2.symm
      subst h1; subst h2
      obtain ⟨d', op, ty, pos, aft, g⟩ := o
      simp only at hd hg
      subst hd; subst hg
      refine g0 (b := want) (b' := !want) hj (hl _ _ ht) rfl h3 (sk_no hj ht k r _ h5 (fun s v hs => ?_) hK)
      simp only [Ev.at?]
      cases hb : Nat.beq d s with
      | true => rw [← Nat.eq_of_beq_eq_true hb, h4] at hs; cases hs
      | false => exact hl s v hs
    · cases h
theorem gr_lev (h : GRun P ops n Eb st j want E l F rest) : (∀ s u, Eb.at? s = some u → E.at? s = some u) → ∀ s u, Eb.at? s = some u → F.at? s = some u := by
  induction h with
  | done => exact fun h => h
  | @step E F d op ty pos aft v l rest hy hd hf h ih =>
    intro hl
    refine ih fun s u hs => ?_
    simp only [Ev.at?]
    cases hb : Nat.beq d s with
    | true => rw [← Nat.eq_of_beq_eq_true hb, hf] at hs; cases hs
    | false => exact hl s u hs
variable {d : Nat} {ty : TypeId} {pos : String} {aft : Array Edge} {x y : Operand} {b c : Bool}
theorem gr_end {E' : Ev} {u : A} {K : Act → World → Prop} (hF : ∀ s v, E.at? s = some v → E'.at? s = some v) (h : At w0 X0 n ((d, u) :: E) st K) : At w0 X0 n ((d, u) :: E') st K := fun a w hr =>
  h a w (hr.weaken (fun s v hs => by
    simp only [Ev.at?] at hs ⊢
    cases hb : Nat.beq d s with
    | true => rw [hb] at hs; exact hs
    | false => rw [hb] at hs; exact hF s v hs) (fun _ _ h => h) (fun _ h => h))
theorem g_or (k : Nat) (hj : guardSlot ops j = some t) (ht : E.at? t = some (.b b)) (hB : skipB j false E n k l = true) (hl : l.drop k = ⟨some d, .pick (.tmp t) (.const (.bool true)) y, ty, pos, aft, none⟩ :: rest)
    (hrun : b = false → GRun P ops n E st j false E l F (l.drop k)) (hy : ev F y = some (.b c)) (hd : Nat.ble (d + 1) n = true)
    (h : At w0 X0 n ((d, .b (b || c)) :: E) st (Pw ds0 (wpListIn (rF r) 0 P ops Q rest))) : At w0 X0 n E st (Pw ds0 (wpListIn (rF r) 0 P ops Q l)) := by
  cases b with
  | true =>
    refine sk_no (want := false) hj ht k l E hB (fun _ _ h => h) ?_
    rw [hl]
    refine s1 (v := .b true) (y_p ?_) hd h
    have e : ev E (.tmp t) = some (.b true) := ht
    simp only [pevA, e]
    rfl
  | false =>
    have hg := hrun rfl
    have hlv := gr_lev hg (fun _ _ h => h)
    refine gr_yes hj ht hg ht ?_
    rw [hl]
    refine s1 (v := .b c) (y_p ?_) hd (gr_end hlv h)
    have e : ev F (.tmp t) = some (.b false) := hlv _ _ ht
    simp only [pevA, e, hy]
theorem g_and (k : Nat) (hj : guardSlot ops j = some t) (ht : E.at? t = some (.b b)) (hB : skipB j true E n k l = true) (hl : l.drop k = ⟨some d, .pick (.tmp t) y (.const (.bool false)), ty, pos, aft, none⟩ :: rest)
    (hrun : b = true → GRun P ops n E st j true E l F (l.drop k)) (hy : ev F y = some (.b c)) (hd : Nat.ble (d + 1) n = true)
    (h : At w0 X0 n ((d, .b (b && c)) :: E) st (Pw ds0 (wpListIn (rF r) 0 P ops Q rest))) : At w0 X0 n E st (Pw ds0 (wpListIn (rF r) 0 P ops Q l)) := by
  cases b with
  | false =>
    refine sk_no (want := true) hj ht k l E hB (fun _ _ h => h) ?_
    rw [hl]
    refine s1 (v := .b false) (y_p ?_) hd h
    have e : ev E (.tmp t) = some (.b false) := ht
    simp only [pevA, e]
    rfl
  | true =>
    have hg := hrun rfl
    have hlv := gr_lev hg (fun _ _ h => h)
    refine gr_yes hj ht hg ht ?_
    rw [hl]
    refine s1 (v := .b c) (y_p ?_) hd (gr_end hlv h)
    have e : ev F (.tmp t) = some (.b true) := hlv _ _ ht
    simp only [pevA, e, hy]
end
end Go.Abs
-- AbsM
namespace Go.Abs
open Go Go.Eng
theorem fill_part (size : Nat) : ∀ (vs : List (Value × List Value)) (k : Nat) (pre z : List Value), (∀ p ∈ vs, p.1.cells = p.2.toArray ∧ p.2.length = size) → pre.length = k * size → vs.length * size ≤ z.length →
    Instr.fill (fun i => some (i * size, size)) (pre ++ z).toArray (idxd vs k) = some (pre ++ flat vs ++ z.drop (vs.length * size)).toArray
  | [], _, pre, z, _, _, _ => by simp [idxd, flat, Instr.fill]
  | (v, c) :: r, k, pre, z, hv, hp, hz => by
    obtain ⟨h1, h2⟩ := hv (v, c) (by simp)
    simp only at h1 h2
    have hz' : (r.length + 1) * size ≤ z.length := by simpa using hz
    rw [Nat.add_mul, Nat.one_mul] at hz'
    simp only [idxd, Instr.fill, h1, List.size_toArray, h2]
    have hno : ¬ ((decide (size ≠ size) || decide (k * size + size > (pre ++ z).length)) = true) := by
      rw [List.length_append, hp]
      simp; omega
    rw [if_neg hno]
    have hw := wr_cells c 0 (k * size) pre z (by omega) (by omega)
    have ez : c.toArray.zipIdx = (c.zipIdx 0).toArray := by simp
    rw [ez, List.foldl_toArray]
    refine Eq.trans (congrArg (fun a => Instr.fill (fun i => some (i * size, size)) a (idxd r (k + 1))) hw) ?_
    rw [fill_part size r (k + 1) (pre ++ c) (z.drop c.length) (fun p hp => hv p (by simp [hp])) (by rw [List.length_append, hp, h2, Nat.add_mul, Nat.one_mul]) (by rw [List.length_drop]; omega)]
    simp only [flat, List.drop_drop, List.length_cons, h2, List.append_assoc]
    rw [show size + r.length * size = (r.length + 1) * size by rw [Nat.add_mul, Nat.one_mul]; omega]
section
variable {P : Program} {w0 : Bw} {X0 : Xs} {n : Nat} {E : Ev} {st : St} {β : Bm} {X : Xs} {a : Act} {w : World} {Q : Exit → Act → World → Prop} {K : Act → World → Prop}
theorem y_bldP {t e : TypeId} {len size by' by2 : Nat} {zero zero' : List Value} {agg : Bool} {parts : List (Nat × Operand)} {vs out : List A} {ty : TypeId} (ht : TI P t len by' zero true) (hzl : zero.length = len) (hz1 : zero.all (·.oneCell') = true) (hu : P.underlying t = some (.array len e)) (he : TI P e size by2 zero' agg) (hs : size = 1)
    (hp : pvA E parts 0 = some vs) (hlen : vs.length ≤ len) (h1 : vs.all one = true) (ho : vs ++ (zero.map evC).drop vs.length = out) : YO P E st (.build t parts.toArray) ty (.ag out) := by
  subst hs; subst ho
  intro w0 X0 n β X a w hr
  have key : ∀ (parts : List (Nat × Operand)) (k : Nat) (vs : List A), pvA E parts k = some vs → vs.all one = true → ∃ us : List Value, evps (full a) parts = some (idxd (ones us) k) ∧ VS X w β vs us ∧ ∀ x ∈ us, x.oneCell' = true := by
    intro parts
    induction parts with
    | nil => intro k vs h _; simp only [pvA, Option.some.injEq] at h; subst h; exact ⟨[], rfl, VS_nil, (fun x hx => by cases hx)⟩
    | cons p r ih =>
      intro k vs h h1
      obtain ⟨i, x⟩ := p
      simp only [pvA] at h
      split at h
      · rename_i v vs' hik hx hrest
        simp only [Option.some.injEq] at h
        subst h
        simp only [List.all_cons, Bool.and_eq_true] at h1
        have : i = k := Nat.eq_of_beq_eq_true hik
        subst this
        obtain ⟨us, g1, g2, g3⟩ := ih (i + 1) vs' hrest h1.2
        obtain ⟨e1, e2⟩ := hr.evo hx
        exact ⟨a.eval x :: us, by simp only [evps, e1, g1, ones, idxd], VS_cons e2 g2, fun q hq => by rcases List.mem_cons.1 hq with rfl | hq; exact V_one h1.1 e2; exact g3 q hq⟩
      · cases h
  obtain ⟨us, g1, g2, g3⟩ := key parts 0 vs hp h1
  have hul := VS_len g2
  have hzv : VS X w β ((zero.map evC).drop vs.length) (zero.drop vs.length) := VS_drop (VS_evC zero) _
  refine ⟨.agg (us ++ zero.drop us.length).toArray, ?_, fun d pos aft g w' _ => ?_⟩
  · simp only [V]
    refine ⟨_, rfl, VS_app g2 (by rw [hul]; exact hzv), fun x hx => ?_⟩
    rcases List.mem_append.1 hx with hx | hx
    · exact g3 x hx
    · exact List.all_eq_true.1 hz1 x (List.mem_of_mem_drop hx)
  obtain ⟨z, hz', hzc⟩ := ht.zeroValue w'
  have hfill : Instr.fill (fun i => some (i * 1, 1)) zero.toArray (idxd (ones us) 0) = some (us ++ zero.drop us.length).toArray := by
    have hol : ∀ l : List Value, (ones l).length = l.length := fun l => by induction l with | nil => rfl | cons x l ih => simp [ones, ih]
    have := fill_part 1 (ones us) 0 [] zero (ones_ok g3) (by simp) (by rw [hol, hul, hzl]; omega)
    rw [List.nil_append, List.nil_append, flat_ones, hol, Nat.mul_one] at this
    exact this
  have : (Instr.build t (idxd (ones us) 0).toArray).run P w' = .ok (.agg (us ++ zero.drop us.length).toArray) w' := by
    unfold Instr.build
    rw [Sem.run_bind, hz']
    simp only [Result.andThen_ok, hzc]
    rw [Sem.run_bind, run_underlying hu]
    simp only [Result.andThen_ok]
    rw [Sem.run_bind, he.sizeOf w']
    simp only [Result.andThen_ok, hfill]
    rfl
  have e : execOp a.eval ⟨d, .build t parts.toArray, ty, pos, aft, g⟩ = Next.value <$> Instr.build t (parts.toArray.map fun (i, x) => (i, a.eval x)) := by simp [execOp]
  have e0 : (parts.toArray.map fun (i, x) => (i, a.eval x)) = (idxd (ones us) 0).toArray := by rw [List.map_toArray, (full_rep a hr.defers).evps g1]
  rw [e, e0, Sem.run_map, this]
  rfl
theorem at_frzO (k j : Nat) {id s off m : Nat} {cs ds vs vs' : List A} (hk : st.get k = some vs) (hj : vs[j]? = some (.sl id s off m)) (hg : st.get id = some cs) (hne : Nat.beq id k = false) (hp : PureL cs) (hd : (cs.drop off).take (m * s) = ds) (hvs : vs.set j (.fz m ds) = vs') (h : At w0 X0 n E ((st.del id).put k vs') K) : At w0 X0 n E st K := by
  rintro a w ⟨β, X, hr⟩
  subst hd; subst hvs
  have hob := hr.mem.obj k vs hk
  have hne' : id ≠ k := Nat.ne_of_beq_eq_false hne
  obtain ⟨x, hβk⟩ : ∃ x, β k = some x := by
    unfold OB at hob
    split at hob
    · exact hob.elim
    · rename_i hb; exact ⟨_, hb⟩
    · rename_i hb; exact ⟨_, hb⟩
  cases x with
  | ph =>
    unfold OB at hob
    rw [hβk] at hob
    simp only at hob
    subst hob
    simp at hj
  | bk b N =>
    have hob' := hob
    unfold OB at hob
    rw [hβk] at hob
    simp only at hob
    obtain ⟨_, _, us, rest, ty, hw, hl, hvs, hone⟩ := hob
    obtain ⟨u, hu, hvu⟩ := VS_get hvs hj
    obtain ⟨X1, m1, m2, m3, m4⟩ := frz_V hr.mem hg hp hvu
    have hk1 : (st.del id).get k = some vs := by rw [St.get_del, if_neg hne']; exact hk
    have hob1 := m1.obj k vs hk1
    unfold OB at hob1
    rw [hβk] at hob1
    simp only at hob1
    obtain ⟨q1, q2, us', rest', ty', q3, q4, q5, q6⟩ := hob1
    have huse : us' ++ rest' = us ++ rest ∧ us'.length = us.length := by
      rw [hw] at q3
      have := Option.some.inj q3
      have h2 : (us ++ rest).toArray = (us' ++ rest').toArray := by
        unfold row at this
        injection this
      have h3 := VS_len q5
      have h4 := VS_len hvs
      exact ⟨by simpa using congrArg Array.toList h2.symm, by omega⟩
    have hus : us' = us := List.append_inj_left huse.1 huse.2
    subst hus
    have hset : VS X1 w β (vs.set j (.fz m ((cs.drop off).take (m * s)))) us' := by
      have := VS_set q5 (j := j) (m4 s off m u hvu)
      have e : us'.set j u = us' := by
        refine List.ext_getElem (by simp) fun i h1 h2 => ?_
        rw [List.getElem_set]
        split
        · rename_i e; subst e
          have := (List.getElem?_eq_some_iff.1 hu).2
          exact this.symm
        · rfl
      rwa [e] at this
    refine h a w ⟨β, X1, .of (fun b o h => (m2 b o (hr.x0 b o h)).1) (fun b o h => (m3 b o h).elim (hr.xn b o) .inr) (.of m1.below m1.b0 m1.xlt (fun i hi => ?_) (fun i c hi => ?_) (fun i i2 ci cj b M N hij hi hj' h1 h2 => ?_)) (hr.gl.mono m2) hr.size hr.defers (fun s hs => Sus.slots_mono m2 (hr.sslot s hs)) (fun t v ht => ?_)⟩
    · rw [St.free_put] at hi
      split at hi
      · cases hi
      · exact m1.dom i hi
    · rw [St.get_put] at hi
      split at hi
      · rename_i e; subst e
        simp only [Option.some.injEq] at hi
        subst hi
        unfold OB
        rw [hβk]
        exact ⟨q1, q2, us', rest', ty', q3, q4, hset, q6⟩
      · exact m1.obj i c hi
    · skip
      have g' : ∀ i c, ((st.del id).put k (vs.set j (.fz m ((cs.drop off).take (m * s))))).get i = some c → ∃ c', (st.del id).get i = some c' := fun i c hi => by
        rw [St.get_put] at hi
        split at hi
        · rename_i e; subst e; exact ⟨_, hk1⟩
        · exact ⟨c, hi⟩
      obtain ⟨c1, e1⟩ := g' _ _ hi
      obtain ⟨c2, e2⟩ := g' _ _ hj'
      exact m1.inj _ _ _ _ _ _ _ hij e1 e2 h1 h2
    · obtain ⟨u, g1, g2⟩ := hr.slot t v ht
      exact ⟨u, g1, V_mono m2 _ _ _ _ (ExtB.refl β) g2⟩
theorem V_nlfz {u : Value} (h : V X w β .nl u) : V X w β (.fz 0 []) u := by
  simp only [V] at h ⊢
  subst h
  exact ⟨none, 0, rfl, Nat.le_refl _, Nat.zero_le _, fun _ => rfl, (fun h => absurd h (Nat.lt_irrefl _)), by simp [VM]⟩
theorem at_nlfz (t : Nat) (ht : E.at? t = some .nl) (h : At w0 X0 n ((t, .fz 0 []) :: E) st K) : At w0 X0 n E st K := by
  rintro a w ⟨β, X, hr⟩
  exact h a w ⟨β, X, hr.say ht hr.mem (fun _ _ h => ⟨h, rfl⟩) (fun _ _ h => .inl h) (fun u hu => V_nlfz hu)⟩
theorem Con.weak {f : FuncId} {args : List A} {r r' : A} (h : Con P f args (Ret r)) (hw : ∀ X w β u, V X w β r u → V X w β r' u) : Con P f args (Ret r') := by
  intro w X β us hd hx hg ho hi hv
  refine (h w X β us hd hx hg ho hi hv).mono fun v w' hp => ?_
  obtain ⟨q, β', X', st', hr, h1, h2, h3, h4⟩ := hp
  have : q = r := hr
  subst this
  exact ⟨r', β', X', st', rfl, h1, h2, h3, hw _ _ _ _ h4⟩
theorem Con.cast {f : FuncId} {args : List A} {r r' : A} (h : Con P f args (Ret r)) (e : r = r') : Con P f args (Ret r') := e ▸ h
theorem ofN_u8 {src dst ty : TypeId} {x : Operand} {ds : TypeDesc} {j : Int} {k : IntKind} (n : Nat) (hs : P.underlying src = some ds) (ht : P.underlying dst = some (.int .u8)) (hx : ev E x = some (.i k j)) (hj : j = (n : Int)) : YO P E st (.convert src dst x) ty (u8 (UInt8.ofNat n)) := by
  subst hj
  refine (y_conv hs ht hx).v (congrArg (A.i .u8) ?_)
  rw [UInt8.toNat_ofNat']
  simp [IntKind.wrap, IntKind.signed, IntKind.bits]
theorem freeze_heap (w : World) (p : Addr) (n : Nat) : (w.freeze p n).heap.size = w.heap.size ∧ ∀ k : Nat, k ≠ p.block → (w.freeze p n).heap[k]? = w.heap[k]? := by
  unfold World.freeze
  split
  · exact ⟨rfl, fun _ _ => rfl⟩
  · exact ⟨by simp, fun k hk => by simp [Array.getElem?_modify, Ne.symm hk]⟩
theorem freeze_cell (w : World) (p : Addr) (n : Nat) (a : Addr) : (w.freeze p n).cell? a = w.cell? a := by
  unfold World.freeze
  split
  · rfl
  · unfold World.cell?
    simp only [Array.getElem?_modify]
    by_cases h : p.block = a.block
    · simp only [h, if_true]
      cases hb : w.heap[a.block]? with
      | none => rfl
      | some o => cases o <;> simp
    · simp only [h, if_false]
theorem freeze_other (w : World) (p : Addr) (n b : Nat) (hb : w.heap[b]? = some (Obj.deferred (some [])) ∨ ∃ r : Loop, w.heap[b]? = some (Obj.loop r)) : (w.freeze p n).heap[b]? = w.heap[b]? := by
  by_cases h : b = p.block
  · subst h
    unfold World.freeze
    split
    · rfl
    · rcases hb with hb | ⟨_, hb⟩ <;> simp [Array.getElem?_modify, hb]
  · exact (freeze_heap w p n).2 b h
theorem freeze_rest (w : World) (p : Addr) (n : Nat) : (w.freeze p n).os = w.os ∧ (w.freeze p n).tape = w.tape ∧ (w.freeze p n).output = w.output := by
  unfold World.freeze
  split <;> exact ⟨rfl, rfl, rfl⟩
theorem Mem.mark (hm : Mem w0 β X st w) (p : Addr) (k : Nat) (hown : w0.own p.block) (hno : ∀ id cs N, st.get id = some cs → β id ≠ some (.bk p.block N)) : Mem w0 β X st (w.freeze p k) ∧ ExtX X X w (w.freeze p k) := by
  have hx : ExtX X X w (w.freeze p k) := fun b o h => ⟨h, freeze_cell w p k _⟩
  obtain ⟨r1, r2, r3⟩ := freeze_rest w p k
  obtain ⟨s1, s2⟩ := freeze_heap w p k
  refine ⟨.of ⟨r1.trans hm.below.os, r2.trans hm.below.tape, r3.trans hm.below.output, by rw [s1]; exact hm.below.size, fun j hj hM => ?_, fun s hs => Sus.kept_mono (hm.below.sus s hs) fun b hb => freeze_other w p k b hb⟩ hm.b0 (fun b o h => by rw [s1]; exact hm.xlt b o h) hm.dom (fun id cs hg => ?_) hm.inj, hx⟩
  · have : j ≠ p.block := by
      rintro rfl
      rcases hown with h | h
      · omega
      · exact hM h
    rw [s2 j this]
    exact hm.below.block j hj hM
  · have h := hm.obj id cs hg
    unfold OB at *
    split
    · rename_i hb; rw [hb] at h; exact h
    · rename_i hb; rw [hb] at h; exact h
    · rename_i b N hb
      rw [hb] at h
      simp only at h
      obtain ⟨q1, q2, us, rest, ty, q3, q4, q5, q6⟩ := h
      have : b ≠ p.block := by rintro rfl; exact hno id cs N hg hb
      exact ⟨q1, q2, us, rest, ty, by rw [s2 b this]; exact q3, q4, VS_mono hx _ _ _ _ (ExtB.refl β) q5, q6⟩
theorem at_bc (t : Nat) {b : Bool} (hb : E.at? t = some (.b b)) (h1 : b = true → At w0 X0 n ((t, .b true) :: E) st K) (h0 : b = false → At w0 X0 n ((t, .b false) :: E) st K) : At w0 X0 n E st K := by
  cases b with
  | true => exact at_say t hb rfl (h1 rfl)
  | false => exact at_say t hb rfl (h0 rfl)
end
end Go.Abs
-- AbsN
namespace Go.Abs
open Go Go.Eng
def quiet : Obj → Bool
  | .deferred _ => true
  | .loop _ => true
  | _ => false
theorem quiet_cell {w : World} {b o : Nat} {x : Obj} (h : w.heap[b]? = some x) (hq : quiet x = true) : w.cell? ⟨b, o, none⟩ = none := by
  simp only [World.cell?, h]
  cases x <;> first | rfl | cases hq
structure Qt (B : Bw) (w w' : World) : Prop where
  os : w'.os = w.os
  tape : w'.tape = w.tape
  output : w'.output = w.output
  size : w.heap.size ≤ w'.heap.size
  blk : ∀ b, b < w.heap.size → w'.heap[b]? = w.heap[b]? ∨ (B.own b ∧ (∃ o, w.heap[b]? = some o ∧ quiet o = true) ∧ ∃ o, w'.heap[b]? = some o ∧ quiet o = true)
theorem Qt.refl {B : Bw} {w : World} : Qt B w w := ⟨rfl, rfl, rfl, Nat.le_refl _, fun _ _ => .inl rfl⟩
theorem Qt.cell {B : Bw} {w w' : World} (h : Qt B w w') {b o : Nat} (hb : b < w.heap.size) : w'.cell? ⟨b, o, none⟩ = w.cell? ⟨b, o, none⟩ := by
  rcases h.blk b hb with h | ⟨_, ⟨x, h1, h2⟩, y, h3, h4⟩
  · simp only [World.cell?, h]
  · rw [quiet_cell h1 h2, quiet_cell h3 h4]
theorem Qt.row {B : Bw} {w w' : World} (h : Qt B w w') {b : Nat} {ty : TypeId} {us : List Value} (hb : w.heap[b]? = some (row ty us)) : w'.heap[b]? = some (row ty us) := by
  rcases h.blk b (Array.getElem?_eq_some_iff.1 hb).1 with h | ⟨_, ⟨x, h1, h2⟩, _⟩
  · rw [h]; exact hb
  · rw [hb] at h1; simp only [Option.some.injEq] at h1; subst h1; cases h2
theorem Qt.put {B : Bw} {w : World} {q : Nat} {o o' : Obj} (ho : B.own q) (h : w.heap[q]? = some o) (hq : quiet o = true) (hq' : quiet o' = true) : Qt B w (w.putObj q o') :=
  ⟨rfl, rfl, rfl, by simp, fun b hb => by
    by_cases e : b = q
    · subst e; exact .inr ⟨ho, ⟨o, h, hq⟩, o', World.putObj_heap_same hb, hq'⟩
    · exact .inl (World.putObj_heap_other e)⟩
theorem Qt.of_below {B : Bw} {w w' : World} (k : RowKit.Below w.heap.size w w') : Qt B w w' := ⟨k.os, k.tape, k.output, k.size, fun b hb => .inl (k.block b hb)⟩
theorem own_eq {w1 w2 : Bw} (hw : w2.w = w1.w) (hM : w2.M = w1.M) (b : Nat) : w2.own b ↔ w1.own b := by unfold Bw.own; rw [hw, hM]
section
variable {P : Program} {w0 w1 w2 : Bw} {X0 X : Xs} {n : Nat} {E : Ev} {st : St} {β : Bm} {a : Act} {w : World}
theorem RelX.rebase (hr : RelX w1 X0 n E st β X a w) {a' : Act} {n' : Nat} {E' : Ev} {w' : World} (hw : w2.w = w1.w) (hM : w2.M = w1.M) (hq : Qt w1 w w') (hb : ExtB w2.β β) (hk : ∀ s ∈ w2.sus, s.kept w2.own w') (hs : ∀ s ∈ w2.sus, s.slots X w')
    (hsz : a'.tmps.size = n') (hd : a'.defers = []) (hsl : ∀ t v, E'.at? t = some v → ∃ u, a'.tmps[t]? = some u ∧ V X w β v u) : RelX w2 X0 n' E' st β X a' w' := by
  have hx : ExtX X X w w' := fun b o h => ⟨h, hq.cell (hr.mem.xlt b o h)⟩
  have ho := own_eq hw hM
  refine .of hr.x0 (fun b o h => (hr.xn b o h).imp (fun h => h) (ho b).2) (.of ⟨?_, ?_, ?_, ?_, ?_, hk⟩ hb (fun b o h => Nat.lt_of_lt_of_le (hr.mem.xlt b o h) hq.size) hr.mem.dom (fun id cs hg => ?_) hr.mem.inj) (hr.gl.mono hx) hsz hd hs (fun t v ht => ?_)
  · rw [hq.os, hr.mem.below.os, hw]
  · rw [hq.tape, hr.mem.below.tape, hw]
  · rw [hq.output, hr.mem.below.output, hw]
  · rw [hw]; exact Nat.le_trans hr.mem.below.size hq.size
  · intro k hk' hm
    rw [hw] at hk'
    rw [hM] at hm
    rw [hw, ← hr.mem.below.block k hk' hm]
    rcases hq.blk k (Nat.lt_of_lt_of_le hk' hr.mem.below.size) with h | ⟨h | h, _⟩
    · exact h
    · omega
    · exact absurd h hm
  · have := hr.mem.obj id cs hg
    unfold OB at *
    split at this
    · exact this
    · exact this
    · obtain ⟨h1, h2, us, rest, ty, h3, h4, h5, h6⟩ := this
      exact ⟨(ho _).2 h1, h2, us, rest, ty, hq.row h3, h4, VS_mono hx _ _ β β (ExtB.refl β) h5, h6⟩
  · obtain ⟨u, h1, h2⟩ := hsl t v ht
    exact ⟨u, h1, V_mono hx _ _ β β (ExtB.refl β) h2⟩
end
mutual
def refs : A → List Nat
  | .p id _ => [id]
  | .sl id _ _ _ => [id]
  | .ag cs => refsL cs
  | .tu vs => refsL vs
  | .fn _ a c => refsL a ++ refsL c
  | .ic _ v => refs v
  | _ => []
def refsL : List A → List Nat
  | [] => []
  | c :: cs => refs c ++ refsL cs
end
def refsE : Ev → List Nat
  | [] => []
  | (_, v) :: r => refs v ++ refsE r
def onlyB (ids : List Nat) (β : Bm) : Bm := fun id => cond (memN ids id) (β id) none
theorem onlyB_ext {ids : List Nat} {β : Bm} : ExtB (onlyB ids β) β := fun id y h => by
  unfold onlyB at h
  cases hm : memN ids id with
  | true => rw [hm] at h; exact h
  | false => rw [hm] at h; cases h
theorem onlyB_eq {ids : List Nat} {β : Bm} {id : Nat} (h : memN ids id = true) : onlyB ids β id = β id := by unfold onlyB; rw [h]; rfl
section
variable {X : Xs} {w : World} {β : Bm} {ids : List Nat}
mutual
theorem V_only : ∀ (a : A) (u : Value), (∀ i ∈ refs a, memN ids i = true) → V X w β a u → V X w (onlyB ids β) a u
  | .b x, u, _, h => by simp only [V] at *; exact h
  | .i k n, u, _, h => by simp only [V] at *; exact h
  | .s l, u, _, h => by simp only [V] at *; exact h
  | .nl, u, _, h => by simp only [V] at *; exact h
  | .fz n cs, u, _, h => by simp only [V] at *; exact h
  | .fp cs, u, _, h => by simp only [V] at *; exact h
  | .p id off, u, hi, h => by
    simp only [V] at *
    rw [onlyB_eq (hi id (by simp [refs]))]
    exact h
  | .sl id s off n, u, hi, h => by
    simp only [V] at *
    rw [onlyB_eq (hi id (by simp [refs]))]
    exact h
  | .ag cs, u, hi, h => by
    simp only [V] at *
    obtain ⟨us, h1, h2, h3⟩ := h
    exact ⟨us, h1, VS_only cs us (fun i h => hi i (by simpa [refs] using h)) h2, h3⟩
  | .tu vs, u, hi, h => by
    simp only [V] at *
    obtain ⟨us, h1, h2⟩ := h
    exact ⟨us, h1, VS_only vs us (fun i h => hi i (by simpa [refs] using h)) h2⟩
  | .fn f a c, u, hi, h => by
    simp only [V] at *
    obtain ⟨us, vs, h1, h2, h3⟩ := h
    exact ⟨us, vs, h1, VS_only a us (fun i h => hi i (by simp [refs, h])) h2, VS_only c vs (fun i h => hi i (by simp [refs, h])) h3⟩
  | .ic t v, u, hi, h => by
    simp only [V] at *
    obtain ⟨y, h1, h2⟩ := h
    exact ⟨y, h1, V_only v y (fun i h => hi i (by simpa [refs] using h)) h2⟩
  | .raw v, u, _, h => by simp only [V] at *; exact h
theorem VS_only : ∀ (cs : List A) (us : List Value), (∀ i ∈ refsL cs, memN ids i = true) → VS X w β cs us → VS X w (onlyB ids β) cs us
  | [], us, _, h => by simp only [VS] at *; exact h
  | c :: cs, us, hi, h => by
    simp only [VS] at *
    obtain ⟨u, r, h1, h2, h3⟩ := h
    exact ⟨u, r, h1, V_only c u (fun i h => hi i (by simp [refsL, h])) h2, VS_only cs r (fun i h => hi i (by simp [refsL, h])) h3⟩
end
theorem refsE_at : ∀ {E : Ev} {t : Nat} {v : A}, E.at? t = some v → ∀ i ∈ refs v, i ∈ refsE E
  | [], _, _, h, _, _ => by cases h
  | (k, u) :: r, t, v, h, i, hi => by
    simp only [Ev.at?] at h
    simp only [refsE, List.mem_append]
    cases hb : Nat.beq k t with
    | true => rw [hb] at h; simp only [cond_true, Option.some.injEq] at h; subst h; exact .inl hi
    | false => rw [hb] at h; exact .inr (refsE_at (E := r) h i hi)
end
def onlyE (ids : List Nat) (E : Ev) : Bool := (refsE E).all (memN ids)
theorem onlyB_mem {ids : List Nat} {β : Bm} {id : Nat} {x : BL} (h : onlyB ids β id = some x) : id ∈ ids := by
  unfold onlyB at h
  cases hm : memN ids id with
  | true => exact memN_mem hm
  | false => rw [hm] at h; cases h
def mkB (B : Bw) (β : Bm) (ids : List Nat) (ss : List Sus) : Bw := { w := B.w, M := B.M, β := onlyB ids β, ids := ids, bi := fun _ _ h => onlyB_mem h, sus := ss }
def Bw.re (B : Bw) (ss : List Sus) : Bw := { w := B.w, M := B.M, β := B.β, ids := B.ids, bi := B.bi, sus := ss }
structure Sub (w0 w1 : Bw) (ids : List Nat) (ss : List Sus) : Prop where
  w : w1.w = w0.w
  M : w1.M = w0.M
  ext : ExtB w0.β w1.β
  ids : w1.ids = ids
  sus : w1.sus = ss ++ w0.sus
theorem Sub.own {w0 w1 : Bw} {ids : List Nat} {ss : List Sus} (h : Sub w0 w1 ids ss) (b : Nat) : w1.own b ↔ w0.own b := own_eq h.w h.M b
theorem mkB_ext {B : Bw} {β : Bm} {ids idsB : List Nat} {ss : List Sus} (hI : B.ids = idsB) (hs : (idsB.all (memN ids)) = true) (hb : ExtB B.β β) : ExtB B.β (mkB B β ids ss).β := fun id y h => by
  have hid := B.bi id y h
  rw [hI] at hid
  show onlyB ids β id = some y
  rw [onlyB_eq (List.all_eq_true.1 hs id hid)]
  exact hb id y h
structure Rg (w0 w1 : Bw) (ids : List Nat) (l D : Nat) (rc : Loop) (n : Nat) (Ek : Ev) (ps : List Tmp) (assign body : Code) (s : LoopState) (pe : Option Code) : Prop where
  sub : Sub w0 w1 ids [.lp l { rc with state := s, pending := pe } Ek w1.β, .df D]
  ps : rc.params = ps.toArray
  assign : rc.assign = assign
  body : rc.body = body
  size : rc.tmps.size = n
  ne : l ≠ D
  old : ∀ r E β, Sus.lp l r E β ∉ w0.sus
  oldD : Sus.df D ∉ w0.sus
structure Rd (w0 w1 w2 : Bw) (ids : List Nat) (l D : Nat) (rc : Loop) (Ek : Ev) (s : LoopState) (pe : Option Code) (tm : Array Value) (nI : Nat) (Eit : Ev) : Prop where
  sub : Sub w0 w2 ids [.fr tm Eit w2.β, .lp l { rc with state := s, pending := pe } Ek w1.β, .df D]
  ext : ExtB w1.β w2.β
  size : tm.size = nI
  ne : l ≠ D
  old : ∀ r E β, Sus.lp l r E β ∉ w0.sus
abbrev yv (l : Nat) : A := .raw (.func (.yield l) #[] #[])
def rdR (ds : List Deferred) (tm : Array Value) (d : Option Nat) (N : Act → World → Prop) (Q : Exit → Act → World → Prop) : Ending → World → Prop
  | .returned v, w => Pw ds N (Act.put ⟨tm, []⟩ d v) w
  | .panicked ch, w => Q (.panic ch) (Act.wd ds ⟨tm, []⟩) w
  | .outgrown, _ => LetsOut Q
def rdB (P : Program) (l : Nat) (body : Code) (R : Ending → World → Prop) : Act → World → Prop := fun a w => ∃ w', (Instr.beginRound l).run P w = .ok () w' ∧ body.wpIn (rF (some l)) 0 P (roundPost P l R) a w'
def noX : Exit → Act → World → Prop := fun _ _ _ => False
def parE : List Tmp → List A → Ev → Ev
  | t :: ts, v :: vs, E => parE ts vs ((t, v) :: E)
  | _, _, E => E
section
variable {P : Program} {w0 w1 w2 : Bw} {X0 : Xs} {n n' : Nat} {E : Ev} {st : St} {Q : Exit → Act → World → Prop} {r : Option Nat} {ds : List Deferred}
theorem wd_mark {a : Act} {D : Nat} (h : a.defers = []) : ({ a.wd ds with defers := [{ target := .collected D, args := #[] }] ++ (a.wd ds).defers } : Act) = Act.wd (col D :: ds) ⟨a.tmps, []⟩ := by
  unfold Act.wd
  simp [h]
theorem run_callFn {f : FuncId} {fn : Func} {c : Code} {args : Array Value} {w : World} (hf : P.funcs[f]? = some fn) (hb : fn.body = some c) (hname : (fn.name == "runtime.NumGoroutine") = false) : (callFunc f args).run P w = .ok (.enter f args) w := by
  unfold callFunc
  rw [Sem.run_bind, run_program]
  simp only [Result.andThen_ok, hf, hname, hb, Bool.false_eq_true, if_false]
  simp
theorem kept_qt {B B' : Bw} {w w' : World} {s : Sus} (h : s.kept B.own w) (hw : ∀ b, B.own b → B'.own b) (hq : ∀ (b : Nat) (o : Obj), w.heap[b]? = some o → quiet o = true → w'.heap[b]? = w.heap[b]?) : s.kept B'.own w' := by
  cases s with
  | df D => exact ⟨hw _ h.1, (hq _ _ h.2 rfl).trans h.2⟩
  | lp l r E β => exact ⟨hw _ h.1, (hq _ _ h.2 rfl).trans h.2⟩
  | fr _ _ _ => trivial
theorem at_range {g : Operand} {ps : List Tmp} {assign body c : Code} {f : FuncId} {fn : Func} {cs : List A} {idsB : List Nat} (ids : List Nat) (Ek : Ev) (hI : w0.ids = idsB) (hs : (idsB.all (memN ids)) = true) (hE : le E Ek) (hids : onlyE ids Ek = true)
    (hg : ev E g = some (.fn (.func f) [] cs)) (hf : P.funcs[f]? = some fn) (hb : fn.body = some c) (hn : fn.ntmps = n') (hname : (fn.name == "runtime.NumGoroutine") = false) (ha : cs.length + 1 ≤ n')
    (h : ∀ w1 l D rc, Rg w0 w1 ids l D rc n Ek ps assign body .ready none → At w1 X0 n' (argsE (yv l :: cs) 0) st (Pw [] (c.wpIn (rF none) 0 P (bodyPostM (rF none) 0 P fn (rangePost (rF none) 0 P l Q (Act.wd (col D :: ds) ⟨rc.tmps, []⟩)))))) :
    At w0 X0 n E st (Pw ds ((Code.rangeFunc g ps.toArray assign body).wpIn (rF none) 0 P Q)) := by
  rintro a w ⟨β, X, hr⟩
  show (Code.rangeFunc g ps.toArray assign body).wpIn (rF none) 0 P Q (a.wd ds) w
  refine wpIn_rangeFunc fun fnid _ => ?_
  have hgv := hr.evl hg
  simp only [V] at hgv
  obtain ⟨us, vs, e1, e2, e3⟩ := hgv
  simp only [VS] at e2
  subst e2
  obtain ⟨rc, hrc⟩ : ∃ rc : Loop, rc = { state := .ready, pending := none, fn := fnid, tmps := a.tmps, params := ps.toArray, assign := assign, body := body, defers := w.heap.size } := ⟨_, rfl⟩
  obtain ⟨W1, hW1⟩ : ∃ W1, (w.alloc (.deferred (some []))).alloc (.loop rc) = W1 := ⟨_, rfl⟩
  have hL1 : W1.heap[w.heap.size + 1]? = some (.loop rc) := by
    rw [← hW1]; have := World.alloc_heap_new (w.alloc (.deferred (some []))) (.loop rc); rwa [World.size_alloc] at this
  have hD1 : W1.heap[w.heap.size]? = some (.deferred (some [])) := by
    rw [← hW1]; exact (RowKit.Below.heap_alloc _ _ _ (by simp)).trans (World.alloc_heap_new w _)
  have hB1 : RowKit.Below w.heap.size w W1 := by
    rw [← hW1]; exact ((RowKit.Below.refl _ w).alloc (Nat.le_refl _) _).alloc (by simp) _
  have hq : Qt w0 w W1 := .of_below hB1
  have hx : ExtX X X w W1 := fun b o h => ⟨h, hq.cell (hr.mem.xlt b o h)⟩
  have ho : ∀ b, w.heap.size ≤ b → w0.own b := fun b hb => Bw.own_new hr.mem.below hb
  have hrg : Rg w0 (mkB w0 β ids (.lp (w.heap.size + 1) rc Ek (onlyB ids β) :: .df w.heap.size :: w0.sus)) ids (w.heap.size + 1) w.heap.size rc n Ek ps assign body .ready none :=
    ⟨⟨rfl, rfl, mkB_ext hI hs hr.mem.b0, rfl, by rw [hrc]; rfl⟩, by rw [hrc], by rw [hrc], by rw [hrc], by rw [hrc]; exact hr.size, by omega, fun r E β h => by have := (Array.getElem?_eq_some_iff.1 (hr.mem.below.sus _ h).2).1; omega, fun h => by have := (Array.getElem?_eq_some_iff.1 (hr.mem.below.sus _ h).2).1; omega⟩
  refine ⟨w.heap.size + 1, [{ target := .collected w.heap.size, args := #[] }], W1, { target := .fn (.func f) vs.toArray, args := #[.func (.yield (w.heap.size + 1)) #[] #[]] }, W1, f,
    #[.func (.yield (w.heap.size + 1)) #[] #[]] ++ vs.toArray, W1, ?_, ?_, fun _ _ => trivial, ?_, (fun h => by cases h), ?_⟩
  · rw [← hW1, hrc]; exact run_enterLoop_outer _ _ _ _ _
  · simp only [resolve, eval_wd, e1]
    simp [go_sem]
  · simp [invoke, go_sem, run_callFn hf hb hname]
  · have hrt : rc.tmps = a.tmps := by rw [hrc]
    rw [wd_mark hr.defers, ← hrt]
    refine callsIn_of_wp_marks hf hb trivial (wp_nil (h _ _ _ rc hrg _ W1 ⟨β, X, hr.rebase rfl rfl hq onlyB_ext (fun s hs' => ?_) (fun s hs' => ?_) ?_ rfl (fun t v ht => ?_)⟩))
    · rcases List.mem_cons.1 hs' with rfl | hs'
      · exact ⟨ho _ (by omega), hL1⟩
      · rcases List.mem_cons.1 hs' with rfl | hs'
        · exact ⟨ho _ (Nat.le_refl _), hD1⟩
        · exact kept_qt (hr.mem.below.sus s hs') (fun b hb => hb) fun b o hb _ => hB1.block b (Array.getElem?_eq_some_iff.1 hb).1
    · rcases List.mem_cons.1 hs' with rfl | hs'
      · intro t v ht
        obtain ⟨u, h1, h2⟩ := hr.slot t v (le_at hE t v ht)
        refine ⟨u, by rw [hrt]; exact h1, V_mono hx _ _ _ _ (ExtB.refl _) (V_only v u (fun i hi => ?_) h2)⟩
        exact List.all_eq_true.1 hids i (refsE_at ht i hi)
      · rcases List.mem_cons.1 hs' with rfl | hs'
        · trivial
        · exact Sus.slots_mono hx (hr.sslot s hs')
    · have := VS_len e3
      simp [hn]; omega
    · obtain ⟨_, h2⟩ := argsE_at _ _ _ _ ht
      simp only [Nat.sub_zero] at h2
      have hall : VS X w β (yv (w.heap.size + 1) :: cs) (.func (.yield (w.heap.size + 1)) #[] #[] :: vs) := VS_cons (by simp [V]) e3
      obtain ⟨u, g1, g2⟩ := VS_get hall h2
      have hlt := (List.getElem?_eq_some_iff.1 g1).1
      refine ⟨u, ?_, g2⟩
      rw [Array.getElem?_append, if_pos (by simp at hlt ⊢; omega)]
      rw [show (#[Value.func (.yield (w.heap.size + 1)) #[] #[]] ++ vs.toArray) = (Value.func (.yield (w.heap.size + 1)) #[] #[] :: vs).toArray by simp]
      simpa using g1
theorem zipE : ∀ {ps : List Tmp} {vs : List A} {us : List Value} {tm : Array Value} {E : Ev} {X : Xs} {w : World} {β : Bm} {n : Nat}, tm.size = n → (ps.all fun t => Nat.ble (t + 1) n) = true → VS X w β vs us → (∀ t v, E.at? t = some v → ∃ u, tm[t]? = some u ∧ V X w β v u) →
    ((ps.zip us).foldl (fun (tm : Array Value) (p : Tmp × Value) => tm.setIfInBounds p.1 p.2) tm).size = n ∧ ∀ t v, (parE ps vs E).at? t = some v → ∃ u, ((ps.zip us).foldl (fun (tm : Array Value) (p : Tmp × Value) => tm.setIfInBounds p.1 p.2) tm)[t]? = some u ∧ V X w β v u
  | [], vs, us, tm, E, X, w, β, n, hn, _, _, h => ⟨by simpa using hn, by simpa [parE] using h⟩
  | t :: ps, [], us, tm, E, X, w, β, n, hn, _, hv, h => by
    simp only [VS] at hv
    subst hv
    exact ⟨by simpa using hn, by simpa [parE] using h⟩
  | t :: ps, v :: vs, us, tm, E, X, w, β, n, hn, hp, hv, h => by
    simp only [VS] at hv
    obtain ⟨u, us, rfl, h1, h2⟩ := hv
    simp only [List.all_cons, Bool.and_eq_true] at hp
    have ht : t < tm.size := by rw [hn]; exact Nat.le_of_ble_eq_true hp.1
    simp only [List.zip_cons_cons, List.foldl_cons, parE]
    refine zipE (by simpa using hn) hp.2 h2 fun k x hk => ?_
    simp only [Ev.at?] at hk
    cases hb : Nat.beq t k with
    | true =>
      rw [hb] at hk
      simp only [cond_true, Option.some.injEq] at hk
      subst hk
      rw [← Nat.eq_of_beq_eq_true hb]
      exact ⟨u, by simp [ht], h1⟩
    | false =>
      rw [hb] at hk
      obtain ⟨u', g1, g2⟩ := h k x hk
      exact ⟨u', by rw [Array.getElem?_setIfInBounds_ne (Nat.ne_of_beq_eq_false hb)]; exact g1, g2⟩
theorem at_yield {ops : Array Oper} {rest : List Oper} {d : Nat} {x : Operand} {xs : List Operand} {ats : Array TypeId} {ty : TypeId} {pos : String} {aft : Array Edge} {l D nO : Nat} {rc : Loop} {Ek Er : Ev} {ps : List Tmp} {assign body : Code} {vs : List A} {ids idsB : List Nat} (ids2 : List Nat) (Eit : Ev)
    (hR : Rg w0 w1 ids l D rc nO Ek ps assign body .ready none) (hI : w1.ids = idsB) (hs : (idsB.all (memN ids2)) = true) (hE : le E Eit) (hids : onlyE ids2 Eit = true) (hx : ev E x = some (yv l)) (hxs : evsA E xs = some vs) (hl : vs.length = ps.length) (hp : (ps.all fun t => Nat.ble (t + 1) nO) = true) (hEr : parE ps vs Ek = Er)
    (h : ∀ w2 tm, Rd w0 w1 w2 ids2 l D rc Ek .ready none tm n Eit → At w2 X0 nO Er st (Pw [] (assign.wpIn (rF (some l)) 0 P (Exit.then (rdB P l body (rdR ds tm (some d) (wpListIn (rF r) 0 P ops Q rest) Q)) noX)))) :
    At w1 X0 n E st (Pw ds (wpListIn (rF r) 0 P ops Q (⟨some d, .call { callee := .value x, args := xs.toArray, argTypes := ats }, ty, pos, aft, none⟩ :: rest))) := by
  rintro ⟨tm, dfs⟩ w ⟨β, X, hr⟩
  obtain rfl : dfs = [] := hr.defers
  obtain ⟨a, ha⟩ : ∃ a : Act, a = ⟨tm, []⟩ := ⟨_, rfl⟩
  rw [← ha] at hr ⊢
  subst hEr
  show wpListIn (rF r) 0 P ops Q (_ :: rest) (a.wd ds) w
  unfold wpListIn
  rw [if_pos (by simp [Region.wanted])]
  have e1 := hr.evl hx
  simp only [V] at e1
  obtain ⟨us, e3, e4⟩ := hr.evs hxs
  have hm := Eng.Rep.evs (full_rep a hr.defers) e3
  have hmem : (.lp l { rc with state := .ready, pending := none } Ek w1.β : Sus) ∈ w1.sus := by rw [hR.sub.sus]; exact .head _
  have hk := hr.mem.below.sus _ hmem
  have hus : us.length = vs.length := VS_len e4
  have hy := run_yield (P := P) (args := us.toArray) hk.2 (by simp [hR.ps, hus, hl])
  have hrun : (execOp a.eval ⟨some d, .call { callee := .value x, args := xs.toArray, argTypes := ats }, ty, pos, aft, none⟩).run P w = .ok (.round l rc.fn ((rc.params.zip us.toArray).foldl (fun tmps (t, a) => tmps.setIfInBounds t a) rc.tmps) rc.assign rc.body) w := by
    have he : xs.toArray.map a.eval = us.toArray := by rw [List.map_toArray, hm]
    have : execOp a.eval ⟨some d, .call { callee := .value x, args := xs.toArray, argTypes := ats }, ty, pos, aft, none⟩ = Instr.yield l us.toArray := by
      show (do let d ← Deferred.ofValue (a.eval x) (xs.toArray.map a.eval); invoke d.target d.args : Sem Next) = _
      rw [e1, he]
      simp [Deferred.ofValue, invoke]
    rw [this, hy]
  unfold Oper.wpIn
  refine ⟨fun _ _ => trivial, ?_⟩
  rw [Oper.semAt_eq _ _ _ (fun c h => by cases h), evalf_wd, hrun, Oper.uponIn_round]
  refine ⟨fun h => (by cases h), ?_⟩
  rw [hR.assign, hR.body]
  have hlp := hr.sslot _ hmem
  have hRd : Rd w0 w1 (mkB w1 β ids2 (.fr tm Eit (onlyB ids2 β) :: w1.sus)) ids2 l D rc Ek .ready none tm n Eit :=
    ⟨⟨hR.sub.w, hR.sub.M, fun id y h => mkB_ext hI hs hr.mem.b0 id y (hR.sub.ext id y h), rfl, by show _ :: w1.sus = _; rw [hR.sub.sus]; rfl⟩, mkB_ext hI hs hr.mem.b0, by have := hr.size; rw [ha] at this; exact this, hR.ne, hR.old⟩
  have hgo := h _ _ hRd
  have hz := zipE (X := X) (w := w) (β := β) (E := Ek) (n := nO) (tm := rc.tmps) hR.size hp e4 (fun t v ht => by
    obtain ⟨u, g1, g2⟩ := hlp t v ht
    exact ⟨u, g1, V_mono (fun b o h => ⟨h, rfl⟩) _ _ _ _ hr.mem.b0 g2⟩)
  have hfold : ((rc.params.zip us.toArray).foldl (fun tmps (t, a) => tmps.setIfInBounds t a) rc.tmps) = ((ps.zip us).foldl (fun (tm : Array Value) (p : Tmp × Value) => tm.setIfInBounds p.1 p.2) rc.tmps) := by
    rw [hR.ps]; simp
  rw [hfold]
  have hgo' : assign.wpIn ((rF r).inRound l) (0 - 1) P (Exit.then (rdB P l body (rdR ds tm (some d) (wpListIn (rF r) 0 P ops Q rest) Q)) noX) ⟨(ps.zip us).foldl (fun (tm : Array Value) (p : Tmp × Value) => tm.setIfInBounds p.1 p.2) rc.tmps, []⟩ w := wp_nil (hgo _ w ⟨β, X, hr.rebase (w2 := mkB w1 β ids2 (.fr tm Eit (onlyB ids2 β) :: w1.sus)) rfl rfl .refl onlyB_ext (fun s hs' => ?_) (fun s hs' => ?_) hz.1 rfl hz.2⟩)
  · obtain ⟨k1, k2⟩ := roundIn_of_wpIn (F := rF r) (n := 0 - 1) (f := rc.fn) trivial hgo'
    refine ⟨k1, fun c cs hr => ?_⟩
    obtain ⟨e, w', h1, h2⟩ := k2 c cs hr
    refine ⟨e, w', ?_, h2⟩
    subst ha
    cases e with
    | returned v => show wpListIn (rF r) 0 P ops Q rest ((Act.wd ds ⟨tm, []⟩).put (some d) v) w'; rw [put_wd]; exact h1
    | panicked ch => exact h1
    | outgrown => exact h1
  · rcases List.mem_cons.1 hs' with rfl | hs'
    · trivial
    · exact hr.mem.below.sus s hs'
  · rcases List.mem_cons.1 hs' with rfl | hs'
    · intro t v ht
      obtain ⟨u, h1, h2⟩ := hr.slot t v (le_at hE t v ht)
      refine ⟨u, by rw [ha] at h1; exact h1, V_only v u (fun i hi => ?_) h2⟩
      exact List.all_eq_true.1 hids i (refsE_at ht i hi)
    · exact hr.sslot s hs'
theorem kept_put {B B' : Bw} {l : Nat} {x y : Loop} {w : World} (hl : w.heap[l]? = some (.loop x)) (hw : ∀ b, B.own b → B'.own b) {s : Sus} (hs : ∀ r E β, s ≠ .lp l r E β) (h : s.kept B.own w) : s.kept B'.own (w.putObj l (.loop y)) := by
  cases s with
  | df D =>
    refine ⟨hw _ h.1, (World.putObj_heap_other (fun e => ?_)).trans h.2⟩
    have := h.2
    rw [e, hl] at this
    cases this
  | lp l' r E β =>
    refine ⟨hw _ h.1, (World.putObj_heap_other (fun e => ?_)).trans h.2⟩
    subst e
    exact hs r E β rfl
  | fr _ _ _ => trivial
theorem slots_lp {β : Bm} {X : Xs} {w : World} {l : Nat} {r r' : Loop} {E : Ev} (h : (Sus.lp l r E β).slots X w) (ht : r'.tmps = r.tmps) : (Sus.lp l r' E β).slots X w := fun t v hv => by rw [ht]; exact h t v hv
theorem at_begin {l D n1 : Nat} {rc : Loop} {Ek Eit : Ev} {body : Code} {ids : List Nat} {tm : Array Value} {R : Ending → World → Prop} {Z : Exit → Act → World → Prop} (hd : Rd w0 w1 w2 ids l D rc Ek .ready none tm n1 Eit)
    (h : ∀ w3, Rd w0 w1 w3 ids l D rc Ek .busy none tm n1 Eit → At w3 X0 n E st (Pw [] (body.wpIn (rF (some l)) 0 P (roundPost P l R)))) : At w2 X0 n E st (Pw [] (Exit.then (rdB P l body R) Z .normal)) := by
  rintro a w ⟨β, X, hr⟩
  show rdB P l body R (a.wd []) w
  rw [wd_nil]
  have hmem : (.lp l { rc with state := .ready, pending := none } Ek w1.β : Sus) ∈ w2.sus := by rw [hd.sub.sus]; exact .tail _ (.head _)
  have hk := hr.mem.below.sus _ hmem
  have hl := hk.2
  refine ⟨_, run_beginRound hl rfl, ?_⟩
  have hss : w2.sus = .fr tm Eit w2.β :: .lp l { rc with state := .ready, pending := none } Ek w1.β :: .df D :: w0.sus := hd.sub.sus
  have hlt := (Array.getElem?_eq_some_iff.1 hl).1
  have hx : ExtX X X w (w.putObj l (.loop { rc with state := .busy, pending := none })) := fun b o h => ⟨h, (Qt.put (B := w2) hk.1 hl rfl rfl).cell (hr.mem.xlt b o h)⟩
  refine wp_nil (h (w2.re (.fr tm Eit w2.β :: .lp l { rc with state := .busy, pending := none } Ek w1.β :: .df D :: w0.sus)) ⟨⟨hd.sub.w, hd.sub.M, hd.sub.ext, hd.sub.ids, rfl⟩, hd.ext, hd.size, hd.ne, hd.old⟩ a _ ⟨β, X, hr.rebase rfl rfl (Qt.put hk.1 hl rfl rfl) hr.mem.b0 (fun s hs => ?_) (fun s hs => ?_) hr.size hr.defers hr.slot⟩)
  · rcases List.mem_cons.1 hs with rfl | hs
    · trivial
    · rcases List.mem_cons.1 hs with rfl | hs
      · exact ⟨hk.1, World.putObj_heap_same hlt⟩
      · refine kept_put hl (fun b h => h) (fun r E β e => ?_) (hr.mem.below.sus s (by rw [hss]; exact .tail _ (.tail _ hs)))
        subst e
        rcases List.mem_cons.1 hs with e | hs
        · cases e
        · exact hd.old _ _ _ hs
  · have hold : ∀ s ∈ w2.sus, s.slots X (w.putObj l (.loop { rc with state := .busy, pending := none })) := fun s hs => Sus.slots_mono hx (hr.sslot s hs)
    rw [hss] at hold
    rcases List.mem_cons.1 hs with rfl | hs
    · exact hold _ (.head _)
    · rcases List.mem_cons.1 hs with rfl | hs
      · exact slots_lp (hold _ (.tail _ (.head _))) rfl
      · exact hold _ (.tail _ (.tail _ hs))
theorem rend_core {wj : Bw} {l D n1 nO : Nat} {rc : Loop} {Ek Eit : Ev} {ps : List Tmp} {assign body : Code} {ids idsR : List Nat} {tm : Array Value} {d : Nat} {N : Act → World → Prop} (jump : Option Code) (hβ : wj.β = w1.β) (hR : Rg w0 wj idsR l D rc nO Ek ps assign body (if jump.isNone then .ready else .done) jump) (hd : Rd w0 w1 w2 ids l D rc Ek .busy none tm n1 Eit) (hdn : Nat.ble (d + 1) n1 = true)
    (h : At wj X0 n1 ((d, .b jump.isNone) :: Eit) st (Pw ds N)) {a : Act} {w : World} (hrel : Rel w2 X0 n E st a w) : ∃ v w', (Instr.endRound l jump).run P w = .ok v w' ∧ rdR ds tm (some d) N Q (.returned v) w' := by
  obtain ⟨β, X, hr⟩ := hrel
  have hmem : (.lp l { rc with state := .busy, pending := none } Ek w1.β : Sus) ∈ w2.sus := by rw [hd.sub.sus]; exact .tail _ (.head _)
  have hk := hr.mem.below.sus _ hmem
  have hl := hk.2
  have hss : w2.sus = .fr tm Eit w2.β :: .lp l { rc with state := .busy, pending := none } Ek w1.β :: .df D :: w0.sus := hd.sub.sus
  have hs1 : wj.sus = .lp l { rc with state := (if jump.isNone then .ready else .done), pending := jump } Ek wj.β :: .df D :: w0.sus := hR.sub.sus
  have hlt := (Array.getElem?_eq_some_iff.1 hl).1
  have hw : w2.w = wj.w := hd.sub.w.trans hR.sub.w.symm
  have hM : w2.M = wj.M := hd.sub.M.trans hR.sub.M.symm
  have hb1 : ExtB wj.β β := fun id y h => hr.mem.b0 id y (hd.ext id y (hβ ▸ h))
  refine ⟨_, _, run_endRound jump hl, ?_⟩
  obtain ⟨o', ho'⟩ : ∃ o' : Loop, o' = { rc with state := (if jump.isNone then .ready else .done), pending := jump } := ⟨_, rfl⟩
  have ho2 : ({ { rc with state := .busy, pending := none } with state := (if jump.isNone then .ready else .done), pending := jump } : Loop) = o' := by rw [ho']
  rw [← ho'] at hs1
  rw [ho2]
  have hx : ExtX X X w (w.putObj l (.loop o')) := fun b o h => ⟨h, (Qt.put (B := w2) hk.1 hl rfl rfl).cell (hr.mem.xlt b o h)⟩
  have hfr := hr.sslot (.fr tm Eit w2.β) (by rw [hss]; exact .head _)
  refine h (Act.put ⟨tm, []⟩ (some d) (.bool jump.isNone)) _ ⟨β, X, hr.rebase hw.symm hM.symm (Qt.put hk.1 hl rfl rfl) hb1 (fun s hs => ?_) (fun s hs => ?_) (by simpa [Act.put] using hd.size) rfl (fun t v ht => ?_)⟩
  · rw [hs1] at hs
    rcases List.mem_cons.1 hs with rfl | hs
    · exact ⟨(own_eq hw hM l).1 hk.1, World.putObj_heap_same hlt⟩
    · refine kept_put (B := w2) hl (fun b h => (own_eq hw hM b).1 h) (fun r E β e => ?_) (hr.mem.below.sus s (by rw [hss]; exact .tail _ (.tail _ hs)))
      subst e
      rcases List.mem_cons.1 hs with e | hs
      · cases e
      · exact hd.old _ _ _ hs
  · rw [hs1] at hs
    have hold : ∀ s ∈ w2.sus, s.slots X (w.putObj l (.loop o')) := fun s hs => Sus.slots_mono hx (hr.sslot s hs)
    rw [hss] at hold
    rcases List.mem_cons.1 hs with rfl | hs
    · rw [hβ]; exact slots_lp (hold _ (.tail _ (.head _))) (by rw [ho'])
    · exact hold _ (.tail _ (.tail _ hs))
  · simp only [Ev.at?] at ht
    cases hb : Nat.beq d t with
    | true =>
      rw [hb] at ht
      simp only [cond_true, Option.some.injEq] at ht
      subst ht
      rw [← Nat.eq_of_beq_eq_true hb]
      exact ⟨.bool jump.isNone, by simp [Act.put, show d < tm.size by rw [hd.size]; exact Nat.le_of_ble_eq_true hdn], by simp [V]⟩
    | false =>
      rw [hb] at ht
      obtain ⟨u, g1, g2⟩ := hfr t v ht
      exact ⟨u, by simp only [Act.put]; rw [Array.getElem?_setIfInBounds_ne (Nat.ne_of_beq_eq_false hb)]; exact g1, V_mono (fun b o h => ⟨h, rfl⟩) _ _ _ _ hr.mem.b0 g2⟩
section rend
variable {l D n1 nO : Nat} {rc : Loop} {Ek Eit : Ev} {ps : List Tmp} {assign body : Code} {ids idsR : List Nat} {tm : Array Value} {d : Nat} {N : Act → World → Prop}
theorem at_rend (hR : Rg w0 w1 idsR l D rc nO Ek ps assign body .ready none) (hd : Rd w0 w1 w2 ids l D rc Ek .busy none tm n1 Eit) (hdn : Nat.ble (d + 1) n1 = true)
    (h : At w1 X0 n1 ((d, .b true) :: Eit) st (Pw ds N)) : At w2 X0 n E st (Pw [] (roundPost P l (rdR ds tm (some d) N Q) .normal)) := fun _ _ hr => rend_core none rfl hR hd hdn h hr
theorem Rg.stop (s : LoopState) (pe : Option Code) (hR : Rg w0 w1 idsR l D rc nO Ek ps assign body .ready none) : ∃ wj, wj.β = w1.β ∧ Rg w0 wj idsR l D rc nO Ek ps assign body s pe :=
  ⟨w1.re (.lp l { rc with state := s, pending := pe } Ek w1.β :: .df D :: w0.sus), rfl, ⟨hR.sub.w, hR.sub.M, hR.sub.ext, hR.sub.ids, rfl⟩, hR.ps, hR.assign, hR.body, hR.size, hR.ne, hR.old, hR.oldD⟩
end rend
theorem itret_core {l D nO : Nat} {rc : Loop} {Ek : Ev} {ps : List Tmp} {assign body : Code} {idsR : List Nat} {s : LoopState} {pe : Option Code} {fn : Func} {ss : List Sus} (hres : fn.results = #[]) (hs : s ≠ .busy) (hR : Rg w0 w1 idsR l D rc nO Ek ps assign body s pe) (hs0 : w0.sus = ss)
    (h : At (w0.re (.df D :: ss)) X0 nO Ek st (Pw (col D :: ds) (match pe with | none => Q .normal | some c => c.wpIn (rF r) 0 P Q))) {a : Act} {w : World} (hrel : Rel w1 X0 n E st a w) : LeavesInM (rF none) 0 P fn a.tmps (rangePost (rF r) 0 P l Q (Act.wd (col D :: ds) ⟨rc.tmps, []⟩)) [] .returning w := by
  obtain ⟨β, X, hr⟩ := hrel
  subst hs0
  have hss : w1.sus = .lp l { rc with state := s, pending := pe } Ek w1.β :: .df D :: w0.sus := hR.sub.sus
  have hmem : (.lp l { rc with state := s, pending := pe } Ek w1.β : Sus) ∈ w1.sus := by rw [hss]; exact .head _
  have hk := hr.mem.below.sus _ hmem
  have hl := hk.2
  have hlp := hr.sslot _ hmem
  have hx : ExtX X X w (w.putObj l (.loop { rc with state := .exhausted, pending := pe })) := fun b o h => ⟨h, (Qt.put (B := w1) hk.1 hl rfl rfl).cell (hr.mem.xlt b o h)⟩
  have hrun : (results fn a.tmps).run P w = .ok (.tuple #[]) w := run_results (rs := []) (us := []) (by rw [hres]) (by simp)
  have hrel0 : Rel (w0.re (.df D :: w0.sus)) X0 nO Ek st ⟨rc.tmps, []⟩ (w.putObj l (.loop { rc with state := .exhausted, pending := pe })) := by
    refine ⟨β, X, hr.rebase hR.sub.w.symm hR.sub.M.symm (Qt.put hk.1 hl rfl rfl) (fun id y h => hr.mem.b0 id y (hR.sub.ext id y h)) (fun s' hs' => ?_) (fun s' hs' => ?_) hR.size rfl (fun t v ht => ?_)⟩
    · refine kept_put (B := w1) hl (fun b h => (own_eq hR.sub.w hR.sub.M b).1 h) (fun r E β e => ?_) (hr.mem.below.sus s' (by rw [hss]; exact .tail _ hs'))
      subst e
      rcases List.mem_cons.1 hs' with e | hs'
      · cases e
      · exact hR.old _ _ _ hs'
    · exact Sus.slots_mono hx (hr.sslot s' (by rw [hss]; exact .tail _ hs'))
    · obtain ⟨u, g1, g2⟩ := hlp t v ht
      exact ⟨u, g1, V_mono (fun b o h => ⟨h, rfl⟩) _ _ _ _ hr.mem.b0 g2⟩
  refine ⟨_, hrun, pe, _, run_endLoop hl hs, ?_⟩
  have := h _ _ hrel0
  cases pe with
  | none => exact this
  | some c => exact this
section itret
variable {l D nO : Nat} {rc : Loop} {Ek : Ev} {ps : List Tmp} {assign body : Code} {idsR : List Nat} {s : LoopState} {fn : Func} {ss : List Sus}
theorem at_itret (hres : fn.results = #[]) (hR : Rg w0 w1 idsR l D rc nO Ek ps assign body .ready none) (hs0 : w0.sus = ss) (h : At (w0.re (.df D :: ss)) X0 nO Ek st (Pw (col D :: ds) (Q .normal))) :
    At w1 X0 n E st (Pw [] (bodyPostM (rF none) 0 P fn (rangePost (rF r) 0 P l Q (Act.wd (col D :: ds) ⟨rc.tmps, []⟩)) .ret)) := fun a w hr => by
  have hd : a.defers = [] := by obtain ⟨_, _, hr⟩ := hr; exact hr.defers
  show LeavesInM (rF none) 0 P fn (a.wd []).tmps _ (a.wd []).defers .returning w
  rw [wd_nil, hd]
  exact itret_core hres (by simp) hR hs0 h hr
theorem at_itnil (hres : fn.results = #[]) (hR : Rg w0 w1 idsR l D rc nO Ek ps assign body .ready none) (hs0 : w0.sus = ss) (h : At (w0.re (.df D :: ss)) X0 nO Ek st (Pw (col D :: ds) (Q .normal))) :
    At w1 X0 n E st (Pw [] (bodyPostM (rF none) 0 P fn (rangePost (rF r) 0 P l Q (Act.wd (col D :: ds) ⟨rc.tmps, []⟩)) .normal)) := at_itret hres hR hs0 h
end itret
theorem enterSM {f : FuncId} {fn : Func} {c : Code} {args : List A} {s0 : St} {R : A → St → Prop} (hf : P.funcs[f]? = some fn) (hb : fn.body = some c)
    (hn : fn.ntmps = n) (hname : (fn.name == "runtime.NumGoroutine") = false) (ha : args.length ≤ n)
    (h : ∀ w0 X0, w0.ids = s0.os.map Prod.fst → w0.sus = [] → At w0 X0 n (argsE args 0) s0 (Pw [] (c.wpIn (rF none) 0 P (bodyPostM (rF none) 0 P fn fun e w' => ∃ v, e = .returned v ∧ Post w0 X0 R v w')))) : ConS P f args s0 R := by
  intro w X β us hd hX hgl ho hi hv
  have hl := VS_len hv
  refine ⟨⟨fn, hf, by simp [hb], hname⟩, (callsIn_wide (n := 0)).1 (callsIn_of_wp_marks hf hb trivial (wp_nil (h (bw w β s0 hd) X rfl rfl _ w ⟨β, X, .of (fun _ _ h => h) (fun _ _ h => .inl h) (.of ⟨rfl, rfl, rfl, Nat.le_refl _, fun _ _ _ => rfl, fun s hs => by cases hs⟩ (ExtB.refl β) hX hd ho hi) hgl ?_ rfl (fun s hs => by cases hs) (fun t v ht => ?_)⟩)))⟩
  · simp [hn]; omega
  · obtain ⟨_, h2⟩ := argsE_at _ _ _ _ ht
    simp only [Nat.sub_zero] at h2
    obtain ⟨u, g1, g2⟩ := VS_get hv h2
    have hlt := (List.getElem?_eq_some_iff.1 g1).1
    refine ⟨u, ?_, g2⟩
    rw [Array.getElem?_append, if_pos (by simpa using hlt)]
    simpa using g1
theorem enterM {f : FuncId} {fn : Func} {c : Code} {args : List A} {R : A → St → Prop} (hf : P.funcs[f]? = some fn) (hb : fn.body = some c)
    (hn : fn.ntmps = n) (hname : (fn.name == "runtime.NumGoroutine") = false) (ha : args.length ≤ n)
    (h : ∀ w0 X0, w0.ids = [] → w0.sus = [] → At w0 X0 n (argsE args 0) ⟨[]⟩ (Pw [] (c.wpIn (rF none) 0 P (bodyPostM (rF none) 0 P fn fun e w' => ∃ v, e = .returned v ∧ Post w0 X0 R v w')))) : Con P f args R := enterSM hf hb hn hname ha h
theorem marks_core {fn : Func} {Rr : Ending → World → Prop} : ∀ (ds : List Nat) {wB : Bw} {a : Act} {w : World}, ds.Nodup → wB.sus = ds.map .df → Rel wB X0 n E st a w → (∀ w', Rel (wB.re []) X0 n E st a w' → ∃ v, (results fn a.tmps).run P w' = .ok v w' ∧ Rr (.returned v) w') →
    LeavesInM (rF none) 0 P fn a.tmps Rr (ds.map col) .returning w
  | [], wB, a, w, _, hs, ⟨β, X, hr⟩, h => by
    refine h w ⟨β, X, hr.rebase rfl rfl .refl hr.mem.b0 (fun s hs => by cases hs) (fun s hs => by cases hs) hr.size hr.defers hr.slot⟩
  | D :: ds, wB, a, w, hnd, hs, ⟨β, X, hr⟩, h => by
    have hs' : wB.sus = .df D :: ds.map .df := by simpa using hs
    have hk := hr.mem.below.sus (.df D) (by rw [hs']; exact .head _)
    have hx : ExtX X X w (w.putObj D (.deferred none)) := fun b o h => ⟨h, (Qt.put (B := wB) hk.1 hk.2 rfl rfl).cell (hr.mem.xlt b o h)⟩
    refine ⟨by simp, .inl ⟨D, _, rfl, run_takeDeferred hk.2, ?_⟩⟩
    refine marks_core ds (wB := wB.re (ds.map .df)) (List.nodup_cons.1 hnd).2 rfl ⟨β, X, hr.rebase rfl rfl (Qt.put hk.1 hk.2 rfl rfl) hr.mem.b0 (fun s hs => ?_) (fun s hs => ?_) hr.size hr.defers hr.slot⟩ h
    · obtain ⟨D', hD, rfl⟩ := List.mem_map.1 hs
      have hk' := hr.mem.below.sus (.df D') (by rw [hs']; exact .tail _ hs)
      exact ⟨hk'.1, (World.putObj_heap_other (fun e : D' = D => (List.nodup_cons.1 hnd).1 (e ▸ hD))).trans hk'.2⟩
    · obtain ⟨D', hD, rfl⟩ := List.mem_map.1 hs
      trivial
theorem at_resultM {wB : Bw} {fn : Func} {R : A → St → Prop} {rs : List ResultVar} {vs : List A} (hw : wB.w = w0.w) (hM : wB.M = w0.M) (hβ : wB.β = w0.β) (hs0 : w0.sus = []) {dn : List Nat} (hdn : ds = dn.map col) (hsB : wB.sus = dn.map .df) (hnd : dn.Nodup) (hrs : fn.results = rs.toArray) (hv : Rets P E st rs vs) (h : R (retA vs) st) :
    At wB X0 n E st (Pw ds (bodyPostM (rF none) 0 P fn (fun e w' => ∃ v, e = .returned v ∧ Post w0 X0 R v w') .ret)) := fun a w hr => by
  have hd : a.defers = [] := by obtain ⟨_, _, hr⟩ := hr; exact hr.defers
  show LeavesInM (rF none) 0 P fn a.tmps _ (a.wd ds).defers .returning w
  have e : (a.wd ds).defers = dn.map col := by simp [Act.wd, hd, hdn]
  rw [e]
  refine marks_core dn hnd hsB hr fun w' ⟨β, X, hr'⟩ => ?_
  obtain ⟨us, h1, h2⟩ := hv _ _ _ _ _ _ _ hr'.toRelQ
  have hr0 : RelX w0 X0 n E st β X a w' := hr'.rebase hw.symm hM.symm .refl (by rw [← hβ]; exact hr'.mem.b0) (fun s hs => by rw [hs0] at hs; cases hs) (fun s hs => by rw [hs0] at hs; cases hs) hr'.size hr'.defers hr'.slot
  exact ⟨_, run_results hrs h1, _, rfl, _, β, X, st, h, hr0.x0, hr0.xn, hr0.mem, V_retA h2⟩
def OneB (mk : Nat → A) : Prop := ∀ X w β i u, V X w β (mk i) u → (∃ b N, β i = some (.bk b N)) ∧ ∀ X' w' β' j, β' j = β i → V X' w' β' (mk j) u
theorem oneB_fn {f : Fn} : OneB (fun i => .fn f [] [.p i 0]) := by
  intro X w β i u h
  simp only [V, VS] at h
  obtain ⟨us, vs, rfl, rfl, x, r, rfl, ⟨b, N, h1, rfl⟩, rfl⟩ := h
  refine ⟨⟨b, N, h1⟩, fun X' w' β' j hj => ?_⟩
  simp only [V, VS]
  exact ⟨[], _, rfl, rfl, _, [], rfl, ⟨b, N, hj.trans h1, rfl⟩, rfl⟩
mutual
theorem refs_pure : ∀ {v : A}, Pure v → refs v = []
  | .b _, _ => rfl
  | .i _ _, _ => rfl
  | .s _, _ => rfl
  | .nl, _ => rfl
  | .fz _ _, _ => rfl
  | .fp _, _ => rfl
  | .p _ _, h => by simp only [Pure] at h
  | .sl _ _ _ _, h => by simp only [Pure] at h
  | .ag cs, h => by simp only [Pure] at h; simp only [refs]; exact refsL_pure h
  | .tu cs, h => by simp only [Pure] at h; simp only [refs]; exact refsL_pure h
  | .fn _ a c, h => by simp only [Pure] at h; simp only [refs]; rw [refsL_pure h.1, refsL_pure h.2]; rfl
  | .ic _ v, h => by simp only [Pure] at h; simp only [refs]; exact refs_pure h
  | .raw _, _ => rfl
theorem refsL_pure : ∀ {l : List A}, PureL l → refsL l = []
  | [], _ => rfl
  | c :: cs, h => by simp only [PureL] at h; simp only [refsL]; rw [refs_pure h.1, refsL_pure h.2]; rfl
end
theorem refsL_pul {l : List A} [h : IsPureL l] : refsL l = [] := refsL_pure h.out
theorem refs_pu {v : A} [h : IsPure v] : refs v = [] := refs_pure h.out
end
end Go.Abs
-- AbsO
namespace Go.Abs
open Go Go.Eng
section
variable {P : Program} {E : Ev} {st : St} {t t' e ty : TypeId} {x y i : Operand}
theorem y_fznil {n : Nat} {cs : List A} (ht : P.underlying t = some (.slice e)) (hx : ev E x = some (.fz n cs)) (hy : ev E y = some .nl) (hn : 0 < n) : YO P E st (.binOp .eql t x y t') ty (.b false) := by
  intro w0 X0 n0 β X a w hr
  obtain ⟨h1, h2⟩ := hr.evo hx
  obtain ⟨h3, h4⟩ := hr.evo hy
  simp only [V] at h2 h4
  obtain ⟨ad, cap, g1, g2, g3, g4, _⟩ := h2
  rw [g1] at h1; rw [h4] at h3
  have hs : ad.isNone = false := by
    cases ad with
    | none => have := g4 rfl; omega
    | some _ => rfl
  exact ⟨.bool ad.isNone, by simp only [V, hs], hr.old fun w' _ => Eng.y_nil ht h1 h3⟩
end
end Go.Abs
-- AbsP
namespace Go.Abs
open Go Go.Eng
section
variable {P : Program} {w0 : Bw} {X0 : Xs} {n : Nat} {E : Ev} {st : St} {K : Act → World → Prop}
theorem at_frzP (t : Nat) {id : Nat} {cs : List A} (ht : E.at? t = some (.p id 0)) (hg : st.get id = some cs) (hp : PureL cs) (h : At w0 X0 n ((t, .fp cs) :: E) (st.del id) K) : At w0 X0 n E st K := by
  rintro a w ⟨β, X, hr⟩
  obtain ⟨u, g1, g2⟩ := hr.slot t _ ht
  simp only [V] at g2
  obtain ⟨b, N, hβ, rfl⟩ := g2
  obtain ⟨m1, m2, m3, m4⟩ := hr.mem.freeze hg hβ
  refine h a w ⟨β, _, hr.say ht m1 m2 m3 fun u hu => ?_⟩
  simp only [V] at hu ⊢
  obtain ⟨b', N', hb', rfl⟩ := hu
  rw [hβ] at hb'
  simp only [Option.some.injEq, BL.bk.injEq] at hb'
  obtain ⟨rfl, rfl⟩ := hb'
  have := m4 0 cs.length hp
  rw [List.drop_zero, List.take_length] at this
  exact ⟨b, 0, rfl, this⟩
variable {t t' ty : TypeId} {x : Operand}
theorem y_mkic {v : A} (hc : P.concrete t = true) (hx : ev E x = some v) : YO P E st (.makeInterface t x) ty (.ic t v) := by
  intro w0 X0 n0 β X a w hr
  obtain ⟨h1, h2⟩ := hr.evo hx
  refine ⟨.iface t _, by simp only [V]; exact ⟨_, rfl, h2⟩, hr.old fun w' _ => fun d pos aft g a' w'' hR _ => ?_⟩
  simp [execOp, hR.ev h1, run_makeInterface w'' t _ hc]
def ifaceD : TypeDesc → Bool
  | .interface _ => true
  | _ => false
theorem y_tayes {v : A} {d : TypeDesc} (hu : P.underlying t = some d) (hd : ifaceD d = false) (hx : ev E x = some (.ic t v)) : YO P E st (.typeAssert x t' t true) ty (.tu [v, .b true]) := by
  intro w0 X0 n0 β X a w hr
  obtain ⟨h1, h2⟩ := hr.evo hx
  simp only [V] at h2
  obtain ⟨u, e1, e2⟩ := h2
  rw [e1] at h1
  refine ⟨.tuple #[u, .bool true], by simp only [V]; exact ⟨[u, .bool true], rfl, VS_cons e2 (VS_cons (by simp [V]) VS_nil)⟩, hr.old fun w' _ => fun d' pos aft g a' w'' hR _ => ?_⟩
  have key : (Instr.typeAssert (.iface t u) t' t true).run P w'' = .ok (.tuple #[u, .bool true]) w'' := by
    cases d <;> first | (cases hd; done) | simp [Instr.typeAssert, run_underlying hu]
  simp [execOp, hR.ev h1, key]
theorem y_tano {t2 : TypeId} {v : A} {d : TypeDesc} {z : Value} (hu : P.underlying t = some d) (hd : ifaceD d = false) (hz : (P.info? t).bind (·.zero) = some z) (hx : ev E x = some (.ic t2 v)) (hne : Nat.beq t2 t = false) : YO P E st (.typeAssert x t' t true) ty (.tu [.raw z, .b false]) := by
  intro w0 X0 n0 β X a w hr
  obtain ⟨h1, h2⟩ := hr.evo hx
  simp only [V] at h2
  obtain ⟨u, e1, e2⟩ := h2
  rw [e1] at h1
  refine ⟨.tuple #[z, .bool false], by simp only [V]; exact ⟨[z, .bool false], rfl, VS_cons (by simp [V]) (VS_cons (by simp [V]) VS_nil)⟩, hr.old fun w' _ => fun d' pos aft g a' w'' hR _ => ?_⟩
  have hn : t2 ≠ t := Nat.ne_of_beq_eq_false hne
  obtain ⟨i, hi, hz'⟩ := Option.bind_eq_some_iff.1 hz
  have hzv : (zeroValue t).run P w'' = .ok z w'' := by simp [Go.zeroValue, Go.typeInfo, hi, hz']
  have key : (Instr.typeAssert (.iface t2 u) t' t true).run P w'' = .ok (.tuple #[z, .bool false]) w'' := by
    cases d <;> first | (cases hd; done) | simp [Instr.typeAssert, run_underlying hu, hn, hzv]
  simp [execOp, hR.ev h1, key]
end
end Go.Abs
-- F3A
namespace Go.Abs.D2
open Go Go.Eng Go.Abs
inductive Part where
  | d (x : List UInt8) | b (x : UInt8) | w (x : BitVec 32)
def Part.a (tD tB tW : TypeId) : Part → A
  | .d x => .ic tD (.ag (x.map u8))
  | .b x => .ic tB (u8 x)
  | .w x => .ic tW (w32 x)
def be32 (x : BitVec 32) : List UInt8 := [UInt8.ofNat (x >>> 24).toNat, UInt8.ofNat (x >>> 16).toNat, UInt8.ofNat (x >>> 8).toNat, UInt8.ofNat x.toNat]
@[simp] theorem len_be32 (x : BitVec 32) : (be32 x).length = 4 := rfl
def Part.bs : Part → List UInt8
  | .d x => x
  | .b x => [x]
  | .w x => be32 x
def Part.ok : Part → Prop
  | .d x => x.length = 32
  | _ => True
def bytesP (ps : List Part) : List UInt8 := (ps.map Part.bs).flatten
theorem bytesP_next {ps : List Part} {i : Nat} {p : Part} (h : ps[i]? = some p) : bytesP (ps.take i) ++ p.bs = bytesP (ps.take (i + 1)) := by
  unfold bytesP
  rw [List.take_add_one, h]; simp
theorem len_bs {p : Part} (h : p.ok) : p.bs.length ≤ 32 := by
  cases p with
  | d x => exact Nat.le_of_eq h
  | b x => simp [Part.bs]
  | w x => simp [Part.bs, be32]
theorem len_bytesP : ∀ {ps : List Part}, (∀ p ∈ ps, p.ok) → (bytesP ps).length ≤ 32 * ps.length
  | [], _ => by simp [bytesP]
  | p :: ps, h => by
    have h1 := len_bs (h p (.head _))
    have h2 := len_bytesP (ps := ps) fun q hq => h q (.tail _ hq)
    unfold bytesP at *
    simp only [List.map_cons, List.flatten_cons, List.length_append, List.length_cons]
    omega
theorem getPa {tD tB tW : TypeId} {ps : List Part} {i : Nat} {p : Part} (h : ps[i]? = some p) : ((ps.map (Part.a tD tB tW)).drop (i * 1))[0]? = some (p.a tD tB tW) := by
  rw [List.getElem?_drop, show i * 1 + 0 = i by omega, List.getElem?_map, h]; rfl
theorem bytesP_step {ps : List Part} {i : Nat} {p : Part} {r : List A} (h : ps[i]? = some p) (hr : r = p.bs.map u8) : (bytesP (ps.take i)).map u8 ++ r = (bytesP (ps.take (i + 1))).map u8 := by
  rw [← bytesP_next h, hr, List.map_append]
def numD (d : List UInt8) (o : Nat) : Nat → Nat
  | 0 => 0
  | j + 1 => numD d o j * 256 + (d.getD (o + j) 0).toNat
theorem numD_lt (d : List UInt8) (o : Nat) : ∀ j, numD d o j < 256 ^ j
  | 0 => by simp [numD]
  | j + 1 => by
    have h1 := numD_lt d o j
    have h2 := (d.getD (o + j) 0).toNat_lt
    rw [numD, Nat.pow_succ]
    omega
theorem or_byte (n : Nat) (b : UInt8) (h : n < 16777216) : ibits .or .i64 ((n * 256 : Nat) : Int) (b.toNat : Int) = ((n * 256 + b.toNat : Nat) : Int) := by
  have hb := b.toNat_lt
  have e : (BitVec.ofInt 64 ((n * 256 : Nat) : Int) ||| BitVec.ofInt 64 (b.toNat : Int)).toNat = (n * 256 ||| b.toNat) % 2 ^ 64 := by
    rw [BitVec.toNat_or]
    simp only [BitVec.ofInt_natCast, BitVec.toNat_ofNat]
    rw [Nat.or_mod_two_pow]
  have e2 : n * 256 ||| b.toNat = n * 256 + b.toNat := by
    rw [Nat.mul_comm, show (256 : Nat) = 2 ^ 8 from rfl, Nat.two_pow_add_eq_or_of_lt hb]
  show IntKind.i64.wrap ((BitVec.ofInt 64 ((n * 256 : Nat) : Int) ||| BitVec.ofInt 64 (b.toNat : Int)).toNat : Int) = _
  have e3 : (n * 256 + b.toNat) % 2 ^ 64 = n * 256 + b.toNat := Nat.mod_eq_of_lt (by omega)
  rw [e, e2, e3]
  exact wrapI _ (by omega) (by omega)
theorem shl_byte (n : Nat) (h : n < 16777216) : IntKind.i64.wrap ((n : Int) * 2 ^ min ((8 : Int).toNat) IntKind.i64.bits) = ((n * 256 : Nat) : Int) := by
  show IntKind.i64.wrap ((n : Int) * 256) = _
  rw [wrapI _ (by omega) (by omega)]
  omega
@[irreducible] def filD (x : List UInt8) (lv id : Nat) : List UInt8 := tagged [102, 105, 108, 116, 101, 114] (x ++ UInt8.ofNat lv :: be32 (BitVec.ofNat 32 id))
theorem filD_eq (x : List UInt8) (lv id : Nat) : filD x lv id = tagged [102, 105, 108, 116, 101, 114] (x ++ UInt8.ofNat lv :: be32 (BitVec.ofNat 32 id)) := by unfold filD; rfl
@[simp] theorem len_filD (x : List UInt8) (lv id : Nat) : (filD x lv id).length = 32 := by rw [filD_eq]; simp
def bitL (x : List UInt8) (lv nb id i : Nat) : List Nat := (List.range i).map fun j => numD (filD x lv id) (4 * j) 4 % nb
theorem bitL_succ (x : List UInt8) (lv nb id i : Nat) : bitL x lv nb id (i + 1) = bitL x lv nb id i ++ [numD (filD x lv id) (4 * i) 4 % nb] := by simp [bitL, List.range_succ]
@[simp] theorem len_bitL (x : List UInt8) (lv nb id i : Nat) : (bitL x lv nb id i).length = i := by simp [bitL]
abbrev nJ (n : Nat) : A := .i .i64 (n : Int)
theorem getO3 {m : List UInt8} {o : Nat} (k : Nat) (hi : o + k < m.length) {cs : List A} (hc : cs = (m.map u8).drop (0 + o * 1 + k * 1)) : cs[0]? = some (u8 (m.getD (o + k) 0)) := by
  subst hc
  rw [List.getElem?_drop, show 0 + o * 1 + k * 1 + 0 = o + k by omega]
  simp [hi]
theorem conv8J (b : UInt8) : A.i .i64 (IntKind.i64.wrap (b.toNat : Int)) = nJ b.toNat := by
  have := b.toNat_lt
  exact congrArg (A.i .i64) (wrapI _ (by omega) (by omega))
def sizedP (a b : Int) : Prop := 0 ≤ a ∧ a < 16 ∧ 8 ≤ b ∧ b ≤ 4096
instance (a b : Int) : Decidable (sizedP a b) := by unfold sizedP; infer_instance
end Go.Abs.D2
-- F3B
namespace Go.Abs.D2
open Go Go.Eng Go.Abs Go.Proofs 
theorem fjoin_ok (ps : List Part) (hk : ps.length ≤ 1000) (hok : ∀ p ∈ ps, p.ok) : Con Tryd.prog 102 [.fz ps.length (ps.map (Part.a 23 5 108))] (RetO 1 (bytesP ps).length ((bytesP ps).map u8)) := by
 refine enter Tryd.func102 rfl Tryd.ntmps102 (by kernel_rfl) (Nat.le_of_ble_eq_true rfl) fun w0 X0 hI => ?_
 refine at_seq <| at_region <| s1 (y_p rfl) rfl ?_
 refine at_nil <| x_tn <| at_seq <| at_seq <| at_region <| s1 (y_p rfl) rfl <| s1 (y_len Tryd.underlying134 rfl rfl rfl) rfl <| s1 ((y_p rfl).v (v' := .i .i64 0) rfl) rfl ?_
 refine at_nil <| x_tn <| at_block ?_
 refine at_loop (ι := Nat) (fun i => [(2, .sl 2 1 0 (bytesP (ps.take i)).length), (8, .fz ps.length (ps.map (Part.a 23 5 108))), (9, .i .i64 (ps.length : Nat)), (10, .i .i64 (i : Nat))]) (fun i => ⟨[(2, some ((bytesP (ps.take i)).map u8))]⟩) (fun i => i ≤ ps.length) (fun i => ps.length - i) ?_ ?_
 ·exact at_ex (0) (Nat.zero_le _) [(2, none)] hI rfl rfl ⟨⟨_, rfl, .nl rfl⟩, ⟨_, rfl, .pure pu⟩, ⟨_, rfl, .pure pu⟩, ⟨_, rfl, .pure pu⟩, trivial⟩ ⟨.inl ⟨rfl, rfl⟩, trivial⟩
 rintro i hi
 have hbl := len_bytesP (ps := ps.take i) fun q hq => hok q (List.mem_of_mem_take hq)
 rw [List.length_take] at hbl
 refine at_seq <| at_region <| s1 (y_p rfl) rfl ?_
 refine at_nil <| x_tn <| at_seq ?_
 refine at_cond rfl (fun hc11 => ?_) (fun hc11 => ?_)
 ·have h11 : i < ps.length := by have := of_decide_eq_true hc11; omega
  obtain ⟨p, hp⟩ : ∃ p, ps[i]? = some p := ⟨_, List.getElem?_eq_getElem h11⟩
  have hpok := hok p (List.mem_of_getElem? hp)
  refine at_skip <| x_tn <| at_seq <| at_block <| at_seq <| at_region <| s1 (y_ixf i Tryd.underlying134 ti20 rfl rfl rfl (by omega) rfl) rfl <| s1 (y_load ti20 rfl rfl (getPa hp)) rfl <| s1 (y_p rfl) rfl ?_
  refine at_nil <| x_tn <| at_seq ?_
  rcases p with hcs | hcs | hcs
  ·have hl32 : hcs.length = 32 := hpok
   have hnl := congrArg List.length (bytesP_next hp)
   simp only [List.length_append, Part.bs, be32, List.length_cons, List.length_nil] at hnl
   refine at_region <| s1 (y_p rfl) rfl ?_
   refine at_nil <| x_tn <| at_block <| at_seq <| at_region <| s1 (y_tayes Tryd.underlying23 rfl rfl) rfl <| s1 (y_p rfl) rfl <| s1 (y_p rfl) rfl ?_
   refine at_nil <| x_tn ?_
   refine at_then rfl ?_
   refine at_seq <| at_region ?_
   refine at_op rfl (n_alloc 5 rfl ti23 rfl rfl ?_)
   refine at_op rfl (n_storeA ti23 rfl rfl rfl (by simp [hl32]) (by simp) ?_)
   refine at_nil <| x_tn <| at_region <| s1 (y_p rfl) rfl <| s1 (y_cuta0 Tryd.underlying23 ti5 rfl rfl (by first | rfl | omega | (simp <;> omega) | (simp [*] <;> omega)) (by simp [maxLen])) rfl ?_
   refine at_op rfl (n_app 20 rfl Tryd.underlying40 ti5 rfl (.sl rfl (by rw [List.length_map, Nat.mul_one])) rfl (SM_full rfl (by first | rfl | omega | (simp <;> omega) | (simp [*] <;> omega))) (by simp [hl32]) (by simp only [maxLen]; omega) (by omega) rfl rfl rfl ?_)
   refine s1 (y_p rfl) rfl ?_
   refine at_nil <| x_bn <| x_bn <| x_tn <| at_region <| s1 (addN _ 1 rfl rfl rfl rfl (by omega)) rfl <| s1 (y_p rfl) rfl ?_
   refine at_nil ?_
   exact at_end (i + 1) (by omega) (by omega) [(2, some 20)] hI rfl rfl ⟨⟨_, rfl, .sl rfl (by first | rfl | omega | (simp <;> omega) | (simp [*] <;> omega))⟩, ⟨_, rfl, .pure pu⟩, ⟨_, rfl, .pure pu⟩, ⟨_, rfl, .pure pu⟩, trivial⟩ ⟨.inr ⟨_, _, rfl, rfl, .of (bytesP_step hp rfl) (.pure pul)⟩, trivial⟩
  ·have hnl := congrArg List.length (bytesP_next hp)
   simp only [List.length_append, Part.bs, be32, List.length_cons, List.length_nil] at hnl
   refine at_region <| s1 (y_p rfl) rfl ?_
   refine at_nil <| x_tn <| at_block <| at_seq <| at_region <| s1 (y_tano (z := .agg (List.replicate 32 (.int .u8 0) : List Value).toArray) Tryd.underlying23 rfl (by kernel_rfl) rfl rfl) rfl <| s1 (y_p rfl) rfl <| s1 (y_p rfl) rfl ?_
   refine at_nil <| x_tn ?_
   refine at_else rfl ?_
   refine at_seq <| at_region <| s1 (y_tayes Tryd.underlying5 rfl rfl) rfl <| s1 (y_p rfl) rfl <| s1 (y_p rfl) rfl ?_
   refine at_nil <| x_tn ?_
   refine at_then rfl ?_
   refine at_seq <| at_region <| s1 (y_p rfl) rfl ?_
   refine at_nil <| x_tn <| at_region <| s1 (y_p rfl) rfl <| s1 (y_p rfl) rfl ?_
   refine at_op rfl (n_bs1 26 rfl Tryd.underlying40 ti5 rfl rfl rfl rfl rfl ?_)
   refine at_op rfl (n_app 27 rfl Tryd.underlying40 ti5 rfl (.sl rfl (by rw [List.length_map, Nat.mul_one])) rfl (SM_full rfl (by first | rfl | omega | (simp <;> omega) | (simp [*] <;> omega))) (by first | rfl | omega | (simp <;> omega) | (simp [*] <;> omega)) (by simp only [maxLen]; omega) (by omega) rfl rfl rfl ?_)
   refine s1 (y_p rfl) rfl ?_
   refine at_nil <| x_bn <| x_bn <| x_tn <| at_region <| s1 (addN _ 1 rfl rfl rfl rfl (by omega)) rfl <| s1 (y_p rfl) rfl ?_
   refine at_nil ?_
   exact at_end (i + 1) (by omega) (by omega) [(2, some 27)] hI rfl rfl ⟨⟨_, rfl, .sl rfl (by first | rfl | omega | (simp <;> omega) | (simp [*] <;> omega))⟩, ⟨_, rfl, .pure pu⟩, ⟨_, rfl, .pure pu⟩, ⟨_, rfl, .pure pu⟩, trivial⟩ ⟨.inr ⟨_, _, rfl, rfl, .of (bytesP_step hp rfl) (.pure pul)⟩, trivial⟩
  ·have hnl := congrArg List.length (bytesP_next hp)
   simp only [List.length_append, Part.bs, be32, List.length_cons, List.length_nil] at hnl
   refine at_region <| s1 (y_p rfl) rfl ?_
   refine at_nil <| x_tn <| at_block <| at_seq <| at_region <| s1 (y_tano (z := .agg (List.replicate 32 (.int .u8 0) : List Value).toArray) Tryd.underlying23 rfl (by kernel_rfl) rfl rfl) rfl <| s1 (y_p rfl) rfl <| s1 (y_p rfl) rfl ?_
   refine at_nil <| x_tn ?_
   refine at_else rfl ?_
   refine at_seq <| at_region <| s1 (y_tano (z := .int .u8 0) Tryd.underlying5 rfl (by kernel_rfl) rfl rfl) rfl <| s1 (y_p rfl) rfl <| s1 (y_p rfl) rfl ?_
   refine at_nil <| x_tn ?_
   refine at_else rfl ?_
   refine at_seq <| at_region <| s1 (y_tayes Tryd.underlying108 rfl rfl) rfl <| s1 (y_p rfl) rfl <| s1 (y_p rfl) rfl ?_
   refine at_nil <| x_tn ?_
   refine at_then rfl ?_
   refine at_seq <| at_region <| s1 (y_p rfl) rfl ?_
   refine at_nil <| x_tn <| at_region <| s1 (y_p rfl) rfl <| s1 (y_p rfl) rfl <| s1 (shr32 _ 24 rfl rfl rfl (by decide)) rfl <| s1 (to8_32 _ Tryd.underlying108 Tryd.underlying5 rfl) rfl <| s1 (y_p rfl) rfl <| s1 (shr32 _ 16 rfl rfl rfl (by decide)) rfl <| s1 (to8_32 _ Tryd.underlying108 Tryd.underlying5 rfl) rfl <| s1 (y_p rfl) rfl <| s1 (shr32 _ 8 rfl rfl rfl (by decide)) rfl <| s1 (to8_32 _ Tryd.underlying108 Tryd.underlying5 rfl) rfl ?_
   refine s1 (y_p rfl) rfl <| s1 (to8_32 _ Tryd.underlying108 Tryd.underlying5 rfl) rfl ?_
   refine at_op rfl (n_bs1 43 rfl Tryd.underlying40 ti5 rfl rfl rfl rfl rfl ?_)
   refine at_op rfl (n_app 44 rfl Tryd.underlying40 ti5 rfl (.sl rfl (by rw [List.length_map, Nat.mul_one])) rfl (SM_full rfl (by first | rfl | omega | (simp <;> omega) | (simp [*] <;> omega))) (by first | rfl | omega | (simp <;> omega) | (simp [*] <;> omega)) (by simp only [maxLen]; omega) (by omega) rfl rfl rfl ?_)
   refine s1 (y_p rfl) rfl ?_
   refine at_nil <| x_bn <| x_bn <| x_tn <| at_region <| s1 (addN _ 1 rfl rfl rfl rfl (by omega)) rfl <| s1 (y_p rfl) rfl ?_
   refine at_nil ?_
   exact at_end (i + 1) (by omega) (by omega) [(2, some 44)] hI rfl rfl ⟨⟨_, rfl, .sl rfl (by first | rfl | omega | (simp <;> omega) | (simp [*] <;> omega))⟩, ⟨_, rfl, .pure pu⟩, ⟨_, rfl, .pure pu⟩, ⟨_, rfl, .pure pu⟩, trivial⟩ ⟨.inr ⟨_, _, rfl, rfl, .of (bytesP_step hp rfl) (.pure pul)⟩, trivial⟩
 ·have h11 : i = ps.length := by have := of_decide_eq_false hc11; omega
  subst h11
  refine at_exit <| x_te <| x_te <| x_be <| x_tn <| at_seq <| at_region <| s1 (y_p rfl) rfl <| s1 (y_p rfl) rfl ?_
  refine at_nil <| x_tn <| at_ret ?_
  refine at_result (rs := [.tmp 2]) rfl (r_tmp rfl r_nil) ⟨2, ?_, ?_⟩
  ·rw [List.take_length]; rfl
  ·rw [List.take_length]; rfl
theorem bitsOf_ok (x : List UInt8) (lv nb id : Int) (D : List UInt8) : Con Tryd.prog 77 [.ag (x.map u8), .ag [.i .i64 lv, .i .i64 nb, slA D], .i .i64 id] (Ret (.fn (.func 101) [] [.fp (x.map u8), .fp [.i .i64 lv, .i .i64 nb, slA D], .fp [.i .i64 id]])) := by
 refine enter Tryd.func77 rfl Tryd.ntmps77 (by kernel_rfl) (Nat.le_of_ble_eq_true rfl) fun w0 X0 hI => ?_
 refine at_seq <| at_region ?_
 refine at_op rfl (n_boxA 3 rfl rfl rfl ?_)
 refine at_op rfl (n_boxA 4 rfl rfl rfl ?_)
 refine at_op rfl (n_box1 5 rfl rfl rfl rfl ?_)
 refine s1 (y_p rfl) rfl ?_
 refine at_nil <| x_tn <| at_seq ?_
 refine at_frzP 3 rfl rfl pul ?_
 refine at_frzP 4 rfl rfl pul ?_
 refine at_frzP 5 rfl rfl pul ?_
 refine at_region <| s1 (y_func (us := []) (vs := [.fp (x.map u8), .fp [.i .i64 lv, .i .i64 nb, slA D], .fp [.i .i64 id]]) rfl rfl) rfl <| s1 (y_p rfl) rfl ?_
 refine at_nil <| x_tn <| at_ret ?_
 refine at_result (rs := [.tmp 6]) rfl (r_tmp rfl r_nil) rfl
end Go.Abs.D2
-- D2B
namespace Go.Abs.D2
open Go Go.Eng Go.Abs Go.Proofs 
theorem rot2 (x : BitVec 32) : Con Tryd.prog 103 [w32 x, .i .i64 (-2)] (Ret (w32 (rotr x 2))) := by
 refine enter Tryd.func103 rfl Tryd.ntmps103 (by kernel_rfl) (Nat.le_of_ble_eq_true rfl) fun w0 X0 hI => ?_
 refine at_seq <| at_region <| s1 ((y_p rfl).v (v' := .i .u32 0) rfl) rfl ?_
 refine at_nil <| x_tn <| at_seq <| at_region <| s1 (y_p rfl) rfl <| s1 ((y_conv Tryd.underlying3 Tryd.underlying126 rfl).v (v' := w64 (c64 18446744073709551614)) (congrArg (A.i .u64) (by decide))) rfl <| s1 ((and64 _ (c64 31) rfl rfl).v (v' := w64 (c64 30)) (congrArg w64 (by decide))) rfl <| s1 (y_p rfl) rfl ?_
 refine at_nil <| x_tn <| at_seq <| at_region <| s1 (y_p rfl) rfl <| s1 (y_p rfl) rfl <| s1 (shl32 _ 30 rfl rfl rfl (by decide)) rfl <| s1 (y_p rfl) rfl <| s1 (y_p rfl) rfl <| s1 ((sub64 (c64 32) (c64 30) rfl rfl (by decide)).v (v' := w64 (c64 2)) (congrArg w64 (by decide))) rfl <| s1 (shr32 _ 2 rfl rfl rfl (by decide)) rfl <| s1 ((or32 _ _ rfl rfl).v (congrArg w32 (rotl_rotr x 2))) rfl <| s1 (y_p rfl) rfl ?_
 refine at_nil <| x_tn <| at_ret ?_
 refine at_result (rs := [.tmp 4]) rfl (r_tmp rfl (r_nil)) rfl
theorem rot6 (x : BitVec 32) : Con Tryd.prog 103 [w32 x, .i .i64 (-6)] (Ret (w32 (rotr x 6))) := by
 refine enter Tryd.func103 rfl Tryd.ntmps103 (by kernel_rfl) (Nat.le_of_ble_eq_true rfl) fun w0 X0 hI => ?_
 refine at_seq <| at_region <| s1 ((y_p rfl).v (v' := .i .u32 0) rfl) rfl ?_
 refine at_nil <| x_tn <| at_seq <| at_region <| s1 (y_p rfl) rfl <| s1 ((y_conv Tryd.underlying3 Tryd.underlying126 rfl).v (v' := w64 (c64 18446744073709551610)) (congrArg (A.i .u64) (by decide))) rfl <| s1 ((and64 _ (c64 31) rfl rfl).v (v' := w64 (c64 26)) (congrArg w64 (by decide))) rfl <| s1 (y_p rfl) rfl ?_
 refine at_nil <| x_tn <| at_seq <| at_region <| s1 (y_p rfl) rfl <| s1 (y_p rfl) rfl <| s1 (shl32 _ 26 rfl rfl rfl (by decide)) rfl <| s1 (y_p rfl) rfl <| s1 (y_p rfl) rfl <| s1 ((sub64 (c64 32) (c64 26) rfl rfl (by decide)).v (v' := w64 (c64 6)) (congrArg w64 (by decide))) rfl <| s1 (shr32 _ 6 rfl rfl rfl (by decide)) rfl <| s1 ((or32 _ _ rfl rfl).v (congrArg w32 (rotl_rotr x 6))) rfl <| s1 (y_p rfl) rfl ?_
 refine at_nil <| x_tn <| at_ret ?_
 refine at_result (rs := [.tmp 4]) rfl (r_tmp rfl (r_nil)) rfl
theorem rot7 (x : BitVec 32) : Con Tryd.prog 103 [w32 x, .i .i64 (-7)] (Ret (w32 (rotr x 7))) := by
 refine enter Tryd.func103 rfl Tryd.ntmps103 (by kernel_rfl) (Nat.le_of_ble_eq_true rfl) fun w0 X0 hI => ?_
 refine at_seq <| at_region <| s1 ((y_p rfl).v (v' := .i .u32 0) rfl) rfl ?_
 refine at_nil <| x_tn <| at_seq <| at_region <| s1 (y_p rfl) rfl <| s1 ((y_conv Tryd.underlying3 Tryd.underlying126 rfl).v (v' := w64 (c64 18446744073709551609)) (congrArg (A.i .u64) (by decide))) rfl <| s1 ((and64 _ (c64 31) rfl rfl).v (v' := w64 (c64 25)) (congrArg w64 (by decide))) rfl <| s1 (y_p rfl) rfl ?_
 refine at_nil <| x_tn <| at_seq <| at_region <| s1 (y_p rfl) rfl <| s1 (y_p rfl) rfl <| s1 (shl32 _ 25 rfl rfl rfl (by decide)) rfl <| s1 (y_p rfl) rfl <| s1 (y_p rfl) rfl <| s1 ((sub64 (c64 32) (c64 25) rfl rfl (by decide)).v (v' := w64 (c64 7)) (congrArg w64 (by decide))) rfl <| s1 (shr32 _ 7 rfl rfl rfl (by decide)) rfl <| s1 ((or32 _ _ rfl rfl).v (congrArg w32 (rotl_rotr x 7))) rfl <| s1 (y_p rfl) rfl ?_
 refine at_nil <| x_tn <| at_ret ?_
 refine at_result (rs := [.tmp 4]) rfl (r_tmp rfl (r_nil)) rfl
theorem rot11 (x : BitVec 32) : Con Tryd.prog 103 [w32 x, .i .i64 (-11)] (Ret (w32 (rotr x 11))) := by
 refine enter Tryd.func103 rfl Tryd.ntmps103 (by kernel_rfl) (Nat.le_of_ble_eq_true rfl) fun w0 X0 hI => ?_
 refine at_seq <| at_region <| s1 ((y_p rfl).v (v' := .i .u32 0) rfl) rfl ?_
 refine at_nil <| x_tn <| at_seq <| at_region <| s1 (y_p rfl) rfl <| s1 ((y_conv Tryd.underlying3 Tryd.underlying126 rfl).v (v' := w64 (c64 18446744073709551605)) (congrArg (A.i .u64) (by decide))) rfl <| s1 ((and64 _ (c64 31) rfl rfl).v (v' := w64 (c64 21)) (congrArg w64 (by decide))) rfl <| s1 (y_p rfl) rfl ?_
 refine at_nil <| x_tn <| at_seq <| at_region <| s1 (y_p rfl) rfl <| s1 (y_p rfl) rfl <| s1 (shl32 _ 21 rfl rfl rfl (by decide)) rfl <| s1 (y_p rfl) rfl <| s1 (y_p rfl) rfl <| s1 ((sub64 (c64 32) (c64 21) rfl rfl (by decide)).v (v' := w64 (c64 11)) (congrArg w64 (by decide))) rfl <| s1 (shr32 _ 11 rfl rfl rfl (by decide)) rfl <| s1 ((or32 _ _ rfl rfl).v (congrArg w32 (rotl_rotr x 11))) rfl <| s1 (y_p rfl) rfl ?_
 refine at_nil <| x_tn <| at_ret ?_
 refine at_result (rs := [.tmp 4]) rfl (r_tmp rfl (r_nil)) rfl
theorem rot13 (x : BitVec 32) : Con Tryd.prog 103 [w32 x, .i .i64 (-13)] (Ret (w32 (rotr x 13))) := by
 refine enter Tryd.func103 rfl Tryd.ntmps103 (by kernel_rfl) (Nat.le_of_ble_eq_true rfl) fun w0 X0 hI => ?_
 refine at_seq <| at_region <| s1 ((y_p rfl).v (v' := .i .u32 0) rfl) rfl ?_
 refine at_nil <| x_tn <| at_seq <| at_region <| s1 (y_p rfl) rfl <| s1 ((y_conv Tryd.underlying3 Tryd.underlying126 rfl).v (v' := w64 (c64 18446744073709551603)) (congrArg (A.i .u64) (by decide))) rfl <| s1 ((and64 _ (c64 31) rfl rfl).v (v' := w64 (c64 19)) (congrArg w64 (by decide))) rfl <| s1 (y_p rfl) rfl ?_
 refine at_nil <| x_tn <| at_seq <| at_region <| s1 (y_p rfl) rfl <| s1 (y_p rfl) rfl <| s1 (shl32 _ 19 rfl rfl rfl (by decide)) rfl <| s1 (y_p rfl) rfl <| s1 (y_p rfl) rfl <| s1 ((sub64 (c64 32) (c64 19) rfl rfl (by decide)).v (v' := w64 (c64 13)) (congrArg w64 (by decide))) rfl <| s1 (shr32 _ 13 rfl rfl rfl (by decide)) rfl <| s1 ((or32 _ _ rfl rfl).v (congrArg w32 (rotl_rotr x 13))) rfl <| s1 (y_p rfl) rfl ?_
 refine at_nil <| x_tn <| at_ret ?_
 refine at_result (rs := [.tmp 4]) rfl (r_tmp rfl (r_nil)) rfl
theorem rot17 (x : BitVec 32) : Con Tryd.prog 103 [w32 x, .i .i64 (-17)] (Ret (w32 (rotr x 17))) := by
 refine enter Tryd.func103 rfl Tryd.ntmps103 (by kernel_rfl) (Nat.le_of_ble_eq_true rfl) fun w0 X0 hI => ?_
 refine at_seq <| at_region <| s1 ((y_p rfl).v (v' := .i .u32 0) rfl) rfl ?_
 refine at_nil <| x_tn <| at_seq <| at_region <| s1 (y_p rfl) rfl <| s1 ((y_conv Tryd.underlying3 Tryd.underlying126 rfl).v (v' := w64 (c64 18446744073709551599)) (congrArg (A.i .u64) (by decide))) rfl <| s1 ((and64 _ (c64 31) rfl rfl).v (v' := w64 (c64 15)) (congrArg w64 (by decide))) rfl <| s1 (y_p rfl) rfl ?_
 refine at_nil <| x_tn <| at_seq <| at_region <| s1 (y_p rfl) rfl <| s1 (y_p rfl) rfl <| s1 (shl32 _ 15 rfl rfl rfl (by decide)) rfl <| s1 (y_p rfl) rfl <| s1 (y_p rfl) rfl <| s1 ((sub64 (c64 32) (c64 15) rfl rfl (by decide)).v (v' := w64 (c64 17)) (congrArg w64 (by decide))) rfl <| s1 (shr32 _ 17 rfl rfl rfl (by decide)) rfl <| s1 ((or32 _ _ rfl rfl).v (congrArg w32 (rotl_rotr x 17))) rfl <| s1 (y_p rfl) rfl ?_
 refine at_nil <| x_tn <| at_ret ?_
 refine at_result (rs := [.tmp 4]) rfl (r_tmp rfl (r_nil)) rfl
theorem rot18 (x : BitVec 32) : Con Tryd.prog 103 [w32 x, .i .i64 (-18)] (Ret (w32 (rotr x 18))) := by
 refine enter Tryd.func103 rfl Tryd.ntmps103 (by kernel_rfl) (Nat.le_of_ble_eq_true rfl) fun w0 X0 hI => ?_
 refine at_seq <| at_region <| s1 ((y_p rfl).v (v' := .i .u32 0) rfl) rfl ?_
 refine at_nil <| x_tn <| at_seq <| at_region <| s1 (y_p rfl) rfl <| s1 ((y_conv Tryd.underlying3 Tryd.underlying126 rfl).v (v' := w64 (c64 18446744073709551598)) (congrArg (A.i .u64) (by decide))) rfl <| s1 ((and64 _ (c64 31) rfl rfl).v (v' := w64 (c64 14)) (congrArg w64 (by decide))) rfl <| s1 (y_p rfl) rfl ?_
 refine at_nil <| x_tn <| at_seq <| at_region <| s1 (y_p rfl) rfl <| s1 (y_p rfl) rfl <| s1 (shl32 _ 14 rfl rfl rfl (by decide)) rfl <| s1 (y_p rfl) rfl <| s1 (y_p rfl) rfl <| s1 ((sub64 (c64 32) (c64 14) rfl rfl (by decide)).v (v' := w64 (c64 18)) (congrArg w64 (by decide))) rfl <| s1 (shr32 _ 18 rfl rfl rfl (by decide)) rfl <| s1 ((or32 _ _ rfl rfl).v (congrArg w32 (rotl_rotr x 18))) rfl <| s1 (y_p rfl) rfl ?_
 refine at_nil <| x_tn <| at_ret ?_
 refine at_result (rs := [.tmp 4]) rfl (r_tmp rfl (r_nil)) rfl
theorem rot19 (x : BitVec 32) : Con Tryd.prog 103 [w32 x, .i .i64 (-19)] (Ret (w32 (rotr x 19))) := by
 refine enter Tryd.func103 rfl Tryd.ntmps103 (by kernel_rfl) (Nat.le_of_ble_eq_true rfl) fun w0 X0 hI => ?_
 refine at_seq <| at_region <| s1 ((y_p rfl).v (v' := .i .u32 0) rfl) rfl ?_
 refine at_nil <| x_tn <| at_seq <| at_region <| s1 (y_p rfl) rfl <| s1 ((y_conv Tryd.underlying3 Tryd.underlying126 rfl).v (v' := w64 (c64 18446744073709551597)) (congrArg (A.i .u64) (by decide))) rfl <| s1 ((and64 _ (c64 31) rfl rfl).v (v' := w64 (c64 13)) (congrArg w64 (by decide))) rfl <| s1 (y_p rfl) rfl ?_
 refine at_nil <| x_tn <| at_seq <| at_region <| s1 (y_p rfl) rfl <| s1 (y_p rfl) rfl <| s1 (shl32 _ 13 rfl rfl rfl (by decide)) rfl <| s1 (y_p rfl) rfl <| s1 (y_p rfl) rfl <| s1 ((sub64 (c64 32) (c64 13) rfl rfl (by decide)).v (v' := w64 (c64 19)) (congrArg w64 (by decide))) rfl <| s1 (shr32 _ 19 rfl rfl rfl (by decide)) rfl <| s1 ((or32 _ _ rfl rfl).v (congrArg w32 (rotl_rotr x 19))) rfl <| s1 (y_p rfl) rfl ?_
 refine at_nil <| x_tn <| at_ret ?_
 refine at_result (rs := [.tmp 4]) rfl (r_tmp rfl (r_nil)) rfl
theorem rot22 (x : BitVec 32) : Con Tryd.prog 103 [w32 x, .i .i64 (-22)] (Ret (w32 (rotr x 22))) := by
 refine enter Tryd.func103 rfl Tryd.ntmps103 (by kernel_rfl) (Nat.le_of_ble_eq_true rfl) fun w0 X0 hI => ?_
 refine at_seq <| at_region <| s1 ((y_p rfl).v (v' := .i .u32 0) rfl) rfl ?_
 refine at_nil <| x_tn <| at_seq <| at_region <| s1 (y_p rfl) rfl <| s1 ((y_conv Tryd.underlying3 Tryd.underlying126 rfl).v (v' := w64 (c64 18446744073709551594)) (congrArg (A.i .u64) (by decide))) rfl <| s1 ((and64 _ (c64 31) rfl rfl).v (v' := w64 (c64 10)) (congrArg w64 (by decide))) rfl <| s1 (y_p rfl) rfl ?_
 refine at_nil <| x_tn <| at_seq <| at_region <| s1 (y_p rfl) rfl <| s1 (y_p rfl) rfl <| s1 (shl32 _ 10 rfl rfl rfl (by decide)) rfl <| s1 (y_p rfl) rfl <| s1 (y_p rfl) rfl <| s1 ((sub64 (c64 32) (c64 10) rfl rfl (by decide)).v (v' := w64 (c64 22)) (congrArg w64 (by decide))) rfl <| s1 (shr32 _ 22 rfl rfl rfl (by decide)) rfl <| s1 ((or32 _ _ rfl rfl).v (congrArg w32 (rotl_rotr x 22))) rfl <| s1 (y_p rfl) rfl ?_
 refine at_nil <| x_tn <| at_ret ?_
 refine at_result (rs := [.tmp 4]) rfl (r_tmp rfl (r_nil)) rfl
theorem rot25 (x : BitVec 32) : Con Tryd.prog 103 [w32 x, .i .i64 (-25)] (Ret (w32 (rotr x 25))) := by
 refine enter Tryd.func103 rfl Tryd.ntmps103 (by kernel_rfl) (Nat.le_of_ble_eq_true rfl) fun w0 X0 hI => ?_
 refine at_seq <| at_region <| s1 ((y_p rfl).v (v' := .i .u32 0) rfl) rfl ?_
 refine at_nil <| x_tn <| at_seq <| at_region <| s1 (y_p rfl) rfl <| s1 ((y_conv Tryd.underlying3 Tryd.underlying126 rfl).v (v' := w64 (c64 18446744073709551591)) (congrArg (A.i .u64) (by decide))) rfl <| s1 ((and64 _ (c64 31) rfl rfl).v (v' := w64 (c64 7)) (congrArg w64 (by decide))) rfl <| s1 (y_p rfl) rfl ?_
 refine at_nil <| x_tn <| at_seq <| at_region <| s1 (y_p rfl) rfl <| s1 (y_p rfl) rfl <| s1 (shl32 _ 7 rfl rfl rfl (by decide)) rfl <| s1 (y_p rfl) rfl <| s1 (y_p rfl) rfl <| s1 ((sub64 (c64 32) (c64 7) rfl rfl (by decide)).v (v' := w64 (c64 25)) (congrArg w64 (by decide))) rfl <| s1 (shr32 _ 25 rfl rfl rfl (by decide)) rfl <| s1 ((or32 _ _ rfl rfl).v (congrArg w32 (rotl_rotr x 25))) rfl <| s1 (y_p rfl) rfl ?_
 refine at_nil <| x_tn <| at_ret ?_
 refine at_result (rs := [.tmp 4]) rfl (r_tmp rfl (r_nil)) rfl
theorem ror_ok (x : BitVec 32) (n : Nat) (h : n ≤ 32) : Con Tryd.prog 106 [w32 x, .i .i64 (n : Int)] (Ret (w32 (rotr x n))) := by
 refine enter Tryd.func106 rfl Tryd.ntmps106 (by kernel_rfl) (Nat.le_of_ble_eq_true rfl) fun w0 X0 hI => ?_
 refine at_seq <| at_region <| s1 ((y_p rfl).v (v' := .i .u32 0) rfl) rfl ?_
 refine at_nil <| x_tn <| at_seq ?_
 refine at_draw_tail 8 hmix (by kernel_rfl) ?_
 refine t1 (y_p rfl) rfl <| t1 (y_p rfl) rfl <| t1 (shr32 _ n rfl rfl rfl h) rfl <| t1 (y_p rfl) rfl <| t1 (y_p rfl) rfl <| t1 (subN 32 n rfl rfl rfl rfl h (by omega)) rfl <| t1 (shl32 _ (32 - n) rfl rfl rfl (by omega)) rfl <| t1 ((or32 _ _ rfl rfl).v rfl) rfl ?_
 refine at_snil ?_
 refine s1 (y_p rfl) rfl ?_
 refine at_nil <| x_tn <| at_ret ?_
 refine at_result (rs := [.tmp 4]) rfl (r_tmp rfl (r_nil)) rfl
theorem word_ok (b : List UInt8) (i : Nat) (h : i + 4 ≤ b.length) : Con Tryd.prog 105 [.fz 4 (((b.map u8).drop (i * 1)).take (4 * 1))] (Ret (w32 (word b i))) := by
 refine enter Tryd.func105 rfl Tryd.ntmps105 (by kernel_rfl) (Nat.le_of_ble_eq_true rfl) fun w0 X0 hI => ?_
 refine at_seq <| at_region <| s1 ((y_p rfl).v (v' := .i .u32 0) rfl) rfl ?_
 refine at_nil <| x_tn <| at_seq ?_
 refine at_draw_tail 22 hmix (by kernel_rfl) ?_
 refine t1 (y_p rfl) rfl <| t1 (y_ixf 0 Tryd.underlying40 ti5 rfl rfl rfl (by omega) rfl) rfl <| t1 (y_load ti5 rfl rfl (getU8 b (i + 0) (by omega) (k := 0) rfl (by omega) rfl)) rfl <| t1 (of8_32 _ Tryd.underlying5 Tryd.underlying108 rfl) rfl <| t1 (shl32 _ 24 rfl rfl rfl (by decide)) rfl <| t1 (y_p rfl) rfl <| t1 (y_ixf 1 Tryd.underlying40 ti5 rfl rfl rfl (by omega) rfl) rfl <| t1 (y_load ti5 rfl rfl (getU8 b (i + 1) (by omega) (k := 1) rfl (by omega) rfl)) rfl <| t1 (of8_32 _ Tryd.underlying5 Tryd.underlying108 rfl) rfl <| t1 (shl32 _ 16 rfl rfl rfl (by decide)) rfl ?_
 refine t1 (or32 _ _ rfl rfl) rfl <| t1 (y_p rfl) rfl <| t1 (y_ixf 2 Tryd.underlying40 ti5 rfl rfl rfl (by omega) rfl) rfl <| t1 (y_load ti5 rfl rfl (getU8 b (i + 2) (by omega) (k := 2) rfl (by omega) rfl)) rfl <| t1 (of8_32 _ Tryd.underlying5 Tryd.underlying108 rfl) rfl <| t1 (shl32 _ 8 rfl rfl rfl (by decide)) rfl <| t1 (or32 _ _ rfl rfl) rfl <| t1 (y_p rfl) rfl <| t1 (y_ixf 3 Tryd.underlying40 ti5 rfl rfl rfl (by omega) rfl) rfl <| t1 (y_load ti5 rfl rfl (getU8 b (i + 3) (by omega) (k := 3) rfl (by omega) rfl)) rfl ?_
 refine t1 (of8_32 _ Tryd.underlying5 Tryd.underlying108 rfl) rfl <| t1 (or32 _ _ rfl rfl) rfl ?_
 refine at_snil ?_
 refine s1 (y_p rfl) rfl ?_
 refine at_nil <| x_tn <| at_ret ?_
 refine at_result (rs := [.tmp 2]) rfl (r_tmp rfl (r_nil)) rfl
end Go.Abs.D2
-- D2C
namespace Go.Abs.D2
open Go Go.Eng Go.Abs Go.Proofs 
theorem numbers_ok : Con Tryd.prog 107 [] (Ret (.ag (kTab.map w32))) := by
 refine enter Tryd.func107 rfl Tryd.ntmps107 (by kernel_rfl) (Nat.le_of_ble_eq_true rfl) fun w0 X0 hI => ?_
 refine at_seq <| at_region ?_
 refine at_op rfl (n_alloc 0 rfl ti129 rfl rfl ?_)
 refine at_nil <| x_tn <| at_seq <| at_region <| s1 ((y_bldA (vs := [_, _, _, _, _, _, _, _, _, _, _, _, _, _, _, _, _, _, _, _, _, _, _, _, _, _, _, _, _, _, _, _, _, _, _, _, _, _, _, _, _, _, _, _, _, _, _, _, _, _, _, _, _, _, _, _, _, _, _, _, _, _, _, _]) ti129 rfl Tryd.underlying129 ti108 rfl rfl rfl rfl).v (v' := .ag (kTab.map w32)) (by kernel_rfl)) rfl ?_
 refine at_op rfl (n_storeA ti129 rfl rfl rfl (by first | rfl | omega | (simp <;> omega) | (simp [*] <;> omega) | (simp [D32.len, -List.length_flatten, *] <;> omega)) (by first | rfl | omega | (simp <;> omega) | (simp [*] <;> omega) | (simp [D32.len, -List.length_flatten, *] <;> omega)) ?_)
 refine at_nil <| x_tn <| at_ret ?_
 refine at_result (rs := [.cell 0 129]) rfl (r_cellA ti129 rfl rfl (List.take_of_length_le (by simp [len_kTab])) (by simp [len_kTab]) r_nil) rfl
theorem block_ok (s : S8) (b : List UInt8) (hb : b.length = 64) : Con Tryd.prog 94 [.ag (s.l.map w32), .fz 64 (b.map u8)] (Ret (.ag ((comp s b).l.map w32))) := by
 refine enter Tryd.func94 rfl Tryd.ntmps94 (by kernel_rfl) (Nat.le_of_ble_eq_true rfl) fun w0 X0 hI => ?_
 refine at_seq <| at_region ?_
 refine at_op rfl (n_boxA 2 rfl rfl rfl ?_)
 refine at_op rfl (n_alloc 4 rfl ti109 rfl rfl ?_)
 refine at_nil <| x_tn <| at_seq <| at_region <| s1 ((y_bld0 ti129 rfl Tryd.underlying129 ti108 rfl).v (v' := .ag ((words b 0).map w32 ++ List.replicate (64 - 0) (w32 0))) (by kernel_rfl)) rfl ?_
 refine at_op rfl (n_alloc 5 rfl ti129 rfl rfl ?_)
 refine at_op rfl (n_storeA ti129 rfl rfl rfl (by simp) (by simp) ?_)
 refine at_nil <| x_tn <| at_seq <| at_seq <| at_region <| s1 ((y_p rfl).v (v' := .i .i64 0) rfl) rfl ?_
 refine at_nil <| x_tn <| at_block ?_
 refine at_loop (ι := Nat) (fun i => [(1, .fz 64 (b.map u8)), (2, .p 2 0), (4, .p 4 0), (5, .p 5 0), (6, .i .i64 (i : Nat))]) (fun i => ⟨[(2, some (s.l.map w32)), (4, some (List.replicate 8 (w32 0))), (5, some ((words b i).map w32 ++ List.replicate (64 - i) (w32 0)))]⟩) (fun i => i ≤ 16) (fun i => 16 - i) ?_ ?_
 ·exact at_ex (0) (Nat.zero_le _) [(2, some 2), (4, some 4), (5, some 5)] hI rfl rfl ⟨⟨_, rfl, .pure pu⟩, ⟨_, rfl, .p rfl⟩, ⟨_, rfl, .p rfl⟩, ⟨_, rfl, .p rfl⟩, ⟨_, rfl, .pure pu⟩, trivial⟩ ⟨.inr ⟨_, _, rfl, rfl, .pure pul⟩, .inr ⟨_, _, rfl, rfl, .pure pul⟩, .inr ⟨_, _, rfl, rfl, .pure pul⟩, trivial⟩
 rintro i hi
 refine at_seq <| at_seq <| at_region <| s1 (y_p rfl) rfl <| s1 (y_p rfl) rfl ?_
 refine at_nil <| x_tn ?_
 refine at_cond rfl (fun hc24 => ?_) (fun hc24 => ?_)
 ·have hi16 : i < 16 := by have := of_decide_eq_true hc24; omega
  refine at_skip <| x_tn <| at_seq <| at_block <| at_region <| s1 (y_p rfl) rfl <| s1 (y_p rfl) rfl <| s1 (y_p rfl) rfl <| s1 (mulN 4 _ rfl rfl rfl rfl (by omega)) rfl <| s1 (y_p rfl) rfl <| s1 (mulN 4 _ rfl rfl rfl rfl (by omega)) rfl <| s1 (addN _ 4 rfl rfl rfl rfl (by omega)) rfl <| s1 (y_cutf 4 Tryd.underlying40 ti5 rfl (by simp [hb]) (bs rfl rfl) (bs rfl rfl) (by omega) (by omega) (by omega) rfl) rfl ?_
  refine at_op rfl (n_call false rfl (.cons (.pure pu) (.nil)) (word_ok b (4 * i) (by omega)) pu (.inl rfl) rfl ?_)
  refine s1 (y_ixa i Tryd.underlying129 ti108 rfl rfl rfl (by omega) rfl) rfl ?_
  refine at_op rfl (n_store1 ti108 rfl rfl rfl rfl (by first | rfl | omega | (simp <;> omega) | (simp [*] <;> omega) | (simp [D32.len, -List.length_flatten, *] <;> omega)) (set_words b i (by omega)) ?_)
  refine at_nil <| x_bn <| x_tn <| at_region <| s1 (y_p rfl) rfl <| s1 (addN _ 1 rfl rfl rfl rfl (by omega)) rfl <| s1 (y_p rfl) rfl ?_
  refine at_nil ?_
  exact at_end (i + 1) (by omega) (by omega) [(2, some 2), (4, some 4), (5, some 5)] hI rfl rfl ⟨⟨_, rfl, .pure pu⟩, ⟨_, rfl, .p rfl⟩, ⟨_, rfl, .p rfl⟩, ⟨_, rfl, .p rfl⟩, ⟨_, rfl, .pure pu⟩, trivial⟩ ⟨.inr ⟨_, _, rfl, rfl, .pure pul⟩, .inr ⟨_, _, rfl, rfl, .pure pul⟩, .inr ⟨_, _, rfl, rfl, .pure pul⟩, trivial⟩
 ·have hi16 : i = 16 := by have := of_decide_eq_false hc24; omega
  subst hi16
  refine at_exit <| x_te <| x_te <| x_be <| x_tn <| at_seq <| at_seq <| at_region <| s1 ((y_p rfl).v (v' := .i .i64 16) rfl) rfl ?_
  refine at_nil <| x_tn <| at_block ?_
  refine at_loop (ι := Nat) (fun k => [(2, .p 2 0), (4, .p 4 0), (5, .p 5 0), (7, .i .i64 ((16 + k : Nat) : Int))]) (fun k => ⟨[(2, some (s.l.map w32)), (4, some (List.replicate 8 (w32 0))), (5, some ((sched b k).map w32 ++ List.replicate (48 - k) (w32 0)))]⟩) (fun k => k ≤ 48) (fun k => 48 - k) ?_ ?_
  ·skip
   refine at_sayO 5 rfl (cs' := (sched b 0).map w32 ++ List.replicate (48 - 0) (w32 0)) (by rw [sched_0]) ?_
   exact at_ex (0) (Nat.zero_le _) [(2, some 2), (4, some 4), (5, some 5)] hI rfl rfl ⟨⟨_, rfl, .p rfl⟩, ⟨_, rfl, .p rfl⟩, ⟨_, rfl, .p rfl⟩, ⟨_, rfl, .pure pu⟩, trivial⟩ ⟨.inr ⟨_, _, rfl, rfl, .pure pul⟩, .inr ⟨_, _, rfl, rfl, .pure pul⟩, .inr ⟨_, _, rfl, rfl, .pure pul⟩, trivial⟩
  rintro k hk
  refine at_seq <| at_seq <| at_region <| s1 (y_p rfl) rfl <| s1 (y_p rfl) rfl ?_
  refine at_nil <| x_tn ?_
  refine at_cond rfl (fun hc38 => ?_) (fun hc38 => ?_)
  ·have hk48 : k < 48 := by have := of_decide_eq_true hc38; omega
   refine at_skip <| x_tn <| at_seq <| at_block <| at_seq <| at_region <| s1 (y_p rfl) rfl <| s1 (subN (16 + k) 15 rfl rfl rfl rfl (by omega) (by omega)) rfl <| s1 (y_ixa (16 + k - 15) Tryd.underlying129 ti108 rfl rfl rfl (by omega) rfl) rfl <| s1 (y_load ti108 rfl rfl (getW (16 + k - 15) (by first | rfl | omega | (simp <;> omega) | (simp [*] <;> omega) | (simp [D32.len, -List.length_flatten, *] <;> omega)) rfl)) rfl <| s1 (y_p rfl) rfl ?_
   refine at_nil <| x_tn <| at_seq <| at_region <| s1 (y_p rfl) rfl <| s1 (subN (16 + k) 2 rfl rfl rfl rfl (by omega) (by omega)) rfl <| s1 (y_ixa (16 + k - 2) Tryd.underlying129 ti108 rfl rfl rfl (by omega) rfl) rfl <| s1 (y_load ti108 rfl rfl (getW (16 + k - 2) (by first | rfl | omega | (simp <;> omega) | (simp [*] <;> omega) | (simp [D32.len, -List.length_flatten, *] <;> omega)) rfl)) rfl <| s1 (y_p rfl) rfl ?_
   refine at_nil <| x_tn ?_
   refine at_fs ⟨_, [], []⟩ 29 4 hmix (le_refl rfl) ?_
   refine fs_q 0 [] [] (y_p rfl) rfl rfl ?_
   refine fs_q 1 [] [] (y_p rfl) rfl rfl ?_
   refine fs_q 2 [1] [] (subN (16 + k) 16 rfl rfl rfl rfl (by omega) (by omega)) rfl rfl ?_
   refine fs_q 3 [2] [(5, none)] (y_ixa (16 + k - 16) Tryd.underlying129 ti108 rfl rfl rfl (by omega) rfl) rfl rfl ?_
   refine fs_q 4 [3] [(5, none)] (y_load ti108 rfl rfl (getW (16 + k - 16) (by first | rfl | omega | (simp <;> omega) | (simp [*] <;> omega) | (simp [D32.len, -List.length_flatten, *] <;> omega)) rfl)) rfl rfl ?_
   refine fs_q 5 [] [] (y_p rfl) rfl rfl ?_
   refine fs_call false 6 [5] [] gy0 rfl (.cons (.pure pu) (.cons (.pure pu) (.nil))) (ror_ok _ 7 (by decide)) pu (.inl rfl) rfl rfl ?_
   refine fs_q 7 [] [] (y_p rfl) rfl rfl ?_
   refine fs_call false 8 [7] [] gy0 rfl (.cons (.pure pu) (.cons (.pure pu) (.nil))) (ror_ok _ 18 (by decide)) pu (.inl rfl) rfl rfl ?_
   refine fs_q 9 [6, 8] [] (xor32 _ _ rfl rfl) rfl rfl ?_
   refine fs_q 10 [] [] (y_p rfl) rfl rfl ?_
   refine fs_q 11 [10] [] (shr32 _ 3 rfl rfl rfl (by decide)) rfl rfl ?_
   refine fs_q 12 [9, 11] [] (xor32 _ _ rfl rfl) rfl rfl ?_
   refine fs_q 13 [4, 12] [] (add32 _ _ rfl rfl) rfl rfl ?_
   refine fs_q 14 [] [] (y_p rfl) rfl rfl ?_
   refine fs_q 15 [14] [] (subN (16 + k) 7 rfl rfl rfl rfl (by omega) (by omega)) rfl rfl ?_
   refine fs_q 16 [15] [(5, none)] (y_ixa (16 + k - 7) Tryd.underlying129 ti108 rfl rfl rfl (by omega) rfl) rfl rfl ?_
   refine fs_q 17 [16] [(5, none)] (y_load ti108 rfl rfl (getW (16 + k - 7) (by first | rfl | omega | (simp <;> omega) | (simp [*] <;> omega) | (simp [D32.len, -List.length_flatten, *] <;> omega)) rfl)) rfl rfl ?_
   refine fs_q 18 [13, 17] [] (add32 _ _ rfl rfl) rfl rfl ?_
   refine fs_q 19 [] [] (y_p rfl) rfl rfl ?_
   refine fs_call false 20 [19] [] gy0 rfl (.cons (.pure pu) (.cons (.pure pu) (.nil))) (ror_ok _ 17 (by decide)) pu (.inl rfl) rfl rfl ?_
   refine fs_q 21 [] [] (y_p rfl) rfl rfl ?_
   refine fs_call false 22 [21] [] gy0 rfl (.cons (.pure pu) (.cons (.pure pu) (.nil))) (ror_ok _ 19 (by decide)) pu (.inl rfl) rfl rfl ?_
   refine fs_q 23 [20, 22] [] (xor32 _ _ rfl rfl) rfl rfl ?_
   refine fs_q 24 [] [] (y_p rfl) rfl rfl ?_
   refine fs_q 25 [24] [] (shr32 _ 10 rfl rfl rfl (by decide)) rfl rfl ?_
   refine fs_q 26 [23, 25] [] (xor32 _ _ rfl rfl) rfl rfl ?_
   refine fs_q 27 [18, 26] [] (add32 _ _ rfl rfl) rfl rfl ?_
   refine fs_q 28 [0] [(5, none)] (y_ixa (16 + k) Tryd.underlying129 ti108 rfl rfl rfl (by omega) rfl) rfl rfl ?_
   refine fs_end (by kernel_rfl) ?_
   refine at_op rfl (n_store1 ti108 rfl rfl rfl rfl (by first | rfl | omega | (simp <;> omega) | (simp [*] <;> omega) | (simp [D32.len, -List.length_flatten, *] <;> omega)) (set_sched b k _ (by omega) rfl) ?_)
   refine at_nil <| x_bn <| x_tn <| at_region <| s1 (y_p rfl) rfl <| s1 (addN _ 1 rfl rfl rfl rfl (by omega)) rfl <| s1 (y_p rfl) rfl ?_
   refine at_nil ?_
   exact at_end (k + 1) (by omega) (by omega) [(2, some 2), (4, some 4), (5, some 5)] hI rfl rfl ⟨⟨_, rfl, .p rfl⟩, ⟨_, rfl, .p rfl⟩, ⟨_, rfl, .p rfl⟩, ⟨_, rfl, .pure pu⟩, trivial⟩ ⟨.inr ⟨_, _, rfl, rfl, .pure pul⟩, .inr ⟨_, _, rfl, rfl, .pure pul⟩, .inr ⟨_, _, rfl, rfl, .pure pul⟩, trivial⟩
  ·have hk48 : k = 48 := by have := of_decide_eq_false hc38; omega
   subst hk48
   refine at_exit <| x_te <| x_te <| x_be <| x_tn <| at_seq <| at_region ?_
   refine at_op rfl (n_call false rfl (.nil) (numbers_ok) pu (.inl rfl) rfl ?_)
   refine at_op rfl (n_alloc 10 rfl ti129 rfl rfl ?_)
   refine at_op rfl (n_storeA ti129 rfl rfl rfl (by simp [len_kTab]) (by simp) ?_)
   refine at_nil <| x_tn <| at_seq ?_
   refine at_draw_tail 23 hmix (by kernel_rfl) ?_
   refine t1 (y_ixa 0 Tryd.underlying109 ti108 rfl rfl rfl (by omega) rfl) rfl <| t1 (y_load ti108 rfl rfl rfl) rfl <| t1 (y_ixa 1 Tryd.underlying109 ti108 rfl rfl rfl (by omega) rfl) rfl <| t1 (y_load ti108 rfl rfl rfl) rfl <| t1 (y_ixa 2 Tryd.underlying109 ti108 rfl rfl rfl (by omega) rfl) rfl <| t1 (y_load ti108 rfl rfl rfl) rfl <| t1 (y_ixa 3 Tryd.underlying109 ti108 rfl rfl rfl (by omega) rfl) rfl <| t1 (y_load ti108 rfl rfl rfl) rfl <| t1 (y_ixa 4 Tryd.underlying109 ti108 rfl rfl rfl (by omega) rfl) rfl <| t1 (y_load ti108 rfl rfl rfl) rfl ?_
   refine t1 (y_ixa 5 Tryd.underlying109 ti108 rfl rfl rfl (by omega) rfl) rfl <| t1 (y_load ti108 rfl rfl rfl) rfl <| t1 (y_ixa 6 Tryd.underlying109 ti108 rfl rfl rfl (by omega) rfl) rfl <| t1 (y_load ti108 rfl rfl rfl) rfl <| t1 (y_ixa 7 Tryd.underlying109 ti108 rfl rfl rfl (by omega) rfl) rfl <| t1 (y_load ti108 rfl rfl rfl) rfl <| t1 (y_p rfl) rfl <| t1 (y_p rfl) rfl <| t1 (y_p rfl) rfl <| t1 (y_p rfl) rfl ?_
   refine t1 (y_p rfl) rfl <| t1 (y_p rfl) rfl <| t1 (y_p rfl) rfl ?_
   refine at_snil ?_
   refine s1 (y_p rfl) rfl ?_
   refine at_nil <| x_tn <| at_seq <| at_seq <| at_region <| s1 ((y_p rfl).v (v' := .i .i64 0) rfl) rfl ?_
   refine at_nil <| x_tn <| at_block ?_
   refine at_loop (ι := Nat) (fun t => [(2, .p 2 0), (4, .p 4 0), (5, .p 5 0), (10, .p 10 0), (19, .i .i64 (t : Nat)), (11, w32 (rounds (sched b 48) s t).a), (12, w32 (rounds (sched b 48) s t).b), (13, w32 (rounds (sched b 48) s t).c), (14, w32 (rounds (sched b 48) s t).d), (15, w32 (rounds (sched b 48) s t).e), (16, w32 (rounds (sched b 48) s t).f), (17, w32 (rounds (sched b 48) s t).g), (18, w32 (rounds (sched b 48) s t).h)]) (fun t => ⟨[(2, some (s.l.map w32)), (4, some (List.replicate 8 (w32 0))), (5, some ((sched b 48).map w32 ++ List.replicate (48 - 48) (w32 0))), (10, some (kTab.map w32))]⟩) (fun t => t ≤ 64) (fun t => 64 - t) ?_ ?_
   ·exact at_ex (0) (Nat.zero_le _) [(2, some 2), (4, some 4), (5, some 5), (10, some 10)] hI rfl rfl ⟨⟨_, rfl, .p rfl⟩, ⟨_, rfl, .p rfl⟩, ⟨_, rfl, .p rfl⟩, ⟨_, rfl, .p rfl⟩, ⟨_, rfl, .pure pu⟩, ⟨_, rfl, .pure pu⟩, ⟨_, rfl, .pure pu⟩, ⟨_, rfl, .pure pu⟩, ⟨_, rfl, .pure pu⟩, ⟨_, rfl, .pure pu⟩, ⟨_, rfl, .pure pu⟩, ⟨_, rfl, .pure pu⟩, ⟨_, rfl, .pure pu⟩, trivial⟩ ⟨.inr ⟨_, _, rfl, rfl, .pure pul⟩, .inr ⟨_, _, rfl, rfl, .pure pul⟩, .inr ⟨_, _, rfl, rfl, .pure pul⟩, .inr ⟨_, _, rfl, rfl, .pure pul⟩, trivial⟩
   rintro t ht
   refine at_seq <| at_seq <| at_region <| s1 (y_p rfl) rfl <| s1 (y_p rfl) rfl ?_
   refine at_nil <| x_tn ?_
   refine at_cond rfl (fun hc96 => ?_) (fun hc96 => ?_)
   ·have ht64 : t < 64 := by have := of_decide_eq_true hc96; omega
    refine at_skip <| x_tn <| at_seq <| at_block <| at_seq ?_
    refine at_fs ⟨_, [], []⟩ 27 4 hmix (le_refl rfl) ?_
    refine fs_q 0 [] [] (y_p rfl) rfl rfl ?_
    refine fs_q 1 [] [] (y_p rfl) rfl rfl ?_
    refine fs_call false 2 [1] [] gy0 rfl (.cons (.pure pu) (.cons (.pure pu) (.nil))) (ror_ok _ 6 (by decide)) pu (.inl rfl) rfl rfl ?_
    refine fs_q 3 [] [] (y_p rfl) rfl rfl ?_
    refine fs_call false 4 [3] [] gy0 rfl (.cons (.pure pu) (.cons (.pure pu) (.nil))) (ror_ok _ 11 (by decide)) pu (.inl rfl) rfl rfl ?_
    refine fs_q 5 [2, 4] [] (xor32 _ _ rfl rfl) rfl rfl ?_
    refine fs_q 6 [] [] (y_p rfl) rfl rfl ?_
    refine fs_call false 7 [6] [] gy0 rfl (.cons (.pure pu) (.cons (.pure pu) (.nil))) (ror_ok _ 25 (by decide)) pu (.inl rfl) rfl rfl ?_
    refine fs_q 8 [5, 7] [] (xor32 _ _ rfl rfl) rfl rfl ?_
    refine fs_q 9 [0, 8] [] (add32 _ _ rfl rfl) rfl rfl ?_
    refine fs_q 10 [] [] (y_p rfl) rfl rfl ?_
    refine fs_q 11 [] [] (y_p rfl) rfl rfl ?_
    refine fs_q 12 [10, 11] [] (and32 _ _ rfl rfl) rfl rfl ?_
    refine fs_q 13 [] [] (y_p rfl) rfl rfl ?_
    refine fs_q 14 [13] [] (not32 _ rfl) rfl rfl ?_
    refine fs_q 15 [] [] (y_p rfl) rfl rfl ?_
    refine fs_q 16 [14, 15] [] (and32 _ _ rfl rfl) rfl rfl ?_
    refine fs_q 17 [12, 16] [] (xor32 _ _ rfl rfl) rfl rfl ?_
    refine fs_q 18 [9, 17] [] (add32 _ _ rfl rfl) rfl rfl ?_
    refine fs_q 19 [] [] (y_p rfl) rfl rfl ?_
    refine fs_q 20 [19] [(10, none)] (y_ixa t Tryd.underlying129 ti108 rfl rfl rfl (by omega) rfl) rfl rfl ?_
    refine fs_q 21 [20] [(10, none)] (y_load ti108 rfl rfl (getW2 t (by first | (simp [len_kTab]; done) | (simp [len_kTab]; omega)) rfl)) rfl rfl ?_
    refine fs_q 22 [18, 21] [] (add32 _ _ rfl rfl) rfl rfl ?_
    refine fs_q 23 [] [] (y_p rfl) rfl rfl ?_
    refine fs_q 24 [23] [(5, none)] (y_ixa t Tryd.underlying129 ti108 rfl rfl rfl (by omega) rfl) rfl rfl ?_
    refine fs_q 25 [24] [(5, none)] (y_load ti108 rfl rfl (getW t (by first | rfl | omega | (simp <;> omega) | (simp [*] <;> omega) | (simp [D32.len, -List.length_flatten, *] <;> omega)) rfl)) rfl rfl ?_
    refine fs_q 26 [22, 25] [] (add32 _ _ rfl rfl) rfl rfl ?_
    refine fs_end (by kernel_rfl) ?_
    refine s1 (y_p rfl) rfl ?_
    refine at_nil <| x_tn <| at_seq <| at_region <| s1 (y_p rfl) rfl ?_
    refine at_op rfl (n_call false rfl (.cons (.pure pu) (.cons (.pure pu) (.nil))) (ror_ok _ 2 (by decide)) pu (.inl rfl) rfl ?_)
    refine s1 (y_p rfl) rfl ?_
    refine at_op rfl (n_call false rfl (.cons (.pure pu) (.cons (.pure pu) (.nil))) (ror_ok _ 13 (by decide)) pu (.inl rfl) rfl ?_)
    refine s1 (xor32 _ _ rfl rfl) rfl <| s1 (y_p rfl) rfl ?_
    refine at_op rfl (n_call false rfl (.cons (.pure pu) (.cons (.pure pu) (.nil))) (ror_ok _ 22 (by decide)) pu (.inl rfl) rfl ?_)
    refine s1 (xor32 _ _ rfl rfl) rfl <| s1 (y_p rfl) rfl <| s1 (y_p rfl) rfl <| s1 (and32 _ _ rfl rfl) rfl <| s1 (y_p rfl) rfl <| s1 (y_p rfl) rfl <| s1 (and32 _ _ rfl rfl) rfl <| s1 (xor32 _ _ rfl rfl) rfl <| s1 (y_p rfl) rfl <| s1 (y_p rfl) rfl ?_
    refine s1 (and32 _ _ rfl rfl) rfl <| s1 (xor32 _ _ rfl rfl) rfl <| s1 (add32 _ _ rfl rfl) rfl <| s1 (y_p rfl) rfl ?_
    refine at_nil <| x_tn <| at_region <| s1 (y_p rfl) rfl <| s1 (y_p rfl) rfl <| s1 (y_p rfl) rfl <| s1 (y_p rfl) rfl <| s1 (y_p rfl) rfl <| s1 (add32 _ _ rfl rfl) rfl <| s1 (y_p rfl) rfl <| s1 (y_p rfl) rfl <| s1 (y_p rfl) rfl <| s1 (y_p rfl) rfl ?_
    refine s1 (y_p rfl) rfl <| s1 (add32 _ _ rfl rfl) rfl <| s1 (y_p rfl) rfl <| s1 (y_p rfl) rfl <| s1 (y_p rfl) rfl <| s1 (y_p rfl) rfl <| s1 (y_p rfl) rfl <| s1 (y_p rfl) rfl <| s1 (y_p rfl) rfl <| s1 (y_p rfl) rfl ?_
    refine at_nil <| x_bn <| x_tn <| at_region <| s1 (y_p rfl) rfl <| s1 (addN _ 1 rfl rfl rfl rfl (by omega)) rfl <| s1 (y_p rfl) rfl ?_
    refine at_nil ?_
    exact at_end (t + 1) (by omega) (by omega) [(2, some 2), (4, some 4), (5, some 5), (10, some 10)] hI rfl rfl ⟨⟨_, rfl, .p rfl⟩, ⟨_, rfl, .p rfl⟩, ⟨_, rfl, .p rfl⟩, ⟨_, rfl, .p rfl⟩, ⟨_, rfl, .pure pu⟩, ⟨_, rfl, .pure pu⟩, ⟨_, rfl, .pure pu⟩, ⟨_, rfl, .pure pu⟩, ⟨_, rfl, .pure pu⟩, ⟨_, rfl, .pure pu⟩, ⟨_, rfl, .pure pu⟩, ⟨_, rfl, .pure pu⟩, ⟨_, rfl, .pure pu⟩, trivial⟩ ⟨.inr ⟨_, _, rfl, rfl, .pure pul⟩, .inr ⟨_, _, rfl, rfl, .pure pul⟩, .inr ⟨_, _, rfl, rfl, .pure pul⟩, .inr ⟨_, _, rfl, rfl, .pure pul⟩, trivial⟩
   ·have ht64 : t = 64 := by have := of_decide_eq_false hc96; omega
    subst ht64
    refine at_exit <| x_te <| x_te <| x_be <| x_tn <| at_seq <| at_region <| s1 (y_ixa 0 Tryd.underlying109 ti108 rfl rfl rfl (by omega) rfl) rfl <| s1 (y_load ti108 rfl rfl rfl) rfl <| s1 (y_p rfl) rfl <| s1 (add32 _ _ rfl rfl) rfl <| s1 (y_ixa 1 Tryd.underlying109 ti108 rfl rfl rfl (by omega) rfl) rfl <| s1 (y_load ti108 rfl rfl rfl) rfl <| s1 (y_p rfl) rfl <| s1 (add32 _ _ rfl rfl) rfl <| s1 (y_ixa 2 Tryd.underlying109 ti108 rfl rfl rfl (by omega) rfl) rfl <| s1 (y_load ti108 rfl rfl rfl) rfl ?_
    refine s1 (y_p rfl) rfl <| s1 (add32 _ _ rfl rfl) rfl <| s1 (y_ixa 3 Tryd.underlying109 ti108 rfl rfl rfl (by omega) rfl) rfl <| s1 (y_load ti108 rfl rfl rfl) rfl <| s1 (y_p rfl) rfl <| s1 (add32 _ _ rfl rfl) rfl <| s1 (y_ixa 4 Tryd.underlying109 ti108 rfl rfl rfl (by omega) rfl) rfl <| s1 (y_load ti108 rfl rfl rfl) rfl <| s1 (y_p rfl) rfl <| s1 (add32 _ _ rfl rfl) rfl ?_
    refine s1 (y_ixa 5 Tryd.underlying109 ti108 rfl rfl rfl (by omega) rfl) rfl <| s1 (y_load ti108 rfl rfl rfl) rfl <| s1 (y_p rfl) rfl <| s1 (add32 _ _ rfl rfl) rfl <| s1 (y_ixa 6 Tryd.underlying109 ti108 rfl rfl rfl (by omega) rfl) rfl <| s1 (y_load ti108 rfl rfl rfl) rfl <| s1 (y_p rfl) rfl <| s1 (add32 _ _ rfl rfl) rfl <| s1 (y_ixa 7 Tryd.underlying109 ti108 rfl rfl rfl (by omega) rfl) rfl <| s1 (y_load ti108 rfl rfl rfl) rfl ?_
    refine s1 (y_p rfl) rfl <| s1 (add32 _ _ rfl rfl) rfl <| s1 (y_bldA (vs := [_, _, _, _, _, _, _, _]) ti109 rfl Tryd.underlying109 ti108 rfl rfl rfl rfl) rfl ?_
    refine at_op rfl (n_storeA ti109 rfl rfl rfl (by simp) (by simp) ?_)
    refine at_nil <| x_tn <| at_ret ?_
    refine at_result (rs := [.cell 4 109]) rfl (r_cellA ti109 rfl rfl rfl (by simp) r_nil) rfl
end Go.Abs.D2
-- D2E
namespace Go.Abs.D2
open Go Go.Eng Go.Abs Go.Proofs 
theorem absorb_ok (s : S8) (b : List UInt8) (hb : b.length = 64) : ConS Tryd.prog 79 [.p 3 0, .fz 64 (b.map u8)] ⟨[(3, some (s.l.map w32))]⟩ (RetS (.tu []) [(3, (comp s b).l.map w32)]) := by
 refine enterS Tryd.func79 rfl Tryd.ntmps79 (by kernel_rfl) (Nat.le_of_ble_eq_true rfl) fun w0 X0 hI => ?_
 refine at_seq <| at_region ?_
 refine at_op rfl (n_alloc 4 rfl ti129 rfl rfl ?_)
 refine at_nil <| x_tn <| at_seq <| at_seq <| at_region <| s1 ((y_p rfl).v (v' := .i .i64 0) rfl) rfl ?_
 refine at_nil <| x_tn <| at_block ?_
 refine at_loop (ι := Nat) (fun i => [(0, .p 3 0), (1, .fz 64 (b.map u8)), (4, .p 4 0), (23, .i .i64 (i : Nat))]) (fun i => ⟨[(3, some (s.l.map w32)), (4, some ((words b i).map w32 ++ List.replicate (64 - i) (w32 0)))]⟩) (fun i => i ≤ 16) (fun i => 16 - i) ?_ ?_
 ·exact at_ex (0) (Nat.zero_le _) [(3, some 3), (4, some 4)] hI rfl rfl ⟨⟨_, rfl, .p rfl⟩, ⟨_, rfl, .pure pu⟩, ⟨_, rfl, .p rfl⟩, ⟨_, rfl, .pure pu⟩, trivial⟩ ⟨.inr ⟨_, _, rfl, rfl, .pure pul⟩, .inr ⟨_, _, rfl, rfl, .of (by rfl) (.pure pul)⟩, trivial⟩
 rintro i hi
 refine at_seq <| at_region <| s1 (y_p rfl) rfl ?_
 refine at_nil <| x_tn <| at_seq ?_
 refine at_cond rfl (fun hc24 => ?_) (fun hc24 => ?_)
 ·have hi16 : i < 16 := by have := of_decide_eq_true hc24; omega
  refine at_skip <| x_tn <| at_seq <| at_block <| at_seq <| at_region <| s1 (y_p rfl) rfl <| s1 (y_p rfl) rfl ?_
  refine at_nil <| x_tn <| at_seq <| at_region <| s1 ((y_p rfl).v (v' := .i .i64 0) rfl) rfl ?_
  refine at_nil <| x_tn <| at_block ?_
  refine at_loop (ι := Nat) (fun j => [(0, .p 3 0), (1, .fz 64 (b.map u8)), (4, .p 4 0), (5, .i .i64 (i : Nat)), (23, .i .i64 (i : Nat)), (26, .i .i64 (j : Nat))]) (fun j => ⟨[(3, some (s.l.map w32)), (4, some ((words b i).map w32 ++ [w32 (wpart b (4 * i) j)] ++ List.replicate (63 - i) (w32 0)))]⟩) (fun j => j ≤ 4) (fun j => 4 - j) ?_ ?_
  ·skip
   refine at_sayO 4 rfl (part_0 b i (by omega)) ?_
   exact at_ex (0) (Nat.zero_le _) [(3, some 3), (4, some 4)] hI rfl rfl ⟨⟨_, rfl, .p rfl⟩, ⟨_, rfl, .pure pu⟩, ⟨_, rfl, .p rfl⟩, ⟨_, rfl, .pure pu⟩, ⟨_, rfl, .pure pu⟩, ⟨_, rfl, .pure pu⟩, trivial⟩ ⟨.inr ⟨_, _, rfl, rfl, .pure pul⟩, .inr ⟨_, _, rfl, rfl, .pure pul⟩, trivial⟩
  rintro j hj
  refine at_seq <| at_region <| s1 (y_p rfl) rfl ?_
  refine at_nil <| x_tn <| at_seq ?_
  refine at_cond rfl (fun hc27 => ?_) (fun hc27 => ?_)
  ·have hj4 : j < 4 := by have := of_decide_eq_true hc27; omega
   refine at_skip <| x_tn <| at_seq <| at_block <| at_seq <| at_region <| s1 (y_p rfl) rfl <| s1 (y_p rfl) rfl ?_
   refine at_nil <| x_tn ?_
   refine at_draw_tail 15 hmix (by kernel_rfl) ?_
   refine t1 (y_p rfl) rfl <| t1 (y_p rfl) rfl <| t1 (y_ixa i Tryd.underlying129 ti108 rfl rfl rfl (by omega) rfl) rfl <| t1 (y_load ti108 rfl rfl (get_part b i j)) rfl <| t1 (shl32 _ 8 rfl rfl rfl (by decide)) rfl <| t1 (y_p rfl) rfl <| t1 (y_p rfl) rfl <| t1 (mulN 4 i rfl rfl rfl rfl (by omega)) rfl <| t1 (y_p rfl) rfl <| t1 (addN (4 * i) j rfl rfl rfl rfl (by omega)) rfl ?_
   refine t1 (y_ixf (4 * i + j) Tryd.underlying40 ti5 rfl rfl rfl (by omega) rfl) rfl <| t1 (y_load ti5 rfl rfl (getB (4 * i + j) (by omega) rfl)) rfl <| t1 (of8_32 _ Tryd.underlying5 Tryd.underlying108 rfl) rfl <| t1 ((or32 _ _ rfl rfl).v (v' := w32 (wpart b (4 * i) (j + 1))) rfl) rfl <| t1 (y_ixa i Tryd.underlying129 ti108 rfl rfl rfl (by omega) rfl) rfl ?_
   refine at_snil ?_
   refine at_op rfl (n_store1 ti108 rfl rfl rfl rfl (by simp only [List.length_append, List.length_map, List.length_replicate, List.length_cons, List.length_nil, len_words]; omega) (set_part b i j) ?_)
   refine at_nil <| x_bn <| x_tn <| at_region <| s1 (addN _ 1 rfl rfl rfl rfl (by omega)) rfl <| s1 (y_p rfl) rfl ?_
   refine at_nil ?_
   exact at_end (j + 1) (by omega) (by omega) [(3, some 3), (4, some 4)] hI rfl rfl ⟨⟨_, rfl, .p rfl⟩, ⟨_, rfl, .pure pu⟩, ⟨_, rfl, .p rfl⟩, ⟨_, rfl, .pure pu⟩, ⟨_, rfl, .pure pu⟩, ⟨_, rfl, .pure pu⟩, trivial⟩ ⟨.inr ⟨_, _, rfl, rfl, .pure pul⟩, .inr ⟨_, _, rfl, rfl, .pure pul⟩, trivial⟩
  ·have hj4 : j = 4 := by have := of_decide_eq_false hc27; omega
   subst hj4
   refine at_exit <| x_te <| x_te <| x_be <| x_bn <| x_tn <| at_region <| s1 (addN _ 1 rfl rfl rfl rfl (by omega)) rfl <| s1 (y_p rfl) rfl ?_
   refine at_nil ?_
   exact at_end (i + 1) (by omega) (by omega) [(3, some 3), (4, some 4)] hI rfl rfl ⟨⟨_, rfl, .p rfl⟩, ⟨_, rfl, .pure pu⟩, ⟨_, rfl, .p rfl⟩, ⟨_, rfl, .pure pu⟩, trivial⟩ ⟨.inr ⟨_, _, rfl, rfl, .pure pul⟩, .inr ⟨_, _, rfl, rfl, .of (part_end b i (by omega)) (.pure pul)⟩, trivial⟩
 ·have hi16 : i = 16 := by have := of_decide_eq_false hc24; omega
  subst hi16
  refine at_exit <| x_te <| x_te <| x_be <| x_tn <| at_seq <| at_seq <| at_region <| s1 ((y_p rfl).v (v' := .i .i64 16) rfl) rfl ?_
  refine at_nil <| x_tn <| at_block ?_
  refine at_loop (ι := Nat) (fun k => [(0, .p 3 0), (1, .fz 64 (b.map u8)), (4, .p 4 0), (7, .i .i64 ((16 + k : Nat) : Int))]) (fun k => ⟨[(3, some (s.l.map w32)), (4, some ((sched b k).map w32 ++ List.replicate (48 - k) (w32 0)))]⟩) (fun k => k ≤ 48) (fun k => 48 - k) ?_ ?_
  ·skip
   refine at_sayO 4 rfl (cs' := (sched b 0).map w32 ++ List.replicate (48 - 0) (w32 0)) (by rw [sched_0]) ?_
   exact at_ex (0) (Nat.zero_le _) [(3, some 3), (4, some 4)] hI rfl rfl ⟨⟨_, rfl, .p rfl⟩, ⟨_, rfl, .pure pu⟩, ⟨_, rfl, .p rfl⟩, ⟨_, rfl, .pure pu⟩, trivial⟩ ⟨.inr ⟨_, _, rfl, rfl, .pure pul⟩, .inr ⟨_, _, rfl, rfl, .pure pul⟩, trivial⟩
  rintro k hk
  refine at_seq <| at_seq <| at_region <| s1 (y_p rfl) rfl <| s1 (y_p rfl) rfl ?_
  refine at_nil <| x_tn ?_
  refine at_cond rfl (fun hc47 => ?_) (fun hc47 => ?_)
  ·have hk48 : k < 48 := by have := of_decide_eq_true hc47; omega
   refine at_skip <| x_tn <| at_seq <| at_block <| at_seq ?_
   refine at_draw_tail 9 hmix (by kernel_rfl) ?_
   refine t1 (y_p rfl) rfl <| t1 (subN (16 + k) 15 rfl rfl rfl rfl (by omega) (by omega)) rfl <| t1 (y_ixa (16 + k - 15) Tryd.underlying129 ti108 rfl rfl rfl (by omega) rfl) rfl <| t1 (y_load ti108 rfl rfl (getW (16 + k - 15) (by first | rfl | omega | (simp <;> omega) | (simp [*] <;> omega) | (simp [D32.len, -List.length_flatten, *] <;> omega)) rfl)) rfl <| t1 (y_p rfl) rfl <| t1 (subN (16 + k) 2 rfl rfl rfl rfl (by omega) (by omega)) rfl <| t1 (y_ixa (16 + k - 2) Tryd.underlying129 ti108 rfl rfl rfl (by omega) rfl) rfl <| t1 (y_load ti108 rfl rfl (getW (16 + k - 2) (by first | rfl | omega | (simp <;> omega) | (simp [*] <;> omega) | (simp [D32.len, -List.length_flatten, *] <;> omega)) rfl)) rfl <| t1 (y_p rfl) rfl ?_
   refine at_snil ?_
   refine s1 (y_p rfl) rfl ?_
   refine at_nil <| x_tn <| at_seq <| at_region <| s1 (y_p rfl) rfl ?_
   refine at_op rfl (n_call false rfl (.cons (.pure pu) (.cons (.pure pu) (.nil))) (rot7 _) pu (.inl rfl) rfl ?_)
   refine s1 (y_p rfl) rfl ?_
   refine at_op rfl (n_call false rfl (.cons (.pure pu) (.cons (.pure pu) (.nil))) (rot18 _) pu (.inl rfl) rfl ?_)
   refine s1 (xor32 _ _ rfl rfl) rfl <| s1 (y_p rfl) rfl <| s1 (shr32 _ 3 rfl rfl rfl (by decide)) rfl <| s1 (xor32 _ _ rfl rfl) rfl <| s1 (y_p rfl) rfl ?_
   refine at_nil <| x_tn <| at_seq <| at_region <| s1 (y_p rfl) rfl ?_
   refine at_op rfl (n_call false rfl (.cons (.pure pu) (.cons (.pure pu) (.nil))) (rot17 _) pu (.inl rfl) rfl ?_)
   refine s1 (y_p rfl) rfl ?_
   refine at_op rfl (n_call false rfl (.cons (.pure pu) (.cons (.pure pu) (.nil))) (rot19 _) pu (.inl rfl) rfl ?_)
   refine s1 (xor32 _ _ rfl rfl) rfl <| s1 (y_p rfl) rfl <| s1 (shr32 _ 10 rfl rfl rfl (by decide)) rfl <| s1 (xor32 _ _ rfl rfl) rfl <| s1 (y_p rfl) rfl ?_
   refine at_nil <| x_tn ?_
   refine at_draw_tail 15 hmix (by kernel_rfl) ?_
   refine t1 (y_p rfl) rfl <| t1 (y_p rfl) rfl <| t1 (subN (16 + k) 16 rfl rfl rfl rfl (by omega) (by omega)) rfl <| t1 (y_ixa (16 + k - 16) Tryd.underlying129 ti108 rfl rfl rfl (by omega) rfl) rfl <| t1 (y_load ti108 rfl rfl (getW (16 + k - 16) (by first | rfl | omega | (simp <;> omega) | (simp [*] <;> omega) | (simp [D32.len, -List.length_flatten, *] <;> omega)) rfl)) rfl <| t1 (y_p rfl) rfl <| t1 (add32 _ _ rfl rfl) rfl <| t1 (y_p rfl) rfl <| t1 (subN (16 + k) 7 rfl rfl rfl rfl (by omega) (by omega)) rfl <| t1 (y_ixa (16 + k - 7) Tryd.underlying129 ti108 rfl rfl rfl (by omega) rfl) rfl ?_
   refine t1 (y_load ti108 rfl rfl (getW (16 + k - 7) (by first | rfl | omega | (simp <;> omega) | (simp [*] <;> omega) | (simp [D32.len, -List.length_flatten, *] <;> omega)) rfl)) rfl <| t1 (add32 _ _ rfl rfl) rfl <| t1 (y_p rfl) rfl <| t1 (add32 _ _ rfl rfl) rfl <| t1 (y_ixa (16 + k) Tryd.underlying129 ti108 rfl rfl rfl (by omega) rfl) rfl ?_
   refine at_snil ?_
   refine at_op rfl (n_store1 ti108 rfl rfl rfl rfl (by first | rfl | omega | (simp <;> omega) | (simp [*] <;> omega) | (simp [D32.len, -List.length_flatten, *] <;> omega)) (set_sched b k _ (by omega) rfl) ?_)
   refine at_nil <| x_bn <| x_tn <| at_region <| s1 (y_p rfl) rfl <| s1 (addN _ 1 rfl rfl rfl rfl (by omega)) rfl <| s1 (y_p rfl) rfl ?_
   refine at_nil ?_
   exact at_end (k + 1) (by omega) (by omega) [(3, some 3), (4, some 4)] hI rfl rfl ⟨⟨_, rfl, .p rfl⟩, ⟨_, rfl, .pure pu⟩, ⟨_, rfl, .p rfl⟩, ⟨_, rfl, .pure pu⟩, trivial⟩ ⟨.inr ⟨_, _, rfl, rfl, .pure pul⟩, .inr ⟨_, _, rfl, rfl, .pure pul⟩, trivial⟩
  ·have hk48 : k = 48 := by have := of_decide_eq_false hc47; omega
   subst hk48
   refine at_exit <| x_te <| x_te <| x_be <| x_tn <| at_seq <| at_region <| s1 (y_p rfl) rfl <| s1 (y_nilc rfl rfl) rfl <| s1 (y_loadA0 ti110 rfl rfl (by first | rfl | omega | (simp <;> omega) | (simp [*] <;> omega) | (simp [D32.len, -List.length_flatten, *] <;> omega))) rfl ?_
   refine at_op rfl (n_alloc 12 rfl ti110 rfl rfl ?_)
   refine at_op rfl (n_storeA ti110 rfl rfl rfl (by simp) (by simp) ?_)
   refine at_nil <| x_tn <| at_seq <| at_seq <| at_region <| s1 ((y_p rfl).v (v' := .i .i64 0) rfl) rfl ?_
   refine at_nil <| x_tn <| at_block ?_
   refine at_loop (ι := Nat) (fun t => [(0, .p 3 0), (4, .p 4 0), (12, .p 12 0), (92, .i .i64 (t : Nat))]) (fun t => ⟨[(3, some (s.l.map w32)), (4, some ((sched b 48).map w32)), (12, some ((rounds (sched b 48) s t).l.map w32))]⟩) (fun t => t ≤ 64) (fun t => 64 - t) ?_ ?_
   ·skip
    refine at_sayO 4 rfl (cs' := (sched b 48).map w32) (by simp) ?_
    exact at_ex (0) (Nat.zero_le _) [(3, some 3), (4, some 4), (12, some 12)] hI rfl rfl ⟨⟨_, rfl, .p rfl⟩, ⟨_, rfl, .p rfl⟩, ⟨_, rfl, .p rfl⟩, ⟨_, rfl, .pure pu⟩, trivial⟩ ⟨.inr ⟨_, _, rfl, rfl, .pure pul⟩, .inr ⟨_, _, rfl, rfl, .pure pul⟩, .inr ⟨_, _, rfl, rfl, .pure pul⟩, trivial⟩
   rintro t ht
   refine at_seq <| at_region <| s1 (y_p rfl) rfl ?_
   refine at_nil <| x_tn <| at_seq ?_
   refine at_cond rfl (fun hc93 => ?_) (fun hc93 => ?_)
   ·have ht64 : t < 64 := by have := of_decide_eq_true hc93; omega
    refine at_skip <| x_tn <| at_seq <| at_block <| at_seq <| at_region <| s1 (y_p rfl) rfl <| s1 (y_p rfl) rfl ?_
    refine at_nil <| x_tn <| at_seq ?_
    refine at_draw_tail 11 hmix (by kernel_rfl) ?_
    refine t1 (y_ixa 0 Tryd.underlying110 ti108 rfl rfl rfl (by omega) rfl) rfl <| t1 (y_load ti108 rfl rfl rfl) rfl <| t1 (y_ixa 1 Tryd.underlying110 ti108 rfl rfl rfl (by omega) rfl) rfl <| t1 (y_load ti108 rfl rfl rfl) rfl <| t1 (y_ixa 2 Tryd.underlying110 ti108 rfl rfl rfl (by omega) rfl) rfl <| t1 (y_load ti108 rfl rfl rfl) rfl <| t1 (y_ixa 4 Tryd.underlying110 ti108 rfl rfl rfl (by omega) rfl) rfl <| t1 (y_load ti108 rfl rfl rfl) rfl <| t1 (y_p rfl) rfl <| t1 (y_p rfl) rfl ?_
    refine t1 (y_p rfl) rfl ?_
    refine at_snil ?_
    refine s1 (y_p rfl) rfl ?_
    refine at_nil <| x_tn <| at_seq <| at_region <| s1 (y_p rfl) rfl ?_
    refine at_op rfl (n_call false rfl (.cons (.pure pu) (.cons (.pure pu) (.nil))) (rot6 _) pu (.inl rfl) rfl ?_)
    refine s1 (y_p rfl) rfl ?_
    refine at_op rfl (n_call false rfl (.cons (.pure pu) (.cons (.pure pu) (.nil))) (rot11 _) pu (.inl rfl) rfl ?_)
    refine s1 (xor32 _ _ rfl rfl) rfl <| s1 (y_p rfl) rfl ?_
    refine at_op rfl (n_call false rfl (.cons (.pure pu) (.cons (.pure pu) (.nil))) (rot25 _) pu (.inl rfl) rfl ?_)
    refine s1 (xor32 _ _ rfl rfl) rfl <| s1 (y_p rfl) rfl ?_
    refine at_nil <| x_tn <| at_seq ?_
    refine at_draw_tail 23 hmix (by kernel_rfl) ?_
    refine t1 (y_ixa 7 Tryd.underlying110 ti108 rfl rfl rfl (by omega) rfl) rfl <| t1 (y_load ti108 rfl rfl rfl) rfl <| t1 (y_p rfl) rfl <| t1 (add32 _ _ rfl rfl) rfl <| t1 (y_p rfl) rfl <| t1 (y_ixa 5 Tryd.underlying110 ti108 rfl rfl rfl (by omega) rfl) rfl <| t1 (y_load ti108 rfl rfl rfl) rfl <| t1 (and32 _ _ rfl rfl) rfl <| t1 (y_p rfl) rfl <| t1 (not32 _ rfl) rfl ?_
    refine t1 (y_ixa 6 Tryd.underlying110 ti108 rfl rfl rfl (by omega) rfl) rfl <| t1 (y_load ti108 rfl rfl rfl) rfl <| t1 (and32 _ _ rfl rfl) rfl <| t1 (xor32 _ _ rfl rfl) rfl <| t1 (add32 _ _ rfl rfl) rfl <| t1 (y_p rfl) rfl <| t1 (y_ixfa t Tryd.underlying129 ti108 rfl rfl rfl (by omega) rfl) rfl <| t1 (y_load ti108 rfl rfl (getK t ht64)) rfl <| t1 (add32 _ _ rfl rfl) rfl <| t1 (y_p rfl) rfl ?_
    refine t1 (y_ixa t Tryd.underlying129 ti108 rfl rfl rfl (by omega) rfl) rfl <| t1 (y_load ti108 rfl rfl (getW2 t (by first | rfl | omega | (simp <;> omega) | (simp [*] <;> omega) | (simp [D32.len, -List.length_flatten, *] <;> omega)) rfl)) rfl <| t1 (add32 _ _ rfl rfl) rfl ?_
    refine at_snil ?_
    refine s1 (y_p rfl) rfl ?_
    refine at_nil <| x_tn <| at_seq <| at_region <| s1 (y_p rfl) rfl ?_
    refine at_op rfl (n_call false rfl (.cons (.pure pu) (.cons (.pure pu) (.nil))) (rot2 _) pu (.inl rfl) rfl ?_)
    refine s1 (y_p rfl) rfl ?_
    refine at_op rfl (n_call false rfl (.cons (.pure pu) (.cons (.pure pu) (.nil))) (rot13 _) pu (.inl rfl) rfl ?_)
    refine s1 (xor32 _ _ rfl rfl) rfl <| s1 (y_p rfl) rfl ?_
    refine at_op rfl (n_call false rfl (.cons (.pure pu) (.cons (.pure pu) (.nil))) (rot22 _) pu (.inl rfl) rfl ?_)
    refine s1 (xor32 _ _ rfl rfl) rfl <| s1 (y_p rfl) rfl ?_
    refine at_nil <| x_tn <| at_seq <| at_region <| s1 (y_p rfl) rfl <| s1 (y_p rfl) rfl <| s1 (y_p rfl) rfl <| s1 (and32 _ _ rfl rfl) rfl <| s1 (y_p rfl) rfl <| s1 (y_p rfl) rfl <| s1 (and32 _ _ rfl rfl) rfl <| s1 (xor32 _ _ rfl rfl) rfl <| s1 (y_p rfl) rfl <| s1 (y_p rfl) rfl ?_
    refine s1 (and32 _ _ rfl rfl) rfl <| s1 (xor32 _ _ rfl rfl) rfl <| s1 (add32 _ _ rfl rfl) rfl <| s1 (y_p rfl) rfl ?_
    refine at_nil <| x_tn <| at_region <| s1 (y_p rfl) rfl <| s1 (y_p rfl) rfl <| s1 (add32 _ _ rfl rfl) rfl <| s1 (y_p rfl) rfl <| s1 (y_p rfl) rfl <| s1 (y_p rfl) rfl <| s1 (y_ixa 3 Tryd.underlying110 ti108 rfl rfl rfl (by omega) rfl) rfl <| s1 (y_load ti108 rfl rfl rfl) rfl <| s1 (y_p rfl) rfl <| s1 (add32 _ _ rfl rfl) rfl ?_
    refine s1 (y_p rfl) rfl <| s1 (y_ixa 5 Tryd.underlying110 ti108 rfl rfl rfl (by omega) rfl) rfl <| s1 (y_load ti108 rfl rfl rfl) rfl <| s1 (y_ixa 6 Tryd.underlying110 ti108 rfl rfl rfl (by omega) rfl) rfl <| s1 (y_load ti108 rfl rfl rfl) rfl <| s1 (y_bldA (vs := [_, _, _, _, _, _, _, _]) ti110 rfl Tryd.underlying110 ti108 rfl rfl rfl rfl) rfl ?_
    refine at_op rfl (n_storeA ti110 rfl rfl rfl (by simp) (by simp) ?_)
    refine at_nil <| x_bn <| x_tn <| at_region <| s1 (addN _ 1 rfl rfl rfl rfl (by omega)) rfl <| s1 (y_p rfl) rfl ?_
    refine at_nil ?_
    exact at_end (t + 1) (by omega) (by omega) [(3, some 3), (4, some 4), (12, some 12)] hI rfl rfl ⟨⟨_, rfl, .p rfl⟩, ⟨_, rfl, .p rfl⟩, ⟨_, rfl, .p rfl⟩, ⟨_, rfl, .pure pu⟩, trivial⟩ ⟨.inr ⟨_, _, rfl, rfl, .pure pul⟩, .inr ⟨_, _, rfl, rfl, .pure pul⟩, .inr ⟨_, _, rfl, rfl, .pure pul⟩, trivial⟩
   ·have ht64 : t = 64 := by have := of_decide_eq_false hc93; omega
    subst ht64
    refine at_exit <| x_te <| x_te <| x_be <| x_tn <| at_seq <| at_region <| s1 ((y_p rfl).v (v' := .i .i64 0) rfl) rfl ?_
    refine at_nil <| x_tn <| at_block ?_
    refine at_loop (ι := Nat) (fun i => [(0, .p 3 0), (12, .p 12 0), (172, .i .i64 (i : Nat))]) (fun i => ⟨[(3, some ((sumS s (rounds (sched b 48) s 64) i).map w32)), (12, some ((rounds (sched b 48) s 64).l.map w32))]⟩) (fun i => i ≤ 8) (fun i => 8 - i) ?_ ?_
    ·exact at_ex (0) (Nat.zero_le _) [(3, some 3), (12, some 12)] hI rfl rfl ⟨⟨_, rfl, .p rfl⟩, ⟨_, rfl, .p rfl⟩, ⟨_, rfl, .pure pu⟩, trivial⟩ ⟨.inr ⟨_, _, rfl, rfl, .pure pul⟩, .inr ⟨_, _, rfl, rfl, .pure pul⟩, trivial⟩
    rintro i hi
    refine at_seq <| at_region <| s1 (y_p rfl) rfl ?_
    refine at_nil <| x_tn <| at_seq ?_
    refine at_cond rfl (fun hc173 => ?_) (fun hc173 => ?_)
    ·have hi8 : i < 8 := by have := of_decide_eq_true hc173; omega
     refine at_skip <| x_tn <| at_seq <| at_block <| at_seq <| at_region <| s1 (y_p rfl) rfl <| s1 (y_p rfl) rfl ?_
     refine at_nil <| x_tn ?_
     refine at_draw_tail 11 hmix (by kernel_rfl) ?_
     refine t1 (y_p rfl) rfl <| t1 (y_p rfl) rfl <| t1 (y_nilc rfl rfl) rfl <| t1 (y_ixa i Tryd.underlying110 ti108 rfl rfl rfl (by omega) rfl) rfl <| t1 (y_load ti108 rfl rfl (getW2 i (by rw [len_sumS]; omega) rfl)) rfl <| t1 (y_p rfl) rfl <| t1 (y_ixa i Tryd.underlying110 ti108 rfl rfl rfl (by omega) rfl) rfl <| t1 (y_load ti108 rfl rfl (getW2 i (by rw [len_l]; omega) rfl)) rfl <| t1 (add32 _ _ rfl rfl) rfl <| t1 (y_nilc rfl rfl) rfl ?_
     refine t1 (y_ixa i Tryd.underlying110 ti108 rfl rfl rfl (by omega) rfl) rfl ?_
     refine at_snil ?_
     refine at_op rfl (n_store1 ti108 rfl rfl rfl rfl (by rw [List.length_map, len_sumS]; omega) (set_sum s _ i (by omega)) ?_)
     refine at_nil <| x_bn <| x_tn <| at_region <| s1 (addN _ 1 rfl rfl rfl rfl (by omega)) rfl <| s1 (y_p rfl) rfl ?_
     refine at_nil ?_
     exact at_end (i + 1) (by omega) (by omega) [(3, some 3), (12, some 12)] hI rfl rfl ⟨⟨_, rfl, .p rfl⟩, ⟨_, rfl, .p rfl⟩, ⟨_, rfl, .pure pu⟩, trivial⟩ ⟨.inr ⟨_, _, rfl, rfl, .pure pul⟩, .inr ⟨_, _, rfl, rfl, .pure pul⟩, trivial⟩
    ·have hi8 : i = 8 := by have := of_decide_eq_false hc173; omega
     subst hi8
     refine at_exit <| x_te <| x_te <| x_be ?_
     refine at_result' (rs := []) rfl r_nil (retS_1 (congrArg (fun l => some (List.map w32 l)) (sum_8 _ _)))
end Go.Abs.D2
-- D2D
namespace Go.Abs.D2
open Go Go.Eng Go.Abs Go.Proofs 
theorem padded_ok (b : List UInt8) (hb : b.length ≤ 140737488300000) : Con Tryd.prog 93 [.fz b.length (b.map u8)] (Ret (.fz (pad b).length ((pad b).map u8))) := by
 refine enter Tryd.func93 rfl Tryd.ntmps93 (by kernel_rfl) (Nat.le_of_ble_eq_true rfl) fun w0 X0 hI => ?_
 refine at_seq <| at_region <| s1 (y_p rfl) rfl ?_
 refine at_nil <| x_tn <| at_seq <| at_region ?_
 refine at_op rfl (n_bs1 6 rfl Tryd.underlying40 ti5 rfl rfl rfl rfl rfl ?_)
 refine s1 (y_p rfl) rfl ?_
 refine at_op rfl (n_app 8 rfl Tryd.underlying40 ti5 rfl (.sl rfl (by first | rfl | omega | (simp <;> omega) | (simp [*] <;> omega) | (simp [D32.len, -List.length_flatten, *] <;> omega))) rfl rfl (by first | rfl | omega | (simp <;> omega) | (simp [*] <;> omega) | (simp [D32.len, -List.length_flatten, *] <;> omega)) (by first | omega | (simp only [maxLen]; omega) | (simp [maxLen]; done) | (simp [maxLen]; omega) | (simp [maxLen, *]; omega)) (by first | omega | (simp only [maxLen]; omega) | (simp [maxLen]; done) | (simp [maxLen]; omega) | (simp [maxLen, *]; omega)) rfl rfl rfl ?_)
 refine at_op rfl (n_bs1 9 rfl Tryd.underlying40 ti5 rfl rfl rfl rfl rfl ?_)
 refine at_op rfl (n_app 10 rfl Tryd.underlying40 ti5 rfl (.sl rfl (by first | rfl | omega | (simp <;> omega) | (simp [*] <;> omega) | (simp [D32.len, -List.length_flatten, *] <;> omega))) rfl (SM_full rfl (by first | rfl | omega | (simp <;> omega) | (simp [*] <;> omega) | (simp [D32.len, -List.length_flatten, *] <;> omega))) (by first | rfl | omega | (simp <;> omega) | (simp [*] <;> omega) | (simp [D32.len, -List.length_flatten, *] <;> omega)) (by first | omega | (simp only [maxLen]; omega) | (simp [maxLen]; done) | (simp [maxLen]; omega) | (simp [maxLen, *]; omega)) (by first | omega | (simp only [maxLen]; omega) | (simp [maxLen]; done) | (simp [maxLen]; omega) | (simp [maxLen, *]; omega)) rfl rfl rfl ?_)
 refine s1 (y_p rfl) rfl ?_
 refine at_nil <| x_tn <| at_seq <| at_block ?_
 refine at_loop (ι := Nat) (fun i => [(0, .fz b.length (b.map u8)), (3, .sl 3 1 0 (b.length + 1 + i))]) (fun i => ⟨[(3, some ((b ++ [128] ++ List.replicate i 0).map u8))]⟩) (fun i => i ≤ zeros b.length) (fun i => zeros b.length - i) ?_ ?_
 ·exact at_ex (0) (Nat.zero_le _) [(3, some 10)] hI rfl rfl ⟨⟨_, rfl, .pure pu⟩, ⟨_, rfl, .sl rfl (by first | rfl | omega | (simp <;> omega) | (simp [*] <;> omega) | (simp [D32.len, -List.length_flatten, *] <;> omega))⟩, trivial⟩ ⟨.inr ⟨_, _, rfl, rfl, .of (by simp) (.pure pul)⟩, trivial⟩
 rintro i hi
 refine at_seq <| at_seq <| at_region <| s1 (y_p rfl) rfl <| s1 (y_len Tryd.underlying40 rfl (SM_full rfl (by simp; omega)) rfl) rfl <| s1 (remN (b.length + 1 + i) 64 rfl rfl rfl rfl (by decide)) rfl <| s1 (y_p rfl) rfl ?_
 refine at_nil <| x_tn ?_
 refine at_cond rfl (fun hc14 => ?_) (fun hc14 => ?_)
 ·have hz := zeros_spec b.length
  have hi2 : i < zeros b.length := by
   have := bne_iff_ne.1 hc14
   rcases Nat.lt_or_ge i (zeros b.length) with h | h
   ·exact h
   ·exfalso; have : i = zeros b.length := by omega
    subst this; omega
  refine at_skip <| x_tn <| at_block <| at_region <| s1 (y_p rfl) rfl ?_
  refine at_op rfl (n_bs1 16 rfl Tryd.underlying40 ti5 rfl rfl rfl rfl rfl ?_)
  refine at_op rfl (n_app 17 rfl Tryd.underlying40 ti5 rfl (.sl rfl (by first | rfl | omega | (simp <;> omega) | (simp [*] <;> omega) | (simp [D32.len, -List.length_flatten, *] <;> omega))) rfl (SM_full rfl (by first | rfl | omega | (simp <;> omega) | (simp [*] <;> omega) | (simp [D32.len, -List.length_flatten, *] <;> omega))) (by first | rfl | omega | (simp <;> omega) | (simp [*] <;> omega) | (simp [D32.len, -List.length_flatten, *] <;> omega)) (by first | omega | (simp only [maxLen]; omega) | (simp [maxLen]; done) | (simp [maxLen]; omega) | (simp [maxLen, *]; omega)) (by first | omega | (simp only [maxLen]; omega) | (simp [maxLen]; done) | (simp [maxLen]; omega) | (simp [maxLen, *]; omega)) rfl rfl rfl ?_)
  refine s1 (y_p rfl) rfl ?_
  refine at_nil <| x_bn ?_
  exact at_end (i + 1) (by omega) (by omega) [(3, some 17)] hI rfl rfl ⟨⟨_, rfl, .pure pu⟩, ⟨_, rfl, .sl rfl (by first | rfl | omega | (simp <;> omega) | (simp [*] <;> omega) | (simp [D32.len, -List.length_flatten, *] <;> omega))⟩, trivial⟩ ⟨.inr ⟨_, _, rfl, rfl, .of (by simp [List.replicate_succ', ← List.append_assoc]) (.pure pul)⟩, trivial⟩
 ·have hz := zeros_spec b.length
  have hi2 : i = zeros b.length := by
   have := bne_eq_false_iff_eq.1 hc14
   omega
  subst hi2
  refine at_exit <| x_te <| x_te <| x_be <| x_tn <| at_seq <| at_region <| s1 (y_p rfl) rfl <| s1 (y_len Tryd.underlying40 rfl rfl rfl) rfl <| s1 (ofN_64 _ Tryd.underlying3 Tryd.underlying117 rfl rfl) rfl <| s1 ((mul64 _ (c64 8) rfl rfl).v (v' := w64 (c64 (8 * b.length))) (congrArg w64 (by rw [← BitVec.ofNat_mul, Nat.mul_comm]))) rfl <| s1 (y_p rfl) rfl ?_
  refine at_nil <| x_tn <| at_seq <| at_seq <| at_region <| s1 ((y_p rfl).v (v' := .i .i64 7) rfl) rfl ?_
  refine at_nil <| x_tn <| at_block ?_
  refine at_loop (ι := Nat) (fun k => [(3, .sl 3 1 0 (b.length + 1 + zeros b.length + k)), (4, w64 (c64 (8 * b.length))), (5, .i .i64 (7 - (k : Int)))]) (fun k => ⟨[(3, some ((b ++ [128] ++ List.replicate (zeros b.length) 0 ++ (be64 (8 * b.length)).take k).map u8))]⟩) (fun k => k ≤ 8) (fun k => 8 - k) ?_ ?_
  ·exact at_ex (0) (Nat.zero_le _) [(3, some 3)] hI rfl rfl ⟨⟨_, rfl, .sl rfl (by first | rfl | omega | (simp <;> omega) | (simp [*] <;> omega) | (simp [D32.len, -List.length_flatten, *] <;> omega))⟩, ⟨_, rfl, .pure pu⟩, ⟨_, rfl, .pure pu⟩, trivial⟩ ⟨.inr ⟨_, _, rfl, rfl, .of (by simp) (.pure pul)⟩, trivial⟩
  rintro k hk
  refine at_seq <| at_seq <| at_region <| s1 (y_p rfl) rfl <| s1 (y_p rfl) rfl ?_
  refine at_nil <| x_tn ?_
  refine at_cond rfl (fun hc23 => ?_) (fun hc23 => ?_)
  ·have hk8 : k < 8 := by have := of_decide_eq_true hc23; omega
   refine at_skip <| x_tn <| at_seq <| at_block <| at_region <| s1 (y_p rfl) rfl <| s1 (y_p rfl) rfl <| s1 (y_p rfl) rfl <| s1 ((y_p rfl).v (v' := .i .i64 ((8 * (7 - k) : Nat) : Int)) (by rw [wrapI _ (by omega) (by omega)]; congr 1; omega)) rfl <| s1 (shr64 _ (8 * (7 - k)) rfl rfl rfl (by omega)) rfl <| s1 ((to8_64 _ Tryd.underlying117 Tryd.underlying5 rfl).v (v' := u8 (UInt8.ofNat (8 * b.length / 2 ^ (8 * (7 - k))))) (congrArg u8 (be_byte _ _ (by omega)))) rfl ?_
   refine at_op rfl (n_bs1 32 rfl Tryd.underlying40 ti5 rfl rfl rfl rfl rfl ?_)
   refine at_op rfl (n_app 33 rfl Tryd.underlying40 ti5 rfl (.sl rfl (by first | rfl | omega | (simp <;> omega) | (simp [*] <;> omega) | (simp [D32.len, -List.length_flatten, *] <;> omega))) rfl (SM_full rfl (by first | rfl | omega | (simp <;> omega) | (simp [*] <;> omega) | (simp [D32.len, -List.length_flatten, *] <;> omega))) (by first | rfl | omega | (simp <;> omega) | (simp [*] <;> omega) | (simp [D32.len, -List.length_flatten, *] <;> omega)) (by first | omega | (simp only [maxLen]; omega) | (simp [maxLen]; done) | (simp [maxLen]; omega) | (simp [maxLen, *]; omega)) (by first | omega | (simp only [maxLen]; omega) | (simp [maxLen]; done) | (simp [maxLen]; omega) | (simp [maxLen, *]; omega)) rfl rfl rfl ?_)
   refine s1 (y_p rfl) rfl ?_
   refine at_nil <| x_bn <| x_tn <| at_region <| s1 (y_p rfl) rfl <| s1 ((subI rfl rfl (by omega) (by omega)).v (v' := .i .i64 (7 - ((k + 1 : Nat) : Int))) (congrArg (A.i .i64) (by omega))) rfl <| s1 (y_p rfl) rfl ?_
   refine at_nil ?_
   exact at_end (k + 1) (by omega) (by omega) [(3, some 33)] hI rfl rfl ⟨⟨_, rfl, .sl rfl (by first | rfl | omega | (simp <;> omega) | (simp [*] <;> omega) | (simp [D32.len, -List.length_flatten, *] <;> omega))⟩, ⟨_, rfl, .pure pu⟩, ⟨_, rfl, .pure pu⟩, trivial⟩ ⟨.inr ⟨_, _, rfl, rfl, .of (by rw [take_be64 _ k (by omega)]; simp) (.pure pul)⟩, trivial⟩
  ·have hk8 : k = 8 := by have := of_decide_eq_false hc23; omega
   subst hk8
   refine at_exit <| x_te <| x_te <| x_be <| x_tn <| at_seq <| at_region <| s1 (y_p rfl) rfl <| s1 (y_p rfl) rfl ?_
   refine at_nil <| x_tn <| at_ret ?_
   refine at_frz 2 rfl rfl pul (view_eq (by simp [len_be64]; omega) (by rw [take_all (len_be64 _)])) ?_
   refine at_result (rs := [.tmp 2]) rfl (r_tmp rfl r_nil) ?_
   show A.fz _ _ = _
   rw [len_pad]
   rfl
theorem rsum_ok (b : List UInt8) (hb : b.length ≤ 140737488300000) : Con Tryd.prog 71 [.fz b.length (b.map u8)] (Ret (.ag ((sha b).map u8))) := by
 refine enter Tryd.func71 rfl Tryd.ntmps71 (by kernel_rfl) (Nat.le_of_ble_eq_true rfl) fun w0 X0 hI => ?_
 refine at_seq <| at_region ?_
 refine at_op rfl (n_alloc 2 rfl ti23 rfl rfl ?_)
 refine at_nil <| x_tn <| at_seq <| at_region <| s1 ((y_bldA (vs := [_, _, _, _, _, _, _, _]) ti109 rfl Tryd.underlying109 ti108 rfl rfl rfl rfl).v (v' := .ag (h0.l.map w32)) (by kernel_rfl)) rfl ?_
 refine at_op rfl (n_alloc 3 rfl ti109 rfl rfl ?_)
 refine at_op rfl (n_storeA ti109 rfl rfl rfl (by first | rfl | omega | (simp <;> omega) | (simp [*] <;> omega) | (simp [D32.len, -List.length_flatten, *] <;> omega)) (by first | rfl | omega | (simp <;> omega) | (simp [*] <;> omega) | (simp [D32.len, -List.length_flatten, *] <;> omega)) ?_)
 refine at_nil <| x_tn <| at_seq <| at_region <| s1 (y_p rfl) rfl ?_
 refine at_op rfl (n_call false rfl (.cons (.pure pu) (.nil)) (padded_ok b hb) pu (.inl rfl) rfl ?_)
 refine s1 (y_p rfl) rfl ?_
 refine at_nil <| x_tn <| at_seq <| at_seq <| at_region <| s1 ((y_p rfl).v (v' := .i .i64 0) rfl) rfl ?_
 refine at_nil <| x_tn <| at_block ?_
 refine at_loop (ι := Nat) (fun k => [(2, .p 2 0), (3, .p 3 0), (4, .fz (pad b).length ((pad b).map u8)), (5, .i .i64 ((64 * k : Nat) : Int))]) (fun k => ⟨[(2, some (List.replicate 32 (u8 0))), (3, some ((absAll k h0 (pad b)).l.map w32))]⟩) (fun k => k ≤ (pad b).length / 64) (fun k => (pad b).length / 64 - k) ?_ ?_
 ·exact at_ex (0) (Nat.zero_le _) [(2, some 2), (3, some 3)] hI rfl rfl ⟨⟨_, rfl, .p rfl⟩, ⟨_, rfl, .p rfl⟩, ⟨_, rfl, .pure pu⟩, ⟨_, rfl, .pure pu⟩, trivial⟩ ⟨.inr ⟨_, _, rfl, rfl, .of (by simp) (.pure pul)⟩, .inr ⟨_, _, rfl, rfl, .pure pul⟩, trivial⟩
 rintro k hk
 have hp := len_pad64 b
 have hpl := len_pad b
 have hz := zeros_spec b.length
 refine at_seq <| at_seq <| at_region <| s1 (y_p rfl) rfl <| s1 (y_p rfl) rfl <| s1 (y_len Tryd.underlying40 rfl rfl rfl) rfl <| s1 (y_p rfl) rfl ?_
 refine at_nil <| x_tn ?_
 refine at_cond rfl (fun hc14 => ?_) (fun hc14 => ?_)
 ·have hk2 : k < (pad b).length / 64 := by have := of_decide_eq_true hc14; omega
  refine at_skip <| x_tn <| at_seq <| at_block ?_
  refine at_fs ⟨_, [], []⟩ 7 4 hmix (le_refl rfl) ?_
  refine fs_q 0 [] [(3, none)] (y_loadA0 ti109 rfl rfl (by first | rfl | omega | (simp <;> omega) | (simp [*] <;> omega) | (simp [D32.len, -List.length_flatten, *] <;> omega))) rfl rfl ?_
  refine fs_q 1 [] [] (y_p rfl) rfl rfl ?_
  refine fs_q 2 [] [] (y_p rfl) rfl rfl ?_
  refine fs_q 3 [] [] (y_p rfl) rfl rfl ?_
  refine fs_q 4 [3] [] (addN _ 64 rfl rfl rfl rfl (by omega)) rfl rfl ?_
  refine fs_q 5 [1, 2, 4] [] ((y_cutf 64 Tryd.underlying40 ti5 rfl (by simp) (bs rfl rfl) (bs rfl rfl) (by omega) (by omega) (by omega) rfl).v (congrArg (A.fz 64) (cut_map (pad b) (64 * k)))) rfl rfl ?_
  refine fs_call false 6 [0, 5] [] gy0 rfl (.cons (.pure pu) (.cons (.pure pu) (.nil))) (block_ok _ _ (by simp; omega)) pu (.inl rfl) rfl rfl ?_
  refine fs_end (by kernel_rfl) ?_
  refine at_op rfl (n_storeA ti109 rfl rfl rfl (by first | rfl | omega | (simp <;> omega) | (simp [*] <;> omega) | (simp [D32.len, -List.length_flatten, *] <;> omega)) (by first | rfl | omega | (simp <;> omega) | (simp [*] <;> omega) | (simp [D32.len, -List.length_flatten, *] <;> omega)) ?_)
  refine at_nil <| x_bn <| x_tn <| at_region <| s1 (y_p rfl) rfl <| s1 (addN _ 64 rfl rfl rfl rfl (by omega)) rfl <| s1 (y_p rfl) rfl ?_
  refine at_nil ?_
  exact at_end (k + 1) (by omega) (by omega) [(2, some 2), (3, some 3)] hI rfl rfl ⟨⟨_, rfl, .p rfl⟩, ⟨_, rfl, .p rfl⟩, ⟨_, rfl, .pure pu⟩, ⟨_, rfl, .pure pu⟩, trivial⟩ ⟨.inr ⟨_, _, rfl, rfl, .of (by simp) (.pure pul)⟩, .inr ⟨_, _, rfl, rfl, .of (by rw [absAll_snoc]) (.pure pul)⟩, trivial⟩
 ·have hk2 : k = (pad b).length / 64 := by have := of_decide_eq_false hc14; omega
  subst hk2
  refine at_exit <| x_te <| x_te <| x_be <| x_tn <| at_seq <| at_region <| s1 ((y_bld0 ti23 rfl Tryd.underlying23 ti5 rfl).v (v' := .ag ((outS h0 0).map u8 ++ List.replicate (32 - 0) (u8 0))) (by kernel_rfl)) rfl ?_
  refine at_op rfl (n_alloc 6 rfl ti23 rfl rfl ?_)
  refine at_op rfl (n_storeA ti23 rfl rfl rfl (by first | rfl | omega | (simp <;> omega) | (simp [*] <;> omega) | (simp [D32.len, -List.length_flatten, *] <;> omega)) (by first | rfl | omega | (simp <;> omega) | (simp [*] <;> omega) | (simp [D32.len, -List.length_flatten, *] <;> omega)) ?_)
  refine at_nil <| x_tn <| at_seq <| at_seq <| at_region <| s1 ((y_p rfl).v (v' := .i .i64 0) rfl) rfl ?_
  refine at_nil <| x_tn <| at_block ?_
  refine at_loop (ι := Nat) (fun i => [(2, .p 2 0), (3, .p 3 0), (6, .p 6 0), (7, .i .i64 (i : Nat))]) (fun i => ⟨[(2, some (List.replicate 32 (u8 0))), (3, some ((absAll ((pad b).length / 64) h0 (pad b)).l.map w32)), (6, some ((outS (absAll ((pad b).length / 64) h0 (pad b)) i).map u8 ++ List.replicate (32 - i) (u8 0)))]⟩) (fun i => i ≤ 32) (fun i => 32 - i) ?_ ?_
  ·exact at_ex (0) (Nat.zero_le _) [(2, some 2), (3, some 3), (6, some 6)] hI rfl rfl ⟨⟨_, rfl, .p rfl⟩, ⟨_, rfl, .p rfl⟩, ⟨_, rfl, .p rfl⟩, ⟨_, rfl, .pure pu⟩, trivial⟩ ⟨.inr ⟨_, _, rfl, rfl, .pure pul⟩, .inr ⟨_, _, rfl, rfl, .pure pul⟩, .inr ⟨_, _, rfl, rfl, .pure pul⟩, trivial⟩
  rintro i hi
  refine at_seq <| at_seq <| at_region <| s1 (y_p rfl) rfl <| s1 (y_p rfl) rfl ?_
  refine at_nil <| x_tn ?_
  refine at_cond rfl (fun hc26 => ?_) (fun hc26 => ?_)
  ·have hi2 : i < 32 := by have := of_decide_eq_true hc26; omega
   refine at_skip <| x_tn <| at_seq <| at_block <| at_region <| s1 (y_p rfl) rfl <| s1 (y_p rfl) rfl <| s1 (quoN i 4 rfl rfl rfl rfl (by decide) (by omega)) rfl <| s1 (y_ixa (i / 4) Tryd.underlying109 ti108 rfl rfl rfl (by omega) rfl) rfl <| s1 (y_load ti108 rfl rfl (getW2 (i / 4) (by simp; omega) rfl)) rfl <| s1 (y_p rfl) rfl <| s1 (remN i 4 rfl rfl rfl rfl (by decide)) rfl <| s1 (mulN 8 (i % 4) rfl rfl rfl rfl (by omega)) rfl <| s1 (subN 24 (8 * (i % 4)) rfl rfl rfl rfl (by omega) (by omega)) rfl <| s1 (shr32 _ (24 - 8 * (i % 4)) rfl rfl rfl (by omega)) rfl ?_
   refine s1 (to8_32 _ Tryd.underlying108 Tryd.underlying5 rfl) rfl <| s1 (y_ixa i Tryd.underlying23 ti5 rfl rfl rfl (by omega) rfl) rfl ?_
   refine at_op rfl (n_store1 ti5 rfl rfl rfl rfl (by simp only [List.length_append, List.length_map, List.length_replicate, len_outS]; omega) (set_out _ i _ (by omega) rfl) ?_)
   refine at_nil <| x_bn <| x_tn <| at_region <| s1 (y_p rfl) rfl <| s1 (addN _ 1 rfl rfl rfl rfl (by omega)) rfl <| s1 (y_p rfl) rfl ?_
   refine at_nil ?_
   exact at_end (i + 1) (by omega) (by omega) [(2, some 2), (3, some 3), (6, some 6)] hI rfl rfl ⟨⟨_, rfl, .p rfl⟩, ⟨_, rfl, .p rfl⟩, ⟨_, rfl, .p rfl⟩, ⟨_, rfl, .pure pu⟩, trivial⟩ ⟨.inr ⟨_, _, rfl, rfl, .pure pul⟩, .inr ⟨_, _, rfl, rfl, .pure pul⟩, .inr ⟨_, _, rfl, rfl, .pure pul⟩, trivial⟩
  ·have hi2 : i = 32 := by have := of_decide_eq_false hc26; omega
   subst hi2
   refine at_exit <| x_te <| x_te <| x_be <| x_tn <| at_seq <| at_region <| s1 (y_loadA0 ti23 rfl rfl (by first | rfl | omega | (simp <;> omega) | (simp [*] <;> omega) | (simp [D32.len, -List.length_flatten, *] <;> omega))) rfl ?_
   refine at_op rfl (n_storeA ti23 rfl rfl rfl (by first | rfl | omega | (simp <;> omega) | (simp [*] <;> omega) | (simp [D32.len, -List.length_flatten, *] <;> omega)) (by first | rfl | omega | (simp <;> omega) | (simp [*] <;> omega) | (simp [D32.len, -List.length_flatten, *] <;> omega)) ?_)
   refine at_nil <| x_tn <| at_ret ?_
   refine at_result (rs := [.cell 2 23]) rfl (r_cellA ti23 rfl rfl (List.take_of_length_le (by simp)) (by simp) r_nil) rfl
end Go.Abs.D2
-- D2F
namespace Go.Abs.D2
open Go Go.Eng Go.Abs Go.Proofs 
theorem blocks_ok (parts : List (List UInt8)) (hk : parts.length ≤ 1048576) (ht : parts.flatten.length ≤ 140737488300000) : ConS Tryd.prog 78 [.fn (.func 79) [.p 3 0] [], .fz parts.length (parts.map slA)] ⟨[(3, some (h0.l.map w32))]⟩ (RetS (.tu []) [(3, (fin parts.flatten).l.map w32)]) := by
 refine enterS Tryd.func78 rfl Tryd.ntmps78 (by kernel_rfl) (Nat.le_of_ble_eq_true rfl) fun w0 X0 hI => ?_
 refine at_seq <| at_region ?_
 refine at_op rfl (n_alloc 4 rfl ti127 rfl rfl ?_)
 refine at_nil <| x_tn <| at_seq <| at_region <| s1 ((y_p rfl).v (v' := .i .i64 0) rfl) rfl <| s1 ((y_p rfl).v (v' := .i .u64 0) rfl) rfl ?_
 refine at_nil <| x_tn <| at_seq <| at_seq <| at_region <| s1 (y_p rfl) rfl <| s1 (y_len Tryd.underlying45 rfl rfl rfl) rfl <| s1 ((y_p rfl).v (v' := .i .i64 0) rfl) rfl ?_
 refine at_nil <| x_tn <| at_block ?_
 refine at_loop (ι := List UInt8 × List UInt8 × Nat) (fun ⟨s, tl, i⟩ => [(0, .fn (.func 79) [.p 3 0] []), (4, .p 4 0), (5, .i .i64 ((s.length % 64) : Nat)), (6, w64 (c64 s.length)), (11, .fz parts.length (parts.map slA)), (12, .i .i64 (parts.length : Nat)), (13, .i .i64 (i : Nat))]) (fun ⟨s, tl, i⟩ => ⟨[(3, some ((hs s).l.map w32)), (4, some ((rem s ++ tl).map u8))]⟩) (fun ⟨s, tl, i⟩ => s = (parts.take i).flatten ∧ i ≤ parts.length ∧ tl.length = 64 - (s.length % 64)) (fun ⟨s, tl, i⟩ => parts.length - i) ?_ ?_
 ·exact at_ex (([], List.replicate 64 0, 0)) (⟨by simp, Nat.zero_le _, by simp⟩) [(3, some 3), (4, some 4)] hI rfl rfl ⟨⟨_, rfl, .fn (.cons (.p rfl) .nil) .nil⟩, ⟨_, rfl, .p rfl⟩, ⟨_, rfl, .of rfl (.pure pu)⟩, ⟨_, rfl, .of rfl (.pure pu)⟩, ⟨_, rfl, .pure pu⟩, ⟨_, rfl, .pure pu⟩, ⟨_, rfl, .pure pu⟩, trivial⟩ ⟨.inr ⟨_, _, rfl, rfl, .of rfl (.pure pul)⟩, .inr ⟨_, _, rfl, rfl, .of zeros_64 (.pure pul)⟩, trivial⟩
 rintro ⟨s, tl, i⟩ ⟨hs0, hi, htl⟩
 dsimp only
 have hmod := Nat.mod_lt s.length (show 0 < 64 by decide)
 refine at_seq <| at_region <| s1 (y_p rfl) rfl ?_
 refine at_nil <| x_tn <| at_seq ?_
 refine at_cond rfl (fun hc14 => ?_) (fun hc14 => ?_)
 ·have hi2 : i < parts.length := by have := of_decide_eq_true hc14; omega
  obtain ⟨p, hp⟩ : ∃ p, parts[i]? = some p := ⟨_, List.getElem?_eq_getElem hi2⟩
  have hpl := len_part (List.mem_of_getElem? hp)
  refine at_skip <| x_tn <| at_seq <| at_block <| at_seq <| at_region <| s1 (y_ixf i Tryd.underlying45 ti40 rfl rfl rfl (by omega) rfl) rfl <| s1 (y_load ti40 rfl rfl (getP hp)) rfl <| s1 (y_p rfl) rfl ?_
  refine at_nil <| x_tn <| at_seq <| at_region <| s1 (y_p rfl) rfl <| s1 (y_p rfl) rfl <| s1 (y_len Tryd.underlying40 rfl rfl rfl) rfl <| s1 (ofN_64 p.length Tryd.underlying3 Tryd.underlying117 rfl rfl) rfl <| s1 (add64 (c64 s.length) (c64 p.length) rfl rfl) rfl <| s1 (y_p rfl) rfl ?_
  refine at_nil <| x_tn <| at_block ?_
  refine at_loop (ι := Nat × List UInt8) (fun ⟨j, tl2⟩ => [(0, .fn (.func 79) [.p 3 0] []), (4, .p 4 0), (5, .i .i64 (((s ++ p.take j).length % 64) : Nat)), (6, w64 (c64 s.length + c64 p.length)), (8, .fz (p.length - j) ((p.drop j).map u8)), (11, .fz parts.length (parts.map slA)), (12, .i .i64 (parts.length : Nat)), (13, .i .i64 (i : Nat))]) (fun ⟨j, tl2⟩ => ⟨[(3, some ((hs (s ++ p.take j)).l.map w32)), (4, some ((rem (s ++ p.take j) ++ tl2).map u8))]⟩) (fun ⟨j, tl2⟩ => j ≤ p.length ∧ tl2.length = 64 - ((s ++ p.take j).length % 64)) (fun ⟨j, tl2⟩ => p.length - j) ?_ ?_
  ·exact at_ex ((0, tl)) (⟨Nat.zero_le _, by rw [at0]; exact htl⟩) [(3, some 3), (4, some 4)] hI rfl rfl ⟨⟨_, rfl, .fn (.cons (.p rfl) .nil) .nil⟩, ⟨_, rfl, .p rfl⟩, ⟨_, rfl, .of (by rw [at0]) (.pure pu)⟩, ⟨_, rfl, .pure pu⟩, ⟨_, rfl, .pure pu⟩, ⟨_, rfl, .pure pu⟩, ⟨_, rfl, .pure pu⟩, ⟨_, rfl, .pure pu⟩, trivial⟩ ⟨.inr ⟨_, _, rfl, rfl, .of (by rw [at0]) (.pure pul)⟩, .inr ⟨_, _, rfl, rfl, .of (by rw [at0]) (.pure pul)⟩, trivial⟩
  rintro ⟨j, tl2⟩ ⟨hj, htl2⟩
  dsimp only
  have hSL : (s ++ p.take j).length = s.length + min j p.length := by rw [List.length_append, List.length_take]
  have hmod1 := Nat.mod_lt (s ++ p.take j).length (show 0 < 64 by decide)
  refine at_seq <| at_seq <| at_region <| s1 (y_p rfl) rfl <| s1 (y_len Tryd.underlying40 rfl rfl rfl) rfl <| s1 (y_p rfl) rfl ?_
  refine at_nil <| x_tn ?_
  refine at_cond rfl (fun hc24 => ?_) (fun hc24 => ?_)
  ·have hj2 : j < p.length := by have := of_decide_eq_true hc24; omega
   have hc1 : fitN p (s ++ p.take j) j ≤ p.length - j := Nat.min_le_left _ _
   have hc2 : fitN p (s ++ p.take j) j ≤ 64 - ((s ++ p.take j).length % 64) := Nat.min_le_right _ _
   have hc0 : 0 < fitN p (s ++ p.take j) j := Nat.lt_min.2 ⟨by omega, by omega⟩
   obtain ⟨c, hcd⟩ : ∃ c, c = fitN p (s ++ p.take j) j := ⟨_, rfl⟩
   rw [← hcd] at hc0 hc1 hc2
   refine at_skip <| x_tn <| at_block <| at_seq <| at_region <| s1 (y_p rfl) rfl <| s1 (y_cuta (o' := ((s ++ p.take j).length % 64)) (64 - ((s ++ p.take j).length % 64)) Tryd.underlying127 ti5 rfl rfl (by simp only [List.length_map, List.length_append, List.length_cons, List.length_nil, List.length_replicate, List.length_drop, List.length_take, len_rem, len_lastB, len_be64] <;> omega) (by simp [maxLen]) (bs rfl rfl) bn (by omega) (by omega) rfl (by rw [if_neg (by omega)]; omega)) rfl <| s1 (y_p rfl) rfl ?_
   refine at_op rfl (n_copyC (c) Tryd.underlying40 ti5 rfl rfl rfl rfl (by first | rfl | omega | (simp <;> omega) | (simp [*] <;> omega) | (simp [D32.len, -List.length_flatten, *] <;> omega)) hcd hc0 (by simp only [List.length_map, List.length_append, List.length_cons, List.length_nil, List.length_replicate, List.length_drop, List.length_take, len_rem, len_lastB, len_be64] <;> omega) (buf_copy _ _ _ _ _) rfl ?_)
   refine s1 (y_p rfl) rfl ?_
   refine at_nil <| x_tn <| at_seq ?_
   refine at_fs ⟨_, [5], [(0, [5])]⟩ 7 4 hmix (le_refl rfl) ?_
   refine fs_q 0 [] [] (y_p rfl) rfl rfl ?_
   refine fs_q 1 [] [] (y_p rfl) rfl rfl ?_
   refine fs_q 2 [0, 1] [] (addN _ _ rfl rfl rfl rfl (by omega)) rfl rfl ?_
   refine fs_q 3 [] [] (y_p rfl) rfl rfl ?_
   refine fs_q 4 [] [] (y_p rfl) rfl rfl ?_
   refine fs_q 5 [3, 4] [] ((y_cutf (p.length - (j + c)) Tryd.underlying40 ti5 rfl (by simp) (bs rfl rfl) bn (by omega) (by omega) (by omega) rfl).v (congrArg (A.fz _) (cut_p p j c))) rfl rfl ?_
   refine fs_q 6 [2] [] (y_p rfl) rfl rfl ?_
   refine fs_end (by kernel_rfl) ?_
   refine s1 (y_p rfl) rfl ?_
   refine at_nil <| x_tn <| at_seq <| at_region <| s1 (y_p rfl) rfl <| s1 (y_p rfl) rfl ?_
   refine at_nil <| x_tn ?_
   refine at_cond rfl (fun hc36 => ?_) (fun hc36 => ?_)
   ·obtain ⟨r1, r2, r3⟩ := next_full (s := s) hc1 htl2 (by have := of_decide_eq_true hc36; omega)
    refine at_seq <| at_region <| s1 (y_p rfl) rfl <| s1 (y_cuta0 Tryd.underlying127 ti5 rfl rfl (by simp only [List.length_map, List.length_append, List.length_cons, List.length_nil, List.length_replicate, List.length_drop, List.length_take, len_rem, len_lastB, len_be64] <;> omega) (by simp [maxLen])) rfl ?_
    refine at_op rfl (n_callG ⟨[(3, some ((hs (s ++ p.take j)).l.map w32))]⟩ [(3, (comp (hs (s ++ p.take j)) (rem (s ++ p.take j) ++ (p.drop j).take c ++ tl2.drop c)).l.map w32)] true rfl rfl ⟨⟨rfl, VwL.pure pul⟩, trivial⟩ (.cons (.kp rfl) (.cons (.sl rfl rfl rfl (view_eq (by simp only [List.length_map, List.length_append, List.length_cons, List.length_nil, List.length_replicate, List.length_drop, List.length_take, len_rem, len_lastB, len_be64] <;> omega) rfl) (VwL.pure pul) pul) .nil)) (absorb_ok _ (rem (s ++ p.take j) ++ (p.drop j).take c ++ tl2.drop c) (by simp only [List.length_map, List.length_append, List.length_cons, List.length_nil, List.length_replicate, List.length_drop, List.length_take, len_rem, len_lastB, len_be64] <;> omega)) trivial (.inr trivial) (upd_1 (c0 := (hs (s ++ p.take j)).l.map w32) rfl pul ful) rfl ?_)
    refine at_nil <| x_tn <| at_region <| s1 ((y_p rfl).v (v' := .i .i64 0) rfl) rfl ?_
    refine at_nil <| x_bn ?_
    exact at_end (x := (j, tl2)) ((j + c, rem (s ++ p.take j) ++ (p.drop j).take c ++ tl2.drop c)) (⟨by dsimp only; omega, by dsimp only; rw [r3]; simp only [List.length_append, len_rem, List.length_take, List.length_drop]; omega⟩) (by dsimp only; omega) [(3, some 3), (4, some 4)] hI rfl rfl ⟨⟨_, rfl, .fn (.cons (.p rfl) .nil) .nil⟩, ⟨_, rfl, .p rfl⟩, ⟨_, rfl, .of (congrArg (fun k : Nat => A.i .i64 (k : Int)) r3.symm) (.pure pu)⟩, ⟨_, rfl, .pure pu⟩, ⟨_, rfl, .pure pu⟩, ⟨_, rfl, .pure pu⟩, ⟨_, rfl, .pure pu⟩, ⟨_, rfl, .pure pu⟩, trivial⟩ ⟨.inr ⟨_, _, rfl, rfl, .of (by rw [r2]) (.pure pul)⟩, .inr ⟨_, _, rfl, rfl, .of (by rw [r1, List.nil_append]) (.pure pul)⟩, trivial⟩
   ·obtain ⟨r1, r2, r3⟩ := next_part (s := s) hc1 (by have := of_decide_eq_false hc36; omega)
    refine at_skip <| x_bn ?_
    exact at_end (x := (j, tl2)) ((j + c, tl2.drop c)) (⟨by dsimp only; omega, by dsimp only; rw [r3, List.length_drop]; omega⟩) (by dsimp only; omega) [(3, some 3), (4, some 4)] hI rfl rfl ⟨⟨_, rfl, .fn (.cons (.p rfl) .nil) .nil⟩, ⟨_, rfl, .p rfl⟩, ⟨_, rfl, .of (congrArg (fun k : Nat => A.i .i64 (k : Int)) r3.symm) (.pure pu)⟩, ⟨_, rfl, .pure pu⟩, ⟨_, rfl, .pure pu⟩, ⟨_, rfl, .pure pu⟩, ⟨_, rfl, .pure pu⟩, ⟨_, rfl, .pure pu⟩, trivial⟩ ⟨.inr ⟨_, _, rfl, rfl, .of (by rw [r2]) (.pure pul)⟩, .inr ⟨_, _, rfl, rfl, .of (by rw [r1]) (.pure pul)⟩, trivial⟩
  ·have hj2 : j = p.length := by have := of_decide_eq_false hc24; omega
   subst hj2
   refine at_exit <| x_te <| x_te <| x_be <| x_bn <| x_tn <| at_region <| s1 (addN _ 1 rfl rfl rfl rfl (by omega)) rfl <| s1 (y_p rfl) rfl ?_
   refine at_nil ?_
   exact at_end (x := (s, tl, i)) ((s ++ p.take p.length, tl2, i + 1)) (⟨by rw [hs0]; exact cat_p hp, by dsimp only; omega, htl2⟩) (by dsimp only; omega) [(3, some 3), (4, some 4)] hI rfl rfl ⟨⟨_, rfl, .fn (.cons (.p rfl) .nil) .nil⟩, ⟨_, rfl, .p rfl⟩, ⟨_, rfl, .pure pu⟩, ⟨_, rfl, .of (add_len s p) (.pure pu)⟩, ⟨_, rfl, .pure pu⟩, ⟨_, rfl, .pure pu⟩, ⟨_, rfl, .pure pu⟩, trivial⟩ ⟨.inr ⟨_, _, rfl, rfl, .pure pul⟩, .inr ⟨_, _, rfl, rfl, .pure pul⟩, trivial⟩
 ·have hi2 : i = parts.length := by have := of_decide_eq_false hc14; omega
  subst hi2
  rw [List.take_length] at hs0
  have hsl : s.length ≤ 140737488300000 := by rw [hs0]; exact ht
  refine at_exit <| x_te <| x_te <| x_be <| x_tn <| at_seq <| at_region <| s1 (y_p rfl) rfl <| s1 (y_ixa (s.length % 64) Tryd.underlying127 ti5 rfl rfl rfl (by omega) rfl) rfl ?_
  refine at_op rfl (n_store1 ti5 rfl rfl rfl rfl (by simp only [List.length_map, List.length_append, List.length_cons, List.length_nil, List.length_replicate, List.length_drop, List.length_take, len_rem, len_lastB, len_be64] <;> omega) (set_128 s tl htl) ?_)
  refine at_nil <| x_tn <| at_seq <| at_region <| s1 (y_p rfl) rfl <| s1 (addN _ 1 rfl rfl rfl rfl (by omega)) rfl <| s1 (y_cuta (64 - ((s.length % 64) + 1)) Tryd.underlying127 ti5 rfl rfl (by simp only [List.length_map, List.length_append, List.length_cons, List.length_nil, List.length_replicate, List.length_drop, List.length_take, len_rem, len_lastB, len_be64] <;> omega) (by simp [maxLen]) (bs rfl rfl) bn (by omega) (by omega) rfl rfl) rfl ?_
  refine at_op rfl (n_clear Tryd.underlying40 ti5 rfl rfl rfl (by simp only [List.length_map, List.length_append, List.length_cons, List.length_nil, List.length_replicate, List.length_drop, List.length_take, len_rem, len_lastB, len_be64]; split <;> omega) (fill_0 s tl htl _ rfl) rfl ?_)
  refine at_nil <| x_tn <| at_seq <| at_seq <| at_region <| s1 (y_p rfl) rfl <| s1 (addN _ 1 rfl rfl rfl rfl (by omega)) rfl <| s1 (y_p rfl) rfl ?_
  refine at_nil <| x_tn ?_
  refine at_cond rfl (fun hc48 => ?_) (fun hc48 => ?_)
  ·have hfar : s.length % 64 + 1 > 56 := by have := of_decide_eq_true hc48; omega
   refine at_seq <| at_region <| s1 (y_p rfl) rfl <| s1 (y_cuta0 Tryd.underlying127 ti5 rfl rfl (by simp only [List.length_map, List.length_append, List.length_cons, List.length_nil, List.length_replicate, List.length_drop, List.length_take, len_rem, len_lastB, len_be64] <;> omega) (by simp [maxLen])) rfl ?_
   refine at_op rfl (n_callG ⟨[(3, some ((hs s).l.map w32))]⟩ [(3, (comp (hs s) (rem s ++ [128] ++ List.replicate (63 - s.length % 64) 0)).l.map w32)] true rfl rfl ⟨⟨rfl, VwL.pure pul⟩, trivial⟩ (.cons (.kp rfl) (.cons (.sl rfl rfl rfl (view_eq (by simp only [List.length_map, List.length_append, List.length_cons, List.length_nil, List.length_replicate, List.length_drop, List.length_take, len_rem, len_lastB, len_be64] <;> omega) rfl) (VwL.pure pul) pul) .nil)) (absorb_ok _ (rem s ++ [128] ++ List.replicate (63 - s.length % 64) 0) (by simp only [List.length_map, List.length_append, List.length_cons, List.length_nil, List.length_replicate, List.length_drop, List.length_take, len_rem, len_lastB, len_be64] <;> omega)) trivial (.inr trivial) (upd_1 (c0 := (hs s).l.map w32) rfl pul ful) rfl ?_)
   refine at_nil <| x_tn <| at_region <| s1 (y_cuta0 Tryd.underlying127 ti5 rfl rfl (by simp only [List.length_map, List.length_append, List.length_cons, List.length_nil, List.length_replicate, List.length_drop, List.length_take, len_rem, len_lastB, len_be64] <;> omega) (by simp [maxLen])) rfl ?_
   refine at_op rfl (n_clear Tryd.underlying40 ti5 rfl rfl rfl (by simp only [List.length_map, List.length_append, List.length_cons, List.length_nil, List.length_replicate, List.length_drop, List.length_take, len_rem, len_lastB, len_be64] <;> omega) (clear_64 (by simp only [List.length_map, List.length_append, List.length_cons, List.length_nil, List.length_replicate, List.length_drop, List.length_take, len_rem, len_lastB, len_be64] <;> omega)) rfl ?_)
   refine at_nil <| x_tn <| at_seq <| at_seq ?_
   refine at_sayO 4 rfl (lastB_far hfar) ?_
   refine at_sayO 3 rfl (cs' := (lastS s).l.map w32) (by rw [lastS, if_pos hfar]) ?_
   refine at_region <| s1 ((y_p rfl).v (v' := .i .i64 0) rfl) rfl ?_
   refine at_nil <| x_tn <| at_block ?_
   refine at_loop (ι := Nat) (fun i => [(0, .fn (.func 79) [.p 3 0] []), (4, .p 4 0), (6, w64 (c64 s.length)), (53, .i .i64 (i : Nat))]) (fun i => ⟨[(3, some ((lastS s).l.map w32)), (4, some ((lastB s ++ List.replicate (8 - i) 0 ++ (be64 (8 * s.length)).drop (8 - i)).map u8))]⟩) (fun i => i ≤ 8) (fun i => 8 - i) ?_ ?_
   ·exact at_ex (0) (Nat.zero_le _) [(3, some 3), (4, some 4)] hI rfl rfl ⟨⟨_, rfl, .fn (.cons (.p rfl) .nil) .nil⟩, ⟨_, rfl, .p rfl⟩, ⟨_, rfl, .pure pu⟩, ⟨_, rfl, .pure pu⟩, trivial⟩ ⟨.inr ⟨_, _, rfl, rfl, .pure pul⟩, .inr ⟨_, _, rfl, rfl, .pure pul⟩, trivial⟩
   rintro i hi
   refine at_seq <| at_region <| s1 (y_p rfl) rfl ?_
   refine at_nil <| x_tn <| at_seq ?_
   refine at_cond rfl (fun hc54 => ?_) (fun hc54 => ?_)
   ·have hi8 : i < 8 := by have := of_decide_eq_true hc54; omega
    refine at_skip <| x_tn <| at_seq <| at_block <| at_seq <| at_region <| s1 (y_p rfl) rfl <| s1 (y_p rfl) rfl ?_
    refine at_nil <| x_tn <| at_region <| s1 (y_p rfl) rfl <| s1 (subN 63 i rfl rfl rfl rfl (by omega) (by omega)) rfl <| s1 (y_p rfl) rfl <| s1 ((mul64 _ (c64 8) rfl rfl).v (v' := w64 (c64 (8 * s.length))) (congrArg w64 (by rw [← BitVec.ofNat_mul, Nat.mul_comm]))) rfl <| s1 (y_p rfl) rfl <| s1 (mulN 8 i rfl rfl rfl rfl (by omega)) rfl <| s1 (shr64 _ (8 * i) rfl rfl rfl (by omega)) rfl <| s1 ((to8_64 _ Tryd.underlying117 Tryd.underlying5 rfl).v (v' := u8 (UInt8.ofNat (8 * s.length / 2 ^ (8 * i)))) (congrArg u8 (be_byte _ _ (by omega)))) rfl <| s1 (y_ixa (63 - i) Tryd.underlying127 ti5 rfl rfl rfl (by omega) rfl) rfl ?_
    refine at_op rfl (n_store1 ti5 rfl rfl rfl rfl (by simp only [List.length_map, List.length_append, List.length_cons, List.length_nil, List.length_replicate, List.length_drop, List.length_take, len_rem, len_lastB, len_be64] <;> omega) (set_be s i _ (by omega) rfl) ?_)
    refine at_nil <| x_bn <| x_tn <| at_region <| s1 (addN _ 1 rfl rfl rfl rfl (by omega)) rfl <| s1 (y_p rfl) rfl ?_
    refine at_nil ?_
    exact at_end (i + 1) (by omega) (by omega) [(3, some 3), (4, some 4)] hI rfl rfl ⟨⟨_, rfl, .fn (.cons (.p rfl) .nil) .nil⟩, ⟨_, rfl, .p rfl⟩, ⟨_, rfl, .pure pu⟩, ⟨_, rfl, .pure pu⟩, trivial⟩ ⟨.inr ⟨_, _, rfl, rfl, .pure pul⟩, .inr ⟨_, _, rfl, rfl, .pure pul⟩, trivial⟩
   ·have hi8 : i = 8 := by have := of_decide_eq_false hc54; omega
    subst hi8
    refine at_exit <| x_te <| x_te <| x_be <| x_tn <| at_region <| s1 (y_p rfl) rfl <| s1 (y_cuta0 Tryd.underlying127 ti5 rfl rfl (by simp only [List.length_map, List.length_append, List.length_cons, List.length_nil, List.length_replicate, List.length_drop, List.length_take, len_rem, len_lastB, len_be64] <;> omega) (by simp [maxLen])) rfl ?_
    refine at_op rfl (n_callG ⟨[(3, some ((lastS s).l.map w32))]⟩ [(3, (comp (lastS s) (lastB s ++ be64 (8 * s.length))).l.map w32)] true rfl rfl ⟨⟨rfl, VwL.pure pul⟩, trivial⟩ (.cons (.kp rfl) (.cons (.sl rfl rfl rfl (view_eq (by simp only [List.length_map, List.length_append, List.length_cons, List.length_nil, List.length_replicate, List.length_drop, List.length_take, len_rem, len_lastB, len_be64] <;> omega) (by simp)) (VwL.pure pul) pul) .nil)) (absorb_ok _ (lastB s ++ be64 (8 * s.length)) (by simp only [List.length_map, List.length_append, List.length_cons, List.length_nil, List.length_replicate, List.length_drop, List.length_take, len_rem, len_lastB, len_be64] <;> omega)) trivial (.inr trivial) (upd_1 (c0 := (lastS s).l.map w32) rfl pul ful) rfl ?_)
    refine at_nil ?_
    refine at_result' (rs := []) rfl r_nil (retS_1 (c := (fin parts.flatten).l.map w32) ?_)
    exact congrArg (fun q : S8 => some (q.l.map w32)) ((fin_last s).trans (by rw [hs0]))
  ·have hfar : ¬ s.length % 64 + 1 > 56 := by have := of_decide_eq_false hc48; omega
   refine at_skip <| x_tn <| at_seq <| at_seq ?_
   refine at_sayO 4 rfl (lastB_near hfar) ?_
   refine at_sayO 3 rfl (cs' := (lastS s).l.map w32) (by rw [lastS, if_neg hfar]) ?_
   refine at_region <| s1 ((y_p rfl).v (v' := .i .i64 0) rfl) rfl ?_
   refine at_nil <| x_tn <| at_block ?_
   refine at_loop (ι := Nat) (fun i => [(0, .fn (.func 79) [.p 3 0] []), (4, .p 4 0), (6, w64 (c64 s.length)), (53, .i .i64 (i : Nat))]) (fun i => ⟨[(3, some ((lastS s).l.map w32)), (4, some ((lastB s ++ List.replicate (8 - i) 0 ++ (be64 (8 * s.length)).drop (8 - i)).map u8))]⟩) (fun i => i ≤ 8) (fun i => 8 - i) ?_ ?_
   ·exact at_ex (0) (Nat.zero_le _) [(3, some 3), (4, some 4)] hI rfl rfl ⟨⟨_, rfl, .fn (.cons (.p rfl) .nil) .nil⟩, ⟨_, rfl, .p rfl⟩, ⟨_, rfl, .pure pu⟩, ⟨_, rfl, .pure pu⟩, trivial⟩ ⟨.inr ⟨_, _, rfl, rfl, .pure pul⟩, .inr ⟨_, _, rfl, rfl, .pure pul⟩, trivial⟩
   rintro i hi
   refine at_seq <| at_region <| s1 (y_p rfl) rfl ?_
   refine at_nil <| x_tn <| at_seq ?_
   refine at_cond rfl (fun hc54 => ?_) (fun hc54 => ?_)
   ·have hi8 : i < 8 := by have := of_decide_eq_true hc54; omega
    refine at_skip <| x_tn <| at_seq <| at_block <| at_seq <| at_region <| s1 (y_p rfl) rfl <| s1 (y_p rfl) rfl ?_
    refine at_nil <| x_tn <| at_region <| s1 (y_p rfl) rfl <| s1 (subN 63 i rfl rfl rfl rfl (by omega) (by omega)) rfl <| s1 (y_p rfl) rfl <| s1 ((mul64 _ (c64 8) rfl rfl).v (v' := w64 (c64 (8 * s.length))) (congrArg w64 (by rw [← BitVec.ofNat_mul, Nat.mul_comm]))) rfl <| s1 (y_p rfl) rfl <| s1 (mulN 8 i rfl rfl rfl rfl (by omega)) rfl <| s1 (shr64 _ (8 * i) rfl rfl rfl (by omega)) rfl <| s1 ((to8_64 _ Tryd.underlying117 Tryd.underlying5 rfl).v (v' := u8 (UInt8.ofNat (8 * s.length / 2 ^ (8 * i)))) (congrArg u8 (be_byte _ _ (by omega)))) rfl <| s1 (y_ixa (63 - i) Tryd.underlying127 ti5 rfl rfl rfl (by omega) rfl) rfl ?_
    refine at_op rfl (n_store1 ti5 rfl rfl rfl rfl (by simp only [List.length_map, List.length_append, List.length_cons, List.length_nil, List.length_replicate, List.length_drop, List.length_take, len_rem, len_lastB, len_be64] <;> omega) (set_be s i _ (by omega) rfl) ?_)
    refine at_nil <| x_bn <| x_tn <| at_region <| s1 (addN _ 1 rfl rfl rfl rfl (by omega)) rfl <| s1 (y_p rfl) rfl ?_
    refine at_nil ?_
    exact at_end (i + 1) (by omega) (by omega) [(3, some 3), (4, some 4)] hI rfl rfl ⟨⟨_, rfl, .fn (.cons (.p rfl) .nil) .nil⟩, ⟨_, rfl, .p rfl⟩, ⟨_, rfl, .pure pu⟩, ⟨_, rfl, .pure pu⟩, trivial⟩ ⟨.inr ⟨_, _, rfl, rfl, .pure pul⟩, .inr ⟨_, _, rfl, rfl, .pure pul⟩, trivial⟩
   ·have hi8 : i = 8 := by have := of_decide_eq_false hc54; omega
    subst hi8
    refine at_exit <| x_te <| x_te <| x_be <| x_tn <| at_region <| s1 (y_p rfl) rfl <| s1 (y_cuta0 Tryd.underlying127 ti5 rfl rfl (by simp only [List.length_map, List.length_append, List.length_cons, List.length_nil, List.length_replicate, List.length_drop, List.length_take, len_rem, len_lastB, len_be64] <;> omega) (by simp [maxLen])) rfl ?_
    refine at_op rfl (n_callG ⟨[(3, some ((lastS s).l.map w32))]⟩ [(3, (comp (lastS s) (lastB s ++ be64 (8 * s.length))).l.map w32)] true rfl rfl ⟨⟨rfl, VwL.pure pul⟩, trivial⟩ (.cons (.kp rfl) (.cons (.sl rfl rfl rfl (view_eq (by simp only [List.length_map, List.length_append, List.length_cons, List.length_nil, List.length_replicate, List.length_drop, List.length_take, len_rem, len_lastB, len_be64] <;> omega) (by simp)) (VwL.pure pul) pul) .nil)) (absorb_ok _ (lastB s ++ be64 (8 * s.length)) (by simp only [List.length_map, List.length_append, List.length_cons, List.length_nil, List.length_replicate, List.length_drop, List.length_take, len_rem, len_lastB, len_be64] <;> omega)) trivial (.inr trivial) (upd_1 (c0 := (lastS s).l.map w32) rfl pul ful) rfl ?_)
    refine at_nil ?_
    refine at_result' (rs := []) rfl r_nil (retS_1 (c := (fin parts.flatten).l.map w32) ?_)
    exact congrArg (fun q : S8 => some (q.l.map w32)) ((fin_last s).trans (by rw [hs0]))
end Go.Abs.D2
-- D2G
namespace Go.Abs.D2
open Go Go.Eng Go.Abs Go.Proofs 
theorem hash_ok (parts : List (List UInt8)) (hk : parts.length ≤ 1048576) (ht : parts.flatten.length ≤ 140737488300000) : Con Tryd.prog 59 [.fz parts.length (parts.map slA)] (Ret (.ag ((sha parts.flatten).map u8))) := by
 refine enter Tryd.func59 rfl Tryd.ntmps59 (by kernel_rfl) (Nat.le_of_ble_eq_true rfl) fun w0 X0 hI => ?_
 refine at_seq <| at_region ?_
 refine at_op rfl (n_alloc 2 rfl ti23 rfl rfl ?_)
 refine at_nil <| x_tn <| at_seq <| at_region <| s1 ((y_bldA (vs := [_, _, _, _, _, _, _, _]) ti110 rfl Tryd.underlying110 ti108 rfl rfl rfl rfl).v (v' := .ag (h0.l.map w32)) (by kernel_rfl)) rfl ?_
 refine at_op rfl (n_alloc 3 rfl ti110 rfl rfl ?_)
 refine at_op rfl (n_storeA ti110 rfl rfl rfl (by first | rfl | omega | (simp <;> omega) | (simp [*] <;> omega) | (simp [D32.len, -List.length_flatten, *] <;> omega)) (by first | rfl | omega | (simp <;> omega) | (simp [*] <;> omega) | (simp [D32.len, -List.length_flatten, *] <;> omega)) ?_)
 refine at_nil <| x_tn <| at_seq <| at_region <| s1 (y_func (us := [.p 3 0]) (vs := []) rfl rfl) rfl <| s1 (y_p rfl) rfl ?_
 refine at_op rfl (n_callGd ⟨[(3, some (h0.l.map w32))]⟩ [(3, (fin parts.flatten).l.map w32)] false rfl ⟨⟨rfl, VwL.pure pul⟩, trivial⟩ (.cons (.fn (.cons (.kp rfl) .nil) .nil) (.cons (.pure pu) .nil)) (blocks_ok parts hk ht) trivial (.inl rfl) (upd_1 (c0 := h0.l.map w32) rfl pul ful) rfl ?_)
 refine at_nil <| x_tn <| at_seq <| at_seq <| at_region <| s1 ((y_p rfl).v (v' := .i .i64 0) rfl) rfl ?_
 refine at_nil <| x_tn <| at_block ?_
 refine at_loop (ι := Nat) (fun i => [(2, .p 2 0), (3, .p 3 0), (9, .i .i64 (i : Nat))]) (fun i => ⟨[(2, some ((outS (fin parts.flatten) i).map u8 ++ List.replicate (32 - i) (u8 0))), (3, some ((fin parts.flatten).l.map w32))]⟩) (fun i => i ≤ 32) (fun i => 32 - i) ?_ ?_
 ·exact at_ex (0) (Nat.zero_le _) [(2, some 2), (3, some 3)] hI rfl rfl ⟨⟨_, rfl, .p rfl⟩, ⟨_, rfl, .p rfl⟩, ⟨_, rfl, .pure pu⟩, trivial⟩ ⟨.inr ⟨_, _, rfl, rfl, .pure pul⟩, .inr ⟨_, _, rfl, rfl, .pure pul⟩, trivial⟩
 rintro i hi
 refine at_seq <| at_region <| s1 (y_p rfl) rfl ?_
 refine at_nil <| x_tn <| at_seq ?_
 refine at_cond rfl (fun hc10 => ?_) (fun hc10 => ?_)
 ·have hi2 : i < 32 := by have := of_decide_eq_true hc10; omega
  refine at_skip <| x_tn <| at_seq <| at_block <| at_seq <| at_region <| s1 (y_p rfl) rfl <| s1 (y_p rfl) rfl ?_
  refine at_nil <| x_tn <| at_region <| s1 (y_p rfl) rfl <| s1 (y_p rfl) rfl <| s1 (quoN i 4 rfl rfl rfl rfl (by decide) (by omega)) rfl <| s1 (y_ixa (i / 4) Tryd.underlying110 ti108 rfl rfl rfl (by omega) rfl) rfl <| s1 (y_load ti108 rfl rfl (getW2 (i / 4) (by simp; omega) rfl)) rfl <| s1 (y_p rfl) rfl <| s1 (remN i 4 rfl rfl rfl rfl (by decide)) rfl <| s1 (mulN 8 (i % 4) rfl rfl rfl rfl (by omega)) rfl <| s1 (subN 24 (8 * (i % 4)) rfl rfl rfl rfl (by omega) (by omega)) rfl <| s1 (shr32 _ (24 - 8 * (i % 4)) rfl rfl rfl (by omega)) rfl ?_
  refine s1 (to8_32 _ Tryd.underlying108 Tryd.underlying5 rfl) rfl <| s1 (y_ixa i Tryd.underlying23 ti5 rfl rfl rfl (by omega) rfl) rfl ?_
  refine at_op rfl (n_store1 ti5 rfl rfl rfl rfl (by simp only [List.length_append, List.length_map, List.length_replicate, len_outS]; omega) (set_out _ i _ (by omega) rfl) ?_)
  refine at_nil <| x_bn <| x_tn <| at_region <| s1 (addN _ 1 rfl rfl rfl rfl (by omega)) rfl <| s1 (y_p rfl) rfl ?_
  refine at_nil ?_
  exact at_end (i + 1) (by omega) (by omega) [(2, some 2), (3, some 3)] hI rfl rfl ⟨⟨_, rfl, .p rfl⟩, ⟨_, rfl, .p rfl⟩, ⟨_, rfl, .pure pu⟩, trivial⟩ ⟨.inr ⟨_, _, rfl, rfl, .pure pul⟩, .inr ⟨_, _, rfl, rfl, .pure pul⟩, trivial⟩
 ·have hi2 : i = 32 := by have := of_decide_eq_false hc10; omega
  subst hi2
  refine at_exit <| x_te <| x_te <| x_be <| x_tn <| at_seq ?_
  refine at_sayO 2 rfl (cs' := (sha parts.flatten).map u8) (by simp [sha, fin]) ?_
  refine at_region <| s1 (y_loadA0 ti23 rfl rfl (by first | rfl | omega | (simp <;> omega) | (simp [*] <;> omega) | (simp [D32.len, -List.length_flatten, *] <;> omega))) rfl ?_
  refine at_op rfl (n_storeA ti23 rfl rfl rfl (by first | rfl | omega | (simp <;> omega) | (simp [*] <;> omega) | (simp [D32.len, -List.length_flatten, *] <;> omega)) (by first | rfl | omega | (simp <;> omega) | (simp [*] <;> omega) | (simp [D32.len, -List.length_flatten, *] <;> omega)) ?_)
  refine at_nil <| x_tn <| at_ret ?_
  refine at_result (rs := [.cell 2 23]) rfl (r_cellA ti23 rfl rfl (List.take_of_length_le (by simp)) (by simp) r_nil) rfl
theorem tagged_ok (t b : List UInt8) (hb : b.length ≤ 140737488000000) (hl : t.length ≤ 140737488000000) : Con Tryd.prog 31 [.s t, .fz b.length (b.map u8)] (Ret (.ag ((tagged t b).map u8))) := by
 refine enter Tryd.func31 rfl Tryd.ntmps31 (by kernel_rfl) (Nat.le_of_ble_eq_true rfl) fun w0 X0 hI => ?_
 refine at_seq <| at_region ?_
 refine at_op rfl (n_alloc 4 rfl ti23 rfl rfl ?_)
 refine at_nil <| x_tn <| at_seq <| at_region <| s1 (y_p rfl) rfl ?_
 refine at_op rfl (n_s2b Tryd.underlying9 Tryd.underlying40 Tryd.underlying5 rfl (by first | omega | (simp only [maxLen]; omega) | (simp [maxLen]; done) | (simp [maxLen]; omega) | (simp [maxLen, *]; omega)) rfl ?_)
 refine at_op rfl (n_bs1 8 rfl Tryd.underlying45 ti40 rfl rfl rfl rfl rfl ?_)
 refine at_op rfl (n_call true rfl (.cons (.sl rfl rfl (by first | rfl | omega | (simp <;> omega) | (simp [*] <;> omega) | (simp [D32.len, -List.length_flatten, *] <;> omega)) (view_eq (by first | rfl | omega | (simp <;> omega) | (simp [*] <;> omega) | (simp [D32.len, -List.length_flatten, *] <;> omega)) (by first | rfl | (simp; done) | (simp [*]; done))) (VwL.pure pul) pul) (.nil)) (by simpa using hash_ok [t] (by simp) (by simp; omega)) pu (.inr fu) rfl ?_)
 refine at_op rfl (n_alloc 5 rfl ti23 rfl rfl ?_)
 refine at_op rfl (n_storeA ti23 rfl rfl rfl (by first | rfl | omega | (simp <;> omega) | (simp [*] <;> omega) | (simp [D32.len, -List.length_flatten, *] <;> omega)) (by first | rfl | omega | (simp <;> omega) | (simp [*] <;> omega) | (simp [D32.len, -List.length_flatten, *] <;> omega)) ?_)
 refine at_nil <| x_tn <| at_seq <| at_region <| s1 (y_cuta0 Tryd.underlying23 ti5 rfl rfl (by first | rfl | omega | (simp <;> omega) | (simp [*] <;> omega) | (simp [D32.len, -List.length_flatten, *] <;> omega)) (by simp [maxLen])) rfl <| s1 (y_p rfl) rfl ?_
 refine at_op rfl (n_bs1 12 rfl Tryd.underlying45 ti40 rfl rfl rfl rfl rfl ?_)
 refine at_op rfl (n_call true rfl (.cons (.sl rfl rfl rfl rfl (.cons (.sl rfl rfl rfl (view_eq (by simp) rfl) (VwL.pure pul) pul) (.cons (.pure pu) .nil)) pul) .nil) (by simpa [slA] using hash_ok [sha t, b] (by simp) (by simp; omega)) pu (.inr fu) rfl ?_)
 refine at_op rfl (n_storeA ti23 rfl rfl rfl (by first | rfl | omega | (simp <;> omega) | (simp [*] <;> omega) | (simp [D32.len, -List.length_flatten, *] <;> omega)) (by first | rfl | omega | (simp <;> omega) | (simp [*] <;> omega) | (simp [D32.len, -List.length_flatten, *] <;> omega)) ?_)
 refine at_nil <| x_tn <| at_ret ?_
 refine at_result (rs := [.cell 4 23]) rfl (r_cellA ti23 rfl rfl (List.take_of_length_le (by simp)) (by simp) r_nil) rfl
theorem rtagged_ok (t b : List UInt8) (hb : b.length ≤ 140737488000000) (hl : t.length ≤ 140737488000000) : Con Tryd.prog 51 [.s t, .fz b.length (b.map u8)] (Ret (.ag ((tagged t b).map u8))) := by
 refine enter Tryd.func51 rfl Tryd.ntmps51 (by kernel_rfl) (Nat.le_of_ble_eq_true rfl) fun w0 X0 hI => ?_
 refine at_seq <| at_region ?_
 refine at_op rfl (n_alloc 4 rfl ti23 rfl rfl ?_)
 refine at_nil <| x_tn <| at_seq <| at_region <| s1 (y_p rfl) rfl ?_
 refine at_op rfl (n_s2b Tryd.underlying9 Tryd.underlying40 Tryd.underlying5 rfl (by first | omega | (simp only [maxLen]; omega) | (simp [maxLen]; done) | (simp [maxLen]; omega) | (simp [maxLen, *]; omega)) rfl ?_)
 refine at_op rfl (n_call false rfl (.cons (.pure pu) (.nil)) (rsum_ok t (by omega)) pu (.inl rfl) rfl ?_)
 refine at_op rfl (n_alloc 5 rfl ti23 rfl rfl ?_)
 refine at_op rfl (n_storeA ti23 rfl rfl rfl (by first | rfl | omega | (simp <;> omega) | (simp [*] <;> omega) | (simp [D32.len, -List.length_flatten, *] <;> omega)) (by first | rfl | omega | (simp <;> omega) | (simp [*] <;> omega) | (simp [D32.len, -List.length_flatten, *] <;> omega)) ?_)
 refine at_nil <| x_tn <| at_seq <| at_region ?_
 refine at_op rfl (n_bs1 9 rfl Tryd.underlying40 ti5 rfl rfl rfl rfl rfl ?_)
 refine s1 (y_cuta0 Tryd.underlying23 ti5 rfl rfl (by first | rfl | omega | (simp <;> omega) | (simp [*] <;> omega) | (simp [D32.len, -List.length_flatten, *] <;> omega)) (by simp [maxLen])) rfl ?_
 refine at_op rfl (n_app 11 rfl Tryd.underlying40 ti5 rfl (.sl rfl (by first | rfl | omega | (simp <;> omega) | (simp [*] <;> omega) | (simp [D32.len, -List.length_flatten, *] <;> omega))) rfl (SM_full rfl (by first | rfl | omega | (simp <;> omega) | (simp [*] <;> omega) | (simp [D32.len, -List.length_flatten, *] <;> omega))) (by first | rfl | omega | (simp <;> omega) | (simp [*] <;> omega) | (simp [D32.len, -List.length_flatten, *] <;> omega)) (by first | omega | (simp only [maxLen]; omega) | (simp [maxLen]; done) | (simp [maxLen]; omega) | (simp [maxLen, *]; omega)) (by first | omega | (simp only [maxLen]; omega) | (simp [maxLen]; done) | (simp [maxLen]; omega) | (simp [maxLen, *]; omega)) rfl rfl rfl ?_)
 refine s1 (y_p rfl) rfl ?_
 refine at_op rfl (n_app 13 rfl Tryd.underlying40 ti5 rfl (.sl rfl (by first | rfl | omega | (simp <;> omega) | (simp [*] <;> omega) | (simp [D32.len, -List.length_flatten, *] <;> omega))) rfl rfl (by first | rfl | omega | (simp <;> omega) | (simp [*] <;> omega) | (simp [D32.len, -List.length_flatten, *] <;> omega)) (by first | omega | (simp only [maxLen]; omega) | (simp [maxLen]; done) | (simp [maxLen]; omega) | (simp [maxLen, *]; omega)) (by first | omega | (simp only [maxLen]; omega) | (simp [maxLen]; done) | (simp [maxLen]; omega) | (simp [maxLen, *]; omega)) rfl rfl rfl ?_)
 refine at_op rfl (n_call true rfl (.cons (.sl rfl rfl (by first | rfl | omega | (simp <;> omega) | (simp [*] <;> omega) | (simp [D32.len, -List.length_flatten, *] <;> omega)) (view_eq (by first | rfl | omega | (simp <;> omega) | (simp [*] <;> omega) | (simp [D32.len, -List.length_flatten, *] <;> omega)) (by first | rfl | (simp; done) | (simp [*]; done))) (VwL.pure pul) pul) (.nil)) (by simpa [tagged] using rsum_ok (sha t ++ b) (by simp; omega)) pu (.inr fu) rfl ?_)
 refine at_op rfl (n_storeA ti23 rfl rfl rfl (by first | rfl | omega | (simp <;> omega) | (simp [*] <;> omega) | (simp [D32.len, -List.length_flatten, *] <;> omega)) (by first | rfl | omega | (simp <;> omega) | (simp [*] <;> omega) | (simp [D32.len, -List.length_flatten, *] <;> omega)) ?_)
 refine at_nil <| x_tn <| at_ret ?_
 refine at_result (rs := [.cell 4 23]) rfl (r_cellA ti23 rfl rfl (List.take_of_length_le (by simp)) (by simp) r_nil) rfl
end Go.Abs.D2
-- F3C
namespace Go.Abs.D2
open Go Go.Eng Go.Abs Go.Proofs 
theorem fjoin3 (x : List UInt8) (lv id : Nat) (hx : x.length = 32) : Con Tryd.prog 102 [.fz 3 [.ic 23 (.ag (x.map u8)), .ic 5 (u8 (UInt8.ofNat lv)), .ic 108 (w32 (BitVec.ofNat 32 id))]] (RetO 1 37 ((x ++ UInt8.ofNat lv :: be32 (BitVec.ofNat 32 id)).map u8)) := by
  have := fjoin_ok [.d x, .b (UInt8.ofNat lv), .w (BitVec.ofNat 32 id)] (by simp) (by simp [Part.ok, hx])
  have e : bytesP [.d x, .b (UInt8.ofNat lv), .w (BitVec.ofNat 32 id)] = (x ++ UInt8.ofNat lv :: be32 (BitVec.ofNat 32 id)) := by simp [bytesP, Part.bs]
  rw [e] at this
  have e2 : (x ++ UInt8.ofNat lv :: be32 (BitVec.ofNat 32 id)).length = 37 := by simp [be32, hx]
  rw [e2] at this
  exact this
theorem tag_filter (x : List UInt8) (lv id : Nat) (hx : x.length = 32) : Con Tryd.prog 31 [.s [102, 105, 108, 116, 101, 114], .fz 37 ((x ++ UInt8.ofNat lv :: be32 (BitVec.ofNat 32 id)).map u8)] (Ret (.ag ((filD x lv id).map u8))) := by
  have e2 : (x ++ UInt8.ofNat lv :: be32 (BitVec.ofNat 32 id)).length = 37 := by simp [be32, hx]
  rw [filD_eq, ← e2]; exact tagged_ok _ _ (by omega) (by simp)
theorem appendSeq_ok (x : List UInt8) (lv nb id : Nat) (D : List UInt8) (hx : x.length = 32) (hnb : 0 < nb) : Con Tryd.prog 100 [.nl, .fn (.func 101) [] [.fp (x.map u8), .fp [nJ lv, nJ nb, slA D], .fp [nJ id]]] (RetO 1 2 ((bitL x lv nb id 2).map nJ)) := by
 refine enterM Tryd.func100 rfl Tryd.ntmps100 (by kernel_rfl) (Nat.le_of_ble_eq_true rfl) fun w0 X0 hI hS => ?_
 refine at_seq <| at_region ?_
 refine at_op rfl (n_box1 2 rfl rfl rfl rfl ?_)
 refine s1 (y_p rfl) rfl ?_
 refine at_nil <| x_tn <| at_seq <| at_seq <| at_region <| s1 (y_p rfl) rfl ?_
 refine at_nil <| x_tn <| at_block ?_
 refine at_range [2] [(0, _), (1, _), (2, _), (4, _), (6, _)] hI rfl ⟨rfl, ⟨rfl, ⟨rfl, ⟨rfl, ⟨rfl, trivial⟩⟩⟩⟩⟩ (by first | rfl | (simp [onlyE, refsE, refs, refsL, refsL_pul, refs_pu, memN]; done)) rfl Tryd.func101 rfl Tryd.ntmps101 (by kernel_rfl) (Nat.le_of_ble_eq_true rfl) fun w1 l1 D1 rc1 hR1 => ?_
 refine at_seq <| at_region <| s1 (y_loadA ti23 rfl rfl (List.take_of_length_le (by simp [hx])) (by simp [hx])) rfl <| s1 (y_mkic (by kernel_rfl) rfl) rfl <| s1 (y_fldf Tryd.underlying50 rfl ti3 (by decide) rfl rfl) rfl <| s1 (y_load ti3 rfl rfl rfl) rfl <| s1 (ofN_u8 lv Tryd.underlying3 Tryd.underlying5 rfl rfl) rfl <| s1 (y_mkic (by kernel_rfl) rfl) rfl <| s1 (y_load ti3 rfl rfl rfl) rfl <| s1 (ofN_32 _ Tryd.underlying3 Tryd.underlying108 rfl rfl) rfl <| s1 (y_mkic (by kernel_rfl) rfl) rfl ?_
 refine at_op rfl (n_bs1 1019 rfl Tryd.underlying134 ti20 rfl rfl rfl rfl rfl ?_)
 refine at_op rfl (n_callO 1020 rfl true rfl (.cons (.sl rfl rfl (by first | rfl | omega | (simp <;> omega) | (simp [*] <;> omega)) (view_eq (by first | rfl | omega | (simp <;> omega) | (simp [*] <;> omega)) (by first | rfl | (simp; done) | (simp [*]; done))) (VwL.pure pul) pul) (.nil)) (fjoin3 x lv id hx) pul (.inr ful) rfl ?_)
 refine at_op rfl (n_call true rfl (.cons (.pure pu) (.cons (.sl rfl rfl (by first | rfl | omega | (simp <;> omega) | (simp [*] <;> omega)) (view_eq (by first | rfl | omega | (simp <;> omega) | (simp [*] <;> omega)) (by first | rfl | (simp; done) | (simp [*]; done))) (VwL.pure pul) pul) (.nil))) (tag_filter x lv id hx) pu (.inr fu) rfl ?_)
 refine at_op rfl (n_alloc 1005 rfl ti23 rfl rfl ?_)
 refine at_op rfl (n_storeA ti23 rfl rfl rfl (by first | rfl | omega | (simp <;> omega) | (simp [*] <;> omega)) (by first | rfl | omega | (simp <;> omega) | (simp [*] <;> omega)) ?_)
 refine at_nil <| x_tn <| at_seq <| at_region <| s1 ((y_p rfl).v (v' := .i .i64 0) rfl) rfl ?_
 refine at_nil <| x_tn <| at_block ?_
 refine at_loop (ι := Nat) (fun i => [(0, yv l1), (1, .fp (x.map u8)), (2, .fp [nJ lv, nJ nb, slA D]), (3, .fp [nJ id]), (5, .p 1005 0), (22, nJ i)]) (fun i => ⟨[(2, some ([.sl 11 1 0 i])), (11, some (((bitL x lv nb id i).map nJ))), (1005, some ((filD x lv id).map u8))]⟩) (fun i => i ≤ 2) (fun i => 2 - i) ?_ ?_
 ·exact at_ex (0) (Nat.zero_le _) [(2, some 2), (11, none), (1005, some 1005)] hR1.sub.ids rfl rfl ⟨⟨_, rfl, .pure trivial⟩, ⟨_, rfl, .pure pu⟩, ⟨_, rfl, .pure pu⟩, ⟨_, rfl, .pure pu⟩, ⟨_, rfl, .p rfl⟩, ⟨_, rfl, .pure pu⟩, trivial⟩ ⟨.inr ⟨_, _, rfl, rfl, .cons (.nl rfl) .nil⟩, .inl ⟨rfl, rfl⟩, .inr ⟨_, _, rfl, rfl, .pure pul⟩, trivial⟩
 rintro i hi
 refine at_seq <| at_region <| s1 (y_p rfl) rfl ?_
 refine at_nil <| x_tn <| at_seq ?_
 refine at_cond rfl (fun hc23 => ?_) (fun hc23 => ?_)
 ·have h23 : i < 2 := by have := of_decide_eq_true hc23; omega
  refine at_skip <| x_tn <| at_seq <| at_block <| at_seq <| at_region <| s1 (y_p rfl) rfl <| s1 (y_p rfl) rfl ?_
  refine at_nil <| x_tn <| at_seq <| at_region <| s1 ((y_p rfl).v (v' := .i .i64 0) rfl) rfl ?_
  refine at_nil <| x_tn <| at_seq <| at_seq <| at_region <| s1 (y_p rfl) rfl <| s1 (mulN 4 _ rfl rfl rfl rfl (by omega)) rfl <| s1 (y_p rfl) rfl <| s1 (mulN 4 _ rfl rfl rfl rfl (by omega)) rfl <| s1 (addN _ 4 rfl rfl rfl rfl (by omega)) rfl <| s1 (y_cuta (o' := 0 + 4 * i * 1) 4 Tryd.underlying23 ti5 rfl rfl (by simp) (by simp [maxLen]) (bs rfl rfl) (bs rfl rfl) (by omega) (by omega) (by omega) (by rw [if_neg (by omega)])) rfl <| s1 (y_len Tryd.underlying40 rfl rfl rfl) rfl <| s1 ((y_p rfl).v (v' := .i .i64 0) rfl) rfl ?_
  refine at_nil <| x_tn <| at_block ?_
  refine at_loop (ι := Nat) (fun k => [(0, yv l1), (1, .fp (x.map u8)), (2, .fp [nJ lv, nJ nb, slA D]), (3, .fp [nJ id]), (5, .p 1005 0), (6, nJ i), (7, nJ (numD (filD x lv id) (4 * i) k)), (22, nJ i), (30, .sl 1005 1 (0 + 4 * i * 1) 4), (31, nJ 4), (32, nJ k)]) (fun k => ⟨[(2, some ([.sl 11 1 0 i])), (11, some (((bitL x lv nb id i).map nJ))), (1005, some ((filD x lv id).map u8))]⟩) (fun k => k ≤ 4) (fun k => 4 - k) ?_ ?_
  ·exact at_ex (0) (Nat.zero_le _) [(2, some 2), (11, some 11), (1005, some 1005)] hR1.sub.ids rfl rfl ⟨⟨_, rfl, .pure trivial⟩, ⟨_, rfl, .pure pu⟩, ⟨_, rfl, .pure pu⟩, ⟨_, rfl, .pure pu⟩, ⟨_, rfl, .p rfl⟩, ⟨_, rfl, .pure pu⟩, ⟨_, rfl, .of (by rfl) (.pure pu)⟩, ⟨_, rfl, .pure pu⟩, ⟨_, rfl, .sl rfl (by first | rfl | omega | (simp <;> omega) | (simp [*] <;> omega))⟩, ⟨_, rfl, .pure pu⟩, ⟨_, rfl, .pure pu⟩, trivial⟩ ⟨.inr ⟨_, _, rfl, rfl, .cons (.sl rfl rfl) .nil⟩, .inr ⟨_, _, rfl, rfl, .pure pul⟩, .inr ⟨_, _, rfl, rfl, .pure pul⟩, trivial⟩
  rintro k hk
  have hnl := numD_lt (filD x lv id) (4 * i) k
  have h4 : 256 ^ k ≤ 256 ^ 4 := Nat.pow_le_pow_right (by omega) hk
  refine at_seq <| at_region <| s1 (y_p rfl) rfl ?_
  refine at_nil <| x_tn <| at_seq ?_
  refine at_cond rfl (fun hc33 => ?_) (fun hc33 => ?_)
  ·have h33 : k < 4 := by have := of_decide_eq_true hc33; omega
   have h3 : numD (filD x lv id) (4 * i) k < 16777216 := Nat.lt_of_lt_of_le hnl (Nat.pow_le_pow_right (by omega) (show k ≤ 3 by omega))
   refine at_skip <| x_tn <| at_seq <| at_block <| at_seq <| at_region <| s1 (y_ixs k Tryd.underlying40 ti5 rfl rfl rfl rfl (by omega) rfl) rfl <| s1 (y_load ti5 rfl rfl (getO3 k (by simp; omega) rfl)) rfl <| s1 (y_p rfl) rfl ?_
   refine at_nil <| x_tn <| at_region <| s1 (y_p rfl) rfl <| s1 ((y_shl rfl rfl (by decide)).v (congrArg (A.i .i64) (shl_byte _ h3))) rfl <| s1 (y_p rfl) rfl <| s1 ((y_conv Tryd.underlying5 Tryd.underlying3 rfl).v (conv8J _)) rfl <| s1 ((y_bits rfl rfl (.inr (.inl rfl))).v (congrArg (A.i .i64) (or_byte _ _ h3))) rfl <| s1 (y_p rfl) rfl ?_
   refine at_nil <| x_bn <| x_tn <| at_region <| s1 (addN _ 1 rfl rfl rfl rfl (by omega)) rfl <| s1 (y_p rfl) rfl ?_
   refine at_nil ?_
   exact at_end (k + 1) (by omega) (by omega) [(2, some 2), (11, some 11), (1005, some 1005)] hR1.sub.ids rfl rfl ⟨⟨_, rfl, .pure trivial⟩, ⟨_, rfl, .pure pu⟩, ⟨_, rfl, .pure pu⟩, ⟨_, rfl, .pure pu⟩, ⟨_, rfl, .p rfl⟩, ⟨_, rfl, .pure pu⟩, ⟨_, rfl, .pure pu⟩, ⟨_, rfl, .pure pu⟩, ⟨_, rfl, .sl rfl (by first | rfl | omega | (simp <;> omega) | (simp [*] <;> omega))⟩, ⟨_, rfl, .pure pu⟩, ⟨_, rfl, .pure pu⟩, trivial⟩ ⟨.inr ⟨_, _, rfl, rfl, .cons (.sl rfl rfl) .nil⟩, .inr ⟨_, _, rfl, rfl, .pure pul⟩, .inr ⟨_, _, rfl, rfl, .pure pul⟩, trivial⟩
  ·have h33 : k = 4 := by have := of_decide_eq_false hc33; omega
   subst h33
   refine at_exit <| x_te <| x_te <| x_be <| x_tn <| at_seq <| at_region <| s1 (y_p rfl) rfl <| s1 (y_p rfl) rfl <| s1 (y_fldf Tryd.underlying50 rfl ti3 (by decide) rfl rfl) rfl <| s1 (y_load ti3 rfl rfl rfl) rfl <| s1 (remN (numD (filD x lv id) (4 * i) 4) nb rfl rfl rfl rfl hnb) rfl ?_
   refine at_yield [2, 1005] [(0, _), (1, _), (2, _), (3, _), (5, _), (6, _), (7, _), (22, _), (30, _), (31, _), (32, _), (33, _), (42, _), (43, _), (44, _), (45, _), (46, _)] hR1 hR1.sub.ids rfl ⟨rfl, ⟨rfl, ⟨rfl, ⟨rfl, ⟨rfl, ⟨rfl, ⟨rfl, ⟨rfl, ⟨rfl, ⟨rfl, ⟨rfl, ⟨rfl, ⟨rfl, ⟨rfl, ⟨rfl, ⟨rfl, ⟨rfl, trivial⟩⟩⟩⟩⟩⟩⟩⟩⟩⟩⟩⟩⟩⟩⟩⟩⟩ (by first | rfl | (simp [onlyE, refsE, refs, refsL, refsL_pul, refs_pu, memN]; done)) rfl rfl rfl rfl rfl fun w2 tm2 hd2 => ?_
   refine at_region <| s1 (y_p rfl) rfl ?_
   refine at_nil ?_
   refine at_begin hd2 fun w3 hd3 => ?_
   refine at_block <| at_region <| s1 (y_load ti24 rfl rfl rfl) rfl <| s1 (y_p rfl) rfl ?_
   refine at_op rfl (n_bs1 10 rfl Tryd.underlying24 ti3 rfl rfl rfl rfl rfl ?_)
   refine at_op rfl (n_app 111 rfl Tryd.underlying24 ti3 rfl (.sl rfl (by simp)) rfl (SM_full rfl (by first | rfl | omega | (simp <;> omega) | (simp [*] <;> omega))) (by first | rfl | omega | (simp <;> omega) | (simp [*] <;> omega)) (by first | omega | (simp only [maxLen]; omega) | (simp [maxLen]; done) | (simp [maxLen]; omega) | (simp [maxLen, *]; omega)) (by first | omega | (simp only [maxLen]; omega) | (simp [maxLen]; done) | (simp [maxLen]; omega) | (simp [maxLen, *]; omega)) rfl rfl rfl ?_)
   refine at_op rfl (n_store1 ti24 rfl rfl rfl rfl (by first | rfl | omega | (simp <;> omega) | (simp [*] <;> omega)) rfl ?_)
   refine at_nil <| x_bn ?_
   refine at_rend hR1 hd3 rfl ?_
   refine s1 (y_p rfl) rfl ?_
   refine at_nil <| x_tn ?_
   refine at_else rfl ?_
   refine at_skip <| x_bn <| x_tn <| at_region <| s1 (addN _ 1 rfl rfl rfl rfl (by omega)) rfl <| s1 (y_p rfl) rfl ?_
   refine at_nil ?_
   exact at_end (i + 1) (by omega) (by omega) [(2, some 2), (11, some 111), (1005, some 1005)] hR1.sub.ids rfl rfl ⟨⟨_, rfl, .pure trivial⟩, ⟨_, rfl, .pure pu⟩, ⟨_, rfl, .pure pu⟩, ⟨_, rfl, .pure pu⟩, ⟨_, rfl, .p rfl⟩, ⟨_, rfl, .pure pu⟩, trivial⟩ ⟨.inr ⟨_, _, rfl, rfl, .cons (.sl rfl (by first | rfl | omega | (simp <;> omega) | (simp [*] <;> omega))) .nil⟩, .inr ⟨_, _, rfl, rfl, .of (by rw [bitL_succ]; simp) (.pure pul)⟩, .inr ⟨_, _, rfl, rfl, .pure pul⟩, trivial⟩
 ·have h23 : i = 2 := by have := of_decide_eq_false hc23; omega
  subst h23
  refine at_exit <| x_te <| x_te <| x_be ?_
  refine at_itnil rfl hR1 hS ?_
  refine x_bn <| x_tn <| at_seq <| at_region <| s1 (y_load ti24 rfl rfl rfl) rfl <| s1 (y_p rfl) rfl ?_
  refine at_nil <| x_tn <| at_ret ?_
  refine at_resultM (rs := [.tmp 4]) rfl rfl rfl hS (dn := [D1]) rfl rfl (by simp) rfl (r_tmp rfl r_nil) ⟨11, rfl, rfl⟩
theorem collect_ok (x : List UInt8) (lv nb id : Nat) (D : List UInt8) (hx : x.length = 32) (hnb : 0 < nb) : Con Tryd.prog 76 [.fn (.func 101) [] [.fp (x.map u8), .fp [nJ lv, nJ nb, slA D], .fp [nJ id]]] (Ret (.fz 2 ((bitL x lv nb id 2).map nJ))) := by
 refine enter Tryd.func76 rfl Tryd.ntmps76 (by kernel_rfl) (Nat.le_of_ble_eq_true rfl) fun w0 X0 hI => ?_
 refine at_seq <| at_region <| s1 (y_p rfl) rfl ?_
 refine at_nil <| x_tn <| at_seq <| at_region <| s1 (y_p rfl) rfl ?_
 refine at_op rfl (n_callO 4 rfl false rfl (.cons (.pure pu) (.cons (.pure pu) .nil)) (appendSeq_ok x lv nb id D hx hnb) pul (.inl rfl) rfl ?_)
 refine s1 (y_p rfl) rfl ?_
 refine at_nil <| x_tn <| at_ret ?_
 refine at_frz 2 rfl rfl pul (view_eq (by simp) rfl) ?_
 refine at_result (rs := [.tmp 2]) rfl (r_tmp rfl r_nil) rfl
theorem sized_ok (a b : Int) : Con Tryd.prog 56 [.i .i64 a, .i .i64 b] (Ret (.b (decide (sizedP a b)))) := by
 refine enter Tryd.func56 rfl Tryd.ntmps56 (by kernel_rfl) (Nat.le_of_ble_eq_true rfl) fun w0 X0 hI => ?_
 refine at_seq <| at_region <| s1 (y_p rfl) rfl ?_
 refine at_nil <| x_tn <| at_seq <| at_region <| s1 (y_p rfl) rfl <| s1 (y_p rfl) rfl <| s1 (y_p rfl) rfl ?_
 refine g_and 2 rfl rfl rfl rfl (fun hb7 => .step (y_p rfl) rfl rfl <| .step (y_p rfl) rfl rfl <| .done) rfl rfl ?_
 refine s1 (y_p rfl) rfl ?_
 refine g_and 2 rfl rfl rfl rfl (fun hb11 => .step (y_p rfl) rfl rfl <| .step (y_p rfl) rfl rfl <| .done) rfl rfl ?_
 refine s1 (y_p rfl) rfl ?_
 refine g_and 2 rfl rfl rfl rfl (fun hb15 => .step (y_p rfl) rfl rfl <| .step (y_p rfl) rfl rfl <| .done) rfl rfl ?_
 refine s1 (y_p rfl) rfl ?_
 refine at_nil <| x_tn <| at_ret ?_
 refine at_result (rs := [.tmp 4]) rfl (r_tmp rfl r_nil) ?_
 exact congrArg A.b (by rw [Bool.eq_iff_iff, decide_eq_true_eq]; simp [sizedP, and_assoc])
end Go.Abs.D2
-- F3P
namespace Go.Abs.D2
open Go Go.Eng Go.Abs
theorem all_next {p : Nat → Prop} {i : Nat} (h : ∀ t, t < i → p t) (hp : p i) : ∀ t, t < i + 1 → p t := fun t ht => (Nat.lt_or_ge t i).elim (h t) fun hg => (Nat.le_antisymm (Nat.le_of_lt_succ ht) hg) ▸ hp
theorem zmap (k : Nat) : List.replicate k (evC (Value.int .u8 0)) = (List.replicate k (0 : UInt8)).map u8 := (List.map_replicate (f := u8) (n := k) (a := 0)).symm
theorem tf (b : Bool) : b = false ∨ b = true := by cases b <;> simp
theorem bitB_nat {r : Nat} (h : r < 8) : (bitB r).toNat = 2 ^ r := by
  unfold bitB
  rw [UInt8.toNat_ofNat']
  exact Nat.mod_eq_of_lt (Nat.pow_lt_pow_right (by omega) h)
theorem bit_div (b r : Nat) : Nat.testBit b r = (b / 2 ^ r % 2 == 1) := by
  rw [Nat.testBit_eq_decide_div_mod_eq]; rfl
def bitA (l : List UInt8) (k : Nat) : Bool := (l.getD (k / 8) 0).toNat.testBit (k % 8)
def setA (l : List UInt8) (k : Nat) : List UInt8 := l.set (k / 8) (l.getD (k / 8) 0 ||| bitB (k % 8))
@[simp] theorem len_setA (l : List UInt8) (k : Nat) : (setA l k).length = l.length := by simp [setA]
theorem bit_setA {l : List UInt8} {k : Nat} (h : k / 8 < l.length) (j : Nat) : bitA (setA l k) j = (bitA l j || j == k) := by
  unfold bitA setA
  by_cases hj : j / 8 = k / 8
  · rw [hj]
    have e : (l.set (k / 8) (l.getD (k / 8) 0 ||| bitB (k % 8))).getD (k / 8) 0 = l.getD (k / 8) 0 ||| bitB (k % 8) := by simp [List.getD, h]
    rw [e, UInt8.toNat_or, Nat.testBit_or, bitB_nat (by omega), Nat.testBit_two_pow]
    congr 1
    by_cases hm : j = k
    · subst hm; simp
    · rw [beq_eq_false_iff_ne.2 hm]; exact decide_eq_false (by omega)
  · have e : (l.set (k / 8) (l.getD (k / 8) 0 ||| bitB (k % 8))).getD (j / 8) 0 = l.getD (j / 8) 0 := by
      simp only [List.getD, List.getElem?_set]; rw [if_neg (fun h => hj h.symm)]
    rw [e, beq_eq_false_iff_ne.2 (by rintro rfl; exact hj rfl), Bool.or_false]
def tailP (n : Nat) (D : List UInt8) : Prop := ∀ k, n ≤ k → k < 8 * D.length → bitA D k = false
theorem tail_iff {n : Nat} {D : List UInt8} (hl : D.length = (n + 7) / 8) (hn : 8 ≤ n) : (n % 8 = 0 ∨ (D.getD (D.length - 1) 0).toNat / 2 ^ (n % 8) = 0) ↔ tailP n D := by
  by_cases h0 : n % 8 = 0
  · refine ⟨fun _ k h1 h2 => absurd h2 (by omega), fun _ => .inl h0⟩
  · have hd : D.length - 1 = n / 8 := by omega
    rw [hd]
    constructor
    · rintro (h | h) k h1 h2
      · exact absurd h h0
      · unfold bitA
        rw [show k / 8 = n / 8 by omega]
        have h3 : (D.getD (n / 8) 0).toNat < 2 ^ (n % 8) := by
          rcases Nat.lt_or_ge (D.getD (n / 8) 0).toNat (2 ^ (n % 8)) with h' | h'
          · exact h'
          · have := Nat.div_pos h' (Nat.two_pow_pos _); omega
        exact Nat.testBit_lt_two_pow (Nat.lt_of_lt_of_le h3 (Nat.pow_le_pow_right (by omega) (by omega)))
    · intro h
      right
      apply Nat.div_eq_of_lt
      apply Nat.lt_pow_two_of_testBit
      intro i hi
      by_cases h8 : i < 8
      · have := h (8 * (n / 8) + i) (by omega) (by omega)
        unfold bitA at this
        rwa [show (8 * (n / 8) + i) / 8 = n / 8 by omega, show (8 * (n / 8) + i) % 8 = i by omega] at this
      · exact Nat.testBit_lt_two_pow (Nat.lt_of_lt_of_le (UInt8.toNat_lt _) (Nat.pow_le_pow_right (by omega) (by omega : 8 ≤ i)))
@[irreducible] def chkB (lv nb : Int) (D : List UInt8) : Bool := decide (sizedP lv nb) && (D.length == (nb.toNat + 7) / 8) && (nb.toNat % 8 == 0 || (D.getD (D.length - 1) 0).toNat / 2 ^ (nb.toNat % 8) == 0)
theorem sized_nat {lv nb : Int} (h : sizedP lv nb) : ∃ l n : Nat, lv = (l : Int) ∧ nb = (n : Int) ∧ l < 16 ∧ 8 ≤ n ∧ n ≤ 4096 := ⟨lv.toNat, nb.toNat, by unfold sizedP at h; omega, by unfold sizedP at h; omega, by unfold sizedP at h; omega, by unfold sizedP at h; omega, by unfold sizedP at h; omega⟩
theorem nat_sized {l n : Nat} (h1 : l < 16) (h2 : 8 ≤ n) (h3 : n ≤ 4096) : sizedP (l : Int) (n : Int) := by unfold sizedP; omega
theorem chk_size {lv nb : Int} {D : List UInt8} (h : ¬ sizedP lv nb) : chkB lv nb D = false := by unfold chkB; simp [h]
theorem chk_len {l n : Nat} {D : List UInt8} (h : D.length ≠ (n + 7) / 8) : chkB l n D = false := by unfold chkB; simp [h]
theorem chk_tail {l n : Nat} {D : List UInt8} (h1 : l < 16) (h2 : 8 ≤ n) (h3 : n ≤ 4096) (hl : D.length = (n + 7) / 8) : chkB l n D = (n % 8 == 0 || (D.getD (D.length - 1) 0).toNat / 2 ^ (n % 8) == 0) := by
  have := nat_sized h1 h2 h3
  unfold chkB
  simp only [this, decide_true, Bool.true_and, Int.toNat_natCast]
  rw [beq_iff_eq.2 hl, Bool.true_and]
theorem chk_tail2 {l n : Nat} {D : List UInt8} (h1 : l < 16) (h2 : 8 ≤ n) (h3 : n ≤ 4096) (hl : D.length = (n + 7) / 8) : chkB l n D = true ↔ tailP n D := by
  rw [chk_tail h1 h2 h3 hl, ← tail_iff hl h2]; simp
theorem chk_nat {lv nb : Int} {D : List UInt8} (h : chkB lv nb D = true) : ∃ l n : Nat, lv = (l : Int) ∧ nb = (n : Int) ∧ l < 16 ∧ 8 ≤ n ∧ n ≤ 4096 ∧ D.length = (n + 7) / 8 ∧ tailP n D := by
  by_cases hs : sizedP lv nb
  · obtain ⟨l, n, rfl, rfl, h1, h2, h3⟩ := sized_nat hs
    by_cases hl : D.length = (n + 7) / 8
    · exact ⟨l, n, rfl, rfl, h1, h2, h3, hl, (chk_tail2 h1 h2 h3 hl).1 h⟩
    · rw [chk_len hl] at h; cases h
  · rw [chk_size hs] at h; cases h
theorem nat_chk {l n : Nat} {D : List UInt8} (h1 : l < 16) (h2 : 8 ≤ n) (h3 : n ≤ 4096) (hl : D.length = (n + 7) / 8) (ht : tailP n D) : chkB l n D = true := (chk_tail2 h1 h2 h3 hl).2 ht
def errF (b : Bool) : Int := if b then 0 else 330
@[irreducible] def bN (x : List UInt8) (lv nb id i : Nat) : Nat := numD (filD x lv id) (4 * i) 4 % nb
theorem bN_eq (x : List UInt8) (lv nb id i : Nat) : bN x lv nb id i = numD (filD x lv id) (4 * i) 4 % nb := by unfold bN; rfl
theorem bN_lt {x : List UInt8} {lv nb id : Nat} (h : 0 < nb) (i : Nat) : bN x lv nb id i < nb := by rw [bN_eq]; exact Nat.mod_lt _ h
theorem bitL_get (x : List UInt8) (lv nb id i : Nat) (h : i < 2) : (((bitL x lv nb id 2).map nJ).drop (i * 1))[0]? = some (nJ (bN x lv nb id i)) := by
  rw [List.getElem?_drop, show i * 1 + 0 = i by omega, bN_eq]
  simp [bitL, h]
@[irreducible] def okB (lv nb : Int) (D : List UInt8) (id : Int) : Bool := chkB lv nb D && decide (0 ≤ id ∧ id < 1024)
theorem ok_chk {lv nb id : Int} {D : List UInt8} (h : chkB lv nb D = false) : okB lv nb D id = false := by unfold okB; simp [h]
theorem ok_id {lv nb id : Int} {D : List UInt8} (h : ¬ (0 ≤ id ∧ id < 1024)) : okB lv nb D id = false := by unfold okB; simp only [h, decide_false, Bool.and_false]
theorem ok_yes {lv nb id : Int} {D : List UInt8} (h : chkB lv nb D = true) (h' : 0 ≤ id ∧ id < 1024) : okB lv nb D id = true := by unfold okB; simp only [h, h']; rfl
theorem ok_nat {lv nb id : Int} {D : List UInt8} (h : okB lv nb D id = true) : ∃ l n j : Nat, lv = (l : Int) ∧ nb = (n : Int) ∧ id = (j : Int) ∧ l < 16 ∧ 8 ≤ n ∧ n ≤ 4096 ∧ j < 1024 ∧ D.length = (n + 7) / 8 ∧ tailP n D := by
  unfold okB at h
  simp only [Bool.and_eq_true, decide_eq_true_eq] at h
  obtain ⟨h, h5, h6⟩ := h
  obtain ⟨l, n, rfl, rfl, h1, h2, h3, h4, ht⟩ := chk_nat h
  exact ⟨l, n, id.toNat, rfl, rfl, by omega, h1, h2, h3, by omega, h4, ht⟩
@[irreducible] def bitsA (x : List UInt8) (lv nb : Int) (D : List UInt8) (id : Int) : A := if okB lv nb D id then .tu [.fz 2 ((bitL x lv.toNat nb.toNat id.toNat 2).map nJ), .i .i64 0] else .tu [.nl, .i .i64 330]
theorem bits_no {x : List UInt8} {lv nb id : Int} {D : List UInt8} (h : okB lv nb D id = false) : bitsA x lv nb D id = .tu [.nl, .i .i64 330] := by unfold bitsA; rw [h]; rfl
theorem bits_yes {x : List UInt8} {l n j : Nat} {D : List UInt8} (h : okB l n D j = true) : bitsA x l n D j = .tu [.fz 2 ((bitL x l n j 2).map nJ), .i .i64 0] := by unfold bitsA; rw [h]; rfl
def hasD (x : List UInt8) (l n j : Nat) (D : List UInt8) : Bool := bitA D (bN x l n j 0) && bitA D (bN x l n j 1)
def setsB (x : List UInt8) (l n j : Nat) (D : List UInt8) : Nat → List UInt8
  | 0 => D
  | i + 1 => setA (setsB x l n j D i) (bN x l n j i)
@[simp] theorem len_setsB (x : List UInt8) (l n j : Nat) (D : List UInt8) : ∀ i, (setsB x l n j D i).length = D.length
  | 0 => rfl
  | i + 1 => by simp [setsB, len_setsB x l n j D i]
abbrev addD (x : List UInt8) (l n j : Nat) (D : List UInt8) : List UInt8 := setsB x l n j D 2
abbrev filA (lv nb : Int) (D : List UInt8) : A := .ag [.i .i64 lv, .i .i64 nb, slA D]
@[irreducible] def hasA (x : List UInt8) (lv nb : Int) (D : List UInt8) (id : Int) : A := if okB lv nb D id then .tu [.b (hasD x lv.toNat nb.toNat id.toNat D), .i .i64 0] else .tu [.b false, .i .i64 330]
theorem has_no {x : List UInt8} {lv nb id : Int} {D : List UInt8} (h : okB lv nb D id = false) : hasA x lv nb D id = .tu [.b false, .i .i64 330] := by unfold hasA; rw [h]; rfl
theorem has_yes {x : List UInt8} {l n j : Nat} {D : List UInt8} (h : okB l n D j = true) : hasA x l n D j = .tu [.b (hasD x l n j D), .i .i64 0] := by unfold hasA; rw [h]; rfl
@[irreducible] def addA (x : List UInt8) (lv nb : Int) (D : List UInt8) (id : Int) : A := if okB lv nb D id then .tu [filA lv nb (addD x lv.toNat nb.toNat id.toNat D), .i .i64 0] else .tu [filA 0 0 [], .i .i64 330]
theorem add_no {x : List UInt8} {lv nb id : Int} {D : List UInt8} (h : okB lv nb D id = false) : addA x lv nb D id = .tu [filA 0 0 [], .i .i64 330] := by unfold addA; rw [h]; rfl
theorem add_yes {x : List UInt8} {l n j : Nat} {D : List UInt8} (h : okB l n D j = true) : addA x l n D j = .tu [filA l n (addD x l n j D), .i .i64 0] := by unfold addA; rw [h]; rfl
@[irreducible] def newA (lv nb : Int) : A := if sizedP lv nb then .tu [filA lv nb (List.replicate ((nb.toNat + 7) / 8) 0), .i .i64 0] else .tu [filA 0 0 [], .i .i64 330]
theorem new_no {lv nb : Int} (h : ¬ sizedP lv nb) : newA lv nb = .tu [filA 0 0 [], .i .i64 330] := by unfold newA; rw [if_neg h]
theorem new_yes {l n : Nat} (h : sizedP (l : Int) (n : Int)) : newA l n = .tu [filA l n (List.replicate ((n + 7) / 8) 0), .i .i64 0] := by unfold newA; rw [if_pos h]; rfl
theorem has_byte (b : UInt8) (r : Nat) : (((UInt8.ofNat (b.toNat / 2 ^ r) &&& 1).toNat : Int) == 0) = !(b.toNat.testBit r) := by
  have hb := b.toNat_lt
  have h1 : b.toNat / 2 ^ r ≤ b.toNat := Nat.div_le_self _ _
  rw [UInt8.toNat_and, UInt8.toNat_ofNat', Nat.mod_eq_of_lt (by omega), show (1 : UInt8).toNat = 1 from rfl, Nat.and_one_is_mod, bit_div]
  have h2 := Nat.mod_two_eq_zero_or_one (b.toNat / 2 ^ r)
  rcases h2 with h | h <;> rw [h] <;> rfl
theorem ref_bit (b r : Nat) : (((b / 2 ^ r % 2 : Nat) : Int) == 1) = b.testBit r := by
  rw [bit_div]
  have h2 := Nat.mod_two_eq_zero_or_one (b / 2 ^ r)
  rcases h2 with h | h <;> rw [h] <;> rfl
theorem shr_zero (b : UInt8) (r : Nat) : (((UInt8.ofNat (b.toNat / 2 ^ r)).toNat : Int) != 0) = !(b.toNat / 2 ^ r == 0) := by
  have hb := b.toNat_lt
  have h1 : b.toNat / 2 ^ r ≤ b.toNat := Nat.div_le_self _ _
  rw [UInt8.toNat_ofNat', Nat.mod_eq_of_lt (by omega), bne]
  congr 1
  generalize b.toNat / 2 ^ r = q
  rw [Bool.eq_iff_iff]
  simp
theorem getD8 {m : List UInt8} {i : Nat} (hi : i < m.length) : ((m.map u8).drop (i * 1))[0]? = some (u8 (m.getD i 0)) := by
  rw [List.getElem?_drop, show i * 1 + 0 = i by omega]
  simp [hi]
theorem getO8 {m : List UInt8} {i : Nat} (hi : i < m.length) : ((m.map u8).drop (0 + i * 1))[0]? = some (u8 (m.getD i 0)) := by
  rw [List.getElem?_drop, show 0 + i * 1 + 0 = i by omega]
  simp [hi]
theorem setD8 {m : List UInt8} {k : Nat} : ((m.map u8).set (k / 8) (u8 (m.getD (k / 8) 0 ||| bitB (k % 8)))) = (setA m k).map u8 := by
  unfold setA; rw [List.map_set]
theorem hasD_no {x : List UInt8} {l n j i : Nat} {D : List UInt8} (h : i < 2) (hb : bitA D (bN x l n j i) = false) : hasD x l n j D = false := by
  unfold hasD
  have : i = 0 ∨ i = 1 := by omega
  rcases this with rfl | rfl <;> simp [hb]
theorem hasD_yes {x : List UInt8} {l n j : Nat} {D : List UInt8} (h : ∀ t, t < 2 → bitA D (bN x l n j t) = true) : hasD x l n j D = true := by
  unfold hasD; rw [h 0 (by omega), h 1 (by omega)]; rfl
theorem setD9 (m : List UInt8) (k : Nat) : (m.map u8).set (0 + k / 8 * 1) (u8 (m.getD (k / 8) 0 ||| bitB (k % 8))) = (setA m k).map u8 := by
  rw [show 0 + k / 8 * 1 = k / 8 by omega]; exact setD8
theorem div_step (b i : Nat) : b / 2 ^ i / 2 = b / 2 ^ (i + 1) := by rw [Nat.div_div_eq_div_mul, Nat.pow_succ]
theorem div_zero (b : Nat) : b = b / 2 ^ 0 := by simp
theorem tail_next {D : List UInt8} {n k : Nat} (h : ∀ t, n ≤ t → t < k → bitA D t = false) (hp : bitA D k = false) : ∀ t, n ≤ t → t < k + 1 → bitA D t = false := fun t h1 h2 => (Nat.lt_or_ge t k).elim (h t h1) fun hg => (Nat.le_antisymm (Nat.le_of_lt_succ h2) hg) ▸ hp
theorem chk_bad {l n k : Nat} {D : List UInt8} (h1 : l < 16) (h2 : 8 ≤ n) (h3 : n ≤ 4096) (hl : D.length = (n + 7) / 8) (hk : n ≤ k) (hk2 : k < 8 * D.length) (hb : bitA D k = true) : chkB l n D = false := by
  rw [Bool.eq_false_iff]
  intro h
  have := (chk_tail2 h1 h2 h3 hl).1 h k hk hk2
  rw [hb] at this; cases this
end Go.Abs.D2
-- AbsQ
namespace Go.Abs
open Go Go.Eng
mutual
inductive Wk : A → A → Prop where
  | eq {v v' : A} (h : v = v') : Wk v v'
  | nl : Wk .nl (.fz 0 [])
  | ag {cs cs' : List A} (h : WkL cs cs') : Wk (.ag cs) (.ag cs')
  | tu {cs cs' : List A} (h : WkL cs cs') : Wk (.tu cs) (.tu cs')
inductive WkL : List A → List A → Prop where
  | nil : WkL [] []
  | cons {c c' : A} {cs cs' : List A} (h : Wk c c') (hs : WkL cs cs') : WkL (c :: cs) (c' :: cs')
end
instance {v k} [h : IsFlat v] : IsFlatL (List.replicate k v) := ⟨FlatL_mem.2 fun c hc => by rw [List.eq_of_mem_replicate hc]; exact h.out⟩
theorem WkL.same : ∀ {cs : List A}, WkL cs cs
  | [] => .nil
  | _ :: _ => .cons (.eq rfl) WkL.same
mutual
theorem Wk_V {X : Xs} {w : World} {β : Bm} : ∀ {v v' : A} {u : Value}, Wk v v' → V X w β v u → V X w β v' u
  | _, _, _, .eq h, hv => h ▸ hv
  | _, _, _, .nl, hv => V_nlfz hv
  | _, _, _, .ag h, hv => by
    simp only [V] at hv ⊢
    obtain ⟨us, e1, e2, e3⟩ := hv
    exact ⟨us, e1, WkL_VS h e2, e3⟩
  | _, _, _, .tu h, hv => by
    simp only [V] at hv ⊢
    obtain ⟨us, e1, e2⟩ := hv
    exact ⟨us, e1, WkL_VS h e2⟩
theorem WkL_VS {X : Xs} {w : World} {β : Bm} : ∀ {cs cs' : List A} {us : List Value}, WkL cs cs' → VS X w β cs us → VS X w β cs' us
  | _, _, _, .nil, hv => hv
  | _, _, _, .cons h hs, hv => by
    simp only [VS] at hv
    obtain ⟨u, r, rfl, h1, h2⟩ := hv
    exact VS_cons (Wk_V h h1) (WkL_VS hs h2)
end
section
variable {P : Program} {w0 : Bw} {X0 : Xs} {n : Nat} {E : Ev} {st : St} {K : Act → World → Prop}
theorem at_wkO (id : Nat) {cs cs' : List A} (hg : st.get id = some cs) (hw : WkL cs cs') (h : At w0 X0 n E (st.put id cs') K) : At w0 X0 n E st K := by
  rintro a w ⟨β, X, hr⟩
  have hm : Mem w0 β X (st.put id cs') w := by
    refine .of hr.mem.below hr.mem.b0 hr.mem.xlt (fun k hk => ?_) (fun k ds hk => ?_) (fun i j ci cj b M N hij h1 h2 => ?_)
    · rw [St.free_put] at hk
      split at hk
      · cases hk
      · exact hr.mem.dom k hk
    · rw [St.get_put] at hk
      split at hk
      · rename_i he
        subst he
        simp only [Option.some.injEq] at hk
        subst hk
        have := hr.mem.obj id cs hg
        unfold OB at this ⊢
        split at this
        · exact this
        · subst this; cases hw; rfl
        · obtain ⟨h1, h2, us, rest, ty, h3, h4, h5, h6⟩ := this
          exact ⟨h1, h2, us, rest, ty, h3, h4, WkL_VS hw h5, h6⟩
      · exact hr.mem.obj k ds hk
    · have g : ∀ (k : Nat) (c : List A), (st.put id cs').get k = some c → ∃ c', st.get k = some c' := by
        intro k c hk
        rw [St.get_put] at hk
        split at hk
        · rename_i he; subst he; exact ⟨_, hg⟩
        · exact ⟨_, hk⟩
      obtain ⟨c1, e1⟩ := g _ _ h1
      obtain ⟨c2, e2⟩ := g _ _ h2
      exact hr.mem.inj i j c1 c2 b M N hij e1 e2
  exact h a w ⟨β, X, .of hr.x0 hr.xn hm hr.gl hr.size hr.defers hr.sslot hr.slot⟩
end
theorem Con.wk {P : Program} {f : FuncId} {args : List A} {r r' : A} (h : Con P f args (Ret r)) (hw : Wk r r') : Con P f args (Ret r') := h.weak fun _ _ _ _ hv => Wk_V hw hv
section
variable {P : Program} {w0 : Bw} {X0 : Xs} {n : Nat} {E F : Ev} {st : St} {K : Act → World → Prop} {Q : Exit → Act → World → Prop}
theorem n_callF {d : Nat} {f : FuncId} {xs : List Operand} {vs : List A} {ats : Array TypeId} {ty : TypeId} {pos aft' g} {ret : A} (t : Nat) {id s off m m' : Nat} {cs ds : List A} (ht : E.at? t = some (.sl id s off m)) (hg : st.get id = some cs) (hpc : PureL cs) (hm : m = m') (hdd : (cs.drop off).take (m * s) = ds)
    (hxs : evsA ((t, .fz m' ds) :: E) xs = some vs) (hpv : PureL vs) (hc : Con P f vs (Ret ret)) (hp : Pure ret) (hd : Nat.ble (d + 1) n = true) (h : At w0 X0 n ((d, ret) :: E) (st.del id) K) :
    At w0 X0 n E st (fun a w => (⟨some d, .call { callee := .value (.func f), args := xs.toArray, argTypes := ats }, ty, pos, aft', g⟩ : Oper).wp P a w K Q) := by
  rintro a w ⟨β, X, hr⟩
  subst hdd; subst hm
  obtain ⟨u, g1, g2⟩ := hr.slot t _ ht
  obtain ⟨X1, m1, m2, m3, m4⟩ := frz_V hr.mem hg hpc g2
  have hr2 := hr.say ht m1 m2 m3 (fun u hu => m4 s off m u hu)
  have hr1 : RelX w0 X0 n E (st.del id) β X1 a w := .of (fun b o h => (m2 b o (hr.x0 b o h)).1) (fun b o h => (m3 b o h).elim (hr.xn b o) .inr) m1 (hr.gl.mono m2) hr.size hr.defers (fun s hs => Sus.slots_mono m2 (hr.sslot s hs)) (fun t v hv => let ⟨u, q1, q2⟩ := hr.slot t v hv; ⟨u, q1, V_mono m2 _ _ _ _ (ExtB.refl β) q2⟩)
  have hcS : ConS P f vs ⟨[]⟩ (RetS ret []) := ConS.mono hc fun r st h => ⟨h, (fun p hp => by cases hp)⟩
  refine call_core (fs := []) (cs := []) (s0 := ⟨[]⟩) (ow := false) hr2 rfl hxs trivial (by simpa using VwL.pure hpv) hcS fun v w' ⟨r, β', X', st', ⟨hR, hR2⟩, hsup, hsub, hm, hvv⟩ => ?_
  obtain ⟨k1, k2, k3, k4, _⟩ := hm.after hr2 (fun id cs h => by cases h) hsub hsup (upds := []) (fun p hp => by cases hp)
  subst hR
  exact h _ _ ⟨β, _, hr1.putv hd k2 k3 (ExtB.refl β) k1 (V_mono (k4 rfl) _ _ _ _ (ExtB.refl β) (V_pure _ _ hp hvv))⟩
theorem lev_put {p : Nat × A} (h : lev E F) : lev (p :: E) (p :: F) := fun t v ht => by
  obtain ⟨k, u⟩ := p
  simp only [Ev.at?] at ht ⊢
  cases hb : Nat.beq k t with
  | true => rw [hb] at ht; exact ht
  | false => rw [hb] at ht; exact h t v ht
variable {r : Option Nat} {ds0 : List Deferred} {N : Nat} {E0 : EV} {st0 : St} {ops : Array Oper} {k g : Nat} {plan : List Stp} {rest : List Oper} {gd : Option (Nat × Bool)} {d : Nat} {ty : TypeId} {pos : String} {aft : Array Edge}
theorem fs_callF {f : FuncId} {xs : List Operand} {vs : List A} {ats : Array TypeId} {ret : A} (t : Nat) {id s off m m' : Nat} {cs ds : List A} (k0 : Nat) (deps : List Nat) (need : List (Nat × Option Nat)) (hg : GuardYes ops (keepI (E0.at k0) deps k0 E) gd) (ht : (keepI (E0.at k0) deps k0 E).at? t = some (.sl id s off m)) (hgt : (nst plan st0 need).get id = some cs) (hpc : PureL cs) (hm : m = m') (hdd : (cs.drop off).take (m * s) = ds)
    (hxs : evsA ((t, .fz m' ds) :: keepI (E0.at k0) deps k0 E) xs = some vs) (hpv : PureL vs) (hc : Con P f vs (Ret ret)) (hp : Pure ret) (hb : Nat.ble (d + 1) N = true) (hd : depB k0 deps need = true) (h : FS r ds0 P w0 X0 N Q ops k g E0 st0 (plan ++ [⟨d, ret, deps, [id], [], need, []⟩]) (k0 + 1) ((d, ret) :: E) (st.del id) rest) :
    FS r ds0 P w0 X0 N Q ops k g E0 st0 plan k0 E st (⟨some d, .call { callee := .value (.func f), args := xs.toArray, argTypes := ats }, ty, pos, aft, gd⟩ :: rest) :=
  fs_gen ⟨d, ret, deps, [id], [], need, []⟩ (fun hk hE _ _ _ hD hs _ hK => have he' := hD.fin hE hk; ob_gy hg he' (n_callF t (he' _ _ ht) (hs _ _ hgt) hpc hm hdd (evs_le (lev_put he') hxs) hpv hc hp hb hK)) hd h
end
end Go.Abs
namespace Go.Eng
end Go.Eng
namespace Go.Abs
open Go Go.Eng
end Go.Abs
namespace Go.Abs
open Go Go.Eng
section
variable {P : Program} {w0 : Bw} {X0 : Xs} {n : Nat} {E : Ev} {st : St} {Q : Exit → Act → World → Prop} {r : Option Nat} {ds : List Deferred} {ops : Array Oper} {rest : List Oper} {d : Nat} {op : Op} {ty : TypeId} {pos : String} {aft : Array Edge}
theorem RelQ.yields_un {β : Bm} {X : Xs} {a : Act} {w : World} (h : RelQ w0 X0 n E st β X a w) {j t : Nat} (hj : guardSlot ops j = some t) (hb : E.at? t = some un) : yielded ops a.tmps j = none := by
  obtain ⟨u, h1, h2⟩ := h.slot t _ hb
  simp only [V] at h2
  subst h2
  unfold guardSlot at hj
  simp only [yielded, hj, h1, Option.bind_some]
  rfl
theorem g0u {j t : Nat} {b : Bool} (hj : guardSlot ops j = some t) (hb : E.at? t = some un) (hd : Nat.ble (d + 1) n = true)
    (h : At w0 X0 n ((d, un) :: E) st (Pw ds (wpListIn (rF r) 0 P ops Q rest))) : At w0 X0 n E st (Pw ds (wpListIn (rF r) 0 P ops Q (⟨some d, op, ty, pos, aft, some (j, b)⟩ :: rest))) :=
  fun a w ⟨β, X, hr⟩ => by
    show wpListIn (rF r) 0 P ops Q (_ :: rest) (a.wd ds) w
    unfold wpListIn
    rw [if_neg (by simp [Region.wanted, tmps_wd, hr.yields_un hj hb])]
    refine ⟨fun _ _ => trivial, ?_⟩
    rw [put_wd]
    exact h _ _ ⟨β, X, hr.putD (d := some d) hd (by simp [V])⟩
theorem t0u {j t : Nat} {b : Bool} {K : Act → World → Prop} (hj : guardSlot ops j = some t) (hb : E.at? t = some un) (hd : Nat.ble (d + 1) n = true)
    (h : At w0 X0 n ((d, un) :: E) st (fun a w => wpStill P ops w (fun a' => K a' w) rest a)) : At w0 X0 n E st (fun a w => wpStill P ops w (fun a' => K a' w) (⟨some d, op, ty, pos, aft, some (j, b)⟩ :: rest) a) :=
  fun a w ⟨β, X, hr⟩ => by
    show wpStill P ops w (fun a' => K a' w) (_ :: rest) a
    unfold wpStill
    rw [if_neg (by simp [Region.wanted, hr.yields_un hj hb])]
    exact h _ _ ⟨β, X, hr.put hd (by simp [V])⟩
variable {E0 : EV} {st0 : St} {k g : Nat} {plan : List Stp} {ds0 : List Deferred}
end
end Go.Abs
namespace Go.Abs
open Go Go.Eng
theorem retS_2 {st : St} {r : A} {i j : Nat} {ci cj : List A} (h1 : st.get i = some ci) (h2 : st.get j = some cj) : RetS r [(i, ci), (j, cj)] r st := ⟨rfl, fun p hq => by
  rcases List.mem_cons.1 hq with rfl | hq
  · exact h1
  · rw [List.mem_singleton] at hq
    subst hq
    exact h2⟩
end Go.Abs
-- F3D
namespace Go.Abs.D2
open Go Go.Eng Go.Abs Go.Proofs 
theorem fnew_ok (lv nb : Int) : Con Tryd.prog 27 [.i .i64 lv, .i .i64 nb] (Ret (newA lv nb)) := by
 refine enter Tryd.func27 rfl Tryd.ntmps27 (by kernel_rfl) (Nat.le_of_ble_eq_true rfl) fun w0 X0 hI => ?_
 refine at_seq <| at_region ?_
 refine at_op rfl (n_alloc 4 rfl ti50 rfl rfl ?_)
 refine s1 ((y_p rfl).v (v' := .i .i64 0) rfl) rfl ?_
 refine at_nil <| x_tn <| at_seq <| at_seq ?_
 rcases Decidable.em (sizedP lv nb) with hcs | hcs
 ·obtain ⟨l, n, rfl, rfl, h1, h2, h3⟩ := sized_nat hcs
  refine at_region <| s1 (y_p rfl) rfl <| s1 (y_p rfl) rfl ?_
  refine at_op rfl (n_call false rfl (.cons (.pure pu) (.cons (.pure pu) (.nil))) (Con.cast (sized_ok _ _) (congrArg A.b (decide_eq_true hcs))) pu (.inl rfl) rfl ?_)
  refine s1 (y_p rfl) rfl ?_
  refine at_nil <| x_tn ?_
  refine at_else rfl ?_
  refine at_skip <| x_tn <| at_seq <| at_region <| s1 (y_p rfl) rfl <| s1 (y_p rfl) rfl <| s1 (y_p rfl) rfl <| s1 (addN n 7 rfl rfl rfl rfl (by omega)) rfl <| s1 (quoN (n + 7) 8 rfl rfl rfl rfl (by omega) (by omega)) rfl ?_
  refine at_op rfl (n_make 16 rfl _ _ Tryd.underlying40 ti5 rfl rfl rfl rfl rfl (by first | omega | (simp only [maxLen]; omega) | (simp [maxLen]; done) | (simp [maxLen]; omega) | (simp [maxLen, *]; omega)) (by first | omega | (simp only [maxLen]; omega) | (simp [maxLen]; done) | (simp [maxLen]; omega) | (simp [maxLen, *]; omega)) (by first | omega | (simp only [maxLen]; omega) | (simp [maxLen]; done) | (simp [maxLen]; omega) | (simp [maxLen, *]; omega)) rfl ?_)
  refine s1 (y_bld (out := [_, _, _]) [[evC (.int .i64 0)], [evC (.int .i64 0)], [evC (.slice none 0 0)]] ti50 rfl Tryd.underlying50 (by kernel_rfl) rfl rfl ⟨⟨by (first | rfl | omega | (simp; done) | (simp [*]; done) | (simp [cellsA, *]; done)), rfl⟩, ⟨⟨by (first | rfl | omega | (simp; done) | (simp [*]; done) | (simp [cellsA, *]; done)), rfl⟩, ⟨⟨by (first | rfl | omega | (simp; done) | (simp [*]; done) | (simp [cellsA, *]; done)), rfl⟩, trivial⟩⟩⟩ rfl) rfl ?_
  refine at_op rfl (n_storeA ti50 rfl rfl rfl (by first | rfl | omega | (simp <;> omega) | (simp [*] <;> omega)) (by first | rfl | omega | (simp <;> omega) | (simp [*] <;> omega)) ?_)
  refine s1 ((y_p rfl).v (v' := .i .i64 0) rfl) rfl ?_
  refine at_nil <| x_tn <| at_ret ?_
  refine at_frzO 4 2 rfl rfl rfl rfl pul (view_eq (by simp) (zmap _)) rfl ?_
  refine at_result (rs := [.cell 4 50, .tmp 5]) rfl (r_cellA ti50 rfl rfl rfl rfl (r_tmp rfl r_nil)) ?_
  show A.tu _ = _
  rw [new_yes hcs, filA, slA, List.length_replicate]; rfl
 ·skip
  refine at_region <| s1 (y_p rfl) rfl <| s1 (y_p rfl) rfl ?_
  refine at_op rfl (n_call false rfl (.cons (.pure pu) (.cons (.pure pu) (.nil))) (Con.cast (sized_ok _ _) (congrArg A.b (decide_eq_false hcs))) pu (.inl rfl) rfl ?_)
  refine s1 (y_p rfl) rfl ?_
  refine at_nil <| x_tn ?_
  refine at_then rfl ?_
  refine at_seq <| at_region <| s1 (y_loadA0 ti50 rfl rfl (by first | rfl | omega | (simp <;> omega) | (simp [*] <;> omega))) rfl ?_
  refine at_op rfl (n_storeA ti50 rfl rfl rfl (by first | rfl | omega | (simp <;> omega) | (simp [*] <;> omega)) (by first | rfl | omega | (simp <;> omega) | (simp [*] <;> omega)) ?_)
  refine s1 ((y_p rfl).v (v' := .i .i64 330) rfl) rfl ?_
  refine at_nil <| x_tn <| at_ret <| x_tr ?_
  refine at_wkO 4 rfl (.cons (.eq rfl) (.cons (.eq rfl) (.cons .nl .nil))) ?_
  refine at_result (rs := [.cell 4 50, .tmp 5]) rfl (r_cellA ti50 rfl rfl rfl rfl (r_tmp rfl r_nil)) ?_
  show A.tu _ = _
  rw [new_no hcs]; rfl
theorem fchk_ok (lv nb : Int) (D : List UInt8) : Con Tryd.prog 40 [.ag [.i .i64 lv, .i .i64 nb, slA D]] (Ret (.i .i64 (errF (chkB lv nb D)))) := by
 refine enter Tryd.func40 rfl Tryd.ntmps40 (by kernel_rfl) (Nat.le_of_ble_eq_true rfl) fun w0 X0 hI => ?_
 refine at_seq <| at_region ?_
 refine at_op rfl (n_boxA 1 rfl rfl rfl ?_)
 refine s1 ((y_p rfl).v (v' := .i .i64 0) rfl) rfl ?_
 refine at_nil <| x_tn <| at_seq <| at_seq ?_
 rcases Decidable.em (sizedP lv nb) with hcs | hcs
 ·obtain ⟨l, n, rfl, rfl, h1, h2, h3⟩ := sized_nat hcs
  refine at_region <| s1 (y_fld Tryd.underlying50 rfl ti3 (by decide) rfl rfl) rfl <| s1 (y_load ti3 rfl rfl rfl) rfl <| s1 (y_fld Tryd.underlying50 rfl ti3 (by decide) rfl rfl) rfl <| s1 (y_load ti3 rfl rfl rfl) rfl ?_
  refine at_op rfl (n_call false rfl (.cons (.pure pu) (.cons (.pure pu) (.nil))) (Con.cast (sized_ok _ _) (congrArg A.b (decide_eq_true hcs))) pu (.inl rfl) rfl ?_)
  refine s1 (y_p rfl) rfl <| s1 (y_p rfl) rfl <| g1 rfl rfl (y_fld Tryd.underlying50 rfl ti40 (by decide) rfl rfl) rfl <| g1 rfl rfl (y_load ti40 rfl rfl rfl) rfl <| g1 rfl rfl (y_len Tryd.underlying40 rfl rfl rfl) rfl <| g1 rfl rfl (y_fld Tryd.underlying50 rfl ti3 (by decide) rfl rfl) rfl <| g1 rfl rfl (y_load ti3 rfl rfl rfl) rfl <| g1 rfl rfl (addN n 7 rfl rfl rfl rfl (by omega)) rfl <| g1 rfl rfl (quoN (n + 7) 8 rfl rfl rfl rfl (by omega) (by omega)) rfl <| g1 rfl rfl (y_p rfl) rfl ?_
  refine s1 (y_p rfl) rfl ?_
  refine at_nil <| x_tn ?_
  refine at_cond rfl (fun hc19 => ?_) (fun hc19 => ?_)
  ·have hl : D.length ≠ (n + 7) / 8 := by intro h; rw [h] at hc19; simp at hc19
   refine at_seq <| at_region <| s1 ((y_p rfl).v (v' := .i .i64 330) rfl) rfl ?_
   refine at_nil <| x_tn <| at_ret <| x_tr ?_
   refine at_result (rs := [.tmp 2]) rfl (r_tmp rfl r_nil) ?_
   show A.i _ _ = _
   rw [chk_len hl]; rfl
  ·have hl : D.length = (n + 7) / 8 := by simp at hc19; omega
   have hct := chk_tail h1 h2 h3 hl
   refine at_skip <| x_tn <| at_seq <| at_seq <| at_region <| s1 (y_fld Tryd.underlying50 rfl ti3 (by decide) rfl rfl) rfl <| s1 (y_load ti3 rfl rfl rfl) rfl <| s1 (remN n 8 rfl rfl rfl rfl (by omega)) rfl <| s1 (y_p rfl) rfl ?_
   refine at_nil <| x_tn <| at_seq <| at_region <| s1 (y_p rfl) rfl <| s1 (y_p rfl) rfl <| s1 (y_p rfl) rfl ?_
   refine g_and 11 rfl rfl rfl rfl (fun hb25 => .step (y_fld Tryd.underlying50 rfl ti40 (by decide) rfl rfl) rfl rfl <| .step (y_load ti40 rfl rfl rfl) rfl rfl <| .step (y_fld Tryd.underlying50 rfl ti40 (by decide) rfl rfl) rfl rfl <| .step (y_load ti40 rfl rfl rfl) rfl rfl <| .step (y_len Tryd.underlying40 rfl rfl rfl) rfl rfl <| .step (subN D.length 1 rfl rfl rfl rfl (by omega) (by omega)) rfl rfl <| .step (y_ixf (D.length - 1) Tryd.underlying40 ti5 rfl rfl rfl (by omega) rfl) rfl rfl <| .step (y_load ti5 rfl rfl (getD8 (by omega))) rfl rfl <| .step (y_p rfl) rfl rfl <| .step (shrB (D.getD (D.length - 1) 0) (n % 8) rfl rfl rfl (by omega)) rfl rfl <| .step ((y_p rfl).v (v' := .b (!((D.getD (D.length - 1) 0).toNat / 2 ^ (n % 8) == 0))) (congrArg A.b (shr_zero _ _))) rfl rfl <| .done) rfl rfl ?_
   refine at_nil <| x_tn ?_
   refine at_cond rfl (fun hc37 => ?_) (fun hc37 => ?_)
   ·have hf : chkB l n D = false := by rw [hct]; simp at hc37 ⊢; omega
    refine at_seq <| at_region <| s1 ((y_p rfl).v (v' := .i .i64 330) rfl) rfl ?_
    refine at_nil <| x_tn <| at_ret <| x_tr ?_
    refine at_result (rs := [.tmp 2]) rfl (r_tmp rfl r_nil) ?_
    show A.i _ _ = _
    rw [hf]; rfl
   ·have hf : chkB l n D = true := by rw [hct]; simp at hc37 ⊢; omega
    refine at_skip <| x_tn <| at_seq <| at_region <| s1 ((y_p rfl).v (v' := .i .i64 0) rfl) rfl ?_
    refine at_nil <| x_tn <| at_ret ?_
    refine at_result (rs := [.tmp 2]) rfl (r_tmp rfl r_nil) ?_
    show A.i _ _ = _
    rw [hf]; rfl
 ·skip
  refine at_region <| s1 (y_fld Tryd.underlying50 rfl ti3 (by decide) rfl rfl) rfl <| s1 (y_load ti3 rfl rfl rfl) rfl <| s1 (y_fld Tryd.underlying50 rfl ti3 (by decide) rfl rfl) rfl <| s1 (y_load ti3 rfl rfl rfl) rfl ?_
  refine at_op rfl (n_call false rfl (.cons (.pure pu) (.cons (.pure pu) (.nil))) (Con.cast (sized_ok _ _) (congrArg A.b (decide_eq_false hcs))) pu (.inl rfl) rfl ?_)
  refine s1 (y_p rfl) rfl <| s1 (y_p rfl) rfl <| g0 rfl rfl rfl rfl <| g0 rfl rfl rfl rfl <| g0 rfl rfl rfl rfl <| g0 rfl rfl rfl rfl <| g0 rfl rfl rfl rfl <| g0 rfl rfl rfl rfl <| g0 rfl rfl rfl rfl <| g0 rfl rfl rfl rfl ?_
  refine s1 (y_p rfl) rfl ?_
  refine at_nil <| x_tn ?_
  refine at_then rfl ?_
  refine at_seq <| at_region <| s1 ((y_p rfl).v (v' := .i .i64 330) rfl) rfl ?_
  refine at_nil <| x_tn <| at_ret <| x_tr ?_
  refine at_result (rs := [.tmp 2]) rfl (r_tmp rfl r_nil) ?_
  show A.i _ _ = _
  rw [chk_size hcs]; rfl
theorem fbits_ok (x : List UInt8) (lv nb id : Int) (D : List UInt8) (hx : x.length = 32) : Con Tryd.prog 57 [.ag (x.map u8), .ag [.i .i64 lv, .i .i64 nb, slA D], .i .i64 id] (Ret (bitsA x lv nb D id)) := by
 refine enter Tryd.func57 rfl Tryd.ntmps57 (by kernel_rfl) (Nat.le_of_ble_eq_true rfl) fun w0 X0 hI => ?_
 refine at_seq <| at_region ?_
 refine at_op rfl (n_boxA 3 rfl rfl rfl ?_)
 refine at_op rfl (n_boxA 4 rfl rfl rfl ?_)
 refine s1 (y_p rfl) rfl <| s1 ((y_p rfl).v (v' := .i .i64 0) rfl) rfl ?_
 refine at_nil <| x_tn <| at_seq <| at_seq ?_
 rcases tf (chkB lv nb D) with hcs | hcs
 ·skip
  refine at_region <| s1 (y_loadA0 ti50 rfl rfl (by first | rfl | omega | (simp <;> omega) | (simp [*] <;> omega))) rfl ?_
  refine at_op rfl (n_call false rfl (.cons (.pure pu) (.nil)) (Con.cast (fchk_ok _ _ _) (congrArg (A.i .i64) (by rw [hcs]; rfl : errF (chkB lv nb D) = 330))) pu (.inl rfl) rfl ?_)
  refine s1 (y_p rfl) rfl ?_
  refine at_nil <| x_tn <| at_seq <| at_region <| s1 (y_p rfl) rfl <| s1 ((y_p rfl).v (v' := .b true) (rfl)) rfl ?_
  refine at_nil <| x_tn ?_
  refine at_then rfl ?_
  refine at_seq <| at_region <| s1 (y_p rfl) rfl <| s1 (y_p rfl) rfl <| s1 (y_p rfl) rfl ?_
  refine at_nil <| x_tn <| at_ret <| x_tr ?_
  refine at_result (rs := [.tmp 6, .tmp 7]) rfl (r_tmp rfl (r_tmp rfl r_nil)) ?_
  show A.tu _ = _
  rw [bits_no (ok_chk hcs)]; rfl
 ·skip
  refine at_region <| s1 (y_loadA0 ti50 rfl rfl (by first | rfl | omega | (simp <;> omega) | (simp [*] <;> omega))) rfl ?_
  refine at_op rfl (n_call false rfl (.cons (.pure pu) (.nil)) (Con.cast (fchk_ok _ _ _) (congrArg (A.i .i64) (by rw [hcs]; rfl : errF (chkB lv nb D) = 0))) pu (.inl rfl) rfl ?_)
  refine s1 (y_p rfl) rfl ?_
  refine at_nil <| x_tn <| at_seq <| at_region <| s1 (y_p rfl) rfl <| s1 ((y_p rfl).v (v' := .b false) (rfl)) rfl ?_
  refine at_nil <| x_tn ?_
  refine at_else rfl ?_
  refine at_skip <| x_tn <| at_seq <| at_seq <| at_region <| s1 (y_p rfl) rfl <| s1 (y_p rfl) rfl <| s1 (y_p rfl) rfl ?_
  refine g_or 2 rfl rfl rfl rfl (fun hb16 => .step (y_p rfl) rfl rfl <| .step (y_p rfl) rfl rfl <| .done) rfl rfl ?_
  refine at_nil <| x_tn ?_
  refine at_cond rfl (fun hc19 => ?_) (fun hc19 => ?_)
  ·have h19 : ¬ (0 ≤ id ∧ id < 1024) := by simp at hc19; omega
   refine at_seq <| at_region <| s1 (y_p rfl) rfl <| s1 ((y_p rfl).v (v' := .i .i64 330) rfl) rfl ?_
   refine at_nil <| x_tn <| at_ret <| x_tr ?_
   refine at_result (rs := [.tmp 6, .tmp 7]) rfl (r_tmp rfl (r_tmp rfl r_nil)) ?_
   show A.tu _ = _
   rw [bits_no (ok_id h19)]; rfl
  ·have h19 : 0 ≤ id ∧ id < 1024 := by simp at hc19; omega
   have hk := ok_yes hcs h19
   obtain ⟨l, n, j, rfl, rfl, rfl, h1, h2, h3, h4, h5, h6⟩ := ok_nat hk
   refine at_skip <| x_tn <| at_seq <| at_region <| s1 (y_loadA0 ti23 rfl rfl (by first | rfl | omega | (simp <;> omega) | (simp [*] <;> omega))) rfl <| s1 (y_loadA0 ti50 rfl rfl (by first | rfl | omega | (simp <;> omega) | (simp [*] <;> omega))) rfl <| s1 (y_p rfl) rfl ?_
   refine at_op rfl (n_call false rfl (.cons (.pure pu) (.cons (.pure pu) (.cons (.pure pu) (.nil)))) (bitsOf_ok x _ _ _ D) pu (.inl rfl) rfl ?_)
   refine at_op rfl (n_call false rfl (.cons (.pure pu) (.nil)) (collect_ok x l n j D hx (by omega)) pu (.inl rfl) rfl ?_)
   refine s1 (y_p rfl) rfl <| s1 ((y_p rfl).v (v' := .i .i64 0) rfl) rfl ?_
   refine at_nil <| x_tn <| at_ret ?_
   refine at_result (rs := [.tmp 6, .tmp 7]) rfl (r_tmp rfl (r_tmp rfl r_nil)) ?_
   show A.tu _ = _
   exact (bits_yes hk).symm
theorem fhas_ok (x : List UInt8) (lv nb id : Int) (D : List UInt8) (hx : x.length = 32) : Con Tryd.prog 29 [.ag (x.map u8), .ag [.i .i64 lv, .i .i64 nb, slA D], .i .i64 id] (Ret (hasA x lv nb D id)) := by
 refine enter Tryd.func29 rfl Tryd.ntmps29 (by kernel_rfl) (Nat.le_of_ble_eq_true rfl) fun w0 X0 hI => ?_
 refine at_seq <| at_region ?_
 refine at_op rfl (n_boxA 3 rfl rfl rfl ?_)
 refine at_op rfl (n_boxA 4 rfl rfl rfl ?_)
 refine s1 (y_p rfl) rfl <| s1 ((y_p rfl).v (v' := .i .i64 0) rfl) rfl ?_
 refine at_nil <| x_tn <| at_seq ?_
 rcases tf (okB lv nb D id) with hcs | hcs
 ·skip
  refine at_region <| s1 (y_loadA0 ti23 rfl rfl (by first | rfl | omega | (simp <;> omega) | (simp [*] <;> omega))) rfl <| s1 (y_loadA0 ti50 rfl rfl (by first | rfl | omega | (simp <;> omega) | (simp [*] <;> omega))) rfl <| s1 (y_p rfl) rfl ?_
  refine at_op rfl (n_call false rfl (.cons (.pure pu) (.cons (.pure pu) (.cons (.pure pu) (.nil)))) (Con.cast (fbits_ok x _ _ _ D hx) (bits_no hcs)) pu (.inl rfl) rfl ?_)
  refine s1 (y_p rfl) rfl <| s1 (y_p rfl) rfl <| s1 (y_p rfl) rfl <| s1 (y_p rfl) rfl <| s1 (y_p rfl) rfl ?_
  refine at_nil <| x_tn <| at_seq <| at_seq <| at_region <| s1 (y_p rfl) rfl <| s1 ((y_p rfl).v (v' := .b true) (rfl)) rfl ?_
  refine at_nil <| x_tn ?_
  refine at_then rfl ?_
  refine at_seq <| at_region <| s1 (y_p rfl) rfl <| s1 (y_p rfl) rfl <| s1 (y_p rfl) rfl ?_
  refine at_nil <| x_tn <| at_ret <| x_tr ?_
  refine at_result (rs := [.tmp 6, .tmp 7]) rfl (r_tmp rfl (r_tmp rfl r_nil)) ?_
  show A.tu _ = _
  rw [has_no hcs]; rfl
 ·obtain ⟨l, n, j, rfl, rfl, rfl, h1, h2, h3, h4, h5, h6⟩ := ok_nat hcs
  refine at_region <| s1 (y_loadA0 ti23 rfl rfl (by first | rfl | omega | (simp <;> omega) | (simp [*] <;> omega))) rfl <| s1 (y_loadA0 ti50 rfl rfl (by first | rfl | omega | (simp <;> omega) | (simp [*] <;> omega))) rfl <| s1 (y_p rfl) rfl ?_
  refine at_op rfl (n_call false rfl (.cons (.pure pu) (.cons (.pure pu) (.cons (.pure pu) (.nil)))) (Con.cast (fbits_ok x _ _ _ D hx) (bits_yes hcs)) pu (.inl rfl) rfl ?_)
  refine s1 (y_p rfl) rfl <| s1 (y_p rfl) rfl <| s1 (y_p rfl) rfl <| s1 (y_p rfl) rfl <| s1 (y_p rfl) rfl ?_
  refine at_nil <| x_tn <| at_seq <| at_seq <| at_region <| s1 (y_p rfl) rfl <| s1 ((y_p rfl).v (v' := .b false) (rfl)) rfl ?_
  refine at_nil <| x_tn ?_
  refine at_else rfl ?_
  refine at_skip <| x_tn <| at_seq <| at_seq <| at_region <| s1 (y_p rfl) rfl <| s1 (y_len Tryd.underlying24 rfl rfl rfl) rfl <| s1 ((y_p rfl).v (v' := .i .i64 0) rfl) rfl ?_
  refine at_nil <| x_tn <| at_block ?_
  refine at_loop (ι := Nat) (fun i => [(4, .p 4 0), (21, .fz 2 ((bitL x l n j 2).map nJ)), (22, nJ 2), (23, nJ i)]) (fun i => ⟨[(4, some ([nJ l, nJ n, slA D]))]⟩) (fun i => i ≤ 2 ∧ ∀ t, t < i → bitA D (bN x l n j t) = true) (fun i => 2 - i) ?_ ?_
  ·exact at_ex (0) (⟨by omega, fun t ht => absurd ht (by omega)⟩) [(4, some 4)] hI rfl rfl ⟨⟨_, rfl, .p rfl⟩, ⟨_, rfl, .pure pu⟩, ⟨_, rfl, .pure pu⟩, ⟨_, rfl, .pure pu⟩, trivial⟩ ⟨.inr ⟨_, _, rfl, rfl, .pure pul⟩, trivial⟩
  rintro i ⟨hi, hall⟩
  have hbi : bN x l n j i < n := bN_lt (by omega) i
  refine at_seq <| at_region <| s1 (y_p rfl) rfl ?_
  refine at_nil <| x_tn <| at_seq ?_
  refine at_cond rfl (fun hc24 => ?_) (fun hc24 => ?_)
  ·have h24 : i < 2 := by have := of_decide_eq_true hc24; omega
   refine at_skip <| x_tn <| at_seq <| at_block <| at_seq <| at_region <| s1 (y_ixf i Tryd.underlying24 ti3 rfl rfl rfl (by omega) rfl) rfl <| s1 (y_load ti3 rfl rfl (bitL_get x l n j i h24)) rfl <| s1 (y_p rfl) rfl ?_
   refine at_nil <| x_tn <| at_seq <| at_region <| s1 (y_fld Tryd.underlying50 rfl ti40 (by decide) rfl rfl) rfl <| s1 (y_load ti40 rfl rfl rfl) rfl <| s1 (y_p rfl) rfl <| s1 (quoN _ 8 rfl rfl rfl rfl (by omega) (by omega)) rfl <| s1 (y_ixf (bN x l n j i / 8) Tryd.underlying40 ti5 rfl rfl rfl (by omega) rfl) rfl <| s1 (y_load ti5 rfl rfl (getD8 (by omega))) rfl <| s1 (y_p rfl) rfl <| s1 (remN _ 8 rfl rfl rfl rfl (by omega)) rfl <| s1 (shrB (D.getD (bN x l n j i / 8) 0) (bN x l n j i % 8) rfl rfl rfl (by omega)) rfl <| s1 (andB _ (1 : UInt8) rfl rfl) rfl ?_
   refine s1 ((y_p rfl).v (v' := .b (!bitA D (bN x l n j i))) (congrArg A.b (has_byte _ _))) rfl ?_
   refine at_nil <| x_tn ?_
   refine at_cond rfl (fun hc37 => ?_) (fun hc37 => ?_)
   ·have hb : bitA D (bN x l n j i) = false := by simpa using hc37
    refine at_seq <| at_region <| s1 (y_p rfl) rfl <| s1 ((y_p rfl).v (v' := .i .i64 0) rfl) rfl ?_
    refine at_nil <| x_tn <| at_ret <| x_br <| x_tr <| x_tr <| x_br <| x_tr ?_
    refine at_result (rs := [.tmp 6, .tmp 7]) rfl (r_tmp rfl (r_tmp rfl r_nil)) ?_
    show A.tu _ = _
    rw [has_yes hcs, hasD_no h24 hb]; rfl
   ·have hb : bitA D (bN x l n j i) = true := by simpa using hc37
    refine at_skip <| x_bn <| x_tn <| at_region <| s1 (addN _ 1 rfl rfl rfl rfl (by omega)) rfl <| s1 (y_p rfl) rfl ?_
    refine at_nil ?_
    exact at_end (i + 1) (⟨by omega, all_next hall hb⟩) (by omega) [(4, some 4)] hI rfl rfl ⟨⟨_, rfl, .p rfl⟩, ⟨_, rfl, .pure pu⟩, ⟨_, rfl, .pure pu⟩, ⟨_, rfl, .pure pu⟩, trivial⟩ ⟨.inr ⟨_, _, rfl, rfl, .pure pul⟩, trivial⟩
  ·have h24 : i = 2 := by have := of_decide_eq_false hc24; omega
   subst h24
   refine at_exit <| x_te <| x_te <| x_be <| x_tn <| at_seq <| at_region <| s1 (y_p rfl) rfl <| s1 ((y_p rfl).v (v' := .i .i64 0) rfl) rfl ?_
   refine at_nil <| x_tn <| at_ret ?_
   refine at_result (rs := [.tmp 6, .tmp 7]) rfl (r_tmp rfl (r_tmp rfl r_nil)) ?_
   show A.tu _ = _
   rw [has_yes hcs, hasD_yes hall]; rfl
theorem clone_ok (D : List UInt8) (h : 0 < D.length) (hD : D.length ≤ 1000000) : Con Tryd.prog 58 [slA D] (RetO 1 D.length (D.map u8)) := by
 refine enter Tryd.func58 rfl Tryd.ntmps58 (by kernel_rfl) (Nat.le_of_ble_eq_true rfl) fun w0 X0 hI => ?_
 refine at_seq <| at_region <| s1 (y_p rfl) rfl ?_
 refine at_nil <| x_tn <| at_seq <| at_seq <| at_region <| s1 (y_p rfl) rfl <| s1 (y_fznil Tryd.underlying40 rfl rfl h) rfl ?_
 refine at_nil <| x_tn ?_
 refine at_else rfl ?_
 refine at_skip <| x_tn <| at_seq <| at_region ?_
 refine at_op rfl (n_bs1 5 rfl Tryd.underlying40 ti5 rfl rfl rfl rfl rfl ?_)
 refine s1 (y_p rfl) rfl ?_
 refine at_op rfl (n_app 7 rfl Tryd.underlying40 ti5 rfl (.sl rfl (by first | rfl | omega | (simp <;> omega) | (simp [*] <;> omega))) rfl rfl (by first | rfl | omega | (simp <;> omega) | (simp [*] <;> omega)) (by first | omega | (simp only [maxLen]; omega) | (simp [maxLen]; done) | (simp [maxLen]; omega) | (simp [maxLen, *]; omega)) (by first | omega | (simp only [maxLen]; omega) | (simp [maxLen]; done) | (simp [maxLen]; omega) | (simp [maxLen, *]; omega)) rfl rfl rfl ?_)
 refine s1 (y_p rfl) rfl ?_
 refine at_nil <| x_tn <| at_ret ?_
 refine at_result (rs := [.tmp 2]) rfl (r_tmp rfl r_nil) ⟨7, congrArg (A.sl 7 1 0) (Nat.zero_add _), rfl⟩
theorem fadd_ok (x : List UInt8) (lv nb id : Int) (D : List UInt8) (hx : x.length = 32) : Con Tryd.prog 28 [.ag (x.map u8), .ag [.i .i64 lv, .i .i64 nb, slA D], .i .i64 id] (Ret (addA x lv nb D id)) := by
 refine enter Tryd.func28 rfl Tryd.ntmps28 (by kernel_rfl) (Nat.le_of_ble_eq_true rfl) fun w0 X0 hI => ?_
 refine at_seq <| at_region ?_
 refine at_op rfl (n_boxA 3 rfl rfl rfl ?_)
 refine at_op rfl (n_boxA 4 rfl rfl rfl ?_)
 refine at_op rfl (n_alloc 6 rfl ti50 rfl rfl ?_)
 refine s1 ((y_p rfl).v (v' := .i .i64 0) rfl) rfl ?_
 refine at_nil <| x_tn <| at_seq ?_
 rcases tf (okB lv nb D id) with hcs | hcs
 ·skip
  refine at_region <| s1 (y_loadA0 ti23 rfl rfl (by first | rfl | omega | (simp <;> omega) | (simp [*] <;> omega))) rfl <| s1 (y_loadA0 ti50 rfl rfl (by first | rfl | omega | (simp <;> omega) | (simp [*] <;> omega))) rfl <| s1 (y_p rfl) rfl ?_
  refine at_op rfl (n_call false rfl (.cons (.pure pu) (.cons (.pure pu) (.cons (.pure pu) (.nil)))) (Con.cast (fbits_ok x _ _ _ D hx) (bits_no hcs)) pu (.inl rfl) rfl ?_)
  refine s1 (y_p rfl) rfl <| s1 (y_p rfl) rfl <| s1 (y_p rfl) rfl <| s1 (y_p rfl) rfl <| s1 (y_p rfl) rfl ?_
  refine at_nil <| x_tn <| at_seq <| at_seq <| at_region <| s1 (y_p rfl) rfl <| s1 ((y_p rfl).v (v' := .b true) (rfl)) rfl ?_
  refine at_nil <| x_tn ?_
  refine at_then rfl ?_
  refine at_seq <| at_region <| s1 (y_loadA0 ti50 rfl rfl (by first | rfl | omega | (simp <;> omega) | (simp [*] <;> omega))) rfl <| s1 (y_p rfl) rfl ?_
  refine at_op rfl (n_storeA ti50 rfl rfl rfl (by first | rfl | omega | (simp <;> omega) | (simp [*] <;> omega)) (by first | rfl | omega | (simp <;> omega) | (simp [*] <;> omega)) ?_)
  refine s1 (y_p rfl) rfl ?_
  refine at_nil <| x_tn <| at_ret <| x_tr ?_
  refine at_wkO 6 rfl (.cons (.eq rfl) (.cons (.eq rfl) (.cons .nl .nil))) ?_
  refine at_result (rs := [.cell 6 50, .tmp 7]) rfl (r_cellA ti50 rfl rfl rfl rfl (r_tmp rfl r_nil)) ?_
  show A.tu _ = _
  rw [add_no hcs]; rfl
 ·obtain ⟨l, n, j, rfl, rfl, rfl, h1, h2, h3, h4, h5, h6⟩ := ok_nat hcs
  refine at_region <| s1 (y_loadA0 ti23 rfl rfl (by first | rfl | omega | (simp <;> omega) | (simp [*] <;> omega))) rfl <| s1 (y_loadA0 ti50 rfl rfl (by first | rfl | omega | (simp <;> omega) | (simp [*] <;> omega))) rfl <| s1 (y_p rfl) rfl ?_
  refine at_op rfl (n_call false rfl (.cons (.pure pu) (.cons (.pure pu) (.cons (.pure pu) (.nil)))) (Con.cast (fbits_ok x _ _ _ D hx) (bits_yes hcs)) pu (.inl rfl) rfl ?_)
  refine s1 (y_p rfl) rfl <| s1 (y_p rfl) rfl <| s1 (y_p rfl) rfl <| s1 (y_p rfl) rfl <| s1 (y_p rfl) rfl ?_
  refine at_nil <| x_tn <| at_seq <| at_seq <| at_region <| s1 (y_p rfl) rfl <| s1 ((y_p rfl).v (v' := .b false) (rfl)) rfl ?_
  refine at_nil <| x_tn ?_
  refine at_else rfl ?_
  refine at_skip <| x_tn <| at_seq <| at_region <| s1 (y_loadA0 ti50 rfl rfl (by first | rfl | omega | (simp <;> omega) | (simp [*] <;> omega))) rfl ?_
  refine at_op rfl (n_storeA ti50 rfl rfl rfl (by first | rfl | omega | (simp <;> omega) | (simp [*] <;> omega)) (by first | rfl | omega | (simp <;> omega) | (simp [*] <;> omega)) ?_)
  refine at_nil <| x_tn <| at_seq <| at_region <| s1 (y_fld Tryd.underlying50 rfl ti40 (by decide) rfl rfl) rfl <| s1 (y_load ti40 rfl rfl rfl) rfl ?_
  refine at_op rfl (n_callO 25 rfl false rfl (.cons (.pure pu) (.nil)) (clone_ok D (by omega) (by omega)) pul (.inl rfl) rfl ?_)
  refine s1 (y_fld Tryd.underlying50 rfl ti40 (by decide) rfl rfl) rfl ?_
  refine at_op rfl (n_store1 ti40 rfl rfl rfl rfl (by first | rfl | omega | (simp <;> omega) | (simp [*] <;> omega)) rfl ?_)
  refine at_nil <| x_tn <| at_seq <| at_seq <| at_region <| s1 (y_p rfl) rfl <| s1 (y_len Tryd.underlying24 rfl rfl rfl) rfl <| s1 ((y_p rfl).v (v' := .i .i64 0) rfl) rfl ?_
  refine at_nil <| x_tn <| at_block ?_
  refine at_loop (ι := Nat) (fun i => [(6, .p 6 0), (27, .fz 2 ((bitL x l n j 2).map nJ)), (28, nJ 2), (29, nJ i)]) (fun i => ⟨[(6, some ([nJ l, nJ n, .sl 25 1 0 D.length])), (25, some ((setsB x l n j D i).map u8))]⟩) (fun i => i ≤ 2) (fun i => 2 - i) ?_ ?_
  ·exact at_ex (0) (Nat.zero_le _) [(6, some 6), (25, some 25)] hI rfl rfl ⟨⟨_, rfl, .p rfl⟩, ⟨_, rfl, .pure pu⟩, ⟨_, rfl, .pure pu⟩, ⟨_, rfl, .pure pu⟩, trivial⟩ ⟨.inr ⟨_, _, rfl, rfl, .cons (.pure pu) (.cons (.pure pu) (.cons (.sl rfl rfl) .nil))⟩, .inr ⟨_, _, rfl, rfl, .of (by rfl) (.pure pul)⟩, trivial⟩
  rintro i hi
  have hbi : bN x l n j i < n := bN_lt (by omega) i
  have hsl := len_setsB x l n j D i
  refine at_seq <| at_region <| s1 (y_p rfl) rfl ?_
  refine at_nil <| x_tn <| at_seq ?_
  refine at_cond rfl (fun hc30 => ?_) (fun hc30 => ?_)
  ·have h30 : i < 2 := by have := of_decide_eq_true hc30; omega
   refine at_skip <| x_tn <| at_seq <| at_block <| at_seq <| at_region <| s1 (y_ixf i Tryd.underlying24 ti3 rfl rfl rfl (by omega) rfl) rfl <| s1 (y_load ti3 rfl rfl (bitL_get x l n j i h30)) rfl <| s1 (y_p rfl) rfl ?_
   refine at_nil <| x_tn ?_
   refine at_draw_tail 11 hmix (by kernel_rfl) ?_
   refine t1 (y_fld Tryd.underlying50 rfl ti40 (by decide) rfl rfl) rfl <| t1 (y_load ti40 rfl rfl rfl) rfl <| t1 (y_p rfl) rfl <| t1 (quoN _ 8 rfl rfl rfl rfl (by omega) (by omega)) rfl <| t1 (y_ixs (bN x l n j i / 8) Tryd.underlying40 ti5 rfl rfl rfl rfl (by omega) rfl) rfl <| t1 (y_load ti5 rfl rfl (getO8 (by omega))) rfl <| t1 (y_p rfl) rfl <| t1 (remN _ 8 rfl rfl rfl rfl (by omega)) rfl <| t1 (shl1B (bN x l n j i % 8) rfl rfl rfl (by omega)) rfl <| t1 (orB _ _ rfl rfl) rfl ?_
   refine t1 (y_ixs (bN x l n j i / 8) Tryd.underlying40 ti5 rfl rfl rfl rfl (by omega) rfl) rfl ?_
   refine at_snil ?_
   refine at_op rfl (n_store1 ti5 rfl rfl rfl rfl (by simp [hsl]; omega) (setD9 _ _) ?_)
   refine at_nil <| x_bn <| x_tn <| at_region <| s1 (addN _ 1 rfl rfl rfl rfl (by omega)) rfl <| s1 (y_p rfl) rfl ?_
   refine at_nil ?_
   exact at_end (i + 1) (by omega) (by omega) [(6, some 6), (25, some 25)] hI rfl rfl ⟨⟨_, rfl, .p rfl⟩, ⟨_, rfl, .pure pu⟩, ⟨_, rfl, .pure pu⟩, ⟨_, rfl, .pure pu⟩, trivial⟩ ⟨.inr ⟨_, _, rfl, rfl, .cons (.pure pu) (.cons (.pure pu) (.cons (.sl rfl rfl) .nil))⟩, .inr ⟨_, _, rfl, rfl, .of (by rfl) (.pure pul)⟩, trivial⟩
  ·have h30 : i = 2 := by have := of_decide_eq_false hc30; omega
   subst h30
   refine at_exit <| x_te <| x_te <| x_be <| x_tn <| at_seq <| at_region <| s1 (y_loadA0 ti50 rfl rfl (by first | rfl | omega | (simp <;> omega) | (simp [*] <;> omega))) rfl ?_
   refine at_op rfl (n_storeA ti50 rfl rfl rfl (by first | rfl | omega | (simp <;> omega) | (simp [*] <;> omega)) (by first | rfl | omega | (simp <;> omega) | (simp [*] <;> omega)) ?_)
   refine s1 ((y_p rfl).v (v' := .i .i64 0) rfl) rfl ?_
   refine at_nil <| x_tn <| at_ret ?_
   refine at_frzO 6 2 rfl rfl rfl rfl pul (view_eq (by simp) rfl) rfl ?_
   refine at_result (rs := [.cell 6 50, .tmp 7]) rfl (r_cellA ti50 rfl rfl rfl rfl (r_tmp rfl r_nil)) ?_
   show A.tu _ = _
   rw [add_yes hcs, filA, slA, len_setsB]; rfl
end Go.Abs.D2
-- F3E
namespace Go.Abs.D2
open Go Go.Eng Go.Abs Go.Proofs 
theorem rbit_ok (D : List UInt8) (k : Nat) (hk : k / 8 < D.length) (hD : D.length ≤ 1000000) : Con Tryd.prog 63 [slA D, nJ k] (Ret (.b (bitA D k))) := by
 refine enter Tryd.func63 rfl Tryd.ntmps63 (by kernel_rfl) (Nat.le_of_ble_eq_true rfl) fun w0 X0 hI => ?_
 refine at_seq <| at_region <| s1 (y_p rfl) rfl ?_
 refine at_nil <| x_tn <| at_seq <| at_region <| s1 (y_p rfl) rfl <| s1 (y_p rfl) rfl <| s1 (quoN k 8 rfl rfl rfl rfl (by omega) (by omega)) rfl <| s1 (y_ixf (k / 8) Tryd.underlying40 ti5 rfl rfl rfl hk rfl) rfl <| s1 (y_load ti5 rfl rfl (getD8 hk)) rfl <| s1 ((y_conv Tryd.underlying5 Tryd.underlying3 rfl).v (conv8J _)) rfl <| s1 (y_p rfl) rfl ?_
 refine at_nil <| x_tn <| at_seq <| at_seq <| at_region <| s1 ((y_p rfl).v (v' := .i .i64 0) rfl) rfl ?_
 refine at_nil <| x_tn <| at_block ?_
 refine at_loop (ι := Nat) (fun i => [(1, nJ k), (5, nJ ((D.getD (k / 8) 0).toNat / 2 ^ i)), (6, nJ i)]) (fun i => ⟨[]⟩) (fun i => i ≤ k % 8) (fun i => k % 8 - i) ?_ ?_
 ·exact at_ex (0) (Nat.zero_le _) [] hI rfl rfl ⟨⟨_, rfl, .pure pu⟩, ⟨_, rfl, .of (congrArg nJ (div_zero _)) (.pure pu)⟩, ⟨_, rfl, .pure pu⟩, trivial⟩ trivial
 rintro i hi
 have hb := (D.getD (k / 8) 0).toNat_lt
 have hb2 : (D.getD (k / 8) 0).toNat / 2 ^ i ≤ (D.getD (k / 8) 0).toNat := Nat.div_le_self _ _
 refine at_seq <| at_seq <| at_region <| s1 (y_p rfl) rfl <| s1 (y_p rfl) rfl <| s1 (remN k 8 rfl rfl rfl rfl (by omega)) rfl <| s1 (y_p rfl) rfl ?_
 refine at_nil <| x_tn ?_
 refine at_cond rfl (fun hc16 => ?_) (fun hc16 => ?_)
 ·have h16 : i < k % 8 := by have := of_decide_eq_true hc16; omega
  refine at_skip <| x_tn <| at_seq <| at_block <| at_region <| s1 (y_p rfl) rfl <| s1 (quoN _ 2 rfl rfl rfl rfl (by omega) (by omega)) rfl <| s1 (y_p rfl) rfl ?_
  refine at_nil <| x_bn <| x_tn <| at_region <| s1 (y_p rfl) rfl <| s1 (addN _ 1 rfl rfl rfl rfl (by omega)) rfl <| s1 (y_p rfl) rfl ?_
  refine at_nil ?_
  exact at_end (i + 1) (by omega) (by omega) [] hI rfl rfl ⟨⟨_, rfl, .pure pu⟩, ⟨_, rfl, .of (congrArg nJ (div_step _ i)) (.pure pu)⟩, ⟨_, rfl, .pure pu⟩, trivial⟩ trivial
 ·have h16 : i = k % 8 := by have := of_decide_eq_false hc16; omega
  subst h16
  refine at_exit <| x_te <| x_te <| x_be <| x_tn <| at_seq <| at_region <| s1 (y_p rfl) rfl <| s1 (remN _ 2 rfl rfl rfl rfl (by omega)) rfl <| s1 ((y_p rfl).v (v' := .b (bitA D k)) (congrArg A.b (ref_bit _ _))) rfl <| s1 (y_p rfl) rfl ?_
  refine at_nil <| x_tn <| at_ret ?_
  refine at_result (rs := [.tmp 4]) rfl (r_tmp rfl (r_nil)) rfl
theorem rchk_ok (lv nb : Int) (D : List UInt8) (hD : D.length ≤ 1000000) : Con Tryd.prog 41 [.ag [.i .i64 lv, .i .i64 nb, slA D]] (Ret (.i .i64 (errF (chkB lv nb D)))) := by
 refine enter Tryd.func41 rfl Tryd.ntmps41 (by kernel_rfl) (Nat.le_of_ble_eq_true rfl) fun w0 X0 hI => ?_
 refine at_seq <| at_region ?_
 refine at_op rfl (n_boxA 1 rfl rfl rfl ?_)
 refine s1 ((y_p rfl).v (v' := .i .i64 0) rfl) rfl ?_
 refine at_nil <| x_tn <| at_seq <| at_seq <| at_region <| s1 (y_fld Tryd.underlying50 rfl ti3 (by decide) rfl rfl) rfl <| s1 (y_load ti3 rfl rfl rfl) rfl <| s1 (y_p rfl) rfl <| s1 (y_p rfl) rfl ?_
 refine g_or 3 rfl rfl rfl rfl (fun hb7 => .step (y_fld Tryd.underlying50 rfl ti3 (by decide) rfl rfl) rfl rfl <| .step (y_load ti3 rfl rfl rfl) rfl rfl <| .step (y_p rfl) rfl rfl <| .done) rfl rfl ?_
 refine s1 (y_p rfl) rfl ?_
 refine g_or 3 rfl rfl rfl rfl (fun hb12 => .step (y_fld Tryd.underlying50 rfl ti3 (by decide) rfl rfl) rfl rfl <| .step (y_load ti3 rfl rfl rfl) rfl rfl <| .step (y_p rfl) rfl rfl <| .done) rfl rfl ?_
 refine s1 (y_p rfl) rfl ?_
 refine g_or 3 rfl rfl rfl rfl (fun hb17 => .step (y_fld Tryd.underlying50 rfl ti3 (by decide) rfl rfl) rfl rfl <| .step (y_load ti3 rfl rfl rfl) rfl rfl <| .step (y_p rfl) rfl rfl <| .done) rfl rfl ?_
 refine at_bc 21 rfl (fun hc21 => ?_) (fun hc21 => ?_)
 ·have hcs : ¬ sizedP lv nb := by intro h; unfold sizedP at h; simp at hc21; omega
  refine s1 (y_p rfl) rfl <| g0 rfl rfl rfl rfl <| g0 rfl rfl rfl rfl <| g0 rfl rfl rfl rfl <| g0 rfl rfl rfl rfl <| g0 rfl rfl rfl rfl <| g0 rfl rfl rfl rfl <| g0 rfl rfl rfl rfl <| g0 rfl rfl rfl rfl <| s1 (y_p rfl) rfl ?_
  refine at_nil <| x_tn ?_
  refine at_then rfl ?_
  refine at_seq <| at_region <| s1 ((y_p rfl).v (v' := .i .i64 330) rfl) rfl ?_
  refine at_nil <| x_tn <| at_ret <| x_tr ?_
  refine at_result (rs := [.tmp 2]) rfl (r_tmp rfl r_nil) ?_
  exact congrArg (A.i .i64) (by rw [chk_size hcs]; rfl)
 ·have hcs : sizedP lv nb := by simp at hc21; unfold sizedP; omega
  obtain ⟨l, n, rfl, rfl, h1, h2, h3⟩ := sized_nat hcs
  refine s1 (y_p rfl) rfl <| g1 rfl rfl (y_fld Tryd.underlying50 rfl ti40 (by decide) rfl rfl) rfl <| g1 rfl rfl (y_load ti40 rfl rfl rfl) rfl <| g1 rfl rfl (y_len Tryd.underlying40 rfl rfl rfl) rfl <| g1 rfl rfl (y_fld Tryd.underlying50 rfl ti3 (by decide) rfl rfl) rfl <| g1 rfl rfl (y_load ti3 rfl rfl rfl) rfl <| g1 rfl rfl (addN n 7 rfl rfl rfl rfl (by omega)) rfl <| g1 rfl rfl (quoN (n + 7) 8 rfl rfl rfl rfl (by omega) (by omega)) rfl <| g1 rfl rfl (y_p rfl) rfl <| s1 (y_p rfl) rfl ?_
  refine at_nil <| x_tn ?_
  refine at_cond rfl (fun hc31 => ?_) (fun hc31 => ?_)
  ·have hl : D.length ≠ (n + 7) / 8 := by intro h; rw [h] at hc31; simp at hc31
   refine at_seq <| at_region <| s1 ((y_p rfl).v (v' := .i .i64 330) rfl) rfl ?_
   refine at_nil <| x_tn <| at_ret <| x_tr ?_
   refine at_result (rs := [.tmp 2]) rfl (r_tmp rfl r_nil) ?_
   exact congrArg (A.i .i64) (by rw [chk_len hl]; rfl)
  ·have hl : D.length = (n + 7) / 8 := by simp at hc31; omega
   refine at_skip <| x_tn <| at_seq <| at_seq <| at_region <| s1 (y_fld Tryd.underlying50 rfl ti3 (by decide) rfl rfl) rfl <| s1 (y_load ti3 rfl rfl rfl) rfl <| s1 (y_p rfl) rfl ?_
   refine at_nil <| x_tn <| at_block ?_
   refine at_loop (ι := Nat) (fun k => [(1, .p 1 0), (3, nJ k)]) (fun k => ⟨[(1, some ([nJ l, nJ n, slA D]))]⟩) (fun k => (n ≤ k ∧ k ≤ 8 * D.length) ∧ ∀ t, n ≤ t → t < k → bitA D t = false) (fun k => 8 * D.length - k) ?_ ?_
   ·exact at_ex (n) (⟨⟨Nat.le_refl _, by omega⟩, fun t h1 h2 => absurd h1 (by omega)⟩) [(1, some 1)] hI rfl rfl ⟨⟨_, rfl, .p rfl⟩, ⟨_, rfl, .pure pu⟩, trivial⟩ ⟨.inr ⟨_, _, rfl, rfl, .pure pul⟩, trivial⟩
   rintro k ⟨⟨hk1, hk2⟩, hall⟩
   refine at_seq <| at_seq <| at_region <| s1 (y_p rfl) rfl <| s1 (y_fld Tryd.underlying50 rfl ti40 (by decide) rfl rfl) rfl <| s1 (y_load ti40 rfl rfl rfl) rfl <| s1 (y_len Tryd.underlying40 rfl rfl rfl) rfl <| s1 (mulN 8 _ rfl rfl rfl rfl (by omega)) rfl <| s1 (y_p rfl) rfl ?_
   refine at_nil <| x_tn ?_
   refine at_cond rfl (fun hc39 => ?_) (fun hc39 => ?_)
   ·have h39 : k < 8 * D.length := by have := of_decide_eq_true hc39; omega
    refine at_skip <| x_tn <| at_seq <| at_block <| at_seq <| at_region <| s1 (y_fld Tryd.underlying50 rfl ti40 (by decide) rfl rfl) rfl <| s1 (y_load ti40 rfl rfl rfl) rfl <| s1 (y_p rfl) rfl ?_
    refine at_op rfl (n_call false rfl (.cons (.pure pu) (.cons (.pure pu) (.nil))) (rbit_ok D k (by omega) hD) pu (.inl rfl) rfl ?_)
    refine at_nil <| x_tn ?_
    refine at_cond rfl (fun hc45 => ?_) (fun hc45 => ?_)
    ·skip
     refine at_seq <| at_region <| s1 ((y_p rfl).v (v' := .i .i64 330) rfl) rfl ?_
     refine at_nil <| x_tn <| at_ret <| x_br <| x_tr <| x_tr <| x_br <| x_tr ?_
     refine at_result (rs := [.tmp 2]) rfl (r_tmp rfl r_nil) ?_
     exact congrArg (A.i .i64) (by rw [chk_bad h1 h2 h3 hl hk1 h39 hc45]; rfl)
    ·skip
     refine at_skip <| x_bn <| x_tn <| at_region <| s1 (y_p rfl) rfl <| s1 (addN _ 1 rfl rfl rfl rfl (by omega)) rfl <| s1 (y_p rfl) rfl ?_
     refine at_nil ?_
     exact at_end (k + 1) (⟨⟨by omega, by omega⟩, tail_next hall hc45⟩) (by omega) [(1, some 1)] hI rfl rfl ⟨⟨_, rfl, .p rfl⟩, ⟨_, rfl, .pure pu⟩, trivial⟩ ⟨.inr ⟨_, _, rfl, rfl, .pure pul⟩, trivial⟩
   ·have h39 : k = 8 * D.length := by have := of_decide_eq_false hc39; omega
    subst h39
    refine at_exit <| x_te <| x_te <| x_be <| x_tn <| at_seq <| at_region <| s1 ((y_p rfl).v (v' := .i .i64 0) rfl) rfl ?_
    refine at_nil <| x_tn <| at_ret ?_
    refine at_result (rs := [.tmp 2]) rfl (r_tmp rfl r_nil) ?_
    exact congrArg (A.i .i64) (by rw [nat_chk h1 h2 h3 hl hall]; rfl)
end Go.Abs.D2
