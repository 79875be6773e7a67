/-
  append of so many zeros onto an own slice: room or not. Conditions: none; nothing of any program stands here.
-/
import Derived.Test.YtjnbpinnjbdnpaaAbsQ
import Derived.Lib.AppendZerosOnto
namespace Go.Abs
open Go Go.Eng
section
variable {P : Program} {w0 : Bw} {X0 : Xs} {n : Nat} {E : Ev} {st : St} {K : Act → World → Prop} {Q : Exit → Act → World → Prop}
theorem zeroCells_oneR (z : Value) (k : Nat) : (Builtin.zeroCells #[z] k).toList = List.replicate k z := by
  apply List.ext_getElem
  · simp [Builtin.zeroCells]
  · intro i h1 h2
    simp [Builtin.zeroCells, Nat.mod_one]
theorem run_app_roomZ (w : World) (t tn ty e e' : TypeId) (i : TypeInfo) (z : Value) (kq kn : IntKind) (ht : P.underlying t = some (.slice e)) (htn : P.underlying tn = some (.int kn)) (hi : P.info? e = some i) (hz : i.zero = some z) (g m c : Nat) (cur : List Value) (hg : w.heap[g]? = some (row e' cur))
    (k : Nat) (h0 : 0 < k) (hs : 0 < i.size) (h1 : ∀ u ∈ (Builtin.zeroCells z.cells k).toList, u.oneCell' = true) (h48 : k * i.bytes ≤ 281474976710656) (hk63 : (k : Int) ≤ 9223372036854775807)
    (hroom : m + k ≤ c) (hfit : m * i.size + (Builtin.zeroCells z.cells k).toList.length ≤ cur.length) :
    (Builtin.append_ #[t, tn] ty #[.slice (some ⟨g, 0, none⟩) m c, .int kq k]).run P w =
      .ok (.slice (some ⟨g, 0, none⟩) (m + k) c) (w.setRow g (cur.take (m * i.size) ++ (Builtin.zeroCells z.cells k).toList ++ cur.drop (m * i.size + (Builtin.zeroCells z.cells k).toList.length)).toArray) := by
  have hst := run_storeCells_at P g (m * i.size) e' (Builtin.zeroCells z.cells k).toList 0 cur.toArray w hg (by simpa using hfit) h1
  simp only [Nat.add_zero] at hst
  have hw : IntKind.i64.wrap (k : Int) = k := by rw [IntKind.wrap_i64]; omega
  have hneg : ¬ ((k : Int) < 0) := by omega
  have hns : ¬ (k * i.size = 0) := Nat.mul_ne_zero (by omega) (by omega)
  have h48i : ¬ (281474976710656 < (k : Int) * (i.bytes : Int)) := by
    rw [← Int.natCast_mul]
    omega
  simp [Builtin.append_, run_underlying ht, run_underlying htn, sizeOf, typeInfo, zeroValue, hi, hz, asInt, asIntOf, hw, hneg, hns, h48i, hroom, Addr.add_lit, hst]

/-- append of so many zeros. -/
theorem n_appz {d : Nat} (nx : Nat) (hf : st.free nx = true) {t tn e : TypeId} {by' : Nat} {zc : Value} {agg : Bool} {kq kn : IntKind} {x y : Operand} {id m k : Nat} {cs cs' : List A} {iv : Int} {ty : TypeId} {pos aft g} (ht : P.underlying t = some (.slice e)) (htn : P.underlying tn = some (.int kn)) (he : TI P e 1 by' [zc] agg) (hzc : zc.oneCell' = true)
    (hx : ev E x = some (.sl id 1 0 m)) (hg : st.get id = some cs) (hl : cs.length = m) (hm0 : 0 < m) (hy : ev E y = some (.i kq iv)) (hiv : iv = (k : Int)) (h0 : 0 < k) (hb63 : m + k ≤ maxLen) (hby : (m + k) * by' ≤ 140737488355328) (hcs : cs ++ List.replicate k (evC zc) = cs') (hd : Nat.ble (d + 1) n = true)
    (h : At w0 X0 n ((d, .sl nx 1 0 (m + k)) :: E) ((st.del id).put nx cs') K) :
    At w0 X0 n E st (fun a w => (⟨some d, .call { callee := .builtin .append, args := #[x, y], argTypes := #[t, tn] }, ty, pos, aft, g⟩ : Oper).wp P a w K Q) := by
  rintro A0 w ⟨β, X, hr⟩
  subst hcs
  subst hiv
  have hnx := hr.mem.dom nx hf
  obtain ⟨e1, e2⟩ := hr.evo hx
  obtain ⟨e3, e4⟩ := hr.evo hy
  rw [V_i] at e4
  rw [e4] at e3
  obtain ⟨⟨i, z, i1, i2, i3, i4, i5⟩, hu⟩ := he
  have hz1 : z.cells = #[zc] := by apply Array.ext'; simpa using i5
  have hzl : (Builtin.zeroCells z.cells k).toList = List.replicate k zc := by rw [hz1, zeroCells_oneR]
  have hexec : ∀ vv v w', A0.eval x = vv → (Builtin.append_ #[t, tn] ty #[vv, .int kq k]).run P w = .ok v w' →
      (execOp A0.eval ⟨some d, .call { callee := .builtin .append, args := #[x, y], argTypes := #[t, tn] }, ty, pos, aft, g⟩).run P w = .ok (.value v) w' := by
    intro vv v w' hv hrun
    have h1 : execOp A0.eval ⟨some d, .call { callee := .builtin .append, args := #[x, y], argTypes := #[t, tn] }, ty, pos, aft, g⟩ = (do pure (.value (← Builtin.append_ #[t, tn] ty #[vv, .int kq k])) : Sem Next) := by
      simp only [execOp, resolve, List.map_toArray, List.map_cons, List.map_nil, hv, e4, pure_bind, invoke, builtin]
    rw [h1, Sem.run_bind, hrun]
    rfl
  have done : ∀ (vv u : Value) (w1 : World) (bl : BL), A0.eval x = vv → (Builtin.append_ #[t, tn] ty #[vv, .int kq k]).run P w = .ok u w1 → ExtX X X w w1 → Mem w0 (upd β nx bl) X ((st.del id).put nx (cs ++ List.replicate k (evC zc))) w1 → V X w1 (upd β nx bl) (.sl nx 1 0 (m + k)) u →
      (⟨some d, .call { callee := .builtin .append, args := #[x, y], argTypes := #[t, tn] }, ty, pos, aft, g⟩ : Oper).wp P A0 w K Q := by
    intro vv u w1 bl hvv hrun hx1 hm1 hv1
    unfold Oper.wp
    rw [hexec vv u w1 hvv hrun]
    refine h _ _ ⟨_, X, hr.next (d := d) (u := u) (v := .sl nx 1 0 (m + k)) ?_ hx1 (fun _ _ h => .inl h) (upd_ext hnx) hm1 hv1⟩
    exact (full_rep A0 hr.defers).put (by rw [hr.size]; exact hd) u
  have hsmall : m + k ≤ 9223372036854775807 := by simp only [maxLen] at hb63; omega
  have hkb : k * by' ≤ 140737488355328 := Nat.le_trans (Nat.mul_le_mul_right by' (show k ≤ m + k by omega)) hby
  have hzo : ∀ q ∈ List.replicate k zc, q.oneCell' = true := fun q hq => by rw [List.eq_of_mem_replicate hq]; exact hzc
  have hne : id ≠ nx := fun e => by subst e; have := look_fresh hf; unfold St.get at hg; rw [this] at hg; cases hg
  have hfn : (st.del id).free nx = true := by rw [St.free_del, if_neg hne]; exact hf
  have hfd : ∀ q, (st.del id).free q = true → st.free q = true := fun q h => by rw [St.free_del] at h; split at h; cases h; exact h
  have hdel : ∀ q c, (st.del id).get q = some c → st.get q = some c := fun q c hq => by rw [St.get_del] at hq; split at hq; cases hq; exact hq
  simp only [V] at e2
  rcases e2 with ⟨_, rfl, _, _⟩ | ⟨b, N, cap, hβ, e2, c1, c2, c3⟩
  · omega
  · have ho := hr.mem.obj id cs hg
    unfold OB at ho
    rw [hβ] at ho
    obtain ⟨p1, p2, us, rest, ety, p3, p4, p5, p6⟩ := ho
    have hul := VS_len p5
    have hvz : ∀ {w' : World} {β' : Bm}, VS X w' β' (List.replicate k (evC zc)) (List.replicate k zc) := by
      intro w' β'
      have := VS_evC (X := X) (w := w') (β := β') (List.replicate k zc)
      simpa using this
    by_cases hroom : m + k ≤ cap
    · have hrun := run_app_roomZ (P := P) w t tn ty e ety i z kq kn ht htn i1 i2 b m cap (us ++ rest) p3 k h0 (by omega) (by rw [hzl]; exact hzo) (by rw [i4]; omega) (by omega) hroom (by rw [hzl, i3, List.length_replicate, List.length_append]; omega)
      have htk : (us ++ rest).take (m * i.size) = us := by rw [i3, Nat.mul_one, ← hl, ← hul]; exact List.take_left
      rw [htk, hzl] at hrun
      have hG := Eng.Good.setRow (gd_one p3) 0 (cs := us ++ rest) rfl (us ++ List.replicate k zc ++ (us ++ rest).drop (m * i.size + (List.replicate k zc).length))
      simp only [List.set_cons_zero] at hG
      obtain ⟨hm1, hx1⟩ := hr.mem.write (cs' := cs ++ List.replicate k (evC zc)) hg hβ hG (by simp only [List.length_append, List.length_drop, i3, hul, hl, List.length_replicate, Nat.mul_one] at p4 ⊢; omega) (VS_app p5 hvz) (by intro q hq; rcases List.mem_append.1 hq with hq | hq; exact p6 q hq; exact hzo q hq)
      have hm2 := hm1.move nx (by rw [St.free_put, if_neg hne]; exact hf) (id := id) (cs := cs ++ List.replicate k (evC zc)) (by rw [St.get_put, if_pos rfl]) hβ
      have hm3 : Mem w0 (upd β nx (.bk b N)) X ((st.del id).put nx (cs ++ List.replicate k (evC zc))) _ := hm2.drop (fun q hq => by
        simp only [St.free_put, St.free_del] at hq ⊢
        split at hq
        · cases hq
        · rename_i e1
          rw [if_neg e1]
          split at hq
          · cases hq
          · rename_i e2; rw [if_neg e2, if_neg e2]; exact hq) fun q c hq => by
        simp only [St.get_put, St.get_del] at hq ⊢
        split at hq
        · rename_i e1; rw [if_pos e1]; exact hq
        · rename_i e1
          rw [if_neg e1]
          split at hq
          · cases hq
          · rename_i e2; rw [if_neg e2, if_neg e2]; exact hq
      exact done _ _ _ (.bk b N) e2 hrun hx1 hm3 (by simp only [V]; exact .inr ⟨b, N, cap, upd_at, rfl, hroom, c2, c3⟩)
    · have hold : (Builtin.firstCells i.size m (.slice (some ⟨b, 0, none⟩) m cap)).run P w.drew = .ok us.toArray w.drew := by
        refine run_firstCells_some (P := P) w.drew i.size m ⟨b, 0, none⟩ m cap us (by rw [i3, Nat.mul_one, hul, hl]) ?_
        intro j u hj
        rw [World.cell?_drew, addr_add, Nat.zero_add]
        have hlt := (List.getElem?_eq_some_iff.1 hj).1
        simp only [World.cell?, p3]
        simp [List.getElem?_append_left hlt, hj]
      have hrun := Lib.run_append_grow_zeros (P := P) w t tn ty e i z kq kn ht htn i1 i2 (some ⟨b, 0, none⟩) m cap us hold k h0 (by omega) (by omega) (by omega) (by rw [i4]; omega)
        (by rw [i4]; exact growslice_fits (by omega) hby)
      have hc1 := grownCap_ge w (m + k) cap e
      have hc2 := grownCap_le_maxLen w (m + k) cap e hb63
      generalize hcap : grownCap w (m + k) cap e = gc at hrun hc1 hc2
      have hbel : RowKit.Below w.heap.size w (w.drew.alloc (.cells (us.toArray ++ Builtin.zeroCells z.cells k ++ Builtin.zeroCells z.cells (gc - (m + k))) e)) :=
        ⟨rfl, rfl, rfl, by simp, fun q hq => push_old w.drew _ q hq⟩
      have hx1 := ExtX.of_below hr.mem.xlt hbel
      have hm1 := hr.mem.drop (st' := st.del id) hfd hdel
      have hnx1 := hm1.dom nx hfn
      have hzl2 : (Builtin.zeroCells z.cells (gc - (m + k))).toList = List.replicate (gc - (m + k)) zc := by rw [hz1, zeroCells_oneR]
      have hm2 := hm1.push nx hfn (cs := cs ++ List.replicate k (evC zc)) (us := us ++ List.replicate k zc) (rest := List.replicate (gc - (m + k)) zc) (ty := e) (b := w.heap.size) (N := gc) hbel (Nat.le_refl _)
        (by refine (heap_alloc_new w.drew _).trans ?_
            simp only [row, Option.some.injEq, Obj.cells.injEq, and_true]
            apply Array.ext'
            simp [hzl, hzl2]) (by rw [List.length_append, List.length_replicate, hul, hl, List.length_replicate]; omega)
        (VS_app (VS_mono hx1 _ _ _ _ (upd_ext hnx1) p5) hvz) (by intro q hq; rcases List.mem_append.1 hq with hq | hq; exact p6 q hq; exact hzo q hq)
      exact done _ _ _ (.bk w.heap.size gc) e2 hrun hx1 hm2 (by simp only [V]; exact .inr ⟨_, _, gc, upd_at, rfl, hc1, hc2, by omega⟩)
end
end Go.Abs
