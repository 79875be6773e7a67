/-
  The engine, the plain laws and the walks that the rows need, part 16. Conditions: none.
-/
import Derived.Test.YtjlkadndgajleaaGreatDoorM15
import Derived.Lib.SlKeysI
set_option linter.unusedVariables false
set_option linter.unusedSimpArgs false
set_option maxHeartbeats 1000000
set_option maxRecDepth 10000
-- Abs4
namespace Go.Abs
open Go Go.Eng
theorem Cy {X:Xs} {w:World} {β:Bm}:∀l:List Int,VS X w β (l.map (A.i .i64)) (l.map Go.encZ)
  | []=>fF
  |_::l=>eE (by simp only [V]) (Cy l)
theorem Ls {P : Program} {f : FuncId} {args : List A} {s0 : St} {L : List Int} {e : TypeId} (nid : Nat) (hnew : s0.free nid = true) {upds : List (Nat × List A)} (hu : ∀ p ∈ upds, s0.get p.1 = some p.2)
    (h:∀w X β us (hd:∀id,s0.free id=true→β id=none),(∀b o,X b o→b<w.heap.size)→(∀id cs,s0.get id=some cs→OB β X w (bw w β s0 hd) id cs)→VS X w β args us→
      mX P f∧Calls P f us.toArray w fun e' w'=>∃v,e'= .returned v∧w'.ownsRow w.heap.size e 1 v L.length (L.map Go.encZ)∧RowKit.Below w.heap.size w w'):dG P f args s0 (jA 1 L.length (L.map (A.i .i64)) upds):=by
  intro w X β us hd hX hgl ho hi hv
  obtain⟨c,k⟩:=h w X β us hd hX ho hv
  refine⟨c,k.mono fun e' w' ⟨v,hv',hrow,hb⟩=>⟨v,hv',?_⟩⟩
  have hxe:dM X X w w':=fun b o h=>⟨h,World.cell?_of_block (w:=w) (hb.block b (hX b o h))⟩
  have hnx:=hd nid hnew
  have hob:∀(y:BL) id cs,s0.get id=some cs→OB (dI β nid y) X w' (bw w β s0 hd) id cs:=fun y id cs hg=>by
    refine(ho id cs hg).later hxe (dX hnx) (fun q M hq=>?_) fun q hq=>?_
    · have h1 := (ho id cs hg).nq hq rfl
      exact⟨hb.block q h1.1,h1.2.2⟩
    · have h1 := (ho id cs hg).gm hq
      exact⟨hb.block q ((ho id cs hg).qA hq),h1.2.2.1⟩
  have hne:∀id cs,s0.get id=some cs→nid≠id:=fun id cs hg e=>by subst e;rw [qp hg]at hnew;cases hnew
  have hup:∀cells,∀p∈upds,(s0.put nid cells).get p.1=some p.2∧p.1≠nid:=fun cells p hp=>by
    have h1:=hne p.1 p.2 (hu p hp)
    exact⟨by rw [St.dV,if_neg h1];exact hu p hp,fun e=>h1 e.symm⟩
  have main:∀(y:BL) (cells:List A),OB (dI β nid y) X w' (bw w β s0 hd) nid cells→(∀b N,y= .bk b N→w.heap.size≤b)→Mem (bw w β s0 hd) (dI β nid y) X (s0.put nid cells) w':=fun y cells hy hfr=>by
    refine .of ⟨hb.os,hb.tape,hb.output,hb.size,fun k hk _=>hb.block k hk,fun s hs=>by cases hs⟩ (dX hnx) (fun q o h=>Nat.lt_of_lt_of_le (hX q o h) hb.size) (fun id hf=>?_) (fun id cs hg=>?_) (fun i j ci cj b M N hij hgi hgj hbi hbj=>?_)
    · rw [St.gv] at hf
      split at hf
      · cases hf
      · rename_i hn
        rw [dL (fun e=>hn e.symm)]
        exact hd id hf
    · rw [St.dV] at hg
      split at hg
      · rename_i e1; subst e1
        simp only [Option.some.injEq]at hg
        subst hg
        exact hy
      · exact hob y id cs hg
    · rw [St.dV] at hgi hgj
      have hlt:∀id cs b N,s0.get id=some cs→β id=some (.bk b N)→b<w.heap.size:=fun id cs b N hg hβ=>((ho id cs hg).nq hβ rfl).1
      by_cases ei:nid=i
      · by_cases ej : nid = j
        · omega
        · rw [if_neg ej] at hgj
          rw [←ei,cW]at hbi
          rw [dL (fun e=>ej e.symm)]at hbj
          simp only [Option.some.injEq]at hbi
          have:=hfr b M hbi
          have:=hlt j cj b N hgj hbj
          omega
      · rw [if_neg ei] at hgi
        rw [dL (fun e=>ei e.symm)]at hbi
        by_cases ej:nid=j
        · rw [← ej, cW] at hbj
          simp only [Option.some.injEq]at hbj
          have:=hfr b N hbj
          have:=hlt i ci b M hgi hbi
          omega
        · rw [if_neg ej] at hgj
          rw [dL (fun e=>ej e.symm)]at hbj
          exact hi i j ci cj b M N hij hgi hgj hbi hbj
  rcases hrow.2 with ⟨rfl,hz⟩|⟨g,cap,cur,rfl,hbase,hg,r1,r2,r3,r4⟩
  · have hL : L = [] := List.eq_nil_of_length_eq_zero hz
    subst hL
    refine⟨.sl nid 1 0 0,_,X,s0.put nid [],⟨nid,rfl,by rw [St.dV,if_pos rfl];rfl,hup []⟩,fun _ _ h=>h,fun _ _ h=> .inl h,main .ph [] (by unfold OB;rw [cW]) (fun b N h=>by cases h),?_⟩
    simp only [V]
    refine .inl ⟨cW,?_⟩
    simp
  · refine ⟨.sl nid 1 0 L.length, _, X, s0.put nid (L.map (A.i .i64)), ⟨nid, rfl, by rw [St.dV, if_pos rfl], hup _⟩, fun _ _ h => h, fun _ _ h => .inl h, main (.bk g cap) _ ?_ (fun b N h => by cases h; exact hbase), ?_⟩
    · unfold OB
      rw [cW]
      refine⟨.inl hbase,fun o h=>by have:=hX g o h;omega,L.map Go.encZ,cur.toList.drop L.length,e,?_,?_,gB (fun b o h=>⟨h,rfl⟩) _ _ _ _ (fun id y h=>h) (Cy L),fun x hx=>by obtain⟨a,_,rfl⟩:=List.mem_map.1 hx;rfl⟩
      · rw [hg]
        have:L.map Go.encZ++cur.toList.drop L.length=cur.toList:=by rw [←r4,Nat.mul_one,List.take_append_drop]
        rw [this]
      · have hcl : cur.toList.length = cur.size := Array.length_toList
        rw [List.length_map,List.length_drop];omega
    · simp only [V]
      exact .inr ⟨g,cap,cap,cW,rfl,r1,r2,by omega⟩
end Go.Abs
-- E5T
namespace Go.Abs.D2
open Go Go.Eng Go.Abs Go.Proofs
theorem NY (σ:Int→Int):(fA σ).mergeSort (fun x y=>decide (x≤y))=fA σ:=by
  refine List.mergeSort_of_pairwise ?_
  refine List.Pairwise.filter _ ?_
  rw [List.pairwise_map]
  exact List.pairwise_lt_range.imp fun h=>by simp;omega
theorem FQ (σ:Int→Int):(fA σ).length≤1024:=by
  have:=List.length_filter_le (fun n=>σ n !=0) ((List.range 1024).map fun k:Nat=>(k:Int))
  simpa [fA]using this
theorem OL {es:Array MapEntry} {clk:Nat} {f:Int→Option Value} (h:fm es clk f) {L:List Int} (hn:L.Nodup) (hL:∀k,(f k).isSome=true↔k∈L):(es.toList.map jt).Perm L:=by
  have hk:∀x∈es.toList,x.key= .int .i64 (jt x)∧f (jt x)=some x.val:=fun x hx=>by
    obtain⟨k,e1,e2⟩:=h.ent x hx
    have:jt x=k:=by unfold jt;rw [e1]
    rw [this];exact⟨e1,e2⟩
  have hnd:(es.toList.map jt).Nodup:=by
    have h3:=h.st.2.2
    rw [List.nodup_iff_pairwise_ne]at h3 ⊢
    rw [List.pairwise_map]at h3 ⊢
    refine h3.imp_of_mem fun {a b} ha hb hne e=>hne ?_
    rw [(hk a ha).1,(hk b hb).1,e]
  exact(List.perm_ext_iff_of_nodup hnd hn).2 fun k=>by
    rw [←hL k,List.mem_map]
    constructor
    · rintro ⟨x, hx, rfl⟩
      rw [(hk x hx).2];rfl
    · intro hs
      obtain⟨v,hv⟩:=Option.isSome_iff_exists.1 hs
      obtain⟨x,hx,e⟩:=h.has k v hv
      exact⟨x,hx,by unfold jt;rw [e]⟩
theorem PY {H:Type} {P:Program} {k:TypeId} (hk:P.underlying k=some (.int .i64)) {σ:Int→Int} (hs:jB σ) {w:World} {b:Nat} {es:Array MapEntry} {clk:Nat} (hb:w.heap[b]? =some (.map es clk)) (hF:fm es clk (mapOf σ)):
    ∃D0:DataW H,w.ownsMap P k (fun _=>some (.nil, [])) b 1024 D0∧(intKeys D0).Perm (fA σ)∧Maps.size D0≤1024:=by
  have hsz:=hF.size (AL σ) (wK hs)
  have hkl:=FQ σ
  have hrd:∀x∈es.toList,Go.WideElems.rd (H:=H) P k (fun _=>some (.nil, [])) x=some (.int .i64 (jt x),.nil):=fun x hx=>by
    obtain⟨q,e1,e2⟩:=hF.ent x hx
    have hq:jt x=q:=by unfold jt;rw [e1]
    have h0:σ q≠0:=by
      unfold mapOf at e2
      split at e2
      · cases e2
      · assumption
    obtain⟨h1,h2⟩:=hs q h0
    have hw:(Lit.int .i64 q).wf=true:=by
      have hmin:IntKind.i64.min= -9223372036854775808:=by decide
      simp only [Lit.wf,decide_eq_true_eq,Bool.and_eq_true]
      simp
      exact⟨by rw [hmin];omega,by omega⟩
    rw [hq]
    show(keyOf P k x.key).bind _=_
    rw [e1,Go.Maps.keyOf_int_mk hk hw]
    rfl
  refine⟨_,⟨es,clk,hb,⟨by rw [hsz];exact Nat.le_trans hkl az,hF.st,fun x hx=>⟨_,hrd x hx⟩⟩,by rw [hsz];exact hkl,rfl⟩,?_,?_⟩
  · show ((es.toList.map (Go.WideElems.rg P k (fun _ => some (.nil, [])))).foldr DataW.insert [] |>.map fun p => intOf p.1).Perm _
    refine((Go.WideShapes.sorted_perm _).map _).trans ?_
    rw [List.map_map]
    have:es.toList.map ((fun p:Lit×DataW H=>intOf p.1) ∘ Go.WideElems.rg P k (fun _=>some (.nil, [])))=es.toList.map jt:=List.map_congr_left fun x hx=>by
      show intOf (Go.WideElems.rg P k (fun _=>some (.nil, [])) x).1=_
      rw [Go.WideElems.rg_of (hrd x hx)];rfl
    rw [this]
    exact OL hF (AL σ) (wK hs)
  · show ((es.toList.map (Go.WideElems.rg P k (fun _ => some (.nil, [])))).foldr DataW.insert []).length ≤ 1024
    rw [(Go.WideShapes.sorted_perm _).length_eq,List.length_map,Array.length_toList,hsz]
    exact hkl
end Go.Abs.D2
