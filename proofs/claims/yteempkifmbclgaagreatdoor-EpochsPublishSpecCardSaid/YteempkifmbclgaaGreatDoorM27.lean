/-
  The engine, the plain laws and the walks that the rows need, part 27. Conditions: none.
-/
import Derived.Test.YteempkifmbclgaaGreatDoorM26
import Derived.Lib.SlKeysI
set_option linter.unusedVariables false
set_option linter.unusedSimpArgs false
set_option maxHeartbeats 1000000
set_option maxRecDepth 10000
-- Abs4
namespace Go.Abs
open Go Go.Eng
section
variable {P:Program} {E:Ev} {st:St}
theorem QX {t t' e ty:TypeId} {x y:Operand} {f0 f1:Field} {a b c d:Int} (ht:P.underlying t=some (.struct #[f0,f1])) (h0:f0.type=e) (h1:f1.type=e) (o0:f0.offset=0) (o1:f1.offset=1) (n0:f0.name≠ "_") (n1:f1.name≠ "_") (he:P.underlying e=some (.int .i64))
    (hp:P.stoodInHeld t=false) (hm:P.eqGuardType P.depth t=false) (hx:ev E x=some (.ag [.i .i64 a,.i .i64 b])) (hy:ev E y=some (.ag [.i .i64 c,.i .i64 d])):YO P E st (.binOp .neq t x y t') ty (.b (!(a==c&&b==d))):=by
  intro w0 X0 n β X ac w hr
  obtain⟨_,h2⟩:=hr.c9 hx
  obtain⟨_,h4⟩:=hr.c9 hy
  simp only [V]at h2 h4
  obtain⟨us,e1,e2,_⟩:=h2
  obtain⟨vs,e3,e4,_⟩:=h4
  simp only [VS,V]at e2 e4
  obtain⟨u1,r1,rfl,rfl,u2,r2,rfl,rfl,rfl⟩:=e2
  obtain⟨v1,s1,rfl,rfl,v2,s2,rfl,rfl,rfl⟩:=e4
  refine⟨.bool (!(a==c&&b==d)),by simp only [V],fun dd pos b6 g w' _=>?_⟩
  have hf:P.fieldsOf t= #[f0,f1]:=by simp [Program.fieldsOf,ht]
  have p0:=sq (P:=P) (w:=w') he (l:= [.int .i64 a,.int .i64 b]) (i:=0) (v:= .int .i64 a) rfl
  have p1:=sq (P:=P) (w:=w') he (l:= [.int .i64 a,.int .i64 b]) (i:=1) (v:= .int .i64 b) rfl
  have q0:=sq (P:=P) (w:=w') he (l:= [.int .i64 c,.int .i64 d]) (i:=0) (v:= .int .i64 c) rfl
  have q1:=sq (P:=P) (w:=w') he (l:= [.int .i64 c,.int .i64 d]) (i:=1) (v:= .int .i64 d) rfl
  have hr':(Op.eqFields 9999 #[.int .i64 a,.int .i64 b] #[.int .i64 c,.int .i64 d] [f0,f1]).run P w'= .ok (a==c&&b==d) w':=by
    simp only [Op.eqFields,h0,h1,o0,o1,n0,n1,ne_eq,not_false_eq_true,if_true,Sem.run_bind]
    rw [p0]
    simp only [Result.andThen_ok]
    rw [q0]
    simp only [Result.andThen_ok]
    rw [run_equalIn_int w' 9998 e .i64 .i64 a c he]
    simp only [Result.andThen_ok]
    cases hac:a==c with
    |false=>simp
    | true =>
      simp only [Bool.not_true,Bool.false_eq_true,if_false,Sem.run_bind,Bool.true_and]
      rw [p1]
      simp only [Result.andThen_ok]
      rw [q1]
      simp only [Result.andThen_ok]
      rw [run_equalIn_int w' 9998 e .i64 .i64 b d he]
      simp only [Result.andThen_ok]
      cases b==d<;>simp
  simp only [execOp,e1,e3]
  rw [Sem.run_bind,Sem.run_bind,run_eqGuard_agg (P:=P) w' .neq t x y _ _ hm]
  simp only [Result.andThen_ok]
  rw [run_neq_struct,run_equalIn_struct w' 9999 t _ _ (by rw [hf];exact ht) hp,hf]
  have:(#[f0,f1]:Array Field).toList= [f0,f1]:=rfl
  rw [this,hr']
  rfl
end
theorem BJ {X:Xs} {w:World} {β:Bm}:∀l:List Int,VS X w β (l.map (A.i .i64)) (l.map Go.encZ)
  | []=>fM
  |_::l=>eV (by simp only [V]) (BJ l)
theorem JV {P : Program} {f : FuncId} {args : List A} {s0 : St} {L : List Int} {e : TypeId} (nid : Nat) (hnew : s0.free nid = true) {upds : List (Nat × List A)} (hu : ∀ p ∈ upds, s0.get p.1 = some p.2)
    (h:∀w X β us (hd:∀id,s0.free id=true→β id=none),(∀b o,X b o→b<w.heap.size)→(∀id cs,s0.get id=some cs→OB β X w (bw w β s0 hd) id cs)→VS X w β args us→
      mF P f∧Calls P f us.toArray w fun e' w'=>∃v,e'= .returned v∧w'.ownsRow w.heap.size e 1 v L.length (L.map Go.encZ)∧RowKit.Below w.heap.size w w'):eQ P f args s0 (jx 1 L.length (L.map (A.i .i64)) upds):=by
  intro w X β us hd hX hgl ho hi hv
  obtain⟨c,k⟩:=h w X β us hd hX ho hv
  refine⟨c,k.mono fun e' w' ⟨v,hv',hrow,hb⟩=>⟨v,hv',?_⟩⟩
  have hxe:dW X X w w':=fun b o h=>⟨h,World.cell?_of_block (w:=w) (hb.block b (hX b o h))⟩
  have hnx:=hd nid hnew
  have hob:∀(y:BL) id cs,s0.get id=some cs→OB (dS β nid y) X w' (bw w β s0 hd) id cs:=fun y id cs hg=>by
    refine(ho id cs hg).later hxe (en hnx) (fun q M hq=>?_) fun q hq=>?_
    · have h1 := (ho id cs hg).mT hq rfl
      exact⟨hb.block q h1.1,h1.2.2⟩
    · have h1 := (ho id cs hg).gB hq
      exact⟨hb.block q ((ho id cs hg).pZ hq),h1.2.2.1⟩
  have hne:∀id cs,s0.get id=some cs→nid≠id:=fun id cs hg e=>by subst e;rw [pT hg]at hnew;cases hnew
  have hup:∀cells,∀p∈upds,(s0.put nid cells).get p.1=some p.2∧p.1≠nid:=fun cells p hp=>by
    have h1:=hne p.1 p.2 (hu p hp)
    exact⟨by rw [St.ef,if_neg h1];exact hu p hp,fun e=>h1 e.symm⟩
  have main:∀(y:BL) (cells:List A),OB (dS β nid y) X w' (bw w β s0 hd) nid cells→(∀b N,y= .bk b N→w.heap.size≤b)→Mem (bw w β s0 hd) (dS β nid y) X (s0.put nid cells) w':=fun y cells hy hfr=>by
    refine .of ⟨hb.os,hb.tape,hb.output,hb.size,fun k hk _=>hb.block k hk,fun s hs=>by cases hs⟩ (en hnx) (fun q o h=>Nat.lt_of_lt_of_le (hX q o h) hb.size) (fun id hf=>?_) (fun id cs hg=>?_) (fun i j ci cj b M N hij hgi hgj hbi hbj=>?_)
    · rw [St.gF] at hf
      split at hf
      · cases hf
      · rename_i hn
        rw [dV (fun e=>hn e.symm)]
        exact hd id hf
    · rw [St.ef] at hg
      split at hg
      · rename_i e1; subst e1
        simp only [Option.some.injEq]at hg
        subst hg
        exact hy
      · exact hob y id cs hg
    · rw [St.ef] at hgi hgj
      have hlt:∀id cs b N,s0.get id=some cs→β id=some (.bk b N)→b<w.heap.size:=fun id cs b N hg hβ=>((ho id cs hg).mT hβ rfl).1
      by_cases ei:nid=i
      · by_cases ej : nid = j
        · omega
        · rw [if_neg ej] at hgj
          rw [←ei,dA]at hbi
          rw [dV (fun e=>ej e.symm)]at hbj
          simp only [Option.some.injEq]at hbi
          have:=hfr b M hbi
          have:=hlt j cj b N hgj hbj
          omega
      · rw [if_neg ei] at hgi
        rw [dV (fun e=>ei e.symm)]at hbi
        by_cases ej:nid=j
        · rw [← ej, dA] at hbj
          simp only [Option.some.injEq]at hbj
          have:=hfr b N hbj
          have:=hlt i ci b M hgi hbi
          omega
        · rw [if_neg ej] at hgj
          rw [dV (fun e=>ej e.symm)]at hbj
          exact hi i j ci cj b M N hij hgi hgj hbi hbj
  rcases hrow.2 with ⟨rfl,hz⟩|⟨g,cap,cur,rfl,hbase,hg,r1,r2,r3,r4⟩
  · have hL : L = [] := List.eq_nil_of_length_eq_zero hz
    subst hL
    refine⟨.sl nid 1 0 0,_,X,s0.put nid [],⟨nid,rfl,by rw [St.ef,if_pos rfl];rfl,hup []⟩,fun _ _ h=>h,fun _ _ h=> .inl h,main .ph [] (by unfold OB;rw [dA]) (fun b N h=>by cases h),?_⟩
    simp only [V]
    refine .inl ⟨dA,?_⟩
    simp
  · refine ⟨.sl nid 1 0 L.length, _, X, s0.put nid (L.map (A.i .i64)), ⟨nid, rfl, by rw [St.ef, if_pos rfl], hup _⟩, fun _ _ h => h, fun _ _ h => .inl h, main (.bk g cap) _ ?_ (fun b N h => by cases h; exact hbase), ?_⟩
    · unfold OB
      rw [dA]
      refine⟨.inl hbase,fun o h=>by have:=hX g o h;omega,L.map Go.encZ,cur.toList.drop L.length,e,?_,?_,gP (fun b o h=>⟨h,rfl⟩) _ _ _ _ (fun id y h=>h) (BJ L),fun x hx=>by obtain⟨a,_,rfl⟩:=List.mem_map.1 hx;rfl⟩
      · rw [hg]
        have:L.map Go.encZ++cur.toList.drop L.length=cur.toList:=by rw [←r4,Nat.mul_one,List.take_append_drop]
        rw [this]
      · have hcl : cur.toList.length = cur.size := Array.length_toList
        rw [List.length_map,List.length_drop];omega
    · simp only [V]
      exact .inr ⟨g,cap,cap,dA,rfl,r1,r2,by omega⟩
end Go.Abs
-- E5J
namespace Go.Abs.D2
open Go Go.Eng Go.Abs Go.Proofs
theorem ux (a b:List Ch) (ha:a.length≤maxLen) (hb:b.length≤maxLen):bU Tryz.prog 24 [eo a,eo b] (cl (.b (jb a b))):=by
 refine enter Tryz.func24 rfl Tryz.ntmps24 aw (Nat.le_of_ble_eq_true rfl) fun w0 X0 hI=>?_
 refine aa [651,3] ?_
 simp only [maxLen]at ha hb
 refine aa [649,34,0,34,646] ?_
 refine cm rfl (fun hc10=>?_) (fun hc10=>?_)
 ·have h10 : a.length ≠ b.length := by intro h; simp [h] at hc10
  refine aa [707,21,15] ?_
  exact congrArg A.b (Pf h10).symm
 ·have h10 : a.length = b.length := by simp at hc10; omega
  refine aa [675,697] ?_
  refine c5 (ι:=Nat) (fun i=> [(0,eo a),(1,eo b),(5,nJ i)]) (fun i=>⟨[]⟩) (fun i=>i≤a.length∧jb a b=jb (a.drop i) (b.drop i)) (fun i=>a.length - i) ?_ ?_
  ·exact c4 (0) (⟨Nat.zero_le _,rfl⟩) [] hI rfl rfl ⟨⟨_,rfl,.pure pu⟩,⟨_,rfl,.pure pu⟩,⟨_,rfl,.pure pu⟩,trivial⟩ trivial
  rintro i ⟨hi,hst⟩
  refine aa [674,34,646] ?_
  refine cm rfl (fun hc14=>?_) (fun hc14=>?_)
  ·have h14 : i < a.length := by have := of_decide_eq_true hc14; omega
   obtain⟨c,hc⟩:∃c,a[i]? =some c:=⟨_,List.getElem?_eq_getElem h14⟩
   obtain⟨d,hd⟩:∃d,b[i]? =some d:=⟨_,List.getElem?_eq_getElem aq⟩
   refine aa [655,3,268,812] ?_
   refine t1 (dw c8 rfl rfl (s9 hc) rfl) rfl ?_
   refine aa [812] ?_
   refine t1 (dw c8 rfl rfl (s9 hd) rfl) rfl <| eO <| s1 (QX Tryz.underlying55 rfl rfl rfl rfl az az Tryz.underlying3 aw aw rfl rfl) rfl <| bH <| bF ?_
   refine cm rfl (fun hc25=>?_) (fun hc25=>?_)
   ·have h25 : (c.id == d.id && c.st == d.st) = false := by rw [Bool.not_eq_true'] at hc25; exact hc25
    refine aa [799] ?_
    exact congrArg A.b (hst.trans ((G6 hc hd).trans (by rw [h25];rfl))).symm
   ·have h25 : (c.id == d.id && c.st == d.st) = true := by rw [Bool.not_eq_false'] at hc25; exact hc25
    refine aa [676] ?_
    exact cO (i+1) (⟨by omega,hst.trans ((G6 hc hd).trans (by rw [h25];rfl))⟩) aq [] hI rfl rfl ⟨⟨_,rfl,.pure pu⟩,⟨_,rfl,.pure pu⟩,⟨_,rfl,.pure pu⟩,trivial⟩ trivial
  ·obtain rfl : i = a.length := by have := of_decide_eq_false hc14; omega
   rw [List.drop_length,h10,List.drop_length]at hst
   refine aa [734,15] ?_
   exact congrArg A.b hst.symm
-- E6D
theorem G8 (L M:List (List UInt8)) (hL:cg L) (hM:cg M):bU Tryz.prog 162 [cM L,cM M] (cl (.b (L==M))):=by
 refine enter Tryz.func162 rfl Tryz.ntmps162 aw (Nat.le_of_ble_eq_true rfl) fun w0 X0 hI=>?_
 refine bG ?_
 refine IX 0 rfl fun hmx=>?_
 simp only [maxLen]at hmx
 refine aa [1,692,49,0,770] ?_
 refine cm rfl (fun hc10=>?_) (fun hc10=>?_)
 ·have h10 : L.length ≠ M.length := by have := bne_iff_ne.1 hc10; omega
  refine aa [707,21,15] ?_
  exact congrArg A.b (by rw [eq_comm,beq_eq_false_iff_ne];exact fun h=>h10 (congrArg List.length h))
 ·have h10 : L.length = M.length := by have := bne_eq_false_iff_eq.1 hc10; omega
  refine aa [675,697] ?_
  refine c5 (ι:=Nat) (fun j=> [(0,cM L),(1,cM M),(5,.i .i64 (j:Nat))]) (fun j=>⟨[]⟩) (fun j=>j≤L.length∧L.take j=M.take j) (fun j=>L.length - j) ?_ ?_
  ·exact c4 (0) (⟨Nat.zero_le _,rfl⟩) [] hI rfl rfl ⟨⟨_,rfl,.pure pu⟩,⟨_,rfl,.pure pu⟩,⟨_,rfl,.pure pu⟩,trivial⟩ trivial
  rintro j ⟨hj,ht⟩
  refine aa [674,770] ?_
  refine cm rfl (fun hc14=>?_) (fun hc14=>?_)
  ·have hj2 : j < L.length := by have := of_decide_eq_true hc14; omega
   obtain⟨q,hq⟩:∃q,L[j]? =some q:=⟨_,List.getElem?_eq_getElem hj2⟩
   obtain⟨r,hr⟩:∃r,M[j]? =some r:=⟨_,List.getElem?_eq_getElem aq⟩
   have hq32:=hL q (List.mem_of_getElem? hq)
   have hr32:=hM r (List.mem_of_getElem? hr)
   refine aa [655,3,268,666,513] ?_
   refine t1 (dw bR rfl rfl (we hL hq) bh) rfl ?_
   refine aa [666,513] ?_
   refine t1 (dw bR rfl rfl (we hM hr) (by simp [hr32])) rfl <| eO <| s1 (nu Tryz.underlying23 Tryz.underlying5 cr aw rfl rfl aM aM) rfl <| bH <| bF ?_
   refine cm rfl (fun hc25=>?_) (fun hc25=>?_)
   ·skip
    refine aa [799] ?_
    refine congrArg A.b ?_
    rw [eq_comm,beq_eq_false_iff_ne]
    rintro rfl
    rw [hq]at hr
    cases hr
    simp at hc25
   ·have hqr : q = r := by simpa using hc25
    refine aa [676] ?_
    exact cO (j+1) (⟨by omega,by rw [List.take_add_one,List.take_add_one,ht,hq,hr,hqr]⟩) aq [] hI rfl rfl ⟨⟨_,rfl,.pure pu⟩,⟨_,rfl,.pure pu⟩,⟨_,rfl,.pure pu⟩,trivial⟩ trivial
  ·have hj2 : j = L.length := by have := of_decide_eq_false hc14; omega
   subst hj2
   rw [List.take_length,h10,List.take_length]at ht
   refine aa [734,15] ?_
   exact congrArg A.b (by rw [ht];simp)
theorem DO (n a:Int) (S P:List (List UInt8)):bU Tryz.prog 37 [.i .i64 n,.ag [.i .i64 a,cM S,cM P]] (cl (.b (pR n S.length P.length))):=by
 refine enter Tryz.func37 rfl Tryz.ntmps37 aw (Nat.le_of_ble_eq_true rfl) fun w0 X0 hI=>?_
 refine aa [689,660,0] ?_
 refine gr 2 rfl rfl rfl rfl (fun hb7=> .step (bE rfl) rfl rfl<| .step (bE rfl) rfl rfl<| .done) rfl rfl <| s1 (bE rfl) rfl <| fU 4 rfl rfl rfl rfl (fun hb11=> .step (bX Tryz.underlying43 rfl ir az rfl rfl) rfl rfl<| .step (bM ir rfl rfl rfl) rfl rfl<| .step (cJ Tryz.underlying41 rfl rfl rfl) rfl rfl<| .step (bE rfl) rfl rfl<| .done) rfl rfl <| s1 (bE rfl) rfl <| fU 4 rfl rfl rfl rfl (fun hb17=> .step (bX Tryz.underlying43 rfl ir az rfl rfl) rfl rfl<| .step (bM ir rfl rfl rfl) rfl rfl<| .step (cJ Tryz.underlying41 rfl rfl rfl) rfl rfl<| .step (bE rfl) rfl rfl<| .done) rfl rfl ?_
 refine aa [702] ?_
 rfl
theorem Pj (a:Int) (S P:List (List UInt8)) (hS:cg S) (hP:cg P):bU Tryz.prog 110 [.ag [.i .i64 a,cM S,cM P],.ag [.i .i64 a,cM S,cM P]] (cl (.b true)):=by
 refine enter Tryz.func110 rfl Tryz.ntmps110 aw (Nat.le_of_ble_eq_true rfl) fun w0 X0 hI=>?_
 refine aa [713,68,662,306,8,306,8] ?_
 refine s1 ((bE rfl).v (v':= .b true) (congrArg A.b aA)) rfl ?_
 refine aa [0,239,240,239,240] ?_
 refine fN rfl rfl rfl (b7 false rfl (.cons (.pure pu) (.cons (.pure pu) (.nil))) (bU.cast (G8 S S hS hS) (congrArg A.b (by simp:_=true))) pu (.inl rfl) rfl ?_)
 refine aa [647,239,240,239,240] ?_
 refine fN rfl rfl rfl (b7 false rfl (.cons (.pure pu) (.cons (.pure pu) (.nil))) (bU.cast (G8 P P hP hP) (congrArg A.b (by simp:_=true))) pu (.inl rfl) rfl ?_)
 refine aa [0,702] ?_
 rfl
theorem OW (a b:Ep) (ha:a.ok) (hb:b.ok) (hs:a.sg=b.sg):bU Tryz.prog 62 [.ag a.cells,.ag b.cells] (cl (.b (jF a b))):=by
 refine enter Tryz.func62 rfl Tryz.ntmps62 aw (Nat.le_of_ble_eq_true rfl) fun w0 X0 hI=>?_
 refine aa [713,68,652] ?_
 rcases Ph a b with hcs|hcs|hcs|hcs|hcs|hcs|hcs
 ·obtain ⟨h1, hr⟩ := hcs
  refine aa [1,691,691] ?_
  refine s1 ((bE rfl).v (v':= .b false) (congrArg A.b (beq_eq_false_iff_ne.2 h1))) rfl ?_
  refine aa [0,688,677,677,677,677,677,12,0,702] ?_
  exact congrArg A.b hr.symm
 ·obtain ⟨h1, h2, hr⟩ := hcs
  refine aa [1,691,691,127,0,731] ?_
  refine g1 rfl rfl ((bE rfl).v (v':= .b false) (congrArg A.b (beq_eq_false_iff_ne.2 h2))) rfl ?_
  refine aa [732,677,677,677,677,12,0,702] ?_
  exact congrArg A.b hr.symm
 ·obtain ⟨h1, h2, h3, hr⟩ := hcs
  refine aa [1,691,691,127,0,731,164,647,731] ?_
  refine g1 rfl rfl ((bE rfl).v (v':= .b false) (congrArg A.b (beq_eq_false_iff_ne.2 h3))) rfl ?_
  refine aa [732,677,677,677,12,0,702] ?_
  exact congrArg A.b hr.symm
 ·obtain ⟨h1, h2, h3, h4, hr⟩ := hcs
  refine aa [1,691,691,127,0,731,164,647,731,241,647,85,86,85,86,242,732,677,677,12,0,702] ?_
  exact congrArg A.b hr.symm
 ·obtain ⟨h1, h2, h3, h4, h5, hr⟩ := hcs
  refine aa [1,691,691,127,0,731,164,647,731,241,647,85,86,85,86,242,647,51,317,51,318] ?_
  refine g1 rfl rfl (((oo Tryz.underlying23 Tryz.underlying5 cr aw rfl rfl ha.dc hb.dc)).v (v':= .b false) (congrArg A.b (beq_eq_false_iff_ne.2 h5))) rfl ?_
  refine aa [732,677,12,0,702] ?_
  exact congrArg A.b hr.symm
 ·obtain ⟨h1, h2, h3, h4, h5, h6, hr⟩ := hcs
  refine aa [1,691,691,127,0,731,164,647,731,241,647,85,86,85,86,242,647,51,317,51,318,514,647,51,515,51,516] ?_
  refine g1 rfl rfl (((oo Tryz.underlying23 Tryz.underlying5 cr aw rfl rfl ha.prev hb.prev)).v (v':= .b false) (congrArg A.b (beq_eq_false_iff_ne.2 h6))) rfl ?_
  refine aa [732,12,0,702] ?_
  exact congrArg A.b hr.symm
 ·obtain ⟨h1, h2, h3, h4, h5, h6, hr⟩ := hcs
  refine aa [1,691,691,127,0,731,164,647,731,241,647,85,86,85,86,242,647,51,317,51,318,514,647,51,515,51,516] ?_
  refine g1 rfl rfl (((oo Tryz.underlying23 Tryz.underlying5 cr aw rfl rfl ha.prev hb.prev)).v (v':= .b true) (congrArg A.b (beq_iff_eq.2 h6))) rfl ?_
  refine aa [647,517] ?_
  refine g1 rfl rfl ((dw eG rfl rfl (vN ha) rfl).v (v':= .ag [.i .i64 b.sg.a,cM b.sg.S,cM b.sg.P]) (by rw [hs])) rfl ?_
  refine aa [517] ?_
  refine g1 rfl rfl (dw eG rfl rfl (vN hb) rfl) rfl <| fN rfl rfl rfl (b7 false rfl (.cons (.pure pu) (.cons (.pure pu) (.nil))) (Pj b.sg.a b.sg.S b.sg.P hb.S hb.P) pu (.inl rfl) rfl ?_)
  refine aa [0,702] ?_
  exact congrArg A.b hr.symm
theorem xz (n:Int) (l:List Ep) (ids:List Int) (c:List Ch) (hl:px l) (hn:l.length≤maxLen):bU Tryz.prog 12 [.i .i64 n,eS l,.fz ids.length (ids.map (A.i .i64)),eo c] (cl (.b (mM n l ids c))):=by
 refine enter Tryz.func12 rfl Tryz.ntmps12 aw (Nat.le_of_ble_eq_true rfl) fun w0 X0 hI=>?_
 refine aa [651,3] ?_
 simp only [maxLen]at hn
 refine aa [761] ?_
 refine c5 (ι:=Nat) (fun i=> [(0,.i .i64 n),(1,eS l),(2,.fz ids.length (ids.map (A.i .i64))),(3,eo c),(9,nJ i)]) (fun i=>⟨[]⟩) (fun i=>i≤l.length∧∀e∈l.take i,nR n e=true) (fun i=>l.length - i) ?_ ?_
 ·exact c4 (0) (⟨Nat.zero_le _,fun e he=>by simp at he⟩) [] hI rfl rfl ⟨⟨_,rfl,.pure pu⟩,⟨_,rfl,.pure pu⟩,⟨_,rfl,.pure pu⟩,⟨_,rfl,.pure pu⟩,⟨_,rfl,.pure pu⟩,trivial⟩ trivial
 rintro i ⟨hi,hall⟩
 refine aa [674,25,646] ?_
 refine cm rfl (fun hc13=>?_) (fun hc13=>?_)
 ·have h13 : i < l.length := by have := of_decide_eq_true hc13; omega
  obtain⟨e,he⟩:∃e,l[i]? =some e:=⟨_,List.getElem?_eq_getElem h13⟩
  refine aa [655,661,200] ?_
  refine s1 (cR Tryz.underlying45 rfl dN az rfl rfl) rfl <| s1 (bM dN rfl rfl (KL hl he)) rfl ?_
  refine aa [34,0] ?_
  refine ji 22 rfl (fun hc22=>?_) (fun hc22=>?_)
  ·have h22 : ¬ e.ch.length ≤ 10 := by have := of_decide_eq_true hc22; omega
   refine aa [0,688,688,706,751,33] ?_
   exact congrArg A.b (DM (List.mem_of_getElem? he) (by unfold nR;rw [decide_eq_false h22];rfl)).symm
  ·have h22 : e.ch.length ≤ 10 := by have := of_decide_eq_false hc22; omega
   refine aa [716,696] ?_
   refine g1 rfl rfl (cf i Tryz.underlying24 cT rfl rfl rfl aq rfl) rfl <| g1 rfl rfl (cR Tryz.underlying45 rfl eG az rfl rfl) rfl <| g1 rfl rfl (dw eG rfl rfl (KM hl he) rfl) rfl <| fN rfl rfl rfl (b7 false rfl (.cons (.pure pu) (.cons (.pure pu) (.nil))) (DO n e.sg.a e.sg.S e.sg.P) pu (.inl rfl) rfl ?_)
   refine aa [7] ?_
   refine ji 31 rfl (fun hc31=>?_) (fun hc31=>?_)
   ·have h31 : pR n e.sg.S.length e.sg.P.length = false := by simpa using hc31
    refine aa [706,751,33] ?_
    exact congrArg A.b (DM (List.mem_of_getElem? he) (by unfold nR;rw [h31,Bool.and_false])).symm
   ·have h31 : pR n e.sg.S.length e.sg.P.length = true := by simpa using hc31
    refine aa [673,676] ?_
    exact cO (i+1) (⟨by omega,yG he hall (by unfold nR;rw [decide_eq_true (show e.ch.length≤10 by omega),h31];rfl)⟩) aq [] hI rfl rfl ⟨⟨_,rfl,.pure pu⟩,⟨_,rfl,.pure pu⟩,⟨_,rfl,.pure pu⟩,⟨_,rfl,.pure pu⟩,⟨_,rfl,.pure pu⟩,trivial⟩ trivial
 ·obtain rfl : i = l.length := by have := of_decide_eq_false hc13; omega
  rw [List.take_length]at hall
  refine aa [722,313] ?_
  refine bJ rfl (b7 false rfl (.cons (.pure pu) (.cons (.ag (.cons (.pure pu) (.cons .nl (.cons .nl .nil)))) .nil)) (DO n 0 [] []) pu (.inl rfl) rfl ?_)
  refine s1 (bE rfl) rfl <| fU 3 rfl rfl rfl rfl (fun hb36=> .step (bE rfl) rfl rfl<| .step (cJ Tryz.underlying24 rfl rfl rfl) rfl rfl<| .step (bE rfl) rfl rfl<| .done) rfl rfl <| s1 (bE rfl) rfl <| fU 3 rfl rfl rfl rfl (fun hb41=> .step (bE rfl) rfl rfl<| .step (cJ Tryz.underlying30 rfl rfl rfl) rfl rfl<| .step (bE rfl) rfl rfl<| .done) rfl rfl <| s1 (bE rfl) rfl <| fU 3 rfl rfl rfl rfl (fun hb46=> .step (bE rfl) rfl rfl<| .step (cJ Tryz.underlying31 rfl rfl rfl) rfl rfl<| .step (bE rfl) rfl rfl<| .done) rfl rfl ?_
  refine aa [650,33] ?_
  exact congrArg A.b (KT hall).symm
end Go.Abs.D2
-- E6S
namespace Go.Abs.D2
open Go Go.Eng Go.Abs
theorem LV {l:List Int} {i:Nat} {p:Int} (h0:0<i) (h:l[i - 1]? =some p):fA l i=p:=by
  obtain⟨j,rfl⟩:∃j,i=j+1:=⟨i - 1,by omega⟩
  exact mm h
theorem LU {l:List Int} {i:Nat} (h0:i=0):fA l i= -1:=by subst h0;rfl
theorem Ey {l:List Int} {i:Nat} {q:Int} (hq:l[i]? =some q) (hla: -1≤fA l i):
    (q<0∧¬(fA l i<q∧q<1024))∨(0≤q∧1024≤q∧¬(fA l i<q∧q<1024))∨((0≤q∧q<1024)∧0<i∧(∃p,l[i - 1]? =some p∧q≤p)∧¬(fA l i<q∧q<1024))
    ∨((0≤q∧q<1024)∧i=0∧(fA l i<q∧q<1024))∨((0≤q∧q<1024)∧0<i∧(∃p,l[i - 1]? =some p∧p<q)∧(fA l i<q∧q<1024)):=by
  by_cases h1:q<0
  · exact .inl ⟨h1,by omega⟩
  by_cases h2:1024≤q
  · exact .inr (.inl ⟨by omega,h2,by omega⟩)
  rcases Nat.eq_zero_or_pos i with h0|h0
  · exact .inr (.inr (.inr (.inl ⟨by omega,h0,by rw [LU h0];omega⟩)))
  · obtain ⟨p, hp⟩ : ∃ p, l[i - 1]? = some p := ⟨_, List.getElem?_eq_getElem (by have := (List.getElem?_eq_some_iff.1 hq).1; omega)⟩
    have hlp:=LV h0 hp
    by_cases h3:q≤p
    · exact .inr (.inr (.inl ⟨by omega,h0,⟨p,hp,h3⟩,by omega⟩))
    · exact .inr (.inr (.inr (.inr ⟨by omega,h0,⟨p,hp,by omega⟩,by omega⟩)))
theorem vr (σ:Int→Int):(eL σ).length=(fe σ).length:=by simp [eL]
theorem vc {iss day:Int} (h:¬(0≤iss∧iss<8∧0≤day∧day<1024)):ix iss day=false:=by
  cases ha:ix iss day with
  |false=>rfl
  | true =>
    unfold ix at ha
    simp only [Bool.and_eq_true,decide_eq_true_eq]at ha
    omega
theorem IK {iss day:Int} (h:0≤iss∧iss<8∧0≤day∧day<1024):ix iss day=true:=by
  unfold ix
  simp only [Bool.and_eq_true,decide_eq_true_eq]
  omega
theorem EN {l:List Ep} {e:Ep} {iss day:Int} (he:l[l.length - 1]? =some e) (h:¬(iss=e.iss∧e.day<day)):ja l iss day=false:=by
  rw [(wu he).1]
  cases hb:((iss==e.iss)&&decide (day>e.day))with
  |false=>rfl
  | true =>
    simp only [Bool.and_eq_true,decide_eq_true_eq,beq_iff_eq]at hb
    omega
theorem LO {l:List Ep} {e:Ep} {iss day:Int} (he:l[l.length - 1]? =some e) (h:iss=e.iss∧e.day<day):ja l iss day=true:=by
  rw [(wu he).1]
  simp only [Bool.and_eq_true,decide_eq_true_eq,beq_iff_eq]
  omega
theorem K6 {l:List Ep} {σ:Int→Int} (h:eC l=some σ) {e f:Ep} (he:e∈l) (hf:f∈l):e.iss=f.iss:=by
  rw [pS]at h
  rw [vZ h e he,vZ h f hf]
def qn (iss day:Int):Prop:=0≤iss∧iss<8∧0≤day∧day<1024
theorem NL {l : List Ep} {σ : Int → Int} (hf : eC l = some σ) (iss day : Int) (c : List Ch) :
    (iss<0∧ix iss day=false)∨(0≤iss∧8≤iss∧ix iss day=false)∨((0≤iss∧iss<8)∧day<0∧ix iss day=false)∨((0≤iss∧iss<8∧0≤day)∧1024≤day∧ix iss day=false)
    ∨(qn iss day∧ix iss day=true∧l.length=0∧ja l iss day=true∧iZ l=zD∧eH σ (-1) c=false)
    ∨(qn iss day∧ix iss day=true∧l.length=0∧ja l iss day=true∧iZ l=zD∧eH σ (-1) c=true)
    ∨(qn iss day∧ix iss day=true∧0<l.length∧(∃e0,l[0]? =some e0∧iss≠e0.iss)∧ja l iss day=false)
    ∨(qn iss day∧ix iss day=true∧0<l.length∧(∃e0,l[0]? =some e0∧iss=e0.iss)∧(∃e,l[l.length - 1]? =some e∧day≤e.day)∧ja l iss day=false)
    ∨(qn iss day∧ix iss day=true∧0<l.length∧(∃e0,l[0]? =some e0∧iss=e0.iss)∧(∃e,l[l.length - 1]? =some e∧e.day<day∧iZ l=dX e)∧ja l iss day=true∧eH σ (-1) c=false)
    ∨(qn iss day∧ix iss day=true∧0<l.length∧(∃e0,l[0]? =some e0∧iss=e0.iss)∧(∃e,l[l.length - 1]? =some e∧e.day<day∧iZ l=dX e)∧ja l iss day=true∧eH σ (-1) c=true):=by
  by_cases h1:iss<0
  · exact .inl ⟨h1,vc aq⟩
  by_cases h2:8≤iss
  · exact .inr (.inl ⟨by omega,h2,vc aq⟩)
  by_cases h3:day<0
  · exact .inr (.inr (.inl ⟨by omega,h3,vc aq⟩))
  by_cases h4:1024≤day
  · exact .inr (.inr (.inr (.inl ⟨by omega,h4,vc aq⟩)))
  have hr:qn iss day:=⟨by omega,by omega,by omega,by omega⟩
  have ha:ix iss day=true:=IK aq
  rcases Nat.eq_zero_or_pos l.length with h0|h0
  · have hl := List.length_eq_zero_iff.1 h0
    obtain⟨q1,q2⟩:=EO (iss:=iss) (day:=day) hl
    cases hk:eH σ (-1) c with
    |false=>exact .inr (.inr (.inr (.inr (.inl ⟨hr,ha,h0,q1,q2,rfl⟩))))
    |true=>exact .inr (.inr (.inr (.inr (.inr (.inl ⟨hr,ha,h0,q1,q2,rfl⟩)))))
  · obtain ⟨e0, he0⟩ : ∃ e0, l[0]? = some e0 := ⟨_, List.getElem?_eq_getElem h0⟩
    obtain⟨e,he⟩:∃e,l[l.length - 1]? =some e:=⟨_,List.getElem?_eq_getElem aq⟩
    have hi:=K6 hf (List.mem_of_getElem? he0) (List.mem_of_getElem? he)
    by_cases h5:iss=e0.iss
    · by_cases h6 : day ≤ e.day
      · exact .inr (.inr (.inr (.inr (.inr (.inr (.inr (.inl ⟨hr,ha,h0,⟨e0,he0,h5⟩,⟨e,he,h6⟩,EN he aq⟩)))))))
      · have hd := (wu (iss := iss) (day := day) he).2
        have hy:=LO (iss:=iss) (day:=day) he aq
        cases hk:eH σ (-1) c with
        |false=>exact .inr (.inr (.inr (.inr (.inr (.inr (.inr (.inr (.inl ⟨hr,ha,h0,⟨e0,he0,h5⟩,⟨e,he,by omega,hd⟩,hy,rfl⟩))))))))
        |true=>exact .inr (.inr (.inr (.inr (.inr (.inr (.inr (.inr (.inr ⟨hr,ha,h0,⟨e0,he0,h5⟩,⟨e,he,by omega,hd⟩,hy,rfl⟩))))))))
    · exact .inr (.inr (.inr (.inr (.inr (.inr (.inl ⟨hr,ha,h0,⟨e0,he0,h5⟩,EN he aq⟩))))))
end Go.Abs.D2
-- E6M
namespace Go.Abs.D2
open Go Go.Eng Go.Abs Go.Proofs
theorem GW (τ:Int→Int) (hsu:jg τ) (ids:List Int) (hn:ids.length≤1000):bU Tryz.prog 58 [.fz ids.length (ids.map (A.i .i64)),eo (eL τ)] (cl (.tu [.fz (eY τ ids).length ((eY τ ids).map (A.i .i64)),.fz (fP τ ids).length ((fP τ ids).map (A.i .i64))])):=by
 refine enter Tryz.func58 rfl Tryz.ntmps58 aw (Nat.le_of_ble_eq_true rfl) fun w0 X0 hI=>?_
 refine aa [648,652] ?_
 have hSl:=vt τ
 refine aa [1,443,662,367,690] ?_
 refine c5 (ι:=Nat) (fun k=> [(0,.fz ids.length (ids.map (A.i .i64))),(1,eo (eL τ)),(6,.sl 9 1 0 (eY τ (ids.take k)).length),(7,.sl 10 1 0 (fP τ (ids.take k)).length),(8,nJ k)]) (fun k=>⟨[(9,some ((eY τ (ids.take k)).map (A.i .i64))),(10,some ((fP τ (ids.take k)).map (A.i .i64)))]⟩) (fun k=>k≤ids.length) (fun k=>ids.length - k) ?_ ?_
 ·exact c4 (0) (Nat.zero_le _) [(9,some 9),(10,some 10)] hI rfl rfl ⟨⟨_,rfl,.pure pu⟩,⟨_,rfl,.pure pu⟩,⟨_,rfl,.sl rfl ar⟩,⟨_,rfl,.sl rfl ar⟩,⟨_,rfl,.pure pu⟩,trivial⟩ ⟨.inr ⟨_,_,rfl,rfl,.of (by first|rfl|simp [eY]) (.pure bO)⟩,.inr ⟨_,_,rfl,rfl,.of (by first|rfl|simp [fP]) (.pure bO)⟩,trivial⟩
 intro k hk
 have hlb:=rM τ (ids.take k)
 have hlg:=rN τ (ids.take k)
 rw [List.length_take]at hlb hlg
 refine aa [674,765] ?_
 refine cm rfl (fun hc14=>?_) (fun hc14=>?_)
 ·have h14 : k < ids.length := by have := of_decide_eq_true hc14; omega
  obtain⟨q,hq⟩:∃q,ids[k]? =some q:=⟨_,List.getElem?_eq_getElem aq⟩
  refine aa [655,680,141,39] ?_
  refine bJ rfl (b7 false rfl (.cons (.pure pu) (.cons (.pure pu) (.nil))) (bU.cast (AU (eL τ) q aC) (congrArg (A.i .i64) (A9 hsu q))) pu (.inl rfl) rfl ?_)
  refine aa [646] ?_
  refine cm rfl (fun hc23=>?_) (fun hc23=>?_)
  ·have h23 : τ q ≠ 0 := by simpa using hc23
   obtain⟨hb1,hb2⟩:=Cd hq h23
   refine aa [758,141,39,444] ?_
   refine bJ rfl (dR 30 rfl Tryz.underlying30 bL rfl (.sl rfl aA) rfl (dH rfl ar) aA aC aq rfl rfl rfl ?_)
   refine aa [686] ?_
   exact cO (k+1) aq aq [(9,some 30),(10,some 10)] hI rfl rfl ⟨⟨_,rfl,.pure pu⟩,⟨_,rfl,.pure pu⟩,⟨_,rfl,.sl rfl ar⟩,⟨_,rfl,.sl rfl ar⟩,⟨_,rfl,.pure pu⟩,trivial⟩ ⟨.inr ⟨_,_,rfl,rfl,.of (by rw [hb1,List.map_append];rfl) (.pure bO)⟩,.inr ⟨_,_,rfl,rfl,.of (by rw [hb2]) (.pure bO)⟩,trivial⟩
  ·have h23 : τ q = 0 := by simpa using hc23
   obtain⟨hb1,hb2⟩:=Ce hq h23
   refine aa [758,141,39] ?_
   refine bJ rfl (eF 36 rfl Tryz.underlying30 bL rfl rfl rfl rfl rfl ?_)
   refine bJ rfl (dR 37 rfl Tryz.underlying30 bL rfl (.sl rfl aA) rfl (dH rfl ar) aA aC aq rfl rfl rfl ?_)
   refine aa [686] ?_
   exact cO (k+1) aq aq [(9,some 9),(10,some 37)] hI rfl rfl ⟨⟨_,rfl,.pure pu⟩,⟨_,rfl,.pure pu⟩,⟨_,rfl,.sl rfl ar⟩,⟨_,rfl,.sl rfl ar⟩,⟨_,rfl,.pure pu⟩,trivial⟩ ⟨.inr ⟨_,_,rfl,rfl,.of (by rw [hb1]) (.pure bO)⟩,.inr ⟨_,_,rfl,rfl,.of (by rw [hb2,List.map_append];rfl) (.pure bO)⟩,trivial⟩
 ·have h14 : k = ids.length := by have := of_decide_eq_false hc14; omega
  subst h14
  refine aa [687,680,650] ?_
  refine dP 9 (cs':=(eY τ ids).map (A.i .i64)) rfl aN <| dP 10 (cs':=(fP τ ids).map (A.i .i64)) rfl aN ?_
  refine aa [180] ?_
  refine gm 5 rfl rfl bO (dD aA rfl) ?_
  refine aa [60] ?_
  show A.tu _=A.tu _
  rw [List.take_length]
theorem GS (l:List Ep) (hl:fK l) (hn:l.length≤1000):bU Tryz.prog 17 [eS l,eS l] (cl (.b true)):=by
 refine enter Tryz.func17 rfl Tryz.ntmps17 aw (Nat.le_of_ble_eq_true rfl) fun w0 X0 hI=>?_
 refine aa [651,648,25,0,25] ?_
 refine s1 ((bE rfl).v (v':= .b false) (congrArg A.b aA)) rfl ?_
 refine aa [779,675,697] ?_
 refine c5 (ι:=Nat) (fun i=> [(0,eS l),(1,eS l),(5,nJ i)]) (fun i=>⟨[]⟩) (fun i=>i≤l.length) (fun i=>l.length - i) ?_ ?_
 ·exact c4 (0) (Nat.zero_le _) [] hI rfl rfl ⟨⟨_,rfl,.pure pu⟩,⟨_,rfl,.pure pu⟩,⟨_,rfl,.pure pu⟩,trivial⟩ trivial
 intro i hi
 refine aa [674,25,646] ?_
 refine cm rfl (fun hc14=>?_) (fun hc14=>?_)
 ·have h14 : i < l.length := by have := of_decide_eq_true hc14; omega
  obtain⟨e,he⟩:∃e,l[i]? =some e:=⟨_,List.getElem?_eq_getElem h14⟩
  have hok:=hl e (List.mem_of_getElem? he)
  refine aa [655,3,196,738] ?_
  refine bK 2 [0,1] [] (cf i Tryz.underlying24 cT rfl rfl rfl aq rfl) rfl rfl <| bK 3 [2] [] (dw cT rfl rfl (kI hl he) hok.len) rfl rfl ?_
  refine aa [47,46] ?_
  refine bK 6 [4,5] [] (cf i Tryz.underlying24 cT rfl rfl rfl aq rfl) rfl rfl <| bK 7 [6] [] (dw cT rfl rfl (kI hl he) hok.len) rfl rfl <| c7 false 8 [3,7] [] cz rfl (.cons (.pure pu) (.cons (.pure pu) (.nil))) (bU.cast (OW e e hok hok rfl) (congrArg A.b (Pg e))) pu (.inl rfl) rfl rfl ?_
  refine aa [2,694,676] ?_
  exact cO (i+1) aq aq [] hI rfl rfl ⟨⟨_,rfl,.pure pu⟩,⟨_,rfl,.pure pu⟩,⟨_,rfl,.pure pu⟩,trivial⟩ trivial
 ·skip
  refine aa [734,15] ?_
  rfl
-- E5N
theorem O2 (x:List UInt8) (a:Nat) (hx:x.length=32):bU Tryz.prog 71 [.s uG,.fz 36 ((x++fV (a:Int) 4).map u8)] (cl (.ag ((kR x a).map u8))):=by
  have e2:(x++fV (a:Int) 4).length=36:=by simp [hx]
  rw [xJ, ←e2];exact kQ _ _ aq aA
theorem GR (x:List UInt8) (a:Nat) (hx:x.length=32):bU Tryz.prog 30 [.ag (x.map u8),nJ a] (cl (.ag ((kR x a).map u8))):=by
 refine enter Tryz.func30 rfl Tryz.ntmps30 aw (Nat.le_of_ble_eq_true rfl) fun w0 X0 hI=>?_
 refine aa [745,653,178,282,483,0,64,478,0,64,479,0,64,480,0,481,329] ?_
 refine bJ rfl (dR 20 rfl Tryz.underlying68 cr rfl (.sl rfl aH) rfl (dH rfl ar) aA aI aA rfl (show _=(x++fV (a:Int) 4).map u8 by rw [List.map_append];rfl) rfl ?_)
 refine bJ rfl (b7 true rfl (.cons (.pure pu) (.cons (.sl rfl rfl rfl (dD aH aA) (cK.pure bO) bO) .nil)) (O2 x a hx) pu (.inr fu) rfl ?_)
 refine aa [712] ?_
 refine bZ (rs:= [.cell 4 23]) rfl (da bR rfl rfl (List.take_of_length_le aA) aA bW) rfl
-- C4J
theorem GD (n:Int):bU Tryz.prog 193 [.i .i64 n] (cl (.ag (CV.cells (dB n)))):=by
 refine enter Tryz.func193 rfl Tryz.ntmps193 aw (Nat.le_of_ble_eq_true rfl) fun w0 X0 hI=>?_
 refine aa [767,743,93,40] ?_
 rfl
theorem GZ (l:List UInt8):bU Tryz.prog 194 [.fz l.length (l.map u8)] (cl (.ag (CV.cells (fh l)))):=by
 refine enter Tryz.func194 rfl Tryz.ntmps194 aw (Nat.le_of_ble_eq_true rfl) fun w0 X0 hI=>?_
 refine aa [767,404,743,93,40] ?_
 rfl
theorem N1 (c:dL) (hx:c.x.length=32) (hn:c.E.length≤1000000) (hF:c.F.length≤1000):bU Tryz.prog 158 [.ag (fE c)] (cl (.ag (CV.cells (iH c)))):=by
 refine enter Tryz.func158 rfl Tryz.ntmps158 aw (Nat.le_of_ble_eq_true rfl) fun w0 X0 hI=>?_
 refine aa [670,293,653,298,294,99,720] ?_
 refine c5 (ι:=Nat) (fun i=> [(1,.p 1 0),(2,.p 2 0),(3,.p 3 0),(4,nJ i)]) (fun i=>⟨[(1,some (fE c)),(2,some ([.i .i64 0,.i .i64 0,.s [],.nl])),(3,some ([.i .i64 3,.i .i64 0,.s [],.sl 131 4 0 i])),(131,some (CV.dt ((c.F.take i).map gf)))]⟩) (fun i=>i≤c.F.length) (fun i=>c.F.length - i) ?_ ?_
 ·exact c4 (0) (Nat.zero_le _) [(1,some 1),(2,some 2),(3,some 3),(131,none)] hI rfl rfl ⟨⟨_,rfl,.p rfl⟩,⟨_,rfl,.p rfl⟩,⟨_,rfl,.p rfl⟩,⟨_,rfl,.pure pu⟩,trivial⟩ ⟨.inr ⟨_,_,rfl,rfl,.pure bO⟩,.inr ⟨_,_,rfl,rfl,.pure bO⟩,.inr ⟨_,_,rfl,rfl,.cons (.pure pu) (.cons (.pure pu) (.cons (.pure pu) (.cons (.nl rfl) .nil)))⟩,.inl ⟨rfl,rfl⟩,trivial⟩
 rintro i hi
 refine aa [699,29,72,73,646] ?_
 refine cm rfl (fun hc13=>?_) (fun hc13=>?_)
 ·have h19 : i < c.F.length := by have := of_decide_eq_true hc13; omega
  obtain⟨f,hf⟩:∃f,c.F[i]? =some f:=⟨_,List.getElem?_eq_getElem h19⟩
  refine aa [672,29,72,0,182,287] ?_
  refine bJ rfl (cI 5 rfl de rfl rfl ?_)
  refine aa [18,656,94,295,296] ?_
  refine bK 2 [] [(5,none)] (bX Tryz.underlying120 rfl bL az rfl rfl) rfl rfl ?_
  refine aa [409] ?_
  refine c7 false 4 [3] [] cz rfl (.cons (.pure pu) (.nil)) (GD f.nb) pu (.inl rfl) rfl rfl <| bK 5 [] [(5,none)] (bX Tryz.underlying120 rfl eM az rfl rfl) rfl rfl <| bK 6 [5] [(5,none)] (bM eM rfl rfl rfl) rfl rfl <| c7 false 7 [6] [] cz rfl (.cons (.pure pu) (.nil)) (GZ f.D) pu (.inl rfl) rfl rfl <| oH 8 [4,7] cz Tryz.underlying107 cP rfl rfl rfl aQ (show _=CV.dt [dB f.nb,fh f.D]from rfl) bO rfl rfl rfl rfl <| bK 9 [8] [] (eP (out:= [_,_,_,_]) [[cn (.int .i64 0)], [cn (.int .i64 0)], [cn (.string ByteArray.empty)], [cn (.slice none 0 0)]] cP rfl Tryz.underlying109 aw rfl rfl ⟨⟨by(first|rfl|omega|(simp;done)|(simp [*];done)|(simp [cw, *];done)),rfl⟩,⟨⟨by(first|rfl|omega|(simp;done)|(simp [*];done)|(simp [cw, *];done)),rfl⟩,trivial⟩⟩ rfl) rfl rfl <| oH 10 [9] cz Tryz.underlying107 cP rfl rfl rfl aQ (rX (gf f)) bO rfl rfl rfl rfl <| gp 32 11 [1,10] [(131,none)] cz Tryz.underlying107 cP rfl (.sl rfl aE) rfl rfl aA aC aq rfl rfl rfl rfl ?_
  refine aa [410,2,189,737] ?_
  exact cO (i+1) aq aq [(1,some 1),(2,some 2),(3,some 3),(131,some 32)] hI rfl rfl ⟨⟨_,rfl,.p rfl⟩,⟨_,rfl,.p rfl⟩,⟨_,rfl,.p rfl⟩,⟨_,rfl,.pure pu⟩,trivial⟩ ⟨.inr ⟨_,_,rfl,rfl,.pure bO⟩,.inr ⟨_,_,rfl,rfl,.pure bO⟩,.inr ⟨_,_,rfl,rfl,.cons (.pure pu) (.cons (.pure pu) (.cons (.pure pu) (.cons (.sl rfl aA) .nil)))⟩,.inr ⟨_,_,rfl,rfl,.of (DQ hf) (.pure bO)⟩,trivial⟩
 ·obtain rfl : i = c.F.length := by have := of_decide_eq_false hc13; omega
  refine aa [684] ?_
  refine dP 131 (cs':=CV.dt (c.F.map gf)) rfl aN ?_
  refine aa [1,298] ?_
  refine bJ rfl (cI 6 rfl cP rfl rfl ?_)
  refine aa [99,720] ?_
  refine c5 (ι:=Nat) (fun k=> [(1,.p 1 0),(2,.p 2 0),(3,.p 3 0),(6,.p 6 0),(7,nJ k)]) (fun k=>⟨[(1,some (fE c)),(2,some ([.i .i64 0,.i .i64 0,.s [],.nl])),(3,some ([.i .i64 3,.i .i64 0,.s [],.sl 131 4 0 c.F.length])),(131,some (CV.dt (c.F.map gf))),(6,some ([.i .i64 3,.i .i64 0,.s [],.sl 146 4 0 k])),(146,some (CV.dt ((c.E.take k).map dB)))]⟩) (fun k=>k≤c.E.length) (fun k=>c.E.length - k) ?_ ?_
  ·exact c4 (0) (Nat.zero_le _) [(1,some 1),(2,some 2),(3,some 3),(6,some 6),(131,some 131),(146,none)] hI rfl rfl ⟨⟨_,rfl,.p rfl⟩,⟨_,rfl,.p rfl⟩,⟨_,rfl,.p rfl⟩,⟨_,rfl,.p rfl⟩,⟨_,rfl,.pure pu⟩,trivial⟩ ⟨.inr ⟨_,_,rfl,rfl,.pure bO⟩,.inr ⟨_,_,rfl,rfl,.pure bO⟩,.inr ⟨_,_,rfl,rfl,.cons (.pure pu) (.cons (.pure pu) (.cons (.pure pu) (.cons (.sl rfl aA) .nil)))⟩,.inr ⟨_,_,rfl,rfl,.pure bO⟩,.inr ⟨_,_,rfl,rfl,.cons (.pure pu) (.cons (.pure pu) (.cons (.pure pu) (.cons (.nl rfl) .nil)))⟩,.inl ⟨rfl,rfl⟩,trivial⟩
  rintro k hk
  refine aa [699,74] ?_
  refine s1 (bM gN rfl rfl (s6 hx)) rfl ?_
  refine aa [765] ?_
  refine cm rfl (fun hc39=>?_) (fun hc39=>?_)
  ·have h30 : k < c.E.length := by have := of_decide_eq_true hc39; omega
   obtain⟨q,hq⟩:∃q,c.E[k]? =some q:=⟨_,List.getElem?_eq_getElem h30⟩
   refine aa [655,30] ?_
   refine bK 0 [] [(6,none)] (bX Tryz.underlying109 rfl ey az rfl rfl) rfl rfl <| bK 1 [0] [(6,none)] (bM ey rfl rfl rfl) rfl rfl <| bK 2 [] [(1,none)] (bX Tryz.underlying60 rfl gN az rfl rfl) rfl rfl <| bK 3 [2] [(1,none)] (bM gN rfl rfl (s6 hx)) rfl rfl ?_
   refine aa [47] ?_
   refine bK 5 [3,4] [] (cf k Tryz.underlying30 bL rfl rfl rfl aq rfl) rfl rfl <| bK 6 [5] [] (bM bL rfl rfl (ee hq)) rfl rfl <| c7 false 7 [6] [] cz rfl (.cons (.pure pu) (.nil)) (GD q) pu (.inl rfl) rfl rfl <| oH 8 [7] cz Tryz.underlying107 cP rfl rfl rfl aQ (rX (dB q)) bO rfl rfl rfl rfl <| gp 51 9 [1,8] [(146,none)] cz Tryz.underlying107 cP rfl (.sl rfl aE) rfl rfl aA aC aq rfl rfl rfl rfl <| bK 10 [] [(6,none)] (bX Tryz.underlying109 rfl ey az rfl rfl) rfl rfl ?_
   refine aa [2,189,737] ?_
   exact cO (k+1) aq aq [(1,some 1),(2,some 2),(3,some 3),(6,some 6),(131,some 131),(146,some 51)] hI rfl rfl ⟨⟨_,rfl,.p rfl⟩,⟨_,rfl,.p rfl⟩,⟨_,rfl,.p rfl⟩,⟨_,rfl,.p rfl⟩,⟨_,rfl,.pure pu⟩,trivial⟩ ⟨.inr ⟨_,_,rfl,rfl,.pure bO⟩,.inr ⟨_,_,rfl,rfl,.pure bO⟩,.inr ⟨_,_,rfl,rfl,.cons (.pure pu) (.cons (.pure pu) (.cons (.pure pu) (.cons (.sl rfl aA) .nil)))⟩,.inr ⟨_,_,rfl,rfl,.pure bO⟩,.inr ⟨_,_,rfl,rfl,.cons (.pure pu) (.cons (.pure pu) (.cons (.pure pu) (.cons (.sl rfl aA) .nil)))⟩,.inr ⟨_,_,rfl,rfl,.of (EA hq) (.pure bO)⟩,trivial⟩
  ·obtain rfl : k = c.E.length := by have := of_decide_eq_false hc39; omega
   refine aa [684,406,188,297] ?_
   refine jL 6 3 rfl rfl rfl rfl bO (sE aA) rfl <| dP 3 (cs':=CV.cells (eT (c.F.map gf))) rfl (by rw [show CV.cells (eT (c.F.map gf))= [.i .i64 3,.i .i64 0,.s [],.fz (c.F.map gf).length (CV.dt (c.F.map gf))]from rfl,List.length_map];rfl) <| dP 6 (cs':=CV.cells (eT (c.E.map dB))) rfl (by rw [show CV.cells (eT (c.E.map dB))= [.i .i64 3,.i .i64 0,.s [],.fz (c.E.map dB).length (CV.dt (c.E.map dB))]from rfl,List.length_map];rfl) ?_
   refine aa [38] ?_
   refine bK 0 [] [] (cR Tryz.underlying60 rfl bR az rfl rfl) rfl rfl <| bK 1 [0] [] ((nv (ds:=((fE c).drop (0*1)).take (32*1)) 32 Tryz.underlying23 cr rfl aI bn bn (Nat.zero_le _) (Nat.le_refl _) aH rfl rfl).v (Cl hx)) rfl rfl <| c7 false 2 [1] [] cz rfl (.cons (.pure pu) (.nil)) (GZ c.x) pu (.inl rfl) rfl rfl <| bK 3 [] [(3,none)] (cu cP rfl rfl rfl) rfl rfl <| bK 4 [] [(6,none)] (cu cP rfl rfl rfl) rfl rfl <| oH 5 [2,3,4] cz Tryz.underlying107 cP rfl rfl rfl aQ (show _=CV.dt [fh c.x,eT (c.F.map gf),eT (c.E.map dB)]from rfl) bO rfl rfl rfl rfl <| bK 6 [5] [] (eP (out:= [_,_,_,_]) [[cn (.int .i64 0)], [cn (.int .i64 0)], [cn (.string ByteArray.empty)], [cn (.slice none 0 0)]] cP rfl Tryz.underlying109 aw rfl rfl ⟨⟨by(first|rfl|omega|(simp;done)|(simp [*];done)|(simp [cw, *];done)),rfl⟩,⟨⟨by(first|rfl|omega|(simp;done)|(simp [*];done)|(simp [cw, *];done)),rfl⟩,trivial⟩⟩ rfl) rfl rfl ?_
   refine aa [2,830,40] ?_
   rfl
theorem Gu (c:dL) (hx:c.x.length=32) (hn:c.E.length≤maxLen) (hD:∀f∈c.F,f.D.length≤1000000):bU Tryz.prog 106 [.ag (fE c)] (cl (rp c)):=by
 refine enter Tryz.func106 rfl Tryz.ntmps106 aw (Nat.le_of_ble_eq_true rfl) fun w0 X0 hI=>?_
 refine aa [670,0,703] ?_
 rcases k9 (fO c)with hcs|hcs
 ·skip
  refine aa [1,59,518,714,648,24,668,35] ?_
  exact(vI hcs).symm
 ·obtain ⟨hF, hE, _⟩ := q9 hcs
  have hEl:=wC hE
  have hel:=tC hcs hx
  refine aa [1,59,518,694,669,59] ?_
  refine bJ rfl (b7 false rfl (.cons (.pure pu) (.nil)) (N1 c hx aq aq) pu (.inl rfl) rfl ?_)
  refine bJ rfl (b7 false rfl (.cons (.pure pu) (.nil)) (bU.cast (Gv (iH c) (Hm hcs hx) (AP hcs) (Nat.le_trans hel aq)) (Dx hcs)) pu (.inl rfl) rfl ?_)
  refine aa [663,660,657,35] ?_
  exact(vJ hcs).symm
theorem Gq (c:dL) (hx:c.x.length=32) (hn:c.E.length≤maxLen) (hD:∀f∈c.F,f.D.length≤1000000):bU Tryz.prog 60 [.ag (fE c)] (cl (rk c)):=by
 refine enter Tryz.func60 rfl Tryz.ntmps60 aw (Nat.le_of_ble_eq_true rfl) fun w0 X0 hI=>?_
 refine aa [670,28,659] ?_
 rcases k9 (fO c)with hcs|hcs
 ·skip
  refine aa [1,59] ?_
  refine bJ rfl (b7 false rfl (.cons (.pure pu) (.nil)) (bU.cast (Gu c hx hn hD) (vI hcs)) pu (.inl rfl) rfl ?_)
  refine aa [764,645,303,0,5,715,407] ?_
  exact(Dd hcs).symm
 ·have hel := tC hcs hx
  refine aa [1,59] ?_
  refine bJ rfl (b7 false rfl (.cons (.pure pu) (.nil)) (bU.cast (Gu c hx hn hD) (vJ hcs)) pu (.inl rfl) rfl ?_)
  refine aa [708,694,711] ?_
  refine bJ rfl (b7 false rfl (.cons (.pure pu) (.cons (.pure pu) (.nil))) (bU.cast (kQ xO (iH c).enc aq az) (congrArg (fun l:List UInt8=>A.ag (l.map u8)) (zx c).symm)) pu (.inl rfl) rfl ?_)
  refine aa [5,657,408] ?_
  exact(rl hcs).symm
-- C4M
theorem Gp (a b:List Int) (ha:a.length≤maxLen) (hb:b.length≤maxLen):bU Tryz.prog 103 [.fz a.length (a.map (A.i .i64)),.fz b.length (b.map (A.i .i64))] (cl (.b (rf a b))):=by
 refine enter Tryz.func103 rfl Tryz.ntmps103 aw (Nat.le_of_ble_eq_true rfl) fun w0 X0 hI=>?_
 refine aa [651,3] ?_
 have ha2:=ha
 simp only [maxLen]at ha2
 refine aa [761] ?_
 refine c5 (ι:=Nat) (fun i=> [(0,.fz a.length (a.map (A.i .i64))),(1,.fz b.length (b.map (A.i .i64))),(5,nJ i)]) (fun i=>⟨[]⟩) (fun i=>i≤a.length∧(a.take i).any (fun n=>decide (n∈b))=false) (fun i=>a.length - i) ?_ ?_
 ·exact c4 (0) (⟨Nat.zero_le _,rfl⟩) [] hI rfl rfl ⟨⟨_,rfl,.pure pu⟩,⟨_,rfl,.pure pu⟩,⟨_,rfl,.pure pu⟩,trivial⟩ trivial
 rintro i ⟨hi,hi2⟩
 refine aa [674,765] ?_
 refine cm rfl (fun hc9=>?_) (fun hc9=>?_)
 ·have h9 : i < a.length := by have := of_decide_eq_true hc9; omega
  obtain⟨q,hq⟩:∃q,a[i]? =some q:=⟨_,List.getElem?_eq_getElem h9⟩
  refine aa [655,680,58,39] ?_
  refine bJ rfl (b7 false rfl (.cons (.pure pu) (.cons (.pure pu) (.nil))) (Ox b q hb) pu (.inl rfl) rfl ?_)
  refine bH <| bF ?_
  refine cm rfl (fun hc17=>?_) (fun hc17=>?_)
  ·skip
   refine aa [799] ?_
   exact congrArg A.b (JU hq (of_decide_eq_true hc17)).symm
  ·skip
   refine aa [676] ?_
   exact cO (i+1) (⟨by omega,IF hq hi2 (of_decide_eq_false hc17)⟩) aq [] hI rfl rfl ⟨⟨_,rfl,.pure pu⟩,⟨_,rfl,.pure pu⟩,⟨_,rfl,.pure pu⟩,trivial⟩ trivial
 ·obtain rfl : i = a.length := by have := of_decide_eq_false hc9; omega
  refine aa [734,15] ?_
  exact congrArg A.b (JT hi2).symm
theorem Oo (x:List UInt8) (hx:x.length=32) (n:Nat) (hn:n<16) (a:List Int) (ha:a.length≤100) (hnum:∀v∈a,0≤v∧v<1024):bU Tryz.prog 104 [.ag (x.map u8),nJ n,.fz a.length (a.map (A.i .i64))] (cl (.ag (gV (lG x n a)))):=by
 refine enter Tryz.func104 rfl Tryz.ntmps104 aw (Nat.le_of_ble_eq_true rfl) fun w0 X0 hI=>?_
 refine aa [689,279,654] ?_
 have hnb:=p8 a
 refine aa [658,19,101] ?_
 refine s1 (x8 (a:=8) (b:=4*a.length) rfl rfl rfl) rfl <| s1 (H6 (a:=4096) (b:=max 8 (4*a.length)) (c:=ff a) rfl rfl (MK a)) rfl <| bJ rfl (b7 false rfl (.cons (.pure pu) (.cons (.pure pu) (.nil))) (bU.cast (OA n (ff a)) (wO (ub hn hnb.1 hnb.2))) pu (.inl rfl) rfl ?_)
 refine aa [671] ?_
 refine bJ rfl (cI 7 rfl de rfl rfl ?_)
 refine aa [18,690] ?_
 refine c5 (ι:=Nat) (fun k=> [(2,.fz a.length (a.map (A.i .i64))),(3,.p 3 0),(6,.p 6 0),(7,.p 7 0),(9,nJ k)]) (fun k=>⟨[(3,some (x.map u8)),(6,some ([.i .i64 0,.i .i64 0,.nl])),(7,some ([nJ n,nJ (ff a),eU (jz x (n:Nat) (ff a:Nat) (mD (ff a)) (a.take k))]))]⟩) (fun k=>k≤a.length) (fun k=>a.length - k) ?_ ?_
 ·exact c4 (0) (Nat.zero_le _) [(3,some 3),(6,some 6),(7,some 7)] hI rfl rfl ⟨⟨_,rfl,.pure pu⟩,⟨_,rfl,.p rfl⟩,⟨_,rfl,.p rfl⟩,⟨_,rfl,.p rfl⟩,⟨_,rfl,.pure pu⟩,trivial⟩ ⟨.inr ⟨_,_,rfl,rfl,.pure bO⟩,.inr ⟨_,_,rfl,rfl,.pure bO⟩,.inr ⟨_,_,rfl,rfl,.of aX (.pure bO)⟩,trivial⟩
 rintro k hk
 refine aa [674,765] ?_
 refine cm rfl (fun hc23=>?_) (fun hc23=>?_)
 ·have h23 : k < a.length := by have := of_decide_eq_true hc23; omega
  obtain⟨v,hv⟩:∃v,a[k]? =some v:=⟨_,List.getElem?_eq_getElem h23⟩
  have hv0:=hnum v (List.mem_of_getElem? hv)
  refine aa [655,30,519] ?_
  refine bK 1 [] [(7,none)] (cu de rfl rfl rfl) rfl rfl ?_
  refine aa [17,31] ?_
  refine bK 4 [2,3] [] (cf k Tryz.underlying30 bL rfl rfl rfl aq rfl) rfl rfl <| bK 5 [4] [] (bM bL rfl rfl (ee hv)) rfl rfl <| c7 false 6 [0,1,5] [] cz rfl (.cons (.pure pu) (.cons (.pure pu) (.cons (.pure pu) (.nil)))) (bU.cast (NT x (n:Nat) (ff a:Nat) v (jz x (n:Nat) (ff a:Nat) (mD (ff a)) (a.take k)) hx (EU x n a _)) (BR hn hv hv0)) pu (.inl rfl) rfl rfl ?_
  refine aa [126,149,238] ?_
  refine Le 2 10 [8] [(7,none)] rfl cz de rfl rfl rfl ar ar rfl ?_
  refine aa [2,737] ?_
  exact cO (k+1) aq aq [(3,some 3),(6,some 6),(7,some 7)] hI rfl rfl ⟨⟨_,rfl,.pure pu⟩,⟨_,rfl,.p rfl⟩,⟨_,rfl,.p rfl⟩,⟨_,rfl,.p rfl⟩,⟨_,rfl,.pure pu⟩,trivial⟩ ⟨.inr ⟨_,_,rfl,rfl,.pure bO⟩,.inr ⟨_,_,rfl,rfl,.pure bO⟩,.inr ⟨_,_,rfl,rfl,.pure bO⟩,trivial⟩
 ·obtain rfl : k = a.length := by have := of_decide_eq_false hc23; omega
  refine aa [684] ?_
  refine dP 7 (cs':=gV (lG x n a)) rfl (by rw [List.take_length];rfl) ?_
  refine aa [1,142,18,724] ?_
  refine bZ (rs:= [.cell 6 120]) rfl (da de rfl rfl rfl rfl bW) ?_
  rfl
theorem Pe (x:List UInt8) (hx:x.length=32) (f:eX) (hfD:f.D.length≤1000000) (l:List Int) (hn:l.length≤100):bU Tryz.prog 105 [.ag (x.map u8),.ag (gV f),.fz l.length (l.map (A.i .i64))] (cl (kg (iU x f l))):=by
 refine enter Tryz.func105 rfl Tryz.ntmps105 aw (Nat.le_of_ble_eq_true rfl) fun w0 X0 hI=>?_
 refine aa [689,55,662] ?_
 refine bJ rfl (eF 11 rfl Tryz.underlying30 bL rfl rfl rfl rfl rfl ?_)
 refine aa [690] ?_
 refine c5 (ι:=Nat) (fun i=> [(2,.fz l.length (l.map (A.i .i64))),(3,.p 3 0),(4,.p 4 0),(7,.sl 135 1 0 (iU x f (l.take i)).length),(8,nJ i)]) (fun i=>⟨[(3,some (x.map u8)),(4,some (gV f)),(135,some ((iU x f (l.take i)).map iA))]⟩) (fun i=>i≤l.length) (fun i=>l.length - i) ?_ ?_
 ·exact c4 (0) (Nat.zero_le _) [(3,some 3),(4,some 4),(135,some 11)] hI rfl rfl ⟨⟨_,rfl,.pure pu⟩,⟨_,rfl,.p rfl⟩,⟨_,rfl,.p rfl⟩,⟨_,rfl,.sl rfl ar⟩,⟨_,rfl,.pure pu⟩,trivial⟩ ⟨.inr ⟨_,_,rfl,rfl,.pure bO⟩,.inr ⟨_,_,rfl,rfl,.pure bO⟩,.inr ⟨_,_,rfl,rfl,.pure bO⟩,trivial⟩
 rintro i hi
 have hwl:=Fa x f (l.take i)
 rw [List.length_take]at hwl
 refine aa [674,765] ?_
 refine cm rfl (fun hc15=>?_) (fun hc15=>?_)
 ·have h10 : i < l.length := by have := of_decide_eq_true hc15; omega
  obtain⟨q,hq⟩:∃q,l[i]? =some q:=⟨_,List.getElem?_eq_getElem h10⟩
  refine aa [655,3,30,519] ?_
  refine bK 1 [] [(4,none)] (cu de rfl rfl rfl) rfl rfl ?_
  refine aa [17,31] ?_
  refine bK 4 [2,3] [] (cf i Tryz.underlying30 bL rfl rfl rfl aq rfl) rfl rfl <| bK 5 [4] [] (bM bL rfl rfl (ee hq)) rfl rfl <| c7 false 6 [0,1,5] [] cz rfl (.cons (.pure pu) (.cons (.pure pu) (.cons (.pure pu) (.nil)))) (bU.cast (Ov x f.lv f.nb q f.D hx hfD) (Eu ..)) pu (.inl rfl) rfl rfl ?_
  refine aa [126,149,238] ?_
  refine bK 10 [8] [] (bE rfl) rfl rfl ?_
  refine aa [2,662,646] ?_
  refine cm rfl (fun hc28=>?_) (fun hc28=>?_)
  ·have hwn := HY hq hc28
   refine aa [758,58,39,482] ?_
   refine bJ rfl (dR 35 rfl Tryz.underlying30 bL rfl (.sl rfl aA) rfl (dH rfl ar) aA aC aq rfl (Bp hq hc28) rfl ?_)
   refine aa [686] ?_
   exact cO (i+1) aq aq [(3,some 3),(4,some 4),(135,some 35)] hI rfl rfl ⟨⟨_,rfl,.pure pu⟩,⟨_,rfl,.p rfl⟩,⟨_,rfl,.p rfl⟩,⟨_,rfl,.sl rfl ar⟩,⟨_,rfl,.pure pu⟩,trivial⟩ ⟨.inr ⟨_,_,rfl,rfl,.pure bO⟩,.inr ⟨_,_,rfl,rfl,.pure bO⟩,.inr ⟨_,_,rfl,rfl,.pure bO⟩,trivial⟩
  ·have hfm := HZ hq hc28
   have hwn:(iU x f (l.take i)).length=(iU x f (l.take (i+1))).length:=by rw [hfm]
   refine aa [676] ?_
   exact cO (i+1) aq aq [(3,some 3),(4,some 4),(135,some 135)] hI rfl rfl ⟨⟨_,rfl,.pure pu⟩,⟨_,rfl,.p rfl⟩,⟨_,rfl,.p rfl⟩,⟨_,rfl,.sl rfl ar⟩,⟨_,rfl,.pure pu⟩,trivial⟩ ⟨.inr ⟨_,_,rfl,rfl,.pure bO⟩,.inr ⟨_,_,rfl,rfl,.pure bO⟩,.inr ⟨_,_,rfl,rfl,.of (by rw [hfm]) (.pure bO)⟩,trivial⟩
 ·obtain rfl : i = l.length := by have := of_decide_eq_false hc15; omega
  refine aa [684] ?_
  refine gm 7 rfl rfl bO (dD aA rfl) <| lu 7 rfl (v':=kg (iU x f l)) aN ?_
  refine aa [649,650,124] ?_
  rfl
-- C4N
theorem Gm (x:List UInt8) (hx:x.length=32) (p q:List Int) (hp:p.length≤100) (hq100:q.length≤100):bU Tryz.prog 59 [.ag (x.map u8),.fz p.length (p.map (A.i .i64)),.fz q.length (q.map (A.i .i64))] (cl (qY x p q)):=by
 refine enter Tryz.func59 rfl Tryz.ntmps59 aw (Nat.le_of_ble_eq_true rfl) fun w0 X0 hI=>?_
 refine aa [689] ?_
 refine bJ rfl (cI 6 rfl dO rfl rfl ?_)
 refine aa [703] ?_
 rcases FV p q with hcs|hcs|hcs|hcs
 ·obtain ⟨h1, hb⟩ := hcs
  refine aa [649,243,37,0,725,12,705,12,679,319,90,24,668,91,107,108] ?_
  show A.tu _=_;rw [qZ hb];rfl
 ·obtain ⟨h1, h2, hb⟩ := hcs
  refine aa [649,243,43,716,320,140,705,12,679,319,90,24,668,91,107,108] ?_
  show A.tu _=_;rw [qZ hb];rfl
 ·obtain ⟨h1, h2, h3, hb⟩ := hcs
  refine aa [649,243,43,716,320,723,7,520,679,319,90,24,668,91,107,108] ?_
  show A.tu _=_;rw [qZ hb];rfl
 ·obtain ⟨h1, h2, h3, hb⟩ := hcs
  refine aa [649,243,43,716,320,723,7,520,673,669,71] ?_
  refine s1 (eP (out:=_) [(List.replicate 32 (.int .u8 0)).map cn, [cn (.slice none 0 0)], [cn (.slice none 0 0)]] dO rfl Tryz.underlying60 aw rfl rfl ⟨⟨by(first|rfl|omega|(simp;done)|(simp [*];done)|(simp [cw, *];done)),rfl⟩,trivial⟩ rfl) rfl <| bJ rfl (cI 8 rfl dO rfl rfl ?_)
  refine lu 28 rfl (v':= .ag (x.map u8++ [.nl,.nl])) rfl ?_
  refine aa [90,654] ?_
  refine dP 8 (cs':=x.map u8++ [.nl,.nl]) rfl aA ?_
  refine aa [649,664,652,9] ?_
  refine c5 (ι:=Nat) (fun n=> [(3,.p 3 0),(6,.p 6 0),(8,.p 8 0),(9,kg (bS x p q n).2.1),(10,kg (bS x p q n).2.2)]) (fun n=>⟨[(3,some (x.map u8)),(6,some (Jn)),(8,some (x.map u8++ [.sl 150 3 0 n,.nl])),(150,some ((bS x p q n).1.flatMap gV))]⟩) (fun n=>n≤16∧∀t,t<n→lH x p q t=true) (fun n=>16 - n) ?_ ?_
  ·exact c4 (0) (⟨by omega,fun t ht=>absurd ht aq⟩) [(3,some 3),(6,some 6),(8,some 8),(150,none)] hI rfl rfl ⟨⟨_,rfl,.p rfl⟩,⟨_,rfl,.p rfl⟩,⟨_,rfl,.p rfl⟩,⟨_,rfl,.pure pu⟩,⟨_,rfl,.pure pu⟩,trivial⟩ ⟨.inr ⟨_,_,rfl,rfl,.pure bO⟩,.inr ⟨_,_,rfl,rfl,.pure bO⟩,.inr ⟨_,_,rfl,rfl,.app (.pure bO) (.cons (.nl rfl) (.cons (.pure pu) .nil))⟩,.inl ⟨rfl,rfl⟩,trivial⟩
  rintro n ⟨hn,hgo⟩
  obtain⟨hal,hbl⟩:=s5 (x:=x) hp hq100 n
  have hfl:((bS x p q n).1.flatMap gV).length=n*3:=by rw [rC,ko]
  have hnum:=(Cc (x:=x) hb n).1
  refine aa [699,19,647] ?_
  refine ji 34 rfl (fun hc34=>?_) (fun hc34=>?_)
  ·have h34 : 0 < (bS x p q n).2.1.length := by have := of_decide_eq_true hc34; omega
   refine aa [290,397,398,763] ?_
   refine cm rfl (fun hc39=>?_) (fun hc39=>?_)
   ·have h41 : n < 16 := by have := of_decide_eq_true hc39; omega
    refine aa [681,9,645,71,29,184,73,0] ?_
    refine bJ rfl (b7 false rfl (.cons (.pure pu) (.cons (.pure pu) (.cons (.pure pu) (.nil)))) (Oo x hx n h41 (bS x p q n).2.1 hal hnum) pu (.inl rfl) rfl ?_)
    refine bJ rfl (cI 11 rfl de rfl rfl ?_)
    refine aa [18,653,29,184,142] ?_
    refine bJ rfl (gC 49 rfl Tryz.underlying58 de rfl rfl rfl aD rfl rfl rfl rfl ?_)
    refine bJ rfl (dR 50 rfl Tryz.underlying58 de rfl (.sl rfl (by rw [hfl])) rfl (dH rfl ar) rfl aC aq rfl (Ca x p q n) rfl ?_)
    refine aa [29,399,653,71,142,0] ?_
    refine bJ rfl (b7 false rfl (.cons (.pure pu) (.cons (.pure pu) (.cons (.pure pu) (.nil)))) (Pe x hx (lG x n (bS x p q n).2.1) (Mc x n _) (bS x p q n).2.2 hbl) pu (.inl rfl) rfl ?_)
    refine aa [646,665,658,760] ?_
    exact cO (n+1) (⟨by omega,u9 hgo (Em h34)⟩) aq [(3,some 3),(6,some 6),(8,some 8),(150,some 50)] hI rfl rfl ⟨⟨_,rfl,.p rfl⟩,⟨_,rfl,.p rfl⟩,⟨_,rfl,.p rfl⟩,⟨_,rfl,.pure pu⟩,⟨_,rfl,.pure pu⟩,trivial⟩ ⟨.inr ⟨_,_,rfl,rfl,.pure bO⟩,.inr ⟨_,_,rfl,rfl,.pure bO⟩,.inr ⟨_,_,rfl,rfl,.app (.pure bO) (.cons (.sl rfl ar) (.cons (.pure pu) .nil))⟩,.inr ⟨_,_,rfl,rfl,.pure bO⟩,trivial⟩
   ·have h41 : n = 16 := by have := of_decide_eq_false hc39; omega
    subst h41
    have hend:=zI hgo
    refine aa [722,74,185,654] ?_
    refine jL 8 32 rfl aK rfl rfl bO (dD (by rw [rC,ko]) rfl) (sy hx _ _ _) ?_
    refine dP 8 (cs':=fE (fT x p q)) rfl (vp hend) ?_
    refine aa [1,186,521,657,187] ?_
    show A.tu _=_;rw [oA hb]
  ·have h34 : ¬ 0 < (bS x p q n).2.1.length := by have := of_decide_eq_false hc34; omega
   have hend:=DA hn hgo h34
   refine aa [688,673,722,74,185,654] ?_
   refine jL 8 32 rfl aK rfl rfl bO (dD (by rw [rC,ko]) rfl) (sy hx _ _ _) ?_
   refine dP 8 (cs':=fE (fT x p q)) rfl (vp hend) ?_
   refine aa [1,186,521,657,187] ?_
   show A.tu _=_;rw [oA hb]
end Go.Abs.D2
