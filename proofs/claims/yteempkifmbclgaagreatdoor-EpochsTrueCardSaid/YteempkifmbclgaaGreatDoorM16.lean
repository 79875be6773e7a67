/-
  The engine, the plain laws and the walks that the rows need, part 16. Conditions: none.
-/
import Derived.Test.YteempkifmbclgaaGreatDoorM15
import Derived.Lib.SlKeysI
set_option linter.unusedVariables false
set_option linter.unusedSimpArgs false
set_option maxHeartbeats 1000000
set_option maxRecDepth 10000
-- Abs4
namespace Go.Abs
open Go Go.Eng
section
variable {P:Program} {E:Ev} {st:St}
theorem Oa {t t' e ty:TypeId} {x y:Operand} {f0 f1:Field} {a b c d:Int} (ht:P.underlying t=some (.struct #[f0,f1])) (h0:f0.type=e) (h1:f1.type=e) (o0:f0.offset=0) (o1:f1.offset=1) (n0:f0.name≠ "_") (n1:f1.name≠ "_") (he:P.underlying e=some (.int .i64))
    (hp:P.stoodInHeld t=false) (hm:P.eqGuardType P.depth t=false) (hx:ev E x=some (.ag [.i .i64 a,.i .i64 b])) (hy:ev E y=some (.ag [.i .i64 c,.i .i64 d])):YO P E st (.binOp .neq t x y t') ty (.b (!(a==c&&b==d))):=by
  intro w0 X0 n β X ac w hr
  obtain⟨_,h2⟩:=hr.bc hx
  obtain⟨_,h4⟩:=hr.bc hy
  simp only [V]at h2 h4
  obtain⟨us,e1,e2,_⟩:=h2
  obtain⟨vs,e3,e4,_⟩:=h4
  simp only [VS,V]at e2 e4
  obtain⟨u1,r1,rfl,rfl,u2,r2,rfl,rfl,rfl⟩:=e2
  obtain⟨v1,s1,rfl,rfl,v2,s2,rfl,rfl,rfl⟩:=e4
  refine⟨.bool (!(a==c&&b==d)),by simp only [V],fun dd pos av g w' _=>?_⟩
  have hf:P.fieldsOf t= #[f0,f1]:=by simp [Program.fieldsOf,ht]
  have p0:=pE (P:=P) (w:=w') he (l:= [.int .i64 a,.int .i64 b]) (i:=0) (v:= .int .i64 a) rfl
  have p1:=pE (P:=P) (w:=w') he (l:= [.int .i64 a,.int .i64 b]) (i:=1) (v:= .int .i64 b) rfl
  have q0:=pE (P:=P) (w:=w') he (l:= [.int .i64 c,.int .i64 d]) (i:=0) (v:= .int .i64 c) rfl
  have q1:=pE (P:=P) (w:=w') he (l:= [.int .i64 c,.int .i64 d]) (i:=1) (v:= .int .i64 d) rfl
  have hr':(Op.eqFields 9999 #[.int .i64 a,.int .i64 b] #[.int .i64 c,.int .i64 d] [f0,f1]).run P w'= .ok (a==c&&b==d) w':=by
    simp only [Op.eqFields,h0,h1,o0,o1,n0,n1,ne_eq,not_false_eq_true,if_true,Sem.run_bind]
    rw [p0]
    simp only [Result.andThen_ok]
    rw [q0]
    simp only [Result.andThen_ok]
    rw [run_equalIn_int w' 9998 e .i64 .i64 a c he]
    simp only [Result.andThen_ok]
    cases hac:a==c with
    |false=>simp
    | true =>
      simp only [Bool.not_true,Bool.false_eq_true,if_false,Sem.run_bind,Bool.true_and]
      rw [p1]
      simp only [Result.andThen_ok]
      rw [q1]
      simp only [Result.andThen_ok]
      rw [run_equalIn_int w' 9998 e .i64 .i64 b d he]
      simp only [Result.andThen_ok]
      cases b==d<;>simp
  simp only [execOp,e1,e3]
  rw [Sem.run_bind,Sem.run_bind,run_eqGuard_agg (P:=P) w' .neq t x y _ _ hm]
  simp only [Result.andThen_ok]
  rw [run_neq_struct,run_equalIn_struct w' 9999 t _ _ (by rw [hf];exact ht) hp,hf]
  have:(#[f0,f1]:Array Field).toList= [f0,f1]:=rfl
  rw [this,hr']
  rfl
end
theorem y5 {X:Xs} {w:World} {β:Bm}:∀l:List Int,VS X w β (l.map (A.i .i64)) (l.map Go.encZ)
  | []=>dA
  |_::l=>cM (by simp only [V]) (y5 l)
theorem G3 {P : Program} {f : FuncId} {args : List A} {s0 : St} {L : List Int} {e : TypeId} (nid : Nat) (hnew : s0.free nid = true) {upds : List (Nat × List A)} (hu : ∀ p ∈ upds, s0.get p.1 = some p.2)
    (h:∀w X β us (hd:∀id,s0.free id=true→β id=none),(∀b o,X b o→b<w.heap.size)→(∀id cs,s0.get id=some cs→OB β X w (bw w β s0 hd) id cs)→VS X w β args us→
      ko P f∧Calls P f us.toArray w fun e' w'=>∃v,e'= .returned v∧w'.ownsRow w.heap.size e 1 v L.length (L.map Go.encZ)∧RowKit.Below w.heap.size w w'):cv P f args s0 (fY 1 L.length (L.map (A.i .i64)) upds):=by
  intro w X β us hd hX hgl ho hi hv
  obtain⟨c,k⟩:=h w X β us hd hX ho hv
  refine⟨c,k.mono fun e' w' ⟨v,hv',hrow,hb⟩=>⟨v,hv',?_⟩⟩
  have hxe:bU X X w w':=fun b o h=>⟨h,World.cell?_of_block (w:=w) (hb.block b (hX b o h))⟩
  have hnx:=hd nid hnew
  have hob:∀(y:BL) id cs,s0.get id=some cs→OB (bT β nid y) X w' (bw w β s0 hd) id cs:=fun y id cs hg=>by
    refine(ho id cs hg).later hxe (b5 hnx) (fun q M hq=>?_) fun q hq=>?_
    · have h1 := (ho id cs hg).kK hq rfl
      exact⟨hb.block q h1.1,h1.2.2⟩
    · have h1 := (ho id cs hg).dW hq
      exact⟨hb.block q ((ho id cs hg).np hq),h1.2.2.1⟩
  have hne:∀id cs,s0.get id=some cs→nid≠id:=fun id cs hg e=>by subst e;rw [nc hg]at hnew;cases hnew
  have hup:∀cells,∀p∈upds,(s0.put nid cells).get p.1=some p.2∧p.1≠nid:=fun cells p hp=>by
    have h1:=hne p.1 p.2 (hu p hp)
    exact⟨by rw [St.b6,if_neg h1];exact hu p hp,fun e=>h1 e.symm⟩
  have main:∀(y:BL) (cells:List A),OB (bT β nid y) X w' (bw w β s0 hd) nid cells→(∀b N,y= .bk b N→w.heap.size≤b)→Mem (bw w β s0 hd) (bT β nid y) X (s0.put nid cells) w':=fun y cells hy hfr=>by
    refine .of ⟨hb.os,hb.tape,hb.output,hb.size,fun k hk _=>hb.block k hk,fun s hs=>by cases hs⟩ (b5 hnx) (fun q o h=>Nat.lt_of_lt_of_le (hX q o h) hb.size) (fun id hf=>?_) (fun id cs hg=>?_) (fun i j ci cj b M N hij hgi hgj hbi hbj=>?_)
    · rw [St.ef] at hf
      split at hf
      · cases hf
      · rename_i hn
        rw [bW (fun e=>hn e.symm)]
        exact hd id hf
    · rw [St.b6] at hg
      split at hg
      · rename_i e1; subst e1
        simp only [Option.some.injEq]at hg
        subst hg
        exact hy
      · exact hob y id cs hg
    · rw [St.b6] at hgi hgj
      have hlt:∀id cs b N,s0.get id=some cs→β id=some (.bk b N)→b<w.heap.size:=fun id cs b N hg hβ=>((ho id cs hg).kK hβ rfl).1
      by_cases ei:nid=i
      · by_cases ej : nid = j
        · omega
        · rw [if_neg ej] at hgj
          rw [←ei,bq]at hbi
          rw [bW (fun e=>ej e.symm)]at hbj
          simp only [Option.some.injEq]at hbi
          have:=hfr b M hbi
          have:=hlt j cj b N hgj hbj
          omega
      · rw [if_neg ei] at hgi
        rw [bW (fun e=>ei e.symm)]at hbi
        by_cases ej:nid=j
        · rw [← ej, bq] at hbj
          simp only [Option.some.injEq]at hbj
          have:=hfr b N hbj
          have:=hlt i ci b M hgi hbi
          omega
        · rw [if_neg ej] at hgj
          rw [bW (fun e=>ej e.symm)]at hbj
          exact hi i j ci cj b M N hij hgi hgj hbi hbj
  rcases hrow.2 with ⟨rfl,hz⟩|⟨g,cap,cur,rfl,hbase,hg,r1,r2,r3,r4⟩
  · have hL : L = [] := List.eq_nil_of_length_eq_zero hz
    subst hL
    refine⟨.sl nid 1 0 0,_,X,s0.put nid [],⟨nid,rfl,by rw [St.b6,if_pos rfl];rfl,hup []⟩,fun _ _ h=>h,fun _ _ h=> .inl h,main .ph [] (by unfold OB;rw [bq]) (fun b N h=>by cases h),?_⟩
    simp only [V]
    refine .inl ⟨bq,?_⟩
    simp
  · refine ⟨.sl nid 1 0 L.length, _, X, s0.put nid (L.map (A.i .i64)), ⟨nid, rfl, by rw [St.b6, if_pos rfl], hup _⟩, fun _ _ h => h, fun _ _ h => .inl h, main (.bk g cap) _ ?_ (fun b N h => by cases h; exact hbase), ?_⟩
    · unfold OB
      rw [bq]
      refine⟨.inl hbase,fun o h=>by have:=hX g o h;omega,L.map Go.encZ,cur.toList.drop L.length,e,?_,?_,eu (fun b o h=>⟨h,rfl⟩) _ _ _ _ (fun id y h=>h) (y5 L),fun x hx=>by obtain⟨a,_,rfl⟩:=List.mem_map.1 hx;rfl⟩
      · rw [hg]
        have:L.map Go.encZ++cur.toList.drop L.length=cur.toList:=by rw [←r4,Nat.mul_one,List.take_append_drop]
        rw [this]
      · have hcl : cur.toList.length = cur.size := Array.length_toList
        rw [List.length_map,List.length_drop];omega
    · simp only [V]
      exact .inr ⟨g,cap,cap,bq,rfl,r1,r2,by omega⟩
end Go.Abs
-- E5J
namespace Go.Abs.D2
open Go Go.Eng Go.Abs Go.Proofs
theorem xv (n:Int) (ids:List Int) (S:List Sp) (hn:S.length≤maxLen):aw Tryz.prog 25 [.i .i64 n,.fz ids.length (ids.map (A.i .i64)),.fz S.length (jI S)] (aO (.b (l8 n ids S))):=by
 refine enter Tryz.func25 rfl Tryz.ntmps25 (by kernel_rfl) (Nat.le_of_ble_eq_true rfl) fun w0 X0 hI=>?_
 refine af<|ai<|s1 (aa rfl) rfl ?_
 refine ah<|ae<|af<|af ?_
 simp only [maxLen]at hn
 refine ai<|s1 ((aa rfl).v (v':= .i .i64 0) rfl) rfl ?_
 refine ah<|ae<|aI ?_
 refine bD (ι:=Nat) (fun i=> [(0,.i .i64 n),(1,.fz ids.length (ids.map (A.i .i64))),(2,.fz S.length (jI S)),(7,nJ i)]) (fun i=>⟨[]⟩) (fun i=>i≤S.length∧∀s∈S.take i,s.ch.length≤10) (fun i=>S.length - i) ?_ ?_
 ·exact bC (0) (⟨Nat.zero_le _,fun s hs=>by simp at hs⟩) [] hI rfl rfl ⟨⟨_,rfl,.pure pu⟩,⟨_,rfl,.pure pu⟩,⟨_,rfl,.pure pu⟩,⟨_,rfl,.pure pu⟩,trivial⟩ trivial
 rintro i ⟨hi,hall⟩
 refine af<|af<|ai<|s1 (aa rfl) rfl<|s1 (aa rfl) rfl<|s1 (a7 Tryz.underlying48 rfl rfl rfl) rfl<|s1 (aa rfl) rfl ?_
 refine ah<|ae ?_
 refine aK rfl (fun hc11=>?_) (fun hc11=>?_)
 ·have h11 : i < S.length := by have := of_decide_eq_true hc11; omega
  obtain⟨s,hs⟩:∃s,S[i]? =some s:=⟨_,List.getElem?_eq_getElem h11⟩
  refine aE<|ae<|af<|aI<|af<|ai<|s1 (aa rfl) rfl<|s1 (aa rfl) rfl<|s1 (bb i Tryz.underlying48 rB rfl rfl rfl (by omega) rfl) rfl<|s1 (dz Tryz.underlying116 rfl cl (by decide) rfl rfl) rfl<|s1 (au cl rfl rfl (rv hs (k:=1) rfl (by decide))) rfl<|s1 (a7 Tryz.underlying31 rfl rfl rfl) rfl<|s1 (aa rfl) rfl ?_
  refine ah<|ae ?_
  refine aK rfl (fun hc20=>?_) (fun hc20=>?_)
  ·have h20 : ¬ s.ch.length ≤ 10 := by have := of_decide_eq_true hc20; omega
   refine af<|ai<|s1 (aa rfl) rfl ?_
   refine ah<|ae<|aB<|bI<|aN<|aN<|bI<|aN ?_
   refine aC (rs:= [.tmp 6]) rfl (aA rfl az) ?_
   exact congrArg A.b (Ie (List.mem_of_getElem? hs) h20).symm
  ·have h20 : s.ch.length ≤ 10 := by have := of_decide_eq_false hc20; omega
   refine aE<|a8<|ae<|ai<|s1 (aa rfl) rfl<|s1 (aZ _ 1 rfl rfl rfl rfl (by omega)) rfl<|s1 (aa rfl) rfl ?_
   refine ah ?_
   exact bf (i+1) (⟨by omega,FF hs hall h20⟩) (by omega) [] hI rfl rfl ⟨⟨_,rfl,.pure pu⟩,⟨_,rfl,.pure pu⟩,⟨_,rfl,.pure pu⟩,⟨_,rfl,.pure pu⟩,trivial⟩ trivial
 ·obtain rfl : i = S.length := by have := of_decide_eq_false hc11; omega
  rw [List.take_length]at hall
  refine bx<|aM<|aM<|bA<|ae<|af<|ai<|s1 (aa rfl) rfl<|s1 (a7 Tryz.underlying48 rfl rfl rfl) rfl<|s1 (aa rfl) rfl<|s1 (aa rfl) rfl ?_
  refine cT 2 rfl rfl rfl rfl (fun hb24=> .step (aa rfl) rfl rfl<| .step (aa rfl) rfl rfl<| .done) rfl rfl ?_
  refine s1 (aa rfl) rfl ?_
  refine cT 3 rfl rfl rfl rfl (fun hb28=> .step (aa rfl) rfl rfl<| .step (a7 Tryz.underlying30 rfl rfl rfl) rfl rfl<| .step (aa rfl) rfl rfl<| .done) rfl rfl ?_
  refine s1 (aa rfl) rfl ?_
  refine ah<|ae<|aB ?_
  refine aC (rs:= [.tmp 6]) rfl (aA rfl az) ?_
  exact congrArg A.b (Ic hall).symm
theorem JV (x:List UInt8) (n iss:Int) (ids:List Int) (S:List Sp) (hx:x.length=32) (hi:rg iss) (hids:ids.length≤100) (hS:∀s∈S,s.ok) (hc:∀s∈S,s.ch.length≤10) (hn:S.length≤100):aw Tryz.prog 26 [.ag (x.map u8),.i .i64 n,.i .i64 iss,.fz ids.length (ids.map (A.i .i64)),.fz S.length (jI S)] (aO (cQ (jA x n iss ids [] S))):=by
 refine enter Tryz.func26 rfl Tryz.ntmps26 (by kernel_rfl) (Nat.le_of_ble_eq_true rfl) fun w0 X0 hI=>?_
 refine af<|ai ?_
 refine aj rfl (bF 5 rfl rfl rfl ?_)
 refine s1 (aa rfl) rfl ?_
 refine ah<|ae<|af<|ai ?_
 refine aj rfl (kJ Tryz.underlying24 bu rfl rfl rfl (by first|(simp [aU];done)|(simp [aU, *];done)) (show gU []= []from rfl) ak rfl rfl rfl ?_)
 refine s1 (aa rfl) rfl ?_
 refine ah<|ae<|af<|af<|ai<|s1 ((aa rfl).v (v':= .i .i64 0) rfl) rfl ?_
 refine ah<|ae<|aI ?_
 refine bD (ι:=Nat×List Ep) (fun⟨i,l⟩=> [(1,.i .i64 n),(2,.i .i64 iss),(3,.fz ids.length (ids.map (A.i .i64))),(4,.fz S.length (jI S)),(5,.p 5 0),(11,cQ l),(12,nJ i)]) (fun⟨i,l⟩=>⟨[(5,some (x.map u8))]⟩) (fun⟨i,l⟩=>i≤S.length∧c6 l∧l.length≤i∧jA x n iss ids [] S=jA x n iss ids l (S.drop i)) (fun⟨i,l⟩=>S.length - i) ?_ ?_
 ·exact bC ((0, [])) (⟨Nat.zero_le _,(fun e he=>by cases he),Nat.le_refl _,rfl⟩) [(5,some 5)] hI rfl rfl ⟨⟨_,rfl,.pure pu⟩,⟨_,rfl,.pure pu⟩,⟨_,rfl,.pure pu⟩,⟨_,rfl,.pure pu⟩,⟨_,rfl,.p rfl⟩,⟨_,rfl,.pure pu⟩,⟨_,rfl,.pure pu⟩,trivial⟩ ⟨.inr ⟨_,_,rfl,rfl,.pure ak⟩,trivial⟩
 rintro⟨i,l⟩ ⟨hii,hl,hll,hst⟩
 dsimp only
 refine af<|af<|ai<|s1 (aa rfl) rfl<|s1 (aa rfl) rfl<|s1 (a7 Tryz.underlying48 rfl rfl rfl) rfl<|s1 (aa rfl) rfl ?_
 refine ah<|ae ?_
 refine aK rfl (fun hc19=>?_) (fun hc19=>?_)
 ·have h19 : i < S.length := by have := of_decide_eq_true hc19; omega
  obtain⟨s,hs⟩:∃s,S[i]? =some s:=⟨_,List.getElem?_eq_getElem h19⟩
  have hsm:=List.mem_of_getElem? hs
  have hso:=hS s hsm
  have hsc:=hc s hsm
  refine aE<|ae<|af<|aI<|af ?_
  rcases Ng (dY x n l iss s.day ids s.ch)with hcs|hcs
  ·obtain ⟨v, hp⟩ := hcs
   have hv:=Lp hp
   refine cr ⟨_, [], []⟩ 20 4 br (le_refl rfl) ?_
   refine aq 0 [] [(5,none)] (aG ar rfl rfl (by rw [List.length_map,hx])) rfl rfl ?_
   refine aq 1 [] [] (aa rfl) rfl rfl ?_
   refine aq 2 [] [] (aa rfl) rfl rfl ?_
   refine aq 3 [] [] (aa rfl) rfl rfl ?_
   refine aq 4 [] [] (aa rfl) rfl rfl ?_
   refine aq 5 [] [] (aa rfl) rfl rfl ?_
   refine aq 6 [4,5] [] (bb i Tryz.underlying48 rB rfl rfl rfl (by omega) rfl) rfl rfl ?_
   refine aq 7 [6] [] (dz Tryz.underlying116 rfl an (by decide) rfl rfl) rfl rfl ?_
   refine aq 8 [7] [] (au an rfl rfl (rv hs (k:=0) rfl (by decide))) rfl rfl ?_
   refine aq 9 [] [] (aa rfl) rfl rfl ?_
   refine aq 10 [] [] (aa rfl) rfl rfl ?_
   refine aq 11 [] [] (aa rfl) rfl rfl ?_
   refine aq 12 [10,11] [] (bb i Tryz.underlying48 rB rfl rfl rfl (by omega) rfl) rfl rfl ?_
   refine aq 13 [12] [] (dz Tryz.underlying116 rfl cl (by decide) rfl rfl) rfl rfl ?_
   refine aq 14 [13] [] (au cl rfl rfl (rv hs (k:=1) rfl (by decide))) rfl rfl ?_
   refine bL false 15 [0,1,2,3,8,9,14] [] aV rfl (.cons (.pure pu) (.cons (.pure pu) (.cons (.pure pu) (.cons (.pure pu) (.cons (.pure pu) (.cons (.pure pu) (.cons (.pure pu) (.nil)))))))) (aw.cast (oD x n l iss s.day ids s.ch hx hl (by omega) hi hso.1 (by omega) (by omega) hso.2) (show _=A.tu [.nl,.i .i64 v] by rw [hp];rfl)) pu (.inl rfl) rfl rfl ?_
   refine aq 16 [15] [] (aa rfl) rfl rfl ?_
   refine aq 17 [16] [] (aa rfl) rfl rfl ?_
   refine aq 18 [16] [] (aa rfl) rfl rfl ?_
   refine aq 19 [17] [] (aa rfl) rfl rfl ?_
   refine ct (by kernel_rfl) ?_
   refine s1 (aa rfl) rfl ?_
   refine ah<|ae<|af<|ai<|s1 (aa rfl) rfl<|s1 ((aa rfl).v (v':= .b false) (congrArg A.b (beq_eq_false_iff_ne.2 hv))) rfl ?_
   refine ah<|ae ?_
   refine bO rfl ?_
   refine aE<|a8<|ae<|ai<|s1 (aa rfl) rfl<|s1 (aZ _ 1 rfl rfl rfl rfl (by omega)) rfl<|s1 (aa rfl) rfl ?_
   refine ah ?_
   exact bf (x:=(i,l)) ((i+1,l)) (⟨show i+1≤S.length by omega,hl,show l.length≤i+1 by omega,hst.trans ((Ds hs).trans (by rw [hp];rfl))⟩) (show S.length - (i+1)<S.length - i by omega) [(5,some 5)] hI rfl rfl ⟨⟨_,rfl,.pure pu⟩,⟨_,rfl,.pure pu⟩,⟨_,rfl,.pure pu⟩,⟨_,rfl,.pure pu⟩,⟨_,rfl,.p rfl⟩,⟨_,rfl,.pure pu⟩,⟨_,rfl,.pure pu⟩,trivial⟩ ⟨.inr ⟨_,_,rfl,rfl,.pure ak⟩,trivial⟩
  ·obtain ⟨e, hp⟩ := hcs
   have hao:=zf (x:=x) (n:=n) (ids:=ids) hl (by omega) hi hso.1 (by omega:s.ch.length≤1000) hso.2
   rw [hp]at hao
   simp only [oc]at hao
   refine cr ⟨_, [], []⟩ 20 4 br (le_refl rfl) ?_
   refine aq 0 [] [(5,none)] (aG ar rfl rfl (by rw [List.length_map,hx])) rfl rfl ?_
   refine aq 1 [] [] (aa rfl) rfl rfl ?_
   refine aq 2 [] [] (aa rfl) rfl rfl ?_
   refine aq 3 [] [] (aa rfl) rfl rfl ?_
   refine aq 4 [] [] (aa rfl) rfl rfl ?_
   refine aq 5 [] [] (aa rfl) rfl rfl ?_
   refine aq 6 [4,5] [] (bb i Tryz.underlying48 rB rfl rfl rfl (by omega) rfl) rfl rfl ?_
   refine aq 7 [6] [] (dz Tryz.underlying116 rfl an (by decide) rfl rfl) rfl rfl ?_
   refine aq 8 [7] [] (au an rfl rfl (rv hs (k:=0) rfl (by decide))) rfl rfl ?_
   refine aq 9 [] [] (aa rfl) rfl rfl ?_
   refine aq 10 [] [] (aa rfl) rfl rfl ?_
   refine aq 11 [] [] (aa rfl) rfl rfl ?_
   refine aq 12 [10,11] [] (bb i Tryz.underlying48 rB rfl rfl rfl (by omega) rfl) rfl rfl ?_
   refine aq 13 [12] [] (dz Tryz.underlying116 rfl cl (by decide) rfl rfl) rfl rfl ?_
   refine aq 14 [13] [] (au cl rfl rfl (rv hs (k:=1) rfl (by decide))) rfl rfl ?_
   refine bL false 15 [0,1,2,3,8,9,14] [] aV rfl (.cons (.pure pu) (.cons (.pure pu) (.cons (.pure pu) (.cons (.pure pu) (.cons (.pure pu) (.cons (.pure pu) (.cons (.pure pu) (.nil)))))))) (aw.cast (oD x n l iss s.day ids s.ch hx hl (by omega) hi hso.1 (by omega) (by omega) hso.2) (show _=A.tu [cQ (l++ [e]),.i .i64 0] by rw [hp];rfl)) pu (.inl rfl) rfl rfl ?_
   refine aq 16 [15] [] (aa rfl) rfl rfl ?_
   refine aq 17 [16] [] (aa rfl) rfl rfl ?_
   refine aq 18 [16] [] (aa rfl) rfl rfl ?_
   refine aq 19 [17] [] (aa rfl) rfl rfl ?_
   refine ct (by kernel_rfl) ?_
   refine s1 (aa rfl) rfl ?_
   refine ah<|ae<|af<|ai<|s1 (aa rfl) rfl<|s1 ((aa rfl).v (v':= .b true) (rfl)) rfl ?_
   refine ah<|ae ?_
   refine cN rfl ?_
   refine ai<|s1 (aa rfl) rfl<|s1 (aa rfl) rfl ?_
   refine ah<|a8<|ae<|ai<|s1 (aa rfl) rfl<|s1 (aZ _ 1 rfl rfl rfl rfl (by omega)) rfl<|s1 (aa rfl) rfl ?_
   refine ah ?_
   exact bf (x:=(i,l)) ((i+1,l++ [e])) (⟨show i+1≤S.length by omega,hao.1,Nat.le_trans hao.2 (by omega),hst.trans ((Ds hs).trans (by rw [hp];rfl))⟩) (show S.length - (i+1)<S.length - i by omega) [(5,some 5)] hI rfl rfl ⟨⟨_,rfl,.pure pu⟩,⟨_,rfl,.pure pu⟩,⟨_,rfl,.pure pu⟩,⟨_,rfl,.pure pu⟩,⟨_,rfl,.p rfl⟩,⟨_,rfl,.pure pu⟩,⟨_,rfl,.pure pu⟩,trivial⟩ ⟨.inr ⟨_,_,rfl,rfl,.pure ak⟩,trivial⟩
 ·obtain rfl : i = S.length := by have := of_decide_eq_false hc19; omega
  rw [List.drop_length]at hst
  refine bx<|aM<|aM<|bA<|ae<|af<|ai<|s1 (aa rfl) rfl<|s1 (aa rfl) rfl ?_
  refine ah<|ae<|aB ?_
  refine aC (rs:= [.tmp 10]) rfl (aA rfl az) ?_
  rw [hst];rfl
theorem rl (a b:List Ch) (ha:a.length≤maxLen) (hb:b.length≤maxLen):aw Tryz.prog 24 [dS a,dS b] (aO (.b (fq a b))):=by
 refine enter Tryz.func24 rfl Tryz.ntmps24 (by kernel_rfl) (Nat.le_of_ble_eq_true rfl) fun w0 X0 hI=>?_
 refine af<|ai<|s1 (aa rfl) rfl ?_
 refine ah<|ae<|af<|af ?_
 simp only [maxLen]at ha hb
 refine ai<|s1 (aa rfl) rfl<|s1 (a7 Tryz.underlying31 rfl rfl rfl) rfl<|s1 (aa rfl) rfl<|s1 (a7 Tryz.underlying31 rfl rfl rfl) rfl<|s1 (aa rfl) rfl ?_
 refine ah<|ae ?_
 refine aK rfl (fun hc10=>?_) (fun hc10=>?_)
 ·have h10 : a.length ≠ b.length := by intro h; simp [h] at hc10
  refine af<|ai<|s1 (aa rfl) rfl ?_
  refine ah<|ae<|aB<|aN ?_
  refine aC (rs:= [.tmp 4]) rfl (aA rfl az) ?_
  exact congrArg A.b (Mt h10).symm
 ·have h10 : a.length = b.length := by simp at hc10; omega
  refine aE<|ae<|af<|af<|ai<|s1 ((aa rfl).v (v':= .i .i64 0) rfl) rfl ?_
  refine ah<|ae<|aI ?_
  refine bD (ι:=Nat) (fun i=> [(0,dS a),(1,dS b),(5,nJ i)]) (fun i=>⟨[]⟩) (fun i=>i≤a.length∧fq a b=fq (a.drop i) (b.drop i)) (fun i=>a.length - i) ?_ ?_
  ·exact bC (0) (⟨Nat.zero_le _,rfl⟩) [] hI rfl rfl ⟨⟨_,rfl,.pure pu⟩,⟨_,rfl,.pure pu⟩,⟨_,rfl,.pure pu⟩,trivial⟩ trivial
  rintro i ⟨hi,hst⟩
  refine af<|af<|ai<|s1 (aa rfl) rfl<|s1 (aa rfl) rfl<|s1 (a7 Tryz.underlying31 rfl rfl rfl) rfl<|s1 (aa rfl) rfl ?_
  refine ah<|ae ?_
  refine aK rfl (fun hc14=>?_) (fun hc14=>?_)
  ·have h14 : i < a.length := by have := of_decide_eq_true hc14; omega
   obtain⟨c,hc⟩:∃c,a[i]? =some c:=⟨_,List.getElem?_eq_getElem h14⟩
   obtain⟨d,hd⟩:∃d,b[i]? =some d:=⟨_,List.getElem?_eq_getElem (by omega)⟩
   refine aE<|ae<|af<|aI<|af ?_
   refine dc 8 br (by kernel_rfl) ?_
   refine t1 (aa rfl) rfl<|t1 (aa rfl) rfl<|t1 (bb i Tryz.underlying31 dD rfl rfl rfl (by omega) rfl) rfl<|t1 (bp dD rfl rfl (ql hc) rfl) rfl<|t1 (aa rfl) rfl<|t1 (aa rfl) rfl<|t1 (bb i Tryz.underlying31 dD rfl rfl rfl (by omega) rfl) rfl<|t1 (bp dD rfl rfl (ql hd) rfl) rfl ?_
   refine de ?_
   refine s1 (Oa Tryz.underlying55 rfl rfl rfl rfl (by decide) (by decide) Tryz.underlying3 (by kernel_rfl) (by kernel_rfl) rfl rfl) rfl ?_
   refine ah<|ae ?_
   refine aK rfl (fun hc25=>?_) (fun hc25=>?_)
   ·have h25 : (c.id == d.id && c.st == d.st) = false := by rw [Bool.not_eq_true'] at hc25; exact hc25
    refine af<|ai<|s1 (aa rfl) rfl ?_
    refine ah<|ae<|aB<|bI<|aN<|aN<|bI<|aN ?_
    refine aC (rs:= [.tmp 4]) rfl (aA rfl az) ?_
    exact congrArg A.b (hst.trans ((DY hc hd).trans (by rw [h25];rfl))).symm
   ·have h25 : (c.id == d.id && c.st == d.st) = true := by rw [Bool.not_eq_false'] at hc25; exact hc25
    refine aE<|a8<|ae<|ai<|s1 (aa rfl) rfl<|s1 (aZ _ 1 rfl rfl rfl rfl (by omega)) rfl<|s1 (aa rfl) rfl ?_
    refine ah ?_
    exact bf (i+1) (⟨by omega,hst.trans ((DY hc hd).trans (by rw [h25];rfl))⟩) (by omega) [] hI rfl rfl ⟨⟨_,rfl,.pure pu⟩,⟨_,rfl,.pure pu⟩,⟨_,rfl,.pure pu⟩,trivial⟩ trivial
  ·obtain rfl : i = a.length := by have := of_decide_eq_false hc14; omega
   rw [List.drop_length,h10,List.drop_length]at hst
   refine bx<|aM<|aM<|bA<|ae<|af<|ai<|s1 (aa rfl) rfl ?_
   refine ah<|ae<|aB ?_
   refine aC (rs:= [.tmp 4]) rfl (aA rfl az) ?_
   exact congrArg A.b hst.symm
end Go.Abs.D2
-- E6D
namespace Go.Abs.D2
open Go Go.Eng Go.Abs Go.Proofs
theorem D4 (L M:List (List UInt8)) (hL:aT L) (hM:aT M):aw Tryz.prog 162 [a6 L,a6 M] (aO (.b (L==M))):=by
 refine enter Tryz.func162 rfl Tryz.ntmps162 (by kernel_rfl) (Nat.le_of_ble_eq_true rfl) fun w0 X0 hI=>?_
 refine af ?_
 refine FX 0 rfl fun hmx=>?_
 simp only [maxLen]at hmx
 refine ai<|s1 (aa rfl) rfl ?_
 refine ah<|ae<|af<|af<|ai<|s1 (aa rfl) rfl<|s1 (a7 Tryz.underlying41 rfl rfl rfl) rfl<|s1 (aa rfl) rfl<|s1 (a7 Tryz.underlying41 rfl rfl rfl) rfl<|s1 (aa rfl) rfl ?_
 refine ah<|ae ?_
 refine aK rfl (fun hc10=>?_) (fun hc10=>?_)
 ·have h10 : L.length ≠ M.length := by have := bne_iff_ne.1 hc10; omega
  refine af<|ai<|s1 (aa rfl) rfl ?_
  refine ah<|ae<|aB<|aN ?_
  refine aC (rs:= [.tmp 4]) rfl (aA rfl az) ?_
  exact congrArg A.b (by rw [eq_comm,beq_eq_false_iff_ne];exact fun h=>h10 (congrArg List.length h))
 ·have h10 : L.length = M.length := by have := bne_eq_false_iff_eq.1 hc10; omega
  refine aE<|ae<|af<|af<|ai<|s1 ((aa rfl).v (v':= .i .i64 0) rfl) rfl ?_
  refine ah<|ae<|aI ?_
  refine bD (ι:=Nat) (fun j=> [(0,a6 L),(1,a6 M),(5,.i .i64 (j:Nat))]) (fun j=>⟨[]⟩) (fun j=>j≤L.length∧L.take j=M.take j) (fun j=>L.length - j) ?_ ?_
  ·exact bC (0) (⟨Nat.zero_le _,rfl⟩) [] hI rfl rfl ⟨⟨_,rfl,.pure pu⟩,⟨_,rfl,.pure pu⟩,⟨_,rfl,.pure pu⟩,trivial⟩ trivial
  rintro j ⟨hj,ht⟩
  refine af<|af<|ai<|s1 (aa rfl) rfl<|s1 (aa rfl) rfl<|s1 (a7 Tryz.underlying41 rfl rfl rfl) rfl<|s1 (aa rfl) rfl ?_
  refine ah<|ae ?_
  refine aK rfl (fun hc14=>?_) (fun hc14=>?_)
  ·have hj2 : j < L.length := by have := of_decide_eq_true hc14; omega
   obtain⟨q,hq⟩:∃q,L[j]? =some q:=⟨_,List.getElem?_eq_getElem hj2⟩
   obtain⟨r,hr⟩:∃r,M[j]? =some r:=⟨_,List.getElem?_eq_getElem (by omega)⟩
   have hq32:=hL q (List.mem_of_getElem? hq)
   have hr32:=hM r (List.mem_of_getElem? hr)
   refine aE<|ae<|af<|aI<|af ?_
   refine dc 8 br (by kernel_rfl) ?_
   refine t1 (aa rfl) rfl<|t1 (aa rfl) rfl<|t1 (bb _ Tryz.underlying41 ar rfl rfl rfl (by omega) rfl) rfl<|t1 (bp ar rfl rfl (gA hL hq) (by simp [hq32])) rfl<|t1 (aa rfl) rfl<|t1 (aa rfl) rfl<|t1 (bb _ Tryz.underlying41 ar rfl rfl rfl (by omega) rfl) rfl<|t1 (bp ar rfl rfl (gA hM hr) (by simp [hr32])) rfl ?_
   refine de ?_
   refine s1 (nP Tryz.underlying23 Tryz.underlying5 aR (by kernel_rfl) rfl rfl (by first|assumption|(simp;done)|(simp [*];done)) (by first|assumption|(simp;done)|(simp [*];done))) rfl ?_
   refine ah<|ae ?_
   refine aK rfl (fun hc25=>?_) (fun hc25=>?_)
   ·skip
    refine af<|ai<|s1 (aa rfl) rfl ?_
    refine ah<|ae<|aB<|bI<|aN<|aN<|bI<|aN ?_
    refine aC (rs:= [.tmp 4]) rfl (aA rfl az) ?_
    refine congrArg A.b ?_
    rw [eq_comm,beq_eq_false_iff_ne]
    rintro rfl
    rw [hq]at hr
    cases hr
    simp at hc25
   ·have hqr : q = r := by simpa using hc25
    refine aE<|a8<|ae<|ai<|s1 (aa rfl) rfl<|s1 (aZ _ 1 rfl rfl rfl rfl (by omega)) rfl<|s1 (aa rfl) rfl ?_
    refine ah ?_
    exact bf (j+1) (⟨by omega,by rw [List.take_add_one,List.take_add_one,ht,hq,hr,hqr]⟩) (by omega) [] hI rfl rfl ⟨⟨_,rfl,.pure pu⟩,⟨_,rfl,.pure pu⟩,⟨_,rfl,.pure pu⟩,trivial⟩ trivial
  ·have hj2 : j = L.length := by have := of_decide_eq_false hc14; omega
   subst hj2
   rw [List.take_length,h10,List.take_length]at ht
   refine bx<|aM<|aM<|bA<|ae<|af<|ai<|s1 (aa rfl) rfl ?_
   refine ah<|ae<|aB ?_
   refine aC (rs:= [.tmp 4]) rfl (aA rfl az) ?_
   exact congrArg A.b (by rw [ht];simp)
theorem Bi (n a:Int) (S P:List (List UInt8)):aw Tryz.prog 37 [.i .i64 n,.ag [.i .i64 a,a6 S,a6 P]] (aO (.b (m9 n S.length P.length))):=by
 refine enter Tryz.func37 rfl Tryz.ntmps37 (by kernel_rfl) (Nat.le_of_ble_eq_true rfl) fun w0 X0 hI=>?_
 refine af<|ai ?_
 refine aj rfl (bF 3 rfl rfl rfl ?_)
 refine s1 (aa rfl) rfl ?_
 refine ah<|ae<|af<|ai<|s1 (aa rfl) rfl<|s1 (aa rfl) rfl<|s1 (aa rfl) rfl ?_
 refine kF 2 rfl rfl rfl rfl (fun hb7=> .step (aa rfl) rfl rfl<| .step (aa rfl) rfl rfl<| .done) rfl rfl ?_
 refine s1 (aa rfl) rfl ?_
 refine cT 4 rfl rfl rfl rfl (fun hb11=> .step (aD Tryz.underlying43 rfl dO (by decide) rfl rfl) rfl rfl<| .step (au dO rfl rfl rfl) rfl rfl<| .step (a7 Tryz.underlying41 rfl rfl rfl) rfl rfl<| .step (aa rfl) rfl rfl<| .done) rfl rfl ?_
 refine s1 (aa rfl) rfl ?_
 refine cT 4 rfl rfl rfl rfl (fun hb17=> .step (aD Tryz.underlying43 rfl dO (by decide) rfl rfl) rfl rfl<| .step (au dO rfl rfl rfl) rfl rfl<| .step (a7 Tryz.underlying41 rfl rfl rfl) rfl rfl<| .step (aa rfl) rfl rfl<| .done) rfl rfl ?_
 refine s1 (aa rfl) rfl ?_
 refine ah<|ae<|aB ?_
 refine aC (rs:= [.tmp 4]) rfl (aA rfl az) ?_
 rfl
theorem Mx (a:Int) (S P:List (List UInt8)) (hS:aT S) (hP:aT P):aw Tryz.prog 110 [.ag [.i .i64 a,a6 S,a6 P],.ag [.i .i64 a,a6 S,a6 P]] (aO (.b true)):=by
 refine enter Tryz.func110 rfl Tryz.ntmps110 (by kernel_rfl) (Nat.le_of_ble_eq_true rfl) fun w0 X0 hI=>?_
 refine af<|ai ?_
 refine aj rfl (bF 2 rfl rfl rfl ?_)
 refine aj rfl (bF 3 rfl rfl rfl ?_)
 refine s1 (aa rfl) rfl ?_
 refine ah<|ae<|af<|ai<|s1 (aD Tryz.underlying43 rfl an (by decide) rfl rfl) rfl<|s1 (au an rfl rfl rfl) rfl<|s1 (aD Tryz.underlying43 rfl an (by decide) rfl rfl) rfl<|s1 (au an rfl rfl rfl) rfl<|s1 ((aa rfl).v (v':= .b true) (congrArg A.b (by simp))) rfl<|s1 (aa rfl) rfl<|g1 rfl rfl (aD Tryz.underlying43 rfl dO (by decide) rfl rfl) rfl<|g1 rfl rfl (au dO rfl rfl rfl) rfl<|g1 rfl rfl (aD Tryz.underlying43 rfl dO (by decide) rfl rfl) rfl<|g1 rfl rfl (au dO rfl rfl rfl) rfl ?_
 refine ee rfl rfl rfl (aF false rfl (.cons (.pure pu) (.cons (.pure pu) (.nil))) (aw.cast (D4 S S hS hS) (congrArg A.b (by simp:_=true))) pu (.inl rfl) rfl ?_)
 refine s1 (aa rfl) rfl<|s1 (aa rfl) rfl<|g1 rfl rfl (aD Tryz.underlying43 rfl dO (by decide) rfl rfl) rfl<|g1 rfl rfl (au dO rfl rfl rfl) rfl<|g1 rfl rfl (aD Tryz.underlying43 rfl dO (by decide) rfl rfl) rfl<|g1 rfl rfl (au dO rfl rfl rfl) rfl ?_
 refine ee rfl rfl rfl (aF false rfl (.cons (.pure pu) (.cons (.pure pu) (.nil))) (aw.cast (D4 P P hP hP) (congrArg A.b (by simp:_=true))) pu (.inl rfl) rfl ?_)
 refine s1 (aa rfl) rfl<|s1 (aa rfl) rfl ?_
 refine ah<|ae<|aB ?_
 refine aC (rs:= [.tmp 4]) rfl (aA rfl az) ?_
 rfl
theorem Mj (a b:Ep) (ha:a.ok) (hb:b.ok) (hs:a.sg=b.sg):aw Tryz.prog 62 [.ag a.cells,.ag b.cells] (aO (.b (fb a b))):=by
 refine enter Tryz.func62 rfl Tryz.ntmps62 (by kernel_rfl) (Nat.le_of_ble_eq_true rfl) fun w0 X0 hI=>?_
 refine af<|ai ?_
 refine aj rfl (bF 2 rfl rfl rfl ?_)
 refine aj rfl (bF 3 rfl rfl rfl ?_)
 refine s1 (aa rfl) rfl ?_
 refine ah<|ae<|af ?_
 rcases Mw a b with hcs|hcs|hcs|hcs|hcs|hcs|hcs
 ·obtain ⟨h1, hr⟩ := hcs
  refine ai<|s1 (aD Tryz.underlying45 rfl an (by decide) rfl rfl) rfl<|s1 (au an rfl rfl rfl) rfl<|s1 (aD Tryz.underlying45 rfl an (by decide) rfl rfl) rfl<|s1 (au an rfl rfl rfl) rfl<|s1 ((aa rfl).v (v':= .b false) (congrArg A.b (beq_eq_false_iff_ne.2 h1))) rfl<|s1 (aa rfl) rfl<|g0 rfl rfl rfl rfl<|g0 rfl rfl rfl rfl<|g0 rfl rfl rfl rfl<|g0 rfl rfl rfl rfl ?_
  refine g0 rfl rfl rfl rfl<|s1 (aa rfl) rfl<|s1 (aa rfl) rfl<|g0 rfl rfl rfl rfl<|g0 rfl rfl rfl rfl<|g0 rfl rfl rfl rfl<|g0 rfl rfl rfl rfl<|g0 rfl rfl rfl rfl<|s1 (aa rfl) rfl<|s1 (aa rfl) rfl ?_
  refine g0 rfl rfl rfl rfl<|g0 rfl rfl rfl rfl<|g0 rfl rfl rfl rfl<|g0 rfl rfl rfl rfl<|g0 rfl rfl rfl rfl<|s1 (aa rfl) rfl<|s1 (aa rfl) rfl<|g0 rfl rfl rfl rfl<|g0 rfl rfl rfl rfl<|g0 rfl rfl rfl rfl ?_
  refine g0 rfl rfl rfl rfl<|g0 rfl rfl rfl rfl<|s1 (aa rfl) rfl<|s1 (aa rfl) rfl<|g0 rfl rfl rfl rfl<|g0 rfl rfl rfl rfl<|g0 rfl rfl rfl rfl<|g0 rfl rfl rfl rfl<|g0 rfl rfl rfl rfl<|s1 (aa rfl) rfl ?_
  refine s1 (aa rfl) rfl<|g0 rfl rfl rfl rfl<|g0 rfl rfl rfl rfl<|g0 rfl rfl rfl rfl<|g0 rfl rfl rfl rfl<|g0 rfl rfl rfl rfl<|s1 (aa rfl) rfl<|s1 (aa rfl) rfl ?_
  refine ah<|ae<|aB ?_
  refine aC (rs:= [.tmp 4]) rfl (aA rfl az) ?_
  exact congrArg A.b hr.symm
 ·obtain ⟨h1, h2, hr⟩ := hcs
  refine ai<|s1 (aD Tryz.underlying45 rfl an (by decide) rfl rfl) rfl<|s1 (au an rfl rfl rfl) rfl<|s1 (aD Tryz.underlying45 rfl an (by decide) rfl rfl) rfl<|s1 (au an rfl rfl rfl) rfl<|s1 ((aa rfl).v (v':= .b true) (congrArg A.b (beq_iff_eq.2 h1))) rfl<|s1 (aa rfl) rfl<|g1 rfl rfl (aD Tryz.underlying45 rfl an (by decide) rfl rfl) rfl<|g1 rfl rfl (au an rfl rfl rfl) rfl<|g1 rfl rfl (aD Tryz.underlying45 rfl an (by decide) rfl rfl) rfl<|g1 rfl rfl (au an rfl rfl rfl) rfl ?_
  refine g1 rfl rfl ((aa rfl).v (v':= .b false) (congrArg A.b (beq_eq_false_iff_ne.2 h2))) rfl<|s1 (aa rfl) rfl<|s1 (aa rfl) rfl<|g0 rfl rfl rfl rfl<|g0 rfl rfl rfl rfl<|g0 rfl rfl rfl rfl<|g0 rfl rfl rfl rfl<|g0 rfl rfl rfl rfl<|s1 (aa rfl) rfl<|s1 (aa rfl) rfl ?_
  refine g0 rfl rfl rfl rfl<|g0 rfl rfl rfl rfl<|g0 rfl rfl rfl rfl<|g0 rfl rfl rfl rfl<|g0 rfl rfl rfl rfl<|s1 (aa rfl) rfl<|s1 (aa rfl) rfl<|g0 rfl rfl rfl rfl<|g0 rfl rfl rfl rfl<|g0 rfl rfl rfl rfl ?_
  refine g0 rfl rfl rfl rfl<|g0 rfl rfl rfl rfl<|s1 (aa rfl) rfl<|s1 (aa rfl) rfl<|g0 rfl rfl rfl rfl<|g0 rfl rfl rfl rfl<|g0 rfl rfl rfl rfl<|g0 rfl rfl rfl rfl<|g0 rfl rfl rfl rfl<|s1 (aa rfl) rfl ?_
  refine s1 (aa rfl) rfl<|g0 rfl rfl rfl rfl<|g0 rfl rfl rfl rfl<|g0 rfl rfl rfl rfl<|g0 rfl rfl rfl rfl<|g0 rfl rfl rfl rfl<|s1 (aa rfl) rfl<|s1 (aa rfl) rfl ?_
  refine ah<|ae<|aB ?_
  refine aC (rs:= [.tmp 4]) rfl (aA rfl az) ?_
  exact congrArg A.b hr.symm
 ·obtain ⟨h1, h2, h3, hr⟩ := hcs
  refine ai<|s1 (aD Tryz.underlying45 rfl an (by decide) rfl rfl) rfl<|s1 (au an rfl rfl rfl) rfl<|s1 (aD Tryz.underlying45 rfl an (by decide) rfl rfl) rfl<|s1 (au an rfl rfl rfl) rfl<|s1 ((aa rfl).v (v':= .b true) (congrArg A.b (beq_iff_eq.2 h1))) rfl<|s1 (aa rfl) rfl<|g1 rfl rfl (aD Tryz.underlying45 rfl an (by decide) rfl rfl) rfl<|g1 rfl rfl (au an rfl rfl rfl) rfl<|g1 rfl rfl (aD Tryz.underlying45 rfl an (by decide) rfl rfl) rfl<|g1 rfl rfl (au an rfl rfl rfl) rfl ?_
  refine g1 rfl rfl ((aa rfl).v (v':= .b true) (congrArg A.b (beq_iff_eq.2 h2))) rfl<|s1 (aa rfl) rfl<|s1 (aa rfl) rfl<|g1 rfl rfl (aD Tryz.underlying45 rfl an (by decide) rfl rfl) rfl<|g1 rfl rfl (au an rfl rfl rfl) rfl<|g1 rfl rfl (aD Tryz.underlying45 rfl an (by decide) rfl rfl) rfl<|g1 rfl rfl (au an rfl rfl rfl) rfl<|g1 rfl rfl ((aa rfl).v (v':= .b false) (congrArg A.b (beq_eq_false_iff_ne.2 h3))) rfl<|s1 (aa rfl) rfl<|s1 (aa rfl) rfl ?_
  refine g0 rfl rfl rfl rfl<|g0 rfl rfl rfl rfl<|g0 rfl rfl rfl rfl<|g0 rfl rfl rfl rfl<|g0 rfl rfl rfl rfl<|s1 (aa rfl) rfl<|s1 (aa rfl) rfl<|g0 rfl rfl rfl rfl<|g0 rfl rfl rfl rfl<|g0 rfl rfl rfl rfl ?_
  refine g0 rfl rfl rfl rfl<|g0 rfl rfl rfl rfl<|s1 (aa rfl) rfl<|s1 (aa rfl) rfl<|g0 rfl rfl rfl rfl<|g0 rfl rfl rfl rfl<|g0 rfl rfl rfl rfl<|g0 rfl rfl rfl rfl<|g0 rfl rfl rfl rfl<|s1 (aa rfl) rfl ?_
  refine s1 (aa rfl) rfl<|g0 rfl rfl rfl rfl<|g0 rfl rfl rfl rfl<|g0 rfl rfl rfl rfl<|g0 rfl rfl rfl rfl<|g0 rfl rfl rfl rfl<|s1 (aa rfl) rfl<|s1 (aa rfl) rfl ?_
  refine ah<|ae<|aB ?_
  refine aC (rs:= [.tmp 4]) rfl (aA rfl az) ?_
  exact congrArg A.b hr.symm
 ·obtain ⟨h1, h2, h3, h4, hr⟩ := hcs
  refine ai<|s1 (aD Tryz.underlying45 rfl an (by decide) rfl rfl) rfl<|s1 (au an rfl rfl rfl) rfl<|s1 (aD Tryz.underlying45 rfl an (by decide) rfl rfl) rfl<|s1 (au an rfl rfl rfl) rfl<|s1 ((aa rfl).v (v':= .b true) (congrArg A.b (beq_iff_eq.2 h1))) rfl<|s1 (aa rfl) rfl<|g1 rfl rfl (aD Tryz.underlying45 rfl an (by decide) rfl rfl) rfl<|g1 rfl rfl (au an rfl rfl rfl) rfl<|g1 rfl rfl (aD Tryz.underlying45 rfl an (by decide) rfl rfl) rfl<|g1 rfl rfl (au an rfl rfl rfl) rfl ?_
  refine g1 rfl rfl ((aa rfl).v (v':= .b true) (congrArg A.b (beq_iff_eq.2 h2))) rfl<|s1 (aa rfl) rfl<|s1 (aa rfl) rfl<|g1 rfl rfl (aD Tryz.underlying45 rfl an (by decide) rfl rfl) rfl<|g1 rfl rfl (au an rfl rfl rfl) rfl<|g1 rfl rfl (aD Tryz.underlying45 rfl an (by decide) rfl rfl) rfl<|g1 rfl rfl (au an rfl rfl rfl) rfl<|g1 rfl rfl ((aa rfl).v (v':= .b true) (congrArg A.b (beq_iff_eq.2 h3))) rfl<|s1 (aa rfl) rfl<|s1 (aa rfl) rfl ?_
  refine g1 rfl rfl (aD Tryz.underlying45 rfl cl (by decide) rfl rfl) rfl<|g1 rfl rfl (au cl rfl rfl rfl) rfl<|g1 rfl rfl (aD Tryz.underlying45 rfl cl (by decide) rfl rfl) rfl<|g1 rfl rfl (au cl rfl rfl rfl) rfl ?_
  refine ee rfl rfl rfl (aF false rfl (.cons (.pure pu) (.cons (.pure pu) (.nil))) (aw.cast (rl a.ch b.ch (by have:=ha.gy;simp only [maxLen];omega) (by have:=hb.gy;simp only [maxLen];omega)) (congrArg A.b h4)) pu (.inl rfl) rfl ?_)
  refine s1 (aa rfl) rfl<|s1 (aa rfl) rfl<|g0 rfl rfl rfl rfl<|g0 rfl rfl rfl rfl<|g0 rfl rfl rfl rfl<|g0 rfl rfl rfl rfl<|g0 rfl rfl rfl rfl<|s1 (aa rfl) rfl<|s1 (aa rfl) rfl<|g0 rfl rfl rfl rfl ?_
  refine g0 rfl rfl rfl rfl<|g0 rfl rfl rfl rfl<|g0 rfl rfl rfl rfl<|g0 rfl rfl rfl rfl<|s1 (aa rfl) rfl<|s1 (aa rfl) rfl<|g0 rfl rfl rfl rfl<|g0 rfl rfl rfl rfl<|g0 rfl rfl rfl rfl<|g0 rfl rfl rfl rfl ?_
  refine g0 rfl rfl rfl rfl<|s1 (aa rfl) rfl<|s1 (aa rfl) rfl ?_
  refine ah<|ae<|aB ?_
  refine aC (rs:= [.tmp 4]) rfl (aA rfl az) ?_
  exact congrArg A.b hr.symm
 ·obtain ⟨h1, h2, h3, h4, h5, hr⟩ := hcs
  refine ai<|s1 (aD Tryz.underlying45 rfl an (by decide) rfl rfl) rfl<|s1 (au an rfl rfl rfl) rfl<|s1 (aD Tryz.underlying45 rfl an (by decide) rfl rfl) rfl<|s1 (au an rfl rfl rfl) rfl<|s1 ((aa rfl).v (v':= .b true) (congrArg A.b (beq_iff_eq.2 h1))) rfl<|s1 (aa rfl) rfl<|g1 rfl rfl (aD Tryz.underlying45 rfl an (by decide) rfl rfl) rfl<|g1 rfl rfl (au an rfl rfl rfl) rfl<|g1 rfl rfl (aD Tryz.underlying45 rfl an (by decide) rfl rfl) rfl<|g1 rfl rfl (au an rfl rfl rfl) rfl ?_
  refine g1 rfl rfl ((aa rfl).v (v':= .b true) (congrArg A.b (beq_iff_eq.2 h2))) rfl<|s1 (aa rfl) rfl<|s1 (aa rfl) rfl<|g1 rfl rfl (aD Tryz.underlying45 rfl an (by decide) rfl rfl) rfl<|g1 rfl rfl (au an rfl rfl rfl) rfl<|g1 rfl rfl (aD Tryz.underlying45 rfl an (by decide) rfl rfl) rfl<|g1 rfl rfl (au an rfl rfl rfl) rfl<|g1 rfl rfl ((aa rfl).v (v':= .b true) (congrArg A.b (beq_iff_eq.2 h3))) rfl<|s1 (aa rfl) rfl<|s1 (aa rfl) rfl ?_
  refine g1 rfl rfl (aD Tryz.underlying45 rfl cl (by decide) rfl rfl) rfl<|g1 rfl rfl (au cl rfl rfl rfl) rfl<|g1 rfl rfl (aD Tryz.underlying45 rfl cl (by decide) rfl rfl) rfl<|g1 rfl rfl (au cl rfl rfl rfl) rfl ?_
  refine ee rfl rfl rfl (aF false rfl (.cons (.pure pu) (.cons (.pure pu) (.nil))) (aw.cast (rl a.ch b.ch (by have:=ha.gy;simp only [maxLen];omega) (by have:=hb.gy;simp only [maxLen];omega)) (congrArg A.b h4)) pu (.inl rfl) rfl ?_)
  refine s1 (aa rfl) rfl<|s1 (aa rfl) rfl<|g1 rfl rfl (aD Tryz.underlying45 rfl ar (by decide) rfl rfl) rfl<|g1 rfl rfl (bp ar rfl rfl (l6 ha) (by rw [List.length_map,ha.bh])) rfl<|g1 rfl rfl (aD Tryz.underlying45 rfl ar (by decide) rfl rfl) rfl<|g1 rfl rfl (bp ar rfl rfl (l6 hb) (by rw [List.length_map,hb.bh])) rfl<|g1 rfl rfl (((gr Tryz.underlying23 Tryz.underlying5 aR (by kernel_rfl) rfl rfl ha.bh hb.bh)).v (v':= .b false) (congrArg A.b (beq_eq_false_iff_ne.2 h5))) rfl<|s1 (aa rfl) rfl<|s1 (aa rfl) rfl<|g0 rfl rfl rfl rfl ?_
  refine g0 rfl rfl rfl rfl<|g0 rfl rfl rfl rfl<|g0 rfl rfl rfl rfl<|g0 rfl rfl rfl rfl<|s1 (aa rfl) rfl<|s1 (aa rfl) rfl<|g0 rfl rfl rfl rfl<|g0 rfl rfl rfl rfl<|g0 rfl rfl rfl rfl<|g0 rfl rfl rfl rfl ?_
  refine g0 rfl rfl rfl rfl<|s1 (aa rfl) rfl<|s1 (aa rfl) rfl ?_
  refine ah<|ae<|aB ?_
  refine aC (rs:= [.tmp 4]) rfl (aA rfl az) ?_
  exact congrArg A.b hr.symm
 ·obtain ⟨h1, h2, h3, h4, h5, h6, hr⟩ := hcs
  refine ai<|s1 (aD Tryz.underlying45 rfl an (by decide) rfl rfl) rfl<|s1 (au an rfl rfl rfl) rfl<|s1 (aD Tryz.underlying45 rfl an (by decide) rfl rfl) rfl<|s1 (au an rfl rfl rfl) rfl<|s1 ((aa rfl).v (v':= .b true) (congrArg A.b (beq_iff_eq.2 h1))) rfl<|s1 (aa rfl) rfl<|g1 rfl rfl (aD Tryz.underlying45 rfl an (by decide) rfl rfl) rfl<|g1 rfl rfl (au an rfl rfl rfl) rfl<|g1 rfl rfl (aD Tryz.underlying45 rfl an (by decide) rfl rfl) rfl<|g1 rfl rfl (au an rfl rfl rfl) rfl ?_
  refine g1 rfl rfl ((aa rfl).v (v':= .b true) (congrArg A.b (beq_iff_eq.2 h2))) rfl<|s1 (aa rfl) rfl<|s1 (aa rfl) rfl<|g1 rfl rfl (aD Tryz.underlying45 rfl an (by decide) rfl rfl) rfl<|g1 rfl rfl (au an rfl rfl rfl) rfl<|g1 rfl rfl (aD Tryz.underlying45 rfl an (by decide) rfl rfl) rfl<|g1 rfl rfl (au an rfl rfl rfl) rfl<|g1 rfl rfl ((aa rfl).v (v':= .b true) (congrArg A.b (beq_iff_eq.2 h3))) rfl<|s1 (aa rfl) rfl<|s1 (aa rfl) rfl ?_
  refine g1 rfl rfl (aD Tryz.underlying45 rfl cl (by decide) rfl rfl) rfl<|g1 rfl rfl (au cl rfl rfl rfl) rfl<|g1 rfl rfl (aD Tryz.underlying45 rfl cl (by decide) rfl rfl) rfl<|g1 rfl rfl (au cl rfl rfl rfl) rfl ?_
  refine ee rfl rfl rfl (aF false rfl (.cons (.pure pu) (.cons (.pure pu) (.nil))) (aw.cast (rl a.ch b.ch (by have:=ha.gy;simp only [maxLen];omega) (by have:=hb.gy;simp only [maxLen];omega)) (congrArg A.b h4)) pu (.inl rfl) rfl ?_)
  refine s1 (aa rfl) rfl<|s1 (aa rfl) rfl<|g1 rfl rfl (aD Tryz.underlying45 rfl ar (by decide) rfl rfl) rfl<|g1 rfl rfl (bp ar rfl rfl (l6 ha) (by rw [List.length_map,ha.bh])) rfl<|g1 rfl rfl (aD Tryz.underlying45 rfl ar (by decide) rfl rfl) rfl<|g1 rfl rfl (bp ar rfl rfl (l6 hb) (by rw [List.length_map,hb.bh])) rfl<|g1 rfl rfl (((gr Tryz.underlying23 Tryz.underlying5 aR (by kernel_rfl) rfl rfl ha.bh hb.bh)).v (v':= .b true) (congrArg A.b (beq_iff_eq.2 h5))) rfl<|s1 (aa rfl) rfl<|s1 (aa rfl) rfl<|g1 rfl rfl (aD Tryz.underlying45 rfl ar (by decide) rfl rfl) rfl ?_
  refine g1 rfl rfl (bp ar rfl rfl (l7 ha) (by rw [List.length_map,ha.prev])) rfl<|g1 rfl rfl (aD Tryz.underlying45 rfl ar (by decide) rfl rfl) rfl<|g1 rfl rfl (bp ar rfl rfl (l7 hb) (by rw [List.length_map,hb.prev])) rfl<|g1 rfl rfl (((gr Tryz.underlying23 Tryz.underlying5 aR (by kernel_rfl) rfl rfl ha.prev hb.prev)).v (v':= .b false) (congrArg A.b (beq_eq_false_iff_ne.2 h6))) rfl<|s1 (aa rfl) rfl<|s1 (aa rfl) rfl<|g0 rfl rfl rfl rfl<|g0 rfl rfl rfl rfl<|g0 rfl rfl rfl rfl<|g0 rfl rfl rfl rfl ?_
  refine g0 rfl rfl rfl rfl<|s1 (aa rfl) rfl<|s1 (aa rfl) rfl ?_
  refine ah<|ae<|aB ?_
  refine aC (rs:= [.tmp 4]) rfl (aA rfl az) ?_
  exact congrArg A.b hr.symm
 ·obtain ⟨h1, h2, h3, h4, h5, h6, hr⟩ := hcs
  refine ai<|s1 (aD Tryz.underlying45 rfl an (by decide) rfl rfl) rfl<|s1 (au an rfl rfl rfl) rfl<|s1 (aD Tryz.underlying45 rfl an (by decide) rfl rfl) rfl<|s1 (au an rfl rfl rfl) rfl<|s1 ((aa rfl).v (v':= .b true) (congrArg A.b (beq_iff_eq.2 h1))) rfl<|s1 (aa rfl) rfl<|g1 rfl rfl (aD Tryz.underlying45 rfl an (by decide) rfl rfl) rfl<|g1 rfl rfl (au an rfl rfl rfl) rfl<|g1 rfl rfl (aD Tryz.underlying45 rfl an (by decide) rfl rfl) rfl<|g1 rfl rfl (au an rfl rfl rfl) rfl ?_
  refine g1 rfl rfl ((aa rfl).v (v':= .b true) (congrArg A.b (beq_iff_eq.2 h2))) rfl<|s1 (aa rfl) rfl<|s1 (aa rfl) rfl<|g1 rfl rfl (aD Tryz.underlying45 rfl an (by decide) rfl rfl) rfl<|g1 rfl rfl (au an rfl rfl rfl) rfl<|g1 rfl rfl (aD Tryz.underlying45 rfl an (by decide) rfl rfl) rfl<|g1 rfl rfl (au an rfl rfl rfl) rfl<|g1 rfl rfl ((aa rfl).v (v':= .b true) (congrArg A.b (beq_iff_eq.2 h3))) rfl<|s1 (aa rfl) rfl<|s1 (aa rfl) rfl ?_
  refine g1 rfl rfl (aD Tryz.underlying45 rfl cl (by decide) rfl rfl) rfl<|g1 rfl rfl (au cl rfl rfl rfl) rfl<|g1 rfl rfl (aD Tryz.underlying45 rfl cl (by decide) rfl rfl) rfl<|g1 rfl rfl (au cl rfl rfl rfl) rfl ?_
  refine ee rfl rfl rfl (aF false rfl (.cons (.pure pu) (.cons (.pure pu) (.nil))) (aw.cast (rl a.ch b.ch (by have:=ha.gy;simp only [maxLen];omega) (by have:=hb.gy;simp only [maxLen];omega)) (congrArg A.b h4)) pu (.inl rfl) rfl ?_)
  refine s1 (aa rfl) rfl<|s1 (aa rfl) rfl<|g1 rfl rfl (aD Tryz.underlying45 rfl ar (by decide) rfl rfl) rfl<|g1 rfl rfl (bp ar rfl rfl (l6 ha) (by rw [List.length_map,ha.bh])) rfl<|g1 rfl rfl (aD Tryz.underlying45 rfl ar (by decide) rfl rfl) rfl<|g1 rfl rfl (bp ar rfl rfl (l6 hb) (by rw [List.length_map,hb.bh])) rfl<|g1 rfl rfl (((gr Tryz.underlying23 Tryz.underlying5 aR (by kernel_rfl) rfl rfl ha.bh hb.bh)).v (v':= .b true) (congrArg A.b (beq_iff_eq.2 h5))) rfl<|s1 (aa rfl) rfl<|s1 (aa rfl) rfl<|g1 rfl rfl (aD Tryz.underlying45 rfl ar (by decide) rfl rfl) rfl ?_
  refine g1 rfl rfl (bp ar rfl rfl (l7 ha) (by rw [List.length_map,ha.prev])) rfl<|g1 rfl rfl (aD Tryz.underlying45 rfl ar (by decide) rfl rfl) rfl<|g1 rfl rfl (bp ar rfl rfl (l7 hb) (by rw [List.length_map,hb.prev])) rfl<|g1 rfl rfl (((gr Tryz.underlying23 Tryz.underlying5 aR (by kernel_rfl) rfl rfl ha.prev hb.prev)).v (v':= .b true) (congrArg A.b (beq_iff_eq.2 h6))) rfl<|s1 (aa rfl) rfl<|s1 (aa rfl) rfl<|g1 rfl rfl (aD Tryz.underlying45 rfl c4 (by decide) rfl rfl) rfl<|g1 rfl rfl ((bp c4 rfl rfl (qz ha) rfl).v (v':= .ag [.i .i64 b.sg.a,a6 b.sg.S,a6 b.sg.P]) (by rw [hs])) rfl<|g1 rfl rfl (aD Tryz.underlying45 rfl c4 (by decide) rfl rfl) rfl<|g1 rfl rfl (bp c4 rfl rfl (qz hb) rfl) rfl ?_
  refine ee rfl rfl rfl (aF false rfl (.cons (.pure pu) (.cons (.pure pu) (.nil))) (Mx b.sg.a b.sg.S b.sg.P hb.S hb.P) pu (.inl rfl) rfl ?_)
  refine s1 (aa rfl) rfl<|s1 (aa rfl) rfl ?_
  refine ah<|ae<|aB ?_
  refine aC (rs:= [.tmp 4]) rfl (aA rfl az) ?_
  exact congrArg A.b hr.symm
theorem Cz (a b:Ep) (ha:a.ok) (hb:b.ok):aw Tryz.prog 35 [.ag a.cells,.ag b.cells] (aO (.b (fb a b))):=by
 refine enter Tryz.func35 rfl Tryz.ntmps35 (by kernel_rfl) (Nat.le_of_ble_eq_true rfl) fun w0 X0 hI=>?_
 refine af<|ai ?_
 refine aj rfl (bF 2 rfl rfl rfl ?_)
 refine aj rfl (bF 3 rfl rfl rfl ?_)
 refine s1 (aa rfl) rfl ?_
 refine ah<|ae<|af<|ai<|s1 (aD Tryz.underlying45 rfl c4 (by decide) rfl rfl) rfl<|s1 (bp c4 rfl rfl (qz hb) rfl) rfl<|s1 (aD Tryz.underlying45 rfl c4 (by decide) rfl rfl) rfl ?_
 refine aj rfl (iD c4 rfl rfl rfl rfl rfl rfl (by rw [ha.len];decide) (HX ha b.sg) ?_)
 refine ah<|ae<|af<|ai<|s1 (aG bu rfl rfl (BY ha hb).len) rfl<|s1 (aG bu rfl rfl hb.len) rfl ?_
 refine aj rfl (aF false rfl (.cons (.pure pu) (.cons (.pure pu) (.nil))) (Mj (a.oO b.sg) b (BY ha hb) hb rfl) pu (.inl rfl) rfl ?_)
 refine s1 (aa rfl) rfl ?_
 refine ah<|ae<|aB ?_
 refine aC (rs:= [.tmp 4]) rfl (aA rfl az) ?_
 rfl
theorem DO (n:Int) (l:List Ep) (ids:List Int) (c:List Ch) (hl:nX l) (hn:l.length≤maxLen):aw Tryz.prog 12 [.i .i64 n,cQ l,.fz ids.length (ids.map (A.i .i64)),dS c] (aO (.b (lz n l ids c))):=by
 refine enter Tryz.func12 rfl Tryz.ntmps12 (by kernel_rfl) (Nat.le_of_ble_eq_true rfl) fun w0 X0 hI=>?_
 refine af<|ai<|s1 (aa rfl) rfl ?_
 refine ah<|ae<|af<|af ?_
 simp only [maxLen]at hn
 refine ai<|s1 ((aa rfl).v (v':= .i .i64 0) rfl) rfl ?_
 refine ah<|ae<|aI ?_
 refine bD (ι:=Nat) (fun i=> [(0,.i .i64 n),(1,cQ l),(2,.fz ids.length (ids.map (A.i .i64))),(3,dS c),(9,nJ i)]) (fun i=>⟨[]⟩) (fun i=>i≤l.length∧∀e∈l.take i,lB n e=true) (fun i=>l.length - i) ?_ ?_
 ·exact bC (0) (⟨Nat.zero_le _,fun e he=>by simp at he⟩) [] hI rfl rfl ⟨⟨_,rfl,.pure pu⟩,⟨_,rfl,.pure pu⟩,⟨_,rfl,.pure pu⟩,⟨_,rfl,.pure pu⟩,⟨_,rfl,.pure pu⟩,trivial⟩ trivial
 rintro i ⟨hi,hall⟩
 refine af<|af<|ai<|s1 (aa rfl) rfl<|s1 (aa rfl) rfl<|s1 (a7 Tryz.underlying24 rfl rfl rfl) rfl<|s1 (aa rfl) rfl ?_
 refine ah<|ae ?_
 refine aK rfl (fun hc13=>?_) (fun hc13=>?_)
 ·have h13 : i < l.length := by have := of_decide_eq_true hc13; omega
  obtain⟨e,he⟩:∃e,l[i]? =some e:=⟨_,List.getElem?_eq_getElem h13⟩
  refine aE<|ae<|af<|aI<|af<|ai<|s1 (aa rfl) rfl<|s1 (aa rfl) rfl<|s1 (bb i Tryz.underlying24 bu rfl rfl rfl (by omega) rfl) rfl<|s1 (dz Tryz.underlying45 rfl cl (by decide) rfl rfl) rfl<|s1 (au cl rfl rfl (HZ hl he)) rfl<|s1 (a7 Tryz.underlying31 rfl rfl rfl) rfl<|s1 (aa rfl) rfl ?_
  refine gw 22 rfl (fun hc22=>?_) (fun hc22=>?_)
  ·have h22 : ¬ e.ch.length ≤ 10 := by have := of_decide_eq_true hc22; omega
   refine s1 (aa rfl) rfl<|g0 rfl rfl rfl rfl<|g0 rfl rfl rfl rfl<|g0 rfl rfl rfl rfl<|g0 rfl rfl rfl rfl<|g0 rfl rfl rfl rfl<|g0 rfl rfl rfl rfl<|g0 rfl rfl rfl rfl<|g0 rfl rfl rfl rfl<|s1 (aa rfl) rfl ?_
   refine ah<|ae ?_
   refine cN rfl ?_
   refine af<|ai<|s1 (aa rfl) rfl ?_
   refine ah<|ae<|aB<|bI<|aN<|aN<|bI<|aN ?_
   refine aC (rs:= [.tmp 8]) rfl (aA rfl az) ?_
   exact congrArg A.b (Bg (List.mem_of_getElem? he) (by unfold lB;rw [decide_eq_false h22];rfl)).symm
  ·have h22 : e.ch.length ≤ 10 := by have := of_decide_eq_false hc22; omega
   refine s1 (aa rfl) rfl<|g1 rfl rfl (aa rfl) rfl<|g1 rfl rfl (aa rfl) rfl<|g1 rfl rfl (aa rfl) rfl<|g1 rfl rfl (bb i Tryz.underlying24 bu rfl rfl rfl (by omega) rfl) rfl<|g1 rfl rfl (dz Tryz.underlying45 rfl c4 (by decide) rfl rfl) rfl<|g1 rfl rfl (bp c4 rfl rfl (H2 hl he) rfl) rfl ?_
   refine ee rfl rfl rfl (aF false rfl (.cons (.pure pu) (.cons (.pure pu) (.nil))) (Bi n e.sg.a e.sg.S e.sg.P) pu (.inl rfl) rfl ?_)
   refine g1 rfl rfl (aa rfl) rfl ?_
   refine gw 31 rfl (fun hc31=>?_) (fun hc31=>?_)
   ·have h31 : m9 n e.sg.S.length e.sg.P.length = false := by simpa using hc31
    refine s1 (aa rfl) rfl ?_
    refine ah<|ae ?_
    refine cN rfl ?_
    refine af<|ai<|s1 (aa rfl) rfl ?_
    refine ah<|ae<|aB<|bI<|aN<|aN<|bI<|aN ?_
    refine aC (rs:= [.tmp 8]) rfl (aA rfl az) ?_
    exact congrArg A.b (Bg (List.mem_of_getElem? he) (by unfold lB;rw [h31,Bool.and_false])).symm
   ·have h31 : m9 n e.sg.S.length e.sg.P.length = true := by simpa using hc31
    refine s1 (aa rfl) rfl ?_
    refine ah<|ae ?_
    refine bO rfl ?_
    refine aE<|a8<|ae<|ai<|s1 (aa rfl) rfl<|s1 (aZ _ 1 rfl rfl rfl rfl (by omega)) rfl<|s1 (aa rfl) rfl ?_
    refine ah ?_
    exact bf (i+1) (⟨by omega,zk he hall (by unfold lB;rw [decide_eq_true (show e.ch.length≤10 by omega),h31];rfl)⟩) (by omega) [] hI rfl rfl ⟨⟨_,rfl,.pure pu⟩,⟨_,rfl,.pure pu⟩,⟨_,rfl,.pure pu⟩,⟨_,rfl,.pure pu⟩,⟨_,rfl,.pure pu⟩,trivial⟩ trivial
 ·obtain rfl : i = l.length := by have := of_decide_eq_false hc13; omega
  rw [List.take_length]at hall
  refine bx<|aM<|aM<|bA<|ae<|af<|ai<|s1 (aa rfl) rfl<|s1 (eE (out:= [_,_,_]) [[aQ (.int .i64 0)], [aQ (.slice none 0 0)], [aQ (.slice none 0 0)]] c4 rfl Tryz.underlying43 (by kernel_rfl) rfl rfl trivial rfl) rfl ?_
  refine aj rfl (aF false rfl (.cons (.pure pu) (.cons (.ag (.cons (.pure pu) (.cons .nl (.cons .nl .nil)))) .nil)) (Bi n 0 [] []) pu (.inl rfl) rfl ?_)
  refine s1 (aa rfl) rfl ?_
  refine cT 3 rfl rfl rfl rfl (fun hb36=> .step (aa rfl) rfl rfl<| .step (a7 Tryz.underlying24 rfl rfl rfl) rfl rfl<| .step (aa rfl) rfl rfl<| .done) rfl rfl ?_
  refine s1 (aa rfl) rfl ?_
  refine cT 3 rfl rfl rfl rfl (fun hb41=> .step (aa rfl) rfl rfl<| .step (a7 Tryz.underlying30 rfl rfl rfl) rfl rfl<| .step (aa rfl) rfl rfl<| .done) rfl rfl ?_
  refine s1 (aa rfl) rfl ?_
  refine cT 3 rfl rfl rfl rfl (fun hb46=> .step (aa rfl) rfl rfl<| .step (a7 Tryz.underlying31 rfl rfl rfl) rfl rfl<| .step (aa rfl) rfl rfl<| .done) rfl rfl ?_
  refine s1 (aa rfl) rfl ?_
  refine ah<|ae<|aB ?_
  refine aC (rs:= [.tmp 8]) rfl (aA rfl az) ?_
  exact congrArg A.b (Ia hall).symm
end Go.Abs.D2
-- E6B
namespace Go.Abs.D2
open Go Go.Eng Go.Abs Go.Proofs
theorem Jx (l:List Ep) (k:Nat) (hl:c6 l) (hn:l.length≤maxLen) (hk:k≤256):aw Tryz.prog 33 [cQ l,nJ k] (aO (a6 (iu l k))):=by
 refine enter Tryz.func33 rfl Tryz.ntmps33 (by kernel_rfl) (Nat.le_of_ble_eq_true rfl) fun w0 X0 hI=>?_
 refine af<|ai<|s1 (aa rfl) rfl ?_
 refine ah<|ae<|af ?_
 simp only [maxLen]at hn
 refine ai<|s1 (aa rfl) rfl<|s1 (E8 (a:=k) (b:=256) (c:=k) rfl rfl (by omega)) rfl<|s1 (uV (a:=0) (b:=k) (c:=k) rfl rfl (by omega)) rfl ?_
 refine aj rfl (xA 10 32 rfl _ _ Tryz.underlying41 ar (by decide) rfl rfl rfl rfl rfl (by first|omega|(simp only [maxLen];omega)|(simp [maxLen];done)|(simp [maxLen];omega)|(simp [maxLen, *];omega)) (by first|omega|(simp only [maxLen];omega)|(simp [maxLen];done)|(simp [maxLen];omega)|(simp [maxLen, *];omega)) (by first|omega|(simp only [maxLen];omega)|(simp [maxLen];done)|(simp [maxLen];omega)|(simp [maxLen, *];omega)) rfl ?_)
 refine s1 (aa rfl) rfl ?_
 refine ah<|ae<|af<|af<|ai<|s1 ((aa rfl).v (v':= .i .i64 0) rfl) rfl ?_
 refine ah<|ae<|aI ?_
 refine bD (ι:=Nat) (fun j=> [(0,cQ l),(5,.sl 10 32 0 k),(6,nJ j)]) (fun j=>⟨[(10,some ((jl l k j).flatten.map u8))]⟩) (fun j=>j≤l.length∧j≤k) (fun j=>k - j) ?_ ?_
 ·exact bC (0) (⟨Nat.zero_le _,Nat.zero_le _⟩) [(10,some 10)] hI rfl rfl ⟨⟨_,rfl,.pure pu⟩,⟨_,rfl,.sl rfl (by first|rfl|omega|(simp<;>omega)|(simp [*]<;>omega))⟩,⟨_,rfl,.pure pu⟩,trivial⟩ ⟨.inr ⟨_,_,rfl,rfl,.of (J6 l k) (.pure ak)⟩,trivial⟩
 rintro j ⟨hj,hjk⟩
 refine af<|af<|ai<|s1 (aa rfl) rfl<|s1 (aa rfl) rfl<|s1 (a7 Tryz.underlying24 rfl rfl rfl) rfl<|s1 (aa rfl) rfl<|s1 (aa rfl) rfl ?_
 refine cT 4 rfl rfl rfl rfl (fun hb15=> .step (aa rfl) rfl rfl<| .step (aa rfl) rfl rfl<| .step (a7 Tryz.underlying41 rfl rfl rfl) rfl rfl<| .step (aa rfl) rfl rfl<| .done) rfl rfl ?_
 refine gw 20 rfl (fun hc20=>?_) (fun hc20=>?_)
 ·have h20 : j < l.length ∧ j < k := by simp at hc20; omega
  obtain⟨e,he⟩:∃e,l[j]? =some e:=⟨_,List.getElem?_eq_getElem h20.1⟩
  have hok:=hl e (List.mem_of_getElem? he)
  refine ah<|ae ?_
  refine cN rfl ?_
  refine aE<|ae<|af<|aI<|ai<|s1 (aa rfl) rfl<|s1 (aa rfl) rfl<|s1 (aa rfl) rfl<|s1 (aa rfl) rfl<|s1 (bb j Tryz.underlying24 bu rfl rfl rfl (by omega) rfl) rfl<|s1 (bp bu rfl rfl (gh hl he) hok.len) rfl ?_
  refine aj rfl (aF false rfl (.cons (.pure pu) (.nil)) (lq e hok) pu (.inl rfl) rfl ?_)
  refine s1 (kZ j Tryz.underlying41 ar rfl rfl rfl rfl (by omega) (Nat.zero_add _)) rfl ?_
  refine aj rfl (iD ar rfl rfl rfl rfl rfl (show((bR e).map u8).length=32 by simp) (by rw [List.length_map,(u5 l k j).len,len_digsJ];omega) (Bv (u5 l k j) (by rw [len_digsJ];exact h20.2)) ?_)
  refine ah<|a8<|ae<|ai<|s1 (aa rfl) rfl<|s1 (aZ _ 1 rfl rfl rfl rfl (by omega)) rfl<|s1 (aa rfl) rfl ?_
  refine ah ?_
  exact bf (j+1) (⟨by omega,by omega⟩) (by omega) [(10,some 10)] hI rfl rfl ⟨⟨_,rfl,.pure pu⟩,⟨_,rfl,.sl rfl (by first|rfl|omega|(simp<;>omega)|(simp [*]<;>omega))⟩,⟨_,rfl,.pure pu⟩,trivial⟩ ⟨.inr ⟨_,_,rfl,rfl,.of (by rw [Hx he]) (.pure ak)⟩,trivial⟩
 ·have h20 : ¬ (j < l.length ∧ j < k) := by simp at hc20; omega
  refine ah<|ae ?_
  refine bO rfl ?_
  refine bx<|aM<|aM<|bA<|ae<|af<|ai<|s1 (aa rfl) rfl<|s1 (aa rfl) rfl ?_
  refine ah<|ae<|aB ?_
  refine fQ 4 rfl rfl ak (cm (by rw [List.length_map,(u5 l k j).len,len_digsJ]) rfl) ?_
  refine aC (rs:= [.tmp 4]) rfl (aA rfl az) ?_
  rw [Hw h20];exact congrArg (fun n=>A.fz n ((iu l k).flatten.map u8)) (len_digsE l k).symm
end Go.Abs.D2
-- E5T
namespace Go.Abs.D2
open Go Go.Eng Go.Abs Go.Proofs
theorem Jh (σ:Int→Int):(c9 σ).mergeSort (fun x y=>decide (x≤y))=c9 σ:=by
  refine List.mergeSort_of_pairwise ?_
  refine List.Pairwise.filter _ ?_
  rw [List.pairwise_map]
  exact List.pairwise_lt_range.imp fun h=>by simp;omega
theorem B7 (σ:Int→Int):(c9 σ).length≤1024:=by
  have:=List.length_filter_le (fun n=>σ n !=0) ((List.range 1024).map fun k:Nat=>(k:Int))
  simpa [c9]using this
theorem JZ {es:Array MapEntry} {clk:Nat} {f:Int→Option Value} (h:c7 es clk f) {L:List Int} (hn:L.Nodup) (hL:∀k,(f k).isSome=true↔k∈L):(es.toList.map fU).Perm L:=by
  have hk:∀x∈es.toList,x.key= .int .i64 (fU x)∧f (fU x)=some x.val:=fun x hx=>by
    obtain⟨k,e1,e2⟩:=h.ent x hx
    have:fU x=k:=by unfold fU;rw [e1]
    rw [this];exact⟨e1,e2⟩
  have hnd:(es.toList.map fU).Nodup:=by
    have h3:=h.st.2.2
    rw [List.nodup_iff_pairwise_ne]at h3 ⊢
    rw [List.pairwise_map]at h3 ⊢
    refine h3.imp_of_mem fun {a b} ha hb hne e=>hne ?_
    rw [(hk a ha).1,(hk b hb).1,e]
  exact(List.perm_ext_iff_of_nodup hnd hn).2 fun k=>by
    rw [←hL k,List.mem_map]
    constructor
    · rintro ⟨x, hx, rfl⟩
      rw [(hk x hx).2];rfl
    · intro hs
      obtain⟨v,hv⟩:=Option.isSome_iff_exists.1 hs
      obtain⟨x,hx,e⟩:=h.has k v hv
      exact⟨x,hx,by unfold fU;rw [e]⟩
theorem K5 {H:Type} {P:Program} {k:TypeId} (hk:P.underlying k=some (.int .i64)) {σ:Int→Int} (hs:iL σ) {w:World} {b:Nat} {es:Array MapEntry} {clk:Nat} (hb:w.heap[b]? =some (.map es clk)) (hF:c7 es clk (mapOf σ)):
    ∃D0:DataW H,w.ownsMap P k (fun _=>some (.nil, [])) b 1024 D0∧(intKeys D0).Perm (c9 σ)∧Maps.size D0≤1024:=by
  have hsz:=hF.size (xj σ) (xh hs)
  have hkl:=B7 σ
  have hrd:∀x∈es.toList,Go.WideElems.rd (H:=H) P k (fun _=>some (.nil, [])) x=some (.int .i64 (fU x),.nil):=fun x hx=>by
    obtain⟨q,e1,e2⟩:=hF.ent x hx
    have hq:fU x=q:=by unfold fU;rw [e1]
    have h0:σ q≠0:=by
      unfold mapOf at e2
      split at e2
      · cases e2
      · assumption
    obtain⟨h1,h2⟩:=hs q h0
    have hw:(Lit.int .i64 q).wf=true:=by
      have hmin:IntKind.i64.min= -9223372036854775808:=by decide
      simp only [Lit.wf,decide_eq_true_eq,Bool.and_eq_true]
      simp
      exact⟨by rw [hmin];omega,by omega⟩
    rw [hq]
    show(keyOf P k x.key).bind _=_
    rw [e1,Go.Maps.keyOf_int_mk hk hw]
    rfl
  refine⟨_,⟨es,clk,hb,⟨by rw [hsz];exact Nat.le_trans hkl (by decide),hF.st,fun x hx=>⟨_,hrd x hx⟩⟩,by rw [hsz];exact hkl,rfl⟩,?_,?_⟩
  · show ((es.toList.map (Go.WideElems.rg P k (fun _ => some (.nil, [])))).foldr DataW.insert [] |>.map fun p => intOf p.1).Perm _
    refine((Go.WideShapes.sorted_perm _).map _).trans ?_
    rw [List.map_map]
    have:es.toList.map ((fun p:Lit×DataW H=>intOf p.1) ∘ Go.WideElems.rg P k (fun _=>some (.nil, [])))=es.toList.map fU:=List.map_congr_left fun x hx=>by
      show intOf (Go.WideElems.rg P k (fun _=>some (.nil, [])) x).1=_
      rw [Go.WideElems.rg_of (hrd x hx)];rfl
    rw [this]
    exact JZ hF (xj σ) (xh hs)
  · show ((es.toList.map (Go.WideElems.rg P k (fun _ => some (.nil, [])))).foldr DataW.insert []).length ≤ 1024
    rw [(Go.WideShapes.sorted_perm _).length_eq,List.length_map,Array.length_toList,hsz]
    exact hkl
end Go.Abs.D2
