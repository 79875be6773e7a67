/-
  The engine, the plain laws and the walks that the rows need, part 16. Conditions: none.
-/
import Derived.Test.YteempkifmbclgaaGreatDoorM15
import Derived.Lib.SlKeysI
set_option linter.unusedVariables false
set_option linter.unusedSimpArgs false
set_option maxHeartbeats 1000000
set_option maxRecDepth 10000
-- Abs4
namespace Go.Abs
open Go Go.Eng
section
variable {P:Program} {E:Ev} {st:St}
theorem Ng {t t' e ty:TypeId} {x y:Operand} {f0 f1:Field} {a b c d:Int} (ht:P.underlying t=some (.struct #[f0,f1])) (h0:f0.type=e) (h1:f1.type=e) (o0:f0.offset=0) (o1:f1.offset=1) (n0:f0.name≠ "_") (n1:f1.name≠ "_") (he:P.underlying e=some (.int .i64))
    (hp:P.stoodInHeld t=false) (hm:P.eqGuardType P.depth t=false) (hx:ev E x=some (.ag [.i .i64 a,.i .i64 b])) (hy:ev E y=some (.ag [.i .i64 c,.i .i64 d])):YO P E st (.binOp .neq t x y t') ty (.b (!(a==c&&b==d))):=by
  intro w0 X0 n β X ac w hr
  obtain⟨_,h2⟩:=hr.bq hx
  obtain⟨_,h4⟩:=hr.bq hy
  simp only [V]at h2 h4
  obtain⟨us,e1,e2,_⟩:=h2
  obtain⟨vs,e3,e4,_⟩:=h4
  simp only [VS,V]at e2 e4
  obtain⟨u1,r1,rfl,rfl,u2,r2,rfl,rfl,rfl⟩:=e2
  obtain⟨v1,s1,rfl,rfl,v2,s2,rfl,rfl,rfl⟩:=e4
  refine⟨.bool (!(a==c&&b==d)),by simp only [V],fun dd pos az g w' _=>?_⟩
  have hf:P.fieldsOf t= #[f0,f1]:=by simp [Program.fieldsOf,ht]
  have p0:=pb (P:=P) (w:=w') he (l:= [.int .i64 a,.int .i64 b]) (i:=0) (v:= .int .i64 a) rfl
  have p1:=pb (P:=P) (w:=w') he (l:= [.int .i64 a,.int .i64 b]) (i:=1) (v:= .int .i64 b) rfl
  have q0:=pb (P:=P) (w:=w') he (l:= [.int .i64 c,.int .i64 d]) (i:=0) (v:= .int .i64 c) rfl
  have q1:=pb (P:=P) (w:=w') he (l:= [.int .i64 c,.int .i64 d]) (i:=1) (v:= .int .i64 d) rfl
  have hr':(Op.eqFields 9999 #[.int .i64 a,.int .i64 b] #[.int .i64 c,.int .i64 d] [f0,f1]).run P w'= .ok (a==c&&b==d) w':=by
    simp only [Op.eqFields,h0,h1,o0,o1,n0,n1,ne_eq,not_false_eq_true,if_true,Sem.run_bind]
    rw [p0]
    simp only [Result.andThen_ok]
    rw [q0]
    simp only [Result.andThen_ok]
    rw [run_equalIn_int w' 9998 e .i64 .i64 a c he]
    simp only [Result.andThen_ok]
    cases hac:a==c with
    |false=>simp
    | true =>
      simp only [Bool.not_true,Bool.false_eq_true,if_false,Sem.run_bind,Bool.true_and]
      rw [p1]
      simp only [Result.andThen_ok]
      rw [q1]
      simp only [Result.andThen_ok]
      rw [run_equalIn_int w' 9998 e .i64 .i64 b d he]
      simp only [Result.andThen_ok]
      cases b==d<;>simp
  simp only [execOp,e1,e3]
  rw [Sem.run_bind,Sem.run_bind,run_eqGuard_agg (P:=P) w' .neq t x y _ _ hm]
  simp only [Result.andThen_ok]
  rw [run_neq_struct,run_equalIn_struct w' 9999 t _ _ (by rw [hf];exact ht) hp,hf]
  have:(#[f0,f1]:Array Field).toList= [f0,f1]:=rfl
  rw [this,hr']
  rfl
end
theorem yG {X:Xs} {w:World} {β:Bm}:∀l:List Int,VS X w β (l.map (A.i .i64)) (l.map Go.encZ)
  | []=>dB
  |_::l=>cZ (by simp only [V]) (yG l)
theorem Gw {P : Program} {f : FuncId} {args : List A} {s0 : St} {L : List Int} {e : TypeId} (nid : Nat) (hnew : s0.free nid = true) {upds : List (Nat × List A)} (hu : ∀ p ∈ upds, s0.get p.1 = some p.2)
    (h:∀w X β us (hd:∀id,s0.free id=true→β id=none),(∀b o,X b o→b<w.heap.size)→(∀id cs,s0.get id=some cs→OB β X w (bw w β s0 hd) id cs)→VS X w β args us→
      kC P f∧Calls P f us.toArray w fun e' w'=>∃v,e'= .returned v∧w'.ownsRow w.heap.size e 1 v L.length (L.map Go.encZ)∧RowKit.Below w.heap.size w w'):cE P f args s0 (gf 1 L.length (L.map (A.i .i64)) upds):=by
  intro w X β us hd hX hgl ho hi hv
  obtain⟨c,k⟩:=h w X β us hd hX ho hv
  refine⟨c,k.mono fun e' w' ⟨v,hv',hrow,hb⟩=>⟨v,hv',?_⟩⟩
  have hxe:cc X X w w':=fun b o h=>⟨h,World.cell?_of_block (w:=w) (hb.block b (hX b o h))⟩
  have hnx:=hd nid hnew
  have hob:∀(y:BL) id cs,s0.get id=some cs→OB (b6 β nid y) X w' (bw w β s0 hd) id cs:=fun y id cs hg=>by
    refine(ho id cs hg).later hxe (cl hnx) (fun q M hq=>?_) fun q hq=>?_
    · have h1 := (ho id cs hg).kQ hq rfl
      exact⟨hb.block q h1.1,h1.2.2⟩
    · have h1 := (ho id cs hg).dY hq
      exact⟨hb.block q ((ho id cs hg).nq hq),h1.2.2.1⟩
  have hne:∀id cs,s0.get id=some cs→nid≠id:=fun id cs hg e=>by subst e;rw [nc hg]at hnew;cases hnew
  have hup:∀cells,∀p∈upds,(s0.put nid cells).get p.1=some p.2∧p.1≠nid:=fun cells p hp=>by
    have h1:=hne p.1 p.2 (hu p hp)
    exact⟨by rw [St.cg,if_neg h1];exact hu p hp,fun e=>h1 e.symm⟩
  have main:∀(y:BL) (cells:List A),OB (b6 β nid y) X w' (bw w β s0 hd) nid cells→(∀b N,y= .bk b N→w.heap.size≤b)→Mem (bw w β s0 hd) (b6 β nid y) X (s0.put nid cells) w':=fun y cells hy hfr=>by
    refine .of ⟨hb.os,hb.tape,hb.output,hb.size,fun k hk _=>hb.block k hk,fun s hs=>by cases hs⟩ (cl hnx) (fun q o h=>Nat.lt_of_lt_of_le (hX q o h) hb.size) (fun id hf=>?_) (fun id cs hg=>?_) (fun i j ci cj b M N hij hgi hgj hbi hbj=>?_)
    · rw [St.en] at hf
      split at hf
      · cases hf
      · rename_i hn
        rw [b9 (fun e=>hn e.symm)]
        exact hd id hf
    · rw [St.cg] at hg
      split at hg
      · rename_i e1; subst e1
        simp only [Option.some.injEq]at hg
        subst hg
        exact hy
      · exact hob y id cs hg
    · rw [St.cg] at hgi hgj
      have hlt:∀id cs b N,s0.get id=some cs→β id=some (.bk b N)→b<w.heap.size:=fun id cs b N hg hβ=>((ho id cs hg).kQ hβ rfl).1
      by_cases ei:nid=i
      · by_cases ej : nid = j
        · omega
        · rw [if_neg ej] at hgj
          rw [←ei,bC]at hbi
          rw [b9 (fun e=>ej e.symm)]at hbj
          simp only [Option.some.injEq]at hbi
          have:=hfr b M hbi
          have:=hlt j cj b N hgj hbj
          omega
      · rw [if_neg ei] at hgi
        rw [b9 (fun e=>ei e.symm)]at hbi
        by_cases ej:nid=j
        · rw [← ej, bC] at hbj
          simp only [Option.some.injEq]at hbj
          have:=hfr b N hbj
          have:=hlt i ci b M hgi hbi
          omega
        · rw [if_neg ej] at hgj
          rw [b9 (fun e=>ej e.symm)]at hbj
          exact hi i j ci cj b M N hij hgi hgj hbi hbj
  rcases hrow.2 with ⟨rfl,hz⟩|⟨g,cap,cur,rfl,hbase,hg,r1,r2,r3,r4⟩
  · have hL : L = [] := List.eq_nil_of_length_eq_zero hz
    subst hL
    refine⟨.sl nid 1 0 0,_,X,s0.put nid [],⟨nid,rfl,by rw [St.cg,if_pos rfl];rfl,hup []⟩,fun _ _ h=>h,fun _ _ h=> .inl h,main .ph [] (by unfold OB;rw [bC]) (fun b N h=>by cases h),?_⟩
    simp only [V]
    refine .inl ⟨bC,?_⟩
    simp
  · refine ⟨.sl nid 1 0 L.length, _, X, s0.put nid (L.map (A.i .i64)), ⟨nid, rfl, by rw [St.cg, if_pos rfl], hup _⟩, fun _ _ h => h, fun _ _ h => .inl h, main (.bk g cap) _ ?_ (fun b N h => by cases h; exact hbase), ?_⟩
    · unfold OB
      rw [bC]
      refine⟨.inl hbase,fun o h=>by have:=hX g o h;omega,L.map Go.encZ,cur.toList.drop L.length,e,?_,?_,ey (fun b o h=>⟨h,rfl⟩) _ _ _ _ (fun id y h=>h) (yG L),fun x hx=>by obtain⟨a,_,rfl⟩:=List.mem_map.1 hx;rfl⟩
      · rw [hg]
        have:L.map Go.encZ++cur.toList.drop L.length=cur.toList:=by rw [←r4,Nat.mul_one,List.take_append_drop]
        rw [this]
      · have hcl : cur.toList.length = cur.size := Array.length_toList
        rw [List.length_map,List.length_drop];omega
    · simp only [V]
      exact .inr ⟨g,cap,cap,bC,rfl,r1,r2,by omega⟩
end Go.Abs
-- E5J
namespace Go.Abs.D2
open Go Go.Eng Go.Abs Go.Proofs
theorem Dk (a b:List Ch) (ha:a.length≤maxLen) (hb:b.length≤maxLen):aB Tryz.prog 24 [cz a,cz b] (aU (.b (iT a b))):=by
 refine enter Tryz.func24 rfl Tryz.ntmps24 (by kernel_rfl) (Nat.le_of_ble_eq_true rfl) fun w0 X0 hI=>?_
 refine af<|ai<|s1 (aa rfl) rfl ?_
 refine ah<|ae<|af<|af ?_
 simp only [maxLen]at ha hb
 refine ai<|s1 (aa rfl) rfl<|s1 (bx Tryz.underlying31 rfl rfl rfl) rfl<|s1 (aa rfl) rfl<|s1 (bx Tryz.underlying31 rfl rfl rfl) rfl<|s1 (aa rfl) rfl ?_
 refine ah<|ae ?_
 refine aP rfl (fun hc10=>?_) (fun hc10=>?_)
 ·have h10 : a.length ≠ b.length := by intro h; simp [h] at hc10
  refine af<|ai<|s1 (aa rfl) rfl ?_
  refine ah<|ae<|aF<|aH ?_
  refine aG (rs:= [.tmp 4]) rfl (aD rfl aC) ?_
  exact congrArg A.b (LC h10).symm
 ·have h10 : a.length = b.length := by simp at hc10; omega
  refine aK<|ae<|af<|af<|ai<|s1 ((aa rfl).v (v':= .i .i64 0) rfl) rfl ?_
  refine ah<|ae<|aM ?_
  refine bH (ι:=Nat) (fun i=> [(0,cz a),(1,cz b),(5,nJ i)]) (fun i=>⟨[]⟩) (fun i=>i≤a.length∧iT a b=iT (a.drop i) (b.drop i)) (fun i=>a.length - i) ?_ ?_
  ·exact bG (0) (⟨Nat.zero_le _,rfl⟩) [] hI rfl rfl ⟨⟨_,rfl,.pure pu⟩,⟨_,rfl,.pure pu⟩,⟨_,rfl,.pure pu⟩,trivial⟩ trivial
  rintro i ⟨hi,hst⟩
  refine af<|af<|ai<|s1 (aa rfl) rfl<|s1 (aa rfl) rfl<|s1 (bx Tryz.underlying31 rfl rfl rfl) rfl<|s1 (aa rfl) rfl ?_
  refine ah<|ae ?_
  refine aP rfl (fun hc14=>?_) (fun hc14=>?_)
  ·have h14 : i < a.length := by have := of_decide_eq_true hc14; omega
   obtain⟨c,hc⟩:∃c,a[i]? =some c:=⟨_,List.getElem?_eq_getElem h14⟩
   obtain⟨d,hd⟩:∃d,b[i]? =some d:=⟨_,List.getElem?_eq_getElem (by omega)⟩
   refine aK<|ae<|af<|aM<|af ?_
   refine dH 8 bz (by kernel_rfl) ?_
   refine t1 (aa rfl) rfl<|t1 (aa rfl) rfl<|t1 (aT i Tryz.underlying31 bp rfl rfl rfl (by omega) rfl) rfl<|t1 (cm bp rfl rfl (pV hc) rfl) rfl<|t1 (aa rfl) rfl<|t1 (aa rfl) rfl<|t1 (aT i Tryz.underlying31 bp rfl rfl rfl (by omega) rfl) rfl<|t1 (cm bp rfl rfl (pV hd) rfl) rfl ?_
   refine dI ?_
   refine s1 (Ng Tryz.underlying55 rfl rfl rfl rfl (by decide) (by decide) Tryz.underlying3 (by kernel_rfl) (by kernel_rfl) rfl rfl) rfl ?_
   refine ah<|ae ?_
   refine aP rfl (fun hc25=>?_) (fun hc25=>?_)
   ·have h25 : (c.id == d.id && c.st == d.st) = false := by rw [Bool.not_eq_true'] at hc25; exact hc25
    refine af<|ai<|s1 (aa rfl) rfl ?_
    refine ah<|ae<|aF<|bc<|aH<|aH<|bc<|aH ?_
    refine aG (rs:= [.tmp 4]) rfl (aD rfl aC) ?_
    exact congrArg A.b (hst.trans ((Dv hc hd).trans (by rw [h25];rfl))).symm
   ·have h25 : (c.id == d.id && c.st == d.st) = true := by rw [Bool.not_eq_false'] at hc25; exact hc25
    refine aK<|bj<|ae<|ai<|s1 (aa rfl) rfl<|s1 (bg _ 1 rfl rfl rfl rfl (by omega)) rfl<|s1 (aa rfl) rfl ?_
    refine ah ?_
    exact bu (i+1) (⟨by omega,hst.trans ((Dv hc hd).trans (by rw [h25];rfl))⟩) (by omega) [] hI rfl rfl ⟨⟨_,rfl,.pure pu⟩,⟨_,rfl,.pure pu⟩,⟨_,rfl,.pure pu⟩,trivial⟩ trivial
  ·obtain rfl : i = a.length := by have := of_decide_eq_false hc14; omega
   rw [List.drop_length,h10,List.drop_length]at hst
   refine bE<|aO<|aO<|bF<|ae<|af<|ai<|s1 (aa rfl) rfl ?_
   refine ah<|ae<|aF ?_
   refine aG (rs:= [.tmp 4]) rfl (aD rfl aC) ?_
   exact congrArg A.b hst.symm
end Go.Abs.D2
-- E6D
namespace Go.Abs.D2
open Go Go.Eng Go.Abs Go.Proofs
theorem AU (n a:Int) (S P:List (List UInt8)):aB Tryz.prog 37 [.i .i64 n,.ag [.i .i64 a,bD S,bD P]] (aU (.b (m9 n S.length P.length))):=by
 refine enter Tryz.func37 rfl Tryz.ntmps37 (by kernel_rfl) (Nat.le_of_ble_eq_true rfl) fun w0 X0 hI=>?_
 refine af<|ai ?_
 refine ak rfl (bY 3 rfl rfl rfl ?_)
 refine s1 (aa rfl) rfl ?_
 refine ah<|ae<|af<|ai<|s1 (aa rfl) rfl<|s1 (aa rfl) rfl<|s1 (aa rfl) rfl ?_
 refine jW 2 rfl rfl rfl rfl (fun hb7=> .step (aa rfl) rfl rfl<| .step (aa rfl) rfl rfl<| .done) rfl rfl ?_
 refine s1 (aa rfl) rfl ?_
 refine dG 4 rfl rfl rfl rfl (fun hb11=> .step (aA Tryz.underlying43 rfl ky (by decide) rfl rfl) rfl rfl<| .step (au ky rfl rfl rfl) rfl rfl<| .step (bx Tryz.underlying41 rfl rfl rfl) rfl rfl<| .step (aa rfl) rfl rfl<| .done) rfl rfl ?_
 refine s1 (aa rfl) rfl ?_
 refine dG 4 rfl rfl rfl rfl (fun hb17=> .step (aA Tryz.underlying43 rfl ky (by decide) rfl rfl) rfl rfl<| .step (au ky rfl rfl rfl) rfl rfl<| .step (bx Tryz.underlying41 rfl rfl rfl) rfl rfl<| .step (aa rfl) rfl rfl<| .done) rfl rfl ?_
 refine s1 (aa rfl) rfl ?_
 refine ah<|ae<|aF ?_
 refine aG (rs:= [.tmp 4]) rfl (aD rfl aC) ?_
 rfl
theorem Dd (n:Int) (l:List Ep) (ids:List Int) (c:List Ch) (hl:nV l) (hn:l.length≤maxLen):aB Tryz.prog 12 [.i .i64 n,cW l,.fz ids.length (ids.map (A.i .i64)),cz c] (aU (.b (lI n l ids c))):=by
 refine enter Tryz.func12 rfl Tryz.ntmps12 (by kernel_rfl) (Nat.le_of_ble_eq_true rfl) fun w0 X0 hI=>?_
 refine af<|ai<|s1 (aa rfl) rfl ?_
 refine ah<|ae<|af<|af ?_
 simp only [maxLen]at hn
 refine ai<|s1 ((aa rfl).v (v':= .i .i64 0) rfl) rfl ?_
 refine ah<|ae<|aM ?_
 refine bH (ι:=Nat) (fun i=> [(0,.i .i64 n),(1,cW l),(2,.fz ids.length (ids.map (A.i .i64))),(3,cz c),(9,nJ i)]) (fun i=>⟨[]⟩) (fun i=>i≤l.length∧∀e∈l.take i,lJ n e=true) (fun i=>l.length - i) ?_ ?_
 ·exact bG (0) (⟨Nat.zero_le _,fun e he=>by simp at he⟩) [] hI rfl rfl ⟨⟨_,rfl,.pure pu⟩,⟨_,rfl,.pure pu⟩,⟨_,rfl,.pure pu⟩,⟨_,rfl,.pure pu⟩,⟨_,rfl,.pure pu⟩,trivial⟩ trivial
 rintro i ⟨hi,hall⟩
 refine af<|af<|ai<|s1 (aa rfl) rfl<|s1 (aa rfl) rfl<|s1 (bx Tryz.underlying24 rfl rfl rfl) rfl<|s1 (aa rfl) rfl ?_
 refine ah<|ae ?_
 refine aP rfl (fun hc13=>?_) (fun hc13=>?_)
 ·have h13 : i < l.length := by have := of_decide_eq_true hc13; omega
  obtain⟨e,he⟩:∃e,l[i]? =some e:=⟨_,List.getElem?_eq_getElem h13⟩
  refine aK<|ae<|af<|aM<|af<|ai<|s1 (aa rfl) rfl<|s1 (aa rfl) rfl<|s1 (aT i Tryz.underlying24 bA rfl rfl rfl (by omega) rfl) rfl<|s1 (bd Tryz.underlying45 rfl cH (by decide) rfl rfl) rfl<|s1 (au cH rfl rfl (Hr hl he)) rfl<|s1 (bx Tryz.underlying31 rfl rfl rfl) rfl<|s1 (aa rfl) rfl ?_
  refine ik 22 rfl (fun hc22=>?_) (fun hc22=>?_)
  ·have h22 : ¬ e.ch.length ≤ 10 := by have := of_decide_eq_true hc22; omega
   refine s1 (aa rfl) rfl<|g0 rfl rfl rfl rfl<|g0 rfl rfl rfl rfl<|g0 rfl rfl rfl rfl<|g0 rfl rfl rfl rfl<|g0 rfl rfl rfl rfl<|g0 rfl rfl rfl rfl<|g0 rfl rfl rfl rfl<|g0 rfl rfl rfl rfl<|s1 (aa rfl) rfl ?_
   refine ah<|ae ?_
   refine bT rfl ?_
   refine af<|ai<|s1 (aa rfl) rfl ?_
   refine ah<|ae<|aF<|bc<|aH<|aH<|bc<|aH ?_
   refine aG (rs:= [.tmp 8]) rfl (aD rfl aC) ?_
   exact congrArg A.b (AS (List.mem_of_getElem? he) (by unfold lJ;rw [decide_eq_false h22];rfl)).symm
  ·have h22 : e.ch.length ≤ 10 := by have := of_decide_eq_false hc22; omega
   refine s1 (aa rfl) rfl<|g1 rfl rfl (aa rfl) rfl<|g1 rfl rfl (aa rfl) rfl<|g1 rfl rfl (aa rfl) rfl<|g1 rfl rfl (aT i Tryz.underlying24 bA rfl rfl rfl (by omega) rfl) rfl<|g1 rfl rfl (bd Tryz.underlying45 rfl eU (by decide) rfl rfl) rfl<|g1 rfl rfl (cm eU rfl rfl (Hs hl he) rfl) rfl ?_
   refine jf rfl rfl rfl (aJ false rfl (.cons (.pure pu) (.cons (.pure pu) (.nil))) (AU n e.sg.a e.sg.S e.sg.P) pu (.inl rfl) rfl ?_)
   refine g1 rfl rfl (aa rfl) rfl ?_
   refine ik 31 rfl (fun hc31=>?_) (fun hc31=>?_)
   ·have h31 : m9 n e.sg.S.length e.sg.P.length = false := by simpa using hc31
    refine s1 (aa rfl) rfl ?_
    refine ah<|ae ?_
    refine bT rfl ?_
    refine af<|ai<|s1 (aa rfl) rfl ?_
    refine ah<|ae<|aF<|bc<|aH<|aH<|bc<|aH ?_
    refine aG (rs:= [.tmp 8]) rfl (aD rfl aC) ?_
    exact congrArg A.b (AS (List.mem_of_getElem? he) (by unfold lJ;rw [h31,Bool.and_false])).symm
   ·have h31 : m9 n e.sg.S.length e.sg.P.length = true := by simpa using hc31
    refine s1 (aa rfl) rfl ?_
    refine ah<|ae ?_
    refine cK rfl ?_
    refine aK<|bj<|ae<|ai<|s1 (aa rfl) rfl<|s1 (bg _ 1 rfl rfl rfl rfl (by omega)) rfl<|s1 (aa rfl) rfl ?_
    refine ah ?_
    exact bu (i+1) (⟨by omega,yR he hall (by unfold lJ;rw [decide_eq_true (show e.ch.length≤10 by omega),h31];rfl)⟩) (by omega) [] hI rfl rfl ⟨⟨_,rfl,.pure pu⟩,⟨_,rfl,.pure pu⟩,⟨_,rfl,.pure pu⟩,⟨_,rfl,.pure pu⟩,⟨_,rfl,.pure pu⟩,trivial⟩ trivial
 ·obtain rfl : i = l.length := by have := of_decide_eq_false hc13; omega
  rw [List.take_length]at hall
  refine bE<|aO<|aO<|bF<|ae<|af<|ai<|s1 (aa rfl) rfl<|s1 (eu (out:= [_,_,_]) [[aW (.int .i64 0)], [aW (.slice none 0 0)], [aW (.slice none 0 0)]] eU rfl Tryz.underlying43 (by kernel_rfl) rfl rfl trivial rfl) rfl ?_
  refine ak rfl (aJ false rfl (.cons (.pure pu) (.cons (.ag (.cons (.pure pu) (.cons .nl (.cons .nl .nil)))) .nil)) (AU n 0 [] []) pu (.inl rfl) rfl ?_)
  refine s1 (aa rfl) rfl ?_
  refine dG 3 rfl rfl rfl rfl (fun hb36=> .step (aa rfl) rfl rfl<| .step (bx Tryz.underlying24 rfl rfl rfl) rfl rfl<| .step (aa rfl) rfl rfl<| .done) rfl rfl ?_
  refine s1 (aa rfl) rfl ?_
  refine dG 3 rfl rfl rfl rfl (fun hb41=> .step (aa rfl) rfl rfl<| .step (bx Tryz.underlying30 rfl rfl rfl) rfl rfl<| .step (aa rfl) rfl rfl<| .done) rfl rfl ?_
  refine s1 (aa rfl) rfl ?_
  refine dG 3 rfl rfl rfl rfl (fun hb46=> .step (aa rfl) rfl rfl<| .step (bx Tryz.underlying31 rfl rfl rfl) rfl rfl<| .step (aa rfl) rfl rfl<| .done) rfl rfl ?_
  refine s1 (aa rfl) rfl ?_
  refine ah<|ae<|aF ?_
  refine aG (rs:= [.tmp 8]) rfl (aD rfl aC) ?_
  exact congrArg A.b (Hy hall).symm
end Go.Abs.D2
-- E5T
namespace Go.Abs.D2
open Go Go.Eng Go.Abs Go.Proofs
theorem Ix (σ:Int→Int):(c6 σ).mergeSort (fun x y=>decide (x≤y))=c6 σ:=by
  refine List.mergeSort_of_pairwise ?_
  refine List.Pairwise.filter _ ?_
  rw [List.pairwise_map]
  exact List.pairwise_lt_range.imp fun h=>by simp;omega
theorem BG (σ:Int→Int):(c6 σ).length≤1024:=by
  have:=List.length_filter_le (fun n=>σ n !=0) ((List.range 1024).map fun k:Nat=>(k:Int))
  simpa [c6]using this
theorem Jh {es:Array MapEntry} {clk:Nat} {f:Int→Option Value} (h:de es clk f) {L:List Int} (hn:L.Nodup) (hL:∀k,(f k).isSome=true↔k∈L):(es.toList.map fV).Perm L:=by
  have hk:∀x∈es.toList,x.key= .int .i64 (fV x)∧f (fV x)=some x.val:=fun x hx=>by
    obtain⟨k,e1,e2⟩:=h.ent x hx
    have:fV x=k:=by unfold fV;rw [e1]
    rw [this];exact⟨e1,e2⟩
  have hnd:(es.toList.map fV).Nodup:=by
    have h3:=h.st.2.2
    rw [List.nodup_iff_pairwise_ne]at h3 ⊢
    rw [List.pairwise_map]at h3 ⊢
    refine h3.imp_of_mem fun {a b} ha hb hne e=>hne ?_
    rw [(hk a ha).1,(hk b hb).1,e]
  exact(List.perm_ext_iff_of_nodup hnd hn).2 fun k=>by
    rw [←hL k,List.mem_map]
    constructor
    · rintro ⟨x, hx, rfl⟩
      rw [(hk x hx).2];rfl
    · intro hs
      obtain⟨v,hv⟩:=Option.isSome_iff_exists.1 hs
      obtain⟨x,hx,e⟩:=h.has k v hv
      exact⟨x,hx,by unfold fV;rw [e]⟩
theorem Kg {H:Type} {P:Program} {k:TypeId} (hk:P.underlying k=some (.int .i64)) {σ:Int→Int} (hs:gi σ) {w:World} {b:Nat} {es:Array MapEntry} {clk:Nat} (hb:w.heap[b]? =some (.map es clk)) (hF:de es clk (mapOf σ)):
    ∃D0:DataW H,w.ownsMap P k (fun _=>some (.nil, [])) b 1024 D0∧(intKeys D0).Perm (c6 σ)∧Maps.size D0≤1024:=by
  have hsz:=hF.size (wV σ) (sW hs)
  have hkl:=BG σ
  have hrd:∀x∈es.toList,Go.WideElems.rd (H:=H) P k (fun _=>some (.nil, [])) x=some (.int .i64 (fV x),.nil):=fun x hx=>by
    obtain⟨q,e1,e2⟩:=hF.ent x hx
    have hq:fV x=q:=by unfold fV;rw [e1]
    have h0:σ q≠0:=by
      unfold mapOf at e2
      split at e2
      · cases e2
      · assumption
    obtain⟨h1,h2⟩:=hs q h0
    have hw:(Lit.int .i64 q).wf=true:=by
      have hmin:IntKind.i64.min= -9223372036854775808:=by decide
      simp only [Lit.wf,decide_eq_true_eq,Bool.and_eq_true]
      simp
      exact⟨by rw [hmin];omega,by omega⟩
    rw [hq]
    show(keyOf P k x.key).bind _=_
    rw [e1,Go.Maps.keyOf_int_mk hk hw]
    rfl
  refine⟨_,⟨es,clk,hb,⟨by rw [hsz];exact Nat.le_trans hkl (by decide),hF.st,fun x hx=>⟨_,hrd x hx⟩⟩,by rw [hsz];exact hkl,rfl⟩,?_,?_⟩
  · show ((es.toList.map (Go.WideElems.rg P k (fun _ => some (.nil, [])))).foldr DataW.insert [] |>.map fun p => intOf p.1).Perm _
    refine((Go.WideShapes.sorted_perm _).map _).trans ?_
    rw [List.map_map]
    have:es.toList.map ((fun p:Lit×DataW H=>intOf p.1) ∘ Go.WideElems.rg P k (fun _=>some (.nil, [])))=es.toList.map fV:=List.map_congr_left fun x hx=>by
      show intOf (Go.WideElems.rg P k (fun _=>some (.nil, [])) x).1=_
      rw [Go.WideElems.rg_of (hrd x hx)];rfl
    rw [this]
    exact Jh hF (wV σ) (sW hs)
  · show ((es.toList.map (Go.WideElems.rg P k (fun _ => some (.nil, [])))).foldr DataW.insert []).length ≤ 1024
    rw [(Go.WideShapes.sorted_perm _).length_eq,List.length_map,Array.length_toList,hsz]
    exact hkl
end Go.Abs.D2
