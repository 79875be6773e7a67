/-
  The engine, the plain laws and the walks that the rows need, part 16. Conditions: none.
-/
import Derived.Test.YteempkifmbclgaaGreatDoorM15
import Derived.Lib.SlKeysI
set_option linter.unusedVariables false
set_option linter.unusedSimpArgs false
set_option maxHeartbeats 1000000
set_option maxRecDepth 10000
-- Abs4
namespace Go.Abs
open Go Go.Eng
section
variable {P:Program} {E:Ev} {st:St}
theorem y_ne2 {t t' e ty:TypeId} {x y:Operand} {f0 f1:Field} {a b c d:Int} (ht:P.underlying t=some (.struct #[f0,f1])) (h0:f0.type=e) (h1:f1.type=e) (o0:f0.offset=0) (o1:f1.offset=1) (n0:f0.name≠ "_") (n1:f1.name≠ "_") (he:P.underlying e=some (.int .i64))
    (hp:P.stoodInHeld t=false) (hm:P.eqGuardType P.depth t=false) (hx:ev E x=some (.ag [.i .i64 a,.i .i64 b])) (hy:ev E y=some (.ag [.i .i64 c,.i .i64 d])):YO P E st (.binOp .neq t x y t') ty (.b (!(a==c&&b==d))):=by
  intro w0 X0 n β X ac w hr
  obtain⟨_,h2⟩:=hr.evo hx
  obtain⟨_,h4⟩:=hr.evo hy
  simp only [V]at h2 h4
  obtain⟨us,e1,e2,_⟩:=h2
  obtain⟨vs,e3,e4,_⟩:=h4
  simp only [VS,V]at e2 e4
  obtain⟨u1,r1,rfl,rfl,u2,r2,rfl,rfl,rfl⟩:=e2
  obtain⟨v1,s1,rfl,rfl,v2,s2,rfl,rfl,rfl⟩:=e4
  refine⟨.bool (!(a==c&&b==d)),by simp only [V],fun dd pos aft g w' _=>?_⟩
  have hf:P.fieldsOf t= #[f0,f1]:=by simp [Program.fieldsOf,ht]
  have p0:=run_part_one (P:=P) (w:=w') he (l:= [.int .i64 a,.int .i64 b]) (i:=0) (v:= .int .i64 a) rfl
  have p1:=run_part_one (P:=P) (w:=w') he (l:= [.int .i64 a,.int .i64 b]) (i:=1) (v:= .int .i64 b) rfl
  have q0:=run_part_one (P:=P) (w:=w') he (l:= [.int .i64 c,.int .i64 d]) (i:=0) (v:= .int .i64 c) rfl
  have q1:=run_part_one (P:=P) (w:=w') he (l:= [.int .i64 c,.int .i64 d]) (i:=1) (v:= .int .i64 d) rfl
  have hr':(Op.eqFields 9999 #[.int .i64 a,.int .i64 b] #[.int .i64 c,.int .i64 d] [f0,f1]).run P w'= .ok (a==c&&b==d) w':=by
    simp only [Op.eqFields,h0,h1,o0,o1,n0,n1,ne_eq,not_false_eq_true,if_true,Sem.run_bind]
    rw [p0]
    simp only [Result.andThen_ok]
    rw [q0]
    simp only [Result.andThen_ok]
    rw [run_equalIn_int w' 9998 e .i64 .i64 a c he]
    simp only [Result.andThen_ok]
    cases hac:a==c with
    |false=>simp
    | true =>
      simp only [Bool.not_true,Bool.false_eq_true,if_false,Sem.run_bind,Bool.true_and]
      rw [p1]
      simp only [Result.andThen_ok]
      rw [q1]
      simp only [Result.andThen_ok]
      rw [run_equalIn_int w' 9998 e .i64 .i64 b d he]
      simp only [Result.andThen_ok]
      cases b==d<;>simp
  simp only [execOp,e1,e3]
  rw [Sem.run_bind,Sem.run_bind,run_eqGuard_agg (P:=P) w' .neq t x y _ _ hm]
  simp only [Result.andThen_ok]
  rw [run_neq_struct,run_equalIn_struct w' 9999 t _ _ (by rw [hf];exact ht) hp,hf]
  have:(#[f0,f1]:Array Field).toList= [f0,f1]:=rfl
  rw [this,hr']
  rfl
end
theorem VS_ints {X:Xs} {w:World} {β:Bm}:∀l:List Int,VS X w β (l.map (A.i .i64)) (l.map Go.encZ)
  | []=>VS_nil
  |_::l=>VS_cons (by simp only [V]) (VS_ints l)
theorem con_row {P : Program} {f : FuncId} {args : List A} {s0 : St} {L : List Int} {e : TypeId} (nid : Nat) (hnew : s0.free nid = true) {upds : List (Nat × List A)} (hu : ∀ p ∈ upds, s0.get p.1 = some p.2)
    (h:∀w X β us (hd:∀id,s0.free id=true→β id=none),(∀b o,X b o→b<w.heap.size)→(∀id cs,s0.get id=some cs→OB β X w (bw w β s0 hd) id cs)→VS X w β args us→
      Callable P f∧Calls P f us.toArray w fun e' w'=>∃v,e'= .returned v∧w'.ownsRow w.heap.size e 1 v L.length (L.map Go.encZ)∧RowKit.Below w.heap.size w w'):ConS P f args s0 (RetOS 1 L.length (L.map (A.i .i64)) upds):=by
  intro w X β us hd hX hgl ho hi hv
  obtain⟨c,k⟩:=h w X β us hd hX ho hv
  refine⟨c,k.mono fun e' w' ⟨v,hv',hrow,hb⟩=>⟨v,hv',?_⟩⟩
  have hxe:ExtX X X w w':=fun b o h=>⟨h,World.cell?_of_block (w:=w) (hb.block b (hX b o h))⟩
  have hnx:=hd nid hnew
  have hob:∀(y:BL) id cs,s0.get id=some cs→OB (upd β nid y) X w' (bw w β s0 hd) id cs:=fun y id cs hg=>by
    refine(ho id cs hg).later hxe (upd_ext hnx) (fun q M hq=>?_) fun q hq=>?_
    · have h1 := (ho id cs hg).onB hq rfl
      exact⟨hb.block q h1.1,h1.2.2⟩
    · have h1 := (ho id cs hg).mpB hq
      exact⟨hb.block q ((ho id cs hg).mpLt hq),h1.2.2.1⟩
  have hne:∀id cs,s0.get id=some cs→nid≠id:=fun id cs hg e=>by subst e;rw [get_free hg]at hnew;cases hnew
  have hup:∀cells,∀p∈upds,(s0.put nid cells).get p.1=some p.2∧p.1≠nid:=fun cells p hp=>by
    have h1:=hne p.1 p.2 (hu p hp)
    exact⟨by rw [St.get_put,if_neg h1];exact hu p hp,fun e=>h1 e.symm⟩
  have main:∀(y:BL) (cells:List A),OB (upd β nid y) X w' (bw w β s0 hd) nid cells→(∀b N,y= .bk b N→w.heap.size≤b)→Mem (bw w β s0 hd) (upd β nid y) X (s0.put nid cells) w':=fun y cells hy hfr=>by
    refine .of ⟨hb.os,hb.tape,hb.output,hb.size,fun k hk _=>hb.block k hk,fun s hs=>by cases hs⟩ (upd_ext hnx) (fun q o h=>Nat.lt_of_lt_of_le (hX q o h) hb.size) (fun id hf=>?_) (fun id cs hg=>?_) (fun i j ci cj b M N hij hgi hgj hbi hbj=>?_)
    · rw [St.free_put] at hf
      split at hf
      · cases hf
      · rename_i hn
        rw [upd_ne (fun e=>hn e.symm)]
        exact hd id hf
    · rw [St.get_put] at hg
      split at hg
      · rename_i e1; subst e1
        simp only [Option.some.injEq]at hg
        subst hg
        exact hy
      · exact hob y id cs hg
    · rw [St.get_put] at hgi hgj
      have hlt:∀id cs b N,s0.get id=some cs→β id=some (.bk b N)→b<w.heap.size:=fun id cs b N hg hβ=>((ho id cs hg).onB hβ rfl).1
      by_cases ei:nid=i
      · by_cases ej : nid = j
        · omega
        · rw [if_neg ej] at hgj
          rw [←ei,upd_at]at hbi
          rw [upd_ne (fun e=>ej e.symm)]at hbj
          simp only [Option.some.injEq]at hbi
          have:=hfr b M hbi
          have:=hlt j cj b N hgj hbj
          omega
      · rw [if_neg ei] at hgi
        rw [upd_ne (fun e=>ei e.symm)]at hbi
        by_cases ej:nid=j
        · rw [← ej, upd_at] at hbj
          simp only [Option.some.injEq]at hbj
          have:=hfr b N hbj
          have:=hlt i ci b M hgi hbi
          omega
        · rw [if_neg ej] at hgj
          rw [upd_ne (fun e=>ej e.symm)]at hbj
          exact hi i j ci cj b M N hij hgi hgj hbi hbj
  rcases hrow.2 with ⟨rfl,hz⟩|⟨g,cap,cur,rfl,hbase,hg,r1,r2,r3,r4⟩
  · have hL : L = [] := List.eq_nil_of_length_eq_zero hz
    subst hL
    refine⟨.sl nid 1 0 0,_,X,s0.put nid [],⟨nid,rfl,by rw [St.get_put,if_pos rfl];rfl,hup []⟩,fun _ _ h=>h,fun _ _ h=> .inl h,main .ph [] (by unfold OB;rw [upd_at]) (fun b N h=>by cases h),?_⟩
    simp only [V]
    refine .inl ⟨upd_at,?_⟩
    simp
  · refine ⟨.sl nid 1 0 L.length, _, X, s0.put nid (L.map (A.i .i64)), ⟨nid, rfl, by rw [St.get_put, if_pos rfl], hup _⟩, fun _ _ h => h, fun _ _ h => .inl h, main (.bk g cap) _ ?_ (fun b N h => by cases h; exact hbase), ?_⟩
    · unfold OB
      rw [upd_at]
      refine⟨.inl hbase,fun o h=>by have:=hX g o h;omega,L.map Go.encZ,cur.toList.drop L.length,e,?_,?_,VS_mono (fun b o h=>⟨h,rfl⟩) _ _ _ _ (fun id y h=>h) (VS_ints L),fun x hx=>by obtain⟨a,_,rfl⟩:=List.mem_map.1 hx;rfl⟩
      · rw [hg]
        have:L.map Go.encZ++cur.toList.drop L.length=cur.toList:=by rw [←r4,Nat.mul_one,List.take_append_drop]
        rw [this]
      · have hcl : cur.toList.length = cur.size := Array.length_toList
        rw [List.length_map,List.length_drop];omega
    · simp only [V]
      exact .inr ⟨g,cap,cap,upd_at,rfl,r1,r2,by omega⟩
end Go.Abs
-- E5J
namespace Go.Abs.D2
open Go Go.Eng Go.Abs Go.Proofs
theorem lfew_ok (n:Int) (ids:List Int) (S:List Sp) (hn:S.length≤maxLen):Con Tryz.prog 25 [.i .i64 n,.fz ids.length (ids.map (A.i .i64)),.fz S.length (spsC S)] (Ret (.b (fewE n ids S))):=by
 refine enter Tryz.func25 rfl Tryz.ntmps25 (by kernel_rfl) (Nat.le_of_ble_eq_true rfl) fun w0 X0 hI=>?_
 refine at_seq<|at_region<|s1 (y_p rfl) rfl ?_
 refine at_nil<|x_tn<|at_seq<|at_seq ?_
 simp only [maxLen]at hn
 refine at_region<|s1 ((y_p rfl).v (v':= .i .i64 0) rfl) rfl ?_
 refine at_nil<|x_tn<|at_block ?_
 refine at_loop (ι:=Nat) (fun i=> [(0,.i .i64 n),(1,.fz ids.length (ids.map (A.i .i64))),(2,.fz S.length (spsC S)),(7,nJ i)]) (fun i=>⟨[]⟩) (fun i=>i≤S.length∧∀s∈S.take i,s.ch.length≤10) (fun i=>S.length - i) ?_ ?_
 ·exact at_ex (0) (⟨Nat.zero_le _,fun s hs=>by simp at hs⟩) [] hI rfl rfl ⟨⟨_,rfl,.pure pu⟩,⟨_,rfl,.pure pu⟩,⟨_,rfl,.pure pu⟩,⟨_,rfl,.pure pu⟩,trivial⟩ trivial
 rintro i ⟨hi,hall⟩
 refine at_seq<|at_seq<|at_region<|s1 (y_p rfl) rfl<|s1 (y_p rfl) rfl<|s1 (y_len Tryz.underlying48 rfl rfl rfl) rfl<|s1 (y_p rfl) rfl ?_
 refine at_nil<|x_tn ?_
 refine at_cond rfl (fun hc11=>?_) (fun hc11=>?_)
 ·have h11 : i < S.length := by have := of_decide_eq_true hc11; omega
  obtain⟨s,hs⟩:∃s,S[i]? =some s:=⟨_,List.getElem?_eq_getElem h11⟩
  refine at_skip<|x_tn<|at_seq<|at_block<|at_seq<|at_region<|s1 (y_p rfl) rfl<|s1 (y_p rfl) rfl<|s1 (y_ixf i Tryz.underlying48 ti116 rfl rfl rfl (by omega) rfl) rfl<|s1 (y_fldf Tryz.underlying116 rfl ti31 (by decide) rfl rfl) rfl<|s1 (y_load ti31 rfl rfl (sps_fld hs (k:=1) rfl (by decide))) rfl<|s1 (y_len Tryz.underlying31 rfl rfl rfl) rfl<|s1 (y_p rfl) rfl ?_
  refine at_nil<|x_tn ?_
  refine at_cond rfl (fun hc20=>?_) (fun hc20=>?_)
  ·have h20 : ¬ s.ch.length ≤ 10 := by have := of_decide_eq_true hc20; omega
   refine at_seq<|at_region<|s1 (y_p rfl) rfl ?_
   refine at_nil<|x_tn<|at_ret<|x_br<|x_tr<|x_tr<|x_br<|x_tr ?_
   refine at_result (rs:= [.tmp 6]) rfl (r_tmp rfl r_nil) ?_
   exact congrArg A.b (fewE_no (List.mem_of_getElem? hs) h20).symm
  ·have h20 : s.ch.length ≤ 10 := by have := of_decide_eq_false hc20; omega
   refine at_skip<|x_bn<|x_tn<|at_region<|s1 (y_p rfl) rfl<|s1 (addN _ 1 rfl rfl rfl rfl (by omega)) rfl<|s1 (y_p rfl) rfl ?_
   refine at_nil ?_
   exact at_end (i+1) (⟨by omega,all_takeS hs hall h20⟩) (by omega) [] hI rfl rfl ⟨⟨_,rfl,.pure pu⟩,⟨_,rfl,.pure pu⟩,⟨_,rfl,.pure pu⟩,⟨_,rfl,.pure pu⟩,trivial⟩ trivial
 ·obtain rfl : i = S.length := by have := of_decide_eq_false hc11; omega
  rw [List.take_length]at hall
  refine at_exit<|x_te<|x_te<|x_be<|x_tn<|at_seq<|at_region<|s1 (y_p rfl) rfl<|s1 (y_len Tryz.underlying48 rfl rfl rfl) rfl<|s1 (y_p rfl) rfl<|s1 (y_p rfl) rfl ?_
  refine g_and 2 rfl rfl rfl rfl (fun hb24=> .step (y_p rfl) rfl rfl<| .step (y_p rfl) rfl rfl<| .done) rfl rfl ?_
  refine s1 (y_p rfl) rfl ?_
  refine g_and 3 rfl rfl rfl rfl (fun hb28=> .step (y_p rfl) rfl rfl<| .step (y_len Tryz.underlying30 rfl rfl rfl) rfl rfl<| .step (y_p rfl) rfl rfl<| .done) rfl rfl ?_
  refine s1 (y_p rfl) rfl ?_
  refine at_nil<|x_tn<|at_ret ?_
  refine at_result (rs:= [.tmp 6]) rfl (r_tmp rfl r_nil) ?_
  exact congrArg A.b (fewE_all hall).symm
theorem lpub_ok (x:List UInt8) (n iss:Int) (ids:List Int) (S:List Sp) (hx:x.length=32) (hi:rg iss) (hids:ids.length≤100) (hS:∀s∈S,s.ok) (hc:∀s∈S,s.ch.length≤10) (hn:S.length≤100):Con Tryz.prog 26 [.ag (x.map u8),.i .i64 n,.i .i64 iss,.fz ids.length (ids.map (A.i .i64)),.fz S.length (spsC S)] (Ret (epsA (pubLs x n iss ids [] S))):=by
 refine enter Tryz.func26 rfl Tryz.ntmps26 (by kernel_rfl) (Nat.le_of_ble_eq_true rfl) fun w0 X0 hI=>?_
 refine at_seq<|at_region ?_
 refine at_op rfl (n_boxA 5 rfl rfl rfl ?_)
 refine s1 (y_p rfl) rfl ?_
 refine at_nil<|x_tn<|at_seq<|at_region ?_
 refine at_op rfl (n_bsZ Tryz.underlying24 ti45 rfl rfl rfl (by first|(simp [cellsA];done)|(simp [cellsA, *];done)) (show flatA []= []from rfl) pul rfl rfl rfl ?_)
 refine s1 (y_p rfl) rfl ?_
 refine at_nil<|x_tn<|at_seq<|at_seq<|at_region<|s1 ((y_p rfl).v (v':= .i .i64 0) rfl) rfl ?_
 refine at_nil<|x_tn<|at_block ?_
 refine at_loop (ι:=Nat×List Ep) (fun⟨i,l⟩=> [(1,.i .i64 n),(2,.i .i64 iss),(3,.fz ids.length (ids.map (A.i .i64))),(4,.fz S.length (spsC S)),(5,.p 5 0),(11,epsA l),(12,nJ i)]) (fun⟨i,l⟩=>⟨[(5,some (x.map u8))]⟩) (fun⟨i,l⟩=>i≤S.length∧EpsOk l∧l.length≤i∧pubLs x n iss ids [] S=pubLs x n iss ids l (S.drop i)) (fun⟨i,l⟩=>S.length - i) ?_ ?_
 ·exact at_ex ((0, [])) (⟨Nat.zero_le _,(fun e he=>by cases he),Nat.le_refl _,rfl⟩) [(5,some 5)] hI rfl rfl ⟨⟨_,rfl,.pure pu⟩,⟨_,rfl,.pure pu⟩,⟨_,rfl,.pure pu⟩,⟨_,rfl,.pure pu⟩,⟨_,rfl,.p rfl⟩,⟨_,rfl,.pure pu⟩,⟨_,rfl,.pure pu⟩,trivial⟩ ⟨.inr ⟨_,_,rfl,rfl,.pure pul⟩,trivial⟩
 rintro⟨i,l⟩ ⟨hii,hl,hll,hst⟩
 dsimp only
 refine at_seq<|at_seq<|at_region<|s1 (y_p rfl) rfl<|s1 (y_p rfl) rfl<|s1 (y_len Tryz.underlying48 rfl rfl rfl) rfl<|s1 (y_p rfl) rfl ?_
 refine at_nil<|x_tn ?_
 refine at_cond rfl (fun hc19=>?_) (fun hc19=>?_)
 ·have h19 : i < S.length := by have := of_decide_eq_true hc19; omega
  obtain⟨s,hs⟩:∃s,S[i]? =some s:=⟨_,List.getElem?_eq_getElem h19⟩
  have hsm:=List.mem_of_getElem? hs
  have hso:=hS s hsm
  have hsc:=hc s hsm
  refine at_skip<|x_tn<|at_seq<|at_block<|at_seq ?_
  rcases sum_ways (pubX x n l iss s.day ids s.ch)with hcs|hcs
  ·obtain ⟨v, hp⟩ := hcs
   have hv:=pub_err hp
   refine at_fs ⟨_, [], []⟩ 20 4 hmix (le_refl rfl) ?_
   refine fs_q 0 [] [(5,none)] (y_loadA0 ti23 rfl rfl (by rw [List.length_map,hx])) rfl rfl ?_
   refine fs_q 1 [] [] (y_p rfl) rfl rfl ?_
   refine fs_q 2 [] [] (y_p rfl) rfl rfl ?_
   refine fs_q 3 [] [] (y_p rfl) rfl rfl ?_
   refine fs_q 4 [] [] (y_p rfl) rfl rfl ?_
   refine fs_q 5 [] [] (y_p rfl) rfl rfl ?_
   refine fs_q 6 [4,5] [] (y_ixf i Tryz.underlying48 ti116 rfl rfl rfl (by omega) rfl) rfl rfl ?_
   refine fs_q 7 [6] [] (y_fldf Tryz.underlying116 rfl ti3 (by decide) rfl rfl) rfl rfl ?_
   refine fs_q 8 [7] [] (y_load ti3 rfl rfl (sps_fld hs (k:=0) rfl (by decide))) rfl rfl ?_
   refine fs_q 9 [] [] (y_p rfl) rfl rfl ?_
   refine fs_q 10 [] [] (y_p rfl) rfl rfl ?_
   refine fs_q 11 [] [] (y_p rfl) rfl rfl ?_
   refine fs_q 12 [10,11] [] (y_ixf i Tryz.underlying48 ti116 rfl rfl rfl (by omega) rfl) rfl rfl ?_
   refine fs_q 13 [12] [] (y_fldf Tryz.underlying116 rfl ti31 (by decide) rfl rfl) rfl rfl ?_
   refine fs_q 14 [13] [] (y_load ti31 rfl rfl (sps_fld hs (k:=1) rfl (by decide))) rfl rfl ?_
   refine fs_call false 15 [0,1,2,3,8,9,14] [] gy0 rfl (.cons (.pure pu) (.cons (.pure pu) (.cons (.pure pu) (.cons (.pure pu) (.cons (.pure pu) (.cons (.pure pu) (.cons (.pure pu) (.nil)))))))) (Con.cast (epub_ok x n l iss s.day ids s.ch hx hl (by omega) hi hso.1 (by omega) (by omega) hso.2) (show _=A.tu [.nl,.i .i64 v] by rw [hp];rfl)) pu (.inl rfl) rfl rfl ?_
   refine fs_q 16 [15] [] (y_p rfl) rfl rfl ?_
   refine fs_q 17 [16] [] (y_p rfl) rfl rfl ?_
   refine fs_q 18 [16] [] (y_p rfl) rfl rfl ?_
   refine fs_q 19 [17] [] (y_p rfl) rfl rfl ?_
   refine fs_end (by kernel_rfl) ?_
   refine s1 (y_p rfl) rfl ?_
   refine at_nil<|x_tn<|at_seq<|at_region<|s1 (y_p rfl) rfl<|s1 ((y_p rfl).v (v':= .b false) (congrArg A.b (beq_eq_false_iff_ne.2 hv))) rfl ?_
   refine at_nil<|x_tn ?_
   refine at_else rfl ?_
   refine at_skip<|x_bn<|x_tn<|at_region<|s1 (y_p rfl) rfl<|s1 (addN _ 1 rfl rfl rfl rfl (by omega)) rfl<|s1 (y_p rfl) rfl ?_
   refine at_nil ?_
   exact at_end (x:=(i,l)) ((i+1,l)) (⟨show i+1≤S.length by omega,hl,show l.length≤i+1 by omega,hst.trans ((pubLs_next hs).trans (by rw [hp];rfl))⟩) (show S.length - (i+1)<S.length - i by omega) [(5,some 5)] hI rfl rfl ⟨⟨_,rfl,.pure pu⟩,⟨_,rfl,.pure pu⟩,⟨_,rfl,.pure pu⟩,⟨_,rfl,.pure pu⟩,⟨_,rfl,.p rfl⟩,⟨_,rfl,.pure pu⟩,⟨_,rfl,.pure pu⟩,trivial⟩ ⟨.inr ⟨_,_,rfl,rfl,.pure pul⟩,trivial⟩
  ·obtain ⟨e, hp⟩ := hcs
   have hao:=addE_ok (x:=x) (n:=n) (ids:=ids) hl (by omega) hi hso.1 (by omega:s.ch.length≤1000) hso.2
   rw [hp]at hao
   simp only [addE]at hao
   refine at_fs ⟨_, [], []⟩ 20 4 hmix (le_refl rfl) ?_
   refine fs_q 0 [] [(5,none)] (y_loadA0 ti23 rfl rfl (by rw [List.length_map,hx])) rfl rfl ?_
   refine fs_q 1 [] [] (y_p rfl) rfl rfl ?_
   refine fs_q 2 [] [] (y_p rfl) rfl rfl ?_
   refine fs_q 3 [] [] (y_p rfl) rfl rfl ?_
   refine fs_q 4 [] [] (y_p rfl) rfl rfl ?_
   refine fs_q 5 [] [] (y_p rfl) rfl rfl ?_
   refine fs_q 6 [4,5] [] (y_ixf i Tryz.underlying48 ti116 rfl rfl rfl (by omega) rfl) rfl rfl ?_
   refine fs_q 7 [6] [] (y_fldf Tryz.underlying116 rfl ti3 (by decide) rfl rfl) rfl rfl ?_
   refine fs_q 8 [7] [] (y_load ti3 rfl rfl (sps_fld hs (k:=0) rfl (by decide))) rfl rfl ?_
   refine fs_q 9 [] [] (y_p rfl) rfl rfl ?_
   refine fs_q 10 [] [] (y_p rfl) rfl rfl ?_
   refine fs_q 11 [] [] (y_p rfl) rfl rfl ?_
   refine fs_q 12 [10,11] [] (y_ixf i Tryz.underlying48 ti116 rfl rfl rfl (by omega) rfl) rfl rfl ?_
   refine fs_q 13 [12] [] (y_fldf Tryz.underlying116 rfl ti31 (by decide) rfl rfl) rfl rfl ?_
   refine fs_q 14 [13] [] (y_load ti31 rfl rfl (sps_fld hs (k:=1) rfl (by decide))) rfl rfl ?_
   refine fs_call false 15 [0,1,2,3,8,9,14] [] gy0 rfl (.cons (.pure pu) (.cons (.pure pu) (.cons (.pure pu) (.cons (.pure pu) (.cons (.pure pu) (.cons (.pure pu) (.cons (.pure pu) (.nil)))))))) (Con.cast (epub_ok x n l iss s.day ids s.ch hx hl (by omega) hi hso.1 (by omega) (by omega) hso.2) (show _=A.tu [epsA (l++ [e]),.i .i64 0] by rw [hp];rfl)) pu (.inl rfl) rfl rfl ?_
   refine fs_q 16 [15] [] (y_p rfl) rfl rfl ?_
   refine fs_q 17 [16] [] (y_p rfl) rfl rfl ?_
   refine fs_q 18 [16] [] (y_p rfl) rfl rfl ?_
   refine fs_q 19 [17] [] (y_p rfl) rfl rfl ?_
   refine fs_end (by kernel_rfl) ?_
   refine s1 (y_p rfl) rfl ?_
   refine at_nil<|x_tn<|at_seq<|at_region<|s1 (y_p rfl) rfl<|s1 ((y_p rfl).v (v':= .b true) (rfl)) rfl ?_
   refine at_nil<|x_tn ?_
   refine at_then rfl ?_
   refine at_region<|s1 (y_p rfl) rfl<|s1 (y_p rfl) rfl ?_
   refine at_nil<|x_bn<|x_tn<|at_region<|s1 (y_p rfl) rfl<|s1 (addN _ 1 rfl rfl rfl rfl (by omega)) rfl<|s1 (y_p rfl) rfl ?_
   refine at_nil ?_
   exact at_end (x:=(i,l)) ((i+1,l++ [e])) (⟨show i+1≤S.length by omega,hao.1,Nat.le_trans hao.2 (by omega),hst.trans ((pubLs_next hs).trans (by rw [hp];rfl))⟩) (show S.length - (i+1)<S.length - i by omega) [(5,some 5)] hI rfl rfl ⟨⟨_,rfl,.pure pu⟩,⟨_,rfl,.pure pu⟩,⟨_,rfl,.pure pu⟩,⟨_,rfl,.pure pu⟩,⟨_,rfl,.p rfl⟩,⟨_,rfl,.pure pu⟩,⟨_,rfl,.pure pu⟩,trivial⟩ ⟨.inr ⟨_,_,rfl,rfl,.pure pul⟩,trivial⟩
 ·obtain rfl : i = S.length := by have := of_decide_eq_false hc19; omega
  rw [List.drop_length]at hst
  refine at_exit<|x_te<|x_te<|x_be<|x_tn<|at_seq<|at_region<|s1 (y_p rfl) rfl<|s1 (y_p rfl) rfl ?_
  refine at_nil<|x_tn<|at_ret ?_
  refine at_result (rs:= [.tmp 10]) rfl (r_tmp rfl r_nil) ?_
  rw [hst];rfl
theorem rsameCh_ok (a b:List Ch) (ha:a.length≤maxLen) (hb:b.length≤maxLen):Con Tryz.prog 24 [chsA a,chsA b] (Ret (.b (sameC5 a b))):=by
 refine enter Tryz.func24 rfl Tryz.ntmps24 (by kernel_rfl) (Nat.le_of_ble_eq_true rfl) fun w0 X0 hI=>?_
 refine at_seq<|at_region<|s1 (y_p rfl) rfl ?_
 refine at_nil<|x_tn<|at_seq<|at_seq ?_
 simp only [maxLen]at ha hb
 refine at_region<|s1 (y_p rfl) rfl<|s1 (y_len Tryz.underlying31 rfl rfl rfl) rfl<|s1 (y_p rfl) rfl<|s1 (y_len Tryz.underlying31 rfl rfl rfl) rfl<|s1 (y_p rfl) rfl ?_
 refine at_nil<|x_tn ?_
 refine at_cond rfl (fun hc10=>?_) (fun hc10=>?_)
 ·have h10 : a.length ≠ b.length := by intro h; simp [h] at hc10
  refine at_seq<|at_region<|s1 (y_p rfl) rfl ?_
  refine at_nil<|x_tn<|at_ret<|x_tr ?_
  refine at_result (rs:= [.tmp 4]) rfl (r_tmp rfl r_nil) ?_
  exact congrArg A.b (sameC5_lne h10).symm
 ·have h10 : a.length = b.length := by simp at hc10; omega
  refine at_skip<|x_tn<|at_seq<|at_seq<|at_region<|s1 ((y_p rfl).v (v':= .i .i64 0) rfl) rfl ?_
  refine at_nil<|x_tn<|at_block ?_
  refine at_loop (ι:=Nat) (fun i=> [(0,chsA a),(1,chsA b),(5,nJ i)]) (fun i=>⟨[]⟩) (fun i=>i≤a.length∧sameC5 a b=sameC5 (a.drop i) (b.drop i)) (fun i=>a.length - i) ?_ ?_
  ·exact at_ex (0) (⟨Nat.zero_le _,rfl⟩) [] hI rfl rfl ⟨⟨_,rfl,.pure pu⟩,⟨_,rfl,.pure pu⟩,⟨_,rfl,.pure pu⟩,trivial⟩ trivial
  rintro i ⟨hi,hst⟩
  refine at_seq<|at_seq<|at_region<|s1 (y_p rfl) rfl<|s1 (y_p rfl) rfl<|s1 (y_len Tryz.underlying31 rfl rfl rfl) rfl<|s1 (y_p rfl) rfl ?_
  refine at_nil<|x_tn ?_
  refine at_cond rfl (fun hc14=>?_) (fun hc14=>?_)
  ·have h14 : i < a.length := by have := of_decide_eq_true hc14; omega
   obtain⟨c,hc⟩:∃c,a[i]? =some c:=⟨_,List.getElem?_eq_getElem h14⟩
   obtain⟨d,hd⟩:∃d,b[i]? =some d:=⟨_,List.getElem?_eq_getElem (by omega)⟩
   refine at_skip<|x_tn<|at_seq<|at_block<|at_seq ?_
   refine at_draw_tail 8 hmix (by kernel_rfl) ?_
   refine t1 (y_p rfl) rfl<|t1 (y_p rfl) rfl<|t1 (y_ixf i Tryz.underlying31 ti55 rfl rfl rfl (by omega) rfl) rfl<|t1 (y_loadA ti55 rfl rfl (chs_get hc) rfl) rfl<|t1 (y_p rfl) rfl<|t1 (y_p rfl) rfl<|t1 (y_ixf i Tryz.underlying31 ti55 rfl rfl rfl (by omega) rfl) rfl<|t1 (y_loadA ti55 rfl rfl (chs_get hd) rfl) rfl ?_
   refine at_snil ?_
   refine s1 (y_ne2 Tryz.underlying55 rfl rfl rfl rfl (by decide) (by decide) Tryz.underlying3 (by kernel_rfl) (by kernel_rfl) rfl rfl) rfl ?_
   refine at_nil<|x_tn ?_
   refine at_cond rfl (fun hc25=>?_) (fun hc25=>?_)
   ·have h25 : (c.id == d.id && c.st == d.st) = false := by rw [Bool.not_eq_true'] at hc25; exact hc25
    refine at_seq<|at_region<|s1 (y_p rfl) rfl ?_
    refine at_nil<|x_tn<|at_ret<|x_br<|x_tr<|x_tr<|x_br<|x_tr ?_
    refine at_result (rs:= [.tmp 4]) rfl (r_tmp rfl r_nil) ?_
    exact congrArg A.b (hst.trans ((sameC5_at hc hd).trans (by rw [h25];rfl))).symm
   ·have h25 : (c.id == d.id && c.st == d.st) = true := by rw [Bool.not_eq_false'] at hc25; exact hc25
    refine at_skip<|x_bn<|x_tn<|at_region<|s1 (y_p rfl) rfl<|s1 (addN _ 1 rfl rfl rfl rfl (by omega)) rfl<|s1 (y_p rfl) rfl ?_
    refine at_nil ?_
    exact at_end (i+1) (⟨by omega,hst.trans ((sameC5_at hc hd).trans (by rw [h25];rfl))⟩) (by omega) [] hI rfl rfl ⟨⟨_,rfl,.pure pu⟩,⟨_,rfl,.pure pu⟩,⟨_,rfl,.pure pu⟩,trivial⟩ trivial
  ·obtain rfl : i = a.length := by have := of_decide_eq_false hc14; omega
   rw [List.drop_length,h10,List.drop_length]at hst
   refine at_exit<|x_te<|x_te<|x_be<|x_tn<|at_seq<|at_region<|s1 (y_p rfl) rfl ?_
   refine at_nil<|x_tn<|at_ret ?_
   refine at_result (rs:= [.tmp 4]) rfl (r_tmp rfl r_nil) ?_
   exact congrArg A.b hst.symm
end Go.Abs.D2
-- E5T
namespace Go.Abs.D2
open Go Go.Eng Go.Abs Go.Proofs
theorem keysS_sorted (σ:Int→Int):(keysS σ).mergeSort (fun x y=>decide (x≤y))=keysS σ:=by
  refine List.mergeSort_of_pairwise ?_
  refine List.Pairwise.filter _ ?_
  rw [List.pairwise_map]
  exact List.pairwise_lt_range.imp fun h=>by simp;omega
theorem keysS_len (σ:Int→Int):(keysS σ).length≤1024:=by
  have:=List.length_filter_le (fun n=>σ n !=0) ((List.range 1024).map fun k:Nat=>(k:Int))
  simpa [keysS]using this
theorem mapF_perm {es:Array MapEntry} {clk:Nat} {f:Int→Option Value} (h:MapF es clk f) {L:List Int} (hn:L.Nodup) (hL:∀k,(f k).isSome=true↔k∈L):(es.toList.map keyI).Perm L:=by
  have hk:∀x∈es.toList,x.key= .int .i64 (keyI x)∧f (keyI x)=some x.val:=fun x hx=>by
    obtain⟨k,e1,e2⟩:=h.ent x hx
    have:keyI x=k:=by unfold keyI;rw [e1]
    rw [this];exact⟨e1,e2⟩
  have hnd:(es.toList.map keyI).Nodup:=by
    have h3:=h.st.2.2
    rw [List.nodup_iff_pairwise_ne]at h3 ⊢
    rw [List.pairwise_map]at h3 ⊢
    refine h3.imp_of_mem fun {a b} ha hb hne e=>hne ?_
    rw [(hk a ha).1,(hk b hb).1,e]
  exact(List.perm_ext_iff_of_nodup hnd hn).2 fun k=>by
    rw [←hL k,List.mem_map]
    constructor
    · rintro ⟨x, hx, rfl⟩
      rw [(hk x hx).2];rfl
    · intro hs
      obtain⟨v,hv⟩:=Option.isSome_iff_exists.1 hs
      obtain⟨x,hx,e⟩:=h.has k v hv
      exact⟨x,hx,by unfold keyI;rw [e]⟩
theorem owns_of {H:Type} {P:Program} {k:TypeId} (hk:P.underlying k=some (.int .i64)) {σ:Int→Int} (hs:Sup σ) {w:World} {b:Nat} {es:Array MapEntry} {clk:Nat} (hb:w.heap[b]? =some (.map es clk)) (hF:MapF es clk (mapOf σ)):
    ∃D0:DataW H,w.ownsMap P k (fun _=>some (.nil, [])) b 1024 D0∧(intKeys D0).Perm (keysS σ)∧Maps.size D0≤1024:=by
  have hsz:=hF.size (keysS_nodup σ) (keysS_mem hs)
  have hkl:=keysS_len σ
  have hrd:∀x∈es.toList,Go.WideElems.rd (H:=H) P k (fun _=>some (.nil, [])) x=some (.int .i64 (keyI x),.nil):=fun x hx=>by
    obtain⟨q,e1,e2⟩:=hF.ent x hx
    have hq:keyI x=q:=by unfold keyI;rw [e1]
    have h0:σ q≠0:=by
      unfold mapOf at e2
      split at e2
      · cases e2
      · assumption
    obtain⟨h1,h2⟩:=hs q h0
    have hw:(Lit.int .i64 q).wf=true:=by
      have hmin:IntKind.i64.min= -9223372036854775808:=by decide
      simp only [Lit.wf,decide_eq_true_eq,Bool.and_eq_true]
      simp
      exact⟨by rw [hmin];omega,by omega⟩
    rw [hq]
    show(keyOf P k x.key).bind _=_
    rw [e1,Go.Maps.keyOf_int_mk hk hw]
    rfl
  refine⟨_,⟨es,clk,hb,⟨by rw [hsz];exact Nat.le_trans hkl (by decide),hF.st,fun x hx=>⟨_,hrd x hx⟩⟩,by rw [hsz];exact hkl,rfl⟩,?_,?_⟩
  · show ((es.toList.map (Go.WideElems.rg P k (fun _ => some (.nil, [])))).foldr DataW.insert [] |>.map fun p => intOf p.1).Perm _
    refine((Go.WideShapes.sorted_perm _).map _).trans ?_
    rw [List.map_map]
    have:es.toList.map ((fun p:Lit×DataW H=>intOf p.1) ∘ Go.WideElems.rg P k (fun _=>some (.nil, [])))=es.toList.map keyI:=List.map_congr_left fun x hx=>by
      show intOf (Go.WideElems.rg P k (fun _=>some (.nil, [])) x).1=_
      rw [Go.WideElems.rg_of (hrd x hx)];rfl
    rw [this]
    exact mapF_perm hF (keysS_nodup σ) (keysS_mem hs)
  · show ((es.toList.map (Go.WideElems.rg P k (fun _ => some (.nil, [])))).foldr DataW.insert []).length ≤ 1024
    rw [(Go.WideShapes.sorted_perm _).length_eq,List.length_map,Array.length_toList,hsz]
    exact hkl
end Go.Abs.D2
