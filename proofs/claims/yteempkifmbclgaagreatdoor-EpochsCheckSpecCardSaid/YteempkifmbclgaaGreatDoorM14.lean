/-
  The engine, the plain laws and the walks that the rows need, part 14. Conditions: none.
-/
import Derived.Test.YteempkifmbclgaaGreatDoorM13
set_option linter.unusedVariables false
set_option linter.unusedSimpArgs false
set_option maxHeartbeats 1000000
set_option maxRecDepth 10000
-- C4B
namespace Go.Abs.D2
open Go Go.Eng Go.Abs Go.Proofs
theorem l8 (l:List Int) (hn:l.length≤maxLen):aA Tryz.prog 72 [.fz l.length (l.map (A.i .i64))] (aN (.b (cP l))):=by
 refine enter Tryz.func72 rfl Tryz.ntmps72 (by kernel_rfl) (Nat.le_of_ble_eq_true rfl) fun w0 X0 hI=>?_
 refine af<|ai<|s1 (aa rfl) rfl ?_
 refine ah<|ae<|af ?_
 simp only [maxLen]at hn
 refine ai<|s1 ((aa rfl).v (v':= .i .i64 (-1)) rfl) rfl ?_
 refine ah<|ae<|af<|af<|ai<|s1 (aa rfl) rfl<|s1 (bu Tryz.underlying30 rfl rfl rfl) rfl<|s1 ((aa rfl).v (v':= .i .i64 0) rfl) rfl ?_
 refine ah<|ae<|aM ?_
 refine bF (ι:=Nat) (fun i=> [(3,.i .i64 (fL l i)),(6,.fz l.length (l.map (A.i .i64))),(7,nJ l.length),(8,nJ i)]) (fun i=>⟨[]⟩) (fun i=>i≤l.length∧cP l=dW (fL l i) (l.drop i)) (fun i=>l.length - i) ?_ ?_
 ·exact bE (0) (⟨Nat.zero_le _,yI l⟩) [] hI rfl rfl ⟨⟨_,rfl,.pure pu⟩,⟨_,rfl,.pure pu⟩,⟨_,rfl,.pure pu⟩,⟨_,rfl,.pure pu⟩,trivial⟩ trivial
 rintro i ⟨hi,hl⟩
 refine af<|ai<|s1 (aa rfl) rfl ?_
 refine ah<|ae<|af ?_
 refine aO rfl (fun hc9=>?_) (fun hc9=>?_)
 ·have h9 : i < l.length := by have := of_decide_eq_true hc9; omega
  obtain⟨q,hq⟩:∃q,l[i]? =some q:=⟨_,List.getElem?_eq_getElem h9⟩
  refine aL<|ae<|af<|aM<|af<|ai<|s1 (aT i Tryz.underlying30 an rfl rfl rfl (by omega) rfl) rfl<|s1 (au an rfl rfl (oq hq)) rfl<|s1 (aa rfl) rfl ?_
  refine ah<|ae<|af<|af<|ai<|s1 (aa rfl) rfl<|s1 (aa rfl) rfl<|s1 (aa rfl) rfl<|s1 (aa rfl) rfl ?_
  refine fJ 2 rfl rfl rfl rfl (fun hb15=> .step (aa rfl) rfl rfl<| .step (aa rfl) rfl rfl<| .done) rfl rfl ?_
  refine ah<|ae ?_
  refine aO rfl (fun hc18=>?_) (fun hc18=>?_)
  ·have h18 : ¬ (fL l i < q ∧ q < 1024) := by simp at hc18; omega
   refine af<|ai<|s1 (aa rfl) rfl ?_
   refine ah<|ae<|aE<|aH<|bg<|aH<|aH<|bg<|aH ?_
   refine aF (rs:= [.tmp 2]) rfl (aD rfl aB) ?_
   exact congrArg A.b (yH hl hq h18).symm
  ·have h18 : fL l i < q ∧ q < 1024 := by simp at hc18; omega
   refine aL<|ae<|ai<|s1 ((aa rfl).v (v':= .i .i64 (fL l (i+1))) (congrArg (A.i .i64) (wE hq).symm)) rfl<|s1 (aa rfl) rfl ?_
   refine ah<|bh<|ae<|ai<|s1 (bc _ 1 rfl rfl rfl rfl (by omega)) rfl<|s1 (aa rfl) rfl ?_
   refine ah ?_
   exact br (i+1) (⟨by omega,uU hl hq h18⟩) (by omega) [] hI rfl rfl ⟨⟨_,rfl,.pure pu⟩,⟨_,rfl,.pure pu⟩,⟨_,rfl,.pure pu⟩,⟨_,rfl,.pure pu⟩,trivial⟩ trivial
 ·have h9 : i = l.length := by have := of_decide_eq_false hc9; omega
  subst h9
  refine bC<|aP<|aP<|bD<|ae<|af<|ai<|s1 (aa rfl) rfl ?_
  refine ah<|ae<|aE ?_
  refine aF (rs:= [.tmp 2]) rfl (aD rfl aB) ?_
  exact congrArg A.b (yE hl).symm
theorem yY (c:cD) (hx:c.x.length=32) (hn:c.E.length≤maxLen):aA Tryz.prog 80 [.ag (eL c)] (aN (.i .i64 (vS (dP c)))):=by
 refine enter Tryz.func80 rfl Tryz.ntmps80 (by kernel_rfl) (Nat.le_of_ble_eq_true rfl) fun w0 X0 hI=>?_
 refine af<|ai ?_
 refine ak rfl (bK 1 rfl rfl rfl ?_)
 refine s1 ((aa rfl).v (v':= .i .i64 0) rfl) rfl ?_
 refine ah<|ae<|af<|af<|ai<|s1 (aC Tryz.underlying60 rfl iH (by decide) rfl rfl) rfl<|s1 (au iH rfl rfl (vf hx)) rfl<|s1 (bu Tryz.underlying58 rfl rfl rfl) rfl<|s1 (aa rfl) rfl<|s1 (aa rfl) rfl ?_
 refine il 9 rfl (fun hc9=>?_) (fun hc9=>?_)
 ·have h4 : ¬ c.F.length ≤ 16 := by simp at hc9; omega
  refine g0 rfl rfl rfl rfl<|g0 rfl rfl rfl rfl<|g0 rfl rfl rfl rfl<|g0 rfl rfl rfl rfl<|s1 (aa rfl) rfl ?_
  refine ah<|ae ?_
  refine bR rfl ?_
  refine af<|ai<|s1 ((aa rfl).v (v':= .i .i64 340) rfl) rfl ?_
  refine ah<|ae<|aE<|aH ?_
  refine aF (rs:= [.tmp 2]) rfl (aD rfl aB) ?_
  exact congrArg (A.i .i64) (by rw [FR h4];rfl)
 ·have h4 : c.F.length ≤ 16 := by simp at hc9; omega
  refine g1 rfl rfl (aC Tryz.underlying60 rfl ia (by decide) rfl rfl) rfl<|g1 rfl rfl (au ia rfl rfl (yU hx)) rfl ?_
  refine jN rfl rfl rfl (aI false rfl (.cons (.pure pu) (.nil)) (l8 c.E hn) pu (.inl rfl) rfl ?_)
  refine g1 rfl rfl (aa rfl) rfl<|s1 (aa rfl) rfl ?_
  refine ah<|ae ?_
  refine aO rfl (fun hc14=>?_) (fun hc14=>?_)
  ·have h14 : cP c.E = false := by simpa using hc14
   refine af<|ai<|s1 ((aa rfl).v (v':= .i .i64 340) rfl) rfl ?_
   refine ah<|ae<|aE<|aH ?_
   refine aF (rs:= [.tmp 2]) rfl (aD rfl aB) ?_
   exact congrArg (A.i .i64) (by rw [FT h14];rfl)
  ·have h14 : cP c.E = true := by simpa using hc14
   refine aL<|ae<|af<|af<|ai<|s1 (aC Tryz.underlying60 rfl iH (by decide) rfl rfl) rfl<|s1 (au iH rfl rfl (vf hx)) rfl<|s1 (bu Tryz.underlying58 rfl rfl rfl) rfl<|s1 ((aa rfl).v (v':= .i .i64 0) rfl) rfl ?_
   refine ah<|ae<|aM ?_
   refine bF (ι:=Nat) (fun i=> [(16,pT c.F),(17,nJ c.F.length),(18,nJ i)]) (fun i=>⟨[]⟩) (fun i=>i≤c.F.length∧eO 0 c.F=eO i (c.F.drop i)) (fun i=>c.F.length - i) ?_ ?_
   ·exact bE (0) (⟨Nat.zero_le _,rfl⟩) [] hI rfl rfl ⟨⟨_,rfl,.pure pu⟩,⟨_,rfl,.pure pu⟩,⟨_,rfl,.pure pu⟩,trivial⟩ trivial
   rintro i ⟨hi,hl⟩
   refine af<|ai<|s1 (aa rfl) rfl ?_
   refine ah<|ae<|af ?_
   refine aO rfl (fun hc19=>?_) (fun hc19=>?_)
   ·have h19 : i < c.F.length := by have := of_decide_eq_true hc19; omega
    obtain⟨f,hf⟩:∃f,c.F[i]? =some f:=⟨_,List.getElem?_eq_getElem h19⟩
    refine aL<|ae<|af<|aM<|af<|ai<|s1 (aa rfl) rfl<|s1 (aT i Tryz.underlying58 cJ rfl rfl rfl (by omega) rfl) rfl<|s1 (bY cJ rfl rfl (AQ hf) rfl) rfl ?_
    refine ak rfl (bp 4 rfl cJ rfl rfl ?_)
    refine s1 (aa rfl) rfl ?_
    refine ak rfl (bb cJ rfl rfl rfl (by first|rfl|omega|(simp<;>omega)|(simp [*]<;>omega)) (by first|rfl|omega|(simp<;>omega)|(simp [*]<;>omega)) ?_)
    refine ah<|ae<|af<|ai<|s1 (aC Tryz.underlying120 rfl an (by decide) rfl rfl) rfl<|s1 (au an rfl rfl rfl) rfl<|s1 (aa rfl) rfl<|s1 (aa rfl) rfl<|s1 (aa rfl) rfl ?_
    refine il 27 rfl (fun hc27=>?_) (fun hc27=>?_)
    ·have h27 : ¬ f.lv = i := by simpa using hc27
     refine g0 rfl rfl rfl rfl<|g0 rfl rfl rfl rfl<|g0 rfl rfl rfl rfl<|s1 (aa rfl) rfl ?_
     refine ah<|ae ?_
     refine bR rfl ?_
     refine af<|ai<|s1 ((aa rfl).v (v':= .i .i64 340) rfl) rfl ?_
     refine ah<|ae<|aE<|bg<|aH<|aH<|bg<|aH ?_
     refine aF (rs:= [.tmp 2]) rfl (aD rfl aB) ?_
     exact congrArg (A.i .i64) (by rw [zo (BI hl hf (fun h=>h27 h.1))];rfl)
    ·have h27 : f.lv = i := by simpa using hc27
     refine g1 rfl rfl (aV cJ rfl rfl rfl) rfl ?_
     refine jN rfl rfl rfl (aI false rfl (.cons (.pure pu) (.nil)) (vT f.lv f.nb f.D) pu (.inl rfl) rfl ?_)
     refine g1 rfl rfl (aa rfl) rfl<|s1 (aa rfl) rfl ?_
     refine ah<|ae ?_
     refine aO rfl (fun hc31=>?_) (fun hc31=>?_)
     ·have h31 : ¬ (f.lv = i ∧ cM f.lv f.nb f.D = true) := by intro h; simp [h.2, oa] at hc31
      refine af<|ai<|s1 ((aa rfl).v (v':= .i .i64 340) rfl) rfl ?_
      refine ah<|ae<|aE<|bg<|aH<|aH<|bg<|aH ?_
      refine aF (rs:= [.tmp 2]) rfl (aD rfl aB) ?_
      exact congrArg (A.i .i64) (by rw [zo (BI hl hf h31)];rfl)
     ·have h31 : f.lv = i ∧ cM f.lv f.nb f.D = true := ⟨h27, by cases hk : cM f.lv f.nb f.D with | true => rfl | false => simp [hk, oa] at hc31⟩
      refine aL<|bh<|ae<|ai<|s1 (bc _ 1 rfl rfl rfl rfl (by omega)) rfl<|s1 (aa rfl) rfl ?_
      refine ah ?_
      exact br (i+1) (⟨by omega,IB hl hf h31.1 h31.2⟩) (by omega) [] hI rfl rfl ⟨⟨_,rfl,.pure pu⟩,⟨_,rfl,.pure pu⟩,⟨_,rfl,.pure pu⟩,trivial⟩ trivial
   ·have h19 : i = c.F.length := by have := of_decide_eq_false hc19; omega
    subst h19
    refine bC<|aP<|aP<|bD<|ae<|af<|ai<|s1 ((aa rfl).v (v':= .i .i64 0) rfl) rfl ?_
    refine ah<|ae<|aE ?_
    refine aF (rs:= [.tmp 2]) rfl (aD rfl aB) ?_
    exact congrArg (A.i .i64) (by rw [zq h4 h14 (IA hl)];rfl)
end Go.Abs.D2
-- C4C
namespace Go.Abs.D2
open Go Go.Eng Go.Abs Go.Proofs
end Go.Abs.D2
-- C4D
namespace Go.Abs.D2
open Go Go.Eng Go.Abs Go.Proofs
end Go.Abs.D2
namespace Go.Eng
open Go Go.Eng Go.Proofs Go.Abs
theorem MV (w:World):(zeroValue 4).run Tryz.prog w= .ok (.bool false) w:=by kernel_rfl
theorem Co {w:World} {b blk clk:Nat} {es:Array MapEntry} (h:w.heap.size≤b):s5 [(b,.map es clk)] w blk:=⟨.inr h,trivial⟩
theorem GB (w:World) (a1 a2:Option Addr) (c1 c2:Nat) (l1 l2:List Int) (h1:RI w a1 l1) (h2:RI w a2 l2) (hn1:l1.length≤maxLen) (hn2:l2.length≤maxLen):Fn Tryz.prog 73 #[.slice a1 l1.length c1,.slice a2 l2.length c2] w (fun v w2=>v= .bool (jP l1 l2)∧RowKit.Below w.heap.size w w2):=by
 simp only [maxLen]at hn1 hn2
 have hlt0:True:=trivial
 refine enter Tryz.func73 rfl Tryz.ntmps73 (by kernel_rfl) rfl ?_
 refine af<|ai<|s1 (aa rfl) rfl ?_
 refine ah<|ae<|af<|ai ?_
 refine ak rfl (wO rfl fun b hbS hbH=>?_)
 have hlb:w.heap.size≤b:=hbS.1
 refine s1 (aa rfl) rfl ?_
 refine ah<|ae<|af<|af<|ai<|s1 (aa rfl) rfl<|s1 (bu Tryz.underlying30 rfl rfl) rfl<|s1 (aa rfl) rfl ?_
 refine ah<|ae<|aM ?_
 refine bF (ι:=Nat×Array MapEntry×Nat) (fun⟨i,es,clk⟩=> [(1,.slice a2 l2.length c2),(5,.map (some b)),(11,.slice a1 l1.length c1),(12,.int .i64 (l1.length:Nat)),(13,.int .i64 (i:Nat))]) (fun⟨i,es,clk⟩=> [w]) (fun⟨i,es,clk⟩=> [(b,.map es clk)]) (fun⟨i,es,clk⟩=>i≤l1.length∧dh es clk (oR (l1.take i))) (fun⟨i,es,clk⟩=>l1.length - i) ?_ ?_
 ·exact bE (0, #[],0) ⟨Nat.zero_le _,dh.empty 0⟩ ⟨rfl,rfl,rfl,rfl,rfl,trivial⟩ (fun _ h=>h)
 rintro⟨i,es,clk⟩ ⟨hi,hF⟩
 dsimp only
 refine af<|ai<|s1 (aa rfl) rfl ?_
 refine ah<|ae<|af ?_
 refine aO rfl (fun hc14=>?_) (fun hc14=>?_)
 ·have h14 : i < l1.length := by have := of_decide_eq_true hc14; omega
  obtain⟨q,hq⟩:∃q,l1[i]? =some q:=⟨_,List.getElem?_eq_getElem h14⟩
  have hr:=h1 i q hq
  refine aL<|ae<|af<|aM<|af<|ai<|s1 (Ec i Tryz.underlying30 an rfl rfl rfl (by omega) hr.1) rfl<|s1 (au an rfl (fun w2 hG2=>hG2.cell' (.head _) hr.2 (Co hlb))) rfl<|s1 (aa rfl) rfl ?_
  refine ah<|ae<|ai<|s1 (aa rfl) rfl<|s1 (aa rfl) rfl ?_
  refine ak rfl (sV 0 Tryz.underlying161 Tryz.underlying3 rfl rfl rfl rfl hF fun es2 clk2 hF2=>?_)
  refine ah<|bh<|ae<|ai<|s1 (bc i 1 rfl rfl rfl rfl (by omega)) rfl<|s1 (aa rfl) rfl ?_
  refine ah ?_
  exact br (x:=(i,es,clk)) (i+1,es2,clk2) ⟨(show i+1≤l1.length from by omega),by rw [←Lj hq];exact hF2⟩ (show l1.length - (i+1)<l1.length - i from by omega) ⟨rfl,rfl,rfl,rfl,rfl,trivial⟩ (fun _ h=>h)
 ·have h14 : i = l1.length := by have := of_decide_eq_false hc14; omega
  subst h14
  rw [List.take_length]at hF
  refine bC<|aP<|aP<|bD<|ae<|af<|af<|ai<|s1 (aa rfl) rfl<|s1 (bu Tryz.underlying30 rfl rfl) rfl<|s1 (aa rfl) rfl ?_
  refine ah<|ae<|aM ?_
  refine bF (ι:=Nat) (fun j=> [(5,.map (some b)),(20,.slice a2 l2.length c2),(21,.int .i64 (l2.length:Nat)),(22,.int .i64 (j:Nat))]) (fun j=> [w]) (fun j=> [(b,.map es clk)]) (fun j=>j≤l2.length∧(l2.take j).all (fun n=>!decide (n∈l1))=true) (fun j=>l2.length - j) ?_ ?_
  ·exact bE 0 ⟨Nat.zero_le _,rfl⟩ ⟨rfl,rfl,rfl,rfl,trivial⟩ (fun _ h=>h)
  rintro j ⟨hj,hall⟩
  refine af<|ai<|s1 (aa rfl) rfl ?_
  refine ah<|ae<|af ?_
  refine aO rfl (fun hc23=>?_) (fun hc23=>?_)
  ·have h23 : j < l2.length := by have := of_decide_eq_true hc23; omega
   obtain⟨q,hq⟩:∃q,l2[j]? =some q:=⟨_,List.getElem?_eq_getElem h23⟩
   have hr:=h2 j q hq
   refine aL<|ae<|af<|aM<|af<|ai<|s1 (Ec j Tryz.underlying30 an rfl rfl rfl (by omega) hr.1) rfl<|s1 (au an rfl (fun w2 hG2=>hG2.cell' (.head _) hr.2 (Co hlb))) rfl<|s1 (aa rfl) rfl ?_
   refine ah<|ae<|af<|ai<|s1 (aa rfl) rfl<|s1 (aa rfl) rfl<|s1 ((nD 0 Tryz.underlying161 Tryz.underlying3 MV rfl rfl rfl hF).v (Li l1 q)) rfl ?_
   refine ah<|ae ?_
   refine aO rfl (fun hc28=>?_) (fun hc28=>?_)
   ·skip
    refine af<|ai<|s1 (aa rfl) rfl ?_
    refine ah<|ae<|aE<|bg<|aH<|aH<|bg<|aH ?_
    refine aF (rs:= [.tmp 4]) rfl (aD rfl aB) fun w1 hG1=>⟨congrArg Value.bool (GA hq (of_decide_eq_true hc28)).symm,hG1.below (.head _) (by intro p hp;rw [List.mem_singleton.1 hp];exact hlb)⟩
   ·skip
    refine aL<|bh<|ae<|ai<|s1 (bc j 1 rfl rfl rfl rfl (by omega)) rfl<|s1 (aa rfl) rfl ?_
    refine ah ?_
    exact br (x:=j) (j+1) ⟨(show j+1≤l2.length from by omega),EK hq hall (by rw [hc28];rfl)⟩ (show l2.length - (j+1)<l2.length - j from by omega) ⟨rfl,rfl,rfl,rfl,trivial⟩ (fun _ h=>h)
  ·have h23 : j = l2.length := by have := of_decide_eq_false hc23; omega
   subst h23
   rw [List.take_length]at hall
   refine bC<|aP<|aP<|bD<|ae<|af<|ai<|s1 (aa rfl) rfl ?_
   refine ah<|ae<|aE ?_
   refine aF (rs:= [.tmp 4]) rfl (aD rfl aB) fun w1 hG1=>⟨congrArg Value.bool hall.symm,hG1.below (.head _) (by intro p hp;rw [List.mem_singleton.1 hp];exact hlb)⟩
end Go.Eng
namespace Go.Abs.D2
open Go Go.Eng Go.Abs Go.Proofs
theorem CY {X:Xs} {w:World} {a:Option Addr} {cap:Nat} {l:List Int} (h2:l.length≤cap) (h4:a=none→cap=0) (h5:0<cap→∀x,a=some x→x.spot=none) (h6:VM X w (l.map (A.i .i64)) (ab a) (ao a)):Go.Eng.RI w a l:=fun i v hi=>by
 have hlt:=(List.getElem?_eq_some_iff.1 hi).1
 obtain⟨_,u,e1,e2,_⟩:=mI h6 (j:=i) (c:= .i .i64 v) (by rw [List.getElem?_map,hi];rfl)
 rw [ff]at e2
 subst e2
 refine⟨?_,e1⟩
 cases a with
 |none=>exact absurd (h4 rfl) (by omega)
 |some x=>
  have:=h5 (by omega) x rfl
  obtain⟨b,o,s⟩:=x
  simp only at this
  subst this;rfl
theorem z2 (a b:List Int) (hn1:a.length≤maxLen) (hn2:b.length≤maxLen):aA Tryz.prog 73 [.fz a.length (a.map (A.i .i64)),.fz b.length (b.map (A.i .i64))] (aN (.b (Go.Eng.jP a b))):=by
 intro w X β us hd hX hgl ho hi hv
 simp only [VS]at hv
 obtain⟨u1,r1,rfl,v1,u2,r2,rfl,v2,rfl⟩:=hv
 simp only [V]at v1 v2
 obtain⟨a1,c1,rfl,e2,e3,e4,e5,e6⟩:=v1
 obtain⟨a2,c2,rfl,g2,g3,g4,g5,g6⟩:=v2
 refine Eng.Fn.mono (Go.Eng.GB w a1 a2 c1 c2 a b (CY e2 e4 e5 e6) (CY g2 g4 g5 g6) hn1 hn2) fun v w' ⟨hv,hb⟩=>?_
 subst hv
 refine⟨.b (Go.Eng.jP a b),β,X,⟨[]⟩,rfl,fun _ _ h=>h,fun _ _ h=> .inl h,.of ⟨hb.os,hb.tape,hb.output,hb.size,fun k hk _=>hb.block k hk,fun s hs=>by cases hs⟩ (bM.refl β) (fun q o h=>Nat.lt_of_lt_of_le (hX q o h) hb.size) hd (fun id cs h=>by cases h) (fun i j ci cj q M N _ h _ _ _=>by cases h),by simp only [V]⟩
end Go.Abs.D2
-- C4E
namespace Go.Abs.D2
open Go Go.Eng Go.Abs Go.Proofs
theorem FC (x:List UInt8) (hx:x.length=32) (f:da) (q:Int):aA Tryz.prog 77 [.i .i64 q,.fp (x.map u8),.fp (gD f)] (aN (.b (mX x f.lv f.nb f.D q))):=by
 refine enter Tryz.func77 rfl Tryz.ntmps77 (by kernel_rfl) (Nat.le_of_ble_eq_true rfl) fun w0 X0 hI=>?_
 refine af<|ai<|s1 (aa rfl) rfl ?_
 refine ah<|ae<|af<|ai<|s1 (bY az rfl rfl (List.take_of_length_le (by simp [hx])) (by simp [hx])) rfl<|s1 (bY cJ rfl rfl rfl rfl) rfl<|s1 (aa rfl) rfl ?_
 refine ak rfl (aI false rfl (.cons (.pure pu) (.cons (.pure pu) (.cons (.pure pu) (.nil)))) (aA.cast (G6 x f.lv f.nb q f.D hx) (HM ..)) pu (.inl rfl) rfl ?_)
 refine s1 (aa rfl) rfl<|s1 (aa rfl) rfl<|s1 (aa rfl) rfl<|s1 (aa rfl) rfl<|s1 (aa rfl) rfl ?_
 refine ah<|ae<|af<|ai<|s1 (aa rfl) rfl<|s1 (aa rfl) rfl ?_
 refine ah<|ae<|aE ?_
 refine aF (rs:= [.tmp 4]) rfl (aD rfl aB) ?_
 rfl
theorem FE (x:List UInt8) (hx:x.length=32) (f:da) (l:List Int) (hn:l.length≤100):aA Tryz.prog 76 [.fz l.length (l.map (A.i .i64)),.fn (.func 77) [] [.fp (x.map u8),.fp (gD f)]] (aN (jV (iI x f l))):=by
 refine enter Tryz.func76 rfl Tryz.ntmps76 (by kernel_rfl) (Nat.le_of_ble_eq_true rfl) fun w0 X0 hI=>?_
 refine af<|ai<|s1 (aa rfl) rfl ?_
 refine ah<|ae<|af<|af<|ai<|s1 (aa rfl) rfl<|s1 (bu Tryz.underlying30 rfl rfl rfl) rfl<|s1 ((aa rfl).v (v':= .i .i64 0) rfl) rfl ?_
 refine ah<|ae<|aM ?_
 refine bF (ι:=Nat) (fun i=> [(1,.fn (.func 77) [] [.fp (x.map u8),.fp (gD f)]),(4,.sl 119 1 0 (iI x f (l.take i)).length),(7,.fz l.length (l.map (A.i .i64))),(8,nJ l.length),(9,nJ i)]) (fun i=>⟨[(119,some ((iI x f (l.take i)).map iA))]⟩) (fun i=>i≤l.length) (fun i=>l.length - i) ?_ ?_
 ·exact bE (0) (Nat.zero_le _) [(119,none)] hI rfl rfl ⟨⟨_,rfl,.pure pu⟩,⟨_,rfl,.nl rfl⟩,⟨_,rfl,.pure pu⟩,⟨_,rfl,.pure pu⟩,⟨_,rfl,.pure pu⟩,trivial⟩ ⟨.inl ⟨rfl,rfl⟩,trivial⟩
 rintro i hi
 have hwl:=Iy x f (l.take i)
 rw [List.length_take]at hwl
 refine af<|ai<|s1 (aa rfl) rfl ?_
 refine ah<|ae<|af ?_
 refine aO rfl (fun hc10=>?_) (fun hc10=>?_)
 ·have h10 : i < l.length := by have := of_decide_eq_true hc10; omega
  obtain⟨q,hq⟩:∃q,l[i]? =some q:=⟨_,List.getElem?_eq_getElem h10⟩
  refine aL<|ae<|af<|aM<|af<|ai<|s1 (aT i Tryz.underlying30 an rfl rfl rfl (by omega) rfl) rfl<|s1 (au an rfl rfl (oq hq)) rfl<|s1 (aa rfl) rfl ?_
  refine ah<|ae<|af<|ai<|s1 (aa rfl) rfl<|s1 (aa rfl) rfl ?_
  refine ak rfl (qh false rfl rfl (.cons (.pure pu) (.cons (.pure pu) (.cons (.pure pu) .nil))) (FC x hx f q) pu (.inl rfl) rfl ?_)
  refine ah<|ae ?_
  refine aO rfl (fun hc15=>?_) (fun hc15=>?_)
  ·have hwn := MC hq hc15
   refine ai<|s1 (aa rfl) rfl<|s1 (aa rfl) rfl ?_
   refine ak rfl (dG 18 rfl Tryz.underlying30 an rfl rfl rfl rfl rfl ?_)
   refine ak rfl (cT 19 rfl Tryz.underlying30 an rfl (.sl rfl (by simp)) rfl (cE rfl (by first|rfl|omega|(simp<;>omega)|(simp [*]<;>omega))) (by simp) (by simp only [maxLen];omega) (by omega) rfl (D9 hq hc15) rfl ?_)
   refine s1 (aa rfl) rfl ?_
   refine ah<|bh<|ae<|ai<|s1 (bc _ 1 rfl rfl rfl rfl (by omega)) rfl<|s1 (aa rfl) rfl ?_
   refine ah ?_
   exact br (i+1) (by omega) (by omega) [(119,some 19)] hI rfl rfl ⟨⟨_,rfl,.pure pu⟩,⟨_,rfl,.sl rfl (by first|rfl|omega|(simp<;>omega)|(simp [*]<;>omega))⟩,⟨_,rfl,.pure pu⟩,⟨_,rfl,.pure pu⟩,⟨_,rfl,.pure pu⟩,trivial⟩ ⟨.inr ⟨_,_,rfl,rfl,.pure aq⟩,trivial⟩
  ·have hfm := MD hq hc15
   have hwn:(iI x f (l.take i)).length=(iI x f (l.take (i+1))).length:=by rw [hfm]
   refine aL<|bh<|ae<|ai<|s1 (bc _ 1 rfl rfl rfl rfl (by omega)) rfl<|s1 (aa rfl) rfl ?_
   refine ah ?_
   exact br (i+1) (by omega) (by omega) [(119,some 119)] hI rfl rfl ⟨⟨_,rfl,.pure pu⟩,⟨_,rfl,.sl rfl (by first|rfl|omega|(simp<;>omega)|(simp [*]<;>omega))⟩,⟨_,rfl,.pure pu⟩,⟨_,rfl,.pure pu⟩,⟨_,rfl,.pure pu⟩,trivial⟩ ⟨.inr ⟨_,_,rfl,rfl,.of (by rw [hfm]) (.pure aq)⟩,trivial⟩
 ·obtain rfl : i = l.length := by have := of_decide_eq_false hc10; omega
  refine bC<|aP<|aP<|bD<|ae<|af ?_
  refine gp 4 rfl rfl aq (cm (by simp) rfl) ?_
  refine k9 4 rfl (v':=jV (iI x f l)) (by rw [List.take_length]) ?_
  refine ai<|s1 (aa rfl) rfl<|s1 (aa rfl) rfl ?_
  refine ah<|ae<|aE ?_
  refine aF (rs:= [.tmp 4]) rfl (aD rfl aB) ?_
  rfl
theorem yX (x:List UInt8) (hx:x.length=32) (p q:List Int) (hp:p.length≤100) (hq100:q.length≤100):aA Tryz.prog 29 [.ag (x.map u8),.fz p.length (p.map (A.i .i64)),.fz q.length (q.map (A.i .i64))] (aN (buildA x p q)):=by
 refine enter Tryz.func29 rfl Tryz.ntmps29 (by kernel_rfl) (Nat.le_of_ble_eq_true rfl) fun w0 X0 hI=>?_
 refine af<|ai ?_
 refine ak rfl (bK 3 rfl rfl rfl ?_)
 refine ak rfl (bp 6 rfl ee rfl rfl ?_)
 refine s1 ((aa rfl).v (v':= .i .i64 0) rfl) rfl ?_
 refine ah<|ae<|af<|af ?_
 rcases Jj p q with hcs|hcs|hcs|hcs
 ·obtain ⟨h1, hb⟩ := hcs
  refine fh 3 rfl rfl aq ?_
  refine ai<|s1 (aa rfl) rfl ?_
  refine ak rfl (aI false rfl (.cons (.pure pu) (.nil)) (aA.cast (l8 p (by simp only [maxLen];omega)) (congrArg A.b h1)) pu (.inl rfl) rfl ?_)
  refine s1 ((aa rfl).v (v':= .b true) (rfl)) rfl<|s1 (aa rfl) rfl<|g0 rfl rfl rfl rfl<|g0 rfl rfl rfl rfl<|g0 rfl rfl rfl rfl<|s1 (aa rfl) rfl<|s1 (aa rfl) rfl<|g0 rfl rfl rfl rfl<|g0 rfl rfl rfl rfl<|g0 rfl rfl rfl rfl ?_
  refine g0 rfl rfl rfl rfl<|s1 (aa rfl) rfl ?_
  refine ah<|ae ?_
  refine bR rfl ?_
  refine af<|ai<|s1 (aV ee rfl rfl rfl) rfl ?_
  refine ak rfl (bb ee rfl rfl rfl (by first|rfl|omega|(simp<;>omega)|(simp [*]<;>omega)) (by first|rfl|omega|(simp<;>omega)|(simp [*]<;>omega)) ?_)
  refine s1 ((aa rfl).v (v':= .i .i64 340) rfl) rfl ?_
  refine ah<|ae<|aE<|aH ?_
  refine cX 6 (cs':=ky.map u8++ [.nl,.nl]) rfl rfl ?_
  refine iK 6 rfl xV ?_
  refine aF (rs:= [.cell 6 60,.tmp 7]) rfl (bW ee rfl rfl rfl rfl (aD rfl aB)) ?_
  show A.tu _=_;rw [u6 hb];rfl
 ·obtain ⟨h1, h2, hb⟩ := hcs
  refine fh 3 rfl rfl aq ?_
  refine ai<|s1 (aa rfl) rfl ?_
  refine ak rfl (aI false rfl (.cons (.pure pu) (.nil)) (aA.cast (l8 p (by simp only [maxLen];omega)) (congrArg A.b h1)) pu (.inl rfl) rfl ?_)
  refine s1 ((aa rfl).v (v':= .b false) (rfl)) rfl<|s1 (aa rfl) rfl<|g1 rfl rfl (aa rfl) rfl ?_
  refine jN rfl rfl rfl (aI false rfl (.cons (.pure pu) (.nil)) (aA.cast (l8 q (by simp only [maxLen];omega)) (congrArg A.b h2)) pu (.inl rfl) rfl ?_)
  refine g1 rfl rfl ((aa rfl).v (v':= .b true) (rfl)) rfl<|s1 (aa rfl) rfl<|s1 (aa rfl) rfl<|g0 rfl rfl rfl rfl<|g0 rfl rfl rfl rfl<|g0 rfl rfl rfl rfl<|g0 rfl rfl rfl rfl<|s1 (aa rfl) rfl ?_
  refine ah<|ae ?_
  refine bR rfl ?_
  refine af<|ai<|s1 (aV ee rfl rfl rfl) rfl ?_
  refine ak rfl (bb ee rfl rfl rfl (by first|rfl|omega|(simp<;>omega)|(simp [*]<;>omega)) (by first|rfl|omega|(simp<;>omega)|(simp [*]<;>omega)) ?_)
  refine s1 ((aa rfl).v (v':= .i .i64 340) rfl) rfl ?_
  refine ah<|ae<|aE<|aH ?_
  refine cX 6 (cs':=ky.map u8++ [.nl,.nl]) rfl rfl ?_
  refine iK 6 rfl xV ?_
  refine aF (rs:= [.cell 6 60,.tmp 7]) rfl (bW ee rfl rfl rfl rfl (aD rfl aB)) ?_
  show A.tu _=_;rw [u6 hb];rfl
 ·obtain ⟨h1, h2, h3, hb⟩ := hcs
  refine fh 3 rfl rfl aq ?_
  refine ai<|s1 (aa rfl) rfl ?_
  refine ak rfl (aI false rfl (.cons (.pure pu) (.nil)) (aA.cast (l8 p (by simp only [maxLen];omega)) (congrArg A.b h1)) pu (.inl rfl) rfl ?_)
  refine s1 ((aa rfl).v (v':= .b false) (rfl)) rfl<|s1 (aa rfl) rfl<|g1 rfl rfl (aa rfl) rfl ?_
  refine jN rfl rfl rfl (aI false rfl (.cons (.pure pu) (.nil)) (aA.cast (l8 q (by simp only [maxLen];omega)) (congrArg A.b h2)) pu (.inl rfl) rfl ?_)
  refine g1 rfl rfl ((aa rfl).v (v':= .b false) (rfl)) rfl<|s1 (aa rfl) rfl<|s1 (aa rfl) rfl<|g1 rfl rfl (aa rfl) rfl<|g1 rfl rfl (aa rfl) rfl ?_
  refine jN rfl rfl rfl (aI false rfl (.cons (.pure pu) (.cons (.pure pu) (.nil))) (aA.cast (z2 p q (by simp only [maxLen];omega) (by simp only [maxLen];omega)) (congrArg A.b h3)) pu (.inl rfl) rfl ?_)
  refine g1 rfl rfl ((aa rfl).v (v':= .b true) (rfl)) rfl<|s1 (aa rfl) rfl ?_
  refine ah<|ae ?_
  refine bR rfl ?_
  refine af<|ai<|s1 (aV ee rfl rfl rfl) rfl ?_
  refine ak rfl (bb ee rfl rfl rfl (by first|rfl|omega|(simp<;>omega)|(simp [*]<;>omega)) (by first|rfl|omega|(simp<;>omega)|(simp [*]<;>omega)) ?_)
  refine s1 ((aa rfl).v (v':= .i .i64 340) rfl) rfl ?_
  refine ah<|ae<|aE<|aH ?_
  refine cX 6 (cs':=ky.map u8++ [.nl,.nl]) rfl rfl ?_
  refine iK 6 rfl xV ?_
  refine aF (rs:= [.cell 6 60,.tmp 7]) rfl (bW ee rfl rfl rfl rfl (aD rfl aB)) ?_
  show A.tu _=_;rw [u6 hb];rfl
 ·obtain ⟨h1, h2, h3, hb⟩ := hcs
  refine fh 3 rfl rfl aq ?_
  refine ai<|s1 (aa rfl) rfl ?_
  refine ak rfl (aI false rfl (.cons (.pure pu) (.nil)) (aA.cast (l8 p (by simp only [maxLen];omega)) (congrArg A.b h1)) pu (.inl rfl) rfl ?_)
  refine s1 ((aa rfl).v (v':= .b false) (rfl)) rfl<|s1 (aa rfl) rfl<|g1 rfl rfl (aa rfl) rfl ?_
  refine jN rfl rfl rfl (aI false rfl (.cons (.pure pu) (.nil)) (aA.cast (l8 q (by simp only [maxLen];omega)) (congrArg A.b h2)) pu (.inl rfl) rfl ?_)
  refine g1 rfl rfl ((aa rfl).v (v':= .b false) (rfl)) rfl<|s1 (aa rfl) rfl<|s1 (aa rfl) rfl<|g1 rfl rfl (aa rfl) rfl<|g1 rfl rfl (aa rfl) rfl ?_
  refine jN rfl rfl rfl (aI false rfl (.cons (.pure pu) (.cons (.pure pu) (.nil))) (aA.cast (z2 p q (by simp only [maxLen];omega) (by simp only [maxLen];omega)) (congrArg A.b h3)) pu (.inl rfl) rfl ?_)
  refine g1 rfl rfl ((aa rfl).v (v':= .b false) (rfl)) rfl<|s1 (aa rfl) rfl ?_
  refine ah<|ae ?_
  refine cF rfl ?_
  refine aL<|ae<|af ?_
  refine cX 6 (cs':=ky.map u8++ [.nl,.nl]) rfl rfl ?_
  refine ai<|s1 (bY az rfl rfl (List.take_of_length_le (by simp [hx])) (by simp [hx])) rfl<|s1 (aC Tryz.underlying60 rfl az (by decide) rfl rfl) rfl ?_
  refine k9 30 rfl (v':= .p 6 0) rfl ?_
  refine ak rfl (jZ az rfl rfl rfl rfl rfl (by rw [show aY (A.ag (x.map u8))=x.map u8 from rfl,List.length_map,hx]) (Nat.le_of_ble_eq_true rfl) LR ?_)
  refine ah<|ae<|af<|ai<|s1 (aa rfl) rfl<|s1 (aa rfl) rfl<|s1 (aa rfl) rfl<|s1 (aa rfl) rfl ?_
  refine ah<|ae<|af<|aM ?_
  refine bF (ι:=Nat) (fun n=> [(3,.fp (x.map u8)),(6,.p 6 0),(8,jV (bS x p q n).2.1),(9,jV (bS x p q n).2.2)]) (fun n=>⟨[(6,some (x.map u8++ [.sl 180 3 0 n,.nl])),(180,some ((bS x p q n).1.flatMap gD))]⟩) (fun n=>n≤16∧∀t,t<n→jU x p q t=true) (fun n=>16 - n) ?_ ?_
  ·exact bE (0) (⟨by omega,fun t ht=>absurd ht (by omega)⟩) [(6,some 6),(180,none)] hI rfl rfl ⟨⟨_,rfl,.pure pu⟩,⟨_,rfl,.p rfl⟩,⟨_,rfl,.pure pu⟩,⟨_,rfl,.pure pu⟩,trivial⟩ ⟨.inr ⟨_,_,rfl,rfl,.app (.pure aq) (.cons (.nl rfl) (.cons (.pure pu) .nil))⟩,.inl ⟨rfl,rfl⟩,trivial⟩
  rintro n ⟨hn,hgo⟩
  obtain⟨hal,hbl⟩:=rE (x:=x) hp hq100 n
  have hfl:((bS x p q n).1.flatMap gD).length=n*3:=by rw [vY,jq]
  have hnb:=qj (bS x p q n).2.1
  have hnum:=(Fe (x:=x) hb n).1
  refine af<|af<|ai<|s1 (aa rfl) rfl<|s1 (bu Tryz.underlying30 rfl rfl rfl) rfl<|s1 (aa rfl) rfl<|s1 (aa rfl) rfl ?_
  refine il 36 rfl (fun hc36=>?_) (fun hc36=>?_)
  ·have h36 : 0 < (bS x p q n).2.1.length := by have := of_decide_eq_true hc36; omega
   refine g1 rfl rfl (aC Tryz.underlying60 rfl iH (by decide) rfl rfl) rfl<|g1 rfl rfl (au iH rfl rfl (congrArg (fun l=>l[0]?) (tX hx _))) rfl<|g1 rfl rfl (bu Tryz.underlying58 rfl rfl rfl) rfl<|g1 rfl rfl (aa rfl) rfl<|s1 (aa rfl) rfl ?_
   refine ah<|ae ?_
   refine aO rfl (fun hc41=>?_) (fun hc41=>?_)
   ·have h41 : n < 16 := by have := of_decide_eq_true hc41; omega
    refine aL<|ae<|aM<|af<|ai<|s1 (aC Tryz.underlying60 rfl iH (by decide) rfl rfl) rfl<|s1 (au iH rfl rfl (congrArg (fun l=>l[0]?) (tX hx _))) rfl<|s1 (bu Tryz.underlying58 rfl rfl rfl) rfl<|s1 (aa rfl) rfl<|s1 (bu Tryz.underlying30 rfl rfl rfl) rfl<|s1 (gv 4 _ rfl rfl rfl rfl (by omega)) rfl<|s1 (x6 (a:=4*(bS x p q n).2.1.length) (b:=8) rfl rfl rfl) rfl<|s1 (MO (a:=max (4*(bS x p q n).2.1.length) 8) (b:=4096) (c:=ec (bS x p q n).2.1) rfl rfl rfl) rfl ?_
    refine ak rfl (aI false rfl (.cons (.pure pu) (.cons (.pure pu) (.nil))) (aA.cast (Hk n (ec (bS x p q n).2.1)) (B3 (sW h41 hnb.1 hnb.2))) pu (.inl rfl) rfl ?_)
    refine s1 (aa rfl) rfl<|s1 (aa rfl) rfl<|s1 (aa rfl) rfl ?_
    refine ak rfl (bp 10 rfl cJ rfl rfl ?_)
    refine ak rfl (bb cJ rfl rfl rfl (by first|rfl|omega|(simp<;>omega)|(simp [*]<;>omega)) (by first|rfl|omega|(simp<;>omega)|(simp [*]<;>omega)) ?_)
    refine s1 (aa rfl) rfl ?_
    refine ah<|ae<|af<|af<|ai<|s1 (aa rfl) rfl<|s1 ((aa rfl).v (v':= .b false) (rfl)) rfl ?_
    refine ah<|ae ?_
    refine cF rfl ?_
    refine aL<|ae<|af<|af<|ai<|s1 (aa rfl) rfl<|s1 (bu Tryz.underlying30 rfl rfl rfl) rfl<|s1 ((aa rfl).v (v':= .i .i64 0) rfl) rfl ?_
    refine ah<|ae<|aM ?_
    refine bF (ι:=Nat) (fun k=> [(3,.fp (x.map u8)),(6,.p 6 0),(8,jV (bS x p q n).2.1),(9,jV (bS x p q n).2.2),(10,.p 10 0),(58,jV (bS x p q n).2.1),(59,nJ (bS x p q n).2.1.length),(60,nJ k)]) (fun k=>⟨[(6,some (x.map u8++ [.sl 180 3 0 n,.nl])),(180,some ((bS x p q n).1.flatMap gD)),(10,some ([nJ n,nJ (ec (bS x p q n).2.1),dz (jb x (n:Nat) (ec (bS x p q n).2.1:Nat) (nG (ec (bS x p q n).2.1)) ((bS x p q n).2.1.take k))]))]⟩) (fun k=>k≤(bS x p q n).2.1.length) (fun k=>(bS x p q n).2.1.length - k) ?_ ?_
    ·exact bE (0) (Nat.zero_le _) [(6,some 6),(10,some 10),(180,some 180)] hI rfl rfl ⟨⟨_,rfl,.pure pu⟩,⟨_,rfl,.p rfl⟩,⟨_,rfl,.pure pu⟩,⟨_,rfl,.pure pu⟩,⟨_,rfl,.p rfl⟩,⟨_,rfl,.pure pu⟩,⟨_,rfl,.pure pu⟩,⟨_,rfl,.pure pu⟩,trivial⟩ ⟨.inr ⟨_,_,rfl,rfl,.app (.pure aq) (.cons (.sl rfl rfl) (.cons (.pure pu) .nil))⟩,.inr ⟨_,_,rfl,rfl,.pure aq⟩,.inr ⟨_,_,rfl,rfl,.of (by rfl) (.pure aq)⟩,trivial⟩
    rintro k hk
    refine af<|ai<|s1 (aa rfl) rfl ?_
    refine ah<|ae<|af ?_
    refine aO rfl (fun hc61=>?_) (fun hc61=>?_)
    ·have h61 : k < (bS x p q n).2.1.length := by have := of_decide_eq_true hc61; omega
     obtain⟨v,hv⟩:∃v,(bS x p q n).2.1[k]? =some v:=⟨_,List.getElem?_eq_getElem h61⟩
     have hv0:=hnum v (List.mem_of_getElem? hv)
     refine aL<|ae<|af<|aM<|af<|ai<|s1 (aT k Tryz.underlying30 an rfl rfl rfl (by omega) rfl) rfl<|s1 (au an rfl rfl (oq hv)) rfl<|s1 (aa rfl) rfl ?_
     refine ah<|ae<|af<|ai<|s1 (bY az rfl rfl (List.take_of_length_le (by simp [hx])) (by simp [hx])) rfl<|s1 (aV cJ rfl rfl rfl) rfl<|s1 (aa rfl) rfl ?_
     refine ak rfl (aI false rfl (.cons (.pure pu) (.cons (.pure pu) (.cons (.pure pu) (.nil)))) (aA.cast (G4 x (n:Nat) (ec (bS x p q n).2.1:Nat) v (jb x (n:Nat) (ec (bS x p q n).2.1:Nat) (nG (ec (bS x p q n).2.1)) ((bS x p q n).2.1.take k)) hx) (EE h41 hv hv0)) pu (.inl rfl) rfl ?_)
     refine s1 (aa rfl) rfl<|s1 (aa rfl) rfl<|s1 (aa rfl) rfl ?_
     refine ak rfl (bb cJ rfl rfl rfl (by first|rfl|omega|(simp<;>omega)|(simp [*]<;>omega)) (by first|rfl|omega|(simp<;>omega)|(simp [*]<;>omega)) ?_)
     refine s1 (aa rfl) rfl ?_
     refine ah<|ae<|af<|ai<|s1 (aa rfl) rfl<|s1 ((aa rfl).v (v':= .b false) (rfl)) rfl ?_
     refine ah<|ae ?_
     refine cF rfl ?_
     refine aL<|bh<|ae<|ai<|s1 (bc _ 1 rfl rfl rfl rfl (by omega)) rfl<|s1 (aa rfl) rfl ?_
     refine ah ?_
     exact br (k+1) (by omega) (by omega) [(6,some 6),(10,some 10),(180,some 180)] hI rfl rfl ⟨⟨_,rfl,.pure pu⟩,⟨_,rfl,.p rfl⟩,⟨_,rfl,.pure pu⟩,⟨_,rfl,.pure pu⟩,⟨_,rfl,.p rfl⟩,⟨_,rfl,.pure pu⟩,⟨_,rfl,.pure pu⟩,⟨_,rfl,.pure pu⟩,trivial⟩ ⟨.inr ⟨_,_,rfl,rfl,.app (.pure aq) (.cons (.sl rfl rfl) (.cons (.pure pu) .nil))⟩,.inr ⟨_,_,rfl,rfl,.pure aq⟩,.inr ⟨_,_,rfl,rfl,.pure aq⟩,trivial⟩
    ·have h61 : k = (bS x p q n).2.1.length := by have := of_decide_eq_false hc61; omega
     subst h61
     refine bC<|aP<|aP<|bD<|ae<|af ?_
     refine cX 10 (cs':=gD (lX x n (bS x p q n).2.1)) rfl (by rw [List.take_length];rfl) ?_
     refine ai<|s1 (aC Tryz.underlying60 rfl iH (by decide) rfl rfl) rfl<|s1 (au iH rfl rfl (congrArg (fun l=>l[0]?) (tX hx _))) rfl<|s1 (aV cJ rfl rfl rfl) rfl ?_
     refine ak rfl (fY 79 rfl Tryz.underlying58 cJ rfl rfl rfl (by first|(simp [aY];done)|(simp [aY, *];done)) rfl rfl rfl rfl ?_)
     refine ak rfl (cT 80 rfl Tryz.underlying58 cJ rfl (.sl rfl (by rw [hfl])) rfl (cE rfl (by first|rfl|omega|(simp<;>omega)|(simp [*]<;>omega))) rfl (by simp only [maxLen];omega) (by omega) rfl (Fc x p q n) rfl ?_)
     refine s1 (aC Tryz.underlying60 rfl iH (by decide) rfl rfl) rfl ?_
     refine ak rfl (bZ iH rfl rfl rfl rfl (by simp [hx]) (xL hx _ _ _) ?_)
     refine ah<|ae ?_
     refine fh 10 rfl rfl aq ?_
     refine ai<|s1 (aa rfl) rfl<|s1 (gA (us:= []) (vs:= [.fp (x.map u8),.fp (gD (lX x n (bS x p q n).2.1))]) rfl rfl) rfl ?_
     refine ak rfl (aI false rfl (.cons (.pure pu) (.cons (.pure pu) .nil)) (FE x hx (lX x n (bS x p q n).2.1) (bS x p q n).2.2 hbl) pu (.inl rfl) rfl ?_)
     refine s1 (aa rfl) rfl<|s1 (aa rfl) rfl<|s1 (aa rfl) rfl ?_
     refine ah<|bh ?_
     exact br (n+1) (⟨by omega,uP hgo (HG h36)⟩) (by omega) [(6,some 6),(180,some 80)] hI rfl rfl ⟨⟨_,rfl,.pure pu⟩,⟨_,rfl,.p rfl⟩,⟨_,rfl,.pure pu⟩,⟨_,rfl,.pure pu⟩,trivial⟩ ⟨.inr ⟨_,_,rfl,rfl,.app (.pure aq) (.cons (.sl rfl (by first|rfl|omega|(simp<;>omega)|(simp [*]<;>omega))) (.cons (.pure pu) .nil))⟩,.inr ⟨_,_,rfl,rfl,.pure aq⟩,trivial⟩
   ·have h41 : n = 16 := by have := of_decide_eq_false hc41; omega
    subst h41
    have hend:=Ao hgo
    refine bC<|aP<|aP<|bD<|ae<|af<|ai<|s1 (aC Tryz.underlying60 rfl ia (by decide) rfl rfl) rfl<|s1 (au ia rfl rfl (congrArg (fun l=>l[0]?) (DL hx _ _))) rfl<|s1 (aa rfl) rfl ?_
    refine ak rfl (cT 89 rfl Tryz.underlying30 an rfl .nl rfl rfl (by simp) (by simp only [maxLen];omega) (by omega) rfl rfl rfl ?_)
    refine s1 (aC Tryz.underlying60 rfl ia (by decide) rfl rfl) rfl ?_
    refine ak rfl (bZ ia rfl rfl rfl rfl (by simp [hx]) (tY hx _ _ _) ?_)
    refine ah<|ae<|af ?_
    refine jL 6 32 rfl (by rw [List.getElem?_append_right (by simp [hx]),List.length_map,hx];rfl) rfl rfl aq (cm (by rw [vY,jq]) rfl) (xL hx _ _ _) ?_
    refine jL 6 33 rfl (by rw [List.getElem?_append_right (by simp [hx]),List.length_map,hx];rfl) rfl rfl aq (cm (by simp) rfl) (tY hx _ _ _) ?_
    refine cX 6 (cs':=eL (fy x p q)) rfl (by rw [Nat.zero_add,List.nil_append];exact yW hend) ?_
    refine ai<|s1 (aV ee rfl rfl (gq (c:=fy x p q) hx)) rfl ?_
    refine ak rfl (bb ee rfl rfl rfl (gq (c:=fy x p q) hx) (gq (c:=fy x p q) hx) ?_)
    refine s1 ((aa rfl).v (v':= .i .i64 0) rfl) rfl ?_
    refine ah<|ae<|aE ?_
    refine aF (rs:= [.cell 6 60,.tmp 7]) rfl (bW ee rfl rfl (yV (c:=fy x p q) hx) (gq (c:=fy x p q) hx) (aD rfl aB)) ?_
    show A.tu _=_;rw [rI hb]
  ·have h36 : ¬ 0 < (bS x p q n).2.1.length := by have := of_decide_eq_false hc36; omega
   have hend:=GO hn hgo h36
   refine g0 rfl rfl rfl rfl<|g0 rfl rfl rfl rfl<|g0 rfl rfl rfl rfl<|g0 rfl rfl rfl rfl<|s1 (aa rfl) rfl ?_
   refine ah<|ae ?_
   refine cF rfl ?_
   refine bC<|aP<|aP<|bD<|ae<|af<|ai<|s1 (aC Tryz.underlying60 rfl ia (by decide) rfl rfl) rfl<|s1 (au ia rfl rfl (congrArg (fun l=>l[0]?) (DL hx _ _))) rfl<|s1 (aa rfl) rfl ?_
   refine ak rfl (cT 89 rfl Tryz.underlying30 an rfl .nl rfl rfl (by simp) (by simp only [maxLen];omega) (by omega) rfl rfl rfl ?_)
   refine s1 (aC Tryz.underlying60 rfl ia (by decide) rfl rfl) rfl ?_
   refine ak rfl (bZ ia rfl rfl rfl rfl (by simp [hx]) (tY hx _ _ _) ?_)
   refine ah<|ae<|af ?_
   refine jL 6 32 rfl (by rw [List.getElem?_append_right (by simp [hx]),List.length_map,hx];rfl) rfl rfl aq (cm (by rw [vY,jq]) rfl) (xL hx _ _ _) ?_
   refine jL 6 33 rfl (by rw [List.getElem?_append_right (by simp [hx]),List.length_map,hx];rfl) rfl rfl aq (cm (by simp) rfl) (tY hx _ _ _) ?_
   refine cX 6 (cs':=eL (fy x p q)) rfl (by rw [Nat.zero_add,List.nil_append];exact yW hend) ?_
   refine ai<|s1 (aV ee rfl rfl (gq (c:=fy x p q) hx)) rfl ?_
   refine ak rfl (bb ee rfl rfl rfl (gq (c:=fy x p q) hx) (gq (c:=fy x p q) hx) ?_)
   refine s1 ((aa rfl).v (v':= .i .i64 0) rfl) rfl ?_
   refine ah<|ae<|aE ?_
   refine aF (rs:= [.cell 6 60,.tmp 7]) rfl (bW ee rfl rfl (yV (c:=fy x p q) hx) (gq (c:=fy x p q) hx) (aD rfl aB)) ?_
   show A.tu _=_;rw [rI hb]
end Go.Abs.D2
-- C4F
namespace Go.Abs.D2
open Go Go.Eng Go.Abs Go.Proofs
end Go.Abs.D2
-- C4G
namespace Go.Abs.D2
open Go Go.Eng Go.Abs Go.Proofs
theorem zN (n:Int):aA Tryz.prog 121 [.i .i64 n] (aN (.ag (CV.cells (bT n)))):=by
 refine enter Tryz.func121 rfl Tryz.ntmps121 (by kernel_rfl) (Nat.le_of_ble_eq_true rfl) fun w0 X0 hI=>?_
 refine af<|ai ?_
 refine ak rfl (bp 2 rfl bz rfl rfl ?_)
 refine ah<|ae<|af<|ai<|s1 (aa rfl) rfl<|s1 (ey (out:= [_,_,_,_]) [[a6 (.int .i64 0)], [a6 (.int .i64 0)], [a6 (.string ByteArray.empty)], [a6 (.slice none 0 0)]] bz rfl Tryz.underlying109 (by kernel_rfl) rfl rfl ⟨⟨by(first|rfl|omega|(simp;done)|(simp [*];done)|(simp [aY, *];done)),rfl⟩,⟨⟨by(first|rfl|omega|(simp;done)|(simp [*];done)|(simp [aY, *];done)),rfl⟩,trivial⟩⟩ rfl) rfl ?_
 refine ak rfl (bb bz rfl rfl rfl (by first|rfl|omega|(simp<;>omega)|(simp [*]<;>omega)) (by first|rfl|omega|(simp<;>omega)|(simp [*]<;>omega)) ?_)
 refine ah<|ae<|aE ?_
 refine iK 2 rfl qM ?_
 refine aF (rs:= [.cell 2 109]) rfl (bW bz rfl rfl rfl rfl aB) ?_
 rfl
theorem zP (l:List UInt8):aA Tryz.prog 122 [.fz l.length (l.map u8)] (aN (.ag (CV.cells (c9 l)))):=by
 refine enter Tryz.func122 rfl Tryz.ntmps122 (by kernel_rfl) (Nat.le_of_ble_eq_true rfl) fun w0 X0 hI=>?_
 refine af<|ai ?_
 refine ak rfl (bp 2 rfl bz rfl rfl ?_)
 refine ah<|ae<|af<|ai<|s1 (aa rfl) rfl<|s1 (oX Tryz.underlying68 Tryz.underlying5 Tryz.underlying9 rfl rfl (by simp)) rfl<|s1 (ey (out:= [_,_,_,_]) [[a6 (.int .i64 0)], [a6 (.int .i64 0)], [a6 (.string ByteArray.empty)], [a6 (.slice none 0 0)]] bz rfl Tryz.underlying109 (by kernel_rfl) rfl rfl ⟨⟨by(first|rfl|omega|(simp;done)|(simp [*];done)|(simp [aY, *];done)),rfl⟩,⟨⟨by(first|rfl|omega|(simp;done)|(simp [*];done)|(simp [aY, *];done)),rfl⟩,trivial⟩⟩ rfl) rfl ?_
 refine ak rfl (bb bz rfl rfl rfl (by first|rfl|omega|(simp<;>omega)|(simp [*]<;>omega)) (by first|rfl|omega|(simp<;>omega)|(simp [*]<;>omega)) ?_)
 refine ah<|ae<|aE ?_
 refine iK 2 rfl qM ?_
 refine aF (rs:= [.cell 2 109]) rfl (bW bz rfl rfl rfl rfl aB) ?_
 rfl
theorem rP (l:List CV):aA Tryz.prog 120 [.fz l.length (CV.bJ l)] (aN (.ag (CV.cells (cZ l)))):=by
 refine enter Tryz.func120 rfl Tryz.ntmps120 (by kernel_rfl) (Nat.le_of_ble_eq_true rfl) fun w0 X0 hI=>?_
 refine af<|ai ?_
 refine ak rfl (bp 2 rfl bz rfl rfl ?_)
 refine ah<|ae<|af<|ai<|s1 (aa rfl) rfl<|s1 (ey (out:= [_,_,_,_]) [[a6 (.int .i64 0)], [a6 (.int .i64 0)], [a6 (.string ByteArray.empty)], [a6 (.slice none 0 0)]] bz rfl Tryz.underlying109 (by kernel_rfl) rfl rfl ⟨⟨by(first|rfl|omega|(simp;done)|(simp [*];done)|(simp [aY, *];done)),rfl⟩,⟨⟨by(first|rfl|omega|(simp;done)|(simp [*];done)|(simp [aY, *];done)),rfl⟩,trivial⟩⟩ rfl) rfl ?_
 refine ak rfl (bb bz rfl rfl rfl (by first|rfl|omega|(simp<;>omega)|(simp [*]<;>omega)) (by first|rfl|omega|(simp<;>omega)|(simp [*]<;>omega)) ?_)
 refine ah<|ae<|aE ?_
 refine aF (rs:= [.cell 2 109]) rfl (bW bz rfl rfl rfl rfl aB) ?_
 rfl
theorem y5 (c:cD) (hx:c.x.length=32) (hn:c.E.length≤maxLen):aA Tryz.prog 79 [.ag (eL c)] (aN (encCA c)):=by
 refine enter Tryz.func79 rfl Tryz.ntmps79 (by kernel_rfl) (Nat.le_of_ble_eq_true rfl) fun w0 X0 hI=>?_
 refine af<|ai ?_
 refine ak rfl (bK 1 rfl rfl rfl ?_)
 refine s1 (aa rfl) rfl<|s1 ((aa rfl).v (v':= .i .i64 0) rfl) rfl ?_
 refine ah<|ae<|af<|af ?_
 rcases kf (dP c)with hcs|hcs
 ·skip
  refine ai<|s1 (aV ee rfl rfl (gq hx)) rfl ?_
  refine ak rfl (aI false rfl (.cons (.pure pu) (.nil)) (aA.cast (yY c hx hn) (congrArg (fun b=>A.i .i64 (vS b)) hcs)) pu (.inl rfl) rfl ?_)
  refine s1 (aa rfl) rfl ?_
  refine ah<|ae<|af<|ai<|s1 (aa rfl) rfl<|s1 ((aa rfl).v (v':= .b true) (rfl)) rfl ?_
  refine ah<|ae ?_
  refine bR rfl ?_
  refine af<|ai<|s1 (aa rfl) rfl<|s1 (aa rfl) rfl<|s1 (aa rfl) rfl ?_
  refine ah<|ae<|aE<|aH ?_
  refine aF (rs:= [.tmp 2,.tmp 3]) rfl (aD rfl (aD rfl aB)) ?_
  exact(Am hcs).symm
 ·obtain ⟨hF, hE, _⟩ := rM hcs
  have hEl:=BK hE
  have hel:=vN hcs hx
  refine ai<|s1 (aV ee rfl rfl (gq hx)) rfl ?_
  refine ak rfl (aI false rfl (.cons (.pure pu) (.nil)) (aA.cast (yY c hx hn) (congrArg (fun b=>A.i .i64 (vS b)) hcs)) pu (.inl rfl) rfl ?_)
  refine s1 (aa rfl) rfl ?_
  refine ah<|ae<|af<|ai<|s1 (aa rfl) rfl<|s1 ((aa rfl).v (v':= .b false) (rfl)) rfl ?_
  refine ah<|ae ?_
  refine cF rfl ?_
  refine aL<|ae<|af<|ai<|s1 (aa rfl) rfl<|s1 (aa rfl) rfl ?_
  refine ah<|ae<|af<|af<|ai<|s1 (aC Tryz.underlying60 rfl iH (by decide) rfl rfl) rfl<|s1 (au iH rfl rfl (vf hx)) rfl<|s1 (bu Tryz.underlying58 rfl rfl rfl) rfl<|s1 ((aa rfl).v (v':= .i .i64 0) rfl) rfl ?_
  refine ah<|ae<|aM ?_
  refine bF (ι:=Nat) (fun i=> [(1,.p 1 0),(5,.sl 133 4 0 i),(6,.nl),(17,pT c.F),(18,nJ c.F.length),(19,nJ i)]) (fun i=>⟨[(1,some (eL c)),(133,some (CV.bJ ((c.F.take i).map fH)))]⟩) (fun i=>i≤c.F.length) (fun i=>c.F.length - i) ?_ ?_
  ·exact bE (0) (Nat.zero_le _) [(1,some 1),(133,none)] hI rfl rfl ⟨⟨_,rfl,.p rfl⟩,⟨_,rfl,.nl rfl⟩,⟨_,rfl,.pure pu⟩,⟨_,rfl,.pure pu⟩,⟨_,rfl,.pure pu⟩,⟨_,rfl,.pure pu⟩,trivial⟩ ⟨.inr ⟨_,_,rfl,rfl,.pure aq⟩,.inl ⟨rfl,rfl⟩,trivial⟩
  rintro i hi
  refine af<|ai<|s1 (aa rfl) rfl ?_
  refine ah<|ae<|af ?_
  refine aO rfl (fun hc20=>?_) (fun hc20=>?_)
  ·have h19 : i < c.F.length := by have := of_decide_eq_true hc20; omega
   obtain⟨f,hf⟩:∃f,c.F[i]? =some f:=⟨_,List.getElem?_eq_getElem h19⟩
   refine aL<|ae<|af<|aM<|af<|ai<|s1 (aT i Tryz.underlying58 cJ rfl rfl rfl (by omega) rfl) rfl<|s1 (bY cJ rfl rfl (AQ hf) rfl) rfl ?_
   refine ak rfl (bp 8 rfl cJ rfl rfl ?_)
   refine ak rfl (bb cJ rfl rfl rfl (by first|rfl|omega|(simp<;>omega)|(simp [*]<;>omega)) (by first|rfl|omega|(simp<;>omega)|(simp [*]<;>omega)) ?_)
   refine ah<|ae ?_
   refine bP ⟨_, [], []⟩ 11 4 bx (le_refl rfl) ?_
   refine aj 0 [] [(133,none)] (aa rfl) rfl rfl<|aj 1 [] [(8,none)] (aC Tryz.underlying120 rfl an (by decide) rfl rfl) rfl rfl<|aj 2 [1] [(8,none)] (au an rfl rfl rfl) rfl rfl<|bL false 3 [2] [] aW rfl (.cons (.pure pu) (.nil)) (zN f.nb) pu (.inl rfl) rfl rfl<|aj 4 [] [(8,none)] (aC Tryz.underlying120 rfl ef (by decide) rfl rfl) rfl rfl<|aj 5 [4] [(8,none)] (au ef rfl rfl rfl) rfl rfl<|bL false 6 [5] [] aW rfl (.cons (.pure pu) (.nil)) (zP f.D) pu (.inl rfl) rfl rfl<|jS 30 7 [3,6] aW Tryz.underlying107 bz rfl rfl rfl (by simp [aY]) (show _=CV.bJ [bT f.nb,c9 f.D]from rfl) rfl rfl rfl rfl<|wm 30 8 [7] [(30,some 7)] aW rfl rfl aq rfl (CV.pz [bT f.nb,c9 f.D]) rfl (by exact aq) (rP [bT f.nb,c9 f.D]) pu rfl rfl<|jS 32 9 [8] aW Tryz.underlying107 bz rfl rfl rfl (by simp [aY]) (tg (fH f)) rfl rfl rfl rfl ?_
   refine fV 33 10 [0,9] [(32,some 9),(133,none)] aW Tryz.underlying107 bz rfl (.sl rfl (by simp;omega)) rfl (cE rfl (by first|rfl|omega|(simp<;>omega)|(simp [*]<;>omega))) (by simp) (by simp only [maxLen];omega) (by omega) rfl rfl rfl rfl<|bQ (by kernel_rfl) ?_
   refine s1 (aa rfl) rfl ?_
   refine ah<|bh<|ae<|ai<|s1 (bc _ 1 rfl rfl rfl rfl (by omega)) rfl<|s1 (aa rfl) rfl ?_
   refine ah ?_
   exact br (i+1) (by omega) (by omega) [(1,some 1),(133,some 33)] hI rfl rfl ⟨⟨_,rfl,.p rfl⟩,⟨_,rfl,.sl rfl (by first|rfl|omega|(simp<;>omega)|(simp [*]<;>omega))⟩,⟨_,rfl,.pure pu⟩,⟨_,rfl,.pure pu⟩,⟨_,rfl,.pure pu⟩,⟨_,rfl,.pure pu⟩,trivial⟩ ⟨.inr ⟨_,_,rfl,rfl,.pure aq⟩,.inr ⟨_,_,rfl,rfl,.of (G8 hf) (.pure aq)⟩,trivial⟩
  ·obtain rfl : i = c.F.length := by have := of_decide_eq_false hc20; omega
   refine bC<|aP<|aP<|bD<|ae<|af<|af ?_
   refine cX 133 (cs':=CV.bJ (c.F.map fH)) rfl (by rw [List.take_length]) ?_
   refine ai<|s1 (aC Tryz.underlying60 rfl ia (by decide) rfl rfl) rfl<|s1 (au ia rfl rfl (yU hx)) rfl<|s1 (bu Tryz.underlying30 rfl rfl rfl) rfl<|s1 ((aa rfl).v (v':= .i .i64 0) rfl) rfl ?_
   refine ah<|ae<|aM ?_
   refine bF (ι:=Nat) (fun k=> [(1,.p 1 0),(5,.sl 133 4 0 c.F.length),(6,.sl 146 4 0 k),(36,jV c.E),(37,nJ c.E.length),(38,nJ k)]) (fun k=>⟨[(1,some (eL c)),(133,some (CV.bJ (c.F.map fH))),(146,some (CV.bJ ((c.E.take k).map bT)))]⟩) (fun k=>k≤c.E.length) (fun k=>c.E.length - k) ?_ ?_
   ·exact bE (0) (Nat.zero_le _) [(1,some 1),(133,some 133),(146,none)] hI rfl rfl ⟨⟨_,rfl,.p rfl⟩,⟨_,rfl,.sl rfl (by first|rfl|omega|(simp<;>omega)|(simp [*]<;>omega))⟩,⟨_,rfl,.nl rfl⟩,⟨_,rfl,.pure pu⟩,⟨_,rfl,.pure pu⟩,⟨_,rfl,.pure pu⟩,trivial⟩ ⟨.inr ⟨_,_,rfl,rfl,.pure aq⟩,.inr ⟨_,_,rfl,rfl,.pure aq⟩,.inl ⟨rfl,rfl⟩,trivial⟩
   rintro k hk
   refine af<|ai<|s1 (aa rfl) rfl ?_
   refine ah<|ae<|af ?_
   refine aO rfl (fun hc39=>?_) (fun hc39=>?_)
   ·have h30 : k < c.E.length := by have := of_decide_eq_true hc39; omega
    obtain⟨q,hq⟩:∃q,c.E[k]? =some q:=⟨_,List.getElem?_eq_getElem h30⟩
    refine aL<|ae<|af<|aM<|af<|ai<|s1 (aT k Tryz.underlying30 an rfl rfl rfl (by omega) rfl) rfl<|s1 (au an rfl rfl (oq hq)) rfl<|s1 (aa rfl) rfl ?_
    refine ah<|ae<|ai<|s1 (aa rfl) rfl<|s1 (aa rfl) rfl ?_
    refine ak rfl (aI false rfl (.cons (.pure pu) (.nil)) (zN q) pu (.inl rfl) rfl ?_)
    refine ak rfl (fY 45 rfl Tryz.underlying107 bz rfl rfl rfl (by simp [aY]) (tg (bT q)) rfl rfl rfl ?_)
    refine ak rfl (cT 46 rfl Tryz.underlying107 bz rfl (.sl rfl (by simp;omega)) rfl (cE rfl (by first|rfl|omega|(simp<;>omega)|(simp [*]<;>omega))) (by simp) (by simp only [maxLen];omega) (by omega) rfl rfl rfl ?_)
    refine s1 (aa rfl) rfl ?_
    refine ah<|bh<|ae<|ai<|s1 (bc _ 1 rfl rfl rfl rfl (by omega)) rfl<|s1 (aa rfl) rfl ?_
    refine ah ?_
    exact br (k+1) (by omega) (by omega) [(1,some 1),(133,some 133),(146,some 46)] hI rfl rfl ⟨⟨_,rfl,.p rfl⟩,⟨_,rfl,.sl rfl (by first|rfl|omega|(simp<;>omega)|(simp [*]<;>omega))⟩,⟨_,rfl,.sl rfl (by first|rfl|omega|(simp<;>omega)|(simp [*]<;>omega))⟩,⟨_,rfl,.pure pu⟩,⟨_,rfl,.pure pu⟩,⟨_,rfl,.pure pu⟩,trivial⟩ ⟨.inr ⟨_,_,rfl,rfl,.pure aq⟩,.inr ⟨_,_,rfl,rfl,.pure aq⟩,.inr ⟨_,_,rfl,rfl,.of (HP hq) (.pure aq)⟩,trivial⟩
   ·obtain rfl : k = c.E.length := by have := of_decide_eq_false hc39; omega
    refine bC<|aP<|aP<|bD<|ae<|af ?_
    refine cX 146 (cs':=CV.bJ (c.E.map bT)) rfl (by rw [List.take_length]) ?_
    refine fh 1 rfl rfl aq ?_
    refine ai<|s1 (bj Tryz.underlying60 rfl az (by decide) rfl rfl) rfl<|s1 ((mB (ds:=((eL c).drop (0*1)).take (32*1)) 32 Tryz.underlying23 aQ rfl (by simp [maxLen]) bn bn (Nat.zero_le _) (Nat.le_refl _) (by simp [hx]) rfl rfl).v (Fy hx)) rfl ?_
    refine ak rfl (aI false rfl (.cons (.pure pu) (.nil)) (zP c.x) pu (.inl rfl) rfl ?_)
    refine s1 (aa rfl) rfl ?_
    refine ak rfl (sS 51 rfl rfl aq (by simp) (uh (by simp)) rfl (by exact aq) (rP (c.F.map fH)) pu rfl ?_)
    refine s1 (aa rfl) rfl ?_
    refine ak rfl (sS 53 rfl rfl aq (by simp) (uh (by simp)) rfl (by exact aq) (rP (c.E.map bT)) pu rfl ?_)
    refine ak rfl (fY 55 rfl Tryz.underlying107 bz rfl rfl rfl (by simp [aY]) (show _=CV.bJ [c9 c.x,cZ (c.F.map fH),cZ (c.E.map bT)]from rfl) rfl rfl rfl ?_)
    refine ak rfl (sS 55 rfl rfl aq rfl (CV.pz [c9 c.x,cZ (c.F.map fH),cZ (c.E.map bT)]) rfl (by exact aq) (rP [c9 c.x,cZ (c.F.map fH),cZ (c.E.map bT)]) pu rfl ?_)
    refine ak rfl (aI false rfl (.cons (.pure pu) (.nil)) (aA.cast (y6 3 0 [] [c9 c.x,cZ (c.F.map fH),cZ (c.E.map bT)] (LK hcs hx) (C0 hcs) (Nat.le_trans hel (by omega))) (GM hcs)) pu (.inl rfl) rfl ?_)
    refine s1 (aa rfl) rfl<|s1 (aa rfl) rfl<|s1 (aa rfl) rfl<|s1 (aa rfl) rfl ?_
    refine ah<|ae<|aE ?_
    refine aF (rs:= [.tmp 2,.tmp 3]) rfl (aD rfl (aD rfl aB)) ?_
    exact(An hcs).symm
theorem yZ (c:cD) (hx:c.x.length=32) (hn:c.E.length≤maxLen):aA Tryz.prog 31 [.ag (eL c)] (aN (digCA c)):=by
 refine enter Tryz.func31 rfl Tryz.ntmps31 (by kernel_rfl) (Nat.le_of_ble_eq_true rfl) fun w0 X0 hI=>?_
 refine af<|ai ?_
 refine ak rfl (bK 1 rfl rfl rfl ?_)
 refine ak rfl (bp 2 rfl az rfl rfl ?_)
 refine s1 ((aa rfl).v (v':= .i .i64 0) rfl) rfl ?_
 refine ah<|ae<|af ?_
 rcases kf (dP c)with hcs|hcs
 ·skip
  refine ai<|s1 (aV ee rfl rfl (gq hx)) rfl ?_
  refine ak rfl (aI false rfl (.cons (.pure pu) (.nil)) (aA.cast (y5 c hx hn) (Am hcs)) pu (.inl rfl) rfl ?_)
  refine s1 (aa rfl) rfl<|s1 (aa rfl) rfl<|s1 (aa rfl) rfl<|s1 (aa rfl) rfl<|s1 (aa rfl) rfl ?_
  refine ah<|ae<|af<|af<|ai<|s1 (aa rfl) rfl<|s1 ((aa rfl).v (v':= .b true) (rfl)) rfl ?_
  refine ah<|ae ?_
  refine bR rfl ?_
  refine af<|ai<|s1 (aV az rfl rfl rfl) rfl<|s1 (aa rfl) rfl ?_
  refine ak rfl (bb az rfl rfl rfl (by first|rfl|omega|(simp<;>omega)|(simp [*]<;>omega)) (by first|rfl|omega|(simp<;>omega)|(simp [*]<;>omega)) ?_)
  refine s1 (aa rfl) rfl ?_
  refine ah<|ae<|aE<|aH ?_
  refine aF (rs:= [.cell 2 23,.tmp 3]) rfl (bW az rfl rfl rfl rfl (aD rfl aB)) ?_
  exact(Gx hcs).symm
 ·have hel := vN hcs hx
  refine ai<|s1 (aV ee rfl rfl (gq hx)) rfl ?_
  refine ak rfl (aI false rfl (.cons (.pure pu) (.nil)) (aA.cast (y5 c hx hn) (An hcs)) pu (.inl rfl) rfl ?_)
  refine s1 (aa rfl) rfl<|s1 (aa rfl) rfl<|s1 (aa rfl) rfl<|s1 (aa rfl) rfl<|s1 (aa rfl) rfl ?_
  refine ah<|ae<|af<|af<|ai<|s1 (aa rfl) rfl<|s1 ((aa rfl).v (v':= .b false) (rfl)) rfl ?_
  refine ah<|ae ?_
  refine cF rfl ?_
  refine aL<|ae<|af<|ai<|s1 (aa rfl) rfl ?_
  refine ak rfl (aI false rfl (.cons (.pure pu) (.cons (.pure pu) (.nil))) (aA.cast (g9 xK (fS c).enc (by omega) (by decide)) (congrArg (fun l:List UInt8=>A.ag (l.map u8)) (z1 c).symm)) pu (.inl rfl) rfl ?_)
  refine ak rfl (bb az rfl rfl rfl (by first|rfl|omega|(simp<;>omega)|(simp [*]<;>omega)) (by first|rfl|omega|(simp<;>omega)|(simp [*]<;>omega)) ?_)
  refine s1 ((aa rfl).v (v':= .i .i64 0) rfl) rfl ?_
  refine ah<|ae<|aE ?_
  refine aF (rs:= [.cell 2 23,.tmp 3]) rfl (bW az rfl rfl (List.take_of_length_le (by simp)) (by simp) (aD rfl aB)) ?_
  exact(vF hcs).symm
end Go.Abs.D2
-- E5C
namespace Go.Abs.D2
open Go Go.Eng Go.Abs Go.Proofs
theorem pR (n:Int):aA Tryz.prog 68 [.i .i64 n] (aN (.ag (CV.cells (bT n)))):=by
 refine enter Tryz.func68 rfl Tryz.ntmps68 (by kernel_rfl) (Nat.le_of_ble_eq_true rfl) fun w0 X0 hI=>?_
 refine af<|ai ?_
 refine ak rfl (bp 2 rfl bz rfl rfl ?_)
 refine ah<|ae<|af<|ai<|s1 (aa rfl) rfl<|s1 (ey (out:= [_,_,_,_]) [[a6 (.int .i64 0)], [a6 (.int .i64 0)], [a6 (.string ByteArray.empty)], [a6 (.slice none 0 0)]] bz rfl Tryz.underlying109 (by kernel_rfl) rfl rfl ⟨⟨by(first|rfl|omega|(simp;done)|(simp [*];done)|(simp [aY, *];done)),rfl⟩,⟨⟨by(first|rfl|omega|(simp;done)|(simp [*];done)|(simp [aY, *];done)),rfl⟩,trivial⟩⟩ rfl) rfl ?_
 refine ak rfl (bb bz rfl rfl rfl (by first|rfl|omega|(simp<;>omega)|(simp [*]<;>omega)) (by first|rfl|omega|(simp<;>omega)|(simp [*]<;>omega)) ?_)
 refine ah<|ae<|aE ?_
 refine iK 2 rfl qM ?_
 refine aF (rs:= [.cell 2 109]) rfl (bW bz rfl rfl rfl rfl aB) ?_
 rfl
theorem Aj (l:List CV):aA Tryz.prog 67 [.fz l.length (CV.bJ l)] (aN (.ag (CV.cells (cZ l)))):=by
 refine enter Tryz.func67 rfl Tryz.ntmps67 (by kernel_rfl) (Nat.le_of_ble_eq_true rfl) fun w0 X0 hI=>?_
 refine af<|ai ?_
 refine ak rfl (bp 2 rfl bz rfl rfl ?_)
 refine ah<|ae<|af<|ai<|s1 (aa rfl) rfl<|s1 (ey (out:= [_,_,_,_]) [[a6 (.int .i64 0)], [a6 (.int .i64 0)], [a6 (.string ByteArray.empty)], [a6 (.slice none 0 0)]] bz rfl Tryz.underlying109 (by kernel_rfl) rfl rfl ⟨⟨by(first|rfl|omega|(simp;done)|(simp [*];done)|(simp [aY, *];done)),rfl⟩,⟨⟨by(first|rfl|omega|(simp;done)|(simp [*];done)|(simp [aY, *];done)),rfl⟩,trivial⟩⟩ rfl) rfl ?_
 refine ak rfl (bb bz rfl rfl rfl (by first|rfl|omega|(simp<;>omega)|(simp [*]<;>omega)) (by first|rfl|omega|(simp<;>omega)|(simp [*]<;>omega)) ?_)
 refine ah<|ae<|aE ?_
 refine aF (rs:= [.cell 2 109]) rfl (bW bz rfl rfl rfl rfl aB) ?_
 rfl
theorem GK:aA Tryz.prog 67 [.nl] (aN (.ag [.i .i64 3,.i .i64 0,.s [],.nl])):=by
 refine enter Tryz.func67 rfl Tryz.ntmps67 (by kernel_rfl) (Nat.le_of_ble_eq_true rfl) fun w0 X0 hI=>?_
 refine af<|ai ?_
 refine ak rfl (bp 2 rfl bz rfl rfl ?_)
 refine ah<|ae<|af<|ai<|s1 (aa rfl) rfl<|s1 (ey (out:= [_,_,_,_]) [[a6 (.int .i64 0)], [a6 (.int .i64 0)], [a6 (.string ByteArray.empty)], [a6 (.slice none 0 0)]] bz rfl Tryz.underlying109 (by kernel_rfl) rfl rfl ⟨⟨by(first|rfl|omega|(simp;done)|(simp [*];done)|(simp [aY, *];done)),rfl⟩,⟨⟨by(first|rfl|omega|(simp;done)|(simp [*];done)|(simp [aY, *];done)),rfl⟩,trivial⟩⟩ rfl) rfl ?_
 refine ak rfl (bb bz rfl rfl rfl (by first|rfl|omega|(simp<;>omega)|(simp [*]<;>omega)) (by first|rfl|omega|(simp<;>omega)|(simp [*]<;>omega)) ?_)
 refine ah<|ae<|aE ?_
 refine aF (rs:= [.cell 2 109]) rfl (bW bz rfl rfl rfl rfl aB) ?_
 rfl
theorem AD (x:List UInt8) (hx:x.length=32):aA Tryz.prog 70 [.ag (x.map u8)] (aN (.ag (CV.cells (c9 x)))):=by
 refine enter Tryz.func70 rfl Tryz.ntmps70 (by kernel_rfl) (Nat.le_of_ble_eq_true rfl) fun w0 X0 hI=>?_
 refine af<|ai ?_
 refine ak rfl (bK 1 rfl rfl rfl ?_)
 refine ak rfl (bp 2 rfl bz rfl rfl ?_)
 refine ah<|ae<|af ?_
 refine fh 1 rfl rfl aq ?_
 refine ai<|s1 ((mB (ds:=((x.map u8).drop (0*1)).take (32*1)) 32 Tryz.underlying23 aQ rfl (by simp [maxLen]) bn bn (Nat.zero_le _) (Nat.le_refl _) (by simp [hx]) rfl rfl).v (vq hx)) rfl<|s1 (oX Tryz.underlying68 Tryz.underlying5 Tryz.underlying9 rfl rfl (by rw [hx])) rfl<|s1 (ey (out:= [_,_,_,_]) [[a6 (.int .i64 0)], [a6 (.int .i64 0)], [a6 (.string ByteArray.empty)], [a6 (.slice none 0 0)]] bz rfl Tryz.underlying109 (by kernel_rfl) rfl rfl ⟨⟨by(first|rfl|omega|(simp;done)|(simp [*];done)|(simp [aY, *];done)),rfl⟩,⟨⟨by(first|rfl|omega|(simp;done)|(simp [*];done)|(simp [aY, *];done)),rfl⟩,trivial⟩⟩ rfl) rfl ?_
 refine ak rfl (bb bz rfl rfl rfl (by first|rfl|omega|(simp<;>omega)|(simp [*]<;>omega)) (by first|rfl|omega|(simp<;>omega)|(simp [*]<;>omega)) ?_)
 refine ah<|ae<|aE ?_
 refine iK 2 rfl qM ?_
 refine aF (rs:= [.cell 2 109]) rfl (bW bz rfl rfl rfl rfl aB) ?_
 rfl
theorem lW (e:Ep) (h:e.ok):aA Tryz.prog 22 [.ag e.cells] (aN (.ag ((cu e).map u8))):=by
 refine enter Tryz.func22 rfl Tryz.ntmps22 (by kernel_rfl) (Nat.le_of_ble_eq_true rfl) fun w0 X0 hI=>?_
 refine af<|ai ?_
 refine ak rfl (bK 1 rfl rfl rfl ?_)
 refine ak rfl (bp 2 rfl az rfl rfl ?_)
 refine ah<|ae<|af ?_
 have hfew:=h.gT
 refine ai ?_
 refine ak rfl (aI false rfl (.cons (.pure pu) .nil) (GK) pu (.inl rfl) rfl ?_)
 refine ak rfl (bp 3 rfl bz rfl rfl ?_)
 refine ak rfl (bb bz rfl rfl rfl (by first|rfl|omega|(simp<;>omega)|(simp [*]<;>omega)) (by first|rfl|omega|(simp<;>omega)|(simp [*]<;>omega)) ?_)
 refine ah<|ae<|af<|af<|ai<|s1 (aC Tryz.underlying45 rfl cK (by decide) rfl rfl) rfl<|s1 (au cK rfl rfl rfl) rfl<|s1 (bu Tryz.underlying31 rfl rfl rfl) rfl<|s1 ((aa rfl).v (v':= .i .i64 0) rfl) rfl ?_
 refine ah<|ae<|aM ?_
 refine bF (ι:=Nat) (fun i=> [(1,.p 1 0),(2,.p 2 0),(3,.p 3 0),(10,cC e.ch),(11,nJ e.ch.length),(12,nJ i)]) (fun i=>⟨[(1,some (e.cells)),(2,some (zD.map u8)),(3,some ([.i .i64 3,.i .i64 0,.s [],.sl 127 4 0 i])),(127,some (CV.bJ ((e.ch.take i).map dI)))]⟩) (fun i=>i≤e.ch.length) (fun i=>e.ch.length - i) ?_ ?_
 ·exact bE (0) (Nat.zero_le _) [(1,some 1),(2,some 2),(3,some 3),(127,none)] hI rfl rfl ⟨⟨_,rfl,.p rfl⟩,⟨_,rfl,.p rfl⟩,⟨_,rfl,.p rfl⟩,⟨_,rfl,.pure pu⟩,⟨_,rfl,.pure pu⟩,⟨_,rfl,.pure pu⟩,trivial⟩ ⟨.inr ⟨_,_,rfl,rfl,.pure aq⟩,.inr ⟨_,_,rfl,rfl,.pure aq⟩,.inr ⟨_,_,rfl,rfl,.cons (.pure pu) (.cons (.pure pu) (.cons (.pure pu) (.cons (.nl rfl) .nil)))⟩,.inl ⟨rfl,rfl⟩,trivial⟩
 rintro i hi
 refine af<|ai<|s1 (aa rfl) rfl ?_
 refine ah<|ae<|af ?_
 refine aO rfl (fun hc13=>?_) (fun hc13=>?_)
 ·have h13 : i < e.ch.length := by have := of_decide_eq_true hc13; omega
  obtain⟨c,hc⟩:∃c,e.ch[i]? =some c:=⟨_,List.getElem?_eq_getElem h13⟩
  refine aL<|ae<|af<|aM<|af<|ai<|s1 (aT i Tryz.underlying31 bt rfl rfl rfl (by omega) rfl) rfl<|s1 (bY bt rfl rfl (pF hc) rfl) rfl ?_
  refine ak rfl (bp 5 rfl bt rfl rfl ?_)
  refine ak rfl (bb bt rfl rfl rfl (by first|rfl|omega|(simp<;>omega)|(simp [*]<;>omega)) (by first|rfl|omega|(simp<;>omega)|(simp [*]<;>omega)) ?_)
  refine ah<|ae ?_
  refine bP ⟨_, [], []⟩ 13 4 bx (le_refl rfl) ?_
  refine aj 0 [] [(3,none)] (aC Tryz.underlying109 rfl cU (by decide) rfl rfl) rfl rfl<|aj 1 [0] [(3,none)] (au cU rfl rfl rfl) rfl rfl<|aj 2 [] [(5,none)] (aC Tryz.underlying55 rfl an (by decide) rfl rfl) rfl rfl<|aj 3 [2] [(5,none)] (au an rfl rfl rfl) rfl rfl<|bL false 4 [3] [] aW rfl (.cons (.pure pu) (.nil)) (pR c.id) pu (.inl rfl) rfl rfl<|aj 5 [] [(5,none)] (aC Tryz.underlying55 rfl an (by decide) rfl rfl) rfl rfl<|aj 6 [5] [(5,none)] (au an rfl rfl rfl) rfl rfl<|bL false 7 [6] [] aW rfl (.cons (.pure pu) (.nil)) (pR c.st) pu (.inl rfl) rfl rfl<|jS 24 8 [4,7] aW Tryz.underlying107 bz rfl rfl rfl (by simp [aY]) (show _=CV.bJ [bT c.id,bT c.st]from rfl) rfl rfl rfl rfl<|wm 24 9 [8] [(24,some 8)] aW rfl rfl aq rfl (CV.pz [bT c.id,bT c.st]) rfl (by exact aq) (Aj [bT c.id,bT c.st]) pu rfl rfl ?_
  refine jS 26 10 [9] aW Tryz.underlying107 bz rfl rfl rfl (by simp [aY]) (tg (dI c)) rfl rfl rfl rfl<|fV 27 11 [1,10] [(26,some 10),(127,none)] aW Tryz.underlying107 bz rfl (.sl rfl (by simp;omega)) rfl (cE rfl (by first|rfl|omega|(simp<;>omega)|(simp [*]<;>omega))) (by simp) (by simp only [maxLen];omega) (by omega) rfl rfl rfl rfl<|aj 12 [] [(3,none)] (aC Tryz.underlying109 rfl cU (by decide) rfl rfl) rfl rfl<|bQ (by kernel_rfl) ?_
  refine ak rfl (bZ cU rfl rfl rfl rfl (by first|rfl|omega|(simp<;>omega)|(simp [*]<;>omega)) rfl ?_)
  refine ah<|bh<|ae<|ai<|s1 (bc _ 1 rfl rfl rfl rfl (by omega)) rfl<|s1 (aa rfl) rfl ?_
  refine ah ?_
  exact br (i+1) (by omega) (by omega) [(1,some 1),(2,some 2),(3,some 3),(127,some 27)] hI rfl rfl ⟨⟨_,rfl,.p rfl⟩,⟨_,rfl,.p rfl⟩,⟨_,rfl,.p rfl⟩,⟨_,rfl,.pure pu⟩,⟨_,rfl,.pure pu⟩,⟨_,rfl,.pure pu⟩,trivial⟩ ⟨.inr ⟨_,_,rfl,rfl,.pure aq⟩,.inr ⟨_,_,rfl,rfl,.pure aq⟩,.inr ⟨_,_,rfl,rfl,.cons (.pure pu) (.cons (.pure pu) (.cons (.pure pu) (.cons (.sl rfl (by simp)) .nil)))⟩,.inr ⟨_,_,rfl,rfl,.of (zg hc) (.pure aq)⟩,trivial⟩
 ·obtain rfl : i = e.ch.length := by have := of_decide_eq_false hc13; omega
  refine bC<|aP<|aP<|bD<|ae<|af ?_
  refine cX 127 (cs':=CV.bJ (e.ch.map dI)) rfl (by rw [List.take_length]) ?_
  refine jL 3 3 rfl rfl rfl rfl aq (uh (by simp)) rfl ?_
  refine bP ⟨_, [], []⟩ 23 4 bx (le_refl rfl) ?_
  refine aj 0 [] [(1,none)] (aC Tryz.underlying45 rfl an (by decide) rfl rfl) rfl rfl<|aj 1 [0] [(1,none)] (au an rfl rfl rfl) rfl rfl<|bL false 2 [1] [] aW rfl (.cons (.pure pu) (.nil)) (pR e.iss) pu (.inl rfl) rfl rfl<|aj 3 [] [(1,none)] (aC Tryz.underlying45 rfl an (by decide) rfl rfl) rfl rfl<|aj 4 [3] [(1,none)] (au an rfl rfl rfl) rfl rfl<|bL false 5 [4] [] aW rfl (.cons (.pure pu) (.nil)) (pR e.no) pu (.inl rfl) rfl rfl<|aj 6 [] [(1,none)] (aC Tryz.underlying45 rfl an (by decide) rfl rfl) rfl rfl<|aj 7 [6] [(1,none)] (au an rfl rfl rfl) rfl rfl<|bL false 8 [7] [] aW rfl (.cons (.pure pu) (.nil)) (pR e.day) pu (.inl rfl) rfl rfl ?_
  refine aj 9 [] [(3,none)] ((aV bz rfl rfl rfl).v (v':= .ag (CV.cells (cZ (e.ch.map dI)))) (congrArg (fun n:Nat=>A.ag [.i .i64 3,.i .i64 0,.s [],.fz n (CV.bJ (e.ch.map dI))]) (show e.ch.length=(e.ch.map dI).length by rw [List.length_map]))) rfl rfl ?_
  refine aj 10 [] [(1,none)] (aC Tryz.underlying45 rfl az (by decide) rfl rfl) rfl rfl<|aj 11 [10] [(1,none)] (bY az rfl rfl (Ar h) (by simp [h.cas])) rfl rfl<|bL false 12 [11] [] aW rfl (.cons (.pure pu) (.nil)) (AD e.cas h.cas) pu (.inl rfl) rfl rfl<|aj 13 [] [(1,none)] (aC Tryz.underlying45 rfl az (by decide) rfl rfl) rfl rfl<|aj 14 [13] [(1,none)] (bY az rfl rfl (jl h) (by simp [h.prev])) rfl rfl<|bL false 15 [14] [] aW rfl (.cons (.pure pu) (.nil)) (AD e.prev h.prev) pu (.inl rfl) rfl rfl<|jS 47 16 [2,5,8,9,12,15] aW Tryz.underlying107 bz rfl rfl rfl (by simp [aY]) (show _=CV.bJ [bT e.iss,bT e.no,bT e.day,cZ (e.ch.map dI),c9 e.cas,c9 e.prev]from rfl) rfl rfl rfl rfl<|wm 47 17 [16] [(47,some 16)] aW rfl rfl aq rfl (CV.pz [bT e.iss,bT e.no,bT e.day,cZ (e.ch.map dI),c9 e.cas,c9 e.prev]) rfl (by exact aq) (Aj [bT e.iss,bT e.no,bT e.day,cZ (e.ch.map dI),c9 e.cas,c9 e.prev]) pu rfl rfl<|bL false 18 [17] [] aW rfl (.cons (.pure pu) (.nil)) (aA.cast (y6 3 0 [] [bT e.iss,bT e.no,bT e.day,cZ (e.ch.map dI),c9 e.cas,c9 e.prev] (Dt h) (C1 h) (Nat.le_trans (pP h) (by omega))) (Ak e)) pu (.inl rfl) rfl rfl<|aj 19 [18] [] (aa rfl) rfl rfl ?_
  refine aj 20 [19] [] (aa rfl) rfl rfl<|aj 21 [19] [] (aa rfl) rfl rfl<|aj 22 [20] [] (aa rfl) rfl rfl<|bQ (by kernel_rfl) ?_
  refine s1 (aa rfl) rfl ?_
  refine ah<|ae<|af ?_
  have hel:=pP h
  refine ai<|s1 (aa rfl) rfl ?_
  refine ak rfl (aI false rfl (.cons (.pure pu) (.cons (.pure pu) (.nil))) (aA.cast (g9 tU (fU e).enc (by omega) (by decide)) (congrArg (fun l:List UInt8=>A.ag (l.map u8)) (pJ e).symm)) pu (.inl rfl) rfl ?_)
  refine ak rfl (bb az rfl rfl rfl (by first|rfl|omega|(simp<;>omega)|(simp [*]<;>omega)) (by first|rfl|omega|(simp<;>omega)|(simp [*]<;>omega)) ?_)
  refine ah<|ae<|aE ?_
  refine aF (rs:= [.cell 2 23]) rfl (bW az rfl rfl (List.take_of_length_le (by simp)) (by simp) aB) ?_
  rfl
end Go.Abs.D2
-- C4T
namespace Go.Abs.D2
open Go Go.Eng Go.Abs
def two (e:CV):Bool:=decide (e.ls.length=2)
theorem D3 {l:List A} {m m':List A} (h:iJ m m'):iJ (l++m) (l++m'):=by
  induction l with
  |nil=>exact h
  |cons a l ih=>exact .cons (.eq rfl) ih
end Go.Abs.D2
-- V6S
namespace Go.Abs.D2
open Go Go.Eng Go.Abs
end Go.Abs.D2
-- S7V
namespace Go.Abs.D2
open Go Go.Eng Go.Abs
theorem zm {x : List UInt8} {p q : List Int} (h : iC p q = true) : dP (fy x p q) = true := by
  have hsub:=rG x p q (gC x p q)
  have hE:=Ap x p q
  have hasc : ∀ n, cP (bS x p q n).2.1 = true ∧ cP (bS x p q n).2.2 = true := by
    intro n
    induction n with
    | zero =>
      unfold iC at h
      simp only [Bool.and_eq_true]at h
      exact⟨h.1.1,h.1.2⟩
    | succ n ih =>
      refine⟨?_,ih.1⟩
      rw [bS]
      have key:∀(l:List Int) (f:Int→Bool) (last:Int),dW last l=true→dW last (l.filter f)=true:=by
        intro l f
        induction l with
        |nil=>intro last _;rfl
        | cons a l ih2 =>
          intro last hl
          simp only [dW,Bool.and_eq_true,decide_eq_true_eq]at hl
          cases hf:f a with
          | true =>
            rw [List.filter_cons_of_pos hf]
            simp only [dW,Bool.and_eq_true,decide_eq_true_eq]
            exact⟨hl.1,ih2 _ hl.2⟩
          | false =>
            rw [List.filter_cons_of_neg (by rw [hf];simp)]
            have h3:=ih2 a hl.2
            have mono:∀(m:List Int) (u v:Int),u≤v→dW v m=true→dW u m=true:=by
              intro m u v huv hm
              cases m with
              |nil=>rfl
              | cons b m =>
                simp only [dW,Bool.and_eq_true,decide_eq_true_eq]at hm ⊢
                exact⟨⟨by omega,hm.1.2⟩,hm.2⟩
            exact mono _ _ _ (by omega) h3
      exact key _ _ _ ih.2
  have hlev:∀n,n≤16→∀F:List da,(∀i,i<F.length→∃a,F[i]? =some (lX x (n+i) a))→n+F.length≤16→eO n F=true:=by
    intro n hn F
    induction F generalizing n with
    |nil=>intro _ _;rfl
    | cons f F ih =>
      intro hF hl
      rw [List.length_cons]at hl
      obtain⟨a,ha⟩:=hF 0 (by simp)
      simp only [List.getElem?_cons_zero,Option.some.injEq,Nat.add_zero]at ha
      subst ha
      simp only [eO,Bool.and_eq_true,decide_eq_true_eq]
      refine⟨⟨rfl,FV x n a (by omega)⟩,ih (n+1) (by omega) (fun i hi=>?_) (by omega)⟩
      obtain⟨b,hb⟩:=hF (i+1) (by rw [List.length_cons];omega)
      exact⟨b,by rw [List.getElem?_cons_succ]at hb;rw [hb,show n+1+i=n+(i+1) by omega]⟩
  refine zq ?_ (hasc _).1 ?_
  · show (bS x p q (gC x p q)).1.length ≤ 16
    rw [jq];exact hE
  · refine hlev 0 (by omega) _ (fun i hi => ?_) ?_
    · have hi' : i < gC x p q := by
        have:i<(bS x p q (gC x p q)).1.length:=hi
        rwa [jq]at this
      exact⟨_,by rw [Nat.zero_add];exact yN x p q _ i hi'⟩
    · show 0 + (bS x p q (gC x p q)).1.length ≤ 16
      rw [jq];omega
end Go.Abs.D2
-- C4U
namespace Go.Abs.D2
open Go Go.Eng Go.Abs
theorem yT {x:List UInt8} {p q:List Int} (hp:p.length≤100) (hq:q.length≤100):(fy x p q).E.length≤100∧(fy x p q).F.length≤16:=by
  refine⟨(rE hp hq _).1,?_⟩
  show(bS x p q (gC x p q)).1.length≤16
  rw [jq];exact Ap x p q
end Go.Abs.D2
-- E5Q
namespace Go.Abs.D2
open Go Go.Eng Go.Abs
def dX (σ:Int→Int) (l:List Int):List Int:=l.filter fun n=>σ n !=0
def fm (σ:Int→Int) (l:List Int):List Int:=l.filter fun n=>!(σ n !=0)
def c6 (σ:Int→Int):List Int:=((List.range 1024).map fun k:Nat=>(k:Int)).filter fun n=>σ n !=0
def gj (σ:Int→Int):Prop:=∀k,σ k≠0→0≤k∧k<1024
theorem DI:gj σ0:=fun _ h=>absurd rfl h
theorem wD (σ:Int→Int):(c6 σ).Nodup:=by
  refine List.Nodup.sublist List.filter_sublist ?_
  rw [List.nodup_iff_pairwise_ne,List.pairwise_map]
  exact List.nodup_iff_pairwise_ne.1 List.nodup_range |>.imp fun h e=>h (by omega)
theorem sF {σ:Int→Int} (h:gj σ) (k:Int):(mapOf σ k).isSome=true↔k∈c6 σ:=by
  unfold c6 mapOf
  rw [List.mem_filter]
  constructor
  · intro hs
    by_cases h0:σ k=0
    · rw [if_pos h0]at hs;cases hs
    · obtain ⟨h1, h2⟩ := h k h0
      exact⟨List.mem_map.2 ⟨k.toNat,List.mem_range.2 (by omega),by omega⟩,bne_iff_ne.2 h0⟩
  · rintro ⟨_, h0⟩
    rw [if_neg (bne_iff_ne.1 h0)];rfl
@[irreducible] def fN (σ:Int→Int) (l:List Int):Bool:=cP l&&decide ((dX σ l).length=(c6 σ).length)
theorem Dy {σ:Int→Int} {l:List Int} (h:cP l=false):fN σ l=false:=by unfold fN;rw [h];rfl
theorem LO {σ:Int→Int} {l:List Int} (h:(dX σ l).length≠(c6 σ).length):fN σ l=false:=by unfold fN;rw [decide_eq_false h,Bool.and_false]
theorem xF {σ:Int→Int} {l:List Int} (h1:cP l=true) (h:(dX σ l).length=(c6 σ).length):fN σ l=true:=by unfold fN;rw [h1,decide_eq_true h];rfl
theorem Dz {σ:Int→Int} {l:List Int} (h:fN σ l=true):cP l=true:=by
  cases hl:cP l with
  |true=>rfl
  |false=>rw [Dy hl]at h;cases h
theorem Ff {σ:Int→Int} {l:List Int} {i:Nat} {n:Int} (h:l[i]? =some n) (hn:σ n≠0):dX σ (l.take (i+1))=dX σ (l.take i)++ [n]∧fm σ (l.take (i+1))=fm σ (l.take i):=by
  unfold dX fm
  rw [List.take_add_one,h,List.filter_append,List.filter_append]
  simp [hn]
theorem Fg {σ:Int→Int} {l:List Int} {i:Nat} {n:Int} (h:l[i]? =some n) (hn:σ n=0):dX σ (l.take (i+1))=dX σ (l.take i)∧fm σ (l.take (i+1))=fm σ (l.take i)++ [n]:=by
  unfold dX fm
  rw [List.take_add_one,h,List.filter_append,List.filter_append]
  simp [hn]
theorem wG (σ:Int→Int) (l:List Int):(dX σ l).length≤l.length:=List.length_filter_le ..
theorem wJ (σ:Int→Int) (l:List Int):(fm σ l).length≤l.length:=List.length_filter_le ..
theorem ru {p:Int→Bool}:∀ {l:List Int} {a b:Int},a≤b→dW b l=true→dW a (l.filter p)=true
  | [],_,_,_,_=>rfl
  | n :: l, a, b, hab, h => by
    simp only [dW,Bool.and_eq_true,decide_eq_true_eq]at h
    rw [List.filter_cons]
    split
    · simp only [dW, Bool.and_eq_true, decide_eq_true_eq]
      exact⟨⟨by omega,h.1.2⟩,ru (Int.le_refl _) h.2⟩
    · exact ru (b:=n) (by omega) h.2
theorem s6 {σ:Int→Int} {l:List Int} (h:cP l=true):iC (dX σ l) (fm σ l)=true:=by
  unfold iC
  have h1:cP (dX σ l)=true:=ru (Int.le_refl _) h
  have h2:cP (fm σ l)=true:=ru (Int.le_refl _) h
  rw [h1,h2]
  show Go.Eng.jP _ _=true
  unfold Go.Eng.jP
  rw [List.all_eq_true]
  intro n hn
  have h3:=(List.mem_filter.1 hn).2
  rw [Bool.not_eq_true',decide_eq_false_iff_not]
  intro hb
  have h4:=(List.mem_filter.1 hb).2
  rw [h4]at h3;cases h3
abbrev tV:List UInt8:= [115,97,108,116]
@[irreducible] def mo (x:List UInt8) (no:Nat):List UInt8:=tagged tV (x++eF (no:Int) 4)
theorem xv (x:List UInt8) (no:Nat):mo x no=tagged tV (x++eF (no:Int) 4):=by unfold mo;rfl
@[simp] theorem ox (x:List UInt8) (no:Nat):(mo x no).length=32:=by rw [xv];simp
def jf (x:List UInt8) (no:Nat) (σ:Int→Int) (ids:List Int):cD:=fy (mo x no) (dX σ ids) (fm σ ids)
def iN (l:List Ep):List UInt8:=match l.getLast? with
  |none=>zD
  |some e=>cu e
def eP (x:List UInt8) (l:List Ep) (iss day:Int) (ids:List Int) (c:List Ch) (σ:Int→Int):Ep:=⟨iss,(l.length:Nat),day,c,lq (jf x l.length σ ids),iN l,⟨0, [], []⟩⟩
def eY (x:List UInt8) (k:Nat) (l:List Ep) (iss day:Int) (ids:List Int) (c:List Ch) (σ:Int→Int):Ep:=
  {eP x l iss day ids c σ with sg:=⟨(l.length:Nat),iW (fD x (l.length:Nat)) (cu (eP x l iss day ids c σ)),path (dw x k) l.length⟩}
theorem Gy (e:Ep) (s:Lf):cu {e with sg:=s}=cu e:=by rw [pJ,pJ];rfl
def nP (iss day:Int):Bool:=((decide (iss≥0)&&decide (iss<8))&&decide (day≥0))&&decide (day<1024)
def jY (l:List Ep) (iss day:Int):Bool:=match l.getLast? with
  |none=>true
  |some e=>(iss==e.iss)&&decide (day>e.day)
@[irreducible] def gw (x : List UInt8) (n : Int) (l : List Ep) (iss day : Int) (ids : List Int) (c : List Ch) : Int ⊕ Ep :=
  if cn n then
    match cv l with
    |none=> .inl 351
    | some σ => if cN (dL x n) n l = 0 then
        if(l.length:Int)=n then .inl 2 else if nP iss day&&(jY l iss day&&(cR σ (-1) c&&fN (aX σ c) ids))then .inr (eY x n.toNat l iss day ids c (aX σ c))else .inl 351
      else .inl (cN (dL x n) n l)
  else .inl 60
def Kw (l:List Ep):Int ⊕ Ep→A
  | .inl e=> .tu [.nl,.i .i64 e]
  | .inr e=> .tu [cO (l++ [e]),.i .i64 0]
section
variable {x:List UInt8} {n:Int} {l:List Ep} {iss day:Int} {ids:List Int} {c:List Ch} {σ:Int→Int}
theorem CF (h:¬cn n):gw x n l iss day ids c= .inl 60:=by unfold gw;rw [if_neg h]
theorem xf (h:cn n) (h2:cN (dL x n) n l≠0):gw x n l iss day ids c= .inl (cN (dL x n) n l):=by
  unfold gw
  rw [if_pos h]
  cases hf:cv l with
  |none=>simp only;rw [pE hf]
  |some σ=>simp only;rw [if_neg h2]
theorem xg (h:cn n) (hf:cv l=some σ) (h2:cN (dL x n) n l=0) (h3:(l.length:Int)=n):gw x n l iss day ids c= .inl 2:=by
  unfold gw;rw [if_pos h,hf];simp only;rw [if_pos h2,if_pos h3]
theorem j5 (h:cn n) (hf:cv l=some σ) (h2:cN (dL x n) n l=0) (h3:¬(l.length:Int)=n) (h4:nP iss day=false∨jY l iss day=false∨cR σ (-1) c=false∨fN (aX σ c) ids=false):gw x n l iss day ids c= .inl 351:=by
  unfold gw;rw [if_pos h,hf];simp only;rw [if_pos h2,if_neg h3,if_neg]
  rcases h4 with h4|h4|h4|h4<;>simp [h4]
theorem qv (h:cn n) (hf:cv l=some σ) (h2:cN (dL x n) n l=0) (h3:¬(l.length:Int)=n) (h4:nP iss day=true) (h5:jY l iss day=true) (h6:cR σ (-1) c=true) (h7:fN (aX σ c) ids=true):gw x n l iss day ids c= .inr (eY x n.toNat l iss day ids c (aX σ c)):=by
  unfold gw;rw [if_pos h,hf];simp only;rw [if_pos h2,if_neg h3,if_pos (by simp [h4,h5,h6,h7])]
theorem Ie (h:l= []):jY l iss day=true∧iN l=zD:=by subst h;exact⟨rfl,rfl⟩
theorem Ic {e:Ep} (h:l[l.length - 1]? =some e):jY l iss day=((iss==e.iss)&&decide (day>e.day))∧iN l=cu e:=by
  have:l.getLast?=some e:=by rw [List.getLast?_eq_getElem?];exact h
  unfold jY iN;rw [this];exact⟨rfl,rfl⟩
end
theorem mu:∀ {c:List Ch} {σ:Int→Int} {la:Int},gj σ→ -1≤la→cR σ la c=true→gj (aX σ c)
  | [],_,_,h,_,_=>h
  | c :: r, σ, la, h, hla, hk => by
    simp only [cR,de,Bool.and_eq_true,decide_eq_true_eq]at hk
    obtain⟨⟨⟨⟨⟨h1,h2⟩,_⟩,_⟩,_⟩,h3⟩:=hk
    refine mu (c:=r) (la:=c.id) (fun k hk=>?_) (by omega) h3
    unfold ig at hk
    split at hk
    · omega
    · exact h k hk
theorem DK:∀ {l:List Ep} {iss:Int} {no:Nat} {day:Int} {prev:List UInt8} {σ τ:Int→Int},gj σ→dK iss no day prev σ l=some τ→gj τ
  | [],_,_,_,_,_,_,h,hf=>by cases hf;exact h
  | e :: r, iss, no, day, prev, σ, τ, h, hf => by
    rw [dK]at hf
    split at hf
    · rename_i hb
      simp only [Bool.and_eq_true]at hb
      exact DK (mu h (by omega) hb.2) hf
    · cases hf
theorem DJ {l:List Ep} {σ:Int→Int} (h:cv l=some σ):gj σ:=by rw [og]at h;exact DK DI h
theorem AW : ∀ {l : List Ep} {iss : Int} {no : Nat} {day : Int} {prev : List UInt8} {σ τ : Int → Int}, dK iss no day prev σ l = some τ → ∀ i e, l[i]? = some e → e.sg.a = ((no + i : Nat) : Int)
  | [],_,_,_,_,_,_,_,i,e,h=>by simp at h
  | e :: r, iss, no, day, prev, σ, τ, hf, i, a, h => by
    rw [dK]at hf
    split at hf
    · rename_i hb
      simp only [Bool.and_eq_true,cG,beq_iff_eq]at hb
      cases i with
      |zero=>simp at h;subst h;simpa using hb.1.1.2.1.2
      | succ i =>
        have:=AW hf i a (by simpa using h)
        rw [this];congr 1;omega
    · cases hf
theorem zr {r:List UInt8} {k:Nat} {l:List Ep} {σ:Int→Int} (hf:cv l=some σ) (h:cN r (k:Int) l=0):l.length≤k:=by
  rcases Nat.eq_zero_or_pos l.length with h0|h0
  · omega
  · obtain ⟨e, he⟩ : ∃ e, l[l.length - 1]? = some e := ⟨_, List.getElem?_eq_getElem (by omega)⟩
    have hv:dU r k (cu e) e.sg.a e.sg.S e.sg.P=true:=by
      cases hv:dU r k (cu e) e.sg.a e.sg.S e.sg.P with
      |true=>rfl
      |false=>rw [rN hf (List.mem_of_getElem? he) hv]at h;cases h
    have h1:=(Mp hv).2.1
    rw [og]at hf
    have h2:=AW hf _ e he
    unfold eU at h1
    omega
def eZ (iss no day:Int) (c:List Ch) (cas prev:List UInt8):List A:= .i .i64 iss:: .i .i64 no:: .i .i64 day::cC c::(cas.map u8++(prev.map u8++ [.i .i64 0,.nl,.nl]))
instance {iss no day:Int} {c:List Ch} {cas prev:List UInt8}:dE (eZ iss no day c cas prev):=by unfold eZ;infer_instance
theorem wU {iss no day:Int} {c:List Ch} {cas prev:List UInt8} (h1:cas.length=32) (h2:prev.length=32):(eZ iss no day c cas prev).length=71:=by simp [eZ,h1,h2]
theorem Jf {iss no day:Int} {c:List Ch} {cas prev q:List UInt8} (h1:cas.length=32) (h2:prev.length=32):(eZ iss no day c cas prev).take 36++q.map u8++(eZ iss no day c cas prev).drop 68=eZ iss no day c cas q:=by
  have e1:(eZ iss no day c cas prev).take 36= .i .i64 iss:: .i .i64 no:: .i .i64 day::cC c::cas.map u8:=by
    show _::_::_::_::((cas.map u8++_).take 32)=_
    rw [List.take_left' (by rw [List.length_map,h1])]
  have e2:(eZ iss no day c cas prev).drop 68= [.i .i64 0,.nl,.nl]:=by
    show((cas.map u8++(prev.map u8++_)).drop 64)=_
    rw [←List.append_assoc,List.drop_left' (by rw [List.length_append,List.length_map,List.length_map,h1,h2])]
  rw [e1,e2]
  simp [eZ]
theorem Cg {iss no day:Int} {c:List Ch} {cas prev q:List UInt8} (h1:cas.length=32):(eZ iss no day c cas prev).take 4++q.map u8++(eZ iss no day c cas prev).drop 36=eZ iss no day c q prev:=by
  have e2:(eZ iss no day c cas prev).drop 36=prev.map u8++ [.i .i64 0,.nl,.nl]:=by
    show((cas.map u8++_).drop 32)=_
    rw [List.drop_left' (by rw [List.length_map,h1])]
  rw [e2]
  simp [eZ]
theorem Cj {x:List UInt8} {l:List Ep} {iss day:Int} {ids:List Int} {c:List Ch} {σ:Int→Int}:iJ (eZ iss (l.length:Nat) day c (lq (jf x l.length σ ids)) (iN l)) (eP x l iss day ids c σ).cells:=by
  unfold eZ eP Ep.cells
  exact .cons (.eq rfl) (.cons (.eq rfl) (.cons (.eq rfl) (.cons (.eq rfl) (D3 (D3 (.cons (.eq rfl) (.cons .nl (.cons .nl .nil))))))))
@[simp] theorem sH (l : List Ep) : (iN l).length = 32 := by
  unfold iN
  split
  · rfl
  · simp
theorem x8:aK []:=fun y hy=>by cases hy
theorem B4 {x:List UInt8} {l:List Ep} {iss day:Int} {ids:List Int} {c:List Ch} {σ:Int→Int} (hn:l.length≤1000) (hi:rg iss) (hd:rg day) (hc:c.length≤1000) (hcr:∀e∈c,rg e.id∧rg e.st):(eP x l iss day ids c σ).ok:=
  ⟨hi,⟨by show(-9223372036854775808:Int)≤(l.length:Nat);omega,by show((l.length:Nat):Int)≤9223372036854775807;omega⟩,hd,hcr,hc,Bz _,sH _,x8,x8⟩
theorem sX {x:List UInt8} {k:Nat} {l:List Ep} {iss day:Int} {ids:List Int} {c:List Ch} {σ:Int→Int} (hn:l.length≤1000) (hi:rg iss) (hd:rg day) (hc:c.length≤1000) (hcr:∀e∈c,rg e.id∧rg e.st):(eY x k l iss day ids c σ).ok:=
  ⟨hi,⟨by show(-9223372036854775808:Int)≤(l.length:Nat);omega,by show((l.length:Nat):Int)≤9223372036854775807;omega⟩,hd,hcr,hc,Bz _,sH _,Ej _ _,nH _ _ _ (Nat.le_refl _)⟩
theorem Ci {e:Ep} {s:Lf} (h:e.ok):e.cells.take 68++ [.i .i64 s.a,bq s.S,bq s.P]++e.cells.drop 71=({e with sg:=s}:Ep).cells:=by
  have e1:e.cells.take 68= .i .i64 e.iss:: .i .i64 e.no:: .i .i64 e.day::cC e.ch::(e.cas.map u8++e.prev.map u8):=by
    show _::_::_::_::((e.cas.map u8++(e.prev.map u8++_)).take 64)=_
    rw [←List.append_assoc,List.take_left' (by rw [List.length_append,List.length_map,List.length_map,h.cas,h.prev])]
  rw [e1,List.drop_of_length_le (by rw [h.len];omega)]
  simp [Ep.cells]
theorem Az (l:List Ep) (e:Ep):cY l++e.cells=cY (l++ [e]):=by simp [cY]
theorem Av {l:List Ep} {e:Ep} (h:dB l) (he:e.ok):dB (l++ [e]):=fun x hx=>by
  rcases List.mem_append.1 hx with hx|hx
  · exact h x hx
  · rw [List.mem_singleton.1 hx];exact he
theorem Hm (a:Int):A.i .u8 (IntKind.u8.wrap (a.fdiv (2 ^ min ((24:Int).toNat) IntKind.i64.bits)))=u8 (kQ a 0):=tO a 0 (by omega)
theorem Hn (a:Int):A.i .u8 (IntKind.u8.wrap (a.fdiv (2 ^ min ((16:Int).toNat) IntKind.i64.bits)))=u8 (kQ a 1):=tO a 1 (by omega)
theorem Ho (a:Int):A.i .u8 (IntKind.u8.wrap (a.fdiv (2 ^ min ((8:Int).toNat) IntKind.i64.bits)))=u8 (kQ a 2):=tO a 2 (by omega)
theorem Hp (a:Int):A.i .u8 (IntKind.u8.wrap a)=u8 (kQ a 3):=by
  refine congrArg (A.i .u8) ?_
  unfold kQ
  rw [UInt8.toNat_ofNat']
  show a % 256=_
  omega
theorem BE (n:Nat):n=0∨0<n:=Nat.eq_zero_or_pos n
end Go.Abs.D2
-- E5R
namespace Go.Abs.D2
open Go Go.Eng Go.Abs
def jd (l : List Ep) (day : Int) : Nat → Option Nat
  |0=>none
  | j + 1 => match l[j]? with
    |some e=>if e.day≤day then some j else jd l day j
    |none=>jd l day j
@[irreducible] def k8 (l:List Ep) (day:Int):Option Nat:=jd l day l.length
theorem ry (l:List Ep) (day:Int):k8 l day=jd l day l.length:=by unfold k8;rfl
def mM:Option Nat→A
  |none=> .tu [.i .i64 0,.b false]
  |some j=> .tu [nJ j,.b true]
theorem uW {l:List Ep} {day:Int} {j:Nat} {e:Ep} (h:l[j]? =some e) (hd:e.day≤day):jd l day (j+1)=some j:=by rw [jd,h];simp only;rw [if_pos hd]
theorem uV {l:List Ep} {day:Int} {j:Nat} {e:Ep} (h:l[j]? =some e) (hd:¬e.day≤day):jd l day (j+1)=jd l day j:=by rw [jd,h];simp only;rw [if_neg hd]
end Go.Abs.D2
-- E5S
namespace Go.Abs.D2
open Go Go.Eng Go.Abs
def dr (σ:Int→Int):List Ch:=(c6 σ).map fun k=>⟨k,σ k⟩
theorem FP {σ:Int→Int} {i:Nat} {q:Int} (h:(c6 σ)[i]? =some q):eD ((dr σ).take i)++Ch.cells ⟨q,σ q⟩=eD ((dr σ).take (i+1)):=by
  have:(dr σ)[i]? =some ⟨q,σ q⟩:=by unfold dr;rw [List.getElem?_map,h];rfl
  rw [List.take_add_one,this];simp [eD]
theorem r9 {l:List Ep} (h:dB l) (k:Nat):((cY l).drop (0*71)).take (k*71)=cY (l.take k):=by
  rw [Nat.zero_mul,List.drop_zero]
  unfold cY
  induction l generalizing k with
  |nil=>simp
  | cons e l ih =>
    cases k with
    |zero=>simp
    | succ k =>
      have he:=(h e (.head _)).len
      rw [List.flatMap_cons,List.take_succ_cons,List.flatMap_cons,show(k+1)*71=e.cells.length+k*71 by rw [he];omega,List.take_append,List.take_of_length_le (by omega),Nat.add_sub_cancel_left,ih (fun x hx=>h x (.tail _ hx))]
@[irreducible] def jG (l : List Ep) (no : Int) : Int ⊕ List Ch :=
  if no< -1∨(l.length:Int)≤no then .inl 1 else match cv (l.take (no+1).toNat)with
    |none=> .inl 351
    |some σ=> .inr (dr σ)
def xl:Int ⊕ List Ch→A
  | .inl e=> .tu [.nl,.i .i64 e]
  | .inr c=> .tu [cC c,.i .i64 0]
theorem tT {l:List Ep} {no:Int} (h:no< -1∨(l.length:Int)≤no):jG l no= .inl 1:=by unfold jG;rw [if_pos h]
theorem xH {l:List Ep} {no:Int} (h:¬(no< -1∨(l.length:Int)≤no)) (hf:cv (l.take (no+1).toNat)=none):jG l no= .inl 351:=by unfold jG;rw [if_neg h,hf]
theorem qJ {l:List Ep} {no:Int} {σ:Int→Int} (h:¬(no< -1∨(l.length:Int)≤no)) (hf:cv (l.take (no+1).toNat)=some σ):jG l no= .inr (dr σ):=by unfold jG;rw [if_neg h,hf]
def ou (d0:Int) (l:List Ep):Int:=match l.getLast? with
  |none=>d0
  |some e=>e.day
def p8 (p0:List UInt8) (l:List Ep):List UInt8:=match l.getLast? with
  |none=>p0
  |some e=>cu e
theorem Ia (d0:Int) (e:Ep) (l:List Ep):ou d0 (e::l)=ou e.day l:=by
  unfold ou
  cases l with
  |nil=>rfl
  |cons a r=>simp [List.getLast?_cons]
theorem H9 (p0:List UInt8) (e:Ep) (l:List Ep):p8 p0 (e::l)=p8 (cu e) l:=by
  unfold p8
  cases l with
  |nil=>rfl
  |cons a r=>simp [List.getLast?_cons]
theorem AU:∀ {l r:List Ep} {iss:Int} {no:Nat} {day:Int} {prev:List UInt8} {σ:Int→Int},
    dK iss no day prev σ (l++r)=match dK iss no day prev σ l with
      |none=>none
      |some τ=>dK iss (no+l.length) (ou day l) (p8 prev l) τ r
  | [],r,iss,no,day,prev,σ=>rfl
  | e :: l, r, iss, no, day, prev, σ => by
    rw [List.cons_append,dK,dK]
    by_cases hb:(cG iss no day prev e&&cR σ (-1) e.ch)=true
    · rw [if_pos hb,if_pos hb,AU,Ia,H9,List.length_cons,show no+1+l.length=no+(l.length+1) by omega]
    · rw [if_neg hb,if_neg hb]
theorem HQ {l r:List Ep} (h:l≠ []):jW (l++r)=jW l:=by
  cases l with
  |nil=>exact absurd rfl h
  |cons a l=>rfl
theorem H7 (l:List Ep):iN l=p8 zD l:=rfl
theorem H8 {l:List Ep} {iss day:Int} (h:jY l iss day=true) (hl:l≠ []):∃e,l.getLast?=some e∧iss=e.iss∧e.day<day:=by
  unfold jY at h
  cases hg:l.getLast? with
  |none=>exact absurd (List.getLast?_eq_none_iff.1 hg) hl
  | some e =>
    rw [hg]at h
    simp only [Bool.and_eq_true,decide_eq_true_eq,beq_iff_eq]at h
    exact⟨e,rfl,h.1,h.2⟩
theorem AV:∀ {l:List Ep} {iss:Int} {no:Nat} {day:Int} {prev:List UInt8} {σ τ:Int→Int},dK iss no day prev σ l=some τ→∀e∈l,e.iss=iss
  | [],_,_,_,_,_,_,_,e,h=>by cases h
  | a :: r, iss, no, day, prev, σ, τ, hf, e, h => by
    rw [dK]at hf
    split at hf
    · rename_i hb
      simp only [Bool.and_eq_true,cG,beq_iff_eq]at hb
      rcases List.mem_cons.1 h with rfl|h
      · exact hb.1.1.1.1.1
      · exact AV hf e h
    · cases hf
section
variable {x:List UInt8} {n:Int} {l:List Ep} {iss day:Int} {ids:List Int} {c:List Ch} {e:Ep}
theorem J0 (h : gw x n l iss day ids c = .inr e) : cn n ∧ ∃ σ, cv l = some σ ∧ cN (dL x n) n l = 0 ∧ ¬ (l.length : Int) = n ∧ nP iss day = true ∧ jY l iss day = true ∧ cR σ (-1) c = true ∧ fN (aX σ c) ids = true ∧ e = eY x n.toNat l iss day ids c (aX σ c) := by
  by_cases h1:cn n
  · refine ⟨h1, ?_⟩
    cases hf:cv l with
    |none=>rw [xf h1 (by rw [pE hf];decide)]at h;cases h
    | some σ =>
      by_cases h2:cN (dL x n) n l=0
      · by_cases h3 : (l.length : Int) = n
        · rw [xg h1 hf h2 h3]at h;cases h
        · have key : ∀ b : Bool, b = false ∨ b = true := fun b => by cases b <;> simp
          rcases key (nP iss day)with h4|h4
          · rw [j5 h1 hf h2 h3 (.inl h4)]at h;cases h
          rcases key (jY l iss day)with h5|h5
          · rw [j5 h1 hf h2 h3 (.inr (.inl h5))]at h;cases h
          rcases key (cR σ (-1) c)with h6|h6
          · rw [j5 h1 hf h2 h3 (.inr (.inr (.inl h6)))]at h;cases h
          rcases key (fN (aX σ c) ids)with h7|h7
          · rw [j5 h1 hf h2 h3 (.inr (.inr (.inr h7)))]at h;cases h
          rw [qv h1 hf h2 h3 h4 h5 h6 h7]at h
          exact⟨σ,rfl,h2,h3,h4,h5,h6,h7,by cases h;rfl⟩
      · rw [xf h1 h2]at h;cases h
  · rw [CF h1]at h;cases h
theorem CI (h:gw x n l iss day ids c= .inr e):∃σ,cv l=some σ∧cv (l++ [e])=some (aX σ c)∧cN (dL x n) n (l++ [e])=0:=by
  obtain⟨h1,σ,hf,h2,h3,h4,h5,h6,h7,he⟩:=J0 h
  obtain⟨k,rfl,hk1,hk2⟩:=tP h1
  have hlk:=zr hf h2
  have hlt:l.length<k:=by omega
  have hem:e.iss=iss∧e.no=(l.length:Nat)∧e.day=day∧e.ch=c∧e.prev=iN l∧e.sg=⟨(l.length:Nat),iW (fD x (l.length:Nat)) (cu (eP x l iss day ids c (aX σ c))),path (dw x k) l.length⟩:=by subst he;exact⟨rfl,rfl,rfl,rfl,rfl,rfl⟩
  have hdg:cu e=cu (eP x l iss day ids c (aX σ c)):=by subst he;exact Gy _ _
  obtain⟨e1,e2,e3,e4,e5,e6⟩:=hem
  unfold nP at h4
  simp only [Bool.and_eq_true,decide_eq_true_eq]at h4
  have hform:cv (l++ [e])=some (aX σ c):=by
    rw [og]at hf ⊢
    have hi:jW (l++ [e])=if l= []then iss else jW l:=by
      split
      · rename_i h0;subst h0;exact e1
      · rename_i h0;exact HQ h0
    by_cases h0:l= []
    · subst h0
      cases hf
      rw [hi,if_pos rfl]
      show dK iss 0 (-1) zD σ0 [e]=_
      rw [dK,if_pos,dK,e4]
      rw [e4,h6,Bool.and_true]
      unfold cG
      simp only [Bool.and_eq_true,decide_eq_true_eq,beq_iff_eq]
      refine⟨⟨⟨⟨e1,?_⟩,?_⟩,⟨e2,by rw [e6];rfl⟩,e5⟩,?_,?_⟩<;>first|omega|(rw [e1];omega)|(rw [e3];omega)
    · obtain ⟨q, hq, hqi, hqd⟩ := H8 h5 h0
      rw [hi,if_neg h0,AU,hf]
      simp only
      have hY:ou (-1) l=q.day:=by unfold ou;rw [hq]
      have hql:=AV hf q (List.mem_of_getLast? hq)
      rw [dK,if_pos,dK,e4]
      rw [e4,h6,Bool.and_true]
      unfold cG
      simp only [Bool.and_eq_true,decide_eq_true_eq,beq_iff_eq]
      refine⟨⟨⟨⟨by rw [e1,hqi,hql],by rw [e1];omega⟩,by rw [e1];omega⟩,⟨by rw [e2,Nat.zero_add],by rw [e6,Nat.zero_add]⟩,by rw [e5];exact H7 l⟩,by rw [hY,e3];exact hqd,by rw [e3];omega⟩
  refine⟨σ,hf,hform,rO hform fun a ha=>?_⟩
  rcases List.mem_append.1 ha with ha|ha
  · cases hv : dU (dL x (k : Int)) k (cu a) a.sg.a a.sg.S a.sg.P with
    |true=>rfl
    |false=>rw [rN hf ha hv]at h2;cases h2
  · rw [List.mem_singleton.1 ha, e6, hdg]
    exact Mo _ h1 hlt
end
structure Sp where
  day:Int
  ch:List Ch
def Sp.cells (s:Sp):List A:= [.i .i64 s.day,cC s.ch]
def DF (l:List Sp):List A:=l.flatMap Sp.cells
instance {s:Sp}:dE s.cells:=by unfold Sp.cells;infer_instance
instance {l:List Sp}:dE (DF l):=by unfold DF;infer_instance
def Sp.ok (s:Sp):Prop:=rg s.day∧∀c∈s.ch,rg c.id∧rg c.st
end Go.Abs.D2
-- E5U
namespace Go.Abs.D2
open Go Go.Eng Go.Abs
def jE:List Ch→Int→Int
  | [],_=>0
  |c::r,id=>if c.id=id then c.st else jE r id
theorem LQ {l:List Ch} {id:Int} {i:Nat} {c:Ch} (h:l[i]? =some c) (hc:c.id=id):jE (l.drop i) id=c.st:=by
  rw [List.drop_eq_getElem_cons (List.getElem?_eq_some_iff.1 h).1,(List.getElem?_eq_some_iff.1 h).2,jE,if_pos hc]
theorem LP {l:List Ch} {id:Int} {i:Nat} {c:Ch} (h:l[i]? =some c) (hc:¬c.id=id):jE (l.drop i) id=jE (l.drop (i+1)) id:=by
  rw [List.drop_eq_getElem_cons (List.getElem?_eq_some_iff.1 h).1,(List.getElem?_eq_some_iff.1 h).2,jE,if_neg hc]
theorem bV {l:List Ch} {i:Nat} {c:Ch} (h:l[i]? =some c) {k:Nat} {v:A} (hv:c.cells[k]? =some v) (hk:k<2):(((eD l).drop (i*2)).drop k)[0]? =some v:=by
  have e1:(((eD l).drop (i*2)).take 2)[k]? =some v:=by rw [pF h];exact hv
  rw [List.getElem?_take,if_pos hk]at e1
  rw [List.getElem?_drop,Nat.add_zero];exact e1
def iV:List Ch→List Ch→Bool
  | [], []=>true
  |a::r,b::s=>(a.id==b.id&&a.st==b.st)&&iV r s
  |_,_=>false
theorem xw:∀l:List Ch,iV l l=true
  | []=>rfl
  |c::l=>by rw [iV,xw l];simp
theorem Dg:∀ {a b:List Ch},iV a b=true→a.length=b.length
  | [], [],_=>rfl
  | _ :: a, _ :: b, h => by
    rw [iV,Bool.and_eq_true]at h
    rw [List.length_cons,List.length_cons,Dg h.2]
  | [],_::_,h=>by cases h
  |_::_, [],h=>by cases h
theorem Ld {a b:List Ch} (h:a.length≠b.length):iV a b=false:=by
  cases hs:iV a b with
  |false=>rfl
  |true=>exact absurd (Dg hs) h
theorem De {a b:List Ch} {i:Nat} {c d:Ch} (h1:a[i]? =some c) (h2:b[i]? =some d):iV (a.drop i) (b.drop i)=((c.id==d.id&&c.st==d.st)&&iV (a.drop (i+1)) (b.drop (i+1))):=by
  rw [List.drop_eq_getElem_cons (List.getElem?_eq_some_iff.1 h1).1,(List.getElem?_eq_some_iff.1 h1).2,List.drop_eq_getElem_cons (List.getElem?_eq_some_iff.1 h2).1,(List.getElem?_eq_some_iff.1 h2).2,iV]
end Go.Abs.D2
-- E5W
namespace Go.Abs.D2
open Go Go.Eng Go.Abs
abbrev rR:D:= .st [.int .i64,.int .i64]
abbrev pH:D:= .st [.int .i64,.int .i64,.int .i64,.sl rR,.arr 32 (.int .u8),.arr 32 (.int .u8),.st [.int .i64,.sl (.arr 32 (.int .u8)),.sl (.arr 32 (.int .u8))]]
theorem Gl (aS:List A) (h:Den rR aS):∃c:Ch,aS=c.cells∧(rg c.id∧rg c.st):=by
  simp only [Den,jH]at h
  obtain⟨a,r,h1,⟨b,r2,h2,rfl,rfl⟩,rfl⟩:=h
  obtain⟨n,rfl,hn⟩:=ll a (by simpa only [Den]using h1)
  obtain⟨m,rfl,hm⟩:=ll b (by simpa only [Den]using h2)
  exact⟨⟨n,m⟩,rfl,hn,hm⟩
theorem Gm (aS:List A) (h:Den (.sl rR) aS):∃l:List Ch,aS= [cC l]∧l.length≤maxLen∧∀c∈l,rg c.id∧rg c.st:=by
  simp only [Den]at h
  obtain⟨ls,h1,h2,rfl⟩:=h
  obtain⟨ys,rfl,h3⟩:=pI (f:=Ch.cells) (e:=rR) Gl ls (fun x hx=>by simpa only [Den]using h1 x hx)
  exact⟨ys,by rw [List.length_map, ←List.flatMap_def];rfl,by simpa using h2,h3⟩
structure Ep.typed (e:Ep):Prop where
  iss:rg e.iss
  no:rg e.no
  day:rg e.day
  ch:∀c∈e.ch,rg c.id∧rg c.st
  cas:e.cas.length=32
  prev:e.prev.length=32
  S:aK e.sg.S
  P:aK e.sg.P
  gT:e.ch.length≤maxLen
theorem Ep.typed.ok {e:Ep} (h:e.typed) (hf:e.ch.length≤1000):e.ok:=⟨h.iss,h.no,h.day,h.ch,hf,h.cas,h.prev,h.S,h.P⟩
theorem Ep.typed.len {e:Ep} (h:e.typed):e.cells.length=71:=by simp [Ep.cells,h.cas,h.prev]
theorem Gn (aS:List A) (h:Den pH aS):∃e:Ep,aS=e.cells∧e.typed:=by
  simp only [Den,jH]at h
  obtain⟨a,_,h1,⟨b,_,h2,⟨c,_,h3,⟨d,_,h4,⟨e,_,h5,⟨f,_,h6,⟨g,_,h7,rfl,rfl⟩,rfl⟩,rfl⟩,rfl⟩,rfl⟩,rfl⟩,rfl⟩:=h
  obtain⟨n1,rfl,g1⟩:=ll a (by simpa only [Den]using h1)
  obtain⟨n2,rfl,g2⟩:=ll b (by simpa only [Den]using h2)
  obtain⟨n3,rfl,g3⟩:=ll c (by simpa only [Den]using h3)
  obtain⟨l,rfl,hl,hc⟩:=Gm d (by simpa only [Den,jH]using h4)
  obtain⟨x,rfl,hx⟩:=rS (n:=32) e (by simpa only [Den]using h5)
  obtain⟨y,rfl,hy⟩:=rS (n:=32) f (by simpa only [Den]using h6)
  obtain⟨s,rfl,h8,h9⟩:=Gp g (by simpa only [Den,jH]using h7)
  exact⟨⟨n1,n2,n3,l,x,y,s⟩,by simp [Ep.cells],g1,g2,g3,hc,hx,hy,h8,h9,hl⟩
theorem zW (aS:List A) (h:Den (.sl pH) aS):∃l:List Ep,aS= [cO l]∧l.length≤maxLen∧∀e∈l,e.typed:=by
  simp only [Den]at h
  obtain⟨ls,h1,h2,rfl⟩:=h
  obtain⟨ys,rfl,h3⟩:=pI (f:=Ep.cells) (e:=pH) Gn ls (fun x hx=>by simpa only [Den]using h1 x hx)
  exact⟨ys,by rw [List.length_map, ←List.flatMap_def];rfl,by simpa using h2,h3⟩
end Go.Abs.D2
-- E5V
namespace Go.Abs.D2
open Go Go.Eng Go.Abs
abbrev fM:List UInt8:=3::List.replicate 31 0
abbrev cA:List Ch:= [⟨5,2⟩]
abbrev cB:List Ch:= [⟨4,1⟩]
@[irreducible] def eA:Ep:=eY fM 2 [] 1 10 [4,5] cA (aX σ0 cA)
theorem pM:eA=eY fM 2 [] 1 10 [4,5] cA (aX σ0 cA):=by unfold eA;rfl
@[irreducible] def eB:Ep:=eY fM 2 [eA] 1 11 [4,5] cB (aX (aX σ0 cA) cB)
theorem rY:eB=eY fM 2 [eA] 1 11 [4,5] cB (aX (aX σ0 cA) cB):=by unfold eB;rfl
theorem rg_of {n:Int} (h0: -9223372036854775808≤n) (h1:n≤9223372036854775807):rg n:=⟨h0,h1⟩
theorem tQ:cn ((2:Nat):Int):=by decide
theorem oh:cv []=some σ0:=by rw [og];rfl
theorem zx (r:List UInt8) (n:Int):cN r n []=0:=rO oh fun e he=>by cases he
theorem CG:gw fM 2 [] 1 10 [4,5] cA= .inr eA:=by
  rw [pM]
  exact qv (n:=((2:Nat):Int)) tQ oh (zx _ _) (by decide) (by decide) rfl (by decide) (xF (by decide) (by decide+kernel))
theorem pV:cv [eA]=some (aX σ0 cA)∧cN (dL fM 2) 2 [eA]=0:=by
  obtain⟨σ,h1,h2,h3⟩:=CI CG
  rw [oh]at h1
  cases h1
  exact⟨h2,h3⟩
theorem Ib {iss day:Int}:jY [eA] iss day=((iss==1)&&decide (day>10)):=by
  have h:eA.iss=1∧eA.day=10:=by rw [pM];exact⟨rfl,rfl⟩
  show((iss==eA.iss)&&decide (day>eA.day))=_
  rw [h.1,h.2]
theorem CH:gw fM 2 [eA] 1 11 [4,5] cB= .inr eB:=by
  rw [rY]
  exact qv (n:=((2:Nat):Int)) tQ pV.1 pV.2 (by decide) (by decide) (by rw [Ib];rfl) (by decide+kernel) (xF (by decide) (by decide+kernel))
theorem sx:cv [eA,eB]=some (aX (aX σ0 cA) cB)∧cN (dL fM 2) 2 [eA,eB]=0:=by
  obtain⟨σ,h1,h2,h3⟩:=CI CH
  rw [pV.1]at h1
  cases h1
  exact⟨h2,h3⟩
theorem JY:gw fM 2 [eA] 1 11 [4,5] [⟨5,0⟩]= .inl 351:=j5 (n:=((2:Nat):Int)) tQ pV.1 pV.2 (by decide) (.inr (.inr (.inl (by decide+kernel))))
theorem JZ:gw fM 2 [eA,eB] 1 12 [4,5] []= .inl 2:=xg (n:=((2:Nat):Int)) tQ sx.1 sx.2 rfl
theorem LV:jG [eA,eB] 1= .inr [⟨4,1⟩,⟨5,2⟩]:=by
  rw [qJ (σ:=aX (aX σ0 cA) cB) (by decide) (by exact sx.1)]
  have hk:c6 (aX (aX σ0 cA) cB)= [4,5]:=by decide+kernel
  unfold dr
  rw [hk]
  rfl
theorem LW:jG [] (-1)= .inr []:=by
  rw [qJ (l:= []) (no:= -1) (σ:=σ0) (by decide) (by exact oh)]
  have hk:c6 σ0= []:=by decide+kernel
  unfold dr
  rw [hk]
  rfl
theorem LX:jG [] 0= .inl 1:=tT (by decide)
theorem EW:k8 [] 5=none:=by rw [ry];rfl
theorem EX:k8 [eA,eB] 10=some 0:=by
  have h1:eA.day=10:=by rw [pM];rfl
  have h2:eB.day=11:=by rw [rY];rfl
  rw [ry]
  show jd [eA,eB] 10 (0+1+1)=_
  rw [uV (e:=eB) rfl (by rw [h2];decide),uW (e:=eA) rfl (by rw [h1];decide)]
theorem KA {l:List Ch} (h:∀e∈l, -9223372036854775808≤e.id∧e.id≤9223372036854775807∧ -9223372036854775808≤e.st∧e.st≤9223372036854775807):∀e∈l,rg e.id∧rg e.st:=fun e he=>let ⟨a,b,c,d⟩:=h e he;⟨⟨a,b⟩,⟨c,d⟩⟩
theorem qA {a b:Int} (h: -9223372036854775808≤a∧a≤9223372036854775807∧ -9223372036854775808≤b∧b≤9223372036854775807):∀e∈([⟨a,b⟩]:List Ch),rg e.id∧rg e.st:=KA fun e he=>by rw [List.mem_singleton.1 he];exact h
theorem oC:eA.ok:=by rw [pM];exact sX (by decide) (rg_of (by decide) (by decide)) (rg_of (by decide) (by decide)) (by decide) (qA (by decide))
theorem wV:eB.ok:=by rw [rY];exact sX (by decide) (rg_of (by decide) (by decide)) (rg_of (by decide) (by decide)) (by decide) (qA (by decide))
theorem qp:dB []:=fun e he=>by cases he
theorem Cs:dB [eA]:=fun e he=>by rw [List.mem_singleton.1 he];exact oC
theorem ng:dB [eA,eB]:=fun e he=>by
  rcases List.mem_cons.1 he with rfl|he
  · exact oC
  · rw [List.mem_singleton.1 he];exact wV
theorem JV:eA.prev=zD:=by rw [pM];rfl
theorem JW:eB.prev=cu eA:=by rw [rY];rfl
theorem Ax {l:List Ep} {i:Nat} {e:Ep} (hl:dB l) (h:l[i]? =some e):(((cY l).drop (i*71)).drop 36).take 32=e.prev.map u8:=by
  have hok:=hl e (List.mem_of_getElem? h)
  have h1:((((cY l).drop (i*71)).take 71).drop 36).take 32=e.prev.map u8:=by rw [iM hl h];exact jl hok
  rw [List.drop_take,List.take_take]at h1
  exact h1
end Go.Abs.D2
-- E5X
namespace Go.Abs.D2
open Go Go.Eng Go.Abs
structure Good (x:List UInt8) (n:Int) (l:List Ep):Prop where
  form:∃τ,cv l=some τ
  zl:cN (dL x n) n l=0
  size:l≠ []→cn n
theorem DH (σ:Int→Int) (id:Int):∀l:List Int,jE (l.map fun k=>⟨k,σ k⟩) id=if id∈l then σ id else 0
  | []=>rfl
  | k :: l => by
    rw [List.map_cons,jE,DH σ id l]
    by_cases h:k=id
    · subst h;simp
    · rw [if_neg h]
      have:id∈k::l↔id∈l:=by simp [Ne.symm h]
      simp only [this]
theorem DG {σ:Int→Int} (h:gj σ) (id:Int):jE (dr σ) id=σ id:=by
  unfold dr
  rw [DH]
  split
  · rfl
  · rename_i hn
    cases Decidable.em (σ id=0)with
    |inl h0=>exact h0.symm
    |inr h0=>exact absurd ((sF h id).1 (by unfold mapOf;rw [if_neg h0];rfl)) hn
theorem vi (σ:Int→Int):(dr σ).length≤1024:=by
  have:=List.length_filter_le (fun n=>σ n !=0) ((List.range 1024).map fun k:Nat=>(k:Int))
  simpa [dr,c6]using this
theorem Fh {l:List Ep} {σ:Int→Int} (h:cv (l.take 0)=some σ): []=dr σ:=by
  rw [List.take_zero,oh]at h
  cases h
  unfold dr
  rw [show c6 σ0= [] by decide+kernel]
  rfl
theorem zh:∀ {l r:List Ch} {σ:Int→Int},aX σ (l++r)=aX (aX σ l) r
  | [],_,_=>rfl
  |c::l,r,σ=>by rw [List.cons_append,aX,aX,zh]
theorem zi {l:List Ch} {j:Nat} {c:Ch} (σ:Int→Int) (h:l[j]? =some c) (q:Int):aX σ (l.take (j+1)) q=if c.id=q then c.st else aX σ (l.take j) q:=by
  rw [List.take_add_one,h,show(some c).toList= [c]from rfl,zh]
  show ig _ _ _ q=_
  unfold ig
  by_cases h:c.id=q
  · rw [if_pos h,if_pos h.symm]
  · rw [if_neg h,if_neg (Ne.symm h)]
end Go.Abs.D2
-- E6A
namespace Go.Abs.D2
open Go Go.Eng Go.Abs
def vC (l:List Ep) (i:Nat):List UInt8:=match l[i]? with
  |some e=>cu e
  |none=>zD
theorem vD {l:List Ep} {i:Nat} {e:Ep} (h:l[i]? =some e):vC l i=cu e:=by unfold vC;rw [h]
theorem GZ {l:List Ep} {i:Nat} {e:Ep} (hl:dB l) (h:l[i]? =some e):((cY l).drop (i*71+68)).take 3= [.i .i64 e.sg.a,bq e.sg.S,bq e.sg.P]:=by
  have hok:=hl e (List.mem_of_getElem? h)
  have h1:(((cY l).drop (i*71)).take 71).drop 68= [.i .i64 e.sg.a,bq e.sg.S,bq e.sg.P]:=by rw [iM hl h];exact vR hok
  rw [List.drop_take,List.drop_drop]at h1
  exact h1
theorem Ay {l:List Ep} {i:Nat} {e:Ep} (hl:dB l) (h:l[i]? =some e):(((cY l).drop (i*71)).drop 68).take 3= [.i .i64 e.sg.a,bq e.sg.S,bq e.sg.P]:=by
  rw [List.drop_drop];exact GZ hl h
end Go.Abs.D2
-- E6P
namespace Go.Abs
open Go Go.Eng
theorem YO.wk {P:Program} {E:Ev} {st:St} {op:Op} {ty:TypeId} {v v':A} (h:YO P E st op ty v) (hw:Wk v v'):YO P E st op ty v':=fun w0 X0 n β X a w hr=>let ⟨u,h1,h2⟩:=h w0 X0 n β X a w hr;⟨u,rp hw h1,h2⟩
end Go.Abs
namespace Go.Abs.D2
open Go Go.Eng Go.Abs
theorem Gb {e:Ep} (h:e.ok):A.fz 32 (((e.cells.drop 4).drop (0*1)).take (32*1))= .fz e.cas.length (e.cas.map u8):=by rw [Nat.zero_mul,List.drop_zero,Nat.mul_one,Ar h,h.cas]
theorem Gg {e:Ep} (h:e.ok):A.fz 32 (((e.cells.drop 36).drop (0*1)).take (32*1))= .fz e.prev.length (e.prev.map u8):=by rw [Nat.zero_mul,List.drop_zero,Nat.mul_one,jl h,h.prev]
def mF (l:List Ep):Prop:=∀e∈l,e.typed
theorem Aw {l:List Ep} {i:Nat} {e:Ep} (hl:mF l) (h:l[i]? =some e):((cY l).drop (i*71)).take 71=e.cells:=by
  unfold cY
  induction l generalizing i with
  |nil=>simp at h
  | cons d l ih =>
    rw [List.flatMap_cons]
    have hd:=(hl d (.head _)).len
    cases i with
    |zero=>simp at h;subst h;rw [Nat.zero_mul,List.drop_zero,List.take_left' hd]
    |succ i=>rw [show(i+1)*71=d.cells.length+i*71 by rw [hd];omega, ←List.drop_drop,List.drop_left];exact ih (fun x hx=>hl x (.tail _ hx)) (by simpa using h)
theorem GX {l:List Ep} {i:Nat} {e:Ep} (hl:mF l) (h:l[i]? =some e):(((cY l).drop (i*71)).drop 3)[0]? =some (cC e.ch):=by
  have e1:(((cY l).drop (i*71)).take 71)[3]? =some (cC e.ch):=by rw [Aw hl h];rfl
  rw [List.getElem?_take,if_pos (by decide)]at e1
  rw [List.getElem?_drop,Nat.add_zero];exact e1
theorem GY {l:List Ep} {i:Nat} {e:Ep} (hl:mF l) (h:l[i]? =some e):(((cY l).drop (i*71)).drop 68).take 3= [.i .i64 e.sg.a,bq e.sg.S,bq e.sg.P]:=by
  have ht:=hl e (List.mem_of_getElem? h)
  have h1:(((cY l).drop (i*71)).take 71).drop 68= [.i .i64 e.sg.a,bq e.sg.S,bq e.sg.P]:=by
    rw [Aw hl h,show 68=36+32 from rfl, ←List.drop_drop]
    have:e.cells.drop 36=e.prev.map u8++ [.i .i64 e.sg.a,bq e.sg.S,bq e.sg.P]:=by
      show(e.cas.map u8++_).drop 32=_
      rw [List.drop_left' (by rw [List.length_map,ht.cas])]
    rw [this,List.drop_left' (by rw [List.length_map,ht.prev])]
  rw [List.drop_take]at h1
  exact h1
def lB (n:Int) (e:Ep):Bool:=decide (e.ch.length≤10)&&mS n e.sg.S.length e.sg.P.length
@[irreducible] def kC (n:Int) (l:List Ep) (ids:List Int) (c:List Ch):Bool:=l.all (lB n)&&(((mS n 0 0&&decide ((l.length:Int)≤6))&&decide ((ids.length:Int)≤24))&&decide ((c.length:Int)≤10))
theorem AE {n:Int} {l:List Ep} {ids:List Int} {c:List Ch} {e:Ep} (h:e∈l) (hc:lB n e=false):kC n l ids c=false:=by
  unfold kC
  rw [show l.all (lB n)=false from List.all_eq_false.2 ⟨e,h,by simp [hc]⟩];rfl
theorem G5 {n:Int} {l:List Ep} {ids:List Int} {c:List Ch} (h:∀e∈l,lB n e=true):kC n l ids c=(((mS n 0 0&&decide ((l.length:Int)≤6))&&decide ((ids.length:Int)≤24))&&decide ((c.length:Int)≤10)):=by
  unfold kC
  rw [List.all_eq_true.2 h,Bool.true_and]
theorem vV {n:Int} {l:List Ep} {ids:List Int} {c:List Ch} (h:kC n l ids c=true):(∀e∈l,e.ch.length≤10)∧(n≤10∨256<n)∧l.length≤6∧ids.length≤24∧c.length≤10:=by
  unfold kC at h
  simp only [Bool.and_eq_true,decide_eq_true_eq,List.all_eq_true,lB,mS,Bool.or_eq_true]at h
  exact⟨fun e he=>(h.1 e he).1,by have:=h.2.1.1.1.1.1;omega,by omega,by omega,by omega⟩
theorem AF {n:Int} {l:List Ep} {ids:List Int} {c:List Ch} (h:kC n l ids c=true) (hl:mF l):dB l:=fun e he=>(hl e he).ok (Nat.le_trans ((vV h).1 e he) (by decide))
end Go.Abs.D2
-- C1E
namespace Go.Abs.D2
open Go Go.Eng Go.Abs Go.Proofs
theorem Kz (k n:Int) (s:List UInt8) (l:List CV) (hl:CV.ew l<1000000) (ih:∀v∈l,aA Tryz.prog 176 [.ag v.cells] (aN (.b v.okB))):aA Tryz.prog 176 [.ag [.i .i64 k,.i .i64 n,.s s,.fz l.length (CV.bJ l)]] (aN (.b (CV.okB (.mk k n s l)))):=by
 refine enter Tryz.func176 rfl Tryz.ntmps176 (by kernel_rfl) (Nat.le_of_ble_eq_true rfl) fun w0 X0 hI=>?_
 refine af<|ai ?_
 refine ak rfl (bK 1 rfl rfl rfl ?_)
 refine s1 (aa rfl) rfl ?_
 refine ah<|ae<|af<|af ?_
 have hll:=CV.qc l
 refine ai<|s1 (aC Tryz.underlying109 rfl an (by decide) rfl rfl) rfl<|s1 (au an rfl rfl rfl) rfl ?_
 refine ah<|ae<|aM<|af<|ai<|s1 (aa rfl) rfl<|s1 (aa rfl) rfl ?_
 refine ah<|ae ?_
 refine aO rfl (fun hc6=>?_) (fun hc6=>?_)
 ·have hk1 : k = 1 := by simpa using hc6
  refine af<|ai<|s1 (aC Tryz.underlying109 rfl gJ (by decide) rfl rfl) rfl<|s1 (au gJ rfl rfl rfl) rfl<|s1 ((aa rfl).v (v':= .b s.isEmpty) (congrArg A.b (by cases s<;>rfl))) rfl<|s1 (aa rfl) rfl ?_
  refine dC 4 rfl rfl rfl rfl (fun hb11=> .step (aC Tryz.underlying109 rfl cU (by decide) rfl rfl) rfl rfl<| .step (au cU rfl rfl rfl) rfl rfl<| .step (bu Tryz.underlying107 rfl rfl rfl) rfl rfl<| .step (aa rfl) rfl rfl<| .done) rfl rfl ?_
  refine s1 (aa rfl) rfl ?_
  refine ah<|ae<|aE<|bg<|aH ?_
  refine aF (rs:= [.tmp 2]) rfl (aD rfl aB) ?_
  exact congrArg A.b (Cu hk1)
 ·have hk1 : ¬ k = 1 := by simpa using hc6
  refine af<|ai<|s1 (aa rfl) rfl<|s1 (aa rfl) rfl ?_
  refine ah<|ae ?_
  refine aO rfl (fun hc17=>?_) (fun hc17=>?_)
  ·have hk2 : k = 2 := by simpa using hc17
   refine af<|ai<|s1 (aC Tryz.underlying109 rfl an (by decide) rfl rfl) rfl<|s1 (au an rfl rfl rfl) rfl<|s1 (aa rfl) rfl<|s1 (aa rfl) rfl ?_
   refine dC 4 rfl rfl rfl rfl (fun hb22=> .step (aC Tryz.underlying109 rfl cU (by decide) rfl rfl) rfl rfl<| .step (au cU rfl rfl rfl) rfl rfl<| .step (bu Tryz.underlying107 rfl rfl rfl) rfl rfl<| .step (aa rfl) rfl rfl<| .done) rfl rfl ?_
   refine s1 (aa rfl) rfl ?_
   refine ah<|ae<|aE<|bg<|aH ?_
   refine aF (rs:= [.tmp 2]) rfl (aD rfl aB) ?_
   exact congrArg A.b (Cv hk2)
  ·have hk2 : ¬ k = 2 := by simpa using hc17
   refine af<|ai<|s1 (aa rfl) rfl<|s1 (aa rfl) rfl ?_
   refine ah<|ae ?_
   refine aO rfl (fun hc28=>?_) (fun hc28=>?_)
   ·have hk3 : k = 3 := by simpa using hc28
    refine af<|af<|ai<|s1 ((aa rfl).v (v':= .i .i64 0) rfl) rfl ?_
    refine ah<|ae<|aM ?_
    refine bF (ι:=Nat) (fun i=> [(1,.p 1 0),(3,nJ i)]) (fun i=>⟨[(1,some ([.i .i64 k,.i .i64 n,.s s,.fz l.length (CV.bJ l)]))]⟩) (fun i=>i≤l.length∧(l.take i).all CV.okB=true) (fun i=>l.length - i) ?_ ?_
    ·exact bE (0) (⟨Nat.zero_le _,rfl⟩) [(1,some 1)] hI rfl rfl ⟨⟨_,rfl,.p rfl⟩,⟨_,rfl,.pure pu⟩,trivial⟩ ⟨.inr ⟨_,_,rfl,rfl,.pure aq⟩,trivial⟩
    rintro i ⟨hi,hi2⟩
    refine af<|af<|ai<|s1 (aa rfl) rfl<|s1 (aC Tryz.underlying109 rfl cU (by decide) rfl rfl) rfl<|s1 (au cU rfl rfl rfl) rfl<|s1 (bu Tryz.underlying107 rfl rfl rfl) rfl<|s1 (aa rfl) rfl ?_
    refine ah<|ae ?_
    refine aO rfl (fun hc34=>?_) (fun hc34=>?_)
    ·have h43 : i < l.length := by have := of_decide_eq_true hc34; omega
     obtain⟨v,hv⟩:∃v,l[i]? =some v:=⟨_,List.getElem?_eq_getElem h43⟩
     have hvm:=List.mem_of_getElem? hv
     refine aL<|ae<|af<|aM<|af<|ai<|s1 (aC Tryz.underlying109 rfl cU (by decide) rfl rfl) rfl<|s1 (au cU rfl rfl rfl) rfl<|s1 (aa rfl) rfl<|s1 (aT i Tryz.underlying107 bz rfl rfl rfl (by omega) rfl) rfl<|s1 (bY bz rfl rfl (CV.get hv) (CV.len_cells v)) rfl ?_
     refine ak rfl (aI false rfl (.cons (.pure pu) (.nil)) (ih v hvm) pu (.inl rfl) rfl ?_)
     refine s1 (aa rfl) rfl ?_
     refine ah<|ae ?_
     refine aO rfl (fun hc43=>?_) (fun hc43=>?_)
     ·have h43 : v.okB = false := by simpa using hc43
      refine af<|ai<|s1 (aa rfl) rfl ?_
      refine ah<|ae<|aE<|bg<|aH<|aH<|bg<|aH<|bg<|aH ?_
      refine aF (rs:= [.tmp 2]) rfl (aD rfl aB) ?_
      exact congrArg A.b (Cw hk3 hv h43)
     ·have h43 : v.okB = true := by simpa using hc43
      refine aL<|bh<|ae<|ai<|s1 (aa rfl) rfl<|s1 (bc _ 1 rfl rfl rfl rfl (by omega)) rfl<|s1 (aa rfl) rfl ?_
      refine ah ?_
      exact br (i+1) (⟨by omega,yy hv hi2 h43⟩) (by omega) [(1,some 1)] hI rfl rfl ⟨⟨_,rfl,.p rfl⟩,⟨_,rfl,.pure pu⟩,trivial⟩ ⟨.inr ⟨_,_,rfl,rfl,.pure aq⟩,trivial⟩
    ·obtain rfl : i = l.length := by have := of_decide_eq_false hc34; omega
     refine bC<|aP<|aP<|bD<|ae<|af<|ai<|s1 (aC Tryz.underlying109 rfl an (by decide) rfl rfl) rfl<|s1 (au an rfl rfl rfl) rfl<|s1 (aa rfl) rfl<|s1 (aa rfl) rfl ?_
     refine dC 3 rfl rfl rfl rfl (fun hb47=> .step (aC Tryz.underlying109 rfl gJ (by decide) rfl rfl) rfl rfl<| .step (au gJ rfl rfl rfl) rfl rfl<| .step ((aa rfl).v (v':= .b s.isEmpty) (congrArg A.b (by cases s<;>rfl))) rfl rfl<| .done) rfl rfl ?_
     refine s1 (aa rfl) rfl ?_
     refine ah<|ae<|aE<|bg<|aH ?_
     refine aF (rs:= [.tmp 2]) rfl (aD rfl aB) ?_
     exact congrArg A.b (Jp hk3 hi2)
   ·have hk3 : ¬ k = 3 := by simpa using hc28
    refine aL<|bh<|ae<|af<|ai<|s1 (aa rfl) rfl ?_
    refine ah<|ae<|aE ?_
    refine aF (rs:= [.tmp 2]) rfl (aD rfl aB) ?_
    exact congrArg A.b (Ct hk1 hk2 hk3)
theorem Ky (v:CV) (h:v.size≤1000000):aA Tryz.prog 176 [.ag v.cells] (aN (.b v.okB)):=CV.oK (p:=fun v=>aA Tryz.prog 176 [.ag v.cells] (aN (.b v.okB))) 1000000 (fun k n s l hl ih=>Kz k n s l hl ih) v h
theorem Ki (k n:Int) (s:List UInt8) (l:List CV) (hl:CV.ew l<1000000) (ih:∀v∈l,aA Tryz.prog 177 [.ag v.cells] (aN (nJ v.depth))):aA Tryz.prog 177 [.ag [.i .i64 k,.i .i64 n,.s s,.fz l.length (CV.bJ l)]] (aN (nJ (CV.depth (.mk k n s l)))):=by
 refine enter Tryz.func177 rfl Tryz.ntmps177 (by kernel_rfl) (Nat.le_of_ble_eq_true rfl) fun w0 X0 hI=>?_
 refine af<|ai ?_
 refine ak rfl (bK 1 rfl rfl rfl ?_)
 refine s1 ((aa rfl).v (v':= .i .i64 0) rfl) rfl ?_
 refine ah<|ae<|af<|af ?_
 have hll:=CV.qc l
 have hdl:=CV.vB l
 refine ai<|s1 (aC Tryz.underlying109 rfl an (by decide) rfl rfl) rfl<|s1 (au an rfl rfl rfl) rfl<|s1 (aa rfl) rfl ?_
 refine ah<|ae ?_
 refine aO rfl (fun hc7=>?_) (fun hc7=>?_)
 ·have hk3 : ¬ k = 3 := by simpa using hc7
  refine af<|ai<|s1 ((aa rfl).v (v':= .i .i64 0) rfl) rfl ?_
  refine ah<|ae<|aE<|aH ?_
  refine aF (rs:= [.tmp 2]) rfl (aD rfl aB) ?_
  exact congrArg nJ (show 0=CV.depth (.mk k n s l) by rw [CV.depth,if_neg hk3])
 ·have hk3 : k = 3 := by simpa using hc7
  refine aL<|ae<|af<|ai<|s1 ((aa rfl).v (v':= .i .i64 0) rfl) rfl ?_
  refine ah<|ae<|af<|af<|ai<|s1 ((aa rfl).v (v':= .i .i64 0) rfl) rfl ?_
  refine ah<|ae<|aM ?_
  refine bF (ι:=Nat) (fun i=> [(1,.p 1 0),(3,nJ (CV.ek (l.take i))),(4,nJ i)]) (fun i=>⟨[(1,some ([.i .i64 k,.i .i64 n,.s s,.fz l.length (CV.bJ l)]))]⟩) (fun i=>i≤l.length) (fun i=>l.length - i) ?_ ?_
  ·exact bE (0) (Nat.zero_le _) [(1,some 1)] hI rfl rfl ⟨⟨_,rfl,.p rfl⟩,⟨_,rfl,.pure pu⟩,⟨_,rfl,.pure pu⟩,trivial⟩ ⟨.inr ⟨_,_,rfl,rfl,.pure aq⟩,trivial⟩
  rintro i hi
  refine af<|af<|ai<|s1 (aa rfl) rfl<|s1 (aC Tryz.underlying109 rfl cU (by decide) rfl rfl) rfl<|s1 (au cU rfl rfl rfl) rfl<|s1 (bu Tryz.underlying107 rfl rfl rfl) rfl<|s1 (aa rfl) rfl ?_
  refine ah<|ae ?_
  refine aO rfl (fun hc12=>?_) (fun hc12=>?_)
  ·have h43 : i < l.length := by have := of_decide_eq_true hc12; omega
   obtain⟨v,hv⟩:∃v,l[i]? =some v:=⟨_,List.getElem?_eq_getElem h43⟩
   have hvm:=List.mem_of_getElem? hv
   refine aL<|ae<|af<|aM<|ai<|s1 (aa rfl) rfl<|s1 (aC Tryz.underlying109 rfl cU (by decide) rfl rfl) rfl<|s1 (au cU rfl rfl rfl) rfl<|s1 (aa rfl) rfl<|s1 (aT i Tryz.underlying107 bz rfl rfl rfl (by omega) rfl) rfl<|s1 (bY bz rfl rfl (CV.get hv) (CV.len_cells v)) rfl ?_
   refine ak rfl (aI false rfl (.cons (.pure pu) (.nil)) (ih v hvm) pu (.inl rfl) rfl ?_)
   refine s1 ((x6 (a:=CV.ek (l.take i)) (b:=v.depth) rfl rfl rfl).v (v':=nJ (CV.ek (l.take (i+1)))) (congrArg nJ (CV.zY hv))) rfl<|s1 (aa rfl) rfl ?_
   refine ah<|bh<|ae<|ai<|s1 (aa rfl) rfl<|s1 (bc _ 1 rfl rfl rfl rfl (by omega)) rfl<|s1 (aa rfl) rfl ?_
   refine ah ?_
   exact br (i+1) (by omega) (by omega) [(1,some 1)] hI rfl rfl ⟨⟨_,rfl,.p rfl⟩,⟨_,rfl,.pure pu⟩,⟨_,rfl,.pure pu⟩,trivial⟩ ⟨.inr ⟨_,_,rfl,rfl,.pure aq⟩,trivial⟩
  ·obtain rfl : i = l.length := by have := of_decide_eq_false hc12; omega
   refine bC<|aP<|aP<|bD<|ae<|af<|ai<|s1 ((aa rfl).v (v':=nJ (CV.ek l)) (by rw [List.take_length])) rfl<|s1 (bc _ 1 rfl rfl rfl rfl (by omega)) rfl<|s1 (aa rfl) rfl ?_
   refine ah<|ae<|aE ?_
   refine aF (rs:= [.tmp 2]) rfl (aD rfl aB) ?_
   exact congrArg nJ (show CV.ek l+1=CV.depth (.mk k n s l) by rw [CV.depth,if_pos hk3])
theorem Kh (v:CV) (h:v.size≤1000000):aA Tryz.prog 177 [.ag v.cells] (aN (nJ v.depth)):=CV.oK (p:=fun v=>aA Tryz.prog 177 [.ag v.cells] (aN (nJ v.depth))) 1000000 (fun k n s l hl ih=>Ki k n s l hl ih) v h
theorem J9 (v:CV) (h:v.size≤1000000):aA Tryz.prog 125 [.ag v.cells] (aN (.i .i64 (fk v))):=by
 refine enter Tryz.func125 rfl Tryz.ntmps125 (by kernel_rfl) (Nat.le_of_ble_eq_true rfl) fun w0 X0 hI=>?_
 refine af<|ai ?_
 refine ak rfl (bK 1 rfl rfl rfl ?_)
 refine s1 ((aa rfl).v (v':= .i .i64 0) rfl) rfl ?_
 refine ah<|ae<|af<|af<|ai<|s1 (aV bz rfl rfl (CV.len_cells v)) rfl ?_
 refine ak rfl (aI false rfl (.cons (.pure pu) (.nil)) (Ky v h) pu (.inl rfl) rfl ?_)
 refine s1 (aa rfl) rfl ?_
 refine ah<|ae ?_
 refine aO rfl (fun hc5=>?_) (fun hc5=>?_)
 ·have h5 : v.okB = false := by simpa using hc5
  refine af<|ai<|s1 ((aa rfl).v (v':= .i .i64 1) rfl) rfl ?_
  refine ah<|ae<|aE<|aH ?_
  refine aF (rs:= [.tmp 2]) rfl (aD rfl aB) ?_
  exact congrArg (A.i .i64) (zt h5).symm
 ·have h5 : v.okB = true := by simpa using hc5
  refine aL<|ae<|af<|af<|ai<|s1 (aV bz rfl rfl (CV.len_cells v)) rfl ?_
  refine ak rfl (aI false rfl (.cons (.pure pu) (.nil)) (Kh v h) pu (.inl rfl) rfl ?_)
  refine s1 (aa rfl) rfl ?_
  refine ah<|ae ?_
  refine aO rfl (fun hc8=>?_) (fun hc8=>?_)
  ·have h8 : 16 < v.depth := by have := of_decide_eq_true hc8; omega
   refine af<|ai<|s1 ((aa rfl).v (v':= .i .i64 2) rfl) rfl ?_
   refine ah<|ae<|aE<|aH ?_
   refine aF (rs:= [.tmp 2]) rfl (aD rfl aB) ?_
   exact congrArg (A.i .i64) (zu h5 h8).symm
  ·have h8 : ¬ 16 < v.depth := by have := of_decide_eq_false hc8; omega
   refine aL<|ae<|af<|ai<|s1 ((aa rfl).v (v':= .i .i64 0) rfl) rfl ?_
   refine ah<|ae<|aE ?_
   refine aF (rs:= [.tmp 2]) rfl (aD rfl aB) ?_
   exact congrArg (A.i .i64) (vj h5 h8).symm
theorem Lc (n:Int) (h0: -9223372036854775808≤n) (h1:n≤9223372036854775807):aA Tryz.prog 179 [.i .i64 n] (aN (a7 (ba (eS n)))):=by
 refine enter Tryz.func179 rfl Tryz.ntmps179 (by kernel_rfl) (Nat.le_of_ble_eq_true rfl) fun w0 X0 hI=>?_
 refine af<|ai<|s1 ((aa rfl).v (v':= .i .u64 0) rfl) rfl ?_
 refine ah<|ae<|af<|af<|ai<|s1 (aa rfl) rfl<|s1 (aa rfl) rfl ?_
 refine ah<|ae ?_
 refine aO rfl (fun hc4=>?_) (fun hc4=>?_)
 ·have h4 : 0 ≤ n := by have := of_decide_eq_true hc4; omega
  refine af<|ai<|s1 (aa rfl) rfl<|s1 ((cV Tryz.underlying3 Tryz.underlying198 rfl).v (v':=a7 (BitVec.ofInt 64 (n))) (congrArg (A.i .u64) (xT _))) rfl<|s1 ((qg (ba 2) _ rfl rfl).v (v':=a7 (ba (eS n))) (congrArg a7 (Mf h4 h1))) rfl<|s1 (aa rfl) rfl ?_
  refine ah<|ae<|aE<|aH ?_
  refine aF (rs:= [.tmp 2]) rfl (aD rfl (aB)) rfl
 ·have h4 : ¬ 0 ≤ n := by have := of_decide_eq_false hc4; omega
  refine aL<|ae<|af<|ai<|s1 (aa rfl) rfl<|s1 (mL rfl rfl (by omega) (by omega)) rfl<|s1 ((MQ rfl).v (v':= .i .i64 (-(n+1))) (congrArg (A.i .i64) (IY h0 h4))) rfl<|s1 ((cV Tryz.underlying3 Tryz.underlying198 rfl).v (v':=a7 (BitVec.ofInt 64 (-(n+1)))) (congrArg (A.i .u64) (xT _))) rfl<|s1 (qg (ba 2) _ rfl rfl) rfl<|s1 ((uN _ (ba 1) rfl rfl).v (v':=a7 (ba (eS n))) (congrArg a7 (Me h0 h4))) rfl<|s1 (aa rfl) rfl ?_
  refine ah<|ae<|aE ?_
  refine aF (rs:= [.tmp 2]) rfl (aD rfl (aB)) rfl
theorem C3 (u:BitVec 64) (ih:128≤u.toNat→aA Tryz.prog 178 [a7 (u / ba 128)] (dq 1 (bG (u.toNat / 128)).length ((bG (u.toNat / 128)).map u8))):aA Tryz.prog 178 [a7 u] (dq 1 (bG u.toNat).length ((bG u.toNat).map u8)):=by
 refine enter Tryz.func178 rfl Tryz.ntmps178 (by kernel_rfl) (Nat.le_of_ble_eq_true rfl) fun w0 X0 hI=>?_
 refine af<|ai<|s1 (aa rfl) rfl ?_
 refine ah<|ae<|af<|af<|ai<|s1 (aa rfl) rfl<|s1 ((aa rfl).v (v':= .b (decide (u.toNat<128))) (congrArg A.b (decide_eq_decide.2 (by omega)))) rfl ?_
 refine ah<|ae ?_
 refine aO rfl (fun hc4=>?_) (fun hc4=>?_)
 ·have h4 : u.toNat < 128 := of_decide_eq_true hc4
  refine af<|ai<|s1 (aa rfl) rfl<|s1 (ie _ Tryz.underlying198 Tryz.underlying5 rfl) rfl ?_
  refine ak rfl (dG 7 rfl Tryz.underlying68 aQ rfl rfl rfl rfl rfl ?_)
  refine s1 (aa rfl) rfl ?_
  refine ah<|ae<|aE<|aH ?_
  rw [qn h4]
  refine aF (rs:= [.tmp 2]) rfl (aD rfl aB) ⟨7,rfl,rfl⟩
 ·have h4 : ¬ u.toNat < 128 := of_decide_eq_false hc4
  have hnl:=qb (u:=u.toNat / 128) (by omega)
  refine aL<|ae<|af<|ai<|s1 (aa rfl) rfl<|s1 (Ko _ (ba 128) rfl rfl (by decide)) rfl<|s1 (uN _ (ba 128) rfl rfl) rfl<|s1 ((ie _ Tryz.underlying198 Tryz.underlying5 rfl).v (v':=u8 (UInt8.ofNat (u.toNat % 128+128))) (congrArg u8 (Jd u))) rfl ?_
  refine ak rfl (dG 12 rfl Tryz.underlying68 aQ rfl rfl rfl rfl rfl ?_)
  refine s1 (aa rfl) rfl<|s1 (J7 _ (ba 128) rfl rfl (by decide)) rfl ?_
  refine ak rfl (iP 15 rfl false rfl (.cons (.pure pu) (.nil)) (ih (by omega)) aq (.inl rfl) rfl ?_)
  refine ak rfl (cT 16 rfl Tryz.underlying68 aQ rfl (.sl rfl rfl) rfl (cE rfl (by first|rfl|omega|(simp<;>omega)|(simp [*]<;>omega))) (by simp) (by simp only [maxLen];omega) (by omega) rfl (show [u8 (UInt8.ofNat (u.toNat % 128+128))]++(bG (u.toNat / 128)).map u8=(bG u.toNat).map u8 by rw [qm h4];rfl) rfl ?_)
  refine s1 (aa rfl) rfl ?_
  refine ah<|ae<|aE ?_
  have hlb:1+(bG (u.toNat / 128)).length=(bG u.toNat).length:=by rw [qm h4,List.length_cons,Nat.add_comm]
  refine aF (rs:= [.tmp 2]) rfl (aD rfl aB) ⟨16,?_,rfl⟩
  rw [←hlb];rfl
theorem KH (u:BitVec 64):aA Tryz.prog 178 [a7 u] (dq 1 (bG u.toNat).length ((bG u.toNat).map u8)):=by
  have key:∀(q:Nat) (u:BitVec 64),u.toNat≤q→aA Tryz.prog 178 [a7 u] (dq 1 (bG u.toNat).length ((bG u.toNat).map u8)):=by
    intro q
    induction q with
    |zero=>intro u hu;exact C3 u fun h=>absurd h (by omega)
    |succ q ih=>intro u hu;exact C3 u fun h=>by have:=ih (u / ba 128) (by rw [Cf];omega);rw [Cf]at this;exact this
  exact key u.toNat u (Nat.le_refl _)
theorem xm (R:List UInt8) (u:BitVec 64) (h:bG u.toNat=R):aA Tryz.prog 178 [a7 u] (dq 1 R.length (R.map u8)):=by subst h;exact KH u
end Go.Abs.D2
-- C1F
namespace Go.Abs.D2
open Go Go.Eng Go.Abs Go.Proofs
theorem Kv (k n:Int) (s:List UInt8) (l:List CV) (hk:k=1∨k=2∨(k=3∧CV.jw l=true)) (hrg:(CV.mk k n s l).eR=true) (R:List UInt8) (hR:(CV.mk k n s l).enc=R) (hl:R.length≤100000000) (ih:∀v∈l,v.okB=true→v.eR=true→v.enc.length≤100000000→aA Tryz.prog 126 [.ag v.cells] (dq 1 v.enc.length (v.enc.map u8))):aA Tryz.prog 126 [.ag [.i .i64 k,.i .i64 n,.s s,.fz l.length (CV.bJ l)]] (dq 1 R.length (R.map u8)):=by
 refine enter Tryz.func126 rfl Tryz.ntmps126 (by kernel_rfl) (Nat.le_of_ble_eq_true rfl) fun w0 X0 hI=>?_
 refine af<|ai ?_
 refine ak rfl (bK 1 rfl rfl rfl ?_)
 refine s1 (aa rfl) rfl ?_
 refine ah<|ae<|af<|af ?_
 rcases hk with hcs|hcs|hcs
 ·subst hcs
  simp only [CV.eR,Bool.and_eq_true,decide_eq_true_eq]at hrg
  have hR1:1::bG (eS n)=R:=by rw [←hR];rfl
  have hR1l:R.length=(bG (eS n)).length+1:=by rw [←hR1];rfl
  have hnl:=qb (ny hrg.1.1 hrg.1.2)
  refine ai<|s1 (aC Tryz.underlying109 rfl an (by decide) rfl rfl) rfl<|s1 (au an rfl rfl rfl) rfl ?_
  refine ah<|ae<|aM<|af<|ai<|s1 (aa rfl) rfl<|s1 ((aa rfl).v (v':= .b true) (rfl)) rfl ?_
  refine ah<|ae ?_
  refine bR rfl ?_
  refine af<|ai ?_
  refine ak rfl (dG 9 rfl Tryz.underlying68 aQ rfl rfl rfl rfl rfl ?_)
  refine s1 (aC Tryz.underlying109 rfl an (by decide) rfl rfl) rfl<|s1 (au an rfl rfl rfl) rfl ?_
  refine ak rfl (aI false rfl (.cons (.pure pu) (.nil)) (Lc n hrg.1.1 hrg.1.2) pu (.inl rfl) rfl ?_)
  refine ak rfl (iP 13 rfl false rfl (.cons (.pure pu) (.nil)) (xm (bG (eS n)) _ (by rw [iL (ny hrg.1.1 hrg.1.2)])) aq (.inl rfl) rfl ?_)
  refine ak rfl (cT 14 rfl Tryz.underlying68 aQ rfl (.sl rfl (by simp)) rfl (cE rfl (by first|rfl|omega|(simp<;>omega)|(simp [*]<;>omega))) (by simp) (by simp only [maxLen];omega) (by omega) rfl (show [u8 1]++(bG (eS n)).map u8=R.map u8 by rw [←hR1];rfl) rfl ?_)
  refine s1 (aa rfl) rfl ?_
  refine ah<|ae<|aE<|bg<|aH ?_
  refine aF (rs:= [.tmp 2]) rfl (aD rfl aB) ⟨14,?_,rfl⟩
  rw [hR1l,Nat.add_comm];rfl
 ·subst hcs
  have hR2:2::(bG s.length++s)=R:=by rw [←hR];rfl
  have hR2l:R.length=1+(bG s.length).length+s.length:=by rw [←hR2];simp;omega
  refine ai<|s1 (aC Tryz.underlying109 rfl an (by decide) rfl rfl) rfl<|s1 (au an rfl rfl rfl) rfl ?_
  refine ah<|ae<|aM<|af<|ai<|s1 (aa rfl) rfl<|s1 ((aa rfl).v (v':= .b false) (rfl)) rfl ?_
  refine ah<|ae ?_
  refine cF rfl ?_
  refine af<|ai<|s1 (aa rfl) rfl<|s1 ((aa rfl).v (v':= .b true) (rfl)) rfl ?_
  refine ah<|ae ?_
  refine bR rfl ?_
  refine af ?_
  refine bP ⟨_, [], []⟩ 10 4 bx (le_refl rfl) ?_
  refine pW 17 0 [] aW Tryz.underlying68 aQ rfl rfl rfl rfl rfl rfl<|aj 1 [] [(1,none)] (aC Tryz.underlying109 rfl gJ (by decide) rfl rfl) rfl rfl<|aj 2 [1] [(1,none)] (au gJ rfl rfl rfl) rfl rfl<|aj 3 [2] [] (uo Tryz.underlying9 rfl rfl) rfl rfl<|aj 4 [3] [] (m9 _ Tryz.underlying3 Tryz.underlying198 rfl rfl) rfl rfl<|mT 22 false 5 [4] [] aW rfl (.cons (.pure pu) (.nil)) (xm (bG s.length) _ (by rw [iL (by omega)])) aq (.inl rfl) rfl rfl<|fV 23 6 [0,5] [(17,some 0),(22,some 5)] aW Tryz.underlying68 aQ rfl (.sl rfl (by simp)) rfl (cE rfl (by first|rfl|omega|(simp<;>omega)|(simp [*]<;>omega))) (by simp) (by simp only [maxLen];omega) (by omega) rfl (show [u8 2]++(bG s.length).map u8=(2::bG s.length).map u8 from rfl) rfl rfl<|aj 7 [] [(1,none)] (aC Tryz.underlying109 rfl gJ (by decide) rfl rfl) rfl rfl<|aj 8 [7] [(1,none)] (au gJ rfl rfl rfl) rfl rfl<|AY 26 9 [6,8] [(23,some 6)] aW Tryz.underlying68 Tryz.underlying9 aQ rfl rfl (by simp;omega) (by omega) rfl (by simp only [maxLen];omega) (by omega) (show(2::bG s.length).map u8++s.map u8=R.map u8 by rw [←hR2];simp) rfl rfl ?_
  refine bQ (by kernel_rfl) ?_
  refine s1 (aa rfl) rfl ?_
  refine ah<|ae<|aE<|bg<|aH ?_
  refine aF (rs:= [.tmp 2]) rfl (aD rfl aB) ⟨26,?_,rfl⟩
  rw [hR2l];rfl
 ·obtain ⟨rfl, hok⟩ := hcs
  simp only [CV.eR,Bool.and_eq_true,decide_eq_true_eq]at hrg
  have hR3:3::(bG l.length++CV.cc l)=R:=by rw [←hR];rfl
  have hRl:R.length=1+(bG l.length).length+(CV.cc l).length:=by rw [←hR3];simp;omega
  have hnl:=CV.wH l
  rw [CV.na]at hok
  have hrl:=hrg.2
  rw [CV.tL]at hrl
  refine ai<|s1 (aC Tryz.underlying109 rfl an (by decide) rfl rfl) rfl<|s1 (au an rfl rfl rfl) rfl ?_
  refine ah<|ae<|aM<|af<|ai<|s1 (aa rfl) rfl<|s1 ((aa rfl).v (v':= .b false) (rfl)) rfl ?_
  refine ah<|ae ?_
  refine cF rfl ?_
  refine af<|ai<|s1 (aa rfl) rfl<|s1 ((aa rfl).v (v':= .b false) (rfl)) rfl ?_
  refine ah<|ae ?_
  refine cF rfl ?_
  refine aL<|bh<|ae<|af<|ai ?_
  refine ak rfl (dG 27 rfl Tryz.underlying68 aQ rfl rfl rfl rfl rfl ?_)
  refine s1 (aC Tryz.underlying109 rfl cU (by decide) rfl rfl) rfl<|s1 (au cU rfl rfl rfl) rfl<|s1 (bu Tryz.underlying107 rfl rfl rfl) rfl<|s1 (m9 _ Tryz.underlying3 Tryz.underlying198 rfl rfl) rfl ?_
  refine ak rfl (iP 32 rfl false rfl (.cons (.pure pu) (.nil)) (xm (bG l.length) _ (by rw [iL (by omega)])) aq (.inl rfl) rfl ?_)
  refine ak rfl (cT 33 rfl Tryz.underlying68 aQ rfl (.sl rfl (by simp)) rfl (cE rfl (by first|rfl|omega|(simp<;>omega)|(simp [*]<;>omega))) (by simp) (by simp only [maxLen];omega) (by omega) rfl (show [u8 3]++(bG l.length).map u8=(3::(bG l.length++CV.cc (l.take 0))).map u8 by simp [CV.cc]) rfl ?_)
  refine s1 (aa rfl) rfl ?_
  refine ah<|ae<|af<|af<|ai<|s1 ((aa rfl).v (v':= .i .i64 0) rfl) rfl ?_
  refine ah<|ae<|aM ?_
  refine bF (ι:=Nat) (fun i=> [(1,.p 1 0),(3,.sl 140 1 0 (1+(bG l.length).length+(CV.cc (l.take i)).length)),(4,nJ i)]) (fun i=>⟨[(1,some ([.i .i64 3,.i .i64 n,.s s,.fz l.length (CV.bJ l)])),(140,some ((3::(bG l.length++CV.cc (l.take i))).map u8))]⟩) (fun i=>i≤l.length) (fun i=>l.length - i) ?_ ?_
  ·exact bE (0) (Nat.zero_le _) [(1,some 1),(140,some 33)] hI rfl rfl ⟨⟨_,rfl,.p rfl⟩,⟨_,rfl,.sl rfl (by first|rfl|omega|(simp<;>omega)|(simp [*]<;>omega))⟩,⟨_,rfl,.pure pu⟩,trivial⟩ ⟨.inr ⟨_,_,rfl,rfl,.pure aq⟩,.inr ⟨_,_,rfl,rfl,.pure aq⟩,trivial⟩
  rintro i hi
  have hli:=CV.rZ l i
  have hli2:=CV.rZ l (i+1)
  have hCl:(3::(bG l.length++CV.cc (l.take i))).length=1+(bG l.length).length+(CV.cc (l.take i)).length:=by simp;omega
  refine af<|af<|ai<|s1 (aa rfl) rfl<|s1 (aC Tryz.underlying109 rfl cU (by decide) rfl rfl) rfl<|s1 (au cU rfl rfl rfl) rfl<|s1 (bu Tryz.underlying107 rfl rfl rfl) rfl<|s1 (aa rfl) rfl ?_
  refine ah<|ae ?_
  refine aO rfl (fun hc38=>?_) (fun hc38=>?_)
  ·have h38 : i < l.length := by have := of_decide_eq_true hc38; omega
   obtain⟨v,hv⟩:∃v,l[i]? =some v:=⟨_,List.getElem?_eq_getElem h38⟩
   have hvm:=List.mem_of_getElem? hv
   have hvo:=List.all_eq_true.1 hok _ hvm
   have hvr:=List.all_eq_true.1 hrl _ hvm
   have hvl:(CV.cc (l.take i)).length+v.enc.length=(CV.cc (l.take (i+1))).length:=by rw [←CV.pO hv,List.length_append]
   refine aL<|ae<|af<|aM<|ai<|s1 (aa rfl) rfl<|s1 (aC Tryz.underlying109 rfl cU (by decide) rfl rfl) rfl<|s1 (au cU rfl rfl rfl) rfl<|s1 (aa rfl) rfl<|s1 (aT i Tryz.underlying107 bz rfl rfl rfl (by omega) rfl) rfl<|s1 (bY bz rfl rfl (CV.get hv) (CV.len_cells v)) rfl ?_
   refine ak rfl (iP 47 rfl false rfl (.cons (.pure pu) (.nil)) (ih v hvm hvo hvr (by omega)) aq (.inl rfl) rfl ?_)
   refine ak rfl (cT 48 rfl Tryz.underlying68 aQ rfl (.sl rfl (by rw [List.length_map,hCl];omega)) rfl (cE rfl (by first|rfl|omega|(simp<;>omega)|(simp [*]<;>omega))) (by simp) (by simp only [maxLen];omega) (by omega) rfl (show(3::(bG l.length++CV.cc (l.take i))).map u8++v.enc.map u8=(3::(bG l.length++CV.cc (l.take (i+1)))).map u8 by rw [←CV.pO hv];simp) rfl ?_)
   refine s1 (aa rfl) rfl ?_
   refine ah<|bh<|ae<|ai<|s1 (aa rfl) rfl<|s1 (bc _ 1 rfl rfl rfl rfl (by omega)) rfl<|s1 (aa rfl) rfl ?_
   refine ah ?_
   exact br (i+1) (by omega) (by omega) [(1,some 1),(140,some 48)] hI rfl rfl ⟨⟨_,rfl,.p rfl⟩,⟨_,rfl,.sl rfl (by first|rfl|omega|(simp<;>omega)|(simp [*]<;>omega))⟩,⟨_,rfl,.pure pu⟩,trivial⟩ ⟨.inr ⟨_,_,rfl,rfl,.pure aq⟩,.inr ⟨_,_,rfl,rfl,.pure aq⟩,trivial⟩
  ·obtain rfl : i = l.length := by have := of_decide_eq_false hc38; omega
   refine bC<|aP<|aP<|bD<|ae<|af<|ai<|s1 (aa rfl) rfl<|s1 (aa rfl) rfl ?_
   refine ah<|ae<|aE ?_
   refine cX 140 (cs':=R.map u8) rfl (by rw [List.take_length,hR3]) ?_
   refine aF (rs:= [.tmp 2]) rfl (aD rfl aB) ⟨140,?_,rfl⟩
   rw [hRl,List.take_length];rfl
theorem Ku (v:CV) (ho:v.okB=true) (hr:v.eR=true) (hl:v.enc.length≤100000000):aA Tryz.prog 126 [.ag v.cells] (dq 1 v.enc.length (v.enc.map u8)):=by
 have key:∀u:CV,u.size≤v.size→u.okB=true→u.eR=true→u.enc.length≤100000000→aA Tryz.prog 126 [.ag u.cells] (dq 1 u.enc.length (u.enc.map u8)):=by
  refine CV.oK _ fun k n s l _ ih=>?_
  intro h1 h2 h3
  exact Kv k n s l (s8 h1) h2 _ rfl h3 ih
 exact key v (Nat.le_refl _) ho hr hl
theorem Kt (v:CV) (hs:v.size≤1000000) (hrg:v.eR=true) (hl:v.enc.length≤100000000):aA Tryz.prog 83 [.ag v.cells] (aN (encA v)):=by
 refine enter Tryz.func83 rfl Tryz.ntmps83 (by kernel_rfl) (Nat.le_of_ble_eq_true rfl) fun w0 X0 hI=>?_
 refine af<|ai ?_
 refine ak rfl (bK 1 rfl rfl rfl ?_)
 refine s1 (aa rfl) rfl<|s1 ((aa rfl).v (v':= .i .i64 0) rfl) rfl ?_
 refine ah<|ae<|af<|ai<|s1 (aV bz rfl rfl (CV.len_cells v)) rfl ?_
 refine ak rfl (aI false rfl (.cons (.pure pu) (.nil)) (J9 v hs) pu (.inl rfl) rfl ?_)
 refine s1 (aa rfl) rfl ?_
 refine ah<|ae<|af<|af<|ai<|s1 (aa rfl) rfl<|s1 (aa rfl) rfl ?_
 refine ah<|ae ?_
 refine aO rfl (fun hc8=>?_) (fun hc8=>?_)
 ·have h9 : fk v ≠ 0 := by simpa using hc8
  refine af<|ai<|s1 (aa rfl) rfl<|s1 (aa rfl) rfl<|s1 (aa rfl) rfl ?_
  refine ah<|ae<|aE<|aH ?_
  refine aF (rs:= [.tmp 2,.tmp 3]) rfl (aD rfl (aD rfl aB)) ?_
  exact(Al h9).symm
 ·have h9 : fk v = 0 := by simpa using hc8
  have hok:=zw h9
  refine aL<|ae<|af<|ai<|s1 (aV bz rfl rfl (CV.len_cells v)) rfl ?_
  refine ak rfl (iP 11 rfl false rfl (.cons (.pure pu) (.nil)) (Ku v hok hrg hl) aq (.inl rfl) rfl ?_)
  refine s1 (aa rfl) rfl<|s1 ((aa rfl).v (v':= .i .i64 0) rfl) rfl ?_
  refine ah<|ae<|aE ?_
  refine gp 2 rfl rfl aq (cm (by simp) rfl) ?_
  refine aF (rs:= [.tmp 2,.tmp 3]) rfl (aD rfl (aD rfl aB)) ?_
  exact(nY h9).symm
end Go.Abs.D2
-- E6F
namespace Go.Abs.D2
open Go Go.Eng Go.Abs Go.Proofs
theorem qC (n:Int):aA Tryz.prog 82 [.i .i64 n] (aN (.ag (CV.cells (bT n)))):=by
 refine enter Tryz.func82 rfl Tryz.ntmps82 (by kernel_rfl) (Nat.le_of_ble_eq_true rfl) fun w0 X0 hI=>?_
 refine af<|ai ?_
 refine ak rfl (bp 2 rfl bz rfl rfl ?_)
 refine ah<|ae<|af<|ai<|s1 (aa rfl) rfl<|s1 (ey (out:= [_,_,_,_]) [[a6 (.int .i64 0)], [a6 (.int .i64 0)], [a6 (.string ByteArray.empty)], [a6 (.slice none 0 0)]] bz rfl Tryz.underlying109 (by kernel_rfl) rfl rfl ⟨⟨by(first|rfl|omega|(simp;done)|(simp [*];done)|(simp [aY, *];done)),rfl⟩,⟨⟨by(first|rfl|omega|(simp;done)|(simp [*];done)|(simp [aY, *];done)),rfl⟩,trivial⟩⟩ rfl) rfl ?_
 refine ak rfl (bb bz rfl rfl rfl (by first|rfl|omega|(simp<;>omega)|(simp [*]<;>omega)) (by first|rfl|omega|(simp<;>omega)|(simp [*]<;>omega)) ?_)
 refine ah<|ae<|aE ?_
 refine iK 2 rfl qM ?_
 refine aF (rs:= [.cell 2 109]) rfl (bW bz rfl rfl rfl rfl aB) ?_
 rfl
theorem Kf (e:Ep) (h:e.ok):aA Tryz.prog 34 [.ag e.cells] (aN (.fz (fU e).enc.length ((fU e).enc.map u8))):=by
 refine enter Tryz.func34 rfl Tryz.ntmps34 (by kernel_rfl) (Nat.le_of_ble_eq_true rfl) fun w0 X0 hI=>?_
 refine af<|ai ?_
 refine ak rfl (bK 1 rfl rfl rfl ?_)
 refine s1 (aa rfl) rfl ?_
 refine ah<|ae<|af ?_
 have hfew:=h.gT
 refine ai<|s1 (ey (out:= [_,_,_,_]) [[a6 (.int .i64 0)], [a6 (.int .i64 0)], [a6 (.string ByteArray.empty)], [a6 (.slice none 0 0)]] bz rfl Tryz.underlying109 (by kernel_rfl) rfl rfl ⟨⟨by(first|rfl|omega|(simp;done)|(simp [*];done)|(simp [aY, *];done)),rfl⟩,trivial⟩ rfl) rfl ?_
 refine ak rfl (bp 3 rfl bz rfl rfl ?_)
 refine ak rfl (bb bz rfl rfl rfl (by first|rfl|omega|(simp<;>omega)|(simp [*]<;>omega)) (by first|rfl|omega|(simp<;>omega)|(simp [*]<;>omega)) ?_)
 refine ah<|ae<|af<|af<|ai<|s1 ((aa rfl).v (v':= .i .i64 0) rfl) rfl ?_
 refine ah<|ae<|aM ?_
 refine bF (ι:=Nat) (fun i=> [(1,.p 1 0),(3,.p 3 0),(4,nJ i)]) (fun i=>⟨[(1,some (e.cells)),(3,some ([.i .i64 3,.i .i64 0,.s [],.sl 134 4 0 i])),(134,some (CV.bJ ((e.ch.take i).map dI)))]⟩) (fun i=>i≤e.ch.length) (fun i=>e.ch.length - i) ?_ ?_
 ·exact bE (0) (Nat.zero_le _) [(1,some 1),(3,some 3),(134,none)] hI rfl rfl ⟨⟨_,rfl,.p rfl⟩,⟨_,rfl,.p rfl⟩,⟨_,rfl,.pure pu⟩,trivial⟩ ⟨.inr ⟨_,_,rfl,rfl,.pure aq⟩,.inr ⟨_,_,rfl,rfl,.cons (.pure pu) (.cons (.pure pu) (.cons (.pure pu) (.cons (.nl rfl) .nil)))⟩,.inl ⟨rfl,rfl⟩,trivial⟩
 rintro i hi
 refine af<|af<|ai<|s1 (aa rfl) rfl<|s1 (aC Tryz.underlying45 rfl cK (by decide) rfl rfl) rfl<|s1 (au cK rfl rfl rfl) rfl<|s1 (bu Tryz.underlying31 rfl rfl rfl) rfl<|s1 (aa rfl) rfl ?_
 refine ah<|ae ?_
 refine aO rfl (fun hc12=>?_) (fun hc12=>?_)
 ·have h12 : i < e.ch.length := by have := of_decide_eq_true hc12; omega
  obtain⟨c,hc⟩:∃c,e.ch[i]? =some c:=⟨_,List.getElem?_eq_getElem h12⟩
  refine aL<|ae<|af<|aM ?_
  refine bP ⟨_, [], []⟩ 21 4 bx (le_refl rfl) ?_
  refine aj 0 [] [(3,none)] (aC Tryz.underlying109 rfl cU (by decide) rfl rfl) rfl rfl<|aj 1 [0] [(3,none)] (au cU rfl rfl rfl) rfl rfl<|aj 2 [] [(1,none)] (aC Tryz.underlying45 rfl cK (by decide) rfl rfl) rfl rfl<|aj 3 [2] [(1,none)] (au cK rfl rfl rfl) rfl rfl<|aj 4 [] [] (aa rfl) rfl rfl<|aj 5 [3,4] [] (aT i Tryz.underlying31 bt rfl rfl rfl (by omega) rfl) rfl rfl<|aj 6 [5] [] (bj Tryz.underlying55 rfl an (by decide) rfl rfl) rfl rfl<|aj 7 [6] [] (au an rfl rfl (bV hc (k:=0) rfl (by decide))) rfl rfl<|bL false 8 [7] [] aW rfl (.cons (.pure pu) (.nil)) (qC c.id) pu (.inl rfl) rfl rfl<|aj 9 [] [(1,none)] (aC Tryz.underlying45 rfl cK (by decide) rfl rfl) rfl rfl ?_
  refine aj 10 [9] [(1,none)] (au cK rfl rfl rfl) rfl rfl<|aj 11 [] [] (aa rfl) rfl rfl<|aj 12 [10,11] [] (aT i Tryz.underlying31 bt rfl rfl rfl (by omega) rfl) rfl rfl<|aj 13 [12] [] (bj Tryz.underlying55 rfl an (by decide) rfl rfl) rfl rfl<|aj 14 [13] [] (au an rfl rfl (bV hc (k:=1) rfl (by decide))) rfl rfl<|bL false 15 [14] [] aW rfl (.cons (.pure pu) (.nil)) (qC c.st) pu (.inl rfl) rfl rfl<|sy 16 [8,15] aW Tryz.underlying107 bz rfl rfl rfl (by simp [aY]) (show _=CV.bJ [bT c.id,bT c.st]from rfl) aq rfl rfl rfl rfl<|aj 17 [16] [] (YO.v (v':= .ag (CV.cells (dI c))) (ey (out:= [_,_,_,_]) [[a6 (.int .i64 0)], [a6 (.int .i64 0)], [a6 (.string ByteArray.empty)], [a6 (.slice none 0 0)]] bz rfl Tryz.underlying109 (by kernel_rfl) rfl rfl ⟨⟨by(first|rfl|omega|(simp;done)|(simp [*];done)|(simp [aY, *];done)),rfl⟩,⟨⟨by(first|rfl|omega|(simp;done)|(simp [*];done)|(simp [aY, *];done)),rfl⟩,trivial⟩⟩ rfl) (rfl)) rfl rfl<|sy 18 [17] aW Tryz.underlying107 bz rfl rfl rfl (by simp [aY]) (tg (dI c)) aq rfl rfl rfl rfl<|fV 34 19 [1,18] [(134,none)] aW Tryz.underlying107 bz rfl (.sl rfl (by simp;omega)) rfl rfl (by simp) (by simp only [maxLen];omega) (by omega) rfl rfl rfl rfl ?_
  refine aj 20 [] [(3,none)] (aC Tryz.underlying109 rfl cU (by decide) rfl rfl) rfl rfl<|bQ (by kernel_rfl) ?_
  refine ak rfl (bZ cU rfl rfl rfl rfl (by first|rfl|omega|(simp<;>omega)|(simp [*]<;>omega)) rfl ?_)
  refine ah<|bh<|ae<|ai<|s1 (aa rfl) rfl<|s1 (bc _ 1 rfl rfl rfl rfl (by omega)) rfl<|s1 (aa rfl) rfl ?_
  refine ah ?_
  exact br (i+1) (by omega) (by omega) [(1,some 1),(3,some 3),(134,some 34)] hI rfl rfl ⟨⟨_,rfl,.p rfl⟩,⟨_,rfl,.p rfl⟩,⟨_,rfl,.pure pu⟩,trivial⟩ ⟨.inr ⟨_,_,rfl,rfl,.pure aq⟩,.inr ⟨_,_,rfl,rfl,.cons (.pure pu) (.cons (.pure pu) (.cons (.pure pu) (.cons (.sl rfl (by simp)) .nil)))⟩,.inr ⟨_,_,rfl,rfl,.of (zg hc) (.pure aq)⟩,trivial⟩
 ·obtain rfl : i = e.ch.length := by have := of_decide_eq_false hc12; omega
  refine bC<|aP<|aP<|bD<|ae<|af ?_
  refine cX 134 (cs':=CV.bJ (e.ch.map dI)) rfl (by rw [List.take_length]) ?_
  refine jL 3 3 rfl rfl rfl rfl aq (uh (by simp)) rfl ?_
  refine fh 1 rfl rfl aq ?_
  refine bP ⟨_, [], []⟩ 25 4 bx (le_refl rfl) ?_
  refine aj 0 [] [] (bj Tryz.underlying45 rfl an (by decide) rfl rfl) rfl rfl<|aj 1 [0] [] (au an rfl rfl rfl) rfl rfl<|bL false 2 [1] [] aW rfl (.cons (.pure pu) (.nil)) (qC e.iss) pu (.inl rfl) rfl rfl<|aj 3 [] [] (bj Tryz.underlying45 rfl an (by decide) rfl rfl) rfl rfl<|aj 4 [3] [] (au an rfl rfl rfl) rfl rfl<|bL false 5 [4] [] aW rfl (.cons (.pure pu) (.nil)) (qC e.no) pu (.inl rfl) rfl rfl<|aj 6 [] [] (bj Tryz.underlying45 rfl an (by decide) rfl rfl) rfl rfl<|aj 7 [6] [] (au an rfl rfl rfl) rfl rfl<|bL false 8 [7] [] aW rfl (.cons (.pure pu) (.nil)) (qC e.day) pu (.inl rfl) rfl rfl ?_
  refine aj 9 [] [(3,none)] ((aV bz rfl rfl rfl).v (v':= .ag (CV.cells (cZ (e.ch.map dI)))) (congrArg (fun n:Nat=>A.ag [.i .i64 3,.i .i64 0,.s [],.fz n (CV.bJ (e.ch.map dI))]) (show e.ch.length=(e.ch.map dI).length by rw [List.length_map]))) rfl rfl ?_
  refine aj 10 [] [] (bj Tryz.underlying45 rfl az (by decide) rfl rfl) rfl rfl<|aj 11 [10] [] ((mB (ds:=((e.cells.drop 4).drop (0*1)).take (32*1)) 32 Tryz.underlying23 aQ rfl (by simp [maxLen]) bn bn (Nat.zero_le _) (Nat.le_refl _) (by decide) rfl rfl).v (Gb h)) rfl rfl<|aj 12 [11] [] (oX Tryz.underlying68 Tryz.underlying5 Tryz.underlying9 rfl rfl (by rw [h.cas])) rfl rfl<|aj 13 [12] [] (YO.wk (v':= .ag (CV.cells (c9 e.cas))) (ey (out:= [_,_,_,_]) [[a6 (.int .i64 0)], [a6 (.int .i64 0)], [a6 (.string ByteArray.empty)], [a6 (.slice none 0 0)]] bz rfl Tryz.underlying109 (by kernel_rfl) rfl rfl ⟨⟨by(first|rfl|omega|(simp;done)|(simp [*];done)|(simp [aY, *];done)),rfl⟩,⟨⟨by(first|rfl|omega|(simp;done)|(simp [*];done)|(simp [aY, *];done)),rfl⟩,trivial⟩⟩ rfl) (.ag (.cons (.eq rfl) (.cons (.eq rfl) (.cons (.eq rfl) (.cons .nl .nil)))))) rfl rfl<|aj 14 [] [] (bj Tryz.underlying45 rfl az (by decide) rfl rfl) rfl rfl<|aj 15 [14] [] ((mB (ds:=((e.cells.drop 36).drop (0*1)).take (32*1)) 32 Tryz.underlying23 aQ rfl (by simp [maxLen]) bn bn (Nat.zero_le _) (Nat.le_refl _) (by decide) rfl rfl).v (Gg h)) rfl rfl<|aj 16 [15] [] (oX Tryz.underlying68 Tryz.underlying5 Tryz.underlying9 rfl rfl (by rw [h.prev])) rfl rfl<|aj 17 [16] [] (YO.wk (v':= .ag (CV.cells (c9 e.prev))) (ey (out:= [_,_,_,_]) [[a6 (.int .i64 0)], [a6 (.int .i64 0)], [a6 (.string ByteArray.empty)], [a6 (.slice none 0 0)]] bz rfl Tryz.underlying109 (by kernel_rfl) rfl rfl ⟨⟨by(first|rfl|omega|(simp;done)|(simp [*];done)|(simp [aY, *];done)),rfl⟩,⟨⟨by(first|rfl|omega|(simp;done)|(simp [*];done)|(simp [aY, *];done)),rfl⟩,trivial⟩⟩ rfl) (.ag (.cons (.eq rfl) (.cons (.eq rfl) (.cons (.eq rfl) (.cons .nl .nil)))))) rfl rfl<|sy 18 [2,5,8,9,13,17] aW Tryz.underlying107 bz rfl rfl rfl (by simp [aY]) (show _=CV.bJ [bT e.iss,bT e.no,bT e.day,cZ (e.ch.map dI),c9 e.cas,c9 e.prev]from rfl) aq rfl rfl rfl rfl<|aj 19 [18] [] (YO.v (v':= .ag (CV.cells (fU e))) (ey (out:= [_,_,_,_]) [[a6 (.int .i64 0)], [a6 (.int .i64 0)], [a6 (.string ByteArray.empty)], [a6 (.slice none 0 0)]] bz rfl Tryz.underlying109 (by kernel_rfl) rfl rfl ⟨⟨by(first|rfl|omega|(simp;done)|(simp [*];done)|(simp [aY, *];done)),rfl⟩,⟨⟨by(first|rfl|omega|(simp;done)|(simp [*];done)|(simp [aY, *];done)),rfl⟩,trivial⟩⟩ rfl) (rfl)) rfl rfl ?_
  refine bL false 20 [19] [] aW rfl (.cons (.pure pu) (.nil)) (aA.cast (Kt (fU e) (Dt h) (C1 h) (Nat.le_trans (pP h) (by omega))) (Ak e)) pu (.inl rfl) rfl rfl<|aj 21 [20] [] (aa rfl) rfl rfl<|aj 22 [21] [] (aa rfl) rfl rfl<|aj 23 [21] [] (aa rfl) rfl rfl<|aj 24 [22] [] (aa rfl) rfl rfl<|bQ (by kernel_rfl) ?_
  refine s1 (aa rfl) rfl ?_
  refine ah<|ae<|af<|ai<|s1 (aa rfl) rfl<|s1 (aa rfl) rfl ?_
  refine ah<|ae<|aE ?_
  refine aF (rs:= [.tmp 2]) rfl (aD rfl aB) ?_
  rfl
end Go.Abs.D2
-- E6Q
namespace Go.Abs.D2
open Go Go.Eng Go.Abs
def jO (σ:Int→Int) (last:Int):List Ch→Bool
  | []=>true
  |c::r=>de σ last c&&jO σ c.id r
theorem FM {σ ρ:Int→Int} {la:Int} {c:Ch} (h:∀k,la<k→σ k=ρ k):de σ la c=de ρ la c:=by
  unfold de
  by_cases hl:la<c.id
  · rw [h _ hl]
  · rw [decide_eq_false hl];rfl
theorem zc : ∀ {l : List Ch} {σ ρ : Int → Int} {la : Int}, (∀ k, la < k → σ k = ρ k) → cR σ la l = jO ρ la l
  | [],_,_,_,_=>rfl
  | c :: r, σ, ρ, la, h => by
    rw [cR,jO,FM h]
    cases hb:de ρ la c with
    |false=>rfl
    | true =>
      have hl:la<c.id:=by
        unfold de at hb
        simp only [Bool.and_eq_true,decide_eq_true_eq]at hb
        omega
      rw [zc (l:=r) (σ:=ig σ c.id c.st) (ρ:=ρ) (la:=c.id) fun k hk=>?_]
      unfold ig
      rw [if_neg (by omega)]
      exact h k (by omega)
theorem kB (σ:Int→Int) (la:Int) (l:List Ch):cR σ la l=jO σ la l:=zc fun _ _=>rfl
theorem lh {σ:Int→Int} {last:Int} {l:List Ch} {i:Nat} {c:Ch} (h:l[i]? =some c) (hb:de σ last c=false):jO σ last (l.drop i)=false:=by
  rw [List.drop_eq_getElem_cons (List.getElem?_eq_some_iff.1 h).1,(List.getElem?_eq_some_iff.1 h).2,jO,hb];rfl
theorem zb {σ:Int→Int} {last:Int} {l:List Ch} {i:Nat} {c:Ch} (h:l[i]? =some c) (hb:de σ last c=true):jO σ last (l.drop i)=jO σ c.id (l.drop (i+1)):=by
  rw [List.drop_eq_getElem_cons (List.getElem?_eq_some_iff.1 h).1,(List.getElem?_eq_some_iff.1 h).2,jO,hb];rfl
def fX (l : List Ch) : Nat → Int
  |0=> -1
  | i + 1 => match l[i]? with
    |some c=>c.id
    |none=> -1
theorem p7 {l:List Ch} {i:Nat} {c:Ch} (h:l[i]? =some c):fX l (i+1)=c.id:=by rw [fX,h]
theorem H4 {l:List Ch} {i:Nat} {p:Ch} (h0:0<i) (h:l[i - 1]? =some p):fX l i=p.id:=by
  obtain⟨j,rfl⟩:∃j,i=j+1:=⟨i - 1,by omega⟩
  exact p7 h
def j8 (c:Ch):Prop:=0≤c.id∧c.id<1024∧0≤c.st∧c.st≤4
theorem vh {σ:Int→Int} {la:Int} {c:Ch} (hla: -1≤la):de σ la c=true↔j8 c∧la<c.id∧c.st≠σ c.id∧σ c.id≠2:=by
  unfold de j8
  simp only [Bool.and_eq_true,decide_eq_true_eq,bne_iff_ne]
  constructor
  · rintro ⟨⟨⟨⟨h1, h2⟩, h3⟩, h4⟩, h5, h6⟩
    exact⟨⟨by omega,h2,h3,h4⟩,h1,h5,h6⟩
  · rintro ⟨⟨h1, h2, h3, h4⟩, h5, h6, h7⟩
    exact⟨⟨⟨⟨h5,h2⟩,h3⟩,h4⟩,h6,h7⟩
theorem lg {σ:Int→Int} {la:Int} {c:Ch} (hla: -1≤la) (h:¬(j8 c∧la<c.id∧c.st≠σ c.id∧σ c.id≠2)):de σ la c=false:=by
  cases hb:de σ la c with
  |false=>rfl
  |true=>exact absurd ((vh hla).1 hb) h
theorem Mj {σ:Int→Int} {l:List Ch} {i:Nat} {c:Ch} (hc:l[i]? =some c) (hla: -1≤fX l i):
    (c.id<0∧de σ (fX l i) c=false)∨(0≤c.id∧1024≤c.id∧de σ (fX l i) c=false)∨((0≤c.id∧c.id<1024)∧c.st<0∧de σ (fX l i) c=false)∨((0≤c.id∧c.id<1024∧0≤c.st)∧4<c.st∧de σ (fX l i) c=false)
    ∨(j8 c∧0<i∧(∃p,l[i - 1]? =some p∧c.id≤p.id)∧de σ (fX l i) c=false)
    ∨(j8 c∧i=0∧c.st=σ c.id∧de σ (fX l i) c=false)∨(j8 c∧0<i∧(∃p,l[i - 1]? =some p∧p.id<c.id)∧c.st=σ c.id∧de σ (fX l i) c=false)
    ∨(j8 c∧i=0∧c.st≠σ c.id∧σ c.id=2∧de σ (fX l i) c=false)∨(j8 c∧0<i∧(∃p,l[i - 1]? =some p∧p.id<c.id)∧c.st≠σ c.id∧σ c.id=2∧de σ (fX l i) c=false)
    ∨(j8 c∧i=0∧c.st≠σ c.id∧σ c.id≠2∧de σ (fX l i) c=true)∨(j8 c∧0<i∧(∃p,l[i - 1]? =some p∧p.id<c.id)∧c.st≠σ c.id∧σ c.id≠2∧de σ (fX l i) c=true):=by
  by_cases h1:c.id<0
  · exact .inl ⟨h1,lg hla fun h=>by have:=h.1.1;omega⟩
  by_cases h2:1024≤c.id
  · exact .inr (.inl ⟨by omega,h2,lg hla fun h=>by have:=h.1.2.1;omega⟩)
  by_cases h3:c.st<0
  · exact .inr (.inr (.inl ⟨by omega,h3,lg hla fun h=>by have:=h.1.2.2.1;omega⟩))
  by_cases h4:4<c.st
  · exact .inr (.inr (.inr (.inl ⟨by omega,h4,lg hla fun h=>by have:=h.1.2.2.2;omega⟩)))
  have hr:j8 c:=⟨by omega,by omega,by omega,by omega⟩
  rcases Nat.eq_zero_or_pos i with h0|h0
  · have hl0 : fX l i = -1 := by rw [h0]; rfl
    by_cases h6:c.st=σ c.id
    · exact .inr (.inr (.inr (.inr (.inr (.inl ⟨hr,h0,h6,lg hla fun h=>h.2.2.1 h6⟩)))))
    by_cases h7:σ c.id=2
    · exact .inr (.inr (.inr (.inr (.inr (.inr (.inr (.inl ⟨hr,h0,h6,h7,lg hla fun h=>h.2.2.2 h7⟩)))))))
    · exact .inr (.inr (.inr (.inr (.inr (.inr (.inr (.inr (.inr (.inl ⟨hr,h0,h6,h7,(vh hla).2 ⟨hr,by rw [hl0];have:=hr.1;omega,h6,h7⟩⟩)))))))))
  · obtain ⟨p, hp⟩ : ∃ p, l[i - 1]? = some p := ⟨_, List.getElem?_eq_getElem (by have := (List.getElem?_eq_some_iff.1 hc).1; omega)⟩
    have hlp:=H4 h0 hp
    by_cases h5:c.id≤p.id
    · exact .inr (.inr (.inr (.inr (.inl ⟨hr,h0,⟨p,hp,h5⟩,lg hla fun h=>by have:=h.2.1;omega⟩))))
    by_cases h6:c.st=σ c.id
    · exact .inr (.inr (.inr (.inr (.inr (.inr (.inl ⟨hr,h0,⟨p,hp,by omega⟩,h6,lg hla fun h=>h.2.2.1 h6⟩))))))
    by_cases h7:σ c.id=2
    · exact .inr (.inr (.inr (.inr (.inr (.inr (.inr (.inr (.inl ⟨hr,h0,⟨p,hp,by omega⟩,h6,h7,lg hla fun h=>h.2.2.2 h7⟩))))))))
    · exact .inr (.inr (.inr (.inr (.inr (.inr (.inr (.inr (.inr (.inr ⟨hr,h0,⟨p,hp,by omega⟩,h6,h7,(vh hla).2 ⟨hr,by omega,h6,h7⟩⟩)))))))))
def gB (τ:Int→Int) (m:Nat):List Ch:=(((List.range m).map fun k:Nat=>(k:Int)).filter fun n=>τ n !=0).map fun k=>⟨k,τ k⟩
theorem za {τ:Int→Int} {m:Nat} (h:τ (m:Int)≠0):gB τ (m+1)=gB τ m++ [⟨(m:Int),τ m⟩]:=by
  unfold gB
  rw [List.range_succ,List.map_append,List.filter_append,List.map_append]
  simp [h]
theorem y9 {τ:Int→Int} {m:Nat} (h:τ (m:Int)=0):gB τ (m+1)=gB τ m:=by
  unfold gB
  rw [List.range_succ,List.map_append,List.filter_append,List.map_append]
  simp [h]
theorem FN (τ:Int→Int) (m:Nat):(gB τ m).length≤m:=by
  unfold gB
  rw [List.length_map]
  exact Nat.le_trans (List.length_filter_le ..) (by simp)
def pU (l:List Ep):A:=match cv l with
  |none=> .tu [.nl,.b false]
  |some σ=> .tu [cC (dr σ),.b true]
theorem fl {l:List Ep} (h:cv l=none):pU l= .tu [.nl,.b false]:=by unfold pU;rw [h]
theorem v8 {l:List Ep} {σ:Int→Int} (h:cv l=some σ):pU l= .tu [cC (dr σ),.b true]:=by unfold pU;rw [h]
def jk (l : List Ep) : Nat → Int
  |0=> -1
  | i + 1 => match l[i]? with
    |some e=>e.day
    |none=> -1
def lF (l:List Ep):Nat→List UInt8
  |0=>zD
  |i+1=>vC l i
theorem pL {l:List Ep} {i:Nat} {e:Ep} (h:l[i]? =some e):jk l (i+1)=e.day:=by rw [jk,h]
theorem GD {l:List Ep} {i:Nat} {p:Ep} (h0:0<i) (h:l[i - 1]? =some p):jk l i=p.day:=by
  obtain⟨j,rfl⟩:∃j,i=j+1:=⟨i - 1,by omega⟩
  exact pL h
theorem J6 {l:List Ep} {i:Nat} {p:Ep} (h0:0<i) (h:l[i - 1]? =some p):lF l i=cu p:=by
  obtain⟨j,rfl⟩:∃j,i=j+1:=⟨i - 1,by omega⟩
  exact vD h
def iT (e:Ep) (iss:Int) (i:Nat):Prop:=0≤e.iss∧e.iss<8∧e.iss=iss∧e.no=(i:Int)∧0≤e.day∧e.day<1024
theorem Aq {iss:Int} {i:Nat} {day:Int} {prev:List UInt8} {e:Ep} (hd: -1≤day):cG iss i day prev e=true↔iT e iss i∧day<e.day∧e.prev=prev∧e.sg.a=(i:Int):=by
  unfold cG iT
  simp only [Bool.and_eq_true,decide_eq_true_eq,beq_iff_eq]
  constructor
  · rintro ⟨⟨⟨⟨h1, h2⟩, h3⟩, ⟨h4, h5⟩, h6⟩, h7, h8⟩
    exact⟨⟨h2,h3,h1,h4,by omega,h8⟩,h7,h6,h5⟩
  · rintro ⟨⟨h2, h3, h1, h4, _, h8⟩, h7, h6, h5⟩
    exact⟨⟨⟨⟨h1,h2⟩,h3⟩,⟨h4,h5⟩,h6⟩,h7,h8⟩
theorem lu {iss:Int} {i:Nat} {day:Int} {prev:List UInt8} {e:Ep} (hd: -1≤day) (h:¬(iT e iss i∧day<e.day∧e.prev=prev∧e.sg.a=(i:Int))):cG iss i day prev e=false:=by
  cases hb:cG iss i day prev e with
  |false=>rfl
  |true=>exact absurd ((Aq hd).1 hb) h
theorem AS (e : Ep) (iss : Int) (i : Nat) (day : Int) (prev : List UInt8) (τ : Int → Int) (hd : -1 ≤ day) :
    (e.iss<0∧cG iss i day prev e=false)∨(0≤e.iss∧8≤e.iss∧cG iss i day prev e=false)∨((0≤e.iss∧e.iss<8)∧e.iss≠iss∧cG iss i day prev e=false)∨((0≤e.iss∧e.iss<8∧e.iss=iss)∧e.no≠(i:Int)∧cG iss i day prev e=false)
    ∨((0≤e.iss∧e.iss<8∧e.iss=iss∧e.no=(i:Int))∧e.day<0∧cG iss i day prev e=false)∨((0≤e.iss∧e.iss<8∧e.iss=iss∧e.no=(i:Int)∧0≤e.day)∧1024≤e.day∧cG iss i day prev e=false)
    ∨(iT e iss i∧e.day≤day∧cG iss i day prev e=false)∨(iT e iss i∧day<e.day∧e.prev≠prev∧cG iss i day prev e=false)∨(iT e iss i∧day<e.day∧e.prev=prev∧cR τ (-1) e.ch=false)
    ∨(iT e iss i∧day<e.day∧e.prev=prev∧cR τ (-1) e.ch=true∧e.sg.a≠(i:Int)∧cG iss i day prev e=false)∨(iT e iss i∧day<e.day∧e.prev=prev∧cR τ (-1) e.ch=true∧e.sg.a=(i:Int)∧cG iss i day prev e=true):=by
  by_cases h1:e.iss<0
  · exact .inl ⟨h1,lu hd fun h=>by have:=h.1.1;omega⟩
  by_cases h2:8≤e.iss
  · exact .inr (.inl ⟨by omega,h2,lu hd fun h=>by have:=h.1.2.1;omega⟩)
  by_cases h3:e.iss=iss
  · by_cases h4 : e.no = (i : Int)
    · by_cases h5 : e.day < 0
      · exact .inr (.inr (.inr (.inr (.inl ⟨⟨by omega,by omega,h3,h4⟩,h5,lu hd fun h=>by have:=h.1.2.2.2.2.1;omega⟩))))
      by_cases h6:1024≤e.day
      · exact .inr (.inr (.inr (.inr (.inr (.inl ⟨⟨by omega,by omega,h3,h4,by omega⟩,h6,lu hd fun h=>by have:=h.1.2.2.2.2.2;omega⟩)))))
      have hr:iT e iss i:=⟨by omega,by omega,h3,h4,by omega,by omega⟩
      by_cases h7:e.day≤day
      · exact .inr (.inr (.inr (.inr (.inr (.inr (.inl ⟨hr,h7,lu hd fun h=>by have:=h.2.1;omega⟩))))))
      by_cases h8:e.prev=prev
      · cases h9 : cR τ (-1) e.ch with
        |false=>exact .inr (.inr (.inr (.inr (.inr (.inr (.inr (.inr (.inl ⟨hr,by omega,h8,rfl⟩))))))))
        | true =>
          by_cases h10:e.sg.a=(i:Int)
          · exact .inr (.inr (.inr (.inr (.inr (.inr (.inr (.inr (.inr (.inr ⟨hr,by omega,h8,rfl,h10,(Aq hd).2 ⟨hr,by omega,h8,h10⟩⟩)))))))))
          · exact .inr (.inr (.inr (.inr (.inr (.inr (.inr (.inr (.inr (.inl ⟨hr,by omega,h8,rfl,h10,lu hd fun h=>h10 h.2.2.2⟩)))))))))
      · exact .inr (.inr (.inr (.inr (.inr (.inr (.inr (.inl ⟨hr,by omega,h8,lu hd fun h=>h8 h.2.2.1⟩)))))))
    · exact .inr (.inr (.inr (.inl ⟨⟨by omega,by omega,h3⟩,h4,lu hd fun h=>h4 h.1.2.2.2.1⟩)))
  · exact .inr (.inr (.inl ⟨⟨by omega,by omega⟩,h3,lu hd fun h=>h3 h.1.2.2.1⟩))
end Go.Abs.D2
-- E6R
namespace Go.Abs.D2
open Go Go.Eng Go.Abs
theorem Hl (e:Ep) (iss:Int) (i:Nat) (day:Int) (prev:List UInt8) (τ:Int→Int) (hd:day= -1):
    (e.iss<0∧cG iss i day prev e=false)∨(0≤e.iss∧8≤e.iss∧cG iss i day prev e=false)∨((0≤e.iss∧e.iss<8)∧e.iss≠iss∧cG iss i day prev e=false)∨((0≤e.iss∧e.iss<8∧e.iss=iss)∧e.no≠(i:Int)∧cG iss i day prev e=false)
    ∨((0≤e.iss∧e.iss<8∧e.iss=iss∧e.no=(i:Int))∧e.day<0∧cG iss i day prev e=false)∨((0≤e.iss∧e.iss<8∧e.iss=iss∧e.no=(i:Int)∧0≤e.day)∧1024≤e.day∧cG iss i day prev e=false)
    ∨(iT e iss i∧day<e.day∧e.prev≠prev∧cG iss i day prev e=false)∨(iT e iss i∧day<e.day∧e.prev=prev∧cR τ (-1) e.ch=false)
    ∨(iT e iss i∧day<e.day∧e.prev=prev∧cR τ (-1) e.ch=true∧e.sg.a≠(i:Int)∧cG iss i day prev e=false)∨(iT e iss i∧day<e.day∧e.prev=prev∧cR τ (-1) e.ch=true∧e.sg.a=(i:Int)∧cG iss i day prev e=true):=by
  rcases AS e iss i day prev τ (by omega)with h|h|h|h|h|h|h|h|h|h|h
  · exact .inl h
  · exact .inr (.inl h)
  · exact .inr (.inr (.inl h))
  · exact .inr (.inr (.inr (.inl h)))
  · exact .inr (.inr (.inr (.inr (.inl h))))
  · exact .inr (.inr (.inr (.inr (.inr (.inl h)))))
  · have h1 := h.1.2.2.2.2.1
    have h2:=h.2.1
    omega
  · exact .inr (.inr (.inr (.inr (.inr (.inr (.inl h))))))
  · exact .inr (.inr (.inr (.inr (.inr (.inr (.inr (.inl h)))))))
  · exact .inr (.inr (.inr (.inr (.inr (.inr (.inr (.inr (.inl h))))))))
  · exact .inr (.inr (.inr (.inr (.inr (.inr (.inr (.inr (.inr h))))))))
theorem FO: []=dr σ0:=Fh (l:= []) oh
theorem Fa (o:Option Nat):∃(N:Int) (B:Bool),mM o= .tu [.i .i64 N,.b B]:=by
  cases o with
  |none=>exact⟨0,false,rfl⟩
  |some j=>exact⟨j,true,rfl⟩
theorem LY (l:List Ep) (no:Int):∃(C:List Ch) (v:Int),C.length≤1024∧Wk (xl (jG l no)) (.tu [cC C,.i .i64 v]):=by
  by_cases h:no< -1∨(l.length:Int)≤no
  · rw [tT h]
    exact⟨[],1,by decide,.tu (.cons .nl (.cons (.eq rfl) .nil))⟩
  · cases hf : cv (l.take (no + 1).toNat) with
    | none =>
      rw [xH h hf]
      exact⟨[],351,by decide,.tu (.cons .nl (.cons (.eq rfl) .nil))⟩
    | some σ =>
      rw [qJ h hf]
      exact⟨dr σ,0,vi σ,.eq rfl⟩
end Go.Abs.D2
-- E6H
namespace Go.Abs.D2
open Go Go.Eng Go.Abs Go.Proofs
theorem tC (e:Ep) (h:e.ok):aA Tryz.prog 23 [.ag e.cells] (aN (.ag ((cu e).map u8))):=by
 refine enter Tryz.func23 rfl Tryz.ntmps23 (by kernel_rfl) (Nat.le_of_ble_eq_true rfl) fun w0 X0 hI=>?_
 refine af<|ai ?_
 refine ak rfl (bK 1 rfl rfl rfl ?_)
 refine ak rfl (bp 2 rfl az rfl rfl ?_)
 refine ah<|ae<|af ?_
 have hel:=pP h
 refine ai<|s1 (aV bA rfl rfl h.len) rfl ?_
 refine ak rfl (aI false rfl (.cons (.pure pu) (.nil)) (Kf e h) pu (.inl rfl) rfl ?_)
 refine ak rfl (aI false rfl (.cons (.pure pu) (.cons (.pure pu) (.nil))) (aA.cast (oO tU (fU e).enc (by omega) (by decide)) (congrArg (fun l:List UInt8=>A.ag (l.map u8)) (pJ e).symm)) pu (.inl rfl) rfl ?_)
 refine ak rfl (bb az rfl rfl rfl (by first|rfl|omega|(simp<;>omega)|(simp [*]<;>omega)) (by first|rfl|omega|(simp<;>omega)|(simp [*]<;>omega)) ?_)
 refine ah<|ae<|aE ?_
 refine aF (rs:= [.cell 2 23]) rfl (bW az rfl rfl (List.take_of_length_le (by simp)) (by simp) aB) ?_
 rfl
theorem C6 (l:List Ch) (id:Int) (hn:l.length≤maxLen):aA Tryz.prog 101 [cC l,.i .i64 id] (aN (.i .i64 (jE l id))):=by
 refine enter Tryz.func101 rfl Tryz.ntmps101 (by kernel_rfl) (Nat.le_of_ble_eq_true rfl) fun w0 X0 hI=>?_
 refine af<|ai<|s1 ((aa rfl).v (v':= .i .i64 0) rfl) rfl ?_
 refine ah<|ae<|af<|af ?_
 simp only [maxLen]at hn
 refine ai<|s1 ((aa rfl).v (v':= .i .i64 0) rfl) rfl ?_
 refine ah<|ae<|aM ?_
 refine bF (ι:=Nat) (fun i=> [(0,cC l),(1,.i .i64 id),(5,nJ i)]) (fun i=>⟨[]⟩) (fun i=>i≤l.length∧jE l id=jE (l.drop i) id) (fun i=>l.length - i) ?_ ?_
 ·exact bE (0) (⟨Nat.zero_le _,rfl⟩) [] hI rfl rfl ⟨⟨_,rfl,.pure pu⟩,⟨_,rfl,.pure pu⟩,⟨_,rfl,.pure pu⟩,trivial⟩ trivial
 rintro i ⟨hi,hst⟩
 refine af<|af<|ai<|s1 (aa rfl) rfl<|s1 (aa rfl) rfl<|s1 (bu Tryz.underlying31 rfl rfl rfl) rfl<|s1 (aa rfl) rfl ?_
 refine ah<|ae ?_
 refine aO rfl (fun hc9=>?_) (fun hc9=>?_)
 ·have h9 : i < l.length := by have := of_decide_eq_true hc9; omega
  obtain⟨c,hc⟩:∃c,l[i]? =some c:=⟨_,List.getElem?_eq_getElem h9⟩
  refine aL<|ae<|af<|aM<|af<|ai<|s1 (aa rfl) rfl<|s1 (aa rfl) rfl<|s1 (aT i Tryz.underlying31 bt rfl rfl rfl (by omega) rfl) rfl<|s1 (bj Tryz.underlying55 rfl an (by decide) rfl rfl) rfl<|s1 (au an rfl rfl (bV hc (k:=0) rfl (by decide))) rfl<|s1 (aa rfl) rfl<|s1 (aa rfl) rfl ?_
  refine ah<|ae ?_
  refine aO rfl (fun hc18=>?_) (fun hc18=>?_)
  ·have h18 : c.id = id := by simpa using hc18
   refine af<|ai<|s1 (aa rfl) rfl<|s1 (aa rfl) rfl<|s1 (aT i Tryz.underlying31 bt rfl rfl rfl (by omega) rfl) rfl<|s1 (bj Tryz.underlying55 rfl an (by decide) rfl rfl) rfl<|s1 (au an rfl rfl (bV hc (k:=1) rfl (by decide))) rfl<|s1 (aa rfl) rfl ?_
   refine ah<|ae<|aE<|bg<|aH<|aH<|bg<|aH ?_
   refine aF (rs:= [.tmp 4]) rfl (aD rfl aB) ?_
   exact congrArg (A.i .i64) (hst.trans (LQ hc h18)).symm
  ·have h18 : ¬ c.id = id := by simpa using hc18
   refine aL<|bh<|ae<|ai<|s1 (aa rfl) rfl<|s1 (bc _ 1 rfl rfl rfl rfl (by omega)) rfl<|s1 (aa rfl) rfl ?_
   refine ah ?_
   exact br (i+1) (⟨by omega,hst.trans (LP hc h18)⟩) (by omega) [] hI rfl rfl ⟨⟨_,rfl,.pure pu⟩,⟨_,rfl,.pure pu⟩,⟨_,rfl,.pure pu⟩,trivial⟩ trivial
 ·obtain rfl : i = l.length := by have := of_decide_eq_false hc9; omega
  rw [List.drop_length]at hst
  refine bC<|aP<|aP<|bD<|ae<|af<|ai<|s1 ((aa rfl).v (v':= .i .i64 0) rfl) rfl ?_
  refine ah<|ae<|aE ?_
  refine aF (rs:= [.tmp 4]) rfl (aD rfl aB) ?_
  exact congrArg (A.i .i64) hst.symm
theorem oQ (σ:Int→Int) (S:List Ch) (hS:S=dr σ) (hs:gj σ) (l:List Ch) (hn:l.length≤maxLen):aA Tryz.prog 56 [cC S,cC l] (aN (.b (cR σ (-1) l))):=by
 refine enter Tryz.func56 rfl Tryz.ntmps56 (by kernel_rfl) (Nat.le_of_ble_eq_true rfl) fun w0 X0 hI=>?_
 refine af<|ai<|s1 (aa rfl) rfl ?_
 refine ah<|ae<|af<|af ?_
 simp only [maxLen]at hn
 have hSl:S.length≤1024:=by rw [hS];exact vi σ
 refine ai<|s1 ((aa rfl).v (v':= .i .i64 0) rfl) rfl ?_
 refine ah<|ae<|aM ?_
 refine bF (ι:=Nat) (fun i=> [(0,cC S),(1,cC l),(5,nJ i)]) (fun i=>⟨[]⟩) (fun i=>i≤l.length∧jO σ (-1) l=jO σ (fX l i) (l.drop i)∧ -1≤fX l i) (fun i=>l.length - i) ?_ ?_
 ·exact bE (0) (⟨Nat.zero_le _,rfl,Int.le_refl _⟩) [] hI rfl rfl ⟨⟨_,rfl,.pure pu⟩,⟨_,rfl,.pure pu⟩,⟨_,rfl,.pure pu⟩,trivial⟩ trivial
 rintro i ⟨hi,hst,hla⟩
 refine af<|af<|ai<|s1 (aa rfl) rfl<|s1 (aa rfl) rfl<|s1 (bu Tryz.underlying31 rfl rfl rfl) rfl<|s1 (aa rfl) rfl ?_
 refine ah<|ae ?_
 refine aO rfl (fun hc10=>?_) (fun hc10=>?_)
 ·have h10 : i < l.length := by have := of_decide_eq_true hc10; omega
  obtain⟨c,hc⟩:∃c,l[i]? =some c:=⟨_,List.getElem?_eq_getElem h10⟩
  refine aL<|ae<|af<|aM<|af<|ai<|s1 (aa rfl) rfl<|s1 (aa rfl) rfl<|s1 (aa rfl) rfl<|s1 (aT i Tryz.underlying31 bt rfl rfl rfl (by omega) rfl) rfl<|s1 (bj Tryz.underlying55 rfl an (by decide) rfl rfl) rfl<|s1 (au an rfl rfl (bV hc (k:=0) rfl (by decide))) rfl ?_
  refine ak rfl (aI false rfl (.cons (.pure pu) (.cons (.pure pu) (.nil))) (aA.cast (C6 S c.id (by simp only [maxLen];omega)) (congrArg (A.i .i64) (by rw [hS];exact DG hs _):_=A.i .i64 (σ c.id))) pu (.inl rfl) rfl ?_)
  refine s1 (aa rfl) rfl ?_
  refine ah<|ae<|af ?_
  rcases Mj (σ:=σ) hc hla with hcs|hcs|hcs|hcs|hcs|hcs|hcs|hcs|hcs|hcs|hcs
  ·obtain ⟨h1, hb⟩ := hcs
   refine dN 60 bx (by kernel_rfl) ?_
   refine t1 (aa rfl) rfl<|t1 (aa rfl) rfl<|t1 (aT i Tryz.underlying31 bt rfl rfl rfl (by omega) rfl) rfl<|t1 (bj Tryz.underlying55 rfl an (by decide) rfl rfl) rfl<|t1 (au an rfl rfl (bV hc (k:=0) rfl (by decide))) rfl<|t1 ((aa rfl).v (v':= .b true) (congrArg A.b (decide_eq_true (by omega)))) rfl<|t1 (aa rfl) rfl<|aR rfl rfl rfl rfl<|aR rfl rfl rfl rfl<|aR rfl rfl rfl rfl ?_
   refine aR rfl rfl rfl rfl<|aR rfl rfl rfl rfl<|aR rfl rfl rfl rfl<|t1 (aa rfl) rfl<|t1 (aa rfl) rfl<|aR rfl rfl rfl rfl<|aR rfl rfl rfl rfl<|aR rfl rfl rfl rfl<|aR rfl rfl rfl rfl<|aR rfl rfl rfl rfl ?_
   refine aR rfl rfl rfl rfl<|t1 (aa rfl) rfl<|t1 (aa rfl) rfl<|aR rfl rfl rfl rfl<|aR rfl rfl rfl rfl<|aR rfl rfl rfl rfl<|aR rfl rfl rfl rfl<|aR rfl rfl rfl rfl<|aR rfl rfl rfl rfl<|t1 (aa rfl) rfl ?_
   refine t1 (aa rfl) rfl<|aR rfl rfl rfl rfl<|aR rfl rfl rfl rfl<|aR rfl rfl rfl rfl<|cr rfl rfl rfl<|cr rfl rfl rfl<|cr rfl rfl rfl<|cr rfl rfl rfl<|cr rfl rfl rfl<|cr rfl rfl rfl ?_
   refine cr rfl rfl rfl<|cr rfl rfl rfl<|cr rfl rfl rfl<|cr rfl rfl rfl<|cr rfl rfl rfl<|cr rfl rfl rfl<|aR rfl rfl rfl rfl<|t1 (aa rfl) rfl<|t1 (aa rfl) rfl<|aR rfl rfl rfl rfl ?_
   refine aR rfl rfl rfl rfl<|aR rfl rfl rfl rfl<|aR rfl rfl rfl rfl<|aR rfl rfl rfl rfl<|aR rfl rfl rfl rfl<|aR rfl rfl rfl rfl<|t1 (aa rfl) rfl<|t1 (aa rfl) rfl<|aR rfl rfl rfl rfl<|aR rfl rfl rfl rfl ?_
   refine dO ?_
   refine s1 (aa rfl) rfl ?_
   refine ah<|ae ?_
   refine bR rfl ?_
   refine af<|ai<|s1 (aa rfl) rfl ?_
   refine ah<|ae<|aE<|bg<|aH<|aH<|bg<|aH ?_
   refine aF (rs:= [.tmp 4]) rfl (aD rfl aB) ?_
   exact congrArg A.b (((kB ..).trans hst).trans (lh hc hb)).symm
  ·obtain ⟨h0, h1, hb⟩ := hcs
   refine dN 60 bx (by kernel_rfl) ?_
   refine t1 (aa rfl) rfl<|t1 (aa rfl) rfl<|t1 (aT i Tryz.underlying31 bt rfl rfl rfl (by omega) rfl) rfl<|t1 (bj Tryz.underlying55 rfl an (by decide) rfl rfl) rfl<|t1 (au an rfl rfl (bV hc (k:=0) rfl (by decide))) rfl<|t1 ((aa rfl).v (v':= .b false) (congrArg A.b (decide_eq_false (by omega)))) rfl<|t1 (aa rfl) rfl<|aw rfl rfl (aa rfl) rfl<|aw rfl rfl (aa rfl) rfl<|aw rfl rfl (aT i Tryz.underlying31 bt rfl rfl rfl (by omega) rfl) rfl ?_
   refine aw rfl rfl (bj Tryz.underlying55 rfl an (by decide) rfl rfl) rfl<|aw rfl rfl (au an rfl rfl (bV hc (k:=0) rfl (by decide))) rfl<|aw rfl rfl ((aa rfl).v (v':= .b true) (congrArg A.b (decide_eq_true (by omega)))) rfl<|t1 (aa rfl) rfl<|t1 (aa rfl) rfl<|aR rfl rfl rfl rfl<|aR rfl rfl rfl rfl<|aR rfl rfl rfl rfl<|aR rfl rfl rfl rfl<|aR rfl rfl rfl rfl ?_
   refine aR rfl rfl rfl rfl<|t1 (aa rfl) rfl<|t1 (aa rfl) rfl<|aR rfl rfl rfl rfl<|aR rfl rfl rfl rfl<|aR rfl rfl rfl rfl<|aR rfl rfl rfl rfl<|aR rfl rfl rfl rfl<|aR rfl rfl rfl rfl<|t1 (aa rfl) rfl ?_
   refine t1 (aa rfl) rfl<|aR rfl rfl rfl rfl<|aR rfl rfl rfl rfl<|aR rfl rfl rfl rfl<|cr rfl rfl rfl<|cr rfl rfl rfl<|cr rfl rfl rfl<|cr rfl rfl rfl<|cr rfl rfl rfl<|cr rfl rfl rfl ?_
   refine cr rfl rfl rfl<|cr rfl rfl rfl<|cr rfl rfl rfl<|cr rfl rfl rfl<|cr rfl rfl rfl<|cr rfl rfl rfl<|aR rfl rfl rfl rfl<|t1 (aa rfl) rfl<|t1 (aa rfl) rfl<|aR rfl rfl rfl rfl ?_
   refine aR rfl rfl rfl rfl<|aR rfl rfl rfl rfl<|aR rfl rfl rfl rfl<|aR rfl rfl rfl rfl<|aR rfl rfl rfl rfl<|aR rfl rfl rfl rfl<|t1 (aa rfl) rfl<|t1 (aa rfl) rfl<|aR rfl rfl rfl rfl<|aR rfl rfl rfl rfl ?_
   refine dO ?_
   refine s1 (aa rfl) rfl ?_
   refine ah<|ae ?_
   refine bR rfl ?_
   refine af<|ai<|s1 (aa rfl) rfl ?_
   refine ah<|ae<|aE<|bg<|aH<|aH<|bg<|aH ?_
   refine aF (rs:= [.tmp 4]) rfl (aD rfl aB) ?_
   exact congrArg A.b (((kB ..).trans hst).trans (lh hc hb)).symm
  ·obtain ⟨⟨h0, h1⟩, h2, hb⟩ := hcs
   refine dN 60 bx (by kernel_rfl) ?_
   refine t1 (aa rfl) rfl<|t1 (aa rfl) rfl<|t1 (aT i Tryz.underlying31 bt rfl rfl rfl (by omega) rfl) rfl<|t1 (bj Tryz.underlying55 rfl an (by decide) rfl rfl) rfl<|t1 (au an rfl rfl (bV hc (k:=0) rfl (by decide))) rfl<|t1 ((aa rfl).v (v':= .b false) (congrArg A.b (decide_eq_false (by omega)))) rfl<|t1 (aa rfl) rfl<|aw rfl rfl (aa rfl) rfl<|aw rfl rfl (aa rfl) rfl<|aw rfl rfl (aT i Tryz.underlying31 bt rfl rfl rfl (by omega) rfl) rfl ?_
   refine aw rfl rfl (bj Tryz.underlying55 rfl an (by decide) rfl rfl) rfl<|aw rfl rfl (au an rfl rfl (bV hc (k:=0) rfl (by decide))) rfl<|aw rfl rfl ((aa rfl).v (v':= .b false) (congrArg A.b (decide_eq_false (by omega)))) rfl<|t1 (aa rfl) rfl<|t1 (aa rfl) rfl<|aw rfl rfl (aa rfl) rfl<|aw rfl rfl (aa rfl) rfl<|aw rfl rfl (aT i Tryz.underlying31 bt rfl rfl rfl (by omega) rfl) rfl<|aw rfl rfl (bj Tryz.underlying55 rfl an (by decide) rfl rfl) rfl<|aw rfl rfl (au an rfl rfl (bV hc (k:=1) rfl (by decide))) rfl ?_
   refine aw rfl rfl ((aa rfl).v (v':= .b true) (congrArg A.b (decide_eq_true (by omega)))) rfl<|t1 (aa rfl) rfl<|t1 (aa rfl) rfl<|aR rfl rfl rfl rfl<|aR rfl rfl rfl rfl<|aR rfl rfl rfl rfl<|aR rfl rfl rfl rfl<|aR rfl rfl rfl rfl<|aR rfl rfl rfl rfl<|t1 (aa rfl) rfl ?_
   refine t1 (aa rfl) rfl<|aR rfl rfl rfl rfl<|aR rfl rfl rfl rfl<|aR rfl rfl rfl rfl<|cr rfl rfl rfl<|cr rfl rfl rfl<|cr rfl rfl rfl<|cr rfl rfl rfl<|cr rfl rfl rfl<|cr rfl rfl rfl ?_
   refine cr rfl rfl rfl<|cr rfl rfl rfl<|cr rfl rfl rfl<|cr rfl rfl rfl<|cr rfl rfl rfl<|cr rfl rfl rfl<|aR rfl rfl rfl rfl<|t1 (aa rfl) rfl<|t1 (aa rfl) rfl<|aR rfl rfl rfl rfl ?_
   refine aR rfl rfl rfl rfl<|aR rfl rfl rfl rfl<|aR rfl rfl rfl rfl<|aR rfl rfl rfl rfl<|aR rfl rfl rfl rfl<|aR rfl rfl rfl rfl<|t1 (aa rfl) rfl<|t1 (aa rfl) rfl<|aR rfl rfl rfl rfl<|aR rfl rfl rfl rfl ?_
   refine dO ?_
   refine s1 (aa rfl) rfl ?_
   refine ah<|ae ?_
   refine bR rfl ?_
   refine af<|ai<|s1 (aa rfl) rfl ?_
   refine ah<|ae<|aE<|bg<|aH<|aH<|bg<|aH ?_
   refine aF (rs:= [.tmp 4]) rfl (aD rfl aB) ?_
   exact congrArg A.b (((kB ..).trans hst).trans (lh hc hb)).symm
  ·obtain ⟨⟨h0, h1, h2⟩, h3, hb⟩ := hcs
   refine dN 60 bx (by kernel_rfl) ?_
   refine t1 (aa rfl) rfl<|t1 (aa rfl) rfl<|t1 (aT i Tryz.underlying31 bt rfl rfl rfl (by omega) rfl) rfl<|t1 (bj Tryz.underlying55 rfl an (by decide) rfl rfl) rfl<|t1 (au an rfl rfl (bV hc (k:=0) rfl (by decide))) rfl<|t1 ((aa rfl).v (v':= .b false) (congrArg A.b (decide_eq_false (by omega)))) rfl<|t1 (aa rfl) rfl<|aw rfl rfl (aa rfl) rfl<|aw rfl rfl (aa rfl) rfl<|aw rfl rfl (aT i Tryz.underlying31 bt rfl rfl rfl (by omega) rfl) rfl ?_
   refine aw rfl rfl (bj Tryz.underlying55 rfl an (by decide) rfl rfl) rfl<|aw rfl rfl (au an rfl rfl (bV hc (k:=0) rfl (by decide))) rfl<|aw rfl rfl ((aa rfl).v (v':= .b false) (congrArg A.b (decide_eq_false (by omega)))) rfl<|t1 (aa rfl) rfl<|t1 (aa rfl) rfl<|aw rfl rfl (aa rfl) rfl<|aw rfl rfl (aa rfl) rfl<|aw rfl rfl (aT i Tryz.underlying31 bt rfl rfl rfl (by omega) rfl) rfl<|aw rfl rfl (bj Tryz.underlying55 rfl an (by decide) rfl rfl) rfl<|aw rfl rfl (au an rfl rfl (bV hc (k:=1) rfl (by decide))) rfl ?_
   refine aw rfl rfl ((aa rfl).v (v':= .b false) (congrArg A.b (decide_eq_false (by omega)))) rfl<|t1 (aa rfl) rfl<|t1 (aa rfl) rfl<|aw rfl rfl (aa rfl) rfl<|aw rfl rfl (aa rfl) rfl<|aw rfl rfl (aT i Tryz.underlying31 bt rfl rfl rfl (by omega) rfl) rfl<|aw rfl rfl (bj Tryz.underlying55 rfl an (by decide) rfl rfl) rfl<|aw rfl rfl (au an rfl rfl (bV hc (k:=1) rfl (by decide))) rfl<|aw rfl rfl ((aa rfl).v (v':= .b true) (congrArg A.b (decide_eq_true (by omega)))) rfl<|t1 (aa rfl) rfl ?_
   refine t1 (aa rfl) rfl<|aR rfl rfl rfl rfl<|aR rfl rfl rfl rfl<|aR rfl rfl rfl rfl<|cr rfl rfl rfl<|cr rfl rfl rfl<|cr rfl rfl rfl<|cr rfl rfl rfl<|cr rfl rfl rfl<|cr rfl rfl rfl ?_
   refine cr rfl rfl rfl<|cr rfl rfl rfl<|cr rfl rfl rfl<|cr rfl rfl rfl<|cr rfl rfl rfl<|cr rfl rfl rfl<|aR rfl rfl rfl rfl<|t1 (aa rfl) rfl<|t1 (aa rfl) rfl<|aR rfl rfl rfl rfl ?_
   refine aR rfl rfl rfl rfl<|aR rfl rfl rfl rfl<|aR rfl rfl rfl rfl<|aR rfl rfl rfl rfl<|aR rfl rfl rfl rfl<|aR rfl rfl rfl rfl<|t1 (aa rfl) rfl<|t1 (aa rfl) rfl<|aR rfl rfl rfl rfl<|aR rfl rfl rfl rfl ?_
   refine dO ?_
   refine s1 (aa rfl) rfl ?_
   refine ah<|ae ?_
   refine bR rfl ?_
   refine af<|ai<|s1 (aa rfl) rfl ?_
   refine ah<|ae<|aE<|bg<|aH<|aH<|bg<|aH ?_
   refine aF (rs:= [.tmp 4]) rfl (aD rfl aB) ?_
   exact congrArg A.b (((kB ..).trans hst).trans (lh hc hb)).symm
  ·obtain ⟨⟨r1, r2, r3, r4⟩, h0, ⟨p, hp, h5⟩, hb⟩ := hcs
   refine dN 60 bx (by kernel_rfl) ?_
   refine t1 (aa rfl) rfl<|t1 (aa rfl) rfl<|t1 (aT i Tryz.underlying31 bt rfl rfl rfl (by omega) rfl) rfl<|t1 (bj Tryz.underlying55 rfl an (by decide) rfl rfl) rfl<|t1 (au an rfl rfl (bV hc (k:=0) rfl (by decide))) rfl<|t1 ((aa rfl).v (v':= .b false) (congrArg A.b (decide_eq_false (by omega)))) rfl<|t1 (aa rfl) rfl<|aw rfl rfl (aa rfl) rfl<|aw rfl rfl (aa rfl) rfl<|aw rfl rfl (aT i Tryz.underlying31 bt rfl rfl rfl (by omega) rfl) rfl ?_
   refine aw rfl rfl (bj Tryz.underlying55 rfl an (by decide) rfl rfl) rfl<|aw rfl rfl (au an rfl rfl (bV hc (k:=0) rfl (by decide))) rfl<|aw rfl rfl ((aa rfl).v (v':= .b false) (congrArg A.b (decide_eq_false (by omega)))) rfl<|t1 (aa rfl) rfl<|t1 (aa rfl) rfl<|aw rfl rfl (aa rfl) rfl<|aw rfl rfl (aa rfl) rfl<|aw rfl rfl (aT i Tryz.underlying31 bt rfl rfl rfl (by omega) rfl) rfl<|aw rfl rfl (bj Tryz.underlying55 rfl an (by decide) rfl rfl) rfl<|aw rfl rfl (au an rfl rfl (bV hc (k:=1) rfl (by decide))) rfl ?_
   refine aw rfl rfl ((aa rfl).v (v':= .b false) (congrArg A.b (decide_eq_false (by omega)))) rfl<|t1 (aa rfl) rfl<|t1 (aa rfl) rfl<|aw rfl rfl (aa rfl) rfl<|aw rfl rfl (aa rfl) rfl<|aw rfl rfl (aT i Tryz.underlying31 bt rfl rfl rfl (by omega) rfl) rfl<|aw rfl rfl (bj Tryz.underlying55 rfl an (by decide) rfl rfl) rfl<|aw rfl rfl (au an rfl rfl (bV hc (k:=1) rfl (by decide))) rfl<|aw rfl rfl ((aa rfl).v (v':= .b false) (congrArg A.b (decide_eq_false (by omega)))) rfl<|t1 (aa rfl) rfl ?_
   refine t1 (aa rfl) rfl<|aw rfl rfl (aa rfl) rfl<|aw rfl rfl ((aa rfl).v (v':= .b true) (congrArg A.b (decide_eq_true (by omega)))) rfl<|aw rfl rfl (aa rfl) rfl<|aw rfl rfl (aa rfl) rfl<|aw rfl rfl (aa rfl) rfl<|aw rfl rfl ((gx rfl rfl (by omega) (by omega)).v (v':=nJ (i - 1)) (congrArg (A.i .i64) (by omega))) rfl<|aw rfl rfl (aT (i - 1) Tryz.underlying31 bt rfl rfl rfl (by omega) rfl) rfl<|aw rfl rfl (bj Tryz.underlying55 rfl an (by decide) rfl rfl) rfl<|aw rfl rfl (au an rfl rfl (bV hp (k:=0) rfl (by decide))) rfl ?_
   refine aw rfl rfl (aa rfl) rfl<|aw rfl rfl (aa rfl) rfl<|aw rfl rfl (aT i Tryz.underlying31 bt rfl rfl rfl (by omega) rfl) rfl<|aw rfl rfl (bj Tryz.underlying55 rfl an (by decide) rfl rfl) rfl<|aw rfl rfl (au an rfl rfl (bV hc (k:=0) rfl (by decide))) rfl<|aw rfl rfl ((aa rfl).v (v':= .b true) (congrArg A.b (decide_eq_true (by omega)))) rfl<|aw rfl rfl (aa rfl) rfl<|t1 (aa rfl) rfl<|t1 (aa rfl) rfl<|aR rfl rfl rfl rfl ?_
   refine aR rfl rfl rfl rfl<|aR rfl rfl rfl rfl<|aR rfl rfl rfl rfl<|aR rfl rfl rfl rfl<|aR rfl rfl rfl rfl<|aR rfl rfl rfl rfl<|t1 (aa rfl) rfl<|t1 (aa rfl) rfl<|aR rfl rfl rfl rfl<|aR rfl rfl rfl rfl ?_
   refine dO ?_
   refine s1 (aa rfl) rfl ?_
   refine ah<|ae ?_
   refine bR rfl ?_
   refine af<|ai<|s1 (aa rfl) rfl ?_
   refine ah<|ae<|aE<|bg<|aH<|aH<|bg<|aH ?_
   refine aF (rs:= [.tmp 4]) rfl (aD rfl aB) ?_
   exact congrArg A.b (((kB ..).trans hst).trans (lh hc hb)).symm
  ·obtain ⟨⟨r1, r2, r3, r4⟩, h0, h6, hb⟩ := hcs
   refine dN 60 bx (by kernel_rfl) ?_
   refine t1 (aa rfl) rfl<|t1 (aa rfl) rfl<|t1 (aT i Tryz.underlying31 bt rfl rfl rfl (by omega) rfl) rfl<|t1 (bj Tryz.underlying55 rfl an (by decide) rfl rfl) rfl<|t1 (au an rfl rfl (bV hc (k:=0) rfl (by decide))) rfl<|t1 ((aa rfl).v (v':= .b false) (congrArg A.b (decide_eq_false (by omega)))) rfl<|t1 (aa rfl) rfl<|aw rfl rfl (aa rfl) rfl<|aw rfl rfl (aa rfl) rfl<|aw rfl rfl (aT i Tryz.underlying31 bt rfl rfl rfl (by omega) rfl) rfl ?_
   refine aw rfl rfl (bj Tryz.underlying55 rfl an (by decide) rfl rfl) rfl<|aw rfl rfl (au an rfl rfl (bV hc (k:=0) rfl (by decide))) rfl<|aw rfl rfl ((aa rfl).v (v':= .b false) (congrArg A.b (decide_eq_false (by omega)))) rfl<|t1 (aa rfl) rfl<|t1 (aa rfl) rfl<|aw rfl rfl (aa rfl) rfl<|aw rfl rfl (aa rfl) rfl<|aw rfl rfl (aT i Tryz.underlying31 bt rfl rfl rfl (by omega) rfl) rfl<|aw rfl rfl (bj Tryz.underlying55 rfl an (by decide) rfl rfl) rfl<|aw rfl rfl (au an rfl rfl (bV hc (k:=1) rfl (by decide))) rfl ?_
   refine aw rfl rfl ((aa rfl).v (v':= .b false) (congrArg A.b (decide_eq_false (by omega)))) rfl<|t1 (aa rfl) rfl<|t1 (aa rfl) rfl<|aw rfl rfl (aa rfl) rfl<|aw rfl rfl (aa rfl) rfl<|aw rfl rfl (aT i Tryz.underlying31 bt rfl rfl rfl (by omega) rfl) rfl<|aw rfl rfl (bj Tryz.underlying55 rfl an (by decide) rfl rfl) rfl<|aw rfl rfl (au an rfl rfl (bV hc (k:=1) rfl (by decide))) rfl<|aw rfl rfl ((aa rfl).v (v':= .b false) (congrArg A.b (decide_eq_false (by omega)))) rfl<|t1 (aa rfl) rfl ?_
   refine t1 (aa rfl) rfl<|aw rfl rfl (aa rfl) rfl<|aw rfl rfl ((aa rfl).v (v':= .b false) (congrArg A.b (decide_eq_false (by omega)))) rfl<|aw rfl rfl (aa rfl) rfl<|aR rfl rfl rfl rfl<|aR rfl rfl rfl rfl<|aR rfl rfl rfl rfl<|aR rfl rfl rfl rfl<|aR rfl rfl rfl rfl<|aR rfl rfl rfl rfl ?_
   refine aR rfl rfl rfl rfl<|aR rfl rfl rfl rfl<|aR rfl rfl rfl rfl<|aR rfl rfl rfl rfl<|aR rfl rfl rfl rfl<|aR rfl rfl rfl rfl<|aw rfl rfl (aa rfl) rfl<|t1 (aa rfl) rfl<|t1 (aa rfl) rfl<|aw rfl rfl (aa rfl) rfl ?_
   refine aw rfl rfl (aa rfl) rfl<|aw rfl rfl (aT i Tryz.underlying31 bt rfl rfl rfl (by omega) rfl) rfl<|aw rfl rfl (bj Tryz.underlying55 rfl an (by decide) rfl rfl) rfl<|aw rfl rfl (au an rfl rfl (bV hc (k:=1) rfl (by decide))) rfl<|aw rfl rfl (aa rfl) rfl<|aw rfl rfl ((aa rfl).v (v':= .b true) (congrArg A.b (beq_iff_eq.2 (by omega)))) rfl<|t1 (aa rfl) rfl<|t1 (aa rfl) rfl<|aR rfl rfl rfl rfl<|aR rfl rfl rfl rfl ?_
   refine dO ?_
   refine s1 (aa rfl) rfl ?_
   refine ah<|ae ?_
   refine bR rfl ?_
   refine af<|ai<|s1 (aa rfl) rfl ?_
   refine ah<|ae<|aE<|bg<|aH<|aH<|bg<|aH ?_
   refine aF (rs:= [.tmp 4]) rfl (aD rfl aB) ?_
   exact congrArg A.b (((kB ..).trans hst).trans (lh hc hb)).symm
  ·obtain ⟨⟨r1, r2, r3, r4⟩, h0, ⟨p, hp, h5⟩, h6, hb⟩ := hcs
   refine dN 60 bx (by kernel_rfl) ?_
   refine t1 (aa rfl) rfl<|t1 (aa rfl) rfl<|t1 (aT i Tryz.underlying31 bt rfl rfl rfl (by omega) rfl) rfl<|t1 (bj Tryz.underlying55 rfl an (by decide) rfl rfl) rfl<|t1 (au an rfl rfl (bV hc (k:=0) rfl (by decide))) rfl<|t1 ((aa rfl).v (v':= .b false) (congrArg A.b (decide_eq_false (by omega)))) rfl<|t1 (aa rfl) rfl<|aw rfl rfl (aa rfl) rfl<|aw rfl rfl (aa rfl) rfl<|aw rfl rfl (aT i Tryz.underlying31 bt rfl rfl rfl (by omega) rfl) rfl ?_
   refine aw rfl rfl (bj Tryz.underlying55 rfl an (by decide) rfl rfl) rfl<|aw rfl rfl (au an rfl rfl (bV hc (k:=0) rfl (by decide))) rfl<|aw rfl rfl ((aa rfl).v (v':= .b false) (congrArg A.b (decide_eq_false (by omega)))) rfl<|t1 (aa rfl) rfl<|t1 (aa rfl) rfl<|aw rfl rfl (aa rfl) rfl<|aw rfl rfl (aa rfl) rfl<|aw rfl rfl (aT i Tryz.underlying31 bt rfl rfl rfl (by omega) rfl) rfl<|aw rfl rfl (bj Tryz.underlying55 rfl an (by decide) rfl rfl) rfl<|aw rfl rfl (au an rfl rfl (bV hc (k:=1) rfl (by decide))) rfl ?_
   refine aw rfl rfl ((aa rfl).v (v':= .b false) (congrArg A.b (decide_eq_false (by omega)))) rfl<|t1 (aa rfl) rfl<|t1 (aa rfl) rfl<|aw rfl rfl (aa rfl) rfl<|aw rfl rfl (aa rfl) rfl<|aw rfl rfl (aT i Tryz.underlying31 bt rfl rfl rfl (by omega) rfl) rfl<|aw rfl rfl (bj Tryz.underlying55 rfl an (by decide) rfl rfl) rfl<|aw rfl rfl (au an rfl rfl (bV hc (k:=1) rfl (by decide))) rfl<|aw rfl rfl ((aa rfl).v (v':= .b false) (congrArg A.b (decide_eq_false (by omega)))) rfl<|t1 (aa rfl) rfl ?_
   refine t1 (aa rfl) rfl<|aw rfl rfl (aa rfl) rfl<|aw rfl rfl ((aa rfl).v (v':= .b true) (congrArg A.b (decide_eq_true (by omega)))) rfl<|aw rfl rfl (aa rfl) rfl<|aw rfl rfl (aa rfl) rfl<|aw rfl rfl (aa rfl) rfl<|aw rfl rfl ((gx rfl rfl (by omega) (by omega)).v (v':=nJ (i - 1)) (congrArg (A.i .i64) (by omega))) rfl<|aw rfl rfl (aT (i - 1) Tryz.underlying31 bt rfl rfl rfl (by omega) rfl) rfl<|aw rfl rfl (bj Tryz.underlying55 rfl an (by decide) rfl rfl) rfl<|aw rfl rfl (au an rfl rfl (bV hp (k:=0) rfl (by decide))) rfl ?_
   refine aw rfl rfl (aa rfl) rfl<|aw rfl rfl (aa rfl) rfl<|aw rfl rfl (aT i Tryz.underlying31 bt rfl rfl rfl (by omega) rfl) rfl<|aw rfl rfl (bj Tryz.underlying55 rfl an (by decide) rfl rfl) rfl<|aw rfl rfl (au an rfl rfl (bV hc (k:=0) rfl (by decide))) rfl<|aw rfl rfl ((aa rfl).v (v':= .b false) (congrArg A.b (decide_eq_false (by omega)))) rfl<|aw rfl rfl (aa rfl) rfl<|t1 (aa rfl) rfl<|t1 (aa rfl) rfl<|aw rfl rfl (aa rfl) rfl ?_
   refine aw rfl rfl (aa rfl) rfl<|aw rfl rfl (aT i Tryz.underlying31 bt rfl rfl rfl (by omega) rfl) rfl<|aw rfl rfl (bj Tryz.underlying55 rfl an (by decide) rfl rfl) rfl<|aw rfl rfl (au an rfl rfl (bV hc (k:=1) rfl (by decide))) rfl<|aw rfl rfl (aa rfl) rfl<|aw rfl rfl ((aa rfl).v (v':= .b true) (congrArg A.b (beq_iff_eq.2 (by omega)))) rfl<|t1 (aa rfl) rfl<|t1 (aa rfl) rfl<|aR rfl rfl rfl rfl<|aR rfl rfl rfl rfl ?_
   refine dO ?_
   refine s1 (aa rfl) rfl ?_
   refine ah<|ae ?_
   refine bR rfl ?_
   refine af<|ai<|s1 (aa rfl) rfl ?_
   refine ah<|ae<|aE<|bg<|aH<|aH<|bg<|aH ?_
   refine aF (rs:= [.tmp 4]) rfl (aD rfl aB) ?_
   exact congrArg A.b (((kB ..).trans hst).trans (lh hc hb)).symm
  ·obtain ⟨⟨r1, r2, r3, r4⟩, h0, h6, h7, hb⟩ := hcs
   refine dN 60 bx (by kernel_rfl) ?_
   refine t1 (aa rfl) rfl<|t1 (aa rfl) rfl<|t1 (aT i Tryz.underlying31 bt rfl rfl rfl (by omega) rfl) rfl<|t1 (bj Tryz.underlying55 rfl an (by decide) rfl rfl) rfl<|t1 (au an rfl rfl (bV hc (k:=0) rfl (by decide))) rfl<|t1 ((aa rfl).v (v':= .b false) (congrArg A.b (decide_eq_false (by omega)))) rfl<|t1 (aa rfl) rfl<|aw rfl rfl (aa rfl) rfl<|aw rfl rfl (aa rfl) rfl<|aw rfl rfl (aT i Tryz.underlying31 bt rfl rfl rfl (by omega) rfl) rfl ?_
   refine aw rfl rfl (bj Tryz.underlying55 rfl an (by decide) rfl rfl) rfl<|aw rfl rfl (au an rfl rfl (bV hc (k:=0) rfl (by decide))) rfl<|aw rfl rfl ((aa rfl).v (v':= .b false) (congrArg A.b (decide_eq_false (by omega)))) rfl<|t1 (aa rfl) rfl<|t1 (aa rfl) rfl<|aw rfl rfl (aa rfl) rfl<|aw rfl rfl (aa rfl) rfl<|aw rfl rfl (aT i Tryz.underlying31 bt rfl rfl rfl (by omega) rfl) rfl<|aw rfl rfl (bj Tryz.underlying55 rfl an (by decide) rfl rfl) rfl<|aw rfl rfl (au an rfl rfl (bV hc (k:=1) rfl (by decide))) rfl ?_
   refine aw rfl rfl ((aa rfl).v (v':= .b false) (congrArg A.b (decide_eq_false (by omega)))) rfl<|t1 (aa rfl) rfl<|t1 (aa rfl) rfl<|aw rfl rfl (aa rfl) rfl<|aw rfl rfl (aa rfl) rfl<|aw rfl rfl (aT i Tryz.underlying31 bt rfl rfl rfl (by omega) rfl) rfl<|aw rfl rfl (bj Tryz.underlying55 rfl an (by decide) rfl rfl) rfl<|aw rfl rfl (au an rfl rfl (bV hc (k:=1) rfl (by decide))) rfl<|aw rfl rfl ((aa rfl).v (v':= .b false) (congrArg A.b (decide_eq_false (by omega)))) rfl<|t1 (aa rfl) rfl ?_
   refine t1 (aa rfl) rfl<|aw rfl rfl (aa rfl) rfl<|aw rfl rfl ((aa rfl).v (v':= .b false) (congrArg A.b (decide_eq_false (by omega)))) rfl<|aw rfl rfl (aa rfl) rfl<|aR rfl rfl rfl rfl<|aR rfl rfl rfl rfl<|aR rfl rfl rfl rfl<|aR rfl rfl rfl rfl<|aR rfl rfl rfl rfl<|aR rfl rfl rfl rfl ?_
   refine aR rfl rfl rfl rfl<|aR rfl rfl rfl rfl<|aR rfl rfl rfl rfl<|aR rfl rfl rfl rfl<|aR rfl rfl rfl rfl<|aR rfl rfl rfl rfl<|aw rfl rfl (aa rfl) rfl<|t1 (aa rfl) rfl<|t1 (aa rfl) rfl<|aw rfl rfl (aa rfl) rfl ?_
   refine aw rfl rfl (aa rfl) rfl<|aw rfl rfl (aT i Tryz.underlying31 bt rfl rfl rfl (by omega) rfl) rfl<|aw rfl rfl (bj Tryz.underlying55 rfl an (by decide) rfl rfl) rfl<|aw rfl rfl (au an rfl rfl (bV hc (k:=1) rfl (by decide))) rfl<|aw rfl rfl (aa rfl) rfl<|aw rfl rfl ((aa rfl).v (v':= .b false) (congrArg A.b (beq_eq_false_iff_ne.2 (by omega)))) rfl<|t1 (aa rfl) rfl<|t1 (aa rfl) rfl<|aw rfl rfl (aa rfl) rfl<|aw rfl rfl ((aa rfl).v (v':= .b true) (congrArg A.b (beq_iff_eq.2 (by omega)))) rfl ?_
   refine dO ?_
   refine s1 (aa rfl) rfl ?_
   refine ah<|ae ?_
   refine bR rfl ?_
   refine af<|ai<|s1 (aa rfl) rfl ?_
   refine ah<|ae<|aE<|bg<|aH<|aH<|bg<|aH ?_
   refine aF (rs:= [.tmp 4]) rfl (aD rfl aB) ?_
   exact congrArg A.b (((kB ..).trans hst).trans (lh hc hb)).symm
  ·obtain ⟨⟨r1, r2, r3, r4⟩, h0, ⟨p, hp, h5⟩, h6, h7, hb⟩ := hcs
   refine dN 60 bx (by kernel_rfl) ?_
   refine t1 (aa rfl) rfl<|t1 (aa rfl) rfl<|t1 (aT i Tryz.underlying31 bt rfl rfl rfl (by omega) rfl) rfl<|t1 (bj Tryz.underlying55 rfl an (by decide) rfl rfl) rfl<|t1 (au an rfl rfl (bV hc (k:=0) rfl (by decide))) rfl<|t1 ((aa rfl).v (v':= .b false) (congrArg A.b (decide_eq_false (by omega)))) rfl<|t1 (aa rfl) rfl<|aw rfl rfl (aa rfl) rfl<|aw rfl rfl (aa rfl) rfl<|aw rfl rfl (aT i Tryz.underlying31 bt rfl rfl rfl (by omega) rfl) rfl ?_
   refine aw rfl rfl (bj Tryz.underlying55 rfl an (by decide) rfl rfl) rfl<|aw rfl rfl (au an rfl rfl (bV hc (k:=0) rfl (by decide))) rfl<|aw rfl rfl ((aa rfl).v (v':= .b false) (congrArg A.b (decide_eq_false (by omega)))) rfl<|t1 (aa rfl) rfl<|t1 (aa rfl) rfl<|aw rfl rfl (aa rfl) rfl<|aw rfl rfl (aa rfl) rfl<|aw rfl rfl (aT i Tryz.underlying31 bt rfl rfl rfl (by omega) rfl) rfl<|aw rfl rfl (bj Tryz.underlying55 rfl an (by decide) rfl rfl) rfl<|aw rfl rfl (au an rfl rfl (bV hc (k:=1) rfl (by decide))) rfl ?_
   refine aw rfl rfl ((aa rfl).v (v':= .b false) (congrArg A.b (decide_eq_false (by omega)))) rfl<|t1 (aa rfl) rfl<|t1 (aa rfl) rfl<|aw rfl rfl (aa rfl) rfl<|aw rfl rfl (aa rfl) rfl<|aw rfl rfl (aT i Tryz.underlying31 bt rfl rfl rfl (by omega) rfl) rfl<|aw rfl rfl (bj Tryz.underlying55 rfl an (by decide) rfl rfl) rfl<|aw rfl rfl (au an rfl rfl (bV hc (k:=1) rfl (by decide))) rfl<|aw rfl rfl ((aa rfl).v (v':= .b false) (congrArg A.b (decide_eq_false (by omega)))) rfl<|t1 (aa rfl) rfl ?_
   refine t1 (aa rfl) rfl<|aw rfl rfl (aa rfl) rfl<|aw rfl rfl ((aa rfl).v (v':= .b true) (congrArg A.b (decide_eq_true (by omega)))) rfl<|aw rfl rfl (aa rfl) rfl<|aw rfl rfl (aa rfl) rfl<|aw rfl rfl (aa rfl) rfl<|aw rfl rfl ((gx rfl rfl (by omega) (by omega)).v (v':=nJ (i - 1)) (congrArg (A.i .i64) (by omega))) rfl<|aw rfl rfl (aT (i - 1) Tryz.underlying31 bt rfl rfl rfl (by omega) rfl) rfl<|aw rfl rfl (bj Tryz.underlying55 rfl an (by decide) rfl rfl) rfl<|aw rfl rfl (au an rfl rfl (bV hp (k:=0) rfl (by decide))) rfl ?_
   refine aw rfl rfl (aa rfl) rfl<|aw rfl rfl (aa rfl) rfl<|aw rfl rfl (aT i Tryz.underlying31 bt rfl rfl rfl (by omega) rfl) rfl<|aw rfl rfl (bj Tryz.underlying55 rfl an (by decide) rfl rfl) rfl<|aw rfl rfl (au an rfl rfl (bV hc (k:=0) rfl (by decide))) rfl<|aw rfl rfl ((aa rfl).v (v':= .b false) (congrArg A.b (decide_eq_false (by omega)))) rfl<|aw rfl rfl (aa rfl) rfl<|t1 (aa rfl) rfl<|t1 (aa rfl) rfl<|aw rfl rfl (aa rfl) rfl ?_
   refine aw rfl rfl (aa rfl) rfl<|aw rfl rfl (aT i Tryz.underlying31 bt rfl rfl rfl (by omega) rfl) rfl<|aw rfl rfl (bj Tryz.underlying55 rfl an (by decide) rfl rfl) rfl<|aw rfl rfl (au an rfl rfl (bV hc (k:=1) rfl (by decide))) rfl<|aw rfl rfl (aa rfl) rfl<|aw rfl rfl ((aa rfl).v (v':= .b false) (congrArg A.b (beq_eq_false_iff_ne.2 (by omega)))) rfl<|t1 (aa rfl) rfl<|t1 (aa rfl) rfl<|aw rfl rfl (aa rfl) rfl<|aw rfl rfl ((aa rfl).v (v':= .b true) (congrArg A.b (beq_iff_eq.2 (by omega)))) rfl ?_
   refine dO ?_
   refine s1 (aa rfl) rfl ?_
   refine ah<|ae ?_
   refine bR rfl ?_
   refine af<|ai<|s1 (aa rfl) rfl ?_
   refine ah<|ae<|aE<|bg<|aH<|aH<|bg<|aH ?_
   refine aF (rs:= [.tmp 4]) rfl (aD rfl aB) ?_
   exact congrArg A.b (((kB ..).trans hst).trans (lh hc hb)).symm
  ·obtain ⟨⟨r1, r2, r3, r4⟩, h0, h6, h7, hb⟩ := hcs
   refine dN 60 bx (by kernel_rfl) ?_
   refine t1 (aa rfl) rfl<|t1 (aa rfl) rfl<|t1 (aT i Tryz.underlying31 bt rfl rfl rfl (by omega) rfl) rfl<|t1 (bj Tryz.underlying55 rfl an (by decide) rfl rfl) rfl<|t1 (au an rfl rfl (bV hc (k:=0) rfl (by decide))) rfl<|t1 ((aa rfl).v (v':= .b false) (congrArg A.b (decide_eq_false (by omega)))) rfl<|t1 (aa rfl) rfl<|aw rfl rfl (aa rfl) rfl<|aw rfl rfl (aa rfl) rfl<|aw rfl rfl (aT i Tryz.underlying31 bt rfl rfl rfl (by omega) rfl) rfl ?_
   refine aw rfl rfl (bj Tryz.underlying55 rfl an (by decide) rfl rfl) rfl<|aw rfl rfl (au an rfl rfl (bV hc (k:=0) rfl (by decide))) rfl<|aw rfl rfl ((aa rfl).v (v':= .b false) (congrArg A.b (decide_eq_false (by omega)))) rfl<|t1 (aa rfl) rfl<|t1 (aa rfl) rfl<|aw rfl rfl (aa rfl) rfl<|aw rfl rfl (aa rfl) rfl<|aw rfl rfl (aT i Tryz.underlying31 bt rfl rfl rfl (by omega) rfl) rfl<|aw rfl rfl (bj Tryz.underlying55 rfl an (by decide) rfl rfl) rfl<|aw rfl rfl (au an rfl rfl (bV hc (k:=1) rfl (by decide))) rfl ?_
   refine aw rfl rfl ((aa rfl).v (v':= .b false) (congrArg A.b (decide_eq_false (by omega)))) rfl<|t1 (aa rfl) rfl<|t1 (aa rfl) rfl<|aw rfl rfl (aa rfl) rfl<|aw rfl rfl (aa rfl) rfl<|aw rfl rfl (aT i Tryz.underlying31 bt rfl rfl rfl (by omega) rfl) rfl<|aw rfl rfl (bj Tryz.underlying55 rfl an (by decide) rfl rfl) rfl<|aw rfl rfl (au an rfl rfl (bV hc (k:=1) rfl (by decide))) rfl<|aw rfl rfl ((aa rfl).v (v':= .b false) (congrArg A.b (decide_eq_false (by omega)))) rfl<|t1 (aa rfl) rfl ?_
   refine t1 (aa rfl) rfl<|aw rfl rfl (aa rfl) rfl<|aw rfl rfl ((aa rfl).v (v':= .b false) (congrArg A.b (decide_eq_false (by omega)))) rfl<|aw rfl rfl (aa rfl) rfl<|aR rfl rfl rfl rfl<|aR rfl rfl rfl rfl<|aR rfl rfl rfl rfl<|aR rfl rfl rfl rfl<|aR rfl rfl rfl rfl<|aR rfl rfl rfl rfl ?_
   refine aR rfl rfl rfl rfl<|aR rfl rfl rfl rfl<|aR rfl rfl rfl rfl<|aR rfl rfl rfl rfl<|aR rfl rfl rfl rfl<|aR rfl rfl rfl rfl<|aw rfl rfl (aa rfl) rfl<|t1 (aa rfl) rfl<|t1 (aa rfl) rfl<|aw rfl rfl (aa rfl) rfl ?_
   refine aw rfl rfl (aa rfl) rfl<|aw rfl rfl (aT i Tryz.underlying31 bt rfl rfl rfl (by omega) rfl) rfl<|aw rfl rfl (bj Tryz.underlying55 rfl an (by decide) rfl rfl) rfl<|aw rfl rfl (au an rfl rfl (bV hc (k:=1) rfl (by decide))) rfl<|aw rfl rfl (aa rfl) rfl<|aw rfl rfl ((aa rfl).v (v':= .b false) (congrArg A.b (beq_eq_false_iff_ne.2 (by omega)))) rfl<|t1 (aa rfl) rfl<|t1 (aa rfl) rfl<|aw rfl rfl (aa rfl) rfl<|aw rfl rfl ((aa rfl).v (v':= .b false) (congrArg A.b (beq_eq_false_iff_ne.2 (by omega)))) rfl ?_
   refine dO ?_
   refine s1 (aa rfl) rfl ?_
   refine ah<|ae ?_
   refine cF rfl ?_
   refine aL<|bh<|ae<|ai<|s1 (aa rfl) rfl<|s1 (bc _ 1 rfl rfl rfl rfl (by omega)) rfl<|s1 (aa rfl) rfl ?_
   refine ah ?_
   exact br (i+1) (⟨by omega,hst.trans (by rw [zb hc hb,p7 hc]),by rw [p7 hc];omega⟩) (by omega) [] hI rfl rfl ⟨⟨_,rfl,.pure pu⟩,⟨_,rfl,.pure pu⟩,⟨_,rfl,.pure pu⟩,trivial⟩ trivial
  ·obtain ⟨⟨r1, r2, r3, r4⟩, h0, ⟨p, hp, h5⟩, h6, h7, hb⟩ := hcs
   refine dN 60 bx (by kernel_rfl) ?_
   refine t1 (aa rfl) rfl<|t1 (aa rfl) rfl<|t1 (aT i Tryz.underlying31 bt rfl rfl rfl (by omega) rfl) rfl<|t1 (bj Tryz.underlying55 rfl an (by decide) rfl rfl) rfl<|t1 (au an rfl rfl (bV hc (k:=0) rfl (by decide))) rfl<|t1 ((aa rfl).v (v':= .b false) (congrArg A.b (decide_eq_false (by omega)))) rfl<|t1 (aa rfl) rfl<|aw rfl rfl (aa rfl) rfl<|aw rfl rfl (aa rfl) rfl<|aw rfl rfl (aT i Tryz.underlying31 bt rfl rfl rfl (by omega) rfl) rfl ?_
   refine aw rfl rfl (bj Tryz.underlying55 rfl an (by decide) rfl rfl) rfl<|aw rfl rfl (au an rfl rfl (bV hc (k:=0) rfl (by decide))) rfl<|aw rfl rfl ((aa rfl).v (v':= .b false) (congrArg A.b (decide_eq_false (by omega)))) rfl<|t1 (aa rfl) rfl<|t1 (aa rfl) rfl<|aw rfl rfl (aa rfl) rfl<|aw rfl rfl (aa rfl) rfl<|aw rfl rfl (aT i Tryz.underlying31 bt rfl rfl rfl (by omega) rfl) rfl<|aw rfl rfl (bj Tryz.underlying55 rfl an (by decide) rfl rfl) rfl<|aw rfl rfl (au an rfl rfl (bV hc (k:=1) rfl (by decide))) rfl ?_
   refine aw rfl rfl ((aa rfl).v (v':= .b false) (congrArg A.b (decide_eq_false (by omega)))) rfl<|t1 (aa rfl) rfl<|t1 (aa rfl) rfl<|aw rfl rfl (aa rfl) rfl<|aw rfl rfl (aa rfl) rfl<|aw rfl rfl (aT i Tryz.underlying31 bt rfl rfl rfl (by omega) rfl) rfl<|aw rfl rfl (bj Tryz.underlying55 rfl an (by decide) rfl rfl) rfl<|aw rfl rfl (au an rfl rfl (bV hc (k:=1) rfl (by decide))) rfl<|aw rfl rfl ((aa rfl).v (v':= .b false) (congrArg A.b (decide_eq_false (by omega)))) rfl<|t1 (aa rfl) rfl ?_
   refine t1 (aa rfl) rfl<|aw rfl rfl (aa rfl) rfl<|aw rfl rfl ((aa rfl).v (v':= .b true) (congrArg A.b (decide_eq_true (by omega)))) rfl<|aw rfl rfl (aa rfl) rfl<|aw rfl rfl (aa rfl) rfl<|aw rfl rfl (aa rfl) rfl<|aw rfl rfl ((gx rfl rfl (by omega) (by omega)).v (v':=nJ (i - 1)) (congrArg (A.i .i64) (by omega))) rfl<|aw rfl rfl (aT (i - 1) Tryz.underlying31 bt rfl rfl rfl (by omega) rfl) rfl<|aw rfl rfl (bj Tryz.underlying55 rfl an (by decide) rfl rfl) rfl<|aw rfl rfl (au an rfl rfl (bV hp (k:=0) rfl (by decide))) rfl ?_
   refine aw rfl rfl (aa rfl) rfl<|aw rfl rfl (aa rfl) rfl<|aw rfl rfl (aT i Tryz.underlying31 bt rfl rfl rfl (by omega) rfl) rfl<|aw rfl rfl (bj Tryz.underlying55 rfl an (by decide) rfl rfl) rfl<|aw rfl rfl (au an rfl rfl (bV hc (k:=0) rfl (by decide))) rfl<|aw rfl rfl ((aa rfl).v (v':= .b false) (congrArg A.b (decide_eq_false (by omega)))) rfl<|aw rfl rfl (aa rfl) rfl<|t1 (aa rfl) rfl<|t1 (aa rfl) rfl<|aw rfl rfl (aa rfl) rfl ?_
   refine aw rfl rfl (aa rfl) rfl<|aw rfl rfl (aT i Tryz.underlying31 bt rfl rfl rfl (by omega) rfl) rfl<|aw rfl rfl (bj Tryz.underlying55 rfl an (by decide) rfl rfl) rfl<|aw rfl rfl (au an rfl rfl (bV hc (k:=1) rfl (by decide))) rfl<|aw rfl rfl (aa rfl) rfl<|aw rfl rfl ((aa rfl).v (v':= .b false) (congrArg A.b (beq_eq_false_iff_ne.2 (by omega)))) rfl<|t1 (aa rfl) rfl<|t1 (aa rfl) rfl<|aw rfl rfl (aa rfl) rfl<|aw rfl rfl ((aa rfl).v (v':= .b false) (congrArg A.b (beq_eq_false_iff_ne.2 (by omega)))) rfl ?_
   refine dO ?_
   refine s1 (aa rfl) rfl ?_
   refine ah<|ae ?_
   refine cF rfl ?_
   refine aL<|bh<|ae<|ai<|s1 (aa rfl) rfl<|s1 (bc _ 1 rfl rfl rfl rfl (by omega)) rfl<|s1 (aa rfl) rfl ?_
   refine ah ?_
   exact br (i+1) (⟨by omega,hst.trans (by rw [zb hc hb,p7 hc]),by rw [p7 hc];omega⟩) (by omega) [] hI rfl rfl ⟨⟨_,rfl,.pure pu⟩,⟨_,rfl,.pure pu⟩,⟨_,rfl,.pure pu⟩,trivial⟩ trivial
 ·obtain rfl : i = l.length := by have := of_decide_eq_false hc10; omega
  rw [List.drop_length]at hst
  refine bC<|aP<|aP<|bD<|ae<|af<|ai<|s1 (aa rfl) rfl ?_
  refine ah<|ae<|aE ?_
  refine aF (rs:= [.tmp 4]) rfl (aD rfl aB) ?_
  exact congrArg A.b ((kB ..).trans hst).symm
theorem CO (σ:Int→Int) (S:List Ch) (hS:S=dr σ) (hs:gj σ) (l:List Ch) (hn:l.length≤maxLen):aA Tryz.prog 57 [cC S,cC l] (aN (cC (dr (aX σ l)))):=by
 refine enter Tryz.func57 rfl Tryz.ntmps57 (by kernel_rfl) (Nat.le_of_ble_eq_true rfl) fun w0 X0 hI=>?_
 refine af<|ai<|s1 (aa rfl) rfl ?_
 refine ah<|ae<|af ?_
 simp only [maxLen]at hn
 have hSl:S.length≤1024:=by rw [hS];exact vi σ
 obtain⟨τ,hτ⟩:∃τ,τ=aX σ l:=⟨_,rfl⟩
 refine ai ?_
 refine ak rfl (fY 9 rfl Tryz.underlying31 bt rfl rfl rfl (by first|(simp [aY];done)|(simp [aY, *];done)) rfl rfl rfl rfl ?_)
 refine s1 (aa rfl) rfl ?_
 refine ah<|ae<|af<|af<|ai<|s1 ((aa rfl).v (v':= .i .i64 0) rfl) rfl ?_
 refine ah<|ae<|aM ?_
 refine bF (ι:=Nat) (fun m=> [(0,cC S),(1,cC l),(5,.sl 9 2 0 (gB τ m).length),(6,nJ m)]) (fun m=>⟨[(9,some (eD (gB τ m)))]⟩) (fun m=>m≤1024) (fun m=>1024 - m) ?_ ?_
 ·exact bE (0) (Nat.zero_le _) [(9,some 9)] hI rfl rfl ⟨⟨_,rfl,.pure pu⟩,⟨_,rfl,.pure pu⟩,⟨_,rfl,.sl rfl (by first|rfl|omega|(simp<;>omega)|(simp [*]<;>omega))⟩,⟨_,rfl,.pure pu⟩,trivial⟩ ⟨.inr ⟨_,_,rfl,rfl,.of (by rfl) (.pure aq)⟩,trivial⟩
 intro m hm
 have hjl:=FN τ m
 refine af<|af<|ai<|s1 (aa rfl) rfl<|s1 (aa rfl) rfl ?_
 refine ah<|ae ?_
 refine aO rfl (fun hc11=>?_) (fun hc11=>?_)
 ·have h11 : m < 1024 := by have := of_decide_eq_true hc11; omega
  refine aL<|ae<|af<|aM<|af<|ai<|s1 (aa rfl) rfl<|s1 (aa rfl) rfl ?_
  refine ak rfl (aI false rfl (.cons (.pure pu) (.cons (.pure pu) (.nil))) (aA.cast (C6 S (m:Nat) (by simp only [maxLen];omega)) (congrArg (A.i .i64) (by rw [hS];exact DG hs _):_=A.i .i64 (σ (m:Nat)))) pu (.inl rfl) rfl ?_)
  refine s1 (aa rfl) rfl ?_
  refine ah<|ae<|af<|af<|ai<|s1 ((aa rfl).v (v':= .i .i64 0) rfl) rfl ?_
  refine ah<|ae<|aM ?_
  refine bF (ι:=Nat×Int) (fun⟨j,w⟩=> [(0,cC S),(1,cC l),(5,.sl 9 2 0 (gB τ m).length),(6,nJ m),(7,.i .i64 w),(8,nJ j)]) (fun⟨j,w⟩=>⟨[(9,some (eD (gB τ m)))]⟩) (fun⟨j,w⟩=>j≤l.length∧w=aX σ (l.take j) (m:Nat)) (fun⟨j,w⟩=>l.length - j) ?_ ?_
  ·exact bE ((0,σ (m:Nat))) (⟨Nat.zero_le _,by simp [aX]⟩) [(9,some 9)] hI rfl rfl ⟨⟨_,rfl,.pure pu⟩,⟨_,rfl,.pure pu⟩,⟨_,rfl,.sl rfl (by first|rfl|omega|(simp<;>omega)|(simp [*]<;>omega))⟩,⟨_,rfl,.pure pu⟩,⟨_,rfl,.pure pu⟩,⟨_,rfl,.pure pu⟩,trivial⟩ ⟨.inr ⟨_,_,rfl,rfl,.pure aq⟩,trivial⟩
  rintro⟨j,w⟩ ⟨hj,hw⟩
  dsimp only
  refine af<|af<|ai<|s1 (aa rfl) rfl<|s1 (aa rfl) rfl<|s1 (bu Tryz.underlying31 rfl rfl rfl) rfl<|s1 (aa rfl) rfl ?_
  refine ah<|ae ?_
  refine aO rfl (fun hc20=>?_) (fun hc20=>?_)
  ·have h20 : j < l.length := by have := of_decide_eq_true hc20; omega
   obtain⟨c,hc⟩:∃c,l[j]? =some c:=⟨_,List.getElem?_eq_getElem h20⟩
   refine aL<|ae<|af<|aM<|af<|ai<|s1 (aa rfl) rfl<|s1 (aa rfl) rfl<|s1 (aT j Tryz.underlying31 bt rfl rfl rfl (by omega) rfl) rfl<|s1 (bj Tryz.underlying55 rfl an (by decide) rfl rfl) rfl<|s1 (au an rfl rfl (bV hc (k:=0) rfl (by decide))) rfl<|s1 (aa rfl) rfl<|s1 (aa rfl) rfl ?_
   refine ah<|ae ?_
   refine aO rfl (fun hc29=>?_) (fun hc29=>?_)
   ·have h29 : c.id = (m : Nat) := by simpa using hc29
    refine ai<|s1 (aa rfl) rfl<|s1 (aa rfl) rfl<|s1 (aT j Tryz.underlying31 bt rfl rfl rfl (by omega) rfl) rfl<|s1 (bj Tryz.underlying55 rfl an (by decide) rfl rfl) rfl<|s1 (au an rfl rfl (bV hc (k:=1) rfl (by decide))) rfl<|s1 (aa rfl) rfl ?_
    refine ah<|bh<|ae<|ai<|s1 (aa rfl) rfl<|s1 (bc _ 1 rfl rfl rfl rfl (by omega)) rfl<|s1 (aa rfl) rfl ?_
    refine ah ?_
    exact br (x:=(j,w)) ((j+1,c.st)) (⟨show j+1≤l.length by omega,by rw [zi σ hc,if_pos h29]⟩) (show l.length - (j+1)<l.length - j by omega) [(9,some 9)] hI rfl rfl ⟨⟨_,rfl,.pure pu⟩,⟨_,rfl,.pure pu⟩,⟨_,rfl,.sl rfl (by first|rfl|omega|(simp<;>omega)|(simp [*]<;>omega))⟩,⟨_,rfl,.pure pu⟩,⟨_,rfl,.pure pu⟩,⟨_,rfl,.pure pu⟩,trivial⟩ ⟨.inr ⟨_,_,rfl,rfl,.pure aq⟩,trivial⟩
   ·have h29 : ¬ c.id = (m : Nat) := by simpa using hc29
    refine aL<|bh<|ae<|ai<|s1 (aa rfl) rfl<|s1 (bc _ 1 rfl rfl rfl rfl (by omega)) rfl<|s1 (aa rfl) rfl ?_
    refine ah ?_
    exact br (x:=(j,w)) ((j+1,w)) (⟨show j+1≤l.length by omega,by rw [zi σ hc,if_neg h29];exact hw⟩) (show l.length - (j+1)<l.length - j by omega) [(9,some 9)] hI rfl rfl ⟨⟨_,rfl,.pure pu⟩,⟨_,rfl,.pure pu⟩,⟨_,rfl,.sl rfl (by first|rfl|omega|(simp<;>omega)|(simp [*]<;>omega))⟩,⟨_,rfl,.pure pu⟩,⟨_,rfl,.pure pu⟩,⟨_,rfl,.pure pu⟩,trivial⟩ ⟨.inr ⟨_,_,rfl,rfl,.pure aq⟩,trivial⟩
  ·obtain rfl : j = l.length := by have := of_decide_eq_false hc20; omega
   rw [List.take_length, ←hτ]at hw
   have hw2:=hw.symm
   refine bC<|aP<|aP<|bD<|ae<|af<|ai<|s1 (aa rfl) rfl<|s1 (aa rfl) rfl ?_
   refine ah<|ae ?_
   refine aO rfl (fun hc36=>?_) (fun hc36=>?_)
   ·have h36 : τ (m : Nat) ≠ 0 := by rw [hw2]; simpa using hc36
    have hjs:(gB τ (m+1)).length=(gB τ m).length+1:=by rw [za h36];simp
    refine ai<|s1 (aa rfl) rfl<|s1 (aa rfl) rfl<|s1 (aa rfl) rfl<|s1 (ey (out:= [_,_]) [[a6 (.int .i64 0)], [a6 (.int .i64 0)]] bt rfl Tryz.underlying55 (by kernel_rfl) rfl rfl ⟨⟨by(first|rfl|omega|(simp;done)|(simp [*];done)|(simp [aY, *];done)),rfl⟩,⟨⟨by(first|rfl|omega|(simp;done)|(simp [*];done)|(simp [aY, *];done)),rfl⟩,trivial⟩⟩ rfl) rfl ?_
    refine ak rfl (fY 41 rfl Tryz.underlying31 bt rfl rfl rfl (by simp [aY]) (show _=Ch.cells ⟨m,w⟩from List.append_nil _) rfl rfl rfl ?_)
    refine ak rfl (cT 42 rfl Tryz.underlying31 bt rfl (.sl rfl (by simp)) rfl (cE rfl (by first|rfl|omega|(simp<;>omega)|(simp [*]<;>omega))) (by simp) (by simp only [maxLen];omega) (by omega) rfl rfl rfl ?_)
    refine s1 (aa rfl) rfl ?_
    refine ah<|bh<|ae<|ai<|s1 (aa rfl) rfl<|s1 (bc _ 1 rfl rfl rfl rfl (by omega)) rfl<|s1 (aa rfl) rfl ?_
    refine ah ?_
    exact br (m+1) (by omega) (by omega) [(9,some 42)] hI rfl rfl ⟨⟨_,rfl,.pure pu⟩,⟨_,rfl,.pure pu⟩,⟨_,rfl,.sl rfl (by first|rfl|omega|(simp<;>omega)|(simp [*]<;>omega))⟩,⟨_,rfl,.pure pu⟩,trivial⟩ ⟨.inr ⟨_,_,rfl,rfl,.of (by rw [za h36,hw2];simp [eD]) (.pure aq)⟩,trivial⟩
   ·have h36 : τ (m : Nat) = 0 := by rw [hw2]; simpa using hc36
    have hjs:(gB τ (m+1)).length=(gB τ m).length:=by rw [y9 h36]
    refine aL<|bh<|ae<|ai<|s1 (aa rfl) rfl<|s1 (bc _ 1 rfl rfl rfl rfl (by omega)) rfl<|s1 (aa rfl) rfl ?_
    refine ah ?_
    exact br (m+1) (by omega) (by omega) [(9,some 9)] hI rfl rfl ⟨⟨_,rfl,.pure pu⟩,⟨_,rfl,.pure pu⟩,⟨_,rfl,.sl rfl (by first|rfl|omega|(simp<;>omega)|(simp [*]<;>omega))⟩,⟨_,rfl,.pure pu⟩,trivial⟩ ⟨.inr ⟨_,_,rfl,rfl,.of (by rw [y9 h36]) (.pure aq)⟩,trivial⟩
 ·obtain rfl : m = 1024 := by have := of_decide_eq_false hc11; omega
  refine bC<|aP<|aP<|bD<|ae<|af<|ai<|s1 (aa rfl) rfl<|s1 (aa rfl) rfl ?_
  refine ah<|ae<|aE ?_
  refine cX 9 (cs':=eD (dr τ)) rfl rfl ?_
  refine gp 4 rfl rfl aq (cm (by rw [Im];rfl) rfl) ?_
  refine aF (rs:= [.tmp 4]) rfl (aD rfl aB) ?_
  rw [←hτ];rfl
end Go.Abs.D2
-- C5B
namespace Go.Abs.D2
open Go Go.Eng Go.Abs Go.Proofs
theorem GJ (x:List UInt8) (hx:x.length=32):aA Tryz.prog 183 [.ag (x.map u8)] (ra (fun i=> .fn (.func 209) [] [.p i 0]) (x.map u8)):=by
 refine enter Tryz.func183 rfl Tryz.ntmps183 (by kernel_rfl) (Nat.le_of_ble_eq_true rfl) fun w0 X0 hI=>?_
 refine af<|ai ?_
 refine ak rfl (bK 1 rfl rfl rfl ?_)
 refine s1 (aa rfl) rfl ?_
 refine ah<|ae<|af<|ai<|s1 (gA (us:= []) (vs:= [.p 1 0]) rfl rfl) rfl<|s1 (aa rfl) rfl ?_
 refine ah<|ae<|aE ?_
 refine aF (rs:= [.tmp 2]) rfl (aD rfl aB) ⟨1,rfl,rfl⟩
theorem uO (x:List UInt8) (n:Nat) (hx:x.length=32) (hn:n≤1000):aA Tryz.prog 136 [.ag (x.map u8),.i .i64 (n:Nat)] (aN (.ag ((ep n x).map u8))):=by
 refine nZ Tryz.func136 rfl Tryz.ntmps136 (by kernel_rfl) (Nat.le_of_ble_eq_true rfl) fun w0 X0 hI hS=>?_
 refine af<|ai ?_
 refine ak rfl (bK 2 rfl rfl rfl ?_)
 refine ak rfl (kG 3 rfl rfl rfl rfl ?_)
 refine ak rfl (bp 4 rfl az rfl rfl ?_)
 refine ah<|ae<|af<|af<|ai<|s1 (aV az rfl rfl (by first|rfl|omega|(simp<;>omega)|(simp [*]<;>omega))) rfl ?_
 refine ak rfl (BZ (mk:=fun i=> .fn (.func 209) [] [.p i 0]) td 7 rfl false rfl (.cons (.pure pu) (.nil)) (GJ x hx) aq (.inl rfl) rfl ?_)
 refine ah<|ae<|aM ?_
 refine uZ [2,3,4,7] [(0,_),(1,_),(2,_),(3,_),(4,_),(6,_),(7,_)] hI rfl ⟨rfl,⟨rfl,⟨rfl,⟨rfl,⟨rfl,⟨rfl,⟨rfl,trivial⟩⟩⟩⟩⟩⟩⟩ (by first|rfl|(simp [jx,jA,refs,eu,mj,refs_pu,cw];done)) rfl Tryz.func209 rfl Tryz.ntmps209 (by kernel_rfl) (Nat.le_of_ble_eq_true rfl) fun w1 l1 D1 rc1 hR1=>?_
 refine aM ?_
 refine bF (ι:=Nat) (fun k=> [(0,yv l1),(1,.p 7 0)]) (fun k=>⟨[(2,some (x.map u8)),(3,some ([.i .i64 ((n - k:Nat):Int)])),(4,some (List.replicate 32 (u8 0))),(7,some (((ep k x).map u8)))]⟩) (fun k=>k≤n) (fun k=>n - k) ?_ ?_
 ·exact bE (0) (Nat.zero_le _) [(2,some 2),(3,some 3),(4,some 4),(7,some 7)] hR1.sub.ids rfl rfl ⟨⟨_,rfl,.pure trivial⟩,⟨_,rfl,.p rfl⟩,trivial⟩ ⟨.inr ⟨_,_,rfl,rfl,.pure aq⟩,.inr ⟨_,_,rfl,rfl,.pure aq⟩,.inr ⟨_,_,rfl,rfl,.pure aq⟩,.inr ⟨_,_,rfl,rfl,.pure aq⟩,trivial⟩
 rintro k hk
 have hxk:=jr hx k
 refine af<|af<|ai<|s1 (aa rfl) rfl<|s1 (aV az rfl rfl (by first|rfl|omega|(simp<;>omega)|(simp [*]<;>omega))) rfl ?_
 refine rD [2,3,4,7] [(0,_),(1,_),(3,_),(4,_)] hR1 hR1.sub.ids rfl ⟨rfl,⟨rfl,⟨rfl,⟨rfl,trivial⟩⟩⟩⟩ (by first|rfl|(simp [jx,jA,refs,eu,mj,refs_pu,cw];done)) rfl rfl rfl rfl rfl fun w2 tm2 hd2=>?_
 refine ai ?_
 refine ak rfl (bp 5 rfl az rfl rfl ?_)
 refine ak rfl (bb az rfl rfl rfl (by first|rfl|omega|(simp<;>omega)|(simp [*]<;>omega)) (by first|rfl|omega|(simp<;>omega)|(simp [*]<;>omega)) ?_)
 refine ah ?_
 refine rz hd2 fun w3 hd3=>?_
 refine aM<|af<|af<|ai<|s1 (au an rfl rfl rfl) rfl<|s1 (aa rfl) rfl ?_
 refine ah<|ae ?_
 refine aO rfl (fun hc10=>?_) (fun hc10=>?_)
 ·have h10 : k = n := by have := of_decide_eq_true hc10; omega
  subst h10
  refine af<|ai<|s1 (aV az rfl rfl (by first|rfl|omega|(simp<;>omega)|(simp [*]<;>omega))) rfl ?_
  refine ak rfl (bb az rfl rfl rfl (by first|rfl|omega|(simp<;>omega)|(simp [*]<;>omega)) (by first|rfl|omega|(simp<;>omega)|(simp [*]<;>omega)) ?_)
  refine ah<|ae<|aE<|aH<|bg ?_
  refine E9 hR1 hd3 rfl fun w4 hR4=>?_
  refine ah<|ae ?_
  refine cF rfl ?_
  refine bC<|aP<|aP<|bD ?_
  refine E2 rfl hR4 hS ?_
  refine aE<|bg<|aH ?_
  refine px (rs:= [.cell 4 23]) rfl rfl rfl hS (dn:= [D1]) rfl rfl (by simp) rfl (bW az rfl rfl (List.take_of_length_le (by simp [hxk])) (by simp [hxk]) aB) rfl
 ·have h10 : k < n := by have := of_decide_eq_false hc10; omega
  refine aL<|ae<|ai<|s1 (au an rfl rfl rfl) rfl<|s1 (cQ (n - k) 1 rfl rfl rfl rfl (by omega) (by omega)) rfl ?_
  refine ak rfl (bZ an rfl rfl rfl rfl (by first|rfl|omega|(simp<;>omega)|(simp [*]<;>omega)) rfl ?_)
  refine ah<|bh ?_
  refine rB hR1 hd3 rfl ?_
  refine ah<|ae ?_
  refine bR rfl ?_
  refine aL<|ae<|aM<|ai<|s1 (fF Tryz.underlying23 aQ rfl rfl (by first|rfl|omega|(simp<;>omega)|(simp [*]<;>omega)) (by simp [maxLen])) rfl ?_
  refine ak rfl (aI true rfl (.cons (.pure pu) (.cons (.sl rfl rfl (by first|rfl|omega|(simp<;>omega)|(simp [*]<;>omega)) (cm (by first|rfl|omega|(simp<;>omega)|(simp [*]<;>omega)) (by first|rfl|(simp;done)|(simp [*];done))) (a8.pure aq) aq) (.nil))) (g9 [115,116,101,112] (ep k x) (by omega) (by simp)) pu (.inr fu) rfl ?_)
  refine ak rfl (bb az rfl rfl rfl (by first|rfl|omega|(simp<;>omega)|(simp [*]<;>omega)) (by first|rfl|omega|(simp<;>omega)|(simp [*]<;>omega)) ?_)
  refine ah<|bh ?_
  exact br (k+1) (by omega) (by omega) [(2,some 2),(3,some 3),(4,some 4),(7,some 7)] hR1.sub.ids rfl rfl ⟨⟨_,rfl,.pure trivial⟩,⟨_,rfl,.p rfl⟩,trivial⟩ ⟨.inr ⟨_,_,rfl,rfl,.pure aq⟩,.inr ⟨_,_,rfl,rfl,.of (by rfl) (.pure aq)⟩,.inr ⟨_,_,rfl,rfl,.pure aq⟩,.inr ⟨_,_,rfl,rfl,.of (by rw [ep,xG]) (.pure aq)⟩,trivial⟩
end Go.Abs.D2
-- C5C
namespace Go.Abs.D2
open Go Go.Eng Go.Abs Go.Proofs
theorem DE (m:List UInt8) (hm:m.length=32):aA Tryz.prog 133 [.ag (m.map u8)] (aN (.ag ((digits m).map nI))):=by
 refine enter Tryz.func133 rfl Tryz.ntmps133 (by kernel_rfl) (Nat.le_of_ble_eq_true rfl) fun w0 X0 hI=>?_
 refine af<|ai ?_
 refine ak rfl (bK 1 rfl rfl rfl ?_)
 refine ak rfl (bp 2 rfl ua rfl rfl ?_)
 refine ah<|ae<|af<|ai<|s1 ((aa rfl).v (v':= .i .i64 0) rfl) rfl ?_
 refine ah<|ae<|af<|af<|ai<|s1 ((aa rfl).v (v':= .i .i64 0) rfl) rfl ?_
 refine ah<|ae<|aM ?_
 refine bF (ι:=Nat) (fun k=> [(1,.p 1 0),(2,.p 2 0),(3,nI (c4 m k)),(6,nI k)]) (fun k=>⟨[(1,some (m.map u8)),(2,some ((dl m k).map nI++List.replicate (19 - k) (nI 0)))]⟩) (fun k=>k≤16) (fun k=>16 - k) ?_ ?_
 ·exact bE (0) (Nat.zero_le _) [(1,some 1),(2,some 2)] hI rfl rfl ⟨⟨_,rfl,.p rfl⟩,⟨_,rfl,.p rfl⟩,⟨_,rfl,.of (by rw [xI];rfl) (.pure pu)⟩,⟨_,rfl,.pure pu⟩,trivial⟩ ⟨.inr ⟨_,_,rfl,rfl,.pure aq⟩,.inr ⟨_,_,rfl,rfl,.of (by rw [z6];rfl) (.pure aq)⟩,trivial⟩
 rintro k hk
 have hsk:=nv m k
 have hdk:=rW m k
 refine af<|ai<|s1 (aa rfl) rfl ?_
 refine ah<|ae<|af ?_
 refine aO rfl (fun hc7=>?_) (fun hc7=>?_)
 ·have h7 : k < 16 := by have := of_decide_eq_true hc7; omega
  refine aL<|ae<|af<|aM<|af<|ai<|s1 (aa rfl) rfl<|s1 (aa rfl) rfl ?_
  refine ah<|ae<|af<|ai<|s1 (aa rfl) rfl<|s1 (aa rfl) rfl<|s1 (iS k 4 rfl rfl rfl rfl (by decide) (by omega)) rfl<|s1 (bI (k / 4) Tryz.underlying23 aQ rfl rfl rfl (by omega) rfl) rfl<|s1 (au aQ rfl rfl (A2 (k / 4) (by omega))) rfl<|s1 (aa rfl) rfl<|s1 (iF k 4 rfl rfl rfl rfl (by decide)) rfl<|s1 (gv 2 (k % 4) rfl rfl rfl rfl (by omega)) rfl<|s1 (cQ 6 (2*(k % 4)) rfl rfl rfl rfl (by omega) (by omega)) rfl<|s1 (qF _ (6 - 2*(k % 4)) rfl rfl rfl (by omega)) rfl ?_
  refine s1 (cV Tryz.underlying5 Tryz.underlying3 rfl) rfl<|s1 ((ki rfl rfl (.inl rfl)).v (Gw m k)) rfl<|s1 (bI k Tryz.underlying170 an rfl rfl rfl (by omega) rfl) rfl ?_
  refine ak rfl (bZ an rfl rfl rfl rfl (by simp;omega) (Ln m k h7) ?_)
  refine ah<|ae<|ai<|s1 (aa rfl) rfl<|s1 (aa rfl) rfl<|s1 (bI k Tryz.underlying170 an rfl rfl rfl (by omega) rfl) rfl<|s1 (au an rfl rfl (HD m k rfl)) rfl<|s1 (cQ 3 (gS m k) rfl rfl rfl rfl (by omega) (by omega)) rfl<|s1 (bc (c4 m k) (3 - gS m k) rfl rfl rfl rfl (by omega)) rfl<|s1 (aa rfl) rfl ?_
  refine ah<|bh<|ae<|ai<|s1 (bc _ 1 rfl rfl rfl rfl (by omega)) rfl<|s1 (aa rfl) rfl ?_
  refine ah ?_
  exact br (k+1) (by omega) (by omega) [(1,some 1),(2,some 2)] hI rfl rfl ⟨⟨_,rfl,.p rfl⟩,⟨_,rfl,.p rfl⟩,⟨_,rfl,.of (by rw [xJ]) (.pure pu)⟩,⟨_,rfl,.pure pu⟩,trivial⟩ ⟨.inr ⟨_,_,rfl,rfl,.pure aq⟩,.inr ⟨_,_,rfl,rfl,.pure aq⟩,trivial⟩
 ·have h7 : k = 16 := by have := of_decide_eq_false hc7; omega
  subst h7
  refine bC<|aP<|aP<|bD<|ae<|af<|af<|ai<|s1 ((aa rfl).v (v':= .i .i64 18) rfl) rfl ?_
  refine ah<|ae<|aM ?_
  refine bF (ι:=Nat) (fun j=> [(1,.p 1 0),(2,.p 2 0),(3,nI (c4 m 16 / 4 ^ j)),(5,nI (18 - j))]) (fun j=>⟨[(1,some (m.map u8)),(2,some (mz m j))]⟩) (fun j=>j≤3) (fun j=>3 - j) ?_ ?_
  ·exact bE (0) (Nat.zero_le _) [(1,some 1),(2,some 2)] hI rfl rfl ⟨⟨_,rfl,.p rfl⟩,⟨_,rfl,.p rfl⟩,⟨_,rfl,.of (by simp) (.pure pu)⟩,⟨_,rfl,.pure pu⟩,trivial⟩ ⟨.inr ⟨_,_,rfl,rfl,.pure aq⟩,.inr ⟨_,_,rfl,rfl,.of (L5 m) (.pure aq)⟩,trivial⟩
  rintro j hj
  have hs16:=nv m 16
  have hsj:c4 m 16 / 4 ^ j≤48:=Nat.le_trans (Nat.div_le_self _ _) (by omega)
  refine af<|af<|ai<|s1 (aa rfl) rfl<|s1 (aa rfl) rfl ?_
  refine ah<|ae ?_
  refine aO rfl (fun hc30=>?_) (fun hc30=>?_)
  ·have h30 : j < 3 := by have := of_decide_eq_true hc30; omega
   refine aL<|ae<|af<|aM<|af<|ai<|s1 (aa rfl) rfl<|s1 (aa rfl) rfl<|s1 (iF (c4 m 16 / 4 ^ j) 4 rfl rfl rfl rfl (by decide)) rfl<|s1 (bI (18 - j) Tryz.underlying170 an rfl rfl rfl (by omega) rfl) rfl ?_
   refine ak rfl (bZ an rfl rfl rfl rfl (by simp [wL];omega) rfl ?_)
   refine ah<|ae<|ai<|s1 (aa rfl) rfl<|s1 (iS (c4 m 16 / 4 ^ j) 4 rfl rfl rfl rfl (by decide) (by omega)) rfl<|s1 (aa rfl) rfl ?_
   refine ah<|bh<|ae<|ai<|s1 (aa rfl) rfl<|s1 (cQ (18 - j) 1 rfl rfl rfl rfl (by omega) (by omega)) rfl<|s1 (aa rfl) rfl ?_
   refine ah ?_
   exact br (j+1) (by omega) (by omega) [(1,some 1),(2,some 2)] hI rfl rfl ⟨⟨_,rfl,.p rfl⟩,⟨_,rfl,.p rfl⟩,⟨_,rfl,.of (by rw [Nat.div_div_eq_div_mul, ←Nat.pow_succ]) (.pure pu)⟩,⟨_,rfl,.of (congrArg nI (by omega)) (.pure pu)⟩,trivial⟩ ⟨.inr ⟨_,_,rfl,rfl,.pure aq⟩,.inr ⟨_,_,rfl,rfl,.of (Lt m j h30) (.pure aq)⟩,trivial⟩
  ·have h30 : j = 3 := by have := of_decide_eq_false hc30; omega
   subst h30
   refine cX 2 rfl (L6 m) ?_
   refine bC<|aP<|aP<|bD<|ae<|af<|ai<|s1 (aV ua rfl rfl (by first|rfl|omega|(simp<;>omega)|(simp [*]<;>omega))) rfl ?_
   refine ak rfl (bb ua rfl rfl rfl (by first|rfl|omega|(simp<;>omega)|(simp [*]<;>omega)) (by first|rfl|omega|(simp<;>omega)|(simp [*]<;>omega)) ?_)
   refine ah<|ae<|aE ?_
   refine aF (rs:= [.cell 2 170]) rfl (bW ua rfl rfl (List.take_of_length_le (by simp)) (by simp) aB) rfl
theorem Bj (parts:List (List UInt8)) (hk:parts.length≤1048576) (ht:parts.flatten.length≤140737488300000):aA Tryz.prog 184 [.fz parts.length (parts.map dz)] (dq 1 parts.flatten.length (parts.flatten.map u8)):=by
 refine enter Tryz.func184 rfl Tryz.ntmps184 (by kernel_rfl) (Nat.le_of_ble_eq_true rfl) fun w0 X0 hI=>?_
 refine af<|ai<|s1 (aa rfl) rfl ?_
 refine ah<|ae<|af<|af<|ai<|s1 (aa rfl) rfl<|s1 (bu Tryz.underlying182 rfl rfl rfl) rfl<|s1 ((aa rfl).v (v':= .i .i64 0) rfl) rfl ?_
 refine ah<|ae<|aM ?_
 refine bF (ι:=Nat) (fun i=> [(2,.sl 2 1 0 (parts.take i).flatten.length),(5,.fz parts.length (parts.map dz)),(6,nI parts.length),(7,nI i)]) (fun i=>⟨[(2,some ((parts.take i).flatten.map u8))]⟩) (fun i=>i≤parts.length) (fun i=>parts.length - i) ?_ ?_
 ·exact bE (0) (Nat.zero_le _) [(2,none)] hI rfl rfl ⟨⟨_,rfl,.nl rfl⟩,⟨_,rfl,.pure pu⟩,⟨_,rfl,.pure pu⟩,⟨_,rfl,.pure pu⟩,trivial⟩ ⟨.inl ⟨rfl,rfl⟩,trivial⟩
 rintro i hi
 refine af<|ai<|s1 (aa rfl) rfl ?_
 refine ah<|ae<|af ?_
 refine aO rfl (fun hc8=>?_) (fun hc8=>?_)
 ·have hi2 : i < parts.length := by have := of_decide_eq_true hc8; omega
  obtain⟨p,hp⟩:∃p,parts[i]? =some p:=⟨_,List.getElem?_eq_getElem hi2⟩
  have hpl:=Ir hp
  refine aL<|ae<|af<|aM<|af<|ai<|s1 (aT i Tryz.underlying182 ef rfl rfl rfl (by omega) rfl) rfl<|s1 (au ef rfl rfl (A3 hp)) rfl<|s1 (aa rfl) rfl ?_
  refine ah<|ae<|ai<|s1 (aa rfl) rfl<|s1 (aa rfl) rfl ?_
  refine ak rfl (cT 13 rfl Tryz.underlying68 aQ rfl (.sl rfl (by rw [List.length_map,Nat.mul_one])) rfl rfl (by simp) (by simp only [maxLen];omega) (by omega) rfl rfl rfl ?_)
  refine s1 (aa rfl) rfl ?_
  refine ah<|bh<|ae<|ai<|s1 (bc _ 1 rfl rfl rfl rfl (by omega)) rfl<|s1 (aa rfl) rfl ?_
  refine ah ?_
  exact br (i+1) (by omega) (by omega) [(2,some 13)] hI rfl rfl ⟨⟨_,rfl,.sl rfl (by first|rfl|omega|(simp<;>omega)|(simp [*]<;>omega))⟩,⟨_,rfl,.pure pu⟩,⟨_,rfl,.pure pu⟩,⟨_,rfl,.pure pu⟩,trivial⟩ ⟨.inr ⟨_,_,rfl,rfl,.of (by rw [←List.map_append,xM hp]) (.pure aq)⟩,trivial⟩
 ·have hi2 : i = parts.length := by have := of_decide_eq_false hc8; omega
  subst hi2
  refine bC<|aP<|aP<|bD<|ae<|af<|ai<|s1 (aa rfl) rfl<|s1 (aa rfl) rfl ?_
  refine ah<|ae<|aE ?_
  refine aF (rs:= [.tmp 2]) rfl (aD rfl aB) ⟨2,?_,?_⟩
  ·rw [List.take_length];rfl
  ·rw [List.take_length];rfl
theorem L2 (x:List UInt8) (i:Nat) (hx:x.length=32):aA Tryz.prog 50 [.s [99,104,97,105,110],.fz 33 (x.map u8++ [u8 (UInt8.ofNat i)])] (aN (.ag ((iz x i).map u8))):=by
  rw [AO];simpa [hx]using g9 [99,104,97,105,110] (x++ [UInt8.ofNat i]) (by simp [hx]) (by simp)
theorem yP (x:List UInt8) (i:Nat) (hx:x.length=32):aA Tryz.prog 137 [.ag (x.map u8),nI i] (aN (.ag ((iz x i).map u8))):=by
 refine enter Tryz.func137 rfl Tryz.ntmps137 (by kernel_rfl) (Nat.le_of_ble_eq_true rfl) fun w0 X0 hI=>?_
 refine af<|ai ?_
 refine ak rfl (bK 2 rfl rfl rfl ?_)
 refine ak rfl (bp 4 rfl az rfl rfl ?_)
 refine ah<|ae<|af<|ai<|s1 (fF Tryz.underlying23 aQ rfl rfl (by first|rfl|omega|(simp<;>omega)|(simp [*]<;>omega)) (by simp [maxLen])) rfl<|s1 (aa rfl) rfl<|s1 (Cn i Tryz.underlying3 Tryz.underlying5 rfl rfl) rfl ?_
 refine ak rfl (dG 8 rfl Tryz.underlying68 aQ rfl rfl rfl rfl rfl ?_)
 refine ak rfl (dG 9 rfl Tryz.underlying182 ef rfl rfl rfl rfl rfl ?_)
 refine ak rfl (iP 10 rfl true rfl (.cons (.sl rfl rfl rfl rfl (.cons (.sl rfl rfl (by first|rfl|omega|(simp<;>omega)|(simp [*]<;>omega)) (cm (by simp [hx]) rfl) (a8.pure aq) aq) (.cons (.sl rfl rfl rfl (cm rfl rfl) (a8.pure aq) aq) .nil)) aq) .nil) (by simpa [dz,hx]using Bj [x, [UInt8.ofNat i]] (by simp) (by simp [hx])) aq (.inr fI) rfl ?_)
 refine ak rfl (aI true rfl (.cons (.pure pu) (.cons (.sl rfl rfl (by first|rfl|omega|(simp<;>omega)|(simp [*]<;>omega)) (cm (by first|rfl|omega|(simp<;>omega)|(simp [*]<;>omega)) (by first|rfl|(simp;done)|(simp [*];done))) (a8.pure aq) aq) (.nil))) (L2 x i hx) pu (.inr fu) rfl ?_)
 refine ak rfl (bb az rfl rfl rfl (by first|rfl|omega|(simp<;>omega)|(simp [*]<;>omega)) (by first|rfl|omega|(simp<;>omega)|(simp [*]<;>omega)) ?_)
 refine ah<|ae<|aE ?_
 refine aF (rs:= [.cell 4 23]) rfl (bW az rfl rfl (List.take_of_length_le (by simp)) (by simp) aB) rfl
end Go.Abs.D2
-- C5D
namespace Go.Abs.D2
open Go Go.Eng Go.Abs Go.Proofs
theorem L3 (L:List (List UInt8)) (hD:aK L) (hl:L.length=19):aA Tryz.prog 50 [.s [112,117,98,108,105,99],.fz L.flatten.length (L.flatten.map u8)] (aN (.ag ((jX L).map u8))):=by
  rw [wC];exact g9 [112,117,98,108,105,99] L.flatten (by rw [hD.len,hl];omega) (by simp)
theorem HS (L:List (List UInt8)) (hD:aK L) (hl:L.length=19):aA Tryz.prog 184 [.fz 19 (L.map dz)] (dq 1 L.flatten.length (L.flatten.map u8)):=by
  have:=Bj L (by omega) (by rw [hD.len,hl];omega)
  rwa [hl]at this
theorem CJ (L:List (List UInt8)) (hD:aK L) (hl:L.length=19):aA Tryz.prog 180 [.ag (L.flatten.map u8)] (aN (.ag ((jX L).map u8))):=by
 refine enter Tryz.func180 rfl Tryz.ntmps180 (by kernel_rfl) (Nat.le_of_ble_eq_true rfl) fun w0 X0 hI=>?_
 refine af<|ai ?_
 refine ak rfl (bK 1 rfl rfl rfl ?_)
 refine ak rfl (bp 2 rfl az rfl rfl ?_)
 refine ah<|ae<|af<|ai ?_
 refine ak rfl (qi 5 rfl 19 19 Tryz.underlying182 ef rfl rfl rfl rfl rfl (by first|omega|(simp only [maxLen];omega)|(simp [maxLen];done)|(simp [maxLen];omega)|(simp [maxLen, *];omega)) (by first|omega|(simp only [maxLen];omega)|(simp [maxLen];done)|(simp [maxLen];omega)|(simp [maxLen, *];omega)) (by first|omega|(simp only [maxLen];omega)|(simp [maxLen];done)|(simp [maxLen];omega)|(simp [maxLen, *];omega)) rfl ?_)
 refine s1 (aa rfl) rfl ?_
 refine ah<|ae<|af<|af ?_
 have hfl:(L.flatten.map u8).length=608:=by rw [List.length_map,hD.len,hl]
 refine ai<|s1 ((aa rfl).v (v':= .i .i64 0) rfl) rfl ?_
 refine ah<|ae<|aM ?_
 refine bF (ι:=Nat) (fun i=> [(1,.p 1 0),(2,.p 2 0),(3,.sl 5 1 0 19),(6,nI i)]) (fun i=>⟨[(1,some (L.flatten.map u8)),(2,some (List.replicate 32 (u8 0))),(5,some (lH i))]⟩) (fun i=>i≤19) (fun i=>19 - i) ?_ ?_
 ·exact bE (0) (Nat.zero_le _) [(1,some 1),(2,some 2),(5,some 5)] hI rfl rfl ⟨⟨_,rfl,.p rfl⟩,⟨_,rfl,.p rfl⟩,⟨_,rfl,.sl rfl (by first|rfl|omega|(simp<;>omega)|(simp [*]<;>omega))⟩,⟨_,rfl,.pure pu⟩,trivial⟩ ⟨.inr ⟨_,_,rfl,rfl,.pure aq⟩,.inr ⟨_,_,rfl,rfl,.pure aq⟩,.inr ⟨_,_,rfl,rfl,.of (by rfl) (.pure (by simp [lH];exact aq))⟩,trivial⟩
 rintro i hi
 refine af<|ai<|s1 (aa rfl) rfl ?_
 refine ah<|ae<|af ?_
 refine aO rfl (fun hc7=>?_) (fun hc7=>?_)
 ·have h7 : i < 19 := by have := of_decide_eq_true hc7; omega
  refine aL<|ae<|af<|aM<|af<|ai<|s1 (aa rfl) rfl<|s1 (aa rfl) rfl ?_
  refine ah<|ae<|ai<|s1 (aa rfl) rfl<|s1 (aa rfl) rfl<|s1 (aa rfl) rfl<|s1 (bI i Tryz.underlying203 az rfl rfl rfl (by omega) rfl) rfl<|s1 (qP 32 Tryz.underlying23 aQ rfl rfl (by omega) (by simp [maxLen]) bn bn (by omega) (by omega) rfl rfl) rfl<|s1 (lN i Tryz.underlying182 ef rfl rfl rfl rfl (by omega) rfl) rfl ?_
  refine ak rfl (bZ ef rfl rfl rfl rfl (by simp;omega) rfl ?_)
  refine ah<|bh<|ae<|ai<|s1 (bc _ 1 rfl rfl rfl rfl (by omega)) rfl<|s1 (aa rfl) rfl ?_
  refine ah ?_
  exact br (i+1) (by omega) (by omega) [(1,some 1),(2,some 2),(5,some 5)] hI rfl rfl ⟨⟨_,rfl,.p rfl⟩,⟨_,rfl,.p rfl⟩,⟨_,rfl,.sl rfl (by first|rfl|omega|(simp<;>omega)|(simp [*]<;>omega))⟩,⟨_,rfl,.pure pu⟩,trivial⟩ ⟨.inr ⟨_,_,rfl,rfl,.pure aq⟩,.inr ⟨_,_,rfl,rfl,.pure aq⟩,.inr ⟨_,_,rfl,rfl,.of (Lr i h7) (Ks rfl _)⟩,trivial⟩
 ·have h7 : i = 19 := by have := of_decide_eq_false hc7; omega
  subst h7
  refine bC<|aP<|aP<|bD<|ae<|af<|ai<|s1 (aa rfl) rfl ?_
  refine ak rfl (iP 17 rfl true rfl (.cons (.sl rfl rfl rfl (DV (by simp)) (Mq hD hl rfl) aq) .nil) (HS L hD hl) aq (.inr fI) rfl ?_)
  refine ak rfl (aI true rfl (.cons (.pure pu) (.cons (.sl rfl rfl rfl (cm (by rw [List.length_map,Nat.mul_one]) rfl) (a8.pure aq) aq) .nil)) (L3 L hD hl) pu (.inr fu) rfl ?_)
  refine ak rfl (bb az rfl rfl rfl (by first|rfl|omega|(simp<;>omega)|(simp [*]<;>omega)) (by first|rfl|omega|(simp<;>omega)|(simp [*]<;>omega)) ?_)
  refine ah<|ae<|aE ?_
  refine aF (rs:= [.cell 2 23]) rfl (bW az rfl rfl (List.take_of_length_le (by simp)) (by simp) aB) rfl
theorem J1 (x:List UInt8) (hx:x.length=32):aA Tryz.prog 145 [.ag (x.map u8)] (aN (.ag ((mi x).map u8))):=by
 refine enter Tryz.func145 rfl Tryz.ntmps145 (by kernel_rfl) (Nat.le_of_ble_eq_true rfl) fun w0 X0 hI=>?_
 refine af<|ai ?_
 refine ak rfl (bK 1 rfl rfl rfl ?_)
 refine ak rfl (bp 2 rfl az rfl rfl ?_)
 refine ah<|ae<|af<|ai ?_
 refine ak rfl (bp 3 rfl ub (by kernel_rfl) rfl ?_)
 refine ah<|ae<|af<|af<|ai<|s1 ((aa rfl).v (v':= .i .i64 0) rfl) rfl ?_
 refine ah<|ae<|aM ?_
 refine bF (ι:=Nat) (fun i=> [(1,.p 1 0),(2,.p 2 0),(3,.p 3 0),(5,nI i)]) (fun i=>⟨[(1,some (x.map u8)),(2,some (List.replicate 32 (u8 0))),(3,some (jc 19 (jz x i)))]⟩) (fun i=>i≤19) (fun i=>19 - i) ?_ ?_
 ·exact bE (0) (Nat.zero_le _) [(1,some 1),(2,some 2),(3,some 3)] hI rfl rfl ⟨⟨_,rfl,.p rfl⟩,⟨_,rfl,.p rfl⟩,⟨_,rfl,.p rfl⟩,⟨_,rfl,.pure pu⟩,trivial⟩ ⟨.inr ⟨_,_,rfl,rfl,.pure aq⟩,.inr ⟨_,_,rfl,rfl,.pure aq⟩,.inr ⟨_,_,rfl,rfl,.of (by rw [xd,List.map_replicate];exact yB 19) (.pure aq)⟩,trivial⟩
 rintro i hi
 have hDi:=qT x i
 refine af<|ai<|s1 (aa rfl) rfl ?_
 refine ah<|ae<|af ?_
 refine aO rfl (fun hc6=>?_) (fun hc6=>?_)
 ·have h6 : i < 19 := by have := of_decide_eq_true hc6; omega
  refine aL<|ae<|af<|aM<|af<|ai<|s1 (aa rfl) rfl<|s1 (aa rfl) rfl ?_
  refine ah<|ae<|ai<|s1 (aa rfl) rfl<|s1 (aV az rfl rfl (by first|rfl|omega|(simp<;>omega)|(simp [*]<;>omega))) rfl<|s1 (aa rfl) rfl ?_
  refine ak rfl (aI false rfl (.cons (.pure pu) (.cons (.pure pu) (.nil))) (yP x i hx) pu (.inl rfl) rfl ?_)
  refine ak rfl (aI false rfl (.cons (.pure pu) (.cons (.pure pu) (.nil))) (uO (iz x i) 3 (by simp) (by omega)) pu (.inl rfl) rfl ?_)
  refine s1 (bI i Tryz.underlying203 az rfl rfl rfl (by omega) rfl) rfl ?_
  refine ak rfl (jZ az rfl rfl rfl rfl rfl (BA (by simp)) (by rw [Bu hDi (by rw [ov];omega)];omega) (CM hDi (by rw [ov];omega) (by rw [ov])) ?_)
  refine ah<|bh<|ae<|ai<|s1 (bc _ 1 rfl rfl rfl rfl (by omega)) rfl<|s1 (aa rfl) rfl ?_
  refine ah ?_
  exact br (i+1) (by omega) (by omega) [(1,some 1),(2,some 2),(3,some 3)] hI rfl rfl ⟨⟨_,rfl,.p rfl⟩,⟨_,rfl,.p rfl⟩,⟨_,rfl,.p rfl⟩,⟨_,rfl,.pure pu⟩,trivial⟩ ⟨.inr ⟨_,_,rfl,rfl,.pure aq⟩,.inr ⟨_,_,rfl,rfl,.pure aq⟩,.inr ⟨_,_,rfl,rfl,.of (by rw [xe]) (.pure aq)⟩,trivial⟩
 ·have h6 : i = 19 := by have := of_decide_eq_false hc6; omega
  subst h6
  refine cX 3 rfl (yC (ov x 19)) ?_
  refine bC<|aP<|aP<|bD<|ae<|af<|ai<|s1 (aV ub rfl rfl (by rw [List.length_map,(qT x 19).len,ov])) rfl ?_
  refine ak rfl (aI false rfl (.cons (.pure pu) (.nil)) (CJ (jz x 19) (qT x 19) (ov x 19)) pu (.inl rfl) rfl ?_)
  refine ak rfl (bb az rfl rfl rfl (by first|rfl|omega|(simp<;>omega)|(simp [*]<;>omega)) (by first|rfl|omega|(simp<;>omega)|(simp [*]<;>omega)) ?_)
  refine ah<|ae<|aE ?_
  refine aF (rs:= [.cell 2 23]) rfl (bW az rfl rfl (List.take_of_length_le (by simp)) (by simp) aB) rfl
theorem LJ (x m:List UInt8) (hx:x.length=32) (hm:m.length=32):aA Tryz.prog 88 [.ag (x.map u8),.ag (m.map u8)] (aN (bq (iW x m))):=by
 refine enter Tryz.func88 rfl Tryz.ntmps88 (by kernel_rfl) (Nat.le_of_ble_eq_true rfl) fun w0 X0 hI=>?_
 refine af<|ai ?_
 refine ak rfl (bK 2 rfl rfl rfl ?_)
 refine ak rfl (bK 3 rfl rfl rfl ?_)
 refine s1 (aa rfl) rfl ?_
 refine ah<|ae<|af<|af<|ai<|s1 (aV az rfl rfl (by first|rfl|omega|(simp<;>omega)|(simp [*]<;>omega))) rfl ?_
 refine ak rfl (aI false rfl (.cons (.pure pu) (.nil)) (DE m hm) pu (.inl rfl) rfl ?_)
 refine s1 ((aa rfl).v (v':= .i .i64 0) rfl) rfl ?_
 refine ah<|ae<|aM ?_
 refine bF (ι:=Nat) (fun i=> [(2,.p 2 0),(4,.sl 4 32 0 i),(8,.ag ((digits m).map nI)),(9,nI i)]) (fun i=>⟨[(2,some (x.map u8)),(4,some ((iG x m i).flatten.map u8))]⟩) (fun i=>i≤19) (fun i=>19 - i) ?_ ?_
 ·exact bE (0) (Nat.zero_le _) [(2,some 2),(4,none)] hI rfl rfl ⟨⟨_,rfl,.p rfl⟩,⟨_,rfl,.nl rfl⟩,⟨_,rfl,.pure pu⟩,⟨_,rfl,.pure pu⟩,trivial⟩ ⟨.inr ⟨_,_,rfl,rfl,.pure aq⟩,.inl ⟨rfl,rfl⟩,trivial⟩
 rintro i hi
 have hDi:=qU x m i
 have hdi:=rV m i
 refine af<|ai<|s1 (aa rfl) rfl ?_
 refine ah<|ae<|af ?_
 refine aO rfl (fun hc10=>?_) (fun hc10=>?_)
 ·have h10 : i < 19 := by have := of_decide_eq_true hc10; omega
  refine aL<|ae<|af<|aM<|af<|ai<|s1 (aa rfl) rfl<|s1 (Ee i Tryz.underlying170 an rfl rfl rfl h10 (wv m i h10)) rfl<|s1 (aa rfl) rfl<|s1 (aa rfl) rfl ?_
  refine ah<|ae<|ai<|s1 (aa rfl) rfl<|s1 (aV az rfl rfl (by first|rfl|omega|(simp<;>omega)|(simp [*]<;>omega))) rfl<|s1 (aa rfl) rfl ?_
  refine ak rfl (aI false rfl (.cons (.pure pu) (.cons (.pure pu) (.nil))) (yP x i hx) pu (.inl rfl) rfl ?_)
  refine s1 (aa rfl) rfl ?_
  refine ak rfl (aI false rfl (.cons (.pure pu) (.cons (.pure pu) (.nil))) (uO (iz x i) (dg m i) (by simp) (by omega)) pu (.inl rfl) rfl ?_)
  refine ak rfl (fY 19 rfl Tryz.underlying41 az rfl rfl rfl (by simp [aY,jr]) (List.append_nil ((ep (dg m i) (iz x i)).map u8)) rfl rfl rfl ?_)
  refine ak rfl (cT 20 rfl Tryz.underlying41 az rfl (.sl rfl (by rw [List.length_map,hDi.len,len_signL])) rfl (cE rfl (by rw [List.length_map,jr (by simp)])) (by simp [jr]) (by simp only [maxLen];omega) (by omega) rfl rfl rfl ?_)
  refine s1 (aa rfl) rfl ?_
  refine ah<|bh<|ae<|ai<|s1 (bc _ 1 rfl rfl rfl rfl (by omega)) rfl<|s1 (aa rfl) rfl ?_
  refine ah ?_
  exact br (i+1) (by omega) (by omega) [(2,some 2),(4,some 20)] hI rfl rfl ⟨⟨_,rfl,.p rfl⟩,⟨_,rfl,.sl rfl (by first|rfl|omega|(simp<;>omega)|(simp [*]<;>omega))⟩,⟨_,rfl,.pure pu⟩,⟨_,rfl,.pure pu⟩,trivial⟩ ⟨.inr ⟨_,_,rfl,rfl,.pure aq⟩,.inr ⟨_,_,rfl,rfl,.of (LI x m i) (.pure aq)⟩,trivial⟩
 ·have h10 : i = 19 := by have := of_decide_eq_false hc10; omega
  subst h10
  refine bC<|aP<|aP<|bD<|ae<|af<|ai<|s1 (aa rfl) rfl<|s1 (aa rfl) rfl ?_
  refine ah<|ae<|aE ?_
  refine gp 4 rfl rfl aq (cm (by rw [List.length_map,(qU x m _).len,len_signL]) rfl) ?_
  refine aF (rs:= [.tmp 4]) rfl (aD rfl aB) ?_
  show A.fz _ _=bq (iG x m 19)
  rw [bq,len_signL]
theorem Kn (m:List UInt8) (S:List (List UInt8)) (hm:m.length=32) (hS:aK S):aA Tryz.prog 130 [.ag (m.map u8),bq S] (aN (.tu [.ag ((er m S).map u8),nI (gH S)])):=by
 refine enter Tryz.func130 rfl Tryz.ntmps130 (by kernel_rfl) (Nat.le_of_ble_eq_true rfl) fun w0 X0 hI=>?_
 refine af<|ai ?_
 refine ak rfl (bK 2 rfl rfl rfl ?_)
 refine ak rfl (bp 4 rfl az rfl rfl ?_)
 refine s1 ((aa rfl).v (v':= .i .i64 0) rfl) rfl ?_
 refine ah<|ae<|af<|af<|ai<|s1 (aa rfl) rfl<|s1 (bu Tryz.underlying41 rfl rfl rfl) rfl<|s1 (aa rfl) rfl ?_
 refine ah<|ae ?_
 refine aO rfl (fun hc11=>?_) (fun hc11=>?_)
 ·have h11 : S.length ≠ 19 := by have := bne_iff_ne.1 hc11; omega
  refine af<|ai<|s1 (aV az rfl rfl (by first|rfl|omega|(simp<;>omega)|(simp [*]<;>omega))) rfl ?_
  refine ak rfl (bb az rfl rfl rfl (by first|rfl|omega|(simp<;>omega)|(simp [*]<;>omega)) (by first|rfl|omega|(simp<;>omega)|(simp [*]<;>omega)) ?_)
  refine s1 ((aa rfl).v (v':= .i .i64 50) rfl) rfl ?_
  refine ah<|ae<|aE<|aH ?_
  refine aF (rs:= [.cell 4 23,.tmp 5]) rfl (bW az rfl rfl (List.take_of_length_le (by simp)) (by simp) (aD rfl aB)) ?_
  rw [(tG h11).1,(tG (m:=m) h11).2]
  rfl
 ·have h11 : S.length = 19 := by have := bne_eq_false_iff_eq.1 hc11; omega
  refine aL<|ae<|af<|ai ?_
  refine ak rfl (bp 6 rfl ub (by kernel_rfl) rfl ?_)
  refine ah<|ae<|af<|af<|ai<|s1 (aV az rfl rfl (by first|rfl|omega|(simp<;>omega)|(simp [*]<;>omega))) rfl ?_
  refine ak rfl (aI false rfl (.cons (.pure pu) (.nil)) (DE m hm) pu (.inl rfl) rfl ?_)
  refine s1 ((aa rfl).v (v':= .i .i64 0) rfl) rfl ?_
  refine ah<|ae<|aM ?_
  refine bF (ι:=Nat) (fun i=> [(1,bq S),(4,.p 4 0),(6,.p 6 0),(14,.ag ((digits m).map nI)),(15,nI i)]) (fun i=>⟨[(4,some (List.replicate 32 (u8 0))),(6,some (jc 19 (gI m S i)))]⟩) (fun i=>i≤19) (fun i=>19 - i) ?_ ?_
  ·exact bE (0) (Nat.zero_le _) [(4,some 4),(6,some 6)] hI rfl rfl ⟨⟨_,rfl,.pure pu⟩,⟨_,rfl,.p rfl⟩,⟨_,rfl,.p rfl⟩,⟨_,rfl,.pure pu⟩,⟨_,rfl,.pure pu⟩,trivial⟩ ⟨.inr ⟨_,_,rfl,rfl,.pure aq⟩,.inr ⟨_,_,rfl,rfl,.of (by rw [tE,List.map_replicate];exact yB 19) (.pure aq)⟩,trivial⟩
  rintro i hi
  have hDi:=ux (m:=m) hS i (by omega)
  have hdi:=rV m i
  refine af<|ai<|s1 (aa rfl) rfl ?_
  refine ah<|ae<|af ?_
  refine aO rfl (fun hc16=>?_) (fun hc16=>?_)
  ·have h16 : i < 19 := by have := of_decide_eq_true hc16; omega
   obtain⟨q,hq⟩:∃q,S[i]? =some q:=⟨_,List.getElem?_eq_getElem (by omega)⟩
   have hq32:=hS q (List.mem_of_getElem? hq)
   have hq2:S.getD i []=q:=by simp [hq]
   refine aL<|ae<|af<|aM<|af<|ai<|s1 (aa rfl) rfl<|s1 (Ee i Tryz.underlying170 an rfl rfl rfl h16 (wv m i h16)) rfl<|s1 (aa rfl) rfl<|s1 (aa rfl) rfl ?_
   refine ah<|ae<|ai<|s1 (aa rfl) rfl<|s1 (aa rfl) rfl<|s1 (aa rfl) rfl<|s1 (aT i Tryz.underlying41 az rfl rfl rfl (by omega) rfl) rfl<|s1 (bY az rfl rfl (wu hS hq) (by simp [hq32])) rfl<|s1 (aa rfl) rfl<|s1 (cQ 3 (dg m i) rfl rfl rfl rfl (by omega) (by omega)) rfl ?_
   refine ak rfl (aI false rfl (.cons (.pure pu) (.cons (.pure pu) (.nil))) (uO q (3 - dg m i) hq32 (by omega)) pu (.inl rfl) rfl ?_)
   refine s1 (bI i Tryz.underlying203 az rfl rfl rfl (by omega) rfl) rfl ?_
   refine ak rfl (jZ az rfl rfl rfl rfl rfl (BA hq32) (by rw [Bu hDi (by rw [len_recL];omega)];omega) (CM hDi (by rw [len_recL];omega) (by rw [len_recL])) ?_)
   refine ah<|bh<|ae<|ai<|s1 (bc _ 1 rfl rfl rfl rfl (by omega)) rfl<|s1 (aa rfl) rfl ?_
   refine ah ?_
   exact br (i+1) (by omega) (by omega) [(4,some 4),(6,some 6)] hI rfl rfl ⟨⟨_,rfl,.pure pu⟩,⟨_,rfl,.p rfl⟩,⟨_,rfl,.p rfl⟩,⟨_,rfl,.pure pu⟩,⟨_,rfl,.pure pu⟩,trivial⟩ ⟨.inr ⟨_,_,rfl,rfl,.pure aq⟩,.inr ⟨_,_,rfl,rfl,.of (by rw [tF,hq2]) (.pure aq)⟩,trivial⟩
  ·have h16 : i = 19 := by have := of_decide_eq_false hc16; omega
   subst h16
   refine cX 6 rfl (yC (len_recL m S 19)) ?_
   refine bC<|aP<|aP<|bD<|ae<|af<|ai<|s1 (aV ub rfl rfl (by rw [List.length_map,hDi.len,len_recL])) rfl ?_
   refine ak rfl (aI false rfl (.cons (.pure pu) (.nil)) (CJ (gI m S 19) hDi (len_recL m S 19)) pu (.inl rfl) rfl ?_)
   refine ak rfl (bb az rfl rfl rfl (by first|rfl|omega|(simp<;>omega)|(simp [*]<;>omega)) (by first|rfl|omega|(simp<;>omega)|(simp [*]<;>omega)) ?_)
   refine s1 ((aa rfl).v (v':= .i .i64 0) rfl) rfl ?_
   refine ah<|ae<|aE ?_
   refine aF (rs:= [.cell 4 23,.tmp 5]) rfl (bW az rfl rfl (List.take_of_length_le (by simp)) (by simp) (aD rfl aB)) ?_
   rw [(qz h11).1,(qz (m:=m) h11).2]
   rfl
end Go.Abs.D2
-- D2H
namespace Go.Abs.D2
open Go Go.Eng Go.Abs Go.Proofs
theorem Ii (X:BitVec 64):aA Tryz.prog 187 [a7 X] (aN (.i .i64 (c7 X.toNat:Nat))):=by
 refine enter Tryz.func187 rfl Tryz.ntmps187 (by kernel_rfl) (Nat.le_of_ble_eq_true rfl) fun w0 X0 hI=>?_
 refine af<|ai<|s1 ((aa rfl).v (v':= .i .i64 0) rfl) rfl ?_
 refine ah<|ae<|af<|af<|ai<|s1 (aa rfl) rfl<|s1 (aa rfl) rfl ?_
 refine ah<|ae ?_
 refine aO rfl (fun hc4=>?_) (fun hc4=>?_)
 ·have e4 := m0 X 32 (by have := of_decide_eq_true hc4; omega)
  have y4:=nt X 32 32 X.isLt
  refine af<|ai<|s1 (aa rfl) rfl<|s1 (ke _ 32 rfl rfl rfl (by decide)) rfl<|s1 (aa rfl) rfl ?_
  refine ah<|ae<|ai<|s1 ((aa rfl).v (v':= .i .i64 32) rfl) rfl ?_
  refine ah<|ae<|af<|af<|ai<|s1 (aa rfl) rfl<|s1 (aa rfl) rfl ?_
  refine ah<|ae ?_
  refine aO rfl (fun hc8=>?_) (fun hc8=>?_)
  ·have e8 := m0 (X >>> 32) 16 (by have := of_decide_eq_true hc8; omega)
   have y8:=nt (X>>>32) 16 16 y4
   refine af<|ai<|s1 (aa rfl) rfl<|s1 (ke _ 16 rfl rfl rfl (by decide)) rfl<|s1 (aa rfl) rfl ?_
   refine ah<|ae<|ai<|s1 ((aa rfl).v (v':= .i .i64 32) rfl) rfl<|s1 (bc 32 16 rfl rfl rfl rfl (by omega)) rfl<|s1 (aa rfl) rfl ?_
   refine ah<|ae<|af<|af<|ai<|s1 (aa rfl) rfl<|s1 (aa rfl) rfl ?_
   refine ah<|ae ?_
   refine aO rfl (fun hc14=>?_) (fun hc14=>?_)
   ·have e14 := m0 ((X >>> 32) >>> 16) 8 (by have := of_decide_eq_true hc14; omega)
    have y14:=nt ((X>>>32)>>>16) 8 8 y8
    refine af<|ai<|s1 (aa rfl) rfl<|s1 (ke _ 8 rfl rfl rfl (by decide)) rfl<|s1 (aa rfl) rfl ?_
    refine ah<|ae<|ai<|s1 (aa rfl) rfl<|s1 (bc _ 8 rfl rfl rfl rfl (by omega)) rfl<|s1 (aa rfl) rfl ?_
    refine ah<|ae<|af<|ai<|s1 (aa rfl) rfl<|s1 (aa rfl) rfl<|s1 (ie _ Tryz.underlying198 Tryz.underlying5 rfl) rfl<|s1 (mC (((X>>>32)>>>16)>>>8).toNat (UInt8.ofNat (c7 (((X>>>32)>>>16)>>>8).toNat)) Tryz.underlying9 rfl (by kernel_rfl) rfl (my y14) (mv _ y14)) rfl<|s1 ((cV Tryz.underlying5 Tryz.underlying3 rfl).v (v':= .i .i64 (c7 (((X>>>32)>>>16)>>>8).toNat:Nat)) (mw y14)) rfl<|s1 (bc _ _ rfl rfl rfl rfl (by have:=lE y14;omega)) rfl<|s1 (aa rfl) rfl ?_
    refine ah<|ae<|aE ?_
    refine aF (rs:= [.tmp 2]) rfl (aD rfl aB) ?_
    exact congrArg (fun k:Nat=>A.i .i64 (k:Int)) (by omega)
   ·have e14 : ((X >>> 32) >>> 16).toNat < 2 ^ 8 := by have := of_decide_eq_false hc14; omega
    have y14:=e14
    refine aL<|ae<|af<|ai<|s1 (aa rfl) rfl<|s1 (aa rfl) rfl<|s1 (ie _ Tryz.underlying198 Tryz.underlying5 rfl) rfl<|s1 (mC ((X>>>32)>>>16).toNat (UInt8.ofNat (c7 ((X>>>32)>>>16).toNat)) Tryz.underlying9 rfl (by kernel_rfl) rfl (my y14) (mv _ y14)) rfl<|s1 ((cV Tryz.underlying5 Tryz.underlying3 rfl).v (v':= .i .i64 (c7 ((X>>>32)>>>16).toNat:Nat)) (mw y14)) rfl<|s1 (bc _ _ rfl rfl rfl rfl (by have:=lE y14;omega)) rfl<|s1 (aa rfl) rfl ?_
    refine ah<|ae<|aE ?_
    refine aF (rs:= [.tmp 2]) rfl (aD rfl aB) ?_
    exact congrArg (fun k:Nat=>A.i .i64 (k:Int)) (by omega)
  ·have e8 : (X >>> 32).toNat < 2 ^ 16 := by have := of_decide_eq_false hc8; omega
   have y8:=e8
   refine aL<|ae<|af<|af<|ai<|s1 (aa rfl) rfl<|s1 (aa rfl) rfl ?_
   refine ah<|ae ?_
   refine aO rfl (fun hc14=>?_) (fun hc14=>?_)
   ·have e14 := m0 (X >>> 32) 8 (by have := of_decide_eq_true hc14; omega)
    have y14:=nt (X>>>32) 8 8 y8
    refine af<|ai<|s1 (aa rfl) rfl<|s1 (ke _ 8 rfl rfl rfl (by decide)) rfl<|s1 (aa rfl) rfl ?_
    refine ah<|ae<|ai<|s1 ((aa rfl).v (v':= .i .i64 32) rfl) rfl<|s1 (bc 32 8 rfl rfl rfl rfl (by omega)) rfl<|s1 (aa rfl) rfl ?_
    refine ah<|ae<|af<|ai<|s1 (aa rfl) rfl<|s1 (aa rfl) rfl<|s1 (ie _ Tryz.underlying198 Tryz.underlying5 rfl) rfl<|s1 (mC ((X>>>32)>>>8).toNat (UInt8.ofNat (c7 ((X>>>32)>>>8).toNat)) Tryz.underlying9 rfl (by kernel_rfl) rfl (my y14) (mv _ y14)) rfl<|s1 ((cV Tryz.underlying5 Tryz.underlying3 rfl).v (v':= .i .i64 (c7 ((X>>>32)>>>8).toNat:Nat)) (mw y14)) rfl<|s1 (bc _ _ rfl rfl rfl rfl (by have:=lE y14;omega)) rfl<|s1 (aa rfl) rfl ?_
    refine ah<|ae<|aE ?_
    refine aF (rs:= [.tmp 2]) rfl (aD rfl aB) ?_
    exact congrArg (fun k:Nat=>A.i .i64 (k:Int)) (by omega)
   ·have e14 : (X >>> 32).toNat < 2 ^ 8 := by have := of_decide_eq_false hc14; omega
    have y14:=e14
    refine aL<|ae<|af<|ai<|s1 ((aa rfl).v (v':= .i .i64 32) rfl) rfl<|s1 (aa rfl) rfl<|s1 (ie _ Tryz.underlying198 Tryz.underlying5 rfl) rfl<|s1 (mC (X>>>32).toNat (UInt8.ofNat (c7 (X>>>32).toNat)) Tryz.underlying9 rfl (by kernel_rfl) rfl (my y14) (mv _ y14)) rfl<|s1 ((cV Tryz.underlying5 Tryz.underlying3 rfl).v (v':= .i .i64 (c7 (X>>>32).toNat:Nat)) (mw y14)) rfl<|s1 (bc 32 _ rfl rfl rfl rfl (by have:=lE y14;omega)) rfl<|s1 (aa rfl) rfl ?_
    refine ah<|ae<|aE ?_
    refine aF (rs:= [.tmp 2]) rfl (aD rfl aB) ?_
    exact congrArg (fun k:Nat=>A.i .i64 (k:Int)) (by omega)
 ·have e4 : X.toNat < 2 ^ 32 := by have := of_decide_eq_false hc4; omega
  have y4:=e4
  refine aL<|ae<|af<|af<|ai<|s1 (aa rfl) rfl<|s1 (aa rfl) rfl ?_
  refine ah<|ae ?_
  refine aO rfl (fun hc8=>?_) (fun hc8=>?_)
  ·have e8 := m0 X 16 (by have := of_decide_eq_true hc8; omega)
   have y8:=nt X 16 16 y4
   refine af<|ai<|s1 (aa rfl) rfl<|s1 (ke _ 16 rfl rfl rfl (by decide)) rfl<|s1 (aa rfl) rfl ?_
   refine ah<|ae<|ai<|s1 ((aa rfl).v (v':= .i .i64 0) rfl) rfl<|s1 (bc 0 16 rfl rfl rfl rfl (by omega)) rfl<|s1 (aa rfl) rfl ?_
   refine ah<|ae<|af<|af<|ai<|s1 (aa rfl) rfl<|s1 (aa rfl) rfl ?_
   refine ah<|ae ?_
   refine aO rfl (fun hc14=>?_) (fun hc14=>?_)
   ·have e14 := m0 (X >>> 16) 8 (by have := of_decide_eq_true hc14; omega)
    have y14:=nt (X>>>16) 8 8 y8
    refine af<|ai<|s1 (aa rfl) rfl<|s1 (ke _ 8 rfl rfl rfl (by decide)) rfl<|s1 (aa rfl) rfl ?_
    refine ah<|ae<|ai<|s1 (aa rfl) rfl<|s1 (bc _ 8 rfl rfl rfl rfl (by omega)) rfl<|s1 (aa rfl) rfl ?_
    refine ah<|ae<|af<|ai<|s1 (aa rfl) rfl<|s1 (aa rfl) rfl<|s1 (ie _ Tryz.underlying198 Tryz.underlying5 rfl) rfl<|s1 (mC ((X>>>16)>>>8).toNat (UInt8.ofNat (c7 ((X>>>16)>>>8).toNat)) Tryz.underlying9 rfl (by kernel_rfl) rfl (my y14) (mv _ y14)) rfl<|s1 ((cV Tryz.underlying5 Tryz.underlying3 rfl).v (v':= .i .i64 (c7 ((X>>>16)>>>8).toNat:Nat)) (mw y14)) rfl<|s1 (bc _ _ rfl rfl rfl rfl (by have:=lE y14;omega)) rfl<|s1 (aa rfl) rfl ?_
    refine ah<|ae<|aE ?_
    refine aF (rs:= [.tmp 2]) rfl (aD rfl aB) ?_
    exact congrArg (fun k:Nat=>A.i .i64 (k:Int)) (by omega)
   ·have e14 : (X >>> 16).toNat < 2 ^ 8 := by have := of_decide_eq_false hc14; omega
    have y14:=e14
    refine aL<|ae<|af<|ai<|s1 (aa rfl) rfl<|s1 (aa rfl) rfl<|s1 (ie _ Tryz.underlying198 Tryz.underlying5 rfl) rfl<|s1 (mC (X>>>16).toNat (UInt8.ofNat (c7 (X>>>16).toNat)) Tryz.underlying9 rfl (by kernel_rfl) rfl (my y14) (mv _ y14)) rfl<|s1 ((cV Tryz.underlying5 Tryz.underlying3 rfl).v (v':= .i .i64 (c7 (X>>>16).toNat:Nat)) (mw y14)) rfl<|s1 (bc _ _ rfl rfl rfl rfl (by have:=lE y14;omega)) rfl<|s1 (aa rfl) rfl ?_
    refine ah<|ae<|aE ?_
    refine aF (rs:= [.tmp 2]) rfl (aD rfl aB) ?_
    exact congrArg (fun k:Nat=>A.i .i64 (k:Int)) (by omega)
  ·have e8 : X.toNat < 2 ^ 16 := by have := of_decide_eq_false hc8; omega
   have y8:=e8
   refine aL<|ae<|af<|af<|ai<|s1 (aa rfl) rfl<|s1 (aa rfl) rfl ?_
   refine ah<|ae ?_
   refine aO rfl (fun hc14=>?_) (fun hc14=>?_)
   ·have e14 := m0 X 8 (by have := of_decide_eq_true hc14; omega)
    have y14:=nt X 8 8 y8
    refine af<|ai<|s1 (aa rfl) rfl<|s1 (ke _ 8 rfl rfl rfl (by decide)) rfl<|s1 (aa rfl) rfl ?_
    refine ah<|ae<|ai<|s1 ((aa rfl).v (v':= .i .i64 0) rfl) rfl<|s1 (bc 0 8 rfl rfl rfl rfl (by omega)) rfl<|s1 (aa rfl) rfl ?_
    refine ah<|ae<|af<|ai<|s1 (aa rfl) rfl<|s1 (aa rfl) rfl<|s1 (ie _ Tryz.underlying198 Tryz.underlying5 rfl) rfl<|s1 (mC (X>>>8).toNat (UInt8.ofNat (c7 (X>>>8).toNat)) Tryz.underlying9 rfl (by kernel_rfl) rfl (my y14) (mv _ y14)) rfl<|s1 ((cV Tryz.underlying5 Tryz.underlying3 rfl).v (v':= .i .i64 (c7 (X>>>8).toNat:Nat)) (mw y14)) rfl<|s1 (bc _ _ rfl rfl rfl rfl (by have:=lE y14;omega)) rfl<|s1 (aa rfl) rfl ?_
    refine ah<|ae<|aE ?_
    refine aF (rs:= [.tmp 2]) rfl (aD rfl aB) ?_
    exact congrArg (fun k:Nat=>A.i .i64 (k:Int)) (by omega)
   ·have e14 : X.toNat < 2 ^ 8 := by have := of_decide_eq_false hc14; omega
    have y14:=e14
    refine aL<|ae<|af<|ai<|s1 ((aa rfl).v (v':= .i .i64 0) rfl) rfl<|s1 (aa rfl) rfl<|s1 (ie _ Tryz.underlying198 Tryz.underlying5 rfl) rfl<|s1 (mC X.toNat (UInt8.ofNat (c7 X.toNat)) Tryz.underlying9 rfl (by kernel_rfl) rfl (my y14) (mv _ y14)) rfl<|s1 ((cV Tryz.underlying5 Tryz.underlying3 rfl).v (v':= .i .i64 (c7 X.toNat:Nat)) (mw y14)) rfl<|s1 (bc 0 _ rfl rfl rfl rfl (by have:=lE y14;omega)) rfl<|s1 (aa rfl) rfl ?_
    refine ah<|ae<|aE ?_
    refine aF (rs:= [.tmp 2]) rfl (aD rfl aB) ?_
    exact congrArg (fun k:Nat=>A.i .i64 (k:Int)) (by omega)
theorem Is (X:BitVec 64):aA Tryz.prog 146 [a7 X] (aN (.i .i64 (c7 X.toNat:Nat))):=by
 refine enter Tryz.func146 rfl Tryz.ntmps146 (by kernel_rfl) (Nat.le_of_ble_eq_true rfl) fun w0 X0 hI=>?_
 refine af<|ai<|s1 ((aa rfl).v (v':= .i .i64 0) rfl) rfl ?_
 refine ah<|ae<|af ?_
 refine cF rfl ?_
 refine aL<|ae<|af<|ai<|s1 (aa rfl) rfl ?_
 refine ak rfl (aI false rfl (.cons (.pure pu) (.nil)) (Ii X) pu (.inl rfl) rfl ?_)
 refine s1 (aa rfl) rfl ?_
 refine ah<|ae<|aE ?_
 refine aF (rs:= [.tmp 2]) rfl (aD rfl (aB)) rfl
theorem wx (n:Nat) (h:2≤n) (hn:n≤1099511627776):aA Tryz.prog 95 [.i .i64 (n:Nat)] (aN (.i .i64 (aU n:Nat))):=by
 refine enter Tryz.func95 rfl Tryz.ntmps95 (by kernel_rfl) (Nat.le_of_ble_eq_true rfl) fun w0 X0 hI=>?_
 refine af<|ai<|s1 ((aa rfl).v (v':= .i .i64 0) rfl) rfl ?_
 refine ah<|ae<|af<|ai<|s1 (aa rfl) rfl<|s1 (cQ n 1 rfl rfl rfl rfl (by omega) (by omega)) rfl<|s1 (m9 (n - 1) Tryz.underlying3 Tryz.underlying74 rfl rfl) rfl ?_
 refine ak rfl (aI false rfl (.cons (.pure pu) (.nil)) (Is (ba (n - 1))) pu (.inl rfl) rfl ?_)
 refine s1 ((cQ (c7 (ba (n - 1)).toNat) 1 rfl rfl rfl rfl (by rw [ve (n:=n - 1) (by omega),Br (by omega)];omega) (by rw [ve (n:=n - 1) (by omega)];have:=Ij (x:=n - 1) (by omega);omega)).v (v':= .i .i64 ((n - 1).log2:Nat)) (congrArg (fun k:Nat=>A.i .i64 (k:Int)) (by rw [ve (n:=n - 1) (by omega),Br (by omega)];omega))) rfl<|s1 ((nE rfl rfl (by omega)).v (v':= .i .i64 (aU n:Nat)) (LB h hn)) rfl<|s1 (aa rfl) rfl ?_
 refine ah<|ae<|aE ?_
 refine aF (rs:= [.tmp 2]) rfl (aD rfl (aB)) rfl
end Go.Abs.D2
-- D2T1
namespace Go.Abs.D2
open Go Go.Eng Go.Abs Go.Proofs
theorem C2 (htag:∀(t b:List UInt8),t.length≤1048576→b.length≤1048576→aA Tryz.prog 71 [.s t,.fz b.length (b.map u8)] (aN (.ag ((tagged t b).map u8)))) (a b:List UInt8) (ha:a.length=32) (hb:b.length=32):aA Tryz.prog 151 [.ag (a.map u8),.ag (b.map u8)] (aN (.ag ((tagged [110,111,100,101] (a++b)).map u8))):=by
 refine enter Tryz.func151 rfl Tryz.ntmps151 (by kernel_rfl) (Nat.le_of_ble_eq_true rfl) fun w0 X0 hI=>?_
 refine af<|ai ?_
 refine ak rfl (bK 2 rfl rfl rfl ?_)
 refine ak rfl (bK 3 rfl rfl rfl ?_)
 refine ak rfl (bp 4 rfl az rfl rfl ?_)
 refine ah<|ae<|af ?_
 refine bP ⟨_, [], []⟩ 6 4 bx (le_refl rfl) ?_
 refine pW 5 0 [] aW Tryz.underlying68 aQ rfl rfl rfl rfl rfl rfl<|aj 1 [] [(2,none)] (fF Tryz.underlying23 aQ rfl rfl (by first|rfl|omega|(simp<;>omega)|(simp [*]<;>omega)|(simp [aK.len, -List.length_flatten, *]<;>omega)) (by simp [maxLen])) rfl rfl<|fV 7 2 [0,1] [(2,none),(5,some 0)] aW Tryz.underlying68 aQ rfl (.sl rfl (by first|rfl|omega|(simp<;>omega)|(simp [*]<;>omega)|(simp [aK.len, -List.length_flatten, *]<;>omega))) rfl (cE rfl (by first|rfl|omega|(simp<;>omega)|(simp [*]<;>omega)|(simp [aK.len, -List.length_flatten, *]<;>omega))) (by first|rfl|omega|(simp<;>omega)|(simp [*]<;>omega)|(simp [aK.len, -List.length_flatten, *]<;>omega)) (by first|omega|(simp only [maxLen];omega)|(simp [maxLen];done)|(simp [maxLen];omega)|(simp [maxLen, *];omega)) (by first|omega|(simp only [maxLen];omega)|(simp [maxLen];done)|(simp [maxLen];omega)|(simp [maxLen, *];omega)) rfl rfl rfl rfl<|aj 3 [] [(3,none)] (fF Tryz.underlying23 aQ rfl rfl (by first|rfl|omega|(simp<;>omega)|(simp [*]<;>omega)|(simp [aK.len, -List.length_flatten, *]<;>omega)) (by simp [maxLen])) rfl rfl<|fV 9 4 [2,3] [(3,none),(7,some 2)] aW Tryz.underlying68 aQ rfl (.sl rfl (by first|rfl|omega|(simp<;>omega)|(simp [*]<;>omega)|(simp [aK.len, -List.length_flatten, *]<;>omega))) rfl (cE rfl (by first|rfl|omega|(simp<;>omega)|(simp [*]<;>omega)|(simp [aK.len, -List.length_flatten, *]<;>omega))) (by first|rfl|omega|(simp<;>omega)|(simp [*]<;>omega)|(simp [aK.len, -List.length_flatten, *]<;>omega)) (by first|omega|(simp only [maxLen];omega)|(simp [maxLen];done)|(simp [maxLen];omega)|(simp [maxLen, *];omega)) (by first|omega|(simp only [maxLen];omega)|(simp [maxLen];done)|(simp [maxLen];omega)|(simp [maxLen, *];omega)) rfl rfl rfl rfl<|bL true 5 [4] [(9,some 4)] aW rfl (.cons (.pure pu) (.cons (.sl rfl rfl (by first|rfl|omega|(simp<;>omega)|(simp [*]<;>omega)|(simp [aK.len, -List.length_flatten, *]<;>omega)) (cm (by first|rfl|omega|(simp<;>omega)|(simp [*]<;>omega)|(simp [aK.len, -List.length_flatten, *]<;>omega)) (by first|rfl|(simp;done)|(simp [*];done))) (a8.pure aq) aq) (.nil))) (htag _ (a++b) (by simp) (by simp;omega)) pu (.inr fu) rfl rfl<|bQ (by kernel_rfl) ?_
 refine ak rfl (bb az rfl rfl rfl (by first|rfl|omega|(simp<;>omega)|(simp [*]<;>omega)|(simp [aK.len, -List.length_flatten, *]<;>omega)) (by first|rfl|omega|(simp<;>omega)|(simp [*]<;>omega)|(simp [aK.len, -List.length_flatten, *]<;>omega)) ?_)
 refine ah<|ae<|aE ?_
 refine aF (rs:= [.cell 4 23]) rfl (bW az rfl rfl (List.take_of_length_le (by simp)) (by simp) aB) rfl
theorem CX (n:Nat) (h:2≤n) (hn:n≤1099511627776):aA Tryz.prog 150 [.i .i64 (n:Nat)] (aN (.i .i64 (aU n:Nat))):=by
 refine enter Tryz.func150 rfl Tryz.ntmps150 (by kernel_rfl) (Nat.le_of_ble_eq_true rfl) fun w0 X0 hI=>?_
 refine af<|ai<|s1 ((aa rfl).v (v':= .i .i64 0) rfl) rfl ?_
 refine ah<|ae<|af<|ai<|s1 ((aa rfl).v (v':= .i .i64 1) rfl) rfl ?_
 refine ah<|ae<|af<|aM ?_
 refine bF (ι:=Nat) (fun e=> [(0,.i .i64 (n:Nat)),(3,.i .i64 (2 ^ e:Nat))]) (fun e=>⟨[]⟩) (fun e=>2 ^ e<n) (fun e=>n - 2 ^ e) ?_ ?_
 ·exact bE (0) (by omega) [] hI rfl rfl ⟨⟨_,rfl,.pure pu⟩,⟨_,rfl,.of rfl (.pure pu)⟩,trivial⟩ trivial
 rintro e he
 have hpe:=Nat.two_pow_pos e
 refine af<|af<|ai<|s1 (aa rfl) rfl<|s1 (gv 2 (2 ^ e) rfl rfl rfl rfl (by omega)) rfl<|s1 (aa rfl) rfl<|s1 (aa rfl) rfl ?_
 refine ah<|ae ?_
 refine aO rfl (fun hc7=>?_) (fun hc7=>?_)
 ·have h7 : 2 * 2 ^ e < n := by have := of_decide_eq_true hc7; omega
  refine aL<|ae<|aM<|ai<|s1 (aa rfl) rfl<|s1 (gv 2 (2 ^ e) rfl rfl rfl rfl (by omega)) rfl<|s1 (aa rfl) rfl ?_
  refine ah<|bh ?_
  exact br (e+1) (by rw [Nat.pow_succ];omega) (by rw [Nat.pow_succ];omega) [] hI rfl rfl ⟨⟨_,rfl,.pure pu⟩,⟨_,rfl,.of (congrArg (fun k:Nat=>A.i .i64 (k:Int)) (by rw [Nat.pow_succ,Nat.mul_comm])) (.pure pu)⟩,trivial⟩ trivial
 ·have h7 : ¬ 2 * 2 ^ e < n := by have := of_decide_eq_false hc7; omega
  refine bC<|aP<|aP<|bD<|ae<|af<|ai<|s1 (aa rfl) rfl<|s1 (aa rfl) rfl ?_
  refine ah<|ae<|aE ?_
  refine aF (rs:= [.tmp 2]) rfl (aD rfl aB) ?_
  exact congrArg (fun k:Nat=>A.i .i64 (k:Int)) (HI e rfl he (by omega))
theorem DQ (L:List (List UInt8)) (hD:aK L) (hl:L.length≤1048576) (ih:∀M:List (List UInt8),M.length<L.length→aK M→aA Tryz.prog 46 [bq M] (aN (.ag ((tree M).map u8)))):aA Tryz.prog 46 [bq L] (aN (.ag ((tree L).map u8))):=by
 refine enter Tryz.func46 rfl Tryz.ntmps46 (by kernel_rfl) (Nat.le_of_ble_eq_true rfl) fun w0 X0 hI=>?_
 refine af<|ai ?_
 refine ak rfl (bp 2 rfl az rfl rfl ?_)
 refine ah<|ae<|af<|af<|ai<|s1 (aa rfl) rfl<|s1 (bu Tryz.underlying41 rfl rfl rfl) rfl ?_
 refine ah<|ae<|aM<|af<|ai<|s1 (aa rfl) rfl<|s1 (aa rfl) rfl ?_
 refine ah<|ae ?_
 refine aO rfl (fun hc6=>?_) (fun hc6=>?_)
 ·have h6 : L.length = 0 := by have := of_decide_eq_true hc6; omega
  obtain rfl:=List.eq_nil_of_length_eq_zero h6
  refine af<|ai ?_
  refine ak rfl (aI false rfl (.cons (.pure pu) (.cons .nl (.nil))) (g9 _ [] (by simp) (by simp)) pu (.inl rfl) rfl ?_)
  refine ak rfl (bb az rfl rfl rfl (by first|rfl|omega|(simp<;>omega)|(simp [*]<;>omega)|(simp [aK.len, -List.length_flatten, *]<;>omega)) (by first|rfl|omega|(simp<;>omega)|(simp [*]<;>omega)|(simp [aK.len, -List.length_flatten, *]<;>omega)) ?_)
  refine ah<|ae<|aE<|bg<|aH ?_
  refine aF (rs:= [.cell 2 23]) rfl (bW az rfl rfl (List.take_of_length_le (by simp [jt])) (by simp [jt]) aB) ?_
  rw [DP]
  rfl
 ·have h6 : ¬ L.length = 0 := by have := of_decide_eq_false hc6; omega
  refine af<|ai<|s1 (aa rfl) rfl<|s1 (aa rfl) rfl ?_
  refine ah<|ae ?_
  refine aO rfl (fun hc9=>?_) (fun hc9=>?_)
  ·have h9 : L.length = 1 := by have := of_decide_eq_true hc9; omega
   obtain⟨x,rfl⟩:=List.length_eq_one_iff.1 h9
   have hx:=hD x (.head _)
   refine af<|ai<|s1 (aa rfl) rfl<|s1 (aT 0 Tryz.underlying41 az rfl rfl rfl (by simp) rfl) rfl<|s1 ((mB 32 Tryz.underlying23 aQ rfl (by simp [maxLen]) bn bn (Nat.zero_le _) (Nat.le_refl _) (by simp) rfl rfl).v (Ge hx)) rfl ?_
   refine ak rfl (aI false rfl (.cons (.pure pu) (.cons (.pure pu) (.nil))) (g9 _ x (by omega) (by simp)) pu (.inl rfl) rfl ?_)
   refine ak rfl (bb az rfl rfl rfl (by first|rfl|omega|(simp<;>omega)|(simp [*]<;>omega)|(simp [aK.len, -List.length_flatten, *]<;>omega)) (by first|rfl|omega|(simp<;>omega)|(simp [*]<;>omega)|(simp [aK.len, -List.length_flatten, *]<;>omega)) ?_)
   refine ah<|ae<|aE<|bg<|aH ?_
   refine aF (rs:= [.cell 2 23]) rfl (bW az rfl rfl (List.take_of_length_le (by simp [jt])) (by simp [jt]) aB) ?_
   rw [xR]
   rfl
  ·have h9 : ¬ L.length = 1 := by have := of_decide_eq_false hc9; omega
   refine aL<|bh<|ae<|af<|ai<|s1 (aa rfl) rfl<|s1 (bu Tryz.underlying41 rfl rfl rfl) rfl ?_
   refine ak rfl (aI false rfl (.cons (.pure pu) (.nil)) (wx L.length (by omega) (by omega)) pu (.inl rfl) rfl ?_)
   refine s1 (aa rfl) rfl ?_
   refine ah<|ae<|af ?_
   refine bP ⟨_, [], []⟩ 9 4 bx (le_refl rfl) ?_
   have hh:=fA (n:=L.length) (by omega)
   refine aj 0 [] [] (aa rfl) rfl rfl<|aj 1 [] [] (aa rfl) rfl rfl<|aj 2 [0,1] [] ((ij (aU L.length) Tryz.underlying41 az rfl (by rw [List.length_map,hD.len]) bn (bs rfl rfl) (by omega) (by omega) rfl rfl).v (v':=bq (L.take (aU L.length))) (rQ hD (by omega))) rfl rfl<|bL false 3 [2] [] aW rfl (.cons (.pure pu) (.nil)) (ih (L.take (aU L.length)) (by rw [List.length_take];omega) (hD.take _)) pu (.inl rfl) rfl rfl<|aj 4 [] [] (aa rfl) rfl rfl<|aj 5 [] [] (aa rfl) rfl rfl<|aj 6 [4,5] [] ((ij (L.length - aU L.length) Tryz.underlying41 az rfl (by rw [List.length_map,hD.len]) (bs rfl rfl) bn (by omega) (by omega) rfl rfl).v (v':=bq (L.drop (aU L.length))) (vt hD rfl)) rfl rfl<|bL false 7 [6] [] aW rfl (.cons (.pure pu) (.nil)) (ih (L.drop (aU L.length)) (by rw [List.length_drop];omega) (hD.drop _)) pu (.inl rfl) rfl rfl ?_
   refine bL false 8 [3,7] [] aW rfl (.cons (.pure pu) (.cons (.pure pu) (.nil))) (wS (fun t b h1 h2=>g9 t b (by omega) (by omega)) _ _ (jt _) (jt _)) pu (.inl rfl) rfl rfl ?_
   refine bQ (by kernel_rfl) ?_
   refine ak rfl (bb az rfl rfl rfl (by first|rfl|omega|(simp<;>omega)|(simp [*]<;>omega)|(simp [aK.len, -List.length_flatten, *]<;>omega)) (by first|rfl|omega|(simp<;>omega)|(simp [*]<;>omega)|(simp [aK.len, -List.length_flatten, *]<;>omega)) ?_)
   refine ah<|ae<|aE ?_
   refine aF (rs:= [.cell 2 23]) rfl (bW az rfl rfl (List.take_of_length_le (by simp [jt])) (by simp [jt]) aB) ?_
   rw [ug (L:=L) (by omega)]
   rfl
theorem oW:∀(n:Nat) (L:List (List UInt8)),L.length≤n→aK L→L.length≤1048576→aA Tryz.prog 46 [bq L] (aN (.ag ((tree L).map u8)))
  |0,L,h,hD,hl=>DQ L hD hl (fun M hM=>absurd hM (by omega))
  |n+1,L,h,hD,hl=>DQ L hD hl (fun M hM hM2=>oW n M (by omega) hM2 (by omega))
end Go.Abs.D2
