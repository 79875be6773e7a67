/-
  The engine, the plain laws and the walks that the rows need, part 14. Conditions: none.
-/
import Derived.Test.YteempkifmbclgaaGreatDoorM13
set_option linter.unusedVariables false
set_option linter.unusedSimpArgs false
set_option maxHeartbeats 1000000
set_option maxRecDepth 10000
-- C4B
namespace Go.Abs.D2
open Go Go.Eng Go.Abs Go.Proofs
theorem mo (l:List Int) (hn:l.length≤maxLen):aB Tryz.prog 72 [.fz l.length (l.map (A.i .i64))] (aU (.b (cN l))):=by
 refine enter Tryz.func72 rfl Tryz.ntmps72 (by kernel_rfl) (Nat.le_of_ble_eq_true rfl) fun w0 X0 hI=>?_
 refine af<|ai<|s1 (aa rfl) rfl ?_
 refine ah<|ae<|af ?_
 simp only [maxLen]at hn
 refine ai<|s1 ((aa rfl).v (v':= .i .i64 (-1)) rfl) rfl ?_
 refine ah<|ae<|af<|af<|ai<|s1 (aa rfl) rfl<|s1 (bx Tryz.underlying30 rfl rfl rfl) rfl<|s1 ((aa rfl).v (v':= .i .i64 0) rfl) rfl ?_
 refine ah<|ae<|aM ?_
 refine bH (ι:=Nat) (fun i=> [(3,.i .i64 (fK l i)),(6,.fz l.length (l.map (A.i .i64))),(7,nJ l.length),(8,nJ i)]) (fun i=>⟨[]⟩) (fun i=>i≤l.length∧cN l=dU (fK l i) (l.drop i)) (fun i=>l.length - i) ?_ ?_
 ·exact bG (0) (⟨Nat.zero_le _,y3 l⟩) [] hI rfl rfl ⟨⟨_,rfl,.pure pu⟩,⟨_,rfl,.pure pu⟩,⟨_,rfl,.pure pu⟩,⟨_,rfl,.pure pu⟩,trivial⟩ trivial
 rintro i ⟨hi,hl⟩
 refine af<|ai<|s1 (aa rfl) rfl ?_
 refine ah<|ae<|af ?_
 refine aP rfl (fun hc9=>?_) (fun hc9=>?_)
 ·have h9 : i < l.length := by have := of_decide_eq_true hc9; omega
  obtain⟨q,hq⟩:∃q,l[i]? =some q:=⟨_,List.getElem?_eq_getElem h9⟩
  refine aK<|ae<|af<|aM<|af<|ai<|s1 (aT i Tryz.underlying30 an rfl rfl rfl (by omega) rfl) rfl<|s1 (au an rfl rfl (oF hq)) rfl<|s1 (aa rfl) rfl ?_
  refine ah<|ae<|af<|af<|ai<|s1 (aa rfl) rfl<|s1 (aa rfl) rfl<|s1 (aa rfl) rfl<|s1 (aa rfl) rfl ?_
  refine jW 2 rfl rfl rfl rfl (fun hb15=> .step (aa rfl) rfl rfl<| .step (aa rfl) rfl rfl<| .done) rfl rfl ?_
  refine ah<|ae ?_
  refine aP rfl (fun hc18=>?_) (fun hc18=>?_)
  ·have h18 : ¬ (fK l i < q ∧ q < 1024) := by simp at hc18; omega
   refine af<|ai<|s1 (aa rfl) rfl ?_
   refine ah<|ae<|aF<|aH<|bc<|aH<|aH<|bc<|aH ?_
   refine aG (rs:= [.tmp 2]) rfl (aD rfl aC) ?_
   exact congrArg A.b (y2 hl hq h18).symm
  ·have h18 : fK l i < q ∧ q < 1024 := by simp at hc18; omega
   refine aK<|ae<|ai<|s1 ((aa rfl).v (v':= .i .i64 (fK l (i+1))) (congrArg (A.i .i64) (wW hq).symm)) rfl<|s1 (aa rfl) rfl ?_
   refine ah<|bj<|ae<|ai<|s1 (bg _ 1 rfl rfl rfl rfl (by omega)) rfl<|s1 (aa rfl) rfl ?_
   refine ah ?_
   exact bu (i+1) (⟨by omega,vf hl hq h18⟩) (by omega) [] hI rfl rfl ⟨⟨_,rfl,.pure pu⟩,⟨_,rfl,.pure pu⟩,⟨_,rfl,.pure pu⟩,⟨_,rfl,.pure pu⟩,trivial⟩ trivial
 ·have h9 : i = l.length := by have := of_decide_eq_false hc9; omega
  subst h9
  refine bE<|aO<|aO<|bF<|ae<|af<|ai<|s1 (aa rfl) rfl ?_
  refine ah<|ae<|aF ?_
  refine aG (rs:= [.tmp 2]) rfl (aD rfl aC) ?_
  exact congrArg A.b (yX hl).symm
theorem zo (c:bX) (hx:c.x.length=32) (hn:c.E.length≤maxLen):aB Tryz.prog 80 [.ag (eL c)] (aU (.i .i64 (wA (dP c)))):=by
 refine enter Tryz.func80 rfl Tryz.ntmps80 (by kernel_rfl) (Nat.le_of_ble_eq_true rfl) fun w0 X0 hI=>?_
 refine af<|ai ?_
 refine ak rfl (bY 1 rfl rfl rfl ?_)
 refine s1 ((aa rfl).v (v':= .i .i64 0) rfl) rfl ?_
 refine ah<|ae<|af<|af<|ai<|s1 (aA Tryz.underlying60 rfl iE (by decide) rfl rfl) rfl<|s1 (au iE rfl rfl (vC hx)) rfl<|s1 (bx Tryz.underlying58 rfl rfl rfl) rfl<|s1 (aa rfl) rfl<|s1 (aa rfl) rfl ?_
 refine ik 9 rfl (fun hc9=>?_) (fun hc9=>?_)
 ·have h4 : ¬ c.F.length ≤ 16 := by simp at hc9; omega
  refine g0 rfl rfl rfl rfl<|g0 rfl rfl rfl rfl<|g0 rfl rfl rfl rfl<|g0 rfl rfl rfl rfl<|s1 (aa rfl) rfl ?_
  refine ah<|ae ?_
  refine bT rfl ?_
  refine af<|ai<|s1 ((aa rfl).v (v':= .i .i64 340) rfl) rfl ?_
  refine ah<|ae<|aF<|aH ?_
  refine aG (rs:= [.tmp 2]) rfl (aD rfl aC) ?_
  exact congrArg (A.i .i64) (by rw [Ge h4];rfl)
 ·have h4 : c.F.length ≤ 16 := by simp at hc9; omega
  refine g1 rfl rfl (aA Tryz.underlying60 rfl ib (by decide) rfl rfl) rfl<|g1 rfl rfl (au ib rfl rfl (zk hx)) rfl ?_
  refine jf rfl rfl rfl (aJ false rfl (.cons (.pure pu) (.nil)) (mo c.E hn) pu (.inl rfl) rfl ?_)
  refine g1 rfl rfl (aa rfl) rfl<|s1 (aa rfl) rfl ?_
  refine ah<|ae ?_
  refine aP rfl (fun hc14=>?_) (fun hc14=>?_)
  ·have h14 : cN c.E = false := by simpa using hc14
   refine af<|ai<|s1 ((aa rfl).v (v':= .i .i64 340) rfl) rfl ?_
   refine ah<|ae<|aF<|aH ?_
   refine aG (rs:= [.tmp 2]) rfl (aD rfl aC) ?_
   exact congrArg (A.i .i64) (by rw [Gf h14];rfl)
  ·have h14 : cN c.E = true := by simpa using hc14
   refine aK<|ae<|af<|af<|ai<|s1 (aA Tryz.underlying60 rfl iE (by decide) rfl rfl) rfl<|s1 (au iE rfl rfl (vC hx)) rfl<|s1 (bx Tryz.underlying58 rfl rfl rfl) rfl<|s1 ((aa rfl).v (v':= .i .i64 0) rfl) rfl ?_
   refine ah<|ae<|aM ?_
   refine bH (ι:=Nat) (fun i=> [(16,qj c.F),(17,nJ c.F.length),(18,nJ i)]) (fun i=>⟨[]⟩) (fun i=>i≤c.F.length∧eO 0 c.F=eO i (c.F.drop i)) (fun i=>c.F.length - i) ?_ ?_
   ·exact bG (0) (⟨Nat.zero_le _,rfl⟩) [] hI rfl rfl ⟨⟨_,rfl,.pure pu⟩,⟨_,rfl,.pure pu⟩,⟨_,rfl,.pure pu⟩,trivial⟩ trivial
   rintro i ⟨hi,hl⟩
   refine af<|ai<|s1 (aa rfl) rfl ?_
   refine ah<|ae<|af ?_
   refine aP rfl (fun hc19=>?_) (fun hc19=>?_)
   ·have h19 : i < c.F.length := by have := of_decide_eq_true hc19; omega
    obtain⟨f,hf⟩:∃f,c.F[i]? =some f:=⟨_,List.getElem?_eq_getElem h19⟩
    refine aK<|ae<|af<|aM<|af<|ai<|s1 (aa rfl) rfl<|s1 (aT i Tryz.underlying58 cG rfl rfl rfl (by omega) rfl) rfl<|s1 (cm cG rfl rfl (A5 hf) rfl) rfl ?_
    refine ak rfl (bt 4 rfl cG rfl rfl ?_)
    refine s1 (aa rfl) rfl ?_
    refine ak rfl (bo cG rfl rfl rfl (by first|rfl|omega|(simp<;>omega)|(simp [*]<;>omega)) (by first|rfl|omega|(simp<;>omega)|(simp [*]<;>omega)) ?_)
    refine ah<|ae<|af<|ai<|s1 (aA Tryz.underlying120 rfl an (by decide) rfl rfl) rfl<|s1 (au an rfl rfl rfl) rfl<|s1 (aa rfl) rfl<|s1 (aa rfl) rfl<|s1 (aa rfl) rfl ?_
    refine ik 27 rfl (fun hc27=>?_) (fun hc27=>?_)
    ·have h27 : ¬ f.lv = i := by simpa using hc27
     refine g0 rfl rfl rfl rfl<|g0 rfl rfl rfl rfl<|g0 rfl rfl rfl rfl<|s1 (aa rfl) rfl ?_
     refine ah<|ae ?_
     refine bT rfl ?_
     refine af<|ai<|s1 ((aa rfl).v (v':= .i .i64 340) rfl) rfl ?_
     refine ah<|ae<|aF<|bc<|aH<|aH<|bc<|aH ?_
     refine aG (rs:= [.tmp 2]) rfl (aD rfl aC) ?_
     exact congrArg (A.i .i64) (by rw [zO (BZ hl hf (fun h=>h27 h.1))];rfl)
    ·have h27 : f.lv = i := by simpa using hc27
     refine g1 rfl rfl (aZ cG rfl rfl rfl) rfl ?_
     refine jf rfl rfl rfl (aJ false rfl (.cons (.pure pu) (.nil)) (wD f.lv f.nb f.D) pu (.inl rfl) rfl ?_)
     refine g1 rfl rfl (aa rfl) rfl<|s1 (aa rfl) rfl ?_
     refine ah<|ae ?_
     refine aP rfl (fun hc31=>?_) (fun hc31=>?_)
     ·have h31 : ¬ (f.lv = i ∧ cL f.lv f.nb f.D = true) := by intro h; simp [h.2, ox] at hc31
      refine af<|ai<|s1 ((aa rfl).v (v':= .i .i64 340) rfl) rfl ?_
      refine ah<|ae<|aF<|bc<|aH<|aH<|bc<|aH ?_
      refine aG (rs:= [.tmp 2]) rfl (aD rfl aC) ?_
      exact congrArg (A.i .i64) (by rw [zO (BZ hl hf h31)];rfl)
     ·have h31 : f.lv = i ∧ cL f.lv f.nb f.D = true := ⟨h27, by cases hk : cL f.lv f.nb f.D with | true => rfl | false => simp [hk, ox] at hc31⟩
      refine aK<|bj<|ae<|ai<|s1 (bg _ 1 rfl rfl rfl rfl (by omega)) rfl<|s1 (aa rfl) rfl ?_
      refine ah ?_
      exact bu (i+1) (⟨by omega,Jd hl hf h31.1 h31.2⟩) (by omega) [] hI rfl rfl ⟨⟨_,rfl,.pure pu⟩,⟨_,rfl,.pure pu⟩,⟨_,rfl,.pure pu⟩,trivial⟩ trivial
   ·have h19 : i = c.F.length := by have := of_decide_eq_false hc19; omega
    subst h19
    refine bE<|aO<|aO<|bF<|ae<|af<|ai<|s1 ((aa rfl).v (v':= .i .i64 0) rfl) rfl ?_
    refine ah<|ae<|aF ?_
    refine aG (rs:= [.tmp 2]) rfl (aD rfl aC) ?_
    exact congrArg (A.i .i64) (by rw [zP h4 h14 (Jc hl)];rfl)
end Go.Abs.D2
-- C4C
namespace Go.Abs.D2
open Go Go.Eng Go.Abs Go.Proofs
end Go.Abs.D2
-- C4D
namespace Go.Abs.D2
open Go Go.Eng Go.Abs Go.Proofs
end Go.Abs.D2
namespace Go.Eng
open Go Go.Eng Go.Proofs Go.Abs
theorem Nl (w:World):(zeroValue 4).run Tryz.prog w= .ok (.bool false) w:=by kernel_rfl
theorem CD {w:World} {b blk clk:Nat} {es:Array MapEntry} (h:w.heap.size≤b):nv [(b,.map es clk)] w blk:=⟨.inr h,trivial⟩
theorem G3 (w:World) (a1 a2:Option Addr) (c1 c2:Nat) (l1 l2:List Int) (h1:RI w a1 l1) (h2:RI w a2 l2) (hn1:l1.length≤maxLen) (hn2:l2.length≤maxLen):Fn Tryz.prog 73 #[.slice a1 l1.length c1,.slice a2 l2.length c2] w (fun v w2=>v= .bool (jT l1 l2)∧RowKit.Below w.heap.size w w2):=by
 simp only [maxLen]at hn1 hn2
 have hlt0:True:=trivial
 refine enter Tryz.func73 rfl Tryz.ntmps73 (by kernel_rfl) rfl ?_
 refine af<|ai<|s1 (aa rfl) rfl ?_
 refine ah<|ae<|af<|ai ?_
 refine ak rfl (xe rfl fun b hbS hbH=>?_)
 have hlb:w.heap.size≤b:=hbS.1
 refine s1 (aa rfl) rfl ?_
 refine ah<|ae<|af<|af<|ai<|s1 (aa rfl) rfl<|s1 (bx Tryz.underlying30 rfl rfl) rfl<|s1 (aa rfl) rfl ?_
 refine ah<|ae<|aM ?_
 refine bH (ι:=Nat×Array MapEntry×Nat) (fun⟨i,es,clk⟩=> [(1,.slice a2 l2.length c2),(5,.map (some b)),(11,.slice a1 l1.length c1),(12,.int .i64 (l1.length:Nat)),(13,.int .i64 (i:Nat))]) (fun⟨i,es,clk⟩=> [w]) (fun⟨i,es,clk⟩=> [(b,.map es clk)]) (fun⟨i,es,clk⟩=>i≤l1.length∧de es clk (pd (l1.take i))) (fun⟨i,es,clk⟩=>l1.length - i) ?_ ?_
 ·exact bG (0, #[],0) ⟨Nat.zero_le _,de.empty 0⟩ ⟨rfl,rfl,rfl,rfl,rfl,trivial⟩ (fun _ h=>h)
 rintro⟨i,es,clk⟩ ⟨hi,hF⟩
 dsimp only
 refine af<|ai<|s1 (aa rfl) rfl ?_
 refine ah<|ae<|af ?_
 refine aP rfl (fun hc14=>?_) (fun hc14=>?_)
 ·have h14 : i < l1.length := by have := of_decide_eq_true hc14; omega
  obtain⟨q,hq⟩:∃q,l1[i]? =some q:=⟨_,List.getElem?_eq_getElem h14⟩
  have hr:=h1 i q hq
  refine aK<|ae<|af<|aM<|af<|ai<|s1 (Ey i Tryz.underlying30 an rfl rfl rfl (by omega) hr.1) rfl<|s1 (au an rfl (fun w2 hG2=>hG2.cell' (.head _) hr.2 (CD hlb))) rfl<|s1 (aa rfl) rfl ?_
  refine ah<|ae<|ai<|s1 (aa rfl) rfl<|s1 (aa rfl) rfl ?_
  refine ak rfl (tr 0 Tryz.underlying161 Tryz.underlying3 rfl rfl rfl rfl hF fun es2 clk2 hF2=>?_)
  refine ah<|bj<|ae<|ai<|s1 (bg i 1 rfl rfl rfl rfl (by omega)) rfl<|s1 (aa rfl) rfl ?_
  refine ah ?_
  exact bu (x:=(i,es,clk)) (i+1,es2,clk2) ⟨(show i+1≤l1.length from by omega),by rw [←LI hq];exact hF2⟩ (show l1.length - (i+1)<l1.length - i from by omega) ⟨rfl,rfl,rfl,rfl,rfl,trivial⟩ (fun _ h=>h)
 ·have h14 : i = l1.length := by have := of_decide_eq_false hc14; omega
  subst h14
  rw [List.take_length]at hF
  refine bE<|aO<|aO<|bF<|ae<|af<|af<|ai<|s1 (aa rfl) rfl<|s1 (bx Tryz.underlying30 rfl rfl) rfl<|s1 (aa rfl) rfl ?_
  refine ah<|ae<|aM ?_
  refine bH (ι:=Nat) (fun j=> [(5,.map (some b)),(20,.slice a2 l2.length c2),(21,.int .i64 (l2.length:Nat)),(22,.int .i64 (j:Nat))]) (fun j=> [w]) (fun j=> [(b,.map es clk)]) (fun j=>j≤l2.length∧(l2.take j).all (fun n=>!decide (n∈l1))=true) (fun j=>l2.length - j) ?_ ?_
  ·exact bG 0 ⟨Nat.zero_le _,rfl⟩ ⟨rfl,rfl,rfl,rfl,trivial⟩ (fun _ h=>h)
  rintro j ⟨hj,hall⟩
  refine af<|ai<|s1 (aa rfl) rfl ?_
  refine ah<|ae<|af ?_
  refine aP rfl (fun hc23=>?_) (fun hc23=>?_)
  ·have h23 : j < l2.length := by have := of_decide_eq_true hc23; omega
   obtain⟨q,hq⟩:∃q,l2[j]? =some q:=⟨_,List.getElem?_eq_getElem h23⟩
   have hr:=h2 j q hq
   refine aK<|ae<|af<|aM<|af<|ai<|s1 (Ey j Tryz.underlying30 an rfl rfl rfl (by omega) hr.1) rfl<|s1 (au an rfl (fun w2 hG2=>hG2.cell' (.head _) hr.2 (CD hlb))) rfl<|s1 (aa rfl) rfl ?_
   refine ah<|ae<|af<|ai<|s1 (aa rfl) rfl<|s1 (aa rfl) rfl<|s1 ((nQ 0 Tryz.underlying161 Tryz.underlying3 Nl rfl rfl rfl hF).v (LH l1 q)) rfl ?_
   refine ah<|ae ?_
   refine aP rfl (fun hc28=>?_) (fun hc28=>?_)
   ·skip
    refine af<|ai<|s1 (aa rfl) rfl ?_
    refine ah<|ae<|aF<|bc<|aH<|aH<|bc<|aH ?_
    refine aG (rs:= [.tmp 4]) rfl (aD rfl aC) fun w1 hG1=>⟨congrArg Value.bool (G2 hq (of_decide_eq_true hc28)).symm,hG1.below (.head _) (by intro p hp;rw [List.mem_singleton.1 hp];exact hlb)⟩
   ·skip
    refine aK<|bj<|ae<|ai<|s1 (bg j 1 rfl rfl rfl rfl (by omega)) rfl<|s1 (aa rfl) rfl ?_
    refine ah ?_
    exact bu (x:=j) (j+1) ⟨(show j+1≤l2.length from by omega),E8 hq hall (by rw [hc28];rfl)⟩ (show l2.length - (j+1)<l2.length - j from by omega) ⟨rfl,rfl,rfl,rfl,trivial⟩ (fun _ h=>h)
  ·have h23 : j = l2.length := by have := of_decide_eq_false hc23; omega
   subst h23
   rw [List.take_length]at hall
   refine bE<|aO<|aO<|bF<|ae<|af<|ai<|s1 (aa rfl) rfl ?_
   refine ah<|ae<|aF ?_
   refine aG (rs:= [.tmp 4]) rfl (aD rfl aC) fun w1 hG1=>⟨congrArg Value.bool hall.symm,hG1.below (.head _) (by intro p hp;rw [List.mem_singleton.1 hp];exact hlb)⟩
end Go.Eng
namespace Go.Abs.D2
open Go Go.Eng Go.Abs Go.Proofs
theorem Dg {X:Xs} {w:World} {a:Option Addr} {cap:Nat} {l:List Int} (h2:l.length≤cap) (h4:a=none→cap=0) (h5:0<cap→∀x,a=some x→x.spot=none) (h6:VM X w (l.map (A.i .i64)) (ab a) (ao a)):Go.Eng.RI w a l:=fun i v hi=>by
 have hlt:=(List.getElem?_eq_some_iff.1 hi).1
 obtain⟨_,u,e1,e2,_⟩:=mR h6 (j:=i) (c:= .i .i64 v) (by rw [List.getElem?_map,hi];rfl)
 rw [ff]at e2
 subst e2
 refine⟨?_,e1⟩
 cases a with
 |none=>exact absurd (h4 rfl) (by omega)
 |some x=>
  have:=h5 (by omega) x rfl
  obtain⟨b,o,s⟩:=x
  simp only at this
  subst this;rfl
theorem Am (a b:List Int) (hn1:a.length≤maxLen) (hn2:b.length≤maxLen):aB Tryz.prog 73 [.fz a.length (a.map (A.i .i64)),.fz b.length (b.map (A.i .i64))] (aU (.b (Go.Eng.jT a b))):=by
 intro w X β us hd hX hgl ho hi hv
 simp only [VS]at hv
 obtain⟨u1,r1,rfl,v1,u2,r2,rfl,v2,rfl⟩:=hv
 simp only [V]at v1 v2
 obtain⟨a1,c1,rfl,e2,e3,e4,e5,e6⟩:=v1
 obtain⟨a2,c2,rfl,g2,g3,g4,g5,g6⟩:=v2
 refine Eng.Fn.mono (Go.Eng.G3 w a1 a2 c1 c2 a b (Dg e2 e4 e5 e6) (Dg g2 g4 g5 g6) hn1 hn2) fun v w' ⟨hv,hb⟩=>?_
 subst hv
 refine⟨.b (Go.Eng.jT a b),β,X,⟨[]⟩,rfl,fun _ _ h=>h,fun _ _ h=> .inl h,.of ⟨hb.os,hb.tape,hb.output,hb.size,fun k hk _=>hb.block k hk,fun s hs=>by cases hs⟩ (bK.refl β) (fun q o h=>Nat.lt_of_lt_of_le (hX q o h) hb.size) hd (fun id cs h=>by cases h) (fun i j ci cj q M N _ h _ _ _=>by cases h),by simp only [V]⟩
end Go.Abs.D2
-- C4E
namespace Go.Abs.D2
open Go Go.Eng Go.Abs Go.Proofs
theorem FZ (x:List UInt8) (hx:x.length=32) (f:cT) (q:Int):aB Tryz.prog 77 [.i .i64 q,.fp (x.map u8),.fp (gC f)] (aU (.b (nh x f.lv f.nb f.D q))):=by
 refine enter Tryz.func77 rfl Tryz.ntmps77 (by kernel_rfl) (Nat.le_of_ble_eq_true rfl) fun w0 X0 hI=>?_
 refine af<|ai<|s1 (aa rfl) rfl ?_
 refine ah<|ae<|af<|ai<|s1 (cm aE rfl rfl (List.take_of_length_le (by simp [hx])) (by simp [hx])) rfl<|s1 (cm cG rfl rfl rfl rfl) rfl<|s1 (aa rfl) rfl ?_
 refine ak rfl (aJ false rfl (.cons (.pure pu) (.cons (.pure pu) (.cons (.pure pu) (.nil)))) (aB.cast (HA x f.lv f.nb q f.D hx) (Il ..)) pu (.inl rfl) rfl ?_)
 refine s1 (aa rfl) rfl<|s1 (aa rfl) rfl<|s1 (aa rfl) rfl<|s1 (aa rfl) rfl<|s1 (aa rfl) rfl ?_
 refine ah<|ae<|af<|ai<|s1 (aa rfl) rfl<|s1 (aa rfl) rfl ?_
 refine ah<|ae<|aF ?_
 refine aG (rs:= [.tmp 4]) rfl (aD rfl aC) ?_
 rfl
theorem F1 (x:List UInt8) (hx:x.length=32) (f:cT) (l:List Int) (hn:l.length≤100):aB Tryz.prog 76 [.fz l.length (l.map (A.i .i64)),.fn (.func 77) [] [.fp (x.map u8),.fp (gC f)]] (aU (jZ (iF x f l))):=by
 refine enter Tryz.func76 rfl Tryz.ntmps76 (by kernel_rfl) (Nat.le_of_ble_eq_true rfl) fun w0 X0 hI=>?_
 refine af<|ai<|s1 (aa rfl) rfl ?_
 refine ah<|ae<|af<|af<|ai<|s1 (aa rfl) rfl<|s1 (bx Tryz.underlying30 rfl rfl rfl) rfl<|s1 ((aa rfl).v (v':= .i .i64 0) rfl) rfl ?_
 refine ah<|ae<|aM ?_
 refine bH (ι:=Nat) (fun i=> [(1,.fn (.func 77) [] [.fp (x.map u8),.fp (gC f)]),(4,.sl 119 1 0 (iF x f (l.take i)).length),(7,.fz l.length (l.map (A.i .i64))),(8,nJ l.length),(9,nJ i)]) (fun i=>⟨[(119,some ((iF x f (l.take i)).map iA))]⟩) (fun i=>i≤l.length) (fun i=>l.length - i) ?_ ?_
 ·exact bG (0) (Nat.zero_le _) [(119,none)] hI rfl rfl ⟨⟨_,rfl,.pure pu⟩,⟨_,rfl,.nl rfl⟩,⟨_,rfl,.pure pu⟩,⟨_,rfl,.pure pu⟩,⟨_,rfl,.pure pu⟩,trivial⟩ ⟨.inl ⟨rfl,rfl⟩,trivial⟩
 rintro i hi
 have hwl:=Jb x f (l.take i)
 rw [List.length_take]at hwl
 refine af<|ai<|s1 (aa rfl) rfl ?_
 refine ah<|ae<|af ?_
 refine aP rfl (fun hc10=>?_) (fun hc10=>?_)
 ·have h10 : i < l.length := by have := of_decide_eq_true hc10; omega
  obtain⟨q,hq⟩:∃q,l[i]? =some q:=⟨_,List.getElem?_eq_getElem h10⟩
  refine aK<|ae<|af<|aM<|af<|ai<|s1 (aT i Tryz.underlying30 an rfl rfl rfl (by omega) rfl) rfl<|s1 (au an rfl rfl (oF hq)) rfl<|s1 (aa rfl) rfl ?_
  refine ah<|ae<|af<|ai<|s1 (aa rfl) rfl<|s1 (aa rfl) rfl ?_
  refine ak rfl (nr false rfl rfl (.cons (.pure pu) (.cons (.pure pu) (.cons (.pure pu) .nil))) (FZ x hx f q) pu (.inl rfl) rfl ?_)
  refine ah<|ae ?_
  refine aP rfl (fun hc15=>?_) (fun hc15=>?_)
  ·have hwn := M3 hq hc15
   refine ai<|s1 (aa rfl) rfl<|s1 (aa rfl) rfl ?_
   refine ak rfl (dZ 18 rfl Tryz.underlying30 an rfl rfl rfl rfl rfl ?_)
   refine ak rfl (cY 19 rfl Tryz.underlying30 an rfl (.sl rfl (by simp)) rfl (cO rfl (by first|rfl|omega|(simp<;>omega)|(simp [*]<;>omega))) (by simp) (by simp only [maxLen];omega) (by omega) rfl (Ew hq hc15) rfl ?_)
   refine s1 (aa rfl) rfl ?_
   refine ah<|bj<|ae<|ai<|s1 (bg _ 1 rfl rfl rfl rfl (by omega)) rfl<|s1 (aa rfl) rfl ?_
   refine ah ?_
   exact bu (i+1) (by omega) (by omega) [(119,some 19)] hI rfl rfl ⟨⟨_,rfl,.pure pu⟩,⟨_,rfl,.sl rfl (by first|rfl|omega|(simp<;>omega)|(simp [*]<;>omega))⟩,⟨_,rfl,.pure pu⟩,⟨_,rfl,.pure pu⟩,⟨_,rfl,.pure pu⟩,trivial⟩ ⟨.inr ⟨_,_,rfl,rfl,.pure ar⟩,trivial⟩
  ·have hfm := M4 hq hc15
   have hwn:(iF x f (l.take i)).length=(iF x f (l.take (i+1))).length:=by rw [hfm]
   refine aK<|bj<|ae<|ai<|s1 (bg _ 1 rfl rfl rfl rfl (by omega)) rfl<|s1 (aa rfl) rfl ?_
   refine ah ?_
   exact bu (i+1) (by omega) (by omega) [(119,some 119)] hI rfl rfl ⟨⟨_,rfl,.pure pu⟩,⟨_,rfl,.sl rfl (by first|rfl|omega|(simp<;>omega)|(simp [*]<;>omega))⟩,⟨_,rfl,.pure pu⟩,⟨_,rfl,.pure pu⟩,⟨_,rfl,.pure pu⟩,trivial⟩ ⟨.inr ⟨_,_,rfl,rfl,.of (by rw [hfm]) (.pure ar)⟩,trivial⟩
 ·obtain rfl : i = l.length := by have := of_decide_eq_false hc10; omega
  refine bE<|aO<|aO<|bF<|ae<|af ?_
  refine gz 4 rfl rfl ar (cD (by simp) rfl) ?_
  refine mY 4 rfl (v':=jZ (iF x f l)) (by rw [List.take_length]) ?_
  refine ai<|s1 (aa rfl) rfl<|s1 (aa rfl) rfl ?_
  refine ah<|ae<|aF ?_
  refine aG (rs:= [.tmp 4]) rfl (aD rfl aC) ?_
  rfl
theorem zn (x:List UInt8) (hx:x.length=32) (p q:List Int) (hp:p.length≤100) (hq100:q.length≤100):aB Tryz.prog 29 [.ag (x.map u8),.fz p.length (p.map (A.i .i64)),.fz q.length (q.map (A.i .i64))] (aU (buildA x p q)):=by
 refine enter Tryz.func29 rfl Tryz.ntmps29 (by kernel_rfl) (Nat.le_of_ble_eq_true rfl) fun w0 X0 hI=>?_
 refine af<|ai ?_
 refine ak rfl (bY 3 rfl rfl rfl ?_)
 refine ak rfl (bt 6 rfl ee rfl rfl ?_)
 refine s1 ((aa rfl).v (v':= .i .i64 0) rfl) rfl ?_
 refine ah<|ae<|af<|af ?_
 rcases JQ p q with hcs|hcs|hcs|hcs
 ·obtain ⟨h1, hb⟩ := hcs
  refine fh 3 rfl rfl ar ?_
  refine ai<|s1 (aa rfl) rfl ?_
  refine ak rfl (aJ false rfl (.cons (.pure pu) (.nil)) (aB.cast (mo p (by simp only [maxLen];omega)) (congrArg A.b h1)) pu (.inl rfl) rfl ?_)
  refine s1 ((aa rfl).v (v':= .b true) (rfl)) rfl<|s1 (aa rfl) rfl<|g0 rfl rfl rfl rfl<|g0 rfl rfl rfl rfl<|g0 rfl rfl rfl rfl<|s1 (aa rfl) rfl<|s1 (aa rfl) rfl<|g0 rfl rfl rfl rfl<|g0 rfl rfl rfl rfl<|g0 rfl rfl rfl rfl ?_
  refine g0 rfl rfl rfl rfl<|s1 (aa rfl) rfl ?_
  refine ah<|ae ?_
  refine bT rfl ?_
  refine af<|ai<|s1 (aZ ee rfl rfl rfl) rfl ?_
  refine ak rfl (bo ee rfl rfl rfl (by first|rfl|omega|(simp<;>omega)|(simp [*]<;>omega)) (by first|rfl|omega|(simp<;>omega)|(simp [*]<;>omega)) ?_)
  refine s1 ((aa rfl).v (v':= .i .i64 340) rfl) rfl ?_
  refine ah<|ae<|aF<|aH ?_
  refine cV 6 (cs':=jO.map u8++ [.nl,.nl]) rfl rfl ?_
  refine iG 6 rfl yg ?_
  refine aG (rs:= [.cell 6 60,.tmp 7]) rfl (ct ee rfl rfl rfl rfl (aD rfl aC)) ?_
  show A.tu _=_;rw [vr hb];rfl
 ·obtain ⟨h1, h2, hb⟩ := hcs
  refine fh 3 rfl rfl ar ?_
  refine ai<|s1 (aa rfl) rfl ?_
  refine ak rfl (aJ false rfl (.cons (.pure pu) (.nil)) (aB.cast (mo p (by simp only [maxLen];omega)) (congrArg A.b h1)) pu (.inl rfl) rfl ?_)
  refine s1 ((aa rfl).v (v':= .b false) (rfl)) rfl<|s1 (aa rfl) rfl<|g1 rfl rfl (aa rfl) rfl ?_
  refine jf rfl rfl rfl (aJ false rfl (.cons (.pure pu) (.nil)) (aB.cast (mo q (by simp only [maxLen];omega)) (congrArg A.b h2)) pu (.inl rfl) rfl ?_)
  refine g1 rfl rfl ((aa rfl).v (v':= .b true) (rfl)) rfl<|s1 (aa rfl) rfl<|s1 (aa rfl) rfl<|g0 rfl rfl rfl rfl<|g0 rfl rfl rfl rfl<|g0 rfl rfl rfl rfl<|g0 rfl rfl rfl rfl<|s1 (aa rfl) rfl ?_
  refine ah<|ae ?_
  refine bT rfl ?_
  refine af<|ai<|s1 (aZ ee rfl rfl rfl) rfl ?_
  refine ak rfl (bo ee rfl rfl rfl (by first|rfl|omega|(simp<;>omega)|(simp [*]<;>omega)) (by first|rfl|omega|(simp<;>omega)|(simp [*]<;>omega)) ?_)
  refine s1 ((aa rfl).v (v':= .i .i64 340) rfl) rfl ?_
  refine ah<|ae<|aF<|aH ?_
  refine cV 6 (cs':=jO.map u8++ [.nl,.nl]) rfl rfl ?_
  refine iG 6 rfl yg ?_
  refine aG (rs:= [.cell 6 60,.tmp 7]) rfl (ct ee rfl rfl rfl rfl (aD rfl aC)) ?_
  show A.tu _=_;rw [vr hb];rfl
 ·obtain ⟨h1, h2, h3, hb⟩ := hcs
  refine fh 3 rfl rfl ar ?_
  refine ai<|s1 (aa rfl) rfl ?_
  refine ak rfl (aJ false rfl (.cons (.pure pu) (.nil)) (aB.cast (mo p (by simp only [maxLen];omega)) (congrArg A.b h1)) pu (.inl rfl) rfl ?_)
  refine s1 ((aa rfl).v (v':= .b false) (rfl)) rfl<|s1 (aa rfl) rfl<|g1 rfl rfl (aa rfl) rfl ?_
  refine jf rfl rfl rfl (aJ false rfl (.cons (.pure pu) (.nil)) (aB.cast (mo q (by simp only [maxLen];omega)) (congrArg A.b h2)) pu (.inl rfl) rfl ?_)
  refine g1 rfl rfl ((aa rfl).v (v':= .b false) (rfl)) rfl<|s1 (aa rfl) rfl<|s1 (aa rfl) rfl<|g1 rfl rfl (aa rfl) rfl<|g1 rfl rfl (aa rfl) rfl ?_
  refine jf rfl rfl rfl (aJ false rfl (.cons (.pure pu) (.cons (.pure pu) (.nil))) (aB.cast (Am p q (by simp only [maxLen];omega) (by simp only [maxLen];omega)) (congrArg A.b h3)) pu (.inl rfl) rfl ?_)
  refine g1 rfl rfl ((aa rfl).v (v':= .b true) (rfl)) rfl<|s1 (aa rfl) rfl ?_
  refine ah<|ae ?_
  refine bT rfl ?_
  refine af<|ai<|s1 (aZ ee rfl rfl rfl) rfl ?_
  refine ak rfl (bo ee rfl rfl rfl (by first|rfl|omega|(simp<;>omega)|(simp [*]<;>omega)) (by first|rfl|omega|(simp<;>omega)|(simp [*]<;>omega)) ?_)
  refine s1 ((aa rfl).v (v':= .i .i64 340) rfl) rfl ?_
  refine ah<|ae<|aF<|aH ?_
  refine cV 6 (cs':=jO.map u8++ [.nl,.nl]) rfl rfl ?_
  refine iG 6 rfl yg ?_
  refine aG (rs:= [.cell 6 60,.tmp 7]) rfl (ct ee rfl rfl rfl rfl (aD rfl aC)) ?_
  show A.tu _=_;rw [vr hb];rfl
 ·obtain ⟨h1, h2, h3, hb⟩ := hcs
  refine fh 3 rfl rfl ar ?_
  refine ai<|s1 (aa rfl) rfl ?_
  refine ak rfl (aJ false rfl (.cons (.pure pu) (.nil)) (aB.cast (mo p (by simp only [maxLen];omega)) (congrArg A.b h1)) pu (.inl rfl) rfl ?_)
  refine s1 ((aa rfl).v (v':= .b false) (rfl)) rfl<|s1 (aa rfl) rfl<|g1 rfl rfl (aa rfl) rfl ?_
  refine jf rfl rfl rfl (aJ false rfl (.cons (.pure pu) (.nil)) (aB.cast (mo q (by simp only [maxLen];omega)) (congrArg A.b h2)) pu (.inl rfl) rfl ?_)
  refine g1 rfl rfl ((aa rfl).v (v':= .b false) (rfl)) rfl<|s1 (aa rfl) rfl<|s1 (aa rfl) rfl<|g1 rfl rfl (aa rfl) rfl<|g1 rfl rfl (aa rfl) rfl ?_
  refine jf rfl rfl rfl (aJ false rfl (.cons (.pure pu) (.cons (.pure pu) (.nil))) (aB.cast (Am p q (by simp only [maxLen];omega) (by simp only [maxLen];omega)) (congrArg A.b h3)) pu (.inl rfl) rfl ?_)
  refine g1 rfl rfl ((aa rfl).v (v':= .b false) (rfl)) rfl<|s1 (aa rfl) rfl ?_
  refine ah<|ae ?_
  refine cK rfl ?_
  refine aK<|ae<|af ?_
  refine cV 6 (cs':=jO.map u8++ [.nl,.nl]) rfl rfl ?_
  refine ai<|s1 (cm aE rfl rfl (List.take_of_length_le (by simp [hx])) (by simp [hx])) rfl<|s1 (aA Tryz.underlying60 rfl aE (by decide) rfl rfl) rfl ?_
  refine mY 30 rfl (v':= .p 6 0) rfl ?_
  refine ak rfl (ju aE rfl rfl rfl rfl rfl (by rw [show aX (A.ag (x.map u8))=x.map u8 from rfl,List.length_map,hx]) (Nat.le_of_ble_eq_true rfl) Me ?_)
  refine ah<|ae<|af<|ai<|s1 (aa rfl) rfl<|s1 (aa rfl) rfl<|s1 (aa rfl) rfl<|s1 (aa rfl) rfl ?_
  refine ah<|ae<|af<|aM ?_
  refine bH (ι:=Nat) (fun n=> [(3,.fp (x.map u8)),(6,.p 6 0),(8,jZ (bS x p q n).2.1),(9,jZ (bS x p q n).2.2)]) (fun n=>⟨[(6,some (x.map u8++ [.sl 180 3 0 n,.nl])),(180,some ((bS x p q n).1.flatMap gC))]⟩) (fun n=>n≤16∧∀t,t<n→jY x p q t=true) (fun n=>16 - n) ?_ ?_
  ·exact bG (0) (⟨by omega,fun t ht=>absurd ht (by omega)⟩) [(6,some 6),(180,none)] hI rfl rfl ⟨⟨_,rfl,.pure pu⟩,⟨_,rfl,.p rfl⟩,⟨_,rfl,.pure pu⟩,⟨_,rfl,.pure pu⟩,trivial⟩ ⟨.inr ⟨_,_,rfl,rfl,.app (.pure ar) (.cons (.nl rfl) (.cons (.pure pu) .nil))⟩,.inl ⟨rfl,rfl⟩,trivial⟩
  rintro n ⟨hn,hgo⟩
  obtain⟨hal,hbl⟩:=rW (x:=x) hp hq100 n
  have hfl:((bS x p q n).1.flatMap gC).length=n*3:=by rw [wH,js]
  have hnb:=qD (bS x p q n).2.1
  have hnum:=(FC (x:=x) hb n).1
  refine af<|af<|ai<|s1 (aa rfl) rfl<|s1 (bx Tryz.underlying30 rfl rfl rfl) rfl<|s1 (aa rfl) rfl<|s1 (aa rfl) rfl ?_
  refine ik 36 rfl (fun hc36=>?_) (fun hc36=>?_)
  ·have h36 : 0 < (bS x p q n).2.1.length := by have := of_decide_eq_true hc36; omega
   refine g1 rfl rfl (aA Tryz.underlying60 rfl iE (by decide) rfl rfl) rfl<|g1 rfl rfl (au iE rfl rfl (congrArg (fun l=>l[0]?) (uq hx _))) rfl<|g1 rfl rfl (bx Tryz.underlying58 rfl rfl rfl) rfl<|g1 rfl rfl (aa rfl) rfl<|s1 (aa rfl) rfl ?_
   refine ah<|ae ?_
   refine aP rfl (fun hc41=>?_) (fun hc41=>?_)
   ·have h41 : n < 16 := by have := of_decide_eq_true hc41; omega
    refine aK<|ae<|aM<|af<|ai<|s1 (aA Tryz.underlying60 rfl iE (by decide) rfl rfl) rfl<|s1 (au iE rfl rfl (congrArg (fun l=>l[0]?) (uq hx _))) rfl<|s1 (bx Tryz.underlying58 rfl rfl rfl) rfl<|s1 (aa rfl) rfl<|s1 (bx Tryz.underlying30 rfl rfl rfl) rfl<|s1 (iy 4 _ rfl rfl rfl rfl (by omega)) rfl<|s1 (yo (a:=4*(bS x p q n).2.1.length) (b:=8) rfl rfl rfl) rfl<|s1 (Nf (a:=max (4*(bS x p q n).2.1.length) 8) (b:=4096) (c:=ec (bS x p q n).2.1) rfl rfl rfl) rfl ?_
    refine ak rfl (aJ false rfl (.cons (.pure pu) (.cons (.pure pu) (.nil))) (aB.cast (HN n (ec (bS x p q n).2.1)) (Ck (tt h41 hnb.1 hnb.2))) pu (.inl rfl) rfl ?_)
    refine s1 (aa rfl) rfl<|s1 (aa rfl) rfl<|s1 (aa rfl) rfl ?_
    refine ak rfl (bt 10 rfl cG rfl rfl ?_)
    refine ak rfl (bo cG rfl rfl rfl (by first|rfl|omega|(simp<;>omega)|(simp [*]<;>omega)) (by first|rfl|omega|(simp<;>omega)|(simp [*]<;>omega)) ?_)
    refine s1 (aa rfl) rfl ?_
    refine ah<|ae<|af<|af<|ai<|s1 (aa rfl) rfl<|s1 ((aa rfl).v (v':= .b false) (rfl)) rfl ?_
    refine ah<|ae ?_
    refine cK rfl ?_
    refine aK<|ae<|af<|af<|ai<|s1 (aa rfl) rfl<|s1 (bx Tryz.underlying30 rfl rfl rfl) rfl<|s1 ((aa rfl).v (v':= .i .i64 0) rfl) rfl ?_
    refine ah<|ae<|aM ?_
    refine bH (ι:=Nat) (fun k=> [(3,.fp (x.map u8)),(6,.p 6 0),(8,jZ (bS x p q n).2.1),(9,jZ (bS x p q n).2.2),(10,.p 10 0),(58,jZ (bS x p q n).2.1),(59,nJ (bS x p q n).2.1.length),(60,nJ k)]) (fun k=>⟨[(6,some (x.map u8++ [.sl 180 3 0 n,.nl])),(180,some ((bS x p q n).1.flatMap gC)),(10,some ([nJ n,nJ (ec (bS x p q n).2.1),dz (jc x (n:Nat) (ec (bS x p q n).2.1:Nat) (nT (ec (bS x p q n).2.1)) ((bS x p q n).2.1.take k))]))]⟩) (fun k=>k≤(bS x p q n).2.1.length) (fun k=>(bS x p q n).2.1.length - k) ?_ ?_
    ·exact bG (0) (Nat.zero_le _) [(6,some 6),(10,some 10),(180,some 180)] hI rfl rfl ⟨⟨_,rfl,.pure pu⟩,⟨_,rfl,.p rfl⟩,⟨_,rfl,.pure pu⟩,⟨_,rfl,.pure pu⟩,⟨_,rfl,.p rfl⟩,⟨_,rfl,.pure pu⟩,⟨_,rfl,.pure pu⟩,⟨_,rfl,.pure pu⟩,trivial⟩ ⟨.inr ⟨_,_,rfl,rfl,.app (.pure ar) (.cons (.sl rfl rfl) (.cons (.pure pu) .nil))⟩,.inr ⟨_,_,rfl,rfl,.pure ar⟩,.inr ⟨_,_,rfl,rfl,.of (by rfl) (.pure ar)⟩,trivial⟩
    rintro k hk
    refine af<|ai<|s1 (aa rfl) rfl ?_
    refine ah<|ae<|af ?_
    refine aP rfl (fun hc61=>?_) (fun hc61=>?_)
    ·have h61 : k < (bS x p q n).2.1.length := by have := of_decide_eq_true hc61; omega
     obtain⟨v,hv⟩:∃v,(bS x p q n).2.1[k]? =some v:=⟨_,List.getElem?_eq_getElem h61⟩
     have hv0:=hnum v (List.mem_of_getElem? hv)
     refine aK<|ae<|af<|aM<|af<|ai<|s1 (aT k Tryz.underlying30 an rfl rfl rfl (by omega) rfl) rfl<|s1 (au an rfl rfl (oF hv)) rfl<|s1 (aa rfl) rfl ?_
     refine ah<|ae<|af<|ai<|s1 (cm aE rfl rfl (List.take_of_length_le (by simp [hx])) (by simp [hx])) rfl<|s1 (aZ cG rfl rfl rfl) rfl<|s1 (aa rfl) rfl ?_
     refine ak rfl (aJ false rfl (.cons (.pure pu) (.cons (.pure pu) (.cons (.pure pu) (.nil)))) (aB.cast (Hx x (n:Nat) (ec (bS x p q n).2.1:Nat) v (jc x (n:Nat) (ec (bS x p q n).2.1:Nat) (nT (ec (bS x p q n).2.1)) ((bS x p q n).2.1.take k)) hx) (EY h41 hv hv0)) pu (.inl rfl) rfl ?_)
     refine s1 (aa rfl) rfl<|s1 (aa rfl) rfl<|s1 (aa rfl) rfl ?_
     refine ak rfl (bo cG rfl rfl rfl (by first|rfl|omega|(simp<;>omega)|(simp [*]<;>omega)) (by first|rfl|omega|(simp<;>omega)|(simp [*]<;>omega)) ?_)
     refine s1 (aa rfl) rfl ?_
     refine ah<|ae<|af<|ai<|s1 (aa rfl) rfl<|s1 ((aa rfl).v (v':= .b false) (rfl)) rfl ?_
     refine ah<|ae ?_
     refine cK rfl ?_
     refine aK<|bj<|ae<|ai<|s1 (bg _ 1 rfl rfl rfl rfl (by omega)) rfl<|s1 (aa rfl) rfl ?_
     refine ah ?_
     exact bu (k+1) (by omega) (by omega) [(6,some 6),(10,some 10),(180,some 180)] hI rfl rfl ⟨⟨_,rfl,.pure pu⟩,⟨_,rfl,.p rfl⟩,⟨_,rfl,.pure pu⟩,⟨_,rfl,.pure pu⟩,⟨_,rfl,.p rfl⟩,⟨_,rfl,.pure pu⟩,⟨_,rfl,.pure pu⟩,⟨_,rfl,.pure pu⟩,trivial⟩ ⟨.inr ⟨_,_,rfl,rfl,.app (.pure ar) (.cons (.sl rfl rfl) (.cons (.pure pu) .nil))⟩,.inr ⟨_,_,rfl,rfl,.pure ar⟩,.inr ⟨_,_,rfl,rfl,.pure ar⟩,trivial⟩
    ·have h61 : k = (bS x p q n).2.1.length := by have := of_decide_eq_false hc61; omega
     subst h61
     refine bE<|aO<|aO<|bF<|ae<|af ?_
     refine cV 10 (cs':=gC (ma x n (bS x p q n).2.1)) rfl (by rw [List.take_length];rfl) ?_
     refine ai<|s1 (aA Tryz.underlying60 rfl iE (by decide) rfl rfl) rfl<|s1 (au iE rfl rfl (congrArg (fun l=>l[0]?) (uq hx _))) rfl<|s1 (aZ cG rfl rfl rfl) rfl ?_
     refine ak rfl (fX 79 rfl Tryz.underlying58 cG rfl rfl rfl (by first|(simp [aX];done)|(simp [aX, *];done)) rfl rfl rfl rfl ?_)
     refine ak rfl (cY 80 rfl Tryz.underlying58 cG rfl (.sl rfl (by rw [hfl])) rfl (cO rfl (by first|rfl|omega|(simp<;>omega)|(simp [*]<;>omega))) rfl (by simp only [maxLen];omega) (by omega) rfl (FB x p q n) rfl ?_)
     refine s1 (aA Tryz.underlying60 rfl iE (by decide) rfl rfl) rfl ?_
     refine ak rfl (bZ iE rfl rfl rfl rfl (by simp [hx]) (x7 hx _ _ _) ?_)
     refine ah<|ae ?_
     refine fh 10 rfl rfl ar ?_
     refine ai<|s1 (aa rfl) rfl<|s1 (gx (us:= []) (vs:= [.fp (x.map u8),.fp (gC (ma x n (bS x p q n).2.1))]) rfl rfl) rfl ?_
     refine ak rfl (aJ false rfl (.cons (.pure pu) (.cons (.pure pu) .nil)) (F1 x hx (ma x n (bS x p q n).2.1) (bS x p q n).2.2 hbl) pu (.inl rfl) rfl ?_)
     refine s1 (aa rfl) rfl<|s1 (aa rfl) rfl<|s1 (aa rfl) rfl ?_
     refine ah<|bj ?_
     exact bu (n+1) (⟨by omega,vb hgo (Ih h36)⟩) (by omega) [(6,some 6),(180,some 80)] hI rfl rfl ⟨⟨_,rfl,.pure pu⟩,⟨_,rfl,.p rfl⟩,⟨_,rfl,.pure pu⟩,⟨_,rfl,.pure pu⟩,trivial⟩ ⟨.inr ⟨_,_,rfl,rfl,.app (.pure ar) (.cons (.sl rfl (by first|rfl|omega|(simp<;>omega)|(simp [*]<;>omega))) (.cons (.pure pu) .nil))⟩,.inr ⟨_,_,rfl,rfl,.pure ar⟩,trivial⟩
   ·have h41 : n = 16 := by have := of_decide_eq_false hc41; omega
    subst h41
    have hend:=AE hgo
    refine bE<|aO<|aO<|bF<|ae<|af<|ai<|s1 (aA Tryz.underlying60 rfl ib (by decide) rfl rfl) rfl<|s1 (au ib rfl rfl (congrArg (fun l=>l[0]?) (D7 hx _ _))) rfl<|s1 (aa rfl) rfl ?_
    refine ak rfl (cY 89 rfl Tryz.underlying30 an rfl .nl rfl rfl (by simp) (by simp only [maxLen];omega) (by omega) rfl rfl rfl ?_)
    refine s1 (aA Tryz.underlying60 rfl ib (by decide) rfl rfl) rfl ?_
    refine ak rfl (bZ ib rfl rfl rfl rfl (by simp [hx]) (ur hx _ _ _) ?_)
    refine ah<|ae<|af ?_
    refine jQ 6 32 rfl (by rw [List.getElem?_append_right (by simp [hx]),List.length_map,hx];rfl) rfl rfl ar (cD (by rw [wH,js]) rfl) (x7 hx _ _ _) ?_
    refine jQ 6 33 rfl (by rw [List.getElem?_append_right (by simp [hx]),List.length_map,hx];rfl) rfl rfl ar (cD (by simp) rfl) (ur hx _ _ _) ?_
    refine cV 6 (cs':=eL (fy x p q)) rfl (by rw [Nat.zero_add,List.nil_append];exact zm hend) ?_
    refine ai<|s1 (aZ ee rfl rfl (gm (c:=fy x p q) hx)) rfl ?_
    refine ak rfl (bo ee rfl rfl rfl (gm (c:=fy x p q) hx) (gm (c:=fy x p q) hx) ?_)
    refine s1 ((aa rfl).v (v':= .i .i64 0) rfl) rfl ?_
    refine ah<|ae<|aF ?_
    refine aG (rs:= [.cell 6 60,.tmp 7]) rfl (ct ee rfl rfl (zl (c:=fy x p q) hx) (gm (c:=fy x p q) hx) (aD rfl aC)) ?_
    show A.tu _=_;rw [rZ hb]
  ·have h36 : ¬ 0 < (bS x p q n).2.1.length := by have := of_decide_eq_false hc36; omega
   have hend:=Hj hn hgo h36
   refine g0 rfl rfl rfl rfl<|g0 rfl rfl rfl rfl<|g0 rfl rfl rfl rfl<|g0 rfl rfl rfl rfl<|s1 (aa rfl) rfl ?_
   refine ah<|ae ?_
   refine cK rfl ?_
   refine bE<|aO<|aO<|bF<|ae<|af<|ai<|s1 (aA Tryz.underlying60 rfl ib (by decide) rfl rfl) rfl<|s1 (au ib rfl rfl (congrArg (fun l=>l[0]?) (D7 hx _ _))) rfl<|s1 (aa rfl) rfl ?_
   refine ak rfl (cY 89 rfl Tryz.underlying30 an rfl .nl rfl rfl (by simp) (by simp only [maxLen];omega) (by omega) rfl rfl rfl ?_)
   refine s1 (aA Tryz.underlying60 rfl ib (by decide) rfl rfl) rfl ?_
   refine ak rfl (bZ ib rfl rfl rfl rfl (by simp [hx]) (ur hx _ _ _) ?_)
   refine ah<|ae<|af ?_
   refine jQ 6 32 rfl (by rw [List.getElem?_append_right (by simp [hx]),List.length_map,hx];rfl) rfl rfl ar (cD (by rw [wH,js]) rfl) (x7 hx _ _ _) ?_
   refine jQ 6 33 rfl (by rw [List.getElem?_append_right (by simp [hx]),List.length_map,hx];rfl) rfl rfl ar (cD (by simp) rfl) (ur hx _ _ _) ?_
   refine cV 6 (cs':=eL (fy x p q)) rfl (by rw [Nat.zero_add,List.nil_append];exact zm hend) ?_
   refine ai<|s1 (aZ ee rfl rfl (gm (c:=fy x p q) hx)) rfl ?_
   refine ak rfl (bo ee rfl rfl rfl (gm (c:=fy x p q) hx) (gm (c:=fy x p q) hx) ?_)
   refine s1 ((aa rfl).v (v':= .i .i64 0) rfl) rfl ?_
   refine ah<|ae<|aF ?_
   refine aG (rs:= [.cell 6 60,.tmp 7]) rfl (ct ee rfl rfl (zl (c:=fy x p q) hx) (gm (c:=fy x p q) hx) (aD rfl aC)) ?_
   show A.tu _=_;rw [rZ hb]
end Go.Abs.D2
-- C4F
namespace Go.Abs.D2
open Go Go.Eng Go.Abs Go.Proofs
end Go.Abs.D2
-- C4G
namespace Go.Abs.D2
open Go Go.Eng Go.Abs Go.Proofs
theorem z8 (n:Int):aB Tryz.prog 121 [.i .i64 n] (aU (.ag (CV.cells (bM n)))):=by
 refine enter Tryz.func121 rfl Tryz.ntmps121 (by kernel_rfl) (Nat.le_of_ble_eq_true rfl) fun w0 X0 hI=>?_
 refine af<|ai ?_
 refine ak rfl (bt 2 rfl br rfl rfl ?_)
 refine ah<|ae<|af<|ai<|s1 (aa rfl) rfl<|s1 (eu (out:= [_,_,_,_]) [[aW (.int .i64 0)], [aW (.int .i64 0)], [aW (.string ByteArray.empty)], [aW (.slice none 0 0)]] br rfl Tryz.underlying109 (by kernel_rfl) rfl rfl ⟨⟨by(first|rfl|omega|(simp;done)|(simp [*];done)|(simp [aX, *];done)),rfl⟩,⟨⟨by(first|rfl|omega|(simp;done)|(simp [*];done)|(simp [aX, *];done)),rfl⟩,trivial⟩⟩ rfl) rfl ?_
 refine ak rfl (bo br rfl rfl rfl (by first|rfl|omega|(simp<;>omega)|(simp [*]<;>omega)) (by first|rfl|omega|(simp<;>omega)|(simp [*]<;>omega)) ?_)
 refine ah<|ae<|aF ?_
 refine iG 2 rfl rf ?_
 refine aG (rs:= [.cell 2 109]) rfl (ct br rfl rfl rfl rfl aC) ?_
 rfl
theorem Aa (l:List UInt8):aB Tryz.prog 122 [.fz l.length (l.map u8)] (aU (.ag (CV.cells (c9 l)))):=by
 refine enter Tryz.func122 rfl Tryz.ntmps122 (by kernel_rfl) (Nat.le_of_ble_eq_true rfl) fun w0 X0 hI=>?_
 refine af<|ai ?_
 refine ak rfl (bt 2 rfl br rfl rfl ?_)
 refine ah<|ae<|af<|ai<|s1 (aa rfl) rfl<|s1 (pz Tryz.underlying68 Tryz.underlying5 Tryz.underlying9 rfl rfl (by simp)) rfl<|s1 (eu (out:= [_,_,_,_]) [[aW (.int .i64 0)], [aW (.int .i64 0)], [aW (.string ByteArray.empty)], [aW (.slice none 0 0)]] br rfl Tryz.underlying109 (by kernel_rfl) rfl rfl ⟨⟨by(first|rfl|omega|(simp;done)|(simp [*];done)|(simp [aX, *];done)),rfl⟩,⟨⟨by(first|rfl|omega|(simp;done)|(simp [*];done)|(simp [aX, *];done)),rfl⟩,trivial⟩⟩ rfl) rfl ?_
 refine ak rfl (bo br rfl rfl rfl (by first|rfl|omega|(simp<;>omega)|(simp [*]<;>omega)) (by first|rfl|omega|(simp<;>omega)|(simp [*]<;>omega)) ?_)
 refine ah<|ae<|aF ?_
 refine iG 2 rfl rf ?_
 refine aG (rs:= [.cell 2 109]) rfl (ct br rfl rfl rfl rfl aC) ?_
 rfl
theorem sk (l:List CV):aB Tryz.prog 120 [.fz l.length (CV.bI l)] (aU (.ag (CV.cells (cX l)))):=by
 refine enter Tryz.func120 rfl Tryz.ntmps120 (by kernel_rfl) (Nat.le_of_ble_eq_true rfl) fun w0 X0 hI=>?_
 refine af<|ai ?_
 refine ak rfl (bt 2 rfl br rfl rfl ?_)
 refine ah<|ae<|af<|ai<|s1 (aa rfl) rfl<|s1 (eu (out:= [_,_,_,_]) [[aW (.int .i64 0)], [aW (.int .i64 0)], [aW (.string ByteArray.empty)], [aW (.slice none 0 0)]] br rfl Tryz.underlying109 (by kernel_rfl) rfl rfl ⟨⟨by(first|rfl|omega|(simp;done)|(simp [*];done)|(simp [aX, *];done)),rfl⟩,⟨⟨by(first|rfl|omega|(simp;done)|(simp [*];done)|(simp [aX, *];done)),rfl⟩,trivial⟩⟩ rfl) rfl ?_
 refine ak rfl (bo br rfl rfl rfl (by first|rfl|omega|(simp<;>omega)|(simp [*]<;>omega)) (by first|rfl|omega|(simp<;>omega)|(simp [*]<;>omega)) ?_)
 refine ah<|ae<|aF ?_
 refine aG (rs:= [.cell 2 109]) rfl (ct br rfl rfl rfl rfl aC) ?_
 rfl
theorem zu (c:bX) (hx:c.x.length=32) (hn:c.E.length≤maxLen):aB Tryz.prog 79 [.ag (eL c)] (aU (encCA c)):=by
 refine enter Tryz.func79 rfl Tryz.ntmps79 (by kernel_rfl) (Nat.le_of_ble_eq_true rfl) fun w0 X0 hI=>?_
 refine af<|ai ?_
 refine ak rfl (bY 1 rfl rfl rfl ?_)
 refine s1 (aa rfl) rfl<|s1 ((aa rfl).v (v':= .i .i64 0) rfl) rfl ?_
 refine ah<|ae<|af<|af ?_
 rcases lS (dP c)with hcs|hcs
 ·skip
  refine ai<|s1 (aZ ee rfl rfl (gm hx)) rfl ?_
  refine ak rfl (aJ false rfl (.cons (.pure pu) (.nil)) (aB.cast (zo c hx hn) (congrArg (fun b=>A.i .i64 (wA b)) hcs)) pu (.inl rfl) rfl ?_)
  refine s1 (aa rfl) rfl ?_
  refine ah<|ae<|af<|ai<|s1 (aa rfl) rfl<|s1 ((aa rfl).v (v':= .b true) (rfl)) rfl ?_
  refine ah<|ae ?_
  refine bT rfl ?_
  refine af<|ai<|s1 (aa rfl) rfl<|s1 (aa rfl) rfl<|s1 (aa rfl) rfl ?_
  refine ah<|ae<|aF<|aH ?_
  refine aG (rs:= [.tmp 2,.tmp 3]) rfl (aD rfl (aD rfl aC)) ?_
  exact(AB hcs).symm
 ·obtain ⟨hF, hE, _⟩ := sa hcs
  have hEl:=B1 hE
  have hel:=wv hcs hx
  refine ai<|s1 (aZ ee rfl rfl (gm hx)) rfl ?_
  refine ak rfl (aJ false rfl (.cons (.pure pu) (.nil)) (aB.cast (zo c hx hn) (congrArg (fun b=>A.i .i64 (wA b)) hcs)) pu (.inl rfl) rfl ?_)
  refine s1 (aa rfl) rfl ?_
  refine ah<|ae<|af<|ai<|s1 (aa rfl) rfl<|s1 ((aa rfl).v (v':= .b false) (rfl)) rfl ?_
  refine ah<|ae ?_
  refine cK rfl ?_
  refine aK<|ae<|af<|ai<|s1 (aa rfl) rfl<|s1 (aa rfl) rfl ?_
  refine ah<|ae<|af<|af<|ai<|s1 (aA Tryz.underlying60 rfl iE (by decide) rfl rfl) rfl<|s1 (au iE rfl rfl (vC hx)) rfl<|s1 (bx Tryz.underlying58 rfl rfl rfl) rfl<|s1 ((aa rfl).v (v':= .i .i64 0) rfl) rfl ?_
  refine ah<|ae<|aM ?_
  refine bH (ι:=Nat) (fun i=> [(1,.p 1 0),(5,.sl 133 4 0 i),(6,.nl),(17,qj c.F),(18,nJ c.F.length),(19,nJ i)]) (fun i=>⟨[(1,some (eL c)),(133,some (CV.bI ((c.F.take i).map fH)))]⟩) (fun i=>i≤c.F.length) (fun i=>c.F.length - i) ?_ ?_
  ·exact bG (0) (Nat.zero_le _) [(1,some 1),(133,none)] hI rfl rfl ⟨⟨_,rfl,.p rfl⟩,⟨_,rfl,.nl rfl⟩,⟨_,rfl,.pure pu⟩,⟨_,rfl,.pure pu⟩,⟨_,rfl,.pure pu⟩,⟨_,rfl,.pure pu⟩,trivial⟩ ⟨.inr ⟨_,_,rfl,rfl,.pure ar⟩,.inl ⟨rfl,rfl⟩,trivial⟩
  rintro i hi
  refine af<|ai<|s1 (aa rfl) rfl ?_
  refine ah<|ae<|af ?_
  refine aP rfl (fun hc20=>?_) (fun hc20=>?_)
  ·have h19 : i < c.F.length := by have := of_decide_eq_true hc20; omega
   obtain⟨f,hf⟩:∃f,c.F[i]? =some f:=⟨_,List.getElem?_eq_getElem h19⟩
   refine aK<|ae<|af<|aM<|af<|ai<|s1 (aT i Tryz.underlying58 cG rfl rfl rfl (by omega) rfl) rfl<|s1 (cm cG rfl rfl (A5 hf) rfl) rfl ?_
   refine ak rfl (bt 8 rfl cG rfl rfl ?_)
   refine ak rfl (bo cG rfl rfl rfl (by first|rfl|omega|(simp<;>omega)|(simp [*]<;>omega)) (by first|rfl|omega|(simp<;>omega)|(simp [*]<;>omega)) ?_)
   refine ah<|ae ?_
   refine bU ⟨_, [], []⟩ 11 4 bz (le_refl rfl) ?_
   refine aj 0 [] [(133,none)] (aa rfl) rfl rfl<|aj 1 [] [(8,none)] (aA Tryz.underlying120 rfl an (by decide) rfl rfl) rfl rfl<|aj 2 [1] [(8,none)] (au an rfl rfl rfl) rfl rfl<|bV false 3 [2] [] bb rfl (.cons (.pure pu) (.nil)) (z8 f.nb) pu (.inl rfl) rfl rfl<|aj 4 [] [(8,none)] (aA Tryz.underlying120 rfl ef (by decide) rfl rfl) rfl rfl<|aj 5 [4] [(8,none)] (au ef rfl rfl rfl) rfl rfl<|bV false 6 [5] [] bb rfl (.cons (.pure pu) (.nil)) (Aa f.D) pu (.inl rfl) rfl rfl<|kL 30 7 [3,6] bb Tryz.underlying107 br rfl rfl rfl (by simp [aX]) (show _=CV.bI [bM f.nb,c9 f.D]from rfl) rfl rfl rfl rfl<|wN 30 8 [7] [(30,some 7)] bb rfl rfl ar rfl (CV.pU [bM f.nb,c9 f.D]) rfl (by exact ar) (sk [bM f.nb,c9 f.D]) pu rfl rfl<|kL 32 9 [8] bb Tryz.underlying107 br rfl rfl rfl (by simp [aX]) (tI (fH f)) rfl rfl rfl rfl ?_
   refine gV 33 10 [0,9] [(32,some 9),(133,none)] bb Tryz.underlying107 br rfl (.sl rfl (by simp;omega)) rfl (cO rfl (by first|rfl|omega|(simp<;>omega)|(simp [*]<;>omega))) (by simp) (by simp only [maxLen];omega) (by omega) rfl rfl rfl rfl<|bW (by kernel_rfl) ?_
   refine s1 (aa rfl) rfl ?_
   refine ah<|bj<|ae<|ai<|s1 (bg _ 1 rfl rfl rfl rfl (by omega)) rfl<|s1 (aa rfl) rfl ?_
   refine ah ?_
   exact bu (i+1) (by omega) (by omega) [(1,some 1),(133,some 33)] hI rfl rfl ⟨⟨_,rfl,.p rfl⟩,⟨_,rfl,.sl rfl (by first|rfl|omega|(simp<;>omega)|(simp [*]<;>omega))⟩,⟨_,rfl,.pure pu⟩,⟨_,rfl,.pure pu⟩,⟨_,rfl,.pure pu⟩,⟨_,rfl,.pure pu⟩,trivial⟩ ⟨.inr ⟨_,_,rfl,rfl,.pure ar⟩,.inr ⟨_,_,rfl,rfl,.of (HB hf) (.pure ar)⟩,trivial⟩
  ·obtain rfl : i = c.F.length := by have := of_decide_eq_false hc20; omega
   refine bE<|aO<|aO<|bF<|ae<|af<|af ?_
   refine cV 133 (cs':=CV.bI (c.F.map fH)) rfl (by rw [List.take_length]) ?_
   refine ai<|s1 (aA Tryz.underlying60 rfl ib (by decide) rfl rfl) rfl<|s1 (au ib rfl rfl (zk hx)) rfl<|s1 (bx Tryz.underlying30 rfl rfl rfl) rfl<|s1 ((aa rfl).v (v':= .i .i64 0) rfl) rfl ?_
   refine ah<|ae<|aM ?_
   refine bH (ι:=Nat) (fun k=> [(1,.p 1 0),(5,.sl 133 4 0 c.F.length),(6,.sl 146 4 0 k),(36,jZ c.E),(37,nJ c.E.length),(38,nJ k)]) (fun k=>⟨[(1,some (eL c)),(133,some (CV.bI (c.F.map fH))),(146,some (CV.bI ((c.E.take k).map bM)))]⟩) (fun k=>k≤c.E.length) (fun k=>c.E.length - k) ?_ ?_
   ·exact bG (0) (Nat.zero_le _) [(1,some 1),(133,some 133),(146,none)] hI rfl rfl ⟨⟨_,rfl,.p rfl⟩,⟨_,rfl,.sl rfl (by first|rfl|omega|(simp<;>omega)|(simp [*]<;>omega))⟩,⟨_,rfl,.nl rfl⟩,⟨_,rfl,.pure pu⟩,⟨_,rfl,.pure pu⟩,⟨_,rfl,.pure pu⟩,trivial⟩ ⟨.inr ⟨_,_,rfl,rfl,.pure ar⟩,.inr ⟨_,_,rfl,rfl,.pure ar⟩,.inl ⟨rfl,rfl⟩,trivial⟩
   rintro k hk
   refine af<|ai<|s1 (aa rfl) rfl ?_
   refine ah<|ae<|af ?_
   refine aP rfl (fun hc39=>?_) (fun hc39=>?_)
   ·have h30 : k < c.E.length := by have := of_decide_eq_true hc39; omega
    obtain⟨q,hq⟩:∃q,c.E[k]? =some q:=⟨_,List.getElem?_eq_getElem h30⟩
    refine aK<|ae<|af<|aM<|af<|ai<|s1 (aT k Tryz.underlying30 an rfl rfl rfl (by omega) rfl) rfl<|s1 (au an rfl rfl (oF hq)) rfl<|s1 (aa rfl) rfl ?_
    refine ah<|ae<|ai<|s1 (aa rfl) rfl<|s1 (aa rfl) rfl ?_
    refine ak rfl (aJ false rfl (.cons (.pure pu) (.nil)) (z8 q) pu (.inl rfl) rfl ?_)
    refine ak rfl (fX 45 rfl Tryz.underlying107 br rfl rfl rfl (by simp [aX]) (tI (bM q)) rfl rfl rfl ?_)
    refine ak rfl (cY 46 rfl Tryz.underlying107 br rfl (.sl rfl (by simp;omega)) rfl (cO rfl (by first|rfl|omega|(simp<;>omega)|(simp [*]<;>omega))) (by simp) (by simp only [maxLen];omega) (by omega) rfl rfl rfl ?_)
    refine s1 (aa rfl) rfl ?_
    refine ah<|bj<|ae<|ai<|s1 (bg _ 1 rfl rfl rfl rfl (by omega)) rfl<|s1 (aa rfl) rfl ?_
    refine ah ?_
    exact bu (k+1) (by omega) (by omega) [(1,some 1),(133,some 133),(146,some 46)] hI rfl rfl ⟨⟨_,rfl,.p rfl⟩,⟨_,rfl,.sl rfl (by first|rfl|omega|(simp<;>omega)|(simp [*]<;>omega))⟩,⟨_,rfl,.sl rfl (by first|rfl|omega|(simp<;>omega)|(simp [*]<;>omega))⟩,⟨_,rfl,.pure pu⟩,⟨_,rfl,.pure pu⟩,⟨_,rfl,.pure pu⟩,trivial⟩ ⟨.inr ⟨_,_,rfl,rfl,.pure ar⟩,.inr ⟨_,_,rfl,rfl,.pure ar⟩,.inr ⟨_,_,rfl,rfl,.of (Ip hq) (.pure ar)⟩,trivial⟩
   ·obtain rfl : k = c.E.length := by have := of_decide_eq_false hc39; omega
    refine bE<|aO<|aO<|bF<|ae<|af ?_
    refine cV 146 (cs':=CV.bI (c.E.map bM)) rfl (by rw [List.take_length]) ?_
    refine fh 1 rfl rfl ar ?_
    refine ai<|s1 (bd Tryz.underlying60 rfl aE (by decide) rfl rfl) rfl<|s1 ((nP (ds:=((eL c).drop (0*1)).take (32*1)) 32 Tryz.underlying23 aQ rfl (by simp [maxLen]) bn bn (Nat.zero_le _) (Nat.le_refl _) (by simp [hx]) rfl rfl).v (FV hx)) rfl ?_
    refine ak rfl (aJ false rfl (.cons (.pure pu) (.nil)) (Aa c.x) pu (.inl rfl) rfl ?_)
    refine s1 (aa rfl) rfl ?_
    refine ak rfl (tk 51 rfl rfl ar (by simp) (uA (by simp)) rfl (by exact ar) (sk (c.F.map fH)) pu rfl ?_)
    refine s1 (aa rfl) rfl ?_
    refine ak rfl (tk 53 rfl rfl ar (by simp) (uA (by simp)) rfl (by exact ar) (sk (c.E.map bM)) pu rfl ?_)
    refine ak rfl (fX 55 rfl Tryz.underlying107 br rfl rfl rfl (by simp [aX]) (show _=CV.bI [c9 c.x,cX (c.F.map fH),cX (c.E.map bM)]from rfl) rfl rfl rfl ?_)
    refine ak rfl (tk 55 rfl rfl ar rfl (CV.pU [c9 c.x,cX (c.F.map fH),cX (c.E.map bM)]) rfl (by exact ar) (sk [c9 c.x,cX (c.F.map fH),cX (c.E.map bM)]) pu rfl ?_)
    refine ak rfl (aJ false rfl (.cons (.pure pu) (.nil)) (aB.cast (zw 3 0 [] [c9 c.x,cX (c.F.map fH),cX (c.E.map bM)] (L6 hcs hx) (Dh hcs) (Nat.le_trans hel (by omega))) (Hf hcs)) pu (.inl rfl) rfl ?_)
    refine s1 (aa rfl) rfl<|s1 (aa rfl) rfl<|s1 (aa rfl) rfl<|s1 (aa rfl) rfl ?_
    refine ah<|ae<|aF ?_
    refine aG (rs:= [.tmp 2,.tmp 3]) rfl (aD rfl (aD rfl aC)) ?_
    exact(AD hcs).symm
theorem zq (c:bX) (hx:c.x.length=32) (hn:c.E.length≤maxLen):aB Tryz.prog 31 [.ag (eL c)] (aU (digCA c)):=by
 refine enter Tryz.func31 rfl Tryz.ntmps31 (by kernel_rfl) (Nat.le_of_ble_eq_true rfl) fun w0 X0 hI=>?_
 refine af<|ai ?_
 refine ak rfl (bY 1 rfl rfl rfl ?_)
 refine ak rfl (bt 2 rfl aE rfl rfl ?_)
 refine s1 ((aa rfl).v (v':= .i .i64 0) rfl) rfl ?_
 refine ah<|ae<|af ?_
 rcases lS (dP c)with hcs|hcs
 ·skip
  refine ai<|s1 (aZ ee rfl rfl (gm hx)) rfl ?_
  refine ak rfl (aJ false rfl (.cons (.pure pu) (.nil)) (aB.cast (zu c hx hn) (AB hcs)) pu (.inl rfl) rfl ?_)
  refine s1 (aa rfl) rfl<|s1 (aa rfl) rfl<|s1 (aa rfl) rfl<|s1 (aa rfl) rfl<|s1 (aa rfl) rfl ?_
  refine ah<|ae<|af<|af<|ai<|s1 (aa rfl) rfl<|s1 ((aa rfl).v (v':= .b true) (rfl)) rfl ?_
  refine ah<|ae ?_
  refine bT rfl ?_
  refine af<|ai<|s1 (aZ aE rfl rfl rfl) rfl<|s1 (aa rfl) rfl ?_
  refine ak rfl (bo aE rfl rfl rfl (by first|rfl|omega|(simp<;>omega)|(simp [*]<;>omega)) (by first|rfl|omega|(simp<;>omega)|(simp [*]<;>omega)) ?_)
  refine s1 (aa rfl) rfl ?_
  refine ah<|ae<|aF<|aH ?_
  refine aG (rs:= [.cell 2 23,.tmp 3]) rfl (ct aE rfl rfl rfl rfl (aD rfl aC)) ?_
  exact(GZ hcs).symm
 ·have hel := wv hcs hx
  refine ai<|s1 (aZ ee rfl rfl (gm hx)) rfl ?_
  refine ak rfl (aJ false rfl (.cons (.pure pu) (.nil)) (aB.cast (zu c hx hn) (AD hcs)) pu (.inl rfl) rfl ?_)
  refine s1 (aa rfl) rfl<|s1 (aa rfl) rfl<|s1 (aa rfl) rfl<|s1 (aa rfl) rfl<|s1 (aa rfl) rfl ?_
  refine ah<|ae<|af<|af<|ai<|s1 (aa rfl) rfl<|s1 ((aa rfl).v (v':= .b false) (rfl)) rfl ?_
  refine ah<|ae ?_
  refine cK rfl ?_
  refine aK<|ae<|af<|ai<|s1 (aa rfl) rfl ?_
  refine ak rfl (aJ false rfl (.cons (.pure pu) (.cons (.pure pu) (.nil))) (aB.cast (ia x6 (fR c).enc (by omega) (by decide)) (congrArg (fun l:List UInt8=>A.ag (l.map u8)) (Ak c).symm)) pu (.inl rfl) rfl ?_)
  refine ak rfl (bo aE rfl rfl rfl (by first|rfl|omega|(simp<;>omega)|(simp [*]<;>omega)) (by first|rfl|omega|(simp<;>omega)|(simp [*]<;>omega)) ?_)
  refine s1 ((aa rfl).v (v':= .i .i64 0) rfl) rfl ?_
  refine ah<|ae<|aF ?_
  refine aG (rs:= [.cell 2 23,.tmp 3]) rfl (ct aE rfl rfl (List.take_of_length_le (by simp)) (by simp) (aD rfl aC)) ?_
  exact(v7 hcs).symm
end Go.Abs.D2
-- E5C
namespace Go.Abs.D2
open Go Go.Eng Go.Abs Go.Proofs
theorem qg (n:Int):aB Tryz.prog 68 [.i .i64 n] (aU (.ag (CV.cells (bM n)))):=by
 refine enter Tryz.func68 rfl Tryz.ntmps68 (by kernel_rfl) (Nat.le_of_ble_eq_true rfl) fun w0 X0 hI=>?_
 refine af<|ai ?_
 refine ak rfl (bt 2 rfl br rfl rfl ?_)
 refine ah<|ae<|af<|ai<|s1 (aa rfl) rfl<|s1 (eu (out:= [_,_,_,_]) [[aW (.int .i64 0)], [aW (.int .i64 0)], [aW (.string ByteArray.empty)], [aW (.slice none 0 0)]] br rfl Tryz.underlying109 (by kernel_rfl) rfl rfl ⟨⟨by(first|rfl|omega|(simp;done)|(simp [*];done)|(simp [aX, *];done)),rfl⟩,⟨⟨by(first|rfl|omega|(simp;done)|(simp [*];done)|(simp [aX, *];done)),rfl⟩,trivial⟩⟩ rfl) rfl ?_
 refine ak rfl (bo br rfl rfl rfl (by first|rfl|omega|(simp<;>omega)|(simp [*]<;>omega)) (by first|rfl|omega|(simp<;>omega)|(simp [*]<;>omega)) ?_)
 refine ah<|ae<|aF ?_
 refine iG 2 rfl rf ?_
 refine aG (rs:= [.cell 2 109]) rfl (ct br rfl rfl rfl rfl aC) ?_
 rfl
theorem Ay (l:List CV):aB Tryz.prog 67 [.fz l.length (CV.bI l)] (aU (.ag (CV.cells (cX l)))):=by
 refine enter Tryz.func67 rfl Tryz.ntmps67 (by kernel_rfl) (Nat.le_of_ble_eq_true rfl) fun w0 X0 hI=>?_
 refine af<|ai ?_
 refine ak rfl (bt 2 rfl br rfl rfl ?_)
 refine ah<|ae<|af<|ai<|s1 (aa rfl) rfl<|s1 (eu (out:= [_,_,_,_]) [[aW (.int .i64 0)], [aW (.int .i64 0)], [aW (.string ByteArray.empty)], [aW (.slice none 0 0)]] br rfl Tryz.underlying109 (by kernel_rfl) rfl rfl ⟨⟨by(first|rfl|omega|(simp;done)|(simp [*];done)|(simp [aX, *];done)),rfl⟩,⟨⟨by(first|rfl|omega|(simp;done)|(simp [*];done)|(simp [aX, *];done)),rfl⟩,trivial⟩⟩ rfl) rfl ?_
 refine ak rfl (bo br rfl rfl rfl (by first|rfl|omega|(simp<;>omega)|(simp [*]<;>omega)) (by first|rfl|omega|(simp<;>omega)|(simp [*]<;>omega)) ?_)
 refine ah<|ae<|aF ?_
 refine aG (rs:= [.cell 2 109]) rfl (ct br rfl rfl rfl rfl aC) ?_
 rfl
theorem He:aB Tryz.prog 67 [.nl] (aU (.ag [.i .i64 3,.i .i64 0,.s [],.nl])):=by
 refine enter Tryz.func67 rfl Tryz.ntmps67 (by kernel_rfl) (Nat.le_of_ble_eq_true rfl) fun w0 X0 hI=>?_
 refine af<|ai ?_
 refine ak rfl (bt 2 rfl br rfl rfl ?_)
 refine ah<|ae<|af<|ai<|s1 (aa rfl) rfl<|s1 (eu (out:= [_,_,_,_]) [[aW (.int .i64 0)], [aW (.int .i64 0)], [aW (.string ByteArray.empty)], [aW (.slice none 0 0)]] br rfl Tryz.underlying109 (by kernel_rfl) rfl rfl ⟨⟨by(first|rfl|omega|(simp;done)|(simp [*];done)|(simp [aX, *];done)),rfl⟩,⟨⟨by(first|rfl|omega|(simp;done)|(simp [*];done)|(simp [aX, *];done)),rfl⟩,trivial⟩⟩ rfl) rfl ?_
 refine ak rfl (bo br rfl rfl rfl (by first|rfl|omega|(simp<;>omega)|(simp [*]<;>omega)) (by first|rfl|omega|(simp<;>omega)|(simp [*]<;>omega)) ?_)
 refine ah<|ae<|aF ?_
 refine aG (rs:= [.cell 2 109]) rfl (ct br rfl rfl rfl rfl aC) ?_
 rfl
theorem AR (x:List UInt8) (hx:x.length=32):aB Tryz.prog 70 [.ag (x.map u8)] (aU (.ag (CV.cells (c9 x)))):=by
 refine enter Tryz.func70 rfl Tryz.ntmps70 (by kernel_rfl) (Nat.le_of_ble_eq_true rfl) fun w0 X0 hI=>?_
 refine af<|ai ?_
 refine ak rfl (bY 1 rfl rfl rfl ?_)
 refine ak rfl (bt 2 rfl br rfl rfl ?_)
 refine ah<|ae<|af ?_
 refine fh 1 rfl rfl ar ?_
 refine ai<|s1 ((nP (ds:=((x.map u8).drop (0*1)).take (32*1)) 32 Tryz.underlying23 aQ rfl (by simp [maxLen]) bn bn (Nat.zero_le _) (Nat.le_refl _) (by simp [hx]) rfl rfl).v (vP hx)) rfl<|s1 (pz Tryz.underlying68 Tryz.underlying5 Tryz.underlying9 rfl rfl (by rw [hx])) rfl<|s1 (eu (out:= [_,_,_,_]) [[aW (.int .i64 0)], [aW (.int .i64 0)], [aW (.string ByteArray.empty)], [aW (.slice none 0 0)]] br rfl Tryz.underlying109 (by kernel_rfl) rfl rfl ⟨⟨by(first|rfl|omega|(simp;done)|(simp [*];done)|(simp [aX, *];done)),rfl⟩,⟨⟨by(first|rfl|omega|(simp;done)|(simp [*];done)|(simp [aX, *];done)),rfl⟩,trivial⟩⟩ rfl) rfl ?_
 refine ak rfl (bo br rfl rfl rfl (by first|rfl|omega|(simp<;>omega)|(simp [*]<;>omega)) (by first|rfl|omega|(simp<;>omega)|(simp [*]<;>omega)) ?_)
 refine ah<|ae<|aF ?_
 refine iG 2 rfl rf ?_
 refine aG (rs:= [.cell 2 109]) rfl (ct br rfl rfl rfl rfl aC) ?_
 rfl
theorem l9 (e:Ep) (h:e.ok):aB Tryz.prog 22 [.ag e.cells] (aU (.ag ((cM e).map u8))):=by
 refine enter Tryz.func22 rfl Tryz.ntmps22 (by kernel_rfl) (Nat.le_of_ble_eq_true rfl) fun w0 X0 hI=>?_
 refine af<|ai ?_
 refine ak rfl (bY 1 rfl rfl rfl ?_)
 refine ak rfl (bt 2 rfl aE rfl rfl ?_)
 refine ah<|ae<|af ?_
 have hfew:=h.gT
 refine ai ?_
 refine ak rfl (aJ false rfl (.cons (.pure pu) .nil) (He) pu (.inl rfl) rfl ?_)
 refine ak rfl (bt 3 rfl br rfl rfl ?_)
 refine ak rfl (bo br rfl rfl rfl (by first|rfl|omega|(simp<;>omega)|(simp [*]<;>omega)) (by first|rfl|omega|(simp<;>omega)|(simp [*]<;>omega)) ?_)
 refine ah<|ae<|af<|af<|ai<|s1 (aA Tryz.underlying45 rfl cH (by decide) rfl rfl) rfl<|s1 (au cH rfl rfl rfl) rfl<|s1 (bx Tryz.underlying31 rfl rfl rfl) rfl<|s1 ((aa rfl).v (v':= .i .i64 0) rfl) rfl ?_
 refine ah<|ae<|aM ?_
 refine bH (ι:=Nat) (fun i=> [(1,.p 1 0),(2,.p 2 0),(3,.p 3 0),(10,cz e.ch),(11,nJ e.ch.length),(12,nJ i)]) (fun i=>⟨[(1,some (e.cells)),(2,some (zD.map u8)),(3,some ([.i .i64 3,.i .i64 0,.s [],.sl 127 4 0 i])),(127,some (CV.bI ((e.ch.take i).map dJ)))]⟩) (fun i=>i≤e.ch.length) (fun i=>e.ch.length - i) ?_ ?_
 ·exact bG (0) (Nat.zero_le _) [(1,some 1),(2,some 2),(3,some 3),(127,none)] hI rfl rfl ⟨⟨_,rfl,.p rfl⟩,⟨_,rfl,.p rfl⟩,⟨_,rfl,.p rfl⟩,⟨_,rfl,.pure pu⟩,⟨_,rfl,.pure pu⟩,⟨_,rfl,.pure pu⟩,trivial⟩ ⟨.inr ⟨_,_,rfl,rfl,.pure ar⟩,.inr ⟨_,_,rfl,rfl,.pure ar⟩,.inr ⟨_,_,rfl,rfl,.cons (.pure pu) (.cons (.pure pu) (.cons (.pure pu) (.cons (.nl rfl) .nil)))⟩,.inl ⟨rfl,rfl⟩,trivial⟩
 rintro i hi
 refine af<|ai<|s1 (aa rfl) rfl ?_
 refine ah<|ae<|af ?_
 refine aP rfl (fun hc13=>?_) (fun hc13=>?_)
 ·have h13 : i < e.ch.length := by have := of_decide_eq_true hc13; omega
  obtain⟨c,hc⟩:∃c,e.ch[i]? =some c:=⟨_,List.getElem?_eq_getElem h13⟩
  refine aK<|ae<|af<|aM<|af<|ai<|s1 (aT i Tryz.underlying31 bp rfl rfl rfl (by omega) rfl) rfl<|s1 (cm bp rfl rfl (pV hc) rfl) rfl ?_
  refine ak rfl (bt 5 rfl bp rfl rfl ?_)
  refine ak rfl (bo bp rfl rfl rfl (by first|rfl|omega|(simp<;>omega)|(simp [*]<;>omega)) (by first|rfl|omega|(simp<;>omega)|(simp [*]<;>omega)) ?_)
  refine ah<|ae ?_
  refine bU ⟨_, [], []⟩ 13 4 bz (le_refl rfl) ?_
  refine aj 0 [] [(3,none)] (aA Tryz.underlying109 rfl cR (by decide) rfl rfl) rfl rfl<|aj 1 [0] [(3,none)] (au cR rfl rfl rfl) rfl rfl<|aj 2 [] [(5,none)] (aA Tryz.underlying55 rfl an (by decide) rfl rfl) rfl rfl<|aj 3 [2] [(5,none)] (au an rfl rfl rfl) rfl rfl<|bV false 4 [3] [] bb rfl (.cons (.pure pu) (.nil)) (qg c.id) pu (.inl rfl) rfl rfl<|aj 5 [] [(5,none)] (aA Tryz.underlying55 rfl an (by decide) rfl rfl) rfl rfl<|aj 6 [5] [(5,none)] (au an rfl rfl rfl) rfl rfl<|bV false 7 [6] [] bb rfl (.cons (.pure pu) (.nil)) (qg c.st) pu (.inl rfl) rfl rfl<|kL 24 8 [4,7] bb Tryz.underlying107 br rfl rfl rfl (by simp [aX]) (show _=CV.bI [bM c.id,bM c.st]from rfl) rfl rfl rfl rfl<|wN 24 9 [8] [(24,some 8)] bb rfl rfl ar rfl (CV.pU [bM c.id,bM c.st]) rfl (by exact ar) (Ay [bM c.id,bM c.st]) pu rfl rfl ?_
  refine kL 26 10 [9] bb Tryz.underlying107 br rfl rfl rfl (by simp [aX]) (tI (dJ c)) rfl rfl rfl rfl<|gV 27 11 [1,10] [(26,some 10),(127,none)] bb Tryz.underlying107 br rfl (.sl rfl (by simp;omega)) rfl (cO rfl (by first|rfl|omega|(simp<;>omega)|(simp [*]<;>omega))) (by simp) (by simp only [maxLen];omega) (by omega) rfl rfl rfl rfl<|aj 12 [] [(3,none)] (aA Tryz.underlying109 rfl cR (by decide) rfl rfl) rfl rfl<|bW (by kernel_rfl) ?_
  refine ak rfl (bZ cR rfl rfl rfl rfl (by first|rfl|omega|(simp<;>omega)|(simp [*]<;>omega)) rfl ?_)
  refine ah<|bj<|ae<|ai<|s1 (bg _ 1 rfl rfl rfl rfl (by omega)) rfl<|s1 (aa rfl) rfl ?_
  refine ah ?_
  exact bu (i+1) (by omega) (by omega) [(1,some 1),(2,some 2),(3,some 3),(127,some 27)] hI rfl rfl ⟨⟨_,rfl,.p rfl⟩,⟨_,rfl,.p rfl⟩,⟨_,rfl,.p rfl⟩,⟨_,rfl,.pure pu⟩,⟨_,rfl,.pure pu⟩,⟨_,rfl,.pure pu⟩,trivial⟩ ⟨.inr ⟨_,_,rfl,rfl,.pure ar⟩,.inr ⟨_,_,rfl,rfl,.pure ar⟩,.inr ⟨_,_,rfl,rfl,.cons (.pure pu) (.cons (.pure pu) (.cons (.pure pu) (.cons (.sl rfl (by simp)) .nil)))⟩,.inr ⟨_,_,rfl,rfl,.of (zG hc) (.pure ar)⟩,trivial⟩
 ·obtain rfl : i = e.ch.length := by have := of_decide_eq_false hc13; omega
  refine bE<|aO<|aO<|bF<|ae<|af ?_
  refine cV 127 (cs':=CV.bI (e.ch.map dJ)) rfl (by rw [List.take_length]) ?_
  refine jQ 3 3 rfl rfl rfl rfl ar (uA (by simp)) rfl ?_
  refine bU ⟨_, [], []⟩ 23 4 bz (le_refl rfl) ?_
  refine aj 0 [] [(1,none)] (aA Tryz.underlying45 rfl an (by decide) rfl rfl) rfl rfl<|aj 1 [0] [(1,none)] (au an rfl rfl rfl) rfl rfl<|bV false 2 [1] [] bb rfl (.cons (.pure pu) (.nil)) (qg e.iss) pu (.inl rfl) rfl rfl<|aj 3 [] [(1,none)] (aA Tryz.underlying45 rfl an (by decide) rfl rfl) rfl rfl<|aj 4 [3] [(1,none)] (au an rfl rfl rfl) rfl rfl<|bV false 5 [4] [] bb rfl (.cons (.pure pu) (.nil)) (qg e.no) pu (.inl rfl) rfl rfl<|aj 6 [] [(1,none)] (aA Tryz.underlying45 rfl an (by decide) rfl rfl) rfl rfl<|aj 7 [6] [(1,none)] (au an rfl rfl rfl) rfl rfl<|bV false 8 [7] [] bb rfl (.cons (.pure pu) (.nil)) (qg e.day) pu (.inl rfl) rfl rfl ?_
  refine aj 9 [] [(3,none)] ((aZ br rfl rfl rfl).v (v':= .ag (CV.cells (cX (e.ch.map dJ)))) (congrArg (fun n:Nat=>A.ag [.i .i64 3,.i .i64 0,.s [],.fz n (CV.bI (e.ch.map dJ))]) (show e.ch.length=(e.ch.map dJ).length by rw [List.length_map]))) rfl rfl ?_
  refine aj 10 [] [(1,none)] (aA Tryz.underlying45 rfl aE (by decide) rfl rfl) rfl rfl<|aj 11 [10] [(1,none)] (cm aE rfl rfl (AH h) (by simp [h.bO])) rfl rfl<|bV false 12 [11] [] bb rfl (.cons (.pure pu) (.nil)) (AR e.bO h.bO) pu (.inl rfl) rfl rfl<|aj 13 [] [(1,none)] (aA Tryz.underlying45 rfl aE (by decide) rfl rfl) rfl rfl<|aj 14 [13] [(1,none)] (cm aE rfl rfl (jo h) (by simp [h.prev])) rfl rfl<|bV false 15 [14] [] bb rfl (.cons (.pure pu) (.nil)) (AR e.prev h.prev) pu (.inl rfl) rfl rfl<|kL 47 16 [2,5,8,9,12,15] bb Tryz.underlying107 br rfl rfl rfl (by simp [aX]) (show _=CV.bI [bM e.iss,bM e.no,bM e.day,cX (e.ch.map dJ),c9 e.bO,c9 e.prev]from rfl) rfl rfl rfl rfl<|wN 47 17 [16] [(47,some 16)] bb rfl rfl ar rfl (CV.pU [bM e.iss,bM e.no,bM e.day,cX (e.ch.map dJ),c9 e.bO,c9 e.prev]) rfl (by exact ar) (Ay [bM e.iss,bM e.no,bM e.day,cX (e.ch.map dJ),c9 e.bO,c9 e.prev]) pu rfl rfl<|bV false 18 [17] [] bb rfl (.cons (.pure pu) (.nil)) (aB.cast (zw 3 0 [] [bM e.iss,bM e.no,bM e.day,cX (e.ch.map dJ),c9 e.bO,c9 e.prev] (DK h) (Di h) (Nat.le_trans (qd h) (by omega))) (Az e)) pu (.inl rfl) rfl rfl<|aj 19 [18] [] (aa rfl) rfl rfl ?_
  refine aj 20 [19] [] (aa rfl) rfl rfl<|aj 21 [19] [] (aa rfl) rfl rfl<|aj 22 [20] [] (aa rfl) rfl rfl<|bW (by kernel_rfl) ?_
  refine s1 (aa rfl) rfl ?_
  refine ah<|ae<|af ?_
  have hel:=qd h
  refine ai<|s1 (aa rfl) rfl ?_
  refine ak rfl (aJ false rfl (.cons (.pure pu) (.cons (.pure pu) (.nil))) (aB.cast (ia um (fT e).enc (by omega) (by decide)) (congrArg (fun l:List UInt8=>A.ag (l.map u8)) (p7 e).symm)) pu (.inl rfl) rfl ?_)
  refine ak rfl (bo aE rfl rfl rfl (by first|rfl|omega|(simp<;>omega)|(simp [*]<;>omega)) (by first|rfl|omega|(simp<;>omega)|(simp [*]<;>omega)) ?_)
  refine ah<|ae<|aF ?_
  refine aG (rs:= [.cell 2 23]) rfl (ct aE rfl rfl (List.take_of_length_le (by simp)) (by simp) aC) ?_
  rfl
end Go.Abs.D2
-- C4T
namespace Go.Abs.D2
open Go Go.Eng Go.Abs
def two (e:CV):Bool:=decide (e.ls.length=2)
theorem El {l:List A} {m m':List A} (h:gy m m'):gy (l++m) (l++m'):=by
  induction l with
  |nil=>exact h
  |cons a l ih=>exact .cons (.eq rfl) ih
def Sm (N:Nat) (u:CV):Prop:=(u.okB=true∧u.enc.length≤N)∨u=zV
theorem Sm.parts {N:Nat} {u:CV} (h:Sm N u):(∀e∈u.ls,Sm N e)∧u.st.length≤N∧u.ls.length≤N:=by
  rcases h with ⟨ho,hl⟩|rfl
  · obtain ⟨k, n, s, l⟩ := u
    rcases qI ho with rfl|rfl|⟨rfl,h1⟩
    · rw [CV.okB, if_pos rfl] at ho
      simp only [Bool.and_eq_true,List.isEmpty_iff]at ho
      obtain⟨rfl,rfl⟩:=ho
      exact⟨(fun e he=>by cases he),Nat.zero_le _,Nat.zero_le _⟩
    · rw [CV.okB, if_neg (by decide), if_pos rfl] at ho
      simp only [Bool.and_eq_true,List.isEmpty_iff]at ho
      obtain⟨_,rfl⟩:=ho
      have:=Hg n s []
      exact⟨(fun e he=>by cases he),show s.length≤N by omega,Nat.zero_le _⟩
    · rw [CV.okB, if_neg (by decide), if_neg (by decide), if_pos rfl] at ho
      simp only [Bool.and_eq_true,List.isEmpty_iff]at ho
      obtain⟨⟨_,rfl⟩,_⟩:=ho
      rw [CV.mv]at h1
      have e1:=Hh n [] l
      have e2:=CV.sY l
      exact⟨fun e he=> .inl ⟨List.all_eq_true.1 h1 e he,by have:=Ca (show e∈l from he);omega⟩,Nat.zero_le _,show l.length≤N by omega⟩
  · exact⟨(fun e he=>by cases he),Nat.zero_le _,Nat.zero_le _⟩
theorem Sm.nth {N:Nat} {u:CV} (h:Sm N u) (i:Nat):Sm N (iL u i):=by
  unfold iL
  rw [List.getD_eq_getElem?_getD]
  cases hi:u.ls[i]? with
  |none=>exact .inr rfl
  |some e=>exact h.parts.1 e (List.mem_of_getElem? hi)
theorem Sm.bO {N:Nat} {v:CV} (h:Sm N v):(∀f∈(xC v).F,f.D.length≤N)∧(xC v).E.length≤N∧(xC v).F.length≤N:=by
  refine⟨fun f hf=>?_,?_,?_⟩
  · obtain ⟨i, hi⟩ := List.mem_iff_getElem?.1 hf
    have hi:(List.mapIdx AW (iL v 1).ls)[i]? =some f:=hi
    rw [List.getElem?_mapIdx]at hi
    obtain⟨e,he,rfl⟩:=Option.map_eq_some_iff.1 hi
    exact(((h.nth 1).parts.1 e (List.mem_of_getElem? he)).nth 1).parts.2.1
  · show ((iL v 2).ls.map CV.nm).length ≤ N
    rw [List.length_map];exact(h.nth 2).parts.2.2
  · show (sH (iL v 1).ls).length ≤ N
    rw [len_filsR];exact(h.nth 1).parts.2.2
end Go.Abs.D2
-- V6S
namespace Go.Abs.D2
open Go Go.Eng Go.Abs
def sU (p q:List UInt8):Nat→List UInt8
  |0=>List.replicate 16 0
  |i+1=>(sU p q i).set i (p.getD i 0 ^^^ q.getD i 0)
@[simp] theorem I1 (p q : List UInt8) : ∀ i, (sU p q i).length = 16
  |0=>by simp [sU]
  |i+1=>by rw [sU,List.length_set,I1 p q i]
theorem Bi {l:List Bool} {i:Nat} {b:Bool} (h:l[i]? =some b):((l.map A.b).drop (i*1))[0]? =some (.b b):=by
  rw [List.getElem?_drop,show i*1+0=i by omega,List.getElem?_map,h];rfl
end Go.Abs.D2
-- S7V
namespace Go.Abs.D2
open Go Go.Eng Go.Abs
theorem zM {x : List UInt8} {p q : List Int} (h : iB p q = true) : dP (fy x p q) = true := by
  have hsub:=rX x p q (gB x p q)
  have hE:=AF x p q
  have hasc : ∀ n, cN (bS x p q n).2.1 = true ∧ cN (bS x p q n).2.2 = true := by
    intro n
    induction n with
    | zero =>
      unfold iB at h
      simp only [Bool.and_eq_true]at h
      exact⟨h.1.1,h.1.2⟩
    | succ n ih =>
      refine⟨?_,ih.1⟩
      rw [bS]
      have key:∀(l:List Int) (f:Int→Bool) (last:Int),dU last l=true→dU last (l.filter f)=true:=by
        intro l f
        induction l with
        |nil=>intro last _;rfl
        | cons a l ih2 =>
          intro last hl
          simp only [dU,Bool.and_eq_true,decide_eq_true_eq]at hl
          cases hf:f a with
          | true =>
            rw [List.filter_cons_of_pos hf]
            simp only [dU,Bool.and_eq_true,decide_eq_true_eq]
            exact⟨hl.1,ih2 _ hl.2⟩
          | false =>
            rw [List.filter_cons_of_neg (by rw [hf];simp)]
            have h3:=ih2 a hl.2
            have mono:∀(m:List Int) (u v:Int),u≤v→dU v m=true→dU u m=true:=by
              intro m u v huv hm
              cases m with
              |nil=>rfl
              | cons b m =>
                simp only [dU,Bool.and_eq_true,decide_eq_true_eq]at hm ⊢
                exact⟨⟨by omega,hm.1.2⟩,hm.2⟩
            exact mono _ _ _ (by omega) h3
      exact key _ _ _ ih.2
  have hlev:∀n,n≤16→∀F:List cT,(∀i,i<F.length→∃a,F[i]? =some (ma x (n+i) a))→n+F.length≤16→eO n F=true:=by
    intro n hn F
    induction F generalizing n with
    |nil=>intro _ _;rfl
    | cons f F ih =>
      intro hF hl
      rw [List.length_cons]at hl
      obtain⟨a,ha⟩:=hF 0 (by simp)
      simp only [List.getElem?_cons_zero,Option.some.injEq,Nat.add_zero]at ha
      subst ha
      simp only [eO,Bool.and_eq_true,decide_eq_true_eq]
      refine⟨⟨rfl,Gh x n a (by omega)⟩,ih (n+1) (by omega) (fun i hi=>?_) (by omega)⟩
      obtain⟨b,hb⟩:=hF (i+1) (by rw [List.length_cons];omega)
      exact⟨b,by rw [List.getElem?_cons_succ]at hb;rw [hb,show n+1+i=n+(i+1) by omega]⟩
  refine zP ?_ (hasc _).1 ?_
  · show (bS x p q (gB x p q)).1.length ≤ 16
    rw [js];exact hE
  · refine hlev 0 (by omega) _ (fun i hi => ?_) ?_
    · have hi' : i < gB x p q := by
        have:i<(bS x p q (gB x p q)).1.length:=hi
        rwa [js]at this
      exact⟨_,by rw [Nat.zero_add];exact za x p q _ i hi'⟩
    · show 0 + (bS x p q (gB x p q)).1.length ≤ 16
      rw [js];omega
end Go.Abs.D2
-- C4U
namespace Go.Abs.D2
open Go Go.Eng Go.Abs
theorem zj {x:List UInt8} {p q:List Int} (hp:p.length≤100) (hq:q.length≤100):(fy x p q).E.length≤100∧(fy x p q).F.length≤16:=by
  refine⟨(rW hp hq _).1,?_⟩
  show(bS x p q (gB x p q)).1.length≤16
  rw [js];exact AF x p q
end Go.Abs.D2
-- E5Q
namespace Go.Abs.D2
open Go Go.Eng Go.Abs
def dV (σ:Int→Int) (l:List Int):List Int:=l.filter fun n=>σ n !=0
def fl (σ:Int→Int) (l:List Int):List Int:=l.filter fun n=>!(σ n !=0)
def c6 (σ:Int→Int):List Int:=((List.range 1024).map fun k:Nat=>(k:Int)).filter fun n=>σ n !=0
def gi (σ:Int→Int):Prop:=∀k,σ k≠0→0≤k∧k<1024
theorem D4:gi σ0:=fun _ h=>absurd rfl h
theorem wV (σ:Int→Int):(c6 σ).Nodup:=by
  refine List.Nodup.sublist List.filter_sublist ?_
  rw [List.nodup_iff_pairwise_ne,List.pairwise_map]
  exact List.nodup_iff_pairwise_ne.1 List.nodup_range |>.imp fun h e=>h (by omega)
theorem sW {σ:Int→Int} (h:gi σ) (k:Int):(mapOf σ k).isSome=true↔k∈c6 σ:=by
  unfold c6 mapOf
  rw [List.mem_filter]
  constructor
  · intro hs
    by_cases h0:σ k=0
    · rw [if_pos h0]at hs;cases hs
    · obtain ⟨h1, h2⟩ := h k h0
      exact⟨List.mem_map.2 ⟨k.toNat,List.mem_range.2 (by omega),by omega⟩,bne_iff_ne.2 h0⟩
  · rintro ⟨_, h0⟩
    rw [if_neg (bne_iff_ne.1 h0)];rfl
@[irreducible] def fM (σ:Int→Int) (l:List Int):Bool:=cN l&&decide ((dV σ l).length=(c6 σ).length)
theorem DP {σ:Int→Int} {l:List Int} (h:cN l=false):fM σ l=false:=by unfold fM;rw [h];rfl
theorem Mb {σ:Int→Int} {l:List Int} (h:(dV σ l).length≠(c6 σ).length):fM σ l=false:=by unfold fM;rw [decide_eq_false h,Bool.and_false]
theorem xY {σ:Int→Int} {l:List Int} (h1:cN l=true) (h:(dV σ l).length=(c6 σ).length):fM σ l=true:=by unfold fM;rw [h1,decide_eq_true h];rfl
theorem DQ {σ:Int→Int} {l:List Int} (h:fM σ l=true):cN l=true:=by
  cases hl:cN l with
  |true=>rfl
  |false=>rw [DP hl]at h;cases h
theorem FD {σ:Int→Int} {l:List Int} {i:Nat} {n:Int} (h:l[i]? =some n) (hn:σ n≠0):dV σ (l.take (i+1))=dV σ (l.take i)++ [n]∧fl σ (l.take (i+1))=fl σ (l.take i):=by
  unfold dV fl
  rw [List.take_add_one,h,List.filter_append,List.filter_append]
  simp [hn]
theorem FE {σ:Int→Int} {l:List Int} {i:Nat} {n:Int} (h:l[i]? =some n) (hn:σ n=0):dV σ (l.take (i+1))=dV σ (l.take i)∧fl σ (l.take (i+1))=fl σ (l.take i)++ [n]:=by
  unfold dV fl
  rw [List.take_add_one,h,List.filter_append,List.filter_append]
  simp [hn]
theorem wY (σ:Int→Int) (l:List Int):(dV σ l).length≤l.length:=List.length_filter_le ..
theorem w9 (σ:Int→Int) (l:List Int):(fl σ l).length≤l.length:=List.length_filter_le ..
theorem rO {p:Int→Bool}:∀ {l:List Int} {a b:Int},a≤b→dU b l=true→dU a (l.filter p)=true
  | [],_,_,_,_=>rfl
  | n :: l, a, b, hab, h => by
    simp only [dU,Bool.and_eq_true,decide_eq_true_eq]at h
    rw [List.filter_cons]
    split
    · simp only [dU, Bool.and_eq_true, decide_eq_true_eq]
      exact⟨⟨by omega,h.1.2⟩,rO (Int.le_refl _) h.2⟩
    · exact rO (b:=n) (by omega) h.2
theorem tE {σ:Int→Int} {l:List Int} (h:cN l=true):iB (dV σ l) (fl σ l)=true:=by
  unfold iB
  have h1:cN (dV σ l)=true:=rO (Int.le_refl _) h
  have h2:cN (fl σ l)=true:=rO (Int.le_refl _) h
  rw [h1,h2]
  show Go.Eng.jT _ _=true
  unfold Go.Eng.jT
  rw [List.all_eq_true]
  intro n hn
  have h3:=(List.mem_filter.1 hn).2
  rw [Bool.not_eq_true',decide_eq_false_iff_not]
  intro hb
  have h4:=(List.mem_filter.1 hb).2
  rw [h4]at h3;cases h3
abbrev uo:List UInt8:= [115,97,108,116]
@[irreducible] def mB (x:List UInt8) (no:Nat):List UInt8:=tagged uo (x++eF (no:Int) 4)
theorem xO (x:List UInt8) (no:Nat):mB x no=tagged uo (x++eF (no:Int) 4):=by unfold mB;rfl
@[simp] theorem oL (x:List UInt8) (no:Nat):(mB x no).length=32:=by rw [xO];simp
def jh (x:List UInt8) (no:Nat) (σ:Int→Int) (ids:List Int):bX:=fy (mB x no) (dV σ ids) (fl σ ids)
def iI (l:List Ep):List UInt8:=match l.getLast? with
  |none=>zD
  |some e=>cM e
def eP (x:List UInt8) (l:List Ep) (iss day:Int) (ids:List Int) (c:List Ch) (σ:Int→Int):Ep:=⟨iss,(l.length:Nat),day,c,lE (jh x l.length σ ids),iI l,⟨0, [], []⟩⟩
def eY (x:List UInt8) (k:Nat) (l:List Ep) (iss day:Int) (ids:List Int) (c:List Ch) (σ:Int→Int):Ep:=
  {eP x l iss day ids c σ with sg:=⟨(l.length:Nat),iU (fE x (l.length:Nat)) (cM (eP x l iss day ids c σ)),path (dt x k) l.length⟩}
theorem G0 (e:Ep) (s:Lf):cM {e with sg:=s}=cM e:=by rw [p7,p7];rfl
def oa (iss day:Int):Bool:=((decide (iss≥0)&&decide (iss<8))&&decide (day≥0))&&decide (day<1024)
def j3 (l:List Ep) (iss day:Int):Bool:=match l.getLast? with
  |none=>true
  |some e=>(iss==e.iss)&&decide (day>e.day)
@[irreducible] def gq (x : List UInt8) (n : Int) (l : List Ep) (iss day : Int) (ids : List Int) (c : List Ch) : Int ⊕ Ep :=
  if cv n then
    match cC l with
    |none=> .inl 351
    | some σ => if cQ (dM x n) n l = 0 then
        if(l.length:Int)=n then .inl 2 else if oa iss day&&(j3 l iss day&&(cP σ (-1) c&&fM (aV σ c) ids))then .inr (eY x n.toNat l iss day ids c (aV σ c))else .inl 351
      else .inl (cQ (dM x n) n l)
  else .inl 60
def KZ (l:List Ep):Int ⊕ Ep→A
  | .inl e=> .tu [.nl,.i .i64 e]
  | .inr e=> .tu [cW (l++ [e]),.i .i64 0]
section
variable {x:List UInt8} {n:Int} {l:List Ep} {iss day:Int} {ids:List Int} {c:List Ch} {σ:Int→Int}
theorem CU (h:¬cv n):gq x n l iss day ids c= .inl 60:=by unfold gq;rw [if_neg h]
theorem xy (h:cv n) (h2:cQ (dM x n) n l≠0):gq x n l iss day ids c= .inl (cQ (dM x n) n l):=by
  unfold gq
  rw [if_pos h]
  cases hf:cC l with
  |none=>simp only;rw [sj hf]
  |some σ=>simp only;rw [if_neg h2]
theorem xz (h:cv n) (hf:cC l=some σ) (h2:cQ (dM x n) n l=0) (h3:(l.length:Int)=n):gq x n l iss day ids c= .inl 2:=by
  unfold gq;rw [if_pos h,hf];simp only;rw [if_pos h2,if_pos h3]
theorem ke (h:cv n) (hf:cC l=some σ) (h2:cQ (dM x n) n l=0) (h3:¬(l.length:Int)=n) (h4:oa iss day=false∨j3 l iss day=false∨cP σ (-1) c=false∨fM (aV σ c) ids=false):gq x n l iss day ids c= .inl 351:=by
  unfold gq;rw [if_pos h,hf];simp only;rw [if_pos h2,if_neg h3,if_neg]
  rcases h4 with h4|h4|h4|h4<;>simp [h4]
theorem qL (h:cv n) (hf:cC l=some σ) (h2:cQ (dM x n) n l=0) (h3:¬(l.length:Int)=n) (h4:oa iss day=true) (h5:j3 l iss day=true) (h6:cP σ (-1) c=true) (h7:fM (aV σ c) ids=true):gq x n l iss day ids c= .inr (eY x n.toNat l iss day ids c (aV σ c)):=by
  unfold gq;rw [if_pos h,hf];simp only;rw [if_pos h2,if_neg h3,if_pos (by simp [h4,h5,h6,h7])]
theorem IN (h:l= []):j3 l iss day=true∧iI l=zD:=by subst h;exact⟨rfl,rfl⟩
theorem IM {e:Ep} (h:l[l.length - 1]? =some e):j3 l iss day=((iss==e.iss)&&decide (day>e.day))∧iI l=cM e:=by
  have:l.getLast?=some e:=by rw [List.getLast?_eq_getElem?];exact h
  unfold j3 iI;rw [this];exact⟨rfl,rfl⟩
end
theorem mC:∀ {c:List Ch} {σ:Int→Int} {la:Int},gi σ→ -1≤la→cP σ la c=true→gi (aV σ c)
  | [],_,_,h,_,_=>h
  | c :: r, σ, la, h, hla, hk => by
    simp only [cP,da,Bool.and_eq_true,decide_eq_true_eq]at hk
    obtain⟨⟨⟨⟨⟨h1,h2⟩,_⟩,_⟩,_⟩,h3⟩:=hk
    refine mC (c:=r) (la:=c.id) (fun k hk=>?_) (by omega) h3
    unfold ig at hk
    split at hk
    · omega
    · exact h k hk
theorem D6:∀ {l:List Ep} {iss:Int} {no:Nat} {day:Int} {prev:List UInt8} {σ τ:Int→Int},gi σ→dL iss no day prev σ l=some τ→gi τ
  | [],_,_,_,_,_,_,h,hf=>by cases hf;exact h
  | e :: r, iss, no, day, prev, σ, τ, h, hf => by
    rw [dL]at hf
    split at hf
    · rename_i hb
      simp only [Bool.and_eq_true]at hb
      exact D6 (mC h (by omega) hb.2) hf
    · cases hf
theorem D5 {l:List Ep} {σ:Int→Int} (h:cC l=some σ):gi σ:=by rw [oC]at h;exact D6 D4 h
theorem Be : ∀ {l : List Ep} {iss : Int} {no : Nat} {day : Int} {prev : List UInt8} {σ τ : Int → Int}, dL iss no day prev σ l = some τ → ∀ i e, l[i]? = some e → e.sg.a = ((no + i : Nat) : Int)
  | [],_,_,_,_,_,_,_,i,e,h=>by simp at h
  | e :: r, iss, no, day, prev, σ, τ, hf, i, a, h => by
    rw [dL]at hf
    split at hf
    · rename_i hb
      simp only [Bool.and_eq_true,cF,beq_iff_eq]at hb
      cases i with
      |zero=>simp at h;subst h;simpa using hb.1.1.2.1.2
      | succ i =>
        have:=Be hf i a (by simpa using h)
        rw [this];congr 1;omega
    · cases hf
theorem zQ {r:List UInt8} {k:Nat} {l:List Ep} {σ:Int→Int} (hf:cC l=some σ) (h:cQ r (k:Int) l=0):l.length≤k:=by
  rcases Nat.eq_zero_or_pos l.length with h0|h0
  · omega
  · obtain ⟨e, he⟩ : ∃ e, l[l.length - 1]? = some e := ⟨_, List.getElem?_eq_getElem (by omega)⟩
    have hv:fc r k (cM e) e.sg.a e.sg.S e.sg.P=true:=by
      cases hv:fc r k (cM e) e.sg.a e.sg.S e.sg.P with
      |true=>rfl
      |false=>rw [vG hf (List.mem_of_getElem? he) hv]at h;cases h
    have h1:=(MO hv).2.1
    rw [oC]at hf
    have h2:=Be hf _ e he
    unfold fQ at h1
    omega
def eZ (iss no day:Int) (c:List Ch) (bO prev:List UInt8):List A:= .i .i64 iss:: .i .i64 no:: .i .i64 day::cz c::(bO.map u8++(prev.map u8++ [.i .i64 0,.nl,.nl]))
instance {iss no day:Int} {c:List Ch} {bO prev:List UInt8}:dE (eZ iss no day c bO prev):=by unfold eZ;infer_instance
theorem xk {iss no day:Int} {c:List Ch} {bO prev:List UInt8} (h1:bO.length=32) (h2:prev.length=32):(eZ iss no day c bO prev).length=71:=by simp [eZ,h1,h2]
theorem JM {iss no day:Int} {c:List Ch} {bO prev q:List UInt8} (h1:bO.length=32) (h2:prev.length=32):(eZ iss no day c bO prev).take 36++q.map u8++(eZ iss no day c bO prev).drop 68=eZ iss no day c bO q:=by
  have e1:(eZ iss no day c bO prev).take 36= .i .i64 iss:: .i .i64 no:: .i .i64 day::cz c::bO.map u8:=by
    show _::_::_::_::((bO.map u8++_).take 32)=_
    rw [List.take_left' (by rw [List.length_map,h1])]
  have e2:(eZ iss no day c bO prev).drop 68= [.i .i64 0,.nl,.nl]:=by
    show((bO.map u8++(prev.map u8++_)).drop 64)=_
    rw [←List.append_assoc,List.drop_left' (by rw [List.length_append,List.length_map,List.length_map,h1,h2])]
  rw [e1,e2]
  simp [eZ]
theorem Cw {iss no day:Int} {c:List Ch} {bO prev q:List UInt8} (h1:bO.length=32):(eZ iss no day c bO prev).take 4++q.map u8++(eZ iss no day c bO prev).drop 36=eZ iss no day c q prev:=by
  have e2:(eZ iss no day c bO prev).drop 36=prev.map u8++ [.i .i64 0,.nl,.nl]:=by
    show((bO.map u8++_).drop 32)=_
    rw [List.drop_left' (by rw [List.length_map,h1])]
  rw [e2]
  simp [eZ]
theorem Cy {x:List UInt8} {l:List Ep} {iss day:Int} {ids:List Int} {c:List Ch} {σ:Int→Int}:gy (eZ iss (l.length:Nat) day c (lE (jh x l.length σ ids)) (iI l)) (eP x l iss day ids c σ).cells:=by
  unfold eZ eP Ep.cells
  exact .cons (.eq rfl) (.cons (.eq rfl) (.cons (.eq rfl) (.cons (.eq rfl) (El (El (.cons (.eq rfl) (.cons .nl (.cons .nl .nil))))))))
@[simp] theorem sZ (l : List Ep) : (iI l).length = 32 := by
  unfold iI
  split
  · rfl
  · simp
theorem yq:aL []:=fun y hy=>by cases hy
theorem Cl {x:List UInt8} {l:List Ep} {iss day:Int} {ids:List Int} {c:List Ch} {σ:Int→Int} (hn:l.length≤1000) (hi:rg iss) (hd:rg day) (hc:c.length≤1000) (hcr:∀e∈c,rg e.id∧rg e.st):(eP x l iss day ids c σ).ok:=
  ⟨hi,⟨by show(-9223372036854775808:Int)≤(l.length:Nat);omega,by show((l.length:Nat):Int)≤9223372036854775807;omega⟩,hd,hcr,hc,BQ _,sZ _,yq,yq⟩
theorem tv {x:List UInt8} {k:Nat} {l:List Ep} {iss day:Int} {ids:List Int} {c:List Ch} {σ:Int→Int} (hn:l.length≤1000) (hi:rg iss) (hd:rg day) (hc:c.length≤1000) (hcr:∀e∈c,rg e.id∧rg e.st):(eY x k l iss day ids c σ).ok:=
  ⟨hi,⟨by show(-9223372036854775808:Int)≤(l.length:Nat);omega,by show((l.length:Nat):Int)≤9223372036854775807;omega⟩,hd,hcr,hc,BQ _,sZ _,EF _ _,nU _ _ _ (Nat.le_refl _)⟩
theorem Cx {e:Ep} {s:Lf} (h:e.ok):e.cells.take 68++ [.i .i64 s.a,bD s.S,bD s.P]++e.cells.drop 71=({e with sg:=s}:Ep).cells:=by
  have e1:e.cells.take 68= .i .i64 e.iss:: .i .i64 e.no:: .i .i64 e.day::cz e.ch::(e.bO.map u8++e.prev.map u8):=by
    show _::_::_::_::((e.bO.map u8++(e.prev.map u8++_)).take 64)=_
    rw [←List.append_assoc,List.take_left' (by rw [List.length_append,List.length_map,List.length_map,h.bO,h.prev])]
  rw [e1,List.drop_of_length_le (by rw [h.len];omega)]
  simp [Ep.cells]
theorem AO (l:List Ep) (e:Ep):c4 l++e.cells=c4 (l++ [e]):=by simp [c4]
theorem AL {l:List Ep} {e:Ep} (h:dN l) (he:e.ok):dN (l++ [e]):=fun x hx=>by
  rcases List.mem_append.1 hx with hx|hx
  · exact h x hx
  · rw [List.mem_singleton.1 hx];exact he
theorem HP (a:Int):A.i .u8 (IntKind.u8.wrap (a.fdiv (2 ^ min ((24:Int).toNat) IntKind.i64.bits)))=u8 (kZ a 0):=ue a 0 (by omega)
theorem HQ (a:Int):A.i .u8 (IntKind.u8.wrap (a.fdiv (2 ^ min ((16:Int).toNat) IntKind.i64.bits)))=u8 (kZ a 1):=ue a 1 (by omega)
theorem HR (a:Int):A.i .u8 (IntKind.u8.wrap (a.fdiv (2 ^ min ((8:Int).toNat) IntKind.i64.bits)))=u8 (kZ a 2):=ue a 2 (by omega)
theorem HS (a:Int):A.i .u8 (IntKind.u8.wrap a)=u8 (kZ a 3):=by
  refine congrArg (A.i .u8) ?_
  unfold kZ
  rw [UInt8.toNat_ofNat']
  show a % 256=_
  omega
theorem BW (n:Nat):n=0∨0<n:=Nat.eq_zero_or_pos n
end Go.Abs.D2
-- E5R
namespace Go.Abs.D2
open Go Go.Eng Go.Abs
def je (l : List Ep) (day : Int) : Nat → Option Nat
  |0=>none
  | j + 1 => match l[j]? with
    |some e=>if e.day≤day then some j else je l day j
    |none=>je l day j
@[irreducible] def ll (l:List Ep) (day:Int):Option Nat:=je l day l.length
theorem rQ (l:List Ep) (day:Int):ll l day=je l day l.length:=by unfold ll;rfl
def mW:Option Nat→A
  |none=> .tu [.i .i64 0,.b false]
  |some j=> .tu [nJ j,.b true]
theorem vh {l:List Ep} {day:Int} {j:Nat} {e:Ep} (h:l[j]? =some e) (hd:e.day≤day):je l day (j+1)=some j:=by rw [je,h];simp only;rw [if_pos hd]
theorem vg {l:List Ep} {day:Int} {j:Nat} {e:Ep} (h:l[j]? =some e) (hd:¬e.day≤day):je l day (j+1)=je l day j:=by rw [je,h];simp only;rw [if_neg hd]
end Go.Abs.D2
-- E5S
namespace Go.Abs.D2
open Go Go.Eng Go.Abs
def dq (σ:Int→Int):List Ch:=(c6 σ).map fun k=>⟨k,σ k⟩
theorem Gc {σ:Int→Int} {i:Nat} {q:Int} (h:(c6 σ)[i]? =some q):eD ((dq σ).take i)++Ch.cells ⟨q,σ q⟩=eD ((dq σ).take (i+1)):=by
  have:(dq σ)[i]? =some ⟨q,σ q⟩:=by unfold dq;rw [List.getElem?_map,h];rfl
  rw [List.take_add_one,this];simp [eD]
theorem sA {l:List Ep} (h:dN l) (k:Nat):((c4 l).drop (0*71)).take (k*71)=c4 (l.take k):=by
  rw [Nat.zero_mul,List.drop_zero]
  unfold c4
  induction l generalizing k with
  |nil=>simp
  | cons e l ih =>
    cases k with
    |zero=>simp
    | succ k =>
      have he:=(h e (.head _)).len
      rw [List.flatMap_cons,List.take_succ_cons,List.flatMap_cons,show(k+1)*71=e.cells.length+k*71 by rw [he];omega,List.take_append,List.take_of_length_le (by omega),Nat.add_sub_cancel_left,ih (fun x hx=>h x (.tail _ hx))]
@[irreducible] def jJ (l : List Ep) (no : Int) : Int ⊕ List Ch :=
  if no< -1∨(l.length:Int)≤no then .inl 1 else match cC (l.take (no+1).toNat)with
    |none=> .inl 351
    |some σ=> .inr (dq σ)
def xI:Int ⊕ List Ch→A
  | .inl e=> .tu [.nl,.i .i64 e]
  | .inr c=> .tu [cz c,.i .i64 0]
theorem uk {l:List Ep} {no:Int} (h:no< -1∨(l.length:Int)≤no):jJ l no= .inl 1:=by unfold jJ;rw [if_pos h]
theorem xZ {l:List Ep} {no:Int} (h:¬(no< -1∨(l.length:Int)≤no)) (hf:cC (l.take (no+1).toNat)=none):jJ l no= .inl 351:=by unfold jJ;rw [if_neg h,hf]
theorem q8 {l:List Ep} {no:Int} {σ:Int→Int} (h:¬(no< -1∨(l.length:Int)≤no)) (hf:cC (l.take (no+1).toNat)=some σ):jJ l no= .inr (dq σ):=by unfold jJ;rw [if_neg h,hf]
def oI (d0:Int) (l:List Ep):Int:=match l.getLast? with
  |none=>d0
  |some e=>e.day
def qt (p0:List UInt8) (l:List Ep):List UInt8:=match l.getLast? with
  |none=>p0
  |some e=>cM e
theorem IK (d0:Int) (e:Ep) (l:List Ep):oI d0 (e::l)=oI e.day l:=by
  unfold oI
  cases l with
  |nil=>rfl
  |cons a r=>simp [List.getLast?_cons]
theorem IJ (p0:List UInt8) (e:Ep) (l:List Ep):qt p0 (e::l)=qt (cM e) l:=by
  unfold qt
  cases l with
  |nil=>rfl
  |cons a r=>simp [List.getLast?_cons]
theorem Bc:∀ {l r:List Ep} {iss:Int} {no:Nat} {day:Int} {prev:List UInt8} {σ:Int→Int},
    dL iss no day prev σ (l++r)=match dL iss no day prev σ l with
      |none=>none
      |some τ=>dL iss (no+l.length) (oI day l) (qt prev l) τ r
  | [],r,iss,no,day,prev,σ=>rfl
  | e :: l, r, iss, no, day, prev, σ => by
    rw [List.cons_append,dL,dL]
    by_cases hb:(cF iss no day prev e&&cP σ (-1) e.ch)=true
    · rw [if_pos hb,if_pos hb,Bc,IK,IJ,List.length_cons,show no+1+l.length=no+(l.length+1) by omega]
    · rw [if_neg hb,if_neg hb]
theorem Iq {l r:List Ep} (h:l≠ []):j0 (l++r)=j0 l:=by
  cases l with
  |nil=>exact absurd rfl h
  |cons a l=>rfl
theorem IG (l:List Ep):iI l=qt zD l:=rfl
theorem II {l:List Ep} {iss day:Int} (h:j3 l iss day=true) (hl:l≠ []):∃e,l.getLast?=some e∧iss=e.iss∧e.day<day:=by
  unfold j3 at h
  cases hg:l.getLast? with
  |none=>exact absurd (List.getLast?_eq_none_iff.1 hg) hl
  | some e =>
    rw [hg]at h
    simp only [Bool.and_eq_true,decide_eq_true_eq,beq_iff_eq]at h
    exact⟨e,rfl,h.1,h.2⟩
theorem Bd:∀ {l:List Ep} {iss:Int} {no:Nat} {day:Int} {prev:List UInt8} {σ τ:Int→Int},dL iss no day prev σ l=some τ→∀e∈l,e.iss=iss
  | [],_,_,_,_,_,_,_,e,h=>by cases h
  | a :: r, iss, no, day, prev, σ, τ, hf, e, h => by
    rw [dL]at hf
    split at hf
    · rename_i hb
      simp only [Bool.and_eq_true,cF,beq_iff_eq]at hb
      rcases List.mem_cons.1 h with rfl|h
      · exact hb.1.1.1.1.1
      · exact Bd hf e h
    · cases hf
section
variable {x:List UInt8} {n:Int} {l:List Ep} {iss day:Int} {ids:List Int} {c:List Ch} {e:Ep}
theorem KA (h : gq x n l iss day ids c = .inr e) : cv n ∧ ∃ σ, cC l = some σ ∧ cQ (dM x n) n l = 0 ∧ ¬ (l.length : Int) = n ∧ oa iss day = true ∧ j3 l iss day = true ∧ cP σ (-1) c = true ∧ fM (aV σ c) ids = true ∧ e = eY x n.toNat l iss day ids c (aV σ c) := by
  by_cases h1:cv n
  · refine ⟨h1, ?_⟩
    cases hf:cC l with
    |none=>rw [xy h1 (by rw [sj hf];decide)]at h;cases h
    | some σ =>
      by_cases h2:cQ (dM x n) n l=0
      · by_cases h3 : (l.length : Int) = n
        · rw [xz h1 hf h2 h3]at h;cases h
        · have key : ∀ b : Bool, b = false ∨ b = true := fun b => by cases b <;> simp
          rcases key (oa iss day)with h4|h4
          · rw [ke h1 hf h2 h3 (.inl h4)]at h;cases h
          rcases key (j3 l iss day)with h5|h5
          · rw [ke h1 hf h2 h3 (.inr (.inl h5))]at h;cases h
          rcases key (cP σ (-1) c)with h6|h6
          · rw [ke h1 hf h2 h3 (.inr (.inr (.inl h6)))]at h;cases h
          rcases key (fM (aV σ c) ids)with h7|h7
          · rw [ke h1 hf h2 h3 (.inr (.inr (.inr h7)))]at h;cases h
          rw [qL h1 hf h2 h3 h4 h5 h6 h7]at h
          exact⟨σ,rfl,h2,h3,h4,h5,h6,h7,by cases h;rfl⟩
      · rw [xy h1 h2]at h;cases h
  · rw [CU h1]at h;cases h
theorem CY (h:gq x n l iss day ids c= .inr e):∃σ,cC l=some σ∧cC (l++ [e])=some (aV σ c)∧cQ (dM x n) n (l++ [e])=0:=by
  obtain⟨h1,σ,hf,h2,h3,h4,h5,h6,h7,he⟩:=KA h
  obtain⟨k,rfl,hk1,hk2⟩:=ug h1
  have hlk:=zQ hf h2
  have hlt:l.length<k:=by omega
  have hem:e.iss=iss∧e.no=(l.length:Nat)∧e.day=day∧e.ch=c∧e.prev=iI l∧e.sg=⟨(l.length:Nat),iU (fE x (l.length:Nat)) (cM (eP x l iss day ids c (aV σ c))),path (dt x k) l.length⟩:=by subst he;exact⟨rfl,rfl,rfl,rfl,rfl,rfl⟩
  have hdg:cM e=cM (eP x l iss day ids c (aV σ c)):=by subst he;exact G0 _ _
  obtain⟨e1,e2,e3,e4,e5,e6⟩:=hem
  unfold oa at h4
  simp only [Bool.and_eq_true,decide_eq_true_eq]at h4
  have hform:cC (l++ [e])=some (aV σ c):=by
    rw [oC]at hf ⊢
    have hi:j0 (l++ [e])=if l= []then iss else j0 l:=by
      split
      · rename_i h0;subst h0;exact e1
      · rename_i h0;exact Iq h0
    by_cases h0:l= []
    · subst h0
      cases hf
      rw [hi,if_pos rfl]
      show dL iss 0 (-1) zD σ0 [e]=_
      rw [dL,if_pos,dL,e4]
      rw [e4,h6,Bool.and_true]
      unfold cF
      simp only [Bool.and_eq_true,decide_eq_true_eq,beq_iff_eq]
      refine⟨⟨⟨⟨e1,?_⟩,?_⟩,⟨e2,by rw [e6];rfl⟩,e5⟩,?_,?_⟩<;>first|omega|(rw [e1];omega)|(rw [e3];omega)
    · obtain ⟨q, hq, hqi, hqd⟩ := II h5 h0
      rw [hi,if_neg h0,Bc,hf]
      simp only
      have hY:oI (-1) l=q.day:=by unfold oI;rw [hq]
      have hql:=Bd hf q (List.mem_of_getLast? hq)
      rw [dL,if_pos,dL,e4]
      rw [e4,h6,Bool.and_true]
      unfold cF
      simp only [Bool.and_eq_true,decide_eq_true_eq,beq_iff_eq]
      refine⟨⟨⟨⟨by rw [e1,hqi,hql],by rw [e1];omega⟩,by rw [e1];omega⟩,⟨by rw [e2,Nat.zero_add],by rw [e6,Nat.zero_add]⟩,by rw [e5];exact IG l⟩,by rw [hY,e3];exact hqd,by rw [e3];omega⟩
  refine⟨σ,hf,hform,vH hform fun a ha=>?_⟩
  rcases List.mem_append.1 ha with ha|ha
  · cases hv : fc (dM x (k : Int)) k (cM a) a.sg.a a.sg.S a.sg.P with
    |true=>rfl
    |false=>rw [vG hf ha hv]at h2;cases h2
  · rw [List.mem_singleton.1 ha, e6, hdg]
    exact MN _ h1 hlt
end
structure Sp where
  day:Int
  ch:List Ch
def Sp.cells (s:Sp):List A:= [.i .i64 s.day,cz s.ch]
def DV (l:List Sp):List A:=l.flatMap Sp.cells
instance {s:Sp}:dE s.cells:=by unfold Sp.cells;infer_instance
instance {l:List Sp}:dE (DV l):=by unfold DV;infer_instance
def Sp.ok (s:Sp):Prop:=rg s.day∧∀c∈s.ch,rg c.id∧rg c.st
end Go.Abs.D2
-- E5U
namespace Go.Abs.D2
open Go Go.Eng Go.Abs
def jH:List Ch→Int→Int
  | [],_=>0
  |c::r,id=>if c.id=id then c.st else jH r id
theorem Md {l:List Ch} {id:Int} {i:Nat} {c:Ch} (h:l[i]? =some c) (hc:c.id=id):jH (l.drop i) id=c.st:=by
  rw [List.drop_eq_getElem_cons (List.getElem?_eq_some_iff.1 h).1,(List.getElem?_eq_some_iff.1 h).2,jH,if_pos hc]
theorem Mc {l:List Ch} {id:Int} {i:Nat} {c:Ch} (h:l[i]? =some c) (hc:¬c.id=id):jH (l.drop i) id=jH (l.drop (i+1)) id:=by
  rw [List.drop_eq_getElem_cons (List.getElem?_eq_some_iff.1 h).1,(List.getElem?_eq_some_iff.1 h).2,jH,if_neg hc]
theorem bQ {l:List Ch} {i:Nat} {c:Ch} (h:l[i]? =some c) {k:Nat} {v:A} (hv:c.cells[k]? =some v) (hk:k<2):(((eD l).drop (i*2)).drop k)[0]? =some v:=by
  have e1:(((eD l).drop (i*2)).take 2)[k]? =some v:=by rw [pV h];exact hv
  rw [List.getElem?_take,if_pos hk]at e1
  rw [List.getElem?_drop,Nat.add_zero];exact e1
def iT:List Ch→List Ch→Bool
  | [], []=>true
  |a::r,b::s=>(a.id==b.id&&a.st==b.st)&&iT r s
  |_,_=>false
theorem xP:∀l:List Ch,iT l l=true
  | []=>rfl
  |c::l=>by rw [iT,xP l];simp
theorem Dw:∀ {a b:List Ch},iT a b=true→a.length=b.length
  | [], [],_=>rfl
  | _ :: a, _ :: b, h => by
    rw [iT,Bool.and_eq_true]at h
    rw [List.length_cons,List.length_cons,Dw h.2]
  | [],_::_,h=>by cases h
  |_::_, [],h=>by cases h
theorem LC {a b:List Ch} (h:a.length≠b.length):iT a b=false:=by
  cases hs:iT a b with
  |false=>rfl
  |true=>exact absurd (Dw hs) h
theorem Dv {a b:List Ch} {i:Nat} {c d:Ch} (h1:a[i]? =some c) (h2:b[i]? =some d):iT (a.drop i) (b.drop i)=((c.id==d.id&&c.st==d.st)&&iT (a.drop (i+1)) (b.drop (i+1))):=by
  rw [List.drop_eq_getElem_cons (List.getElem?_eq_some_iff.1 h1).1,(List.getElem?_eq_some_iff.1 h1).2,List.drop_eq_getElem_cons (List.getElem?_eq_some_iff.1 h2).1,(List.getElem?_eq_some_iff.1 h2).2,iT]
end Go.Abs.D2
-- E5W
namespace Go.Abs.D2
open Go Go.Eng Go.Abs
abbrev sm:D:= .st [.int .i64,.int .i64]
abbrev sn:D:= .st [.int .i64,.int .i64,.int .i64,.sl sm,.arr 32 (.int .u8),.arr 32 (.int .u8),.st [.int .i64,.sl (.arr 32 (.int .u8)),.sl (.arr 32 (.int .u8))]]
theorem GM (aS:List A) (h:Den sm aS):∃c:Ch,aS=c.cells∧(rg c.id∧rg c.st):=by
  simp only [Den,jL]at h
  obtain⟨a,r,h1,⟨b,r2,h2,rfl,rfl⟩,rfl⟩:=h
  obtain⟨n,rfl,hn⟩:=l7 a (by simpa only [Den]using h1)
  obtain⟨m,rfl,hm⟩:=l7 b (by simpa only [Den]using h2)
  exact⟨⟨n,m⟩,rfl,hn,hm⟩
theorem GN (aS:List A) (h:Den (.sl sm) aS):∃l:List Ch,aS= [cz l]∧l.length≤maxLen∧∀c∈l,rg c.id∧rg c.st:=by
  simp only [Den]at h
  obtain⟨ls,h1,h2,rfl⟩:=h
  obtain⟨ys,rfl,h3⟩:=pY (f:=Ch.cells) (e:=sm) GM ls (fun x hx=>by simpa only [Den]using h1 x hx)
  exact⟨ys,by rw [List.length_map, ←List.flatMap_def];rfl,by simpa using h2,h3⟩
structure Ep.typed (e:Ep):Prop where
  iss:rg e.iss
  no:rg e.no
  day:rg e.day
  ch:∀c∈e.ch,rg c.id∧rg c.st
  bO:e.bO.length=32
  prev:e.prev.length=32
  S:aL e.sg.S
  P:aL e.sg.P
  gT:e.ch.length≤maxLen
theorem Ep.typed.ok {e:Ep} (h:e.typed) (hf:e.ch.length≤1000):e.ok:=⟨h.iss,h.no,h.day,h.ch,hf,h.bO,h.prev,h.S,h.P⟩
theorem Ep.typed.len {e:Ep} (h:e.typed):e.cells.length=71:=by simp [Ep.cells,h.bO,h.prev]
theorem GO (aS:List A) (h:Den sn aS):∃e:Ep,aS=e.cells∧e.typed:=by
  simp only [Den,jL]at h
  obtain⟨a,_,h1,⟨b,_,h2,⟨c,_,h3,⟨d,_,h4,⟨e,_,h5,⟨f,_,h6,⟨g,_,h7,rfl,rfl⟩,rfl⟩,rfl⟩,rfl⟩,rfl⟩,rfl⟩,rfl⟩:=h
  obtain⟨n1,rfl,g1⟩:=l7 a (by simpa only [Den]using h1)
  obtain⟨n2,rfl,g2⟩:=l7 b (by simpa only [Den]using h2)
  obtain⟨n3,rfl,g3⟩:=l7 c (by simpa only [Den]using h3)
  obtain⟨l,rfl,hl,hc⟩:=GN d (by simpa only [Den,jL]using h4)
  obtain⟨x,rfl,hx⟩:=vU (n:=32) e (by simpa only [Den]using h5)
  obtain⟨y,rfl,hy⟩:=vU (n:=32) f (by simpa only [Den]using h6)
  obtain⟨s,rfl,h8,h9⟩:=GQ g (by simpa only [Den,jL]using h7)
  exact⟨⟨n1,n2,n3,l,x,y,s⟩,by simp [Ep.cells],g1,g2,g3,hc,hx,hy,h8,h9,hl⟩
theorem GP (aS:List A) (h:Den (.sl sn) aS):∃l:List Ep,aS= [cW l]∧l.length≤maxLen∧∀e∈l,e.typed:=by
  simp only [Den]at h
  obtain⟨ls,h1,h2,rfl⟩:=h
  obtain⟨ys,rfl,h3⟩:=pY (f:=Ep.cells) (e:=sn) GO ls (fun x hx=>by simpa only [Den]using h1 x hx)
  exact⟨ys,by rw [List.length_map, ←List.flatMap_def];rfl,by simpa using h2,h3⟩
end Go.Abs.D2
-- E5V
namespace Go.Abs.D2
open Go Go.Eng Go.Abs
abbrev fL:List UInt8:=3::List.replicate 31 0
abbrev cA:List Ch:= [⟨5,2⟩]
abbrev cB:List Ch:= [⟨4,1⟩]
@[irreducible] def eA:Ep:=eY fL 2 [] 1 10 [4,5] cA (aV σ0 cA)
theorem qa:eA=eY fL 2 [] 1 10 [4,5] cA (aV σ0 cA):=by unfold eA;rfl
@[irreducible] def eB:Ep:=eY fL 2 [eA] 1 11 [4,5] cB (aV (aV σ0 cA) cB)
theorem su:eB=eY fL 2 [eA] 1 11 [4,5] cB (aV (aV σ0 cA) cB):=by unfold eB;rfl
theorem rg_of {n:Int} (h0: -9223372036854775808≤n) (h1:n≤9223372036854775807):rg n:=⟨h0,h1⟩
theorem uh:cv ((2:Nat):Int):=by decide
theorem oD:cC []=some σ0:=by rw [oC];rfl
theorem zU (r:List UInt8) (n:Int):cQ r n []=0:=vH oD fun e he=>by cases he
theorem CW:gq fL 2 [] 1 10 [4,5] cA= .inr eA:=by
  rw [qa]
  exact qL (n:=((2:Nat):Int)) uh oD (zU _ _) (by decide) (by decide) rfl (by decide) (xY (by decide) (by decide+kernel))
theorem qm:cC [eA]=some (aV σ0 cA)∧cQ (dM fL 2) 2 [eA]=0:=by
  obtain⟨σ,h1,h2,h3⟩:=CY CW
  rw [oD]at h1
  cases h1
  exact⟨h2,h3⟩
theorem IL {iss day:Int}:j3 [eA] iss day=((iss==1)&&decide (day>10)):=by
  have h:eA.iss=1∧eA.day=10:=by rw [qa];exact⟨rfl,rfl⟩
  show((iss==eA.iss)&&decide (day>eA.day))=_
  rw [h.1,h.2]
theorem CX:gq fL 2 [eA] 1 11 [4,5] cB= .inr eB:=by
  rw [su]
  exact qL (n:=((2:Nat):Int)) uh qm.1 qm.2 (by decide) (by decide) (by rw [IL];rfl) (by decide+kernel) (xY (by decide) (by decide+kernel))
theorem sM:cC [eA,eB]=some (aV (aV σ0 cA) cB)∧cQ (dM fL 2) 2 [eA,eB]=0:=by
  obtain⟨σ,h1,h2,h3⟩:=CY CX
  rw [qm.1]at h1
  cases h1
  exact⟨h2,h3⟩
theorem Ky:gq fL 2 [eA] 1 11 [4,5] [⟨5,0⟩]= .inl 351:=ke (n:=((2:Nat):Int)) uh qm.1 qm.2 (by decide) (.inr (.inr (.inl (by decide+kernel))))
theorem Kz:gq fL 2 [eA,eB] 1 12 [4,5] []= .inl 2:=xz (n:=((2:Nat):Int)) uh sM.1 sM.2 rfl
theorem Mh:jJ [eA,eB] 1= .inr [⟨4,1⟩,⟨5,2⟩]:=by
  rw [q8 (σ:=aV (aV σ0 cA) cB) (by decide) (by exact sM.1)]
  have hk:c6 (aV (aV σ0 cA) cB)= [4,5]:=by decide+kernel
  unfold dq
  rw [hk]
  rfl
theorem Mi:jJ [] (-1)= .inr []:=by
  rw [q8 (l:= []) (no:= -1) (σ:=σ0) (by decide) (by exact oD)]
  have hk:c6 σ0= []:=by decide+kernel
  unfold dq
  rw [hk]
  rfl
theorem Mj:jJ [] 0= .inl 1:=uk (by decide)
theorem Fj:ll [] 5=none:=by rw [rQ];rfl
theorem Fk:ll [eA,eB] 10=some 0:=by
  have h1:eA.day=10:=by rw [qa];rfl
  have h2:eB.day=11:=by rw [su];rfl
  rw [rQ]
  show je [eA,eB] 10 (0+1+1)=_
  rw [vg (e:=eB) rfl (by rw [h2];decide),vh (e:=eA) rfl (by rw [h1];decide)]
theorem K3 {l:List Ch} (h:∀e∈l, -9223372036854775808≤e.id∧e.id≤9223372036854775807∧ -9223372036854775808≤e.st∧e.st≤9223372036854775807):∀e∈l,rg e.id∧rg e.st:=fun e he=>let ⟨a,b,c,d⟩:=h e he;⟨⟨a,b⟩,⟨c,d⟩⟩
theorem qP {a b:Int} (h: -9223372036854775808≤a∧a≤9223372036854775807∧ -9223372036854775808≤b∧b≤9223372036854775807):∀e∈([⟨a,b⟩]:List Ch),rg e.id∧rg e.st:=K3 fun e he=>by rw [List.mem_singleton.1 he];exact h
theorem oP:eA.ok:=by rw [qa];exact tv (by decide) (rg_of (by decide) (by decide)) (rg_of (by decide) (by decide)) (by decide) (qP (by decide))
theorem xl:eB.ok:=by rw [su];exact tv (by decide) (rg_of (by decide) (by decide)) (rg_of (by decide) (by decide)) (by decide) (qP (by decide))
theorem qH:dN []:=fun e he=>by cases he
theorem CH:dN [eA]:=fun e he=>by rw [List.mem_singleton.1 he];exact oP
theorem nA:dN [eA,eB]:=fun e he=>by
  rcases List.mem_cons.1 he with rfl|he
  · exact oP
  · rw [List.mem_singleton.1 he];exact xl
theorem Kv:eA.prev=zD:=by rw [qa];rfl
theorem Kw:eB.prev=cM eA:=by rw [su];rfl
theorem AN {l:List Ep} {i:Nat} {e:Ep} (hl:dN l) (h:l[i]? =some e):(((c4 l).drop (i*71)).drop 36).take 32=e.prev.map u8:=by
  have hok:=hl e (List.mem_of_getElem? h)
  have h1:((((c4 l).drop (i*71)).take 71).drop 36).take 32=e.prev.map u8:=by rw [kJ hl h];exact jo hok
  rw [List.drop_take,List.take_take]at h1
  exact h1
end Go.Abs.D2
-- E5X
namespace Go.Abs.D2
open Go Go.Eng Go.Abs
structure Good (x:List UInt8) (n:Int) (l:List Ep):Prop where
  form:∃τ,cC l=some τ
  zL:cQ (dM x n) n l=0
  size:l≠ []→cv n
theorem DX (σ:Int→Int) (id:Int):∀l:List Int,jH (l.map fun k=>⟨k,σ k⟩) id=if id∈l then σ id else 0
  | []=>rfl
  | k :: l => by
    rw [List.map_cons,jH,DX σ id l]
    by_cases h:k=id
    · subst h;simp
    · rw [if_neg h]
      have:id∈k::l↔id∈l:=by simp [Ne.symm h]
      simp only [this]
theorem DW {σ:Int→Int} (h:gi σ) (id:Int):jH (dq σ) id=σ id:=by
  unfold dq
  rw [DX]
  split
  · rfl
  · rename_i hn
    cases Decidable.em (σ id=0)with
    |inl h0=>exact h0.symm
    |inr h0=>exact absurd ((sW h id).1 (by unfold mapOf;rw [if_neg h0];rfl)) hn
theorem vF (σ:Int→Int):(dq σ).length≤1024:=by
  have:=List.length_filter_le (fun n=>σ n !=0) ((List.range 1024).map fun k:Nat=>(k:Int))
  simpa [dq,c6]using this
theorem FF {l:List Ep} {σ:Int→Int} (h:cC (l.take 0)=some σ): []=dq σ:=by
  rw [List.take_zero,oD]at h
  cases h
  unfold dq
  rw [show c6 σ0= [] by decide+kernel]
  rfl
theorem zH:∀ {l r:List Ch} {σ:Int→Int},aV σ (l++r)=aV (aV σ l) r
  | [],_,_=>rfl
  |c::l,r,σ=>by rw [List.cons_append,aV,aV,zH]
theorem zI {l:List Ch} {j:Nat} {c:Ch} (σ:Int→Int) (h:l[j]? =some c) (q:Int):aV σ (l.take (j+1)) q=if c.id=q then c.st else aV σ (l.take j) q:=by
  rw [List.take_add_one,h,show(some c).toList= [c]from rfl,zH]
  show ig _ _ _ q=_
  unfold ig
  by_cases h:c.id=q
  · rw [if_pos h,if_pos h.symm]
  · rw [if_neg h,if_neg (Ne.symm h)]
end Go.Abs.D2
-- E6A
namespace Go.Abs.D2
open Go Go.Eng Go.Abs
def l8 (l:List Ep) (i:Nat):List UInt8:=match l[i]? with
  |some e=>cM e
  |none=>zD
theorem IW (l:List Ep) (i:Nat):(l8 l i).length=32:=by
  unfold l8
  split
  · simp
  · simp
theorem vY {l:List Ep} {i:Nat} {e:Ep} (h:l[i]? =some e):l8 l i=cM e:=by unfold l8;rw [h]
def wg (l:List Ep) (k j:Nat):List (List UInt8):=(List.range k).map fun i=>if i<j then l8 l i else zD
@[irreducible] def we (l:List Ep) (k:Nat):List (List UInt8):=(List.range k).map (l8 l)
theorem G1 (l:List Ep) (k:Nat):we l k=(List.range k).map (l8 l):=by unfold we;rfl
@[simp] theorem len_digsJ (l:List Ep) (k j:Nat):(wg l k j).length=k:=by simp [wg]
@[simp] theorem len_digsE (l:List Ep) (k:Nat):(we l k).length=k:=by simp [G1]
theorem No (l:List Ep) (k j:Nat):aL (wg l k j):=fun d hd=>by
  obtain⟨i,_,rfl⟩:=List.mem_map.1 hd
  split
  · exact IW _ _
  · simp
end Go.Abs.D2
-- E6P
namespace Go.Abs
open Go Go.Eng
theorem YO.wk {P:Program} {E:Ev} {st:St} {op:Op} {ty:TypeId} {v v':A} (h:YO P E st op ty v) (hw:Wk v v'):YO P E st op ty v':=fun w0 X0 n β X a w hr=>let ⟨u,h1,h2⟩:=h w0 X0 n β X a w hr;⟨u,rK hw h1,h2⟩
end Go.Abs
namespace Go.Abs.D2
open Go Go.Eng Go.Abs
theorem GB {e:Ep} (h:e.ok):A.fz 32 (((e.cells.drop 4).drop (0*1)).take (32*1))= .fz e.bO.length (e.bO.map u8):=by rw [Nat.zero_mul,List.drop_zero,Nat.mul_one,AH h,h.bO]
theorem GG {e:Ep} (h:e.ok):A.fz 32 (((e.cells.drop 36).drop (0*1)).take (32*1))= .fz e.prev.length (e.prev.map u8):=by rw [Nat.zero_mul,List.drop_zero,Nat.mul_one,jo h,h.prev]
def nV (l:List Ep):Prop:=∀e∈l,e.typed
theorem AM {l:List Ep} {i:Nat} {e:Ep} (hl:nV l) (h:l[i]? =some e):((c4 l).drop (i*71)).take 71=e.cells:=by
  unfold c4
  induction l generalizing i with
  |nil=>simp at h
  | cons d l ih =>
    rw [List.flatMap_cons]
    have hd:=(hl d (.head _)).len
    cases i with
    |zero=>simp at h;subst h;rw [Nat.zero_mul,List.drop_zero,List.take_left' hd]
    |succ i=>rw [show(i+1)*71=d.cells.length+i*71 by rw [hd];omega, ←List.drop_drop,List.drop_left];exact ih (fun x hx=>hl x (.tail _ hx)) (by simpa using h)
theorem Hr {l:List Ep} {i:Nat} {e:Ep} (hl:nV l) (h:l[i]? =some e):(((c4 l).drop (i*71)).drop 3)[0]? =some (cz e.ch):=by
  have e1:(((c4 l).drop (i*71)).take 71)[3]? =some (cz e.ch):=by rw [AM hl h];rfl
  rw [List.getElem?_take,if_pos (by decide)]at e1
  rw [List.getElem?_drop,Nat.add_zero];exact e1
theorem Hs {l:List Ep} {i:Nat} {e:Ep} (hl:nV l) (h:l[i]? =some e):(((c4 l).drop (i*71)).drop 68).take 3= [.i .i64 e.sg.a,bD e.sg.S,bD e.sg.P]:=by
  have ht:=hl e (List.mem_of_getElem? h)
  have h1:(((c4 l).drop (i*71)).take 71).drop 68= [.i .i64 e.sg.a,bD e.sg.S,bD e.sg.P]:=by
    rw [AM hl h,show 68=36+32 from rfl, ←List.drop_drop]
    have:e.cells.drop 36=e.prev.map u8++ [.i .i64 e.sg.a,bD e.sg.S,bD e.sg.P]:=by
      show(e.bO.map u8++_).drop 32=_
      rw [List.drop_left' (by rw [List.length_map,ht.bO])]
    rw [this,List.drop_left' (by rw [List.length_map,ht.prev])]
  rw [List.drop_take]at h1
  exact h1
def lJ (n:Int) (e:Ep):Bool:=decide (e.ch.length≤10)&&m9 n e.sg.S.length e.sg.P.length
@[irreducible] def lI (n:Int) (l:List Ep) (ids:List Int) (c:List Ch):Bool:=l.all (lJ n)&&(((m9 n 0 0&&decide ((l.length:Int)≤6))&&decide ((ids.length:Int)≤24))&&decide ((c.length:Int)≤10))
theorem AS {n:Int} {l:List Ep} {ids:List Int} {c:List Ch} {e:Ep} (h:e∈l) (hc:lJ n e=false):lI n l ids c=false:=by
  unfold lI
  rw [show l.all (lJ n)=false from List.all_eq_false.2 ⟨e,h,by simp [hc]⟩];rfl
theorem Hy {n:Int} {l:List Ep} {ids:List Int} {c:List Ch} (h:∀e∈l,lJ n e=true):lI n l ids c=(((m9 n 0 0&&decide ((l.length:Int)≤6))&&decide ((ids.length:Int)≤24))&&decide ((c.length:Int)≤10)):=by
  unfold lI
  rw [List.all_eq_true.2 h,Bool.true_and]
theorem AT {n:Int} {l:List Ep} {ids:List Int} {c:List Ch} (h:lI n l ids c=true):(∀e∈l,e.ch.length≤10)∧(n≤10∨256<n)∧l.length≤6∧ids.length≤24∧c.length≤10:=by
  unfold lI at h
  simp only [Bool.and_eq_true,decide_eq_true_eq,List.all_eq_true,lJ,m9,Bool.or_eq_true]at h
  exact⟨fun e he=>(h.1 e he).1,by have:=h.2.1.1.1.1.1;omega,by omega,by omega,by omega⟩
theorem Hz {n:Int} {l:List Ep} {ids:List Int} {c:List Ch} (h:lI n l ids c=true) (hl:nV l):dN l:=fun e he=>(hl e he).ok (Nat.le_trans ((AT h).1 e he) (by decide))
end Go.Abs.D2
-- C1E
namespace Go.Abs.D2
open Go Go.Eng Go.Abs Go.Proofs
theorem K2 (k n:Int) (s:List UInt8) (l:List CV) (hl:CV.er l<1000000) (ih:∀v∈l,aB Tryz.prog 176 [.ag v.cells] (aU (.b v.okB))):aB Tryz.prog 176 [.ag [.i .i64 k,.i .i64 n,.s s,.fz l.length (CV.bI l)]] (aU (.b (CV.okB (.mk k n s l)))):=by
 refine enter Tryz.func176 rfl Tryz.ntmps176 (by kernel_rfl) (Nat.le_of_ble_eq_true rfl) fun w0 X0 hI=>?_
 refine af<|ai ?_
 refine ak rfl (bY 1 rfl rfl rfl ?_)
 refine s1 (aa rfl) rfl ?_
 refine ah<|ae<|af<|af ?_
 have hll:=CV.qw l
 refine ai<|s1 (aA Tryz.underlying109 rfl an (by decide) rfl rfl) rfl<|s1 (au an rfl rfl rfl) rfl ?_
 refine ah<|ae<|aM<|af<|ai<|s1 (aa rfl) rfl<|s1 (aa rfl) rfl ?_
 refine ah<|ae ?_
 refine aP rfl (fun hc6=>?_) (fun hc6=>?_)
 ·have hk1 : k = 1 := by simpa using hc6
  refine af<|ai<|s1 (aA Tryz.underlying109 rfl gI (by decide) rfl rfl) rfl<|s1 (au gI rfl rfl rfl) rfl<|s1 ((aa rfl).v (v':= .b s.isEmpty) (congrArg A.b (by cases s<;>rfl))) rfl<|s1 (aa rfl) rfl ?_
  refine dG 4 rfl rfl rfl rfl (fun hb11=> .step (aA Tryz.underlying109 rfl cR (by decide) rfl rfl) rfl rfl<| .step (au cR rfl rfl rfl) rfl rfl<| .step (bx Tryz.underlying107 rfl rfl rfl) rfl rfl<| .step (aa rfl) rfl rfl<| .done) rfl rfl ?_
  refine s1 (aa rfl) rfl ?_
  refine ah<|ae<|aF<|bc<|aH ?_
  refine aG (rs:= [.tmp 2]) rfl (aD rfl aC) ?_
  exact congrArg A.b (CJ hk1)
 ·have hk1 : ¬ k = 1 := by simpa using hc6
  refine af<|ai<|s1 (aa rfl) rfl<|s1 (aa rfl) rfl ?_
  refine ah<|ae ?_
  refine aP rfl (fun hc17=>?_) (fun hc17=>?_)
  ·have hk2 : k = 2 := by simpa using hc17
   refine af<|ai<|s1 (aA Tryz.underlying109 rfl an (by decide) rfl rfl) rfl<|s1 (au an rfl rfl rfl) rfl<|s1 (aa rfl) rfl<|s1 (aa rfl) rfl ?_
   refine dG 4 rfl rfl rfl rfl (fun hb22=> .step (aA Tryz.underlying109 rfl cR (by decide) rfl rfl) rfl rfl<| .step (au cR rfl rfl rfl) rfl rfl<| .step (bx Tryz.underlying107 rfl rfl rfl) rfl rfl<| .step (aa rfl) rfl rfl<| .done) rfl rfl ?_
   refine s1 (aa rfl) rfl ?_
   refine ah<|ae<|aF<|bc<|aH ?_
   refine aG (rs:= [.tmp 2]) rfl (aD rfl aC) ?_
   exact congrArg A.b (CK hk2)
  ·have hk2 : ¬ k = 2 := by simpa using hc17
   refine af<|ai<|s1 (aa rfl) rfl<|s1 (aa rfl) rfl ?_
   refine ah<|ae ?_
   refine aP rfl (fun hc28=>?_) (fun hc28=>?_)
   ·have hk3 : k = 3 := by simpa using hc28
    refine af<|af<|ai<|s1 ((aa rfl).v (v':= .i .i64 0) rfl) rfl ?_
    refine ah<|ae<|aM ?_
    refine bH (ι:=Nat) (fun i=> [(1,.p 1 0),(3,nJ i)]) (fun i=>⟨[(1,some ([.i .i64 k,.i .i64 n,.s s,.fz l.length (CV.bI l)]))]⟩) (fun i=>i≤l.length∧(l.take i).all CV.okB=true) (fun i=>l.length - i) ?_ ?_
    ·exact bG (0) (⟨Nat.zero_le _,rfl⟩) [(1,some 1)] hI rfl rfl ⟨⟨_,rfl,.p rfl⟩,⟨_,rfl,.pure pu⟩,trivial⟩ ⟨.inr ⟨_,_,rfl,rfl,.pure ar⟩,trivial⟩
    rintro i ⟨hi,hi2⟩
    refine af<|af<|ai<|s1 (aa rfl) rfl<|s1 (aA Tryz.underlying109 rfl cR (by decide) rfl rfl) rfl<|s1 (au cR rfl rfl rfl) rfl<|s1 (bx Tryz.underlying107 rfl rfl rfl) rfl<|s1 (aa rfl) rfl ?_
    refine ah<|ae ?_
    refine aP rfl (fun hc34=>?_) (fun hc34=>?_)
    ·have h43 : i < l.length := by have := of_decide_eq_true hc34; omega
     obtain⟨v,hv⟩:∃v,l[i]? =some v:=⟨_,List.getElem?_eq_getElem h43⟩
     have hvm:=List.mem_of_getElem? hv
     refine aK<|ae<|af<|aM<|af<|ai<|s1 (aA Tryz.underlying109 rfl cR (by decide) rfl rfl) rfl<|s1 (au cR rfl rfl rfl) rfl<|s1 (aa rfl) rfl<|s1 (aT i Tryz.underlying107 br rfl rfl rfl (by omega) rfl) rfl<|s1 (cm br rfl rfl (CV.get hv) (CV.len_cells v)) rfl ?_
     refine ak rfl (aJ false rfl (.cons (.pure pu) (.nil)) (ih v hvm) pu (.inl rfl) rfl ?_)
     refine s1 (aa rfl) rfl ?_
     refine ah<|ae ?_
     refine aP rfl (fun hc43=>?_) (fun hc43=>?_)
     ·have h43 : v.okB = false := by simpa using hc43
      refine af<|ai<|s1 (aa rfl) rfl ?_
      refine ah<|ae<|aF<|bc<|aH<|aH<|bc<|aH<|bc<|aH ?_
      refine aG (rs:= [.tmp 2]) rfl (aD rfl aC) ?_
      exact congrArg A.b (CL hk3 hv h43)
     ·have h43 : v.okB = true := by simpa using hc43
      refine aK<|bj<|ae<|ai<|s1 (aa rfl) rfl<|s1 (bg _ 1 rfl rfl rfl rfl (by omega)) rfl<|s1 (aa rfl) rfl ?_
      refine ah ?_
      exact bu (i+1) (⟨by omega,yP hv hi2 h43⟩) (by omega) [(1,some 1)] hI rfl rfl ⟨⟨_,rfl,.p rfl⟩,⟨_,rfl,.pure pu⟩,trivial⟩ ⟨.inr ⟨_,_,rfl,rfl,.pure ar⟩,trivial⟩
    ·obtain rfl : i = l.length := by have := of_decide_eq_false hc34; omega
     refine bE<|aO<|aO<|bF<|ae<|af<|ai<|s1 (aA Tryz.underlying109 rfl an (by decide) rfl rfl) rfl<|s1 (au an rfl rfl rfl) rfl<|s1 (aa rfl) rfl<|s1 (aa rfl) rfl ?_
     refine dG 3 rfl rfl rfl rfl (fun hb47=> .step (aA Tryz.underlying109 rfl gI (by decide) rfl rfl) rfl rfl<| .step (au gI rfl rfl rfl) rfl rfl<| .step ((aa rfl).v (v':= .b s.isEmpty) (congrArg A.b (by cases s<;>rfl))) rfl rfl<| .done) rfl rfl ?_
     refine s1 (aa rfl) rfl ?_
     refine ah<|ae<|aF<|bc<|aH ?_
     refine aG (rs:= [.tmp 2]) rfl (aD rfl aC) ?_
     exact congrArg A.b (JW hk3 hi2)
   ·have hk3 : ¬ k = 3 := by simpa using hc28
    refine aK<|bj<|ae<|af<|ai<|s1 (aa rfl) rfl ?_
    refine ah<|ae<|aF ?_
    refine aG (rs:= [.tmp 2]) rfl (aD rfl aC) ?_
    exact congrArg A.b (CI hk1 hk2 hk3)
theorem K1 (v:CV) (h:v.size≤1000000):aB Tryz.prog 176 [.ag v.cells] (aU (.b v.okB)):=CV.oX (p:=fun v=>aB Tryz.prog 176 [.ag v.cells] (aU (.b v.okB))) 1000000 (fun k n s l hl ih=>K2 k n s l hl ih) v h
theorem KO (k n:Int) (s:List UInt8) (l:List CV) (hl:CV.er l<1000000) (ih:∀v∈l,aB Tryz.prog 177 [.ag v.cells] (aU (nJ v.depth))):aB Tryz.prog 177 [.ag [.i .i64 k,.i .i64 n,.s s,.fz l.length (CV.bI l)]] (aU (nJ (CV.depth (.mk k n s l)))):=by
 refine enter Tryz.func177 rfl Tryz.ntmps177 (by kernel_rfl) (Nat.le_of_ble_eq_true rfl) fun w0 X0 hI=>?_
 refine af<|ai ?_
 refine ak rfl (bY 1 rfl rfl rfl ?_)
 refine s1 ((aa rfl).v (v':= .i .i64 0) rfl) rfl ?_
 refine ah<|ae<|af<|af ?_
 have hll:=CV.qw l
 have hdl:=CV.vX l
 refine ai<|s1 (aA Tryz.underlying109 rfl an (by decide) rfl rfl) rfl<|s1 (au an rfl rfl rfl) rfl<|s1 (aa rfl) rfl ?_
 refine ah<|ae ?_
 refine aP rfl (fun hc7=>?_) (fun hc7=>?_)
 ·have hk3 : ¬ k = 3 := by simpa using hc7
  refine af<|ai<|s1 ((aa rfl).v (v':= .i .i64 0) rfl) rfl ?_
  refine ah<|ae<|aF<|aH ?_
  refine aG (rs:= [.tmp 2]) rfl (aD rfl aC) ?_
  exact congrArg nJ (show 0=CV.depth (.mk k n s l) by rw [CV.depth,if_neg hk3])
 ·have hk3 : k = 3 := by simpa using hc7
  refine aK<|ae<|af<|ai<|s1 ((aa rfl).v (v':= .i .i64 0) rfl) rfl ?_
  refine ah<|ae<|af<|af<|ai<|s1 ((aa rfl).v (v':= .i .i64 0) rfl) rfl ?_
  refine ah<|ae<|aM ?_
  refine bH (ι:=Nat) (fun i=> [(1,.p 1 0),(3,nJ (CV.ek (l.take i))),(4,nJ i)]) (fun i=>⟨[(1,some ([.i .i64 k,.i .i64 n,.s s,.fz l.length (CV.bI l)]))]⟩) (fun i=>i≤l.length) (fun i=>l.length - i) ?_ ?_
  ·exact bG (0) (Nat.zero_le _) [(1,some 1)] hI rfl rfl ⟨⟨_,rfl,.p rfl⟩,⟨_,rfl,.pure pu⟩,⟨_,rfl,.pure pu⟩,trivial⟩ ⟨.inr ⟨_,_,rfl,rfl,.pure ar⟩,trivial⟩
  rintro i hi
  refine af<|af<|ai<|s1 (aa rfl) rfl<|s1 (aA Tryz.underlying109 rfl cR (by decide) rfl rfl) rfl<|s1 (au cR rfl rfl rfl) rfl<|s1 (bx Tryz.underlying107 rfl rfl rfl) rfl<|s1 (aa rfl) rfl ?_
  refine ah<|ae ?_
  refine aP rfl (fun hc12=>?_) (fun hc12=>?_)
  ·have h43 : i < l.length := by have := of_decide_eq_true hc12; omega
   obtain⟨v,hv⟩:∃v,l[i]? =some v:=⟨_,List.getElem?_eq_getElem h43⟩
   have hvm:=List.mem_of_getElem? hv
   refine aK<|ae<|af<|aM<|ai<|s1 (aa rfl) rfl<|s1 (aA Tryz.underlying109 rfl cR (by decide) rfl rfl) rfl<|s1 (au cR rfl rfl rfl) rfl<|s1 (aa rfl) rfl<|s1 (aT i Tryz.underlying107 br rfl rfl rfl (by omega) rfl) rfl<|s1 (cm br rfl rfl (CV.get hv) (CV.len_cells v)) rfl ?_
   refine ak rfl (aJ false rfl (.cons (.pure pu) (.nil)) (ih v hvm) pu (.inl rfl) rfl ?_)
   refine s1 ((yo (a:=CV.ek (l.take i)) (b:=v.depth) rfl rfl rfl).v (v':=nJ (CV.ek (l.take (i+1)))) (congrArg nJ (CV.Ag hv))) rfl<|s1 (aa rfl) rfl ?_
   refine ah<|bj<|ae<|ai<|s1 (aa rfl) rfl<|s1 (bg _ 1 rfl rfl rfl rfl (by omega)) rfl<|s1 (aa rfl) rfl ?_
   refine ah ?_
   exact bu (i+1) (by omega) (by omega) [(1,some 1)] hI rfl rfl ⟨⟨_,rfl,.p rfl⟩,⟨_,rfl,.pure pu⟩,⟨_,rfl,.pure pu⟩,trivial⟩ ⟨.inr ⟨_,_,rfl,rfl,.pure ar⟩,trivial⟩
  ·obtain rfl : i = l.length := by have := of_decide_eq_false hc12; omega
   refine bE<|aO<|aO<|bF<|ae<|af<|ai<|s1 ((aa rfl).v (v':=nJ (CV.ek l)) (by rw [List.take_length])) rfl<|s1 (bg _ 1 rfl rfl rfl rfl (by omega)) rfl<|s1 (aa rfl) rfl ?_
   refine ah<|ae<|aF ?_
   refine aG (rs:= [.tmp 2]) rfl (aD rfl aC) ?_
   exact congrArg nJ (show CV.ek l+1=CV.depth (.mk k n s l) by rw [CV.depth,if_pos hk3])
theorem KN (v:CV) (h:v.size≤1000000):aB Tryz.prog 177 [.ag v.cells] (aU (nJ v.depth)):=CV.oX (p:=fun v=>aB Tryz.prog 177 [.ag v.cells] (aU (nJ v.depth))) 1000000 (fun k n s l hl ih=>KO k n s l hl ih) v h
theorem KK (v:CV) (h:v.size≤1000000):aB Tryz.prog 125 [.ag v.cells] (aU (.i .i64 (fk v))):=by
 refine enter Tryz.func125 rfl Tryz.ntmps125 (by kernel_rfl) (Nat.le_of_ble_eq_true rfl) fun w0 X0 hI=>?_
 refine af<|ai ?_
 refine ak rfl (bY 1 rfl rfl rfl ?_)
 refine s1 ((aa rfl).v (v':= .i .i64 0) rfl) rfl ?_
 refine ah<|ae<|af<|af<|ai<|s1 (aZ br rfl rfl (CV.len_cells v)) rfl ?_
 refine ak rfl (aJ false rfl (.cons (.pure pu) (.nil)) (K1 v h) pu (.inl rfl) rfl ?_)
 refine s1 (aa rfl) rfl ?_
 refine ah<|ae ?_
 refine aP rfl (fun hc5=>?_) (fun hc5=>?_)
 ·have h5 : v.okB = false := by simpa using hc5
  refine af<|ai<|s1 ((aa rfl).v (v':= .i .i64 1) rfl) rfl ?_
  refine ah<|ae<|aF<|aH ?_
  refine aG (rs:= [.tmp 2]) rfl (aD rfl aC) ?_
  exact congrArg (A.i .i64) (zR h5).symm
 ·have h5 : v.okB = true := by simpa using hc5
  refine aK<|ae<|af<|af<|ai<|s1 (aZ br rfl rfl (CV.len_cells v)) rfl ?_
  refine ak rfl (aJ false rfl (.cons (.pure pu) (.nil)) (KN v h) pu (.inl rfl) rfl ?_)
  refine s1 (aa rfl) rfl ?_
  refine ah<|ae ?_
  refine aP rfl (fun hc8=>?_) (fun hc8=>?_)
  ·have h8 : 16 < v.depth := by have := of_decide_eq_true hc8; omega
   refine af<|ai<|s1 ((aa rfl).v (v':= .i .i64 2) rfl) rfl ?_
   refine ah<|ae<|aF<|aH ?_
   refine aG (rs:= [.tmp 2]) rfl (aD rfl aC) ?_
   exact congrArg (A.i .i64) (zS h5 h8).symm
  ·have h8 : ¬ 16 < v.depth := by have := of_decide_eq_false hc8; omega
   refine aK<|ae<|af<|ai<|s1 ((aa rfl).v (v':= .i .i64 0) rfl) rfl ?_
   refine ah<|ae<|aF ?_
   refine aG (rs:= [.tmp 2]) rfl (aD rfl aC) ?_
   exact congrArg (A.i .i64) (vI h5 h8).symm
theorem LB (n:Int) (h0: -9223372036854775808≤n) (h1:n≤9223372036854775807):aB Tryz.prog 179 [.i .i64 n] (aU (aY (a6 (eV n)))):=by
 refine enter Tryz.func179 rfl Tryz.ntmps179 (by kernel_rfl) (Nat.le_of_ble_eq_true rfl) fun w0 X0 hI=>?_
 refine af<|ai<|s1 ((aa rfl).v (v':= .i .u64 0) rfl) rfl ?_
 refine ah<|ae<|af<|af<|ai<|s1 (aa rfl) rfl<|s1 (aa rfl) rfl ?_
 refine ah<|ae ?_
 refine aP rfl (fun hc4=>?_) (fun hc4=>?_)
 ·have h4 : 0 ≤ n := by have := of_decide_eq_true hc4; omega
  refine af<|ai<|s1 (aa rfl) rfl<|s1 ((cU Tryz.underlying3 Tryz.underlying198 rfl).v (v':=aY (BitVec.ofInt 64 (n))) (congrArg (A.i .u64) (yf _))) rfl<|s1 ((qA (a6 2) _ rfl rfl).v (v':=aY (a6 (eV n))) (congrArg aY (MA h4 h1))) rfl<|s1 (aa rfl) rfl ?_
  refine ah<|ae<|aF<|aH ?_
  refine aG (rs:= [.tmp 2]) rfl (aD rfl (aC)) rfl
 ·have h4 : ¬ 0 ≤ n := by have := of_decide_eq_false hc4; omega
  refine aK<|ae<|af<|ai<|s1 (aa rfl) rfl<|s1 (mU rfl rfl (by omega) (by omega)) rfl<|s1 ((Nh rfl).v (v':= .i .i64 (-(n+1))) (congrArg (A.i .i64) (Jz h0 h4))) rfl<|s1 ((cU Tryz.underlying3 Tryz.underlying198 rfl).v (v':=aY (BitVec.ofInt 64 (-(n+1)))) (congrArg (A.i .u64) (yf _))) rfl<|s1 (qA (a6 2) _ rfl rfl) rfl<|s1 ((u7 _ (a6 1) rfl rfl).v (v':=aY (a6 (eV n))) (congrArg aY (Mz h0 h4))) rfl<|s1 (aa rfl) rfl ?_
  refine ah<|ae<|aF ?_
  refine aG (rs:= [.tmp 2]) rfl (aD rfl (aC)) rfl
theorem Dj (u:BitVec 64) (ih:128≤u.toNat→aB Tryz.prog 178 [aY (u / a6 128)] (dh 1 (bB (u.toNat / 128)).length ((bB (u.toNat / 128)).map u8))):aB Tryz.prog 178 [aY u] (dh 1 (bB u.toNat).length ((bB u.toNat).map u8)):=by
 refine enter Tryz.func178 rfl Tryz.ntmps178 (by kernel_rfl) (Nat.le_of_ble_eq_true rfl) fun w0 X0 hI=>?_
 refine af<|ai<|s1 (aa rfl) rfl ?_
 refine ah<|ae<|af<|af<|ai<|s1 (aa rfl) rfl<|s1 ((aa rfl).v (v':= .b (decide (u.toNat<128))) (congrArg A.b (decide_eq_decide.2 (by omega)))) rfl ?_
 refine ah<|ae ?_
 refine aP rfl (fun hc4=>?_) (fun hc4=>?_)
 ·have h4 : u.toNat < 128 := of_decide_eq_true hc4
  refine af<|ai<|s1 (aa rfl) rfl<|s1 (ie _ Tryz.underlying198 Tryz.underlying5 rfl) rfl ?_
  refine ak rfl (dZ 7 rfl Tryz.underlying68 aQ rfl rfl rfl rfl rfl ?_)
  refine s1 (aa rfl) rfl ?_
  refine ah<|ae<|aF<|aH ?_
  rw [qF h4]
  refine aG (rs:= [.tmp 2]) rfl (aD rfl aC) ⟨7,rfl,rfl⟩
 ·have h4 : ¬ u.toNat < 128 := of_decide_eq_false hc4
  have hnl:=qv (u:=u.toNat / 128) (by omega)
  refine aK<|ae<|af<|ai<|s1 (aa rfl) rfl<|s1 (KS _ (a6 128) rfl rfl (by decide)) rfl<|s1 (u7 _ (a6 128) rfl rfl) rfl<|s1 ((ie _ Tryz.underlying198 Tryz.underlying5 rfl).v (v':=u8 (UInt8.ofNat (u.toNat % 128+128))) (congrArg u8 (JK u))) rfl ?_
  refine ak rfl (dZ 12 rfl Tryz.underlying68 aQ rfl rfl rfl rfl rfl ?_)
  refine s1 (aa rfl) rfl<|s1 (KI _ (a6 128) rfl rfl (by decide)) rfl ?_
  refine ak rfl (iK 15 rfl false rfl (.cons (.pure pu) (.nil)) (ih (by omega)) ar (.inl rfl) rfl ?_)
  refine ak rfl (cY 16 rfl Tryz.underlying68 aQ rfl (.sl rfl rfl) rfl (cO rfl (by first|rfl|omega|(simp<;>omega)|(simp [*]<;>omega))) (by simp) (by simp only [maxLen];omega) (by omega) rfl (show [u8 (UInt8.ofNat (u.toNat % 128+128))]++(bB (u.toNat / 128)).map u8=(bB u.toNat).map u8 by rw [qE h4];rfl) rfl ?_)
  refine s1 (aa rfl) rfl ?_
  refine ah<|ae<|aF ?_
  have hlb:1+(bB (u.toNat / 128)).length=(bB u.toNat).length:=by rw [qE h4,List.length_cons,Nat.add_comm]
  refine aG (rs:= [.tmp 2]) rfl (aD rfl aC) ⟨16,?_,rfl⟩
  rw [←hlb];rfl
theorem K6 (u:BitVec 64):aB Tryz.prog 178 [aY u] (dh 1 (bB u.toNat).length ((bB u.toNat).map u8)):=by
  have key:∀(q:Nat) (u:BitVec 64),u.toNat≤q→aB Tryz.prog 178 [aY u] (dh 1 (bB u.toNat).length ((bB u.toNat).map u8)):=by
    intro q
    induction q with
    |zero=>intro u hu;exact Dj u fun h=>absurd h (by omega)
    |succ q ih=>intro u hu;exact Dj u fun h=>by have:=ih (u / a6 128) (by rw [Cv];omega);rw [Cv]at this;exact this
  exact key u.toNat u (Nat.le_refl _)
theorem xJ (R:List UInt8) (u:BitVec 64) (h:bB u.toNat=R):aB Tryz.prog 178 [aY u] (dh 1 R.length (R.map u8)):=by subst h;exact K6 u
end Go.Abs.D2
-- C1F
namespace Go.Abs.D2
open Go Go.Eng Go.Abs Go.Proofs
theorem KY (k n:Int) (s:List UInt8) (l:List CV) (hk:k=1∨k=2∨(k=3∧CV.jy l=true)) (hrg:(CV.mk k n s l).eT=true) (R:List UInt8) (hR:(CV.mk k n s l).enc=R) (hl:R.length≤100000000) (ih:∀v∈l,v.okB=true→v.eT=true→v.enc.length≤100000000→aB Tryz.prog 126 [.ag v.cells] (dh 1 v.enc.length (v.enc.map u8))):aB Tryz.prog 126 [.ag [.i .i64 k,.i .i64 n,.s s,.fz l.length (CV.bI l)]] (dh 1 R.length (R.map u8)):=by
 refine enter Tryz.func126 rfl Tryz.ntmps126 (by kernel_rfl) (Nat.le_of_ble_eq_true rfl) fun w0 X0 hI=>?_
 refine af<|ai ?_
 refine ak rfl (bY 1 rfl rfl rfl ?_)
 refine s1 (aa rfl) rfl ?_
 refine ah<|ae<|af<|af ?_
 rcases hk with hcs|hcs|hcs
 ·subst hcs
  simp only [CV.eT,Bool.and_eq_true,decide_eq_true_eq]at hrg
  have hR1:1::bB (eV n)=R:=by rw [←hR];rfl
  have hR1l:R.length=(bB (eV n)).length+1:=by rw [←hR1];rfl
  have hnl:=qv (nL hrg.1.1 hrg.1.2)
  refine ai<|s1 (aA Tryz.underlying109 rfl an (by decide) rfl rfl) rfl<|s1 (au an rfl rfl rfl) rfl ?_
  refine ah<|ae<|aM<|af<|ai<|s1 (aa rfl) rfl<|s1 ((aa rfl).v (v':= .b true) (rfl)) rfl ?_
  refine ah<|ae ?_
  refine bT rfl ?_
  refine af<|ai ?_
  refine ak rfl (dZ 9 rfl Tryz.underlying68 aQ rfl rfl rfl rfl rfl ?_)
  refine s1 (aA Tryz.underlying109 rfl an (by decide) rfl rfl) rfl<|s1 (au an rfl rfl rfl) rfl ?_
  refine ak rfl (aJ false rfl (.cons (.pure pu) (.nil)) (LB n hrg.1.1 hrg.1.2) pu (.inl rfl) rfl ?_)
  refine ak rfl (iK 13 rfl false rfl (.cons (.pure pu) (.nil)) (xJ (bB (eV n)) _ (by rw [iH (nL hrg.1.1 hrg.1.2)])) ar (.inl rfl) rfl ?_)
  refine ak rfl (cY 14 rfl Tryz.underlying68 aQ rfl (.sl rfl (by simp)) rfl (cO rfl (by first|rfl|omega|(simp<;>omega)|(simp [*]<;>omega))) (by simp) (by simp only [maxLen];omega) (by omega) rfl (show [u8 1]++(bB (eV n)).map u8=R.map u8 by rw [←hR1];rfl) rfl ?_)
  refine s1 (aa rfl) rfl ?_
  refine ah<|ae<|aF<|bc<|aH ?_
  refine aG (rs:= [.tmp 2]) rfl (aD rfl aC) ⟨14,?_,rfl⟩
  rw [hR1l,Nat.add_comm];rfl
 ·subst hcs
  have hR2:2::(bB s.length++s)=R:=by rw [←hR];rfl
  have hR2l:R.length=1+(bB s.length).length+s.length:=by rw [←hR2];simp;omega
  refine ai<|s1 (aA Tryz.underlying109 rfl an (by decide) rfl rfl) rfl<|s1 (au an rfl rfl rfl) rfl ?_
  refine ah<|ae<|aM<|af<|ai<|s1 (aa rfl) rfl<|s1 ((aa rfl).v (v':= .b false) (rfl)) rfl ?_
  refine ah<|ae ?_
  refine cK rfl ?_
  refine af<|ai<|s1 (aa rfl) rfl<|s1 ((aa rfl).v (v':= .b true) (rfl)) rfl ?_
  refine ah<|ae ?_
  refine bT rfl ?_
  refine af ?_
  refine bU ⟨_, [], []⟩ 10 4 bz (le_refl rfl) ?_
  refine sN 17 0 [] bb Tryz.underlying68 aQ rfl rfl rfl rfl rfl rfl<|aj 1 [] [(1,none)] (aA Tryz.underlying109 rfl gI (by decide) rfl rfl) rfl rfl<|aj 2 [1] [(1,none)] (au gI rfl rfl rfl) rfl rfl<|aj 3 [2] [] (uG Tryz.underlying9 rfl rfl) rfl rfl<|aj 4 [3] [] (nu _ Tryz.underlying3 Tryz.underlying198 rfl rfl) rfl rfl<|na 22 false 5 [4] [] bb rfl (.cons (.pure pu) (.nil)) (xJ (bB s.length) _ (by rw [iH (by omega)])) ar (.inl rfl) rfl rfl<|gV 23 6 [0,5] [(17,some 0),(22,some 5)] bb Tryz.underlying68 aQ rfl (.sl rfl (by simp)) rfl (cO rfl (by first|rfl|omega|(simp<;>omega)|(simp [*]<;>omega))) (by simp) (by simp only [maxLen];omega) (by omega) rfl (show [u8 2]++(bB s.length).map u8=(2::bB s.length).map u8 from rfl) rfl rfl<|aj 7 [] [(1,none)] (aA Tryz.underlying109 rfl gI (by decide) rfl rfl) rfl rfl<|aj 8 [7] [(1,none)] (au gI rfl rfl rfl) rfl rfl<|Bg 26 9 [6,8] [(23,some 6)] bb Tryz.underlying68 Tryz.underlying9 aQ rfl rfl (by simp;omega) (by omega) rfl (by simp only [maxLen];omega) (by omega) (show(2::bB s.length).map u8++s.map u8=R.map u8 by rw [←hR2];simp) rfl rfl ?_
  refine bW (by kernel_rfl) ?_
  refine s1 (aa rfl) rfl ?_
  refine ah<|ae<|aF<|bc<|aH ?_
  refine aG (rs:= [.tmp 2]) rfl (aD rfl aC) ⟨26,?_,rfl⟩
  rw [hR2l];rfl
 ·obtain ⟨rfl, hok⟩ := hcs
  simp only [CV.eT,Bool.and_eq_true,decide_eq_true_eq]at hrg
  have hR3:3::(bB l.length++CV.b5 l)=R:=by rw [←hR];rfl
  have hRl:R.length=1+(bB l.length).length+(CV.b5 l).length:=by rw [←hR3];simp;omega
  have hnl:=CV.sY l
  rw [CV.mv]at hok
  have hrl:=hrg.2
  rw [CV.tZ]at hrl
  refine ai<|s1 (aA Tryz.underlying109 rfl an (by decide) rfl rfl) rfl<|s1 (au an rfl rfl rfl) rfl ?_
  refine ah<|ae<|aM<|af<|ai<|s1 (aa rfl) rfl<|s1 ((aa rfl).v (v':= .b false) (rfl)) rfl ?_
  refine ah<|ae ?_
  refine cK rfl ?_
  refine af<|ai<|s1 (aa rfl) rfl<|s1 ((aa rfl).v (v':= .b false) (rfl)) rfl ?_
  refine ah<|ae ?_
  refine cK rfl ?_
  refine aK<|bj<|ae<|af<|ai ?_
  refine ak rfl (dZ 27 rfl Tryz.underlying68 aQ rfl rfl rfl rfl rfl ?_)
  refine s1 (aA Tryz.underlying109 rfl cR (by decide) rfl rfl) rfl<|s1 (au cR rfl rfl rfl) rfl<|s1 (bx Tryz.underlying107 rfl rfl rfl) rfl<|s1 (nu _ Tryz.underlying3 Tryz.underlying198 rfl rfl) rfl ?_
  refine ak rfl (iK 32 rfl false rfl (.cons (.pure pu) (.nil)) (xJ (bB l.length) _ (by rw [iH (by omega)])) ar (.inl rfl) rfl ?_)
  refine ak rfl (cY 33 rfl Tryz.underlying68 aQ rfl (.sl rfl (by simp)) rfl (cO rfl (by first|rfl|omega|(simp<;>omega)|(simp [*]<;>omega))) (by simp) (by simp only [maxLen];omega) (by omega) rfl (show [u8 3]++(bB l.length).map u8=(3::(bB l.length++CV.b5 (l.take 0))).map u8 by simp [CV.b5]) rfl ?_)
  refine s1 (aa rfl) rfl ?_
  refine ah<|ae<|af<|af<|ai<|s1 ((aa rfl).v (v':= .i .i64 0) rfl) rfl ?_
  refine ah<|ae<|aM ?_
  refine bH (ι:=Nat) (fun i=> [(1,.p 1 0),(3,.sl 140 1 0 (1+(bB l.length).length+(CV.b5 (l.take i)).length)),(4,nJ i)]) (fun i=>⟨[(1,some ([.i .i64 3,.i .i64 n,.s s,.fz l.length (CV.bI l)])),(140,some ((3::(bB l.length++CV.b5 (l.take i))).map u8))]⟩) (fun i=>i≤l.length) (fun i=>l.length - i) ?_ ?_
  ·exact bG (0) (Nat.zero_le _) [(1,some 1),(140,some 33)] hI rfl rfl ⟨⟨_,rfl,.p rfl⟩,⟨_,rfl,.sl rfl (by first|rfl|omega|(simp<;>omega)|(simp [*]<;>omega))⟩,⟨_,rfl,.pure pu⟩,trivial⟩ ⟨.inr ⟨_,_,rfl,rfl,.pure ar⟩,.inr ⟨_,_,rfl,rfl,.pure ar⟩,trivial⟩
  rintro i hi
  have hli:=CV.sw l i
  have hli2:=CV.sw l (i+1)
  have hCl:(3::(bB l.length++CV.b5 (l.take i))).length=1+(bB l.length).length+(CV.b5 (l.take i)).length:=by simp;omega
  refine af<|af<|ai<|s1 (aa rfl) rfl<|s1 (aA Tryz.underlying109 rfl cR (by decide) rfl rfl) rfl<|s1 (au cR rfl rfl rfl) rfl<|s1 (bx Tryz.underlying107 rfl rfl rfl) rfl<|s1 (aa rfl) rfl ?_
  refine ah<|ae ?_
  refine aP rfl (fun hc38=>?_) (fun hc38=>?_)
  ·have h38 : i < l.length := by have := of_decide_eq_true hc38; omega
   obtain⟨v,hv⟩:∃v,l[i]? =some v:=⟨_,List.getElem?_eq_getElem h38⟩
   have hvm:=List.mem_of_getElem? hv
   have hvo:=List.all_eq_true.1 hok _ hvm
   have hvr:=List.all_eq_true.1 hrl _ hvm
   have hvl:(CV.b5 (l.take i)).length+v.enc.length=(CV.b5 (l.take (i+1))).length:=by rw [←CV.qc hv,List.length_append]
   refine aK<|ae<|af<|aM<|ai<|s1 (aa rfl) rfl<|s1 (aA Tryz.underlying109 rfl cR (by decide) rfl rfl) rfl<|s1 (au cR rfl rfl rfl) rfl<|s1 (aa rfl) rfl<|s1 (aT i Tryz.underlying107 br rfl rfl rfl (by omega) rfl) rfl<|s1 (cm br rfl rfl (CV.get hv) (CV.len_cells v)) rfl ?_
   refine ak rfl (iK 47 rfl false rfl (.cons (.pure pu) (.nil)) (ih v hvm hvo hvr (by omega)) ar (.inl rfl) rfl ?_)
   refine ak rfl (cY 48 rfl Tryz.underlying68 aQ rfl (.sl rfl (by rw [List.length_map,hCl];omega)) rfl (cO rfl (by first|rfl|omega|(simp<;>omega)|(simp [*]<;>omega))) (by simp) (by simp only [maxLen];omega) (by omega) rfl (show(3::(bB l.length++CV.b5 (l.take i))).map u8++v.enc.map u8=(3::(bB l.length++CV.b5 (l.take (i+1)))).map u8 by rw [←CV.qc hv];simp) rfl ?_)
   refine s1 (aa rfl) rfl ?_
   refine ah<|bj<|ae<|ai<|s1 (aa rfl) rfl<|s1 (bg _ 1 rfl rfl rfl rfl (by omega)) rfl<|s1 (aa rfl) rfl ?_
   refine ah ?_
   exact bu (i+1) (by omega) (by omega) [(1,some 1),(140,some 48)] hI rfl rfl ⟨⟨_,rfl,.p rfl⟩,⟨_,rfl,.sl rfl (by first|rfl|omega|(simp<;>omega)|(simp [*]<;>omega))⟩,⟨_,rfl,.pure pu⟩,trivial⟩ ⟨.inr ⟨_,_,rfl,rfl,.pure ar⟩,.inr ⟨_,_,rfl,rfl,.pure ar⟩,trivial⟩
  ·obtain rfl : i = l.length := by have := of_decide_eq_false hc38; omega
   refine bE<|aO<|aO<|bF<|ae<|af<|ai<|s1 (aa rfl) rfl<|s1 (aa rfl) rfl ?_
   refine ah<|ae<|aF ?_
   refine cV 140 (cs':=R.map u8) rfl (by rw [List.take_length,hR3]) ?_
   refine aG (rs:= [.tmp 2]) rfl (aD rfl aC) ⟨140,?_,rfl⟩
   rw [hRl,List.take_length];rfl
theorem KX (v:CV) (ho:v.okB=true) (hr:v.eT=true) (hl:v.enc.length≤100000000):aB Tryz.prog 126 [.ag v.cells] (dh 1 v.enc.length (v.enc.map u8)):=by
 have key:∀u:CV,u.size≤v.size→u.okB=true→u.eT=true→u.enc.length≤100000000→aB Tryz.prog 126 [.ag u.cells] (dh 1 u.enc.length (u.enc.map u8)):=by
  refine CV.oX _ fun k n s l _ ih=>?_
  intro h1 h2 h3
  exact KY k n s l (qI h1) h2 _ rfl h3 ih
 exact key v (Nat.le_refl _) ho hr hl
theorem KW (v:CV) (hs:v.size≤1000000) (hrg:v.eT=true) (hl:v.enc.length≤100000000):aB Tryz.prog 83 [.ag v.cells] (aU (encA v)):=by
 refine enter Tryz.func83 rfl Tryz.ntmps83 (by kernel_rfl) (Nat.le_of_ble_eq_true rfl) fun w0 X0 hI=>?_
 refine af<|ai ?_
 refine ak rfl (bY 1 rfl rfl rfl ?_)
 refine s1 (aa rfl) rfl<|s1 ((aa rfl).v (v':= .i .i64 0) rfl) rfl ?_
 refine ah<|ae<|af<|ai<|s1 (aZ br rfl rfl (CV.len_cells v)) rfl ?_
 refine ak rfl (aJ false rfl (.cons (.pure pu) (.nil)) (KK v hs) pu (.inl rfl) rfl ?_)
 refine s1 (aa rfl) rfl ?_
 refine ah<|ae<|af<|af<|ai<|s1 (aa rfl) rfl<|s1 (aa rfl) rfl ?_
 refine ah<|ae ?_
 refine aP rfl (fun hc8=>?_) (fun hc8=>?_)
 ·have h9 : fk v ≠ 0 := by simpa using hc8
  refine af<|ai<|s1 (aa rfl) rfl<|s1 (aa rfl) rfl<|s1 (aa rfl) rfl ?_
  refine ah<|ae<|aF<|aH ?_
  refine aG (rs:= [.tmp 2,.tmp 3]) rfl (aD rfl (aD rfl aC)) ?_
  exact(AA h9).symm
 ·have h9 : fk v = 0 := by simpa using hc8
  have hok:=zT h9
  refine aK<|ae<|af<|ai<|s1 (aZ br rfl rfl (CV.len_cells v)) rfl ?_
  refine ak rfl (iK 11 rfl false rfl (.cons (.pure pu) (.nil)) (KX v hok hrg hl) ar (.inl rfl) rfl ?_)
  refine s1 (aa rfl) rfl<|s1 ((aa rfl).v (v':= .i .i64 0) rfl) rfl ?_
  refine ah<|ae<|aF ?_
  refine gz 2 rfl rfl ar (cD (by simp) rfl) ?_
  refine aG (rs:= [.tmp 2,.tmp 3]) rfl (aD rfl (aD rfl aC)) ?_
  exact(ou h9).symm
end Go.Abs.D2
-- E6F
namespace Go.Abs.D2
open Go Go.Eng Go.Abs Go.Proofs
theorem qT (n:Int):aB Tryz.prog 82 [.i .i64 n] (aU (.ag (CV.cells (bM n)))):=by
 refine enter Tryz.func82 rfl Tryz.ntmps82 (by kernel_rfl) (Nat.le_of_ble_eq_true rfl) fun w0 X0 hI=>?_
 refine af<|ai ?_
 refine ak rfl (bt 2 rfl br rfl rfl ?_)
 refine ah<|ae<|af<|ai<|s1 (aa rfl) rfl<|s1 (eu (out:= [_,_,_,_]) [[aW (.int .i64 0)], [aW (.int .i64 0)], [aW (.string ByteArray.empty)], [aW (.slice none 0 0)]] br rfl Tryz.underlying109 (by kernel_rfl) rfl rfl ⟨⟨by(first|rfl|omega|(simp;done)|(simp [*];done)|(simp [aX, *];done)),rfl⟩,⟨⟨by(first|rfl|omega|(simp;done)|(simp [*];done)|(simp [aX, *];done)),rfl⟩,trivial⟩⟩ rfl) rfl ?_
 refine ak rfl (bo br rfl rfl rfl (by first|rfl|omega|(simp<;>omega)|(simp [*]<;>omega)) (by first|rfl|omega|(simp<;>omega)|(simp [*]<;>omega)) ?_)
 refine ah<|ae<|aF ?_
 refine iG 2 rfl rf ?_
 refine aG (rs:= [.cell 2 109]) rfl (ct br rfl rfl rfl rfl aC) ?_
 rfl
theorem KL (e:Ep) (h:e.ok):aB Tryz.prog 34 [.ag e.cells] (aU (.fz (fT e).enc.length ((fT e).enc.map u8))):=by
 refine enter Tryz.func34 rfl Tryz.ntmps34 (by kernel_rfl) (Nat.le_of_ble_eq_true rfl) fun w0 X0 hI=>?_
 refine af<|ai ?_
 refine ak rfl (bY 1 rfl rfl rfl ?_)
 refine s1 (aa rfl) rfl ?_
 refine ah<|ae<|af ?_
 have hfew:=h.gT
 refine ai<|s1 (eu (out:= [_,_,_,_]) [[aW (.int .i64 0)], [aW (.int .i64 0)], [aW (.string ByteArray.empty)], [aW (.slice none 0 0)]] br rfl Tryz.underlying109 (by kernel_rfl) rfl rfl ⟨⟨by(first|rfl|omega|(simp;done)|(simp [*];done)|(simp [aX, *];done)),rfl⟩,trivial⟩ rfl) rfl ?_
 refine ak rfl (bt 3 rfl br rfl rfl ?_)
 refine ak rfl (bo br rfl rfl rfl (by first|rfl|omega|(simp<;>omega)|(simp [*]<;>omega)) (by first|rfl|omega|(simp<;>omega)|(simp [*]<;>omega)) ?_)
 refine ah<|ae<|af<|af<|ai<|s1 ((aa rfl).v (v':= .i .i64 0) rfl) rfl ?_
 refine ah<|ae<|aM ?_
 refine bH (ι:=Nat) (fun i=> [(1,.p 1 0),(3,.p 3 0),(4,nJ i)]) (fun i=>⟨[(1,some (e.cells)),(3,some ([.i .i64 3,.i .i64 0,.s [],.sl 134 4 0 i])),(134,some (CV.bI ((e.ch.take i).map dJ)))]⟩) (fun i=>i≤e.ch.length) (fun i=>e.ch.length - i) ?_ ?_
 ·exact bG (0) (Nat.zero_le _) [(1,some 1),(3,some 3),(134,none)] hI rfl rfl ⟨⟨_,rfl,.p rfl⟩,⟨_,rfl,.p rfl⟩,⟨_,rfl,.pure pu⟩,trivial⟩ ⟨.inr ⟨_,_,rfl,rfl,.pure ar⟩,.inr ⟨_,_,rfl,rfl,.cons (.pure pu) (.cons (.pure pu) (.cons (.pure pu) (.cons (.nl rfl) .nil)))⟩,.inl ⟨rfl,rfl⟩,trivial⟩
 rintro i hi
 refine af<|af<|ai<|s1 (aa rfl) rfl<|s1 (aA Tryz.underlying45 rfl cH (by decide) rfl rfl) rfl<|s1 (au cH rfl rfl rfl) rfl<|s1 (bx Tryz.underlying31 rfl rfl rfl) rfl<|s1 (aa rfl) rfl ?_
 refine ah<|ae ?_
 refine aP rfl (fun hc12=>?_) (fun hc12=>?_)
 ·have h12 : i < e.ch.length := by have := of_decide_eq_true hc12; omega
  obtain⟨c,hc⟩:∃c,e.ch[i]? =some c:=⟨_,List.getElem?_eq_getElem h12⟩
  refine aK<|ae<|af<|aM ?_
  refine bU ⟨_, [], []⟩ 21 4 bz (le_refl rfl) ?_
  refine aj 0 [] [(3,none)] (aA Tryz.underlying109 rfl cR (by decide) rfl rfl) rfl rfl<|aj 1 [0] [(3,none)] (au cR rfl rfl rfl) rfl rfl<|aj 2 [] [(1,none)] (aA Tryz.underlying45 rfl cH (by decide) rfl rfl) rfl rfl<|aj 3 [2] [(1,none)] (au cH rfl rfl rfl) rfl rfl<|aj 4 [] [] (aa rfl) rfl rfl<|aj 5 [3,4] [] (aT i Tryz.underlying31 bp rfl rfl rfl (by omega) rfl) rfl rfl<|aj 6 [5] [] (bd Tryz.underlying55 rfl an (by decide) rfl rfl) rfl rfl<|aj 7 [6] [] (au an rfl rfl (bQ hc (k:=0) rfl (by decide))) rfl rfl<|bV false 8 [7] [] bb rfl (.cons (.pure pu) (.nil)) (qT c.id) pu (.inl rfl) rfl rfl<|aj 9 [] [(1,none)] (aA Tryz.underlying45 rfl cH (by decide) rfl rfl) rfl rfl ?_
  refine aj 10 [9] [(1,none)] (au cH rfl rfl rfl) rfl rfl<|aj 11 [] [] (aa rfl) rfl rfl<|aj 12 [10,11] [] (aT i Tryz.underlying31 bp rfl rfl rfl (by omega) rfl) rfl rfl<|aj 13 [12] [] (bd Tryz.underlying55 rfl an (by decide) rfl rfl) rfl rfl<|aj 14 [13] [] (au an rfl rfl (bQ hc (k:=1) rfl (by decide))) rfl rfl<|bV false 15 [14] [] bb rfl (.cons (.pure pu) (.nil)) (qT c.st) pu (.inl rfl) rfl rfl<|sO 16 [8,15] bb Tryz.underlying107 br rfl rfl rfl (by simp [aX]) (show _=CV.bI [bM c.id,bM c.st]from rfl) ar rfl rfl rfl rfl<|aj 17 [16] [] (YO.v (v':= .ag (CV.cells (dJ c))) (eu (out:= [_,_,_,_]) [[aW (.int .i64 0)], [aW (.int .i64 0)], [aW (.string ByteArray.empty)], [aW (.slice none 0 0)]] br rfl Tryz.underlying109 (by kernel_rfl) rfl rfl ⟨⟨by(first|rfl|omega|(simp;done)|(simp [*];done)|(simp [aX, *];done)),rfl⟩,⟨⟨by(first|rfl|omega|(simp;done)|(simp [*];done)|(simp [aX, *];done)),rfl⟩,trivial⟩⟩ rfl) (rfl)) rfl rfl<|sO 18 [17] bb Tryz.underlying107 br rfl rfl rfl (by simp [aX]) (tI (dJ c)) ar rfl rfl rfl rfl<|gV 34 19 [1,18] [(134,none)] bb Tryz.underlying107 br rfl (.sl rfl (by simp;omega)) rfl rfl (by simp) (by simp only [maxLen];omega) (by omega) rfl rfl rfl rfl ?_
  refine aj 20 [] [(3,none)] (aA Tryz.underlying109 rfl cR (by decide) rfl rfl) rfl rfl<|bW (by kernel_rfl) ?_
  refine ak rfl (bZ cR rfl rfl rfl rfl (by first|rfl|omega|(simp<;>omega)|(simp [*]<;>omega)) rfl ?_)
  refine ah<|bj<|ae<|ai<|s1 (aa rfl) rfl<|s1 (bg _ 1 rfl rfl rfl rfl (by omega)) rfl<|s1 (aa rfl) rfl ?_
  refine ah ?_
  exact bu (i+1) (by omega) (by omega) [(1,some 1),(3,some 3),(134,some 34)] hI rfl rfl ⟨⟨_,rfl,.p rfl⟩,⟨_,rfl,.p rfl⟩,⟨_,rfl,.pure pu⟩,trivial⟩ ⟨.inr ⟨_,_,rfl,rfl,.pure ar⟩,.inr ⟨_,_,rfl,rfl,.cons (.pure pu) (.cons (.pure pu) (.cons (.pure pu) (.cons (.sl rfl (by simp)) .nil)))⟩,.inr ⟨_,_,rfl,rfl,.of (zG hc) (.pure ar)⟩,trivial⟩
 ·obtain rfl : i = e.ch.length := by have := of_decide_eq_false hc12; omega
  refine bE<|aO<|aO<|bF<|ae<|af ?_
  refine cV 134 (cs':=CV.bI (e.ch.map dJ)) rfl (by rw [List.take_length]) ?_
  refine jQ 3 3 rfl rfl rfl rfl ar (uA (by simp)) rfl ?_
  refine fh 1 rfl rfl ar ?_
  refine bU ⟨_, [], []⟩ 25 4 bz (le_refl rfl) ?_
  refine aj 0 [] [] (bd Tryz.underlying45 rfl an (by decide) rfl rfl) rfl rfl<|aj 1 [0] [] (au an rfl rfl rfl) rfl rfl<|bV false 2 [1] [] bb rfl (.cons (.pure pu) (.nil)) (qT e.iss) pu (.inl rfl) rfl rfl<|aj 3 [] [] (bd Tryz.underlying45 rfl an (by decide) rfl rfl) rfl rfl<|aj 4 [3] [] (au an rfl rfl rfl) rfl rfl<|bV false 5 [4] [] bb rfl (.cons (.pure pu) (.nil)) (qT e.no) pu (.inl rfl) rfl rfl<|aj 6 [] [] (bd Tryz.underlying45 rfl an (by decide) rfl rfl) rfl rfl<|aj 7 [6] [] (au an rfl rfl rfl) rfl rfl<|bV false 8 [7] [] bb rfl (.cons (.pure pu) (.nil)) (qT e.day) pu (.inl rfl) rfl rfl ?_
  refine aj 9 [] [(3,none)] ((aZ br rfl rfl rfl).v (v':= .ag (CV.cells (cX (e.ch.map dJ)))) (congrArg (fun n:Nat=>A.ag [.i .i64 3,.i .i64 0,.s [],.fz n (CV.bI (e.ch.map dJ))]) (show e.ch.length=(e.ch.map dJ).length by rw [List.length_map]))) rfl rfl ?_
  refine aj 10 [] [] (bd Tryz.underlying45 rfl aE (by decide) rfl rfl) rfl rfl<|aj 11 [10] [] ((nP (ds:=((e.cells.drop 4).drop (0*1)).take (32*1)) 32 Tryz.underlying23 aQ rfl (by simp [maxLen]) bn bn (Nat.zero_le _) (Nat.le_refl _) (by decide) rfl rfl).v (GB h)) rfl rfl<|aj 12 [11] [] (pz Tryz.underlying68 Tryz.underlying5 Tryz.underlying9 rfl rfl (by rw [h.bO])) rfl rfl<|aj 13 [12] [] (YO.wk (v':= .ag (CV.cells (c9 e.bO))) (eu (out:= [_,_,_,_]) [[aW (.int .i64 0)], [aW (.int .i64 0)], [aW (.string ByteArray.empty)], [aW (.slice none 0 0)]] br rfl Tryz.underlying109 (by kernel_rfl) rfl rfl ⟨⟨by(first|rfl|omega|(simp;done)|(simp [*];done)|(simp [aX, *];done)),rfl⟩,⟨⟨by(first|rfl|omega|(simp;done)|(simp [*];done)|(simp [aX, *];done)),rfl⟩,trivial⟩⟩ rfl) (.ag (.cons (.eq rfl) (.cons (.eq rfl) (.cons (.eq rfl) (.cons .nl .nil)))))) rfl rfl<|aj 14 [] [] (bd Tryz.underlying45 rfl aE (by decide) rfl rfl) rfl rfl<|aj 15 [14] [] ((nP (ds:=((e.cells.drop 36).drop (0*1)).take (32*1)) 32 Tryz.underlying23 aQ rfl (by simp [maxLen]) bn bn (Nat.zero_le _) (Nat.le_refl _) (by decide) rfl rfl).v (GG h)) rfl rfl<|aj 16 [15] [] (pz Tryz.underlying68 Tryz.underlying5 Tryz.underlying9 rfl rfl (by rw [h.prev])) rfl rfl<|aj 17 [16] [] (YO.wk (v':= .ag (CV.cells (c9 e.prev))) (eu (out:= [_,_,_,_]) [[aW (.int .i64 0)], [aW (.int .i64 0)], [aW (.string ByteArray.empty)], [aW (.slice none 0 0)]] br rfl Tryz.underlying109 (by kernel_rfl) rfl rfl ⟨⟨by(first|rfl|omega|(simp;done)|(simp [*];done)|(simp [aX, *];done)),rfl⟩,⟨⟨by(first|rfl|omega|(simp;done)|(simp [*];done)|(simp [aX, *];done)),rfl⟩,trivial⟩⟩ rfl) (.ag (.cons (.eq rfl) (.cons (.eq rfl) (.cons (.eq rfl) (.cons .nl .nil)))))) rfl rfl<|sO 18 [2,5,8,9,13,17] bb Tryz.underlying107 br rfl rfl rfl (by simp [aX]) (show _=CV.bI [bM e.iss,bM e.no,bM e.day,cX (e.ch.map dJ),c9 e.bO,c9 e.prev]from rfl) ar rfl rfl rfl rfl<|aj 19 [18] [] (YO.v (v':= .ag (CV.cells (fT e))) (eu (out:= [_,_,_,_]) [[aW (.int .i64 0)], [aW (.int .i64 0)], [aW (.string ByteArray.empty)], [aW (.slice none 0 0)]] br rfl Tryz.underlying109 (by kernel_rfl) rfl rfl ⟨⟨by(first|rfl|omega|(simp;done)|(simp [*];done)|(simp [aX, *];done)),rfl⟩,⟨⟨by(first|rfl|omega|(simp;done)|(simp [*];done)|(simp [aX, *];done)),rfl⟩,trivial⟩⟩ rfl) (rfl)) rfl rfl ?_
  refine bV false 20 [19] [] bb rfl (.cons (.pure pu) (.nil)) (aB.cast (KW (fT e) (DK h) (Di h) (Nat.le_trans (qd h) (by omega))) (Az e)) pu (.inl rfl) rfl rfl<|aj 21 [20] [] (aa rfl) rfl rfl<|aj 22 [21] [] (aa rfl) rfl rfl<|aj 23 [21] [] (aa rfl) rfl rfl<|aj 24 [22] [] (aa rfl) rfl rfl<|bW (by kernel_rfl) ?_
  refine s1 (aa rfl) rfl ?_
  refine ah<|ae<|af<|ai<|s1 (aa rfl) rfl<|s1 (aa rfl) rfl ?_
  refine ah<|ae<|aF ?_
  refine aG (rs:= [.tmp 2]) rfl (aD rfl aC) ?_
  rfl
end Go.Abs.D2
-- E6Q
namespace Go.Abs.D2
open Go Go.Eng Go.Abs
def jS (σ:Int→Int) (last:Int):List Ch→Bool
  | []=>true
  |c::r=>da σ last c&&jS σ c.id r
theorem F9 {σ ρ:Int→Int} {la:Int} {c:Ch} (h:∀k,la<k→σ k=ρ k):da σ la c=da ρ la c:=by
  unfold da
  by_cases hl:la<c.id
  · rw [h _ hl]
  · rw [decide_eq_false hl];rfl
theorem zC : ∀ {l : List Ch} {σ ρ : Int → Int} {la : Int}, (∀ k, la < k → σ k = ρ k) → cP σ la l = jS ρ la l
  | [],_,_,_,_=>rfl
  | c :: r, σ, ρ, la, h => by
    rw [cP,jS,F9 h]
    cases hb:da ρ la c with
    |false=>rfl
    | true =>
      have hl:la<c.id:=by
        unfold da at hb
        simp only [Bool.and_eq_true,decide_eq_true_eq]at hb
        omega
      rw [zC (l:=r) (σ:=ig σ c.id c.st) (ρ:=ρ) (la:=c.id) fun k hk=>?_]
      unfold ig
      rw [if_neg (by omega)]
      exact h k (by omega)
theorem kH (σ:Int→Int) (la:Int) (l:List Ch):cP σ la l=jS σ la l:=zC fun _ _=>rfl
theorem lC {σ:Int→Int} {last:Int} {l:List Ch} {i:Nat} {c:Ch} (h:l[i]? =some c) (hb:da σ last c=false):jS σ last (l.drop i)=false:=by
  rw [List.drop_eq_getElem_cons (List.getElem?_eq_some_iff.1 h).1,(List.getElem?_eq_some_iff.1 h).2,jS,hb];rfl
theorem zB {σ:Int→Int} {last:Int} {l:List Ch} {i:Nat} {c:Ch} (h:l[i]? =some c) (hb:da σ last c=true):jS σ last (l.drop i)=jS σ c.id (l.drop (i+1)):=by
  rw [List.drop_eq_getElem_cons (List.getElem?_eq_some_iff.1 h).1,(List.getElem?_eq_some_iff.1 h).2,jS,hb];rfl
def fW (l : List Ch) : Nat → Int
  |0=> -1
  | i + 1 => match l[i]? with
    |some c=>c.id
    |none=> -1
theorem qp {l:List Ch} {i:Nat} {c:Ch} (h:l[i]? =some c):fW l (i+1)=c.id:=by rw [fW,h]
theorem IC {l:List Ch} {i:Nat} {p:Ch} (h0:0<i) (h:l[i - 1]? =some p):fW l i=p.id:=by
  obtain⟨j,rfl⟩:∃j,i=j+1:=⟨i - 1,by omega⟩
  exact qp h
def kj (c:Ch):Prop:=0≤c.id∧c.id<1024∧0≤c.st∧c.st≤4
theorem vE {σ:Int→Int} {la:Int} {c:Ch} (hla: -1≤la):da σ la c=true↔kj c∧la<c.id∧c.st≠σ c.id∧σ c.id≠2:=by
  unfold da kj
  simp only [Bool.and_eq_true,decide_eq_true_eq,bne_iff_ne]
  constructor
  · rintro ⟨⟨⟨⟨h1, h2⟩, h3⟩, h4⟩, h5, h6⟩
    exact⟨⟨by omega,h2,h3,h4⟩,h1,h5,h6⟩
  · rintro ⟨⟨h1, h2, h3, h4⟩, h5, h6, h7⟩
    exact⟨⟨⟨⟨h5,h2⟩,h3⟩,h4⟩,h6,h7⟩
theorem lB {σ:Int→Int} {la:Int} {c:Ch} (hla: -1≤la) (h:¬(kj c∧la<c.id∧c.st≠σ c.id∧σ c.id≠2)):da σ la c=false:=by
  cases hb:da σ la c with
  |false=>rfl
  |true=>exact absurd ((vE hla).1 hb) h
theorem ME {σ:Int→Int} {l:List Ch} {i:Nat} {c:Ch} (hc:l[i]? =some c) (hla: -1≤fW l i):
    (c.id<0∧da σ (fW l i) c=false)∨(0≤c.id∧1024≤c.id∧da σ (fW l i) c=false)∨((0≤c.id∧c.id<1024)∧c.st<0∧da σ (fW l i) c=false)∨((0≤c.id∧c.id<1024∧0≤c.st)∧4<c.st∧da σ (fW l i) c=false)
    ∨(kj c∧0<i∧(∃p,l[i - 1]? =some p∧c.id≤p.id)∧da σ (fW l i) c=false)
    ∨(kj c∧i=0∧c.st=σ c.id∧da σ (fW l i) c=false)∨(kj c∧0<i∧(∃p,l[i - 1]? =some p∧p.id<c.id)∧c.st=σ c.id∧da σ (fW l i) c=false)
    ∨(kj c∧i=0∧c.st≠σ c.id∧σ c.id=2∧da σ (fW l i) c=false)∨(kj c∧0<i∧(∃p,l[i - 1]? =some p∧p.id<c.id)∧c.st≠σ c.id∧σ c.id=2∧da σ (fW l i) c=false)
    ∨(kj c∧i=0∧c.st≠σ c.id∧σ c.id≠2∧da σ (fW l i) c=true)∨(kj c∧0<i∧(∃p,l[i - 1]? =some p∧p.id<c.id)∧c.st≠σ c.id∧σ c.id≠2∧da σ (fW l i) c=true):=by
  by_cases h1:c.id<0
  · exact .inl ⟨h1,lB hla fun h=>by have:=h.1.1;omega⟩
  by_cases h2:1024≤c.id
  · exact .inr (.inl ⟨by omega,h2,lB hla fun h=>by have:=h.1.2.1;omega⟩)
  by_cases h3:c.st<0
  · exact .inr (.inr (.inl ⟨by omega,h3,lB hla fun h=>by have:=h.1.2.2.1;omega⟩))
  by_cases h4:4<c.st
  · exact .inr (.inr (.inr (.inl ⟨by omega,h4,lB hla fun h=>by have:=h.1.2.2.2;omega⟩)))
  have hr:kj c:=⟨by omega,by omega,by omega,by omega⟩
  rcases Nat.eq_zero_or_pos i with h0|h0
  · have hl0 : fW l i = -1 := by rw [h0]; rfl
    by_cases h6:c.st=σ c.id
    · exact .inr (.inr (.inr (.inr (.inr (.inl ⟨hr,h0,h6,lB hla fun h=>h.2.2.1 h6⟩)))))
    by_cases h7:σ c.id=2
    · exact .inr (.inr (.inr (.inr (.inr (.inr (.inr (.inl ⟨hr,h0,h6,h7,lB hla fun h=>h.2.2.2 h7⟩)))))))
    · exact .inr (.inr (.inr (.inr (.inr (.inr (.inr (.inr (.inr (.inl ⟨hr,h0,h6,h7,(vE hla).2 ⟨hr,by rw [hl0];have:=hr.1;omega,h6,h7⟩⟩)))))))))
  · obtain ⟨p, hp⟩ : ∃ p, l[i - 1]? = some p := ⟨_, List.getElem?_eq_getElem (by have := (List.getElem?_eq_some_iff.1 hc).1; omega)⟩
    have hlp:=IC h0 hp
    by_cases h5:c.id≤p.id
    · exact .inr (.inr (.inr (.inr (.inl ⟨hr,h0,⟨p,hp,h5⟩,lB hla fun h=>by have:=h.2.1;omega⟩))))
    by_cases h6:c.st=σ c.id
    · exact .inr (.inr (.inr (.inr (.inr (.inr (.inl ⟨hr,h0,⟨p,hp,by omega⟩,h6,lB hla fun h=>h.2.2.1 h6⟩))))))
    by_cases h7:σ c.id=2
    · exact .inr (.inr (.inr (.inr (.inr (.inr (.inr (.inr (.inl ⟨hr,h0,⟨p,hp,by omega⟩,h6,h7,lB hla fun h=>h.2.2.2 h7⟩))))))))
    · exact .inr (.inr (.inr (.inr (.inr (.inr (.inr (.inr (.inr (.inr ⟨hr,h0,⟨p,hp,by omega⟩,h6,h7,(vE hla).2 ⟨hr,by omega,h6,h7⟩⟩)))))))))
def gA (τ:Int→Int) (m:Nat):List Ch:=(((List.range m).map fun k:Nat=>(k:Int)).filter fun n=>τ n !=0).map fun k=>⟨k,τ k⟩
theorem zA {τ:Int→Int} {m:Nat} (h:τ (m:Int)≠0):gA τ (m+1)=gA τ m++ [⟨(m:Int),τ m⟩]:=by
  unfold gA
  rw [List.range_succ,List.map_append,List.filter_append,List.map_append]
  simp [h]
theorem zy {τ:Int→Int} {m:Nat} (h:τ (m:Int)=0):gA τ (m+1)=gA τ m:=by
  unfold gA
  rw [List.range_succ,List.map_append,List.filter_append,List.map_append]
  simp [h]
theorem Ga (τ:Int→Int) (m:Nat):(gA τ m).length≤m:=by
  unfold gA
  rw [List.length_map]
  exact Nat.le_trans (List.length_filter_le ..) (by simp)
def ql (l:List Ep):A:=match cC l with
  |none=> .tu [.nl,.b false]
  |some σ=> .tu [cz (dq σ),.b true]
theorem fB {l:List Ep} (h:cC l=none):ql l= .tu [.nl,.b false]:=by unfold ql;rw [h]
theorem A7 {l:List Ep} {σ:Int→Int} (h:cC l=some σ):ql l= .tu [cz (dq σ),.b true]:=by unfold ql;rw [h]
def jm (l : List Ep) : Nat → Int
  |0=> -1
  | i + 1 => match l[i]? with
    |some e=>e.day
    |none=> -1
def lN (l:List Ep):Nat→List UInt8
  |0=>zD
  |i+1=>l8 l i
theorem p9 {l:List Ep} {i:Nat} {e:Ep} (h:l[i]? =some e):jm l (i+1)=e.day:=by rw [jm,h]
theorem G7 {l:List Ep} {i:Nat} {p:Ep} (h0:0<i) (h:l[i - 1]? =some p):jm l i=p.day:=by
  obtain⟨j,rfl⟩:∃j,i=j+1:=⟨i - 1,by omega⟩
  exact p9 h
theorem KH {l:List Ep} {i:Nat} {p:Ep} (h0:0<i) (h:l[i - 1]? =some p):lN l i=cM p:=by
  obtain⟨j,rfl⟩:∃j,i=j+1:=⟨i - 1,by omega⟩
  exact vY h
def iR (e:Ep) (iss:Int) (i:Nat):Prop:=0≤e.iss∧e.iss<8∧e.iss=iss∧e.no=(i:Int)∧0≤e.day∧e.day<1024
theorem AG {iss:Int} {i:Nat} {day:Int} {prev:List UInt8} {e:Ep} (hd: -1≤day):cF iss i day prev e=true↔iR e iss i∧day<e.day∧e.prev=prev∧e.sg.a=(i:Int):=by
  unfold cF iR
  simp only [Bool.and_eq_true,decide_eq_true_eq,beq_iff_eq]
  constructor
  · rintro ⟨⟨⟨⟨h1, h2⟩, h3⟩, ⟨h4, h5⟩, h6⟩, h7, h8⟩
    exact⟨⟨h2,h3,h1,h4,by omega,h8⟩,h7,h6,h5⟩
  · rintro ⟨⟨h2, h3, h1, h4, _, h8⟩, h7, h6, h5⟩
    exact⟨⟨⟨⟨h1,h2⟩,h3⟩,⟨h4,h5⟩,h6⟩,h7,h8⟩
theorem lG {iss:Int} {i:Nat} {day:Int} {prev:List UInt8} {e:Ep} (hd: -1≤day) (h:¬(iR e iss i∧day<e.day∧e.prev=prev∧e.sg.a=(i:Int))):cF iss i day prev e=false:=by
  cases hb:cF iss i day prev e with
  |false=>rfl
  |true=>exact absurd ((AG hd).1 hb) h
theorem A8 (e : Ep) (iss : Int) (i : Nat) (day : Int) (prev : List UInt8) (τ : Int → Int) (hd : -1 ≤ day) :
    (e.iss<0∧cF iss i day prev e=false)∨(0≤e.iss∧8≤e.iss∧cF iss i day prev e=false)∨((0≤e.iss∧e.iss<8)∧e.iss≠iss∧cF iss i day prev e=false)∨((0≤e.iss∧e.iss<8∧e.iss=iss)∧e.no≠(i:Int)∧cF iss i day prev e=false)
    ∨((0≤e.iss∧e.iss<8∧e.iss=iss∧e.no=(i:Int))∧e.day<0∧cF iss i day prev e=false)∨((0≤e.iss∧e.iss<8∧e.iss=iss∧e.no=(i:Int)∧0≤e.day)∧1024≤e.day∧cF iss i day prev e=false)
    ∨(iR e iss i∧e.day≤day∧cF iss i day prev e=false)∨(iR e iss i∧day<e.day∧e.prev≠prev∧cF iss i day prev e=false)∨(iR e iss i∧day<e.day∧e.prev=prev∧cP τ (-1) e.ch=false)
    ∨(iR e iss i∧day<e.day∧e.prev=prev∧cP τ (-1) e.ch=true∧e.sg.a≠(i:Int)∧cF iss i day prev e=false)∨(iR e iss i∧day<e.day∧e.prev=prev∧cP τ (-1) e.ch=true∧e.sg.a=(i:Int)∧cF iss i day prev e=true):=by
  by_cases h1:e.iss<0
  · exact .inl ⟨h1,lG hd fun h=>by have:=h.1.1;omega⟩
  by_cases h2:8≤e.iss
  · exact .inr (.inl ⟨by omega,h2,lG hd fun h=>by have:=h.1.2.1;omega⟩)
  by_cases h3:e.iss=iss
  · by_cases h4 : e.no = (i : Int)
    · by_cases h5 : e.day < 0
      · exact .inr (.inr (.inr (.inr (.inl ⟨⟨by omega,by omega,h3,h4⟩,h5,lG hd fun h=>by have:=h.1.2.2.2.2.1;omega⟩))))
      by_cases h6:1024≤e.day
      · exact .inr (.inr (.inr (.inr (.inr (.inl ⟨⟨by omega,by omega,h3,h4,by omega⟩,h6,lG hd fun h=>by have:=h.1.2.2.2.2.2;omega⟩)))))
      have hr:iR e iss i:=⟨by omega,by omega,h3,h4,by omega,by omega⟩
      by_cases h7:e.day≤day
      · exact .inr (.inr (.inr (.inr (.inr (.inr (.inl ⟨hr,h7,lG hd fun h=>by have:=h.2.1;omega⟩))))))
      by_cases h8:e.prev=prev
      · cases h9 : cP τ (-1) e.ch with
        |false=>exact .inr (.inr (.inr (.inr (.inr (.inr (.inr (.inr (.inl ⟨hr,by omega,h8,rfl⟩))))))))
        | true =>
          by_cases h10:e.sg.a=(i:Int)
          · exact .inr (.inr (.inr (.inr (.inr (.inr (.inr (.inr (.inr (.inr ⟨hr,by omega,h8,rfl,h10,(AG hd).2 ⟨hr,by omega,h8,h10⟩⟩)))))))))
          · exact .inr (.inr (.inr (.inr (.inr (.inr (.inr (.inr (.inr (.inl ⟨hr,by omega,h8,rfl,h10,lG hd fun h=>h10 h.2.2.2⟩)))))))))
      · exact .inr (.inr (.inr (.inr (.inr (.inr (.inr (.inl ⟨hr,by omega,h8,lG hd fun h=>h8 h.2.2.1⟩)))))))
    · exact .inr (.inr (.inr (.inl ⟨⟨by omega,by omega,h3⟩,h4,lG hd fun h=>h4 h.1.2.2.2.1⟩)))
  · exact .inr (.inr (.inl ⟨⟨by omega,by omega⟩,h3,lG hd fun h=>h3 h.1.2.2.1⟩))
end Go.Abs.D2
-- E6R
namespace Go.Abs.D2
open Go Go.Eng Go.Abs
theorem HO (e:Ep) (iss:Int) (i:Nat) (day:Int) (prev:List UInt8) (τ:Int→Int) (hd:day= -1):
    (e.iss<0∧cF iss i day prev e=false)∨(0≤e.iss∧8≤e.iss∧cF iss i day prev e=false)∨((0≤e.iss∧e.iss<8)∧e.iss≠iss∧cF iss i day prev e=false)∨((0≤e.iss∧e.iss<8∧e.iss=iss)∧e.no≠(i:Int)∧cF iss i day prev e=false)
    ∨((0≤e.iss∧e.iss<8∧e.iss=iss∧e.no=(i:Int))∧e.day<0∧cF iss i day prev e=false)∨((0≤e.iss∧e.iss<8∧e.iss=iss∧e.no=(i:Int)∧0≤e.day)∧1024≤e.day∧cF iss i day prev e=false)
    ∨(iR e iss i∧day<e.day∧e.prev≠prev∧cF iss i day prev e=false)∨(iR e iss i∧day<e.day∧e.prev=prev∧cP τ (-1) e.ch=false)
    ∨(iR e iss i∧day<e.day∧e.prev=prev∧cP τ (-1) e.ch=true∧e.sg.a≠(i:Int)∧cF iss i day prev e=false)∨(iR e iss i∧day<e.day∧e.prev=prev∧cP τ (-1) e.ch=true∧e.sg.a=(i:Int)∧cF iss i day prev e=true):=by
  rcases A8 e iss i day prev τ (by omega)with h|h|h|h|h|h|h|h|h|h|h
  · exact .inl h
  · exact .inr (.inl h)
  · exact .inr (.inr (.inl h))
  · exact .inr (.inr (.inr (.inl h)))
  · exact .inr (.inr (.inr (.inr (.inl h))))
  · exact .inr (.inr (.inr (.inr (.inr (.inl h)))))
  · have h1 := h.1.2.2.2.2.1
    have h2:=h.2.1
    omega
  · exact .inr (.inr (.inr (.inr (.inr (.inr (.inl h))))))
  · exact .inr (.inr (.inr (.inr (.inr (.inr (.inr (.inl h)))))))
  · exact .inr (.inr (.inr (.inr (.inr (.inr (.inr (.inr (.inl h))))))))
  · exact .inr (.inr (.inr (.inr (.inr (.inr (.inr (.inr (.inr h))))))))
theorem Gb: []=dq σ0:=FF (l:= []) oD
theorem Fz (o:Option Nat):∃(N:Int) (B:Bool),mW o= .tu [.i .i64 N,.b B]:=by
  cases o with
  |none=>exact⟨0,false,rfl⟩
  |some j=>exact⟨j,true,rfl⟩
theorem Mk (l:List Ep) (no:Int):∃(C:List Ch) (v:Int),C.length≤1024∧Wk (xI (jJ l no)) (.tu [cz C,.i .i64 v]):=by
  by_cases h:no< -1∨(l.length:Int)≤no
  · rw [uk h]
    exact⟨[],1,by decide,.tu (.cons .nl (.cons (.eq rfl) .nil))⟩
  · cases hf : cC (l.take (no + 1).toNat) with
    | none =>
      rw [xZ h hf]
      exact⟨[],351,by decide,.tu (.cons .nl (.cons (.eq rfl) .nil))⟩
    | some σ =>
      rw [q8 h hf]
      exact⟨dq σ,0,vF σ,.eq rfl⟩
end Go.Abs.D2
-- E6H
namespace Go.Abs.D2
open Go Go.Eng Go.Abs Go.Proofs
theorem C5 (e:Ep) (h:e.ok):aB Tryz.prog 23 [.ag e.cells] (aU (.ag ((cM e).map u8))):=by
 refine enter Tryz.func23 rfl Tryz.ntmps23 (by kernel_rfl) (Nat.le_of_ble_eq_true rfl) fun w0 X0 hI=>?_
 refine af<|ai ?_
 refine ak rfl (bY 1 rfl rfl rfl ?_)
 refine ak rfl (bt 2 rfl aE rfl rfl ?_)
 refine ah<|ae<|af ?_
 have hel:=qd h
 refine ai<|s1 (aZ bA rfl rfl h.len) rfl ?_
 refine ak rfl (aJ false rfl (.cons (.pure pu) (.nil)) (KL e h) pu (.inl rfl) rfl ?_)
 refine ak rfl (aJ false rfl (.cons (.pure pu) (.cons (.pure pu) (.nil))) (aB.cast (Lp um (fT e).enc (by omega) (by decide)) (congrArg (fun l:List UInt8=>A.ag (l.map u8)) (p7 e).symm)) pu (.inl rfl) rfl ?_)
 refine ak rfl (bo aE rfl rfl rfl (by first|rfl|omega|(simp<;>omega)|(simp [*]<;>omega)) (by first|rfl|omega|(simp<;>omega)|(simp [*]<;>omega)) ?_)
 refine ah<|ae<|aF ?_
 refine aG (rs:= [.cell 2 23]) rfl (ct aE rfl rfl (List.take_of_length_le (by simp)) (by simp) aC) ?_
 rfl
theorem Dl (l:List Ch) (id:Int) (hn:l.length≤maxLen):aB Tryz.prog 101 [cz l,.i .i64 id] (aU (.i .i64 (jH l id))):=by
 refine enter Tryz.func101 rfl Tryz.ntmps101 (by kernel_rfl) (Nat.le_of_ble_eq_true rfl) fun w0 X0 hI=>?_
 refine af<|ai<|s1 ((aa rfl).v (v':= .i .i64 0) rfl) rfl ?_
 refine ah<|ae<|af<|af ?_
 simp only [maxLen]at hn
 refine ai<|s1 ((aa rfl).v (v':= .i .i64 0) rfl) rfl ?_
 refine ah<|ae<|aM ?_
 refine bH (ι:=Nat) (fun i=> [(0,cz l),(1,.i .i64 id),(5,nJ i)]) (fun i=>⟨[]⟩) (fun i=>i≤l.length∧jH l id=jH (l.drop i) id) (fun i=>l.length - i) ?_ ?_
 ·exact bG (0) (⟨Nat.zero_le _,rfl⟩) [] hI rfl rfl ⟨⟨_,rfl,.pure pu⟩,⟨_,rfl,.pure pu⟩,⟨_,rfl,.pure pu⟩,trivial⟩ trivial
 rintro i ⟨hi,hst⟩
 refine af<|af<|ai<|s1 (aa rfl) rfl<|s1 (aa rfl) rfl<|s1 (bx Tryz.underlying31 rfl rfl rfl) rfl<|s1 (aa rfl) rfl ?_
 refine ah<|ae ?_
 refine aP rfl (fun hc9=>?_) (fun hc9=>?_)
 ·have h9 : i < l.length := by have := of_decide_eq_true hc9; omega
  obtain⟨c,hc⟩:∃c,l[i]? =some c:=⟨_,List.getElem?_eq_getElem h9⟩
  refine aK<|ae<|af<|aM<|af<|ai<|s1 (aa rfl) rfl<|s1 (aa rfl) rfl<|s1 (aT i Tryz.underlying31 bp rfl rfl rfl (by omega) rfl) rfl<|s1 (bd Tryz.underlying55 rfl an (by decide) rfl rfl) rfl<|s1 (au an rfl rfl (bQ hc (k:=0) rfl (by decide))) rfl<|s1 (aa rfl) rfl<|s1 (aa rfl) rfl ?_
  refine ah<|ae ?_
  refine aP rfl (fun hc18=>?_) (fun hc18=>?_)
  ·have h18 : c.id = id := by simpa using hc18
   refine af<|ai<|s1 (aa rfl) rfl<|s1 (aa rfl) rfl<|s1 (aT i Tryz.underlying31 bp rfl rfl rfl (by omega) rfl) rfl<|s1 (bd Tryz.underlying55 rfl an (by decide) rfl rfl) rfl<|s1 (au an rfl rfl (bQ hc (k:=1) rfl (by decide))) rfl<|s1 (aa rfl) rfl ?_
   refine ah<|ae<|aF<|bc<|aH<|aH<|bc<|aH ?_
   refine aG (rs:= [.tmp 4]) rfl (aD rfl aC) ?_
   exact congrArg (A.i .i64) (hst.trans (Md hc h18)).symm
  ·have h18 : ¬ c.id = id := by simpa using hc18
   refine aK<|bj<|ae<|ai<|s1 (aa rfl) rfl<|s1 (bg _ 1 rfl rfl rfl rfl (by omega)) rfl<|s1 (aa rfl) rfl ?_
   refine ah ?_
   exact bu (i+1) (⟨by omega,hst.trans (Mc hc h18)⟩) (by omega) [] hI rfl rfl ⟨⟨_,rfl,.pure pu⟩,⟨_,rfl,.pure pu⟩,⟨_,rfl,.pure pu⟩,trivial⟩ trivial
 ·obtain rfl : i = l.length := by have := of_decide_eq_false hc9; omega
  rw [List.drop_length]at hst
  refine bE<|aO<|aO<|bF<|ae<|af<|ai<|s1 ((aa rfl).v (v':= .i .i64 0) rfl) rfl ?_
  refine ah<|ae<|aF ?_
  refine aG (rs:= [.tmp 4]) rfl (aD rfl aC) ?_
  exact congrArg (A.i .i64) hst.symm
theorem pc (σ:Int→Int) (S:List Ch) (hS:S=dq σ) (hs:gi σ) (l:List Ch) (hn:l.length≤maxLen):aB Tryz.prog 56 [cz S,cz l] (aU (.b (cP σ (-1) l))):=by
 refine enter Tryz.func56 rfl Tryz.ntmps56 (by kernel_rfl) (Nat.le_of_ble_eq_true rfl) fun w0 X0 hI=>?_
 refine af<|ai<|s1 (aa rfl) rfl ?_
 refine ah<|ae<|af<|af ?_
 simp only [maxLen]at hn
 have hSl:S.length≤1024:=by rw [hS];exact vF σ
 refine ai<|s1 ((aa rfl).v (v':= .i .i64 0) rfl) rfl ?_
 refine ah<|ae<|aM ?_
 refine bH (ι:=Nat) (fun i=> [(0,cz S),(1,cz l),(5,nJ i)]) (fun i=>⟨[]⟩) (fun i=>i≤l.length∧jS σ (-1) l=jS σ (fW l i) (l.drop i)∧ -1≤fW l i) (fun i=>l.length - i) ?_ ?_
 ·exact bG (0) (⟨Nat.zero_le _,rfl,Int.le_refl _⟩) [] hI rfl rfl ⟨⟨_,rfl,.pure pu⟩,⟨_,rfl,.pure pu⟩,⟨_,rfl,.pure pu⟩,trivial⟩ trivial
 rintro i ⟨hi,hst,hla⟩
 refine af<|af<|ai<|s1 (aa rfl) rfl<|s1 (aa rfl) rfl<|s1 (bx Tryz.underlying31 rfl rfl rfl) rfl<|s1 (aa rfl) rfl ?_
 refine ah<|ae ?_
 refine aP rfl (fun hc10=>?_) (fun hc10=>?_)
 ·have h10 : i < l.length := by have := of_decide_eq_true hc10; omega
  obtain⟨c,hc⟩:∃c,l[i]? =some c:=⟨_,List.getElem?_eq_getElem h10⟩
  refine aK<|ae<|af<|aM<|af<|ai<|s1 (aa rfl) rfl<|s1 (aa rfl) rfl<|s1 (aa rfl) rfl<|s1 (aT i Tryz.underlying31 bp rfl rfl rfl (by omega) rfl) rfl<|s1 (bd Tryz.underlying55 rfl an (by decide) rfl rfl) rfl<|s1 (au an rfl rfl (bQ hc (k:=0) rfl (by decide))) rfl ?_
  refine ak rfl (aJ false rfl (.cons (.pure pu) (.cons (.pure pu) (.nil))) (aB.cast (Dl S c.id (by simp only [maxLen];omega)) (congrArg (A.i .i64) (by rw [hS];exact DW hs _):_=A.i .i64 (σ c.id))) pu (.inl rfl) rfl ?_)
  refine s1 (aa rfl) rfl ?_
  refine ah<|ae<|af ?_
  rcases ME (σ:=σ) hc hla with hcs|hcs|hcs|hcs|hcs|hcs|hcs|hcs|hcs|hcs|hcs
  ·obtain ⟨h1, hb⟩ := hcs
   refine dH 60 bz (by kernel_rfl) ?_
   refine t1 (aa rfl) rfl<|t1 (aa rfl) rfl<|t1 (aT i Tryz.underlying31 bp rfl rfl rfl (by omega) rfl) rfl<|t1 (bd Tryz.underlying55 rfl an (by decide) rfl rfl) rfl<|t1 (au an rfl rfl (bQ hc (k:=0) rfl (by decide))) rfl<|t1 ((aa rfl).v (v':= .b true) (congrArg A.b (decide_eq_true (by omega)))) rfl<|t1 (aa rfl) rfl<|aN rfl rfl rfl rfl<|aN rfl rfl rfl rfl<|aN rfl rfl rfl rfl ?_
   refine aN rfl rfl rfl rfl<|aN rfl rfl rfl rfl<|aN rfl rfl rfl rfl<|t1 (aa rfl) rfl<|t1 (aa rfl) rfl<|aN rfl rfl rfl rfl<|aN rfl rfl rfl rfl<|aN rfl rfl rfl rfl<|aN rfl rfl rfl rfl<|aN rfl rfl rfl rfl ?_
   refine aN rfl rfl rfl rfl<|t1 (aa rfl) rfl<|t1 (aa rfl) rfl<|aN rfl rfl rfl rfl<|aN rfl rfl rfl rfl<|aN rfl rfl rfl rfl<|aN rfl rfl rfl rfl<|aN rfl rfl rfl rfl<|aN rfl rfl rfl rfl<|t1 (aa rfl) rfl ?_
   refine t1 (aa rfl) rfl<|aN rfl rfl rfl rfl<|aN rfl rfl rfl rfl<|aN rfl rfl rfl rfl<|cq rfl rfl rfl<|cq rfl rfl rfl<|cq rfl rfl rfl<|cq rfl rfl rfl<|cq rfl rfl rfl<|cq rfl rfl rfl ?_
   refine cq rfl rfl rfl<|cq rfl rfl rfl<|cq rfl rfl rfl<|cq rfl rfl rfl<|cq rfl rfl rfl<|cq rfl rfl rfl<|aN rfl rfl rfl rfl<|t1 (aa rfl) rfl<|t1 (aa rfl) rfl<|aN rfl rfl rfl rfl ?_
   refine aN rfl rfl rfl rfl<|aN rfl rfl rfl rfl<|aN rfl rfl rfl rfl<|aN rfl rfl rfl rfl<|aN rfl rfl rfl rfl<|aN rfl rfl rfl rfl<|t1 (aa rfl) rfl<|t1 (aa rfl) rfl<|aN rfl rfl rfl rfl<|aN rfl rfl rfl rfl ?_
   refine dI ?_
   refine s1 (aa rfl) rfl ?_
   refine ah<|ae ?_
   refine bT rfl ?_
   refine af<|ai<|s1 (aa rfl) rfl ?_
   refine ah<|ae<|aF<|bc<|aH<|aH<|bc<|aH ?_
   refine aG (rs:= [.tmp 4]) rfl (aD rfl aC) ?_
   exact congrArg A.b (((kH ..).trans hst).trans (lC hc hb)).symm
  ·obtain ⟨h0, h1, hb⟩ := hcs
   refine dH 60 bz (by kernel_rfl) ?_
   refine t1 (aa rfl) rfl<|t1 (aa rfl) rfl<|t1 (aT i Tryz.underlying31 bp rfl rfl rfl (by omega) rfl) rfl<|t1 (bd Tryz.underlying55 rfl an (by decide) rfl rfl) rfl<|t1 (au an rfl rfl (bQ hc (k:=0) rfl (by decide))) rfl<|t1 ((aa rfl).v (v':= .b false) (congrArg A.b (decide_eq_false (by omega)))) rfl<|t1 (aa rfl) rfl<|aw rfl rfl (aa rfl) rfl<|aw rfl rfl (aa rfl) rfl<|aw rfl rfl (aT i Tryz.underlying31 bp rfl rfl rfl (by omega) rfl) rfl ?_
   refine aw rfl rfl (bd Tryz.underlying55 rfl an (by decide) rfl rfl) rfl<|aw rfl rfl (au an rfl rfl (bQ hc (k:=0) rfl (by decide))) rfl<|aw rfl rfl ((aa rfl).v (v':= .b true) (congrArg A.b (decide_eq_true (by omega)))) rfl<|t1 (aa rfl) rfl<|t1 (aa rfl) rfl<|aN rfl rfl rfl rfl<|aN rfl rfl rfl rfl<|aN rfl rfl rfl rfl<|aN rfl rfl rfl rfl<|aN rfl rfl rfl rfl ?_
   refine aN rfl rfl rfl rfl<|t1 (aa rfl) rfl<|t1 (aa rfl) rfl<|aN rfl rfl rfl rfl<|aN rfl rfl rfl rfl<|aN rfl rfl rfl rfl<|aN rfl rfl rfl rfl<|aN rfl rfl rfl rfl<|aN rfl rfl rfl rfl<|t1 (aa rfl) rfl ?_
   refine t1 (aa rfl) rfl<|aN rfl rfl rfl rfl<|aN rfl rfl rfl rfl<|aN rfl rfl rfl rfl<|cq rfl rfl rfl<|cq rfl rfl rfl<|cq rfl rfl rfl<|cq rfl rfl rfl<|cq rfl rfl rfl<|cq rfl rfl rfl ?_
   refine cq rfl rfl rfl<|cq rfl rfl rfl<|cq rfl rfl rfl<|cq rfl rfl rfl<|cq rfl rfl rfl<|cq rfl rfl rfl<|aN rfl rfl rfl rfl<|t1 (aa rfl) rfl<|t1 (aa rfl) rfl<|aN rfl rfl rfl rfl ?_
   refine aN rfl rfl rfl rfl<|aN rfl rfl rfl rfl<|aN rfl rfl rfl rfl<|aN rfl rfl rfl rfl<|aN rfl rfl rfl rfl<|aN rfl rfl rfl rfl<|t1 (aa rfl) rfl<|t1 (aa rfl) rfl<|aN rfl rfl rfl rfl<|aN rfl rfl rfl rfl ?_
   refine dI ?_
   refine s1 (aa rfl) rfl ?_
   refine ah<|ae ?_
   refine bT rfl ?_
   refine af<|ai<|s1 (aa rfl) rfl ?_
   refine ah<|ae<|aF<|bc<|aH<|aH<|bc<|aH ?_
   refine aG (rs:= [.tmp 4]) rfl (aD rfl aC) ?_
   exact congrArg A.b (((kH ..).trans hst).trans (lC hc hb)).symm
  ·obtain ⟨⟨h0, h1⟩, h2, hb⟩ := hcs
   refine dH 60 bz (by kernel_rfl) ?_
   refine t1 (aa rfl) rfl<|t1 (aa rfl) rfl<|t1 (aT i Tryz.underlying31 bp rfl rfl rfl (by omega) rfl) rfl<|t1 (bd Tryz.underlying55 rfl an (by decide) rfl rfl) rfl<|t1 (au an rfl rfl (bQ hc (k:=0) rfl (by decide))) rfl<|t1 ((aa rfl).v (v':= .b false) (congrArg A.b (decide_eq_false (by omega)))) rfl<|t1 (aa rfl) rfl<|aw rfl rfl (aa rfl) rfl<|aw rfl rfl (aa rfl) rfl<|aw rfl rfl (aT i Tryz.underlying31 bp rfl rfl rfl (by omega) rfl) rfl ?_
   refine aw rfl rfl (bd Tryz.underlying55 rfl an (by decide) rfl rfl) rfl<|aw rfl rfl (au an rfl rfl (bQ hc (k:=0) rfl (by decide))) rfl<|aw rfl rfl ((aa rfl).v (v':= .b false) (congrArg A.b (decide_eq_false (by omega)))) rfl<|t1 (aa rfl) rfl<|t1 (aa rfl) rfl<|aw rfl rfl (aa rfl) rfl<|aw rfl rfl (aa rfl) rfl<|aw rfl rfl (aT i Tryz.underlying31 bp rfl rfl rfl (by omega) rfl) rfl<|aw rfl rfl (bd Tryz.underlying55 rfl an (by decide) rfl rfl) rfl<|aw rfl rfl (au an rfl rfl (bQ hc (k:=1) rfl (by decide))) rfl ?_
   refine aw rfl rfl ((aa rfl).v (v':= .b true) (congrArg A.b (decide_eq_true (by omega)))) rfl<|t1 (aa rfl) rfl<|t1 (aa rfl) rfl<|aN rfl rfl rfl rfl<|aN rfl rfl rfl rfl<|aN rfl rfl rfl rfl<|aN rfl rfl rfl rfl<|aN rfl rfl rfl rfl<|aN rfl rfl rfl rfl<|t1 (aa rfl) rfl ?_
   refine t1 (aa rfl) rfl<|aN rfl rfl rfl rfl<|aN rfl rfl rfl rfl<|aN rfl rfl rfl rfl<|cq rfl rfl rfl<|cq rfl rfl rfl<|cq rfl rfl rfl<|cq rfl rfl rfl<|cq rfl rfl rfl<|cq rfl rfl rfl ?_
   refine cq rfl rfl rfl<|cq rfl rfl rfl<|cq rfl rfl rfl<|cq rfl rfl rfl<|cq rfl rfl rfl<|cq rfl rfl rfl<|aN rfl rfl rfl rfl<|t1 (aa rfl) rfl<|t1 (aa rfl) rfl<|aN rfl rfl rfl rfl ?_
   refine aN rfl rfl rfl rfl<|aN rfl rfl rfl rfl<|aN rfl rfl rfl rfl<|aN rfl rfl rfl rfl<|aN rfl rfl rfl rfl<|aN rfl rfl rfl rfl<|t1 (aa rfl) rfl<|t1 (aa rfl) rfl<|aN rfl rfl rfl rfl<|aN rfl rfl rfl rfl ?_
   refine dI ?_
   refine s1 (aa rfl) rfl ?_
   refine ah<|ae ?_
   refine bT rfl ?_
   refine af<|ai<|s1 (aa rfl) rfl ?_
   refine ah<|ae<|aF<|bc<|aH<|aH<|bc<|aH ?_
   refine aG (rs:= [.tmp 4]) rfl (aD rfl aC) ?_
   exact congrArg A.b (((kH ..).trans hst).trans (lC hc hb)).symm
  ·obtain ⟨⟨h0, h1, h2⟩, h3, hb⟩ := hcs
   refine dH 60 bz (by kernel_rfl) ?_
   refine t1 (aa rfl) rfl<|t1 (aa rfl) rfl<|t1 (aT i Tryz.underlying31 bp rfl rfl rfl (by omega) rfl) rfl<|t1 (bd Tryz.underlying55 rfl an (by decide) rfl rfl) rfl<|t1 (au an rfl rfl (bQ hc (k:=0) rfl (by decide))) rfl<|t1 ((aa rfl).v (v':= .b false) (congrArg A.b (decide_eq_false (by omega)))) rfl<|t1 (aa rfl) rfl<|aw rfl rfl (aa rfl) rfl<|aw rfl rfl (aa rfl) rfl<|aw rfl rfl (aT i Tryz.underlying31 bp rfl rfl rfl (by omega) rfl) rfl ?_
   refine aw rfl rfl (bd Tryz.underlying55 rfl an (by decide) rfl rfl) rfl<|aw rfl rfl (au an rfl rfl (bQ hc (k:=0) rfl (by decide))) rfl<|aw rfl rfl ((aa rfl).v (v':= .b false) (congrArg A.b (decide_eq_false (by omega)))) rfl<|t1 (aa rfl) rfl<|t1 (aa rfl) rfl<|aw rfl rfl (aa rfl) rfl<|aw rfl rfl (aa rfl) rfl<|aw rfl rfl (aT i Tryz.underlying31 bp rfl rfl rfl (by omega) rfl) rfl<|aw rfl rfl (bd Tryz.underlying55 rfl an (by decide) rfl rfl) rfl<|aw rfl rfl (au an rfl rfl (bQ hc (k:=1) rfl (by decide))) rfl ?_
   refine aw rfl rfl ((aa rfl).v (v':= .b false) (congrArg A.b (decide_eq_false (by omega)))) rfl<|t1 (aa rfl) rfl<|t1 (aa rfl) rfl<|aw rfl rfl (aa rfl) rfl<|aw rfl rfl (aa rfl) rfl<|aw rfl rfl (aT i Tryz.underlying31 bp rfl rfl rfl (by omega) rfl) rfl<|aw rfl rfl (bd Tryz.underlying55 rfl an (by decide) rfl rfl) rfl<|aw rfl rfl (au an rfl rfl (bQ hc (k:=1) rfl (by decide))) rfl<|aw rfl rfl ((aa rfl).v (v':= .b true) (congrArg A.b (decide_eq_true (by omega)))) rfl<|t1 (aa rfl) rfl ?_
   refine t1 (aa rfl) rfl<|aN rfl rfl rfl rfl<|aN rfl rfl rfl rfl<|aN rfl rfl rfl rfl<|cq rfl rfl rfl<|cq rfl rfl rfl<|cq rfl rfl rfl<|cq rfl rfl rfl<|cq rfl rfl rfl<|cq rfl rfl rfl ?_
   refine cq rfl rfl rfl<|cq rfl rfl rfl<|cq rfl rfl rfl<|cq rfl rfl rfl<|cq rfl rfl rfl<|cq rfl rfl rfl<|aN rfl rfl rfl rfl<|t1 (aa rfl) rfl<|t1 (aa rfl) rfl<|aN rfl rfl rfl rfl ?_
   refine aN rfl rfl rfl rfl<|aN rfl rfl rfl rfl<|aN rfl rfl rfl rfl<|aN rfl rfl rfl rfl<|aN rfl rfl rfl rfl<|aN rfl rfl rfl rfl<|t1 (aa rfl) rfl<|t1 (aa rfl) rfl<|aN rfl rfl rfl rfl<|aN rfl rfl rfl rfl ?_
   refine dI ?_
   refine s1 (aa rfl) rfl ?_
   refine ah<|ae ?_
   refine bT rfl ?_
   refine af<|ai<|s1 (aa rfl) rfl ?_
   refine ah<|ae<|aF<|bc<|aH<|aH<|bc<|aH ?_
   refine aG (rs:= [.tmp 4]) rfl (aD rfl aC) ?_
   exact congrArg A.b (((kH ..).trans hst).trans (lC hc hb)).symm
  ·obtain ⟨⟨r1, r2, r3, r4⟩, h0, ⟨p, hp, h5⟩, hb⟩ := hcs
   refine dH 60 bz (by kernel_rfl) ?_
   refine t1 (aa rfl) rfl<|t1 (aa rfl) rfl<|t1 (aT i Tryz.underlying31 bp rfl rfl rfl (by omega) rfl) rfl<|t1 (bd Tryz.underlying55 rfl an (by decide) rfl rfl) rfl<|t1 (au an rfl rfl (bQ hc (k:=0) rfl (by decide))) rfl<|t1 ((aa rfl).v (v':= .b false) (congrArg A.b (decide_eq_false (by omega)))) rfl<|t1 (aa rfl) rfl<|aw rfl rfl (aa rfl) rfl<|aw rfl rfl (aa rfl) rfl<|aw rfl rfl (aT i Tryz.underlying31 bp rfl rfl rfl (by omega) rfl) rfl ?_
   refine aw rfl rfl (bd Tryz.underlying55 rfl an (by decide) rfl rfl) rfl<|aw rfl rfl (au an rfl rfl (bQ hc (k:=0) rfl (by decide))) rfl<|aw rfl rfl ((aa rfl).v (v':= .b false) (congrArg A.b (decide_eq_false (by omega)))) rfl<|t1 (aa rfl) rfl<|t1 (aa rfl) rfl<|aw rfl rfl (aa rfl) rfl<|aw rfl rfl (aa rfl) rfl<|aw rfl rfl (aT i Tryz.underlying31 bp rfl rfl rfl (by omega) rfl) rfl<|aw rfl rfl (bd Tryz.underlying55 rfl an (by decide) rfl rfl) rfl<|aw rfl rfl (au an rfl rfl (bQ hc (k:=1) rfl (by decide))) rfl ?_
   refine aw rfl rfl ((aa rfl).v (v':= .b false) (congrArg A.b (decide_eq_false (by omega)))) rfl<|t1 (aa rfl) rfl<|t1 (aa rfl) rfl<|aw rfl rfl (aa rfl) rfl<|aw rfl rfl (aa rfl) rfl<|aw rfl rfl (aT i Tryz.underlying31 bp rfl rfl rfl (by omega) rfl) rfl<|aw rfl rfl (bd Tryz.underlying55 rfl an (by decide) rfl rfl) rfl<|aw rfl rfl (au an rfl rfl (bQ hc (k:=1) rfl (by decide))) rfl<|aw rfl rfl ((aa rfl).v (v':= .b false) (congrArg A.b (decide_eq_false (by omega)))) rfl<|t1 (aa rfl) rfl ?_
   refine t1 (aa rfl) rfl<|aw rfl rfl (aa rfl) rfl<|aw rfl rfl ((aa rfl).v (v':= .b true) (congrArg A.b (decide_eq_true (by omega)))) rfl<|aw rfl rfl (aa rfl) rfl<|aw rfl rfl (aa rfl) rfl<|aw rfl rfl (aa rfl) rfl<|aw rfl rfl ((gu rfl rfl (by omega) (by omega)).v (v':=nJ (i - 1)) (congrArg (A.i .i64) (by omega))) rfl<|aw rfl rfl (aT (i - 1) Tryz.underlying31 bp rfl rfl rfl (by omega) rfl) rfl<|aw rfl rfl (bd Tryz.underlying55 rfl an (by decide) rfl rfl) rfl<|aw rfl rfl (au an rfl rfl (bQ hp (k:=0) rfl (by decide))) rfl ?_
   refine aw rfl rfl (aa rfl) rfl<|aw rfl rfl (aa rfl) rfl<|aw rfl rfl (aT i Tryz.underlying31 bp rfl rfl rfl (by omega) rfl) rfl<|aw rfl rfl (bd Tryz.underlying55 rfl an (by decide) rfl rfl) rfl<|aw rfl rfl (au an rfl rfl (bQ hc (k:=0) rfl (by decide))) rfl<|aw rfl rfl ((aa rfl).v (v':= .b true) (congrArg A.b (decide_eq_true (by omega)))) rfl<|aw rfl rfl (aa rfl) rfl<|t1 (aa rfl) rfl<|t1 (aa rfl) rfl<|aN rfl rfl rfl rfl ?_
   refine aN rfl rfl rfl rfl<|aN rfl rfl rfl rfl<|aN rfl rfl rfl rfl<|aN rfl rfl rfl rfl<|aN rfl rfl rfl rfl<|aN rfl rfl rfl rfl<|t1 (aa rfl) rfl<|t1 (aa rfl) rfl<|aN rfl rfl rfl rfl<|aN rfl rfl rfl rfl ?_
   refine dI ?_
   refine s1 (aa rfl) rfl ?_
   refine ah<|ae ?_
   refine bT rfl ?_
   refine af<|ai<|s1 (aa rfl) rfl ?_
   refine ah<|ae<|aF<|bc<|aH<|aH<|bc<|aH ?_
   refine aG (rs:= [.tmp 4]) rfl (aD rfl aC) ?_
   exact congrArg A.b (((kH ..).trans hst).trans (lC hc hb)).symm
  ·obtain ⟨⟨r1, r2, r3, r4⟩, h0, h6, hb⟩ := hcs
   refine dH 60 bz (by kernel_rfl) ?_
   refine t1 (aa rfl) rfl<|t1 (aa rfl) rfl<|t1 (aT i Tryz.underlying31 bp rfl rfl rfl (by omega) rfl) rfl<|t1 (bd Tryz.underlying55 rfl an (by decide) rfl rfl) rfl<|t1 (au an rfl rfl (bQ hc (k:=0) rfl (by decide))) rfl<|t1 ((aa rfl).v (v':= .b false) (congrArg A.b (decide_eq_false (by omega)))) rfl<|t1 (aa rfl) rfl<|aw rfl rfl (aa rfl) rfl<|aw rfl rfl (aa rfl) rfl<|aw rfl rfl (aT i Tryz.underlying31 bp rfl rfl rfl (by omega) rfl) rfl ?_
   refine aw rfl rfl (bd Tryz.underlying55 rfl an (by decide) rfl rfl) rfl<|aw rfl rfl (au an rfl rfl (bQ hc (k:=0) rfl (by decide))) rfl<|aw rfl rfl ((aa rfl).v (v':= .b false) (congrArg A.b (decide_eq_false (by omega)))) rfl<|t1 (aa rfl) rfl<|t1 (aa rfl) rfl<|aw rfl rfl (aa rfl) rfl<|aw rfl rfl (aa rfl) rfl<|aw rfl rfl (aT i Tryz.underlying31 bp rfl rfl rfl (by omega) rfl) rfl<|aw rfl rfl (bd Tryz.underlying55 rfl an (by decide) rfl rfl) rfl<|aw rfl rfl (au an rfl rfl (bQ hc (k:=1) rfl (by decide))) rfl ?_
   refine aw rfl rfl ((aa rfl).v (v':= .b false) (congrArg A.b (decide_eq_false (by omega)))) rfl<|t1 (aa rfl) rfl<|t1 (aa rfl) rfl<|aw rfl rfl (aa rfl) rfl<|aw rfl rfl (aa rfl) rfl<|aw rfl rfl (aT i Tryz.underlying31 bp rfl rfl rfl (by omega) rfl) rfl<|aw rfl rfl (bd Tryz.underlying55 rfl an (by decide) rfl rfl) rfl<|aw rfl rfl (au an rfl rfl (bQ hc (k:=1) rfl (by decide))) rfl<|aw rfl rfl ((aa rfl).v (v':= .b false) (congrArg A.b (decide_eq_false (by omega)))) rfl<|t1 (aa rfl) rfl ?_
   refine t1 (aa rfl) rfl<|aw rfl rfl (aa rfl) rfl<|aw rfl rfl ((aa rfl).v (v':= .b false) (congrArg A.b (decide_eq_false (by omega)))) rfl<|aw rfl rfl (aa rfl) rfl<|aN rfl rfl rfl rfl<|aN rfl rfl rfl rfl<|aN rfl rfl rfl rfl<|aN rfl rfl rfl rfl<|aN rfl rfl rfl rfl<|aN rfl rfl rfl rfl ?_
   refine aN rfl rfl rfl rfl<|aN rfl rfl rfl rfl<|aN rfl rfl rfl rfl<|aN rfl rfl rfl rfl<|aN rfl rfl rfl rfl<|aN rfl rfl rfl rfl<|aw rfl rfl (aa rfl) rfl<|t1 (aa rfl) rfl<|t1 (aa rfl) rfl<|aw rfl rfl (aa rfl) rfl ?_
   refine aw rfl rfl (aa rfl) rfl<|aw rfl rfl (aT i Tryz.underlying31 bp rfl rfl rfl (by omega) rfl) rfl<|aw rfl rfl (bd Tryz.underlying55 rfl an (by decide) rfl rfl) rfl<|aw rfl rfl (au an rfl rfl (bQ hc (k:=1) rfl (by decide))) rfl<|aw rfl rfl (aa rfl) rfl<|aw rfl rfl ((aa rfl).v (v':= .b true) (congrArg A.b (beq_iff_eq.2 (by omega)))) rfl<|t1 (aa rfl) rfl<|t1 (aa rfl) rfl<|aN rfl rfl rfl rfl<|aN rfl rfl rfl rfl ?_
   refine dI ?_
   refine s1 (aa rfl) rfl ?_
   refine ah<|ae ?_
   refine bT rfl ?_
   refine af<|ai<|s1 (aa rfl) rfl ?_
   refine ah<|ae<|aF<|bc<|aH<|aH<|bc<|aH ?_
   refine aG (rs:= [.tmp 4]) rfl (aD rfl aC) ?_
   exact congrArg A.b (((kH ..).trans hst).trans (lC hc hb)).symm
  ·obtain ⟨⟨r1, r2, r3, r4⟩, h0, ⟨p, hp, h5⟩, h6, hb⟩ := hcs
   refine dH 60 bz (by kernel_rfl) ?_
   refine t1 (aa rfl) rfl<|t1 (aa rfl) rfl<|t1 (aT i Tryz.underlying31 bp rfl rfl rfl (by omega) rfl) rfl<|t1 (bd Tryz.underlying55 rfl an (by decide) rfl rfl) rfl<|t1 (au an rfl rfl (bQ hc (k:=0) rfl (by decide))) rfl<|t1 ((aa rfl).v (v':= .b false) (congrArg A.b (decide_eq_false (by omega)))) rfl<|t1 (aa rfl) rfl<|aw rfl rfl (aa rfl) rfl<|aw rfl rfl (aa rfl) rfl<|aw rfl rfl (aT i Tryz.underlying31 bp rfl rfl rfl (by omega) rfl) rfl ?_
   refine aw rfl rfl (bd Tryz.underlying55 rfl an (by decide) rfl rfl) rfl<|aw rfl rfl (au an rfl rfl (bQ hc (k:=0) rfl (by decide))) rfl<|aw rfl rfl ((aa rfl).v (v':= .b false) (congrArg A.b (decide_eq_false (by omega)))) rfl<|t1 (aa rfl) rfl<|t1 (aa rfl) rfl<|aw rfl rfl (aa rfl) rfl<|aw rfl rfl (aa rfl) rfl<|aw rfl rfl (aT i Tryz.underlying31 bp rfl rfl rfl (by omega) rfl) rfl<|aw rfl rfl (bd Tryz.underlying55 rfl an (by decide) rfl rfl) rfl<|aw rfl rfl (au an rfl rfl (bQ hc (k:=1) rfl (by decide))) rfl ?_
   refine aw rfl rfl ((aa rfl).v (v':= .b false) (congrArg A.b (decide_eq_false (by omega)))) rfl<|t1 (aa rfl) rfl<|t1 (aa rfl) rfl<|aw rfl rfl (aa rfl) rfl<|aw rfl rfl (aa rfl) rfl<|aw rfl rfl (aT i Tryz.underlying31 bp rfl rfl rfl (by omega) rfl) rfl<|aw rfl rfl (bd Tryz.underlying55 rfl an (by decide) rfl rfl) rfl<|aw rfl rfl (au an rfl rfl (bQ hc (k:=1) rfl (by decide))) rfl<|aw rfl rfl ((aa rfl).v (v':= .b false) (congrArg A.b (decide_eq_false (by omega)))) rfl<|t1 (aa rfl) rfl ?_
   refine t1 (aa rfl) rfl<|aw rfl rfl (aa rfl) rfl<|aw rfl rfl ((aa rfl).v (v':= .b true) (congrArg A.b (decide_eq_true (by omega)))) rfl<|aw rfl rfl (aa rfl) rfl<|aw rfl rfl (aa rfl) rfl<|aw rfl rfl (aa rfl) rfl<|aw rfl rfl ((gu rfl rfl (by omega) (by omega)).v (v':=nJ (i - 1)) (congrArg (A.i .i64) (by omega))) rfl<|aw rfl rfl (aT (i - 1) Tryz.underlying31 bp rfl rfl rfl (by omega) rfl) rfl<|aw rfl rfl (bd Tryz.underlying55 rfl an (by decide) rfl rfl) rfl<|aw rfl rfl (au an rfl rfl (bQ hp (k:=0) rfl (by decide))) rfl ?_
   refine aw rfl rfl (aa rfl) rfl<|aw rfl rfl (aa rfl) rfl<|aw rfl rfl (aT i Tryz.underlying31 bp rfl rfl rfl (by omega) rfl) rfl<|aw rfl rfl (bd Tryz.underlying55 rfl an (by decide) rfl rfl) rfl<|aw rfl rfl (au an rfl rfl (bQ hc (k:=0) rfl (by decide))) rfl<|aw rfl rfl ((aa rfl).v (v':= .b false) (congrArg A.b (decide_eq_false (by omega)))) rfl<|aw rfl rfl (aa rfl) rfl<|t1 (aa rfl) rfl<|t1 (aa rfl) rfl<|aw rfl rfl (aa rfl) rfl ?_
   refine aw rfl rfl (aa rfl) rfl<|aw rfl rfl (aT i Tryz.underlying31 bp rfl rfl rfl (by omega) rfl) rfl<|aw rfl rfl (bd Tryz.underlying55 rfl an (by decide) rfl rfl) rfl<|aw rfl rfl (au an rfl rfl (bQ hc (k:=1) rfl (by decide))) rfl<|aw rfl rfl (aa rfl) rfl<|aw rfl rfl ((aa rfl).v (v':= .b true) (congrArg A.b (beq_iff_eq.2 (by omega)))) rfl<|t1 (aa rfl) rfl<|t1 (aa rfl) rfl<|aN rfl rfl rfl rfl<|aN rfl rfl rfl rfl ?_
   refine dI ?_
   refine s1 (aa rfl) rfl ?_
   refine ah<|ae ?_
   refine bT rfl ?_
   refine af<|ai<|s1 (aa rfl) rfl ?_
   refine ah<|ae<|aF<|bc<|aH<|aH<|bc<|aH ?_
   refine aG (rs:= [.tmp 4]) rfl (aD rfl aC) ?_
   exact congrArg A.b (((kH ..).trans hst).trans (lC hc hb)).symm
  ·obtain ⟨⟨r1, r2, r3, r4⟩, h0, h6, h7, hb⟩ := hcs
   refine dH 60 bz (by kernel_rfl) ?_
   refine t1 (aa rfl) rfl<|t1 (aa rfl) rfl<|t1 (aT i Tryz.underlying31 bp rfl rfl rfl (by omega) rfl) rfl<|t1 (bd Tryz.underlying55 rfl an (by decide) rfl rfl) rfl<|t1 (au an rfl rfl (bQ hc (k:=0) rfl (by decide))) rfl<|t1 ((aa rfl).v (v':= .b false) (congrArg A.b (decide_eq_false (by omega)))) rfl<|t1 (aa rfl) rfl<|aw rfl rfl (aa rfl) rfl<|aw rfl rfl (aa rfl) rfl<|aw rfl rfl (aT i Tryz.underlying31 bp rfl rfl rfl (by omega) rfl) rfl ?_
   refine aw rfl rfl (bd Tryz.underlying55 rfl an (by decide) rfl rfl) rfl<|aw rfl rfl (au an rfl rfl (bQ hc (k:=0) rfl (by decide))) rfl<|aw rfl rfl ((aa rfl).v (v':= .b false) (congrArg A.b (decide_eq_false (by omega)))) rfl<|t1 (aa rfl) rfl<|t1 (aa rfl) rfl<|aw rfl rfl (aa rfl) rfl<|aw rfl rfl (aa rfl) rfl<|aw rfl rfl (aT i Tryz.underlying31 bp rfl rfl rfl (by omega) rfl) rfl<|aw rfl rfl (bd Tryz.underlying55 rfl an (by decide) rfl rfl) rfl<|aw rfl rfl (au an rfl rfl (bQ hc (k:=1) rfl (by decide))) rfl ?_
   refine aw rfl rfl ((aa rfl).v (v':= .b false) (congrArg A.b (decide_eq_false (by omega)))) rfl<|t1 (aa rfl) rfl<|t1 (aa rfl) rfl<|aw rfl rfl (aa rfl) rfl<|aw rfl rfl (aa rfl) rfl<|aw rfl rfl (aT i Tryz.underlying31 bp rfl rfl rfl (by omega) rfl) rfl<|aw rfl rfl (bd Tryz.underlying55 rfl an (by decide) rfl rfl) rfl<|aw rfl rfl (au an rfl rfl (bQ hc (k:=1) rfl (by decide))) rfl<|aw rfl rfl ((aa rfl).v (v':= .b false) (congrArg A.b (decide_eq_false (by omega)))) rfl<|t1 (aa rfl) rfl ?_
   refine t1 (aa rfl) rfl<|aw rfl rfl (aa rfl) rfl<|aw rfl rfl ((aa rfl).v (v':= .b false) (congrArg A.b (decide_eq_false (by omega)))) rfl<|aw rfl rfl (aa rfl) rfl<|aN rfl rfl rfl rfl<|aN rfl rfl rfl rfl<|aN rfl rfl rfl rfl<|aN rfl rfl rfl rfl<|aN rfl rfl rfl rfl<|aN rfl rfl rfl rfl ?_
   refine aN rfl rfl rfl rfl<|aN rfl rfl rfl rfl<|aN rfl rfl rfl rfl<|aN rfl rfl rfl rfl<|aN rfl rfl rfl rfl<|aN rfl rfl rfl rfl<|aw rfl rfl (aa rfl) rfl<|t1 (aa rfl) rfl<|t1 (aa rfl) rfl<|aw rfl rfl (aa rfl) rfl ?_
   refine aw rfl rfl (aa rfl) rfl<|aw rfl rfl (aT i Tryz.underlying31 bp rfl rfl rfl (by omega) rfl) rfl<|aw rfl rfl (bd Tryz.underlying55 rfl an (by decide) rfl rfl) rfl<|aw rfl rfl (au an rfl rfl (bQ hc (k:=1) rfl (by decide))) rfl<|aw rfl rfl (aa rfl) rfl<|aw rfl rfl ((aa rfl).v (v':= .b false) (congrArg A.b (beq_eq_false_iff_ne.2 (by omega)))) rfl<|t1 (aa rfl) rfl<|t1 (aa rfl) rfl<|aw rfl rfl (aa rfl) rfl<|aw rfl rfl ((aa rfl).v (v':= .b true) (congrArg A.b (beq_iff_eq.2 (by omega)))) rfl ?_
   refine dI ?_
   refine s1 (aa rfl) rfl ?_
   refine ah<|ae ?_
   refine bT rfl ?_
   refine af<|ai<|s1 (aa rfl) rfl ?_
   refine ah<|ae<|aF<|bc<|aH<|aH<|bc<|aH ?_
   refine aG (rs:= [.tmp 4]) rfl (aD rfl aC) ?_
   exact congrArg A.b (((kH ..).trans hst).trans (lC hc hb)).symm
  ·obtain ⟨⟨r1, r2, r3, r4⟩, h0, ⟨p, hp, h5⟩, h6, h7, hb⟩ := hcs
   refine dH 60 bz (by kernel_rfl) ?_
   refine t1 (aa rfl) rfl<|t1 (aa rfl) rfl<|t1 (aT i Tryz.underlying31 bp rfl rfl rfl (by omega) rfl) rfl<|t1 (bd Tryz.underlying55 rfl an (by decide) rfl rfl) rfl<|t1 (au an rfl rfl (bQ hc (k:=0) rfl (by decide))) rfl<|t1 ((aa rfl).v (v':= .b false) (congrArg A.b (decide_eq_false (by omega)))) rfl<|t1 (aa rfl) rfl<|aw rfl rfl (aa rfl) rfl<|aw rfl rfl (aa rfl) rfl<|aw rfl rfl (aT i Tryz.underlying31 bp rfl rfl rfl (by omega) rfl) rfl ?_
   refine aw rfl rfl (bd Tryz.underlying55 rfl an (by decide) rfl rfl) rfl<|aw rfl rfl (au an rfl rfl (bQ hc (k:=0) rfl (by decide))) rfl<|aw rfl rfl ((aa rfl).v (v':= .b false) (congrArg A.b (decide_eq_false (by omega)))) rfl<|t1 (aa rfl) rfl<|t1 (aa rfl) rfl<|aw rfl rfl (aa rfl) rfl<|aw rfl rfl (aa rfl) rfl<|aw rfl rfl (aT i Tryz.underlying31 bp rfl rfl rfl (by omega) rfl) rfl<|aw rfl rfl (bd Tryz.underlying55 rfl an (by decide) rfl rfl) rfl<|aw rfl rfl (au an rfl rfl (bQ hc (k:=1) rfl (by decide))) rfl ?_
   refine aw rfl rfl ((aa rfl).v (v':= .b false) (congrArg A.b (decide_eq_false (by omega)))) rfl<|t1 (aa rfl) rfl<|t1 (aa rfl) rfl<|aw rfl rfl (aa rfl) rfl<|aw rfl rfl (aa rfl) rfl<|aw rfl rfl (aT i Tryz.underlying31 bp rfl rfl rfl (by omega) rfl) rfl<|aw rfl rfl (bd Tryz.underlying55 rfl an (by decide) rfl rfl) rfl<|aw rfl rfl (au an rfl rfl (bQ hc (k:=1) rfl (by decide))) rfl<|aw rfl rfl ((aa rfl).v (v':= .b false) (congrArg A.b (decide_eq_false (by omega)))) rfl<|t1 (aa rfl) rfl ?_
   refine t1 (aa rfl) rfl<|aw rfl rfl (aa rfl) rfl<|aw rfl rfl ((aa rfl).v (v':= .b true) (congrArg A.b (decide_eq_true (by omega)))) rfl<|aw rfl rfl (aa rfl) rfl<|aw rfl rfl (aa rfl) rfl<|aw rfl rfl (aa rfl) rfl<|aw rfl rfl ((gu rfl rfl (by omega) (by omega)).v (v':=nJ (i - 1)) (congrArg (A.i .i64) (by omega))) rfl<|aw rfl rfl (aT (i - 1) Tryz.underlying31 bp rfl rfl rfl (by omega) rfl) rfl<|aw rfl rfl (bd Tryz.underlying55 rfl an (by decide) rfl rfl) rfl<|aw rfl rfl (au an rfl rfl (bQ hp (k:=0) rfl (by decide))) rfl ?_
   refine aw rfl rfl (aa rfl) rfl<|aw rfl rfl (aa rfl) rfl<|aw rfl rfl (aT i Tryz.underlying31 bp rfl rfl rfl (by omega) rfl) rfl<|aw rfl rfl (bd Tryz.underlying55 rfl an (by decide) rfl rfl) rfl<|aw rfl rfl (au an rfl rfl (bQ hc (k:=0) rfl (by decide))) rfl<|aw rfl rfl ((aa rfl).v (v':= .b false) (congrArg A.b (decide_eq_false (by omega)))) rfl<|aw rfl rfl (aa rfl) rfl<|t1 (aa rfl) rfl<|t1 (aa rfl) rfl<|aw rfl rfl (aa rfl) rfl ?_
   refine aw rfl rfl (aa rfl) rfl<|aw rfl rfl (aT i Tryz.underlying31 bp rfl rfl rfl (by omega) rfl) rfl<|aw rfl rfl (bd Tryz.underlying55 rfl an (by decide) rfl rfl) rfl<|aw rfl rfl (au an rfl rfl (bQ hc (k:=1) rfl (by decide))) rfl<|aw rfl rfl (aa rfl) rfl<|aw rfl rfl ((aa rfl).v (v':= .b false) (congrArg A.b (beq_eq_false_iff_ne.2 (by omega)))) rfl<|t1 (aa rfl) rfl<|t1 (aa rfl) rfl<|aw rfl rfl (aa rfl) rfl<|aw rfl rfl ((aa rfl).v (v':= .b true) (congrArg A.b (beq_iff_eq.2 (by omega)))) rfl ?_
   refine dI ?_
   refine s1 (aa rfl) rfl ?_
   refine ah<|ae ?_
   refine bT rfl ?_
   refine af<|ai<|s1 (aa rfl) rfl ?_
   refine ah<|ae<|aF<|bc<|aH<|aH<|bc<|aH ?_
   refine aG (rs:= [.tmp 4]) rfl (aD rfl aC) ?_
   exact congrArg A.b (((kH ..).trans hst).trans (lC hc hb)).symm
  ·obtain ⟨⟨r1, r2, r3, r4⟩, h0, h6, h7, hb⟩ := hcs
   refine dH 60 bz (by kernel_rfl) ?_
   refine t1 (aa rfl) rfl<|t1 (aa rfl) rfl<|t1 (aT i Tryz.underlying31 bp rfl rfl rfl (by omega) rfl) rfl<|t1 (bd Tryz.underlying55 rfl an (by decide) rfl rfl) rfl<|t1 (au an rfl rfl (bQ hc (k:=0) rfl (by decide))) rfl<|t1 ((aa rfl).v (v':= .b false) (congrArg A.b (decide_eq_false (by omega)))) rfl<|t1 (aa rfl) rfl<|aw rfl rfl (aa rfl) rfl<|aw rfl rfl (aa rfl) rfl<|aw rfl rfl (aT i Tryz.underlying31 bp rfl rfl rfl (by omega) rfl) rfl ?_
   refine aw rfl rfl (bd Tryz.underlying55 rfl an (by decide) rfl rfl) rfl<|aw rfl rfl (au an rfl rfl (bQ hc (k:=0) rfl (by decide))) rfl<|aw rfl rfl ((aa rfl).v (v':= .b false) (congrArg A.b (decide_eq_false (by omega)))) rfl<|t1 (aa rfl) rfl<|t1 (aa rfl) rfl<|aw rfl rfl (aa rfl) rfl<|aw rfl rfl (aa rfl) rfl<|aw rfl rfl (aT i Tryz.underlying31 bp rfl rfl rfl (by omega) rfl) rfl<|aw rfl rfl (bd Tryz.underlying55 rfl an (by decide) rfl rfl) rfl<|aw rfl rfl (au an rfl rfl (bQ hc (k:=1) rfl (by decide))) rfl ?_
   refine aw rfl rfl ((aa rfl).v (v':= .b false) (congrArg A.b (decide_eq_false (by omega)))) rfl<|t1 (aa rfl) rfl<|t1 (aa rfl) rfl<|aw rfl rfl (aa rfl) rfl<|aw rfl rfl (aa rfl) rfl<|aw rfl rfl (aT i Tryz.underlying31 bp rfl rfl rfl (by omega) rfl) rfl<|aw rfl rfl (bd Tryz.underlying55 rfl an (by decide) rfl rfl) rfl<|aw rfl rfl (au an rfl rfl (bQ hc (k:=1) rfl (by decide))) rfl<|aw rfl rfl ((aa rfl).v (v':= .b false) (congrArg A.b (decide_eq_false (by omega)))) rfl<|t1 (aa rfl) rfl ?_
   refine t1 (aa rfl) rfl<|aw rfl rfl (aa rfl) rfl<|aw rfl rfl ((aa rfl).v (v':= .b false) (congrArg A.b (decide_eq_false (by omega)))) rfl<|aw rfl rfl (aa rfl) rfl<|aN rfl rfl rfl rfl<|aN rfl rfl rfl rfl<|aN rfl rfl rfl rfl<|aN rfl rfl rfl rfl<|aN rfl rfl rfl rfl<|aN rfl rfl rfl rfl ?_
   refine aN rfl rfl rfl rfl<|aN rfl rfl rfl rfl<|aN rfl rfl rfl rfl<|aN rfl rfl rfl rfl<|aN rfl rfl rfl rfl<|aN rfl rfl rfl rfl<|aw rfl rfl (aa rfl) rfl<|t1 (aa rfl) rfl<|t1 (aa rfl) rfl<|aw rfl rfl (aa rfl) rfl ?_
   refine aw rfl rfl (aa rfl) rfl<|aw rfl rfl (aT i Tryz.underlying31 bp rfl rfl rfl (by omega) rfl) rfl<|aw rfl rfl (bd Tryz.underlying55 rfl an (by decide) rfl rfl) rfl<|aw rfl rfl (au an rfl rfl (bQ hc (k:=1) rfl (by decide))) rfl<|aw rfl rfl (aa rfl) rfl<|aw rfl rfl ((aa rfl).v (v':= .b false) (congrArg A.b (beq_eq_false_iff_ne.2 (by omega)))) rfl<|t1 (aa rfl) rfl<|t1 (aa rfl) rfl<|aw rfl rfl (aa rfl) rfl<|aw rfl rfl ((aa rfl).v (v':= .b false) (congrArg A.b (beq_eq_false_iff_ne.2 (by omega)))) rfl ?_
   refine dI ?_
   refine s1 (aa rfl) rfl ?_
   refine ah<|ae ?_
   refine cK rfl ?_
   refine aK<|bj<|ae<|ai<|s1 (aa rfl) rfl<|s1 (bg _ 1 rfl rfl rfl rfl (by omega)) rfl<|s1 (aa rfl) rfl ?_
   refine ah ?_
   exact bu (i+1) (⟨by omega,hst.trans (by rw [zB hc hb,qp hc]),by rw [qp hc];omega⟩) (by omega) [] hI rfl rfl ⟨⟨_,rfl,.pure pu⟩,⟨_,rfl,.pure pu⟩,⟨_,rfl,.pure pu⟩,trivial⟩ trivial
  ·obtain ⟨⟨r1, r2, r3, r4⟩, h0, ⟨p, hp, h5⟩, h6, h7, hb⟩ := hcs
   refine dH 60 bz (by kernel_rfl) ?_
   refine t1 (aa rfl) rfl<|t1 (aa rfl) rfl<|t1 (aT i Tryz.underlying31 bp rfl rfl rfl (by omega) rfl) rfl<|t1 (bd Tryz.underlying55 rfl an (by decide) rfl rfl) rfl<|t1 (au an rfl rfl (bQ hc (k:=0) rfl (by decide))) rfl<|t1 ((aa rfl).v (v':= .b false) (congrArg A.b (decide_eq_false (by omega)))) rfl<|t1 (aa rfl) rfl<|aw rfl rfl (aa rfl) rfl<|aw rfl rfl (aa rfl) rfl<|aw rfl rfl (aT i Tryz.underlying31 bp rfl rfl rfl (by omega) rfl) rfl ?_
   refine aw rfl rfl (bd Tryz.underlying55 rfl an (by decide) rfl rfl) rfl<|aw rfl rfl (au an rfl rfl (bQ hc (k:=0) rfl (by decide))) rfl<|aw rfl rfl ((aa rfl).v (v':= .b false) (congrArg A.b (decide_eq_false (by omega)))) rfl<|t1 (aa rfl) rfl<|t1 (aa rfl) rfl<|aw rfl rfl (aa rfl) rfl<|aw rfl rfl (aa rfl) rfl<|aw rfl rfl (aT i Tryz.underlying31 bp rfl rfl rfl (by omega) rfl) rfl<|aw rfl rfl (bd Tryz.underlying55 rfl an (by decide) rfl rfl) rfl<|aw rfl rfl (au an rfl rfl (bQ hc (k:=1) rfl (by decide))) rfl ?_
   refine aw rfl rfl ((aa rfl).v (v':= .b false) (congrArg A.b (decide_eq_false (by omega)))) rfl<|t1 (aa rfl) rfl<|t1 (aa rfl) rfl<|aw rfl rfl (aa rfl) rfl<|aw rfl rfl (aa rfl) rfl<|aw rfl rfl (aT i Tryz.underlying31 bp rfl rfl rfl (by omega) rfl) rfl<|aw rfl rfl (bd Tryz.underlying55 rfl an (by decide) rfl rfl) rfl<|aw rfl rfl (au an rfl rfl (bQ hc (k:=1) rfl (by decide))) rfl<|aw rfl rfl ((aa rfl).v (v':= .b false) (congrArg A.b (decide_eq_false (by omega)))) rfl<|t1 (aa rfl) rfl ?_
   refine t1 (aa rfl) rfl<|aw rfl rfl (aa rfl) rfl<|aw rfl rfl ((aa rfl).v (v':= .b true) (congrArg A.b (decide_eq_true (by omega)))) rfl<|aw rfl rfl (aa rfl) rfl<|aw rfl rfl (aa rfl) rfl<|aw rfl rfl (aa rfl) rfl<|aw rfl rfl ((gu rfl rfl (by omega) (by omega)).v (v':=nJ (i - 1)) (congrArg (A.i .i64) (by omega))) rfl<|aw rfl rfl (aT (i - 1) Tryz.underlying31 bp rfl rfl rfl (by omega) rfl) rfl<|aw rfl rfl (bd Tryz.underlying55 rfl an (by decide) rfl rfl) rfl<|aw rfl rfl (au an rfl rfl (bQ hp (k:=0) rfl (by decide))) rfl ?_
   refine aw rfl rfl (aa rfl) rfl<|aw rfl rfl (aa rfl) rfl<|aw rfl rfl (aT i Tryz.underlying31 bp rfl rfl rfl (by omega) rfl) rfl<|aw rfl rfl (bd Tryz.underlying55 rfl an (by decide) rfl rfl) rfl<|aw rfl rfl (au an rfl rfl (bQ hc (k:=0) rfl (by decide))) rfl<|aw rfl rfl ((aa rfl).v (v':= .b false) (congrArg A.b (decide_eq_false (by omega)))) rfl<|aw rfl rfl (aa rfl) rfl<|t1 (aa rfl) rfl<|t1 (aa rfl) rfl<|aw rfl rfl (aa rfl) rfl ?_
   refine aw rfl rfl (aa rfl) rfl<|aw rfl rfl (aT i Tryz.underlying31 bp rfl rfl rfl (by omega) rfl) rfl<|aw rfl rfl (bd Tryz.underlying55 rfl an (by decide) rfl rfl) rfl<|aw rfl rfl (au an rfl rfl (bQ hc (k:=1) rfl (by decide))) rfl<|aw rfl rfl (aa rfl) rfl<|aw rfl rfl ((aa rfl).v (v':= .b false) (congrArg A.b (beq_eq_false_iff_ne.2 (by omega)))) rfl<|t1 (aa rfl) rfl<|t1 (aa rfl) rfl<|aw rfl rfl (aa rfl) rfl<|aw rfl rfl ((aa rfl).v (v':= .b false) (congrArg A.b (beq_eq_false_iff_ne.2 (by omega)))) rfl ?_
   refine dI ?_
   refine s1 (aa rfl) rfl ?_
   refine ah<|ae ?_
   refine cK rfl ?_
   refine aK<|bj<|ae<|ai<|s1 (aa rfl) rfl<|s1 (bg _ 1 rfl rfl rfl rfl (by omega)) rfl<|s1 (aa rfl) rfl ?_
   refine ah ?_
   exact bu (i+1) (⟨by omega,hst.trans (by rw [zB hc hb,qp hc]),by rw [qp hc];omega⟩) (by omega) [] hI rfl rfl ⟨⟨_,rfl,.pure pu⟩,⟨_,rfl,.pure pu⟩,⟨_,rfl,.pure pu⟩,trivial⟩ trivial
 ·obtain rfl : i = l.length := by have := of_decide_eq_false hc10; omega
  rw [List.drop_length]at hst
  refine bE<|aO<|aO<|bF<|ae<|af<|ai<|s1 (aa rfl) rfl ?_
  refine ah<|ae<|aF ?_
  refine aG (rs:= [.tmp 4]) rfl (aD rfl aC) ?_
  exact congrArg A.b ((kH ..).trans hst).symm
theorem C3 (σ:Int→Int) (S:List Ch) (hS:S=dq σ) (hs:gi σ) (l:List Ch) (hn:l.length≤maxLen):aB Tryz.prog 57 [cz S,cz l] (aU (cz (dq (aV σ l)))):=by
 refine enter Tryz.func57 rfl Tryz.ntmps57 (by kernel_rfl) (Nat.le_of_ble_eq_true rfl) fun w0 X0 hI=>?_
 refine af<|ai<|s1 (aa rfl) rfl ?_
 refine ah<|ae<|af ?_
 simp only [maxLen]at hn
 have hSl:S.length≤1024:=by rw [hS];exact vF σ
 obtain⟨τ,hτ⟩:∃τ,τ=aV σ l:=⟨_,rfl⟩
 refine ai ?_
 refine ak rfl (fX 9 rfl Tryz.underlying31 bp rfl rfl rfl (by first|(simp [aX];done)|(simp [aX, *];done)) rfl rfl rfl rfl ?_)
 refine s1 (aa rfl) rfl ?_
 refine ah<|ae<|af<|af<|ai<|s1 ((aa rfl).v (v':= .i .i64 0) rfl) rfl ?_
 refine ah<|ae<|aM ?_
 refine bH (ι:=Nat) (fun m=> [(0,cz S),(1,cz l),(5,.sl 9 2 0 (gA τ m).length),(6,nJ m)]) (fun m=>⟨[(9,some (eD (gA τ m)))]⟩) (fun m=>m≤1024) (fun m=>1024 - m) ?_ ?_
 ·exact bG (0) (Nat.zero_le _) [(9,some 9)] hI rfl rfl ⟨⟨_,rfl,.pure pu⟩,⟨_,rfl,.pure pu⟩,⟨_,rfl,.sl rfl (by first|rfl|omega|(simp<;>omega)|(simp [*]<;>omega))⟩,⟨_,rfl,.pure pu⟩,trivial⟩ ⟨.inr ⟨_,_,rfl,rfl,.of (by rfl) (.pure ar)⟩,trivial⟩
 intro m hm
 have hjl:=Ga τ m
 refine af<|af<|ai<|s1 (aa rfl) rfl<|s1 (aa rfl) rfl ?_
 refine ah<|ae ?_
 refine aP rfl (fun hc11=>?_) (fun hc11=>?_)
 ·have h11 : m < 1024 := by have := of_decide_eq_true hc11; omega
  refine aK<|ae<|af<|aM<|af<|ai<|s1 (aa rfl) rfl<|s1 (aa rfl) rfl ?_
  refine ak rfl (aJ false rfl (.cons (.pure pu) (.cons (.pure pu) (.nil))) (aB.cast (Dl S (m:Nat) (by simp only [maxLen];omega)) (congrArg (A.i .i64) (by rw [hS];exact DW hs _):_=A.i .i64 (σ (m:Nat)))) pu (.inl rfl) rfl ?_)
  refine s1 (aa rfl) rfl ?_
  refine ah<|ae<|af<|af<|ai<|s1 ((aa rfl).v (v':= .i .i64 0) rfl) rfl ?_
  refine ah<|ae<|aM ?_
  refine bH (ι:=Nat×Int) (fun⟨j,w⟩=> [(0,cz S),(1,cz l),(5,.sl 9 2 0 (gA τ m).length),(6,nJ m),(7,.i .i64 w),(8,nJ j)]) (fun⟨j,w⟩=>⟨[(9,some (eD (gA τ m)))]⟩) (fun⟨j,w⟩=>j≤l.length∧w=aV σ (l.take j) (m:Nat)) (fun⟨j,w⟩=>l.length - j) ?_ ?_
  ·exact bG ((0,σ (m:Nat))) (⟨Nat.zero_le _,by simp [aV]⟩) [(9,some 9)] hI rfl rfl ⟨⟨_,rfl,.pure pu⟩,⟨_,rfl,.pure pu⟩,⟨_,rfl,.sl rfl (by first|rfl|omega|(simp<;>omega)|(simp [*]<;>omega))⟩,⟨_,rfl,.pure pu⟩,⟨_,rfl,.pure pu⟩,⟨_,rfl,.pure pu⟩,trivial⟩ ⟨.inr ⟨_,_,rfl,rfl,.pure ar⟩,trivial⟩
  rintro⟨j,w⟩ ⟨hj,hw⟩
  dsimp only
  refine af<|af<|ai<|s1 (aa rfl) rfl<|s1 (aa rfl) rfl<|s1 (bx Tryz.underlying31 rfl rfl rfl) rfl<|s1 (aa rfl) rfl ?_
  refine ah<|ae ?_
  refine aP rfl (fun hc20=>?_) (fun hc20=>?_)
  ·have h20 : j < l.length := by have := of_decide_eq_true hc20; omega
   obtain⟨c,hc⟩:∃c,l[j]? =some c:=⟨_,List.getElem?_eq_getElem h20⟩
   refine aK<|ae<|af<|aM<|af<|ai<|s1 (aa rfl) rfl<|s1 (aa rfl) rfl<|s1 (aT j Tryz.underlying31 bp rfl rfl rfl (by omega) rfl) rfl<|s1 (bd Tryz.underlying55 rfl an (by decide) rfl rfl) rfl<|s1 (au an rfl rfl (bQ hc (k:=0) rfl (by decide))) rfl<|s1 (aa rfl) rfl<|s1 (aa rfl) rfl ?_
   refine ah<|ae ?_
   refine aP rfl (fun hc29=>?_) (fun hc29=>?_)
   ·have h29 : c.id = (m : Nat) := by simpa using hc29
    refine ai<|s1 (aa rfl) rfl<|s1 (aa rfl) rfl<|s1 (aT j Tryz.underlying31 bp rfl rfl rfl (by omega) rfl) rfl<|s1 (bd Tryz.underlying55 rfl an (by decide) rfl rfl) rfl<|s1 (au an rfl rfl (bQ hc (k:=1) rfl (by decide))) rfl<|s1 (aa rfl) rfl ?_
    refine ah<|bj<|ae<|ai<|s1 (aa rfl) rfl<|s1 (bg _ 1 rfl rfl rfl rfl (by omega)) rfl<|s1 (aa rfl) rfl ?_
    refine ah ?_
    exact bu (x:=(j,w)) ((j+1,c.st)) (⟨show j+1≤l.length by omega,by rw [zI σ hc,if_pos h29]⟩) (show l.length - (j+1)<l.length - j by omega) [(9,some 9)] hI rfl rfl ⟨⟨_,rfl,.pure pu⟩,⟨_,rfl,.pure pu⟩,⟨_,rfl,.sl rfl (by first|rfl|omega|(simp<;>omega)|(simp [*]<;>omega))⟩,⟨_,rfl,.pure pu⟩,⟨_,rfl,.pure pu⟩,⟨_,rfl,.pure pu⟩,trivial⟩ ⟨.inr ⟨_,_,rfl,rfl,.pure ar⟩,trivial⟩
   ·have h29 : ¬ c.id = (m : Nat) := by simpa using hc29
    refine aK<|bj<|ae<|ai<|s1 (aa rfl) rfl<|s1 (bg _ 1 rfl rfl rfl rfl (by omega)) rfl<|s1 (aa rfl) rfl ?_
    refine ah ?_
    exact bu (x:=(j,w)) ((j+1,w)) (⟨show j+1≤l.length by omega,by rw [zI σ hc,if_neg h29];exact hw⟩) (show l.length - (j+1)<l.length - j by omega) [(9,some 9)] hI rfl rfl ⟨⟨_,rfl,.pure pu⟩,⟨_,rfl,.pure pu⟩,⟨_,rfl,.sl rfl (by first|rfl|omega|(simp<;>omega)|(simp [*]<;>omega))⟩,⟨_,rfl,.pure pu⟩,⟨_,rfl,.pure pu⟩,⟨_,rfl,.pure pu⟩,trivial⟩ ⟨.inr ⟨_,_,rfl,rfl,.pure ar⟩,trivial⟩
  ·obtain rfl : j = l.length := by have := of_decide_eq_false hc20; omega
   rw [List.take_length, ←hτ]at hw
   have hw2:=hw.symm
   refine bE<|aO<|aO<|bF<|ae<|af<|ai<|s1 (aa rfl) rfl<|s1 (aa rfl) rfl ?_
   refine ah<|ae ?_
   refine aP rfl (fun hc36=>?_) (fun hc36=>?_)
   ·have h36 : τ (m : Nat) ≠ 0 := by rw [hw2]; simpa using hc36
    have hjs:(gA τ (m+1)).length=(gA τ m).length+1:=by rw [zA h36];simp
    refine ai<|s1 (aa rfl) rfl<|s1 (aa rfl) rfl<|s1 (aa rfl) rfl<|s1 (eu (out:= [_,_]) [[aW (.int .i64 0)], [aW (.int .i64 0)]] bp rfl Tryz.underlying55 (by kernel_rfl) rfl rfl ⟨⟨by(first|rfl|omega|(simp;done)|(simp [*];done)|(simp [aX, *];done)),rfl⟩,⟨⟨by(first|rfl|omega|(simp;done)|(simp [*];done)|(simp [aX, *];done)),rfl⟩,trivial⟩⟩ rfl) rfl ?_
    refine ak rfl (fX 41 rfl Tryz.underlying31 bp rfl rfl rfl (by simp [aX]) (show _=Ch.cells ⟨m,w⟩from List.append_nil _) rfl rfl rfl ?_)
    refine ak rfl (cY 42 rfl Tryz.underlying31 bp rfl (.sl rfl (by simp)) rfl (cO rfl (by first|rfl|omega|(simp<;>omega)|(simp [*]<;>omega))) (by simp) (by simp only [maxLen];omega) (by omega) rfl rfl rfl ?_)
    refine s1 (aa rfl) rfl ?_
    refine ah<|bj<|ae<|ai<|s1 (aa rfl) rfl<|s1 (bg _ 1 rfl rfl rfl rfl (by omega)) rfl<|s1 (aa rfl) rfl ?_
    refine ah ?_
    exact bu (m+1) (by omega) (by omega) [(9,some 42)] hI rfl rfl ⟨⟨_,rfl,.pure pu⟩,⟨_,rfl,.pure pu⟩,⟨_,rfl,.sl rfl (by first|rfl|omega|(simp<;>omega)|(simp [*]<;>omega))⟩,⟨_,rfl,.pure pu⟩,trivial⟩ ⟨.inr ⟨_,_,rfl,rfl,.of (by rw [zA h36,hw2];simp [eD]) (.pure ar)⟩,trivial⟩
   ·have h36 : τ (m : Nat) = 0 := by rw [hw2]; simpa using hc36
    have hjs:(gA τ (m+1)).length=(gA τ m).length:=by rw [zy h36]
    refine aK<|bj<|ae<|ai<|s1 (aa rfl) rfl<|s1 (bg _ 1 rfl rfl rfl rfl (by omega)) rfl<|s1 (aa rfl) rfl ?_
    refine ah ?_
    exact bu (m+1) (by omega) (by omega) [(9,some 9)] hI rfl rfl ⟨⟨_,rfl,.pure pu⟩,⟨_,rfl,.pure pu⟩,⟨_,rfl,.sl rfl (by first|rfl|omega|(simp<;>omega)|(simp [*]<;>omega))⟩,⟨_,rfl,.pure pu⟩,trivial⟩ ⟨.inr ⟨_,_,rfl,rfl,.of (by rw [zy h36]) (.pure ar)⟩,trivial⟩
 ·obtain rfl : m = 1024 := by have := of_decide_eq_false hc11; omega
  refine bE<|aO<|aO<|bF<|ae<|af<|ai<|s1 (aa rfl) rfl<|s1 (aa rfl) rfl ?_
  refine ah<|ae<|aF ?_
  refine cV 9 (cs':=eD (dq τ)) rfl rfl ?_
  refine gz 4 rfl rfl ar (cD (by rw [IV];rfl) rfl) ?_
  refine aG (rs:= [.tmp 4]) rfl (aD rfl aC) ?_
  rw [←hτ];rfl
end Go.Abs.D2
-- C5B
namespace Go.Abs.D2
open Go Go.Eng Go.Abs Go.Proofs
theorem Hd (x:List UInt8) (hx:x.length=32):aB Tryz.prog 183 [.ag (x.map u8)] (rB (fun i=> .fn (.func 209) [] [.p i 0]) (x.map u8)):=by
 refine enter Tryz.func183 rfl Tryz.ntmps183 (by kernel_rfl) (Nat.le_of_ble_eq_true rfl) fun w0 X0 hI=>?_
 refine af<|ai ?_
 refine ak rfl (bY 1 rfl rfl rfl ?_)
 refine s1 (aa rfl) rfl ?_
 refine ah<|ae<|af<|ai<|s1 (gx (us:= []) (vs:= [.p 1 0]) rfl rfl) rfl<|s1 (aa rfl) rfl ?_
 refine ah<|ae<|aF ?_
 refine aG (rs:= [.tmp 2]) rfl (aD rfl aC) ⟨1,rfl,rfl⟩
theorem u9 (x:List UInt8) (n:Nat) (hx:x.length=32) (hn:n≤1000):aB Tryz.prog 136 [.ag (x.map u8),.i .i64 (n:Nat)] (aU (.ag ((fC n x).map u8))):=by
 refine ov Tryz.func136 rfl Tryz.ntmps136 (by kernel_rfl) (Nat.le_of_ble_eq_true rfl) fun w0 X0 hI hS=>?_
 refine af<|ai ?_
 refine ak rfl (bY 2 rfl rfl rfl ?_)
 refine ak rfl (kO 3 rfl rfl rfl rfl ?_)
 refine ak rfl (bt 4 rfl aE rfl rfl ?_)
 refine ah<|ae<|af<|af<|ai<|s1 (aZ aE rfl rfl (by first|rfl|omega|(simp<;>omega)|(simp [*]<;>omega))) rfl ?_
 refine ak rfl (Cf (mk:=fun i=> .fn (.func 209) [] [.p i 0]) tH 7 rfl false rfl (.cons (.pure pu) (.nil)) (Hd x hx) ar (.inl rfl) rfl ?_)
 refine ah<|ae<|aM ?_
 refine vl [2,3,4,7] [(0,_),(1,_),(2,_),(3,_),(4,_),(6,_),(7,_)] hI rfl ⟨rfl,⟨rfl,⟨rfl,⟨rfl,⟨rfl,⟨rfl,⟨rfl,trivial⟩⟩⟩⟩⟩⟩⟩ (by first|rfl|(simp [jA,jE,refs,ep,mz,mA,cw];done)) rfl Tryz.func209 rfl Tryz.ntmps209 (by kernel_rfl) (Nat.le_of_ble_eq_true rfl) fun w1 l1 D1 rc1 hR1=>?_
 refine aM ?_
 refine bH (ι:=Nat) (fun k=> [(0,yv l1),(1,.p 7 0)]) (fun k=>⟨[(2,some (x.map u8)),(3,some ([.i .i64 ((n - k:Nat):Int)])),(4,some (List.replicate 32 (u8 0))),(7,some (((fC k x).map u8)))]⟩) (fun k=>k≤n) (fun k=>n - k) ?_ ?_
 ·exact bG (0) (Nat.zero_le _) [(2,some 2),(3,some 3),(4,some 4),(7,some 7)] hR1.sub.ids rfl rfl ⟨⟨_,rfl,.pure trivial⟩,⟨_,rfl,.p rfl⟩,trivial⟩ ⟨.inr ⟨_,_,rfl,rfl,.pure ar⟩,.inr ⟨_,_,rfl,rfl,.pure ar⟩,.inr ⟨_,_,rfl,rfl,.pure ar⟩,.inr ⟨_,_,rfl,rfl,.pure ar⟩,trivial⟩
 rintro k hk
 have hxk:=mm hx k
 refine af<|af<|ai<|s1 (aa rfl) rfl<|s1 (aZ aE rfl rfl (by first|rfl|omega|(simp<;>omega)|(simp [*]<;>omega))) rfl ?_
 refine rV [2,3,4,7] [(0,_),(1,_),(3,_),(4,_)] hR1 hR1.sub.ids rfl ⟨rfl,⟨rfl,⟨rfl,⟨rfl,trivial⟩⟩⟩⟩ (by first|rfl|(simp [jA,jE,refs,ep,mz,mA,cw];done)) rfl rfl rfl rfl rfl fun w2 tm2 hd2=>?_
 refine ai ?_
 refine ak rfl (bt 5 rfl aE rfl rfl ?_)
 refine ak rfl (bo aE rfl rfl rfl (by first|rfl|omega|(simp<;>omega)|(simp [*]<;>omega)) (by first|rfl|omega|(simp<;>omega)|(simp [*]<;>omega)) ?_)
 refine ah ?_
 refine rS hd2 fun w3 hd3=>?_
 refine aM<|af<|af<|ai<|s1 (au an rfl rfl rfl) rfl<|s1 (aa rfl) rfl ?_
 refine ah<|ae ?_
 refine aP rfl (fun hc10=>?_) (fun hc10=>?_)
 ·have h10 : k = n := by have := of_decide_eq_true hc10; omega
  subst h10
  refine af<|ai<|s1 (aZ aE rfl rfl (by first|rfl|omega|(simp<;>omega)|(simp [*]<;>omega))) rfl ?_
  refine ak rfl (bo aE rfl rfl rfl (by first|rfl|omega|(simp<;>omega)|(simp [*]<;>omega)) (by first|rfl|omega|(simp<;>omega)|(simp [*]<;>omega)) ?_)
  refine ah<|ae<|aF<|aH<|bc ?_
  refine Fv hR1 hd3 rfl fun w4 hR4=>?_
  refine ah<|ae ?_
  refine cK rfl ?_
  refine bE<|aO<|aO<|bF ?_
  refine Fo rfl hR4 hS ?_
  refine aF<|bc<|aH ?_
  refine pR (rs:= [.cell 4 23]) rfl rfl rfl hS (dn:= [D1]) rfl rfl (by simp) rfl (ct aE rfl rfl (List.take_of_length_le (by simp [hxk])) (by simp [hxk]) aC) rfl
 ·have h10 : k < n := by have := of_decide_eq_false hc10; omega
  refine aK<|ae<|ai<|s1 (au an rfl rfl rfl) rfl<|s1 (dD (n - k) 1 rfl rfl rfl rfl (by omega) (by omega)) rfl ?_
  refine ak rfl (bZ an rfl rfl rfl rfl (by first|rfl|omega|(simp<;>omega)|(simp [*]<;>omega)) rfl ?_)
  refine ah<|bj ?_
  refine rU hR1 hd3 rfl ?_
  refine ah<|ae ?_
  refine bT rfl ?_
  refine aK<|ae<|aM<|ai<|s1 (gM Tryz.underlying23 aQ rfl rfl (by first|rfl|omega|(simp<;>omega)|(simp [*]<;>omega)) (by simp [maxLen])) rfl ?_
  refine ak rfl (aJ true rfl (.cons (.pure pu) (.cons (.sl rfl rfl (by first|rfl|omega|(simp<;>omega)|(simp [*]<;>omega)) (cD (by first|rfl|omega|(simp<;>omega)|(simp [*]<;>omega)) (by first|rfl|(simp;done)|(simp [*];done))) (a7.pure ar) ar) (.nil))) (ia [115,116,101,112] (fC k x) (by omega) (by simp)) pu (.inr fu) rfl ?_)
  refine ak rfl (bo aE rfl rfl rfl (by first|rfl|omega|(simp<;>omega)|(simp [*]<;>omega)) (by first|rfl|omega|(simp<;>omega)|(simp [*]<;>omega)) ?_)
  refine ah<|bj ?_
  exact bu (k+1) (by omega) (by omega) [(2,some 2),(3,some 3),(4,some 4),(7,some 7)] hR1.sub.ids rfl rfl ⟨⟨_,rfl,.pure trivial⟩,⟨_,rfl,.p rfl⟩,trivial⟩ ⟨.inr ⟨_,_,rfl,rfl,.pure ar⟩,.inr ⟨_,_,rfl,rfl,.of (by rfl) (.pure ar)⟩,.inr ⟨_,_,rfl,rfl,.pure ar⟩,.inr ⟨_,_,rfl,rfl,.of (by rw [fC,DY]) (.pure ar)⟩,trivial⟩
end Go.Abs.D2
-- C5C
namespace Go.Abs.D2
open Go Go.Eng Go.Abs Go.Proofs
theorem DU (m:List UInt8) (hm:m.length=32):aB Tryz.prog 133 [.ag (m.map u8)] (aU (.ag ((digits m).map nI))):=by
 refine enter Tryz.func133 rfl Tryz.ntmps133 (by kernel_rfl) (Nat.le_of_ble_eq_true rfl) fun w0 X0 hI=>?_
 refine af<|ai ?_
 refine ak rfl (bY 1 rfl rfl rfl ?_)
 refine ak rfl (bt 2 rfl uv rfl rfl ?_)
 refine ah<|ae<|af<|ai<|s1 ((aa rfl).v (v':= .i .i64 0) rfl) rfl ?_
 refine ah<|ae<|af<|af<|ai<|s1 ((aa rfl).v (v':= .i .i64 0) rfl) rfl ?_
 refine ah<|ae<|aM ?_
 refine bH (ι:=Nat) (fun k=> [(1,.p 1 0),(2,.p 2 0),(3,nI (gH m k)),(6,nI k)]) (fun k=>⟨[(1,some (m.map u8)),(2,some ((dl m k).map nI++List.replicate (19 - k) (nI 0)))]⟩) (fun k=>k≤16) (fun k=>16 - k) ?_ ?_
 ·exact bG (0) (Nat.zero_le _) [(1,some 1),(2,some 2)] hI rfl rfl ⟨⟨_,rfl,.p rfl⟩,⟨_,rfl,.p rfl⟩,⟨_,rfl,.of (by rw [DZ];rfl) (.pure pu)⟩,⟨_,rfl,.pure pu⟩,trivial⟩ ⟨.inr ⟨_,_,rfl,rfl,.pure ar⟩,.inr ⟨_,_,rfl,rfl,.of (by rw [G4];rfl) (.pure ar)⟩,trivial⟩
 rintro k hk
 have hsk:=x5 m k
 have hdk:=Aj m k
 refine af<|ai<|s1 (aa rfl) rfl ?_
 refine ah<|ae<|af ?_
 refine aP rfl (fun hc7=>?_) (fun hc7=>?_)
 ·have h7 : k < 16 := by have := of_decide_eq_true hc7; omega
  refine aK<|ae<|af<|aM<|af<|ai<|s1 (aa rfl) rfl<|s1 (aa rfl) rfl ?_
  refine ah<|ae<|af<|ai<|s1 (aa rfl) rfl<|s1 (aa rfl) rfl<|s1 (kT k 4 rfl rfl rfl rfl (by decide) (by omega)) rfl<|s1 (bJ (k / 4) Tryz.underlying23 aQ rfl rfl rfl (by omega) rfl) rfl<|s1 (au aQ rfl rfl (Bk (k / 4) (by omega))) rfl<|s1 (aa rfl) rfl<|s1 (kg k 4 rfl rfl rfl rfl (by decide)) rfl<|s1 (iy 2 (k % 4) rfl rfl rfl rfl (by omega)) rfl<|s1 (dD 6 (2*(k % 4)) rfl rfl rfl rfl (by omega) (by omega)) rfl<|s1 (qW _ (6 - 2*(k % 4)) rfl rfl rfl (by omega)) rfl ?_
  refine s1 (cU Tryz.underlying5 Tryz.underlying3 rfl) rfl<|s1 ((kA rfl rfl (.inl rfl)).v (GY m k)) rfl<|s1 (bJ k Tryz.underlying170 an rfl rfl rfl (by omega) rfl) rfl ?_
  refine ak rfl (bZ an rfl rfl rfl rfl (by simp;omega) (LK m k h7) ?_)
  refine ah<|ae<|ai<|s1 (aa rfl) rfl<|s1 (aa rfl) rfl<|s1 (bJ k Tryz.underlying170 an rfl rfl rfl (by omega) rfl) rfl<|s1 (au an rfl rfl (Ib m k rfl)) rfl<|s1 (dD 3 (jl m k) rfl rfl rfl rfl (by omega) (by omega)) rfl<|s1 (bg (gH m k) (3 - jl m k) rfl rfl rfl rfl (by omega)) rfl<|s1 (aa rfl) rfl ?_
  refine ah<|bj<|ae<|ai<|s1 (bg _ 1 rfl rfl rfl rfl (by omega)) rfl<|s1 (aa rfl) rfl ?_
  refine ah ?_
  exact bu (k+1) (by omega) (by omega) [(1,some 1),(2,some 2)] hI rfl rfl ⟨⟨_,rfl,.p rfl⟩,⟨_,rfl,.p rfl⟩,⟨_,rfl,.of (by rw [D3]) (.pure pu)⟩,⟨_,rfl,.pure pu⟩,trivial⟩ ⟨.inr ⟨_,_,rfl,rfl,.pure ar⟩,.inr ⟨_,_,rfl,rfl,.pure ar⟩,trivial⟩
 ·have h7 : k = 16 := by have := of_decide_eq_false hc7; omega
  subst h7
  refine bE<|aO<|aO<|bF<|ae<|af<|af<|ai<|s1 ((aa rfl).v (v':= .i .i64 18) rfl) rfl ?_
  refine ah<|ae<|aM ?_
  refine bH (ι:=Nat) (fun j=> [(1,.p 1 0),(2,.p 2 0),(3,nI (gH m 16 / 4 ^ j)),(5,nI (18 - j))]) (fun j=>⟨[(1,some (m.map u8)),(2,some (mG m j))]⟩) (fun j=>j≤3) (fun j=>3 - j) ?_ ?_
  ·exact bG (0) (Nat.zero_le _) [(1,some 1),(2,some 2)] hI rfl rfl ⟨⟨_,rfl,.p rfl⟩,⟨_,rfl,.p rfl⟩,⟨_,rfl,.of (by simp) (.pure pu)⟩,⟨_,rfl,.pure pu⟩,trivial⟩ ⟨.inr ⟨_,_,rfl,rfl,.pure ar⟩,.inr ⟨_,_,rfl,rfl,.of (Mq m) (.pure ar)⟩,trivial⟩
  rintro j hj
  have hs16:=x5 m 16
  have hsj:gH m 16 / 4 ^ j≤48:=Nat.le_trans (Nat.div_le_self _ _) (by omega)
  refine af<|af<|ai<|s1 (aa rfl) rfl<|s1 (aa rfl) rfl ?_
  refine ah<|ae ?_
  refine aP rfl (fun hc30=>?_) (fun hc30=>?_)
  ·have h30 : j < 3 := by have := of_decide_eq_true hc30; omega
   refine aK<|ae<|af<|aM<|af<|ai<|s1 (aa rfl) rfl<|s1 (aa rfl) rfl<|s1 (kg (gH m 16 / 4 ^ j) 4 rfl rfl rfl rfl (by decide)) rfl<|s1 (bJ (18 - j) Tryz.underlying170 an rfl rfl rfl (by omega) rfl) rfl ?_
   refine ak rfl (bZ an rfl rfl rfl rfl (by simp [xb];omega) rfl ?_)
   refine ah<|ae<|ai<|s1 (aa rfl) rfl<|s1 (kT (gH m 16 / 4 ^ j) 4 rfl rfl rfl rfl (by decide) (by omega)) rfl<|s1 (aa rfl) rfl ?_
   refine ah<|bj<|ae<|ai<|s1 (aa rfl) rfl<|s1 (dD (18 - j) 1 rfl rfl rfl rfl (by omega) (by omega)) rfl<|s1 (aa rfl) rfl ?_
   refine ah ?_
   exact bu (j+1) (by omega) (by omega) [(1,some 1),(2,some 2)] hI rfl rfl ⟨⟨_,rfl,.p rfl⟩,⟨_,rfl,.p rfl⟩,⟨_,rfl,.of (by rw [Nat.div_div_eq_div_mul, ←Nat.pow_succ]) (.pure pu)⟩,⟨_,rfl,.of (congrArg nI (by omega)) (.pure pu)⟩,trivial⟩ ⟨.inr ⟨_,_,rfl,rfl,.pure ar⟩,.inr ⟨_,_,rfl,rfl,.of (LQ m j h30) (.pure ar)⟩,trivial⟩
  ·have h30 : j = 3 := by have := of_decide_eq_false hc30; omega
   subst h30
   refine cV 2 rfl (Mr m) ?_
   refine bE<|aO<|aO<|bF<|ae<|af<|ai<|s1 (aZ uv rfl rfl (by first|rfl|omega|(simp<;>omega)|(simp [*]<;>omega))) rfl ?_
   refine ak rfl (bo uv rfl rfl rfl (by first|rfl|omega|(simp<;>omega)|(simp [*]<;>omega)) (by first|rfl|omega|(simp<;>omega)|(simp [*]<;>omega)) ?_)
   refine ah<|ae<|aF ?_
   refine aG (rs:= [.cell 2 170]) rfl (ct uv rfl rfl (List.take_of_length_le (by simp)) (by simp) aC) rfl
theorem BD (parts:List (List UInt8)) (hk:parts.length≤1048576) (ht:parts.flatten.length≤140737488300000):aB Tryz.prog 184 [.fz parts.length (parts.map dz)] (dh 1 parts.flatten.length (parts.flatten.map u8)):=by
 refine enter Tryz.func184 rfl Tryz.ntmps184 (by kernel_rfl) (Nat.le_of_ble_eq_true rfl) fun w0 X0 hI=>?_
 refine af<|ai<|s1 (aa rfl) rfl ?_
 refine ah<|ae<|af<|af<|ai<|s1 (aa rfl) rfl<|s1 (bx Tryz.underlying182 rfl rfl rfl) rfl<|s1 ((aa rfl).v (v':= .i .i64 0) rfl) rfl ?_
 refine ah<|ae<|aM ?_
 refine bH (ι:=Nat) (fun i=> [(2,.sl 2 1 0 (parts.take i).flatten.length),(5,.fz parts.length (parts.map dz)),(6,nI parts.length),(7,nI i)]) (fun i=>⟨[(2,some ((parts.take i).flatten.map u8))]⟩) (fun i=>i≤parts.length) (fun i=>parts.length - i) ?_ ?_
 ·exact bG (0) (Nat.zero_le _) [(2,none)] hI rfl rfl ⟨⟨_,rfl,.nl rfl⟩,⟨_,rfl,.pure pu⟩,⟨_,rfl,.pure pu⟩,⟨_,rfl,.pure pu⟩,trivial⟩ ⟨.inl ⟨rfl,rfl⟩,trivial⟩
 rintro i hi
 refine af<|ai<|s1 (aa rfl) rfl ?_
 refine ah<|ae<|af ?_
 refine aP rfl (fun hc8=>?_) (fun hc8=>?_)
 ·have hi2 : i < parts.length := by have := of_decide_eq_true hc8; omega
  obtain⟨p,hp⟩:∃p,parts[i]? =some p:=⟨_,List.getElem?_eq_getElem hi2⟩
  have hpl:=I3 hp
  refine aK<|ae<|af<|aM<|af<|ai<|s1 (aT i Tryz.underlying182 ef rfl rfl rfl (by omega) rfl) rfl<|s1 (au ef rfl rfl (Bl hp)) rfl<|s1 (aa rfl) rfl ?_
  refine ah<|ae<|ai<|s1 (aa rfl) rfl<|s1 (aa rfl) rfl ?_
  refine ak rfl (cY 13 rfl Tryz.underlying68 aQ rfl (.sl rfl (by rw [List.length_map,Nat.mul_one])) rfl rfl (by simp) (by simp only [maxLen];omega) (by omega) rfl rfl rfl ?_)
  refine s1 (aa rfl) rfl ?_
  refine ah<|bj<|ae<|ai<|s1 (bg _ 1 rfl rfl rfl rfl (by omega)) rfl<|s1 (aa rfl) rfl ?_
  refine ah ?_
  exact bu (i+1) (by omega) (by omega) [(2,some 13)] hI rfl rfl ⟨⟨_,rfl,.sl rfl (by first|rfl|omega|(simp<;>omega)|(simp [*]<;>omega))⟩,⟨_,rfl,.pure pu⟩,⟨_,rfl,.pure pu⟩,⟨_,rfl,.pure pu⟩,trivial⟩ ⟨.inr ⟨_,_,rfl,rfl,.of (by rw [←List.map_append,x8 hp]) (.pure ar)⟩,trivial⟩
 ·have hi2 : i = parts.length := by have := of_decide_eq_false hc8; omega
  subst hi2
  refine bE<|aO<|aO<|bF<|ae<|af<|ai<|s1 (aa rfl) rfl<|s1 (aa rfl) rfl ?_
  refine ah<|ae<|aF ?_
  refine aG (rs:= [.tmp 2]) rfl (aD rfl aC) ⟨2,?_,?_⟩
  ·rw [List.take_length];rfl
  ·rw [List.take_length];rfl
theorem Mn (x:List UInt8) (i:Nat) (hx:x.length=32):aB Tryz.prog 50 [.s [99,104,97,105,110],.fz 33 (x.map u8++ [u8 (UInt8.ofNat i)])] (aU (.ag ((ix x i).map u8))):=by
  rw [A3];simpa [hx]using ia [99,104,97,105,110] (x++ [UInt8.ofNat i]) (by simp [hx]) (by simp)
theorem zc (x:List UInt8) (i:Nat) (hx:x.length=32):aB Tryz.prog 137 [.ag (x.map u8),nI i] (aU (.ag ((ix x i).map u8))):=by
 refine enter Tryz.func137 rfl Tryz.ntmps137 (by kernel_rfl) (Nat.le_of_ble_eq_true rfl) fun w0 X0 hI=>?_
 refine af<|ai ?_
 refine ak rfl (bY 2 rfl rfl rfl ?_)
 refine ak rfl (bt 4 rfl aE rfl rfl ?_)
 refine ah<|ae<|af<|ai<|s1 (gM Tryz.underlying23 aQ rfl rfl (by first|rfl|omega|(simp<;>omega)|(simp [*]<;>omega)) (by simp [maxLen])) rfl<|s1 (aa rfl) rfl<|s1 (CC i Tryz.underlying3 Tryz.underlying5 rfl rfl) rfl ?_
 refine ak rfl (dZ 8 rfl Tryz.underlying68 aQ rfl rfl rfl rfl rfl ?_)
 refine ak rfl (dZ 9 rfl Tryz.underlying182 ef rfl rfl rfl rfl rfl ?_)
 refine ak rfl (iK 10 rfl true rfl (.cons (.sl rfl rfl rfl rfl (.cons (.sl rfl rfl (by first|rfl|omega|(simp<;>omega)|(simp [*]<;>omega)) (cD (by simp [hx]) rfl) (a7.pure ar) ar) (.cons (.sl rfl rfl rfl (cD rfl rfl) (a7.pure ar) ar) .nil)) ar) .nil) (by simpa [dz,hx]using BD [x, [UInt8.ofNat i]] (by simp) (by simp [hx])) ar (.inr fI) rfl ?_)
 refine ak rfl (aJ true rfl (.cons (.pure pu) (.cons (.sl rfl rfl (by first|rfl|omega|(simp<;>omega)|(simp [*]<;>omega)) (cD (by first|rfl|omega|(simp<;>omega)|(simp [*]<;>omega)) (by first|rfl|(simp;done)|(simp [*];done))) (a7.pure ar) ar) (.nil))) (Mn x i hx) pu (.inr fu) rfl ?_)
 refine ak rfl (bo aE rfl rfl rfl (by first|rfl|omega|(simp<;>omega)|(simp [*]<;>omega)) (by first|rfl|omega|(simp<;>omega)|(simp [*]<;>omega)) ?_)
 refine ah<|ae<|aF ?_
 refine aG (rs:= [.cell 4 23]) rfl (ct aE rfl rfl (List.take_of_length_le (by simp)) (by simp) aC) rfl
end Go.Abs.D2
-- C5D
namespace Go.Abs.D2
open Go Go.Eng Go.Abs Go.Proofs
theorem Mo (L:List (List UInt8)) (hD:aL L) (hl:L.length=19):aB Tryz.prog 50 [.s [112,117,98,108,105,99],.fz L.flatten.length (L.flatten.map u8)] (aU (.ag ((ml L).map u8))):=by
  rw [BE];exact ia [112,117,98,108,105,99] L.flatten (by rw [hD.len,hl];omega) (by simp)
theorem Is (L:List (List UInt8)) (hD:aL L) (hl:L.length=19):aB Tryz.prog 184 [.fz 19 (L.map dz)] (dh 1 L.flatten.length (L.flatten.map u8)):=by
  have:=BD L (by omega) (by rw [hD.len,hl];omega)
  rwa [hl]at this
theorem CZ (L:List (List UInt8)) (hD:aL L) (hl:L.length=19):aB Tryz.prog 180 [.ag (L.flatten.map u8)] (aU (.ag ((ml L).map u8))):=by
 refine enter Tryz.func180 rfl Tryz.ntmps180 (by kernel_rfl) (Nat.le_of_ble_eq_true rfl) fun w0 X0 hI=>?_
 refine af<|ai ?_
 refine ak rfl (bY 1 rfl rfl rfl ?_)
 refine ak rfl (bt 2 rfl aE rfl rfl ?_)
 refine ah<|ae<|af<|ai ?_
 refine ak rfl (qC 5 rfl 19 19 Tryz.underlying182 ef rfl rfl rfl rfl rfl (by first|omega|(simp only [maxLen];omega)|(simp [maxLen];done)|(simp [maxLen];omega)|(simp [maxLen, *];omega)) (by first|omega|(simp only [maxLen];omega)|(simp [maxLen];done)|(simp [maxLen];omega)|(simp [maxLen, *];omega)) (by first|omega|(simp only [maxLen];omega)|(simp [maxLen];done)|(simp [maxLen];omega)|(simp [maxLen, *];omega)) rfl ?_)
 refine s1 (aa rfl) rfl ?_
 refine ah<|ae<|af<|af ?_
 have hfl:(L.flatten.map u8).length=608:=by rw [List.length_map,hD.len,hl]
 refine ai<|s1 ((aa rfl).v (v':= .i .i64 0) rfl) rfl ?_
 refine ah<|ae<|aM ?_
 refine bH (ι:=Nat) (fun i=> [(1,.p 1 0),(2,.p 2 0),(3,.sl 5 1 0 19),(6,nI i)]) (fun i=>⟨[(1,some (L.flatten.map u8)),(2,some (List.replicate 32 (u8 0))),(5,some (lR i))]⟩) (fun i=>i≤19) (fun i=>19 - i) ?_ ?_
 ·exact bG (0) (Nat.zero_le _) [(1,some 1),(2,some 2),(5,some 5)] hI rfl rfl ⟨⟨_,rfl,.p rfl⟩,⟨_,rfl,.p rfl⟩,⟨_,rfl,.sl rfl (by first|rfl|omega|(simp<;>omega)|(simp [*]<;>omega))⟩,⟨_,rfl,.pure pu⟩,trivial⟩ ⟨.inr ⟨_,_,rfl,rfl,.pure ar⟩,.inr ⟨_,_,rfl,rfl,.pure ar⟩,.inr ⟨_,_,rfl,rfl,.of (by rfl) (.pure (by simp [lR];exact ar))⟩,trivial⟩
 rintro i hi
 refine af<|ai<|s1 (aa rfl) rfl ?_
 refine ah<|ae<|af ?_
 refine aP rfl (fun hc7=>?_) (fun hc7=>?_)
 ·have h7 : i < 19 := by have := of_decide_eq_true hc7; omega
  refine aK<|ae<|af<|aM<|af<|ai<|s1 (aa rfl) rfl<|s1 (aa rfl) rfl ?_
  refine ah<|ae<|ai<|s1 (aa rfl) rfl<|s1 (aa rfl) rfl<|s1 (aa rfl) rfl<|s1 (bJ i Tryz.underlying203 aE rfl rfl rfl (by omega) rfl) rfl<|s1 (rj 32 Tryz.underlying23 aQ rfl rfl (by omega) (by simp [maxLen]) bn bn (by omega) (by omega) rfl rfl) rfl<|s1 (lX i Tryz.underlying182 ef rfl rfl rfl rfl (by omega) rfl) rfl ?_
  refine ak rfl (bZ ef rfl rfl rfl rfl (by simp;omega) rfl ?_)
  refine ah<|bj<|ae<|ai<|s1 (bg _ 1 rfl rfl rfl rfl (by omega)) rfl<|s1 (aa rfl) rfl ?_
  refine ah ?_
  exact bu (i+1) (by omega) (by omega) [(1,some 1),(2,some 2),(5,some 5)] hI rfl rfl ⟨⟨_,rfl,.p rfl⟩,⟨_,rfl,.p rfl⟩,⟨_,rfl,.sl rfl (by first|rfl|omega|(simp<;>omega)|(simp [*]<;>omega))⟩,⟨_,rfl,.pure pu⟩,trivial⟩ ⟨.inr ⟨_,_,rfl,rfl,.pure ar⟩,.inr ⟨_,_,rfl,rfl,.pure ar⟩,.inr ⟨_,_,rfl,rfl,.of (LO i h7) (KV rfl _)⟩,trivial⟩
 ·have h7 : i = 19 := by have := of_decide_eq_false hc7; omega
  subst h7
  refine bE<|aO<|aO<|bF<|ae<|af<|ai<|s1 (aa rfl) rfl ?_
  refine ak rfl (iK 17 rfl true rfl (.cons (.sl rfl rfl rfl (Ef (by simp)) (MP hD hl rfl) ar) .nil) (Is L hD hl) ar (.inr fI) rfl ?_)
  refine ak rfl (aJ true rfl (.cons (.pure pu) (.cons (.sl rfl rfl rfl (cD (by rw [List.length_map,Nat.mul_one]) rfl) (a7.pure ar) ar) .nil)) (Mo L hD hl) pu (.inr fu) rfl ?_)
  refine ak rfl (bo aE rfl rfl rfl (by first|rfl|omega|(simp<;>omega)|(simp [*]<;>omega)) (by first|rfl|omega|(simp<;>omega)|(simp [*]<;>omega)) ?_)
  refine ah<|ae<|aF ?_
  refine aG (rs:= [.cell 2 23]) rfl (ct aE rfl rfl (List.take_of_length_le (by simp)) (by simp) aC) rfl
theorem KC (x:List UInt8) (hx:x.length=32):aB Tryz.prog 145 [.ag (x.map u8)] (aU (.ag ((my x).map u8))):=by
 refine enter Tryz.func145 rfl Tryz.ntmps145 (by kernel_rfl) (Nat.le_of_ble_eq_true rfl) fun w0 X0 hI=>?_
 refine af<|ai ?_
 refine ak rfl (bY 1 rfl rfl rfl ?_)
 refine ak rfl (bt 2 rfl aE rfl rfl ?_)
 refine ah<|ae<|af<|ai ?_
 refine ak rfl (bt 3 rfl uw (by kernel_rfl) rfl ?_)
 refine ah<|ae<|af<|af<|ai<|s1 ((aa rfl).v (v':= .i .i64 0) rfl) rfl ?_
 refine ah<|ae<|aM ?_
 refine bH (ι:=Nat) (fun i=> [(1,.p 1 0),(2,.p 2 0),(3,.p 3 0),(5,nI i)]) (fun i=>⟨[(1,some (x.map u8)),(2,some (List.replicate 32 (u8 0))),(3,some (jd 19 (jC x i)))]⟩) (fun i=>i≤19) (fun i=>19 - i) ?_ ?_
 ·exact bG (0) (Nat.zero_le _) [(1,some 1),(2,some 2),(3,some 3)] hI rfl rfl ⟨⟨_,rfl,.p rfl⟩,⟨_,rfl,.p rfl⟩,⟨_,rfl,.p rfl⟩,⟨_,rfl,.pure pu⟩,trivial⟩ ⟨.inr ⟨_,_,rfl,rfl,.pure ar⟩,.inr ⟨_,_,rfl,rfl,.pure ar⟩,.inr ⟨_,_,rfl,rfl,.of (by rw [xw,List.map_replicate];exact yU 19) (.pure ar)⟩,trivial⟩
 rintro i hi
 have hDi:=rp x i
 refine af<|ai<|s1 (aa rfl) rfl ?_
 refine ah<|ae<|af ?_
 refine aP rfl (fun hc6=>?_) (fun hc6=>?_)
 ·have h6 : i < 19 := by have := of_decide_eq_true hc6; omega
  refine aK<|ae<|af<|aM<|af<|ai<|s1 (aa rfl) rfl<|s1 (aa rfl) rfl ?_
  refine ah<|ae<|ai<|s1 (aa rfl) rfl<|s1 (aZ aE rfl rfl (by first|rfl|omega|(simp<;>omega)|(simp [*]<;>omega))) rfl<|s1 (aa rfl) rfl ?_
  refine ak rfl (aJ false rfl (.cons (.pure pu) (.cons (.pure pu) (.nil))) (zc x i hx) pu (.inl rfl) rfl ?_)
  refine ak rfl (aJ false rfl (.cons (.pure pu) (.cons (.pure pu) (.nil))) (u9 (ix x i) 3 (by simp) (by omega)) pu (.inl rfl) rfl ?_)
  refine s1 (bJ i Tryz.underlying203 aE rfl rfl rfl (by omega) rfl) rfl ?_
  refine ak rfl (ju aE rfl rfl rfl rfl rfl (BR (by simp)) (by rw [BN hDi (by rw [oK];omega)];omega) (C1 hDi (by rw [oK];omega) (by rw [oK])) ?_)
  refine ah<|bj<|ae<|ai<|s1 (bg _ 1 rfl rfl rfl rfl (by omega)) rfl<|s1 (aa rfl) rfl ?_
  refine ah ?_
  exact bu (i+1) (by omega) (by omega) [(1,some 1),(2,some 2),(3,some 3)] hI rfl rfl ⟨⟨_,rfl,.p rfl⟩,⟨_,rfl,.p rfl⟩,⟨_,rfl,.p rfl⟩,⟨_,rfl,.pure pu⟩,trivial⟩ ⟨.inr ⟨_,_,rfl,rfl,.pure ar⟩,.inr ⟨_,_,rfl,rfl,.pure ar⟩,.inr ⟨_,_,rfl,rfl,.of (by rw [xx]) (.pure ar)⟩,trivial⟩
 ·have h6 : i = 19 := by have := of_decide_eq_false hc6; omega
  subst h6
  refine cV 3 rfl (yV (oK x 19)) ?_
  refine bE<|aO<|aO<|bF<|ae<|af<|ai<|s1 (aZ uw rfl rfl (by rw [List.length_map,(rp x 19).len,oK])) rfl ?_
  refine ak rfl (aJ false rfl (.cons (.pure pu) (.nil)) (CZ (jC x 19) (rp x 19) (oK x 19)) pu (.inl rfl) rfl ?_)
  refine ak rfl (bo aE rfl rfl rfl (by first|rfl|omega|(simp<;>omega)|(simp [*]<;>omega)) (by first|rfl|omega|(simp<;>omega)|(simp [*]<;>omega)) ?_)
  refine ah<|ae<|aF ?_
  refine aG (rs:= [.cell 2 23]) rfl (ct aE rfl rfl (List.take_of_length_le (by simp)) (by simp) aC) rfl
theorem L5 (x m:List UInt8) (hx:x.length=32) (hm:m.length=32):aB Tryz.prog 88 [.ag (x.map u8),.ag (m.map u8)] (aU (bD (iU x m))):=by
 refine enter Tryz.func88 rfl Tryz.ntmps88 (by kernel_rfl) (Nat.le_of_ble_eq_true rfl) fun w0 X0 hI=>?_
 refine af<|ai ?_
 refine ak rfl (bY 2 rfl rfl rfl ?_)
 refine ak rfl (bY 3 rfl rfl rfl ?_)
 refine s1 (aa rfl) rfl ?_
 refine ah<|ae<|af<|af<|ai<|s1 (aZ aE rfl rfl (by first|rfl|omega|(simp<;>omega)|(simp [*]<;>omega))) rfl ?_
 refine ak rfl (aJ false rfl (.cons (.pure pu) (.nil)) (DU m hm) pu (.inl rfl) rfl ?_)
 refine s1 ((aa rfl).v (v':= .i .i64 0) rfl) rfl ?_
 refine ah<|ae<|aM ?_
 refine bH (ι:=Nat) (fun i=> [(2,.p 2 0),(4,.sl 4 32 0 i),(8,.ag ((digits m).map nI)),(9,nI i)]) (fun i=>⟨[(2,some (x.map u8)),(4,some ((iD x m i).flatten.map u8))]⟩) (fun i=>i≤19) (fun i=>19 - i) ?_ ?_
 ·exact bG (0) (Nat.zero_le _) [(2,some 2),(4,none)] hI rfl rfl ⟨⟨_,rfl,.p rfl⟩,⟨_,rfl,.nl rfl⟩,⟨_,rfl,.pure pu⟩,⟨_,rfl,.pure pu⟩,trivial⟩ ⟨.inr ⟨_,_,rfl,rfl,.pure ar⟩,.inl ⟨rfl,rfl⟩,trivial⟩
 rintro i hi
 have hDi:=rq x m i
 have hdi:=vZ m i
 refine af<|ai<|s1 (aa rfl) rfl ?_
 refine ah<|ae<|af ?_
 refine aP rfl (fun hc10=>?_) (fun hc10=>?_)
 ·have h10 : i < 19 := by have := of_decide_eq_true hc10; omega
  refine aK<|ae<|af<|aM<|af<|ai<|s1 (aa rfl) rfl<|s1 (EA i Tryz.underlying170 an rfl rfl rfl h10 (Bn m i h10)) rfl<|s1 (aa rfl) rfl<|s1 (aa rfl) rfl ?_
  refine ah<|ae<|ai<|s1 (aa rfl) rfl<|s1 (aZ aE rfl rfl (by first|rfl|omega|(simp<;>omega)|(simp [*]<;>omega))) rfl<|s1 (aa rfl) rfl ?_
  refine ak rfl (aJ false rfl (.cons (.pure pu) (.cons (.pure pu) (.nil))) (zc x i hx) pu (.inl rfl) rfl ?_)
  refine s1 (aa rfl) rfl ?_
  refine ak rfl (aJ false rfl (.cons (.pure pu) (.cons (.pure pu) (.nil))) (u9 (ix x i) (dg m i) (by simp) (by omega)) pu (.inl rfl) rfl ?_)
  refine ak rfl (fX 19 rfl Tryz.underlying41 aE rfl rfl rfl (by simp [aX,mm]) (List.append_nil ((fC (dg m i) (ix x i)).map u8)) rfl rfl rfl ?_)
  refine ak rfl (cY 20 rfl Tryz.underlying41 aE rfl (.sl rfl (by rw [List.length_map,hDi.len,len_signL])) rfl (cO rfl (by rw [List.length_map,mm (by simp)])) (by simp [mm]) (by simp only [maxLen];omega) (by omega) rfl rfl rfl ?_)
  refine s1 (aa rfl) rfl ?_
  refine ah<|bj<|ae<|ai<|s1 (bg _ 1 rfl rfl rfl rfl (by omega)) rfl<|s1 (aa rfl) rfl ?_
  refine ah ?_
  exact bu (i+1) (by omega) (by omega) [(2,some 2),(4,some 20)] hI rfl rfl ⟨⟨_,rfl,.p rfl⟩,⟨_,rfl,.sl rfl (by first|rfl|omega|(simp<;>omega)|(simp [*]<;>omega))⟩,⟨_,rfl,.pure pu⟩,⟨_,rfl,.pure pu⟩,trivial⟩ ⟨.inr ⟨_,_,rfl,rfl,.pure ar⟩,.inr ⟨_,_,rfl,rfl,.of (L4 x m i) (.pure ar)⟩,trivial⟩
 ·have h10 : i = 19 := by have := of_decide_eq_false hc10; omega
  subst h10
  refine bE<|aO<|aO<|bF<|ae<|af<|ai<|s1 (aa rfl) rfl<|s1 (aa rfl) rfl ?_
  refine ah<|ae<|aF ?_
  refine gz 4 rfl rfl ar (cD (by rw [List.length_map,(rq x m _).len,len_signL]) rfl) ?_
  refine aG (rs:= [.tmp 4]) rfl (aD rfl aC) ?_
  show A.fz _ _=bD (iD x m 19)
  rw [bD,len_signL]
theorem KR (m:List UInt8) (S:List (List UInt8)) (hm:m.length=32) (hS:aL S):aB Tryz.prog 130 [.ag (m.map u8),bD S] (aU (.tu [.ag ((fq m S).map u8),nI (iP S)])):=by
 refine enter Tryz.func130 rfl Tryz.ntmps130 (by kernel_rfl) (Nat.le_of_ble_eq_true rfl) fun w0 X0 hI=>?_
 refine af<|ai ?_
 refine ak rfl (bY 2 rfl rfl rfl ?_)
 refine ak rfl (bt 4 rfl aE rfl rfl ?_)
 refine s1 ((aa rfl).v (v':= .i .i64 0) rfl) rfl ?_
 refine ah<|ae<|af<|af<|ai<|s1 (aa rfl) rfl<|s1 (bx Tryz.underlying41 rfl rfl rfl) rfl<|s1 (aa rfl) rfl ?_
 refine ah<|ae ?_
 refine aP rfl (fun hc11=>?_) (fun hc11=>?_)
 ·have h11 : S.length ≠ 19 := by have := bne_iff_ne.1 hc11; omega
  refine af<|ai<|s1 (aZ aE rfl rfl (by first|rfl|omega|(simp<;>omega)|(simp [*]<;>omega))) rfl ?_
  refine ak rfl (bo aE rfl rfl rfl (by first|rfl|omega|(simp<;>omega)|(simp [*]<;>omega)) (by first|rfl|omega|(simp<;>omega)|(simp [*]<;>omega)) ?_)
  refine s1 ((aa rfl).v (v':= .i .i64 50) rfl) rfl ?_
  refine ah<|ae<|aF<|aH ?_
  refine aG (rs:= [.cell 4 23,.tmp 5]) rfl (ct aE rfl rfl (List.take_of_length_le (by simp)) (by simp) (aD rfl aC)) ?_
  rw [(C7 h11).1,(C7 (m:=m) h11).2]
  rfl
 ·have h11 : S.length = 19 := by have := bne_eq_false_iff_eq.1 hc11; omega
  refine aK<|ae<|af<|ai ?_
  refine ak rfl (bt 6 rfl uw (by kernel_rfl) rfl ?_)
  refine ah<|ae<|af<|af<|ai<|s1 (aZ aE rfl rfl (by first|rfl|omega|(simp<;>omega)|(simp [*]<;>omega))) rfl ?_
  refine ak rfl (aJ false rfl (.cons (.pure pu) (.nil)) (DU m hm) pu (.inl rfl) rfl ?_)
  refine s1 ((aa rfl).v (v':= .i .i64 0) rfl) rfl ?_
  refine ah<|ae<|aM ?_
  refine bH (ι:=Nat) (fun i=> [(1,bD S),(4,.p 4 0),(6,.p 6 0),(14,.ag ((digits m).map nI)),(15,nI i)]) (fun i=>⟨[(4,some (List.replicate 32 (u8 0))),(6,some (jd 19 (jD m S i)))]⟩) (fun i=>i≤19) (fun i=>19 - i) ?_ ?_
  ·exact bG (0) (Nat.zero_le _) [(4,some 4),(6,some 6)] hI rfl rfl ⟨⟨_,rfl,.pure pu⟩,⟨_,rfl,.p rfl⟩,⟨_,rfl,.p rfl⟩,⟨_,rfl,.pure pu⟩,⟨_,rfl,.pure pu⟩,trivial⟩ ⟨.inr ⟨_,_,rfl,rfl,.pure ar⟩,.inr ⟨_,_,rfl,rfl,.of (by rw [xD,List.map_replicate];exact yU 19) (.pure ar)⟩,trivial⟩
  rintro i hi
  have hDi:=yt (m:=m) hS i (by omega)
  have hdi:=vZ m i
  refine af<|ai<|s1 (aa rfl) rfl ?_
  refine ah<|ae<|af ?_
  refine aP rfl (fun hc16=>?_) (fun hc16=>?_)
  ·have h16 : i < 19 := by have := of_decide_eq_true hc16; omega
   obtain⟨q,hq⟩:∃q,S[i]? =some q:=⟨_,List.getElem?_eq_getElem (by omega)⟩
   have hq32:=hS q (List.mem_of_getElem? hq)
   have hq2:S.getD i []=q:=by simp [hq]
   refine aK<|ae<|af<|aM<|af<|ai<|s1 (aa rfl) rfl<|s1 (EA i Tryz.underlying170 an rfl rfl rfl h16 (Bn m i h16)) rfl<|s1 (aa rfl) rfl<|s1 (aa rfl) rfl ?_
   refine ah<|ae<|ai<|s1 (aa rfl) rfl<|s1 (aa rfl) rfl<|s1 (aa rfl) rfl<|s1 (aT i Tryz.underlying41 aE rfl rfl rfl (by omega) rfl) rfl<|s1 (cm aE rfl rfl (Ia hS hq) (by simp [hq32])) rfl<|s1 (aa rfl) rfl<|s1 (dD 3 (dg m i) rfl rfl rfl rfl (by omega) (by omega)) rfl ?_
   refine ak rfl (aJ false rfl (.cons (.pure pu) (.cons (.pure pu) (.nil))) (u9 q (3 - dg m i) hq32 (by omega)) pu (.inl rfl) rfl ?_)
   refine s1 (bJ i Tryz.underlying203 aE rfl rfl rfl (by omega) rfl) rfl ?_
   refine ak rfl (ju aE rfl rfl rfl rfl rfl (BR hq32) (by rw [BN hDi (by rw [len_recL];omega)];omega) (C1 hDi (by rw [len_recL];omega) (by rw [len_recL])) ?_)
   refine ah<|bj<|ae<|ai<|s1 (bg _ 1 rfl rfl rfl rfl (by omega)) rfl<|s1 (aa rfl) rfl ?_
   refine ah ?_
   exact bu (i+1) (by omega) (by omega) [(4,some 4),(6,some 6)] hI rfl rfl ⟨⟨_,rfl,.pure pu⟩,⟨_,rfl,.p rfl⟩,⟨_,rfl,.p rfl⟩,⟨_,rfl,.pure pu⟩,⟨_,rfl,.pure pu⟩,trivial⟩ ⟨.inr ⟨_,_,rfl,rfl,.pure ar⟩,.inr ⟨_,_,rfl,rfl,.of (by rw [xE,hq2]) (.pure ar)⟩,trivial⟩
  ·have h16 : i = 19 := by have := of_decide_eq_false hc16; omega
   subst h16
   refine cV 6 rfl (yV (len_recL m S 19)) ?_
   refine bE<|aO<|aO<|bF<|ae<|af<|ai<|s1 (aZ uw rfl rfl (by rw [List.length_map,hDi.len,len_recL])) rfl ?_
   refine ak rfl (aJ false rfl (.cons (.pure pu) (.nil)) (CZ (jD m S 19) hDi (len_recL m S 19)) pu (.inl rfl) rfl ?_)
   refine ak rfl (bo aE rfl rfl rfl (by first|rfl|omega|(simp<;>omega)|(simp [*]<;>omega)) (by first|rfl|omega|(simp<;>omega)|(simp [*]<;>omega)) ?_)
   refine s1 ((aa rfl).v (v':= .i .i64 0) rfl) rfl ?_
   refine ah<|ae<|aF ?_
   refine aG (rs:= [.cell 4 23,.tmp 5]) rfl (ct aE rfl rfl (List.take_of_length_le (by simp)) (by simp) (aD rfl aC)) ?_
   rw [(xF h11).1,(xF (m:=m) h11).2]
   rfl
end Go.Abs.D2
-- D2H
namespace Go.Abs.D2
open Go Go.Eng Go.Abs Go.Proofs
theorem IQ (X:BitVec 64):aB Tryz.prog 187 [aY X] (aU (.i .i64 (c7 X.toNat:Nat))):=by
 refine enter Tryz.func187 rfl Tryz.ntmps187 (by kernel_rfl) (Nat.le_of_ble_eq_true rfl) fun w0 X0 hI=>?_
 refine af<|ai<|s1 ((aa rfl).v (v':= .i .i64 0) rfl) rfl ?_
 refine ah<|ae<|af<|af<|ai<|s1 (aa rfl) rfl<|s1 (aa rfl) rfl ?_
 refine ah<|ae ?_
 refine aP rfl (fun hc4=>?_) (fun hc4=>?_)
 ·have e4 := nk X 32 (by have := of_decide_eq_true hc4; omega)
  have y4:=nH X 32 32 X.isLt
  refine af<|ai<|s1 (aa rfl) rfl<|s1 (ku _ 32 rfl rfl rfl (by decide)) rfl<|s1 (aa rfl) rfl ?_
  refine ah<|ae<|ai<|s1 ((aa rfl).v (v':= .i .i64 32) rfl) rfl ?_
  refine ah<|ae<|af<|af<|ai<|s1 (aa rfl) rfl<|s1 (aa rfl) rfl ?_
  refine ah<|ae ?_
  refine aP rfl (fun hc8=>?_) (fun hc8=>?_)
  ·have e8 := nk (X >>> 32) 16 (by have := of_decide_eq_true hc8; omega)
   have y8:=nH (X>>>32) 16 16 y4
   refine af<|ai<|s1 (aa rfl) rfl<|s1 (ku _ 16 rfl rfl rfl (by decide)) rfl<|s1 (aa rfl) rfl ?_
   refine ah<|ae<|ai<|s1 ((aa rfl).v (v':= .i .i64 32) rfl) rfl<|s1 (bg 32 16 rfl rfl rfl rfl (by omega)) rfl<|s1 (aa rfl) rfl ?_
   refine ah<|ae<|af<|af<|ai<|s1 (aa rfl) rfl<|s1 (aa rfl) rfl ?_
   refine ah<|ae ?_
   refine aP rfl (fun hc14=>?_) (fun hc14=>?_)
   ·have e14 := nk ((X >>> 32) >>> 16) 8 (by have := of_decide_eq_true hc14; omega)
    have y14:=nH ((X>>>32)>>>16) 8 8 y8
    refine af<|ai<|s1 (aa rfl) rfl<|s1 (ku _ 8 rfl rfl rfl (by decide)) rfl<|s1 (aa rfl) rfl ?_
    refine ah<|ae<|ai<|s1 (aa rfl) rfl<|s1 (bg _ 8 rfl rfl rfl rfl (by omega)) rfl<|s1 (aa rfl) rfl ?_
    refine ah<|ae<|af<|ai<|s1 (aa rfl) rfl<|s1 (aa rfl) rfl<|s1 (ie _ Tryz.underlying198 Tryz.underlying5 rfl) rfl<|s1 (mL (((X>>>32)>>>16)>>>8).toNat (UInt8.ofNat (c7 (((X>>>32)>>>16)>>>8).toNat)) Tryz.underlying9 rfl (by kernel_rfl) rfl (mF y14) (mD _ y14)) rfl<|s1 ((cU Tryz.underlying5 Tryz.underlying3 rfl).v (v':= .i .i64 (c7 (((X>>>32)>>>16)>>>8).toNat:Nat)) (mE y14)) rfl<|s1 (bg _ _ rfl rfl rfl rfl (by have:=lM y14;omega)) rfl<|s1 (aa rfl) rfl ?_
    refine ah<|ae<|aF ?_
    refine aG (rs:= [.tmp 2]) rfl (aD rfl aC) ?_
    exact congrArg (fun k:Nat=>A.i .i64 (k:Int)) (by omega)
   ·have e14 : ((X >>> 32) >>> 16).toNat < 2 ^ 8 := by have := of_decide_eq_false hc14; omega
    have y14:=e14
    refine aK<|ae<|af<|ai<|s1 (aa rfl) rfl<|s1 (aa rfl) rfl<|s1 (ie _ Tryz.underlying198 Tryz.underlying5 rfl) rfl<|s1 (mL ((X>>>32)>>>16).toNat (UInt8.ofNat (c7 ((X>>>32)>>>16).toNat)) Tryz.underlying9 rfl (by kernel_rfl) rfl (mF y14) (mD _ y14)) rfl<|s1 ((cU Tryz.underlying5 Tryz.underlying3 rfl).v (v':= .i .i64 (c7 ((X>>>32)>>>16).toNat:Nat)) (mE y14)) rfl<|s1 (bg _ _ rfl rfl rfl rfl (by have:=lM y14;omega)) rfl<|s1 (aa rfl) rfl ?_
    refine ah<|ae<|aF ?_
    refine aG (rs:= [.tmp 2]) rfl (aD rfl aC) ?_
    exact congrArg (fun k:Nat=>A.i .i64 (k:Int)) (by omega)
  ·have e8 : (X >>> 32).toNat < 2 ^ 16 := by have := of_decide_eq_false hc8; omega
   have y8:=e8
   refine aK<|ae<|af<|af<|ai<|s1 (aa rfl) rfl<|s1 (aa rfl) rfl ?_
   refine ah<|ae ?_
   refine aP rfl (fun hc14=>?_) (fun hc14=>?_)
   ·have e14 := nk (X >>> 32) 8 (by have := of_decide_eq_true hc14; omega)
    have y14:=nH (X>>>32) 8 8 y8
    refine af<|ai<|s1 (aa rfl) rfl<|s1 (ku _ 8 rfl rfl rfl (by decide)) rfl<|s1 (aa rfl) rfl ?_
    refine ah<|ae<|ai<|s1 ((aa rfl).v (v':= .i .i64 32) rfl) rfl<|s1 (bg 32 8 rfl rfl rfl rfl (by omega)) rfl<|s1 (aa rfl) rfl ?_
    refine ah<|ae<|af<|ai<|s1 (aa rfl) rfl<|s1 (aa rfl) rfl<|s1 (ie _ Tryz.underlying198 Tryz.underlying5 rfl) rfl<|s1 (mL ((X>>>32)>>>8).toNat (UInt8.ofNat (c7 ((X>>>32)>>>8).toNat)) Tryz.underlying9 rfl (by kernel_rfl) rfl (mF y14) (mD _ y14)) rfl<|s1 ((cU Tryz.underlying5 Tryz.underlying3 rfl).v (v':= .i .i64 (c7 ((X>>>32)>>>8).toNat:Nat)) (mE y14)) rfl<|s1 (bg _ _ rfl rfl rfl rfl (by have:=lM y14;omega)) rfl<|s1 (aa rfl) rfl ?_
    refine ah<|ae<|aF ?_
    refine aG (rs:= [.tmp 2]) rfl (aD rfl aC) ?_
    exact congrArg (fun k:Nat=>A.i .i64 (k:Int)) (by omega)
   ·have e14 : (X >>> 32).toNat < 2 ^ 8 := by have := of_decide_eq_false hc14; omega
    have y14:=e14
    refine aK<|ae<|af<|ai<|s1 ((aa rfl).v (v':= .i .i64 32) rfl) rfl<|s1 (aa rfl) rfl<|s1 (ie _ Tryz.underlying198 Tryz.underlying5 rfl) rfl<|s1 (mL (X>>>32).toNat (UInt8.ofNat (c7 (X>>>32).toNat)) Tryz.underlying9 rfl (by kernel_rfl) rfl (mF y14) (mD _ y14)) rfl<|s1 ((cU Tryz.underlying5 Tryz.underlying3 rfl).v (v':= .i .i64 (c7 (X>>>32).toNat:Nat)) (mE y14)) rfl<|s1 (bg 32 _ rfl rfl rfl rfl (by have:=lM y14;omega)) rfl<|s1 (aa rfl) rfl ?_
    refine ah<|ae<|aF ?_
    refine aG (rs:= [.tmp 2]) rfl (aD rfl aC) ?_
    exact congrArg (fun k:Nat=>A.i .i64 (k:Int)) (by omega)
 ·have e4 : X.toNat < 2 ^ 32 := by have := of_decide_eq_false hc4; omega
  have y4:=e4
  refine aK<|ae<|af<|af<|ai<|s1 (aa rfl) rfl<|s1 (aa rfl) rfl ?_
  refine ah<|ae ?_
  refine aP rfl (fun hc8=>?_) (fun hc8=>?_)
  ·have e8 := nk X 16 (by have := of_decide_eq_true hc8; omega)
   have y8:=nH X 16 16 y4
   refine af<|ai<|s1 (aa rfl) rfl<|s1 (ku _ 16 rfl rfl rfl (by decide)) rfl<|s1 (aa rfl) rfl ?_
   refine ah<|ae<|ai<|s1 ((aa rfl).v (v':= .i .i64 0) rfl) rfl<|s1 (bg 0 16 rfl rfl rfl rfl (by omega)) rfl<|s1 (aa rfl) rfl ?_
   refine ah<|ae<|af<|af<|ai<|s1 (aa rfl) rfl<|s1 (aa rfl) rfl ?_
   refine ah<|ae ?_
   refine aP rfl (fun hc14=>?_) (fun hc14=>?_)
   ·have e14 := nk (X >>> 16) 8 (by have := of_decide_eq_true hc14; omega)
    have y14:=nH (X>>>16) 8 8 y8
    refine af<|ai<|s1 (aa rfl) rfl<|s1 (ku _ 8 rfl rfl rfl (by decide)) rfl<|s1 (aa rfl) rfl ?_
    refine ah<|ae<|ai<|s1 (aa rfl) rfl<|s1 (bg _ 8 rfl rfl rfl rfl (by omega)) rfl<|s1 (aa rfl) rfl ?_
    refine ah<|ae<|af<|ai<|s1 (aa rfl) rfl<|s1 (aa rfl) rfl<|s1 (ie _ Tryz.underlying198 Tryz.underlying5 rfl) rfl<|s1 (mL ((X>>>16)>>>8).toNat (UInt8.ofNat (c7 ((X>>>16)>>>8).toNat)) Tryz.underlying9 rfl (by kernel_rfl) rfl (mF y14) (mD _ y14)) rfl<|s1 ((cU Tryz.underlying5 Tryz.underlying3 rfl).v (v':= .i .i64 (c7 ((X>>>16)>>>8).toNat:Nat)) (mE y14)) rfl<|s1 (bg _ _ rfl rfl rfl rfl (by have:=lM y14;omega)) rfl<|s1 (aa rfl) rfl ?_
    refine ah<|ae<|aF ?_
    refine aG (rs:= [.tmp 2]) rfl (aD rfl aC) ?_
    exact congrArg (fun k:Nat=>A.i .i64 (k:Int)) (by omega)
   ·have e14 : (X >>> 16).toNat < 2 ^ 8 := by have := of_decide_eq_false hc14; omega
    have y14:=e14
    refine aK<|ae<|af<|ai<|s1 (aa rfl) rfl<|s1 (aa rfl) rfl<|s1 (ie _ Tryz.underlying198 Tryz.underlying5 rfl) rfl<|s1 (mL (X>>>16).toNat (UInt8.ofNat (c7 (X>>>16).toNat)) Tryz.underlying9 rfl (by kernel_rfl) rfl (mF y14) (mD _ y14)) rfl<|s1 ((cU Tryz.underlying5 Tryz.underlying3 rfl).v (v':= .i .i64 (c7 (X>>>16).toNat:Nat)) (mE y14)) rfl<|s1 (bg _ _ rfl rfl rfl rfl (by have:=lM y14;omega)) rfl<|s1 (aa rfl) rfl ?_
    refine ah<|ae<|aF ?_
    refine aG (rs:= [.tmp 2]) rfl (aD rfl aC) ?_
    exact congrArg (fun k:Nat=>A.i .i64 (k:Int)) (by omega)
  ·have e8 : X.toNat < 2 ^ 16 := by have := of_decide_eq_false hc8; omega
   have y8:=e8
   refine aK<|ae<|af<|af<|ai<|s1 (aa rfl) rfl<|s1 (aa rfl) rfl ?_
   refine ah<|ae ?_
   refine aP rfl (fun hc14=>?_) (fun hc14=>?_)
   ·have e14 := nk X 8 (by have := of_decide_eq_true hc14; omega)
    have y14:=nH X 8 8 y8
    refine af<|ai<|s1 (aa rfl) rfl<|s1 (ku _ 8 rfl rfl rfl (by decide)) rfl<|s1 (aa rfl) rfl ?_
    refine ah<|ae<|ai<|s1 ((aa rfl).v (v':= .i .i64 0) rfl) rfl<|s1 (bg 0 8 rfl rfl rfl rfl (by omega)) rfl<|s1 (aa rfl) rfl ?_
    refine ah<|ae<|af<|ai<|s1 (aa rfl) rfl<|s1 (aa rfl) rfl<|s1 (ie _ Tryz.underlying198 Tryz.underlying5 rfl) rfl<|s1 (mL (X>>>8).toNat (UInt8.ofNat (c7 (X>>>8).toNat)) Tryz.underlying9 rfl (by kernel_rfl) rfl (mF y14) (mD _ y14)) rfl<|s1 ((cU Tryz.underlying5 Tryz.underlying3 rfl).v (v':= .i .i64 (c7 (X>>>8).toNat:Nat)) (mE y14)) rfl<|s1 (bg _ _ rfl rfl rfl rfl (by have:=lM y14;omega)) rfl<|s1 (aa rfl) rfl ?_
    refine ah<|ae<|aF ?_
    refine aG (rs:= [.tmp 2]) rfl (aD rfl aC) ?_
    exact congrArg (fun k:Nat=>A.i .i64 (k:Int)) (by omega)
   ·have e14 : X.toNat < 2 ^ 8 := by have := of_decide_eq_false hc14; omega
    have y14:=e14
    refine aK<|ae<|af<|ai<|s1 ((aa rfl).v (v':= .i .i64 0) rfl) rfl<|s1 (aa rfl) rfl<|s1 (ie _ Tryz.underlying198 Tryz.underlying5 rfl) rfl<|s1 (mL X.toNat (UInt8.ofNat (c7 X.toNat)) Tryz.underlying9 rfl (by kernel_rfl) rfl (mF y14) (mD _ y14)) rfl<|s1 ((cU Tryz.underlying5 Tryz.underlying3 rfl).v (v':= .i .i64 (c7 X.toNat:Nat)) (mE y14)) rfl<|s1 (bg 0 _ rfl rfl rfl rfl (by have:=lM y14;omega)) rfl<|s1 (aa rfl) rfl ?_
    refine ah<|ae<|aF ?_
    refine aG (rs:= [.tmp 2]) rfl (aD rfl aC) ?_
    exact congrArg (fun k:Nat=>A.i .i64 (k:Int)) (by omega)
theorem I4 (X:BitVec 64):aB Tryz.prog 146 [aY X] (aU (.i .i64 (c7 X.toNat:Nat))):=by
 refine enter Tryz.func146 rfl Tryz.ntmps146 (by kernel_rfl) (Nat.le_of_ble_eq_true rfl) fun w0 X0 hI=>?_
 refine af<|ai<|s1 ((aa rfl).v (v':= .i .i64 0) rfl) rfl ?_
 refine ah<|ae<|af ?_
 refine cK rfl ?_
 refine aK<|ae<|af<|ai<|s1 (aa rfl) rfl ?_
 refine ak rfl (aJ false rfl (.cons (.pure pu) (.nil)) (IQ X) pu (.inl rfl) rfl ?_)
 refine s1 (aa rfl) rfl ?_
 refine ah<|ae<|aF ?_
 refine aG (rs:= [.tmp 2]) rfl (aD rfl (aC)) rfl
theorem wQ (n:Nat) (h:2≤n) (hn:n≤1099511627776):aB Tryz.prog 95 [.i .i64 (n:Nat)] (aU (.i .i64 (a8 n:Nat))):=by
 refine enter Tryz.func95 rfl Tryz.ntmps95 (by kernel_rfl) (Nat.le_of_ble_eq_true rfl) fun w0 X0 hI=>?_
 refine af<|ai<|s1 ((aa rfl).v (v':= .i .i64 0) rfl) rfl ?_
 refine ah<|ae<|af<|ai<|s1 (aa rfl) rfl<|s1 (dD n 1 rfl rfl rfl rfl (by omega) (by omega)) rfl<|s1 (nu (n - 1) Tryz.underlying3 Tryz.underlying74 rfl rfl) rfl ?_
 refine ak rfl (aJ false rfl (.cons (.pure pu) (.nil)) (I4 (a6 (n - 1))) pu (.inl rfl) rfl ?_)
 refine s1 ((dD (c7 (a6 (n - 1)).toNat) 1 rfl rfl rfl rfl (by rw [vB (n:=n - 1) (by omega),BK (by omega)];omega) (by rw [vB (n:=n - 1) (by omega)];have:=IS (x:=n - 1) (by omega);omega)).v (v':= .i .i64 ((n - 1).log2:Nat)) (congrArg (fun k:Nat=>A.i .i64 (k:Int)) (by rw [vB (n:=n - 1) (by omega),BK (by omega)];omega))) rfl<|s1 ((nR rfl rfl (by omega)).v (v':= .i .i64 (a8 n:Nat)) (LY h hn)) rfl<|s1 (aa rfl) rfl ?_
 refine ah<|ae<|aF ?_
 refine aG (rs:= [.tmp 2]) rfl (aD rfl (aC)) rfl
end Go.Abs.D2
-- D2T1
namespace Go.Abs.D2
open Go Go.Eng Go.Abs Go.Proofs
theorem Ed (L:List (List UInt8)) (hD:aL L) (hl:L.length≤1048576) (ih:∀M:List (List UInt8),M.length<L.length→aL M→aB Tryz.prog 46 [bD M] (aU (.ag ((tree M).map u8)))):aB Tryz.prog 46 [bD L] (aU (.ag ((tree L).map u8))):=by
 refine enter Tryz.func46 rfl Tryz.ntmps46 (by kernel_rfl) (Nat.le_of_ble_eq_true rfl) fun w0 X0 hI=>?_
 refine af<|ai ?_
 refine ak rfl (bt 2 rfl aE rfl rfl ?_)
 refine ah<|ae<|af<|af<|ai<|s1 (aa rfl) rfl<|s1 (bx Tryz.underlying41 rfl rfl rfl) rfl ?_
 refine ah<|ae<|aM<|af<|ai<|s1 (aa rfl) rfl<|s1 (aa rfl) rfl ?_
 refine ah<|ae ?_
 refine aP rfl (fun hc6=>?_) (fun hc6=>?_)
 ·have h6 : L.length = 0 := by have := of_decide_eq_true hc6; omega
  obtain rfl:=List.eq_nil_of_length_eq_zero h6
  refine af<|ai ?_
  refine ak rfl (aJ false rfl (.cons (.pure pu) (.cons .nl (.nil))) (ia _ [] (by simp) (by simp)) pu (.inl rfl) rfl ?_)
  refine ak rfl (bo aE rfl rfl rfl (by first|rfl|omega|(simp<;>omega)|(simp [*]<;>omega)|(simp [aL.len, -List.length_flatten, *]<;>omega)) (by first|rfl|omega|(simp<;>omega)|(simp [*]<;>omega)|(simp [aL.len, -List.length_flatten, *]<;>omega)) ?_)
  refine ah<|ae<|aF<|bc<|aH ?_
  refine aG (rs:= [.cell 2 23]) rfl (ct aE rfl rfl (List.take_of_length_le (by simp [jt])) (by simp [jt]) aC) ?_
  rw [Ec]
  rfl
 ·have h6 : ¬ L.length = 0 := by have := of_decide_eq_false hc6; omega
  refine af<|ai<|s1 (aa rfl) rfl<|s1 (aa rfl) rfl ?_
  refine ah<|ae ?_
  refine aP rfl (fun hc9=>?_) (fun hc9=>?_)
  ·have h9 : L.length = 1 := by have := of_decide_eq_true hc9; omega
   obtain⟨x,rfl⟩:=List.length_eq_one_iff.1 h9
   have hx:=hD x (.head _)
   refine af<|ai<|s1 (aa rfl) rfl<|s1 (aT 0 Tryz.underlying41 aE rfl rfl rfl (by simp) rfl) rfl<|s1 ((nP 32 Tryz.underlying23 aQ rfl (by simp [maxLen]) bn bn (Nat.zero_le _) (Nat.le_refl _) (by simp) rfl rfl).v (GD hx)) rfl ?_
   refine ak rfl (aJ false rfl (.cons (.pure pu) (.cons (.pure pu) (.nil))) (ia _ x (by omega) (by simp)) pu (.inl rfl) rfl ?_)
   refine ak rfl (bo aE rfl rfl rfl (by first|rfl|omega|(simp<;>omega)|(simp [*]<;>omega)|(simp [aL.len, -List.length_flatten, *]<;>omega)) (by first|rfl|omega|(simp<;>omega)|(simp [*]<;>omega)|(simp [aL.len, -List.length_flatten, *]<;>omega)) ?_)
   refine ah<|ae<|aF<|bc<|aH ?_
   refine aG (rs:= [.cell 2 23]) rfl (ct aE rfl rfl (List.take_of_length_le (by simp [jt])) (by simp [jt]) aC) ?_
   rw [yd]
   rfl
  ·have h9 : ¬ L.length = 1 := by have := of_decide_eq_false hc9; omega
   refine aK<|bj<|ae<|af<|ai<|s1 (aa rfl) rfl<|s1 (bx Tryz.underlying41 rfl rfl rfl) rfl ?_
   refine ak rfl (aJ false rfl (.cons (.pure pu) (.nil)) (wQ L.length (by omega) (by omega)) pu (.inl rfl) rfl ?_)
   refine s1 (aa rfl) rfl ?_
   refine ah<|ae<|af ?_
   refine bU ⟨_, [], []⟩ 9 4 bz (le_refl rfl) ?_
   have hh:=fU (n:=L.length) (by omega)
   refine aj 0 [] [] (aa rfl) rfl rfl<|aj 1 [] [] (aa rfl) rfl rfl<|aj 2 [0,1] [] ((iW (a8 L.length) Tryz.underlying41 aE rfl (by rw [List.length_map,hD.len]) bn (bs rfl rfl) (by omega) (by omega) rfl rfl).v (v':=bD (L.take (a8 L.length))) (vS hD (by omega))) rfl rfl<|bV false 3 [2] [] bb rfl (.cons (.pure pu) (.nil)) (ih (L.take (a8 L.length)) (by rw [List.length_take];omega) (hD.take _)) pu (.inl rfl) rfl rfl<|aj 4 [] [] (aa rfl) rfl rfl<|aj 5 [] [] (aa rfl) rfl rfl<|aj 6 [4,5] [] ((iW (L.length - a8 L.length) Tryz.underlying41 aE rfl (by rw [List.length_map,hD.len]) (bs rfl rfl) bn (by omega) (by omega) rfl rfl).v (v':=bD (L.drop (a8 L.length))) (vR hD rfl)) rfl rfl<|bV false 7 [6] [] bb rfl (.cons (.pure pu) (.nil)) (ih (L.drop (a8 L.length)) (by rw [List.length_drop];omega) (hD.drop _)) pu (.inl rfl) rfl rfl ?_
   refine bV false 8 [3,7] [] bb rfl (.cons (.pure pu) (.cons (.pure pu) (.nil))) (xh (fun t b h1 h2=>ia t b (by omega) (by omega)) _ _ (jt _) (jt _)) pu (.inl rfl) rfl rfl ?_
   refine bW (by kernel_rfl) ?_
   refine ak rfl (bo aE rfl rfl rfl (by first|rfl|omega|(simp<;>omega)|(simp [*]<;>omega)|(simp [aL.len, -List.length_flatten, *]<;>omega)) (by first|rfl|omega|(simp<;>omega)|(simp [*]<;>omega)|(simp [aL.len, -List.length_flatten, *]<;>omega)) ?_)
   refine ah<|ae<|aF ?_
   refine aG (rs:= [.cell 2 23]) rfl (ct aE rfl rfl (List.take_of_length_le (by simp [jt])) (by simp [jt]) aC) ?_
   rw [uz (L:=L) (by omega)]
   rfl
theorem py:∀(n:Nat) (L:List (List UInt8)),L.length≤n→aL L→L.length≤1048576→aB Tryz.prog 46 [bD L] (aU (.ag ((tree L).map u8)))
  |0,L,h,hD,hl=>Ed L hD hl (fun M hM=>absurd hM (by omega))
  |n+1,L,h,hD,hl=>Ed L hD hl (fun M hM hM2=>py n M (by omega) hM2 (by omega))
end Go.Abs.D2
