/-
  The engine, the plain laws and the walks that the rows need, part 15. Conditions: none.
-/
import Derived.Test.YteempkifmbclgaaGreatDoorM14
set_option linter.unusedVariables false
set_option linter.unusedSimpArgs false
set_option maxHeartbeats 1000000
set_option maxRecDepth 10000
-- D2T2
namespace Go.Abs.D2
open Go Go.Eng Go.Abs Go.Proofs
theorem Mx (L:List (List UInt8)) (i:Nat) (hD:aL L) (hi:i<L.length) (hl:L.length≤1048576) (ih:∀(M:List (List UInt8)) (i:Nat),M.length<L.length→aL M→i<M.length→aB Tryz.prog 149 [bD M,.i .i64 (i:Nat)] (dh 32 (path M i).length ((path M i).flatten.map u8))):aB Tryz.prog 149 [bD L,.i .i64 (i:Nat)] (dh 32 (path L i).length ((path L i).flatten.map u8)):=by
 refine enter Tryz.func149 rfl Tryz.ntmps149 (by kernel_rfl) (Nat.le_of_ble_eq_true rfl) fun w0 X0 hI=>?_
 refine af<|ai<|s1 (aa rfl) rfl ?_
 refine ah<|ae<|af<|af<|ai<|s1 (aa rfl) rfl<|s1 (bx Tryz.underlying41 rfl rfl rfl) rfl<|s1 (aa rfl) rfl ?_
 refine ah<|ae ?_
 refine aP rfl (fun hc8=>?_) (fun hc8=>?_)
 ·have h8 : L.length = 1 := by have := of_decide_eq_true hc8; omega
  refine af<|ai<|s1 (aa rfl) rfl ?_
  refine ah<|ae<|aF<|aH ?_
  refine y5 99 rfl 4 32 rfl ?_
  refine aG (rs:= [.tmp 4]) rfl (aD rfl aC) ⟨99,?_,?_⟩
  ·rw [mw i (by omega)];rfl
  ·rw [mw i (by omega)];rfl
 ·have h8 : ¬ L.length = 1 := by have := of_decide_eq_false hc8; omega
  refine aK<|ae<|af<|ai<|s1 (aa rfl) rfl<|s1 (bx Tryz.underlying41 rfl rfl rfl) rfl ?_
  refine ak rfl (aJ false rfl (.cons (.pure pu) (.nil)) (wQ L.length (by omega) (by omega)) pu (.inl rfl) rfl ?_)
  refine s1 (aa rfl) rfl ?_
  refine ah<|ae<|af<|af<|ai<|s1 (aa rfl) rfl<|s1 (aa rfl) rfl<|s1 (aa rfl) rfl ?_
  refine ah<|ae ?_
  refine aP rfl (fun hc14=>?_) (fun hc14=>?_)
  ·have h14 : i < (a8 L.length) := by have := of_decide_eq_true hc14; omega
   have hh:=fU (n:=L.length) (by omega)
   have hpl:=s5 L.length (L.take (a8 L.length)) i (by rw [List.length_take];omega)
   refine af ?_
   refine bU ⟨_, [], []⟩ 11 4 bz (le_refl rfl) ?_
   refine aj 0 [] [] (aa rfl) rfl rfl<|aj 1 [] [] (aa rfl) rfl rfl<|aj 2 [0,1] [] ((iW (a8 L.length) Tryz.underlying41 aE rfl (by rw [List.length_map,hD.len]) bn (bs rfl rfl) (by omega) (by omega) rfl rfl).v (v':=bD (L.take (a8 L.length))) (vS hD (by omega))) rfl rfl<|aj 3 [] [] (aa rfl) rfl rfl<|na 19 false 4 [2,3] [] bb rfl (.cons (.pure pu) (.cons (.pure pu) (.nil))) (ih (L.take (a8 L.length)) i (by rw [List.length_take];omega) (hD.take _) (by rw [List.length_take];omega)) ar (.inl rfl) rfl rfl<|aj 5 [] [] (aa rfl) rfl rfl<|aj 6 [] [] (aa rfl) rfl rfl<|aj 7 [5,6] [] ((iW (L.length - (a8 L.length)) Tryz.underlying41 aE rfl (by rw [List.length_map,hD.len]) (bs rfl rfl) bn (by omega) (by omega) rfl rfl).v (v':=bD (L.drop (a8 L.length))) (vR hD rfl)) rfl rfl<|bV false 8 [7] [] bb rfl (.cons (.pure pu) (.nil)) (py _ (L.drop (a8 L.length)) (Nat.le_refl _) (hD.drop _) (by rw [List.length_drop];omega)) pu (.inl rfl) rfl rfl<|kL 24 9 [8] bb Tryz.underlying41 aE rfl rfl rfl (by first|(simp [aX];done)|(simp [aX, *];done)) (List.append_nil ((tree (L.drop (a8 L.length))).map u8)) rfl rfl rfl rfl ?_
   refine gV 25 10 [4,9] [(19,some 4),(24,some 9)] bb Tryz.underlying41 aE rfl (.sl rfl (by rw [List.length_map,(nU _ (L.take (a8 L.length)) i (Nat.le_refl _)).len])) rfl (cO rfl (by first|rfl|omega|(simp<;>omega)|(simp [*]<;>omega)|(simp [aL.len, -List.length_flatten, *]<;>omega))) (by simp [jt]) (by simp only [maxLen];omega) (by omega) rfl rfl rfl rfl<|bW (by kernel_rfl) ?_
   refine s1 (aa rfl) rfl ?_
   refine ah<|ae<|aF<|aH ?_
   refine aG (rs:= [.tmp 4]) rfl (aD rfl aC) ⟨25,?_,?_⟩
   ·rw [oR (by omega) h14,List.length_append];rfl
   ·rw [oR (by omega) h14]
    exact congrArg some (by simp)
  ·have h14 : ¬ i < (a8 L.length) := by have := of_decide_eq_false hc14; omega
   have hh:=fU (n:=L.length) (by omega)
   have hpl:=s5 L.length (L.drop (a8 L.length)) (i - (a8 L.length)) (by rw [List.length_drop];omega)
   refine aK<|ae<|af ?_
   refine bU ⟨_, [], []⟩ 13 4 bz (le_refl rfl) ?_
   refine aj 0 [] [] (aa rfl) rfl rfl<|aj 1 [] [] (aa rfl) rfl rfl<|aj 2 [0,1] [] ((iW (L.length - (a8 L.length)) Tryz.underlying41 aE rfl (by rw [List.length_map,hD.len]) (bs rfl rfl) bn (by omega) (by omega) rfl rfl).v (v':=bD (L.drop (a8 L.length))) (vR hD rfl)) rfl rfl<|aj 3 [] [] (aa rfl) rfl rfl<|aj 4 [] [] (aa rfl) rfl rfl<|aj 5 [3,4] [] (dD i (a8 L.length) rfl rfl rfl rfl (by omega) (by omega)) rfl rfl<|na 32 false 6 [2,5] [] bb rfl (.cons (.pure pu) (.cons (.pure pu) (.nil))) (ih (L.drop (a8 L.length)) (i - (a8 L.length)) (by rw [List.length_drop];omega) (hD.drop _) (by rw [List.length_drop];omega)) ar (.inl rfl) rfl rfl<|aj 7 [] [] (aa rfl) rfl rfl<|aj 8 [] [] (aa rfl) rfl rfl<|aj 9 [7,8] [] ((iW (a8 L.length) Tryz.underlying41 aE rfl (by rw [List.length_map,hD.len]) bn (bs rfl rfl) (by omega) (by omega) rfl rfl).v (v':=bD (L.take (a8 L.length))) (vS hD (by omega))) rfl rfl ?_
   refine bV false 10 [9] [] bb rfl (.cons (.pure pu) (.nil)) (py _ (L.take (a8 L.length)) (Nat.le_refl _) (hD.take _) (by rw [List.length_take];omega)) pu (.inl rfl) rfl rfl<|kL 37 11 [10] bb Tryz.underlying41 aE rfl rfl rfl (by first|(simp [aX];done)|(simp [aX, *];done)) (List.append_nil ((tree (L.take (a8 L.length))).map u8)) rfl rfl rfl rfl<|gV 38 12 [6,11] [(32,some 6),(37,some 11)] bb Tryz.underlying41 aE rfl (.sl rfl (by rw [List.length_map,(nU _ (L.drop (a8 L.length)) (i - (a8 L.length)) (Nat.le_refl _)).len])) rfl (cO rfl (by first|rfl|omega|(simp<;>omega)|(simp [*]<;>omega)|(simp [aL.len, -List.length_flatten, *]<;>omega))) (by simp [jt]) (by simp only [maxLen];omega) (by omega) rfl rfl rfl rfl<|bW (by kernel_rfl) ?_
   refine s1 (aa rfl) rfl ?_
   refine ah<|ae<|aF ?_
   refine aG (rs:= [.tmp 4]) rfl (aD rfl aC) ⟨38,?_,?_⟩
   ·rw [oS (by omega) h14,List.length_append];rfl
   ·rw [oS (by omega) h14]
    exact congrArg some (by simp)
theorem Ea:∀(n:Nat) (L:List (List UInt8)) (i:Nat),L.length≤n→aL L→i<L.length→L.length≤1048576→aB Tryz.prog 149 [bD L,.i .i64 (i:Nat)] (dh 32 (path L i).length ((path L i).flatten.map u8))
  |0,L,i,h,hD,hi,hl=>absurd hi (by omega)
  |n+1,L,i,h,hD,hi,hl=>Mx L i hD hi hl (fun M i hM hM2 hi=>Ea n M i (by omega) hM2 hi (by omega))
end Go.Abs.D2
-- D2T3
namespace Go.Abs.D2
open Go Go.Eng Go.Abs Go.Proofs
theorem CT (L:List (List UInt8)) (a:Int) (hD:aL L) (hl:L.length≤1048576):aB Tryz.prog 98 [bD L,.i .i64 a] (aU (nC L a)):=by
 refine enter Tryz.func98 rfl Tryz.ntmps98 (by kernel_rfl) (Nat.le_of_ble_eq_true rfl) fun w0 X0 hI=>?_
 refine af<|ai<|s1 (aa rfl) rfl<|s1 ((aa rfl).v (v':= .i .i64 0) rfl) rfl ?_
 refine ah<|ae<|af<|af<|ai<|s1 (aa rfl) rfl<|s1 (aa rfl) rfl<|s1 (aa rfl) rfl ?_
 refine jW 4 rfl rfl rfl rfl (fun hb8=> .step (aa rfl) rfl rfl<| .step (aa rfl) rfl rfl<| .step (bx Tryz.underlying41 rfl rfl rfl) rfl rfl<| .step (aa rfl) rfl rfl<| .done) rfl rfl ?_
 refine ah<|ae ?_
 refine aP rfl (fun hc13=>?_) (fun hc13=>?_)
 ·have h13 : ¬ (0 ≤ a ∧ a < L.length) := by simp at hc13; omega
  refine af<|ai<|s1 (aa rfl) rfl<|s1 ((aa rfl).v (v':= .i .i64 1) rfl) rfl ?_
  refine ah<|ae<|aF<|aH ?_
  refine aG (rs:= [.tmp 4,.tmp 5]) rfl (aD rfl (aD rfl aC)) ?_
  rw [nC,if_neg h13]
  rfl
 ·have h13 : 0 ≤ a ∧ a < L.length := by simp at hc13; omega
  obtain⟨i,rfl⟩:∃i:Nat,a=(i:Int):=⟨a.toNat,by omega⟩
  refine aK<|ae<|af<|ai<|s1 (aa rfl) rfl<|s1 (aa rfl) rfl ?_
  refine ak rfl (iK 16 rfl false rfl (.cons (.pure pu) (.cons (.pure pu) (.nil))) (Ea _ L i (Nat.le_refl _) hD (by omega) hl) ar (.inl rfl) rfl ?_)
  refine s1 (aa rfl) rfl<|s1 ((aa rfl).v (v':= .i .i64 0) rfl) rfl ?_
  refine ah<|ae<|aF ?_
  refine gz 4 rfl rfl ar (cD (by rw [List.length_map,(nU _ L i (Nat.le_refl _)).len]) rfl) ?_
  refine aG (rs:= [.tmp 4,.tmp 5]) rfl (aD rfl (aD rfl aC)) ?_
  rw [nC,if_pos h13,Int.toNat_natCast]
  rfl
end Go.Abs.D2
-- D2T5
namespace Go.Abs.D2
open Go Go.Eng Go.Abs Go.Proofs
end Go.Abs.D2
-- D2T4
namespace Go.Abs.D2
open Go Go.Eng Go.Abs Go.Proofs
theorem Gn (d:List UInt8) (hd:d.length=32) (a nn:Int) (P:List (List UInt8)) (hD:aL P):aB Tryz.prog 132 [.ag (d.map u8),.i .i64 a,.i .i64 nn,bD P] (aU (ot d a nn P)):=by
 refine enter Tryz.func132 rfl Tryz.ntmps132 (by kernel_rfl) (Nat.le_of_ble_eq_true rfl) fun w0 X0 hI=>?_
 refine af<|ai ?_
 refine ak rfl (bY 4 rfl rfl rfl ?_)
 refine ak rfl (bt 8 rfl aE rfl rfl ?_)
 refine s1 ((aa rfl).v (v':= .i .i64 0) rfl) rfl ?_
 refine ah<|ae<|af<|af<|ai<|s1 (aa rfl) rfl<|s1 (aa rfl) rfl<|s1 (aa rfl) rfl ?_
 refine jW 2 rfl rfl rfl rfl (fun hb16=> .step (aa rfl) rfl rfl<| .step (aa rfl) rfl rfl<| .done) rfl rfl ?_
 refine s1 (aa rfl) rfl ?_
 refine jW 2 rfl rfl rfl rfl (fun hb20=> .step (aa rfl) rfl rfl<| .step (aa rfl) rfl rfl<| .done) rfl rfl ?_
 refine s1 (aa rfl) rfl ?_
 refine jW 3 rfl rfl rfl rfl (fun hb24=> .step (aa rfl) rfl rfl<| .step (aa rfl) rfl rfl<| .step (aa rfl) rfl rfl<| .done) rfl rfl ?_
 refine ah<|ae ?_
 refine aP rfl (fun hc28=>?_) (fun hc28=>?_)
 ·have hbad : ¬ fits a nn P.length := by intro h; unfold fits at h; simp at hc28; omega
  refine af<|ai<|s1 (aZ aE rfl rfl (by simp)) rfl ?_
  refine ak rfl (bo aE rfl rfl rfl (by simp) (by simp) ?_)
  refine s1 ((aa rfl).v (v':= .i .i64 1) rfl) rfl ?_
  refine ah<|ae<|aF<|aH ?_
  refine aG (rs:= [.cell 8 23,.tmp 9]) rfl (ct aE rfl rfl (List.take_of_length_le (by simp)) (by simp) (aD rfl aC)) ?_
  rw [ot,if_neg hbad]
  rfl
 ·have h28 : 1 ≤ nn ∧ nn ≤ 1099511627776 ∧ 0 ≤ a ∧ a < nn := by simp at hc28; omega
  obtain⟨i,rfl⟩:∃i:Nat,a=(i:Int):=⟨a.toNat,by omega⟩
  obtain⟨n,rfl⟩:∃n:Nat,nn=(n:Int):=⟨nn.toNat,by omega⟩
  have hn1:1≤n:=by omega
  have hn:n≤1099511627776:=by omega
  have hi:i<n:=by omega
  refine aK<|ae<|af<|ai<|s1 (aa rfl) rfl ?_
  refine ah<|ae<|af<|aM ?_
  refine bH (ι:=List Bool×Nat×Nat) (fun⟨ds,i2,n2⟩=> [(1,.i .i64 (i2:Nat)),(2,.i .i64 (n2:Nat)),(3,bD P),(4,.p 4 0),(8,.p 8 0),(10,.sl 10 1 0 ds.length)]) (fun⟨ds,i2,n2⟩=>⟨[(4,some (d.map u8)),(8,some (List.replicate 32 (u8 0))),(10,some (ds.map A.b))]⟩) (fun⟨ds,i2,n2⟩=>dC i n=ds++dC i2 n2∧1≤n2∧i2<n2∧n2≤n∧ds.length+(dC i2 n2).length≤n) (fun⟨ds,i2,n2⟩=>n2) ?_ ?_
  ·exact bG (([],i,n)) (⟨rfl,hn1,hi,Nat.le_refl _,by have:=tY _ i n (Nat.le_refl _);simpa using this⟩) [(4,some 4),(8,some 8),(10,none)] hI rfl rfl ⟨⟨_,rfl,.pure pu⟩,⟨_,rfl,.pure pu⟩,⟨_,rfl,.pure pu⟩,⟨_,rfl,.p rfl⟩,⟨_,rfl,.p rfl⟩,⟨_,rfl,.nl rfl⟩,trivial⟩ ⟨.inr ⟨_,_,rfl,rfl,.pure ar⟩,.inr ⟨_,_,rfl,rfl,.pure ar⟩,.inl ⟨rfl,rfl⟩,trivial⟩
  rintro⟨ds,i2,n2⟩ ⟨hr,h1,hi2,hn2,hlen⟩
  dsimp only
  refine af<|af<|ai<|s1 (aa rfl) rfl<|s1 (aa rfl) rfl ?_
  refine ah<|ae ?_
  refine aP rfl (fun hc31=>?_) (fun hc31=>?_)
  ·have h31 : 2 ≤ n2 := by have := of_decide_eq_true hc31; omega
   have hh:=fU h31
   refine aK<|ae<|aM<|af<|ai<|s1 (aa rfl) rfl ?_
   refine ak rfl (aJ false rfl (.cons (.pure pu) (.nil)) (wQ n2 (by omega) (by omega)) pu (.inl rfl) rfl ?_)
   refine s1 (aa rfl) rfl ?_
   refine ah<|ae<|af<|ai<|s1 (aa rfl) rfl<|s1 (aa rfl) rfl<|s1 (aa rfl) rfl<|s1 (aa rfl) rfl ?_
   refine ak rfl (dZ 38 rfl Tryz.underlying205 ux rfl rfl rfl rfl rfl ?_)
   refine ak rfl (cY 39 rfl Tryz.underlying205 ux rfl (.sl rfl (by simp)) rfl (cO rfl (by first|rfl|omega|(simp<;>omega)|(simp [*]<;>omega)|(simp [aL.len, -List.length_flatten, *]<;>omega))) (by first|rfl|omega|(simp<;>omega)|(simp [*]<;>omega)|(simp [aL.len, -List.length_flatten, *]<;>omega)) (by simp only [maxLen];omega) (by omega) rfl rfl rfl ?_)
   refine s1 (aa rfl) rfl ?_
   refine ah<|ae<|af<|ai<|s1 (aa rfl) rfl<|s1 (aa rfl) rfl<|s1 (aa rfl) rfl ?_
   refine ah<|ae ?_
   refine aP rfl (fun hc42=>?_) (fun hc42=>?_)
   ·have h42 : (i2 : Int) ≥ (a8 n2) := of_decide_eq_true hc42
    have h42n:¬i2<(a8 n2):=by omega
    refine ai<|s1 (aa rfl) rfl<|s1 (aa rfl) rfl<|s1 (dD i2 (a8 n2) rfl rfl rfl rfl (by omega) (by omega)) rfl<|s1 (aa rfl) rfl<|s1 (aa rfl) rfl<|s1 (dD n2 (a8 n2) rfl rfl rfl rfl (by omega) (by omega)) rfl<|s1 (aa rfl) rfl<|s1 (aa rfl) rfl ?_
    refine ah<|bj ?_
    exact bu (x:=(ds,i2,n2)) ((ds++ [true],i2 - (a8 n2),n2 - (a8 n2))) (⟨by rw [hr,qS (by omega) h42n];simp,by dsimp only;omega,by dsimp only;omega,by dsimp only;omega,by rw [qS (by omega) h42n,List.length_cons]at hlen;dsimp only;rw [List.length_append];simp;omega⟩) (by dsimp only;omega) [(4,some 4),(8,some 8),(10,some 39)] hI rfl rfl ⟨⟨_,rfl,.pure pu⟩,⟨_,rfl,.pure pu⟩,⟨_,rfl,.pure pu⟩,⟨_,rfl,.p rfl⟩,⟨_,rfl,.p rfl⟩,⟨_,rfl,.sl rfl (by first|rfl|omega|(simp<;>omega)|(simp [*]<;>omega)|(simp [aL.len, -List.length_flatten, *]<;>omega))⟩,trivial⟩ ⟨.inr ⟨_,_,rfl,rfl,.pure ar⟩,.inr ⟨_,_,rfl,rfl,.pure ar⟩,.inr ⟨_,_,rfl,rfl,.of (by simp [h42]) (.pure ar)⟩,trivial⟩
   ·have h42 : ¬ (i2 : Int) ≥ (a8 n2) := of_decide_eq_false hc42
    have h42n:i2<(a8 n2):=by omega
    refine ai<|s1 (aa rfl) rfl<|s1 (aa rfl) rfl ?_
    refine ah<|bj ?_
    exact bu (x:=(ds,i2,n2)) ((ds++ [false],i2,(a8 n2))) (⟨by rw [hr,qQ (by omega) h42n];simp,by dsimp only;omega,by dsimp only;omega,by dsimp only;omega,by rw [qQ (by omega) h42n,List.length_cons]at hlen;dsimp only;rw [List.length_append];simp;omega⟩) (by dsimp only;omega) [(4,some 4),(8,some 8),(10,some 39)] hI rfl rfl ⟨⟨_,rfl,.pure pu⟩,⟨_,rfl,.pure pu⟩,⟨_,rfl,.pure pu⟩,⟨_,rfl,.p rfl⟩,⟨_,rfl,.p rfl⟩,⟨_,rfl,.sl rfl (by first|rfl|omega|(simp<;>omega)|(simp [*]<;>omega)|(simp [aL.len, -List.length_flatten, *]<;>omega))⟩,trivial⟩ ⟨.inr ⟨_,_,rfl,rfl,.pure ar⟩,.inr ⟨_,_,rfl,rfl,.pure ar⟩,.inr ⟨_,_,rfl,rfl,.of (by simp [h42]) (.pure ar)⟩,trivial⟩
  ·have h31 : n2 = 1 := by have := of_decide_eq_false hc31; omega
   subst h31
   rw [oZ (Nat.le_refl _),List.append_nil]at hr
   subst hr
   refine bE<|aO<|aO<|bF<|ae<|af<|af<|ai<|s1 (aa rfl) rfl<|s1 (bx Tryz.underlying41 rfl rfl rfl) rfl<|s1 (aa rfl) rfl<|s1 (bx Tryz.underlying205 rfl rfl rfl) rfl<|s1 (aa rfl) rfl ?_
   refine ah<|ae ?_
   refine aP rfl (fun hc54=>?_) (fun hc54=>?_)
   ·have hbad : ¬ fits (i : Int) (n : Int) P.length := by
     intro h
     unfold fits at h
     have h5:=h.2.2.2.2
     rw [Int.toNat_natCast,Int.toNat_natCast]at h5
     have:=bne_iff_ne.1 hc54
     omega
    refine af<|ai<|s1 (aZ aE rfl rfl (by simp)) rfl ?_
    refine ak rfl (bo aE rfl rfl rfl (by simp) (by simp) ?_)
    refine s1 ((aa rfl).v (v':= .i .i64 1) rfl) rfl ?_
    refine ah<|ae<|aF<|aH ?_
    refine aG (rs:= [.cell 8 23,.tmp 9]) rfl (ct aE rfl rfl (List.take_of_length_le (by simp)) (by simp) (aD rfl aC)) ?_
    rw [ot,if_neg hbad]
    rfl
   ·have hP : P.length = (dC i n).length := by have := bne_eq_false_iff_eq.1 hc54; omega
    have hfit:fits (i:Int) (n:Int) P.length:=⟨by omega,by omega,by omega,by omega,by rw [Int.toNat_natCast,Int.toNat_natCast];exact hP⟩
    refine aK<|ae<|af<|ai<|s1 (gM Tryz.underlying23 aQ rfl rfl (by simp [hd]) (by simp [maxLen])) rfl ?_
    refine ak rfl (aJ true rfl (.cons (.pure pu) (.cons (.sl rfl rfl (by first|rfl|omega|(simp<;>omega)|(simp [*]<;>omega)|(simp [aL.len, -List.length_flatten, *]<;>omega)) (cD (by first|rfl|omega|(simp<;>omega)|(simp [*]<;>omega)|(simp [aL.len, -List.length_flatten, *]<;>omega)) (by first|rfl|(simp;done)|(simp [*];done))) (a7.pure ar) ar) (.nil))) (by have h:=ia [108,101,97,102] d (by omega) (by simp);rw [hd]at h;exact h) pu (.inr fu) rfl ?_)
    refine ak rfl (bo aE rfl rfl rfl (by simp) (by simp) ?_)
    refine ah<|ae<|af<|af<|ai<|s1 (aa rfl) rfl<|s1 (bx Tryz.underlying41 rfl rfl rfl) rfl<|s1 ((aa rfl).v (v':= .i .i64 0) rfl) rfl ?_
    refine ah<|ae<|aM ?_
    refine bH (ι:=Nat) (fun j=> [(8,.p 8 0),(10,.sl 10 1 0 (dC i n).length),(58,bD P),(59,.i .i64 (P.length:Nat)),(60,.i .i64 (j:Nat))]) (fun j=>⟨[(8,some ((fold ((dC i n).reverse.take j) (P.take j) (oJ d)).map u8)),(10,some ((dC i n).map A.b))]⟩) (fun j=>j≤P.length) (fun j=>P.length - j) ?_ ?_
    ·exact bG (0) (Nat.zero_le _) [(8,some 8),(10,some 10)] hI rfl rfl ⟨⟨_,rfl,.p rfl⟩,⟨_,rfl,.sl rfl (by first|rfl|omega|(simp<;>omega)|(simp [*]<;>omega)|(simp [aL.len, -List.length_flatten, *]<;>omega))⟩,⟨_,rfl,.pure pu⟩,⟨_,rfl,.pure pu⟩,⟨_,rfl,.pure pu⟩,trivial⟩ ⟨.inr ⟨_,_,rfl,rfl,.of (by rw [List.take_zero];rfl) (.pure ar)⟩,.inr ⟨_,_,rfl,rfl,.pure ar⟩,trivial⟩
    rintro j hj
    have hlf:(fold ((dC i n).reverse.take j) (P.take j) (oJ d)).length=32:=wZ _ _ _ (mn _ _)
    have hrl:=tY _ i n (Nat.le_refl _)
    refine af<|ai<|s1 (aa rfl) rfl ?_
    refine ah<|ae<|af ?_
    refine aP rfl (fun hc61=>?_) (fun hc61=>?_)
    ·have hj2 : j < P.length := by have := of_decide_eq_true hc61; omega
     obtain⟨q,hq⟩:∃q,P[j]? =some q:=⟨_,List.getElem?_eq_getElem hj2⟩
     have hq32:q.length=32:=hD q (List.mem_of_getElem? hq)
     obtain⟨b,hb⟩:∃b,(dC i n).reverse[j]? =some b:=⟨_,List.getElem?_eq_getElem (by simp;omega)⟩
     have hb2:(dC i n)[(dC i n).length - 1 - j]? =some b:=by rw [List.getElem?_reverse (by omega)]at hb;exact hb
     refine aK<|ae<|af<|aM<|af<|ai<|s1 (aa rfl) rfl<|s1 (aT j Tryz.underlying41 aE rfl rfl rfl (by omega) rfl) rfl<|s1 (cm aE rfl rfl (H9 hD hq) (by simp [hq32])) rfl ?_
     refine ak rfl (bt 13 rfl aE rfl rfl ?_)
     refine s1 (aa rfl) rfl ?_
     refine ak rfl (bo aE rfl rfl rfl (by simp [hq32]) (by simp) ?_)
     refine ah<|ae<|af<|ai<|s1 (aa rfl) rfl<|s1 (aa rfl) rfl<|s1 (bx Tryz.underlying205 rfl rfl rfl) rfl<|s1 (dD (dC i n).length 1 rfl rfl rfl rfl (by omega) (by omega)) rfl<|s1 (aa rfl) rfl<|s1 (dD ((dC i n).length - 1) j rfl rfl rfl rfl (by omega) (by omega)) rfl<|s1 (lX ((dC i n).length - 1 - j) Tryz.underlying205 ux rfl rfl rfl rfl (by omega) rfl) rfl<|s1 (au ux rfl rfl (H8 hb2)) rfl ?_
     refine ah<|ae ?_
     refine aP rfl (fun hc72=>?_) (fun hc72=>?_)
     ·skip
      refine ai<|s1 (aZ aE rfl rfl (by simp [hq32])) rfl<|s1 (aZ aE rfl rfl (by simp [hlf])) rfl ?_
      refine ak rfl (aJ false rfl (.cons (.pure pu) (.cons (.pure pu) (.nil))) (xh (fun t b h1 h2=>ia t b (by omega) (by omega)) q _ hq32 hlf) pu (.inl rfl) rfl ?_)
      refine ak rfl (bo aE rfl rfl rfl (by simp) (by simp [hlf]) ?_)
      refine ah<|bj<|ae<|ai<|s1 (bg _ 1 rfl rfl rfl rfl (by omega)) rfl<|s1 (aa rfl) rfl ?_
      refine ah ?_
      exact bu (j+1) (by omega) (by omega) [(8,some 8),(10,some 10)] hI rfl rfl ⟨⟨_,rfl,.p rfl⟩,⟨_,rfl,.sl rfl (by first|rfl|omega|(simp<;>omega)|(simp [*]<;>omega)|(simp [aL.len, -List.length_flatten, *]<;>omega))⟩,⟨_,rfl,.pure pu⟩,⟨_,rfl,.pure pu⟩,⟨_,rfl,.pure pu⟩,trivial⟩ ⟨.inr ⟨_,_,rfl,rfl,.of (by rw [A6 hb hq,if_pos hc72];rfl) (.pure ar)⟩,.inr ⟨_,_,rfl,rfl,.pure ar⟩,trivial⟩
     ·skip
      refine ai<|s1 (aZ aE rfl rfl (by simp [hlf])) rfl<|s1 (aZ aE rfl rfl (by simp [hq32])) rfl ?_
      refine ak rfl (aJ false rfl (.cons (.pure pu) (.cons (.pure pu) (.nil))) (xh (fun t b h1 h2=>ia t b (by omega) (by omega)) _ q hlf hq32) pu (.inl rfl) rfl ?_)
      refine ak rfl (bo aE rfl rfl rfl (by simp) (by simp [hlf]) ?_)
      refine ah<|bj<|ae<|ai<|s1 (bg _ 1 rfl rfl rfl rfl (by omega)) rfl<|s1 (aa rfl) rfl ?_
      refine ah ?_
      exact bu (j+1) (by omega) (by omega) [(8,some 8),(10,some 10)] hI rfl rfl ⟨⟨_,rfl,.p rfl⟩,⟨_,rfl,.sl rfl (by first|rfl|omega|(simp<;>omega)|(simp [*]<;>omega)|(simp [aL.len, -List.length_flatten, *]<;>omega))⟩,⟨_,rfl,.pure pu⟩,⟨_,rfl,.pure pu⟩,⟨_,rfl,.pure pu⟩,trivial⟩ ⟨.inr ⟨_,_,rfl,rfl,.of (by rw [A6 hb hq,if_neg (by rw [hc72];decide)];rfl) (.pure ar)⟩,.inr ⟨_,_,rfl,rfl,.pure ar⟩,trivial⟩
    ·have hj2 : j = P.length := by have := of_decide_eq_false hc61; omega
     subst hj2
     have hct:fold ((dC i n).reverse.take P.length) (P.take P.length) (oJ d)=iq d i n P:=by rw [List.take_length,List.take_of_length_le (by simp;omega)];rfl
     refine bE<|aO<|aO<|bF<|ae<|af ?_
     refine cV 8 rfl (cs':=(iq d i n P).map u8) (by rw [hct]) ?_
     refine ai<|s1 (aZ aE rfl rfl (by simp)) rfl ?_
     refine ak rfl (bo aE rfl rfl rfl (by simp) (by simp) ?_)
     refine s1 ((aa rfl).v (v':= .i .i64 0) rfl) rfl ?_
     refine ah<|ae<|aF ?_
     refine aG (rs:= [.cell 8 23,.tmp 9]) rfl (ct aE rfl rfl (List.take_of_length_le (by simp)) (by simp) (aD rfl aC)) ?_
     rw [ot,if_pos hfit,Int.toNat_natCast,Int.toNat_natCast]
     rfl
end Go.Abs.D2
-- K6B
namespace Go.Abs.D2
open Go Go.Eng Go.Abs Go.Proofs
theorem Mp (x:List UInt8) (a:Int) (hx:x.length=32):aB Tryz.prog 50 [.s [108,101,97,102],.fz 36 ((x++eF a 4).map u8)] (aU (.ag ((fE x a).map u8))):=by
  have e2:(x++eF a 4).length=36:=by simp [hx]
  rw [Dz, ←e2];exact ia _ _ (by omega) (by simp)
theorem DA (x:List UInt8) (a:Int) (hx:x.length=32):aB Tryz.prog 89 [.ag (x.map u8),.i .i64 a] (aU (.ag ((fE x a).map u8))):=by
 refine enter Tryz.func89 rfl Tryz.ntmps89 (by kernel_rfl) (Nat.le_of_ble_eq_true rfl) fun w0 X0 hI=>?_
 refine af<|ai ?_
 refine ak rfl (bY 2 rfl rfl rfl ?_)
 refine ak rfl (bt 4 rfl aE rfl rfl ?_)
 refine ah<|ae<|af<|ai ?_
 refine ak rfl (bt 5 rfl Mv rfl rfl ?_)
 refine ah<|ae<|af ?_
 refine dH 2 bz (by kernel_rfl) ?_
 refine t1 (gM Tryz.underlying175 aQ rfl rfl (by simp) (by simp [maxLen])) rfl<|t1 (gM Tryz.underlying23 aQ rfl rfl (by simp [hx]) (by simp [maxLen])) rfl ?_
 refine dI ?_
 refine ak rfl (Jw Tryz.underlying68 aQ rfl rfl rfl (cO rfl (by simp [hx])) (by first|rfl|omega|(simp<;>omega)|(simp [*]<;>omega)) (by first|omega|(simp only [maxLen];omega)|(simp [maxLen];done)|(simp [maxLen];omega)|(simp [maxLen, *];omega)) (by first|omega|(simp only [maxLen];omega)|(simp [maxLen];done)|(simp [maxLen];omega)|(simp [maxLen, *];omega)) (by first|omega|(simp only [maxLen];omega)|(simp [maxLen];done)|(simp [maxLen];omega)|(simp [maxLen, *];omega)) (Gz (a:=a)) rfl ?_)
 refine ah<|ae<|af<|af<|ai<|s1 ((aa rfl).v (v':= .i .i64 0) rfl) rfl ?_
 refine ah<|ae<|aM ?_
 refine bH (ι:=Nat) (fun i=> [(1,.i .i64 a),(4,.p 4 0),(5,.p 5 0),(10,.i .i64 (i:Nat))]) (fun i=>⟨[(4,some (zD.map u8)),(5,some ((x++eF a i++List.replicate (4 - i) 0).map u8))]⟩) (fun i=>i≤4) (fun i=>4 - i) ?_ ?_
 ·exact bG (0) (Nat.zero_le _) [(4,some 4),(5,some 5)] hI rfl rfl ⟨⟨_,rfl,.pure pu⟩,⟨_,rfl,.p rfl⟩,⟨_,rfl,.p rfl⟩,⟨_,rfl,.pure pu⟩,trivial⟩ ⟨.inr ⟨_,_,rfl,rfl,.pure ar⟩,.inr ⟨_,_,rfl,rfl,.pure ar⟩,trivial⟩
 rintro i hi
 refine af<|ai<|s1 (aa rfl) rfl ?_
 refine ah<|ae<|af ?_
 refine aP rfl (fun hc11=>?_) (fun hc11=>?_)
 ·have h11 : i < 4 := by have := of_decide_eq_true hc11; omega
  refine aK<|ae<|af<|aM<|af<|ai<|s1 (aa rfl) rfl<|s1 (aa rfl) rfl ?_
  refine ah<|ae<|ai<|s1 (aa rfl) rfl<|s1 (bg 32 i rfl rfl rfl rfl (by omega)) rfl<|s1 (aa rfl) rfl<|s1 (aa rfl) rfl<|s1 (iy 8 i rfl rfl rfl rfl (by omega)) rfl<|s1 (dD 24 (8*i) rfl rfl rfl rfl (by omega) (by omega)) rfl<|s1 (lf rfl rfl (by omega)) rfl<|s1 ((cU Tryz.underlying3 Tryz.underlying5 rfl).v (ue a i h11)) rfl<|s1 (bJ (32+i) Tryz.underlying175 aQ rfl rfl rfl (by omega) rfl) rfl ?_
  refine ak rfl (bZ aQ rfl rfl rfl rfl (by simp [hx];omega) (LN hx a i h11) ?_)
  refine ah<|bj<|ae<|ai<|s1 (bg _ 1 rfl rfl rfl rfl (by omega)) rfl<|s1 (aa rfl) rfl ?_
  refine ah ?_
  exact bu (i+1) (by omega) (by omega) [(4,some 4),(5,some 5)] hI rfl rfl ⟨⟨_,rfl,.pure pu⟩,⟨_,rfl,.p rfl⟩,⟨_,rfl,.p rfl⟩,⟨_,rfl,.pure pu⟩,trivial⟩ ⟨.inr ⟨_,_,rfl,rfl,.pure ar⟩,.inr ⟨_,_,rfl,rfl,.of (by rfl) (.pure ar)⟩,trivial⟩
 ·have h11 : i = 4 := by have := of_decide_eq_false hc11; omega
  subst h11
  refine bE<|aO<|aO<|bF<|ae<|af<|ai<|s1 (gM Tryz.underlying175 aQ rfl rfl (by simp [hx]) (by simp [maxLen])) rfl ?_
  refine ak rfl (aJ true rfl (.cons (.pure pu) (.cons (.sl rfl rfl rfl (cD (by simp [hx]) (by simp)) (a7.pure ar) ar) .nil)) (Mp x a hx) pu (.inr fu) rfl ?_)
  refine ak rfl (bo aE rfl rfl rfl (by first|rfl|omega|(simp<;>omega)|(simp [*]<;>omega)) (by first|rfl|omega|(simp<;>omega)|(simp [*]<;>omega)) ?_)
  refine ah<|ae<|aF ?_
  refine aG (rs:= [.cell 4 23]) rfl (ct aE rfl rfl (List.take_of_length_le (by simp)) (by simp) aC) rfl
theorem KD (x:List UInt8) (n:Nat):aB Tryz.prog 94 [.ag (x.map u8),nI n] (aU (.fn (.func 144) [] [.fp [nI n],.fp (x.map u8)])):=by
 refine enter Tryz.func94 rfl Tryz.ntmps94 (by kernel_rfl) (Nat.le_of_ble_eq_true rfl) fun w0 X0 hI=>?_
 refine af<|ai ?_
 refine ak rfl (bY 2 rfl rfl rfl ?_)
 refine ak rfl (kO 3 rfl rfl rfl rfl ?_)
 refine s1 (aa rfl) rfl ?_
 refine ah<|ae<|af ?_
 refine fh 2 rfl rfl ar ?_
 refine fh 3 rfl rfl ar ?_
 refine ai<|s1 (gx (us:= []) (vs:= [.fp [nI n],.fp (x.map u8)]) rfl rfl) rfl<|s1 (aa rfl) rfl ?_
 refine ah<|ae<|aF ?_
 refine aG (rs:= [.tmp 4]) rfl (aD rfl aC) rfl
theorem Fe (x:List UInt8) (n:Nat) (hx:x.length=32) (hn:n≤256):aB Tryz.prog 143 [.nl,.fn (.func 144) [] [.fp [nI n],.fp (x.map u8)]] (dh 32 n ((dt x n).flatten.map u8)):=by
 refine ov Tryz.func143 rfl Tryz.ntmps143 (by kernel_rfl) (Nat.le_of_ble_eq_true rfl) fun w0 X0 hI hS=>?_
 refine af<|ai ?_
 refine ak rfl (kO 2 rfl rfl rfl rfl ?_)
 refine s1 (aa rfl) rfl ?_
 refine ah<|ae<|af<|af<|ai<|s1 (aa rfl) rfl ?_
 refine ah<|ae<|aM ?_
 refine vl [2] [(0,_),(1,_),(2,_),(4,_),(6,_)] hI rfl ⟨rfl,⟨rfl,⟨rfl,⟨rfl,⟨rfl,trivial⟩⟩⟩⟩⟩ (by first|rfl|(simp [jA,jE,refs,ep,mz,mA,cw];done)) rfl Tryz.func144 rfl Tryz.ntmps144 (by kernel_rfl) (Nat.le_of_ble_eq_true rfl) fun w1 l1 D1 rc1 hR1=>?_
 refine af<|ai<|s1 (au an rfl rfl rfl) rfl<|s1 ((aa rfl).v (v':= .i .i64 0) rfl) rfl ?_
 refine ah<|ae<|aM ?_
 refine bH (ι:=Nat) (fun i=> [(0,yv l1),(1,.fp [nI n]),(2,.fp (x.map u8)),(5,nI n),(6,nI i)]) (fun i=>⟨[(2,some ([.sl 11 32 0 i])),(11,some ((dt x i).flatten.map u8))]⟩) (fun i=>i≤n) (fun i=>n - i) ?_ ?_
 ·exact bG (0) (Nat.zero_le _) [(2,some 2),(11,none)] hR1.sub.ids rfl rfl ⟨⟨_,rfl,.pure trivial⟩,⟨_,rfl,.pure pu⟩,⟨_,rfl,.pure pu⟩,⟨_,rfl,.pure pu⟩,⟨_,rfl,.pure pu⟩,trivial⟩ ⟨.inr ⟨_,_,rfl,rfl,.cons (.nl rfl) .nil⟩,.inl ⟨rfl,rfl⟩,trivial⟩
 rintro i hi
 have hfl:=(mN x i).len
 rw [len_kpubs]at hfl
 refine af<|ai<|s1 (aa rfl) rfl ?_
 refine ah<|ae<|af ?_
 refine aP rfl (fun hc7=>?_) (fun hc7=>?_)
 ·have h7 : i < n := by have := of_decide_eq_true hc7; omega
  refine aK<|ae<|af<|aM<|af<|ai<|s1 (aa rfl) rfl<|s1 (aa rfl) rfl ?_
  refine ah<|ae<|af<|ai<|s1 (aa rfl) rfl<|s1 (cm aE rfl rfl (List.take_of_length_le (by simp [hx])) (by simp [hx])) rfl<|s1 (aa rfl) rfl ?_
  refine ak rfl (aJ false rfl (.cons (.pure pu) (.cons (.pure pu) (.nil))) (DA x (i:Nat) hx) pu (.inl rfl) rfl ?_)
  refine ak rfl (aJ false rfl (.cons (.pure pu) (.nil)) (KC (fE x (i:Nat)) (by simp)) pu (.inl rfl) rfl ?_)
  refine rV [2] [(0,_),(1,_),(2,_),(4,_),(5,_),(6,_),(7,_),(8,_),(9,_),(10,_),(11,_),(12,_),(13,_)] hR1 hR1.sub.ids rfl ⟨rfl,⟨rfl,⟨rfl,⟨rfl,⟨rfl,⟨rfl,⟨rfl,⟨rfl,⟨rfl,⟨rfl,⟨rfl,⟨rfl,⟨rfl,trivial⟩⟩⟩⟩⟩⟩⟩⟩⟩⟩⟩⟩⟩ (by first|rfl|(simp [jA,jE,refs,ep,mz,mA,cw];done)) rfl rfl rfl rfl rfl fun w2 tm2 hd2=>?_
  refine ai ?_
  refine ak rfl (bt 5 rfl aE rfl rfl ?_)
  refine ak rfl (bo aE rfl rfl rfl (by first|rfl|omega|(simp<;>omega)|(simp [*]<;>omega)) (by first|rfl|omega|(simp<;>omega)|(simp [*]<;>omega)) ?_)
  refine ah ?_
  refine rS hd2 fun w3 hd3=>?_
  refine aM<|ai<|s1 (au ky rfl rfl rfl) rfl<|s1 (aZ aE rfl rfl (by first|rfl|omega|(simp<;>omega)|(simp [*]<;>omega))) rfl ?_
  refine ak rfl (fX 10 rfl Tryz.underlying41 aE rfl rfl rfl (by first|(simp [aX];done)|(simp [aX, *];done)) (List.append_nil ((my (fE x (i:Nat))).map u8)) rfl rfl rfl ?_)
  refine ak rfl (cY 111 rfl Tryz.underlying41 aE rfl (.sl rfl (by rw [List.length_map];exact hfl)) rfl (cO rfl (by first|rfl|omega|(simp<;>omega)|(simp [*]<;>omega))) (by simp) (by simp only [maxLen];omega) (by omega) rfl rfl rfl ?_)
  refine ak rfl (bZ ky rfl rfl rfl rfl (by first|rfl|omega|(simp<;>omega)|(simp [*]<;>omega)) rfl ?_)
  refine ah<|bj ?_
  refine rU hR1 hd3 rfl ?_
  refine s1 (aa rfl) rfl ?_
  refine ah<|ae ?_
  refine cK rfl ?_
  refine aK<|bj<|ae<|ai<|s1 (bg _ 1 rfl rfl rfl rfl (by omega)) rfl<|s1 (aa rfl) rfl ?_
  refine ah ?_
  exact bu (i+1) (by omega) (by omega) [(2,some 2),(11,some 111)] hR1.sub.ids rfl rfl ⟨⟨_,rfl,.pure trivial⟩,⟨_,rfl,.pure pu⟩,⟨_,rfl,.pure pu⟩,⟨_,rfl,.pure pu⟩,⟨_,rfl,.pure pu⟩,trivial⟩ ⟨.inr ⟨_,_,rfl,rfl,.cons (.sl rfl (by first|rfl|omega|(simp<;>omega)|(simp [*]<;>omega))) .nil⟩,.inr ⟨_,_,rfl,rfl,.of (Iz x i) (.pure ar)⟩,trivial⟩
 ·have h7 : i = n := by have := of_decide_eq_false hc7; omega
  subst h7
  refine bE<|aO<|aO<|bF ?_
  refine vj rfl hR1 hS ?_
  refine bj<|ae<|af<|ai<|s1 (au ky rfl rfl rfl) rfl<|s1 (aa rfl) rfl ?_
  refine ah<|ae<|aF ?_
  refine pR (rs:= [.tmp 4]) rfl rfl rfl hS (dn:= [D1]) rfl rfl (by simp) rfl (aD rfl aC) ⟨11,rfl,rfl⟩
theorem Gu (x:List UInt8) (n:Nat) (hx:x.length=32) (hn:n≤256):aB Tryz.prog 93 [.fn (.func 144) [] [.fp [nI n],.fp (x.map u8)]] (aU (bD (dt x n))):=by
 refine enter Tryz.func93 rfl Tryz.ntmps93 (by kernel_rfl) (Nat.le_of_ble_eq_true rfl) fun w0 X0 hI=>?_
 refine af<|ai<|s1 (aa rfl) rfl ?_
 refine ah<|ae<|af<|ai<|s1 (aa rfl) rfl ?_
 refine ak rfl (iK 4 rfl false rfl (.cons (.pure pu) (.cons (.pure pu) .nil)) (Fe x n hx hn) ar (.inl rfl) rfl ?_)
 refine s1 (aa rfl) rfl ?_
 refine ah<|ae<|aF ?_
 refine gz 2 rfl rfl ar (cD (by rw [List.length_map,(mN x n).len,len_kpubs]) rfl) ?_
 refine aG (rs:= [.tmp 2]) rfl (aD rfl aC) ?_
 exact congrArg (fun z=>A.fz z _) (len_kpubs x n).symm
theorem tS (x:List UInt8) (n:Int) (hx:x.length=32):aB Tryz.prog 44 [.ag (x.map u8),.i .i64 n] (aU (if cv n then .tu [bD (dt x n.toNat),.i .i64 0]else .tu [.nl,.i .i64 60])):=by
 refine enter Tryz.func44 rfl Tryz.ntmps44 (by kernel_rfl) (Nat.le_of_ble_eq_true rfl) fun w0 X0 hI=>?_
 refine af<|ai ?_
 refine ak rfl (bY 2 rfl rfl rfl ?_)
 refine s1 (aa rfl) rfl<|s1 ((aa rfl).v (v':= .i .i64 0) rfl) rfl ?_
 refine ah<|ae<|af<|af<|ai<|s1 (aa rfl) rfl<|s1 (aa rfl) rfl<|s1 (aa rfl) rfl ?_
 refine jW 2 rfl rfl rfl rfl (fun hb8=> .step (aa rfl) rfl rfl<| .step (aa rfl) rfl rfl<| .done) rfl rfl ?_
 refine ah<|ae ?_
 refine aP rfl (fun hc11=>?_) (fun hc11=>?_)
 ·have hcs : ¬ cv n := by intro h; unfold cv at h; simp at hc11; omega
  refine af<|ai<|s1 (aa rfl) rfl<|s1 ((aa rfl).v (v':= .i .i64 60) rfl) rfl ?_
  refine ah<|ae<|aF<|aH ?_
  refine aG (rs:= [.tmp 4,.tmp 5]) rfl (aD rfl (aD rfl aC)) ?_
  exact(if_neg hcs).symm
 ·have hcs : cv n := by unfold cv; simp at hc11; omega
  have hsz:=hcs
  obtain⟨k,rfl,h1,h2⟩:=ug hcs
  refine aK<|ae<|af<|ai<|s1 (aZ aE rfl rfl (by first|rfl|omega|(simp<;>omega)|(simp [*]<;>omega))) rfl<|s1 (aa rfl) rfl ?_
  refine ak rfl (aJ false rfl (.cons (.pure pu) (.cons (.pure pu) (.nil))) (KD x k) pu (.inl rfl) rfl ?_)
  refine ak rfl (aJ false rfl (.cons (.pure pu) (.nil)) (Gu x k hx h2) pu (.inl rfl) rfl ?_)
  refine s1 (aa rfl) rfl<|s1 ((aa rfl).v (v':= .i .i64 0) rfl) rfl ?_
  refine ah<|ae<|aF ?_
  refine aG (rs:= [.tmp 4,.tmp 5]) rfl (aD rfl (aD rfl aC)) ?_
  exact(if_pos hsz).symm
theorem La (x:List UInt8) (n:Int) (hx:x.length=32):aB Tryz.prog 27 [.ag (x.map u8),.i .i64 n] (aU (rootA x n)):=by
 refine enter Tryz.func27 rfl Tryz.ntmps27 (by kernel_rfl) (Nat.le_of_ble_eq_true rfl) fun w0 X0 hI=>?_
 refine af<|ai ?_
 refine ak rfl (bY 2 rfl rfl rfl ?_)
 refine ak rfl (bt 4 rfl aE rfl rfl ?_)
 refine s1 ((aa rfl).v (v':= .i .i64 0) rfl) rfl ?_
 refine ah<|ae<|af ?_
 rcases(Decidable.em (cv n)).symm with hcs|hcs
 ·skip
  refine ai<|s1 (aZ aE rfl rfl (by first|rfl|omega|(simp<;>omega)|(simp [*]<;>omega))) rfl<|s1 (aa rfl) rfl ?_
  refine ak rfl (aJ false rfl (.cons (.pure pu) (.cons (.pure pu) (.nil))) (aB.cast (tS x n hx) (if_neg hcs)) pu (.inl rfl) rfl ?_)
  refine s1 (aa rfl) rfl<|s1 (aa rfl) rfl<|s1 (aa rfl) rfl<|s1 (aa rfl) rfl<|s1 (aa rfl) rfl ?_
  refine ah<|ae<|af<|af<|ai<|s1 (aa rfl) rfl<|s1 ((aa rfl).v (v':= .b true) (rfl)) rfl ?_
  refine ah<|ae ?_
  refine bT rfl ?_
  refine af<|ai<|s1 (aZ aE rfl rfl (by first|rfl|omega|(simp<;>omega)|(simp [*]<;>omega))) rfl<|s1 (aa rfl) rfl ?_
  refine ak rfl (bo aE rfl rfl rfl (by first|rfl|omega|(simp<;>omega)|(simp [*]<;>omega)) (by first|rfl|omega|(simp<;>omega)|(simp [*]<;>omega)) ?_)
  refine s1 (aa rfl) rfl ?_
  refine ah<|ae<|aF<|aH ?_
  refine aG (rs:= [.cell 4 23,.tmp 5]) rfl (ct aE rfl rfl (List.take_of_length_le (by simp)) (by simp) (aD rfl aC)) ?_
  exact(K7 hcs).symm
 ·have hsz := hcs
  obtain⟨k,rfl,h1,h2⟩:=ug hcs
  refine ai<|s1 (aZ aE rfl rfl (by first|rfl|omega|(simp<;>omega)|(simp [*]<;>omega))) rfl<|s1 (aa rfl) rfl ?_
  refine ak rfl (aJ false rfl (.cons (.pure pu) (.cons (.pure pu) (.nil))) (aB.cast (tS x k hx) (if_pos hsz)) pu (.inl rfl) rfl ?_)
  refine s1 (aa rfl) rfl<|s1 (aa rfl) rfl<|s1 (aa rfl) rfl<|s1 (aa rfl) rfl<|s1 (aa rfl) rfl ?_
  refine ah<|ae<|af<|af<|ai<|s1 (aa rfl) rfl<|s1 ((aa rfl).v (v':= .b false) (rfl)) rfl ?_
  refine ah<|ae ?_
  refine cK rfl ?_
  refine aK<|ae<|af<|ai<|s1 (aa rfl) rfl ?_
  refine ak rfl (aJ false rfl (.cons (.pure pu) (.nil)) (py _ (dt x k) (Nat.le_refl _) (mN x k) (by simp;omega)) pu (.inl rfl) rfl ?_)
  refine ak rfl (bo aE rfl rfl rfl (by first|rfl|omega|(simp<;>omega)|(simp [*]<;>omega)) (by first|rfl|omega|(simp<;>omega)|(simp [*]<;>omega)) ?_)
  refine s1 ((aa rfl).v (v':= .i .i64 0) rfl) rfl ?_
  refine ah<|ae<|aF ?_
  refine aG (rs:= [.cell 4 23,.tmp 5]) rfl (ct aE rfl rfl (List.take_of_length_le (by simp)) (by simp) (aD rfl aC)) ?_
  exact(K8 hsz).symm
end Go.Abs.D2
-- C5E
namespace Go.Abs.D2
open Go Go.Eng Go.Abs Go.Proofs
end Go.Abs.D2
-- K6D
namespace Go.Abs.D2
open Go Go.Eng Go.Abs Go.Proofs
theorem MF (n:Int):aB Tryz.prog 127 [.fp [.i .i64 n]] (aU (.b (decide (cv n)))):=by
 refine enter Tryz.func127 rfl Tryz.ntmps127 (by kernel_rfl) (Nat.le_of_ble_eq_true rfl) fun w0 X0 hI=>?_
 refine af<|ai<|s1 (aa rfl) rfl ?_
 refine ah<|ae<|af<|ai<|s1 (au an rfl rfl rfl) rfl<|s1 (aa rfl) rfl<|s1 (aa rfl) rfl ?_
 refine dG 2 rfl rfl rfl rfl (fun hb4=> .step (au an rfl rfl rfl) rfl rfl<| .step (aa rfl) rfl rfl<| .done) rfl rfl ?_
 refine s1 (aa rfl) rfl ?_
 refine ah<|ae<|aF ?_
 refine aG (rs:= [.tmp 1]) rfl (aD rfl aC) ?_
 exact congrArg A.b (by rw [Bool.eq_iff_iff,decide_eq_true_eq];simp [cv])
theorem MG (a n:Int) (S P:List (List UInt8)):aB Tryz.prog 128 [.fp [.i .i64 a,bD S,bD P],.fp [.i .i64 n]] (aU (.b (decide (fQ n a)))):=by
 refine enter Tryz.func128 rfl Tryz.ntmps128 (by kernel_rfl) (Nat.le_of_ble_eq_true rfl) fun w0 X0 hI=>?_
 refine af<|ai<|s1 (aa rfl) rfl ?_
 refine ah<|ae<|af<|ai<|s1 (bd Tryz.underlying43 rfl an (by decide) rfl rfl) rfl<|s1 (au an rfl rfl rfl) rfl<|s1 (aa rfl) rfl<|s1 (aa rfl) rfl ?_
 refine dG 4 rfl rfl rfl rfl (fun hb6=> .step (bd Tryz.underlying43 rfl an (by decide) rfl rfl) rfl rfl<| .step (au an rfl rfl rfl) rfl rfl<| .step (au an rfl rfl rfl) rfl rfl<| .step (aa rfl) rfl rfl<| .done) rfl rfl ?_
 refine s1 (aa rfl) rfl ?_
 refine ah<|ae<|aF ?_
 refine aG (rs:= [.tmp 2]) rfl (aD rfl aC) ?_
 exact congrArg A.b (Fi n a)
theorem MH (m:List UInt8) (a:Int) (S P:List (List UInt8)) (hm:m.length=32) (hS:aL S):cE Tryz.prog 129 [.fp (m.map u8),.fp [.i .i64 a,bD S,bD P],.p 9 0] ⟨[(9,some (zD.map u8))]⟩ (gP (.b (decide (iP S=0))) [(9,(fq m S).map u8)]):=by
 refine qf Tryz.func129 rfl Tryz.ntmps129 (by kernel_rfl) (Nat.le_of_ble_eq_true rfl) fun w0 X0 hI=>?_
 refine af<|ai<|s1 (aa rfl) rfl ?_
 refine ah<|ae<|af<|ai<|s1 (cm aE rfl rfl (List.take_of_length_le (by simp [hm])) (by simp [hm])) rfl<|s1 (bd Tryz.underlying43 rfl ky (by decide) rfl rfl) rfl<|s1 (au ky rfl rfl rfl) rfl ?_
 refine ak rfl (aJ false rfl (.cons (.pure pu) (.cons (.pure pu) (.nil))) (KR m S hm hS) pu (.inl rfl) rfl ?_)
 refine s1 (aa rfl) rfl<|s1 (aa rfl) rfl<|s1 (aa rfl) rfl ?_
 refine ak rfl (bt 4 rfl aE rfl rfl ?_)
 refine ak rfl (bo aE rfl rfl rfl (by first|rfl|omega|(simp<;>omega)|(simp [*]<;>omega)) (by first|rfl|omega|(simp<;>omega)|(simp [*]<;>omega)) ?_)
 refine s1 (aa rfl) rfl ?_
 refine ah<|ae<|af<|ai<|s1 (aZ aE rfl rfl (by first|rfl|omega|(simp<;>omega)|(simp [*]<;>omega))) rfl ?_
 refine ak rfl (bo aE rfl rfl rfl (by first|rfl|omega|(simp<;>omega)|(simp [*]<;>omega)) (by first|rfl|omega|(simp<;>omega)|(simp [*]<;>omega)) ?_)
 refine ah<|ae<|af<|ai<|s1 (aa rfl) rfl<|s1 ((aa rfl).v (v':= .b (decide (iP S=0))) (congrArg A.b (KQ S))) rfl<|s1 (aa rfl) rfl ?_
 refine ah<|ae<|aF ?_
 refine aG (rs:= [.tmp 3]) rfl (aD rfl aC) (nD rfl)
theorem MI (r m:List UInt8) (n a:Int) (S P:List (List UInt8)) (hr:r.length=32) (hP:aL P):cE Tryz.prog 131 [.p 9 0,.fp [.i .i64 a,bD S,bD P],.fp [.i .i64 n],.fp (r.map u8)] ⟨[(9,some ((fq m S).map u8))]⟩ (gP (.b ((kI a n P.length==0)&&(jj (fq m S) a n P==r))) [(9,(fq m S).map u8)]):=by
 refine qf Tryz.func131 rfl Tryz.ntmps131 (by kernel_rfl) (Nat.le_of_ble_eq_true rfl) fun w0 X0 hI=>?_
 refine af<|ai<|s1 (aa rfl) rfl ?_
 refine ah<|ae<|af<|ai<|s1 (aZ aE rfl rfl (by first|rfl|omega|(simp<;>omega)|(simp [*]<;>omega))) rfl<|s1 (bd Tryz.underlying43 rfl an (by decide) rfl rfl) rfl<|s1 (au an rfl rfl rfl) rfl<|s1 (au an rfl rfl rfl) rfl<|s1 (bd Tryz.underlying43 rfl ky (by decide) rfl rfl) rfl<|s1 (au ky rfl rfl rfl) rfl ?_
 refine ak rfl (aJ false rfl (.cons (.pure pu) (.cons (.pure pu) (.cons (.pure pu) (.cons (.pure pu) (.nil))))) (aB.cast (Gn (fq m S) (by simp) a n P hP) (Gm ..)) pu (.inl rfl) rfl ?_)
 refine s1 (aa rfl) rfl<|s1 (aa rfl) rfl<|s1 (aa rfl) rfl ?_
 refine ak rfl (bt 5 rfl aE rfl rfl ?_)
 refine ak rfl (bo aE rfl rfl rfl (by first|rfl|omega|(simp<;>omega)|(simp [*]<;>omega)) (by first|rfl|omega|(simp<;>omega)|(simp [*]<;>omega)) ?_)
 refine s1 (aa rfl) rfl ?_
 refine ah<|ae<|af<|ai<|s1 (aa rfl) rfl<|s1 (aa rfl) rfl<|s1 (aa rfl) rfl ?_
 refine dG 3 rfl rfl rfl rfl (fun hb19=> .step (aZ aE rfl rfl (by first|rfl|omega|(simp<;>omega)|(simp [*]<;>omega))) rfl rfl<| .step (cm aE rfl rfl (List.take_of_length_le (by simp [hr])) (by simp [hr])) rfl rfl<| .step (uE Tryz.underlying23 Tryz.underlying5 aQ (by kernel_rfl) rfl rfl (by first|assumption|(simp;done)|(simp [*];done)) (by first|assumption|(simp;done)|(simp [*];done))) rfl rfl<| .done) rfl rfl ?_
 refine s1 (aa rfl) rfl ?_
 refine ah<|ae<|aF ?_
 refine aG (rs:= [.tmp 4]) rfl (aD rfl aC) (nD rfl)
theorem BH (r m:List UInt8) (n a:Int) (S P:List (List UInt8)) (hr:r.length=32) (hm:m.length=32) (hS:aL S) (hP:aL P):aB Tryz.prog 84 [.ag (r.map u8),.i .i64 n,.ag (m.map u8),.ag [.i .i64 a,bD S,bD P]] (aU (.i .i64 (wC (fc r n m a S P)))):=by
 refine enter Tryz.func84 rfl Tryz.ntmps84 (by kernel_rfl) (Nat.le_of_ble_eq_true rfl) fun w0 X0 hI=>?_
 refine af<|ai ?_
 refine ak rfl (bY 4 rfl rfl rfl ?_)
 refine ak rfl (kO 5 rfl rfl rfl rfl ?_)
 refine ak rfl (bY 6 rfl rfl rfl ?_)
 refine ak rfl (bY 7 rfl rfl rfl ?_)
 refine s1 ((aa rfl).v (v':= .i .i64 0) rfl) rfl ?_
 refine ah<|ae<|af<|ai ?_
 refine ak rfl (bt 9 rfl aE rfl rfl ?_)
 refine ah<|ae<|af ?_
 refine fh 4 rfl rfl ar ?_
 refine fh 5 rfl rfl ar ?_
 refine fh 6 rfl rfl ar ?_
 refine fh 7 rfl rfl ar ?_
 refine ai<|s1 (gx (us:= []) (vs:= [.fp [.i .i64 n]]) rfl rfl) rfl<|s1 (gx (us:= []) (vs:= [.fp [.i .i64 a,bD S,bD P],.fp [.i .i64 n]]) rfl rfl) rfl<|s1 (gx (us:= []) (vs:= [.fp (m.map u8),.fp [.i .i64 a,bD S,bD P],.p 9 0]) rfl rfl) rfl<|s1 (gx (us:= []) (vs:= [.p 9 0,.fp [.i .i64 a,bD S,bD P],.fp [.i .i64 n],.fp (r.map u8)]) rfl rfl) rfl ?_
 refine ak rfl (dZ 17 rfl Tryz.underlying169 lU rfl rfl rfl rfl rfl ?_)
 refine s1 (aa rfl) rfl ?_
 refine ah<|ae<|af<|af<|ai<|s1 (aa rfl) rfl<|s1 (bx Tryz.underlying169 rfl rfl rfl) rfl<|s1 ((aa rfl).v (v':= .i .i64 0) rfl) rfl ?_
 refine ah<|ae<|aM ?_
 refine bH (ι:=Nat) (fun i=> [(18,.sl 17 1 0 4),(19,nI 4),(20,nI i)]) (fun i=>⟨[(9,some ((Kx m S i).map u8)),(17,some ([.fn (.func 127) [] [.fp [.i .i64 n]],.fn (.func 128) [] [.fp [.i .i64 a,bD S,bD P],.fp [.i .i64 n]],.fn (.func 129) [] [.fp (m.map u8),.fp [.i .i64 a,bD S,bD P],.p 9 0],.fn (.func 131) [] [.p 9 0,.fp [.i .i64 a,bD S,bD P],.fp [.i .i64 n],.fp (r.map u8)]]))]⟩) (fun i=>i≤4∧(0<i→cv n)∧(1<i→fQ n a)∧(2<i→iP S=0)∧(3<i→((kI a n P.length==0)&&(jj (fq m S) a n P==r))=true)) (fun i=>4 - i) ?_ ?_
 ·exact bG (0) (⟨by omega,fun h=>absurd h (by omega),fun h=>absurd h (by omega),fun h=>absurd h (by omega),fun h=>absurd h (by omega)⟩) [(9,some 9),(17,some 17)] hI rfl rfl ⟨⟨_,rfl,.sl rfl (by first|rfl|omega|(simp<;>omega)|(simp [*]<;>omega))⟩,⟨_,rfl,.pure pu⟩,⟨_,rfl,.pure pu⟩,trivial⟩ ⟨.inr ⟨_,_,rfl,rfl,.of (by rfl) (.pure ar)⟩,.inr ⟨_,_,rfl,rfl,.cons (.pure pu) (.cons (.pure pu) (.cons (.fn .nil (.cons (.pure pu) (.cons (.pure pu) (.cons (.p rfl) .nil)))) (.cons (.fn .nil (.cons (.p rfl) (.cons (.pure pu) (.cons (.pure pu) (.cons (.pure pu) .nil))))) .nil)))⟩,trivial⟩
 rintro i ⟨hi,p1,p2,p3,p4⟩
 refine af<|ai<|s1 (aa rfl) rfl ?_
 refine ah<|ae<|af ?_
 refine aP rfl (fun hc21=>?_) (fun hc21=>?_)
 ·have h21 : i < 4 := by have := of_decide_eq_true hc21; omega
  refine aK<|ae<|af<|aM<|af ?_
  rcases show i=0∨i=1∨i=2∨i=3 by omega with hcs|hcs|hcs|hcs
  ·subst hcs
   refine ai<|s1 (lX 0 Tryz.underlying169 lU rfl rfl rfl rfl (by omega) rfl) rfl<|s1 (au lU rfl rfl rfl) rfl<|s1 (aa rfl) rfl ?_
   refine ah<|ae<|af<|ai<|s1 (aa rfl) rfl ?_
   refine ak rfl (nr false rfl rfl (.cons (.pure pu) .nil) (MF n) pu (.inl rfl) rfl ?_)
   refine s1 (aa rfl) rfl ?_
   refine ah<|ae ?_
   refine aP rfl (fun hc26=>?_) (fun hc26=>?_)
   ·skip
    refine af<|ai<|s1 ((aa rfl).v (v':= .i .i64 60) rfl) rfl ?_
    refine ah<|ae<|aF<|bc<|aH<|aH<|bc<|aH ?_
    refine aG (rs:= [.tmp 8]) rfl (aD rfl aC) ?_
    exact congrArg (A.i .i64) (by rw [MJ (by simpa using hc26)];rfl)
   ·skip
    refine aK<|bj<|ae<|ai<|s1 (bg _ 1 rfl rfl rfl rfl (by omega)) rfl<|s1 (aa rfl) rfl ?_
    refine ah ?_
    exact bu (0+1) (⟨by omega,fun _=>by simpa using hc26,fun h=>absurd h (by omega),fun h=>absurd h (by omega),fun h=>absurd h (by omega)⟩) (by omega) [(9,some 9),(17,some 17)] hI rfl rfl ⟨⟨_,rfl,.sl rfl (by first|rfl|omega|(simp<;>omega)|(simp [*]<;>omega))⟩,⟨_,rfl,.pure pu⟩,⟨_,rfl,.pure pu⟩,trivial⟩ ⟨.inr ⟨_,_,rfl,rfl,.of (by rfl) (.pure ar)⟩,.inr ⟨_,_,rfl,rfl,.cons (.pure pu) (.cons (.pure pu) (.cons (.fn .nil (.cons (.pure pu) (.cons (.pure pu) (.cons (.p rfl) .nil)))) (.cons (.fn .nil (.cons (.p rfl) (.cons (.pure pu) (.cons (.pure pu) (.cons (.pure pu) .nil))))) .nil)))⟩,trivial⟩
  ·subst hcs
   refine ai<|s1 (lX 1 Tryz.underlying169 lU rfl rfl rfl rfl (by omega) rfl) rfl<|s1 (au lU rfl rfl rfl) rfl<|s1 (aa rfl) rfl ?_
   refine ah<|ae<|af<|ai<|s1 (aa rfl) rfl ?_
   refine ak rfl (nr false rfl rfl (.cons (.pure pu) (.cons (.pure pu) .nil)) (MG a n S P) pu (.inl rfl) rfl ?_)
   refine s1 (aa rfl) rfl ?_
   refine ah<|ae ?_
   refine aP rfl (fun hc26=>?_) (fun hc26=>?_)
   ·skip
    refine af<|ai<|s1 ((aa rfl).v (v':= .i .i64 60) rfl) rfl ?_
    refine ah<|ae<|aF<|bc<|aH<|aH<|bc<|aH ?_
    refine aG (rs:= [.tmp 8]) rfl (aD rfl aC) ?_
    exact congrArg (A.i .i64) (by rw [MK (by simpa using hc26)];rfl)
   ·skip
    refine aK<|bj<|ae<|ai<|s1 (bg _ 1 rfl rfl rfl rfl (by omega)) rfl<|s1 (aa rfl) rfl ?_
    refine ah ?_
    exact bu (1+1) (⟨by omega,fun _=>p1 (by omega),fun _=>by simpa using hc26,fun h=>absurd h (by omega),fun h=>absurd h (by omega)⟩) (by omega) [(9,some 9),(17,some 17)] hI rfl rfl ⟨⟨_,rfl,.sl rfl (by first|rfl|omega|(simp<;>omega)|(simp [*]<;>omega))⟩,⟨_,rfl,.pure pu⟩,⟨_,rfl,.pure pu⟩,trivial⟩ ⟨.inr ⟨_,_,rfl,rfl,.of (by rfl) (.pure ar)⟩,.inr ⟨_,_,rfl,rfl,.cons (.pure pu) (.cons (.pure pu) (.cons (.fn .nil (.cons (.pure pu) (.cons (.pure pu) (.cons (.p rfl) .nil)))) (.cons (.fn .nil (.cons (.p rfl) (.cons (.pure pu) (.cons (.pure pu) (.cons (.pure pu) .nil))))) .nil)))⟩,trivial⟩
  ·subst hcs
   refine ai<|s1 (lX 2 Tryz.underlying169 lU rfl rfl rfl rfl (by omega) rfl) rfl<|s1 (au lU rfl rfl rfl) rfl<|s1 (aa rfl) rfl ?_
   refine ah<|ae<|af<|ai<|s1 (aa rfl) rfl ?_
   refine ak rfl (mq ⟨[(9,some (zD.map u8))]⟩ [(9,(fq m S).map u8)] false rfl rfl ⟨⟨rfl,a7.pure ar⟩,trivial⟩ (.cons (.pure pu) (.cons (.pure pu) (.cons (.kp rfl) .nil))) (MH m a S P hm hS) trivial (.inl rfl) (nM (c0:=zD.map u8) rfl ar fI) rfl ?_)
   refine s1 (aa rfl) rfl ?_
   refine ah<|ae ?_
   refine aP rfl (fun hc26=>?_) (fun hc26=>?_)
   ·skip
    refine af<|ai<|s1 ((aa rfl).v (v':= .i .i64 60) rfl) rfl ?_
    refine ah<|ae<|aF<|bc<|aH<|aH<|bc<|aH ?_
    refine aG (rs:= [.tmp 8]) rfl (aD rfl aC) ?_
    exact congrArg (A.i .i64) (by rw [ML (by simpa using hc26)];rfl)
   ·skip
    refine aK<|bj<|ae<|ai<|s1 (bg _ 1 rfl rfl rfl rfl (by omega)) rfl<|s1 (aa rfl) rfl ?_
    refine ah ?_
    exact bu (2+1) (⟨by omega,fun _=>p1 (by omega),fun _=>p2 (by omega),fun _=>by simpa using hc26,fun h=>absurd h (by omega)⟩) (by omega) [(9,some 9),(17,some 17)] hI rfl rfl ⟨⟨_,rfl,.sl rfl (by first|rfl|omega|(simp<;>omega)|(simp [*]<;>omega))⟩,⟨_,rfl,.pure pu⟩,⟨_,rfl,.pure pu⟩,trivial⟩ ⟨.inr ⟨_,_,rfl,rfl,.of (by rfl) (.pure ar)⟩,.inr ⟨_,_,rfl,rfl,.cons (.pure pu) (.cons (.pure pu) (.cons (.fn .nil (.cons (.pure pu) (.cons (.pure pu) (.cons (.p rfl) .nil)))) (.cons (.fn .nil (.cons (.p rfl) (.cons (.pure pu) (.cons (.pure pu) (.cons (.pure pu) .nil))))) .nil)))⟩,trivial⟩
  ·subst hcs
   refine ai<|s1 (lX 3 Tryz.underlying169 lU rfl rfl rfl rfl (by omega) rfl) rfl<|s1 (au lU rfl rfl rfl) rfl<|s1 (aa rfl) rfl ?_
   refine ah<|ae<|af<|ai<|s1 (aa rfl) rfl ?_
   refine ak rfl (mq ⟨[(9,some ((fq m S).map u8))]⟩ [(9,(fq m S).map u8)] false rfl rfl ⟨⟨rfl,a7.pure ar⟩,trivial⟩ (.cons (.kp rfl) (.cons (.pure pu) (.cons (.pure pu) (.cons (.pure pu) .nil)))) (MI r m n a S P hr hP) trivial (.inl rfl) (nM (c0:=(fq m S).map u8) rfl ar fI) rfl ?_)
   refine s1 (aa rfl) rfl ?_
   refine ah<|ae ?_
   refine aP rfl (fun hc26=>?_) (fun hc26=>?_)
   ·skip
    refine af<|ai<|s1 ((aa rfl).v (v':= .i .i64 60) rfl) rfl ?_
    refine ah<|ae<|aF<|bc<|aH<|aH<|bc<|aH ?_
    refine aG (rs:= [.tmp 8]) rfl (aD rfl aC) ?_
    exact congrArg (A.i .i64) (by rw [MM (by rwa [Bool.not_eq_true']at hc26)];rfl)
   ·skip
    refine aK<|bj<|ae<|ai<|s1 (bg _ 1 rfl rfl rfl rfl (by omega)) rfl<|s1 (aa rfl) rfl ?_
    refine ah ?_
    exact bu (3+1) (⟨by omega,fun _=>p1 (by omega),fun _=>p2 (by omega),fun _=>p3 (by omega),fun _=>by simpa using hc26⟩) (by omega) [(9,some 9),(17,some 17)] hI rfl rfl ⟨⟨_,rfl,.sl rfl (by first|rfl|omega|(simp<;>omega)|(simp [*]<;>omega))⟩,⟨_,rfl,.pure pu⟩,⟨_,rfl,.pure pu⟩,trivial⟩ ⟨.inr ⟨_,_,rfl,rfl,.of (by rfl) (.pure ar)⟩,.inr ⟨_,_,rfl,rfl,.cons (.pure pu) (.cons (.pure pu) (.cons (.fn .nil (.cons (.pure pu) (.cons (.pure pu) (.cons (.p rfl) .nil)))) (.cons (.fn .nil (.cons (.p rfl) (.cons (.pure pu) (.cons (.pure pu) (.cons (.pure pu) .nil))))) .nil)))⟩,trivial⟩
 ·have h21 : i = 4 := by have := of_decide_eq_false hc21; omega
  subst h21
  refine bE<|aO<|aO<|bF<|ae<|af<|ai<|s1 ((aa rfl).v (v':= .i .i64 0) rfl) rfl ?_
  refine ah<|ae<|aF ?_
  refine aG (rs:= [.tmp 8]) rfl (aD rfl aC) ?_
  exact congrArg (A.i .i64) (by rw [Ee (p1 (by omega)) (p2 (by omega)) (p3 (by omega)) (p4 (by omega))];rfl)
end Go.Abs.D2
-- E6I
namespace Go.Abs.D2
open Go Go.Eng Go.Abs Go.Proofs
theorem De (l:List Ep) (hl:dN l) (hn:l.length≤1000):aB Tryz.prog 41 [cW l] (aU (ql l)):=by
 refine enter Tryz.func41 rfl Tryz.ntmps41 (by kernel_rfl) (Nat.le_of_ble_eq_true rfl) fun w0 X0 hI=>?_
 refine af<|ai<|s1 (aa rfl) rfl<|s1 (aa rfl) rfl ?_
 refine ah<|ae<|af<|ai ?_
 refine ak rfl (kP Tryz.underlying31 bp rfl rfl rfl (by first|(simp [aX];done)|(simp [aX, *];done)) (show gU []= []from rfl) ar rfl rfl rfl ?_)
 refine s1 (aa rfl) rfl ?_
 refine ah<|ae<|af<|af<|ai<|s1 ((aa rfl).v (v':= .i .i64 0) rfl) rfl ?_
 refine ah<|ae<|aM ?_
 refine bH (ι:=Nat×(Int→Int)×List Ch) (fun⟨i,τ,bf⟩=> [(0,cW l),(4,cz bf),(5,nJ i)]) (fun⟨i,τ,bf⟩=>⟨[]⟩) (fun⟨i,τ,bf⟩=>i≤l.length∧bf=dq τ∧ -1≤jm l i∧gi τ∧cC l=dL (j0 l) i (jm l i) (lN l i) τ (l.drop i)) (fun⟨i,τ,bf⟩=>l.length - i) ?_ ?_
 ·exact bG ((0,σ0, [])) (⟨Nat.zero_le _,Gb,Int.le_refl _,D4,oC l⟩) [] hI rfl rfl ⟨⟨_,rfl,.pure pu⟩,⟨_,rfl,.pure pu⟩,⟨_,rfl,.pure pu⟩,trivial⟩ trivial
 rintro⟨i,τ,bf⟩ ⟨hi,hbf,hdy,hsu,hst⟩
 dsimp only
 refine af<|af<|ai<|s1 (aa rfl) rfl<|s1 (aa rfl) rfl<|s1 (bx Tryz.underlying24 rfl rfl rfl) rfl<|s1 (aa rfl) rfl ?_
 refine ah<|ae ?_
 refine aP rfl (fun hc12=>?_) (fun hc12=>?_)
 ·have h12 : i < l.length := by have := of_decide_eq_true hc12; omega
  obtain⟨e,he⟩:∃e,l[i]? =some e:=⟨_,List.getElem?_eq_getElem h12⟩
  have hok:=hl e (List.mem_of_getElem? he)
  obtain⟨e0,he0⟩:∃e0,l[0]? =some e0:=⟨_,List.getElem?_eq_getElem (by omega)⟩
  have hi0:=BA he0
  refine aK<|ae<|af<|aM<|af<|ai<|s1 (aa rfl) rfl<|s1 (aa rfl) rfl<|s1 (aT i Tryz.underlying24 bA rfl rfl rfl (by omega) rfl) rfl<|s1 (cm bA rfl rfl (kJ hl he) hok.len) rfl ?_
  refine ak rfl (bt 6 rfl bA rfl rfl ?_)
  refine ak rfl (bo bA rfl rfl rfl hok.len (by simp) ?_)
  refine ah<|ae<|af<|ai<|s1 ((uF aE rfl Tryz.underlying23 aQ rfl).v (v':= .ag (zD.map u8)) (rfl)) rfl ?_
  refine ak rfl (bt 7 rfl aE rfl rfl ?_)
  refine ak rfl (bo aE rfl rfl rfl (by first|rfl|omega|(simp<;>omega)|(simp [*]<;>omega)) (by first|rfl|omega|(simp<;>omega)|(simp [*]<;>omega)) ?_)
  refine ah<|ae<|af<|af<|ai<|s1 (aa rfl) rfl<|s1 (aa rfl) rfl ?_
  refine ah<|ae ?_
  refine aP rfl (fun hc21=>?_) (fun hc21=>?_)
  ·have h21 : 0 < i := by have := of_decide_eq_true hc21; omega
   obtain⟨p,hp⟩:∃p,l[i - 1]? =some p:=⟨_,List.getElem?_eq_getElem (by omega)⟩
   have hpo:=hl p (List.mem_of_getElem? hp)
   have hpv:=KH h21 hp
   have hdp:=G7 h21 hp
   refine ai<|s1 (aa rfl) rfl<|s1 (aa rfl) rfl<|s1 ((gu rfl rfl (by omega) (by omega)).v (v':=nJ (i - 1)) (congrArg (A.i .i64) (by omega))) rfl<|s1 (aT (i - 1) Tryz.underlying24 bA rfl rfl rfl (by omega) rfl) rfl<|s1 (cm bA rfl rfl (kJ hl hp) hpo.len) rfl ?_
   refine ak rfl (aJ false rfl (.cons (.pure pu) (.nil)) (C5 p hpo) pu (.inl rfl) rfl ?_)
   refine ak rfl (bo aE rfl rfl rfl (by simp) (by simp) ?_)
   refine ah<|ae<|af<|af ?_
   rcases A8 e (j0 l) i (jm l i) (lN l i) τ hdy with hcs|hcs|hcs|hcs|hcs|hcs|hcs|hcs|hcs|hcs|hcs
   ·obtain ⟨h1, hb⟩ := hcs
    refine bU ⟨_, [], []⟩ 67 4 bz (le_refl rfl) ?_
    refine aj 0 [] [(6,none)] (aA Tryz.underlying45 rfl an (by decide) rfl rfl) rfl rfl<|aj 1 [0] [(6,none)] (au an rfl rfl rfl) rfl rfl<|aj 2 [1] [] ((aa rfl).v (v':= .b true) (congrArg A.b (decide_eq_true (by omega)))) rfl rfl<|aj 3 [2] [] (aa rfl) rfl rfl<|av 4 [3] rfl rfl rfl rfl rfl<|av 5 [3,4] rfl rfl rfl rfl rfl<|av 6 [3,5] rfl rfl rfl rfl rfl<|aj 7 [3,6] [] (aa rfl) rfl rfl<|aj 8 [7] [] (aa rfl) rfl rfl<|av 9 [8] rfl rfl rfl rfl rfl ?_
    refine av 10 [8,9] rfl rfl rfl rfl rfl<|av 11 [8] rfl rfl rfl rfl rfl<|av 12 [8,11] rfl rfl rfl rfl rfl<|av 13 [8,12] rfl rfl rfl rfl rfl<|av 14 [8,13] rfl rfl rfl rfl rfl<|av 15 [8,10,14] rfl rfl rfl rfl rfl<|aj 16 [8,15] [] (aa rfl) rfl rfl<|aj 17 [16] [] (aa rfl) rfl rfl<|av 18 [17] rfl rfl rfl rfl rfl<|av 19 [17,18] rfl rfl rfl rfl rfl ?_
    refine av 20 [17] rfl rfl rfl rfl rfl<|av 21 [17,19,20] rfl rfl rfl rfl rfl<|aj 22 [17,21] [] (aa rfl) rfl rfl<|aj 23 [22] [] (aa rfl) rfl rfl<|av 24 [23] rfl rfl rfl rfl rfl<|av 25 [23,24] rfl rfl rfl rfl rfl<|av 26 [23,25] rfl rfl rfl rfl rfl<|aj 27 [23,26] [] (aa rfl) rfl rfl<|aj 28 [27] [] (aa rfl) rfl rfl<|av 29 [28] rfl rfl rfl rfl rfl ?_
    refine av 30 [28,29] rfl rfl rfl rfl rfl<|av 31 [28,30] rfl rfl rfl rfl rfl<|aj 32 [28,31] [] (aa rfl) rfl rfl<|aj 33 [32] [] (aa rfl) rfl rfl<|av 34 [33] rfl rfl rfl rfl rfl<|av 35 [33,34] rfl rfl rfl rfl rfl<|av 36 [33,35] rfl rfl rfl rfl rfl<|ba 37 [36] rfl rfl rfl rfl<|ba 38 [36] rfl rfl rfl rfl<|ba 39 [36,38] rfl rfl rfl rfl ?_
    refine ba 40 [36,37,39] rfl rfl rfl rfl<|ba 41 [36,40] rfl rfl rfl rfl<|ba 42 [36,41] rfl rfl rfl rfl<|ba 43 [36] rfl rfl rfl rfl<|ba 44 [36,43] rfl rfl rfl rfl<|ba 45 [36,42,44] rfl rfl rfl rfl<|av 46 [33,36,45] rfl rfl rfl rfl rfl<|aj 47 [33,46] [] (aa rfl) rfl rfl<|aj 48 [47] [] (aa rfl) rfl rfl<|av 49 [48] rfl rfl rfl rfl rfl ?_
    refine av 50 [48,49] rfl rfl rfl rfl rfl<|av 51 [48] rfl rfl rfl rfl rfl<|av 52 [48,50,51] rfl rfl rfl rfl rfl<|aj 53 [48,52] [] (aa rfl) rfl rfl<|aj 54 [53] [] (aa rfl) rfl rfl<|av 55 [54] rfl rfl rfl rfl rfl<|av 56 [54] rfl rfl rfl rfl rfl<|av 57 [54,56] rfl rfl rfl rfl rfl<|av 58 [54,55,57] rfl rfl rfl rfl rfl<|av 59 [54,58] rfl rfl rfl rfl rfl ?_
    refine aj 60 [54,59] [] (aa rfl) rfl rfl<|aj 61 [60] [] (aa rfl) rfl rfl<|av 62 [61] rfl rfl rfl rfl rfl<|av 63 [61,62] rfl rfl rfl rfl rfl<|av 64 [61,63] rfl rfl rfl rfl rfl<|av 65 [61] rfl rfl rfl rfl rfl<|av 66 [61,64,65] rfl rfl rfl rfl rfl<|bW (by kernel_rfl) ?_
    refine s1 (aa rfl) rfl ?_
    refine ah<|ae ?_
    refine bT rfl ?_
    refine af<|ai<|s1 (aa rfl) rfl<|s1 (aa rfl) rfl ?_
    refine ah<|ae<|aF<|aH<|bc<|aH<|aH<|bc<|aH ?_
    refine aG (rs:= [.tmp 2,.tmp 3]) rfl (aD rfl (aD rfl aC)) ?_
    exact(fB (hst.trans (eo he (.inl hb)))).symm
   ·obtain ⟨h0, h1, hb⟩ := hcs
    refine bU ⟨_, [], []⟩ 67 4 bz (le_refl rfl) ?_
    refine aj 0 [] [(6,none)] (aA Tryz.underlying45 rfl an (by decide) rfl rfl) rfl rfl<|aj 1 [0] [(6,none)] (au an rfl rfl rfl) rfl rfl<|aj 2 [1] [] ((aa rfl).v (v':= .b false) (congrArg A.b (decide_eq_false (by omega)))) rfl rfl<|aj 3 [2] [] (aa rfl) rfl rfl<|aq 4 [3] [(6,none)] rfl rfl (aA Tryz.underlying45 rfl an (by decide) rfl rfl) rfl rfl<|aq 5 [3,4] [(6,none)] rfl rfl (au an rfl rfl rfl) rfl rfl<|aq 6 [3,5] [] rfl rfl ((aa rfl).v (v':= .b true) (congrArg A.b (decide_eq_true (by omega)))) rfl rfl<|aj 7 [3,6] [] (aa rfl) rfl rfl<|aj 8 [7] [] (aa rfl) rfl rfl<|av 9 [8] rfl rfl rfl rfl rfl ?_
    refine av 10 [8,9] rfl rfl rfl rfl rfl<|av 11 [8] rfl rfl rfl rfl rfl<|av 12 [8,11] rfl rfl rfl rfl rfl<|av 13 [8,12] rfl rfl rfl rfl rfl<|av 14 [8,13] rfl rfl rfl rfl rfl<|av 15 [8,10,14] rfl rfl rfl rfl rfl<|aj 16 [8,15] [] (aa rfl) rfl rfl<|aj 17 [16] [] (aa rfl) rfl rfl<|av 18 [17] rfl rfl rfl rfl rfl<|av 19 [17,18] rfl rfl rfl rfl rfl ?_
    refine av 20 [17] rfl rfl rfl rfl rfl<|av 21 [17,19,20] rfl rfl rfl rfl rfl<|aj 22 [17,21] [] (aa rfl) rfl rfl<|aj 23 [22] [] (aa rfl) rfl rfl<|av 24 [23] rfl rfl rfl rfl rfl<|av 25 [23,24] rfl rfl rfl rfl rfl<|av 26 [23,25] rfl rfl rfl rfl rfl<|aj 27 [23,26] [] (aa rfl) rfl rfl<|aj 28 [27] [] (aa rfl) rfl rfl<|av 29 [28] rfl rfl rfl rfl rfl ?_
    refine av 30 [28,29] rfl rfl rfl rfl rfl<|av 31 [28,30] rfl rfl rfl rfl rfl<|aj 32 [28,31] [] (aa rfl) rfl rfl<|aj 33 [32] [] (aa rfl) rfl rfl<|av 34 [33] rfl rfl rfl rfl rfl<|av 35 [33,34] rfl rfl rfl rfl rfl<|av 36 [33,35] rfl rfl rfl rfl rfl<|ba 37 [36] rfl rfl rfl rfl<|ba 38 [36] rfl rfl rfl rfl<|ba 39 [36,38] rfl rfl rfl rfl ?_
    refine ba 40 [36,37,39] rfl rfl rfl rfl<|ba 41 [36,40] rfl rfl rfl rfl<|ba 42 [36,41] rfl rfl rfl rfl<|ba 43 [36] rfl rfl rfl rfl<|ba 44 [36,43] rfl rfl rfl rfl<|ba 45 [36,42,44] rfl rfl rfl rfl<|av 46 [33,36,45] rfl rfl rfl rfl rfl<|aj 47 [33,46] [] (aa rfl) rfl rfl<|aj 48 [47] [] (aa rfl) rfl rfl<|av 49 [48] rfl rfl rfl rfl rfl ?_
    refine av 50 [48,49] rfl rfl rfl rfl rfl<|av 51 [48] rfl rfl rfl rfl rfl<|av 52 [48,50,51] rfl rfl rfl rfl rfl<|aj 53 [48,52] [] (aa rfl) rfl rfl<|aj 54 [53] [] (aa rfl) rfl rfl<|av 55 [54] rfl rfl rfl rfl rfl<|av 56 [54] rfl rfl rfl rfl rfl<|av 57 [54,56] rfl rfl rfl rfl rfl<|av 58 [54,55,57] rfl rfl rfl rfl rfl<|av 59 [54,58] rfl rfl rfl rfl rfl ?_
    refine aj 60 [54,59] [] (aa rfl) rfl rfl<|aj 61 [60] [] (aa rfl) rfl rfl<|av 62 [61] rfl rfl rfl rfl rfl<|av 63 [61,62] rfl rfl rfl rfl rfl<|av 64 [61,63] rfl rfl rfl rfl rfl<|av 65 [61] rfl rfl rfl rfl rfl<|av 66 [61,64,65] rfl rfl rfl rfl rfl<|bW (by kernel_rfl) ?_
    refine s1 (aa rfl) rfl ?_
    refine ah<|ae ?_
    refine bT rfl ?_
    refine af<|ai<|s1 (aa rfl) rfl<|s1 (aa rfl) rfl ?_
    refine ah<|ae<|aF<|aH<|bc<|aH<|aH<|bc<|aH ?_
    refine aG (rs:= [.tmp 2,.tmp 3]) rfl (aD rfl (aD rfl aC)) ?_
    exact(fB (hst.trans (eo he (.inl hb)))).symm
   ·obtain ⟨⟨h0, h1⟩, h2, hb⟩ := hcs
    refine bU ⟨_, [], []⟩ 67 4 bz (le_refl rfl) ?_
    refine aj 0 [] [(6,none)] (aA Tryz.underlying45 rfl an (by decide) rfl rfl) rfl rfl<|aj 1 [0] [(6,none)] (au an rfl rfl rfl) rfl rfl<|aj 2 [1] [] ((aa rfl).v (v':= .b false) (congrArg A.b (decide_eq_false (by omega)))) rfl rfl<|aj 3 [2] [] (aa rfl) rfl rfl<|aq 4 [3] [(6,none)] rfl rfl (aA Tryz.underlying45 rfl an (by decide) rfl rfl) rfl rfl<|aq 5 [3,4] [(6,none)] rfl rfl (au an rfl rfl rfl) rfl rfl<|aq 6 [3,5] [] rfl rfl ((aa rfl).v (v':= .b false) (congrArg A.b (decide_eq_false (by omega)))) rfl rfl<|aj 7 [3,6] [] (aa rfl) rfl rfl<|aj 8 [7] [] (aa rfl) rfl rfl<|aq 9 [8] [(6,none)] rfl rfl (aA Tryz.underlying45 rfl an (by decide) rfl rfl) rfl rfl ?_
    refine aq 10 [8,9] [(6,none)] rfl rfl (au an rfl rfl rfl) rfl rfl<|aq 11 [8] [] rfl rfl (aa rfl) rfl rfl<|aq 12 [8,11] [] rfl rfl (aT 0 Tryz.underlying24 bA rfl rfl rfl (by omega) rfl) rfl rfl<|aq 13 [8,12] [] rfl rfl (bd Tryz.underlying45 rfl an (by decide) rfl rfl) rfl rfl<|aq 14 [8,13] [] rfl rfl (au an rfl rfl (dK hl he0 (k:=0) rfl (by decide))) rfl rfl<|aq 15 [8,10,14] [] rfl rfl ((aa rfl).v (v':= .b true) (congrArg A.b (bne_iff_ne.2 (by omega)))) rfl rfl<|aj 16 [8,15] [] (aa rfl) rfl rfl<|aj 17 [16] [] (aa rfl) rfl rfl<|av 18 [17] rfl rfl rfl rfl rfl<|av 19 [17,18] rfl rfl rfl rfl rfl ?_
    refine av 20 [17] rfl rfl rfl rfl rfl<|av 21 [17,19,20] rfl rfl rfl rfl rfl<|aj 22 [17,21] [] (aa rfl) rfl rfl<|aj 23 [22] [] (aa rfl) rfl rfl<|av 24 [23] rfl rfl rfl rfl rfl<|av 25 [23,24] rfl rfl rfl rfl rfl<|av 26 [23,25] rfl rfl rfl rfl rfl<|aj 27 [23,26] [] (aa rfl) rfl rfl<|aj 28 [27] [] (aa rfl) rfl rfl<|av 29 [28] rfl rfl rfl rfl rfl ?_
    refine av 30 [28,29] rfl rfl rfl rfl rfl<|av 31 [28,30] rfl rfl rfl rfl rfl<|aj 32 [28,31] [] (aa rfl) rfl rfl<|aj 33 [32] [] (aa rfl) rfl rfl<|av 34 [33] rfl rfl rfl rfl rfl<|av 35 [33,34] rfl rfl rfl rfl rfl<|av 36 [33,35] rfl rfl rfl rfl rfl<|ba 37 [36] rfl rfl rfl rfl<|ba 38 [36] rfl rfl rfl rfl<|ba 39 [36,38] rfl rfl rfl rfl ?_
    refine ba 40 [36,37,39] rfl rfl rfl rfl<|ba 41 [36,40] rfl rfl rfl rfl<|ba 42 [36,41] rfl rfl rfl rfl<|ba 43 [36] rfl rfl rfl rfl<|ba 44 [36,43] rfl rfl rfl rfl<|ba 45 [36,42,44] rfl rfl rfl rfl<|av 46 [33,36,45] rfl rfl rfl rfl rfl<|aj 47 [33,46] [] (aa rfl) rfl rfl<|aj 48 [47] [] (aa rfl) rfl rfl<|av 49 [48] rfl rfl rfl rfl rfl ?_
    refine av 50 [48,49] rfl rfl rfl rfl rfl<|av 51 [48] rfl rfl rfl rfl rfl<|av 52 [48,50,51] rfl rfl rfl rfl rfl<|aj 53 [48,52] [] (aa rfl) rfl rfl<|aj 54 [53] [] (aa rfl) rfl rfl<|av 55 [54] rfl rfl rfl rfl rfl<|av 56 [54] rfl rfl rfl rfl rfl<|av 57 [54,56] rfl rfl rfl rfl rfl<|av 58 [54,55,57] rfl rfl rfl rfl rfl<|av 59 [54,58] rfl rfl rfl rfl rfl ?_
    refine aj 60 [54,59] [] (aa rfl) rfl rfl<|aj 61 [60] [] (aa rfl) rfl rfl<|av 62 [61] rfl rfl rfl rfl rfl<|av 63 [61,62] rfl rfl rfl rfl rfl<|av 64 [61,63] rfl rfl rfl rfl rfl<|av 65 [61] rfl rfl rfl rfl rfl<|av 66 [61,64,65] rfl rfl rfl rfl rfl<|bW (by kernel_rfl) ?_
    refine s1 (aa rfl) rfl ?_
    refine ah<|ae ?_
    refine bT rfl ?_
    refine af<|ai<|s1 (aa rfl) rfl<|s1 (aa rfl) rfl ?_
    refine ah<|ae<|aF<|aH<|bc<|aH<|aH<|bc<|aH ?_
    refine aG (rs:= [.tmp 2,.tmp 3]) rfl (aD rfl (aD rfl aC)) ?_
    exact(fB (hst.trans (eo he (.inl hb)))).symm
   ·obtain ⟨⟨h0, h1, h2⟩, h3, hb⟩ := hcs
    refine bU ⟨_, [], []⟩ 67 4 bz (le_refl rfl) ?_
    refine aj 0 [] [(6,none)] (aA Tryz.underlying45 rfl an (by decide) rfl rfl) rfl rfl<|aj 1 [0] [(6,none)] (au an rfl rfl rfl) rfl rfl<|aj 2 [1] [] ((aa rfl).v (v':= .b false) (congrArg A.b (decide_eq_false (by omega)))) rfl rfl<|aj 3 [2] [] (aa rfl) rfl rfl<|aq 4 [3] [(6,none)] rfl rfl (aA Tryz.underlying45 rfl an (by decide) rfl rfl) rfl rfl<|aq 5 [3,4] [(6,none)] rfl rfl (au an rfl rfl rfl) rfl rfl<|aq 6 [3,5] [] rfl rfl ((aa rfl).v (v':= .b false) (congrArg A.b (decide_eq_false (by omega)))) rfl rfl<|aj 7 [3,6] [] (aa rfl) rfl rfl<|aj 8 [7] [] (aa rfl) rfl rfl<|aq 9 [8] [(6,none)] rfl rfl (aA Tryz.underlying45 rfl an (by decide) rfl rfl) rfl rfl ?_
    refine aq 10 [8,9] [(6,none)] rfl rfl (au an rfl rfl rfl) rfl rfl<|aq 11 [8] [] rfl rfl (aa rfl) rfl rfl<|aq 12 [8,11] [] rfl rfl (aT 0 Tryz.underlying24 bA rfl rfl rfl (by omega) rfl) rfl rfl<|aq 13 [8,12] [] rfl rfl (bd Tryz.underlying45 rfl an (by decide) rfl rfl) rfl rfl<|aq 14 [8,13] [] rfl rfl (au an rfl rfl (dK hl he0 (k:=0) rfl (by decide))) rfl rfl<|aq 15 [8,10,14] [] rfl rfl ((aa rfl).v (v':= .b false) (congrArg A.b (bne_eq_false_iff_eq.2 (by omega)))) rfl rfl<|aj 16 [8,15] [] (aa rfl) rfl rfl<|aj 17 [16] [] (aa rfl) rfl rfl<|aq 18 [17] [(6,none)] rfl rfl (aA Tryz.underlying45 rfl an (by decide) rfl rfl) rfl rfl<|aq 19 [17,18] [(6,none)] rfl rfl (au an rfl rfl rfl) rfl rfl ?_
    refine aq 20 [17] [] rfl rfl (aa rfl) rfl rfl<|aq 21 [17,19,20] [] rfl rfl ((aa rfl).v (v':= .b true) (congrArg A.b (bne_iff_ne.2 (by omega)))) rfl rfl<|aj 22 [17,21] [] (aa rfl) rfl rfl<|aj 23 [22] [] (aa rfl) rfl rfl<|av 24 [23] rfl rfl rfl rfl rfl<|av 25 [23,24] rfl rfl rfl rfl rfl<|av 26 [23,25] rfl rfl rfl rfl rfl<|aj 27 [23,26] [] (aa rfl) rfl rfl<|aj 28 [27] [] (aa rfl) rfl rfl<|av 29 [28] rfl rfl rfl rfl rfl ?_
    refine av 30 [28,29] rfl rfl rfl rfl rfl<|av 31 [28,30] rfl rfl rfl rfl rfl<|aj 32 [28,31] [] (aa rfl) rfl rfl<|aj 33 [32] [] (aa rfl) rfl rfl<|av 34 [33] rfl rfl rfl rfl rfl<|av 35 [33,34] rfl rfl rfl rfl rfl<|av 36 [33,35] rfl rfl rfl rfl rfl<|ba 37 [36] rfl rfl rfl rfl<|ba 38 [36] rfl rfl rfl rfl<|ba 39 [36,38] rfl rfl rfl rfl ?_
    refine ba 40 [36,37,39] rfl rfl rfl rfl<|ba 41 [36,40] rfl rfl rfl rfl<|ba 42 [36,41] rfl rfl rfl rfl<|ba 43 [36] rfl rfl rfl rfl<|ba 44 [36,43] rfl rfl rfl rfl<|ba 45 [36,42,44] rfl rfl rfl rfl<|av 46 [33,36,45] rfl rfl rfl rfl rfl<|aj 47 [33,46] [] (aa rfl) rfl rfl<|aj 48 [47] [] (aa rfl) rfl rfl<|av 49 [48] rfl rfl rfl rfl rfl ?_
    refine av 50 [48,49] rfl rfl rfl rfl rfl<|av 51 [48] rfl rfl rfl rfl rfl<|av 52 [48,50,51] rfl rfl rfl rfl rfl<|aj 53 [48,52] [] (aa rfl) rfl rfl<|aj 54 [53] [] (aa rfl) rfl rfl<|av 55 [54] rfl rfl rfl rfl rfl<|av 56 [54] rfl rfl rfl rfl rfl<|av 57 [54,56] rfl rfl rfl rfl rfl<|av 58 [54,55,57] rfl rfl rfl rfl rfl<|av 59 [54,58] rfl rfl rfl rfl rfl ?_
    refine aj 60 [54,59] [] (aa rfl) rfl rfl<|aj 61 [60] [] (aa rfl) rfl rfl<|av 62 [61] rfl rfl rfl rfl rfl<|av 63 [61,62] rfl rfl rfl rfl rfl<|av 64 [61,63] rfl rfl rfl rfl rfl<|av 65 [61] rfl rfl rfl rfl rfl<|av 66 [61,64,65] rfl rfl rfl rfl rfl<|bW (by kernel_rfl) ?_
    refine s1 (aa rfl) rfl ?_
    refine ah<|ae ?_
    refine bT rfl ?_
    refine af<|ai<|s1 (aa rfl) rfl<|s1 (aa rfl) rfl ?_
    refine ah<|ae<|aF<|aH<|bc<|aH<|aH<|bc<|aH ?_
    refine aG (rs:= [.tmp 2,.tmp 3]) rfl (aD rfl (aD rfl aC)) ?_
    exact(fB (hst.trans (eo he (.inl hb)))).symm
   ·obtain ⟨⟨h0, h1, h2, h3⟩, h4, hb⟩ := hcs
    refine bU ⟨_, [], []⟩ 67 4 bz (le_refl rfl) ?_
    refine aj 0 [] [(6,none)] (aA Tryz.underlying45 rfl an (by decide) rfl rfl) rfl rfl<|aj 1 [0] [(6,none)] (au an rfl rfl rfl) rfl rfl<|aj 2 [1] [] ((aa rfl).v (v':= .b false) (congrArg A.b (decide_eq_false (by omega)))) rfl rfl<|aj 3 [2] [] (aa rfl) rfl rfl<|aq 4 [3] [(6,none)] rfl rfl (aA Tryz.underlying45 rfl an (by decide) rfl rfl) rfl rfl<|aq 5 [3,4] [(6,none)] rfl rfl (au an rfl rfl rfl) rfl rfl<|aq 6 [3,5] [] rfl rfl ((aa rfl).v (v':= .b false) (congrArg A.b (decide_eq_false (by omega)))) rfl rfl<|aj 7 [3,6] [] (aa rfl) rfl rfl<|aj 8 [7] [] (aa rfl) rfl rfl<|aq 9 [8] [(6,none)] rfl rfl (aA Tryz.underlying45 rfl an (by decide) rfl rfl) rfl rfl ?_
    refine aq 10 [8,9] [(6,none)] rfl rfl (au an rfl rfl rfl) rfl rfl<|aq 11 [8] [] rfl rfl (aa rfl) rfl rfl<|aq 12 [8,11] [] rfl rfl (aT 0 Tryz.underlying24 bA rfl rfl rfl (by omega) rfl) rfl rfl<|aq 13 [8,12] [] rfl rfl (bd Tryz.underlying45 rfl an (by decide) rfl rfl) rfl rfl<|aq 14 [8,13] [] rfl rfl (au an rfl rfl (dK hl he0 (k:=0) rfl (by decide))) rfl rfl<|aq 15 [8,10,14] [] rfl rfl ((aa rfl).v (v':= .b false) (congrArg A.b (bne_eq_false_iff_eq.2 (by omega)))) rfl rfl<|aj 16 [8,15] [] (aa rfl) rfl rfl<|aj 17 [16] [] (aa rfl) rfl rfl<|aq 18 [17] [(6,none)] rfl rfl (aA Tryz.underlying45 rfl an (by decide) rfl rfl) rfl rfl<|aq 19 [17,18] [(6,none)] rfl rfl (au an rfl rfl rfl) rfl rfl ?_
    refine aq 20 [17] [] rfl rfl (aa rfl) rfl rfl<|aq 21 [17,19,20] [] rfl rfl ((aa rfl).v (v':= .b false) (congrArg A.b (bne_eq_false_iff_eq.2 (by omega)))) rfl rfl<|aj 22 [17,21] [] (aa rfl) rfl rfl<|aj 23 [22] [] (aa rfl) rfl rfl<|aq 24 [23] [(6,none)] rfl rfl (aA Tryz.underlying45 rfl an (by decide) rfl rfl) rfl rfl<|aq 25 [23,24] [(6,none)] rfl rfl (au an rfl rfl rfl) rfl rfl<|aq 26 [23,25] [] rfl rfl ((aa rfl).v (v':= .b true) (congrArg A.b (decide_eq_true (by omega)))) rfl rfl<|aj 27 [23,26] [] (aa rfl) rfl rfl<|aj 28 [27] [] (aa rfl) rfl rfl<|av 29 [28] rfl rfl rfl rfl rfl ?_
    refine av 30 [28,29] rfl rfl rfl rfl rfl<|av 31 [28,30] rfl rfl rfl rfl rfl<|aj 32 [28,31] [] (aa rfl) rfl rfl<|aj 33 [32] [] (aa rfl) rfl rfl<|av 34 [33] rfl rfl rfl rfl rfl<|av 35 [33,34] rfl rfl rfl rfl rfl<|av 36 [33,35] rfl rfl rfl rfl rfl<|ba 37 [36] rfl rfl rfl rfl<|ba 38 [36] rfl rfl rfl rfl<|ba 39 [36,38] rfl rfl rfl rfl ?_
    refine ba 40 [36,37,39] rfl rfl rfl rfl<|ba 41 [36,40] rfl rfl rfl rfl<|ba 42 [36,41] rfl rfl rfl rfl<|ba 43 [36] rfl rfl rfl rfl<|ba 44 [36,43] rfl rfl rfl rfl<|ba 45 [36,42,44] rfl rfl rfl rfl<|av 46 [33,36,45] rfl rfl rfl rfl rfl<|aj 47 [33,46] [] (aa rfl) rfl rfl<|aj 48 [47] [] (aa rfl) rfl rfl<|av 49 [48] rfl rfl rfl rfl rfl ?_
    refine av 50 [48,49] rfl rfl rfl rfl rfl<|av 51 [48] rfl rfl rfl rfl rfl<|av 52 [48,50,51] rfl rfl rfl rfl rfl<|aj 53 [48,52] [] (aa rfl) rfl rfl<|aj 54 [53] [] (aa rfl) rfl rfl<|av 55 [54] rfl rfl rfl rfl rfl<|av 56 [54] rfl rfl rfl rfl rfl<|av 57 [54,56] rfl rfl rfl rfl rfl<|av 58 [54,55,57] rfl rfl rfl rfl rfl<|av 59 [54,58] rfl rfl rfl rfl rfl ?_
    refine aj 60 [54,59] [] (aa rfl) rfl rfl<|aj 61 [60] [] (aa rfl) rfl rfl<|av 62 [61] rfl rfl rfl rfl rfl<|av 63 [61,62] rfl rfl rfl rfl rfl<|av 64 [61,63] rfl rfl rfl rfl rfl<|av 65 [61] rfl rfl rfl rfl rfl<|av 66 [61,64,65] rfl rfl rfl rfl rfl<|bW (by kernel_rfl) ?_
    refine s1 (aa rfl) rfl ?_
    refine ah<|ae ?_
    refine bT rfl ?_
    refine af<|ai<|s1 (aa rfl) rfl<|s1 (aa rfl) rfl ?_
    refine ah<|ae<|aF<|aH<|bc<|aH<|aH<|bc<|aH ?_
    refine aG (rs:= [.tmp 2,.tmp 3]) rfl (aD rfl (aD rfl aC)) ?_
    exact(fB (hst.trans (eo he (.inl hb)))).symm
   ·obtain ⟨⟨h0, h1, h2, h3, h4⟩, h5, hb⟩ := hcs
    refine bU ⟨_, [], []⟩ 67 4 bz (le_refl rfl) ?_
    refine aj 0 [] [(6,none)] (aA Tryz.underlying45 rfl an (by decide) rfl rfl) rfl rfl<|aj 1 [0] [(6,none)] (au an rfl rfl rfl) rfl rfl<|aj 2 [1] [] ((aa rfl).v (v':= .b false) (congrArg A.b (decide_eq_false (by omega)))) rfl rfl<|aj 3 [2] [] (aa rfl) rfl rfl<|aq 4 [3] [(6,none)] rfl rfl (aA Tryz.underlying45 rfl an (by decide) rfl rfl) rfl rfl<|aq 5 [3,4] [(6,none)] rfl rfl (au an rfl rfl rfl) rfl rfl<|aq 6 [3,5] [] rfl rfl ((aa rfl).v (v':= .b false) (congrArg A.b (decide_eq_false (by omega)))) rfl rfl<|aj 7 [3,6] [] (aa rfl) rfl rfl<|aj 8 [7] [] (aa rfl) rfl rfl<|aq 9 [8] [(6,none)] rfl rfl (aA Tryz.underlying45 rfl an (by decide) rfl rfl) rfl rfl ?_
    refine aq 10 [8,9] [(6,none)] rfl rfl (au an rfl rfl rfl) rfl rfl<|aq 11 [8] [] rfl rfl (aa rfl) rfl rfl<|aq 12 [8,11] [] rfl rfl (aT 0 Tryz.underlying24 bA rfl rfl rfl (by omega) rfl) rfl rfl<|aq 13 [8,12] [] rfl rfl (bd Tryz.underlying45 rfl an (by decide) rfl rfl) rfl rfl<|aq 14 [8,13] [] rfl rfl (au an rfl rfl (dK hl he0 (k:=0) rfl (by decide))) rfl rfl<|aq 15 [8,10,14] [] rfl rfl ((aa rfl).v (v':= .b false) (congrArg A.b (bne_eq_false_iff_eq.2 (by omega)))) rfl rfl<|aj 16 [8,15] [] (aa rfl) rfl rfl<|aj 17 [16] [] (aa rfl) rfl rfl<|aq 18 [17] [(6,none)] rfl rfl (aA Tryz.underlying45 rfl an (by decide) rfl rfl) rfl rfl<|aq 19 [17,18] [(6,none)] rfl rfl (au an rfl rfl rfl) rfl rfl ?_
    refine aq 20 [17] [] rfl rfl (aa rfl) rfl rfl<|aq 21 [17,19,20] [] rfl rfl ((aa rfl).v (v':= .b false) (congrArg A.b (bne_eq_false_iff_eq.2 (by omega)))) rfl rfl<|aj 22 [17,21] [] (aa rfl) rfl rfl<|aj 23 [22] [] (aa rfl) rfl rfl<|aq 24 [23] [(6,none)] rfl rfl (aA Tryz.underlying45 rfl an (by decide) rfl rfl) rfl rfl<|aq 25 [23,24] [(6,none)] rfl rfl (au an rfl rfl rfl) rfl rfl<|aq 26 [23,25] [] rfl rfl ((aa rfl).v (v':= .b false) (congrArg A.b (decide_eq_false (by omega)))) rfl rfl<|aj 27 [23,26] [] (aa rfl) rfl rfl<|aj 28 [27] [] (aa rfl) rfl rfl<|aq 29 [28] [(6,none)] rfl rfl (aA Tryz.underlying45 rfl an (by decide) rfl rfl) rfl rfl ?_
    refine aq 30 [28,29] [(6,none)] rfl rfl (au an rfl rfl rfl) rfl rfl<|aq 31 [28,30] [] rfl rfl ((aa rfl).v (v':= .b true) (congrArg A.b (decide_eq_true (by omega)))) rfl rfl<|aj 32 [28,31] [] (aa rfl) rfl rfl<|aj 33 [32] [] (aa rfl) rfl rfl<|av 34 [33] rfl rfl rfl rfl rfl<|av 35 [33,34] rfl rfl rfl rfl rfl<|av 36 [33,35] rfl rfl rfl rfl rfl<|ba 37 [36] rfl rfl rfl rfl<|ba 38 [36] rfl rfl rfl rfl<|ba 39 [36,38] rfl rfl rfl rfl ?_
    refine ba 40 [36,37,39] rfl rfl rfl rfl<|ba 41 [36,40] rfl rfl rfl rfl<|ba 42 [36,41] rfl rfl rfl rfl<|ba 43 [36] rfl rfl rfl rfl<|ba 44 [36,43] rfl rfl rfl rfl<|ba 45 [36,42,44] rfl rfl rfl rfl<|av 46 [33,36,45] rfl rfl rfl rfl rfl<|aj 47 [33,46] [] (aa rfl) rfl rfl<|aj 48 [47] [] (aa rfl) rfl rfl<|av 49 [48] rfl rfl rfl rfl rfl ?_
    refine av 50 [48,49] rfl rfl rfl rfl rfl<|av 51 [48] rfl rfl rfl rfl rfl<|av 52 [48,50,51] rfl rfl rfl rfl rfl<|aj 53 [48,52] [] (aa rfl) rfl rfl<|aj 54 [53] [] (aa rfl) rfl rfl<|av 55 [54] rfl rfl rfl rfl rfl<|av 56 [54] rfl rfl rfl rfl rfl<|av 57 [54,56] rfl rfl rfl rfl rfl<|av 58 [54,55,57] rfl rfl rfl rfl rfl<|av 59 [54,58] rfl rfl rfl rfl rfl ?_
    refine aj 60 [54,59] [] (aa rfl) rfl rfl<|aj 61 [60] [] (aa rfl) rfl rfl<|av 62 [61] rfl rfl rfl rfl rfl<|av 63 [61,62] rfl rfl rfl rfl rfl<|av 64 [61,63] rfl rfl rfl rfl rfl<|av 65 [61] rfl rfl rfl rfl rfl<|av 66 [61,64,65] rfl rfl rfl rfl rfl<|bW (by kernel_rfl) ?_
    refine s1 (aa rfl) rfl ?_
    refine ah<|ae ?_
    refine bT rfl ?_
    refine af<|ai<|s1 (aa rfl) rfl<|s1 (aa rfl) rfl ?_
    refine ah<|ae<|aF<|aH<|bc<|aH<|aH<|bc<|aH ?_
    refine aG (rs:= [.tmp 2,.tmp 3]) rfl (aD rfl (aD rfl aC)) ?_
    exact(fB (hst.trans (eo he (.inl hb)))).symm
   ·obtain ⟨⟨r1, r2, r3, r4, r5, r6⟩, h7, hb⟩ := hcs
    refine bU ⟨_, [], []⟩ 67 4 bz (le_refl rfl) ?_
    refine aj 0 [] [(6,none)] (aA Tryz.underlying45 rfl an (by decide) rfl rfl) rfl rfl<|aj 1 [0] [(6,none)] (au an rfl rfl rfl) rfl rfl<|aj 2 [1] [] ((aa rfl).v (v':= .b false) (congrArg A.b (decide_eq_false (by omega)))) rfl rfl<|aj 3 [2] [] (aa rfl) rfl rfl<|aq 4 [3] [(6,none)] rfl rfl (aA Tryz.underlying45 rfl an (by decide) rfl rfl) rfl rfl<|aq 5 [3,4] [(6,none)] rfl rfl (au an rfl rfl rfl) rfl rfl<|aq 6 [3,5] [] rfl rfl ((aa rfl).v (v':= .b false) (congrArg A.b (decide_eq_false (by omega)))) rfl rfl<|aj 7 [3,6] [] (aa rfl) rfl rfl<|aj 8 [7] [] (aa rfl) rfl rfl<|aq 9 [8] [(6,none)] rfl rfl (aA Tryz.underlying45 rfl an (by decide) rfl rfl) rfl rfl ?_
    refine aq 10 [8,9] [(6,none)] rfl rfl (au an rfl rfl rfl) rfl rfl<|aq 11 [8] [] rfl rfl (aa rfl) rfl rfl<|aq 12 [8,11] [] rfl rfl (aT 0 Tryz.underlying24 bA rfl rfl rfl (by omega) rfl) rfl rfl<|aq 13 [8,12] [] rfl rfl (bd Tryz.underlying45 rfl an (by decide) rfl rfl) rfl rfl<|aq 14 [8,13] [] rfl rfl (au an rfl rfl (dK hl he0 (k:=0) rfl (by decide))) rfl rfl<|aq 15 [8,10,14] [] rfl rfl ((aa rfl).v (v':= .b false) (congrArg A.b (bne_eq_false_iff_eq.2 (by omega)))) rfl rfl<|aj 16 [8,15] [] (aa rfl) rfl rfl<|aj 17 [16] [] (aa rfl) rfl rfl<|aq 18 [17] [(6,none)] rfl rfl (aA Tryz.underlying45 rfl an (by decide) rfl rfl) rfl rfl<|aq 19 [17,18] [(6,none)] rfl rfl (au an rfl rfl rfl) rfl rfl ?_
    refine aq 20 [17] [] rfl rfl (aa rfl) rfl rfl<|aq 21 [17,19,20] [] rfl rfl ((aa rfl).v (v':= .b false) (congrArg A.b (bne_eq_false_iff_eq.2 (by omega)))) rfl rfl<|aj 22 [17,21] [] (aa rfl) rfl rfl<|aj 23 [22] [] (aa rfl) rfl rfl<|aq 24 [23] [(6,none)] rfl rfl (aA Tryz.underlying45 rfl an (by decide) rfl rfl) rfl rfl<|aq 25 [23,24] [(6,none)] rfl rfl (au an rfl rfl rfl) rfl rfl<|aq 26 [23,25] [] rfl rfl ((aa rfl).v (v':= .b false) (congrArg A.b (decide_eq_false (by omega)))) rfl rfl<|aj 27 [23,26] [] (aa rfl) rfl rfl<|aj 28 [27] [] (aa rfl) rfl rfl<|aq 29 [28] [(6,none)] rfl rfl (aA Tryz.underlying45 rfl an (by decide) rfl rfl) rfl rfl ?_
    refine aq 30 [28,29] [(6,none)] rfl rfl (au an rfl rfl rfl) rfl rfl<|aq 31 [28,30] [] rfl rfl ((aa rfl).v (v':= .b false) (congrArg A.b (decide_eq_false (by omega)))) rfl rfl<|aj 32 [28,31] [] (aa rfl) rfl rfl<|aj 33 [32] [] (aa rfl) rfl rfl<|aq 34 [33] [] rfl rfl (aa rfl) rfl rfl<|aq 35 [33,34] [] rfl rfl ((aa rfl).v (v':= .b true) (congrArg A.b (decide_eq_true (by omega)))) rfl rfl<|aq 36 [33,35] [] rfl rfl (aa rfl) rfl rfl<|aq 37 [36] [] rfl rfl (aa rfl) rfl rfl<|aq 38 [36] [] rfl rfl (aa rfl) rfl rfl<|aq 39 [36,38] [] rfl rfl ((gu rfl rfl (by omega) (by omega)).v (v':=nJ (i - 1)) (congrArg (A.i .i64) (by omega))) rfl rfl ?_
    refine aq 40 [36,37,39] [] rfl rfl (aT (i - 1) Tryz.underlying24 bA rfl rfl rfl (by omega) rfl) rfl rfl<|aq 41 [36,40] [] rfl rfl (bd Tryz.underlying45 rfl an (by decide) rfl rfl) rfl rfl<|aq 42 [36,41] [] rfl rfl (au an rfl rfl (dK hl hp (k:=2) rfl (by decide))) rfl rfl<|aq 43 [36] [(6,none)] rfl rfl (aA Tryz.underlying45 rfl an (by decide) rfl rfl) rfl rfl<|aq 44 [36,43] [(6,none)] rfl rfl (au an rfl rfl rfl) rfl rfl<|aq 45 [36,42,44] [] rfl rfl ((aa rfl).v (v':= .b true) (congrArg A.b (decide_eq_true (by omega)))) rfl rfl<|aq 46 [33,36,45] [] rfl rfl (aa rfl) rfl rfl<|aj 47 [33,46] [] (aa rfl) rfl rfl<|aj 48 [47] [] (aa rfl) rfl rfl<|av 49 [48] rfl rfl rfl rfl rfl ?_
    refine av 50 [48,49] rfl rfl rfl rfl rfl<|av 51 [48] rfl rfl rfl rfl rfl<|av 52 [48,50,51] rfl rfl rfl rfl rfl<|aj 53 [48,52] [] (aa rfl) rfl rfl<|aj 54 [53] [] (aa rfl) rfl rfl<|av 55 [54] rfl rfl rfl rfl rfl<|av 56 [54] rfl rfl rfl rfl rfl<|av 57 [54,56] rfl rfl rfl rfl rfl<|av 58 [54,55,57] rfl rfl rfl rfl rfl<|av 59 [54,58] rfl rfl rfl rfl rfl ?_
    refine aj 60 [54,59] [] (aa rfl) rfl rfl<|aj 61 [60] [] (aa rfl) rfl rfl<|av 62 [61] rfl rfl rfl rfl rfl<|av 63 [61,62] rfl rfl rfl rfl rfl<|av 64 [61,63] rfl rfl rfl rfl rfl<|av 65 [61] rfl rfl rfl rfl rfl<|av 66 [61,64,65] rfl rfl rfl rfl rfl<|bW (by kernel_rfl) ?_
    refine s1 (aa rfl) rfl ?_
    refine ah<|ae ?_
    refine bT rfl ?_
    refine af<|ai<|s1 (aa rfl) rfl<|s1 (aa rfl) rfl ?_
    refine ah<|ae<|aF<|aH<|bc<|aH<|aH<|bc<|aH ?_
    refine aG (rs:= [.tmp 2,.tmp 3]) rfl (aD rfl (aD rfl aC)) ?_
    exact(fB (hst.trans (eo he (.inl hb)))).symm
   ·obtain ⟨⟨r1, r2, r3, r4, r5, r6⟩, h7, h8, hb⟩ := hcs
    rw [hpv]at h8
    refine bU ⟨_, [], []⟩ 67 4 bz (le_refl rfl) ?_
    refine aj 0 [] [(6,none)] (aA Tryz.underlying45 rfl an (by decide) rfl rfl) rfl rfl<|aj 1 [0] [(6,none)] (au an rfl rfl rfl) rfl rfl<|aj 2 [1] [] ((aa rfl).v (v':= .b false) (congrArg A.b (decide_eq_false (by omega)))) rfl rfl<|aj 3 [2] [] (aa rfl) rfl rfl<|aq 4 [3] [(6,none)] rfl rfl (aA Tryz.underlying45 rfl an (by decide) rfl rfl) rfl rfl<|aq 5 [3,4] [(6,none)] rfl rfl (au an rfl rfl rfl) rfl rfl<|aq 6 [3,5] [] rfl rfl ((aa rfl).v (v':= .b false) (congrArg A.b (decide_eq_false (by omega)))) rfl rfl<|aj 7 [3,6] [] (aa rfl) rfl rfl<|aj 8 [7] [] (aa rfl) rfl rfl<|aq 9 [8] [(6,none)] rfl rfl (aA Tryz.underlying45 rfl an (by decide) rfl rfl) rfl rfl ?_
    refine aq 10 [8,9] [(6,none)] rfl rfl (au an rfl rfl rfl) rfl rfl<|aq 11 [8] [] rfl rfl (aa rfl) rfl rfl<|aq 12 [8,11] [] rfl rfl (aT 0 Tryz.underlying24 bA rfl rfl rfl (by omega) rfl) rfl rfl<|aq 13 [8,12] [] rfl rfl (bd Tryz.underlying45 rfl an (by decide) rfl rfl) rfl rfl<|aq 14 [8,13] [] rfl rfl (au an rfl rfl (dK hl he0 (k:=0) rfl (by decide))) rfl rfl<|aq 15 [8,10,14] [] rfl rfl ((aa rfl).v (v':= .b false) (congrArg A.b (bne_eq_false_iff_eq.2 (by omega)))) rfl rfl<|aj 16 [8,15] [] (aa rfl) rfl rfl<|aj 17 [16] [] (aa rfl) rfl rfl<|aq 18 [17] [(6,none)] rfl rfl (aA Tryz.underlying45 rfl an (by decide) rfl rfl) rfl rfl<|aq 19 [17,18] [(6,none)] rfl rfl (au an rfl rfl rfl) rfl rfl ?_
    refine aq 20 [17] [] rfl rfl (aa rfl) rfl rfl<|aq 21 [17,19,20] [] rfl rfl ((aa rfl).v (v':= .b false) (congrArg A.b (bne_eq_false_iff_eq.2 (by omega)))) rfl rfl<|aj 22 [17,21] [] (aa rfl) rfl rfl<|aj 23 [22] [] (aa rfl) rfl rfl<|aq 24 [23] [(6,none)] rfl rfl (aA Tryz.underlying45 rfl an (by decide) rfl rfl) rfl rfl<|aq 25 [23,24] [(6,none)] rfl rfl (au an rfl rfl rfl) rfl rfl<|aq 26 [23,25] [] rfl rfl ((aa rfl).v (v':= .b false) (congrArg A.b (decide_eq_false (by omega)))) rfl rfl<|aj 27 [23,26] [] (aa rfl) rfl rfl<|aj 28 [27] [] (aa rfl) rfl rfl<|aq 29 [28] [(6,none)] rfl rfl (aA Tryz.underlying45 rfl an (by decide) rfl rfl) rfl rfl ?_
    refine aq 30 [28,29] [(6,none)] rfl rfl (au an rfl rfl rfl) rfl rfl<|aq 31 [28,30] [] rfl rfl ((aa rfl).v (v':= .b false) (congrArg A.b (decide_eq_false (by omega)))) rfl rfl<|aj 32 [28,31] [] (aa rfl) rfl rfl<|aj 33 [32] [] (aa rfl) rfl rfl<|aq 34 [33] [] rfl rfl (aa rfl) rfl rfl<|aq 35 [33,34] [] rfl rfl ((aa rfl).v (v':= .b true) (congrArg A.b (decide_eq_true (by omega)))) rfl rfl<|aq 36 [33,35] [] rfl rfl (aa rfl) rfl rfl<|aq 37 [36] [] rfl rfl (aa rfl) rfl rfl<|aq 38 [36] [] rfl rfl (aa rfl) rfl rfl<|aq 39 [36,38] [] rfl rfl ((gu rfl rfl (by omega) (by omega)).v (v':=nJ (i - 1)) (congrArg (A.i .i64) (by omega))) rfl rfl ?_
    refine aq 40 [36,37,39] [] rfl rfl (aT (i - 1) Tryz.underlying24 bA rfl rfl rfl (by omega) rfl) rfl rfl<|aq 41 [36,40] [] rfl rfl (bd Tryz.underlying45 rfl an (by decide) rfl rfl) rfl rfl<|aq 42 [36,41] [] rfl rfl (au an rfl rfl (dK hl hp (k:=2) rfl (by decide))) rfl rfl<|aq 43 [36] [(6,none)] rfl rfl (aA Tryz.underlying45 rfl an (by decide) rfl rfl) rfl rfl<|aq 44 [36,43] [(6,none)] rfl rfl (au an rfl rfl rfl) rfl rfl<|aq 45 [36,42,44] [] rfl rfl ((aa rfl).v (v':= .b false) (congrArg A.b (decide_eq_false (by omega)))) rfl rfl<|aq 46 [33,36,45] [] rfl rfl (aa rfl) rfl rfl<|aj 47 [33,46] [] (aa rfl) rfl rfl<|aj 48 [47] [] (aa rfl) rfl rfl<|aq 49 [48] [(6,none)] rfl rfl (aA Tryz.underlying45 rfl aE (by decide) rfl rfl) rfl rfl ?_
    refine aq 50 [48,49] [(6,none)] rfl rfl (cm aE rfl rfl (jo hok) (by rw [List.length_map,hok.prev])) rfl rfl<|aq 51 [48] [(7,none)] rfl rfl (aZ aE rfl rfl (by simp)) rfl rfl<|aq 52 [48,50,51] [] rfl rfl (((lW Tryz.underlying23 Tryz.underlying5 aQ (by kernel_rfl) rfl rfl hok.prev (by simp))).v (v':= .b true) (congrArg A.b (by rw [beq_eq_false_iff_ne.2 h8];rfl))) rfl rfl<|aj 53 [48,52] [] (aa rfl) rfl rfl<|aj 54 [53] [] (aa rfl) rfl rfl<|av 55 [54] rfl rfl rfl rfl rfl<|av 56 [54] rfl rfl rfl rfl rfl<|av 57 [54,56] rfl rfl rfl rfl rfl<|av 58 [54,55,57] rfl rfl rfl rfl rfl<|av 59 [54,58] rfl rfl rfl rfl rfl ?_
    refine aj 60 [54,59] [] (aa rfl) rfl rfl<|aj 61 [60] [] (aa rfl) rfl rfl<|av 62 [61] rfl rfl rfl rfl rfl<|av 63 [61,62] rfl rfl rfl rfl rfl<|av 64 [61,63] rfl rfl rfl rfl rfl<|av 65 [61] rfl rfl rfl rfl rfl<|av 66 [61,64,65] rfl rfl rfl rfl rfl<|bW (by kernel_rfl) ?_
    refine s1 (aa rfl) rfl ?_
    refine ah<|ae ?_
    refine bT rfl ?_
    refine af<|ai<|s1 (aa rfl) rfl<|s1 (aa rfl) rfl ?_
    refine ah<|ae<|aF<|aH<|bc<|aH<|aH<|bc<|aH ?_
    refine aG (rs:= [.tmp 2,.tmp 3]) rfl (aD rfl (aD rfl aC)) ?_
    exact(fB (hst.trans (eo he (.inl hb)))).symm
   ·obtain ⟨⟨r1, r2, r3, r4, r5, r6⟩, h7, h8, hk⟩ := hcs
    rw [hpv]at h8
    refine bU ⟨_, [], []⟩ 67 4 bz (le_refl rfl) ?_
    refine aj 0 [] [(6,none)] (aA Tryz.underlying45 rfl an (by decide) rfl rfl) rfl rfl<|aj 1 [0] [(6,none)] (au an rfl rfl rfl) rfl rfl<|aj 2 [1] [] ((aa rfl).v (v':= .b false) (congrArg A.b (decide_eq_false (by omega)))) rfl rfl<|aj 3 [2] [] (aa rfl) rfl rfl<|aq 4 [3] [(6,none)] rfl rfl (aA Tryz.underlying45 rfl an (by decide) rfl rfl) rfl rfl<|aq 5 [3,4] [(6,none)] rfl rfl (au an rfl rfl rfl) rfl rfl<|aq 6 [3,5] [] rfl rfl ((aa rfl).v (v':= .b false) (congrArg A.b (decide_eq_false (by omega)))) rfl rfl<|aj 7 [3,6] [] (aa rfl) rfl rfl<|aj 8 [7] [] (aa rfl) rfl rfl<|aq 9 [8] [(6,none)] rfl rfl (aA Tryz.underlying45 rfl an (by decide) rfl rfl) rfl rfl ?_
    refine aq 10 [8,9] [(6,none)] rfl rfl (au an rfl rfl rfl) rfl rfl<|aq 11 [8] [] rfl rfl (aa rfl) rfl rfl<|aq 12 [8,11] [] rfl rfl (aT 0 Tryz.underlying24 bA rfl rfl rfl (by omega) rfl) rfl rfl<|aq 13 [8,12] [] rfl rfl (bd Tryz.underlying45 rfl an (by decide) rfl rfl) rfl rfl<|aq 14 [8,13] [] rfl rfl (au an rfl rfl (dK hl he0 (k:=0) rfl (by decide))) rfl rfl<|aq 15 [8,10,14] [] rfl rfl ((aa rfl).v (v':= .b false) (congrArg A.b (bne_eq_false_iff_eq.2 (by omega)))) rfl rfl<|aj 16 [8,15] [] (aa rfl) rfl rfl<|aj 17 [16] [] (aa rfl) rfl rfl<|aq 18 [17] [(6,none)] rfl rfl (aA Tryz.underlying45 rfl an (by decide) rfl rfl) rfl rfl<|aq 19 [17,18] [(6,none)] rfl rfl (au an rfl rfl rfl) rfl rfl ?_
    refine aq 20 [17] [] rfl rfl (aa rfl) rfl rfl<|aq 21 [17,19,20] [] rfl rfl ((aa rfl).v (v':= .b false) (congrArg A.b (bne_eq_false_iff_eq.2 (by omega)))) rfl rfl<|aj 22 [17,21] [] (aa rfl) rfl rfl<|aj 23 [22] [] (aa rfl) rfl rfl<|aq 24 [23] [(6,none)] rfl rfl (aA Tryz.underlying45 rfl an (by decide) rfl rfl) rfl rfl<|aq 25 [23,24] [(6,none)] rfl rfl (au an rfl rfl rfl) rfl rfl<|aq 26 [23,25] [] rfl rfl ((aa rfl).v (v':= .b false) (congrArg A.b (decide_eq_false (by omega)))) rfl rfl<|aj 27 [23,26] [] (aa rfl) rfl rfl<|aj 28 [27] [] (aa rfl) rfl rfl<|aq 29 [28] [(6,none)] rfl rfl (aA Tryz.underlying45 rfl an (by decide) rfl rfl) rfl rfl ?_
    refine aq 30 [28,29] [(6,none)] rfl rfl (au an rfl rfl rfl) rfl rfl<|aq 31 [28,30] [] rfl rfl ((aa rfl).v (v':= .b false) (congrArg A.b (decide_eq_false (by omega)))) rfl rfl<|aj 32 [28,31] [] (aa rfl) rfl rfl<|aj 33 [32] [] (aa rfl) rfl rfl<|aq 34 [33] [] rfl rfl (aa rfl) rfl rfl<|aq 35 [33,34] [] rfl rfl ((aa rfl).v (v':= .b true) (congrArg A.b (decide_eq_true (by omega)))) rfl rfl<|aq 36 [33,35] [] rfl rfl (aa rfl) rfl rfl<|aq 37 [36] [] rfl rfl (aa rfl) rfl rfl<|aq 38 [36] [] rfl rfl (aa rfl) rfl rfl<|aq 39 [36,38] [] rfl rfl ((gu rfl rfl (by omega) (by omega)).v (v':=nJ (i - 1)) (congrArg (A.i .i64) (by omega))) rfl rfl ?_
    refine aq 40 [36,37,39] [] rfl rfl (aT (i - 1) Tryz.underlying24 bA rfl rfl rfl (by omega) rfl) rfl rfl<|aq 41 [36,40] [] rfl rfl (bd Tryz.underlying45 rfl an (by decide) rfl rfl) rfl rfl<|aq 42 [36,41] [] rfl rfl (au an rfl rfl (dK hl hp (k:=2) rfl (by decide))) rfl rfl<|aq 43 [36] [(6,none)] rfl rfl (aA Tryz.underlying45 rfl an (by decide) rfl rfl) rfl rfl<|aq 44 [36,43] [(6,none)] rfl rfl (au an rfl rfl rfl) rfl rfl<|aq 45 [36,42,44] [] rfl rfl ((aa rfl).v (v':= .b false) (congrArg A.b (decide_eq_false (by omega)))) rfl rfl<|aq 46 [33,36,45] [] rfl rfl (aa rfl) rfl rfl<|aj 47 [33,46] [] (aa rfl) rfl rfl<|aj 48 [47] [] (aa rfl) rfl rfl<|aq 49 [48] [(6,none)] rfl rfl (aA Tryz.underlying45 rfl aE (by decide) rfl rfl) rfl rfl ?_
    refine aq 50 [48,49] [(6,none)] rfl rfl (cm aE rfl rfl (jo hok) (by rw [List.length_map,hok.prev])) rfl rfl<|aq 51 [48] [(7,none)] rfl rfl (aZ aE rfl rfl (by simp)) rfl rfl<|aq 52 [48,50,51] [] rfl rfl (((lW Tryz.underlying23 Tryz.underlying5 aQ (by kernel_rfl) rfl rfl hok.prev (by simp))).v (v':= .b false) (congrArg A.b (by rw [beq_iff_eq.2 h8];rfl))) rfl rfl<|aj 53 [48,52] [] (aa rfl) rfl rfl<|aj 54 [53] [] (aa rfl) rfl rfl<|aq 55 [54] [] rfl rfl (aa rfl) rfl rfl<|aq 56 [54] [(6,none)] rfl rfl (aA Tryz.underlying45 rfl cH (by decide) rfl rfl) rfl rfl<|aq 57 [54,56] [(6,none)] rfl rfl (au cH rfl rfl rfl) rfl rfl<|bV false 58 [54,55,57] [] (nf rfl rfl) rfl (.cons (.pure pu) (.cons (.pure pu) (.nil))) (aB.cast (pc τ bf hbf hsu e.ch (by have:=hok.gT;simp only [maxLen];omega)) (congrArg A.b hk)) pu (.inl rfl) rfl rfl<|aq 59 [54,58] [] rfl rfl ((aa rfl).v (v':= .b true) (rfl)) rfl rfl ?_
    refine aj 60 [54,59] [] (aa rfl) rfl rfl<|aj 61 [60] [] (aa rfl) rfl rfl<|av 62 [61] rfl rfl rfl rfl rfl<|av 63 [61,62] rfl rfl rfl rfl rfl<|av 64 [61,63] rfl rfl rfl rfl rfl<|av 65 [61] rfl rfl rfl rfl rfl<|av 66 [61,64,65] rfl rfl rfl rfl rfl<|bW (by kernel_rfl) ?_
    refine s1 (aa rfl) rfl ?_
    refine ah<|ae ?_
    refine bT rfl ?_
    refine af<|ai<|s1 (aa rfl) rfl<|s1 (aa rfl) rfl ?_
    refine ah<|ae<|aF<|aH<|bc<|aH<|aH<|bc<|aH ?_
    refine aG (rs:= [.tmp 2,.tmp 3]) rfl (aD rfl (aD rfl aC)) ?_
    exact(fB (hst.trans (eo he (.inr hk)))).symm
   ·obtain ⟨⟨r1, r2, r3, r4, r5, r6⟩, h7, h8, hk, h9, hb⟩ := hcs
    rw [hpv]at h8
    refine bU ⟨_, [], []⟩ 67 4 bz (le_refl rfl) ?_
    refine aj 0 [] [(6,none)] (aA Tryz.underlying45 rfl an (by decide) rfl rfl) rfl rfl<|aj 1 [0] [(6,none)] (au an rfl rfl rfl) rfl rfl<|aj 2 [1] [] ((aa rfl).v (v':= .b false) (congrArg A.b (decide_eq_false (by omega)))) rfl rfl<|aj 3 [2] [] (aa rfl) rfl rfl<|aq 4 [3] [(6,none)] rfl rfl (aA Tryz.underlying45 rfl an (by decide) rfl rfl) rfl rfl<|aq 5 [3,4] [(6,none)] rfl rfl (au an rfl rfl rfl) rfl rfl<|aq 6 [3,5] [] rfl rfl ((aa rfl).v (v':= .b false) (congrArg A.b (decide_eq_false (by omega)))) rfl rfl<|aj 7 [3,6] [] (aa rfl) rfl rfl<|aj 8 [7] [] (aa rfl) rfl rfl<|aq 9 [8] [(6,none)] rfl rfl (aA Tryz.underlying45 rfl an (by decide) rfl rfl) rfl rfl ?_
    refine aq 10 [8,9] [(6,none)] rfl rfl (au an rfl rfl rfl) rfl rfl<|aq 11 [8] [] rfl rfl (aa rfl) rfl rfl<|aq 12 [8,11] [] rfl rfl (aT 0 Tryz.underlying24 bA rfl rfl rfl (by omega) rfl) rfl rfl<|aq 13 [8,12] [] rfl rfl (bd Tryz.underlying45 rfl an (by decide) rfl rfl) rfl rfl<|aq 14 [8,13] [] rfl rfl (au an rfl rfl (dK hl he0 (k:=0) rfl (by decide))) rfl rfl<|aq 15 [8,10,14] [] rfl rfl ((aa rfl).v (v':= .b false) (congrArg A.b (bne_eq_false_iff_eq.2 (by omega)))) rfl rfl<|aj 16 [8,15] [] (aa rfl) rfl rfl<|aj 17 [16] [] (aa rfl) rfl rfl<|aq 18 [17] [(6,none)] rfl rfl (aA Tryz.underlying45 rfl an (by decide) rfl rfl) rfl rfl<|aq 19 [17,18] [(6,none)] rfl rfl (au an rfl rfl rfl) rfl rfl ?_
    refine aq 20 [17] [] rfl rfl (aa rfl) rfl rfl<|aq 21 [17,19,20] [] rfl rfl ((aa rfl).v (v':= .b false) (congrArg A.b (bne_eq_false_iff_eq.2 (by omega)))) rfl rfl<|aj 22 [17,21] [] (aa rfl) rfl rfl<|aj 23 [22] [] (aa rfl) rfl rfl<|aq 24 [23] [(6,none)] rfl rfl (aA Tryz.underlying45 rfl an (by decide) rfl rfl) rfl rfl<|aq 25 [23,24] [(6,none)] rfl rfl (au an rfl rfl rfl) rfl rfl<|aq 26 [23,25] [] rfl rfl ((aa rfl).v (v':= .b false) (congrArg A.b (decide_eq_false (by omega)))) rfl rfl<|aj 27 [23,26] [] (aa rfl) rfl rfl<|aj 28 [27] [] (aa rfl) rfl rfl<|aq 29 [28] [(6,none)] rfl rfl (aA Tryz.underlying45 rfl an (by decide) rfl rfl) rfl rfl ?_
    refine aq 30 [28,29] [(6,none)] rfl rfl (au an rfl rfl rfl) rfl rfl<|aq 31 [28,30] [] rfl rfl ((aa rfl).v (v':= .b false) (congrArg A.b (decide_eq_false (by omega)))) rfl rfl<|aj 32 [28,31] [] (aa rfl) rfl rfl<|aj 33 [32] [] (aa rfl) rfl rfl<|aq 34 [33] [] rfl rfl (aa rfl) rfl rfl<|aq 35 [33,34] [] rfl rfl ((aa rfl).v (v':= .b true) (congrArg A.b (decide_eq_true (by omega)))) rfl rfl<|aq 36 [33,35] [] rfl rfl (aa rfl) rfl rfl<|aq 37 [36] [] rfl rfl (aa rfl) rfl rfl<|aq 38 [36] [] rfl rfl (aa rfl) rfl rfl<|aq 39 [36,38] [] rfl rfl ((gu rfl rfl (by omega) (by omega)).v (v':=nJ (i - 1)) (congrArg (A.i .i64) (by omega))) rfl rfl ?_
    refine aq 40 [36,37,39] [] rfl rfl (aT (i - 1) Tryz.underlying24 bA rfl rfl rfl (by omega) rfl) rfl rfl<|aq 41 [36,40] [] rfl rfl (bd Tryz.underlying45 rfl an (by decide) rfl rfl) rfl rfl<|aq 42 [36,41] [] rfl rfl (au an rfl rfl (dK hl hp (k:=2) rfl (by decide))) rfl rfl<|aq 43 [36] [(6,none)] rfl rfl (aA Tryz.underlying45 rfl an (by decide) rfl rfl) rfl rfl<|aq 44 [36,43] [(6,none)] rfl rfl (au an rfl rfl rfl) rfl rfl<|aq 45 [36,42,44] [] rfl rfl ((aa rfl).v (v':= .b false) (congrArg A.b (decide_eq_false (by omega)))) rfl rfl<|aq 46 [33,36,45] [] rfl rfl (aa rfl) rfl rfl<|aj 47 [33,46] [] (aa rfl) rfl rfl<|aj 48 [47] [] (aa rfl) rfl rfl<|aq 49 [48] [(6,none)] rfl rfl (aA Tryz.underlying45 rfl aE (by decide) rfl rfl) rfl rfl ?_
    refine aq 50 [48,49] [(6,none)] rfl rfl (cm aE rfl rfl (jo hok) (by rw [List.length_map,hok.prev])) rfl rfl<|aq 51 [48] [(7,none)] rfl rfl (aZ aE rfl rfl (by simp)) rfl rfl<|aq 52 [48,50,51] [] rfl rfl (((lW Tryz.underlying23 Tryz.underlying5 aQ (by kernel_rfl) rfl rfl hok.prev (by simp))).v (v':= .b false) (congrArg A.b (by rw [beq_iff_eq.2 h8];rfl))) rfl rfl<|aj 53 [48,52] [] (aa rfl) rfl rfl<|aj 54 [53] [] (aa rfl) rfl rfl<|aq 55 [54] [] rfl rfl (aa rfl) rfl rfl<|aq 56 [54] [(6,none)] rfl rfl (aA Tryz.underlying45 rfl cH (by decide) rfl rfl) rfl rfl<|aq 57 [54,56] [(6,none)] rfl rfl (au cH rfl rfl rfl) rfl rfl<|bV false 58 [54,55,57] [] (nf rfl rfl) rfl (.cons (.pure pu) (.cons (.pure pu) (.nil))) (aB.cast (pc τ bf hbf hsu e.ch (by have:=hok.gT;simp only [maxLen];omega)) (congrArg A.b hk)) pu (.inl rfl) rfl rfl<|aq 59 [54,58] [] rfl rfl ((aa rfl).v (v':= .b false) (rfl)) rfl rfl ?_
    refine aj 60 [54,59] [] (aa rfl) rfl rfl<|aj 61 [60] [] (aa rfl) rfl rfl<|aq 62 [61] [(6,none)] rfl rfl (aA Tryz.underlying45 rfl eU (by decide) rfl rfl) rfl rfl<|aq 63 [61,62] [(6,none)] rfl rfl (aA Tryz.underlying43 rfl an (by decide) rfl rfl) rfl rfl<|aq 64 [61,63] [(6,none)] rfl rfl (au an rfl rfl (qh hok)) rfl rfl<|aq 65 [61] [] rfl rfl (aa rfl) rfl rfl<|aq 66 [61,64,65] [] rfl rfl ((aa rfl).v (v':= .b true) (congrArg A.b (bne_iff_ne.2 (by omega)))) rfl rfl<|bW (by kernel_rfl) ?_
    refine s1 (aa rfl) rfl ?_
    refine ah<|ae ?_
    refine bT rfl ?_
    refine af<|ai<|s1 (aa rfl) rfl<|s1 (aa rfl) rfl ?_
    refine ah<|ae<|aF<|aH<|bc<|aH<|aH<|bc<|aH ?_
    refine aG (rs:= [.tmp 2,.tmp 3]) rfl (aD rfl (aD rfl aC)) ?_
    exact(fB (hst.trans (eo he (.inl hb)))).symm
   ·obtain ⟨⟨r1, r2, r3, r4, r5, r6⟩, h7, h8, hk, h9, hb⟩ := hcs
    rw [hpv]at h8
    refine bU ⟨_, [], []⟩ 67 4 bz (le_refl rfl) ?_
    refine aj 0 [] [(6,none)] (aA Tryz.underlying45 rfl an (by decide) rfl rfl) rfl rfl<|aj 1 [0] [(6,none)] (au an rfl rfl rfl) rfl rfl<|aj 2 [1] [] ((aa rfl).v (v':= .b false) (congrArg A.b (decide_eq_false (by omega)))) rfl rfl<|aj 3 [2] [] (aa rfl) rfl rfl<|aq 4 [3] [(6,none)] rfl rfl (aA Tryz.underlying45 rfl an (by decide) rfl rfl) rfl rfl<|aq 5 [3,4] [(6,none)] rfl rfl (au an rfl rfl rfl) rfl rfl<|aq 6 [3,5] [] rfl rfl ((aa rfl).v (v':= .b false) (congrArg A.b (decide_eq_false (by omega)))) rfl rfl<|aj 7 [3,6] [] (aa rfl) rfl rfl<|aj 8 [7] [] (aa rfl) rfl rfl<|aq 9 [8] [(6,none)] rfl rfl (aA Tryz.underlying45 rfl an (by decide) rfl rfl) rfl rfl ?_
    refine aq 10 [8,9] [(6,none)] rfl rfl (au an rfl rfl rfl) rfl rfl<|aq 11 [8] [] rfl rfl (aa rfl) rfl rfl<|aq 12 [8,11] [] rfl rfl (aT 0 Tryz.underlying24 bA rfl rfl rfl (by omega) rfl) rfl rfl<|aq 13 [8,12] [] rfl rfl (bd Tryz.underlying45 rfl an (by decide) rfl rfl) rfl rfl<|aq 14 [8,13] [] rfl rfl (au an rfl rfl (dK hl he0 (k:=0) rfl (by decide))) rfl rfl<|aq 15 [8,10,14] [] rfl rfl ((aa rfl).v (v':= .b false) (congrArg A.b (bne_eq_false_iff_eq.2 (by omega)))) rfl rfl<|aj 16 [8,15] [] (aa rfl) rfl rfl<|aj 17 [16] [] (aa rfl) rfl rfl<|aq 18 [17] [(6,none)] rfl rfl (aA Tryz.underlying45 rfl an (by decide) rfl rfl) rfl rfl<|aq 19 [17,18] [(6,none)] rfl rfl (au an rfl rfl rfl) rfl rfl ?_
    refine aq 20 [17] [] rfl rfl (aa rfl) rfl rfl<|aq 21 [17,19,20] [] rfl rfl ((aa rfl).v (v':= .b false) (congrArg A.b (bne_eq_false_iff_eq.2 (by omega)))) rfl rfl<|aj 22 [17,21] [] (aa rfl) rfl rfl<|aj 23 [22] [] (aa rfl) rfl rfl<|aq 24 [23] [(6,none)] rfl rfl (aA Tryz.underlying45 rfl an (by decide) rfl rfl) rfl rfl<|aq 25 [23,24] [(6,none)] rfl rfl (au an rfl rfl rfl) rfl rfl<|aq 26 [23,25] [] rfl rfl ((aa rfl).v (v':= .b false) (congrArg A.b (decide_eq_false (by omega)))) rfl rfl<|aj 27 [23,26] [] (aa rfl) rfl rfl<|aj 28 [27] [] (aa rfl) rfl rfl<|aq 29 [28] [(6,none)] rfl rfl (aA Tryz.underlying45 rfl an (by decide) rfl rfl) rfl rfl ?_
    refine aq 30 [28,29] [(6,none)] rfl rfl (au an rfl rfl rfl) rfl rfl<|aq 31 [28,30] [] rfl rfl ((aa rfl).v (v':= .b false) (congrArg A.b (decide_eq_false (by omega)))) rfl rfl<|aj 32 [28,31] [] (aa rfl) rfl rfl<|aj 33 [32] [] (aa rfl) rfl rfl<|aq 34 [33] [] rfl rfl (aa rfl) rfl rfl<|aq 35 [33,34] [] rfl rfl ((aa rfl).v (v':= .b true) (congrArg A.b (decide_eq_true (by omega)))) rfl rfl<|aq 36 [33,35] [] rfl rfl (aa rfl) rfl rfl<|aq 37 [36] [] rfl rfl (aa rfl) rfl rfl<|aq 38 [36] [] rfl rfl (aa rfl) rfl rfl<|aq 39 [36,38] [] rfl rfl ((gu rfl rfl (by omega) (by omega)).v (v':=nJ (i - 1)) (congrArg (A.i .i64) (by omega))) rfl rfl ?_
    refine aq 40 [36,37,39] [] rfl rfl (aT (i - 1) Tryz.underlying24 bA rfl rfl rfl (by omega) rfl) rfl rfl<|aq 41 [36,40] [] rfl rfl (bd Tryz.underlying45 rfl an (by decide) rfl rfl) rfl rfl<|aq 42 [36,41] [] rfl rfl (au an rfl rfl (dK hl hp (k:=2) rfl (by decide))) rfl rfl<|aq 43 [36] [(6,none)] rfl rfl (aA Tryz.underlying45 rfl an (by decide) rfl rfl) rfl rfl<|aq 44 [36,43] [(6,none)] rfl rfl (au an rfl rfl rfl) rfl rfl<|aq 45 [36,42,44] [] rfl rfl ((aa rfl).v (v':= .b false) (congrArg A.b (decide_eq_false (by omega)))) rfl rfl<|aq 46 [33,36,45] [] rfl rfl (aa rfl) rfl rfl<|aj 47 [33,46] [] (aa rfl) rfl rfl<|aj 48 [47] [] (aa rfl) rfl rfl<|aq 49 [48] [(6,none)] rfl rfl (aA Tryz.underlying45 rfl aE (by decide) rfl rfl) rfl rfl ?_
    refine aq 50 [48,49] [(6,none)] rfl rfl (cm aE rfl rfl (jo hok) (by rw [List.length_map,hok.prev])) rfl rfl<|aq 51 [48] [(7,none)] rfl rfl (aZ aE rfl rfl (by simp)) rfl rfl<|aq 52 [48,50,51] [] rfl rfl (((lW Tryz.underlying23 Tryz.underlying5 aQ (by kernel_rfl) rfl rfl hok.prev (by simp))).v (v':= .b false) (congrArg A.b (by rw [beq_iff_eq.2 h8];rfl))) rfl rfl<|aj 53 [48,52] [] (aa rfl) rfl rfl<|aj 54 [53] [] (aa rfl) rfl rfl<|aq 55 [54] [] rfl rfl (aa rfl) rfl rfl<|aq 56 [54] [(6,none)] rfl rfl (aA Tryz.underlying45 rfl cH (by decide) rfl rfl) rfl rfl<|aq 57 [54,56] [(6,none)] rfl rfl (au cH rfl rfl rfl) rfl rfl<|bV false 58 [54,55,57] [] (nf rfl rfl) rfl (.cons (.pure pu) (.cons (.pure pu) (.nil))) (aB.cast (pc τ bf hbf hsu e.ch (by have:=hok.gT;simp only [maxLen];omega)) (congrArg A.b hk)) pu (.inl rfl) rfl rfl<|aq 59 [54,58] [] rfl rfl ((aa rfl).v (v':= .b false) (rfl)) rfl rfl ?_
    refine aj 60 [54,59] [] (aa rfl) rfl rfl<|aj 61 [60] [] (aa rfl) rfl rfl<|aq 62 [61] [(6,none)] rfl rfl (aA Tryz.underlying45 rfl eU (by decide) rfl rfl) rfl rfl<|aq 63 [61,62] [(6,none)] rfl rfl (aA Tryz.underlying43 rfl an (by decide) rfl rfl) rfl rfl<|aq 64 [61,63] [(6,none)] rfl rfl (au an rfl rfl (qh hok)) rfl rfl<|aq 65 [61] [] rfl rfl (aa rfl) rfl rfl<|aq 66 [61,64,65] [] rfl rfl ((aa rfl).v (v':= .b false) (congrArg A.b (bne_eq_false_iff_eq.2 (by omega)))) rfl rfl<|bW (by kernel_rfl) ?_
    refine s1 (aa rfl) rfl ?_
    refine ah<|ae ?_
    refine cK rfl ?_
    refine aK<|ae<|ai<|s1 (aa rfl) rfl<|s1 (aA Tryz.underlying45 rfl cH (by decide) rfl rfl) rfl<|s1 (au cH rfl rfl rfl) rfl ?_
    refine ak rfl (aJ false rfl (.cons (.pure pu) (.cons (.pure pu) (.nil))) (C3 τ bf hbf hsu e.ch (by have:=hok.gT;simp only [maxLen];omega)) pu (.inl rfl) rfl ?_)
    refine s1 (aa rfl) rfl ?_
    refine ah<|bj<|ae<|ai<|s1 (aa rfl) rfl<|s1 (bg _ 1 rfl rfl rfl rfl (by omega)) rfl<|s1 (aa rfl) rfl ?_
    refine ah ?_
    exact bu (x:=(i,τ,bf)) ((i+1,aV τ e.ch,dq (aV τ e.ch))) (⟨show i+1≤l.length by omega,rfl,by show -1≤jm l (i+1);rw [p9 he];omega,mC hsu (Int.le_refl _) hk,hst.trans (by show _=dL _ (i+1) (jm l (i+1)) (lN l (i+1)) _ _;rw [p9 he,show lN l (i+1)=cM e from vY he];exact wL he hb hk)⟩) (show l.length - (i+1)<l.length - i by omega) [] hI rfl rfl ⟨⟨_,rfl,.pure pu⟩,⟨_,rfl,.pure pu⟩,⟨_,rfl,.pure pu⟩,trivial⟩ trivial
  ·have h21 : i = 0 := by have := of_decide_eq_false hc21; omega
   have hpv:lN l i=zD:=by rw [h21];rfl
   have hdp:jm l i= -1:=by rw [h21];rfl
   refine aK<|ae<|af<|af ?_
   rcases HO e (j0 l) i (jm l i) (lN l i) τ hdp with hcs|hcs|hcs|hcs|hcs|hcs|hcs|hcs|hcs|hcs
   ·obtain ⟨h1, hb⟩ := hcs
    refine bU ⟨_, [], []⟩ 67 4 bz (le_refl rfl) ?_
    refine aj 0 [] [(6,none)] (aA Tryz.underlying45 rfl an (by decide) rfl rfl) rfl rfl<|aj 1 [0] [(6,none)] (au an rfl rfl rfl) rfl rfl<|aj 2 [1] [] ((aa rfl).v (v':= .b true) (congrArg A.b (decide_eq_true (by omega)))) rfl rfl<|aj 3 [2] [] (aa rfl) rfl rfl<|av 4 [3] rfl rfl rfl rfl rfl<|av 5 [3,4] rfl rfl rfl rfl rfl<|av 6 [3,5] rfl rfl rfl rfl rfl<|aj 7 [3,6] [] (aa rfl) rfl rfl<|aj 8 [7] [] (aa rfl) rfl rfl<|av 9 [8] rfl rfl rfl rfl rfl ?_
    refine av 10 [8,9] rfl rfl rfl rfl rfl<|av 11 [8] rfl rfl rfl rfl rfl<|av 12 [8,11] rfl rfl rfl rfl rfl<|av 13 [8,12] rfl rfl rfl rfl rfl<|av 14 [8,13] rfl rfl rfl rfl rfl<|av 15 [8,10,14] rfl rfl rfl rfl rfl<|aj 16 [8,15] [] (aa rfl) rfl rfl<|aj 17 [16] [] (aa rfl) rfl rfl<|av 18 [17] rfl rfl rfl rfl rfl<|av 19 [17,18] rfl rfl rfl rfl rfl ?_
    refine av 20 [17] rfl rfl rfl rfl rfl<|av 21 [17,19,20] rfl rfl rfl rfl rfl<|aj 22 [17,21] [] (aa rfl) rfl rfl<|aj 23 [22] [] (aa rfl) rfl rfl<|av 24 [23] rfl rfl rfl rfl rfl<|av 25 [23,24] rfl rfl rfl rfl rfl<|av 26 [23,25] rfl rfl rfl rfl rfl<|aj 27 [23,26] [] (aa rfl) rfl rfl<|aj 28 [27] [] (aa rfl) rfl rfl<|av 29 [28] rfl rfl rfl rfl rfl ?_
    refine av 30 [28,29] rfl rfl rfl rfl rfl<|av 31 [28,30] rfl rfl rfl rfl rfl<|aj 32 [28,31] [] (aa rfl) rfl rfl<|aj 33 [32] [] (aa rfl) rfl rfl<|av 34 [33] rfl rfl rfl rfl rfl<|av 35 [33,34] rfl rfl rfl rfl rfl<|av 36 [33,35] rfl rfl rfl rfl rfl<|ba 37 [36] rfl rfl rfl rfl<|ba 38 [36] rfl rfl rfl rfl<|ba 39 [36,38] rfl rfl rfl rfl ?_
    refine ba 40 [36,37,39] rfl rfl rfl rfl<|ba 41 [36,40] rfl rfl rfl rfl<|ba 42 [36,41] rfl rfl rfl rfl<|ba 43 [36] rfl rfl rfl rfl<|ba 44 [36,43] rfl rfl rfl rfl<|ba 45 [36,42,44] rfl rfl rfl rfl<|av 46 [33,36,45] rfl rfl rfl rfl rfl<|aj 47 [33,46] [] (aa rfl) rfl rfl<|aj 48 [47] [] (aa rfl) rfl rfl<|av 49 [48] rfl rfl rfl rfl rfl ?_
    refine av 50 [48,49] rfl rfl rfl rfl rfl<|av 51 [48] rfl rfl rfl rfl rfl<|av 52 [48,50,51] rfl rfl rfl rfl rfl<|aj 53 [48,52] [] (aa rfl) rfl rfl<|aj 54 [53] [] (aa rfl) rfl rfl<|av 55 [54] rfl rfl rfl rfl rfl<|av 56 [54] rfl rfl rfl rfl rfl<|av 57 [54,56] rfl rfl rfl rfl rfl<|av 58 [54,55,57] rfl rfl rfl rfl rfl<|av 59 [54,58] rfl rfl rfl rfl rfl ?_
    refine aj 60 [54,59] [] (aa rfl) rfl rfl<|aj 61 [60] [] (aa rfl) rfl rfl<|av 62 [61] rfl rfl rfl rfl rfl<|av 63 [61,62] rfl rfl rfl rfl rfl<|av 64 [61,63] rfl rfl rfl rfl rfl<|av 65 [61] rfl rfl rfl rfl rfl<|av 66 [61,64,65] rfl rfl rfl rfl rfl<|bW (by kernel_rfl) ?_
    refine s1 (aa rfl) rfl ?_
    refine ah<|ae ?_
    refine bT rfl ?_
    refine af<|ai<|s1 (aa rfl) rfl<|s1 (aa rfl) rfl ?_
    refine ah<|ae<|aF<|aH<|bc<|aH<|aH<|bc<|aH ?_
    refine aG (rs:= [.tmp 2,.tmp 3]) rfl (aD rfl (aD rfl aC)) ?_
    exact(fB (hst.trans (eo he (.inl hb)))).symm
   ·obtain ⟨h0, h1, hb⟩ := hcs
    refine bU ⟨_, [], []⟩ 67 4 bz (le_refl rfl) ?_
    refine aj 0 [] [(6,none)] (aA Tryz.underlying45 rfl an (by decide) rfl rfl) rfl rfl<|aj 1 [0] [(6,none)] (au an rfl rfl rfl) rfl rfl<|aj 2 [1] [] ((aa rfl).v (v':= .b false) (congrArg A.b (decide_eq_false (by omega)))) rfl rfl<|aj 3 [2] [] (aa rfl) rfl rfl<|aq 4 [3] [(6,none)] rfl rfl (aA Tryz.underlying45 rfl an (by decide) rfl rfl) rfl rfl<|aq 5 [3,4] [(6,none)] rfl rfl (au an rfl rfl rfl) rfl rfl<|aq 6 [3,5] [] rfl rfl ((aa rfl).v (v':= .b true) (congrArg A.b (decide_eq_true (by omega)))) rfl rfl<|aj 7 [3,6] [] (aa rfl) rfl rfl<|aj 8 [7] [] (aa rfl) rfl rfl<|av 9 [8] rfl rfl rfl rfl rfl ?_
    refine av 10 [8,9] rfl rfl rfl rfl rfl<|av 11 [8] rfl rfl rfl rfl rfl<|av 12 [8,11] rfl rfl rfl rfl rfl<|av 13 [8,12] rfl rfl rfl rfl rfl<|av 14 [8,13] rfl rfl rfl rfl rfl<|av 15 [8,10,14] rfl rfl rfl rfl rfl<|aj 16 [8,15] [] (aa rfl) rfl rfl<|aj 17 [16] [] (aa rfl) rfl rfl<|av 18 [17] rfl rfl rfl rfl rfl<|av 19 [17,18] rfl rfl rfl rfl rfl ?_
    refine av 20 [17] rfl rfl rfl rfl rfl<|av 21 [17,19,20] rfl rfl rfl rfl rfl<|aj 22 [17,21] [] (aa rfl) rfl rfl<|aj 23 [22] [] (aa rfl) rfl rfl<|av 24 [23] rfl rfl rfl rfl rfl<|av 25 [23,24] rfl rfl rfl rfl rfl<|av 26 [23,25] rfl rfl rfl rfl rfl<|aj 27 [23,26] [] (aa rfl) rfl rfl<|aj 28 [27] [] (aa rfl) rfl rfl<|av 29 [28] rfl rfl rfl rfl rfl ?_
    refine av 30 [28,29] rfl rfl rfl rfl rfl<|av 31 [28,30] rfl rfl rfl rfl rfl<|aj 32 [28,31] [] (aa rfl) rfl rfl<|aj 33 [32] [] (aa rfl) rfl rfl<|av 34 [33] rfl rfl rfl rfl rfl<|av 35 [33,34] rfl rfl rfl rfl rfl<|av 36 [33,35] rfl rfl rfl rfl rfl<|ba 37 [36] rfl rfl rfl rfl<|ba 38 [36] rfl rfl rfl rfl<|ba 39 [36,38] rfl rfl rfl rfl ?_
    refine ba 40 [36,37,39] rfl rfl rfl rfl<|ba 41 [36,40] rfl rfl rfl rfl<|ba 42 [36,41] rfl rfl rfl rfl<|ba 43 [36] rfl rfl rfl rfl<|ba 44 [36,43] rfl rfl rfl rfl<|ba 45 [36,42,44] rfl rfl rfl rfl<|av 46 [33,36,45] rfl rfl rfl rfl rfl<|aj 47 [33,46] [] (aa rfl) rfl rfl<|aj 48 [47] [] (aa rfl) rfl rfl<|av 49 [48] rfl rfl rfl rfl rfl ?_
    refine av 50 [48,49] rfl rfl rfl rfl rfl<|av 51 [48] rfl rfl rfl rfl rfl<|av 52 [48,50,51] rfl rfl rfl rfl rfl<|aj 53 [48,52] [] (aa rfl) rfl rfl<|aj 54 [53] [] (aa rfl) rfl rfl<|av 55 [54] rfl rfl rfl rfl rfl<|av 56 [54] rfl rfl rfl rfl rfl<|av 57 [54,56] rfl rfl rfl rfl rfl<|av 58 [54,55,57] rfl rfl rfl rfl rfl<|av 59 [54,58] rfl rfl rfl rfl rfl ?_
    refine aj 60 [54,59] [] (aa rfl) rfl rfl<|aj 61 [60] [] (aa rfl) rfl rfl<|av 62 [61] rfl rfl rfl rfl rfl<|av 63 [61,62] rfl rfl rfl rfl rfl<|av 64 [61,63] rfl rfl rfl rfl rfl<|av 65 [61] rfl rfl rfl rfl rfl<|av 66 [61,64,65] rfl rfl rfl rfl rfl<|bW (by kernel_rfl) ?_
    refine s1 (aa rfl) rfl ?_
    refine ah<|ae ?_
    refine bT rfl ?_
    refine af<|ai<|s1 (aa rfl) rfl<|s1 (aa rfl) rfl ?_
    refine ah<|ae<|aF<|aH<|bc<|aH<|aH<|bc<|aH ?_
    refine aG (rs:= [.tmp 2,.tmp 3]) rfl (aD rfl (aD rfl aC)) ?_
    exact(fB (hst.trans (eo he (.inl hb)))).symm
   ·obtain ⟨⟨h0, h1⟩, h2, hb⟩ := hcs
    refine bU ⟨_, [], []⟩ 67 4 bz (le_refl rfl) ?_
    refine aj 0 [] [(6,none)] (aA Tryz.underlying45 rfl an (by decide) rfl rfl) rfl rfl<|aj 1 [0] [(6,none)] (au an rfl rfl rfl) rfl rfl<|aj 2 [1] [] ((aa rfl).v (v':= .b false) (congrArg A.b (decide_eq_false (by omega)))) rfl rfl<|aj 3 [2] [] (aa rfl) rfl rfl<|aq 4 [3] [(6,none)] rfl rfl (aA Tryz.underlying45 rfl an (by decide) rfl rfl) rfl rfl<|aq 5 [3,4] [(6,none)] rfl rfl (au an rfl rfl rfl) rfl rfl<|aq 6 [3,5] [] rfl rfl ((aa rfl).v (v':= .b false) (congrArg A.b (decide_eq_false (by omega)))) rfl rfl<|aj 7 [3,6] [] (aa rfl) rfl rfl<|aj 8 [7] [] (aa rfl) rfl rfl<|aq 9 [8] [(6,none)] rfl rfl (aA Tryz.underlying45 rfl an (by decide) rfl rfl) rfl rfl ?_
    refine aq 10 [8,9] [(6,none)] rfl rfl (au an rfl rfl rfl) rfl rfl<|aq 11 [8] [] rfl rfl (aa rfl) rfl rfl<|aq 12 [8,11] [] rfl rfl (aT 0 Tryz.underlying24 bA rfl rfl rfl (by omega) rfl) rfl rfl<|aq 13 [8,12] [] rfl rfl (bd Tryz.underlying45 rfl an (by decide) rfl rfl) rfl rfl<|aq 14 [8,13] [] rfl rfl (au an rfl rfl (dK hl he0 (k:=0) rfl (by decide))) rfl rfl<|aq 15 [8,10,14] [] rfl rfl ((aa rfl).v (v':= .b true) (congrArg A.b (bne_iff_ne.2 (by omega)))) rfl rfl<|aj 16 [8,15] [] (aa rfl) rfl rfl<|aj 17 [16] [] (aa rfl) rfl rfl<|av 18 [17] rfl rfl rfl rfl rfl<|av 19 [17,18] rfl rfl rfl rfl rfl ?_
    refine av 20 [17] rfl rfl rfl rfl rfl<|av 21 [17,19,20] rfl rfl rfl rfl rfl<|aj 22 [17,21] [] (aa rfl) rfl rfl<|aj 23 [22] [] (aa rfl) rfl rfl<|av 24 [23] rfl rfl rfl rfl rfl<|av 25 [23,24] rfl rfl rfl rfl rfl<|av 26 [23,25] rfl rfl rfl rfl rfl<|aj 27 [23,26] [] (aa rfl) rfl rfl<|aj 28 [27] [] (aa rfl) rfl rfl<|av 29 [28] rfl rfl rfl rfl rfl ?_
    refine av 30 [28,29] rfl rfl rfl rfl rfl<|av 31 [28,30] rfl rfl rfl rfl rfl<|aj 32 [28,31] [] (aa rfl) rfl rfl<|aj 33 [32] [] (aa rfl) rfl rfl<|av 34 [33] rfl rfl rfl rfl rfl<|av 35 [33,34] rfl rfl rfl rfl rfl<|av 36 [33,35] rfl rfl rfl rfl rfl<|ba 37 [36] rfl rfl rfl rfl<|ba 38 [36] rfl rfl rfl rfl<|ba 39 [36,38] rfl rfl rfl rfl ?_
    refine ba 40 [36,37,39] rfl rfl rfl rfl<|ba 41 [36,40] rfl rfl rfl rfl<|ba 42 [36,41] rfl rfl rfl rfl<|ba 43 [36] rfl rfl rfl rfl<|ba 44 [36,43] rfl rfl rfl rfl<|ba 45 [36,42,44] rfl rfl rfl rfl<|av 46 [33,36,45] rfl rfl rfl rfl rfl<|aj 47 [33,46] [] (aa rfl) rfl rfl<|aj 48 [47] [] (aa rfl) rfl rfl<|av 49 [48] rfl rfl rfl rfl rfl ?_
    refine av 50 [48,49] rfl rfl rfl rfl rfl<|av 51 [48] rfl rfl rfl rfl rfl<|av 52 [48,50,51] rfl rfl rfl rfl rfl<|aj 53 [48,52] [] (aa rfl) rfl rfl<|aj 54 [53] [] (aa rfl) rfl rfl<|av 55 [54] rfl rfl rfl rfl rfl<|av 56 [54] rfl rfl rfl rfl rfl<|av 57 [54,56] rfl rfl rfl rfl rfl<|av 58 [54,55,57] rfl rfl rfl rfl rfl<|av 59 [54,58] rfl rfl rfl rfl rfl ?_
    refine aj 60 [54,59] [] (aa rfl) rfl rfl<|aj 61 [60] [] (aa rfl) rfl rfl<|av 62 [61] rfl rfl rfl rfl rfl<|av 63 [61,62] rfl rfl rfl rfl rfl<|av 64 [61,63] rfl rfl rfl rfl rfl<|av 65 [61] rfl rfl rfl rfl rfl<|av 66 [61,64,65] rfl rfl rfl rfl rfl<|bW (by kernel_rfl) ?_
    refine s1 (aa rfl) rfl ?_
    refine ah<|ae ?_
    refine bT rfl ?_
    refine af<|ai<|s1 (aa rfl) rfl<|s1 (aa rfl) rfl ?_
    refine ah<|ae<|aF<|aH<|bc<|aH<|aH<|bc<|aH ?_
    refine aG (rs:= [.tmp 2,.tmp 3]) rfl (aD rfl (aD rfl aC)) ?_
    exact(fB (hst.trans (eo he (.inl hb)))).symm
   ·obtain ⟨⟨h0, h1, h2⟩, h3, hb⟩ := hcs
    refine bU ⟨_, [], []⟩ 67 4 bz (le_refl rfl) ?_
    refine aj 0 [] [(6,none)] (aA Tryz.underlying45 rfl an (by decide) rfl rfl) rfl rfl<|aj 1 [0] [(6,none)] (au an rfl rfl rfl) rfl rfl<|aj 2 [1] [] ((aa rfl).v (v':= .b false) (congrArg A.b (decide_eq_false (by omega)))) rfl rfl<|aj 3 [2] [] (aa rfl) rfl rfl<|aq 4 [3] [(6,none)] rfl rfl (aA Tryz.underlying45 rfl an (by decide) rfl rfl) rfl rfl<|aq 5 [3,4] [(6,none)] rfl rfl (au an rfl rfl rfl) rfl rfl<|aq 6 [3,5] [] rfl rfl ((aa rfl).v (v':= .b false) (congrArg A.b (decide_eq_false (by omega)))) rfl rfl<|aj 7 [3,6] [] (aa rfl) rfl rfl<|aj 8 [7] [] (aa rfl) rfl rfl<|aq 9 [8] [(6,none)] rfl rfl (aA Tryz.underlying45 rfl an (by decide) rfl rfl) rfl rfl ?_
    refine aq 10 [8,9] [(6,none)] rfl rfl (au an rfl rfl rfl) rfl rfl<|aq 11 [8] [] rfl rfl (aa rfl) rfl rfl<|aq 12 [8,11] [] rfl rfl (aT 0 Tryz.underlying24 bA rfl rfl rfl (by omega) rfl) rfl rfl<|aq 13 [8,12] [] rfl rfl (bd Tryz.underlying45 rfl an (by decide) rfl rfl) rfl rfl<|aq 14 [8,13] [] rfl rfl (au an rfl rfl (dK hl he0 (k:=0) rfl (by decide))) rfl rfl<|aq 15 [8,10,14] [] rfl rfl ((aa rfl).v (v':= .b false) (congrArg A.b (bne_eq_false_iff_eq.2 (by omega)))) rfl rfl<|aj 16 [8,15] [] (aa rfl) rfl rfl<|aj 17 [16] [] (aa rfl) rfl rfl<|aq 18 [17] [(6,none)] rfl rfl (aA Tryz.underlying45 rfl an (by decide) rfl rfl) rfl rfl<|aq 19 [17,18] [(6,none)] rfl rfl (au an rfl rfl rfl) rfl rfl ?_
    refine aq 20 [17] [] rfl rfl (aa rfl) rfl rfl<|aq 21 [17,19,20] [] rfl rfl ((aa rfl).v (v':= .b true) (congrArg A.b (bne_iff_ne.2 (by omega)))) rfl rfl<|aj 22 [17,21] [] (aa rfl) rfl rfl<|aj 23 [22] [] (aa rfl) rfl rfl<|av 24 [23] rfl rfl rfl rfl rfl<|av 25 [23,24] rfl rfl rfl rfl rfl<|av 26 [23,25] rfl rfl rfl rfl rfl<|aj 27 [23,26] [] (aa rfl) rfl rfl<|aj 28 [27] [] (aa rfl) rfl rfl<|av 29 [28] rfl rfl rfl rfl rfl ?_
    refine av 30 [28,29] rfl rfl rfl rfl rfl<|av 31 [28,30] rfl rfl rfl rfl rfl<|aj 32 [28,31] [] (aa rfl) rfl rfl<|aj 33 [32] [] (aa rfl) rfl rfl<|av 34 [33] rfl rfl rfl rfl rfl<|av 35 [33,34] rfl rfl rfl rfl rfl<|av 36 [33,35] rfl rfl rfl rfl rfl<|ba 37 [36] rfl rfl rfl rfl<|ba 38 [36] rfl rfl rfl rfl<|ba 39 [36,38] rfl rfl rfl rfl ?_
    refine ba 40 [36,37,39] rfl rfl rfl rfl<|ba 41 [36,40] rfl rfl rfl rfl<|ba 42 [36,41] rfl rfl rfl rfl<|ba 43 [36] rfl rfl rfl rfl<|ba 44 [36,43] rfl rfl rfl rfl<|ba 45 [36,42,44] rfl rfl rfl rfl<|av 46 [33,36,45] rfl rfl rfl rfl rfl<|aj 47 [33,46] [] (aa rfl) rfl rfl<|aj 48 [47] [] (aa rfl) rfl rfl<|av 49 [48] rfl rfl rfl rfl rfl ?_
    refine av 50 [48,49] rfl rfl rfl rfl rfl<|av 51 [48] rfl rfl rfl rfl rfl<|av 52 [48,50,51] rfl rfl rfl rfl rfl<|aj 53 [48,52] [] (aa rfl) rfl rfl<|aj 54 [53] [] (aa rfl) rfl rfl<|av 55 [54] rfl rfl rfl rfl rfl<|av 56 [54] rfl rfl rfl rfl rfl<|av 57 [54,56] rfl rfl rfl rfl rfl<|av 58 [54,55,57] rfl rfl rfl rfl rfl<|av 59 [54,58] rfl rfl rfl rfl rfl ?_
    refine aj 60 [54,59] [] (aa rfl) rfl rfl<|aj 61 [60] [] (aa rfl) rfl rfl<|av 62 [61] rfl rfl rfl rfl rfl<|av 63 [61,62] rfl rfl rfl rfl rfl<|av 64 [61,63] rfl rfl rfl rfl rfl<|av 65 [61] rfl rfl rfl rfl rfl<|av 66 [61,64,65] rfl rfl rfl rfl rfl<|bW (by kernel_rfl) ?_
    refine s1 (aa rfl) rfl ?_
    refine ah<|ae ?_
    refine bT rfl ?_
    refine af<|ai<|s1 (aa rfl) rfl<|s1 (aa rfl) rfl ?_
    refine ah<|ae<|aF<|aH<|bc<|aH<|aH<|bc<|aH ?_
    refine aG (rs:= [.tmp 2,.tmp 3]) rfl (aD rfl (aD rfl aC)) ?_
    exact(fB (hst.trans (eo he (.inl hb)))).symm
   ·obtain ⟨⟨h0, h1, h2, h3⟩, h4, hb⟩ := hcs
    refine bU ⟨_, [], []⟩ 67 4 bz (le_refl rfl) ?_
    refine aj 0 [] [(6,none)] (aA Tryz.underlying45 rfl an (by decide) rfl rfl) rfl rfl<|aj 1 [0] [(6,none)] (au an rfl rfl rfl) rfl rfl<|aj 2 [1] [] ((aa rfl).v (v':= .b false) (congrArg A.b (decide_eq_false (by omega)))) rfl rfl<|aj 3 [2] [] (aa rfl) rfl rfl<|aq 4 [3] [(6,none)] rfl rfl (aA Tryz.underlying45 rfl an (by decide) rfl rfl) rfl rfl<|aq 5 [3,4] [(6,none)] rfl rfl (au an rfl rfl rfl) rfl rfl<|aq 6 [3,5] [] rfl rfl ((aa rfl).v (v':= .b false) (congrArg A.b (decide_eq_false (by omega)))) rfl rfl<|aj 7 [3,6] [] (aa rfl) rfl rfl<|aj 8 [7] [] (aa rfl) rfl rfl<|aq 9 [8] [(6,none)] rfl rfl (aA Tryz.underlying45 rfl an (by decide) rfl rfl) rfl rfl ?_
    refine aq 10 [8,9] [(6,none)] rfl rfl (au an rfl rfl rfl) rfl rfl<|aq 11 [8] [] rfl rfl (aa rfl) rfl rfl<|aq 12 [8,11] [] rfl rfl (aT 0 Tryz.underlying24 bA rfl rfl rfl (by omega) rfl) rfl rfl<|aq 13 [8,12] [] rfl rfl (bd Tryz.underlying45 rfl an (by decide) rfl rfl) rfl rfl<|aq 14 [8,13] [] rfl rfl (au an rfl rfl (dK hl he0 (k:=0) rfl (by decide))) rfl rfl<|aq 15 [8,10,14] [] rfl rfl ((aa rfl).v (v':= .b false) (congrArg A.b (bne_eq_false_iff_eq.2 (by omega)))) rfl rfl<|aj 16 [8,15] [] (aa rfl) rfl rfl<|aj 17 [16] [] (aa rfl) rfl rfl<|aq 18 [17] [(6,none)] rfl rfl (aA Tryz.underlying45 rfl an (by decide) rfl rfl) rfl rfl<|aq 19 [17,18] [(6,none)] rfl rfl (au an rfl rfl rfl) rfl rfl ?_
    refine aq 20 [17] [] rfl rfl (aa rfl) rfl rfl<|aq 21 [17,19,20] [] rfl rfl ((aa rfl).v (v':= .b false) (congrArg A.b (bne_eq_false_iff_eq.2 (by omega)))) rfl rfl<|aj 22 [17,21] [] (aa rfl) rfl rfl<|aj 23 [22] [] (aa rfl) rfl rfl<|aq 24 [23] [(6,none)] rfl rfl (aA Tryz.underlying45 rfl an (by decide) rfl rfl) rfl rfl<|aq 25 [23,24] [(6,none)] rfl rfl (au an rfl rfl rfl) rfl rfl<|aq 26 [23,25] [] rfl rfl ((aa rfl).v (v':= .b true) (congrArg A.b (decide_eq_true (by omega)))) rfl rfl<|aj 27 [23,26] [] (aa rfl) rfl rfl<|aj 28 [27] [] (aa rfl) rfl rfl<|av 29 [28] rfl rfl rfl rfl rfl ?_
    refine av 30 [28,29] rfl rfl rfl rfl rfl<|av 31 [28,30] rfl rfl rfl rfl rfl<|aj 32 [28,31] [] (aa rfl) rfl rfl<|aj 33 [32] [] (aa rfl) rfl rfl<|av 34 [33] rfl rfl rfl rfl rfl<|av 35 [33,34] rfl rfl rfl rfl rfl<|av 36 [33,35] rfl rfl rfl rfl rfl<|ba 37 [36] rfl rfl rfl rfl<|ba 38 [36] rfl rfl rfl rfl<|ba 39 [36,38] rfl rfl rfl rfl ?_
    refine ba 40 [36,37,39] rfl rfl rfl rfl<|ba 41 [36,40] rfl rfl rfl rfl<|ba 42 [36,41] rfl rfl rfl rfl<|ba 43 [36] rfl rfl rfl rfl<|ba 44 [36,43] rfl rfl rfl rfl<|ba 45 [36,42,44] rfl rfl rfl rfl<|av 46 [33,36,45] rfl rfl rfl rfl rfl<|aj 47 [33,46] [] (aa rfl) rfl rfl<|aj 48 [47] [] (aa rfl) rfl rfl<|av 49 [48] rfl rfl rfl rfl rfl ?_
    refine av 50 [48,49] rfl rfl rfl rfl rfl<|av 51 [48] rfl rfl rfl rfl rfl<|av 52 [48,50,51] rfl rfl rfl rfl rfl<|aj 53 [48,52] [] (aa rfl) rfl rfl<|aj 54 [53] [] (aa rfl) rfl rfl<|av 55 [54] rfl rfl rfl rfl rfl<|av 56 [54] rfl rfl rfl rfl rfl<|av 57 [54,56] rfl rfl rfl rfl rfl<|av 58 [54,55,57] rfl rfl rfl rfl rfl<|av 59 [54,58] rfl rfl rfl rfl rfl ?_
    refine aj 60 [54,59] [] (aa rfl) rfl rfl<|aj 61 [60] [] (aa rfl) rfl rfl<|av 62 [61] rfl rfl rfl rfl rfl<|av 63 [61,62] rfl rfl rfl rfl rfl<|av 64 [61,63] rfl rfl rfl rfl rfl<|av 65 [61] rfl rfl rfl rfl rfl<|av 66 [61,64,65] rfl rfl rfl rfl rfl<|bW (by kernel_rfl) ?_
    refine s1 (aa rfl) rfl ?_
    refine ah<|ae ?_
    refine bT rfl ?_
    refine af<|ai<|s1 (aa rfl) rfl<|s1 (aa rfl) rfl ?_
    refine ah<|ae<|aF<|aH<|bc<|aH<|aH<|bc<|aH ?_
    refine aG (rs:= [.tmp 2,.tmp 3]) rfl (aD rfl (aD rfl aC)) ?_
    exact(fB (hst.trans (eo he (.inl hb)))).symm
   ·obtain ⟨⟨h0, h1, h2, h3, h4⟩, h5, hb⟩ := hcs
    refine bU ⟨_, [], []⟩ 67 4 bz (le_refl rfl) ?_
    refine aj 0 [] [(6,none)] (aA Tryz.underlying45 rfl an (by decide) rfl rfl) rfl rfl<|aj 1 [0] [(6,none)] (au an rfl rfl rfl) rfl rfl<|aj 2 [1] [] ((aa rfl).v (v':= .b false) (congrArg A.b (decide_eq_false (by omega)))) rfl rfl<|aj 3 [2] [] (aa rfl) rfl rfl<|aq 4 [3] [(6,none)] rfl rfl (aA Tryz.underlying45 rfl an (by decide) rfl rfl) rfl rfl<|aq 5 [3,4] [(6,none)] rfl rfl (au an rfl rfl rfl) rfl rfl<|aq 6 [3,5] [] rfl rfl ((aa rfl).v (v':= .b false) (congrArg A.b (decide_eq_false (by omega)))) rfl rfl<|aj 7 [3,6] [] (aa rfl) rfl rfl<|aj 8 [7] [] (aa rfl) rfl rfl<|aq 9 [8] [(6,none)] rfl rfl (aA Tryz.underlying45 rfl an (by decide) rfl rfl) rfl rfl ?_
    refine aq 10 [8,9] [(6,none)] rfl rfl (au an rfl rfl rfl) rfl rfl<|aq 11 [8] [] rfl rfl (aa rfl) rfl rfl<|aq 12 [8,11] [] rfl rfl (aT 0 Tryz.underlying24 bA rfl rfl rfl (by omega) rfl) rfl rfl<|aq 13 [8,12] [] rfl rfl (bd Tryz.underlying45 rfl an (by decide) rfl rfl) rfl rfl<|aq 14 [8,13] [] rfl rfl (au an rfl rfl (dK hl he0 (k:=0) rfl (by decide))) rfl rfl<|aq 15 [8,10,14] [] rfl rfl ((aa rfl).v (v':= .b false) (congrArg A.b (bne_eq_false_iff_eq.2 (by omega)))) rfl rfl<|aj 16 [8,15] [] (aa rfl) rfl rfl<|aj 17 [16] [] (aa rfl) rfl rfl<|aq 18 [17] [(6,none)] rfl rfl (aA Tryz.underlying45 rfl an (by decide) rfl rfl) rfl rfl<|aq 19 [17,18] [(6,none)] rfl rfl (au an rfl rfl rfl) rfl rfl ?_
    refine aq 20 [17] [] rfl rfl (aa rfl) rfl rfl<|aq 21 [17,19,20] [] rfl rfl ((aa rfl).v (v':= .b false) (congrArg A.b (bne_eq_false_iff_eq.2 (by omega)))) rfl rfl<|aj 22 [17,21] [] (aa rfl) rfl rfl<|aj 23 [22] [] (aa rfl) rfl rfl<|aq 24 [23] [(6,none)] rfl rfl (aA Tryz.underlying45 rfl an (by decide) rfl rfl) rfl rfl<|aq 25 [23,24] [(6,none)] rfl rfl (au an rfl rfl rfl) rfl rfl<|aq 26 [23,25] [] rfl rfl ((aa rfl).v (v':= .b false) (congrArg A.b (decide_eq_false (by omega)))) rfl rfl<|aj 27 [23,26] [] (aa rfl) rfl rfl<|aj 28 [27] [] (aa rfl) rfl rfl<|aq 29 [28] [(6,none)] rfl rfl (aA Tryz.underlying45 rfl an (by decide) rfl rfl) rfl rfl ?_
    refine aq 30 [28,29] [(6,none)] rfl rfl (au an rfl rfl rfl) rfl rfl<|aq 31 [28,30] [] rfl rfl ((aa rfl).v (v':= .b true) (congrArg A.b (decide_eq_true (by omega)))) rfl rfl<|aj 32 [28,31] [] (aa rfl) rfl rfl<|aj 33 [32] [] (aa rfl) rfl rfl<|av 34 [33] rfl rfl rfl rfl rfl<|av 35 [33,34] rfl rfl rfl rfl rfl<|av 36 [33,35] rfl rfl rfl rfl rfl<|ba 37 [36] rfl rfl rfl rfl<|ba 38 [36] rfl rfl rfl rfl<|ba 39 [36,38] rfl rfl rfl rfl ?_
    refine ba 40 [36,37,39] rfl rfl rfl rfl<|ba 41 [36,40] rfl rfl rfl rfl<|ba 42 [36,41] rfl rfl rfl rfl<|ba 43 [36] rfl rfl rfl rfl<|ba 44 [36,43] rfl rfl rfl rfl<|ba 45 [36,42,44] rfl rfl rfl rfl<|av 46 [33,36,45] rfl rfl rfl rfl rfl<|aj 47 [33,46] [] (aa rfl) rfl rfl<|aj 48 [47] [] (aa rfl) rfl rfl<|av 49 [48] rfl rfl rfl rfl rfl ?_
    refine av 50 [48,49] rfl rfl rfl rfl rfl<|av 51 [48] rfl rfl rfl rfl rfl<|av 52 [48,50,51] rfl rfl rfl rfl rfl<|aj 53 [48,52] [] (aa rfl) rfl rfl<|aj 54 [53] [] (aa rfl) rfl rfl<|av 55 [54] rfl rfl rfl rfl rfl<|av 56 [54] rfl rfl rfl rfl rfl<|av 57 [54,56] rfl rfl rfl rfl rfl<|av 58 [54,55,57] rfl rfl rfl rfl rfl<|av 59 [54,58] rfl rfl rfl rfl rfl ?_
    refine aj 60 [54,59] [] (aa rfl) rfl rfl<|aj 61 [60] [] (aa rfl) rfl rfl<|av 62 [61] rfl rfl rfl rfl rfl<|av 63 [61,62] rfl rfl rfl rfl rfl<|av 64 [61,63] rfl rfl rfl rfl rfl<|av 65 [61] rfl rfl rfl rfl rfl<|av 66 [61,64,65] rfl rfl rfl rfl rfl<|bW (by kernel_rfl) ?_
    refine s1 (aa rfl) rfl ?_
    refine ah<|ae ?_
    refine bT rfl ?_
    refine af<|ai<|s1 (aa rfl) rfl<|s1 (aa rfl) rfl ?_
    refine ah<|ae<|aF<|aH<|bc<|aH<|aH<|bc<|aH ?_
    refine aG (rs:= [.tmp 2,.tmp 3]) rfl (aD rfl (aD rfl aC)) ?_
    exact(fB (hst.trans (eo he (.inl hb)))).symm
   ·obtain ⟨⟨r1, r2, r3, r4, r5, r6⟩, h7, h8, hb⟩ := hcs
    rw [hpv]at h8
    refine bU ⟨_, [], []⟩ 67 4 bz (le_refl rfl) ?_
    refine aj 0 [] [(6,none)] (aA Tryz.underlying45 rfl an (by decide) rfl rfl) rfl rfl<|aj 1 [0] [(6,none)] (au an rfl rfl rfl) rfl rfl<|aj 2 [1] [] ((aa rfl).v (v':= .b false) (congrArg A.b (decide_eq_false (by omega)))) rfl rfl<|aj 3 [2] [] (aa rfl) rfl rfl<|aq 4 [3] [(6,none)] rfl rfl (aA Tryz.underlying45 rfl an (by decide) rfl rfl) rfl rfl<|aq 5 [3,4] [(6,none)] rfl rfl (au an rfl rfl rfl) rfl rfl<|aq 6 [3,5] [] rfl rfl ((aa rfl).v (v':= .b false) (congrArg A.b (decide_eq_false (by omega)))) rfl rfl<|aj 7 [3,6] [] (aa rfl) rfl rfl<|aj 8 [7] [] (aa rfl) rfl rfl<|aq 9 [8] [(6,none)] rfl rfl (aA Tryz.underlying45 rfl an (by decide) rfl rfl) rfl rfl ?_
    refine aq 10 [8,9] [(6,none)] rfl rfl (au an rfl rfl rfl) rfl rfl<|aq 11 [8] [] rfl rfl (aa rfl) rfl rfl<|aq 12 [8,11] [] rfl rfl (aT 0 Tryz.underlying24 bA rfl rfl rfl (by omega) rfl) rfl rfl<|aq 13 [8,12] [] rfl rfl (bd Tryz.underlying45 rfl an (by decide) rfl rfl) rfl rfl<|aq 14 [8,13] [] rfl rfl (au an rfl rfl (dK hl he0 (k:=0) rfl (by decide))) rfl rfl<|aq 15 [8,10,14] [] rfl rfl ((aa rfl).v (v':= .b false) (congrArg A.b (bne_eq_false_iff_eq.2 (by omega)))) rfl rfl<|aj 16 [8,15] [] (aa rfl) rfl rfl<|aj 17 [16] [] (aa rfl) rfl rfl<|aq 18 [17] [(6,none)] rfl rfl (aA Tryz.underlying45 rfl an (by decide) rfl rfl) rfl rfl<|aq 19 [17,18] [(6,none)] rfl rfl (au an rfl rfl rfl) rfl rfl ?_
    refine aq 20 [17] [] rfl rfl (aa rfl) rfl rfl<|aq 21 [17,19,20] [] rfl rfl ((aa rfl).v (v':= .b false) (congrArg A.b (bne_eq_false_iff_eq.2 (by omega)))) rfl rfl<|aj 22 [17,21] [] (aa rfl) rfl rfl<|aj 23 [22] [] (aa rfl) rfl rfl<|aq 24 [23] [(6,none)] rfl rfl (aA Tryz.underlying45 rfl an (by decide) rfl rfl) rfl rfl<|aq 25 [23,24] [(6,none)] rfl rfl (au an rfl rfl rfl) rfl rfl<|aq 26 [23,25] [] rfl rfl ((aa rfl).v (v':= .b false) (congrArg A.b (decide_eq_false (by omega)))) rfl rfl<|aj 27 [23,26] [] (aa rfl) rfl rfl<|aj 28 [27] [] (aa rfl) rfl rfl<|aq 29 [28] [(6,none)] rfl rfl (aA Tryz.underlying45 rfl an (by decide) rfl rfl) rfl rfl ?_
    refine aq 30 [28,29] [(6,none)] rfl rfl (au an rfl rfl rfl) rfl rfl<|aq 31 [28,30] [] rfl rfl ((aa rfl).v (v':= .b false) (congrArg A.b (decide_eq_false (by omega)))) rfl rfl<|aj 32 [28,31] [] (aa rfl) rfl rfl<|aj 33 [32] [] (aa rfl) rfl rfl<|aq 34 [33] [] rfl rfl (aa rfl) rfl rfl<|aq 35 [33,34] [] rfl rfl ((aa rfl).v (v':= .b false) (congrArg A.b (decide_eq_false (by omega)))) rfl rfl<|aq 36 [33,35] [] rfl rfl (aa rfl) rfl rfl<|av 37 [36] rfl rfl rfl rfl rfl<|av 38 [36] rfl rfl rfl rfl rfl<|av 39 [36,38] rfl rfl rfl rfl rfl ?_
    refine av 40 [36,37,39] rfl rfl rfl rfl rfl<|av 41 [36,40] rfl rfl rfl rfl rfl<|av 42 [36,41] rfl rfl rfl rfl rfl<|av 43 [36] rfl rfl rfl rfl rfl<|av 44 [36,43] rfl rfl rfl rfl rfl<|av 45 [36,42,44] rfl rfl rfl rfl rfl<|aq 46 [33,36,45] [] rfl rfl (aa rfl) rfl rfl<|aj 47 [33,46] [] (aa rfl) rfl rfl<|aj 48 [47] [] (aa rfl) rfl rfl<|aq 49 [48] [(6,none)] rfl rfl (aA Tryz.underlying45 rfl aE (by decide) rfl rfl) rfl rfl ?_
    refine aq 50 [48,49] [(6,none)] rfl rfl (cm aE rfl rfl (jo hok) (by rw [List.length_map,hok.prev])) rfl rfl<|aq 51 [48] [(7,none)] rfl rfl (aZ aE rfl rfl (by simp)) rfl rfl<|aq 52 [48,50,51] [] rfl rfl (((lW Tryz.underlying23 Tryz.underlying5 aQ (by kernel_rfl) rfl rfl hok.prev (by simp))).v (v':= .b true) (congrArg A.b (by rw [beq_eq_false_iff_ne.2 h8];rfl))) rfl rfl<|aj 53 [48,52] [] (aa rfl) rfl rfl<|aj 54 [53] [] (aa rfl) rfl rfl<|av 55 [54] rfl rfl rfl rfl rfl<|av 56 [54] rfl rfl rfl rfl rfl<|av 57 [54,56] rfl rfl rfl rfl rfl<|av 58 [54,55,57] rfl rfl rfl rfl rfl<|av 59 [54,58] rfl rfl rfl rfl rfl ?_
    refine aj 60 [54,59] [] (aa rfl) rfl rfl<|aj 61 [60] [] (aa rfl) rfl rfl<|av 62 [61] rfl rfl rfl rfl rfl<|av 63 [61,62] rfl rfl rfl rfl rfl<|av 64 [61,63] rfl rfl rfl rfl rfl<|av 65 [61] rfl rfl rfl rfl rfl<|av 66 [61,64,65] rfl rfl rfl rfl rfl<|bW (by kernel_rfl) ?_
    refine s1 (aa rfl) rfl ?_
    refine ah<|ae ?_
    refine bT rfl ?_
    refine af<|ai<|s1 (aa rfl) rfl<|s1 (aa rfl) rfl ?_
    refine ah<|ae<|aF<|aH<|bc<|aH<|aH<|bc<|aH ?_
    refine aG (rs:= [.tmp 2,.tmp 3]) rfl (aD rfl (aD rfl aC)) ?_
    exact(fB (hst.trans (eo he (.inl hb)))).symm
   ·obtain ⟨⟨r1, r2, r3, r4, r5, r6⟩, h7, h8, hk⟩ := hcs
    rw [hpv]at h8
    refine bU ⟨_, [], []⟩ 67 4 bz (le_refl rfl) ?_
    refine aj 0 [] [(6,none)] (aA Tryz.underlying45 rfl an (by decide) rfl rfl) rfl rfl<|aj 1 [0] [(6,none)] (au an rfl rfl rfl) rfl rfl<|aj 2 [1] [] ((aa rfl).v (v':= .b false) (congrArg A.b (decide_eq_false (by omega)))) rfl rfl<|aj 3 [2] [] (aa rfl) rfl rfl<|aq 4 [3] [(6,none)] rfl rfl (aA Tryz.underlying45 rfl an (by decide) rfl rfl) rfl rfl<|aq 5 [3,4] [(6,none)] rfl rfl (au an rfl rfl rfl) rfl rfl<|aq 6 [3,5] [] rfl rfl ((aa rfl).v (v':= .b false) (congrArg A.b (decide_eq_false (by omega)))) rfl rfl<|aj 7 [3,6] [] (aa rfl) rfl rfl<|aj 8 [7] [] (aa rfl) rfl rfl<|aq 9 [8] [(6,none)] rfl rfl (aA Tryz.underlying45 rfl an (by decide) rfl rfl) rfl rfl ?_
    refine aq 10 [8,9] [(6,none)] rfl rfl (au an rfl rfl rfl) rfl rfl<|aq 11 [8] [] rfl rfl (aa rfl) rfl rfl<|aq 12 [8,11] [] rfl rfl (aT 0 Tryz.underlying24 bA rfl rfl rfl (by omega) rfl) rfl rfl<|aq 13 [8,12] [] rfl rfl (bd Tryz.underlying45 rfl an (by decide) rfl rfl) rfl rfl<|aq 14 [8,13] [] rfl rfl (au an rfl rfl (dK hl he0 (k:=0) rfl (by decide))) rfl rfl<|aq 15 [8,10,14] [] rfl rfl ((aa rfl).v (v':= .b false) (congrArg A.b (bne_eq_false_iff_eq.2 (by omega)))) rfl rfl<|aj 16 [8,15] [] (aa rfl) rfl rfl<|aj 17 [16] [] (aa rfl) rfl rfl<|aq 18 [17] [(6,none)] rfl rfl (aA Tryz.underlying45 rfl an (by decide) rfl rfl) rfl rfl<|aq 19 [17,18] [(6,none)] rfl rfl (au an rfl rfl rfl) rfl rfl ?_
    refine aq 20 [17] [] rfl rfl (aa rfl) rfl rfl<|aq 21 [17,19,20] [] rfl rfl ((aa rfl).v (v':= .b false) (congrArg A.b (bne_eq_false_iff_eq.2 (by omega)))) rfl rfl<|aj 22 [17,21] [] (aa rfl) rfl rfl<|aj 23 [22] [] (aa rfl) rfl rfl<|aq 24 [23] [(6,none)] rfl rfl (aA Tryz.underlying45 rfl an (by decide) rfl rfl) rfl rfl<|aq 25 [23,24] [(6,none)] rfl rfl (au an rfl rfl rfl) rfl rfl<|aq 26 [23,25] [] rfl rfl ((aa rfl).v (v':= .b false) (congrArg A.b (decide_eq_false (by omega)))) rfl rfl<|aj 27 [23,26] [] (aa rfl) rfl rfl<|aj 28 [27] [] (aa rfl) rfl rfl<|aq 29 [28] [(6,none)] rfl rfl (aA Tryz.underlying45 rfl an (by decide) rfl rfl) rfl rfl ?_
    refine aq 30 [28,29] [(6,none)] rfl rfl (au an rfl rfl rfl) rfl rfl<|aq 31 [28,30] [] rfl rfl ((aa rfl).v (v':= .b false) (congrArg A.b (decide_eq_false (by omega)))) rfl rfl<|aj 32 [28,31] [] (aa rfl) rfl rfl<|aj 33 [32] [] (aa rfl) rfl rfl<|aq 34 [33] [] rfl rfl (aa rfl) rfl rfl<|aq 35 [33,34] [] rfl rfl ((aa rfl).v (v':= .b false) (congrArg A.b (decide_eq_false (by omega)))) rfl rfl<|aq 36 [33,35] [] rfl rfl (aa rfl) rfl rfl<|av 37 [36] rfl rfl rfl rfl rfl<|av 38 [36] rfl rfl rfl rfl rfl<|av 39 [36,38] rfl rfl rfl rfl rfl ?_
    refine av 40 [36,37,39] rfl rfl rfl rfl rfl<|av 41 [36,40] rfl rfl rfl rfl rfl<|av 42 [36,41] rfl rfl rfl rfl rfl<|av 43 [36] rfl rfl rfl rfl rfl<|av 44 [36,43] rfl rfl rfl rfl rfl<|av 45 [36,42,44] rfl rfl rfl rfl rfl<|aq 46 [33,36,45] [] rfl rfl (aa rfl) rfl rfl<|aj 47 [33,46] [] (aa rfl) rfl rfl<|aj 48 [47] [] (aa rfl) rfl rfl<|aq 49 [48] [(6,none)] rfl rfl (aA Tryz.underlying45 rfl aE (by decide) rfl rfl) rfl rfl ?_
    refine aq 50 [48,49] [(6,none)] rfl rfl (cm aE rfl rfl (jo hok) (by rw [List.length_map,hok.prev])) rfl rfl<|aq 51 [48] [(7,none)] rfl rfl (aZ aE rfl rfl (by simp)) rfl rfl<|aq 52 [48,50,51] [] rfl rfl (((lW Tryz.underlying23 Tryz.underlying5 aQ (by kernel_rfl) rfl rfl hok.prev (by simp))).v (v':= .b false) (congrArg A.b (by rw [beq_iff_eq.2 h8];rfl))) rfl rfl<|aj 53 [48,52] [] (aa rfl) rfl rfl<|aj 54 [53] [] (aa rfl) rfl rfl<|aq 55 [54] [] rfl rfl (aa rfl) rfl rfl<|aq 56 [54] [(6,none)] rfl rfl (aA Tryz.underlying45 rfl cH (by decide) rfl rfl) rfl rfl<|aq 57 [54,56] [(6,none)] rfl rfl (au cH rfl rfl rfl) rfl rfl<|bV false 58 [54,55,57] [] (nf rfl rfl) rfl (.cons (.pure pu) (.cons (.pure pu) (.nil))) (aB.cast (pc τ bf hbf hsu e.ch (by have:=hok.gT;simp only [maxLen];omega)) (congrArg A.b hk)) pu (.inl rfl) rfl rfl<|aq 59 [54,58] [] rfl rfl ((aa rfl).v (v':= .b true) (rfl)) rfl rfl ?_
    refine aj 60 [54,59] [] (aa rfl) rfl rfl<|aj 61 [60] [] (aa rfl) rfl rfl<|av 62 [61] rfl rfl rfl rfl rfl<|av 63 [61,62] rfl rfl rfl rfl rfl<|av 64 [61,63] rfl rfl rfl rfl rfl<|av 65 [61] rfl rfl rfl rfl rfl<|av 66 [61,64,65] rfl rfl rfl rfl rfl<|bW (by kernel_rfl) ?_
    refine s1 (aa rfl) rfl ?_
    refine ah<|ae ?_
    refine bT rfl ?_
    refine af<|ai<|s1 (aa rfl) rfl<|s1 (aa rfl) rfl ?_
    refine ah<|ae<|aF<|aH<|bc<|aH<|aH<|bc<|aH ?_
    refine aG (rs:= [.tmp 2,.tmp 3]) rfl (aD rfl (aD rfl aC)) ?_
    exact(fB (hst.trans (eo he (.inr hk)))).symm
   ·obtain ⟨⟨r1, r2, r3, r4, r5, r6⟩, h7, h8, hk, h9, hb⟩ := hcs
    rw [hpv]at h8
    refine bU ⟨_, [], []⟩ 67 4 bz (le_refl rfl) ?_
    refine aj 0 [] [(6,none)] (aA Tryz.underlying45 rfl an (by decide) rfl rfl) rfl rfl<|aj 1 [0] [(6,none)] (au an rfl rfl rfl) rfl rfl<|aj 2 [1] [] ((aa rfl).v (v':= .b false) (congrArg A.b (decide_eq_false (by omega)))) rfl rfl<|aj 3 [2] [] (aa rfl) rfl rfl<|aq 4 [3] [(6,none)] rfl rfl (aA Tryz.underlying45 rfl an (by decide) rfl rfl) rfl rfl<|aq 5 [3,4] [(6,none)] rfl rfl (au an rfl rfl rfl) rfl rfl<|aq 6 [3,5] [] rfl rfl ((aa rfl).v (v':= .b false) (congrArg A.b (decide_eq_false (by omega)))) rfl rfl<|aj 7 [3,6] [] (aa rfl) rfl rfl<|aj 8 [7] [] (aa rfl) rfl rfl<|aq 9 [8] [(6,none)] rfl rfl (aA Tryz.underlying45 rfl an (by decide) rfl rfl) rfl rfl ?_
    refine aq 10 [8,9] [(6,none)] rfl rfl (au an rfl rfl rfl) rfl rfl<|aq 11 [8] [] rfl rfl (aa rfl) rfl rfl<|aq 12 [8,11] [] rfl rfl (aT 0 Tryz.underlying24 bA rfl rfl rfl (by omega) rfl) rfl rfl<|aq 13 [8,12] [] rfl rfl (bd Tryz.underlying45 rfl an (by decide) rfl rfl) rfl rfl<|aq 14 [8,13] [] rfl rfl (au an rfl rfl (dK hl he0 (k:=0) rfl (by decide))) rfl rfl<|aq 15 [8,10,14] [] rfl rfl ((aa rfl).v (v':= .b false) (congrArg A.b (bne_eq_false_iff_eq.2 (by omega)))) rfl rfl<|aj 16 [8,15] [] (aa rfl) rfl rfl<|aj 17 [16] [] (aa rfl) rfl rfl<|aq 18 [17] [(6,none)] rfl rfl (aA Tryz.underlying45 rfl an (by decide) rfl rfl) rfl rfl<|aq 19 [17,18] [(6,none)] rfl rfl (au an rfl rfl rfl) rfl rfl ?_
    refine aq 20 [17] [] rfl rfl (aa rfl) rfl rfl<|aq 21 [17,19,20] [] rfl rfl ((aa rfl).v (v':= .b false) (congrArg A.b (bne_eq_false_iff_eq.2 (by omega)))) rfl rfl<|aj 22 [17,21] [] (aa rfl) rfl rfl<|aj 23 [22] [] (aa rfl) rfl rfl<|aq 24 [23] [(6,none)] rfl rfl (aA Tryz.underlying45 rfl an (by decide) rfl rfl) rfl rfl<|aq 25 [23,24] [(6,none)] rfl rfl (au an rfl rfl rfl) rfl rfl<|aq 26 [23,25] [] rfl rfl ((aa rfl).v (v':= .b false) (congrArg A.b (decide_eq_false (by omega)))) rfl rfl<|aj 27 [23,26] [] (aa rfl) rfl rfl<|aj 28 [27] [] (aa rfl) rfl rfl<|aq 29 [28] [(6,none)] rfl rfl (aA Tryz.underlying45 rfl an (by decide) rfl rfl) rfl rfl ?_
    refine aq 30 [28,29] [(6,none)] rfl rfl (au an rfl rfl rfl) rfl rfl<|aq 31 [28,30] [] rfl rfl ((aa rfl).v (v':= .b false) (congrArg A.b (decide_eq_false (by omega)))) rfl rfl<|aj 32 [28,31] [] (aa rfl) rfl rfl<|aj 33 [32] [] (aa rfl) rfl rfl<|aq 34 [33] [] rfl rfl (aa rfl) rfl rfl<|aq 35 [33,34] [] rfl rfl ((aa rfl).v (v':= .b false) (congrArg A.b (decide_eq_false (by omega)))) rfl rfl<|aq 36 [33,35] [] rfl rfl (aa rfl) rfl rfl<|av 37 [36] rfl rfl rfl rfl rfl<|av 38 [36] rfl rfl rfl rfl rfl<|av 39 [36,38] rfl rfl rfl rfl rfl ?_
    refine av 40 [36,37,39] rfl rfl rfl rfl rfl<|av 41 [36,40] rfl rfl rfl rfl rfl<|av 42 [36,41] rfl rfl rfl rfl rfl<|av 43 [36] rfl rfl rfl rfl rfl<|av 44 [36,43] rfl rfl rfl rfl rfl<|av 45 [36,42,44] rfl rfl rfl rfl rfl<|aq 46 [33,36,45] [] rfl rfl (aa rfl) rfl rfl<|aj 47 [33,46] [] (aa rfl) rfl rfl<|aj 48 [47] [] (aa rfl) rfl rfl<|aq 49 [48] [(6,none)] rfl rfl (aA Tryz.underlying45 rfl aE (by decide) rfl rfl) rfl rfl ?_
    refine aq 50 [48,49] [(6,none)] rfl rfl (cm aE rfl rfl (jo hok) (by rw [List.length_map,hok.prev])) rfl rfl<|aq 51 [48] [(7,none)] rfl rfl (aZ aE rfl rfl (by simp)) rfl rfl<|aq 52 [48,50,51] [] rfl rfl (((lW Tryz.underlying23 Tryz.underlying5 aQ (by kernel_rfl) rfl rfl hok.prev (by simp))).v (v':= .b false) (congrArg A.b (by rw [beq_iff_eq.2 h8];rfl))) rfl rfl<|aj 53 [48,52] [] (aa rfl) rfl rfl<|aj 54 [53] [] (aa rfl) rfl rfl<|aq 55 [54] [] rfl rfl (aa rfl) rfl rfl<|aq 56 [54] [(6,none)] rfl rfl (aA Tryz.underlying45 rfl cH (by decide) rfl rfl) rfl rfl<|aq 57 [54,56] [(6,none)] rfl rfl (au cH rfl rfl rfl) rfl rfl<|bV false 58 [54,55,57] [] (nf rfl rfl) rfl (.cons (.pure pu) (.cons (.pure pu) (.nil))) (aB.cast (pc τ bf hbf hsu e.ch (by have:=hok.gT;simp only [maxLen];omega)) (congrArg A.b hk)) pu (.inl rfl) rfl rfl<|aq 59 [54,58] [] rfl rfl ((aa rfl).v (v':= .b false) (rfl)) rfl rfl ?_
    refine aj 60 [54,59] [] (aa rfl) rfl rfl<|aj 61 [60] [] (aa rfl) rfl rfl<|aq 62 [61] [(6,none)] rfl rfl (aA Tryz.underlying45 rfl eU (by decide) rfl rfl) rfl rfl<|aq 63 [61,62] [(6,none)] rfl rfl (aA Tryz.underlying43 rfl an (by decide) rfl rfl) rfl rfl<|aq 64 [61,63] [(6,none)] rfl rfl (au an rfl rfl (qh hok)) rfl rfl<|aq 65 [61] [] rfl rfl (aa rfl) rfl rfl<|aq 66 [61,64,65] [] rfl rfl ((aa rfl).v (v':= .b true) (congrArg A.b (bne_iff_ne.2 (by omega)))) rfl rfl<|bW (by kernel_rfl) ?_
    refine s1 (aa rfl) rfl ?_
    refine ah<|ae ?_
    refine bT rfl ?_
    refine af<|ai<|s1 (aa rfl) rfl<|s1 (aa rfl) rfl ?_
    refine ah<|ae<|aF<|aH<|bc<|aH<|aH<|bc<|aH ?_
    refine aG (rs:= [.tmp 2,.tmp 3]) rfl (aD rfl (aD rfl aC)) ?_
    exact(fB (hst.trans (eo he (.inl hb)))).symm
   ·obtain ⟨⟨r1, r2, r3, r4, r5, r6⟩, h7, h8, hk, h9, hb⟩ := hcs
    rw [hpv]at h8
    refine bU ⟨_, [], []⟩ 67 4 bz (le_refl rfl) ?_
    refine aj 0 [] [(6,none)] (aA Tryz.underlying45 rfl an (by decide) rfl rfl) rfl rfl<|aj 1 [0] [(6,none)] (au an rfl rfl rfl) rfl rfl<|aj 2 [1] [] ((aa rfl).v (v':= .b false) (congrArg A.b (decide_eq_false (by omega)))) rfl rfl<|aj 3 [2] [] (aa rfl) rfl rfl<|aq 4 [3] [(6,none)] rfl rfl (aA Tryz.underlying45 rfl an (by decide) rfl rfl) rfl rfl<|aq 5 [3,4] [(6,none)] rfl rfl (au an rfl rfl rfl) rfl rfl<|aq 6 [3,5] [] rfl rfl ((aa rfl).v (v':= .b false) (congrArg A.b (decide_eq_false (by omega)))) rfl rfl<|aj 7 [3,6] [] (aa rfl) rfl rfl<|aj 8 [7] [] (aa rfl) rfl rfl<|aq 9 [8] [(6,none)] rfl rfl (aA Tryz.underlying45 rfl an (by decide) rfl rfl) rfl rfl ?_
    refine aq 10 [8,9] [(6,none)] rfl rfl (au an rfl rfl rfl) rfl rfl<|aq 11 [8] [] rfl rfl (aa rfl) rfl rfl<|aq 12 [8,11] [] rfl rfl (aT 0 Tryz.underlying24 bA rfl rfl rfl (by omega) rfl) rfl rfl<|aq 13 [8,12] [] rfl rfl (bd Tryz.underlying45 rfl an (by decide) rfl rfl) rfl rfl<|aq 14 [8,13] [] rfl rfl (au an rfl rfl (dK hl he0 (k:=0) rfl (by decide))) rfl rfl<|aq 15 [8,10,14] [] rfl rfl ((aa rfl).v (v':= .b false) (congrArg A.b (bne_eq_false_iff_eq.2 (by omega)))) rfl rfl<|aj 16 [8,15] [] (aa rfl) rfl rfl<|aj 17 [16] [] (aa rfl) rfl rfl<|aq 18 [17] [(6,none)] rfl rfl (aA Tryz.underlying45 rfl an (by decide) rfl rfl) rfl rfl<|aq 19 [17,18] [(6,none)] rfl rfl (au an rfl rfl rfl) rfl rfl ?_
    refine aq 20 [17] [] rfl rfl (aa rfl) rfl rfl<|aq 21 [17,19,20] [] rfl rfl ((aa rfl).v (v':= .b false) (congrArg A.b (bne_eq_false_iff_eq.2 (by omega)))) rfl rfl<|aj 22 [17,21] [] (aa rfl) rfl rfl<|aj 23 [22] [] (aa rfl) rfl rfl<|aq 24 [23] [(6,none)] rfl rfl (aA Tryz.underlying45 rfl an (by decide) rfl rfl) rfl rfl<|aq 25 [23,24] [(6,none)] rfl rfl (au an rfl rfl rfl) rfl rfl<|aq 26 [23,25] [] rfl rfl ((aa rfl).v (v':= .b false) (congrArg A.b (decide_eq_false (by omega)))) rfl rfl<|aj 27 [23,26] [] (aa rfl) rfl rfl<|aj 28 [27] [] (aa rfl) rfl rfl<|aq 29 [28] [(6,none)] rfl rfl (aA Tryz.underlying45 rfl an (by decide) rfl rfl) rfl rfl ?_
    refine aq 30 [28,29] [(6,none)] rfl rfl (au an rfl rfl rfl) rfl rfl<|aq 31 [28,30] [] rfl rfl ((aa rfl).v (v':= .b false) (congrArg A.b (decide_eq_false (by omega)))) rfl rfl<|aj 32 [28,31] [] (aa rfl) rfl rfl<|aj 33 [32] [] (aa rfl) rfl rfl<|aq 34 [33] [] rfl rfl (aa rfl) rfl rfl<|aq 35 [33,34] [] rfl rfl ((aa rfl).v (v':= .b false) (congrArg A.b (decide_eq_false (by omega)))) rfl rfl<|aq 36 [33,35] [] rfl rfl (aa rfl) rfl rfl<|av 37 [36] rfl rfl rfl rfl rfl<|av 38 [36] rfl rfl rfl rfl rfl<|av 39 [36,38] rfl rfl rfl rfl rfl ?_
    refine av 40 [36,37,39] rfl rfl rfl rfl rfl<|av 41 [36,40] rfl rfl rfl rfl rfl<|av 42 [36,41] rfl rfl rfl rfl rfl<|av 43 [36] rfl rfl rfl rfl rfl<|av 44 [36,43] rfl rfl rfl rfl rfl<|av 45 [36,42,44] rfl rfl rfl rfl rfl<|aq 46 [33,36,45] [] rfl rfl (aa rfl) rfl rfl<|aj 47 [33,46] [] (aa rfl) rfl rfl<|aj 48 [47] [] (aa rfl) rfl rfl<|aq 49 [48] [(6,none)] rfl rfl (aA Tryz.underlying45 rfl aE (by decide) rfl rfl) rfl rfl ?_
    refine aq 50 [48,49] [(6,none)] rfl rfl (cm aE rfl rfl (jo hok) (by rw [List.length_map,hok.prev])) rfl rfl<|aq 51 [48] [(7,none)] rfl rfl (aZ aE rfl rfl (by simp)) rfl rfl<|aq 52 [48,50,51] [] rfl rfl (((lW Tryz.underlying23 Tryz.underlying5 aQ (by kernel_rfl) rfl rfl hok.prev (by simp))).v (v':= .b false) (congrArg A.b (by rw [beq_iff_eq.2 h8];rfl))) rfl rfl<|aj 53 [48,52] [] (aa rfl) rfl rfl<|aj 54 [53] [] (aa rfl) rfl rfl<|aq 55 [54] [] rfl rfl (aa rfl) rfl rfl<|aq 56 [54] [(6,none)] rfl rfl (aA Tryz.underlying45 rfl cH (by decide) rfl rfl) rfl rfl<|aq 57 [54,56] [(6,none)] rfl rfl (au cH rfl rfl rfl) rfl rfl<|bV false 58 [54,55,57] [] (nf rfl rfl) rfl (.cons (.pure pu) (.cons (.pure pu) (.nil))) (aB.cast (pc τ bf hbf hsu e.ch (by have:=hok.gT;simp only [maxLen];omega)) (congrArg A.b hk)) pu (.inl rfl) rfl rfl<|aq 59 [54,58] [] rfl rfl ((aa rfl).v (v':= .b false) (rfl)) rfl rfl ?_
    refine aj 60 [54,59] [] (aa rfl) rfl rfl<|aj 61 [60] [] (aa rfl) rfl rfl<|aq 62 [61] [(6,none)] rfl rfl (aA Tryz.underlying45 rfl eU (by decide) rfl rfl) rfl rfl<|aq 63 [61,62] [(6,none)] rfl rfl (aA Tryz.underlying43 rfl an (by decide) rfl rfl) rfl rfl<|aq 64 [61,63] [(6,none)] rfl rfl (au an rfl rfl (qh hok)) rfl rfl<|aq 65 [61] [] rfl rfl (aa rfl) rfl rfl<|aq 66 [61,64,65] [] rfl rfl ((aa rfl).v (v':= .b false) (congrArg A.b (bne_eq_false_iff_eq.2 (by omega)))) rfl rfl<|bW (by kernel_rfl) ?_
    refine s1 (aa rfl) rfl ?_
    refine ah<|ae ?_
    refine cK rfl ?_
    refine aK<|ae<|ai<|s1 (aa rfl) rfl<|s1 (aA Tryz.underlying45 rfl cH (by decide) rfl rfl) rfl<|s1 (au cH rfl rfl rfl) rfl ?_
    refine ak rfl (aJ false rfl (.cons (.pure pu) (.cons (.pure pu) (.nil))) (C3 τ bf hbf hsu e.ch (by have:=hok.gT;simp only [maxLen];omega)) pu (.inl rfl) rfl ?_)
    refine s1 (aa rfl) rfl ?_
    refine ah<|bj<|ae<|ai<|s1 (aa rfl) rfl<|s1 (bg _ 1 rfl rfl rfl rfl (by omega)) rfl<|s1 (aa rfl) rfl ?_
    refine ah ?_
    exact bu (x:=(i,τ,bf)) ((i+1,aV τ e.ch,dq (aV τ e.ch))) (⟨show i+1≤l.length by omega,rfl,by show -1≤jm l (i+1);rw [p9 he];omega,mC hsu (Int.le_refl _) hk,hst.trans (by show _=dL _ (i+1) (jm l (i+1)) (lN l (i+1)) _ _;rw [p9 he,show lN l (i+1)=cM e from vY he];exact wL he hb hk)⟩) (show l.length - (i+1)<l.length - i by omega) [] hI rfl rfl ⟨⟨_,rfl,.pure pu⟩,⟨_,rfl,.pure pu⟩,⟨_,rfl,.pure pu⟩,trivial⟩ trivial
 ·obtain rfl : i = l.length := by have := of_decide_eq_false hc12; omega
  rw [List.drop_length]at hst
  refine bE<|aO<|aO<|bF<|ae<|af<|ai<|s1 (aa rfl) rfl<|s1 (aa rfl) rfl<|s1 (aa rfl) rfl ?_
  refine ah<|ae<|aF ?_
  refine aG (rs:= [.tmp 2,.tmp 3]) rfl (aD rfl (aD rfl aC)) ?_
  rw [A7 hst,hbf];rfl
theorem Lo (l:List Ep) (no:Int) (hl:dN l) (hn:l.length≤1000):aB Tryz.prog 19 [cW l,.i .i64 no] (aU (xI (jJ l no))):=by
 refine enter Tryz.func19 rfl Tryz.ntmps19 (by kernel_rfl) (Nat.le_of_ble_eq_true rfl) fun w0 X0 hI=>?_
 refine af<|ai<|s1 (aa rfl) rfl<|s1 ((aa rfl).v (v':= .i .i64 0) rfl) rfl ?_
 refine ah<|ae<|af<|af<|ai<|s1 (aa rfl) rfl<|s1 (aa rfl) rfl<|s1 (aa rfl) rfl ?_
 refine jW 4 rfl rfl rfl rfl (fun hb10=> .step (aa rfl) rfl rfl<| .step (aa rfl) rfl rfl<| .step (bx Tryz.underlying24 rfl rfl rfl) rfl rfl<| .step (aa rfl) rfl rfl<| .done) rfl rfl ?_
 refine ah<|ae ?_
 refine aP rfl (fun hc15=>?_) (fun hc15=>?_)
 ·have h16 : no < -1 ∨ (l.length : Int) ≤ no := by simpa using hc15
  refine af<|ai<|s1 (aa rfl) rfl<|s1 ((aa rfl).v (v':= .i .i64 1) rfl) rfl ?_
  refine ah<|ae<|aF<|aH ?_
  refine aG (rs:= [.tmp 4,.tmp 5]) rfl (aD rfl (aD rfl aC)) ?_
  rw [uk h16];rfl
 ·have h16 : ¬ (no < -1 ∨ (l.length : Int) ≤ no) := by simp at hc15; omega
  obtain⟨k,hk⟩:∃k:Nat,no+1=(k:Int):=⟨(no+1).toNat,by omega⟩
  have hkl:k≤l.length:=by omega
  have htk:(no+1).toNat=k:=by omega
  have hlk:dN (l.take k):=fun e he=>hl e (List.mem_of_mem_take he)
  have hlen:(l.take k).length=k:=by rw [List.length_take];omega
  refine aK<|ae<|af ?_
  rcases tO (cC (l.take k))with hcs|hcs
  ·have hf := hcs
   refine ai<|s1 (aa rfl) rfl<|s1 (aa rfl) rfl<|s1 ((mU rfl rfl (by omega) (by omega)).v (v':=nJ k) (congrArg (A.i .i64) hk)) rfl<|s1 ((iW (ds:=c4 (l.take k)) k Tryz.underlying24 bA rfl (by rw [kN hl]) bn (bs rfl rfl) (by omega) (by omega) rfl (sA hl k)).v (v':=cW (l.take k)) (congrArg (fun n=>A.fz n (c4 (l.take k))) hlen.symm)) rfl ?_
   refine ak rfl (aJ false rfl (.cons (.pure pu) (.nil)) (aB.cast (De (l.take k) hlk (by omega)) (fB hf)) pu (.inl rfl) rfl ?_)
   refine s1 (aa rfl) rfl<|s1 (aa rfl) rfl<|s1 (aa rfl) rfl<|s1 (aa rfl) rfl<|s1 (aa rfl) rfl ?_
   refine ah<|ae<|af<|af<|ai<|s1 (aa rfl) rfl<|s1 ((aa rfl).v (v':= .b true) (rfl)) rfl ?_
   refine ah<|ae ?_
   refine bT rfl ?_
   refine af<|ai<|s1 (aa rfl) rfl<|s1 ((aa rfl).v (v':= .i .i64 351) rfl) rfl ?_
   refine ah<|ae<|aF<|aH ?_
   refine aG (rs:= [.tmp 4,.tmp 5]) rfl (aD rfl (aD rfl aC)) ?_
   rw [xZ h16 (by rw [htk];exact hf)];rfl
  ·obtain ⟨σ, hf⟩ := hcs
   refine ai<|s1 (aa rfl) rfl<|s1 (aa rfl) rfl<|s1 ((mU rfl rfl (by omega) (by omega)).v (v':=nJ k) (congrArg (A.i .i64) hk)) rfl<|s1 ((iW (ds:=c4 (l.take k)) k Tryz.underlying24 bA rfl (by rw [kN hl]) bn (bs rfl rfl) (by omega) (by omega) rfl (sA hl k)).v (v':=cW (l.take k)) (congrArg (fun n=>A.fz n (c4 (l.take k))) hlen.symm)) rfl ?_
   refine ak rfl (aJ false rfl (.cons (.pure pu) (.nil)) (aB.cast (De (l.take k) hlk (by omega)) (A7 hf)) pu (.inl rfl) rfl ?_)
   refine s1 (aa rfl) rfl<|s1 (aa rfl) rfl<|s1 (aa rfl) rfl<|s1 (aa rfl) rfl<|s1 (aa rfl) rfl ?_
   refine ah<|ae<|af<|af<|ai<|s1 (aa rfl) rfl<|s1 ((aa rfl).v (v':= .b false) (rfl)) rfl ?_
   refine ah<|ae ?_
   refine cK rfl ?_
   refine aK<|ae<|af<|ai<|s1 (aa rfl) rfl<|s1 (aa rfl) rfl<|s1 ((aa rfl).v (v':= .i .i64 0) rfl) rfl ?_
   refine ah<|ae<|aF ?_
   refine aG (rs:= [.tmp 4,.tmp 5]) rfl (aD rfl (aD rfl aC)) ?_
   rw [q8 h16 (by rw [htk];exact hf)];rfl
theorem KJ (l:List Ep) (day:Int) (hl:dN l) (hn:l.length≤maxLen):aB Tryz.prog 21 [cW l,.i .i64 day] (aU (mW (ll l day))):=by
 refine enter Tryz.func21 rfl Tryz.ntmps21 (by kernel_rfl) (Nat.le_of_ble_eq_true rfl) fun w0 X0 hI=>?_
 refine af ?_
 simp only [maxLen]at hn
 refine ai<|s1 ((aa rfl).v (v':= .i .i64 0) rfl) rfl<|s1 (aa rfl) rfl ?_
 refine ah<|ae<|af<|af<|ai<|s1 (aa rfl) rfl<|s1 (bx Tryz.underlying24 rfl rfl rfl) rfl<|s1 (gu rfl rfl (by omega) (by omega)) rfl<|s1 (aa rfl) rfl ?_
 refine ah<|ae<|aM ?_
 refine bH (ι:=Nat) (fun j=> [(0,cW l),(1,.i .i64 day),(6,.i .i64 ((j:Int) - 1))]) (fun j=>⟨[]⟩) (fun j=>j≤l.length∧ll l day=je l day j) (fun j=>j) ?_ ?_
 ·exact bG (l.length) (⟨Nat.le_refl _,rQ l day⟩) [] hI rfl rfl ⟨⟨_,rfl,.pure pu⟩,⟨_,rfl,.pure pu⟩,⟨_,rfl,.pure pu⟩,trivial⟩ trivial
 rintro j ⟨hj,hst⟩
 refine af<|af<|ai<|s1 (aa rfl) rfl<|s1 (aa rfl) rfl ?_
 refine ah<|ae ?_
 refine aP rfl (fun hc11=>?_) (fun hc11=>?_)
 ·have h11 : 0 < j := by have := of_decide_eq_true hc11; omega
  obtain⟨m,rfl⟩:∃m,j=m+1:=⟨j - 1,by omega⟩
  obtain⟨e,he⟩:∃e,l[m]? =some e:=⟨_,List.getElem?_eq_getElem (by omega)⟩
  refine aK<|ae<|af<|aM<|af ?_
  refine mY 6 rfl (v':=nJ m) (congrArg (A.i .i64) (by omega)) ?_
  refine ai<|s1 (aa rfl) rfl<|s1 (aa rfl) rfl<|s1 (aT m Tryz.underlying24 bA rfl rfl rfl (by omega) rfl) rfl<|s1 (bd Tryz.underlying45 rfl an (by decide) rfl rfl) rfl<|s1 (au an rfl rfl (dK hl he (k:=2) rfl (by decide))) rfl<|s1 (aa rfl) rfl<|s1 (aa rfl) rfl ?_
  refine ah<|ae ?_
  refine aP rfl (fun hc20=>?_) (fun hc20=>?_)
  ·have h20 : e.day ≤ day := by have := of_decide_eq_true hc20; omega
   refine af<|ai<|s1 (aa rfl) rfl<|s1 (aa rfl) rfl<|s1 (aa rfl) rfl ?_
   refine ah<|ae<|aF<|bc<|aH<|aH<|bc<|aH ?_
   refine aG (rs:= [.tmp 4,.tmp 5]) rfl (aD rfl (aD rfl aC)) ?_
   exact congrArg mW (hst.trans (vh he h20)).symm
  ·have h20 : ¬ e.day ≤ day := by have := of_decide_eq_false hc20; omega
   refine aK<|bj<|ae<|ai<|s1 (aa rfl) rfl<|s1 (gu rfl rfl (by omega) (by omega)) rfl<|s1 (aa rfl) rfl ?_
   refine ah ?_
   exact bu (m) (⟨by omega,hst.trans (vg he h20)⟩) (by omega) [] hI rfl rfl ⟨⟨_,rfl,.pure pu⟩,⟨_,rfl,.pure pu⟩,⟨_,rfl,.of (rfl:_=A.i .i64 ((m:Int) - 1)) (.pure pu)⟩,trivial⟩ trivial
 ·have h11 : j = 0 := by have := of_decide_eq_false hc11; omega
  subst h11
  refine bE<|aO<|aO<|bF<|ae<|af<|ai<|s1 ((aa rfl).v (v':= .i .i64 0) rfl) rfl<|s1 (aa rfl) rfl ?_
  refine ah<|ae<|aF ?_
  refine aG (rs:= [.tmp 4,.tmp 5]) rfl (aD rfl (aD rfl aC)) ?_
  exact congrArg mW hst.symm
end Go.Abs.D2
-- E5D
namespace Go.Abs.D2
open Go Go.Eng Go.Abs Go.Proofs
theorem Av (l:List Ep) (hl:dN l) (hn:l.length≤maxLen):iX Tryz.prog 64 [cW l] ⟨[]⟩ (fun r st=>∃σ,cC l=some σ∧nX (mapOf σ) r st) (fun u=>cC l=none∧u=gZ 136 351):=by
 refine Hl Tryz.func64 rfl Tryz.ntmps64 (by kernel_rfl) (Nat.le_of_ble_eq_true rfl) fun w0 X0 hI hS=>?_
 refine oc ?_
 refine ob ?_
 simp only [maxLen]at hn
 refine ai ?_
 refine ak rfl (kO 1 rfl rfl rfl rfl ?_)
 refine s1 (aa rfl) rfl ?_
 refine ah<|ae ?_
 refine oc ?_
 refine ob ?_
 refine ai ?_
 refine ak rfl (xe rfl rfl fun b8=>?_)
 refine cV 700 (cs':= [.mc b8 (mapOf σ0)]) rfl (congrArg (fun f=> [A.mc b8 f]) Jj) ?_
 refine s1 (aa rfl) rfl ?_
 refine ah<|ae ?_
 refine oc ?_
 refine ob ?_
 refine ai ?_
 refine ak rfl (bt 4 rfl aE rfl rfl ?_)
 refine ah<|ae ?_
 refine oc ?_
 refine ob ?_
 refine ai ?_
 refine ak rfl (bt 5 rfl an rfl rfl ?_)
 refine ak rfl (bt 6 rfl an rfl rfl ?_)
 refine ak rfl (bZ an rfl rfl rfl rfl (by first|rfl|omega|(simp<;>omega)|(simp [*]<;>omega)) rfl ?_)
 refine ak rfl (bZ an rfl rfl rfl rfl (by first|rfl|omega|(simp<;>omega)|(simp [*]<;>omega)) rfl ?_)
 refine ah<|ae ?_
 refine oc ?_
 refine oc ?_
 refine ob ?_
 refine ai<|s1 (au fw rfl rfl rfl) rfl<|s1 (aa rfl) rfl ?_
 refine ak rfl (aJ false rfl (.cons (.pure pu) (.cons (.pure pu) (.nil))) (G8 l b8) pu (.inl rfl) rfl ?_)
 refine ah<|ae ?_
 refine Fl ?_
 refine Fs [1,4,5,6,700] [(0,_),(1,_),(3,_),(4,_),(5,_),(6,_),(8,_),(9,_),(10,_),(11,_)] hI rfl ⟨rfl,⟨rfl,⟨rfl,⟨rfl,⟨rfl,⟨rfl,⟨rfl,⟨rfl,⟨rfl,⟨rfl,trivial⟩⟩⟩⟩⟩⟩⟩⟩⟩⟩ (by first|rfl|(simp [jA,jE,refs,ep,mz,mA,cw];done)) rfl Tryz.func163 rfl Tryz.ntmps163 (by kernel_rfl) (Nat.le_of_ble_eq_true rfl) fun w1 l1 D1 rc1 hR1 hF1=>?_
 refine af<|ai<|s1 (au fw rfl rfl rfl) rfl<|s1 (bx Tryz.underlying24 rfl rfl rfl) rfl<|s1 ((aa rfl).v (v':= .i .i64 0) rfl) rfl ?_
 refine ah<|ae<|aM ?_
 refine bH (ι:=Nat×(Int→Int)×Int×List UInt8) (fun⟨i,τ,day,prev⟩=> [(0,yv l1),(1,.fp [cW l]),(2,.fp [.raw (.map (some b8))]),(6,cW l),(7,nJ l.length),(8,nJ i)]) (fun⟨i,τ,day,prev⟩=>⟨[(1,some ([cW l])),(4,some (prev.map u8)),(5,some ([nJ i])),(6,some ([.i .i64 day])),(700,some ([.mc b8 (mapOf τ)]))]⟩) (fun⟨i,τ,day,prev⟩=>i≤l.length∧prev.length=32∧cC l=dL (j0 l) i day prev τ (l.drop i)) (fun⟨i,τ,day,prev⟩=>l.length - i) ?_ ?_
 ·exact bG ((0,σ0, -1,zD)) (⟨Nat.zero_le _,rfl,oC l⟩) [(1,some 1),(4,some 4),(5,some 5),(6,some 6),(700,some 700)] hR1.sub.ids rfl rfl ⟨⟨_,rfl,.pure trivial⟩,⟨_,rfl,.pure pu⟩,⟨_,rfl,.pure pu⟩,⟨_,rfl,.pure pu⟩,⟨_,rfl,.pure pu⟩,⟨_,rfl,.pure pu⟩,trivial⟩ ⟨.inr ⟨_,_,rfl,rfl,.pure ar⟩,.inr ⟨_,_,rfl,rfl,.of rfl (.pure ar)⟩,.inr ⟨_,_,rfl,rfl,.of (rfl:_= [nJ 0]) (.pure ar)⟩,.inr ⟨_,_,rfl,rfl,.of (rfl:_= [A.i .i64 (-1)]) (.pure ar)⟩,.inr ⟨_,_,rfl,rfl,.pure ar⟩,trivial⟩
 rintro⟨i,τ,day,prev⟩ ⟨hi,hpl,hst⟩
 dsimp only
 refine af<|ai<|s1 (aa rfl) rfl ?_
 refine ah<|ae<|af ?_
 refine aP rfl (fun hc9=>?_) (fun hc9=>?_)
 ·have h9 : i < l.length := by have := of_decide_eq_true hc9; omega
  obtain⟨e,he⟩:∃e,l[i]? =some e:=⟨_,List.getElem?_eq_getElem h9⟩
  have hok:=hl e (List.mem_of_getElem? he)
  obtain⟨e0,he0⟩:∃e0,l[0]? =some e0:=⟨_,List.getElem?_eq_getElem (by omega)⟩
  have hi0:=BA he0
  have hpv:=hok.prev
  refine aK<|ae<|af<|aM<|af<|ai<|s1 (aT i Tryz.underlying24 bA rfl rfl rfl (by omega) rfl) rfl<|s1 (cm bA rfl rfl (kJ hl he) hok.len) rfl ?_
  refine ak rfl (bt 1005 rfl bA rfl rfl ?_)
  refine ak rfl (bo bA rfl rfl rfl hok.len (by simp) ?_)
  refine ah<|ae<|af<|af<|ai<|s1 (aa rfl) rfl<|s1 (aZ bA rfl rfl hok.len) rfl<|s1 (au yb rfl rfl rfl) rfl ?_
  refine rV [1,4,5,6,700,1005] [(0,_),(1,_),(2,_),(5,_),(6,_),(7,_),(8,_),(9,_),(10,_),(11,_),(12,_),(13,_),(14,_)] hR1 hR1.sub.ids rfl ⟨rfl,⟨rfl,⟨rfl,⟨rfl,⟨rfl,⟨rfl,⟨rfl,⟨rfl,⟨rfl,⟨rfl,⟨rfl,⟨rfl,⟨rfl,trivial⟩⟩⟩⟩⟩⟩⟩⟩⟩⟩⟩⟩⟩ (by first|rfl|(simp [jA,jE,refs,ep,mz,mA,cw];done)) rfl rfl rfl rfl rfl fun w2 tm2 hd2=>?_
  refine ai ?_
  refine ak rfl (bt 7 rfl bA rfl rfl ?_)
  refine ak rfl (bo bA rfl rfl rfl hok.len (by simp) ?_)
  refine ah ?_
  refine rS hd2 fun w3 hd3=>?_
  refine aM<|af ?_
  rcases Ir e.iss e0.iss with hcs|hcs|hcs|hcs
  ·have hq := hcs
   refine dH 17 bz (by kernel_rfl) ?_
   refine t1 (aA Tryz.underlying45 rfl an (by decide) rfl rfl) rfl<|t1 (au an rfl rfl rfl) rfl<|t1 (au fw rfl rfl rfl) rfl<|t1 (aT 0 Tryz.underlying24 bA rfl rfl rfl (by omega) rfl) rfl<|t1 (bd Tryz.underlying45 rfl an (by decide) rfl rfl) rfl<|t1 (au an rfl rfl (dK hl he0 (k:=0) rfl (by decide))) rfl<|t1 ((aa rfl).v (v':= .b false) (congrArg A.b (beq_eq_false_iff_ne.2 (by omega)))) rfl<|t1 (aa rfl) rfl<|aN rfl rfl rfl rfl<|aN rfl rfl rfl rfl ?_
   refine aN rfl rfl rfl rfl<|t1 (aa rfl) rfl<|t1 (aa rfl) rfl<|aN rfl rfl rfl rfl<|aN rfl rfl rfl rfl<|aN rfl rfl rfl rfl<|t1 (aa rfl) rfl ?_
   refine dI ?_
   refine eS ⟨[]⟩ false rfl trivial (.cons (.pure pu) (.cons (.pure pu) .nil)) (ir 351) (fun u hu=>?_)
   refine bP ?_
   refine dA ?_
   refine pS ((congrArg (fun f=>Tryz.prog.funcs[f]?) hF1).trans Tryz.func64) hR1 hd3 fun w4 hR4=>?_
   refine bP ?_
   refine bP ?_
   refine dA ?_
   refine bP ?_
   refine bP ?_
   refine dA ?_
   refine od hR4 hS ?_
   refine dA ?_
   refine bP ?_
   exact oe rfl rfl rfl hS (dn:= [D1]) rfl rfl (by simp) ⟨hst.trans (eo he (.inl (wz (by omega)))),hu⟩
  ·obtain ⟨hq, h0⟩ := hcs
   refine dH 17 bz (by kernel_rfl) ?_
   refine t1 (aA Tryz.underlying45 rfl an (by decide) rfl rfl) rfl<|t1 (au an rfl rfl rfl) rfl<|t1 (au fw rfl rfl rfl) rfl<|t1 (aT 0 Tryz.underlying24 bA rfl rfl rfl (by omega) rfl) rfl<|t1 (bd Tryz.underlying45 rfl an (by decide) rfl rfl) rfl<|t1 (au an rfl rfl (dK hl he0 (k:=0) rfl (by decide))) rfl<|t1 ((aa rfl).v (v':= .b true) (congrArg A.b (beq_iff_eq.2 (by omega)))) rfl<|t1 (aa rfl) rfl<|aw rfl rfl (aA Tryz.underlying45 rfl an (by decide) rfl rfl) rfl<|aw rfl rfl (au an rfl rfl rfl) rfl ?_
   refine aw rfl rfl ((aa rfl).v (v':= .b false) (congrArg A.b (decide_eq_false (by omega)))) rfl<|t1 (aa rfl) rfl<|t1 (aa rfl) rfl<|aN rfl rfl rfl rfl<|aN rfl rfl rfl rfl<|aN rfl rfl rfl rfl<|t1 (aa rfl) rfl ?_
   refine dI ?_
   refine eS ⟨[]⟩ false rfl trivial (.cons (.pure pu) (.cons (.pure pu) .nil)) (ir 351) (fun u hu=>?_)
   refine bP ?_
   refine dA ?_
   refine pS ((congrArg (fun f=>Tryz.prog.funcs[f]?) hF1).trans Tryz.func64) hR1 hd3 fun w5 hR5=>?_
   refine bP ?_
   refine bP ?_
   refine dA ?_
   refine bP ?_
   refine bP ?_
   refine dA ?_
   refine od hR5 hS ?_
   refine dA ?_
   refine bP ?_
   exact oe rfl rfl rfl hS (dn:= [D1]) rfl rfl (by simp) ⟨hst.trans (eo he (.inl (wz (by omega)))),hu⟩
  ·obtain ⟨hq, h0, h8⟩ := hcs
   refine dH 17 bz (by kernel_rfl) ?_
   refine t1 (aA Tryz.underlying45 rfl an (by decide) rfl rfl) rfl<|t1 (au an rfl rfl rfl) rfl<|t1 (au fw rfl rfl rfl) rfl<|t1 (aT 0 Tryz.underlying24 bA rfl rfl rfl (by omega) rfl) rfl<|t1 (bd Tryz.underlying45 rfl an (by decide) rfl rfl) rfl<|t1 (au an rfl rfl (dK hl he0 (k:=0) rfl (by decide))) rfl<|t1 ((aa rfl).v (v':= .b true) (congrArg A.b (beq_iff_eq.2 (by omega)))) rfl<|t1 (aa rfl) rfl<|aw rfl rfl (aA Tryz.underlying45 rfl an (by decide) rfl rfl) rfl<|aw rfl rfl (au an rfl rfl rfl) rfl ?_
   refine aw rfl rfl ((aa rfl).v (v':= .b true) (congrArg A.b (decide_eq_true (by omega)))) rfl<|t1 (aa rfl) rfl<|t1 (aa rfl) rfl<|aw rfl rfl (aA Tryz.underlying45 rfl an (by decide) rfl rfl) rfl<|aw rfl rfl (au an rfl rfl rfl) rfl<|aw rfl rfl ((aa rfl).v (v':= .b false) (congrArg A.b (decide_eq_false (by omega)))) rfl<|t1 (aa rfl) rfl ?_
   refine dI ?_
   refine eS ⟨[]⟩ false rfl trivial (.cons (.pure pu) (.cons (.pure pu) .nil)) (ir 351) (fun u hu=>?_)
   refine bP ?_
   refine dA ?_
   refine pS ((congrArg (fun f=>Tryz.prog.funcs[f]?) hF1).trans Tryz.func64) hR1 hd3 fun w6 hR6=>?_
   refine bP ?_
   refine bP ?_
   refine dA ?_
   refine bP ?_
   refine bP ?_
   refine dA ?_
   refine od hR6 hS ?_
   refine dA ?_
   refine bP ?_
   exact oe rfl rfl rfl hS (dn:= [D1]) rfl rfl (by simp) ⟨hst.trans (eo he (.inl (wz (by omega)))),hu⟩
  ·have hq := hcs
   obtain⟨hq1,h0,h8⟩:=hcs
   refine dH 17 bz (by kernel_rfl) ?_
   refine t1 (aA Tryz.underlying45 rfl an (by decide) rfl rfl) rfl<|t1 (au an rfl rfl rfl) rfl<|t1 (au fw rfl rfl rfl) rfl<|t1 (aT 0 Tryz.underlying24 bA rfl rfl rfl (by omega) rfl) rfl<|t1 (bd Tryz.underlying45 rfl an (by decide) rfl rfl) rfl<|t1 (au an rfl rfl (dK hl he0 (k:=0) rfl (by decide))) rfl<|t1 ((aa rfl).v (v':= .b true) (congrArg A.b (beq_iff_eq.2 (by omega)))) rfl<|t1 (aa rfl) rfl<|aw rfl rfl (aA Tryz.underlying45 rfl an (by decide) rfl rfl) rfl<|aw rfl rfl (au an rfl rfl rfl) rfl ?_
   refine aw rfl rfl ((aa rfl).v (v':= .b true) (congrArg A.b (decide_eq_true (by omega)))) rfl<|t1 (aa rfl) rfl<|t1 (aa rfl) rfl<|aw rfl rfl (aA Tryz.underlying45 rfl an (by decide) rfl rfl) rfl<|aw rfl rfl (au an rfl rfl rfl) rfl<|aw rfl rfl ((aa rfl).v (v':= .b true) (congrArg A.b (decide_eq_true (by omega)))) rfl<|t1 (aa rfl) rfl ?_
   refine dI ?_
   refine ak rfl (aJ false rfl (.cons (.pure pu) (.cons (.pure pu) .nil)) (fS 351) pu (.inl rfl) rfl ?_)
   refine ah<|ae<|af<|ai<|s1 (aA Tryz.underlying45 rfl an (by decide) rfl rfl) rfl<|s1 (au an rfl rfl rfl) rfl<|s1 (au an rfl rfl rfl) rfl<|s1 (aa rfl) rfl<|s1 (aa rfl) rfl ?_
   refine dG 5 rfl rfl rfl rfl (fun hb36=> .step (aA Tryz.underlying45 rfl eU (by decide) rfl rfl) rfl rfl<| .step (aA Tryz.underlying43 rfl an (by decide) rfl rfl) rfl rfl<| .step (au an rfl rfl (qh hok)) rfl rfl<| .step (au an rfl rfl rfl) rfl rfl<| .step (aa rfl) rfl rfl<| .done) rfl rfl ?_
   refine s1 (aa rfl) rfl ?_
   refine dG 4 rfl rfl rfl rfl (fun hb43=> .step (aA Tryz.underlying45 rfl aE (by decide) rfl rfl) rfl rfl<| .step (cm aE rfl rfl (jo hok) (by simp [hok.prev])) rfl rfl<| .step (aZ aE rfl rfl (by rw [List.length_map,hpl])) rfl rfl<| .step (uE Tryz.underlying23 Tryz.underlying5 aQ (by kernel_rfl) rfl rfl (by first|assumption|(simp;done)|(simp [*];done)) (by first|assumption|(simp;done)|(simp [*];done))) rfl rfl<| .done) rfl rfl ?_
   refine ik 48 rfl (fun hc48=>?_) (fun hc48=>?_)
   ·skip
    refine ak rfl (aJ false rfl (.cons (.pure pu) (.cons (.pure pu) .nil)) (fS 351) pu (.inl rfl) rfl ?_)
    refine ah<|ae<|af<|ai<|s1 (aA Tryz.underlying45 rfl an (by decide) rfl rfl) rfl<|s1 (au an rfl rfl rfl) rfl<|s1 (au an rfl rfl rfl) rfl<|s1 (aa rfl) rfl<|s1 (aa rfl) rfl ?_
    refine dG 3 rfl rfl rfl rfl (fun hb54=> .step (aA Tryz.underlying45 rfl an (by decide) rfl rfl) rfl rfl<| .step (au an rfl rfl rfl) rfl rfl<| .step (aa rfl) rfl rfl<| .done) rfl rfl ?_
    refine ik 58 rfl (fun hc58=>?_) (fun hc58=>?_)
    ·skip
     refine ak rfl (aJ false rfl (.cons (.pure pu) (.cons (.pure pu) .nil)) (fS 351) pu (.inl rfl) rfl ?_)
     refine ah<|ae ?_
     refine bU ⟨_, [], []⟩ 7 4 bz (le_refl rfl) ?_
     refine aj 0 [] [(5,none)] (au an rfl rfl rfl) rfl rfl<|aj 1 [0] [] (bg i 1 rfl rfl rfl rfl (by omega)) rfl rfl<|aj 2 [] [(7,none)] (aA Tryz.underlying45 rfl an (by decide) rfl rfl) rfl rfl<|aj 3 [2] [(7,none)] (au an rfl rfl rfl) rfl rfl<|aj 4 [] [(7,none)] (aZ bA rfl rfl hok.len) rfl rfl<|bV false 5 [4] [] bb rfl (.cons (.pure pu) (.nil)) (l9 e hok) pu (.inl rfl) rfl rfl<|HY 0 6 [1] [(5,none)] rfl bb an rfl rfl rfl rfl (by first|rfl|omega|(simp<;>omega)|(simp [*]<;>omega)) rfl rfl<|bW (by kernel_rfl) ?_
     refine ak rfl (bZ an rfl rfl rfl rfl (by first|rfl|omega|(simp<;>omega)|(simp [*]<;>omega)) rfl ?_)
     refine ak rfl (bo aE rfl rfl rfl (by simp) (by simp [hpl]) ?_)
     refine ah<|bj ?_
     refine rU hR1 hd3 rfl ?_
     refine s1 (aa rfl) rfl ?_
     refine ah<|ae ?_
     refine cK rfl ?_
     refine aK<|ae ?_
     rcases lS (cP τ (-1) e.ch)with hcs|hcs
     ·skip
      refine ai<|s1 (au yb rfl rfl rfl) rfl<|s1 (aA Tryz.underlying45 rfl cH (by decide) rfl rfl) rfl<|s1 (au cH rfl rfl rfl) rfl ?_
      refine eS ⟨[(700,some [.mc b8 (mapOf τ)])]⟩ false rfl ⟨⟨rfl,a7.pure ar⟩,trivial⟩ (.cons (.pure pu) (.cons (.pure pu) .nil)) (wo (Nat.le_trans hok.gT (by decide)) hcs) (fun u hu=>?_)
      refine dA ?_
      refine bP ?_
      refine bP ?_
      refine dA ?_
      refine od hR1 hS ?_
      refine dA ?_
      refine bP ?_
      exact oe rfl rfl rfl hS (dn:= [D1]) rfl rfl (by simp) ⟨hst.trans (eo he (.inr hcs)),hu.2⟩
     ·skip
      refine ai<|s1 (au yb rfl rfl rfl) rfl<|s1 (aA Tryz.underlying45 rfl cH (by decide) rfl rfl) rfl<|s1 (au cH rfl rfl rfl) rfl ?_
      refine ak rfl (oN ⟨[(700,some [.mc b8 (mapOf τ)])]⟩ [(700, [.mc b8 (mapOf (aV τ e.ch))])] false rfl ⟨⟨rfl,a7.pure ar⟩,trivial⟩ (.cons (.pure pu) (.cons (.pure pu) .nil)) (wm (Nat.le_trans hok.gT (by decide)) hcs) pu (.inl rfl) (fun p hp=>by rw [List.mem_singleton.1 hp];exact⟨⟨_,rfl⟩,ar,.inl rfl⟩) rfl ?_)
      refine ah<|bj<|ae<|ai<|s1 (bg _ 1 rfl rfl rfl rfl (by omega)) rfl<|s1 (aa rfl) rfl ?_
      refine ah ?_
      exact bu (x:=(i,τ,day,prev)) ((i+1,aV τ e.ch,e.day,cM e)) (⟨show i+1≤l.length by omega,IX e,hst.trans (wL he (Hq hi0 hq (by simpa using hc48) (by simpa using hc58)) hcs)⟩) (show l.length - (i+1)<l.length - i by omega) [(1,some 1),(4,some 4),(5,some 5),(6,some 6),(700,some 700)] hR1.sub.ids rfl rfl ⟨⟨_,rfl,.pure trivial⟩,⟨_,rfl,.pure pu⟩,⟨_,rfl,.pure pu⟩,⟨_,rfl,.pure pu⟩,⟨_,rfl,.pure pu⟩,⟨_,rfl,.pure pu⟩,trivial⟩ ⟨.inr ⟨_,_,rfl,rfl,.pure ar⟩,.inr ⟨_,_,rfl,rfl,.pure ar⟩,.inr ⟨_,_,rfl,rfl,.of (rfl:_= [nJ (i+1)]) (.pure ar)⟩,.inr ⟨_,_,rfl,rfl,.of (rfl:_= [A.i .i64 e.day]) (.pure ar)⟩,.inr ⟨_,_,rfl,rfl,.pure ar⟩,trivial⟩
    ·skip
     refine eS ⟨[]⟩ false rfl trivial (.cons (.pure pu) (.cons (.pure pu) .nil)) (ir 351) (fun u hu=>?_)
     refine bP ?_
     refine dA ?_
     refine pS ((congrArg (fun f=>Tryz.prog.funcs[f]?) hF1).trans Tryz.func64) hR1 hd3 fun w7 hR7=>?_
     refine bP ?_
     refine bP ?_
     refine dA ?_
     refine bP ?_
     refine bP ?_
     refine dA ?_
     refine od hR7 hS ?_
     refine dA ?_
     refine bP ?_
     exact oe rfl rfl rfl hS (dn:= [D1]) rfl rfl (by simp) ⟨hst.trans (eo he (.inl (Hp (by simpa using hc58)))),hu⟩
   ·skip
    refine eS ⟨[]⟩ false rfl trivial (.cons (.pure pu) (.cons (.pure pu) .nil)) (ir 351) (fun u hu=>?_)
    refine bP ?_
    refine dA ?_
    refine pS ((congrArg (fun f=>Tryz.prog.funcs[f]?) hF1).trans Tryz.func64) hR1 hd3 fun w8 hR8=>?_
    refine bP ?_
    refine bP ?_
    refine dA ?_
    refine bP ?_
    refine bP ?_
    refine dA ?_
    refine od hR8 hS ?_
    refine dA ?_
    refine bP ?_
    exact oe rfl rfl rfl hS (dn:= [D1]) rfl rfl (by simp) ⟨hst.trans (eo he (.inl (Ho (by simpa using hc48)))),hu⟩
 ·obtain rfl : i = l.length := by have := of_decide_eq_false hc9; omega
  rw [List.drop_length]at hst
  refine bE<|aO<|aO<|bF ?_
  refine vj rfl hR1 hS ?_
  refine bj<|ae ?_
  refine ob ?_
  refine af<|ai<|s1 (aa rfl) rfl<|s1 (aa rfl) rfl ?_
  refine ah<|ae<|aF ?_
  refine Fu (rs:= [.tmp 2]) rfl rfl rfl hS (dn:= [D1]) rfl rfl (by simp) rfl (aD rfl aC) ?_
  exact⟨τ,hst,b8,rfl,rfl⟩
theorem Aw {l:List Ep} (hl:dN l) (hn:l.length≤maxLen) {σ:Int→Int} (h:cC l=some σ):aB Tryz.prog 64 [cW l] (nX (mapOf σ)):=(Av l hl hn).ret (fun r st ⟨τ,h1,h2⟩=>by rw [h]at h1;cases h1;exact h2) fun u hu=>by rw [h]at hu;cases hu.1
theorem Ax {l:List Ep} (hl:dN l) (hn:l.length≤maxLen) (h:cC l=none):iY Tryz.prog 64 [cW l] ⟨[]⟩ (fun u=>cC l=none∧u=gZ 136 351):=(Av l hl hn).tQ fun r st ⟨τ,h1,_⟩=>by rw [h]at h1;cases h1
end Go.Abs.D2
-- E5E
namespace Go.Abs.D2
open Go Go.Eng Go.Abs Go.Proofs
theorem Aq (r:List UInt8) (n:Int) (l:List Ep) (hr:r.length=32) (hl:dN l) (hn:l.length≤maxLen):iX Tryz.prog 40 [.ag (r.map u8),.i .i64 n,cW l] ⟨[]⟩ (fun q st=>∃σ,cC l=some σ∧cQ r n l=0∧nX (mapOf σ) q st) (fun u=>cQ r n l≠0∧u=gZ 136 (cQ r n l)):=by
 refine sy Tryz.func40 rfl Tryz.ntmps40 (by kernel_rfl) (Nat.le_of_ble_eq_true rfl) fun w0 X0 hI=>?_
 refine af ?_
 have hn2:=hn
 simp only [maxLen]at hn2
 refine ai ?_
 refine ak rfl (bY 3 rfl rfl rfl ?_)
 refine s1 (aa rfl) rfl ?_
 refine ah<|ae<|af ?_
 rcases tO (cC l)with hcs|hcs
 ·have hf := hcs
  refine ai<|s1 (aa rfl) rfl ?_
  refine eS ⟨[]⟩ false rfl trivial (.cons (.pure pu) .nil) (Ax hl hn hf) (fun u hu=>?_)
  refine bP ?_
  exact mX (show cQ r n l≠0∧_=gZ 136 (cQ r n l) by rw [sj hf];exact⟨by decide,hu.2⟩)
 ·obtain ⟨σ, hf⟩ := hcs
  refine ai<|s1 (aa rfl) rfl ?_
  refine ak rfl (tq (F:=mapOf σ) rfl (.cons (.pure pu) (.nil)) (Aw hl hn hf) rfl rfl fun b12=>?_)
  refine s1 (aa rfl) rfl ?_
  refine ah<|ae<|af<|af<|ai<|s1 (aa rfl) rfl<|s1 (bx Tryz.underlying24 rfl rfl rfl) rfl<|s1 ((aa rfl).v (v':= .i .i64 0) rfl) rfl ?_
  refine ah<|ae<|aM ?_
  refine bH (ι:=Nat) (fun i=> [(1,.i .i64 n),(3,.p 3 0),(7,.raw (.map (some b12))),(13,cW l),(14,nJ l.length),(15,nJ i)]) (fun i=>⟨[(3,some (r.map u8)),(700,some ([.mc b12 (mapOf σ)]))]⟩) (fun i=>i≤l.length∧∀e∈l.take i,fc r n (cM e) e.sg.a e.sg.S e.sg.P=true) (fun i=>l.length - i) ?_ ?_
  ·exact bG (0) (⟨Nat.zero_le _,fun e he=>by simp at he⟩) [(3,some 3),(700,some 700)] hI rfl rfl ⟨⟨_,rfl,.pure pu⟩,⟨_,rfl,.p rfl⟩,⟨_,rfl,.pure pu⟩,⟨_,rfl,.pure pu⟩,⟨_,rfl,.pure pu⟩,⟨_,rfl,.pure pu⟩,trivial⟩ ⟨.inr ⟨_,_,rfl,rfl,.pure ar⟩,.inr ⟨_,_,rfl,rfl,.pure ar⟩,trivial⟩
  rintro i ⟨hi,hall⟩
  refine af<|ai<|s1 (aa rfl) rfl ?_
  refine ah<|ae<|af ?_
  refine aP rfl (fun hc16=>?_) (fun hc16=>?_)
  ·have h16 : i < l.length := by have := of_decide_eq_true hc16; omega
   obtain⟨e,he⟩:∃e,l[i]? =some e:=⟨_,List.getElem?_eq_getElem h16⟩
   have hem:=List.mem_of_getElem? he
   have hok:=hl e hem
   refine aK<|ae<|af<|aM<|af<|ai<|s1 (aT i Tryz.underlying24 bA rfl rfl rfl (by omega) rfl) rfl<|s1 (cm bA rfl rfl (kJ hl he) hok.len) rfl ?_
   refine ak rfl (bt 9 rfl bA rfl rfl ?_)
   refine ak rfl (bo bA rfl rfl rfl hok.len (by simp) ?_)
   refine ah<|ae<|af ?_
   rcases lS (fc r n (cM e) e.sg.a e.sg.S e.sg.P)with hcs|hcs
   ·skip
    refine bU ⟨_, [], []⟩ 7 4 bz (le_refl rfl) ?_
    refine aj 0 [] [(3,none)] (aZ aE rfl rfl (by rw [List.length_map,hr])) rfl rfl<|aj 1 [] [] (aa rfl) rfl rfl<|aj 2 [] [(9,none)] (aZ bA rfl rfl hok.len) rfl rfl<|bV false 3 [2] [] bb rfl (.cons (.pure pu) (.nil)) (l9 e hok) pu (.inl rfl) rfl rfl<|aj 4 [] [(9,none)] (aA Tryz.underlying45 rfl eU (by decide) rfl rfl) rfl rfl<|aj 5 [4] [(9,none)] (cm eU rfl rfl (AJ hok) rfl) rfl rfl<|bV false 6 [0,1,3,5] [] bb rfl (.cons (.pure pu) (.cons (.pure pu) (.cons (.pure pu) (.cons (.pure pu) (.nil))))) (aB.cast (BH r (cM e) n e.sg.a e.sg.S e.sg.P hr (by simp) hok.S hok.P) (show _=A.i .i64 60 by rw [hcs];rfl)) pu (.inl rfl) rfl rfl<|bW (by kernel_rfl) ?_
    refine s1 (aa rfl) rfl ?_
    refine ah<|ae<|ai<|s1 (aa rfl) rfl<|s1 ((aa rfl).v (v':= .b false) (rfl)) rfl<|s1 (aa rfl) rfl ?_
    refine eS ⟨[]⟩ false rfl trivial (.cons (.pure pu) (.cons (.pure pu) .nil)) (ir 60) (fun u hu=>?_)
    refine dA ?_
    refine bP ?_
    refine bP ?_
    refine dA ?_
    refine bP ?_
    exact mX (show cQ r n l≠0∧_=gZ 136 (cQ r n l) by rw [vG hf hem hcs];exact⟨by decide,hu⟩)
   ·skip
    refine bU ⟨_, [], []⟩ 7 4 bz (le_refl rfl) ?_
    refine aj 0 [] [(3,none)] (aZ aE rfl rfl (by rw [List.length_map,hr])) rfl rfl<|aj 1 [] [] (aa rfl) rfl rfl<|aj 2 [] [(9,none)] (aZ bA rfl rfl hok.len) rfl rfl<|bV false 3 [2] [] bb rfl (.cons (.pure pu) (.nil)) (l9 e hok) pu (.inl rfl) rfl rfl<|aj 4 [] [(9,none)] (aA Tryz.underlying45 rfl eU (by decide) rfl rfl) rfl rfl<|aj 5 [4] [(9,none)] (cm eU rfl rfl (AJ hok) rfl) rfl rfl<|bV false 6 [0,1,3,5] [] bb rfl (.cons (.pure pu) (.cons (.pure pu) (.cons (.pure pu) (.cons (.pure pu) (.nil))))) (aB.cast (BH r (cM e) n e.sg.a e.sg.S e.sg.P hr (by simp) hok.S hok.P) (show _=A.i .i64 0 by rw [hcs];rfl)) pu (.inl rfl) rfl rfl<|bW (by kernel_rfl) ?_
    refine s1 (aa rfl) rfl ?_
    refine ah<|ae<|ai<|s1 (aa rfl) rfl<|s1 ((aa rfl).v (v':= .b true) (rfl)) rfl<|s1 (aa rfl) rfl ?_
    refine ak rfl (aJ false rfl (.cons (.pure pu) (.cons (.pure pu) .nil)) (fS 0) pu (.inl rfl) rfl ?_)
    refine ah<|bj<|ae<|ai<|s1 (bg _ 1 rfl rfl rfl rfl (by omega)) rfl<|s1 (aa rfl) rfl ?_
    refine ah ?_
    exact bu (i+1) (⟨by omega,yR he hall hcs⟩) (by omega) [(3,some 3),(700,some 700)] hI rfl rfl ⟨⟨_,rfl,.pure pu⟩,⟨_,rfl,.p rfl⟩,⟨_,rfl,.pure pu⟩,⟨_,rfl,.pure pu⟩,⟨_,rfl,.pure pu⟩,⟨_,rfl,.pure pu⟩,trivial⟩ ⟨.inr ⟨_,_,rfl,rfl,.pure ar⟩,.inr ⟨_,_,rfl,rfl,.pure ar⟩,trivial⟩
  ·obtain rfl : i = l.length := by have := of_decide_eq_false hc16; omega
   rw [List.take_length]at hall
   refine bE<|aO<|aO<|bF<|ae<|af<|ai<|s1 (aa rfl) rfl<|s1 (aa rfl) rfl ?_
   refine ah<|ae<|aF ?_
   refine y6 (rs:= [.tmp 6]) rfl (aD rfl aC) ?_
   exact⟨σ,hf,vH hf hall,b12,rfl,rfl⟩
theorem Ar {r:List UInt8} {n:Int} {l:List Ep} (hr:r.length=32) (hl:dN l) (hn:l.length≤maxLen) {σ:Int→Int} (h:cC l=some σ) (h0:cQ r n l=0):aB Tryz.prog 40 [.ag (r.map u8),.i .i64 n,cW l] (nX (mapOf σ)):=(Aq r n l hr hl hn).ret (fun q st ⟨τ,h1,_,h2⟩=>by rw [h]at h1;cases h1;exact h2) fun u hu=>hu.1 h0
theorem As {r:List UInt8} {n:Int} {l:List Ep} (hr:r.length=32) (hl:dN l) (hn:l.length≤maxLen) (h:cQ r n l≠0):iY Tryz.prog 40 [.ag (r.map u8),.i .i64 n,cW l] ⟨[]⟩ (fun u=>cQ r n l≠0∧u=gZ 136 (cQ r n l)):=(Aq r n l hr hl hn).tQ fun q st ⟨_,_,h1,_⟩=>h h1
theorem G9 (c0:A) (e:Int):pF Tryz.prog 38 [.p 6 0] ⟨[(6,some [c0])]⟩ (fun u=>u=gZ 136 e) [(6, [.i .i64 e])]:=by
 refine vM (.ic 136 (.ag [.i .i64 e])) (fun u hu X w β=>by rw [hu];exact uX _ _) Tryz.func38 rfl Tryz.ntmps38 (Nat.le_of_ble_eq_true rfl) rfl rfl fun w0 X0 hI=>?_
 refine af<|ai<|s1 (aa rfl) rfl<|s1 (ym Tryz.underlying20 rfl) rfl ?_
 refine ah<|ae ?_
 refine bT rfl ?_
 refine ai<|s1 (aa rfl) rfl ?_
 refine ak rfl (aJ false rfl (.cons (.pure pu) (.nil)) (wq e) pu (.inl rfl) rfl ?_)
 refine ak rfl (bZ b7 rfl rfl rfl rfl (by first|rfl|omega|(simp<;>omega)|(simp [*]<;>omega)) rfl ?_)
 refine ah ?_
 refine lq (rs:= []) rfl aC (nD rfl)
theorem Ha:pG Tryz.prog 38 1:=vN Tryz.func38 rfl (fun w=>xN Tryz.underlying20 w) rfl ⟨Nat.le_of_ble_eq_true rfl,Nat.le_of_ble_eq_true rfl,Nat.le_of_ble_eq_true rfl,Nat.le_of_ble_eq_true rfl,Nat.le_of_ble_eq_true rfl⟩
theorem Au:kC Tryz.prog 38:=⟨_,Tryz.func38,rfl,by kernel_rfl⟩
theorem Ao (r:List UInt8) (n:Int) (l:List Ep) (hr:r.length=32) (hl:dN l) (hn:l.length≤maxLen):aB Tryz.prog 13 [.ag (r.map u8),.i .i64 n,cW l] (aU (.i .i64 (cQ r n l))):=by
 refine ov Tryz.func13 rfl Tryz.ntmps13 (by kernel_rfl) (Nat.le_of_ble_eq_true rfl) fun w0 X0 hI hS=>?_
 refine af<|ai ?_
 refine ak rfl (bY 3 rfl rfl rfl ?_)
 refine ak rfl (bt 6 rfl b7 rfl rfl ?_)
 refine ah<|ae<|af<|ai<|s1 (gx (us:= []) (vs:= [.p 6 0]) rfl rfl) rfl ?_
 refine vi [6] hI rfl rfl trivial rfl fun w1 us hdf=>?_
 refine ah<|ae<|af ?_
 rcases z2 r n l with hcs|hcs
 ·have h0 := hcs
  refine ai<|s1 (aZ aE rfl rfl (by rw [List.length_map,hr])) rfl<|s1 (aa rfl) rfl<|s1 (aa rfl) rfl ?_
  refine eS ⟨[]⟩ false rfl trivial (.cons (.pure pu) (.cons (.pure pu) (.cons (.pure pu) .nil))) (As hr hl hn h0) (fun u hu=>?_)
  refine bP ?_
  refine jR ⟨[(6,some [.i .i64 0])]⟩ hdf hS Au ⟨⟨rfl,a7.pure ar⟩,trivial⟩ (.cons (.kp rfl) .nil) (G9 _ (cQ r n l)) (hu.2) (J4 rfl ar) rfl (dw b7 rfl rfl rfl aC) ?_
  exact rfl
 ·obtain ⟨σ, hf, h0⟩ := hcs
  refine ai<|s1 (aZ aE rfl rfl (by rw [List.length_map,hr])) rfl<|s1 (aa rfl) rfl<|s1 (aa rfl) rfl ?_
  refine ak rfl (tq (F:=mapOf σ) rfl (.cons (.pure pu) (.cons (.pure pu) (.cons (.pure pu) (.nil)))) (Ar hr hl hn hf h0) rfl rfl fun b11=>?_)
  refine ah<|ae<|af<|ai ?_
  refine ak rfl (bZ b7 rfl rfl rfl rfl (by first|rfl|omega|(simp<;>omega)|(simp [*]<;>omega)) rfl ?_)
  refine ah<|ae<|aF ?_
  refine rT hdf hS Au Ha rfl (dw b7 rfl rfl rfl aC) ?_
  exact congrArg (A.i .i64) h0.symm
end Go.Abs.D2
-- E5F
namespace Go.Abs.D2
open Go Go.Eng Go.Abs Go.Proofs
theorem Gk (l:List Ch) (hl:l.length≤1000000):aB Tryz.prog 47 [cz l] (aU (cz l)):=by
 refine enter Tryz.func47 rfl Tryz.ntmps47 (by kernel_rfl) (Nat.le_of_ble_eq_true rfl) fun w0 X0 hI=>?_
 refine af<|ai<|s1 (aa rfl) rfl ?_
 refine ah<|ae<|af<|af ?_
 rcases BW l.length with hcs|hcs
 ·obtain rfl := List.length_eq_zero_iff.1 hcs
  refine ai<|s1 (aa rfl) rfl ?_
  refine ak rfl (Ci Tryz.underlying31 rfl rfl rfl fun q4=>?_)
  refine ah<|ae ?_
  refine aP rfl (fun hc4=>?_) (fun hc4=>?_)
  ·skip
   refine af<|ai<|s1 (aa rfl) rfl ?_
   refine ah<|ae<|aF<|aH ?_
   refine FA 2 rfl .nl ?_
   refine aG (rs:= [.tmp 2]) rfl (aD rfl aC) ?_
   rfl
  ·skip
   refine aK<|ae<|af<|ai ?_
   refine ak rfl (fX 5 rfl Tryz.underlying31 bp rfl rfl rfl (by first|(simp [aX];done)|(simp [aX, *];done)) (show gU []= []from rfl) rfl rfl rfl ?_)
   refine s1 (aa rfl) rfl ?_
   refine ak rfl (cY 7 rfl Tryz.underlying31 bp rfl (.sl rfl (by simp)) rfl rfl (by simp) (by simp only [maxLen];omega) (by omega) rfl rfl rfl ?_)
   refine s1 (aa rfl) rfl ?_
   refine ah<|ae<|aF ?_
   refine gz 2 rfl rfl ar (cD (by simp) rfl) ?_
   refine aG (rs:= [.tmp 2]) rfl (aD rfl aC) ?_
   rfl
 ·skip
  refine ai<|s1 (aa rfl) rfl<|s1 (yl Tryz.underlying31 rfl rfl hcs) rfl ?_
  refine ah<|ae ?_
  refine cK rfl ?_
  refine aK<|ae<|af<|ai ?_
  refine ak rfl (fX 5 rfl Tryz.underlying31 bp rfl rfl rfl (by first|(simp [aX];done)|(simp [aX, *];done)) (show gU []= []from rfl) rfl rfl rfl ?_)
  refine s1 (aa rfl) rfl ?_
  refine ak rfl (cY 7 rfl Tryz.underlying31 bp rfl (.sl rfl (by simp)) rfl rfl (by simp) (by simp only [maxLen];omega) (by omega) rfl rfl rfl ?_)
  refine s1 (aa rfl) rfl ?_
  refine ah<|ae<|aF ?_
  refine gz 2 rfl rfl ar (cD (by simp) rfl) ?_
  refine aG (rs:= [.tmp 2]) rfl (aD rfl aC) ?_
  exact congrArg (fun n=>A.fz n (eD l)) (Nat.zero_add _)
theorem z7 (l:List Ep) (h:dN l) (hl:l.length≤1000000):aB Tryz.prog 54 [cW l] (dh 71 l.length (c4 l)):=by
 refine enter Tryz.func54 rfl Tryz.ntmps54 (by kernel_rfl) (Nat.le_of_ble_eq_true rfl) fun w0 X0 hI=>?_
 refine af<|ai<|s1 (aa rfl) rfl ?_
 refine ah<|ae<|af<|af ?_
 rcases BW l.length with hcs|hcs
 ·obtain rfl := List.length_eq_zero_iff.1 hcs
  have hel:=kN h
  refine ai<|s1 (aa rfl) rfl ?_
  refine ak rfl (Ci Tryz.underlying24 rfl rfl rfl fun q4=>?_)
  refine ah<|ae ?_
  refine aP rfl (fun hc4=>?_) (fun hc4=>?_)
  ·skip
   refine af<|ai<|s1 (aa rfl) rfl ?_
   refine ah<|ae<|aF<|aH ?_
   refine y5 9 rfl 2 71 rfl ?_
   refine aG (rs:= [.tmp 2]) rfl (aD rfl aC) ⟨9,rfl,rfl⟩
  ·skip
   refine aK<|ae<|af<|ai ?_
   refine ak rfl (fX 5 rfl Tryz.underlying24 bA rfl rfl rfl (by first|(simp [aX];done)|(simp [aX, *];done)) (show gU []= []from rfl) rfl rfl rfl ?_)
   refine s1 (aa rfl) rfl ?_
   refine ak rfl (cY 7 rfl Tryz.underlying24 bA rfl (.sl rfl (by simp)) rfl rfl (by first|rfl|omega) (by simp only [maxLen];omega) (by omega) rfl rfl rfl ?_)
   refine s1 (aa rfl) rfl ?_
   refine ah<|ae<|aF ?_
   refine aG (rs:= [.tmp 2]) rfl (aD rfl aC) ⟨7,rfl,rfl⟩
 ·skip
  have hel:=kN h
  refine ai<|s1 (aa rfl) rfl<|s1 (yl Tryz.underlying24 rfl rfl hcs) rfl ?_
  refine ah<|ae ?_
  refine cK rfl ?_
  refine aK<|ae<|af<|ai ?_
  refine ak rfl (fX 5 rfl Tryz.underlying24 bA rfl rfl rfl (by first|(simp [aX];done)|(simp [aX, *];done)) (show gU []= []from rfl) rfl rfl rfl ?_)
  refine s1 (aa rfl) rfl ?_
  refine ak rfl (cY 7 rfl Tryz.underlying24 bA rfl (.sl rfl (by simp)) rfl rfl (by first|rfl|omega) (by simp only [maxLen];omega) (by omega) rfl rfl rfl ?_)
  refine s1 (aa rfl) rfl ?_
  refine ah<|ae<|aF ?_
  refine aG (rs:= [.tmp 2]) rfl (aD rfl aC) ⟨7,congrArg (A.sl 7 71 0) (Nat.zero_add _),rfl⟩
theorem A9 (a:Int):aB Tryz.prog 52 [.i .i64 a] (aU (.fz 4 ((eF a 4).map u8))):=by
 refine enter Tryz.func52 rfl Tryz.ntmps52 (by kernel_rfl) (Nat.le_of_ble_eq_true rfl) fun w0 X0 hI=>?_
 refine af<|ai<|s1 (aa rfl) rfl ?_
 refine ah<|ae<|af<|ai<|s1 (aa rfl) rfl<|s1 (lf rfl rfl (by decide)) rfl<|s1 ((cU Tryz.underlying3 Tryz.underlying5 rfl).v (HP a)) rfl<|s1 (aa rfl) rfl<|s1 (lf rfl rfl (by decide)) rfl<|s1 ((cU Tryz.underlying3 Tryz.underlying5 rfl).v (HQ a)) rfl<|s1 (aa rfl) rfl<|s1 (lf rfl rfl (by decide)) rfl<|s1 ((cU Tryz.underlying3 Tryz.underlying5 rfl).v (HR a)) rfl<|s1 (aa rfl) rfl ?_
 refine s1 ((cU Tryz.underlying3 Tryz.underlying5 rfl).v (HS a)) rfl ?_
 refine ak rfl (kP Tryz.underlying68 aQ rfl rfl rfl (np rfl) (mg rfl) ar rfl rfl rfl ?_)
 refine s1 (aa rfl) rfl ?_
 refine ah<|ae<|aF ?_
 refine aG (rs:= [.tmp 2]) rfl (aD rfl aC) ?_
 rfl
theorem DR (b:Nat) (σ:Int→Int) (hs:gi σ) (ids:List Int) (hn:ids.length≤1000):iX Tryz.prog 49 [.raw (.map (some b)),.fz ids.length (ids.map (A.i .i64))] ⟨[(700,some [.mc b (mapOf σ)])]⟩ (fun r st=>fM σ ids=true∧gP (.tu [.fz (dV σ ids).length ((dV σ ids).map (A.i .i64)),.fz (fl σ ids).length ((fl σ ids).map (A.i .i64))]) [] r st) (fun u=>fM σ ids=false∧u=gZ 136 351):=by
 refine sy Tryz.func49 rfl Tryz.ntmps49 (by kernel_rfl) (Nat.le_of_ble_eq_true rfl) fun w0 X0 hI=>?_
 refine af<|ai<|s1 (aa rfl) rfl<|s1 (aa rfl) rfl ?_
 refine ah<|ae<|af<|ai<|s1 ((aa rfl).v (v':= .i .i64 (-1)) rfl) rfl ?_
 refine ah<|ae<|af<|af<|ai<|s1 (aa rfl) rfl<|s1 (bx Tryz.underlying30 rfl rfl rfl) rfl<|s1 ((aa rfl).v (v':= .i .i64 0) rfl) rfl ?_
 refine ah<|ae<|aM ?_
 refine bH (ι:=Nat) (fun i=> [(0,.raw (.map (some b))),(4,.sl 131 1 0 (dV σ (ids.take i)).length),(5,.sl 135 1 0 (fl σ (ids.take i)).length),(6,.i .i64 (fK ids i)),(9,.fz ids.length (ids.map (A.i .i64))),(10,nJ ids.length),(11,nJ i)]) (fun i=>⟨[(131,some ((dV σ (ids.take i)).map (A.i .i64))),(135,some ((fl σ (ids.take i)).map (A.i .i64))),(700,some ([.mc b (mapOf σ)]))]⟩) (fun i=>i≤ids.length∧cN ids=dU (fK ids i) (ids.drop i)) (fun i=>ids.length - i) ?_ ?_
 ·exact bG (0) (⟨Nat.zero_le _,y3 ids⟩) [(131,none),(135,none),(700,some 700)] hI rfl rfl ⟨⟨_,rfl,.pure pu⟩,⟨_,rfl,.nl rfl⟩,⟨_,rfl,.nl rfl⟩,⟨_,rfl,.pure pu⟩,⟨_,rfl,.pure pu⟩,⟨_,rfl,.pure pu⟩,⟨_,rfl,.pure pu⟩,trivial⟩ ⟨.inl ⟨rfl,rfl⟩,.inl ⟨rfl,rfl⟩,.inr ⟨_,_,rfl,rfl,.pure ar⟩,trivial⟩
 rintro i ⟨hi,hl⟩
 have hlb:=wY σ (ids.take i)
 have hlg:=w9 σ (ids.take i)
 rw [List.length_take]at hlb hlg
 refine af<|ai<|s1 (aa rfl) rfl ?_
 refine ah<|ae<|af ?_
 refine aP rfl (fun hc12=>?_) (fun hc12=>?_)
 ·have h12 : i < ids.length := by have := of_decide_eq_true hc12; omega
  obtain⟨q,hq⟩:∃q,ids[i]? =some q:=⟨_,List.getElem?_eq_getElem h12⟩
  refine aK<|ae<|af<|aM<|af<|ai<|s1 (aT i Tryz.underlying30 an rfl rfl rfl (by omega) rfl) rfl<|s1 (au an rfl rfl (oF hq)) rfl<|s1 (aa rfl) rfl ?_
  refine ah<|ae<|af<|ai<|s1 (aa rfl) rfl<|s1 (aa rfl) rfl<|s1 (aa rfl) rfl<|s1 (aa rfl) rfl ?_
  refine dG 2 rfl rfl rfl rfl (fun hb18=> .step (aa rfl) rfl rfl<| .step (aa rfl) rfl rfl<| .done) rfl rfl ?_
  refine ik 21 rfl (fun hc21=>?_) (fun hc21=>?_)
  ·have h21 : fK ids i < q ∧ q < 1024 := by simp at hc21; omega
   refine ak rfl (aJ false rfl (.cons (.pure pu) (.cons (.pure pu) .nil)) (fS 351) pu (.inl rfl) rfl ?_)
   refine ah<|ae<|af<|ai<|s1 ((aa rfl).v (v':= .i .i64 (fK ids (i+1))) (congrArg (A.i .i64) (wW hq).symm)) rfl<|s1 (aa rfl) rfl ?_
   refine ah<|ae<|af<|ai<|s1 (aa rfl) rfl<|s1 (aa rfl) rfl<|s1 (nQ Tryz.underlying80 Tryz.underlying3 uM rfl rfl rfl (s9 _ _)) rfl<|s1 (aa rfl) rfl ?_
   refine ah<|ae ?_
   refine aP rfl (fun hc27=>?_) (fun hc27=>?_)
   ·have h27 : σ q ≠ 0 := by simpa using hc27
    obtain⟨hb1,hb2⟩:=FD hq h27
    refine ai<|s1 (aa rfl) rfl<|s1 (aa rfl) rfl ?_
    refine ak rfl (dZ 30 rfl Tryz.underlying30 an rfl rfl rfl rfl rfl ?_)
    refine ak rfl (cY 31 rfl Tryz.underlying30 an rfl (.sl rfl (by simp)) rfl (cO rfl (by first|rfl|omega|(simp<;>omega)|(simp [*]<;>omega))) (by simp) (by simp only [maxLen];omega) (by omega) rfl rfl rfl ?_)
    refine s1 (aa rfl) rfl ?_
    refine ah<|bj<|ae<|ai<|s1 (bg _ 1 rfl rfl rfl rfl (by omega)) rfl<|s1 (aa rfl) rfl ?_
    refine ah ?_
    exact bu (i+1) (⟨by omega,vf hl hq h21⟩) (by omega) [(131,some 31),(135,some 135),(700,some 700)] hI rfl rfl ⟨⟨_,rfl,.pure pu⟩,⟨_,rfl,.sl rfl (by first|rfl|omega|(simp<;>omega)|(simp [*]<;>omega))⟩,⟨_,rfl,.sl rfl (by first|rfl|omega|(simp<;>omega)|(simp [*]<;>omega))⟩,⟨_,rfl,.pure pu⟩,⟨_,rfl,.pure pu⟩,⟨_,rfl,.pure pu⟩,⟨_,rfl,.pure pu⟩,trivial⟩ ⟨.inr ⟨_,_,rfl,rfl,.of (by rw [hb1,List.map_append];rfl) (.pure ar)⟩,.inr ⟨_,_,rfl,rfl,.of (by rw [hb2]) (.pure ar)⟩,.inr ⟨_,_,rfl,rfl,.pure ar⟩,trivial⟩
   ·have h27 : σ q = 0 := by simpa using hc27
    obtain⟨hb1,hb2⟩:=FE hq h27
    refine ai<|s1 (aa rfl) rfl<|s1 (aa rfl) rfl ?_
    refine ak rfl (dZ 34 rfl Tryz.underlying30 an rfl rfl rfl rfl rfl ?_)
    refine ak rfl (cY 35 rfl Tryz.underlying30 an rfl (.sl rfl (by simp)) rfl (cO rfl (by first|rfl|omega|(simp<;>omega)|(simp [*]<;>omega))) (by simp) (by simp only [maxLen];omega) (by omega) rfl rfl rfl ?_)
    refine s1 (aa rfl) rfl ?_
    refine ah<|bj<|ae<|ai<|s1 (bg _ 1 rfl rfl rfl rfl (by omega)) rfl<|s1 (aa rfl) rfl ?_
    refine ah ?_
    exact bu (i+1) (⟨by omega,vf hl hq h21⟩) (by omega) [(131,some 131),(135,some 35),(700,some 700)] hI rfl rfl ⟨⟨_,rfl,.pure pu⟩,⟨_,rfl,.sl rfl (by first|rfl|omega|(simp<;>omega)|(simp [*]<;>omega))⟩,⟨_,rfl,.sl rfl (by first|rfl|omega|(simp<;>omega)|(simp [*]<;>omega))⟩,⟨_,rfl,.pure pu⟩,⟨_,rfl,.pure pu⟩,⟨_,rfl,.pure pu⟩,⟨_,rfl,.pure pu⟩,trivial⟩ ⟨.inr ⟨_,_,rfl,rfl,.of (by rw [hb1]) (.pure ar)⟩,.inr ⟨_,_,rfl,rfl,.of (by rw [hb2,List.map_append];rfl) (.pure ar)⟩,.inr ⟨_,_,rfl,rfl,.pure ar⟩,trivial⟩
  ·have h21 : ¬ (fK ids i < q ∧ q < 1024) := by simp at hc21; omega
   refine eS ⟨[]⟩ false rfl trivial (.cons (.pure pu) (.cons (.pure pu) .nil)) (ir 351) (fun u hu=>?_)
   refine bP ?_
   refine dA ?_
   refine bP ?_
   refine bP ?_
   refine dA ?_
   refine bP ?_
   exact mX ⟨DP (y2 hl hq h21),hu⟩
 ·have h12 : i = ids.length := by have := of_decide_eq_false hc12; omega
  subst h12
  refine bE<|aO<|aO<|bF<|ae<|af ?_
  refine cV 131 (cs':=(dV σ ids).map (A.i .i64)) rfl (by rw [List.take_length]) ?_
  refine cV 135 (cs':=(fl σ ids).map (A.i .i64)) rfl (by rw [List.take_length]) ?_
  refine ai<|s1 (aa rfl) rfl<|s1 (bx Tryz.underlying30 rfl rfl rfl) rfl<|s1 (aa rfl) rfl<|s1 (Na (c6 σ) Tryz.underlying80 rfl rfl (wV σ) (sW hs)) rfl<|s1 (aa rfl) rfl ?_
  refine ik 41 rfl (fun hc41=>?_) (fun hc41=>?_)
  ·have h41 : (dV σ ids).length = (c6 σ).length := by have := of_decide_eq_true hc41; rw [List.take_length] at this; omega
   refine ak rfl (aJ false rfl (.cons (.pure pu) (.cons (.pure pu) .nil)) (fS 351) pu (.inl rfl) rfl ?_)
   refine ah<|ae<|af<|ai<|s1 (aa rfl) rfl<|s1 (aa rfl) rfl<|s1 (aa rfl) rfl<|s1 (aa rfl) rfl ?_
   refine ah<|ae<|aF ?_
   refine gz 4 rfl rfl ar (cD (by simp) rfl) ?_
   refine gz 5 rfl rfl ar (cD (by simp) rfl) ?_
   refine y6 (rs:= [.tmp 4,.tmp 5]) rfl (aD rfl (aD rfl aC)) ⟨xY (yX hl) h41,?_,fun p hp=>by cases hp⟩
   show A.tu _=A.tu _
   rw [List.take_length]
  ·have h41 : (dV σ ids).length ≠ (c6 σ).length := by have := of_decide_eq_false hc41; rw [List.take_length] at this; omega
   refine eS ⟨[]⟩ false rfl trivial (.cons (.pure pu) (.cons (.pure pu) .nil)) (ir 351) (fun u hu=>?_)
   refine bP ?_
   exact mX ⟨Mb h41,hu⟩
theorem DS {b:Nat} {σ:Int→Int} (hs:gi σ) {ids:List Int} (hn:ids.length≤1000) (h:fM σ ids=true):cE Tryz.prog 49 [.raw (.map (some b)),.fz ids.length (ids.map (A.i .i64))] ⟨[(700,some [.mc b (mapOf σ)])]⟩ (gP (.tu [.fz (dV σ ids).length ((dV σ ids).map (A.i .i64)),.fz (fl σ ids).length ((fl σ ids).map (A.i .i64))]) []):=(DR b σ hs ids hn).ret (fun _ _ h=>h.2) fun u hu=>by rw [h]at hu;cases hu.1
theorem DT {b:Nat} {σ:Int→Int} (hs:gi σ) {ids:List Int} (hn:ids.length≤1000) (h:fM σ ids=false):iY Tryz.prog 49 [.raw (.map (some b)),.fz ids.length (ids.map (A.i .i64))] ⟨[(700,some [.mc b (mapOf σ)])]⟩ (fun u=>fM σ ids=false∧u=gZ 136 351):=(DR b σ hs ids hn).tQ fun r st hu=>by rw [h]at hu;cases hu.1
end Go.Abs.D2
-- K6C
namespace Go.Abs.D2
open Go Go.Eng Go.Abs Go.Proofs
theorem DJ (x:List UInt8) (k:Nat) (a:Int) (m:List UInt8) (hx:x.length=32) (hm:m.length=32) (hk:cv (k:Int)):aB Tryz.prog 53 [.ag (x.map u8),bD (dt x k),.i .i64 a,.ag (m.map u8)] (aU (signA x k a m)):=by
 refine enter Tryz.func53 rfl Tryz.ntmps53 (by kernel_rfl) (Nat.le_of_ble_eq_true rfl) fun w0 X0 hI=>?_
 refine af<|ai ?_
 refine ak rfl (bY 4 rfl rfl rfl ?_)
 refine ak rfl (bY 7 rfl rfl rfl ?_)
 refine ak rfl (bt 8 rfl eU rfl rfl ?_)
 refine s1 ((aa rfl).v (v':= .i .i64 0) rfl) rfl ?_
 refine ah<|ae<|af ?_
 rcases(Decidable.em (fQ (k:Int) a)).symm with hcs|hcs
 ·skip
  have hk2:k≤256:=by unfold cv at hk;omega
  refine ai<|s1 (aa rfl) rfl<|s1 (aa rfl) rfl ?_
  refine ak rfl (aJ false rfl (.cons (.pure pu) (.cons (.pure pu) (.nil))) (aB.cast (CT (dt x k) a (mN x k) (by simp;omega)) (Km (by rw [len_kpubs];exact hcs))) pu (.inl rfl) rfl ?_)
  refine s1 (aa rfl) rfl<|s1 (aa rfl) rfl<|s1 (aa rfl) rfl<|s1 (aa rfl) rfl<|s1 (aa rfl) rfl ?_
  refine ah<|ae<|af<|af<|ai<|s1 (aa rfl) rfl<|s1 ((aa rfl).v (v':= .b true) (rfl)) rfl ?_
  refine ah<|ae ?_
  refine bT rfl ?_
  refine af<|ai<|s1 (aZ eU rfl rfl (by first|rfl|omega|(simp<;>omega)|(simp [*]<;>omega))) rfl ?_
  refine ak rfl (bo eU rfl rfl rfl (by first|rfl|omega|(simp<;>omega)|(simp [*]<;>omega)) (by first|rfl|omega|(simp<;>omega)|(simp [*]<;>omega)) ?_)
  refine s1 ((aa rfl).v (v':= .i .i64 60) rfl) rfl ?_
  refine ah<|ae<|aF<|aH ?_
  refine iG 8 rfl (.cons (.eq rfl) (.cons .nl (.cons .nl .nil))) ?_
  refine aG (rs:= [.cell 8 43,.tmp 9]) rfl (ct eU rfl rfl rfl rfl (aD rfl aC)) ?_
  exact(L1 (fun h=>hcs h.2)).symm
 ·have hat := hcs
  obtain⟨i,rfl,hi⟩:∃i:Nat,a=(i:Int)∧i<k:=⟨a.toNat,by unfold fQ at hcs;omega,by unfold fQ at hcs;omega⟩
  have hk2:k≤256:=by unfold cv at hk;omega
  refine ai<|s1 (aa rfl) rfl<|s1 (aa rfl) rfl ?_
  refine ak rfl (aJ false rfl (.cons (.pure pu) (.cons (.pure pu) (.nil))) (aB.cast (CT (dt x k) (i:Nat) (mN x k) (by simp;omega)) (Kn (by rw [len_kpubs];exact hi))) pu (.inl rfl) rfl ?_)
  refine s1 (aa rfl) rfl<|s1 (aa rfl) rfl<|s1 (aa rfl) rfl<|s1 (aa rfl) rfl<|s1 (aa rfl) rfl ?_
  refine ah<|ae<|af<|af<|ai<|s1 (aa rfl) rfl<|s1 ((aa rfl).v (v':= .b false) (rfl)) rfl ?_
  refine ah<|ae ?_
  refine cK rfl ?_
  refine aK<|ae<|af ?_
  refine bU ⟨_, [], []⟩ 8 4 bz (le_refl rfl) ?_
  refine aj 0 [] [] (aa rfl) rfl rfl<|aj 1 [] [(4,none)] (aZ aE rfl rfl (by first|rfl|omega|(simp<;>omega)|(simp [*]<;>omega))) rfl rfl<|aj 2 [] [] (aa rfl) rfl rfl<|bV false 3 [1,2] [] bb rfl (.cons (.pure pu) (.cons (.pure pu) (.nil))) (DA x (i:Nat) hx) pu (.inl rfl) rfl rfl<|aj 4 [] [(7,none)] (aZ aE rfl rfl (by first|rfl|omega|(simp<;>omega)|(simp [*]<;>omega))) rfl rfl<|bV false 5 [3,4] [] bb rfl (.cons (.pure pu) (.cons (.pure pu) (.nil))) (L5 (fE x (i:Nat)) m (by simp) hm) pu (.inl rfl) rfl rfl<|aj 6 [] [] (aa rfl) rfl rfl<|aj 7 [0,5,6] [] (eu (out:= [_,_,_]) [[aW (.int .i64 0)], [aW (.slice none 0 0)], [aW (.slice none 0 0)]] eU rfl Tryz.underlying43 (by kernel_rfl) rfl rfl ⟨⟨by(first|rfl|omega|(simp;done)|(simp [*];done)|(simp [aX, *];done)),rfl⟩,⟨⟨by(first|rfl|omega|(simp;done)|(simp [*];done)|(simp [aX, *];done)),rfl⟩,⟨⟨by(first|rfl|omega|(simp;done)|(simp [*];done)|(simp [aX, *];done)),rfl⟩,trivial⟩⟩⟩ rfl) rfl rfl<|bW (by kernel_rfl) ?_
  refine ak rfl (bo eU rfl rfl rfl (by first|rfl|omega|(simp<;>omega)|(simp [*]<;>omega)) (by first|rfl|omega|(simp<;>omega)|(simp [*]<;>omega)) ?_)
  refine s1 ((aa rfl).v (v':= .i .i64 0) rfl) rfl ?_
  refine ah<|ae<|aF ?_
  refine aG (rs:= [.cell 8 43,.tmp 9]) rfl (ct eU rfl rfl rfl rfl (aD rfl aC)) ?_
  exact(xU hk hi).symm
end Go.Abs.D2
-- E5G
namespace Go.Abs.D2
open Go Go.Eng Go.Abs Go.Proofs
theorem lH (c0 c1:A) (e:Int):pF Tryz.prog 43 [.p 14 0,.p 15 0] ⟨[(14,some [c0]),(15,some [c1])]⟩ (fun u=>u=gZ 136 e) [(14, [.nl]),(15, [.i .i64 e])]:=by
 refine vM (.ic 136 (.ag [.i .i64 e])) (fun u hu X w β=>by rw [hu];exact uX _ _) Tryz.func43 rfl Tryz.ntmps43 (Nat.le_of_ble_eq_true rfl) rfl rfl fun w0 X0 hI=>?_
 refine af<|ai<|s1 (aa rfl) rfl<|s1 (ym Tryz.underlying20 rfl) rfl ?_
 refine ah<|ae ?_
 refine bT rfl ?_
 refine ai<|s1 (aa rfl) rfl ?_
 refine ak rfl (aJ false rfl (.cons (.pure pu) (.nil)) (wq e) pu (.inl rfl) rfl ?_)
 refine ak rfl (bZ fw rfl rfl rfl rfl (by first|rfl|omega|(simp<;>omega)|(simp [*]<;>omega)) rfl ?_)
 refine ak rfl (bZ b7 rfl rfl rfl rfl (by first|rfl|omega|(simp<;>omega)|(simp [*]<;>omega)) rfl ?_)
 refine ah ?_
 refine lq (rs:= []) rfl aC (Dc rfl rfl)
theorem AP:pG Tryz.prog 43 2:=vN Tryz.func43 rfl (fun w=>xN Tryz.underlying20 w) rfl ⟨Nat.le_of_ble_eq_true rfl,Nat.le_of_ble_eq_true rfl,Nat.le_of_ble_eq_true rfl,Nat.le_of_ble_eq_true rfl,Nat.le_of_ble_eq_true rfl⟩
theorem jU:kC Tryz.prog 43:=⟨_,Tryz.func43,rfl,by kernel_rfl⟩
theorem sB (x : List UInt8) (n : Int) (l : List Ep) (iss day : Int) (ids : List Int) (c : List Ch) (hx : x.length = 32) (hl : dN l) (hn : l.length ≤ 1000) (hi : rg iss) (hd : rg day) (hids : ids.length ≤ 100) (hc : c.length ≤ 1000) (hcr : ∀ e ∈ c, rg e.id ∧ rg e.st) : aB Tryz.prog 15 [.ag (x.map u8), .i .i64 n, cW l, .i .i64 iss, .i .i64 day, .fz ids.length (ids.map (A.i .i64)), cz c] (aU (KZ l (gq x n l iss day ids c))) := by
 refine ov Tryz.func15 rfl Tryz.ntmps15 (by kernel_rfl) (Nat.le_of_ble_eq_true rfl) fun w0 X0 hI hS=>?_
 refine af<|ai ?_
 refine ak rfl (bY 7 rfl rfl rfl ?_)
 refine ak rfl (bt 14 rfl fw rfl rfl ?_)
 refine ak rfl (bt 15 rfl b7 rfl rfl ?_)
 refine ah<|ae<|af<|ai<|s1 (gx (us:= []) (vs:= [.p 14 0,.p 15 0]) rfl rfl) rfl ?_
 refine vi [14,15] hI rfl rfl trivial rfl fun w1 us hdf=>?_
 refine ah<|ae<|af ?_
 rcases(Decidable.em (cv n)).symm with hcs|hcs
 ·skip
  refine ai<|s1 (aZ aE rfl rfl (by rw [List.length_map,hx])) rfl<|s1 (aa rfl) rfl ?_
  refine ak rfl (aJ false rfl (.cons (.pure pu) (.cons (.pure pu) (.nil))) (aB.cast (tS x n hx) (if_neg hcs)) pu (.inl rfl) rfl ?_)
  refine s1 (aa rfl) rfl<|s1 (aa rfl) rfl<|s1 (aa rfl) rfl<|s1 (aa rfl) rfl ?_
  refine ak rfl (bZ b7 rfl rfl rfl rfl (by first|rfl|omega|(simp<;>omega)|(simp [*]<;>omega)) rfl ?_)
  refine ah<|ae<|af<|ai<|s1 (au b7 rfl rfl rfl) rfl<|s1 ((aa rfl).v (v':= .b false) (rfl)) rfl<|s1 (au b7 rfl rfl rfl) rfl ?_
  refine eS ⟨[]⟩ false rfl trivial (.cons (.pure pu) (.cons (.pure pu) .nil)) (ir 60) (fun u hu=>?_)
  refine bP ?_
  refine jR ⟨[(14,some [.nl]),(15,some [.i .i64 60])]⟩ hdf hS jU ⟨⟨rfl,a7.pure ar⟩,⟨rfl,a7.pure ar⟩,trivial⟩ (.cons (.kp rfl) (.cons (.kp rfl) .nil)) (lH _ _ 60) (hu) (ld rfl rfl ar ar) rfl (dw fw rfl rfl rfl (dw b7 rfl rfl rfl aC)) ?_
  rw [CU hcs];rfl
 ·have hsz := hcs
  obtain⟨k,rfl,hk1,hk2⟩:=ug hcs
  refine ai<|s1 (aZ aE rfl rfl (by rw [List.length_map,hx])) rfl<|s1 (aa rfl) rfl ?_
  refine ak rfl (aJ false rfl (.cons (.pure pu) (.cons (.pure pu) (.nil))) (aB.cast (tS x k hx) (if_pos hsz)) pu (.inl rfl) rfl ?_)
  refine s1 (aa rfl) rfl<|s1 (aa rfl) rfl<|s1 (aa rfl) rfl<|s1 (aa rfl) rfl ?_
  refine ak rfl (bZ b7 rfl rfl rfl rfl (by first|rfl|omega|(simp<;>omega)|(simp [*]<;>omega)) rfl ?_)
  refine ah<|ae<|af<|ai<|s1 (au b7 rfl rfl rfl) rfl<|s1 ((aa rfl).v (v':= .b true) (rfl)) rfl<|s1 (au b7 rfl rfl rfl) rfl ?_
  refine ak rfl (aJ false rfl (.cons (.pure pu) (.cons (.pure pu) .nil)) (fS 0) pu (.inl rfl) rfl ?_)
  refine ah<|ae<|af ?_
  rcases z2 (dM x (k:Int)) k l with hcs|hcs
  ·have h0 := hcs
   refine ai<|s1 (aa rfl) rfl ?_
   refine ak rfl (aJ false rfl (.cons (.pure pu) (.nil)) (aB.cast (py _ (dt x k) (Nat.le_refl _) (mN x k) (by simp;omega)) (congrArg (fun l:List UInt8=>A.ag (l.map u8)) (ub hsz).symm)) pu (.inl rfl) rfl ?_)
   refine s1 (aa rfl) rfl<|s1 (aa rfl) rfl ?_
   refine eS ⟨[]⟩ false rfl trivial (.cons (.pure pu) (.cons (.pure pu) (.cons (.pure pu) .nil))) (As (by simp) hl (by simp only [maxLen];omega) h0) (fun u hu=>?_)
   refine bP ?_
   refine jR ⟨[(14,some [.nl]),(15,some [.i .i64 0])]⟩ hdf hS jU ⟨⟨rfl,a7.pure ar⟩,⟨rfl,a7.pure ar⟩,trivial⟩ (.cons (.kp rfl) (.cons (.kp rfl) .nil)) (lH _ _ (cQ (dM x (k:Int)) k l)) (hu.2) (ld rfl rfl ar ar) rfl (dw fw rfl rfl rfl (dw b7 rfl rfl rfl aC)) ?_
   rw [xy hsz h0];rfl
  ·obtain ⟨σ, hf, h0⟩ := hcs
   have hsup:=D5 hf
   have hlk:=zQ hf h0
   refine ai<|s1 (aa rfl) rfl ?_
   refine ak rfl (aJ false rfl (.cons (.pure pu) (.nil)) (aB.cast (py _ (dt x k) (Nat.le_refl _) (mN x k) (by simp;omega)) (congrArg (fun l:List UInt8=>A.ag (l.map u8)) (ub hsz).symm)) pu (.inl rfl) rfl ?_)
   refine s1 (aa rfl) rfl<|s1 (aa rfl) rfl ?_
   refine ak rfl (tq (F:=mapOf σ) rfl (.cons (.pure pu) (.cons (.pure pu) (.cons (.pure pu) (.nil)))) (Ar (by simp) hl (by simp only [maxLen];omega) hf h0) rfl rfl fun b39=>?_)
   refine s1 (aa rfl) rfl ?_
   refine ah<|ae<|af<|ai<|s1 (aa rfl) rfl<|s1 (bx Tryz.underlying24 rfl rfl rfl) rfl<|s1 (aa rfl) rfl<|s1 (aa rfl) rfl ?_
   refine ik 43 rfl (fun hc43=>?_) (fun hc43=>?_)
   ·have h43 : ¬ (l.length : Int) = (k : Int) := by simpa using hc43
    refine ak rfl (aJ false rfl (.cons (.pure pu) (.cons (.pure pu) .nil)) (fS 2) pu (.inl rfl) rfl ?_)
    refine ah<|ae<|af<|ai<|s1 (aa rfl) rfl<|s1 (aa rfl) rfl<|s1 (aa rfl) rfl ?_
    refine dG 2 rfl rfl rfl rfl (fun hb47=> .step (aa rfl) rfl rfl<| .step (aa rfl) rfl rfl<| .done) rfl rfl ?_
    refine s1 (aa rfl) rfl ?_
    refine dG 2 rfl rfl rfl rfl (fun hb51=> .step (aa rfl) rfl rfl<| .step (aa rfl) rfl rfl<| .done) rfl rfl ?_
    refine s1 (aa rfl) rfl ?_
    refine dG 2 rfl rfl rfl rfl (fun hb55=> .step (aa rfl) rfl rfl<| .step (aa rfl) rfl rfl<| .done) rfl rfl ?_
    refine ik 58 rfl (fun hc58=>?_) (fun hc58=>?_)
    ·skip
     refine ak rfl (aJ false rfl (.cons (.pure pu) (.cons (.pure pu) .nil)) (fS 351) pu (.inl rfl) rfl ?_)
     refine ah<|ae<|af<|ai<|s1 (aa rfl) rfl<|s1 (aa rfl) rfl<|s1 (bx Tryz.underlying24 rfl rfl rfl) rfl<|s1 (aa rfl) rfl<|s1 (aa rfl) rfl ?_
     refine ak rfl (aJ false rfl (.cons (.pure pu) (.nil)) (Gk c (by omega)) pu (.inl rfl) rfl ?_)
     refine s1 (eu (out:=_) [[aW (.int .i64 0)], [aW (.int .i64 0)], [aW (.int .i64 0)], [aW (.slice none 0 0)],(List.replicate 32 (.int .u8 0)).map aW,(List.replicate 32 (.int .u8 0)).map aW, [aW (.int .i64 0),aW (.slice none 0 0),aW (.slice none 0 0)]] bA rfl Tryz.underlying45 (by kernel_rfl) rfl rfl ⟨⟨by(first|rfl|omega|(simp;done)|(simp [*];done)|(simp [aX, *];done)),rfl⟩,⟨⟨by(first|rfl|omega|(simp;done)|(simp [*];done)|(simp [aX, *];done)),rfl⟩,⟨⟨by(first|rfl|omega|(simp;done)|(simp [*];done)|(simp [aX, *];done)),rfl⟩,⟨⟨by(first|rfl|omega|(simp;done)|(simp [*];done)|(simp [aX, *];done)),rfl⟩,trivial⟩⟩⟩⟩ rfl) rfl ?_
     refine ak rfl (bt 18 rfl bA rfl rfl ?_)
     refine ak rfl (bo bA rfl rfl rfl rfl rfl ?_)
     refine ah<|ae<|af<|af ?_
     refine cV 18 (cs':=eZ iss (l.length:Nat) day c zD zD) rfl rfl ?_
     refine ai<|s1 (aa rfl) rfl<|s1 (bx Tryz.underlying24 rfl rfl rfl) rfl<|s1 (aa rfl) rfl ?_
     refine ah<|ae ?_
     refine aP rfl (fun hc69=>?_) (fun hc69=>?_)
     ·have h69 : 0 < l.length := by have := of_decide_eq_true hc69; omega
      obtain⟨e,he⟩:∃e,l[l.length - 1]? =some e:=⟨_,List.getElem?_eq_getElem (by omega)⟩
      have hok:=hl e (List.mem_of_getElem? he)
      obtain⟨hlb,hld⟩:=IM (iss:=iss) (day:=day) he
      refine af<|ai<|s1 (aa rfl) rfl<|s1 (aa rfl) rfl<|s1 (bx Tryz.underlying24 rfl rfl rfl) rfl<|s1 (dD _ 1 rfl rfl rfl rfl (by omega) (by omega)) rfl<|s1 (aT (l.length - 1) Tryz.underlying24 bA rfl rfl rfl (by omega) rfl) rfl<|s1 (cm bA rfl rfl (kJ hl he) hok.len) rfl ?_
      refine ak rfl (bt 19 rfl bA rfl rfl ?_)
      refine ak rfl (bo bA rfl rfl rfl hok.len (by simp) ?_)
      refine ah<|ae<|af<|ai<|s1 (aa rfl) rfl<|s1 (aA Tryz.underlying45 rfl an (by decide) rfl rfl) rfl<|s1 (au an rfl rfl rfl) rfl<|s1 (aa rfl) rfl<|s1 (aa rfl) rfl ?_
      refine dG 4 rfl rfl rfl rfl (fun hb80=> .step (aa rfl) rfl rfl<| .step (aA Tryz.underlying45 rfl an (by decide) rfl rfl) rfl rfl<| .step (au an rfl rfl rfl) rfl rfl<| .step (aa rfl) rfl rfl<| .done) rfl rfl ?_
      refine ik 85 rfl (fun hc85=>?_) (fun hc85=>?_)
      ·skip
       refine ak rfl (aJ false rfl (.cons (.pure pu) (.cons (.pure pu) .nil)) (fS 351) pu (.inl rfl) rfl ?_)
       refine ah<|ae<|ai<|s1 (aZ bA rfl rfl hok.len) rfl ?_
       refine ak rfl (aJ false rfl (.cons (.pure pu) (.nil)) (l9 e hok) pu (.inl rfl) rfl ?_)
       refine s1 (aA Tryz.underlying45 rfl aE (by decide) rfl rfl) rfl ?_
       refine ak rfl (ju aE rfl rfl rfl rfl rfl (show((cM e).map u8).length=32 by simp) (by rw [xk rfl rfl];decide) (JM rfl rfl) ?_)
       refine ah<|ae<|af ?_
       rcases lS (cP σ (-1) c)with hcs|hcs
       ·have hk := hcs
        refine cV 18 (cs':=eZ iss (l.length:Nat) day c zD (iI l)) rfl (by rw [hld]) ?_
        refine ai<|s1 (aa rfl) rfl<|s1 (aa rfl) rfl ?_
        refine eS ⟨[(700,some [.mc b39 (mapOf σ)])]⟩ false rfl ⟨⟨rfl,a7.pure ar⟩,trivial⟩ (.cons (.pure pu) (.cons (.pure pu) .nil)) (wo (by simp only [maxLen];omega) hk) (fun u hu=>?_)
        refine bP ?_
        refine jR ⟨[(14,some [.nl]),(15,some [.i .i64 0])]⟩ hdf hS jU ⟨⟨rfl,a7.pure ar⟩,⟨rfl,a7.pure ar⟩,trivial⟩ (.cons (.kp rfl) (.cons (.kp rfl) .nil)) (lH _ _ 351) (hu.2) (ld rfl rfl ar ar) rfl (dw fw rfl rfl rfl (dw b7 rfl rfl rfl aC)) ?_
        rw [ke hsz hf h0 h43 (.inr (.inr (.inl hk)))];rfl
       ·have hk := hcs
        refine cV 18 (cs':=eZ iss (l.length:Nat) day c zD (iI l)) rfl (by rw [hld]) ?_
        refine ai<|s1 (aa rfl) rfl<|s1 (aa rfl) rfl ?_
        refine ak rfl (oN ⟨[(700,some [.mc b39 (mapOf σ)])]⟩ [(700, [.mc b39 (mapOf (aV σ c))])] false rfl ⟨⟨rfl,a7.pure ar⟩,trivial⟩ (.cons (.pure pu) (.cons (.pure pu) .nil)) (wm (by simp only [maxLen];omega) hk) pu (.inl rfl) (fun p hp=>by rw [List.mem_singleton.1 hp];exact⟨⟨_,rfl⟩,ar,.inl rfl⟩) rfl ?_)
        refine ah<|ae<|af ?_
        rcases lS (fM (aV σ c) ids)with hcs|hcs
        ·have hs := hcs
         refine ai<|s1 (aa rfl) rfl<|s1 (aa rfl) rfl ?_
         refine eS ⟨[(700,some [.mc b39 (mapOf (aV σ c))])]⟩ false rfl ⟨⟨rfl,a7.pure ar⟩,trivial⟩ (.cons (.pure pu) (.cons (.pure pu) .nil)) (DT (mC hsup (by omega) hk) (by omega) hs) (fun u hu=>?_)
         refine bP ?_
         refine jR ⟨[(14,some [.nl]),(15,some [.i .i64 0])]⟩ hdf hS jU ⟨⟨rfl,a7.pure ar⟩,⟨rfl,a7.pure ar⟩,trivial⟩ (.cons (.kp rfl) (.cons (.kp rfl) .nil)) (lH _ _ 351) (hu.2) (ld rfl rfl ar ar) rfl (dw fw rfl rfl rfl (dw b7 rfl rfl rfl aC)) ?_
         rw [ke hsz hf h0 h43 (.inr (.inr (.inr hs)))];rfl
        ·have hs := hcs
         have hlis:=DQ hs
         have hbl:=wY (aV σ c) ids
         have hgl:=w9 (aV σ c) ids
         obtain⟨hbE,hbF⟩:=zj (x:=mB x l.length) (p:=(dV (aV σ c) ids)) (q:=(fl (aV σ c) ids)) (by omega) (by omega)
         have hok0:(eP x l iss day ids c (aV σ c)).ok:=Cl hn hi hd hc hcr
         have hokN:(eY x k l iss day ids c (aV σ c)).ok:=tv hn hi hd hc hcr
         have hlt:l.length<k:=by omega
         have hNl:=hokN.len
         refine ai<|s1 (aa rfl) rfl<|s1 (aa rfl) rfl ?_
         refine ak rfl (oN ⟨[(700,some [.mc b39 (mapOf (aV σ c))])]⟩ [] false rfl ⟨⟨rfl,a7.pure ar⟩,trivial⟩ (.cons (.pure pu) (.cons (.pure pu) .nil)) (DS (mC hsup (by omega) hk) (by omega) hs) pu (.inl rfl) (fun p hp=>by cases hp) rfl ?_)
         refine s1 (aa rfl) rfl<|s1 (aa rfl) rfl<|s1 (aa rfl) rfl<|s1 (aa rfl) rfl<|s1 (aa rfl) rfl ?_
         refine ah<|ae<|af ?_
         refine fh 7 rfl rfl ar ?_
         refine bU ⟨_, [], []⟩ 8 4 bz (le_refl rfl) ?_
         refine aj 0 [] [] ((nP (ds:=((x.map u8).drop (0*1)).take (32*1)) 32 Tryz.underlying23 aQ rfl (by simp [maxLen]) bn bn (Nat.zero_le _) (Nat.le_refl _) (by simp [hx]) rfl rfl).v (vP hx)) rfl rfl<|na 100 false 1 [0] [] bb rfl (.cons (.pure pu) (.nil)) (wE x (by omega) (by omega)) ar (.inl rfl) rfl rfl<|aj 2 [] [(18,none)] (aA Tryz.underlying45 rfl an (by decide) rfl rfl) rfl rfl<|aj 3 [2] [(18,none)] (au an rfl rfl rfl) rfl rfl<|bV false 4 [3] [] bb rfl (.cons (.pure pu) (.nil)) (A9 (l.length:Nat)) pu (.inl rfl) rfl rfl<|gV 104 5 [1,4] [(100,some 1)] bb Tryz.underlying68 aQ rfl (.sl rfl (by simp)) rfl rfl (by simp) (by simp only [maxLen];omega) (by omega) rfl (List.map_append (l₁:=x) (l₂:=eF (l.length:Nat) 4)).symm rfl rfl ?_
         refine bV true 6 [5] [(104,some 5)] bb rfl (.cons (.pure pu) (.cons (.sl rfl rfl (by simp [hx]) (cD (by simp [hx]) rfl) (a7.pure ar) ar) .nil)) (aB.cast (ia uo (x++eF (l.length:Nat) 4) (by simp [hx]) (by decide)) (congrArg (fun l:List UInt8=>A.ag (l.map u8)) (xO x l.length).symm)) pu (.inr fu) rfl rfl ?_
         refine Bf 22 7 [] bb aE rfl rfl rfl<|bW (by kernel_rfl) ?_
         refine ak rfl (bo aE rfl rfl rfl (by first|rfl|omega|(simp<;>omega)|(simp [*]<;>omega)) (by first|rfl|omega|(simp<;>omega)|(simp [*]<;>omega)) ?_)
         refine ah<|ae<|af<|ai<|s1 (aZ aE rfl rfl (by simp)) rfl<|s1 (aa rfl) rfl<|s1 (aa rfl) rfl ?_
         refine ak rfl (aJ false rfl (.cons (.pure pu) (.cons (.pure pu) (.cons (.pure pu) (.nil)))) (aB.cast (zn (mB x l.length) (by simp) (dV (aV σ c) ids) (fl (aV σ c) ids) (by omega) (by omega)) (rZ (tE hlis))) pu (.inl rfl) rfl ?_)
         refine s1 (aa rfl) rfl<|s1 (aa rfl) rfl<|s1 (aa rfl) rfl ?_
         refine ak rfl (bt 23 rfl ee rfl rfl ?_)
         refine ak rfl (bo ee rfl rfl rfl (gm (c:=(jh x l.length (aV σ c) ids)) (oL _ _)) rfl ?_)
         refine ak rfl (bZ b7 rfl rfl rfl rfl (by first|rfl|omega|(simp<;>omega)|(simp [*]<;>omega)) rfl ?_)
         refine ah<|ae<|af<|ai<|s1 (au b7 rfl rfl rfl) rfl<|s1 ((aa rfl).v (v':= .b true) (rfl)) rfl<|s1 (au b7 rfl rfl rfl) rfl ?_
         refine ak rfl (aJ false rfl (.cons (.pure pu) (.cons (.pure pu) .nil)) (fS 0) pu (.inl rfl) rfl ?_)
         refine ah<|ae<|af<|ai<|s1 (aZ ee rfl rfl (gm (c:=(jh x l.length (aV σ c) ids)) (oL _ _))) rfl ?_
         refine ak rfl (aJ false rfl (.cons (.pure pu) (.nil)) (aB.cast (zq (jh x l.length (aV σ c) ids) (oL _ _) (show(jh x l.length (aV σ c) ids).E.length≤maxLen by simp only [maxLen];exact Nat.le_trans hbE (by decide))) (v7 (zM (tE hlis)))) pu (.inl rfl) rfl ?_)
         refine s1 (aa rfl) rfl<|s1 (aa rfl) rfl<|s1 (aa rfl) rfl<|s1 (aA Tryz.underlying45 rfl aE (by decide) rfl rfl) rfl ?_
         refine ak rfl (ju aE rfl rfl rfl rfl rfl (show((lE (jh x l.length (aV σ c) ids)).map u8).length=32 by simp) (by rw [xk rfl (sZ _)];decide) (Cw rfl) ?_)
         refine ak rfl (bZ b7 rfl rfl rfl rfl (by first|rfl|omega|(simp<;>omega)|(simp [*]<;>omega)) rfl ?_)
         refine ah<|ae<|af<|ai<|s1 (au b7 rfl rfl rfl) rfl<|s1 ((aa rfl).v (v':= .b true) (rfl)) rfl<|s1 (au b7 rfl rfl rfl) rfl ?_
         refine ak rfl (aJ false rfl (.cons (.pure pu) (.cons (.pure pu) .nil)) (fS 0) pu (.inl rfl) rfl ?_)
         refine ah<|ae<|af ?_
         refine iG 18 rfl Cy ?_
         refine bU ⟨_, [], []⟩ 12 4 bz (le_refl rfl) ?_
         refine aj 0 [] [] (cm aE rfl rfl (List.take_of_length_le (by simp [hx])) (by simp [hx])) rfl rfl<|aj 1 [] [] (aa rfl) rfl rfl<|aj 2 [] [(18,none)] (aA Tryz.underlying45 rfl an (by decide) rfl rfl) rfl rfl<|aj 3 [2] [(18,none)] (au an rfl rfl rfl) rfl rfl<|aj 4 [] [(18,none)] (aZ bA rfl rfl hok0.len) rfl rfl<|bV false 5 [4] [] bb rfl (.cons (.pure pu) (.nil)) (l9 (eP x l iss day ids c (aV σ c)) hok0) pu (.inl rfl) rfl rfl<|bV false 6 [0,1,3,5] [] bb rfl (.cons (.pure pu) (.cons (.pure pu) (.cons (.pure pu) (.cons (.pure pu) (.nil))))) (aB.cast (DJ x k (l.length:Nat) (cM (eP x l iss day ids c (aV σ c))) hx (by simp) hsz) (xU hsz hlt)) pu (.inl rfl) rfl rfl<|aj 7 [6] [] (aa rfl) rfl rfl<|aj 8 [7] [] (aa rfl) rfl rfl<|aj 9 [7] [] (aa rfl) rfl rfl ?_
         refine aj 10 [] [(18,none)] (aA Tryz.underlying45 rfl eU (by decide) rfl rfl) rfl rfl<|wP 0 11 [8,10] [(18,none)] rfl bb eU rfl rfl rfl rfl rfl rfl (by rw [hok0.len];decide) (show _=(eY x k l iss day ids c (aV σ c)).cells from Cx (s:=⟨(l.length:Nat),iU (fE x (l.length:Nat)) (cM (eP x l iss day ids c (aV σ c))),path (dt x k) l.length⟩) hok0) rfl<|bW (by kernel_rfl) ?_
         refine ak rfl (bZ b7 rfl rfl rfl rfl (by first|rfl|omega|(simp<;>omega)|(simp [*]<;>omega)) rfl ?_)
         refine ah<|ae<|af<|ai<|s1 (au b7 rfl rfl rfl) rfl<|s1 ((aa rfl).v (v':= .b true) (rfl)) rfl<|s1 (au b7 rfl rfl rfl) rfl ?_
         refine ak rfl (aJ false rfl (.cons (.pure pu) (.cons (.pure pu) .nil)) (fS 0) pu (.inl rfl) rfl ?_)
         refine ah<|ae<|af ?_
         refine bU ⟨_, [], []⟩ 5 4 bz (le_refl rfl) ?_
         refine aj 0 [] [] (aa rfl) rfl rfl<|na 143 false 1 [0] [] bb rfl (.cons (.pure pu) (.nil)) (z7 l hl (by omega)) ar (.inl rfl) rfl rfl<|aj 2 [] [(18,none)] (aZ bA rfl rfl hokN.len) rfl rfl<|kL 145 3 [2] bb Tryz.underlying24 bA rfl rfl rfl (by simp [aX,hokN.len]) (show aX (A.ag (eY x k l iss day ids c (aV σ c)).cells)++ []=(eY x k l iss day ids c (aV σ c)).cells from List.append_nil _) rfl rfl rfl rfl<|gV 146 4 [1,3] [(143,some 1),(145,some 3)] bb Tryz.underlying24 bA rfl (.sl rfl (by rw [kN hl])) rfl (cO rfl (by first|rfl|omega|(simp<;>omega)|(simp [*]<;>omega))) (by rw [hokN.len]) (by simp only [maxLen];omega) (by omega) rfl (AO l (eY x k l iss day ids c (aV σ c))) rfl rfl<|bW (by kernel_rfl) ?_
         refine ak rfl (bZ fw rfl rfl rfl rfl (by first|rfl|omega|(simp<;>omega)|(simp [*]<;>omega)) rfl ?_)
         refine ak rfl (bZ b7 rfl rfl rfl rfl (by first|rfl|omega|(simp<;>omega)|(simp [*]<;>omega)) rfl ?_)
         refine ah<|ae<|aF ?_
         refine jQ 14 0 rfl rfl rfl rfl ar (cD (by rw [kN (AL hl hokN),List.length_append];rfl) rfl) rfl ?_
         refine rT hdf hS jU AP rfl (dw fw rfl rfl rfl (dw b7 rfl rfl rfl aC)) ?_
         rw [qL hsz hf h0 h43 hc58 (hlb.trans hc85) hk hs];exact congrArg (fun n=>A.tu [.fz n (c4 (l++ [(eY x k l iss day ids c (aV σ c))])),.i .i64 0]) (show l.length+1=(l++ [(eY x k l iss day ids c (aV σ c))]).length by simp)
      ·skip
       refine eS ⟨[]⟩ false rfl trivial (.cons (.pure pu) (.cons (.pure pu) .nil)) (ir 351) (fun u hu=>?_)
       refine bP ?_
       refine bP ?_
       refine jR ⟨[(14,some [.nl]),(15,some [.i .i64 0])]⟩ hdf hS jU ⟨⟨rfl,a7.pure ar⟩,⟨rfl,a7.pure ar⟩,trivial⟩ (.cons (.kp rfl) (.cons (.kp rfl) .nil)) (lH _ _ 351) (hu) (ld rfl rfl ar ar) rfl (dw fw rfl rfl rfl (dw b7 rfl rfl rfl aC)) ?_
       rw [ke hsz hf h0 h43 (.inr (.inl (hlb.trans hc85)))];rfl
     ·have h69 : l = [] := List.length_eq_zero_iff.1 (by have := of_decide_eq_false hc69; omega)
      obtain⟨hlb,hld⟩:=IN (iss:=iss) (day:=day) h69
      refine aK<|ae<|af ?_
      rcases lS (cP σ (-1) c)with hcs|hcs
      ·have hk := hcs
       refine cV 18 (cs':=eZ iss (l.length:Nat) day c zD (iI l)) rfl (by rw [hld]) ?_
       refine ai<|s1 (aa rfl) rfl<|s1 (aa rfl) rfl ?_
       refine eS ⟨[(700,some [.mc b39 (mapOf σ)])]⟩ false rfl ⟨⟨rfl,a7.pure ar⟩,trivial⟩ (.cons (.pure pu) (.cons (.pure pu) .nil)) (wo (by simp only [maxLen];omega) hk) (fun u hu=>?_)
       refine bP ?_
       refine jR ⟨[(14,some [.nl]),(15,some [.i .i64 0])]⟩ hdf hS jU ⟨⟨rfl,a7.pure ar⟩,⟨rfl,a7.pure ar⟩,trivial⟩ (.cons (.kp rfl) (.cons (.kp rfl) .nil)) (lH _ _ 351) (hu.2) (ld rfl rfl ar ar) rfl (dw fw rfl rfl rfl (dw b7 rfl rfl rfl aC)) ?_
       rw [ke hsz hf h0 h43 (.inr (.inr (.inl hk)))];rfl
      ·have hk := hcs
       refine cV 18 (cs':=eZ iss (l.length:Nat) day c zD (iI l)) rfl (by rw [hld]) ?_
       refine ai<|s1 (aa rfl) rfl<|s1 (aa rfl) rfl ?_
       refine ak rfl (oN ⟨[(700,some [.mc b39 (mapOf σ)])]⟩ [(700, [.mc b39 (mapOf (aV σ c))])] false rfl ⟨⟨rfl,a7.pure ar⟩,trivial⟩ (.cons (.pure pu) (.cons (.pure pu) .nil)) (wm (by simp only [maxLen];omega) hk) pu (.inl rfl) (fun p hp=>by rw [List.mem_singleton.1 hp];exact⟨⟨_,rfl⟩,ar,.inl rfl⟩) rfl ?_)
       refine ah<|ae<|af ?_
       rcases lS (fM (aV σ c) ids)with hcs|hcs
       ·have hs := hcs
        refine ai<|s1 (aa rfl) rfl<|s1 (aa rfl) rfl ?_
        refine eS ⟨[(700,some [.mc b39 (mapOf (aV σ c))])]⟩ false rfl ⟨⟨rfl,a7.pure ar⟩,trivial⟩ (.cons (.pure pu) (.cons (.pure pu) .nil)) (DT (mC hsup (by omega) hk) (by omega) hs) (fun u hu=>?_)
        refine bP ?_
        refine jR ⟨[(14,some [.nl]),(15,some [.i .i64 0])]⟩ hdf hS jU ⟨⟨rfl,a7.pure ar⟩,⟨rfl,a7.pure ar⟩,trivial⟩ (.cons (.kp rfl) (.cons (.kp rfl) .nil)) (lH _ _ 351) (hu.2) (ld rfl rfl ar ar) rfl (dw fw rfl rfl rfl (dw b7 rfl rfl rfl aC)) ?_
        rw [ke hsz hf h0 h43 (.inr (.inr (.inr hs)))];rfl
       ·have hs := hcs
        have hlis:=DQ hs
        have hbl:=wY (aV σ c) ids
        have hgl:=w9 (aV σ c) ids
        obtain⟨hbE,hbF⟩:=zj (x:=mB x l.length) (p:=(dV (aV σ c) ids)) (q:=(fl (aV σ c) ids)) (by omega) (by omega)
        have hok0:(eP x l iss day ids c (aV σ c)).ok:=Cl hn hi hd hc hcr
        have hokN:(eY x k l iss day ids c (aV σ c)).ok:=tv hn hi hd hc hcr
        have hlt:l.length<k:=by omega
        have hNl:=hokN.len
        refine ai<|s1 (aa rfl) rfl<|s1 (aa rfl) rfl ?_
        refine ak rfl (oN ⟨[(700,some [.mc b39 (mapOf (aV σ c))])]⟩ [] false rfl ⟨⟨rfl,a7.pure ar⟩,trivial⟩ (.cons (.pure pu) (.cons (.pure pu) .nil)) (DS (mC hsup (by omega) hk) (by omega) hs) pu (.inl rfl) (fun p hp=>by cases hp) rfl ?_)
        refine s1 (aa rfl) rfl<|s1 (aa rfl) rfl<|s1 (aa rfl) rfl<|s1 (aa rfl) rfl<|s1 (aa rfl) rfl ?_
        refine ah<|ae<|af ?_
        refine fh 7 rfl rfl ar ?_
        refine bU ⟨_, [], []⟩ 8 4 bz (le_refl rfl) ?_
        refine aj 0 [] [] ((nP (ds:=((x.map u8).drop (0*1)).take (32*1)) 32 Tryz.underlying23 aQ rfl (by simp [maxLen]) bn bn (Nat.zero_le _) (Nat.le_refl _) (by simp [hx]) rfl rfl).v (vP hx)) rfl rfl<|na 100 false 1 [0] [] bb rfl (.cons (.pure pu) (.nil)) (wE x (by omega) (by omega)) ar (.inl rfl) rfl rfl<|aj 2 [] [(18,none)] (aA Tryz.underlying45 rfl an (by decide) rfl rfl) rfl rfl<|aj 3 [2] [(18,none)] (au an rfl rfl rfl) rfl rfl<|bV false 4 [3] [] bb rfl (.cons (.pure pu) (.nil)) (A9 (l.length:Nat)) pu (.inl rfl) rfl rfl<|gV 104 5 [1,4] [(100,some 1)] bb Tryz.underlying68 aQ rfl (.sl rfl (by simp)) rfl rfl (by simp) (by simp only [maxLen];omega) (by omega) rfl (List.map_append (l₁:=x) (l₂:=eF (l.length:Nat) 4)).symm rfl rfl ?_
        refine bV true 6 [5] [(104,some 5)] bb rfl (.cons (.pure pu) (.cons (.sl rfl rfl (by simp [hx]) (cD (by simp [hx]) rfl) (a7.pure ar) ar) .nil)) (aB.cast (ia uo (x++eF (l.length:Nat) 4) (by simp [hx]) (by decide)) (congrArg (fun l:List UInt8=>A.ag (l.map u8)) (xO x l.length).symm)) pu (.inr fu) rfl rfl ?_
        refine Bf 22 7 [] bb aE rfl rfl rfl<|bW (by kernel_rfl) ?_
        refine ak rfl (bo aE rfl rfl rfl (by first|rfl|omega|(simp<;>omega)|(simp [*]<;>omega)) (by first|rfl|omega|(simp<;>omega)|(simp [*]<;>omega)) ?_)
        refine ah<|ae<|af<|ai<|s1 (aZ aE rfl rfl (by simp)) rfl<|s1 (aa rfl) rfl<|s1 (aa rfl) rfl ?_
        refine ak rfl (aJ false rfl (.cons (.pure pu) (.cons (.pure pu) (.cons (.pure pu) (.nil)))) (aB.cast (zn (mB x l.length) (by simp) (dV (aV σ c) ids) (fl (aV σ c) ids) (by omega) (by omega)) (rZ (tE hlis))) pu (.inl rfl) rfl ?_)
        refine s1 (aa rfl) rfl<|s1 (aa rfl) rfl<|s1 (aa rfl) rfl ?_
        refine ak rfl (bt 23 rfl ee rfl rfl ?_)
        refine ak rfl (bo ee rfl rfl rfl (gm (c:=(jh x l.length (aV σ c) ids)) (oL _ _)) rfl ?_)
        refine ak rfl (bZ b7 rfl rfl rfl rfl (by first|rfl|omega|(simp<;>omega)|(simp [*]<;>omega)) rfl ?_)
        refine ah<|ae<|af<|ai<|s1 (au b7 rfl rfl rfl) rfl<|s1 ((aa rfl).v (v':= .b true) (rfl)) rfl<|s1 (au b7 rfl rfl rfl) rfl ?_
        refine ak rfl (aJ false rfl (.cons (.pure pu) (.cons (.pure pu) .nil)) (fS 0) pu (.inl rfl) rfl ?_)
        refine ah<|ae<|af<|ai<|s1 (aZ ee rfl rfl (gm (c:=(jh x l.length (aV σ c) ids)) (oL _ _))) rfl ?_
        refine ak rfl (aJ false rfl (.cons (.pure pu) (.nil)) (aB.cast (zq (jh x l.length (aV σ c) ids) (oL _ _) (show(jh x l.length (aV σ c) ids).E.length≤maxLen by simp only [maxLen];exact Nat.le_trans hbE (by decide))) (v7 (zM (tE hlis)))) pu (.inl rfl) rfl ?_)
        refine s1 (aa rfl) rfl<|s1 (aa rfl) rfl<|s1 (aa rfl) rfl<|s1 (aA Tryz.underlying45 rfl aE (by decide) rfl rfl) rfl ?_
        refine ak rfl (ju aE rfl rfl rfl rfl rfl (show((lE (jh x l.length (aV σ c) ids)).map u8).length=32 by simp) (by rw [xk rfl (sZ _)];decide) (Cw rfl) ?_)
        refine ak rfl (bZ b7 rfl rfl rfl rfl (by first|rfl|omega|(simp<;>omega)|(simp [*]<;>omega)) rfl ?_)
        refine ah<|ae<|af<|ai<|s1 (au b7 rfl rfl rfl) rfl<|s1 ((aa rfl).v (v':= .b true) (rfl)) rfl<|s1 (au b7 rfl rfl rfl) rfl ?_
        refine ak rfl (aJ false rfl (.cons (.pure pu) (.cons (.pure pu) .nil)) (fS 0) pu (.inl rfl) rfl ?_)
        refine ah<|ae<|af ?_
        refine iG 18 rfl Cy ?_
        refine bU ⟨_, [], []⟩ 12 4 bz (le_refl rfl) ?_
        refine aj 0 [] [] (cm aE rfl rfl (List.take_of_length_le (by simp [hx])) (by simp [hx])) rfl rfl<|aj 1 [] [] (aa rfl) rfl rfl<|aj 2 [] [(18,none)] (aA Tryz.underlying45 rfl an (by decide) rfl rfl) rfl rfl<|aj 3 [2] [(18,none)] (au an rfl rfl rfl) rfl rfl<|aj 4 [] [(18,none)] (aZ bA rfl rfl hok0.len) rfl rfl<|bV false 5 [4] [] bb rfl (.cons (.pure pu) (.nil)) (l9 (eP x l iss day ids c (aV σ c)) hok0) pu (.inl rfl) rfl rfl<|bV false 6 [0,1,3,5] [] bb rfl (.cons (.pure pu) (.cons (.pure pu) (.cons (.pure pu) (.cons (.pure pu) (.nil))))) (aB.cast (DJ x k (l.length:Nat) (cM (eP x l iss day ids c (aV σ c))) hx (by simp) hsz) (xU hsz hlt)) pu (.inl rfl) rfl rfl<|aj 7 [6] [] (aa rfl) rfl rfl<|aj 8 [7] [] (aa rfl) rfl rfl<|aj 9 [7] [] (aa rfl) rfl rfl ?_
        refine aj 10 [] [(18,none)] (aA Tryz.underlying45 rfl eU (by decide) rfl rfl) rfl rfl<|wP 0 11 [8,10] [(18,none)] rfl bb eU rfl rfl rfl rfl rfl rfl (by rw [hok0.len];decide) (show _=(eY x k l iss day ids c (aV σ c)).cells from Cx (s:=⟨(l.length:Nat),iU (fE x (l.length:Nat)) (cM (eP x l iss day ids c (aV σ c))),path (dt x k) l.length⟩) hok0) rfl<|bW (by kernel_rfl) ?_
        refine ak rfl (bZ b7 rfl rfl rfl rfl (by first|rfl|omega|(simp<;>omega)|(simp [*]<;>omega)) rfl ?_)
        refine ah<|ae<|af<|ai<|s1 (au b7 rfl rfl rfl) rfl<|s1 ((aa rfl).v (v':= .b true) (rfl)) rfl<|s1 (au b7 rfl rfl rfl) rfl ?_
        refine ak rfl (aJ false rfl (.cons (.pure pu) (.cons (.pure pu) .nil)) (fS 0) pu (.inl rfl) rfl ?_)
        refine ah<|ae<|af ?_
        refine bU ⟨_, [], []⟩ 5 4 bz (le_refl rfl) ?_
        refine aj 0 [] [] (aa rfl) rfl rfl<|na 143 false 1 [0] [] bb rfl (.cons (.pure pu) (.nil)) (z7 l hl (by omega)) ar (.inl rfl) rfl rfl<|aj 2 [] [(18,none)] (aZ bA rfl rfl hokN.len) rfl rfl<|kL 145 3 [2] bb Tryz.underlying24 bA rfl rfl rfl (by simp [aX,hokN.len]) (show aX (A.ag (eY x k l iss day ids c (aV σ c)).cells)++ []=(eY x k l iss day ids c (aV σ c)).cells from List.append_nil _) rfl rfl rfl rfl<|gV 146 4 [1,3] [(143,some 1),(145,some 3)] bb Tryz.underlying24 bA rfl (.sl rfl (by rw [kN hl])) rfl (cO rfl (by first|rfl|omega|(simp<;>omega)|(simp [*]<;>omega))) (by rw [hokN.len]) (by simp only [maxLen];omega) (by omega) rfl (AO l (eY x k l iss day ids c (aV σ c))) rfl rfl<|bW (by kernel_rfl) ?_
        refine ak rfl (bZ fw rfl rfl rfl rfl (by first|rfl|omega|(simp<;>omega)|(simp [*]<;>omega)) rfl ?_)
        refine ak rfl (bZ b7 rfl rfl rfl rfl (by first|rfl|omega|(simp<;>omega)|(simp [*]<;>omega)) rfl ?_)
        refine ah<|ae<|aF ?_
        refine jQ 14 0 rfl rfl rfl rfl ar (cD (by rw [kN (AL hl hokN),List.length_append];rfl) rfl) rfl ?_
        refine rT hdf hS jU AP rfl (dw fw rfl rfl rfl (dw b7 rfl rfl rfl aC)) ?_
        rw [qL hsz hf h0 h43 hc58 (hlb) hk hs];exact congrArg (fun n=>A.tu [.fz n (c4 (l++ [(eY x k l iss day ids c (aV σ c))])),.i .i64 0]) (show l.length+1=(l++ [(eY x k l iss day ids c (aV σ c))]).length by simp)
    ·skip
     refine eS ⟨[]⟩ false rfl trivial (.cons (.pure pu) (.cons (.pure pu) .nil)) (ir 351) (fun u hu=>?_)
     refine bP ?_
     refine jR ⟨[(14,some [.nl]),(15,some [.i .i64 0])]⟩ hdf hS jU ⟨⟨rfl,a7.pure ar⟩,⟨rfl,a7.pure ar⟩,trivial⟩ (.cons (.kp rfl) (.cons (.kp rfl) .nil)) (lH _ _ 351) (hu) (ld rfl rfl ar ar) rfl (dw fw rfl rfl rfl (dw b7 rfl rfl rfl aC)) ?_
     rw [ke hsz hf h0 h43 (.inl hc58)];rfl
   ·have h43 : (l.length : Int) = (k : Int) := by simpa using hc43
    refine eS ⟨[]⟩ false rfl trivial (.cons (.pure pu) (.cons (.pure pu) .nil)) (ir 2) (fun u hu=>?_)
    refine bP ?_
    refine jR ⟨[(14,some [.nl]),(15,some [.i .i64 0])]⟩ hdf hS jU ⟨⟨rfl,a7.pure ar⟩,⟨rfl,a7.pure ar⟩,trivial⟩ (.cons (.kp rfl) (.cons (.kp rfl) .nil)) (lH _ _ 2) (hu) (ld rfl rfl ar ar) rfl (dw fw rfl rfl rfl (dw b7 rfl rfl rfl aC)) ?_
    rw [xz hsz hf h0 h43];rfl
end Go.Abs.D2
