/-
  The engine, the plain laws and the walks that the rows need, part 15. Conditions: none.
-/
import Derived.Test.YteempkifmbclgaaGreatDoorM14
set_option linter.unusedVariables false
set_option linter.unusedSimpArgs false
set_option maxHeartbeats 1000000
set_option maxRecDepth 10000
-- D2T2
namespace Go.Abs.D2
open Go Go.Eng Go.Abs Go.Proofs
theorem Mc (L:List (List UInt8)) (i:Nat) (hD:aK L) (hi:i<L.length) (hl:L.length≤1048576) (ih:∀(M:List (List UInt8)) (i:Nat),M.length<L.length→aK M→i<M.length→aA Tryz.prog 149 [bq M,.i .i64 (i:Nat)] (dq 32 (path M i).length ((path M i).flatten.map u8))):aA Tryz.prog 149 [bq L,.i .i64 (i:Nat)] (dq 32 (path L i).length ((path L i).flatten.map u8)):=by
 refine enter Tryz.func149 rfl Tryz.ntmps149 (by kernel_rfl) (Nat.le_of_ble_eq_true rfl) fun w0 X0 hI=>?_
 refine af<|ai<|s1 (aa rfl) rfl ?_
 refine ah<|ae<|af<|af<|ai<|s1 (aa rfl) rfl<|s1 (bu Tryz.underlying41 rfl rfl rfl) rfl<|s1 (aa rfl) rfl ?_
 refine ah<|ae ?_
 refine aO rfl (fun hc8=>?_) (fun hc8=>?_)
 ·have h8 : L.length = 1 := by have := of_decide_eq_true hc8; omega
  refine af<|ai<|s1 (aa rfl) rfl ?_
  refine ah<|ae<|aE<|aH ?_
  refine yJ 99 rfl 4 32 rfl ?_
  refine aF (rs:= [.tmp 4]) rfl (aD rfl aB) ⟨99,?_,?_⟩
  ·rw [mh i (by omega)];rfl
  ·rw [mh i (by omega)];rfl
 ·have h8 : ¬ L.length = 1 := by have := of_decide_eq_false hc8; omega
  refine aL<|ae<|af<|ai<|s1 (aa rfl) rfl<|s1 (bu Tryz.underlying41 rfl rfl rfl) rfl ?_
  refine ak rfl (aI false rfl (.cons (.pure pu) (.nil)) (wx L.length (by omega) (by omega)) pu (.inl rfl) rfl ?_)
  refine s1 (aa rfl) rfl ?_
  refine ah<|ae<|af<|af<|ai<|s1 (aa rfl) rfl<|s1 (aa rfl) rfl<|s1 (aa rfl) rfl ?_
  refine ah<|ae ?_
  refine aO rfl (fun hc14=>?_) (fun hc14=>?_)
  ·have h14 : i < (aU L.length) := by have := of_decide_eq_true hc14; omega
   have hh:=fA (n:=L.length) (by omega)
   have hpl:=sJ L.length (L.take (aU L.length)) i (by rw [List.length_take];omega)
   refine af ?_
   refine bP ⟨_, [], []⟩ 11 4 bx (le_refl rfl) ?_
   refine aj 0 [] [] (aa rfl) rfl rfl<|aj 1 [] [] (aa rfl) rfl rfl<|aj 2 [0,1] [] ((ij (aU L.length) Tryz.underlying41 az rfl (by rw [List.length_map,hD.len]) bn (bs rfl rfl) (by omega) (by omega) rfl rfl).v (v':=bq (L.take (aU L.length))) (rQ hD (by omega))) rfl rfl<|aj 3 [] [] (aa rfl) rfl rfl<|mT 19 false 4 [2,3] [] aW rfl (.cons (.pure pu) (.cons (.pure pu) (.nil))) (ih (L.take (aU L.length)) i (by rw [List.length_take];omega) (hD.take _) (by rw [List.length_take];omega)) aq (.inl rfl) rfl rfl<|aj 5 [] [] (aa rfl) rfl rfl<|aj 6 [] [] (aa rfl) rfl rfl<|aj 7 [5,6] [] ((ij (L.length - (aU L.length)) Tryz.underlying41 az rfl (by rw [List.length_map,hD.len]) (bs rfl rfl) bn (by omega) (by omega) rfl rfl).v (v':=bq (L.drop (aU L.length))) (vt hD rfl)) rfl rfl<|bL false 8 [7] [] aW rfl (.cons (.pure pu) (.nil)) (oW _ (L.drop (aU L.length)) (Nat.le_refl _) (hD.drop _) (by rw [List.length_drop];omega)) pu (.inl rfl) rfl rfl<|jS 24 9 [8] aW Tryz.underlying41 az rfl rfl rfl (by first|(simp [aY];done)|(simp [aY, *];done)) (List.append_nil ((tree (L.drop (aU L.length))).map u8)) rfl rfl rfl rfl ?_
   refine fV 25 10 [4,9] [(19,some 4),(24,some 9)] aW Tryz.underlying41 az rfl (.sl rfl (by rw [List.length_map,(nH _ (L.take (aU L.length)) i (Nat.le_refl _)).len])) rfl (cE rfl (by first|rfl|omega|(simp<;>omega)|(simp [*]<;>omega)|(simp [aK.len, -List.length_flatten, *]<;>omega))) (by simp [jt]) (by simp only [maxLen];omega) (by omega) rfl rfl rfl rfl<|bQ (by kernel_rfl) ?_
   refine s1 (aa rfl) rfl ?_
   refine ah<|ae<|aE<|aH ?_
   refine aF (rs:= [.tmp 4]) rfl (aD rfl aB) ⟨25,?_,?_⟩
   ·rw [oF (by omega) h14,List.length_append];rfl
   ·rw [oF (by omega) h14]
    exact congrArg some (by simp)
  ·have h14 : ¬ i < (aU L.length) := by have := of_decide_eq_false hc14; omega
   have hh:=fA (n:=L.length) (by omega)
   have hpl:=sJ L.length (L.drop (aU L.length)) (i - (aU L.length)) (by rw [List.length_drop];omega)
   refine aL<|ae<|af ?_
   refine bP ⟨_, [], []⟩ 13 4 bx (le_refl rfl) ?_
   refine aj 0 [] [] (aa rfl) rfl rfl<|aj 1 [] [] (aa rfl) rfl rfl<|aj 2 [0,1] [] ((ij (L.length - (aU L.length)) Tryz.underlying41 az rfl (by rw [List.length_map,hD.len]) (bs rfl rfl) bn (by omega) (by omega) rfl rfl).v (v':=bq (L.drop (aU L.length))) (vt hD rfl)) rfl rfl<|aj 3 [] [] (aa rfl) rfl rfl<|aj 4 [] [] (aa rfl) rfl rfl<|aj 5 [3,4] [] (cQ i (aU L.length) rfl rfl rfl rfl (by omega) (by omega)) rfl rfl<|mT 32 false 6 [2,5] [] aW rfl (.cons (.pure pu) (.cons (.pure pu) (.nil))) (ih (L.drop (aU L.length)) (i - (aU L.length)) (by rw [List.length_drop];omega) (hD.drop _) (by rw [List.length_drop];omega)) aq (.inl rfl) rfl rfl<|aj 7 [] [] (aa rfl) rfl rfl<|aj 8 [] [] (aa rfl) rfl rfl<|aj 9 [7,8] [] ((ij (aU L.length) Tryz.underlying41 az rfl (by rw [List.length_map,hD.len]) bn (bs rfl rfl) (by omega) (by omega) rfl rfl).v (v':=bq (L.take (aU L.length))) (rQ hD (by omega))) rfl rfl ?_
   refine bL false 10 [9] [] aW rfl (.cons (.pure pu) (.nil)) (oW _ (L.take (aU L.length)) (Nat.le_refl _) (hD.take _) (by rw [List.length_take];omega)) pu (.inl rfl) rfl rfl<|jS 37 11 [10] aW Tryz.underlying41 az rfl rfl rfl (by first|(simp [aY];done)|(simp [aY, *];done)) (List.append_nil ((tree (L.take (aU L.length))).map u8)) rfl rfl rfl rfl<|fV 38 12 [6,11] [(32,some 6),(37,some 11)] aW Tryz.underlying41 az rfl (.sl rfl (by rw [List.length_map,(nH _ (L.drop (aU L.length)) (i - (aU L.length)) (Nat.le_refl _)).len])) rfl (cE rfl (by first|rfl|omega|(simp<;>omega)|(simp [*]<;>omega)|(simp [aK.len, -List.length_flatten, *]<;>omega))) (by simp [jt]) (by simp only [maxLen];omega) (by omega) rfl rfl rfl rfl<|bQ (by kernel_rfl) ?_
   refine s1 (aa rfl) rfl ?_
   refine ah<|ae<|aE ?_
   refine aF (rs:= [.tmp 4]) rfl (aD rfl aB) ⟨38,?_,?_⟩
   ·rw [oG (by omega) h14,List.length_append];rfl
   ·rw [oG (by omega) h14]
    exact congrArg some (by simp)
theorem DO:∀(n:Nat) (L:List (List UInt8)) (i:Nat),L.length≤n→aK L→i<L.length→L.length≤1048576→aA Tryz.prog 149 [bq L,.i .i64 (i:Nat)] (dq 32 (path L i).length ((path L i).flatten.map u8))
  |0,L,i,h,hD,hi,hl=>absurd hi (by omega)
  |n+1,L,i,h,hD,hi,hl=>Mc L i hD hi hl (fun M i hM hM2 hi=>DO n M i (by omega) hM2 hi (by omega))
end Go.Abs.D2
-- D2T3
namespace Go.Abs.D2
open Go Go.Eng Go.Abs Go.Proofs
theorem CE (L:List (List UInt8)) (a:Int) (hD:aK L) (hl:L.length≤1048576):aA Tryz.prog 98 [bq L,.i .i64 a] (aN (nh L a)):=by
 refine enter Tryz.func98 rfl Tryz.ntmps98 (by kernel_rfl) (Nat.le_of_ble_eq_true rfl) fun w0 X0 hI=>?_
 refine af<|ai<|s1 (aa rfl) rfl<|s1 ((aa rfl).v (v':= .i .i64 0) rfl) rfl ?_
 refine ah<|ae<|af<|af<|ai<|s1 (aa rfl) rfl<|s1 (aa rfl) rfl<|s1 (aa rfl) rfl ?_
 refine fJ 4 rfl rfl rfl rfl (fun hb8=> .step (aa rfl) rfl rfl<| .step (aa rfl) rfl rfl<| .step (bu Tryz.underlying41 rfl rfl rfl) rfl rfl<| .step (aa rfl) rfl rfl<| .done) rfl rfl ?_
 refine ah<|ae ?_
 refine aO rfl (fun hc13=>?_) (fun hc13=>?_)
 ·have h13 : ¬ (0 ≤ a ∧ a < L.length) := by simp at hc13; omega
  refine af<|ai<|s1 (aa rfl) rfl<|s1 ((aa rfl).v (v':= .i .i64 1) rfl) rfl ?_
  refine ah<|ae<|aE<|aH ?_
  refine aF (rs:= [.tmp 4,.tmp 5]) rfl (aD rfl (aD rfl aB)) ?_
  rw [nh,if_neg h13]
  rfl
 ·have h13 : 0 ≤ a ∧ a < L.length := by simp at hc13; omega
  obtain⟨i,rfl⟩:∃i:Nat,a=(i:Int):=⟨a.toNat,by omega⟩
  refine aL<|ae<|af<|ai<|s1 (aa rfl) rfl<|s1 (aa rfl) rfl ?_
  refine ak rfl (iP 16 rfl false rfl (.cons (.pure pu) (.cons (.pure pu) (.nil))) (DO _ L i (Nat.le_refl _) hD (by omega) hl) aq (.inl rfl) rfl ?_)
  refine s1 (aa rfl) rfl<|s1 ((aa rfl).v (v':= .i .i64 0) rfl) rfl ?_
  refine ah<|ae<|aE ?_
  refine gp 4 rfl rfl aq (cm (by rw [List.length_map,(nH _ L i (Nat.le_refl _)).len]) rfl) ?_
  refine aF (rs:= [.tmp 4,.tmp 5]) rfl (aD rfl (aD rfl aB)) ?_
  rw [nh,if_pos h13,Int.toNat_natCast]
  rfl
theorem Iz (i n:Nat) (h1:1≤n) (hi:i<n) (hn:n≤1099511627776) (ih:∀i m:Nat,m<n→1≤m→i<m→aA Tryz.prog 141 [.i .i64 (i:Nat),.i .i64 (m:Nat)] (aN (.i .i64 ((cI i m).length:Nat)))):aA Tryz.prog 141 [.i .i64 (i:Nat),.i .i64 (n:Nat)] (aN (.i .i64 ((cI i n).length:Nat))):=by
 refine enter Tryz.func141 rfl Tryz.ntmps141 (by kernel_rfl) (Nat.le_of_ble_eq_true rfl) fun w0 X0 hI=>?_
 refine af<|ai<|s1 ((aa rfl).v (v':= .i .i64 0) rfl) rfl ?_
 refine ah<|ae<|af<|af<|ai<|s1 (aa rfl) rfl<|s1 (aa rfl) rfl ?_
 refine ah<|ae ?_
 refine aO rfl (fun hc7=>?_) (fun hc7=>?_)
 ·have h7 : n = 1 := by have := of_decide_eq_true hc7; omega
  refine af<|ai<|s1 ((aa rfl).v (v':= .i .i64 0) rfl) rfl ?_
  refine ah<|ae<|aE<|aH ?_
  refine aF (rs:= [.tmp 4]) rfl (aD rfl aB) ?_
  exact congrArg (fun k:Nat=>A.i .i64 (k:Int)) (by rw [np (by omega)];rfl)
 ·have h7 : ¬ n = 1 := by have := of_decide_eq_false hc7; omega
  have hh:=fA (n:=n) (by omega)
  refine aL<|ae<|af<|ai<|s1 (aa rfl) rfl ?_
  refine ak rfl (aI false rfl (.cons (.pure pu) (.nil)) (CX n (by omega) hn) pu (.inl rfl) rfl ?_)
  refine s1 (aa rfl) rfl ?_
  refine ah<|ae<|af<|af<|ai<|s1 (aa rfl) rfl<|s1 (aa rfl) rfl<|s1 (aa rfl) rfl ?_
  refine ah<|ae ?_
  refine aO rfl (fun hc12=>?_) (fun hc12=>?_)
  ·have h12 : i < aU n := by have := of_decide_eq_true hc12; omega
   have hr:=nj _ i (aU n) (Nat.le_refl _)
   refine af<|ai<|s1 (aa rfl) rfl<|s1 (aa rfl) rfl ?_
   refine ak rfl (aI false rfl (.cons (.pure pu) (.cons (.pure pu) (.nil))) (ih i (aU n) (by omega) (by omega) (by omega)) pu (.inl rfl) rfl ?_)
   refine s1 (bc 1 _ rfl rfl rfl rfl (by omega)) rfl<|s1 (aa rfl) rfl ?_
   refine ah<|ae<|aE<|aH ?_
   refine aF (rs:= [.tmp 4]) rfl (aD rfl aB) ?_
   exact congrArg (fun k:Nat=>A.i .i64 (k:Int)) (by rw [ml (by omega) h12,List.length_cons];omega)
  ·have h12 : ¬ i < aU n := by have := of_decide_eq_false hc12; omega
   have hr:=nj _ (i - aU n) (n - aU n) (Nat.le_refl _)
   refine aL<|ae<|af<|ai<|s1 (aa rfl) rfl<|s1 (aa rfl) rfl<|s1 (cQ i (aU n) rfl rfl rfl rfl (by omega) (by omega)) rfl<|s1 (aa rfl) rfl<|s1 (aa rfl) rfl<|s1 (cQ n (aU n) rfl rfl rfl rfl (by omega) (by omega)) rfl ?_
   refine ak rfl (aI false rfl (.cons (.pure pu) (.cons (.pure pu) (.nil))) (ih (i - aU n) (n - aU n) (by omega) (by omega) (by omega)) pu (.inl rfl) rfl ?_)
   refine s1 (bc 1 _ rfl rfl rfl rfl (by omega)) rfl<|s1 (aa rfl) rfl ?_
   refine ah<|ae<|aE ?_
   refine aF (rs:= [.tmp 4]) rfl (aD rfl aB) ?_
   exact congrArg (fun k:Nat=>A.i .i64 (k:Int)) (by rw [mm (by omega) h12,List.length_cons];omega)
theorem BF:∀(f i n:Nat),n≤f→1≤n→i<n→n≤1099511627776→aA Tryz.prog 141 [.i .i64 (i:Nat),.i .i64 (n:Nat)] (aN (.i .i64 ((cI i n).length:Nat)))
  |0,i,n,h,h1,_,_=>absurd h1 (by omega)
  |f+1,i,n,h,h1,hi,hn=>Iz i n h1 hi hn (fun i m hm h1 hi=>BF f i m (by omega) h1 hi (by omega))
theorem F2 (d:List UInt8) (hd:d.length=32) (i n:Nat) (P:List (List UInt8)) (h1:1≤n) (hi:i<n) (hn:n≤1099511627776) (hD:aK P) (hP:P.length=(cI i n).length) (ih:∀(i m:Nat) (p:List (List UInt8)),m<n→1≤m→i<m→aK p→p.length=(cI i m).length→aA Tryz.prog 142 [.ag (d.map u8),.i .i64 (i:Nat),.i .i64 (m:Nat),bq p] (aN (.ag ((gr d i m p).map u8)))):aA Tryz.prog 142 [.ag (d.map u8),.i .i64 (i:Nat),.i .i64 (n:Nat),bq P] (aN (.ag ((gr d i n P).map u8))):=by
 refine enter Tryz.func142 rfl Tryz.ntmps142 (by kernel_rfl) (Nat.le_of_ble_eq_true rfl) fun w0 X0 hI=>?_
 refine af<|ai ?_
 refine ak rfl (bK 4 rfl rfl rfl ?_)
 refine ak rfl (bp 8 rfl az rfl rfl ?_)
 refine ah<|ae<|af<|af<|ai<|s1 (aa rfl) rfl<|s1 (aa rfl) rfl ?_
 refine ah<|ae ?_
 refine aO rfl (fun hc12=>?_) (fun hc12=>?_)
 ·have h12 : n = 1 := by have := of_decide_eq_true hc12; omega
  refine af<|ai<|s1 (fF Tryz.underlying23 aQ rfl rfl (by simp [hd]) (by simp [maxLen])) rfl ?_
  refine ak rfl (aI true rfl (.cons (.pure pu) (.cons (.sl rfl rfl (by first|rfl|omega|(simp<;>omega)|(simp [*]<;>omega)|(simp [aK.len, -List.length_flatten, *]<;>omega)) (cm (by first|rfl|omega|(simp<;>omega)|(simp [*]<;>omega)|(simp [aK.len, -List.length_flatten, *]<;>omega)) (by first|rfl|(simp;done)|(simp [*];done))) (a8.pure aq) aq) (.nil))) (by have h:=oO [108,101,97,102] d (by omega) (by simp);rw [hd]at h;exact h) pu (.inr fu) rfl ?_)
  refine ak rfl (bb az rfl rfl rfl (by simp) (by simp) ?_)
  refine ah<|ae<|aE<|aH ?_
  refine aF (rs:= [.cell 8 23]) rfl (bW az rfl rfl (List.take_of_length_le (by simp [js])) (by simp [js]) aB) ?_
  exact congrArg (fun l:List UInt8=>A.ag (l.map u8)) (by rw [zL (by omega)];rfl)
 ·have h12 : ¬ n = 1 := by have := of_decide_eq_false hc12; omega
  have hh:=fA (n:=n) (by omega)
  have hr:=nj _ i n (Nat.le_refl _)
  obtain⟨p,q,rfl⟩:=HO (P:=P) (by intro h;subst h;have:=KC (i:=i) (n:=n) (by omega);rw [←hP]at this;simp at this)
  have hDp:aK p:=fun x hx=>hD x (by simp [hx])
  have hDq:q.length=32:=hD q (by simp)
  refine aL<|ae<|af<|ai<|s1 (aa rfl) rfl ?_
  refine ak rfl (aI false rfl (.cons (.pure pu) (.nil)) (CX n (by omega) hn) pu (.inl rfl) rfl ?_)
  refine s1 (aa rfl) rfl ?_
  refine ah<|ae<|af<|ai<|s1 (aa rfl) rfl<|s1 (aa rfl) rfl<|s1 (bu Tryz.underlying41 rfl rfl rfl) rfl<|s1 ((cQ (p++ [q]).length 1 rfl rfl rfl rfl (by simp) (by rw [hP];omega)).v (v':= .i .i64 (p.length:Nat)) (congrArg (fun k:Nat=>A.i .i64 (k:Int)) (by simp))) rfl<|s1 (aT p.length Tryz.underlying41 az rfl rfl rfl (by simp) rfl) rfl<|s1 (bY az rfl rfl (A4 hD (q:=q) (by simp)) (by simp [hDq])) rfl ?_
  refine ak rfl (bp 10 rfl az rfl rfl ?_)
  refine ak rfl (bb az rfl rfl rfl (by simp [hDq]) (by simp) ?_)
  refine ah<|ae<|af<|af<|ai<|s1 (aa rfl) rfl<|s1 (aa rfl) rfl<|s1 (aa rfl) rfl ?_
  refine ah<|ae ?_
  refine aO rfl (fun hc25=>?_) (fun hc25=>?_)
  ·have h25 : i < aU n := by have := of_decide_eq_true hc25; omega
   have hp:p.length=(cI i (aU n)).length:=by rw [ml (by omega) h25]at hP;simpa using hP
   refine af ?_
   refine bP ⟨_, [], []⟩ 11 4 bx (le_refl rfl) ?_
   refine aj 0 [] [(4,none)] (aV az rfl rfl (by simp [hd])) rfl rfl<|aj 1 [] [] (aa rfl) rfl rfl<|aj 2 [] [] (aa rfl) rfl rfl<|aj 3 [] [] (aa rfl) rfl rfl<|aj 4 [] [] (aa rfl) rfl rfl<|aj 5 [4] [] (bu Tryz.underlying41 rfl rfl rfl) rfl rfl ?_
   refine aj 6 [5] [] ((cQ (p++ [q]).length 1 rfl rfl rfl rfl (by simp) (by rw [hP];omega)).v (v':= .i .i64 (p.length:Nat)) (congrArg (fun k:Nat=>A.i .i64 (k:Int)) (by simp))) rfl rfl ?_
   refine aj 7 [3,6] [] ((ij p.length Tryz.underlying41 az rfl (by rw [List.length_map,hD.len]) bn (bs rfl rfl) (by omega) (by simp) rfl rfl).v (v':=bq p) (zQ hD)) rfl rfl<|bL false 8 [0,1,2,7] [] aW rfl (.cons (.pure pu) (.cons (.pure pu) (.cons (.pure pu) (.cons (.pure pu) (.nil))))) (ih i (aU n) p (by omega) (by omega) (by omega) hDp hp) pu (.inl rfl) rfl rfl<|aj 9 [] [(10,none)] (aV az rfl rfl (by simp [hDq])) rfl rfl ?_
   refine bL false 10 [8,9] [] aW rfl (.cons (.pure pu) (.cons (.pure pu) (.nil))) (C2 (fun t b h1 h2=>oO t b (by omega) (by omega)) _ q (By _ _ _ _) hDq) pu (.inl rfl) rfl rfl ?_
   refine bQ (by kernel_rfl) ?_
   refine ak rfl (bb az rfl rfl rfl (by simp) (by simp) ?_)
   refine ah<|ae<|aE<|aH ?_
   refine aF (rs:= [.cell 8 23]) rfl (bW az rfl rfl (List.take_of_length_le (by simp [js])) (by simp [js]) aB) ?_
   exact congrArg (fun l:List UInt8=>A.ag (l.map u8)) (by rw [zJ (by omega) h25 hp];rfl)
  ·have h25 : ¬ i < aU n := by have := of_decide_eq_false hc25; omega
   have hp:p.length=(cI (i - aU n) (n - aU n)).length:=by rw [mm (by omega) h25]at hP;simpa using hP
   refine aL<|ae<|af ?_
   refine bP ⟨_, [], []⟩ 15 4 bx (le_refl rfl) ?_
   refine aj 0 [] [(10,none)] (aV az rfl rfl (by simp [hDq])) rfl rfl<|aj 1 [] [(4,none)] (aV az rfl rfl (by simp [hd])) rfl rfl<|aj 2 [] [] (aa rfl) rfl rfl<|aj 3 [] [] (aa rfl) rfl rfl<|aj 4 [2,3] [] (cQ i (aU n) rfl rfl rfl rfl (by omega) (by omega)) rfl rfl<|aj 5 [] [] (aa rfl) rfl rfl<|aj 6 [] [] (aa rfl) rfl rfl<|aj 7 [5,6] [] (cQ n (aU n) rfl rfl rfl rfl (by omega) (by omega)) rfl rfl<|aj 8 [] [] (aa rfl) rfl rfl<|aj 9 [] [] (aa rfl) rfl rfl ?_
   refine aj 10 [9] [] (bu Tryz.underlying41 rfl rfl rfl) rfl rfl ?_
   refine aj 11 [10] [] ((cQ (p++ [q]).length 1 rfl rfl rfl rfl (by simp) (by rw [hP];omega)).v (v':= .i .i64 (p.length:Nat)) (congrArg (fun k:Nat=>A.i .i64 (k:Int)) (by simp))) rfl rfl ?_
   refine aj 12 [8,11] [] ((ij p.length Tryz.underlying41 az rfl (by rw [List.length_map,hD.len]) bn (bs rfl rfl) (by omega) (by simp) rfl rfl).v (v':=bq p) (zQ hD)) rfl rfl<|bL false 13 [1,4,7,12] [] aW rfl (.cons (.pure pu) (.cons (.pure pu) (.cons (.pure pu) (.cons (.pure pu) (.nil))))) (ih (i - aU n) (n - aU n) p (by omega) (by omega) (by omega) hDp hp) pu (.inl rfl) rfl rfl ?_
   refine bL false 14 [0,13] [] aW rfl (.cons (.pure pu) (.cons (.pure pu) (.nil))) (C2 (fun t b h1 h2=>oO t b (by omega) (by omega)) q _ hDq (By _ _ _ _)) pu (.inl rfl) rfl rfl ?_
   refine bQ (by kernel_rfl) ?_
   refine ak rfl (bb az rfl rfl rfl (by simp) (by simp) ?_)
   refine ah<|ae<|aE ?_
   refine aF (rs:= [.cell 8 23]) rfl (bW az rfl rfl (List.take_of_length_le (by simp [js])) (by simp [js]) aB) ?_
   exact congrArg (fun l:List UInt8=>A.ag (l.map u8)) (by rw [zM (by omega) h25 hp];rfl)
theorem zK (d:List UInt8) (hd:d.length=32):∀(f i n:Nat) (p:List (List UInt8)),n≤f→1≤n→i<n→n≤1099511627776→aK p→p.length=(cI i n).length→aA Tryz.prog 142 [.ag (d.map u8),.i .i64 (i:Nat),.i .i64 (n:Nat),bq p] (aN (.ag ((gr d i n p).map u8)))
  |0,i,n,p,h,h1,_,_,_,_=>absurd h1 (by omega)
  |f+1,i,n,p,h,h1,hi,hn,hD,hP=>F2 d hd i n p h1 hi hn hD hP (fun i m p hm h1 hi hD hP=>zK d hd f i m p (by omega) h1 hi (by omega) hD hP)
end Go.Abs.D2
-- D2T5
namespace Go.Abs.D2
open Go Go.Eng Go.Abs Go.Proofs
theorem Kc (d:List UInt8) (_hd:d.length=32) (a nn:Int) (P:List (List UInt8)) (hc:¬(1≤nn∧nn≤1099511627776∧0≤a∧a<nn)):aA Tryz.prog 92 [.ag (d.map u8),.i .i64 a,.i .i64 nn,bq P] (aN (jh d a nn P)):=by
 refine enter Tryz.func92 rfl Tryz.ntmps92 (by kernel_rfl) (Nat.le_of_ble_eq_true rfl) fun w0 X0 hI=>?_
 refine af<|ai ?_
 refine ak rfl (bK 4 rfl rfl rfl ?_)
 refine ak rfl (bp 8 rfl az rfl rfl ?_)
 refine s1 ((aa rfl).v (v':= .i .i64 0) rfl) rfl ?_
 refine ah<|ae<|af<|af<|ai<|s1 (aa rfl) rfl<|s1 (aa rfl) rfl<|s1 (aa rfl) rfl ?_
 refine fJ 2 rfl rfl rfl rfl (fun hb12=> .step (aa rfl) rfl rfl<| .step (aa rfl) rfl rfl<| .done) rfl rfl ?_
 refine s1 (aa rfl) rfl ?_
 refine fJ 2 rfl rfl rfl rfl (fun hb16=> .step (aa rfl) rfl rfl<| .step (aa rfl) rfl rfl<| .done) rfl rfl ?_
 refine s1 (aa rfl) rfl ?_
 refine fJ 3 rfl rfl rfl rfl (fun hb20=> .step (aa rfl) rfl rfl<| .step (aa rfl) rfl rfl<| .step (aa rfl) rfl rfl<| .done) rfl rfl ?_
 refine k9 24 rfl (v':= .b true) (congrArg A.b (by simp;omega)) ?_
 refine s1 (aa rfl) rfl<|g0 rfl rfl rfl rfl<|g0 rfl rfl rfl rfl<|g0 rfl rfl rfl rfl<|g0 rfl rfl rfl rfl<|g0 rfl rfl rfl rfl<|g0 rfl rfl rfl rfl<|s1 (aa rfl) rfl ?_
 refine ah<|ae ?_
 refine bR rfl ?_
 refine af<|ai<|s1 ((nC az rfl Tryz.underlying23 aQ rfl).v (v':= .ag ((List.replicate 32 (0:UInt8)).map u8)) (by kernel_rfl)) rfl ?_
 refine ak rfl (bb az rfl rfl rfl (by simp) (by simp) ?_)
 refine s1 ((aa rfl).v (v':= .i .i64 1) rfl) rfl ?_
 refine ah<|ae<|aE<|aH ?_
 have hbad:¬fits a nn P.length:=fun h=>hc ⟨h.1,h.2.1,h.2.2.1,h.2.2.2.1⟩
 refine aF (rs:= [.cell 8 23,.tmp 9]) rfl (bW az rfl rfl (List.take_of_length_le (by simp)) (by simp) (aD rfl aB)) ?_
 rw [jh,if_neg hbad]
 rfl
theorem Ke (d:List UInt8) (hd:d.length=32) (i n:Nat) (P:List (List UInt8)) (hD:aK P) (h1:1≤n) (hn:n≤1099511627776) (hi:i<n):aA Tryz.prog 92 [.ag (d.map u8),.i .i64 (i:Nat),.i .i64 (n:Nat),bq P] (aN (jh d (i:Int) (n:Int) P)):=by
 refine enter Tryz.func92 rfl Tryz.ntmps92 (by kernel_rfl) (Nat.le_of_ble_eq_true rfl) fun w0 X0 hI=>?_
 refine af<|ai ?_
 refine ak rfl (bK 4 rfl rfl rfl ?_)
 refine ak rfl (bp 8 rfl az rfl rfl ?_)
 refine s1 ((aa rfl).v (v':= .i .i64 0) rfl) rfl ?_
 refine ah<|ae<|af<|af<|ai<|s1 (aa rfl) rfl<|s1 (aa rfl) rfl<|s1 (aa rfl) rfl ?_
 refine fJ 2 rfl rfl rfl rfl (fun hb12=> .step (aa rfl) rfl rfl<| .step (aa rfl) rfl rfl<| .done) rfl rfl ?_
 refine s1 (aa rfl) rfl ?_
 refine fJ 2 rfl rfl rfl rfl (fun hb16=> .step (aa rfl) rfl rfl<| .step (aa rfl) rfl rfl<| .done) rfl rfl ?_
 refine s1 (aa rfl) rfl ?_
 refine fJ 3 rfl rfl rfl rfl (fun hb20=> .step (aa rfl) rfl rfl<| .step (aa rfl) rfl rfl<| .step (aa rfl) rfl rfl<| .done) rfl rfl ?_
 refine k9 24 rfl (v':= .b false) (congrArg A.b (by simp;omega)) ?_
 refine s1 (aa rfl) rfl<|g1 rfl rfl (aa rfl) rfl<|g1 rfl rfl (bu Tryz.underlying41 rfl rfl rfl) rfl<|g1 rfl rfl (aa rfl) rfl<|g1 rfl rfl (aa rfl) rfl ?_
 refine jN rfl rfl rfl (aI false rfl (.cons (.pure pu) (.cons (.pure pu) (.nil))) (BF _ i n (Nat.le_refl _) h1 hi hn) pu (.inl rfl) rfl ?_)
 refine g1 rfl rfl (aa rfl) rfl<|s1 (aa rfl) rfl ?_
 refine ah<|ae ?_
 refine aO rfl (fun hc32=>?_) (fun hc32=>?_)
 ·have hbad : ¬ fits (i : Int) (n : Int) P.length := by
   intro h
   have h5:=h.2.2.2.2
   rw [Int.toNat_natCast,Int.toNat_natCast]at h5
   have:=bne_iff_ne.1 hc32
   omega
  refine af<|ai<|s1 ((nC az rfl Tryz.underlying23 aQ rfl).v (v':= .ag ((List.replicate 32 (0:UInt8)).map u8)) (by kernel_rfl)) rfl ?_
  refine ak rfl (bb az rfl rfl rfl (by simp) (by simp) ?_)
  refine s1 ((aa rfl).v (v':= .i .i64 1) rfl) rfl ?_
  refine ah<|ae<|aE<|aH ?_
  refine aF (rs:= [.cell 8 23,.tmp 9]) rfl (bW az rfl rfl (List.take_of_length_le (by simp)) (by simp) (aD rfl aB)) ?_
  rw [jh,if_neg hbad]
  rfl
 ·have hP : P.length = (cI i n).length := by have := bne_eq_false_iff_eq.1 hc32; omega
  have hfit:fits (i:Int) (n:Int) P.length:=⟨by omega,by omega,by omega,by omega,by rw [Int.toNat_natCast,Int.toNat_natCast];exact hP⟩
  refine aL<|ae<|af<|ai<|s1 (aV az rfl rfl (by simp [hd])) rfl<|s1 (aa rfl) rfl<|s1 (aa rfl) rfl<|s1 (aa rfl) rfl ?_
  refine ak rfl (aI false rfl (.cons (.pure pu) (.cons (.pure pu) (.cons (.pure pu) (.cons (.pure pu) (.nil))))) (zK d hd _ i n P (Nat.le_refl _) h1 hi hn hD hP) pu (.inl rfl) rfl ?_)
  refine ak rfl (bb az rfl rfl rfl (by simp) (by simp) ?_)
  refine s1 ((aa rfl).v (v':= .i .i64 0) rfl) rfl ?_
  refine ah<|ae<|aE ?_
  refine aF (rs:= [.cell 8 23,.tmp 9]) rfl (bW az rfl rfl (List.take_of_length_le (by simp)) (by simp) (aD rfl aB)) ?_
  rw [jh,if_pos hfit,Int.toNat_natCast,Int.toNat_natCast]
  rfl
theorem Kb (d:List UInt8) (hd:d.length=32) (a nn:Int) (P:List (List UInt8)) (hD:aK P):aA Tryz.prog 92 [.ag (d.map u8),.i .i64 a,.i .i64 nn,bq P] (aN (jh d a nn P)):=by
  by_cases h:1≤nn∧nn≤1099511627776∧0≤a∧a<nn
  · obtain ⟨i, rfl⟩ : ∃ i : Nat, a = (i : Int) := ⟨a.toNat, by omega⟩
    obtain⟨n,rfl⟩:∃n:Nat,nn=(n:Int):=⟨nn.toNat,by omega⟩
    exact Ke d hd i n P hD (by omega) (by omega) (by omega)
  · exact Kc d hd a nn P h
end Go.Abs.D2
-- D2T4
namespace Go.Abs.D2
open Go Go.Eng Go.Abs Go.Proofs
theorem F0 (d:List UInt8) (hd:d.length=32) (a nn:Int) (P:List (List UInt8)) (hD:aK P):aA Tryz.prog 132 [.ag (d.map u8),.i .i64 a,.i .i64 nn,bq P] (aN (jh d a nn P)):=by
 refine enter Tryz.func132 rfl Tryz.ntmps132 (by kernel_rfl) (Nat.le_of_ble_eq_true rfl) fun w0 X0 hI=>?_
 refine af<|ai ?_
 refine ak rfl (bK 4 rfl rfl rfl ?_)
 refine ak rfl (bp 8 rfl az rfl rfl ?_)
 refine s1 ((aa rfl).v (v':= .i .i64 0) rfl) rfl ?_
 refine ah<|ae<|af<|af<|ai<|s1 (aa rfl) rfl<|s1 (aa rfl) rfl<|s1 (aa rfl) rfl ?_
 refine fJ 2 rfl rfl rfl rfl (fun hb16=> .step (aa rfl) rfl rfl<| .step (aa rfl) rfl rfl<| .done) rfl rfl ?_
 refine s1 (aa rfl) rfl ?_
 refine fJ 2 rfl rfl rfl rfl (fun hb20=> .step (aa rfl) rfl rfl<| .step (aa rfl) rfl rfl<| .done) rfl rfl ?_
 refine s1 (aa rfl) rfl ?_
 refine fJ 3 rfl rfl rfl rfl (fun hb24=> .step (aa rfl) rfl rfl<| .step (aa rfl) rfl rfl<| .step (aa rfl) rfl rfl<| .done) rfl rfl ?_
 refine ah<|ae ?_
 refine aO rfl (fun hc28=>?_) (fun hc28=>?_)
 ·have hbad : ¬ fits a nn P.length := by intro h; unfold fits at h; simp at hc28; omega
  refine af<|ai<|s1 (aV az rfl rfl (by simp)) rfl ?_
  refine ak rfl (bb az rfl rfl rfl (by simp) (by simp) ?_)
  refine s1 ((aa rfl).v (v':= .i .i64 1) rfl) rfl ?_
  refine ah<|ae<|aE<|aH ?_
  refine aF (rs:= [.cell 8 23,.tmp 9]) rfl (bW az rfl rfl (List.take_of_length_le (by simp)) (by simp) (aD rfl aB)) ?_
  rw [jh,if_neg hbad]
  rfl
 ·have h28 : 1 ≤ nn ∧ nn ≤ 1099511627776 ∧ 0 ≤ a ∧ a < nn := by simp at hc28; omega
  obtain⟨i,rfl⟩:∃i:Nat,a=(i:Int):=⟨a.toNat,by omega⟩
  obtain⟨n,rfl⟩:∃n:Nat,nn=(n:Int):=⟨nn.toNat,by omega⟩
  have hn1:1≤n:=by omega
  have hn:n≤1099511627776:=by omega
  have hi:i<n:=by omega
  refine aL<|ae<|af<|ai<|s1 (aa rfl) rfl ?_
  refine ah<|ae<|af<|aM ?_
  refine bF (ι:=List Bool×Nat×Nat) (fun⟨ds,i2,n2⟩=> [(1,.i .i64 (i2:Nat)),(2,.i .i64 (n2:Nat)),(3,bq P),(4,.p 4 0),(8,.p 8 0),(10,.sl 10 1 0 ds.length)]) (fun⟨ds,i2,n2⟩=>⟨[(4,some (d.map u8)),(8,some (List.replicate 32 (u8 0))),(10,some (ds.map A.b))]⟩) (fun⟨ds,i2,n2⟩=>cI i n=ds++cI i2 n2∧1≤n2∧i2<n2∧n2≤n∧ds.length+(cI i2 n2).length≤n) (fun⟨ds,i2,n2⟩=>n2) ?_ ?_
  ·exact bE (([],i,n)) (⟨rfl,hn1,hi,Nat.le_refl _,by have:=nj _ i n (Nat.le_refl _);simpa using this⟩) [(4,some 4),(8,some 8),(10,none)] hI rfl rfl ⟨⟨_,rfl,.pure pu⟩,⟨_,rfl,.pure pu⟩,⟨_,rfl,.pure pu⟩,⟨_,rfl,.p rfl⟩,⟨_,rfl,.p rfl⟩,⟨_,rfl,.nl rfl⟩,trivial⟩ ⟨.inr ⟨_,_,rfl,rfl,.pure aq⟩,.inr ⟨_,_,rfl,rfl,.pure aq⟩,.inl ⟨rfl,rfl⟩,trivial⟩
  rintro⟨ds,i2,n2⟩ ⟨hr,h1,hi2,hn2,hlen⟩
  dsimp only
  refine af<|af<|ai<|s1 (aa rfl) rfl<|s1 (aa rfl) rfl ?_
  refine ah<|ae ?_
  refine aO rfl (fun hc31=>?_) (fun hc31=>?_)
  ·have h31 : 2 ≤ n2 := by have := of_decide_eq_true hc31; omega
   have hh:=fA h31
   refine aL<|ae<|aM<|af<|ai<|s1 (aa rfl) rfl ?_
   refine ak rfl (aI false rfl (.cons (.pure pu) (.nil)) (wx n2 (by omega) (by omega)) pu (.inl rfl) rfl ?_)
   refine s1 (aa rfl) rfl ?_
   refine ah<|ae<|af<|ai<|s1 (aa rfl) rfl<|s1 (aa rfl) rfl<|s1 (aa rfl) rfl<|s1 (aa rfl) rfl ?_
   refine ak rfl (dG 38 rfl Tryz.underlying205 ud rfl rfl rfl rfl rfl ?_)
   refine ak rfl (cT 39 rfl Tryz.underlying205 ud rfl (.sl rfl (by simp)) rfl (cE rfl (by first|rfl|omega|(simp<;>omega)|(simp [*]<;>omega)|(simp [aK.len, -List.length_flatten, *]<;>omega))) (by first|rfl|omega|(simp<;>omega)|(simp [*]<;>omega)|(simp [aK.len, -List.length_flatten, *]<;>omega)) (by simp only [maxLen];omega) (by omega) rfl rfl rfl ?_)
   refine s1 (aa rfl) rfl ?_
   refine ah<|ae<|af<|ai<|s1 (aa rfl) rfl<|s1 (aa rfl) rfl<|s1 (aa rfl) rfl ?_
   refine ah<|ae ?_
   refine aO rfl (fun hc42=>?_) (fun hc42=>?_)
   ·have h42 : (i2 : Int) ≥ (aU n2) := of_decide_eq_true hc42
    have h42n:¬i2<(aU n2):=by omega
    refine ai<|s1 (aa rfl) rfl<|s1 (aa rfl) rfl<|s1 (cQ i2 (aU n2) rfl rfl rfl rfl (by omega) (by omega)) rfl<|s1 (aa rfl) rfl<|s1 (aa rfl) rfl<|s1 (cQ n2 (aU n2) rfl rfl rfl rfl (by omega) (by omega)) rfl<|s1 (aa rfl) rfl<|s1 (aa rfl) rfl ?_
    refine ah<|bh ?_
    exact br (x:=(ds,i2,n2)) ((ds++ [true],i2 - (aU n2),n2 - (aU n2))) (⟨by rw [hr,mm (by omega) h42n];simp,by dsimp only;omega,by dsimp only;omega,by dsimp only;omega,by rw [mm (by omega) h42n,List.length_cons]at hlen;dsimp only;rw [List.length_append];simp;omega⟩) (by dsimp only;omega) [(4,some 4),(8,some 8),(10,some 39)] hI rfl rfl ⟨⟨_,rfl,.pure pu⟩,⟨_,rfl,.pure pu⟩,⟨_,rfl,.pure pu⟩,⟨_,rfl,.p rfl⟩,⟨_,rfl,.p rfl⟩,⟨_,rfl,.sl rfl (by first|rfl|omega|(simp<;>omega)|(simp [*]<;>omega)|(simp [aK.len, -List.length_flatten, *]<;>omega))⟩,trivial⟩ ⟨.inr ⟨_,_,rfl,rfl,.pure aq⟩,.inr ⟨_,_,rfl,rfl,.pure aq⟩,.inr ⟨_,_,rfl,rfl,.of (by simp [h42]) (.pure aq)⟩,trivial⟩
   ·have h42 : ¬ (i2 : Int) ≥ (aU n2) := of_decide_eq_false hc42
    have h42n:i2<(aU n2):=by omega
    refine ai<|s1 (aa rfl) rfl<|s1 (aa rfl) rfl ?_
    refine ah<|bh ?_
    exact br (x:=(ds,i2,n2)) ((ds++ [false],i2,(aU n2))) (⟨by rw [hr,ml (by omega) h42n];simp,by dsimp only;omega,by dsimp only;omega,by dsimp only;omega,by rw [ml (by omega) h42n,List.length_cons]at hlen;dsimp only;rw [List.length_append];simp;omega⟩) (by dsimp only;omega) [(4,some 4),(8,some 8),(10,some 39)] hI rfl rfl ⟨⟨_,rfl,.pure pu⟩,⟨_,rfl,.pure pu⟩,⟨_,rfl,.pure pu⟩,⟨_,rfl,.p rfl⟩,⟨_,rfl,.p rfl⟩,⟨_,rfl,.sl rfl (by first|rfl|omega|(simp<;>omega)|(simp [*]<;>omega)|(simp [aK.len, -List.length_flatten, *]<;>omega))⟩,trivial⟩ ⟨.inr ⟨_,_,rfl,rfl,.pure aq⟩,.inr ⟨_,_,rfl,rfl,.pure aq⟩,.inr ⟨_,_,rfl,rfl,.of (by simp [h42]) (.pure aq)⟩,trivial⟩
  ·have h31 : n2 = 1 := by have := of_decide_eq_false hc31; omega
   subst h31
   rw [np (Nat.le_refl _),List.append_nil]at hr
   subst hr
   refine bC<|aP<|aP<|bD<|ae<|af<|af<|ai<|s1 (aa rfl) rfl<|s1 (bu Tryz.underlying41 rfl rfl rfl) rfl<|s1 (aa rfl) rfl<|s1 (bu Tryz.underlying205 rfl rfl rfl) rfl<|s1 (aa rfl) rfl ?_
   refine ah<|ae ?_
   refine aO rfl (fun hc54=>?_) (fun hc54=>?_)
   ·have hbad : ¬ fits (i : Int) (n : Int) P.length := by
     intro h
     unfold fits at h
     have h5:=h.2.2.2.2
     rw [Int.toNat_natCast,Int.toNat_natCast]at h5
     have:=bne_iff_ne.1 hc54
     omega
    refine af<|ai<|s1 (aV az rfl rfl (by simp)) rfl ?_
    refine ak rfl (bb az rfl rfl rfl (by simp) (by simp) ?_)
    refine s1 ((aa rfl).v (v':= .i .i64 1) rfl) rfl ?_
    refine ah<|ae<|aE<|aH ?_
    refine aF (rs:= [.cell 8 23,.tmp 9]) rfl (bW az rfl rfl (List.take_of_length_le (by simp)) (by simp) (aD rfl aB)) ?_
    rw [jh,if_neg hbad]
    rfl
   ·have hP : P.length = (cI i n).length := by have := bne_eq_false_iff_eq.1 hc54; omega
    have hfit:fits (i:Int) (n:Int) P.length:=⟨by omega,by omega,by omega,by omega,by rw [Int.toNat_natCast,Int.toNat_natCast];exact hP⟩
    refine aL<|ae<|af<|ai<|s1 (fF Tryz.underlying23 aQ rfl rfl (by simp [hd]) (by simp [maxLen])) rfl ?_
    refine ak rfl (aI true rfl (.cons (.pure pu) (.cons (.sl rfl rfl (by first|rfl|omega|(simp<;>omega)|(simp [*]<;>omega)|(simp [aK.len, -List.length_flatten, *]<;>omega)) (cm (by first|rfl|omega|(simp<;>omega)|(simp [*]<;>omega)|(simp [aK.len, -List.length_flatten, *]<;>omega)) (by first|rfl|(simp;done)|(simp [*];done))) (a8.pure aq) aq) (.nil))) (by have h:=g9 [108,101,97,102] d (by omega) (by simp);rw [hd]at h;exact h) pu (.inr fu) rfl ?_)
    refine ak rfl (bb az rfl rfl rfl (by simp) (by simp) ?_)
    refine ah<|ae<|af<|af<|ai<|s1 (aa rfl) rfl<|s1 (bu Tryz.underlying41 rfl rfl rfl) rfl<|s1 ((aa rfl).v (v':= .i .i64 0) rfl) rfl ?_
    refine ah<|ae<|aM ?_
    refine bF (ι:=Nat) (fun j=> [(8,.p 8 0),(10,.sl 10 1 0 (cI i n).length),(58,bq P),(59,.i .i64 (P.length:Nat)),(60,.i .i64 (j:Nat))]) (fun j=>⟨[(8,some ((fold ((cI i n).reverse.take j) (P.take j) (p9 d)).map u8)),(10,some ((cI i n).map A.b))]⟩) (fun j=>j≤P.length) (fun j=>P.length - j) ?_ ?_
    ·exact bE (0) (Nat.zero_le _) [(8,some 8),(10,some 10)] hI rfl rfl ⟨⟨_,rfl,.p rfl⟩,⟨_,rfl,.sl rfl (by first|rfl|omega|(simp<;>omega)|(simp [*]<;>omega)|(simp [aK.len, -List.length_flatten, *]<;>omega))⟩,⟨_,rfl,.pure pu⟩,⟨_,rfl,.pure pu⟩,⟨_,rfl,.pure pu⟩,trivial⟩ ⟨.inr ⟨_,_,rfl,rfl,.of (by rw [List.take_zero];rfl) (.pure aq)⟩,.inr ⟨_,_,rfl,rfl,.pure aq⟩,trivial⟩
    rintro j hj
    have hlf:(fold ((cI i n).reverse.take j) (P.take j) (p9 d)).length=32:=wI _ _ _ (js _ _)
    have hrl:=nj _ i n (Nat.le_refl _)
    refine af<|ai<|s1 (aa rfl) rfl ?_
    refine ah<|ae<|af ?_
    refine aO rfl (fun hc61=>?_) (fun hc61=>?_)
    ·have hj2 : j < P.length := by have := of_decide_eq_true hc61; omega
     obtain⟨q,hq⟩:∃q,P[j]? =some q:=⟨_,List.getElem?_eq_getElem hj2⟩
     have hq32:q.length=32:=hD q (List.mem_of_getElem? hq)
     obtain⟨b,hb⟩:∃b,(cI i n).reverse[j]? =some b:=⟨_,List.getElem?_eq_getElem (by simp;omega)⟩
     have hb2:(cI i n)[(cI i n).length - 1 - j]? =some b:=by rw [List.getElem?_reverse (by omega)]at hb;exact hb
     refine aL<|ae<|af<|aM<|af<|ai<|s1 (aa rfl) rfl<|s1 (aT j Tryz.underlying41 az rfl rfl rfl (by omega) rfl) rfl<|s1 (bY az rfl rfl (A4 hD hq) (by simp [hq32])) rfl ?_
     refine ak rfl (bp 13 rfl az rfl rfl ?_)
     refine s1 (aa rfl) rfl ?_
     refine ak rfl (bb az rfl rfl rfl (by simp [hq32]) (by simp) ?_)
     refine ah<|ae<|af<|ai<|s1 (aa rfl) rfl<|s1 (aa rfl) rfl<|s1 (bu Tryz.underlying205 rfl rfl rfl) rfl<|s1 (cQ (cI i n).length 1 rfl rfl rfl rfl (by omega) (by omega)) rfl<|s1 (aa rfl) rfl<|s1 (cQ ((cI i n).length - 1) j rfl rfl rfl rfl (by omega) (by omega)) rfl<|s1 (lN ((cI i n).length - 1 - j) Tryz.underlying205 ud rfl rfl rfl rfl (by omega) rfl) rfl<|s1 (au ud rfl rfl (HB hb2)) rfl ?_
     refine ah<|ae ?_
     refine aO rfl (fun hc72=>?_) (fun hc72=>?_)
     ·skip
      refine ai<|s1 (aV az rfl rfl (by simp [hq32])) rfl<|s1 (aV az rfl rfl (by simp [hlf])) rfl ?_
      refine ak rfl (aI false rfl (.cons (.pure pu) (.cons (.pure pu) (.nil))) (wS (fun t b h1 h2=>g9 t b (by omega) (by omega)) q _ hq32 hlf) pu (.inl rfl) rfl ?_)
      refine ak rfl (bb az rfl rfl rfl (by simp) (by simp [hlf]) ?_)
      refine ah<|bh<|ae<|ai<|s1 (bc _ 1 rfl rfl rfl rfl (by omega)) rfl<|s1 (aa rfl) rfl ?_
      refine ah ?_
      exact br (j+1) (by omega) (by omega) [(8,some 8),(10,some 10)] hI rfl rfl ⟨⟨_,rfl,.p rfl⟩,⟨_,rfl,.sl rfl (by first|rfl|omega|(simp<;>omega)|(simp [*]<;>omega)|(simp [aK.len, -List.length_flatten, *]<;>omega))⟩,⟨_,rfl,.pure pu⟩,⟨_,rfl,.pure pu⟩,⟨_,rfl,.pure pu⟩,trivial⟩ ⟨.inr ⟨_,_,rfl,rfl,.of (by rw [AR hb hq,if_pos hc72];rfl) (.pure aq)⟩,.inr ⟨_,_,rfl,rfl,.pure aq⟩,trivial⟩
     ·skip
      refine ai<|s1 (aV az rfl rfl (by simp [hlf])) rfl<|s1 (aV az rfl rfl (by simp [hq32])) rfl ?_
      refine ak rfl (aI false rfl (.cons (.pure pu) (.cons (.pure pu) (.nil))) (wS (fun t b h1 h2=>g9 t b (by omega) (by omega)) _ q hlf hq32) pu (.inl rfl) rfl ?_)
      refine ak rfl (bb az rfl rfl rfl (by simp) (by simp [hlf]) ?_)
      refine ah<|bh<|ae<|ai<|s1 (bc _ 1 rfl rfl rfl rfl (by omega)) rfl<|s1 (aa rfl) rfl ?_
      refine ah ?_
      exact br (j+1) (by omega) (by omega) [(8,some 8),(10,some 10)] hI rfl rfl ⟨⟨_,rfl,.p rfl⟩,⟨_,rfl,.sl rfl (by first|rfl|omega|(simp<;>omega)|(simp [*]<;>omega)|(simp [aK.len, -List.length_flatten, *]<;>omega))⟩,⟨_,rfl,.pure pu⟩,⟨_,rfl,.pure pu⟩,⟨_,rfl,.pure pu⟩,trivial⟩ ⟨.inr ⟨_,_,rfl,rfl,.of (by rw [AR hb hq,if_neg (by rw [hc72];decide)];rfl) (.pure aq)⟩,.inr ⟨_,_,rfl,rfl,.pure aq⟩,trivial⟩
    ·have hj2 : j = P.length := by have := of_decide_eq_false hc61; omega
     subst hj2
     have hct:fold ((cI i n).reverse.take P.length) (P.take P.length) (p9 d)=gr d i n P:=by rw [List.take_length,List.take_of_length_le (by simp;omega)];rfl
     refine bC<|aP<|aP<|bD<|ae<|af ?_
     refine cX 8 rfl (cs':=(gr d i n P).map u8) (by rw [hct]) ?_
     refine ai<|s1 (aV az rfl rfl (by simp)) rfl ?_
     refine ak rfl (bb az rfl rfl rfl (by simp) (by simp) ?_)
     refine s1 ((aa rfl).v (v':= .i .i64 0) rfl) rfl ?_
     refine ah<|ae<|aE ?_
     refine aF (rs:= [.cell 8 23,.tmp 9]) rfl (bW az rfl rfl (List.take_of_length_le (by simp)) (by simp) (aD rfl aB)) ?_
     rw [jh,if_pos hfit,Int.toNat_natCast,Int.toNat_natCast]
     rfl
end Go.Abs.D2
-- K6B
namespace Go.Abs.D2
open Go Go.Eng Go.Abs Go.Proofs
theorem L4 (x:List UInt8) (a:Int) (hx:x.length=32):aA Tryz.prog 50 [.s [108,101,97,102],.fz 36 ((x++eF a 4).map u8)] (aN (.ag ((fD x a).map u8))):=by
  have e2:(x++eF a 4).length=36:=by simp [hx]
  rw [Dj, ←e2];exact g9 _ _ (by omega) (by simp)
theorem Dk (x:List UInt8) (a:Int) (hx:x.length=32):aA Tryz.prog 89 [.ag (x.map u8),.i .i64 a] (aN (.ag ((fD x a).map u8))):=by
 refine enter Tryz.func89 rfl Tryz.ntmps89 (by kernel_rfl) (Nat.le_of_ble_eq_true rfl) fun w0 X0 hI=>?_
 refine af<|ai ?_
 refine ak rfl (bK 2 rfl rfl rfl ?_)
 refine ak rfl (bp 4 rfl az rfl rfl ?_)
 refine ah<|ae<|af<|ai ?_
 refine ak rfl (bp 5 rfl Ma rfl rfl ?_)
 refine ah<|ae<|af ?_
 refine dN 2 bx (by kernel_rfl) ?_
 refine t1 (fF Tryz.underlying175 aQ rfl rfl (by simp) (by simp [maxLen])) rfl<|t1 (fF Tryz.underlying23 aQ rfl rfl (by simp [hx]) (by simp [maxLen])) rfl ?_
 refine dO ?_
 refine ak rfl (IV Tryz.underlying68 aQ rfl rfl rfl (cE rfl (by simp [hx])) (by first|rfl|omega|(simp<;>omega)|(simp [*]<;>omega)) (by first|omega|(simp only [maxLen];omega)|(simp [maxLen];done)|(simp [maxLen];omega)|(simp [maxLen, *];omega)) (by first|omega|(simp only [maxLen];omega)|(simp [maxLen];done)|(simp [maxLen];omega)|(simp [maxLen, *];omega)) (by first|omega|(simp only [maxLen];omega)|(simp [maxLen];done)|(simp [maxLen];omega)|(simp [maxLen, *];omega)) (F9 (a:=a)) rfl ?_)
 refine ah<|ae<|af<|af<|ai<|s1 ((aa rfl).v (v':= .i .i64 0) rfl) rfl ?_
 refine ah<|ae<|aM ?_
 refine bF (ι:=Nat) (fun i=> [(1,.i .i64 a),(4,.p 4 0),(5,.p 5 0),(10,.i .i64 (i:Nat))]) (fun i=>⟨[(4,some (zD.map u8)),(5,some ((x++eF a i++List.replicate (4 - i) 0).map u8))]⟩) (fun i=>i≤4) (fun i=>4 - i) ?_ ?_
 ·exact bE (0) (Nat.zero_le _) [(4,some 4),(5,some 5)] hI rfl rfl ⟨⟨_,rfl,.pure pu⟩,⟨_,rfl,.p rfl⟩,⟨_,rfl,.p rfl⟩,⟨_,rfl,.pure pu⟩,trivial⟩ ⟨.inr ⟨_,_,rfl,rfl,.pure aq⟩,.inr ⟨_,_,rfl,rfl,.pure aq⟩,trivial⟩
 rintro i hi
 refine af<|ai<|s1 (aa rfl) rfl ?_
 refine ah<|ae<|af ?_
 refine aO rfl (fun hc11=>?_) (fun hc11=>?_)
 ·have h11 : i < 4 := by have := of_decide_eq_true hc11; omega
  refine aL<|ae<|af<|aM<|af<|ai<|s1 (aa rfl) rfl<|s1 (aa rfl) rfl ?_
  refine ah<|ae<|ai<|s1 (aa rfl) rfl<|s1 (bc 32 i rfl rfl rfl rfl (by omega)) rfl<|s1 (aa rfl) rfl<|s1 (aa rfl) rfl<|s1 (gv 8 i rfl rfl rfl rfl (by omega)) rfl<|s1 (cQ 24 (8*i) rfl rfl rfl rfl (by omega) (by omega)) rfl<|s1 (kY rfl rfl (by omega)) rfl<|s1 ((cV Tryz.underlying3 Tryz.underlying5 rfl).v (tO a i h11)) rfl<|s1 (bI (32+i) Tryz.underlying175 aQ rfl rfl rfl (by omega) rfl) rfl ?_
  refine ak rfl (bZ aQ rfl rfl rfl rfl (by simp [hx];omega) (Lp hx a i h11) ?_)
  refine ah<|bh<|ae<|ai<|s1 (bc _ 1 rfl rfl rfl rfl (by omega)) rfl<|s1 (aa rfl) rfl ?_
  refine ah ?_
  exact br (i+1) (by omega) (by omega) [(4,some 4),(5,some 5)] hI rfl rfl ⟨⟨_,rfl,.pure pu⟩,⟨_,rfl,.p rfl⟩,⟨_,rfl,.p rfl⟩,⟨_,rfl,.pure pu⟩,trivial⟩ ⟨.inr ⟨_,_,rfl,rfl,.pure aq⟩,.inr ⟨_,_,rfl,rfl,.of (by rfl) (.pure aq)⟩,trivial⟩
 ·have h11 : i = 4 := by have := of_decide_eq_false hc11; omega
  subst h11
  refine bC<|aP<|aP<|bD<|ae<|af<|ai<|s1 (fF Tryz.underlying175 aQ rfl rfl (by simp [hx]) (by simp [maxLen])) rfl ?_
  refine ak rfl (aI true rfl (.cons (.pure pu) (.cons (.sl rfl rfl rfl (cm (by simp [hx]) (by simp)) (a8.pure aq) aq) .nil)) (L4 x a hx) pu (.inr fu) rfl ?_)
  refine ak rfl (bb az rfl rfl rfl (by first|rfl|omega|(simp<;>omega)|(simp [*]<;>omega)) (by first|rfl|omega|(simp<;>omega)|(simp [*]<;>omega)) ?_)
  refine ah<|ae<|aE ?_
  refine aF (rs:= [.cell 4 23]) rfl (bW az rfl rfl (List.take_of_length_le (by simp)) (by simp) aB) rfl
theorem J2 (x:List UInt8) (n:Nat):aA Tryz.prog 94 [.ag (x.map u8),nI n] (aN (.fn (.func 144) [] [.fp [nI n],.fp (x.map u8)])):=by
 refine enter Tryz.func94 rfl Tryz.ntmps94 (by kernel_rfl) (Nat.le_of_ble_eq_true rfl) fun w0 X0 hI=>?_
 refine af<|ai ?_
 refine ak rfl (bK 2 rfl rfl rfl ?_)
 refine ak rfl (kG 3 rfl rfl rfl rfl ?_)
 refine s1 (aa rfl) rfl ?_
 refine ah<|ae<|af ?_
 refine fh 2 rfl rfl aq ?_
 refine fh 3 rfl rfl aq ?_
 refine ai<|s1 (gA (us:= []) (vs:= [.fp [nI n],.fp (x.map u8)]) rfl rfl) rfl<|s1 (aa rfl) rfl ?_
 refine ah<|ae<|aE ?_
 refine aF (rs:= [.tmp 4]) rfl (aD rfl aB) rfl
theorem EP (x:List UInt8) (n:Nat) (hx:x.length=32) (hn:n≤256):aA Tryz.prog 143 [.nl,.fn (.func 144) [] [.fp [nI n],.fp (x.map u8)]] (dq 32 n ((dw x n).flatten.map u8)):=by
 refine nZ Tryz.func143 rfl Tryz.ntmps143 (by kernel_rfl) (Nat.le_of_ble_eq_true rfl) fun w0 X0 hI hS=>?_
 refine af<|ai ?_
 refine ak rfl (kG 2 rfl rfl rfl rfl ?_)
 refine s1 (aa rfl) rfl ?_
 refine ah<|ae<|af<|af<|ai<|s1 (aa rfl) rfl ?_
 refine ah<|ae<|aM ?_
 refine uZ [2] [(0,_),(1,_),(2,_),(4,_),(6,_)] hI rfl ⟨rfl,⟨rfl,⟨rfl,⟨rfl,⟨rfl,trivial⟩⟩⟩⟩⟩ (by first|rfl|(simp [jx,jA,refs,eu,mj,refs_pu,cw];done)) rfl Tryz.func144 rfl Tryz.ntmps144 (by kernel_rfl) (Nat.le_of_ble_eq_true rfl) fun w1 l1 D1 rc1 hR1=>?_
 refine af<|ai<|s1 (au an rfl rfl rfl) rfl<|s1 ((aa rfl).v (v':= .i .i64 0) rfl) rfl ?_
 refine ah<|ae<|aM ?_
 refine bF (ι:=Nat) (fun i=> [(0,yv l1),(1,.fp [nI n]),(2,.fp (x.map u8)),(5,nI n),(6,nI i)]) (fun i=>⟨[(2,some ([.sl 11 32 0 i])),(11,some ((dw x i).flatten.map u8))]⟩) (fun i=>i≤n) (fun i=>n - i) ?_ ?_
 ·exact bE (0) (Nat.zero_le _) [(2,some 2),(11,none)] hR1.sub.ids rfl rfl ⟨⟨_,rfl,.pure trivial⟩,⟨_,rfl,.pure pu⟩,⟨_,rfl,.pure pu⟩,⟨_,rfl,.pure pu⟩,⟨_,rfl,.pure pu⟩,trivial⟩ ⟨.inr ⟨_,_,rfl,rfl,.cons (.nl rfl) .nil⟩,.inl ⟨rfl,rfl⟩,trivial⟩
 rintro i hi
 have hfl:=(mE x i).len
 rw [len_kpubs]at hfl
 refine af<|ai<|s1 (aa rfl) rfl ?_
 refine ah<|ae<|af ?_
 refine aO rfl (fun hc7=>?_) (fun hc7=>?_)
 ·have h7 : i < n := by have := of_decide_eq_true hc7; omega
  refine aL<|ae<|af<|aM<|af<|ai<|s1 (aa rfl) rfl<|s1 (aa rfl) rfl ?_
  refine ah<|ae<|af<|ai<|s1 (aa rfl) rfl<|s1 (bY az rfl rfl (List.take_of_length_le (by simp [hx])) (by simp [hx])) rfl<|s1 (aa rfl) rfl ?_
  refine ak rfl (aI false rfl (.cons (.pure pu) (.cons (.pure pu) (.nil))) (Dk x (i:Nat) hx) pu (.inl rfl) rfl ?_)
  refine ak rfl (aI false rfl (.cons (.pure pu) (.nil)) (J1 (fD x (i:Nat)) (by simp)) pu (.inl rfl) rfl ?_)
  refine rD [2] [(0,_),(1,_),(2,_),(4,_),(5,_),(6,_),(7,_),(8,_),(9,_),(10,_),(11,_),(12,_),(13,_)] hR1 hR1.sub.ids rfl ⟨rfl,⟨rfl,⟨rfl,⟨rfl,⟨rfl,⟨rfl,⟨rfl,⟨rfl,⟨rfl,⟨rfl,⟨rfl,⟨rfl,⟨rfl,trivial⟩⟩⟩⟩⟩⟩⟩⟩⟩⟩⟩⟩⟩ (by first|rfl|(simp [jx,jA,refs,eu,mj,refs_pu,cw];done)) rfl rfl rfl rfl rfl fun w2 tm2 hd2=>?_
  refine ai ?_
  refine ak rfl (bp 5 rfl az rfl rfl ?_)
  refine ak rfl (bb az rfl rfl rfl (by first|rfl|omega|(simp<;>omega)|(simp [*]<;>omega)) (by first|rfl|omega|(simp<;>omega)|(simp [*]<;>omega)) ?_)
  refine ah ?_
  refine rz hd2 fun w3 hd3=>?_
  refine aM<|ai<|s1 (au ib rfl rfl rfl) rfl<|s1 (aV az rfl rfl (by first|rfl|omega|(simp<;>omega)|(simp [*]<;>omega))) rfl ?_
  refine ak rfl (fY 10 rfl Tryz.underlying41 az rfl rfl rfl (by first|(simp [aY];done)|(simp [aY, *];done)) (List.append_nil ((mi (fD x (i:Nat))).map u8)) rfl rfl rfl ?_)
  refine ak rfl (cT 111 rfl Tryz.underlying41 az rfl (.sl rfl (by rw [List.length_map];exact hfl)) rfl (cE rfl (by first|rfl|omega|(simp<;>omega)|(simp [*]<;>omega))) (by simp) (by simp only [maxLen];omega) (by omega) rfl rfl rfl ?_)
  refine ak rfl (bZ ib rfl rfl rfl rfl (by first|rfl|omega|(simp<;>omega)|(simp [*]<;>omega)) rfl ?_)
  refine ah<|bh ?_
  refine rB hR1 hd3 rfl ?_
  refine s1 (aa rfl) rfl ?_
  refine ah<|ae ?_
  refine cF rfl ?_
  refine aL<|bh<|ae<|ai<|s1 (bc _ 1 rfl rfl rfl rfl (by omega)) rfl<|s1 (aa rfl) rfl ?_
  refine ah ?_
  exact br (i+1) (by omega) (by omega) [(2,some 2),(11,some 111)] hR1.sub.ids rfl rfl ⟨⟨_,rfl,.pure trivial⟩,⟨_,rfl,.pure pu⟩,⟨_,rfl,.pure pu⟩,⟨_,rfl,.pure pu⟩,⟨_,rfl,.pure pu⟩,trivial⟩ ⟨.inr ⟨_,_,rfl,rfl,.cons (.sl rfl (by first|rfl|omega|(simp<;>omega)|(simp [*]<;>omega))) .nil⟩,.inr ⟨_,_,rfl,rfl,.of (HZ x i) (.pure aq)⟩,trivial⟩
 ·have h7 : i = n := by have := of_decide_eq_false hc7; omega
  subst h7
  refine bC<|aP<|aP<|bD ?_
  refine uY rfl hR1 hS ?_
  refine bh<|ae<|af<|ai<|s1 (au ib rfl rfl rfl) rfl<|s1 (aa rfl) rfl ?_
  refine ah<|ae<|aE ?_
  refine px (rs:= [.tmp 4]) rfl rfl rfl hS (dn:= [D1]) rfl rfl (by simp) rfl (aD rfl aB) ⟨11,rfl,rfl⟩
theorem F4 (x:List UInt8) (n:Nat) (hx:x.length=32) (hn:n≤256):aA Tryz.prog 93 [.fn (.func 144) [] [.fp [nI n],.fp (x.map u8)]] (aN (bq (dw x n))):=by
 refine enter Tryz.func93 rfl Tryz.ntmps93 (by kernel_rfl) (Nat.le_of_ble_eq_true rfl) fun w0 X0 hI=>?_
 refine af<|ai<|s1 (aa rfl) rfl ?_
 refine ah<|ae<|af<|ai<|s1 (aa rfl) rfl ?_
 refine ak rfl (iP 4 rfl false rfl (.cons (.pure pu) (.cons (.pure pu) .nil)) (EP x n hx hn) aq (.inl rfl) rfl ?_)
 refine s1 (aa rfl) rfl ?_
 refine ah<|ae<|aE ?_
 refine gp 2 rfl rfl aq (cm (by rw [List.length_map,(mE x n).len,len_kpubs]) rfl) ?_
 refine aF (rs:= [.tmp 2]) rfl (aD rfl aB) ?_
 exact congrArg (fun z=>A.fz z _) (len_kpubs x n).symm
theorem tz (x:List UInt8) (n:Int) (hx:x.length=32):aA Tryz.prog 44 [.ag (x.map u8),.i .i64 n] (aN (if cn n then .tu [bq (dw x n.toNat),.i .i64 0]else .tu [.nl,.i .i64 60])):=by
 refine enter Tryz.func44 rfl Tryz.ntmps44 (by kernel_rfl) (Nat.le_of_ble_eq_true rfl) fun w0 X0 hI=>?_
 refine af<|ai ?_
 refine ak rfl (bK 2 rfl rfl rfl ?_)
 refine s1 (aa rfl) rfl<|s1 ((aa rfl).v (v':= .i .i64 0) rfl) rfl ?_
 refine ah<|ae<|af<|af<|ai<|s1 (aa rfl) rfl<|s1 (aa rfl) rfl<|s1 (aa rfl) rfl ?_
 refine fJ 2 rfl rfl rfl rfl (fun hb8=> .step (aa rfl) rfl rfl<| .step (aa rfl) rfl rfl<| .done) rfl rfl ?_
 refine ah<|ae ?_
 refine aO rfl (fun hc11=>?_) (fun hc11=>?_)
 ·have hcs : ¬ cn n := by intro h; unfold cn at h; simp at hc11; omega
  refine af<|ai<|s1 (aa rfl) rfl<|s1 ((aa rfl).v (v':= .i .i64 60) rfl) rfl ?_
  refine ah<|ae<|aE<|aH ?_
  refine aF (rs:= [.tmp 4,.tmp 5]) rfl (aD rfl (aD rfl aB)) ?_
  exact(if_neg hcs).symm
 ·have hcs : cn n := by unfold cn; simp at hc11; omega
  have hsz:=hcs
  obtain⟨k,rfl,h1,h2⟩:=tP hcs
  refine aL<|ae<|af<|ai<|s1 (aV az rfl rfl (by first|rfl|omega|(simp<;>omega)|(simp [*]<;>omega))) rfl<|s1 (aa rfl) rfl ?_
  refine ak rfl (aI false rfl (.cons (.pure pu) (.cons (.pure pu) (.nil))) (J2 x k) pu (.inl rfl) rfl ?_)
  refine ak rfl (aI false rfl (.cons (.pure pu) (.nil)) (F4 x k hx h2) pu (.inl rfl) rfl ?_)
  refine s1 (aa rfl) rfl<|s1 ((aa rfl).v (v':= .i .i64 0) rfl) rfl ?_
  refine ah<|ae<|aE ?_
  refine aF (rs:= [.tmp 4,.tmp 5]) rfl (aD rfl (aD rfl aB)) ?_
  exact(if_pos hsz).symm
theorem KL (x:List UInt8) (n:Int) (hx:x.length=32):aA Tryz.prog 27 [.ag (x.map u8),.i .i64 n] (aN (rootA x n)):=by
 refine enter Tryz.func27 rfl Tryz.ntmps27 (by kernel_rfl) (Nat.le_of_ble_eq_true rfl) fun w0 X0 hI=>?_
 refine af<|ai ?_
 refine ak rfl (bK 2 rfl rfl rfl ?_)
 refine ak rfl (bp 4 rfl az rfl rfl ?_)
 refine s1 ((aa rfl).v (v':= .i .i64 0) rfl) rfl ?_
 refine ah<|ae<|af ?_
 rcases(Decidable.em (cn n)).symm with hcs|hcs
 ·skip
  refine ai<|s1 (aV az rfl rfl (by first|rfl|omega|(simp<;>omega)|(simp [*]<;>omega))) rfl<|s1 (aa rfl) rfl ?_
  refine ak rfl (aI false rfl (.cons (.pure pu) (.cons (.pure pu) (.nil))) (aA.cast (tz x n hx) (if_neg hcs)) pu (.inl rfl) rfl ?_)
  refine s1 (aa rfl) rfl<|s1 (aa rfl) rfl<|s1 (aa rfl) rfl<|s1 (aa rfl) rfl<|s1 (aa rfl) rfl ?_
  refine ah<|ae<|af<|af<|ai<|s1 (aa rfl) rfl<|s1 ((aa rfl).v (v':= .b true) (rfl)) rfl ?_
  refine ah<|ae ?_
  refine bR rfl ?_
  refine af<|ai<|s1 (aV az rfl rfl (by first|rfl|omega|(simp<;>omega)|(simp [*]<;>omega))) rfl<|s1 (aa rfl) rfl ?_
  refine ak rfl (bb az rfl rfl rfl (by first|rfl|omega|(simp<;>omega)|(simp [*]<;>omega)) (by first|rfl|omega|(simp<;>omega)|(simp [*]<;>omega)) ?_)
  refine s1 (aa rfl) rfl ?_
  refine ah<|ae<|aE<|aH ?_
  refine aF (rs:= [.cell 4 23,.tmp 5]) rfl (bW az rfl rfl (List.take_of_length_le (by simp)) (by simp) (aD rfl aB)) ?_
  exact(KI hcs).symm
 ·have hsz := hcs
  obtain⟨k,rfl,h1,h2⟩:=tP hcs
  refine ai<|s1 (aV az rfl rfl (by first|rfl|omega|(simp<;>omega)|(simp [*]<;>omega))) rfl<|s1 (aa rfl) rfl ?_
  refine ak rfl (aI false rfl (.cons (.pure pu) (.cons (.pure pu) (.nil))) (aA.cast (tz x k hx) (if_pos hsz)) pu (.inl rfl) rfl ?_)
  refine s1 (aa rfl) rfl<|s1 (aa rfl) rfl<|s1 (aa rfl) rfl<|s1 (aa rfl) rfl<|s1 (aa rfl) rfl ?_
  refine ah<|ae<|af<|af<|ai<|s1 (aa rfl) rfl<|s1 ((aa rfl).v (v':= .b false) (rfl)) rfl ?_
  refine ah<|ae ?_
  refine cF rfl ?_
  refine aL<|ae<|af<|ai<|s1 (aa rfl) rfl ?_
  refine ak rfl (aI false rfl (.cons (.pure pu) (.nil)) (oW _ (dw x k) (Nat.le_refl _) (mE x k) (by simp;omega)) pu (.inl rfl) rfl ?_)
  refine ak rfl (bb az rfl rfl rfl (by first|rfl|omega|(simp<;>omega)|(simp [*]<;>omega)) (by first|rfl|omega|(simp<;>omega)|(simp [*]<;>omega)) ?_)
  refine s1 ((aa rfl).v (v':= .i .i64 0) rfl) rfl ?_
  refine ah<|ae<|aE ?_
  refine aF (rs:= [.cell 4 23,.tmp 5]) rfl (bW az rfl rfl (List.take_of_length_le (by simp)) (by simp) (aD rfl aB)) ?_
  exact(KJ hsz).symm
theorem C5 (n:Int):aA Tryz.prog 90 [.i .i64 n] (aN (.b (decide (cn n)))):=by
 refine enter Tryz.func90 rfl Tryz.ntmps90 (by kernel_rfl) (Nat.le_of_ble_eq_true rfl) fun w0 X0 hI=>?_
 refine af<|ai<|s1 (aa rfl) rfl ?_
 refine ah<|ae<|af<|ai<|s1 (aa rfl) rfl<|s1 (aa rfl) rfl<|s1 (aa rfl) rfl ?_
 refine dC 2 rfl rfl rfl rfl (fun hb5=> .step (aa rfl) rfl rfl<| .step (aa rfl) rfl rfl<| .done) rfl rfl ?_
 refine s1 (aa rfl) rfl ?_
 refine ah<|ae<|aE ?_
 refine aF (rs:= [.tmp 2]) rfl (aD rfl aB) ?_
 exact congrArg A.b (by rw [Bool.eq_iff_iff,decide_eq_true_eq];simp [cn])
end Go.Abs.D2
-- C5E
namespace Go.Abs.D2
open Go Go.Eng Go.Abs Go.Proofs
theorem K2 (x:List UInt8) (hx:x.length=32):aA Tryz.prog 71 [.s [115,116,101,112],.fz 32 (x.map u8)] (aN (.ag ((mr x).map u8))):=by
  rw [xG];simpa [hx]using oO [115,116,101,112] x (by omega) (by simp)
theorem K1 (L:List (List UInt8)) (hD:aK L) (hl:L.length=19):aA Tryz.prog 71 [.s [112,117,98,108,105,99],.fz (L.length*32) (L.flatten.map u8)] (aN (.ag ((jX L).map u8))):=by
  rw [wC, ←hD.len];exact oO [112,117,98,108,105,99] L.flatten (by rw [hD.len,hl];omega) (by simp)
theorem KY (x:List UInt8) (hx:x.length=32):aA Tryz.prog 185 [.ag (x.map u8)] (aN (.ag ((mr x).map u8))):=by
 refine enter Tryz.func185 rfl Tryz.ntmps185 (by kernel_rfl) (Nat.le_of_ble_eq_true rfl) fun w0 X0 hI=>?_
 refine af<|ai ?_
 refine ak rfl (bK 1 rfl rfl rfl ?_)
 refine ak rfl (bp 2 rfl az rfl rfl ?_)
 refine ah<|ae<|af<|ai<|s1 (fF Tryz.underlying23 aQ rfl rfl (by first|rfl|omega|(simp<;>omega)|(simp [*]<;>omega)) (by simp [maxLen])) rfl ?_
 refine ak rfl (aI true rfl (.cons (.pure pu) (.cons (.sl rfl rfl (by first|rfl|omega|(simp<;>omega)|(simp [*]<;>omega)) (cm (by first|rfl|omega|(simp<;>omega)|(simp [*]<;>omega)) (by first|rfl|(simp;done)|(simp [*];done))) (a8.pure aq) aq) (.nil))) (K2 x hx) pu (.inr fu) rfl ?_)
 refine ak rfl (bb az rfl rfl rfl (by first|rfl|omega|(simp<;>omega)|(simp [*]<;>omega)) (by first|rfl|omega|(simp<;>omega)|(simp [*]<;>omega)) ?_)
 refine ah<|ae<|aE ?_
 refine aF (rs:= [.cell 2 23]) rfl (bW az rfl rfl (List.take_of_length_le (by simp)) (by simp) aB) rfl
theorem KZ (x:List UInt8) (n:Nat) (hx:x.length=32) (hn:n≤1000):aA Tryz.prog 139 [.ag (x.map u8),nI n] (aN (.ag ((ep n x).map u8))):=by
 refine enter Tryz.func139 rfl Tryz.ntmps139 (by kernel_rfl) (Nat.le_of_ble_eq_true rfl) fun w0 X0 hI=>?_
 refine af<|ai ?_
 refine ak rfl (bK 2 rfl rfl rfl ?_)
 refine ak rfl (bp 4 rfl az rfl rfl ?_)
 refine ah<|ae<|af<|af<|ai<|s1 ((aa rfl).v (v':= .i .i64 0) rfl) rfl ?_
 refine ah<|ae<|aM ?_
 refine bF (ι:=Nat) (fun k=> [(1,nI n),(2,.p 2 0),(4,.p 4 0),(5,nI k)]) (fun k=>⟨[(2,some ((ep k x).map u8)),(4,some (List.replicate 32 (u8 0)))]⟩) (fun k=>k≤n) (fun k=>n - k) ?_ ?_
 ·exact bE (0) (Nat.zero_le _) [(2,some 2),(4,some 4)] hI rfl rfl ⟨⟨_,rfl,.pure pu⟩,⟨_,rfl,.p rfl⟩,⟨_,rfl,.p rfl⟩,⟨_,rfl,.pure pu⟩,trivial⟩ ⟨.inr ⟨_,_,rfl,rfl,.pure aq⟩,.inr ⟨_,_,rfl,rfl,.pure aq⟩,trivial⟩
 rintro k hk
 have hxk:=jr hx k
 refine af<|af<|ai<|s1 (aa rfl) rfl<|s1 (aa rfl) rfl<|s1 (aa rfl) rfl ?_
 refine ah<|ae ?_
 refine aO rfl (fun hc8=>?_) (fun hc8=>?_)
 ·have h8 : k < n := by have := of_decide_eq_true hc8; omega
  refine aL<|ae<|af<|aM<|ai<|s1 (aV az rfl rfl (by first|rfl|omega|(simp<;>omega)|(simp [*]<;>omega))) rfl ?_
  refine ak rfl (aI false rfl (.cons (.pure pu) (.nil)) (KY (ep k x) hxk) pu (.inl rfl) rfl ?_)
  refine ak rfl (bb az rfl rfl rfl (by first|rfl|omega|(simp<;>omega)|(simp [*]<;>omega)) (by first|rfl|omega|(simp<;>omega)|(simp [*]<;>omega)) ?_)
  refine ah<|bh<|ae<|ai<|s1 (aa rfl) rfl<|s1 (bc _ 1 rfl rfl rfl rfl (by omega)) rfl<|s1 (aa rfl) rfl ?_
  refine ah ?_
  exact br (k+1) (by omega) (by omega) [(2,some 2),(4,some 4)] hI rfl rfl ⟨⟨_,rfl,.pure pu⟩,⟨_,rfl,.p rfl⟩,⟨_,rfl,.p rfl⟩,⟨_,rfl,.pure pu⟩,trivial⟩ ⟨.inr ⟨_,_,rfl,rfl,.of (by rfl) (.pure aq)⟩,.inr ⟨_,_,rfl,rfl,.pure aq⟩,trivial⟩
 ·have h8 : k = n := by have := of_decide_eq_false hc8; omega
  subst h8
  refine bC<|aP<|aP<|bD<|ae<|af<|ai<|s1 (aV az rfl rfl (by first|rfl|omega|(simp<;>omega)|(simp [*]<;>omega))) rfl ?_
  refine ak rfl (bb az rfl rfl rfl (by first|rfl|omega|(simp<;>omega)|(simp [*]<;>omega)) (by first|rfl|omega|(simp<;>omega)|(simp [*]<;>omega)) ?_)
  refine ah<|ae<|aE ?_
  refine aF (rs:= [.cell 4 23]) rfl (bW az rfl rfl (List.take_of_length_le (by simp [hxk])) (by simp [hxk]) aB) rfl
theorem KE (L:List (List UInt8)) (hD:aK L) (hl:L.length=19):aA Tryz.prog 140 [bq L] (aN (.ag ((jX L).map u8))):=by
 refine enter Tryz.func140 rfl Tryz.ntmps140 (by kernel_rfl) (Nat.le_of_ble_eq_true rfl) fun w0 X0 hI=>?_
 refine af<|ai ?_
 refine ak rfl (bp 2 rfl az rfl rfl ?_)
 refine ah<|ae<|af<|ai ?_
 refine ak rfl (dG 5 rfl Tryz.underlying68 aQ rfl rfl rfl rfl rfl ?_)
 refine s1 (aa rfl) rfl ?_
 refine ah<|ae<|af<|af<|ai<|s1 ((aa rfl).v (v':= .i .i64 0) rfl) rfl ?_
 refine ah<|ae<|aM ?_
 refine bF (ι:=Nat) (fun i=> [(0,bq L),(2,.p 2 0),(3,.sl 5 1 0 (i*32)),(4,nI i)]) (fun i=>⟨[(2,some (List.replicate 32 (u8 0))),(5,some ((L.take i).flatten.map u8))]⟩) (fun i=>i≤L.length) (fun i=>L.length - i) ?_ ?_
 ·exact bE (0) (Nat.zero_le _) [(2,some 2),(5,some 5)] hI rfl rfl ⟨⟨_,rfl,.pure pu⟩,⟨_,rfl,.p rfl⟩,⟨_,rfl,.sl rfl (by first|rfl|omega|(simp<;>omega)|(simp [*]<;>omega))⟩,⟨_,rfl,.pure pu⟩,trivial⟩ ⟨.inr ⟨_,_,rfl,rfl,.pure aq⟩,.inr ⟨_,_,rfl,rfl,.of (by rfl) (.pure aq)⟩,trivial⟩
 rintro i hi
 have hDi:=hD.take i
 refine af<|af<|ai<|s1 (aa rfl) rfl<|s1 (aa rfl) rfl<|s1 (bu Tryz.underlying41 rfl rfl rfl) rfl<|s1 (aa rfl) rfl ?_
 refine ah<|ae ?_
 refine aO rfl (fun hc9=>?_) (fun hc9=>?_)
 ·have h9 : i < L.length := by have := of_decide_eq_true hc9; omega
  obtain⟨q,hq⟩:∃q,L[i]? =some q:=⟨_,List.getElem?_eq_getElem h9⟩
  have hq32:=hD q (List.mem_of_getElem? hq)
  refine aL<|ae<|af<|aM<|ai<|s1 (aa rfl) rfl<|s1 (aa rfl) rfl<|s1 (aa rfl) rfl<|s1 (aT i Tryz.underlying41 az rfl rfl rfl (by omega) rfl) rfl<|s1 ((mB 32 Tryz.underlying23 aQ rfl (by simp [maxLen]) bn bn (Nat.zero_le _) (Nat.le_refl _) (by simp) rfl rfl).v (v':= .fz 32 (q.map u8)) (congrArg (A.fz 32) (Gc hD hq))) rfl ?_
  refine ak rfl (cT 17 rfl Tryz.underlying68 aQ rfl (.sl rfl (by rw [List.length_map,hDi.len,List.length_take];omega)) rfl rfl (by simp [hq32]) (by simp only [maxLen];omega) (by omega) rfl rfl rfl ?_)
  refine s1 (aa rfl) rfl ?_
  refine ah<|bh<|ae<|ai<|s1 (aa rfl) rfl<|s1 (bc _ 1 rfl rfl rfl rfl (by omega)) rfl<|s1 (aa rfl) rfl ?_
  refine ah ?_
  exact br (i+1) (by omega) (by omega) [(2,some 2),(5,some 17)] hI rfl rfl ⟨⟨_,rfl,.pure pu⟩,⟨_,rfl,.p rfl⟩,⟨_,rfl,.sl rfl (by first|rfl|omega|(simp<;>omega)|(simp [*]<;>omega))⟩,⟨_,rfl,.pure pu⟩,trivial⟩ ⟨.inr ⟨_,_,rfl,rfl,.pure aq⟩,.inr ⟨_,_,rfl,rfl,.of (by rw [←List.map_append,xM hq]) (.pure aq)⟩,trivial⟩
 ·have h9 : i = L.length := by have := of_decide_eq_false hc9; omega
  subst h9
  refine cX 5 rfl (congrArg (fun l:List (List UInt8)=>l.flatten.map u8) List.take_length) ?_
  refine bC<|aP<|aP<|bD<|ae<|af<|ai<|s1 (aa rfl) rfl ?_
  refine ak rfl (aI true rfl (.cons (.pure pu) (.cons (.sl rfl rfl rfl (cm (by rw [List.length_map,hD.len,Nat.mul_one]) rfl) (a8.pure aq) aq) .nil)) (K1 L hD hl) pu (.inr fu) rfl ?_)
  refine ak rfl (bb az rfl rfl rfl (by first|rfl|omega|(simp<;>omega)|(simp [*]<;>omega)) (by first|rfl|omega|(simp<;>omega)|(simp [*]<;>omega)) ?_)
  refine ah<|ae<|aE ?_
  refine aF (rs:= [.cell 2 23]) rfl (bW az rfl rfl (List.take_of_length_le (by simp)) (by simp) aB) rfl
theorem KD (L:List (List UInt8)) (hD:aK L) (hl:L.length=19):aA Tryz.prog 140 [.fz 19 (L.flatten.map u8)] (aN (.ag ((jX L).map u8))):=by
  have:=KE L hD hl
  rwa [bq,hl]at this
theorem Kj (m:List UInt8) (hm:m.length=32):aA Tryz.prog 138 [.ag (m.map u8)] (aN (.fz 19 ((digits m).map nI))):=by
 refine enter Tryz.func138 rfl Tryz.ntmps138 (by kernel_rfl) (Nat.le_of_ble_eq_true rfl) fun w0 X0 hI=>?_
 refine af<|ai ?_
 refine ak rfl (bK 1 rfl rfl rfl ?_)
 refine s1 (aa rfl) rfl ?_
 refine ah<|ae<|af<|ai ?_
 refine ak rfl (dG 9 rfl Tryz.underlying30 an rfl rfl rfl rfl rfl ?_)
 refine s1 (aa rfl) rfl ?_
 refine ah<|ae<|af<|ai<|s1 ((aa rfl).v (v':= .i .i64 0) rfl) rfl ?_
 refine ah<|ae<|af<|af<|ai<|s1 ((aa rfl).v (v':= .i .i64 0) rfl) rfl ?_
 refine ah<|ae<|aM ?_
 refine bF (ι:=Nat) (fun i=> [(1,.p 1 0),(3,.sl 9 1 0 (4*i)),(4,nI (c4 m (4*i))),(5,nI i)]) (fun i=>⟨[(1,some (m.map u8)),(9,some ((dl m (4*i)).map nI))]⟩) (fun i=>i≤4) (fun i=>4 - i) ?_ ?_
 ·exact bE (0) (Nat.zero_le _) [(1,some 1),(9,some 9)] hI rfl rfl ⟨⟨_,rfl,.p rfl⟩,⟨_,rfl,.sl rfl (by first|rfl|omega|(simp<;>omega)|(simp [*]<;>omega))⟩,⟨_,rfl,.of (by rw [Nat.mul_zero,xI];rfl) (.pure pu)⟩,⟨_,rfl,.pure pu⟩,trivial⟩ ⟨.inr ⟨_,_,rfl,rfl,.pure aq⟩,.inr ⟨_,_,rfl,rfl,.of (by rw [Nat.mul_zero,z6];rfl) (.pure aq)⟩,trivial⟩
 rintro i hi
 have hsi:=nv m (4*i)
 refine af<|af<|ai<|s1 (aa rfl) rfl<|s1 (aa rfl) rfl ?_
 refine ah<|ae ?_
 refine aO rfl (fun hc11=>?_) (fun hc11=>?_)
 ·have h11 : i < 4 := by have := of_decide_eq_true hc11; omega
  have hb8:=(m.getD i 0).toNat_lt
  refine aL<|ae<|af<|aM<|af<|ai<|s1 (aa rfl) rfl<|s1 (bI i Tryz.underlying23 aQ rfl rfl rfl (by omega) rfl) rfl<|s1 (au aQ rfl rfl (A2 i (by omega))) rfl<|s1 ((cV Tryz.underlying5 Tryz.underlying3 rfl).v (F7 _)) rfl<|s1 (aa rfl) rfl ?_
  refine ah<|ae<|af<|ai<|s1 ((aa rfl).v (v':= .i .i64 0) rfl) rfl ?_
  refine ah<|ae<|aM ?_
  refine bF (ι:=Nat) (fun k=> [(1,.p 1 0),(3,.sl 9 1 0 (4*i+k)),(4,nI (c4 m (4*i+k))),(5,nI i),(6,nI (nk (m.getD i 0).toNat k)),(7,nI k)]) (fun k=>⟨[(1,some (m.map u8)),(9,some ((dl m (4*i+k)).map nI))]⟩) (fun k=>k≤4) (fun k=>4 - k) ?_ ?_
  ·exact bE (0) (Nat.zero_le _) [(1,some 1),(9,some 9)] hI rfl rfl ⟨⟨_,rfl,.p rfl⟩,⟨_,rfl,.sl rfl (by first|rfl|omega|(simp<;>omega)|(simp [*]<;>omega))⟩,⟨_,rfl,.pure pu⟩,⟨_,rfl,.pure pu⟩,⟨_,rfl,.of (congrArg nI (I2 hb8).symm) (.pure pu)⟩,⟨_,rfl,.pure pu⟩,trivial⟩ ⟨.inr ⟨_,_,rfl,rfl,.pure aq⟩,.inr ⟨_,_,rfl,rfl,.pure aq⟩,trivial⟩
  rintro k hk
  have hsk:=nv m (4*i+k)
  have hnk:=I3 (b:=(m.getD i 0).toNat) hk
  refine af<|af<|ai<|s1 (aa rfl) rfl<|s1 (aa rfl) rfl ?_
  refine ah<|ae ?_
  refine aO rfl (fun hc19=>?_) (fun hc19=>?_)
  ·have h19 : k < 4 := by have := of_decide_eq_true hc19; omega
   have hdk:nk (m.getD i 0).toNat k / 64<4:=by rw [wR h19];exact rW _ _
   refine aL<|ae<|af<|aM<|af<|ai<|s1 (aa rfl) rfl<|s1 (iS (nk (m.getD i 0).toNat k) 64 rfl rfl rfl rfl (by decide) (by omega)) rfl<|s1 (aa rfl) rfl ?_
   refine ah<|ae<|af<|ai<|s1 (aa rfl) rfl<|s1 (iF (nk (m.getD i 0).toNat k) 64 rfl rfl rfl rfl (by decide)) rfl<|s1 (gv (nk (m.getD i 0).toNat k % 64) 4 rfl rfl rfl rfl (by omega)) rfl<|s1 (aa rfl) rfl ?_
   refine ah<|ae<|af<|ai<|s1 (aa rfl) rfl<|s1 (aa rfl) rfl ?_
   refine ak rfl (dG 29 rfl Tryz.underlying30 an rfl rfl rfl rfl rfl ?_)
   refine ak rfl (cT 30 rfl Tryz.underlying30 an rfl (.sl rfl (by simp)) rfl (cE rfl (by first|rfl|omega|(simp<;>omega)|(simp [*]<;>omega))) (by first|rfl|omega|(simp<;>omega)|(simp [*]<;>omega)) (by first|omega|(simp only [maxLen];omega)|(simp [maxLen];done)|(simp [maxLen];omega)|(simp [maxLen, *];omega)) (by first|omega|(simp only [maxLen];omega)|(simp [maxLen];done)|(simp [maxLen];omega)|(simp [maxLen, *];omega)) rfl rfl rfl ?_)
   refine s1 (aa rfl) rfl ?_
   refine ah<|ae<|ai<|s1 (aa rfl) rfl<|s1 (bc (c4 m (4*i+k)) 3 rfl rfl rfl rfl (by omega)) rfl<|s1 (aa rfl) rfl<|s1 (cQ (c4 m (4*i+k)+3) (nk (m.getD i 0).toNat k / 64) rfl rfl rfl rfl (by omega) (by omega)) rfl<|s1 (aa rfl) rfl ?_
   refine ah<|bh<|ae<|ai<|s1 (aa rfl) rfl<|s1 (bc _ 1 rfl rfl rfl rfl (by omega)) rfl<|s1 (aa rfl) rfl ?_
   refine ah ?_
   exact br (k+1) (by omega) (by omega) [(1,some 1),(9,some 30)] hI rfl rfl ⟨⟨_,rfl,.p rfl⟩,⟨_,rfl,.sl rfl (by first|rfl|omega|(simp<;>omega)|(simp [*]<;>omega))⟩,⟨_,rfl,.of (congrArg nI (L0 (wR h19))) (.pure pu)⟩,⟨_,rfl,.pure pu⟩,⟨_,rfl,.of (congrArg nI (I4 h19)) (.pure pu)⟩,⟨_,rfl,.pure pu⟩,trivial⟩ ⟨.inr ⟨_,_,rfl,rfl,.pure aq⟩,.inr ⟨_,_,rfl,rfl,.of (GC (wR h19)) (.pure aq)⟩,trivial⟩
  ·have h19 : k = 4 := by have := of_decide_eq_false hc19; omega
   subst h19
   refine bC<|aP<|aP<|bD<|bh<|ae<|ai<|s1 (aa rfl) rfl<|s1 (bc _ 1 rfl rfl rfl rfl (by omega)) rfl<|s1 (aa rfl) rfl ?_
   refine ah ?_
   exact br (i+1) (by omega) (by omega) [(1,some 1),(9,some 9)] hI rfl rfl ⟨⟨_,rfl,.p rfl⟩,⟨_,rfl,.sl rfl (by first|rfl|omega|(simp<;>omega)|(simp [*]<;>omega))⟩,⟨_,rfl,.pure pu⟩,⟨_,rfl,.pure pu⟩,trivial⟩ ⟨.inr ⟨_,_,rfl,rfl,.pure aq⟩,.inr ⟨_,_,rfl,rfl,.pure aq⟩,trivial⟩
 ·have h11 : i = 4 := by have := of_decide_eq_false hc11; omega
  subst h11
  have hs16:=nv m 16
  refine bC<|aP<|aP<|bD<|ae<|af<|ai<|s1 (aa rfl) rfl<|s1 (aa rfl) rfl<|s1 (iS (c4 m 16) 16 rfl rfl rfl rfl (by decide) (by omega)) rfl<|s1 (aa rfl) rfl<|s1 (iS (c4 m 16) 4 rfl rfl rfl rfl (by decide) (by omega)) rfl<|s1 (iF (c4 m 16 / 4) 4 rfl rfl rfl rfl (by decide)) rfl<|s1 (aa rfl) rfl<|s1 (iF (c4 m 16) 4 rfl rfl rfl rfl (by decide)) rfl ?_
  refine ak rfl (dG 43 rfl Tryz.underlying30 an rfl rfl rfl rfl rfl ?_)
  refine ak rfl (cT 44 rfl Tryz.underlying30 an rfl (.sl rfl (by simp)) rfl (cE rfl (by first|rfl|omega|(simp<;>omega)|(simp [*]<;>omega))) (by first|rfl|omega|(simp<;>omega)|(simp [*]<;>omega)) (by first|omega|(simp only [maxLen];omega)|(simp [maxLen];done)|(simp [maxLen];omega)|(simp [maxLen, *];omega)) (by first|omega|(simp only [maxLen];omega)|(simp [maxLen];done)|(simp [maxLen];omega)|(simp [maxLen, *];omega)) rfl (Gz m) rfl ?_)
  refine s1 (aa rfl) rfl ?_
  refine ah<|ae<|aE ?_
  refine gp 2 rfl rfl aq (cm (by simp) rfl) ?_
  refine aF (rs:= [.tmp 2]) rfl (aD rfl aB) rfl
theorem KX (m:List UInt8) (S:List (List UInt8)) (hm:m.length=32) (hS:aK S):aA Tryz.prog 91 [.ag (m.map u8),bq S] (aN (.tu [.ag ((er m S).map u8),nI (gH S)])):=by
 refine enter Tryz.func91 rfl Tryz.ntmps91 (by kernel_rfl) (Nat.le_of_ble_eq_true rfl) fun w0 X0 hI=>?_
 refine af<|ai ?_
 refine ak rfl (bK 2 rfl rfl rfl ?_)
 refine ak rfl (bp 4 rfl az rfl rfl ?_)
 refine s1 ((aa rfl).v (v':= .i .i64 0) rfl) rfl ?_
 refine ah<|ae<|af<|af<|ai<|s1 (aa rfl) rfl<|s1 (bu Tryz.underlying41 rfl rfl rfl) rfl<|s1 (aa rfl) rfl ?_
 refine ah<|ae ?_
 refine aO rfl (fun hc11=>?_) (fun hc11=>?_)
 ·have h11 : S.length ≠ 19 := by have := bne_iff_ne.1 hc11; omega
  refine af<|ai<|s1 (nC az rfl Tryz.underlying23 aQ rfl) rfl ?_
  refine ak rfl (bb az rfl rfl rfl (by first|rfl|omega|(simp<;>omega)|(simp [*]<;>omega)) (by first|rfl|omega|(simp<;>omega)|(simp [*]<;>omega)) ?_)
  refine s1 ((aa rfl).v (v':= .i .i64 50) rfl) rfl ?_
  refine ah<|ae<|aE<|aH ?_
  refine aF (rs:= [.cell 4 23,.tmp 5]) rfl (bW az rfl rfl (List.take_of_length_le (by simp)) (by simp) (aD rfl aB)) ?_
  rw [(tG h11).1,(tG (m:=m) h11).2]
  rfl
 ·have h11 : S.length = 19 := by have := bne_eq_false_iff_eq.1 hc11; omega
  refine aL<|ae<|af<|ai<|s1 (aV az rfl rfl (by first|rfl|omega|(simp<;>omega)|(simp [*]<;>omega))) rfl ?_
  refine ak rfl (aI false rfl (.cons (.pure pu) (.nil)) (Kj m hm) pu (.inl rfl) rfl ?_)
  refine s1 (aa rfl) rfl ?_
  refine ah<|ae<|af<|ai ?_
  refine ak rfl (fY 15 rfl Tryz.underlying41 az rfl rfl rfl (by first|(simp [aY];done)|(simp [aY, *];done)) rfl rfl rfl rfl ?_)
  refine s1 (aa rfl) rfl ?_
  refine ah<|ae<|af<|af<|ai<|s1 ((aa rfl).v (v':= .i .i64 0) rfl) rfl ?_
  refine ah<|ae<|aM ?_
  refine bF (ι:=Nat) (fun i=> [(1,bq S),(4,.p 4 0),(6,.fz 19 ((digits m).map nI)),(7,.sl 15 32 0 i),(8,nI i)]) (fun i=>⟨[(4,some (List.replicate 32 (u8 0))),(15,some ((gI m S i).flatten.map u8))]⟩) (fun i=>i≤19) (fun i=>19 - i) ?_ ?_
  ·exact bE (0) (Nat.zero_le _) [(4,some 4),(15,some 15)] hI rfl rfl ⟨⟨_,rfl,.pure pu⟩,⟨_,rfl,.p rfl⟩,⟨_,rfl,.pure pu⟩,⟨_,rfl,.sl rfl (by first|rfl|omega|(simp<;>omega)|(simp [*]<;>omega))⟩,⟨_,rfl,.pure pu⟩,trivial⟩ ⟨.inr ⟨_,_,rfl,rfl,.pure aq⟩,.inr ⟨_,_,rfl,rfl,.of (by rw [tE];rfl) (.pure aq)⟩,trivial⟩
  rintro i hi
  have hDi:=ux (m:=m) hS i (by omega)
  have hdi:=rV m i
  refine af<|af<|ai<|s1 (aa rfl) rfl<|s1 (aa rfl) rfl ?_
  refine ah<|ae ?_
  refine aO rfl (fun hc17=>?_) (fun hc17=>?_)
  ·have h17 : i < 19 := by have := of_decide_eq_true hc17; omega
   obtain⟨q,hq⟩:∃q,S[i]? =some q:=⟨_,List.getElem?_eq_getElem (by omega)⟩
   have hq32:=hS q (List.mem_of_getElem? hq)
   have hq2:S.getD i []=q:=by simp [hq]
   refine aL<|ae<|af<|aM ?_
   refine bP ⟨_, [], []⟩ 13 4 bx (le_refl rfl) ?_
   refine aj 0 [] [(15,none)] (aa rfl) rfl rfl<|aj 1 [] [] (aa rfl) rfl rfl<|aj 2 [] [] (aa rfl) rfl rfl<|aj 3 [1,2] [] (aT i Tryz.underlying41 az rfl rfl rfl (by omega) rfl) rfl rfl<|aj 4 [3] [] (bY az rfl rfl (wu hS hq) (by simp [hq32])) rfl rfl<|aj 5 [] [] (aa rfl) rfl rfl<|aj 6 [] [] (aa rfl) rfl rfl<|aj 7 [5,6] [] (aT i Tryz.underlying30 an rfl rfl rfl (by omega) rfl) rfl rfl<|aj 8 [7] [] (au an rfl rfl (HC m i h17)) rfl rfl<|aj 9 [8] [] (cQ 3 (dg m i) rfl rfl rfl rfl (by omega) (by omega)) rfl rfl ?_
   refine bL false 10 [4,9] [] aW rfl (.cons (.pure pu) (.cons (.pure pu) (.nil))) (KZ q (3 - dg m i) hq32 (by omega)) pu (.inl rfl) rfl rfl<|jS 31 11 [10] aW Tryz.underlying41 az rfl rfl rfl (by simp [aY,jr, *]) (List.append_nil ((ep (3 - dg m i) q).map u8)) rfl rfl rfl rfl<|fV 32 12 [0,11] [(15,none),(31,some 11)] aW Tryz.underlying41 az rfl (.sl rfl (by rw [List.length_map,hDi.len,len_recL])) rfl (cE rfl (by rw [List.length_map,jr (by simp [*])])) (by simp [jr, *]) (by simp only [maxLen];omega) (by omega) rfl rfl rfl rfl<|bQ (by kernel_rfl) ?_
   refine s1 (aa rfl) rfl ?_
   refine ah<|bh<|ae<|ai<|s1 (aa rfl) rfl<|s1 (bc _ 1 rfl rfl rfl rfl (by omega)) rfl<|s1 (aa rfl) rfl ?_
   refine ah ?_
   exact br (i+1) (by omega) (by omega) [(4,some 4),(15,some 32)] hI rfl rfl ⟨⟨_,rfl,.pure pu⟩,⟨_,rfl,.p rfl⟩,⟨_,rfl,.pure pu⟩,⟨_,rfl,.sl rfl (by first|rfl|omega|(simp<;>omega)|(simp [*]<;>omega))⟩,⟨_,rfl,.pure pu⟩,trivial⟩ ⟨.inr ⟨_,_,rfl,rfl,.pure aq⟩,.inr ⟨_,_,rfl,rfl,.of (Km hq2) (.pure aq)⟩,trivial⟩
  ·have h17 : i = 19 := by have := of_decide_eq_false hc17; omega
   subst h17
   refine bC<|aP<|aP<|bD<|ae<|af<|ai<|s1 (aa rfl) rfl ?_
   refine ak rfl (aI true rfl (.cons (.sl rfl rfl rfl (cm (by rw [List.length_map,hDi.len,(len_recL m S 19)]) rfl) (a8.pure aq) aq) .nil) (KD (gI m S 19) hDi (len_recL m S 19)) pu (.inr fu) rfl ?_)
   refine ak rfl (bb az rfl rfl rfl (by first|rfl|omega|(simp<;>omega)|(simp [*]<;>omega)) (by first|rfl|omega|(simp<;>omega)|(simp [*]<;>omega)) ?_)
   refine s1 ((aa rfl).v (v':= .i .i64 0) rfl) rfl ?_
   refine ah<|ae<|aE ?_
   refine aF (rs:= [.cell 4 23,.tmp 5]) rfl (bW az rfl rfl (List.take_of_length_le (by simp)) (by simp) (aD rfl aB)) ?_
   rw [(qz h11).1,(qz (m:=m) h11).2]
   rfl
end Go.Abs.D2
-- K6D
namespace Go.Abs.D2
open Go Go.Eng Go.Abs Go.Proofs
theorem Mk (n:Int):aA Tryz.prog 127 [.fp [.i .i64 n]] (aN (.b (decide (cn n)))):=by
 refine enter Tryz.func127 rfl Tryz.ntmps127 (by kernel_rfl) (Nat.le_of_ble_eq_true rfl) fun w0 X0 hI=>?_
 refine af<|ai<|s1 (aa rfl) rfl ?_
 refine ah<|ae<|af<|ai<|s1 (au an rfl rfl rfl) rfl<|s1 (aa rfl) rfl<|s1 (aa rfl) rfl ?_
 refine dC 2 rfl rfl rfl rfl (fun hb4=> .step (au an rfl rfl rfl) rfl rfl<| .step (aa rfl) rfl rfl<| .done) rfl rfl ?_
 refine s1 (aa rfl) rfl ?_
 refine ah<|ae<|aE ?_
 refine aF (rs:= [.tmp 1]) rfl (aD rfl aB) ?_
 exact congrArg A.b (by rw [Bool.eq_iff_iff,decide_eq_true_eq];simp [cn])
theorem Ml (a n:Int) (S P:List (List UInt8)):aA Tryz.prog 128 [.fp [.i .i64 a,bq S,bq P],.fp [.i .i64 n]] (aN (.b (decide (eU n a)))):=by
 refine enter Tryz.func128 rfl Tryz.ntmps128 (by kernel_rfl) (Nat.le_of_ble_eq_true rfl) fun w0 X0 hI=>?_
 refine af<|ai<|s1 (aa rfl) rfl ?_
 refine ah<|ae<|af<|ai<|s1 (bj Tryz.underlying43 rfl an (by decide) rfl rfl) rfl<|s1 (au an rfl rfl rfl) rfl<|s1 (aa rfl) rfl<|s1 (aa rfl) rfl ?_
 refine dC 4 rfl rfl rfl rfl (fun hb6=> .step (bj Tryz.underlying43 rfl an (by decide) rfl rfl) rfl rfl<| .step (au an rfl rfl rfl) rfl rfl<| .step (au an rfl rfl rfl) rfl rfl<| .step (aa rfl) rfl rfl<| .done) rfl rfl ?_
 refine s1 (aa rfl) rfl ?_
 refine ah<|ae<|aE ?_
 refine aF (rs:= [.tmp 2]) rfl (aD rfl aB) ?_
 exact congrArg A.b (EU n a)
theorem Mm (m:List UInt8) (a:Int) (S P:List (List UInt8)) (hm:m.length=32) (hS:aK S):cH Tryz.prog 129 [.fp (m.map u8),.fp [.i .i64 a,bq S,bq P],.p 9 0] ⟨[(9,some (zD.map u8))]⟩ (gP (.b (decide (gH S=0))) [(9,(er m S).map u8)]):=by
 refine pQ Tryz.func129 rfl Tryz.ntmps129 (by kernel_rfl) (Nat.le_of_ble_eq_true rfl) fun w0 X0 hI=>?_
 refine af<|ai<|s1 (aa rfl) rfl ?_
 refine ah<|ae<|af<|ai<|s1 (bY az rfl rfl (List.take_of_length_le (by simp [hm])) (by simp [hm])) rfl<|s1 (bj Tryz.underlying43 rfl ib (by decide) rfl rfl) rfl<|s1 (au ib rfl rfl rfl) rfl ?_
 refine ak rfl (aI false rfl (.cons (.pure pu) (.cons (.pure pu) (.nil))) (Kn m S hm hS) pu (.inl rfl) rfl ?_)
 refine s1 (aa rfl) rfl<|s1 (aa rfl) rfl<|s1 (aa rfl) rfl ?_
 refine ak rfl (bp 4 rfl az rfl rfl ?_)
 refine ak rfl (bb az rfl rfl rfl (by first|rfl|omega|(simp<;>omega)|(simp [*]<;>omega)) (by first|rfl|omega|(simp<;>omega)|(simp [*]<;>omega)) ?_)
 refine s1 (aa rfl) rfl ?_
 refine ah<|ae<|af<|ai<|s1 (aV az rfl rfl (by first|rfl|omega|(simp<;>omega)|(simp [*]<;>omega))) rfl ?_
 refine ak rfl (bb az rfl rfl rfl (by first|rfl|omega|(simp<;>omega)|(simp [*]<;>omega)) (by first|rfl|omega|(simp<;>omega)|(simp [*]<;>omega)) ?_)
 refine ah<|ae<|af<|ai<|s1 (aa rfl) rfl<|s1 ((aa rfl).v (v':= .b (decide (gH S=0))) (congrArg A.b (Kl S))) rfl<|s1 (aa rfl) rfl ?_
 refine ah<|ae<|aE ?_
 refine aF (rs:= [.tmp 3]) rfl (aD rfl aB) (ni rfl)
theorem Mn (r m:List UInt8) (n a:Int) (S P:List (List UInt8)) (hr:r.length=32) (hP:aK P):cH Tryz.prog 131 [.p 9 0,.fp [.i .i64 a,bq S,bq P],.fp [.i .i64 n],.fp (r.map u8)] ⟨[(9,some ((er m S).map u8))]⟩ (gP (.b ((ji a n P.length==0)&&(iu (er m S) a n P==r))) [(9,(er m S).map u8)]):=by
 refine pQ Tryz.func131 rfl Tryz.ntmps131 (by kernel_rfl) (Nat.le_of_ble_eq_true rfl) fun w0 X0 hI=>?_
 refine af<|ai<|s1 (aa rfl) rfl ?_
 refine ah<|ae<|af<|ai<|s1 (aV az rfl rfl (by first|rfl|omega|(simp<;>omega)|(simp [*]<;>omega))) rfl<|s1 (bj Tryz.underlying43 rfl an (by decide) rfl rfl) rfl<|s1 (au an rfl rfl rfl) rfl<|s1 (au an rfl rfl rfl) rfl<|s1 (bj Tryz.underlying43 rfl ib (by decide) rfl rfl) rfl<|s1 (au ib rfl rfl rfl) rfl ?_
 refine ak rfl (aI false rfl (.cons (.pure pu) (.cons (.pure pu) (.cons (.pure pu) (.cons (.pure pu) (.nil))))) (aA.cast (F0 (er m S) (by simp) a n P hP) (zI ..)) pu (.inl rfl) rfl ?_)
 refine s1 (aa rfl) rfl<|s1 (aa rfl) rfl<|s1 (aa rfl) rfl ?_
 refine ak rfl (bp 5 rfl az rfl rfl ?_)
 refine ak rfl (bb az rfl rfl rfl (by first|rfl|omega|(simp<;>omega)|(simp [*]<;>omega)) (by first|rfl|omega|(simp<;>omega)|(simp [*]<;>omega)) ?_)
 refine s1 (aa rfl) rfl ?_
 refine ah<|ae<|af<|ai<|s1 (aa rfl) rfl<|s1 (aa rfl) rfl<|s1 (aa rfl) rfl ?_
 refine dC 3 rfl rfl rfl rfl (fun hb19=> .step (aV az rfl rfl (by first|rfl|omega|(simp<;>omega)|(simp [*]<;>omega))) rfl rfl<| .step (bY az rfl rfl (List.take_of_length_le (by simp [hr])) (by simp [hr])) rfl rfl<| .step (um Tryz.underlying23 Tryz.underlying5 aQ (by kernel_rfl) rfl rfl (by first|assumption|(simp;done)|(simp [*];done)) (by first|assumption|(simp;done)|(simp [*];done))) rfl rfl<| .done) rfl rfl ?_
 refine s1 (aa rfl) rfl ?_
 refine ah<|ae<|aE ?_
 refine aF (rs:= [.tmp 4]) rfl (aD rfl aB) (ni rfl)
theorem Bn (r m:List UInt8) (n a:Int) (S P:List (List UInt8)) (hr:r.length=32) (hm:m.length=32) (hS:aK S) (hP:aK P):aA Tryz.prog 84 [.ag (r.map u8),.i .i64 n,.ag (m.map u8),.ag [.i .i64 a,bq S,bq P]] (aN (.i .i64 (ob (dU r n m a S P)))):=by
 refine enter Tryz.func84 rfl Tryz.ntmps84 (by kernel_rfl) (Nat.le_of_ble_eq_true rfl) fun w0 X0 hI=>?_
 refine af<|ai ?_
 refine ak rfl (bK 4 rfl rfl rfl ?_)
 refine ak rfl (kG 5 rfl rfl rfl rfl ?_)
 refine ak rfl (bK 6 rfl rfl rfl ?_)
 refine ak rfl (bK 7 rfl rfl rfl ?_)
 refine s1 ((aa rfl).v (v':= .i .i64 0) rfl) rfl ?_
 refine ah<|ae<|af<|ai ?_
 refine ak rfl (bp 9 rfl az rfl rfl ?_)
 refine ah<|ae<|af ?_
 refine fh 4 rfl rfl aq ?_
 refine fh 5 rfl rfl aq ?_
 refine fh 6 rfl rfl aq ?_
 refine fh 7 rfl rfl aq ?_
 refine ai<|s1 (gA (us:= []) (vs:= [.fp [.i .i64 n]]) rfl rfl) rfl<|s1 (gA (us:= []) (vs:= [.fp [.i .i64 a,bq S,bq P],.fp [.i .i64 n]]) rfl rfl) rfl<|s1 (gA (us:= []) (vs:= [.fp (m.map u8),.fp [.i .i64 a,bq S,bq P],.p 9 0]) rfl rfl) rfl<|s1 (gA (us:= []) (vs:= [.p 9 0,.fp [.i .i64 a,bq S,bq P],.fp [.i .i64 n],.fp (r.map u8)]) rfl rfl) rfl ?_
 refine ak rfl (dG 17 rfl Tryz.underlying169 lJ rfl rfl rfl rfl rfl ?_)
 refine s1 (aa rfl) rfl ?_
 refine ah<|ae<|af<|af<|ai<|s1 (aa rfl) rfl<|s1 (bu Tryz.underlying169 rfl rfl rfl) rfl<|s1 ((aa rfl).v (v':= .i .i64 0) rfl) rfl ?_
 refine ah<|ae<|aM ?_
 refine bF (ι:=Nat) (fun i=> [(18,.sl 17 1 0 4),(19,nI 4),(20,nI i)]) (fun i=>⟨[(9,some ((JX m S i).map u8)),(17,some ([.fn (.func 127) [] [.fp [.i .i64 n]],.fn (.func 128) [] [.fp [.i .i64 a,bq S,bq P],.fp [.i .i64 n]],.fn (.func 129) [] [.fp (m.map u8),.fp [.i .i64 a,bq S,bq P],.p 9 0],.fn (.func 131) [] [.p 9 0,.fp [.i .i64 a,bq S,bq P],.fp [.i .i64 n],.fp (r.map u8)]]))]⟩) (fun i=>i≤4∧(0<i→cn n)∧(1<i→eU n a)∧(2<i→gH S=0)∧(3<i→((ji a n P.length==0)&&(iu (er m S) a n P==r))=true)) (fun i=>4 - i) ?_ ?_
 ·exact bE (0) (⟨by omega,fun h=>absurd h (by omega),fun h=>absurd h (by omega),fun h=>absurd h (by omega),fun h=>absurd h (by omega)⟩) [(9,some 9),(17,some 17)] hI rfl rfl ⟨⟨_,rfl,.sl rfl (by first|rfl|omega|(simp<;>omega)|(simp [*]<;>omega))⟩,⟨_,rfl,.pure pu⟩,⟨_,rfl,.pure pu⟩,trivial⟩ ⟨.inr ⟨_,_,rfl,rfl,.of (by rfl) (.pure aq)⟩,.inr ⟨_,_,rfl,rfl,.cons (.pure pu) (.cons (.pure pu) (.cons (.fn .nil (.cons (.pure pu) (.cons (.pure pu) (.cons (.p rfl) .nil)))) (.cons (.fn .nil (.cons (.p rfl) (.cons (.pure pu) (.cons (.pure pu) (.cons (.pure pu) .nil))))) .nil)))⟩,trivial⟩
 rintro i ⟨hi,p1,p2,p3,p4⟩
 refine af<|ai<|s1 (aa rfl) rfl ?_
 refine ah<|ae<|af ?_
 refine aO rfl (fun hc21=>?_) (fun hc21=>?_)
 ·have h21 : i < 4 := by have := of_decide_eq_true hc21; omega
  refine aL<|ae<|af<|aM<|af ?_
  rcases show i=0∨i=1∨i=2∨i=3 by omega with hcs|hcs|hcs|hcs
  ·subst hcs
   refine ai<|s1 (lN 0 Tryz.underlying169 lJ rfl rfl rfl rfl (by omega) rfl) rfl<|s1 (au lJ rfl rfl rfl) rfl<|s1 (aa rfl) rfl ?_
   refine ah<|ae<|af<|ai<|s1 (aa rfl) rfl ?_
   refine ak rfl (qh false rfl rfl (.cons (.pure pu) .nil) (Mk n) pu (.inl rfl) rfl ?_)
   refine s1 (aa rfl) rfl ?_
   refine ah<|ae ?_
   refine aO rfl (fun hc26=>?_) (fun hc26=>?_)
   ·skip
    refine af<|ai<|s1 ((aa rfl).v (v':= .i .i64 60) rfl) rfl ?_
    refine ah<|ae<|aE<|bg<|aH<|aH<|bg<|aH ?_
    refine aF (rs:= [.tmp 8]) rfl (aD rfl aB) ?_
    exact congrArg (A.i .i64) (by rw [DR (by simpa using hc26)];rfl)
   ·skip
    refine aL<|bh<|ae<|ai<|s1 (bc _ 1 rfl rfl rfl rfl (by omega)) rfl<|s1 (aa rfl) rfl ?_
    refine ah ?_
    exact br (0+1) (⟨by omega,fun _=>by simpa using hc26,fun h=>absurd h (by omega),fun h=>absurd h (by omega),fun h=>absurd h (by omega)⟩) (by omega) [(9,some 9),(17,some 17)] hI rfl rfl ⟨⟨_,rfl,.sl rfl (by first|rfl|omega|(simp<;>omega)|(simp [*]<;>omega))⟩,⟨_,rfl,.pure pu⟩,⟨_,rfl,.pure pu⟩,trivial⟩ ⟨.inr ⟨_,_,rfl,rfl,.of (by rfl) (.pure aq)⟩,.inr ⟨_,_,rfl,rfl,.cons (.pure pu) (.cons (.pure pu) (.cons (.fn .nil (.cons (.pure pu) (.cons (.pure pu) (.cons (.p rfl) .nil)))) (.cons (.fn .nil (.cons (.p rfl) (.cons (.pure pu) (.cons (.pure pu) (.cons (.pure pu) .nil))))) .nil)))⟩,trivial⟩
  ·subst hcs
   refine ai<|s1 (lN 1 Tryz.underlying169 lJ rfl rfl rfl rfl (by omega) rfl) rfl<|s1 (au lJ rfl rfl rfl) rfl<|s1 (aa rfl) rfl ?_
   refine ah<|ae<|af<|ai<|s1 (aa rfl) rfl ?_
   refine ak rfl (qh false rfl rfl (.cons (.pure pu) (.cons (.pure pu) .nil)) (Ml a n S P) pu (.inl rfl) rfl ?_)
   refine s1 (aa rfl) rfl ?_
   refine ah<|ae ?_
   refine aO rfl (fun hc26=>?_) (fun hc26=>?_)
   ·skip
    refine af<|ai<|s1 ((aa rfl).v (v':= .i .i64 60) rfl) rfl ?_
    refine ah<|ae<|aE<|bg<|aH<|aH<|bg<|aH ?_
    refine aF (rs:= [.tmp 8]) rfl (aD rfl aB) ?_
    exact congrArg (A.i .i64) (by rw [DS (by simpa using hc26)];rfl)
   ·skip
    refine aL<|bh<|ae<|ai<|s1 (bc _ 1 rfl rfl rfl rfl (by omega)) rfl<|s1 (aa rfl) rfl ?_
    refine ah ?_
    exact br (1+1) (⟨by omega,fun _=>p1 (by omega),fun _=>by simpa using hc26,fun h=>absurd h (by omega),fun h=>absurd h (by omega)⟩) (by omega) [(9,some 9),(17,some 17)] hI rfl rfl ⟨⟨_,rfl,.sl rfl (by first|rfl|omega|(simp<;>omega)|(simp [*]<;>omega))⟩,⟨_,rfl,.pure pu⟩,⟨_,rfl,.pure pu⟩,trivial⟩ ⟨.inr ⟨_,_,rfl,rfl,.of (by rfl) (.pure aq)⟩,.inr ⟨_,_,rfl,rfl,.cons (.pure pu) (.cons (.pure pu) (.cons (.fn .nil (.cons (.pure pu) (.cons (.pure pu) (.cons (.p rfl) .nil)))) (.cons (.fn .nil (.cons (.p rfl) (.cons (.pure pu) (.cons (.pure pu) (.cons (.pure pu) .nil))))) .nil)))⟩,trivial⟩
  ·subst hcs
   refine ai<|s1 (lN 2 Tryz.underlying169 lJ rfl rfl rfl rfl (by omega) rfl) rfl<|s1 (au lJ rfl rfl rfl) rfl<|s1 (aa rfl) rfl ?_
   refine ah<|ae<|af<|ai<|s1 (aa rfl) rfl ?_
   refine ak rfl (ma ⟨[(9,some (zD.map u8))]⟩ [(9,(er m S).map u8)] false rfl rfl ⟨⟨rfl,a8.pure aq⟩,trivial⟩ (.cons (.pure pu) (.cons (.pure pu) (.cons (.kp rfl) .nil))) (Mm m a S P hm hS) trivial (.inl rfl) (nA (c0:=zD.map u8) rfl aq fI) rfl ?_)
   refine s1 (aa rfl) rfl ?_
   refine ah<|ae ?_
   refine aO rfl (fun hc26=>?_) (fun hc26=>?_)
   ·skip
    refine af<|ai<|s1 ((aa rfl).v (v':= .i .i64 60) rfl) rfl ?_
    refine ah<|ae<|aE<|bg<|aH<|aH<|bg<|aH ?_
    refine aF (rs:= [.tmp 8]) rfl (aD rfl aB) ?_
    exact congrArg (A.i .i64) (by rw [DT (by simpa using hc26)];rfl)
   ·skip
    refine aL<|bh<|ae<|ai<|s1 (bc _ 1 rfl rfl rfl rfl (by omega)) rfl<|s1 (aa rfl) rfl ?_
    refine ah ?_
    exact br (2+1) (⟨by omega,fun _=>p1 (by omega),fun _=>p2 (by omega),fun _=>by simpa using hc26,fun h=>absurd h (by omega)⟩) (by omega) [(9,some 9),(17,some 17)] hI rfl rfl ⟨⟨_,rfl,.sl rfl (by first|rfl|omega|(simp<;>omega)|(simp [*]<;>omega))⟩,⟨_,rfl,.pure pu⟩,⟨_,rfl,.pure pu⟩,trivial⟩ ⟨.inr ⟨_,_,rfl,rfl,.of (by rfl) (.pure aq)⟩,.inr ⟨_,_,rfl,rfl,.cons (.pure pu) (.cons (.pure pu) (.cons (.fn .nil (.cons (.pure pu) (.cons (.pure pu) (.cons (.p rfl) .nil)))) (.cons (.fn .nil (.cons (.p rfl) (.cons (.pure pu) (.cons (.pure pu) (.cons (.pure pu) .nil))))) .nil)))⟩,trivial⟩
  ·subst hcs
   refine ai<|s1 (lN 3 Tryz.underlying169 lJ rfl rfl rfl rfl (by omega) rfl) rfl<|s1 (au lJ rfl rfl rfl) rfl<|s1 (aa rfl) rfl ?_
   refine ah<|ae<|af<|ai<|s1 (aa rfl) rfl ?_
   refine ak rfl (ma ⟨[(9,some ((er m S).map u8))]⟩ [(9,(er m S).map u8)] false rfl rfl ⟨⟨rfl,a8.pure aq⟩,trivial⟩ (.cons (.kp rfl) (.cons (.pure pu) (.cons (.pure pu) (.cons (.pure pu) .nil)))) (Mn r m n a S P hr hP) trivial (.inl rfl) (nA (c0:=(er m S).map u8) rfl aq fI) rfl ?_)
   refine s1 (aa rfl) rfl ?_
   refine ah<|ae ?_
   refine aO rfl (fun hc26=>?_) (fun hc26=>?_)
   ·skip
    refine af<|ai<|s1 ((aa rfl).v (v':= .i .i64 60) rfl) rfl ?_
    refine ah<|ae<|aE<|bg<|aH<|aH<|bg<|aH ?_
    refine aF (rs:= [.tmp 8]) rfl (aD rfl aB) ?_
    exact congrArg (A.i .i64) (by rw [DU (by rwa [Bool.not_eq_true']at hc26)];rfl)
   ·skip
    refine aL<|bh<|ae<|ai<|s1 (bc _ 1 rfl rfl rfl rfl (by omega)) rfl<|s1 (aa rfl) rfl ?_
    refine ah ?_
    exact br (3+1) (⟨by omega,fun _=>p1 (by omega),fun _=>p2 (by omega),fun _=>p3 (by omega),fun _=>by simpa using hc26⟩) (by omega) [(9,some 9),(17,some 17)] hI rfl rfl ⟨⟨_,rfl,.sl rfl (by first|rfl|omega|(simp<;>omega)|(simp [*]<;>omega))⟩,⟨_,rfl,.pure pu⟩,⟨_,rfl,.pure pu⟩,trivial⟩ ⟨.inr ⟨_,_,rfl,rfl,.of (by rfl) (.pure aq)⟩,.inr ⟨_,_,rfl,rfl,.cons (.pure pu) (.cons (.pure pu) (.cons (.fn .nil (.cons (.pure pu) (.cons (.pure pu) (.cons (.p rfl) .nil)))) (.cons (.fn .nil (.cons (.p rfl) (.cons (.pure pu) (.cons (.pure pu) (.cons (.pure pu) .nil))))) .nil)))⟩,trivial⟩
 ·have h21 : i = 4 := by have := of_decide_eq_false hc21; omega
  subst h21
  refine bC<|aP<|aP<|bD<|ae<|af<|ai<|s1 ((aa rfl).v (v':= .i .i64 0) rfl) rfl ?_
  refine ah<|ae<|aE ?_
  refine aF (rs:= [.tmp 8]) rfl (aD rfl aB) ?_
  exact congrArg (A.i .i64) (by rw [xU (p1 (by omega)) (p2 (by omega)) (p3 (by omega)) (p4 (by omega))];rfl)
theorem CZ (r m:List UInt8) (n a:Int) (S P:List (List UInt8)) (hr:r.length=32) (hm:m.length=32) (hS:aK S) (hP:aK P):aA Tryz.prog 42 [.ag (r.map u8),.i .i64 n,.ag (m.map u8),.ag [.i .i64 a,bq S,bq P]] (aN (.i .i64 (ob (dU r n m a S P)))):=by
 refine enter Tryz.func42 rfl Tryz.ntmps42 (by kernel_rfl) (Nat.le_of_ble_eq_true rfl) fun w0 X0 hI=>?_
 refine af<|ai ?_
 refine ak rfl (bK 4 rfl rfl rfl ?_)
 refine ak rfl (bK 6 rfl rfl rfl ?_)
 refine ak rfl (bK 7 rfl rfl rfl ?_)
 refine s1 ((aa rfl).v (v':= .i .i64 0) rfl) rfl ?_
 refine ah<|ae<|af<|af ?_
 rcases(Decidable.em (cn n)).symm with hcs|hcs
 ·skip
  refine ai<|s1 (aa rfl) rfl ?_
  refine ak rfl (aI false rfl (.cons (.pure pu) (.nil)) (aA.cast (C5 n) (congrArg A.b (decide_eq_false hcs))) pu (.inl rfl) rfl ?_)
  refine s1 (aa rfl) rfl<|s1 (aa rfl) rfl<|g0 rfl rfl rfl rfl<|g0 rfl rfl rfl rfl<|g0 rfl rfl rfl rfl<|s1 (aa rfl) rfl<|s1 (aa rfl) rfl<|g0 rfl rfl rfl rfl<|g0 rfl rfl rfl rfl<|g0 rfl rfl rfl rfl ?_
  refine g0 rfl rfl rfl rfl<|s1 (aa rfl) rfl ?_
  refine ah<|ae ?_
  refine bR rfl ?_
  refine af<|ai<|s1 ((aa rfl).v (v':= .i .i64 60) rfl) rfl ?_
  refine ah<|ae<|aE<|aH ?_
  refine aF (rs:= [.tmp 8]) rfl (aD rfl aB) ?_
  exact congrArg (A.i .i64) (by rw [DR hcs];rfl)
 ·have hsz := hcs
  refine ai<|s1 (aa rfl) rfl ?_
  refine ak rfl (aI false rfl (.cons (.pure pu) (.nil)) (aA.cast (C5 _) (congrArg A.b (decide_eq_true hcs))) pu (.inl rfl) rfl ?_)
  refine s1 (aa rfl) rfl<|s1 (aa rfl) rfl<|g1 rfl rfl (aC Tryz.underlying43 rfl an (by decide) rfl rfl) rfl<|g1 rfl rfl (au an rfl rfl rfl) rfl<|g1 rfl rfl (aa rfl) rfl<|s1 (aa rfl) rfl<|s1 (aa rfl) rfl ?_
  refine fJ 4 rfl rfl rfl rfl (fun hb21=> .step (aC Tryz.underlying43 rfl an (by decide) rfl rfl) rfl rfl<| .step (au an rfl rfl rfl) rfl rfl<| .step (aa rfl) rfl rfl<| .step (aa rfl) rfl rfl<| .done) rfl rfl ?_
  refine ah<|ae ?_
  refine aO rfl (fun hc26=>?_) (fun hc26=>?_)
  ·have hna : ¬ eU n a := by intro h; unfold eU at h; simp at hc26; omega
   refine af<|ai<|s1 ((aa rfl).v (v':= .i .i64 60) rfl) rfl ?_
   refine ah<|ae<|aE<|aH ?_
   refine aF (rs:= [.tmp 8]) rfl (aD rfl aB) ?_
   exact congrArg (A.i .i64) (by rw [DS hna];rfl)
  ·have hat : eU n a := by unfold eU; simp at hc26; omega
   refine aL<|ae<|af<|ai<|s1 (aV az rfl rfl (by first|rfl|omega|(simp<;>omega)|(simp [*]<;>omega))) rfl<|s1 (aC Tryz.underlying43 rfl ib (by decide) rfl rfl) rfl<|s1 (au ib rfl rfl rfl) rfl ?_
   refine ak rfl (aI false rfl (.cons (.pure pu) (.cons (.pure pu) (.nil))) (KX m S hm hS) pu (.inl rfl) rfl ?_)
   refine s1 (aa rfl) rfl<|s1 (aa rfl) rfl<|s1 (aa rfl) rfl ?_
   refine ak rfl (bp 9 rfl az rfl rfl ?_)
   refine ak rfl (bb az rfl rfl rfl (by first|rfl|omega|(simp<;>omega)|(simp [*]<;>omega)) (by first|rfl|omega|(simp<;>omega)|(simp [*]<;>omega)) ?_)
   refine s1 (aa rfl) rfl ?_
   refine ah<|ae<|af<|af<|ai<|s1 (aa rfl) rfl<|s1 (aa rfl) rfl ?_
   refine ah<|ae ?_
   refine aO rfl (fun hc35=>?_) (fun hc35=>?_)
   ·have h3 : ¬ gH S = 0 := by intro h; rw [h] at hc35; simp at hc35
    refine af<|ai<|s1 ((aa rfl).v (v':= .i .i64 60) rfl) rfl ?_
    refine ah<|ae<|aE<|aH ?_
    refine aF (rs:= [.tmp 8]) rfl (aD rfl aB) ?_
    exact congrArg (A.i .i64) (by rw [DT h3];rfl)
   ·have h3 : gH S = 0 := by simp at hc35; omega
    refine aL<|ae<|af<|ai<|s1 (aV az rfl rfl (by first|rfl|omega|(simp<;>omega)|(simp [*]<;>omega))) rfl<|s1 (aC Tryz.underlying43 rfl an (by decide) rfl rfl) rfl<|s1 (au an rfl rfl rfl) rfl<|s1 (aa rfl) rfl<|s1 (aC Tryz.underlying43 rfl ib (by decide) rfl rfl) rfl<|s1 (au ib rfl rfl rfl) rfl ?_
    refine ak rfl (aI false rfl (.cons (.pure pu) (.cons (.pure pu) (.cons (.pure pu) (.cons (.pure pu) (.nil))))) (aA.cast (Kb (er m S) (by simp) a n P hP) (zI ..)) pu (.inl rfl) rfl ?_)
    refine s1 (aa rfl) rfl<|s1 (aa rfl) rfl<|s1 (aa rfl) rfl ?_
    refine ak rfl (bp 11 rfl az rfl rfl ?_)
    refine ak rfl (bb az rfl rfl rfl (by first|rfl|omega|(simp<;>omega)|(simp [*]<;>omega)) (by first|rfl|omega|(simp<;>omega)|(simp [*]<;>omega)) ?_)
    refine s1 (aa rfl) rfl ?_
    refine ah<|ae<|af<|af<|ai<|s1 (aa rfl) rfl<|s1 (aa rfl) rfl<|s1 (aa rfl) rfl ?_
    refine fJ 3 rfl rfl rfl rfl (fun hb48=> .step (aV az rfl rfl (by first|rfl|omega|(simp<;>omega)|(simp [*]<;>omega))) rfl rfl<| .step (aV az rfl rfl (by simp [hr])) rfl rfl<| .step (kX Tryz.underlying23 Tryz.underlying5 aQ (by kernel_rfl) rfl rfl (by first|assumption|(simp;done)|(simp [*];done)) (by first|assumption|(simp;done)|(simp [*];done))) rfl rfl<| .done) rfl rfl ?_
    refine ah<|ae ?_
    refine aO rfl (fun hc52=>?_) (fun hc52=>?_)
    ·have h4 : ((ji a n P.length == 0) && (iu (er m S) a n P == r)) = false := by revert hc52; simp [bne]; intro h hh; rcases h with h | h <;> simp_all
     refine af<|ai<|s1 ((aa rfl).v (v':= .i .i64 60) rfl) rfl ?_
     refine ah<|ae<|aE<|aH ?_
     refine aF (rs:= [.tmp 8]) rfl (aD rfl aB) ?_
     exact congrArg (A.i .i64) (by rw [DU h4];rfl)
    ·have h4 : ((ji a n P.length == 0) && (iu (er m S) a n P == r)) = true := by simp [bne] at hc52 ⊢; exact hc52
     refine aL<|ae<|af<|ai<|s1 ((aa rfl).v (v':= .i .i64 0) rfl) rfl ?_
     refine ah<|ae<|aE ?_
     refine aF (rs:= [.tmp 8]) rfl (aD rfl aB) ?_
     exact congrArg (A.i .i64) (by rw [xU hsz hat h3 h4];rfl)
end Go.Abs.D2
-- E6I
namespace Go.Abs.D2
open Go Go.Eng Go.Abs Go.Proofs
theorem tI (l:List Ep) (hl:dB l) (hn:l.length≤1000):aA Tryz.prog 41 [cO l] (aN (pU l)):=by
 refine enter Tryz.func41 rfl Tryz.ntmps41 (by kernel_rfl) (Nat.le_of_ble_eq_true rfl) fun w0 X0 hI=>?_
 refine af<|ai<|s1 (aa rfl) rfl<|s1 (aa rfl) rfl ?_
 refine ah<|ae<|af<|ai ?_
 refine ak rfl (kH Tryz.underlying31 bt rfl rfl rfl (by first|(simp [aY];done)|(simp [aY, *];done)) (show gU []= []from rfl) aq rfl rfl rfl ?_)
 refine s1 (aa rfl) rfl ?_
 refine ah<|ae<|af<|af<|ai<|s1 ((aa rfl).v (v':= .i .i64 0) rfl) rfl ?_
 refine ah<|ae<|aM ?_
 refine bF (ι:=Nat×(Int→Int)×List Ch) (fun⟨i,τ,bf⟩=> [(0,cO l),(4,cC bf),(5,nJ i)]) (fun⟨i,τ,bf⟩=>⟨[]⟩) (fun⟨i,τ,bf⟩=>i≤l.length∧bf=dr τ∧ -1≤jk l i∧gj τ∧cv l=dK (jW l) i (jk l i) (lF l i) τ (l.drop i)) (fun⟨i,τ,bf⟩=>l.length - i) ?_ ?_
 ·exact bE ((0,σ0, [])) (⟨Nat.zero_le _,FO,Int.le_refl _,DI,og l⟩) [] hI rfl rfl ⟨⟨_,rfl,.pure pu⟩,⟨_,rfl,.pure pu⟩,⟨_,rfl,.pure pu⟩,trivial⟩ trivial
 rintro⟨i,τ,bf⟩ ⟨hi,hbf,hdy,hsu,hst⟩
 dsimp only
 refine af<|af<|ai<|s1 (aa rfl) rfl<|s1 (aa rfl) rfl<|s1 (bu Tryz.underlying24 rfl rfl rfl) rfl<|s1 (aa rfl) rfl ?_
 refine ah<|ae ?_
 refine aO rfl (fun hc12=>?_) (fun hc12=>?_)
 ·have h12 : i < l.length := by have := of_decide_eq_true hc12; omega
  obtain⟨e,he⟩:∃e,l[i]? =some e:=⟨_,List.getElem?_eq_getElem h12⟩
  have hok:=hl e (List.mem_of_getElem? he)
  obtain⟨e0,he0⟩:∃e0,l[0]? =some e0:=⟨_,List.getElem?_eq_getElem (by omega)⟩
  have hi0:=Bg he0
  refine aL<|ae<|af<|aM<|af<|ai<|s1 (aa rfl) rfl<|s1 (aa rfl) rfl<|s1 (aT i Tryz.underlying24 bA rfl rfl rfl (by omega) rfl) rfl<|s1 (bY bA rfl rfl (iM hl he) hok.len) rfl ?_
  refine ak rfl (bp 6 rfl bA rfl rfl ?_)
  refine ak rfl (bb bA rfl rfl rfl hok.len (by simp) ?_)
  refine ah<|ae<|af<|ai<|s1 ((nC az rfl Tryz.underlying23 aQ rfl).v (v':= .ag (zD.map u8)) (rfl)) rfl ?_
  refine ak rfl (bp 7 rfl az rfl rfl ?_)
  refine ak rfl (bb az rfl rfl rfl (by first|rfl|omega|(simp<;>omega)|(simp [*]<;>omega)) (by first|rfl|omega|(simp<;>omega)|(simp [*]<;>omega)) ?_)
  refine ah<|ae<|af<|af<|ai<|s1 (aa rfl) rfl<|s1 (aa rfl) rfl ?_
  refine ah<|ae ?_
  refine aO rfl (fun hc21=>?_) (fun hc21=>?_)
  ·have h21 : 0 < i := by have := of_decide_eq_true hc21; omega
   obtain⟨p,hp⟩:∃p,l[i - 1]? =some p:=⟨_,List.getElem?_eq_getElem (by omega)⟩
   have hpo:=hl p (List.mem_of_getElem? hp)
   have hpv:=J6 h21 hp
   have hdp:=GD h21 hp
   refine ai<|s1 (aa rfl) rfl<|s1 (aa rfl) rfl<|s1 ((gx rfl rfl (by omega) (by omega)).v (v':=nJ (i - 1)) (congrArg (A.i .i64) (by omega))) rfl<|s1 (aT (i - 1) Tryz.underlying24 bA rfl rfl rfl (by omega) rfl) rfl<|s1 (bY bA rfl rfl (iM hl hp) hpo.len) rfl ?_
   refine ak rfl (aI false rfl (.cons (.pure pu) (.nil)) (tC p hpo) pu (.inl rfl) rfl ?_)
   refine ak rfl (bb az rfl rfl rfl (by simp) (by simp) ?_)
   refine ah<|ae<|af<|af ?_
   rcases AS e (jW l) i (jk l i) (lF l i) τ hdy with hcs|hcs|hcs|hcs|hcs|hcs|hcs|hcs|hcs|hcs|hcs
   ·obtain ⟨h1, hb⟩ := hcs
    refine bP ⟨_, [], []⟩ 67 4 bx (le_refl rfl) ?_
    refine aj 0 [] [(6,none)] (aC Tryz.underlying45 rfl an (by decide) rfl rfl) rfl rfl<|aj 1 [0] [(6,none)] (au an rfl rfl rfl) rfl rfl<|aj 2 [1] [] ((aa rfl).v (v':= .b true) (congrArg A.b (decide_eq_true (by omega)))) rfl rfl<|aj 3 [2] [] (aa rfl) rfl rfl<|av 4 [3] rfl rfl rfl rfl rfl<|av 5 [3,4] rfl rfl rfl rfl rfl<|av 6 [3,5] rfl rfl rfl rfl rfl<|aj 7 [3,6] [] (aa rfl) rfl rfl<|aj 8 [7] [] (aa rfl) rfl rfl<|av 9 [8] rfl rfl rfl rfl rfl ?_
    refine av 10 [8,9] rfl rfl rfl rfl rfl<|av 11 [8] rfl rfl rfl rfl rfl<|av 12 [8,11] rfl rfl rfl rfl rfl<|av 13 [8,12] rfl rfl rfl rfl rfl<|av 14 [8,13] rfl rfl rfl rfl rfl<|av 15 [8,10,14] rfl rfl rfl rfl rfl<|aj 16 [8,15] [] (aa rfl) rfl rfl<|aj 17 [16] [] (aa rfl) rfl rfl<|av 18 [17] rfl rfl rfl rfl rfl<|av 19 [17,18] rfl rfl rfl rfl rfl ?_
    refine av 20 [17] rfl rfl rfl rfl rfl<|av 21 [17,19,20] rfl rfl rfl rfl rfl<|aj 22 [17,21] [] (aa rfl) rfl rfl<|aj 23 [22] [] (aa rfl) rfl rfl<|av 24 [23] rfl rfl rfl rfl rfl<|av 25 [23,24] rfl rfl rfl rfl rfl<|av 26 [23,25] rfl rfl rfl rfl rfl<|aj 27 [23,26] [] (aa rfl) rfl rfl<|aj 28 [27] [] (aa rfl) rfl rfl<|av 29 [28] rfl rfl rfl rfl rfl ?_
    refine av 30 [28,29] rfl rfl rfl rfl rfl<|av 31 [28,30] rfl rfl rfl rfl rfl<|aj 32 [28,31] [] (aa rfl) rfl rfl<|aj 33 [32] [] (aa rfl) rfl rfl<|av 34 [33] rfl rfl rfl rfl rfl<|av 35 [33,34] rfl rfl rfl rfl rfl<|av 36 [33,35] rfl rfl rfl rfl rfl<|bd 37 [36] rfl rfl rfl rfl<|bd 38 [36] rfl rfl rfl rfl<|bd 39 [36,38] rfl rfl rfl rfl ?_
    refine bd 40 [36,37,39] rfl rfl rfl rfl<|bd 41 [36,40] rfl rfl rfl rfl<|bd 42 [36,41] rfl rfl rfl rfl<|bd 43 [36] rfl rfl rfl rfl<|bd 44 [36,43] rfl rfl rfl rfl<|bd 45 [36,42,44] rfl rfl rfl rfl<|av 46 [33,36,45] rfl rfl rfl rfl rfl<|aj 47 [33,46] [] (aa rfl) rfl rfl<|aj 48 [47] [] (aa rfl) rfl rfl<|av 49 [48] rfl rfl rfl rfl rfl ?_
    refine av 50 [48,49] rfl rfl rfl rfl rfl<|av 51 [48] rfl rfl rfl rfl rfl<|av 52 [48,50,51] rfl rfl rfl rfl rfl<|aj 53 [48,52] [] (aa rfl) rfl rfl<|aj 54 [53] [] (aa rfl) rfl rfl<|av 55 [54] rfl rfl rfl rfl rfl<|av 56 [54] rfl rfl rfl rfl rfl<|av 57 [54,56] rfl rfl rfl rfl rfl<|av 58 [54,55,57] rfl rfl rfl rfl rfl<|av 59 [54,58] rfl rfl rfl rfl rfl ?_
    refine aj 60 [54,59] [] (aa rfl) rfl rfl<|aj 61 [60] [] (aa rfl) rfl rfl<|av 62 [61] rfl rfl rfl rfl rfl<|av 63 [61,62] rfl rfl rfl rfl rfl<|av 64 [61,63] rfl rfl rfl rfl rfl<|av 65 [61] rfl rfl rfl rfl rfl<|av 66 [61,64,65] rfl rfl rfl rfl rfl<|bQ (by kernel_rfl) ?_
    refine s1 (aa rfl) rfl ?_
    refine ah<|ae ?_
    refine bR rfl ?_
    refine af<|ai<|s1 (aa rfl) rfl<|s1 (aa rfl) rfl ?_
    refine ah<|ae<|aE<|aH<|bg<|aH<|aH<|bg<|aH ?_
    refine aF (rs:= [.tmp 2,.tmp 3]) rfl (aD rfl (aD rfl aB)) ?_
    exact(fl (hst.trans (eo he (.inl hb)))).symm
   ·obtain ⟨h0, h1, hb⟩ := hcs
    refine bP ⟨_, [], []⟩ 67 4 bx (le_refl rfl) ?_
    refine aj 0 [] [(6,none)] (aC Tryz.underlying45 rfl an (by decide) rfl rfl) rfl rfl<|aj 1 [0] [(6,none)] (au an rfl rfl rfl) rfl rfl<|aj 2 [1] [] ((aa rfl).v (v':= .b false) (congrArg A.b (decide_eq_false (by omega)))) rfl rfl<|aj 3 [2] [] (aa rfl) rfl rfl<|ar 4 [3] [(6,none)] rfl rfl (aC Tryz.underlying45 rfl an (by decide) rfl rfl) rfl rfl<|ar 5 [3,4] [(6,none)] rfl rfl (au an rfl rfl rfl) rfl rfl<|ar 6 [3,5] [] rfl rfl ((aa rfl).v (v':= .b true) (congrArg A.b (decide_eq_true (by omega)))) rfl rfl<|aj 7 [3,6] [] (aa rfl) rfl rfl<|aj 8 [7] [] (aa rfl) rfl rfl<|av 9 [8] rfl rfl rfl rfl rfl ?_
    refine av 10 [8,9] rfl rfl rfl rfl rfl<|av 11 [8] rfl rfl rfl rfl rfl<|av 12 [8,11] rfl rfl rfl rfl rfl<|av 13 [8,12] rfl rfl rfl rfl rfl<|av 14 [8,13] rfl rfl rfl rfl rfl<|av 15 [8,10,14] rfl rfl rfl rfl rfl<|aj 16 [8,15] [] (aa rfl) rfl rfl<|aj 17 [16] [] (aa rfl) rfl rfl<|av 18 [17] rfl rfl rfl rfl rfl<|av 19 [17,18] rfl rfl rfl rfl rfl ?_
    refine av 20 [17] rfl rfl rfl rfl rfl<|av 21 [17,19,20] rfl rfl rfl rfl rfl<|aj 22 [17,21] [] (aa rfl) rfl rfl<|aj 23 [22] [] (aa rfl) rfl rfl<|av 24 [23] rfl rfl rfl rfl rfl<|av 25 [23,24] rfl rfl rfl rfl rfl<|av 26 [23,25] rfl rfl rfl rfl rfl<|aj 27 [23,26] [] (aa rfl) rfl rfl<|aj 28 [27] [] (aa rfl) rfl rfl<|av 29 [28] rfl rfl rfl rfl rfl ?_
    refine av 30 [28,29] rfl rfl rfl rfl rfl<|av 31 [28,30] rfl rfl rfl rfl rfl<|aj 32 [28,31] [] (aa rfl) rfl rfl<|aj 33 [32] [] (aa rfl) rfl rfl<|av 34 [33] rfl rfl rfl rfl rfl<|av 35 [33,34] rfl rfl rfl rfl rfl<|av 36 [33,35] rfl rfl rfl rfl rfl<|bd 37 [36] rfl rfl rfl rfl<|bd 38 [36] rfl rfl rfl rfl<|bd 39 [36,38] rfl rfl rfl rfl ?_
    refine bd 40 [36,37,39] rfl rfl rfl rfl<|bd 41 [36,40] rfl rfl rfl rfl<|bd 42 [36,41] rfl rfl rfl rfl<|bd 43 [36] rfl rfl rfl rfl<|bd 44 [36,43] rfl rfl rfl rfl<|bd 45 [36,42,44] rfl rfl rfl rfl<|av 46 [33,36,45] rfl rfl rfl rfl rfl<|aj 47 [33,46] [] (aa rfl) rfl rfl<|aj 48 [47] [] (aa rfl) rfl rfl<|av 49 [48] rfl rfl rfl rfl rfl ?_
    refine av 50 [48,49] rfl rfl rfl rfl rfl<|av 51 [48] rfl rfl rfl rfl rfl<|av 52 [48,50,51] rfl rfl rfl rfl rfl<|aj 53 [48,52] [] (aa rfl) rfl rfl<|aj 54 [53] [] (aa rfl) rfl rfl<|av 55 [54] rfl rfl rfl rfl rfl<|av 56 [54] rfl rfl rfl rfl rfl<|av 57 [54,56] rfl rfl rfl rfl rfl<|av 58 [54,55,57] rfl rfl rfl rfl rfl<|av 59 [54,58] rfl rfl rfl rfl rfl ?_
    refine aj 60 [54,59] [] (aa rfl) rfl rfl<|aj 61 [60] [] (aa rfl) rfl rfl<|av 62 [61] rfl rfl rfl rfl rfl<|av 63 [61,62] rfl rfl rfl rfl rfl<|av 64 [61,63] rfl rfl rfl rfl rfl<|av 65 [61] rfl rfl rfl rfl rfl<|av 66 [61,64,65] rfl rfl rfl rfl rfl<|bQ (by kernel_rfl) ?_
    refine s1 (aa rfl) rfl ?_
    refine ah<|ae ?_
    refine bR rfl ?_
    refine af<|ai<|s1 (aa rfl) rfl<|s1 (aa rfl) rfl ?_
    refine ah<|ae<|aE<|aH<|bg<|aH<|aH<|bg<|aH ?_
    refine aF (rs:= [.tmp 2,.tmp 3]) rfl (aD rfl (aD rfl aB)) ?_
    exact(fl (hst.trans (eo he (.inl hb)))).symm
   ·obtain ⟨⟨h0, h1⟩, h2, hb⟩ := hcs
    refine bP ⟨_, [], []⟩ 67 4 bx (le_refl rfl) ?_
    refine aj 0 [] [(6,none)] (aC Tryz.underlying45 rfl an (by decide) rfl rfl) rfl rfl<|aj 1 [0] [(6,none)] (au an rfl rfl rfl) rfl rfl<|aj 2 [1] [] ((aa rfl).v (v':= .b false) (congrArg A.b (decide_eq_false (by omega)))) rfl rfl<|aj 3 [2] [] (aa rfl) rfl rfl<|ar 4 [3] [(6,none)] rfl rfl (aC Tryz.underlying45 rfl an (by decide) rfl rfl) rfl rfl<|ar 5 [3,4] [(6,none)] rfl rfl (au an rfl rfl rfl) rfl rfl<|ar 6 [3,5] [] rfl rfl ((aa rfl).v (v':= .b false) (congrArg A.b (decide_eq_false (by omega)))) rfl rfl<|aj 7 [3,6] [] (aa rfl) rfl rfl<|aj 8 [7] [] (aa rfl) rfl rfl<|ar 9 [8] [(6,none)] rfl rfl (aC Tryz.underlying45 rfl an (by decide) rfl rfl) rfl rfl ?_
    refine ar 10 [8,9] [(6,none)] rfl rfl (au an rfl rfl rfl) rfl rfl<|ar 11 [8] [] rfl rfl (aa rfl) rfl rfl<|ar 12 [8,11] [] rfl rfl (aT 0 Tryz.underlying24 bA rfl rfl rfl (by omega) rfl) rfl rfl<|ar 13 [8,12] [] rfl rfl (bj Tryz.underlying45 rfl an (by decide) rfl rfl) rfl rfl<|ar 14 [8,13] [] rfl rfl (au an rfl rfl (dJ hl he0 (k:=0) rfl (by decide))) rfl rfl<|ar 15 [8,10,14] [] rfl rfl ((aa rfl).v (v':= .b true) (congrArg A.b (bne_iff_ne.2 (by omega)))) rfl rfl<|aj 16 [8,15] [] (aa rfl) rfl rfl<|aj 17 [16] [] (aa rfl) rfl rfl<|av 18 [17] rfl rfl rfl rfl rfl<|av 19 [17,18] rfl rfl rfl rfl rfl ?_
    refine av 20 [17] rfl rfl rfl rfl rfl<|av 21 [17,19,20] rfl rfl rfl rfl rfl<|aj 22 [17,21] [] (aa rfl) rfl rfl<|aj 23 [22] [] (aa rfl) rfl rfl<|av 24 [23] rfl rfl rfl rfl rfl<|av 25 [23,24] rfl rfl rfl rfl rfl<|av 26 [23,25] rfl rfl rfl rfl rfl<|aj 27 [23,26] [] (aa rfl) rfl rfl<|aj 28 [27] [] (aa rfl) rfl rfl<|av 29 [28] rfl rfl rfl rfl rfl ?_
    refine av 30 [28,29] rfl rfl rfl rfl rfl<|av 31 [28,30] rfl rfl rfl rfl rfl<|aj 32 [28,31] [] (aa rfl) rfl rfl<|aj 33 [32] [] (aa rfl) rfl rfl<|av 34 [33] rfl rfl rfl rfl rfl<|av 35 [33,34] rfl rfl rfl rfl rfl<|av 36 [33,35] rfl rfl rfl rfl rfl<|bd 37 [36] rfl rfl rfl rfl<|bd 38 [36] rfl rfl rfl rfl<|bd 39 [36,38] rfl rfl rfl rfl ?_
    refine bd 40 [36,37,39] rfl rfl rfl rfl<|bd 41 [36,40] rfl rfl rfl rfl<|bd 42 [36,41] rfl rfl rfl rfl<|bd 43 [36] rfl rfl rfl rfl<|bd 44 [36,43] rfl rfl rfl rfl<|bd 45 [36,42,44] rfl rfl rfl rfl<|av 46 [33,36,45] rfl rfl rfl rfl rfl<|aj 47 [33,46] [] (aa rfl) rfl rfl<|aj 48 [47] [] (aa rfl) rfl rfl<|av 49 [48] rfl rfl rfl rfl rfl ?_
    refine av 50 [48,49] rfl rfl rfl rfl rfl<|av 51 [48] rfl rfl rfl rfl rfl<|av 52 [48,50,51] rfl rfl rfl rfl rfl<|aj 53 [48,52] [] (aa rfl) rfl rfl<|aj 54 [53] [] (aa rfl) rfl rfl<|av 55 [54] rfl rfl rfl rfl rfl<|av 56 [54] rfl rfl rfl rfl rfl<|av 57 [54,56] rfl rfl rfl rfl rfl<|av 58 [54,55,57] rfl rfl rfl rfl rfl<|av 59 [54,58] rfl rfl rfl rfl rfl ?_
    refine aj 60 [54,59] [] (aa rfl) rfl rfl<|aj 61 [60] [] (aa rfl) rfl rfl<|av 62 [61] rfl rfl rfl rfl rfl<|av 63 [61,62] rfl rfl rfl rfl rfl<|av 64 [61,63] rfl rfl rfl rfl rfl<|av 65 [61] rfl rfl rfl rfl rfl<|av 66 [61,64,65] rfl rfl rfl rfl rfl<|bQ (by kernel_rfl) ?_
    refine s1 (aa rfl) rfl ?_
    refine ah<|ae ?_
    refine bR rfl ?_
    refine af<|ai<|s1 (aa rfl) rfl<|s1 (aa rfl) rfl ?_
    refine ah<|ae<|aE<|aH<|bg<|aH<|aH<|bg<|aH ?_
    refine aF (rs:= [.tmp 2,.tmp 3]) rfl (aD rfl (aD rfl aB)) ?_
    exact(fl (hst.trans (eo he (.inl hb)))).symm
   ·obtain ⟨⟨h0, h1, h2⟩, h3, hb⟩ := hcs
    refine bP ⟨_, [], []⟩ 67 4 bx (le_refl rfl) ?_
    refine aj 0 [] [(6,none)] (aC Tryz.underlying45 rfl an (by decide) rfl rfl) rfl rfl<|aj 1 [0] [(6,none)] (au an rfl rfl rfl) rfl rfl<|aj 2 [1] [] ((aa rfl).v (v':= .b false) (congrArg A.b (decide_eq_false (by omega)))) rfl rfl<|aj 3 [2] [] (aa rfl) rfl rfl<|ar 4 [3] [(6,none)] rfl rfl (aC Tryz.underlying45 rfl an (by decide) rfl rfl) rfl rfl<|ar 5 [3,4] [(6,none)] rfl rfl (au an rfl rfl rfl) rfl rfl<|ar 6 [3,5] [] rfl rfl ((aa rfl).v (v':= .b false) (congrArg A.b (decide_eq_false (by omega)))) rfl rfl<|aj 7 [3,6] [] (aa rfl) rfl rfl<|aj 8 [7] [] (aa rfl) rfl rfl<|ar 9 [8] [(6,none)] rfl rfl (aC Tryz.underlying45 rfl an (by decide) rfl rfl) rfl rfl ?_
    refine ar 10 [8,9] [(6,none)] rfl rfl (au an rfl rfl rfl) rfl rfl<|ar 11 [8] [] rfl rfl (aa rfl) rfl rfl<|ar 12 [8,11] [] rfl rfl (aT 0 Tryz.underlying24 bA rfl rfl rfl (by omega) rfl) rfl rfl<|ar 13 [8,12] [] rfl rfl (bj Tryz.underlying45 rfl an (by decide) rfl rfl) rfl rfl<|ar 14 [8,13] [] rfl rfl (au an rfl rfl (dJ hl he0 (k:=0) rfl (by decide))) rfl rfl<|ar 15 [8,10,14] [] rfl rfl ((aa rfl).v (v':= .b false) (congrArg A.b (bne_eq_false_iff_eq.2 (by omega)))) rfl rfl<|aj 16 [8,15] [] (aa rfl) rfl rfl<|aj 17 [16] [] (aa rfl) rfl rfl<|ar 18 [17] [(6,none)] rfl rfl (aC Tryz.underlying45 rfl an (by decide) rfl rfl) rfl rfl<|ar 19 [17,18] [(6,none)] rfl rfl (au an rfl rfl rfl) rfl rfl ?_
    refine ar 20 [17] [] rfl rfl (aa rfl) rfl rfl<|ar 21 [17,19,20] [] rfl rfl ((aa rfl).v (v':= .b true) (congrArg A.b (bne_iff_ne.2 (by omega)))) rfl rfl<|aj 22 [17,21] [] (aa rfl) rfl rfl<|aj 23 [22] [] (aa rfl) rfl rfl<|av 24 [23] rfl rfl rfl rfl rfl<|av 25 [23,24] rfl rfl rfl rfl rfl<|av 26 [23,25] rfl rfl rfl rfl rfl<|aj 27 [23,26] [] (aa rfl) rfl rfl<|aj 28 [27] [] (aa rfl) rfl rfl<|av 29 [28] rfl rfl rfl rfl rfl ?_
    refine av 30 [28,29] rfl rfl rfl rfl rfl<|av 31 [28,30] rfl rfl rfl rfl rfl<|aj 32 [28,31] [] (aa rfl) rfl rfl<|aj 33 [32] [] (aa rfl) rfl rfl<|av 34 [33] rfl rfl rfl rfl rfl<|av 35 [33,34] rfl rfl rfl rfl rfl<|av 36 [33,35] rfl rfl rfl rfl rfl<|bd 37 [36] rfl rfl rfl rfl<|bd 38 [36] rfl rfl rfl rfl<|bd 39 [36,38] rfl rfl rfl rfl ?_
    refine bd 40 [36,37,39] rfl rfl rfl rfl<|bd 41 [36,40] rfl rfl rfl rfl<|bd 42 [36,41] rfl rfl rfl rfl<|bd 43 [36] rfl rfl rfl rfl<|bd 44 [36,43] rfl rfl rfl rfl<|bd 45 [36,42,44] rfl rfl rfl rfl<|av 46 [33,36,45] rfl rfl rfl rfl rfl<|aj 47 [33,46] [] (aa rfl) rfl rfl<|aj 48 [47] [] (aa rfl) rfl rfl<|av 49 [48] rfl rfl rfl rfl rfl ?_
    refine av 50 [48,49] rfl rfl rfl rfl rfl<|av 51 [48] rfl rfl rfl rfl rfl<|av 52 [48,50,51] rfl rfl rfl rfl rfl<|aj 53 [48,52] [] (aa rfl) rfl rfl<|aj 54 [53] [] (aa rfl) rfl rfl<|av 55 [54] rfl rfl rfl rfl rfl<|av 56 [54] rfl rfl rfl rfl rfl<|av 57 [54,56] rfl rfl rfl rfl rfl<|av 58 [54,55,57] rfl rfl rfl rfl rfl<|av 59 [54,58] rfl rfl rfl rfl rfl ?_
    refine aj 60 [54,59] [] (aa rfl) rfl rfl<|aj 61 [60] [] (aa rfl) rfl rfl<|av 62 [61] rfl rfl rfl rfl rfl<|av 63 [61,62] rfl rfl rfl rfl rfl<|av 64 [61,63] rfl rfl rfl rfl rfl<|av 65 [61] rfl rfl rfl rfl rfl<|av 66 [61,64,65] rfl rfl rfl rfl rfl<|bQ (by kernel_rfl) ?_
    refine s1 (aa rfl) rfl ?_
    refine ah<|ae ?_
    refine bR rfl ?_
    refine af<|ai<|s1 (aa rfl) rfl<|s1 (aa rfl) rfl ?_
    refine ah<|ae<|aE<|aH<|bg<|aH<|aH<|bg<|aH ?_
    refine aF (rs:= [.tmp 2,.tmp 3]) rfl (aD rfl (aD rfl aB)) ?_
    exact(fl (hst.trans (eo he (.inl hb)))).symm
   ·obtain ⟨⟨h0, h1, h2, h3⟩, h4, hb⟩ := hcs
    refine bP ⟨_, [], []⟩ 67 4 bx (le_refl rfl) ?_
    refine aj 0 [] [(6,none)] (aC Tryz.underlying45 rfl an (by decide) rfl rfl) rfl rfl<|aj 1 [0] [(6,none)] (au an rfl rfl rfl) rfl rfl<|aj 2 [1] [] ((aa rfl).v (v':= .b false) (congrArg A.b (decide_eq_false (by omega)))) rfl rfl<|aj 3 [2] [] (aa rfl) rfl rfl<|ar 4 [3] [(6,none)] rfl rfl (aC Tryz.underlying45 rfl an (by decide) rfl rfl) rfl rfl<|ar 5 [3,4] [(6,none)] rfl rfl (au an rfl rfl rfl) rfl rfl<|ar 6 [3,5] [] rfl rfl ((aa rfl).v (v':= .b false) (congrArg A.b (decide_eq_false (by omega)))) rfl rfl<|aj 7 [3,6] [] (aa rfl) rfl rfl<|aj 8 [7] [] (aa rfl) rfl rfl<|ar 9 [8] [(6,none)] rfl rfl (aC Tryz.underlying45 rfl an (by decide) rfl rfl) rfl rfl ?_
    refine ar 10 [8,9] [(6,none)] rfl rfl (au an rfl rfl rfl) rfl rfl<|ar 11 [8] [] rfl rfl (aa rfl) rfl rfl<|ar 12 [8,11] [] rfl rfl (aT 0 Tryz.underlying24 bA rfl rfl rfl (by omega) rfl) rfl rfl<|ar 13 [8,12] [] rfl rfl (bj Tryz.underlying45 rfl an (by decide) rfl rfl) rfl rfl<|ar 14 [8,13] [] rfl rfl (au an rfl rfl (dJ hl he0 (k:=0) rfl (by decide))) rfl rfl<|ar 15 [8,10,14] [] rfl rfl ((aa rfl).v (v':= .b false) (congrArg A.b (bne_eq_false_iff_eq.2 (by omega)))) rfl rfl<|aj 16 [8,15] [] (aa rfl) rfl rfl<|aj 17 [16] [] (aa rfl) rfl rfl<|ar 18 [17] [(6,none)] rfl rfl (aC Tryz.underlying45 rfl an (by decide) rfl rfl) rfl rfl<|ar 19 [17,18] [(6,none)] rfl rfl (au an rfl rfl rfl) rfl rfl ?_
    refine ar 20 [17] [] rfl rfl (aa rfl) rfl rfl<|ar 21 [17,19,20] [] rfl rfl ((aa rfl).v (v':= .b false) (congrArg A.b (bne_eq_false_iff_eq.2 (by omega)))) rfl rfl<|aj 22 [17,21] [] (aa rfl) rfl rfl<|aj 23 [22] [] (aa rfl) rfl rfl<|ar 24 [23] [(6,none)] rfl rfl (aC Tryz.underlying45 rfl an (by decide) rfl rfl) rfl rfl<|ar 25 [23,24] [(6,none)] rfl rfl (au an rfl rfl rfl) rfl rfl<|ar 26 [23,25] [] rfl rfl ((aa rfl).v (v':= .b true) (congrArg A.b (decide_eq_true (by omega)))) rfl rfl<|aj 27 [23,26] [] (aa rfl) rfl rfl<|aj 28 [27] [] (aa rfl) rfl rfl<|av 29 [28] rfl rfl rfl rfl rfl ?_
    refine av 30 [28,29] rfl rfl rfl rfl rfl<|av 31 [28,30] rfl rfl rfl rfl rfl<|aj 32 [28,31] [] (aa rfl) rfl rfl<|aj 33 [32] [] (aa rfl) rfl rfl<|av 34 [33] rfl rfl rfl rfl rfl<|av 35 [33,34] rfl rfl rfl rfl rfl<|av 36 [33,35] rfl rfl rfl rfl rfl<|bd 37 [36] rfl rfl rfl rfl<|bd 38 [36] rfl rfl rfl rfl<|bd 39 [36,38] rfl rfl rfl rfl ?_
    refine bd 40 [36,37,39] rfl rfl rfl rfl<|bd 41 [36,40] rfl rfl rfl rfl<|bd 42 [36,41] rfl rfl rfl rfl<|bd 43 [36] rfl rfl rfl rfl<|bd 44 [36,43] rfl rfl rfl rfl<|bd 45 [36,42,44] rfl rfl rfl rfl<|av 46 [33,36,45] rfl rfl rfl rfl rfl<|aj 47 [33,46] [] (aa rfl) rfl rfl<|aj 48 [47] [] (aa rfl) rfl rfl<|av 49 [48] rfl rfl rfl rfl rfl ?_
    refine av 50 [48,49] rfl rfl rfl rfl rfl<|av 51 [48] rfl rfl rfl rfl rfl<|av 52 [48,50,51] rfl rfl rfl rfl rfl<|aj 53 [48,52] [] (aa rfl) rfl rfl<|aj 54 [53] [] (aa rfl) rfl rfl<|av 55 [54] rfl rfl rfl rfl rfl<|av 56 [54] rfl rfl rfl rfl rfl<|av 57 [54,56] rfl rfl rfl rfl rfl<|av 58 [54,55,57] rfl rfl rfl rfl rfl<|av 59 [54,58] rfl rfl rfl rfl rfl ?_
    refine aj 60 [54,59] [] (aa rfl) rfl rfl<|aj 61 [60] [] (aa rfl) rfl rfl<|av 62 [61] rfl rfl rfl rfl rfl<|av 63 [61,62] rfl rfl rfl rfl rfl<|av 64 [61,63] rfl rfl rfl rfl rfl<|av 65 [61] rfl rfl rfl rfl rfl<|av 66 [61,64,65] rfl rfl rfl rfl rfl<|bQ (by kernel_rfl) ?_
    refine s1 (aa rfl) rfl ?_
    refine ah<|ae ?_
    refine bR rfl ?_
    refine af<|ai<|s1 (aa rfl) rfl<|s1 (aa rfl) rfl ?_
    refine ah<|ae<|aE<|aH<|bg<|aH<|aH<|bg<|aH ?_
    refine aF (rs:= [.tmp 2,.tmp 3]) rfl (aD rfl (aD rfl aB)) ?_
    exact(fl (hst.trans (eo he (.inl hb)))).symm
   ·obtain ⟨⟨h0, h1, h2, h3, h4⟩, h5, hb⟩ := hcs
    refine bP ⟨_, [], []⟩ 67 4 bx (le_refl rfl) ?_
    refine aj 0 [] [(6,none)] (aC Tryz.underlying45 rfl an (by decide) rfl rfl) rfl rfl<|aj 1 [0] [(6,none)] (au an rfl rfl rfl) rfl rfl<|aj 2 [1] [] ((aa rfl).v (v':= .b false) (congrArg A.b (decide_eq_false (by omega)))) rfl rfl<|aj 3 [2] [] (aa rfl) rfl rfl<|ar 4 [3] [(6,none)] rfl rfl (aC Tryz.underlying45 rfl an (by decide) rfl rfl) rfl rfl<|ar 5 [3,4] [(6,none)] rfl rfl (au an rfl rfl rfl) rfl rfl<|ar 6 [3,5] [] rfl rfl ((aa rfl).v (v':= .b false) (congrArg A.b (decide_eq_false (by omega)))) rfl rfl<|aj 7 [3,6] [] (aa rfl) rfl rfl<|aj 8 [7] [] (aa rfl) rfl rfl<|ar 9 [8] [(6,none)] rfl rfl (aC Tryz.underlying45 rfl an (by decide) rfl rfl) rfl rfl ?_
    refine ar 10 [8,9] [(6,none)] rfl rfl (au an rfl rfl rfl) rfl rfl<|ar 11 [8] [] rfl rfl (aa rfl) rfl rfl<|ar 12 [8,11] [] rfl rfl (aT 0 Tryz.underlying24 bA rfl rfl rfl (by omega) rfl) rfl rfl<|ar 13 [8,12] [] rfl rfl (bj Tryz.underlying45 rfl an (by decide) rfl rfl) rfl rfl<|ar 14 [8,13] [] rfl rfl (au an rfl rfl (dJ hl he0 (k:=0) rfl (by decide))) rfl rfl<|ar 15 [8,10,14] [] rfl rfl ((aa rfl).v (v':= .b false) (congrArg A.b (bne_eq_false_iff_eq.2 (by omega)))) rfl rfl<|aj 16 [8,15] [] (aa rfl) rfl rfl<|aj 17 [16] [] (aa rfl) rfl rfl<|ar 18 [17] [(6,none)] rfl rfl (aC Tryz.underlying45 rfl an (by decide) rfl rfl) rfl rfl<|ar 19 [17,18] [(6,none)] rfl rfl (au an rfl rfl rfl) rfl rfl ?_
    refine ar 20 [17] [] rfl rfl (aa rfl) rfl rfl<|ar 21 [17,19,20] [] rfl rfl ((aa rfl).v (v':= .b false) (congrArg A.b (bne_eq_false_iff_eq.2 (by omega)))) rfl rfl<|aj 22 [17,21] [] (aa rfl) rfl rfl<|aj 23 [22] [] (aa rfl) rfl rfl<|ar 24 [23] [(6,none)] rfl rfl (aC Tryz.underlying45 rfl an (by decide) rfl rfl) rfl rfl<|ar 25 [23,24] [(6,none)] rfl rfl (au an rfl rfl rfl) rfl rfl<|ar 26 [23,25] [] rfl rfl ((aa rfl).v (v':= .b false) (congrArg A.b (decide_eq_false (by omega)))) rfl rfl<|aj 27 [23,26] [] (aa rfl) rfl rfl<|aj 28 [27] [] (aa rfl) rfl rfl<|ar 29 [28] [(6,none)] rfl rfl (aC Tryz.underlying45 rfl an (by decide) rfl rfl) rfl rfl ?_
    refine ar 30 [28,29] [(6,none)] rfl rfl (au an rfl rfl rfl) rfl rfl<|ar 31 [28,30] [] rfl rfl ((aa rfl).v (v':= .b true) (congrArg A.b (decide_eq_true (by omega)))) rfl rfl<|aj 32 [28,31] [] (aa rfl) rfl rfl<|aj 33 [32] [] (aa rfl) rfl rfl<|av 34 [33] rfl rfl rfl rfl rfl<|av 35 [33,34] rfl rfl rfl rfl rfl<|av 36 [33,35] rfl rfl rfl rfl rfl<|bd 37 [36] rfl rfl rfl rfl<|bd 38 [36] rfl rfl rfl rfl<|bd 39 [36,38] rfl rfl rfl rfl ?_
    refine bd 40 [36,37,39] rfl rfl rfl rfl<|bd 41 [36,40] rfl rfl rfl rfl<|bd 42 [36,41] rfl rfl rfl rfl<|bd 43 [36] rfl rfl rfl rfl<|bd 44 [36,43] rfl rfl rfl rfl<|bd 45 [36,42,44] rfl rfl rfl rfl<|av 46 [33,36,45] rfl rfl rfl rfl rfl<|aj 47 [33,46] [] (aa rfl) rfl rfl<|aj 48 [47] [] (aa rfl) rfl rfl<|av 49 [48] rfl rfl rfl rfl rfl ?_
    refine av 50 [48,49] rfl rfl rfl rfl rfl<|av 51 [48] rfl rfl rfl rfl rfl<|av 52 [48,50,51] rfl rfl rfl rfl rfl<|aj 53 [48,52] [] (aa rfl) rfl rfl<|aj 54 [53] [] (aa rfl) rfl rfl<|av 55 [54] rfl rfl rfl rfl rfl<|av 56 [54] rfl rfl rfl rfl rfl<|av 57 [54,56] rfl rfl rfl rfl rfl<|av 58 [54,55,57] rfl rfl rfl rfl rfl<|av 59 [54,58] rfl rfl rfl rfl rfl ?_
    refine aj 60 [54,59] [] (aa rfl) rfl rfl<|aj 61 [60] [] (aa rfl) rfl rfl<|av 62 [61] rfl rfl rfl rfl rfl<|av 63 [61,62] rfl rfl rfl rfl rfl<|av 64 [61,63] rfl rfl rfl rfl rfl<|av 65 [61] rfl rfl rfl rfl rfl<|av 66 [61,64,65] rfl rfl rfl rfl rfl<|bQ (by kernel_rfl) ?_
    refine s1 (aa rfl) rfl ?_
    refine ah<|ae ?_
    refine bR rfl ?_
    refine af<|ai<|s1 (aa rfl) rfl<|s1 (aa rfl) rfl ?_
    refine ah<|ae<|aE<|aH<|bg<|aH<|aH<|bg<|aH ?_
    refine aF (rs:= [.tmp 2,.tmp 3]) rfl (aD rfl (aD rfl aB)) ?_
    exact(fl (hst.trans (eo he (.inl hb)))).symm
   ·obtain ⟨⟨r1, r2, r3, r4, r5, r6⟩, h7, hb⟩ := hcs
    refine bP ⟨_, [], []⟩ 67 4 bx (le_refl rfl) ?_
    refine aj 0 [] [(6,none)] (aC Tryz.underlying45 rfl an (by decide) rfl rfl) rfl rfl<|aj 1 [0] [(6,none)] (au an rfl rfl rfl) rfl rfl<|aj 2 [1] [] ((aa rfl).v (v':= .b false) (congrArg A.b (decide_eq_false (by omega)))) rfl rfl<|aj 3 [2] [] (aa rfl) rfl rfl<|ar 4 [3] [(6,none)] rfl rfl (aC Tryz.underlying45 rfl an (by decide) rfl rfl) rfl rfl<|ar 5 [3,4] [(6,none)] rfl rfl (au an rfl rfl rfl) rfl rfl<|ar 6 [3,5] [] rfl rfl ((aa rfl).v (v':= .b false) (congrArg A.b (decide_eq_false (by omega)))) rfl rfl<|aj 7 [3,6] [] (aa rfl) rfl rfl<|aj 8 [7] [] (aa rfl) rfl rfl<|ar 9 [8] [(6,none)] rfl rfl (aC Tryz.underlying45 rfl an (by decide) rfl rfl) rfl rfl ?_
    refine ar 10 [8,9] [(6,none)] rfl rfl (au an rfl rfl rfl) rfl rfl<|ar 11 [8] [] rfl rfl (aa rfl) rfl rfl<|ar 12 [8,11] [] rfl rfl (aT 0 Tryz.underlying24 bA rfl rfl rfl (by omega) rfl) rfl rfl<|ar 13 [8,12] [] rfl rfl (bj Tryz.underlying45 rfl an (by decide) rfl rfl) rfl rfl<|ar 14 [8,13] [] rfl rfl (au an rfl rfl (dJ hl he0 (k:=0) rfl (by decide))) rfl rfl<|ar 15 [8,10,14] [] rfl rfl ((aa rfl).v (v':= .b false) (congrArg A.b (bne_eq_false_iff_eq.2 (by omega)))) rfl rfl<|aj 16 [8,15] [] (aa rfl) rfl rfl<|aj 17 [16] [] (aa rfl) rfl rfl<|ar 18 [17] [(6,none)] rfl rfl (aC Tryz.underlying45 rfl an (by decide) rfl rfl) rfl rfl<|ar 19 [17,18] [(6,none)] rfl rfl (au an rfl rfl rfl) rfl rfl ?_
    refine ar 20 [17] [] rfl rfl (aa rfl) rfl rfl<|ar 21 [17,19,20] [] rfl rfl ((aa rfl).v (v':= .b false) (congrArg A.b (bne_eq_false_iff_eq.2 (by omega)))) rfl rfl<|aj 22 [17,21] [] (aa rfl) rfl rfl<|aj 23 [22] [] (aa rfl) rfl rfl<|ar 24 [23] [(6,none)] rfl rfl (aC Tryz.underlying45 rfl an (by decide) rfl rfl) rfl rfl<|ar 25 [23,24] [(6,none)] rfl rfl (au an rfl rfl rfl) rfl rfl<|ar 26 [23,25] [] rfl rfl ((aa rfl).v (v':= .b false) (congrArg A.b (decide_eq_false (by omega)))) rfl rfl<|aj 27 [23,26] [] (aa rfl) rfl rfl<|aj 28 [27] [] (aa rfl) rfl rfl<|ar 29 [28] [(6,none)] rfl rfl (aC Tryz.underlying45 rfl an (by decide) rfl rfl) rfl rfl ?_
    refine ar 30 [28,29] [(6,none)] rfl rfl (au an rfl rfl rfl) rfl rfl<|ar 31 [28,30] [] rfl rfl ((aa rfl).v (v':= .b false) (congrArg A.b (decide_eq_false (by omega)))) rfl rfl<|aj 32 [28,31] [] (aa rfl) rfl rfl<|aj 33 [32] [] (aa rfl) rfl rfl<|ar 34 [33] [] rfl rfl (aa rfl) rfl rfl<|ar 35 [33,34] [] rfl rfl ((aa rfl).v (v':= .b true) (congrArg A.b (decide_eq_true (by omega)))) rfl rfl<|ar 36 [33,35] [] rfl rfl (aa rfl) rfl rfl<|ar 37 [36] [] rfl rfl (aa rfl) rfl rfl<|ar 38 [36] [] rfl rfl (aa rfl) rfl rfl<|ar 39 [36,38] [] rfl rfl ((gx rfl rfl (by omega) (by omega)).v (v':=nJ (i - 1)) (congrArg (A.i .i64) (by omega))) rfl rfl ?_
    refine ar 40 [36,37,39] [] rfl rfl (aT (i - 1) Tryz.underlying24 bA rfl rfl rfl (by omega) rfl) rfl rfl<|ar 41 [36,40] [] rfl rfl (bj Tryz.underlying45 rfl an (by decide) rfl rfl) rfl rfl<|ar 42 [36,41] [] rfl rfl (au an rfl rfl (dJ hl hp (k:=2) rfl (by decide))) rfl rfl<|ar 43 [36] [(6,none)] rfl rfl (aC Tryz.underlying45 rfl an (by decide) rfl rfl) rfl rfl<|ar 44 [36,43] [(6,none)] rfl rfl (au an rfl rfl rfl) rfl rfl<|ar 45 [36,42,44] [] rfl rfl ((aa rfl).v (v':= .b true) (congrArg A.b (decide_eq_true (by omega)))) rfl rfl<|ar 46 [33,36,45] [] rfl rfl (aa rfl) rfl rfl<|aj 47 [33,46] [] (aa rfl) rfl rfl<|aj 48 [47] [] (aa rfl) rfl rfl<|av 49 [48] rfl rfl rfl rfl rfl ?_
    refine av 50 [48,49] rfl rfl rfl rfl rfl<|av 51 [48] rfl rfl rfl rfl rfl<|av 52 [48,50,51] rfl rfl rfl rfl rfl<|aj 53 [48,52] [] (aa rfl) rfl rfl<|aj 54 [53] [] (aa rfl) rfl rfl<|av 55 [54] rfl rfl rfl rfl rfl<|av 56 [54] rfl rfl rfl rfl rfl<|av 57 [54,56] rfl rfl rfl rfl rfl<|av 58 [54,55,57] rfl rfl rfl rfl rfl<|av 59 [54,58] rfl rfl rfl rfl rfl ?_
    refine aj 60 [54,59] [] (aa rfl) rfl rfl<|aj 61 [60] [] (aa rfl) rfl rfl<|av 62 [61] rfl rfl rfl rfl rfl<|av 63 [61,62] rfl rfl rfl rfl rfl<|av 64 [61,63] rfl rfl rfl rfl rfl<|av 65 [61] rfl rfl rfl rfl rfl<|av 66 [61,64,65] rfl rfl rfl rfl rfl<|bQ (by kernel_rfl) ?_
    refine s1 (aa rfl) rfl ?_
    refine ah<|ae ?_
    refine bR rfl ?_
    refine af<|ai<|s1 (aa rfl) rfl<|s1 (aa rfl) rfl ?_
    refine ah<|ae<|aE<|aH<|bg<|aH<|aH<|bg<|aH ?_
    refine aF (rs:= [.tmp 2,.tmp 3]) rfl (aD rfl (aD rfl aB)) ?_
    exact(fl (hst.trans (eo he (.inl hb)))).symm
   ·obtain ⟨⟨r1, r2, r3, r4, r5, r6⟩, h7, h8, hb⟩ := hcs
    rw [hpv]at h8
    refine bP ⟨_, [], []⟩ 67 4 bx (le_refl rfl) ?_
    refine aj 0 [] [(6,none)] (aC Tryz.underlying45 rfl an (by decide) rfl rfl) rfl rfl<|aj 1 [0] [(6,none)] (au an rfl rfl rfl) rfl rfl<|aj 2 [1] [] ((aa rfl).v (v':= .b false) (congrArg A.b (decide_eq_false (by omega)))) rfl rfl<|aj 3 [2] [] (aa rfl) rfl rfl<|ar 4 [3] [(6,none)] rfl rfl (aC Tryz.underlying45 rfl an (by decide) rfl rfl) rfl rfl<|ar 5 [3,4] [(6,none)] rfl rfl (au an rfl rfl rfl) rfl rfl<|ar 6 [3,5] [] rfl rfl ((aa rfl).v (v':= .b false) (congrArg A.b (decide_eq_false (by omega)))) rfl rfl<|aj 7 [3,6] [] (aa rfl) rfl rfl<|aj 8 [7] [] (aa rfl) rfl rfl<|ar 9 [8] [(6,none)] rfl rfl (aC Tryz.underlying45 rfl an (by decide) rfl rfl) rfl rfl ?_
    refine ar 10 [8,9] [(6,none)] rfl rfl (au an rfl rfl rfl) rfl rfl<|ar 11 [8] [] rfl rfl (aa rfl) rfl rfl<|ar 12 [8,11] [] rfl rfl (aT 0 Tryz.underlying24 bA rfl rfl rfl (by omega) rfl) rfl rfl<|ar 13 [8,12] [] rfl rfl (bj Tryz.underlying45 rfl an (by decide) rfl rfl) rfl rfl<|ar 14 [8,13] [] rfl rfl (au an rfl rfl (dJ hl he0 (k:=0) rfl (by decide))) rfl rfl<|ar 15 [8,10,14] [] rfl rfl ((aa rfl).v (v':= .b false) (congrArg A.b (bne_eq_false_iff_eq.2 (by omega)))) rfl rfl<|aj 16 [8,15] [] (aa rfl) rfl rfl<|aj 17 [16] [] (aa rfl) rfl rfl<|ar 18 [17] [(6,none)] rfl rfl (aC Tryz.underlying45 rfl an (by decide) rfl rfl) rfl rfl<|ar 19 [17,18] [(6,none)] rfl rfl (au an rfl rfl rfl) rfl rfl ?_
    refine ar 20 [17] [] rfl rfl (aa rfl) rfl rfl<|ar 21 [17,19,20] [] rfl rfl ((aa rfl).v (v':= .b false) (congrArg A.b (bne_eq_false_iff_eq.2 (by omega)))) rfl rfl<|aj 22 [17,21] [] (aa rfl) rfl rfl<|aj 23 [22] [] (aa rfl) rfl rfl<|ar 24 [23] [(6,none)] rfl rfl (aC Tryz.underlying45 rfl an (by decide) rfl rfl) rfl rfl<|ar 25 [23,24] [(6,none)] rfl rfl (au an rfl rfl rfl) rfl rfl<|ar 26 [23,25] [] rfl rfl ((aa rfl).v (v':= .b false) (congrArg A.b (decide_eq_false (by omega)))) rfl rfl<|aj 27 [23,26] [] (aa rfl) rfl rfl<|aj 28 [27] [] (aa rfl) rfl rfl<|ar 29 [28] [(6,none)] rfl rfl (aC Tryz.underlying45 rfl an (by decide) rfl rfl) rfl rfl ?_
    refine ar 30 [28,29] [(6,none)] rfl rfl (au an rfl rfl rfl) rfl rfl<|ar 31 [28,30] [] rfl rfl ((aa rfl).v (v':= .b false) (congrArg A.b (decide_eq_false (by omega)))) rfl rfl<|aj 32 [28,31] [] (aa rfl) rfl rfl<|aj 33 [32] [] (aa rfl) rfl rfl<|ar 34 [33] [] rfl rfl (aa rfl) rfl rfl<|ar 35 [33,34] [] rfl rfl ((aa rfl).v (v':= .b true) (congrArg A.b (decide_eq_true (by omega)))) rfl rfl<|ar 36 [33,35] [] rfl rfl (aa rfl) rfl rfl<|ar 37 [36] [] rfl rfl (aa rfl) rfl rfl<|ar 38 [36] [] rfl rfl (aa rfl) rfl rfl<|ar 39 [36,38] [] rfl rfl ((gx rfl rfl (by omega) (by omega)).v (v':=nJ (i - 1)) (congrArg (A.i .i64) (by omega))) rfl rfl ?_
    refine ar 40 [36,37,39] [] rfl rfl (aT (i - 1) Tryz.underlying24 bA rfl rfl rfl (by omega) rfl) rfl rfl<|ar 41 [36,40] [] rfl rfl (bj Tryz.underlying45 rfl an (by decide) rfl rfl) rfl rfl<|ar 42 [36,41] [] rfl rfl (au an rfl rfl (dJ hl hp (k:=2) rfl (by decide))) rfl rfl<|ar 43 [36] [(6,none)] rfl rfl (aC Tryz.underlying45 rfl an (by decide) rfl rfl) rfl rfl<|ar 44 [36,43] [(6,none)] rfl rfl (au an rfl rfl rfl) rfl rfl<|ar 45 [36,42,44] [] rfl rfl ((aa rfl).v (v':= .b false) (congrArg A.b (decide_eq_false (by omega)))) rfl rfl<|ar 46 [33,36,45] [] rfl rfl (aa rfl) rfl rfl<|aj 47 [33,46] [] (aa rfl) rfl rfl<|aj 48 [47] [] (aa rfl) rfl rfl<|ar 49 [48] [(6,none)] rfl rfl (aC Tryz.underlying45 rfl az (by decide) rfl rfl) rfl rfl ?_
    refine ar 50 [48,49] [(6,none)] rfl rfl (bY az rfl rfl (jl hok) (by rw [List.length_map,hok.prev])) rfl rfl<|ar 51 [48] [(7,none)] rfl rfl (aV az rfl rfl (by simp)) rfl rfl<|ar 52 [48,50,51] [] rfl rfl (((kX Tryz.underlying23 Tryz.underlying5 aQ (by kernel_rfl) rfl rfl hok.prev (by simp))).v (v':= .b true) (congrArg A.b (by rw [beq_eq_false_iff_ne.2 h8];rfl))) rfl rfl<|aj 53 [48,52] [] (aa rfl) rfl rfl<|aj 54 [53] [] (aa rfl) rfl rfl<|av 55 [54] rfl rfl rfl rfl rfl<|av 56 [54] rfl rfl rfl rfl rfl<|av 57 [54,56] rfl rfl rfl rfl rfl<|av 58 [54,55,57] rfl rfl rfl rfl rfl<|av 59 [54,58] rfl rfl rfl rfl rfl ?_
    refine aj 60 [54,59] [] (aa rfl) rfl rfl<|aj 61 [60] [] (aa rfl) rfl rfl<|av 62 [61] rfl rfl rfl rfl rfl<|av 63 [61,62] rfl rfl rfl rfl rfl<|av 64 [61,63] rfl rfl rfl rfl rfl<|av 65 [61] rfl rfl rfl rfl rfl<|av 66 [61,64,65] rfl rfl rfl rfl rfl<|bQ (by kernel_rfl) ?_
    refine s1 (aa rfl) rfl ?_
    refine ah<|ae ?_
    refine bR rfl ?_
    refine af<|ai<|s1 (aa rfl) rfl<|s1 (aa rfl) rfl ?_
    refine ah<|ae<|aE<|aH<|bg<|aH<|aH<|bg<|aH ?_
    refine aF (rs:= [.tmp 2,.tmp 3]) rfl (aD rfl (aD rfl aB)) ?_
    exact(fl (hst.trans (eo he (.inl hb)))).symm
   ·obtain ⟨⟨r1, r2, r3, r4, r5, r6⟩, h7, h8, hk⟩ := hcs
    rw [hpv]at h8
    refine bP ⟨_, [], []⟩ 67 4 bx (le_refl rfl) ?_
    refine aj 0 [] [(6,none)] (aC Tryz.underlying45 rfl an (by decide) rfl rfl) rfl rfl<|aj 1 [0] [(6,none)] (au an rfl rfl rfl) rfl rfl<|aj 2 [1] [] ((aa rfl).v (v':= .b false) (congrArg A.b (decide_eq_false (by omega)))) rfl rfl<|aj 3 [2] [] (aa rfl) rfl rfl<|ar 4 [3] [(6,none)] rfl rfl (aC Tryz.underlying45 rfl an (by decide) rfl rfl) rfl rfl<|ar 5 [3,4] [(6,none)] rfl rfl (au an rfl rfl rfl) rfl rfl<|ar 6 [3,5] [] rfl rfl ((aa rfl).v (v':= .b false) (congrArg A.b (decide_eq_false (by omega)))) rfl rfl<|aj 7 [3,6] [] (aa rfl) rfl rfl<|aj 8 [7] [] (aa rfl) rfl rfl<|ar 9 [8] [(6,none)] rfl rfl (aC Tryz.underlying45 rfl an (by decide) rfl rfl) rfl rfl ?_
    refine ar 10 [8,9] [(6,none)] rfl rfl (au an rfl rfl rfl) rfl rfl<|ar 11 [8] [] rfl rfl (aa rfl) rfl rfl<|ar 12 [8,11] [] rfl rfl (aT 0 Tryz.underlying24 bA rfl rfl rfl (by omega) rfl) rfl rfl<|ar 13 [8,12] [] rfl rfl (bj Tryz.underlying45 rfl an (by decide) rfl rfl) rfl rfl<|ar 14 [8,13] [] rfl rfl (au an rfl rfl (dJ hl he0 (k:=0) rfl (by decide))) rfl rfl<|ar 15 [8,10,14] [] rfl rfl ((aa rfl).v (v':= .b false) (congrArg A.b (bne_eq_false_iff_eq.2 (by omega)))) rfl rfl<|aj 16 [8,15] [] (aa rfl) rfl rfl<|aj 17 [16] [] (aa rfl) rfl rfl<|ar 18 [17] [(6,none)] rfl rfl (aC Tryz.underlying45 rfl an (by decide) rfl rfl) rfl rfl<|ar 19 [17,18] [(6,none)] rfl rfl (au an rfl rfl rfl) rfl rfl ?_
    refine ar 20 [17] [] rfl rfl (aa rfl) rfl rfl<|ar 21 [17,19,20] [] rfl rfl ((aa rfl).v (v':= .b false) (congrArg A.b (bne_eq_false_iff_eq.2 (by omega)))) rfl rfl<|aj 22 [17,21] [] (aa rfl) rfl rfl<|aj 23 [22] [] (aa rfl) rfl rfl<|ar 24 [23] [(6,none)] rfl rfl (aC Tryz.underlying45 rfl an (by decide) rfl rfl) rfl rfl<|ar 25 [23,24] [(6,none)] rfl rfl (au an rfl rfl rfl) rfl rfl<|ar 26 [23,25] [] rfl rfl ((aa rfl).v (v':= .b false) (congrArg A.b (decide_eq_false (by omega)))) rfl rfl<|aj 27 [23,26] [] (aa rfl) rfl rfl<|aj 28 [27] [] (aa rfl) rfl rfl<|ar 29 [28] [(6,none)] rfl rfl (aC Tryz.underlying45 rfl an (by decide) rfl rfl) rfl rfl ?_
    refine ar 30 [28,29] [(6,none)] rfl rfl (au an rfl rfl rfl) rfl rfl<|ar 31 [28,30] [] rfl rfl ((aa rfl).v (v':= .b false) (congrArg A.b (decide_eq_false (by omega)))) rfl rfl<|aj 32 [28,31] [] (aa rfl) rfl rfl<|aj 33 [32] [] (aa rfl) rfl rfl<|ar 34 [33] [] rfl rfl (aa rfl) rfl rfl<|ar 35 [33,34] [] rfl rfl ((aa rfl).v (v':= .b true) (congrArg A.b (decide_eq_true (by omega)))) rfl rfl<|ar 36 [33,35] [] rfl rfl (aa rfl) rfl rfl<|ar 37 [36] [] rfl rfl (aa rfl) rfl rfl<|ar 38 [36] [] rfl rfl (aa rfl) rfl rfl<|ar 39 [36,38] [] rfl rfl ((gx rfl rfl (by omega) (by omega)).v (v':=nJ (i - 1)) (congrArg (A.i .i64) (by omega))) rfl rfl ?_
    refine ar 40 [36,37,39] [] rfl rfl (aT (i - 1) Tryz.underlying24 bA rfl rfl rfl (by omega) rfl) rfl rfl<|ar 41 [36,40] [] rfl rfl (bj Tryz.underlying45 rfl an (by decide) rfl rfl) rfl rfl<|ar 42 [36,41] [] rfl rfl (au an rfl rfl (dJ hl hp (k:=2) rfl (by decide))) rfl rfl<|ar 43 [36] [(6,none)] rfl rfl (aC Tryz.underlying45 rfl an (by decide) rfl rfl) rfl rfl<|ar 44 [36,43] [(6,none)] rfl rfl (au an rfl rfl rfl) rfl rfl<|ar 45 [36,42,44] [] rfl rfl ((aa rfl).v (v':= .b false) (congrArg A.b (decide_eq_false (by omega)))) rfl rfl<|ar 46 [33,36,45] [] rfl rfl (aa rfl) rfl rfl<|aj 47 [33,46] [] (aa rfl) rfl rfl<|aj 48 [47] [] (aa rfl) rfl rfl<|ar 49 [48] [(6,none)] rfl rfl (aC Tryz.underlying45 rfl az (by decide) rfl rfl) rfl rfl ?_
    refine ar 50 [48,49] [(6,none)] rfl rfl (bY az rfl rfl (jl hok) (by rw [List.length_map,hok.prev])) rfl rfl<|ar 51 [48] [(7,none)] rfl rfl (aV az rfl rfl (by simp)) rfl rfl<|ar 52 [48,50,51] [] rfl rfl (((kX Tryz.underlying23 Tryz.underlying5 aQ (by kernel_rfl) rfl rfl hok.prev (by simp))).v (v':= .b false) (congrArg A.b (by rw [beq_iff_eq.2 h8];rfl))) rfl rfl<|aj 53 [48,52] [] (aa rfl) rfl rfl<|aj 54 [53] [] (aa rfl) rfl rfl<|ar 55 [54] [] rfl rfl (aa rfl) rfl rfl<|ar 56 [54] [(6,none)] rfl rfl (aC Tryz.underlying45 rfl cK (by decide) rfl rfl) rfl rfl<|ar 57 [54,56] [(6,none)] rfl rfl (au cK rfl rfl rfl) rfl rfl<|bL false 58 [54,55,57] [] (mV rfl rfl) rfl (.cons (.pure pu) (.cons (.pure pu) (.nil))) (aA.cast (oQ τ bf hbf hsu e.ch (by have:=hok.gT;simp only [maxLen];omega)) (congrArg A.b hk)) pu (.inl rfl) rfl rfl<|ar 59 [54,58] [] rfl rfl ((aa rfl).v (v':= .b true) (rfl)) rfl rfl ?_
    refine aj 60 [54,59] [] (aa rfl) rfl rfl<|aj 61 [60] [] (aa rfl) rfl rfl<|av 62 [61] rfl rfl rfl rfl rfl<|av 63 [61,62] rfl rfl rfl rfl rfl<|av 64 [61,63] rfl rfl rfl rfl rfl<|av 65 [61] rfl rfl rfl rfl rfl<|av 66 [61,64,65] rfl rfl rfl rfl rfl<|bQ (by kernel_rfl) ?_
    refine s1 (aa rfl) rfl ?_
    refine ah<|ae ?_
    refine bR rfl ?_
    refine af<|ai<|s1 (aa rfl) rfl<|s1 (aa rfl) rfl ?_
    refine ah<|ae<|aE<|aH<|bg<|aH<|aH<|bg<|aH ?_
    refine aF (rs:= [.tmp 2,.tmp 3]) rfl (aD rfl (aD rfl aB)) ?_
    exact(fl (hst.trans (eo he (.inr hk)))).symm
   ·obtain ⟨⟨r1, r2, r3, r4, r5, r6⟩, h7, h8, hk, h9, hb⟩ := hcs
    rw [hpv]at h8
    refine bP ⟨_, [], []⟩ 67 4 bx (le_refl rfl) ?_
    refine aj 0 [] [(6,none)] (aC Tryz.underlying45 rfl an (by decide) rfl rfl) rfl rfl<|aj 1 [0] [(6,none)] (au an rfl rfl rfl) rfl rfl<|aj 2 [1] [] ((aa rfl).v (v':= .b false) (congrArg A.b (decide_eq_false (by omega)))) rfl rfl<|aj 3 [2] [] (aa rfl) rfl rfl<|ar 4 [3] [(6,none)] rfl rfl (aC Tryz.underlying45 rfl an (by decide) rfl rfl) rfl rfl<|ar 5 [3,4] [(6,none)] rfl rfl (au an rfl rfl rfl) rfl rfl<|ar 6 [3,5] [] rfl rfl ((aa rfl).v (v':= .b false) (congrArg A.b (decide_eq_false (by omega)))) rfl rfl<|aj 7 [3,6] [] (aa rfl) rfl rfl<|aj 8 [7] [] (aa rfl) rfl rfl<|ar 9 [8] [(6,none)] rfl rfl (aC Tryz.underlying45 rfl an (by decide) rfl rfl) rfl rfl ?_
    refine ar 10 [8,9] [(6,none)] rfl rfl (au an rfl rfl rfl) rfl rfl<|ar 11 [8] [] rfl rfl (aa rfl) rfl rfl<|ar 12 [8,11] [] rfl rfl (aT 0 Tryz.underlying24 bA rfl rfl rfl (by omega) rfl) rfl rfl<|ar 13 [8,12] [] rfl rfl (bj Tryz.underlying45 rfl an (by decide) rfl rfl) rfl rfl<|ar 14 [8,13] [] rfl rfl (au an rfl rfl (dJ hl he0 (k:=0) rfl (by decide))) rfl rfl<|ar 15 [8,10,14] [] rfl rfl ((aa rfl).v (v':= .b false) (congrArg A.b (bne_eq_false_iff_eq.2 (by omega)))) rfl rfl<|aj 16 [8,15] [] (aa rfl) rfl rfl<|aj 17 [16] [] (aa rfl) rfl rfl<|ar 18 [17] [(6,none)] rfl rfl (aC Tryz.underlying45 rfl an (by decide) rfl rfl) rfl rfl<|ar 19 [17,18] [(6,none)] rfl rfl (au an rfl rfl rfl) rfl rfl ?_
    refine ar 20 [17] [] rfl rfl (aa rfl) rfl rfl<|ar 21 [17,19,20] [] rfl rfl ((aa rfl).v (v':= .b false) (congrArg A.b (bne_eq_false_iff_eq.2 (by omega)))) rfl rfl<|aj 22 [17,21] [] (aa rfl) rfl rfl<|aj 23 [22] [] (aa rfl) rfl rfl<|ar 24 [23] [(6,none)] rfl rfl (aC Tryz.underlying45 rfl an (by decide) rfl rfl) rfl rfl<|ar 25 [23,24] [(6,none)] rfl rfl (au an rfl rfl rfl) rfl rfl<|ar 26 [23,25] [] rfl rfl ((aa rfl).v (v':= .b false) (congrArg A.b (decide_eq_false (by omega)))) rfl rfl<|aj 27 [23,26] [] (aa rfl) rfl rfl<|aj 28 [27] [] (aa rfl) rfl rfl<|ar 29 [28] [(6,none)] rfl rfl (aC Tryz.underlying45 rfl an (by decide) rfl rfl) rfl rfl ?_
    refine ar 30 [28,29] [(6,none)] rfl rfl (au an rfl rfl rfl) rfl rfl<|ar 31 [28,30] [] rfl rfl ((aa rfl).v (v':= .b false) (congrArg A.b (decide_eq_false (by omega)))) rfl rfl<|aj 32 [28,31] [] (aa rfl) rfl rfl<|aj 33 [32] [] (aa rfl) rfl rfl<|ar 34 [33] [] rfl rfl (aa rfl) rfl rfl<|ar 35 [33,34] [] rfl rfl ((aa rfl).v (v':= .b true) (congrArg A.b (decide_eq_true (by omega)))) rfl rfl<|ar 36 [33,35] [] rfl rfl (aa rfl) rfl rfl<|ar 37 [36] [] rfl rfl (aa rfl) rfl rfl<|ar 38 [36] [] rfl rfl (aa rfl) rfl rfl<|ar 39 [36,38] [] rfl rfl ((gx rfl rfl (by omega) (by omega)).v (v':=nJ (i - 1)) (congrArg (A.i .i64) (by omega))) rfl rfl ?_
    refine ar 40 [36,37,39] [] rfl rfl (aT (i - 1) Tryz.underlying24 bA rfl rfl rfl (by omega) rfl) rfl rfl<|ar 41 [36,40] [] rfl rfl (bj Tryz.underlying45 rfl an (by decide) rfl rfl) rfl rfl<|ar 42 [36,41] [] rfl rfl (au an rfl rfl (dJ hl hp (k:=2) rfl (by decide))) rfl rfl<|ar 43 [36] [(6,none)] rfl rfl (aC Tryz.underlying45 rfl an (by decide) rfl rfl) rfl rfl<|ar 44 [36,43] [(6,none)] rfl rfl (au an rfl rfl rfl) rfl rfl<|ar 45 [36,42,44] [] rfl rfl ((aa rfl).v (v':= .b false) (congrArg A.b (decide_eq_false (by omega)))) rfl rfl<|ar 46 [33,36,45] [] rfl rfl (aa rfl) rfl rfl<|aj 47 [33,46] [] (aa rfl) rfl rfl<|aj 48 [47] [] (aa rfl) rfl rfl<|ar 49 [48] [(6,none)] rfl rfl (aC Tryz.underlying45 rfl az (by decide) rfl rfl) rfl rfl ?_
    refine ar 50 [48,49] [(6,none)] rfl rfl (bY az rfl rfl (jl hok) (by rw [List.length_map,hok.prev])) rfl rfl<|ar 51 [48] [(7,none)] rfl rfl (aV az rfl rfl (by simp)) rfl rfl<|ar 52 [48,50,51] [] rfl rfl (((kX Tryz.underlying23 Tryz.underlying5 aQ (by kernel_rfl) rfl rfl hok.prev (by simp))).v (v':= .b false) (congrArg A.b (by rw [beq_iff_eq.2 h8];rfl))) rfl rfl<|aj 53 [48,52] [] (aa rfl) rfl rfl<|aj 54 [53] [] (aa rfl) rfl rfl<|ar 55 [54] [] rfl rfl (aa rfl) rfl rfl<|ar 56 [54] [(6,none)] rfl rfl (aC Tryz.underlying45 rfl cK (by decide) rfl rfl) rfl rfl<|ar 57 [54,56] [(6,none)] rfl rfl (au cK rfl rfl rfl) rfl rfl<|bL false 58 [54,55,57] [] (mV rfl rfl) rfl (.cons (.pure pu) (.cons (.pure pu) (.nil))) (aA.cast (oQ τ bf hbf hsu e.ch (by have:=hok.gT;simp only [maxLen];omega)) (congrArg A.b hk)) pu (.inl rfl) rfl rfl<|ar 59 [54,58] [] rfl rfl ((aa rfl).v (v':= .b false) (rfl)) rfl rfl ?_
    refine aj 60 [54,59] [] (aa rfl) rfl rfl<|aj 61 [60] [] (aa rfl) rfl rfl<|ar 62 [61] [(6,none)] rfl rfl (aC Tryz.underlying45 rfl dS (by decide) rfl rfl) rfl rfl<|ar 63 [61,62] [(6,none)] rfl rfl (aC Tryz.underlying43 rfl an (by decide) rfl rfl) rfl rfl<|ar 64 [61,63] [(6,none)] rfl rfl (au an rfl rfl (pS hok)) rfl rfl<|ar 65 [61] [] rfl rfl (aa rfl) rfl rfl<|ar 66 [61,64,65] [] rfl rfl ((aa rfl).v (v':= .b true) (congrArg A.b (bne_iff_ne.2 (by omega)))) rfl rfl<|bQ (by kernel_rfl) ?_
    refine s1 (aa rfl) rfl ?_
    refine ah<|ae ?_
    refine bR rfl ?_
    refine af<|ai<|s1 (aa rfl) rfl<|s1 (aa rfl) rfl ?_
    refine ah<|ae<|aE<|aH<|bg<|aH<|aH<|bg<|aH ?_
    refine aF (rs:= [.tmp 2,.tmp 3]) rfl (aD rfl (aD rfl aB)) ?_
    exact(fl (hst.trans (eo he (.inl hb)))).symm
   ·obtain ⟨⟨r1, r2, r3, r4, r5, r6⟩, h7, h8, hk, h9, hb⟩ := hcs
    rw [hpv]at h8
    refine bP ⟨_, [], []⟩ 67 4 bx (le_refl rfl) ?_
    refine aj 0 [] [(6,none)] (aC Tryz.underlying45 rfl an (by decide) rfl rfl) rfl rfl<|aj 1 [0] [(6,none)] (au an rfl rfl rfl) rfl rfl<|aj 2 [1] [] ((aa rfl).v (v':= .b false) (congrArg A.b (decide_eq_false (by omega)))) rfl rfl<|aj 3 [2] [] (aa rfl) rfl rfl<|ar 4 [3] [(6,none)] rfl rfl (aC Tryz.underlying45 rfl an (by decide) rfl rfl) rfl rfl<|ar 5 [3,4] [(6,none)] rfl rfl (au an rfl rfl rfl) rfl rfl<|ar 6 [3,5] [] rfl rfl ((aa rfl).v (v':= .b false) (congrArg A.b (decide_eq_false (by omega)))) rfl rfl<|aj 7 [3,6] [] (aa rfl) rfl rfl<|aj 8 [7] [] (aa rfl) rfl rfl<|ar 9 [8] [(6,none)] rfl rfl (aC Tryz.underlying45 rfl an (by decide) rfl rfl) rfl rfl ?_
    refine ar 10 [8,9] [(6,none)] rfl rfl (au an rfl rfl rfl) rfl rfl<|ar 11 [8] [] rfl rfl (aa rfl) rfl rfl<|ar 12 [8,11] [] rfl rfl (aT 0 Tryz.underlying24 bA rfl rfl rfl (by omega) rfl) rfl rfl<|ar 13 [8,12] [] rfl rfl (bj Tryz.underlying45 rfl an (by decide) rfl rfl) rfl rfl<|ar 14 [8,13] [] rfl rfl (au an rfl rfl (dJ hl he0 (k:=0) rfl (by decide))) rfl rfl<|ar 15 [8,10,14] [] rfl rfl ((aa rfl).v (v':= .b false) (congrArg A.b (bne_eq_false_iff_eq.2 (by omega)))) rfl rfl<|aj 16 [8,15] [] (aa rfl) rfl rfl<|aj 17 [16] [] (aa rfl) rfl rfl<|ar 18 [17] [(6,none)] rfl rfl (aC Tryz.underlying45 rfl an (by decide) rfl rfl) rfl rfl<|ar 19 [17,18] [(6,none)] rfl rfl (au an rfl rfl rfl) rfl rfl ?_
    refine ar 20 [17] [] rfl rfl (aa rfl) rfl rfl<|ar 21 [17,19,20] [] rfl rfl ((aa rfl).v (v':= .b false) (congrArg A.b (bne_eq_false_iff_eq.2 (by omega)))) rfl rfl<|aj 22 [17,21] [] (aa rfl) rfl rfl<|aj 23 [22] [] (aa rfl) rfl rfl<|ar 24 [23] [(6,none)] rfl rfl (aC Tryz.underlying45 rfl an (by decide) rfl rfl) rfl rfl<|ar 25 [23,24] [(6,none)] rfl rfl (au an rfl rfl rfl) rfl rfl<|ar 26 [23,25] [] rfl rfl ((aa rfl).v (v':= .b false) (congrArg A.b (decide_eq_false (by omega)))) rfl rfl<|aj 27 [23,26] [] (aa rfl) rfl rfl<|aj 28 [27] [] (aa rfl) rfl rfl<|ar 29 [28] [(6,none)] rfl rfl (aC Tryz.underlying45 rfl an (by decide) rfl rfl) rfl rfl ?_
    refine ar 30 [28,29] [(6,none)] rfl rfl (au an rfl rfl rfl) rfl rfl<|ar 31 [28,30] [] rfl rfl ((aa rfl).v (v':= .b false) (congrArg A.b (decide_eq_false (by omega)))) rfl rfl<|aj 32 [28,31] [] (aa rfl) rfl rfl<|aj 33 [32] [] (aa rfl) rfl rfl<|ar 34 [33] [] rfl rfl (aa rfl) rfl rfl<|ar 35 [33,34] [] rfl rfl ((aa rfl).v (v':= .b true) (congrArg A.b (decide_eq_true (by omega)))) rfl rfl<|ar 36 [33,35] [] rfl rfl (aa rfl) rfl rfl<|ar 37 [36] [] rfl rfl (aa rfl) rfl rfl<|ar 38 [36] [] rfl rfl (aa rfl) rfl rfl<|ar 39 [36,38] [] rfl rfl ((gx rfl rfl (by omega) (by omega)).v (v':=nJ (i - 1)) (congrArg (A.i .i64) (by omega))) rfl rfl ?_
    refine ar 40 [36,37,39] [] rfl rfl (aT (i - 1) Tryz.underlying24 bA rfl rfl rfl (by omega) rfl) rfl rfl<|ar 41 [36,40] [] rfl rfl (bj Tryz.underlying45 rfl an (by decide) rfl rfl) rfl rfl<|ar 42 [36,41] [] rfl rfl (au an rfl rfl (dJ hl hp (k:=2) rfl (by decide))) rfl rfl<|ar 43 [36] [(6,none)] rfl rfl (aC Tryz.underlying45 rfl an (by decide) rfl rfl) rfl rfl<|ar 44 [36,43] [(6,none)] rfl rfl (au an rfl rfl rfl) rfl rfl<|ar 45 [36,42,44] [] rfl rfl ((aa rfl).v (v':= .b false) (congrArg A.b (decide_eq_false (by omega)))) rfl rfl<|ar 46 [33,36,45] [] rfl rfl (aa rfl) rfl rfl<|aj 47 [33,46] [] (aa rfl) rfl rfl<|aj 48 [47] [] (aa rfl) rfl rfl<|ar 49 [48] [(6,none)] rfl rfl (aC Tryz.underlying45 rfl az (by decide) rfl rfl) rfl rfl ?_
    refine ar 50 [48,49] [(6,none)] rfl rfl (bY az rfl rfl (jl hok) (by rw [List.length_map,hok.prev])) rfl rfl<|ar 51 [48] [(7,none)] rfl rfl (aV az rfl rfl (by simp)) rfl rfl<|ar 52 [48,50,51] [] rfl rfl (((kX Tryz.underlying23 Tryz.underlying5 aQ (by kernel_rfl) rfl rfl hok.prev (by simp))).v (v':= .b false) (congrArg A.b (by rw [beq_iff_eq.2 h8];rfl))) rfl rfl<|aj 53 [48,52] [] (aa rfl) rfl rfl<|aj 54 [53] [] (aa rfl) rfl rfl<|ar 55 [54] [] rfl rfl (aa rfl) rfl rfl<|ar 56 [54] [(6,none)] rfl rfl (aC Tryz.underlying45 rfl cK (by decide) rfl rfl) rfl rfl<|ar 57 [54,56] [(6,none)] rfl rfl (au cK rfl rfl rfl) rfl rfl<|bL false 58 [54,55,57] [] (mV rfl rfl) rfl (.cons (.pure pu) (.cons (.pure pu) (.nil))) (aA.cast (oQ τ bf hbf hsu e.ch (by have:=hok.gT;simp only [maxLen];omega)) (congrArg A.b hk)) pu (.inl rfl) rfl rfl<|ar 59 [54,58] [] rfl rfl ((aa rfl).v (v':= .b false) (rfl)) rfl rfl ?_
    refine aj 60 [54,59] [] (aa rfl) rfl rfl<|aj 61 [60] [] (aa rfl) rfl rfl<|ar 62 [61] [(6,none)] rfl rfl (aC Tryz.underlying45 rfl dS (by decide) rfl rfl) rfl rfl<|ar 63 [61,62] [(6,none)] rfl rfl (aC Tryz.underlying43 rfl an (by decide) rfl rfl) rfl rfl<|ar 64 [61,63] [(6,none)] rfl rfl (au an rfl rfl (pS hok)) rfl rfl<|ar 65 [61] [] rfl rfl (aa rfl) rfl rfl<|ar 66 [61,64,65] [] rfl rfl ((aa rfl).v (v':= .b false) (congrArg A.b (bne_eq_false_iff_eq.2 (by omega)))) rfl rfl<|bQ (by kernel_rfl) ?_
    refine s1 (aa rfl) rfl ?_
    refine ah<|ae ?_
    refine cF rfl ?_
    refine aL<|ae<|ai<|s1 (aa rfl) rfl<|s1 (aC Tryz.underlying45 rfl cK (by decide) rfl rfl) rfl<|s1 (au cK rfl rfl rfl) rfl ?_
    refine ak rfl (aI false rfl (.cons (.pure pu) (.cons (.pure pu) (.nil))) (CO τ bf hbf hsu e.ch (by have:=hok.gT;simp only [maxLen];omega)) pu (.inl rfl) rfl ?_)
    refine s1 (aa rfl) rfl ?_
    refine ah<|bh<|ae<|ai<|s1 (aa rfl) rfl<|s1 (bc _ 1 rfl rfl rfl rfl (by omega)) rfl<|s1 (aa rfl) rfl ?_
    refine ah ?_
    exact br (x:=(i,τ,bf)) ((i+1,aX τ e.ch,dr (aX τ e.ch))) (⟨show i+1≤l.length by omega,rfl,by show -1≤jk l (i+1);rw [pL he];omega,mu hsu (Int.le_refl _) hk,hst.trans (by show _=dK _ (i+1) (jk l (i+1)) (lF l (i+1)) _ _;rw [pL he,show lF l (i+1)=cu e from vD he];exact wh he hb hk)⟩) (show l.length - (i+1)<l.length - i by omega) [] hI rfl rfl ⟨⟨_,rfl,.pure pu⟩,⟨_,rfl,.pure pu⟩,⟨_,rfl,.pure pu⟩,trivial⟩ trivial
  ·have h21 : i = 0 := by have := of_decide_eq_false hc21; omega
   have hpv:lF l i=zD:=by rw [h21];rfl
   have hdp:jk l i= -1:=by rw [h21];rfl
   refine aL<|ae<|af<|af ?_
   rcases Hl e (jW l) i (jk l i) (lF l i) τ hdp with hcs|hcs|hcs|hcs|hcs|hcs|hcs|hcs|hcs|hcs
   ·obtain ⟨h1, hb⟩ := hcs
    refine bP ⟨_, [], []⟩ 67 4 bx (le_refl rfl) ?_
    refine aj 0 [] [(6,none)] (aC Tryz.underlying45 rfl an (by decide) rfl rfl) rfl rfl<|aj 1 [0] [(6,none)] (au an rfl rfl rfl) rfl rfl<|aj 2 [1] [] ((aa rfl).v (v':= .b true) (congrArg A.b (decide_eq_true (by omega)))) rfl rfl<|aj 3 [2] [] (aa rfl) rfl rfl<|av 4 [3] rfl rfl rfl rfl rfl<|av 5 [3,4] rfl rfl rfl rfl rfl<|av 6 [3,5] rfl rfl rfl rfl rfl<|aj 7 [3,6] [] (aa rfl) rfl rfl<|aj 8 [7] [] (aa rfl) rfl rfl<|av 9 [8] rfl rfl rfl rfl rfl ?_
    refine av 10 [8,9] rfl rfl rfl rfl rfl<|av 11 [8] rfl rfl rfl rfl rfl<|av 12 [8,11] rfl rfl rfl rfl rfl<|av 13 [8,12] rfl rfl rfl rfl rfl<|av 14 [8,13] rfl rfl rfl rfl rfl<|av 15 [8,10,14] rfl rfl rfl rfl rfl<|aj 16 [8,15] [] (aa rfl) rfl rfl<|aj 17 [16] [] (aa rfl) rfl rfl<|av 18 [17] rfl rfl rfl rfl rfl<|av 19 [17,18] rfl rfl rfl rfl rfl ?_
    refine av 20 [17] rfl rfl rfl rfl rfl<|av 21 [17,19,20] rfl rfl rfl rfl rfl<|aj 22 [17,21] [] (aa rfl) rfl rfl<|aj 23 [22] [] (aa rfl) rfl rfl<|av 24 [23] rfl rfl rfl rfl rfl<|av 25 [23,24] rfl rfl rfl rfl rfl<|av 26 [23,25] rfl rfl rfl rfl rfl<|aj 27 [23,26] [] (aa rfl) rfl rfl<|aj 28 [27] [] (aa rfl) rfl rfl<|av 29 [28] rfl rfl rfl rfl rfl ?_
    refine av 30 [28,29] rfl rfl rfl rfl rfl<|av 31 [28,30] rfl rfl rfl rfl rfl<|aj 32 [28,31] [] (aa rfl) rfl rfl<|aj 33 [32] [] (aa rfl) rfl rfl<|av 34 [33] rfl rfl rfl rfl rfl<|av 35 [33,34] rfl rfl rfl rfl rfl<|av 36 [33,35] rfl rfl rfl rfl rfl<|bd 37 [36] rfl rfl rfl rfl<|bd 38 [36] rfl rfl rfl rfl<|bd 39 [36,38] rfl rfl rfl rfl ?_
    refine bd 40 [36,37,39] rfl rfl rfl rfl<|bd 41 [36,40] rfl rfl rfl rfl<|bd 42 [36,41] rfl rfl rfl rfl<|bd 43 [36] rfl rfl rfl rfl<|bd 44 [36,43] rfl rfl rfl rfl<|bd 45 [36,42,44] rfl rfl rfl rfl<|av 46 [33,36,45] rfl rfl rfl rfl rfl<|aj 47 [33,46] [] (aa rfl) rfl rfl<|aj 48 [47] [] (aa rfl) rfl rfl<|av 49 [48] rfl rfl rfl rfl rfl ?_
    refine av 50 [48,49] rfl rfl rfl rfl rfl<|av 51 [48] rfl rfl rfl rfl rfl<|av 52 [48,50,51] rfl rfl rfl rfl rfl<|aj 53 [48,52] [] (aa rfl) rfl rfl<|aj 54 [53] [] (aa rfl) rfl rfl<|av 55 [54] rfl rfl rfl rfl rfl<|av 56 [54] rfl rfl rfl rfl rfl<|av 57 [54,56] rfl rfl rfl rfl rfl<|av 58 [54,55,57] rfl rfl rfl rfl rfl<|av 59 [54,58] rfl rfl rfl rfl rfl ?_
    refine aj 60 [54,59] [] (aa rfl) rfl rfl<|aj 61 [60] [] (aa rfl) rfl rfl<|av 62 [61] rfl rfl rfl rfl rfl<|av 63 [61,62] rfl rfl rfl rfl rfl<|av 64 [61,63] rfl rfl rfl rfl rfl<|av 65 [61] rfl rfl rfl rfl rfl<|av 66 [61,64,65] rfl rfl rfl rfl rfl<|bQ (by kernel_rfl) ?_
    refine s1 (aa rfl) rfl ?_
    refine ah<|ae ?_
    refine bR rfl ?_
    refine af<|ai<|s1 (aa rfl) rfl<|s1 (aa rfl) rfl ?_
    refine ah<|ae<|aE<|aH<|bg<|aH<|aH<|bg<|aH ?_
    refine aF (rs:= [.tmp 2,.tmp 3]) rfl (aD rfl (aD rfl aB)) ?_
    exact(fl (hst.trans (eo he (.inl hb)))).symm
   ·obtain ⟨h0, h1, hb⟩ := hcs
    refine bP ⟨_, [], []⟩ 67 4 bx (le_refl rfl) ?_
    refine aj 0 [] [(6,none)] (aC Tryz.underlying45 rfl an (by decide) rfl rfl) rfl rfl<|aj 1 [0] [(6,none)] (au an rfl rfl rfl) rfl rfl<|aj 2 [1] [] ((aa rfl).v (v':= .b false) (congrArg A.b (decide_eq_false (by omega)))) rfl rfl<|aj 3 [2] [] (aa rfl) rfl rfl<|ar 4 [3] [(6,none)] rfl rfl (aC Tryz.underlying45 rfl an (by decide) rfl rfl) rfl rfl<|ar 5 [3,4] [(6,none)] rfl rfl (au an rfl rfl rfl) rfl rfl<|ar 6 [3,5] [] rfl rfl ((aa rfl).v (v':= .b true) (congrArg A.b (decide_eq_true (by omega)))) rfl rfl<|aj 7 [3,6] [] (aa rfl) rfl rfl<|aj 8 [7] [] (aa rfl) rfl rfl<|av 9 [8] rfl rfl rfl rfl rfl ?_
    refine av 10 [8,9] rfl rfl rfl rfl rfl<|av 11 [8] rfl rfl rfl rfl rfl<|av 12 [8,11] rfl rfl rfl rfl rfl<|av 13 [8,12] rfl rfl rfl rfl rfl<|av 14 [8,13] rfl rfl rfl rfl rfl<|av 15 [8,10,14] rfl rfl rfl rfl rfl<|aj 16 [8,15] [] (aa rfl) rfl rfl<|aj 17 [16] [] (aa rfl) rfl rfl<|av 18 [17] rfl rfl rfl rfl rfl<|av 19 [17,18] rfl rfl rfl rfl rfl ?_
    refine av 20 [17] rfl rfl rfl rfl rfl<|av 21 [17,19,20] rfl rfl rfl rfl rfl<|aj 22 [17,21] [] (aa rfl) rfl rfl<|aj 23 [22] [] (aa rfl) rfl rfl<|av 24 [23] rfl rfl rfl rfl rfl<|av 25 [23,24] rfl rfl rfl rfl rfl<|av 26 [23,25] rfl rfl rfl rfl rfl<|aj 27 [23,26] [] (aa rfl) rfl rfl<|aj 28 [27] [] (aa rfl) rfl rfl<|av 29 [28] rfl rfl rfl rfl rfl ?_
    refine av 30 [28,29] rfl rfl rfl rfl rfl<|av 31 [28,30] rfl rfl rfl rfl rfl<|aj 32 [28,31] [] (aa rfl) rfl rfl<|aj 33 [32] [] (aa rfl) rfl rfl<|av 34 [33] rfl rfl rfl rfl rfl<|av 35 [33,34] rfl rfl rfl rfl rfl<|av 36 [33,35] rfl rfl rfl rfl rfl<|bd 37 [36] rfl rfl rfl rfl<|bd 38 [36] rfl rfl rfl rfl<|bd 39 [36,38] rfl rfl rfl rfl ?_
    refine bd 40 [36,37,39] rfl rfl rfl rfl<|bd 41 [36,40] rfl rfl rfl rfl<|bd 42 [36,41] rfl rfl rfl rfl<|bd 43 [36] rfl rfl rfl rfl<|bd 44 [36,43] rfl rfl rfl rfl<|bd 45 [36,42,44] rfl rfl rfl rfl<|av 46 [33,36,45] rfl rfl rfl rfl rfl<|aj 47 [33,46] [] (aa rfl) rfl rfl<|aj 48 [47] [] (aa rfl) rfl rfl<|av 49 [48] rfl rfl rfl rfl rfl ?_
    refine av 50 [48,49] rfl rfl rfl rfl rfl<|av 51 [48] rfl rfl rfl rfl rfl<|av 52 [48,50,51] rfl rfl rfl rfl rfl<|aj 53 [48,52] [] (aa rfl) rfl rfl<|aj 54 [53] [] (aa rfl) rfl rfl<|av 55 [54] rfl rfl rfl rfl rfl<|av 56 [54] rfl rfl rfl rfl rfl<|av 57 [54,56] rfl rfl rfl rfl rfl<|av 58 [54,55,57] rfl rfl rfl rfl rfl<|av 59 [54,58] rfl rfl rfl rfl rfl ?_
    refine aj 60 [54,59] [] (aa rfl) rfl rfl<|aj 61 [60] [] (aa rfl) rfl rfl<|av 62 [61] rfl rfl rfl rfl rfl<|av 63 [61,62] rfl rfl rfl rfl rfl<|av 64 [61,63] rfl rfl rfl rfl rfl<|av 65 [61] rfl rfl rfl rfl rfl<|av 66 [61,64,65] rfl rfl rfl rfl rfl<|bQ (by kernel_rfl) ?_
    refine s1 (aa rfl) rfl ?_
    refine ah<|ae ?_
    refine bR rfl ?_
    refine af<|ai<|s1 (aa rfl) rfl<|s1 (aa rfl) rfl ?_
    refine ah<|ae<|aE<|aH<|bg<|aH<|aH<|bg<|aH ?_
    refine aF (rs:= [.tmp 2,.tmp 3]) rfl (aD rfl (aD rfl aB)) ?_
    exact(fl (hst.trans (eo he (.inl hb)))).symm
   ·obtain ⟨⟨h0, h1⟩, h2, hb⟩ := hcs
    refine bP ⟨_, [], []⟩ 67 4 bx (le_refl rfl) ?_
    refine aj 0 [] [(6,none)] (aC Tryz.underlying45 rfl an (by decide) rfl rfl) rfl rfl<|aj 1 [0] [(6,none)] (au an rfl rfl rfl) rfl rfl<|aj 2 [1] [] ((aa rfl).v (v':= .b false) (congrArg A.b (decide_eq_false (by omega)))) rfl rfl<|aj 3 [2] [] (aa rfl) rfl rfl<|ar 4 [3] [(6,none)] rfl rfl (aC Tryz.underlying45 rfl an (by decide) rfl rfl) rfl rfl<|ar 5 [3,4] [(6,none)] rfl rfl (au an rfl rfl rfl) rfl rfl<|ar 6 [3,5] [] rfl rfl ((aa rfl).v (v':= .b false) (congrArg A.b (decide_eq_false (by omega)))) rfl rfl<|aj 7 [3,6] [] (aa rfl) rfl rfl<|aj 8 [7] [] (aa rfl) rfl rfl<|ar 9 [8] [(6,none)] rfl rfl (aC Tryz.underlying45 rfl an (by decide) rfl rfl) rfl rfl ?_
    refine ar 10 [8,9] [(6,none)] rfl rfl (au an rfl rfl rfl) rfl rfl<|ar 11 [8] [] rfl rfl (aa rfl) rfl rfl<|ar 12 [8,11] [] rfl rfl (aT 0 Tryz.underlying24 bA rfl rfl rfl (by omega) rfl) rfl rfl<|ar 13 [8,12] [] rfl rfl (bj Tryz.underlying45 rfl an (by decide) rfl rfl) rfl rfl<|ar 14 [8,13] [] rfl rfl (au an rfl rfl (dJ hl he0 (k:=0) rfl (by decide))) rfl rfl<|ar 15 [8,10,14] [] rfl rfl ((aa rfl).v (v':= .b true) (congrArg A.b (bne_iff_ne.2 (by omega)))) rfl rfl<|aj 16 [8,15] [] (aa rfl) rfl rfl<|aj 17 [16] [] (aa rfl) rfl rfl<|av 18 [17] rfl rfl rfl rfl rfl<|av 19 [17,18] rfl rfl rfl rfl rfl ?_
    refine av 20 [17] rfl rfl rfl rfl rfl<|av 21 [17,19,20] rfl rfl rfl rfl rfl<|aj 22 [17,21] [] (aa rfl) rfl rfl<|aj 23 [22] [] (aa rfl) rfl rfl<|av 24 [23] rfl rfl rfl rfl rfl<|av 25 [23,24] rfl rfl rfl rfl rfl<|av 26 [23,25] rfl rfl rfl rfl rfl<|aj 27 [23,26] [] (aa rfl) rfl rfl<|aj 28 [27] [] (aa rfl) rfl rfl<|av 29 [28] rfl rfl rfl rfl rfl ?_
    refine av 30 [28,29] rfl rfl rfl rfl rfl<|av 31 [28,30] rfl rfl rfl rfl rfl<|aj 32 [28,31] [] (aa rfl) rfl rfl<|aj 33 [32] [] (aa rfl) rfl rfl<|av 34 [33] rfl rfl rfl rfl rfl<|av 35 [33,34] rfl rfl rfl rfl rfl<|av 36 [33,35] rfl rfl rfl rfl rfl<|bd 37 [36] rfl rfl rfl rfl<|bd 38 [36] rfl rfl rfl rfl<|bd 39 [36,38] rfl rfl rfl rfl ?_
    refine bd 40 [36,37,39] rfl rfl rfl rfl<|bd 41 [36,40] rfl rfl rfl rfl<|bd 42 [36,41] rfl rfl rfl rfl<|bd 43 [36] rfl rfl rfl rfl<|bd 44 [36,43] rfl rfl rfl rfl<|bd 45 [36,42,44] rfl rfl rfl rfl<|av 46 [33,36,45] rfl rfl rfl rfl rfl<|aj 47 [33,46] [] (aa rfl) rfl rfl<|aj 48 [47] [] (aa rfl) rfl rfl<|av 49 [48] rfl rfl rfl rfl rfl ?_
    refine av 50 [48,49] rfl rfl rfl rfl rfl<|av 51 [48] rfl rfl rfl rfl rfl<|av 52 [48,50,51] rfl rfl rfl rfl rfl<|aj 53 [48,52] [] (aa rfl) rfl rfl<|aj 54 [53] [] (aa rfl) rfl rfl<|av 55 [54] rfl rfl rfl rfl rfl<|av 56 [54] rfl rfl rfl rfl rfl<|av 57 [54,56] rfl rfl rfl rfl rfl<|av 58 [54,55,57] rfl rfl rfl rfl rfl<|av 59 [54,58] rfl rfl rfl rfl rfl ?_
    refine aj 60 [54,59] [] (aa rfl) rfl rfl<|aj 61 [60] [] (aa rfl) rfl rfl<|av 62 [61] rfl rfl rfl rfl rfl<|av 63 [61,62] rfl rfl rfl rfl rfl<|av 64 [61,63] rfl rfl rfl rfl rfl<|av 65 [61] rfl rfl rfl rfl rfl<|av 66 [61,64,65] rfl rfl rfl rfl rfl<|bQ (by kernel_rfl) ?_
    refine s1 (aa rfl) rfl ?_
    refine ah<|ae ?_
    refine bR rfl ?_
    refine af<|ai<|s1 (aa rfl) rfl<|s1 (aa rfl) rfl ?_
    refine ah<|ae<|aE<|aH<|bg<|aH<|aH<|bg<|aH ?_
    refine aF (rs:= [.tmp 2,.tmp 3]) rfl (aD rfl (aD rfl aB)) ?_
    exact(fl (hst.trans (eo he (.inl hb)))).symm
   ·obtain ⟨⟨h0, h1, h2⟩, h3, hb⟩ := hcs
    refine bP ⟨_, [], []⟩ 67 4 bx (le_refl rfl) ?_
    refine aj 0 [] [(6,none)] (aC Tryz.underlying45 rfl an (by decide) rfl rfl) rfl rfl<|aj 1 [0] [(6,none)] (au an rfl rfl rfl) rfl rfl<|aj 2 [1] [] ((aa rfl).v (v':= .b false) (congrArg A.b (decide_eq_false (by omega)))) rfl rfl<|aj 3 [2] [] (aa rfl) rfl rfl<|ar 4 [3] [(6,none)] rfl rfl (aC Tryz.underlying45 rfl an (by decide) rfl rfl) rfl rfl<|ar 5 [3,4] [(6,none)] rfl rfl (au an rfl rfl rfl) rfl rfl<|ar 6 [3,5] [] rfl rfl ((aa rfl).v (v':= .b false) (congrArg A.b (decide_eq_false (by omega)))) rfl rfl<|aj 7 [3,6] [] (aa rfl) rfl rfl<|aj 8 [7] [] (aa rfl) rfl rfl<|ar 9 [8] [(6,none)] rfl rfl (aC Tryz.underlying45 rfl an (by decide) rfl rfl) rfl rfl ?_
    refine ar 10 [8,9] [(6,none)] rfl rfl (au an rfl rfl rfl) rfl rfl<|ar 11 [8] [] rfl rfl (aa rfl) rfl rfl<|ar 12 [8,11] [] rfl rfl (aT 0 Tryz.underlying24 bA rfl rfl rfl (by omega) rfl) rfl rfl<|ar 13 [8,12] [] rfl rfl (bj Tryz.underlying45 rfl an (by decide) rfl rfl) rfl rfl<|ar 14 [8,13] [] rfl rfl (au an rfl rfl (dJ hl he0 (k:=0) rfl (by decide))) rfl rfl<|ar 15 [8,10,14] [] rfl rfl ((aa rfl).v (v':= .b false) (congrArg A.b (bne_eq_false_iff_eq.2 (by omega)))) rfl rfl<|aj 16 [8,15] [] (aa rfl) rfl rfl<|aj 17 [16] [] (aa rfl) rfl rfl<|ar 18 [17] [(6,none)] rfl rfl (aC Tryz.underlying45 rfl an (by decide) rfl rfl) rfl rfl<|ar 19 [17,18] [(6,none)] rfl rfl (au an rfl rfl rfl) rfl rfl ?_
    refine ar 20 [17] [] rfl rfl (aa rfl) rfl rfl<|ar 21 [17,19,20] [] rfl rfl ((aa rfl).v (v':= .b true) (congrArg A.b (bne_iff_ne.2 (by omega)))) rfl rfl<|aj 22 [17,21] [] (aa rfl) rfl rfl<|aj 23 [22] [] (aa rfl) rfl rfl<|av 24 [23] rfl rfl rfl rfl rfl<|av 25 [23,24] rfl rfl rfl rfl rfl<|av 26 [23,25] rfl rfl rfl rfl rfl<|aj 27 [23,26] [] (aa rfl) rfl rfl<|aj 28 [27] [] (aa rfl) rfl rfl<|av 29 [28] rfl rfl rfl rfl rfl ?_
    refine av 30 [28,29] rfl rfl rfl rfl rfl<|av 31 [28,30] rfl rfl rfl rfl rfl<|aj 32 [28,31] [] (aa rfl) rfl rfl<|aj 33 [32] [] (aa rfl) rfl rfl<|av 34 [33] rfl rfl rfl rfl rfl<|av 35 [33,34] rfl rfl rfl rfl rfl<|av 36 [33,35] rfl rfl rfl rfl rfl<|bd 37 [36] rfl rfl rfl rfl<|bd 38 [36] rfl rfl rfl rfl<|bd 39 [36,38] rfl rfl rfl rfl ?_
    refine bd 40 [36,37,39] rfl rfl rfl rfl<|bd 41 [36,40] rfl rfl rfl rfl<|bd 42 [36,41] rfl rfl rfl rfl<|bd 43 [36] rfl rfl rfl rfl<|bd 44 [36,43] rfl rfl rfl rfl<|bd 45 [36,42,44] rfl rfl rfl rfl<|av 46 [33,36,45] rfl rfl rfl rfl rfl<|aj 47 [33,46] [] (aa rfl) rfl rfl<|aj 48 [47] [] (aa rfl) rfl rfl<|av 49 [48] rfl rfl rfl rfl rfl ?_
    refine av 50 [48,49] rfl rfl rfl rfl rfl<|av 51 [48] rfl rfl rfl rfl rfl<|av 52 [48,50,51] rfl rfl rfl rfl rfl<|aj 53 [48,52] [] (aa rfl) rfl rfl<|aj 54 [53] [] (aa rfl) rfl rfl<|av 55 [54] rfl rfl rfl rfl rfl<|av 56 [54] rfl rfl rfl rfl rfl<|av 57 [54,56] rfl rfl rfl rfl rfl<|av 58 [54,55,57] rfl rfl rfl rfl rfl<|av 59 [54,58] rfl rfl rfl rfl rfl ?_
    refine aj 60 [54,59] [] (aa rfl) rfl rfl<|aj 61 [60] [] (aa rfl) rfl rfl<|av 62 [61] rfl rfl rfl rfl rfl<|av 63 [61,62] rfl rfl rfl rfl rfl<|av 64 [61,63] rfl rfl rfl rfl rfl<|av 65 [61] rfl rfl rfl rfl rfl<|av 66 [61,64,65] rfl rfl rfl rfl rfl<|bQ (by kernel_rfl) ?_
    refine s1 (aa rfl) rfl ?_
    refine ah<|ae ?_
    refine bR rfl ?_
    refine af<|ai<|s1 (aa rfl) rfl<|s1 (aa rfl) rfl ?_
    refine ah<|ae<|aE<|aH<|bg<|aH<|aH<|bg<|aH ?_
    refine aF (rs:= [.tmp 2,.tmp 3]) rfl (aD rfl (aD rfl aB)) ?_
    exact(fl (hst.trans (eo he (.inl hb)))).symm
   ·obtain ⟨⟨h0, h1, h2, h3⟩, h4, hb⟩ := hcs
    refine bP ⟨_, [], []⟩ 67 4 bx (le_refl rfl) ?_
    refine aj 0 [] [(6,none)] (aC Tryz.underlying45 rfl an (by decide) rfl rfl) rfl rfl<|aj 1 [0] [(6,none)] (au an rfl rfl rfl) rfl rfl<|aj 2 [1] [] ((aa rfl).v (v':= .b false) (congrArg A.b (decide_eq_false (by omega)))) rfl rfl<|aj 3 [2] [] (aa rfl) rfl rfl<|ar 4 [3] [(6,none)] rfl rfl (aC Tryz.underlying45 rfl an (by decide) rfl rfl) rfl rfl<|ar 5 [3,4] [(6,none)] rfl rfl (au an rfl rfl rfl) rfl rfl<|ar 6 [3,5] [] rfl rfl ((aa rfl).v (v':= .b false) (congrArg A.b (decide_eq_false (by omega)))) rfl rfl<|aj 7 [3,6] [] (aa rfl) rfl rfl<|aj 8 [7] [] (aa rfl) rfl rfl<|ar 9 [8] [(6,none)] rfl rfl (aC Tryz.underlying45 rfl an (by decide) rfl rfl) rfl rfl ?_
    refine ar 10 [8,9] [(6,none)] rfl rfl (au an rfl rfl rfl) rfl rfl<|ar 11 [8] [] rfl rfl (aa rfl) rfl rfl<|ar 12 [8,11] [] rfl rfl (aT 0 Tryz.underlying24 bA rfl rfl rfl (by omega) rfl) rfl rfl<|ar 13 [8,12] [] rfl rfl (bj Tryz.underlying45 rfl an (by decide) rfl rfl) rfl rfl<|ar 14 [8,13] [] rfl rfl (au an rfl rfl (dJ hl he0 (k:=0) rfl (by decide))) rfl rfl<|ar 15 [8,10,14] [] rfl rfl ((aa rfl).v (v':= .b false) (congrArg A.b (bne_eq_false_iff_eq.2 (by omega)))) rfl rfl<|aj 16 [8,15] [] (aa rfl) rfl rfl<|aj 17 [16] [] (aa rfl) rfl rfl<|ar 18 [17] [(6,none)] rfl rfl (aC Tryz.underlying45 rfl an (by decide) rfl rfl) rfl rfl<|ar 19 [17,18] [(6,none)] rfl rfl (au an rfl rfl rfl) rfl rfl ?_
    refine ar 20 [17] [] rfl rfl (aa rfl) rfl rfl<|ar 21 [17,19,20] [] rfl rfl ((aa rfl).v (v':= .b false) (congrArg A.b (bne_eq_false_iff_eq.2 (by omega)))) rfl rfl<|aj 22 [17,21] [] (aa rfl) rfl rfl<|aj 23 [22] [] (aa rfl) rfl rfl<|ar 24 [23] [(6,none)] rfl rfl (aC Tryz.underlying45 rfl an (by decide) rfl rfl) rfl rfl<|ar 25 [23,24] [(6,none)] rfl rfl (au an rfl rfl rfl) rfl rfl<|ar 26 [23,25] [] rfl rfl ((aa rfl).v (v':= .b true) (congrArg A.b (decide_eq_true (by omega)))) rfl rfl<|aj 27 [23,26] [] (aa rfl) rfl rfl<|aj 28 [27] [] (aa rfl) rfl rfl<|av 29 [28] rfl rfl rfl rfl rfl ?_
    refine av 30 [28,29] rfl rfl rfl rfl rfl<|av 31 [28,30] rfl rfl rfl rfl rfl<|aj 32 [28,31] [] (aa rfl) rfl rfl<|aj 33 [32] [] (aa rfl) rfl rfl<|av 34 [33] rfl rfl rfl rfl rfl<|av 35 [33,34] rfl rfl rfl rfl rfl<|av 36 [33,35] rfl rfl rfl rfl rfl<|bd 37 [36] rfl rfl rfl rfl<|bd 38 [36] rfl rfl rfl rfl<|bd 39 [36,38] rfl rfl rfl rfl ?_
    refine bd 40 [36,37,39] rfl rfl rfl rfl<|bd 41 [36,40] rfl rfl rfl rfl<|bd 42 [36,41] rfl rfl rfl rfl<|bd 43 [36] rfl rfl rfl rfl<|bd 44 [36,43] rfl rfl rfl rfl<|bd 45 [36,42,44] rfl rfl rfl rfl<|av 46 [33,36,45] rfl rfl rfl rfl rfl<|aj 47 [33,46] [] (aa rfl) rfl rfl<|aj 48 [47] [] (aa rfl) rfl rfl<|av 49 [48] rfl rfl rfl rfl rfl ?_
    refine av 50 [48,49] rfl rfl rfl rfl rfl<|av 51 [48] rfl rfl rfl rfl rfl<|av 52 [48,50,51] rfl rfl rfl rfl rfl<|aj 53 [48,52] [] (aa rfl) rfl rfl<|aj 54 [53] [] (aa rfl) rfl rfl<|av 55 [54] rfl rfl rfl rfl rfl<|av 56 [54] rfl rfl rfl rfl rfl<|av 57 [54,56] rfl rfl rfl rfl rfl<|av 58 [54,55,57] rfl rfl rfl rfl rfl<|av 59 [54,58] rfl rfl rfl rfl rfl ?_
    refine aj 60 [54,59] [] (aa rfl) rfl rfl<|aj 61 [60] [] (aa rfl) rfl rfl<|av 62 [61] rfl rfl rfl rfl rfl<|av 63 [61,62] rfl rfl rfl rfl rfl<|av 64 [61,63] rfl rfl rfl rfl rfl<|av 65 [61] rfl rfl rfl rfl rfl<|av 66 [61,64,65] rfl rfl rfl rfl rfl<|bQ (by kernel_rfl) ?_
    refine s1 (aa rfl) rfl ?_
    refine ah<|ae ?_
    refine bR rfl ?_
    refine af<|ai<|s1 (aa rfl) rfl<|s1 (aa rfl) rfl ?_
    refine ah<|ae<|aE<|aH<|bg<|aH<|aH<|bg<|aH ?_
    refine aF (rs:= [.tmp 2,.tmp 3]) rfl (aD rfl (aD rfl aB)) ?_
    exact(fl (hst.trans (eo he (.inl hb)))).symm
   ·obtain ⟨⟨h0, h1, h2, h3, h4⟩, h5, hb⟩ := hcs
    refine bP ⟨_, [], []⟩ 67 4 bx (le_refl rfl) ?_
    refine aj 0 [] [(6,none)] (aC Tryz.underlying45 rfl an (by decide) rfl rfl) rfl rfl<|aj 1 [0] [(6,none)] (au an rfl rfl rfl) rfl rfl<|aj 2 [1] [] ((aa rfl).v (v':= .b false) (congrArg A.b (decide_eq_false (by omega)))) rfl rfl<|aj 3 [2] [] (aa rfl) rfl rfl<|ar 4 [3] [(6,none)] rfl rfl (aC Tryz.underlying45 rfl an (by decide) rfl rfl) rfl rfl<|ar 5 [3,4] [(6,none)] rfl rfl (au an rfl rfl rfl) rfl rfl<|ar 6 [3,5] [] rfl rfl ((aa rfl).v (v':= .b false) (congrArg A.b (decide_eq_false (by omega)))) rfl rfl<|aj 7 [3,6] [] (aa rfl) rfl rfl<|aj 8 [7] [] (aa rfl) rfl rfl<|ar 9 [8] [(6,none)] rfl rfl (aC Tryz.underlying45 rfl an (by decide) rfl rfl) rfl rfl ?_
    refine ar 10 [8,9] [(6,none)] rfl rfl (au an rfl rfl rfl) rfl rfl<|ar 11 [8] [] rfl rfl (aa rfl) rfl rfl<|ar 12 [8,11] [] rfl rfl (aT 0 Tryz.underlying24 bA rfl rfl rfl (by omega) rfl) rfl rfl<|ar 13 [8,12] [] rfl rfl (bj Tryz.underlying45 rfl an (by decide) rfl rfl) rfl rfl<|ar 14 [8,13] [] rfl rfl (au an rfl rfl (dJ hl he0 (k:=0) rfl (by decide))) rfl rfl<|ar 15 [8,10,14] [] rfl rfl ((aa rfl).v (v':= .b false) (congrArg A.b (bne_eq_false_iff_eq.2 (by omega)))) rfl rfl<|aj 16 [8,15] [] (aa rfl) rfl rfl<|aj 17 [16] [] (aa rfl) rfl rfl<|ar 18 [17] [(6,none)] rfl rfl (aC Tryz.underlying45 rfl an (by decide) rfl rfl) rfl rfl<|ar 19 [17,18] [(6,none)] rfl rfl (au an rfl rfl rfl) rfl rfl ?_
    refine ar 20 [17] [] rfl rfl (aa rfl) rfl rfl<|ar 21 [17,19,20] [] rfl rfl ((aa rfl).v (v':= .b false) (congrArg A.b (bne_eq_false_iff_eq.2 (by omega)))) rfl rfl<|aj 22 [17,21] [] (aa rfl) rfl rfl<|aj 23 [22] [] (aa rfl) rfl rfl<|ar 24 [23] [(6,none)] rfl rfl (aC Tryz.underlying45 rfl an (by decide) rfl rfl) rfl rfl<|ar 25 [23,24] [(6,none)] rfl rfl (au an rfl rfl rfl) rfl rfl<|ar 26 [23,25] [] rfl rfl ((aa rfl).v (v':= .b false) (congrArg A.b (decide_eq_false (by omega)))) rfl rfl<|aj 27 [23,26] [] (aa rfl) rfl rfl<|aj 28 [27] [] (aa rfl) rfl rfl<|ar 29 [28] [(6,none)] rfl rfl (aC Tryz.underlying45 rfl an (by decide) rfl rfl) rfl rfl ?_
    refine ar 30 [28,29] [(6,none)] rfl rfl (au an rfl rfl rfl) rfl rfl<|ar 31 [28,30] [] rfl rfl ((aa rfl).v (v':= .b true) (congrArg A.b (decide_eq_true (by omega)))) rfl rfl<|aj 32 [28,31] [] (aa rfl) rfl rfl<|aj 33 [32] [] (aa rfl) rfl rfl<|av 34 [33] rfl rfl rfl rfl rfl<|av 35 [33,34] rfl rfl rfl rfl rfl<|av 36 [33,35] rfl rfl rfl rfl rfl<|bd 37 [36] rfl rfl rfl rfl<|bd 38 [36] rfl rfl rfl rfl<|bd 39 [36,38] rfl rfl rfl rfl ?_
    refine bd 40 [36,37,39] rfl rfl rfl rfl<|bd 41 [36,40] rfl rfl rfl rfl<|bd 42 [36,41] rfl rfl rfl rfl<|bd 43 [36] rfl rfl rfl rfl<|bd 44 [36,43] rfl rfl rfl rfl<|bd 45 [36,42,44] rfl rfl rfl rfl<|av 46 [33,36,45] rfl rfl rfl rfl rfl<|aj 47 [33,46] [] (aa rfl) rfl rfl<|aj 48 [47] [] (aa rfl) rfl rfl<|av 49 [48] rfl rfl rfl rfl rfl ?_
    refine av 50 [48,49] rfl rfl rfl rfl rfl<|av 51 [48] rfl rfl rfl rfl rfl<|av 52 [48,50,51] rfl rfl rfl rfl rfl<|aj 53 [48,52] [] (aa rfl) rfl rfl<|aj 54 [53] [] (aa rfl) rfl rfl<|av 55 [54] rfl rfl rfl rfl rfl<|av 56 [54] rfl rfl rfl rfl rfl<|av 57 [54,56] rfl rfl rfl rfl rfl<|av 58 [54,55,57] rfl rfl rfl rfl rfl<|av 59 [54,58] rfl rfl rfl rfl rfl ?_
    refine aj 60 [54,59] [] (aa rfl) rfl rfl<|aj 61 [60] [] (aa rfl) rfl rfl<|av 62 [61] rfl rfl rfl rfl rfl<|av 63 [61,62] rfl rfl rfl rfl rfl<|av 64 [61,63] rfl rfl rfl rfl rfl<|av 65 [61] rfl rfl rfl rfl rfl<|av 66 [61,64,65] rfl rfl rfl rfl rfl<|bQ (by kernel_rfl) ?_
    refine s1 (aa rfl) rfl ?_
    refine ah<|ae ?_
    refine bR rfl ?_
    refine af<|ai<|s1 (aa rfl) rfl<|s1 (aa rfl) rfl ?_
    refine ah<|ae<|aE<|aH<|bg<|aH<|aH<|bg<|aH ?_
    refine aF (rs:= [.tmp 2,.tmp 3]) rfl (aD rfl (aD rfl aB)) ?_
    exact(fl (hst.trans (eo he (.inl hb)))).symm
   ·obtain ⟨⟨r1, r2, r3, r4, r5, r6⟩, h7, h8, hb⟩ := hcs
    rw [hpv]at h8
    refine bP ⟨_, [], []⟩ 67 4 bx (le_refl rfl) ?_
    refine aj 0 [] [(6,none)] (aC Tryz.underlying45 rfl an (by decide) rfl rfl) rfl rfl<|aj 1 [0] [(6,none)] (au an rfl rfl rfl) rfl rfl<|aj 2 [1] [] ((aa rfl).v (v':= .b false) (congrArg A.b (decide_eq_false (by omega)))) rfl rfl<|aj 3 [2] [] (aa rfl) rfl rfl<|ar 4 [3] [(6,none)] rfl rfl (aC Tryz.underlying45 rfl an (by decide) rfl rfl) rfl rfl<|ar 5 [3,4] [(6,none)] rfl rfl (au an rfl rfl rfl) rfl rfl<|ar 6 [3,5] [] rfl rfl ((aa rfl).v (v':= .b false) (congrArg A.b (decide_eq_false (by omega)))) rfl rfl<|aj 7 [3,6] [] (aa rfl) rfl rfl<|aj 8 [7] [] (aa rfl) rfl rfl<|ar 9 [8] [(6,none)] rfl rfl (aC Tryz.underlying45 rfl an (by decide) rfl rfl) rfl rfl ?_
    refine ar 10 [8,9] [(6,none)] rfl rfl (au an rfl rfl rfl) rfl rfl<|ar 11 [8] [] rfl rfl (aa rfl) rfl rfl<|ar 12 [8,11] [] rfl rfl (aT 0 Tryz.underlying24 bA rfl rfl rfl (by omega) rfl) rfl rfl<|ar 13 [8,12] [] rfl rfl (bj Tryz.underlying45 rfl an (by decide) rfl rfl) rfl rfl<|ar 14 [8,13] [] rfl rfl (au an rfl rfl (dJ hl he0 (k:=0) rfl (by decide))) rfl rfl<|ar 15 [8,10,14] [] rfl rfl ((aa rfl).v (v':= .b false) (congrArg A.b (bne_eq_false_iff_eq.2 (by omega)))) rfl rfl<|aj 16 [8,15] [] (aa rfl) rfl rfl<|aj 17 [16] [] (aa rfl) rfl rfl<|ar 18 [17] [(6,none)] rfl rfl (aC Tryz.underlying45 rfl an (by decide) rfl rfl) rfl rfl<|ar 19 [17,18] [(6,none)] rfl rfl (au an rfl rfl rfl) rfl rfl ?_
    refine ar 20 [17] [] rfl rfl (aa rfl) rfl rfl<|ar 21 [17,19,20] [] rfl rfl ((aa rfl).v (v':= .b false) (congrArg A.b (bne_eq_false_iff_eq.2 (by omega)))) rfl rfl<|aj 22 [17,21] [] (aa rfl) rfl rfl<|aj 23 [22] [] (aa rfl) rfl rfl<|ar 24 [23] [(6,none)] rfl rfl (aC Tryz.underlying45 rfl an (by decide) rfl rfl) rfl rfl<|ar 25 [23,24] [(6,none)] rfl rfl (au an rfl rfl rfl) rfl rfl<|ar 26 [23,25] [] rfl rfl ((aa rfl).v (v':= .b false) (congrArg A.b (decide_eq_false (by omega)))) rfl rfl<|aj 27 [23,26] [] (aa rfl) rfl rfl<|aj 28 [27] [] (aa rfl) rfl rfl<|ar 29 [28] [(6,none)] rfl rfl (aC Tryz.underlying45 rfl an (by decide) rfl rfl) rfl rfl ?_
    refine ar 30 [28,29] [(6,none)] rfl rfl (au an rfl rfl rfl) rfl rfl<|ar 31 [28,30] [] rfl rfl ((aa rfl).v (v':= .b false) (congrArg A.b (decide_eq_false (by omega)))) rfl rfl<|aj 32 [28,31] [] (aa rfl) rfl rfl<|aj 33 [32] [] (aa rfl) rfl rfl<|ar 34 [33] [] rfl rfl (aa rfl) rfl rfl<|ar 35 [33,34] [] rfl rfl ((aa rfl).v (v':= .b false) (congrArg A.b (decide_eq_false (by omega)))) rfl rfl<|ar 36 [33,35] [] rfl rfl (aa rfl) rfl rfl<|av 37 [36] rfl rfl rfl rfl rfl<|av 38 [36] rfl rfl rfl rfl rfl<|av 39 [36,38] rfl rfl rfl rfl rfl ?_
    refine av 40 [36,37,39] rfl rfl rfl rfl rfl<|av 41 [36,40] rfl rfl rfl rfl rfl<|av 42 [36,41] rfl rfl rfl rfl rfl<|av 43 [36] rfl rfl rfl rfl rfl<|av 44 [36,43] rfl rfl rfl rfl rfl<|av 45 [36,42,44] rfl rfl rfl rfl rfl<|ar 46 [33,36,45] [] rfl rfl (aa rfl) rfl rfl<|aj 47 [33,46] [] (aa rfl) rfl rfl<|aj 48 [47] [] (aa rfl) rfl rfl<|ar 49 [48] [(6,none)] rfl rfl (aC Tryz.underlying45 rfl az (by decide) rfl rfl) rfl rfl ?_
    refine ar 50 [48,49] [(6,none)] rfl rfl (bY az rfl rfl (jl hok) (by rw [List.length_map,hok.prev])) rfl rfl<|ar 51 [48] [(7,none)] rfl rfl (aV az rfl rfl (by simp)) rfl rfl<|ar 52 [48,50,51] [] rfl rfl (((kX Tryz.underlying23 Tryz.underlying5 aQ (by kernel_rfl) rfl rfl hok.prev (by simp))).v (v':= .b true) (congrArg A.b (by rw [beq_eq_false_iff_ne.2 h8];rfl))) rfl rfl<|aj 53 [48,52] [] (aa rfl) rfl rfl<|aj 54 [53] [] (aa rfl) rfl rfl<|av 55 [54] rfl rfl rfl rfl rfl<|av 56 [54] rfl rfl rfl rfl rfl<|av 57 [54,56] rfl rfl rfl rfl rfl<|av 58 [54,55,57] rfl rfl rfl rfl rfl<|av 59 [54,58] rfl rfl rfl rfl rfl ?_
    refine aj 60 [54,59] [] (aa rfl) rfl rfl<|aj 61 [60] [] (aa rfl) rfl rfl<|av 62 [61] rfl rfl rfl rfl rfl<|av 63 [61,62] rfl rfl rfl rfl rfl<|av 64 [61,63] rfl rfl rfl rfl rfl<|av 65 [61] rfl rfl rfl rfl rfl<|av 66 [61,64,65] rfl rfl rfl rfl rfl<|bQ (by kernel_rfl) ?_
    refine s1 (aa rfl) rfl ?_
    refine ah<|ae ?_
    refine bR rfl ?_
    refine af<|ai<|s1 (aa rfl) rfl<|s1 (aa rfl) rfl ?_
    refine ah<|ae<|aE<|aH<|bg<|aH<|aH<|bg<|aH ?_
    refine aF (rs:= [.tmp 2,.tmp 3]) rfl (aD rfl (aD rfl aB)) ?_
    exact(fl (hst.trans (eo he (.inl hb)))).symm
   ·obtain ⟨⟨r1, r2, r3, r4, r5, r6⟩, h7, h8, hk⟩ := hcs
    rw [hpv]at h8
    refine bP ⟨_, [], []⟩ 67 4 bx (le_refl rfl) ?_
    refine aj 0 [] [(6,none)] (aC Tryz.underlying45 rfl an (by decide) rfl rfl) rfl rfl<|aj 1 [0] [(6,none)] (au an rfl rfl rfl) rfl rfl<|aj 2 [1] [] ((aa rfl).v (v':= .b false) (congrArg A.b (decide_eq_false (by omega)))) rfl rfl<|aj 3 [2] [] (aa rfl) rfl rfl<|ar 4 [3] [(6,none)] rfl rfl (aC Tryz.underlying45 rfl an (by decide) rfl rfl) rfl rfl<|ar 5 [3,4] [(6,none)] rfl rfl (au an rfl rfl rfl) rfl rfl<|ar 6 [3,5] [] rfl rfl ((aa rfl).v (v':= .b false) (congrArg A.b (decide_eq_false (by omega)))) rfl rfl<|aj 7 [3,6] [] (aa rfl) rfl rfl<|aj 8 [7] [] (aa rfl) rfl rfl<|ar 9 [8] [(6,none)] rfl rfl (aC Tryz.underlying45 rfl an (by decide) rfl rfl) rfl rfl ?_
    refine ar 10 [8,9] [(6,none)] rfl rfl (au an rfl rfl rfl) rfl rfl<|ar 11 [8] [] rfl rfl (aa rfl) rfl rfl<|ar 12 [8,11] [] rfl rfl (aT 0 Tryz.underlying24 bA rfl rfl rfl (by omega) rfl) rfl rfl<|ar 13 [8,12] [] rfl rfl (bj Tryz.underlying45 rfl an (by decide) rfl rfl) rfl rfl<|ar 14 [8,13] [] rfl rfl (au an rfl rfl (dJ hl he0 (k:=0) rfl (by decide))) rfl rfl<|ar 15 [8,10,14] [] rfl rfl ((aa rfl).v (v':= .b false) (congrArg A.b (bne_eq_false_iff_eq.2 (by omega)))) rfl rfl<|aj 16 [8,15] [] (aa rfl) rfl rfl<|aj 17 [16] [] (aa rfl) rfl rfl<|ar 18 [17] [(6,none)] rfl rfl (aC Tryz.underlying45 rfl an (by decide) rfl rfl) rfl rfl<|ar 19 [17,18] [(6,none)] rfl rfl (au an rfl rfl rfl) rfl rfl ?_
    refine ar 20 [17] [] rfl rfl (aa rfl) rfl rfl<|ar 21 [17,19,20] [] rfl rfl ((aa rfl).v (v':= .b false) (congrArg A.b (bne_eq_false_iff_eq.2 (by omega)))) rfl rfl<|aj 22 [17,21] [] (aa rfl) rfl rfl<|aj 23 [22] [] (aa rfl) rfl rfl<|ar 24 [23] [(6,none)] rfl rfl (aC Tryz.underlying45 rfl an (by decide) rfl rfl) rfl rfl<|ar 25 [23,24] [(6,none)] rfl rfl (au an rfl rfl rfl) rfl rfl<|ar 26 [23,25] [] rfl rfl ((aa rfl).v (v':= .b false) (congrArg A.b (decide_eq_false (by omega)))) rfl rfl<|aj 27 [23,26] [] (aa rfl) rfl rfl<|aj 28 [27] [] (aa rfl) rfl rfl<|ar 29 [28] [(6,none)] rfl rfl (aC Tryz.underlying45 rfl an (by decide) rfl rfl) rfl rfl ?_
    refine ar 30 [28,29] [(6,none)] rfl rfl (au an rfl rfl rfl) rfl rfl<|ar 31 [28,30] [] rfl rfl ((aa rfl).v (v':= .b false) (congrArg A.b (decide_eq_false (by omega)))) rfl rfl<|aj 32 [28,31] [] (aa rfl) rfl rfl<|aj 33 [32] [] (aa rfl) rfl rfl<|ar 34 [33] [] rfl rfl (aa rfl) rfl rfl<|ar 35 [33,34] [] rfl rfl ((aa rfl).v (v':= .b false) (congrArg A.b (decide_eq_false (by omega)))) rfl rfl<|ar 36 [33,35] [] rfl rfl (aa rfl) rfl rfl<|av 37 [36] rfl rfl rfl rfl rfl<|av 38 [36] rfl rfl rfl rfl rfl<|av 39 [36,38] rfl rfl rfl rfl rfl ?_
    refine av 40 [36,37,39] rfl rfl rfl rfl rfl<|av 41 [36,40] rfl rfl rfl rfl rfl<|av 42 [36,41] rfl rfl rfl rfl rfl<|av 43 [36] rfl rfl rfl rfl rfl<|av 44 [36,43] rfl rfl rfl rfl rfl<|av 45 [36,42,44] rfl rfl rfl rfl rfl<|ar 46 [33,36,45] [] rfl rfl (aa rfl) rfl rfl<|aj 47 [33,46] [] (aa rfl) rfl rfl<|aj 48 [47] [] (aa rfl) rfl rfl<|ar 49 [48] [(6,none)] rfl rfl (aC Tryz.underlying45 rfl az (by decide) rfl rfl) rfl rfl ?_
    refine ar 50 [48,49] [(6,none)] rfl rfl (bY az rfl rfl (jl hok) (by rw [List.length_map,hok.prev])) rfl rfl<|ar 51 [48] [(7,none)] rfl rfl (aV az rfl rfl (by simp)) rfl rfl<|ar 52 [48,50,51] [] rfl rfl (((kX Tryz.underlying23 Tryz.underlying5 aQ (by kernel_rfl) rfl rfl hok.prev (by simp))).v (v':= .b false) (congrArg A.b (by rw [beq_iff_eq.2 h8];rfl))) rfl rfl<|aj 53 [48,52] [] (aa rfl) rfl rfl<|aj 54 [53] [] (aa rfl) rfl rfl<|ar 55 [54] [] rfl rfl (aa rfl) rfl rfl<|ar 56 [54] [(6,none)] rfl rfl (aC Tryz.underlying45 rfl cK (by decide) rfl rfl) rfl rfl<|ar 57 [54,56] [(6,none)] rfl rfl (au cK rfl rfl rfl) rfl rfl<|bL false 58 [54,55,57] [] (mV rfl rfl) rfl (.cons (.pure pu) (.cons (.pure pu) (.nil))) (aA.cast (oQ τ bf hbf hsu e.ch (by have:=hok.gT;simp only [maxLen];omega)) (congrArg A.b hk)) pu (.inl rfl) rfl rfl<|ar 59 [54,58] [] rfl rfl ((aa rfl).v (v':= .b true) (rfl)) rfl rfl ?_
    refine aj 60 [54,59] [] (aa rfl) rfl rfl<|aj 61 [60] [] (aa rfl) rfl rfl<|av 62 [61] rfl rfl rfl rfl rfl<|av 63 [61,62] rfl rfl rfl rfl rfl<|av 64 [61,63] rfl rfl rfl rfl rfl<|av 65 [61] rfl rfl rfl rfl rfl<|av 66 [61,64,65] rfl rfl rfl rfl rfl<|bQ (by kernel_rfl) ?_
    refine s1 (aa rfl) rfl ?_
    refine ah<|ae ?_
    refine bR rfl ?_
    refine af<|ai<|s1 (aa rfl) rfl<|s1 (aa rfl) rfl ?_
    refine ah<|ae<|aE<|aH<|bg<|aH<|aH<|bg<|aH ?_
    refine aF (rs:= [.tmp 2,.tmp 3]) rfl (aD rfl (aD rfl aB)) ?_
    exact(fl (hst.trans (eo he (.inr hk)))).symm
   ·obtain ⟨⟨r1, r2, r3, r4, r5, r6⟩, h7, h8, hk, h9, hb⟩ := hcs
    rw [hpv]at h8
    refine bP ⟨_, [], []⟩ 67 4 bx (le_refl rfl) ?_
    refine aj 0 [] [(6,none)] (aC Tryz.underlying45 rfl an (by decide) rfl rfl) rfl rfl<|aj 1 [0] [(6,none)] (au an rfl rfl rfl) rfl rfl<|aj 2 [1] [] ((aa rfl).v (v':= .b false) (congrArg A.b (decide_eq_false (by omega)))) rfl rfl<|aj 3 [2] [] (aa rfl) rfl rfl<|ar 4 [3] [(6,none)] rfl rfl (aC Tryz.underlying45 rfl an (by decide) rfl rfl) rfl rfl<|ar 5 [3,4] [(6,none)] rfl rfl (au an rfl rfl rfl) rfl rfl<|ar 6 [3,5] [] rfl rfl ((aa rfl).v (v':= .b false) (congrArg A.b (decide_eq_false (by omega)))) rfl rfl<|aj 7 [3,6] [] (aa rfl) rfl rfl<|aj 8 [7] [] (aa rfl) rfl rfl<|ar 9 [8] [(6,none)] rfl rfl (aC Tryz.underlying45 rfl an (by decide) rfl rfl) rfl rfl ?_
    refine ar 10 [8,9] [(6,none)] rfl rfl (au an rfl rfl rfl) rfl rfl<|ar 11 [8] [] rfl rfl (aa rfl) rfl rfl<|ar 12 [8,11] [] rfl rfl (aT 0 Tryz.underlying24 bA rfl rfl rfl (by omega) rfl) rfl rfl<|ar 13 [8,12] [] rfl rfl (bj Tryz.underlying45 rfl an (by decide) rfl rfl) rfl rfl<|ar 14 [8,13] [] rfl rfl (au an rfl rfl (dJ hl he0 (k:=0) rfl (by decide))) rfl rfl<|ar 15 [8,10,14] [] rfl rfl ((aa rfl).v (v':= .b false) (congrArg A.b (bne_eq_false_iff_eq.2 (by omega)))) rfl rfl<|aj 16 [8,15] [] (aa rfl) rfl rfl<|aj 17 [16] [] (aa rfl) rfl rfl<|ar 18 [17] [(6,none)] rfl rfl (aC Tryz.underlying45 rfl an (by decide) rfl rfl) rfl rfl<|ar 19 [17,18] [(6,none)] rfl rfl (au an rfl rfl rfl) rfl rfl ?_
    refine ar 20 [17] [] rfl rfl (aa rfl) rfl rfl<|ar 21 [17,19,20] [] rfl rfl ((aa rfl).v (v':= .b false) (congrArg A.b (bne_eq_false_iff_eq.2 (by omega)))) rfl rfl<|aj 22 [17,21] [] (aa rfl) rfl rfl<|aj 23 [22] [] (aa rfl) rfl rfl<|ar 24 [23] [(6,none)] rfl rfl (aC Tryz.underlying45 rfl an (by decide) rfl rfl) rfl rfl<|ar 25 [23,24] [(6,none)] rfl rfl (au an rfl rfl rfl) rfl rfl<|ar 26 [23,25] [] rfl rfl ((aa rfl).v (v':= .b false) (congrArg A.b (decide_eq_false (by omega)))) rfl rfl<|aj 27 [23,26] [] (aa rfl) rfl rfl<|aj 28 [27] [] (aa rfl) rfl rfl<|ar 29 [28] [(6,none)] rfl rfl (aC Tryz.underlying45 rfl an (by decide) rfl rfl) rfl rfl ?_
    refine ar 30 [28,29] [(6,none)] rfl rfl (au an rfl rfl rfl) rfl rfl<|ar 31 [28,30] [] rfl rfl ((aa rfl).v (v':= .b false) (congrArg A.b (decide_eq_false (by omega)))) rfl rfl<|aj 32 [28,31] [] (aa rfl) rfl rfl<|aj 33 [32] [] (aa rfl) rfl rfl<|ar 34 [33] [] rfl rfl (aa rfl) rfl rfl<|ar 35 [33,34] [] rfl rfl ((aa rfl).v (v':= .b false) (congrArg A.b (decide_eq_false (by omega)))) rfl rfl<|ar 36 [33,35] [] rfl rfl (aa rfl) rfl rfl<|av 37 [36] rfl rfl rfl rfl rfl<|av 38 [36] rfl rfl rfl rfl rfl<|av 39 [36,38] rfl rfl rfl rfl rfl ?_
    refine av 40 [36,37,39] rfl rfl rfl rfl rfl<|av 41 [36,40] rfl rfl rfl rfl rfl<|av 42 [36,41] rfl rfl rfl rfl rfl<|av 43 [36] rfl rfl rfl rfl rfl<|av 44 [36,43] rfl rfl rfl rfl rfl<|av 45 [36,42,44] rfl rfl rfl rfl rfl<|ar 46 [33,36,45] [] rfl rfl (aa rfl) rfl rfl<|aj 47 [33,46] [] (aa rfl) rfl rfl<|aj 48 [47] [] (aa rfl) rfl rfl<|ar 49 [48] [(6,none)] rfl rfl (aC Tryz.underlying45 rfl az (by decide) rfl rfl) rfl rfl ?_
    refine ar 50 [48,49] [(6,none)] rfl rfl (bY az rfl rfl (jl hok) (by rw [List.length_map,hok.prev])) rfl rfl<|ar 51 [48] [(7,none)] rfl rfl (aV az rfl rfl (by simp)) rfl rfl<|ar 52 [48,50,51] [] rfl rfl (((kX Tryz.underlying23 Tryz.underlying5 aQ (by kernel_rfl) rfl rfl hok.prev (by simp))).v (v':= .b false) (congrArg A.b (by rw [beq_iff_eq.2 h8];rfl))) rfl rfl<|aj 53 [48,52] [] (aa rfl) rfl rfl<|aj 54 [53] [] (aa rfl) rfl rfl<|ar 55 [54] [] rfl rfl (aa rfl) rfl rfl<|ar 56 [54] [(6,none)] rfl rfl (aC Tryz.underlying45 rfl cK (by decide) rfl rfl) rfl rfl<|ar 57 [54,56] [(6,none)] rfl rfl (au cK rfl rfl rfl) rfl rfl<|bL false 58 [54,55,57] [] (mV rfl rfl) rfl (.cons (.pure pu) (.cons (.pure pu) (.nil))) (aA.cast (oQ τ bf hbf hsu e.ch (by have:=hok.gT;simp only [maxLen];omega)) (congrArg A.b hk)) pu (.inl rfl) rfl rfl<|ar 59 [54,58] [] rfl rfl ((aa rfl).v (v':= .b false) (rfl)) rfl rfl ?_
    refine aj 60 [54,59] [] (aa rfl) rfl rfl<|aj 61 [60] [] (aa rfl) rfl rfl<|ar 62 [61] [(6,none)] rfl rfl (aC Tryz.underlying45 rfl dS (by decide) rfl rfl) rfl rfl<|ar 63 [61,62] [(6,none)] rfl rfl (aC Tryz.underlying43 rfl an (by decide) rfl rfl) rfl rfl<|ar 64 [61,63] [(6,none)] rfl rfl (au an rfl rfl (pS hok)) rfl rfl<|ar 65 [61] [] rfl rfl (aa rfl) rfl rfl<|ar 66 [61,64,65] [] rfl rfl ((aa rfl).v (v':= .b true) (congrArg A.b (bne_iff_ne.2 (by omega)))) rfl rfl<|bQ (by kernel_rfl) ?_
    refine s1 (aa rfl) rfl ?_
    refine ah<|ae ?_
    refine bR rfl ?_
    refine af<|ai<|s1 (aa rfl) rfl<|s1 (aa rfl) rfl ?_
    refine ah<|ae<|aE<|aH<|bg<|aH<|aH<|bg<|aH ?_
    refine aF (rs:= [.tmp 2,.tmp 3]) rfl (aD rfl (aD rfl aB)) ?_
    exact(fl (hst.trans (eo he (.inl hb)))).symm
   ·obtain ⟨⟨r1, r2, r3, r4, r5, r6⟩, h7, h8, hk, h9, hb⟩ := hcs
    rw [hpv]at h8
    refine bP ⟨_, [], []⟩ 67 4 bx (le_refl rfl) ?_
    refine aj 0 [] [(6,none)] (aC Tryz.underlying45 rfl an (by decide) rfl rfl) rfl rfl<|aj 1 [0] [(6,none)] (au an rfl rfl rfl) rfl rfl<|aj 2 [1] [] ((aa rfl).v (v':= .b false) (congrArg A.b (decide_eq_false (by omega)))) rfl rfl<|aj 3 [2] [] (aa rfl) rfl rfl<|ar 4 [3] [(6,none)] rfl rfl (aC Tryz.underlying45 rfl an (by decide) rfl rfl) rfl rfl<|ar 5 [3,4] [(6,none)] rfl rfl (au an rfl rfl rfl) rfl rfl<|ar 6 [3,5] [] rfl rfl ((aa rfl).v (v':= .b false) (congrArg A.b (decide_eq_false (by omega)))) rfl rfl<|aj 7 [3,6] [] (aa rfl) rfl rfl<|aj 8 [7] [] (aa rfl) rfl rfl<|ar 9 [8] [(6,none)] rfl rfl (aC Tryz.underlying45 rfl an (by decide) rfl rfl) rfl rfl ?_
    refine ar 10 [8,9] [(6,none)] rfl rfl (au an rfl rfl rfl) rfl rfl<|ar 11 [8] [] rfl rfl (aa rfl) rfl rfl<|ar 12 [8,11] [] rfl rfl (aT 0 Tryz.underlying24 bA rfl rfl rfl (by omega) rfl) rfl rfl<|ar 13 [8,12] [] rfl rfl (bj Tryz.underlying45 rfl an (by decide) rfl rfl) rfl rfl<|ar 14 [8,13] [] rfl rfl (au an rfl rfl (dJ hl he0 (k:=0) rfl (by decide))) rfl rfl<|ar 15 [8,10,14] [] rfl rfl ((aa rfl).v (v':= .b false) (congrArg A.b (bne_eq_false_iff_eq.2 (by omega)))) rfl rfl<|aj 16 [8,15] [] (aa rfl) rfl rfl<|aj 17 [16] [] (aa rfl) rfl rfl<|ar 18 [17] [(6,none)] rfl rfl (aC Tryz.underlying45 rfl an (by decide) rfl rfl) rfl rfl<|ar 19 [17,18] [(6,none)] rfl rfl (au an rfl rfl rfl) rfl rfl ?_
    refine ar 20 [17] [] rfl rfl (aa rfl) rfl rfl<|ar 21 [17,19,20] [] rfl rfl ((aa rfl).v (v':= .b false) (congrArg A.b (bne_eq_false_iff_eq.2 (by omega)))) rfl rfl<|aj 22 [17,21] [] (aa rfl) rfl rfl<|aj 23 [22] [] (aa rfl) rfl rfl<|ar 24 [23] [(6,none)] rfl rfl (aC Tryz.underlying45 rfl an (by decide) rfl rfl) rfl rfl<|ar 25 [23,24] [(6,none)] rfl rfl (au an rfl rfl rfl) rfl rfl<|ar 26 [23,25] [] rfl rfl ((aa rfl).v (v':= .b false) (congrArg A.b (decide_eq_false (by omega)))) rfl rfl<|aj 27 [23,26] [] (aa rfl) rfl rfl<|aj 28 [27] [] (aa rfl) rfl rfl<|ar 29 [28] [(6,none)] rfl rfl (aC Tryz.underlying45 rfl an (by decide) rfl rfl) rfl rfl ?_
    refine ar 30 [28,29] [(6,none)] rfl rfl (au an rfl rfl rfl) rfl rfl<|ar 31 [28,30] [] rfl rfl ((aa rfl).v (v':= .b false) (congrArg A.b (decide_eq_false (by omega)))) rfl rfl<|aj 32 [28,31] [] (aa rfl) rfl rfl<|aj 33 [32] [] (aa rfl) rfl rfl<|ar 34 [33] [] rfl rfl (aa rfl) rfl rfl<|ar 35 [33,34] [] rfl rfl ((aa rfl).v (v':= .b false) (congrArg A.b (decide_eq_false (by omega)))) rfl rfl<|ar 36 [33,35] [] rfl rfl (aa rfl) rfl rfl<|av 37 [36] rfl rfl rfl rfl rfl<|av 38 [36] rfl rfl rfl rfl rfl<|av 39 [36,38] rfl rfl rfl rfl rfl ?_
    refine av 40 [36,37,39] rfl rfl rfl rfl rfl<|av 41 [36,40] rfl rfl rfl rfl rfl<|av 42 [36,41] rfl rfl rfl rfl rfl<|av 43 [36] rfl rfl rfl rfl rfl<|av 44 [36,43] rfl rfl rfl rfl rfl<|av 45 [36,42,44] rfl rfl rfl rfl rfl<|ar 46 [33,36,45] [] rfl rfl (aa rfl) rfl rfl<|aj 47 [33,46] [] (aa rfl) rfl rfl<|aj 48 [47] [] (aa rfl) rfl rfl<|ar 49 [48] [(6,none)] rfl rfl (aC Tryz.underlying45 rfl az (by decide) rfl rfl) rfl rfl ?_
    refine ar 50 [48,49] [(6,none)] rfl rfl (bY az rfl rfl (jl hok) (by rw [List.length_map,hok.prev])) rfl rfl<|ar 51 [48] [(7,none)] rfl rfl (aV az rfl rfl (by simp)) rfl rfl<|ar 52 [48,50,51] [] rfl rfl (((kX Tryz.underlying23 Tryz.underlying5 aQ (by kernel_rfl) rfl rfl hok.prev (by simp))).v (v':= .b false) (congrArg A.b (by rw [beq_iff_eq.2 h8];rfl))) rfl rfl<|aj 53 [48,52] [] (aa rfl) rfl rfl<|aj 54 [53] [] (aa rfl) rfl rfl<|ar 55 [54] [] rfl rfl (aa rfl) rfl rfl<|ar 56 [54] [(6,none)] rfl rfl (aC Tryz.underlying45 rfl cK (by decide) rfl rfl) rfl rfl<|ar 57 [54,56] [(6,none)] rfl rfl (au cK rfl rfl rfl) rfl rfl<|bL false 58 [54,55,57] [] (mV rfl rfl) rfl (.cons (.pure pu) (.cons (.pure pu) (.nil))) (aA.cast (oQ τ bf hbf hsu e.ch (by have:=hok.gT;simp only [maxLen];omega)) (congrArg A.b hk)) pu (.inl rfl) rfl rfl<|ar 59 [54,58] [] rfl rfl ((aa rfl).v (v':= .b false) (rfl)) rfl rfl ?_
    refine aj 60 [54,59] [] (aa rfl) rfl rfl<|aj 61 [60] [] (aa rfl) rfl rfl<|ar 62 [61] [(6,none)] rfl rfl (aC Tryz.underlying45 rfl dS (by decide) rfl rfl) rfl rfl<|ar 63 [61,62] [(6,none)] rfl rfl (aC Tryz.underlying43 rfl an (by decide) rfl rfl) rfl rfl<|ar 64 [61,63] [(6,none)] rfl rfl (au an rfl rfl (pS hok)) rfl rfl<|ar 65 [61] [] rfl rfl (aa rfl) rfl rfl<|ar 66 [61,64,65] [] rfl rfl ((aa rfl).v (v':= .b false) (congrArg A.b (bne_eq_false_iff_eq.2 (by omega)))) rfl rfl<|bQ (by kernel_rfl) ?_
    refine s1 (aa rfl) rfl ?_
    refine ah<|ae ?_
    refine cF rfl ?_
    refine aL<|ae<|ai<|s1 (aa rfl) rfl<|s1 (aC Tryz.underlying45 rfl cK (by decide) rfl rfl) rfl<|s1 (au cK rfl rfl rfl) rfl ?_
    refine ak rfl (aI false rfl (.cons (.pure pu) (.cons (.pure pu) (.nil))) (CO τ bf hbf hsu e.ch (by have:=hok.gT;simp only [maxLen];omega)) pu (.inl rfl) rfl ?_)
    refine s1 (aa rfl) rfl ?_
    refine ah<|bh<|ae<|ai<|s1 (aa rfl) rfl<|s1 (bc _ 1 rfl rfl rfl rfl (by omega)) rfl<|s1 (aa rfl) rfl ?_
    refine ah ?_
    exact br (x:=(i,τ,bf)) ((i+1,aX τ e.ch,dr (aX τ e.ch))) (⟨show i+1≤l.length by omega,rfl,by show -1≤jk l (i+1);rw [pL he];omega,mu hsu (Int.le_refl _) hk,hst.trans (by show _=dK _ (i+1) (jk l (i+1)) (lF l (i+1)) _ _;rw [pL he,show lF l (i+1)=cu e from vD he];exact wh he hb hk)⟩) (show l.length - (i+1)<l.length - i by omega) [] hI rfl rfl ⟨⟨_,rfl,.pure pu⟩,⟨_,rfl,.pure pu⟩,⟨_,rfl,.pure pu⟩,trivial⟩ trivial
 ·obtain rfl : i = l.length := by have := of_decide_eq_false hc12; omega
  rw [List.drop_length]at hst
  refine bC<|aP<|aP<|bD<|ae<|af<|ai<|s1 (aa rfl) rfl<|s1 (aa rfl) rfl<|s1 (aa rfl) rfl ?_
  refine ah<|ae<|aE ?_
  refine aF (rs:= [.tmp 2,.tmp 3]) rfl (aD rfl (aD rfl aB)) ?_
  rw [v8 hst,hbf];rfl
theorem Ka (r:List UInt8) (n:Int) (l:List Ep) (hr:r.length=32) (hl:dB l) (hn:l.length≤1000):aA Tryz.prog 14 [.ag (r.map u8),.i .i64 n,cO l] (aN (.i .i64 (cN r n l))):=by
 refine enter Tryz.func14 rfl Tryz.ntmps14 (by kernel_rfl) (Nat.le_of_ble_eq_true rfl) fun w0 X0 hI=>?_
 refine af<|ai ?_
 refine ak rfl (bK 3 rfl rfl rfl ?_)
 refine s1 ((aa rfl).v (v':= .i .i64 0) rfl) rfl ?_
 refine ah<|ae<|af ?_
 rcases qq (cv l)with hcs|hcs
 ·have hf := hcs
  refine ai<|s1 (aa rfl) rfl ?_
  refine ak rfl (aI false rfl (.cons (.pure pu) (.nil)) (aA.cast (tI l hl hn) (fl hf)) pu (.inl rfl) rfl ?_)
  refine s1 (aa rfl) rfl<|s1 (aa rfl) rfl<|s1 (aa rfl) rfl<|s1 (aa rfl) rfl<|s1 (aa rfl) rfl ?_
  refine ah<|ae<|af<|af<|ai<|s1 (aa rfl) rfl<|s1 ((aa rfl).v (v':= .b true) (rfl)) rfl ?_
  refine ah<|ae ?_
  refine bR rfl ?_
  refine af<|ai<|s1 ((aa rfl).v (v':= .i .i64 351) rfl) rfl ?_
  refine ah<|ae<|aE<|aH ?_
  refine aF (rs:= [.tmp 6]) rfl (aD rfl aB) ?_
  exact congrArg (A.i .i64) (pE hf).symm
 ·obtain ⟨σ, hf⟩ := hcs
  refine ai<|s1 (aa rfl) rfl ?_
  refine ak rfl (aI false rfl (.cons (.pure pu) (.nil)) (aA.cast (tI l hl hn) (v8 hf)) pu (.inl rfl) rfl ?_)
  refine s1 (aa rfl) rfl<|s1 (aa rfl) rfl<|s1 (aa rfl) rfl<|s1 (aa rfl) rfl<|s1 (aa rfl) rfl ?_
  refine ah<|ae<|af<|af<|ai<|s1 (aa rfl) rfl<|s1 ((aa rfl).v (v':= .b false) (rfl)) rfl ?_
  refine ah<|ae ?_
  refine cF rfl ?_
  refine aL<|ae<|af<|af<|ai<|s1 ((aa rfl).v (v':= .i .i64 0) rfl) rfl ?_
  refine ah<|ae<|aM ?_
  refine bF (ι:=Nat) (fun i=> [(1,.i .i64 n),(2,cO l),(3,.p 3 0),(9,nJ i)]) (fun i=>⟨[(3,some (r.map u8))]⟩) (fun i=>i≤l.length∧∀e∈l.take i,dU r n (cu e) e.sg.a e.sg.S e.sg.P=true) (fun i=>l.length - i) ?_ ?_
  ·exact bE (0) (⟨Nat.zero_le _,fun e he=>by simp at he⟩) [(3,some 3)] hI rfl rfl ⟨⟨_,rfl,.pure pu⟩,⟨_,rfl,.pure pu⟩,⟨_,rfl,.p rfl⟩,⟨_,rfl,.pure pu⟩,trivial⟩ ⟨.inr ⟨_,_,rfl,rfl,.pure aq⟩,trivial⟩
  rintro i ⟨hi,hall⟩
  refine af<|af<|ai<|s1 (aa rfl) rfl<|s1 (aa rfl) rfl<|s1 (bu Tryz.underlying24 rfl rfl rfl) rfl<|s1 (aa rfl) rfl ?_
  refine ah<|ae ?_
  refine aO rfl (fun hc21=>?_) (fun hc21=>?_)
  ·have h21 : i < l.length := by have := of_decide_eq_true hc21; omega
   obtain⟨e,he⟩:∃e,l[i]? =some e:=⟨_,List.getElem?_eq_getElem h21⟩
   have hok:=hl e (List.mem_of_getElem? he)
   refine aL<|ae<|af<|aM<|af ?_
   rcases kf (dU r n (cu e) e.sg.a e.sg.S e.sg.P)with hcs|hcs
   ·skip
    refine bP ⟨_, [], []⟩ 13 4 bx (le_refl rfl) ?_
    refine aj 0 [] [(3,none)] (aV az rfl rfl (by rw [List.length_map,hr])) rfl rfl<|aj 1 [] [] (aa rfl) rfl rfl<|aj 2 [] [] (aa rfl) rfl rfl<|aj 3 [] [] (aa rfl) rfl rfl<|aj 4 [2,3] [] (aT i Tryz.underlying24 bA rfl rfl rfl (by omega) rfl) rfl rfl<|aj 5 [4] [] (bY bA rfl rfl (iM hl he) hok.len) rfl rfl<|bL false 6 [5] [] aW rfl (.cons (.pure pu) (.nil)) (tC e hok) pu (.inl rfl) rfl rfl<|aj 7 [] [] (aa rfl) rfl rfl<|aj 8 [] [] (aa rfl) rfl rfl<|aj 9 [7,8] [] (aT i Tryz.underlying24 bA rfl rfl rfl (by omega) rfl) rfl rfl ?_
    refine aj 10 [9] [] (bj Tryz.underlying45 rfl dS (by decide) rfl rfl) rfl rfl<|aj 11 [10] [] (bY dS rfl rfl (Ay hl he) rfl) rfl rfl<|bL false 12 [0,1,6,11] [] aW rfl (.cons (.pure pu) (.cons (.pure pu) (.cons (.pure pu) (.cons (.pure pu) (.nil))))) (aA.cast (CZ r (cu e) n e.sg.a e.sg.S e.sg.P hr (by simp) hok.S hok.P) (congrArg (A.i .i64) (by rw [hcs];rfl:ob (dU r n (cu e) e.sg.a e.sg.S e.sg.P)=60))) pu (.inl rfl) rfl rfl<|bQ (by kernel_rfl) ?_
    refine s1 (aa rfl) rfl ?_
    refine ah<|ae<|af<|ai<|s1 (aa rfl) rfl<|s1 ((aa rfl).v (v':= .b true) (rfl)) rfl ?_
    refine ah<|ae ?_
    refine bR rfl ?_
    refine af<|ai<|s1 (aa rfl) rfl<|s1 (aa rfl) rfl ?_
    refine ah<|ae<|aE<|bg<|aH<|aH<|bg<|aH ?_
    refine aF (rs:= [.tmp 6]) rfl (aD rfl aB) ?_
    exact congrArg (A.i .i64) (rN hf (List.mem_of_getElem? he) hcs).symm
   ·skip
    refine bP ⟨_, [], []⟩ 13 4 bx (le_refl rfl) ?_
    refine aj 0 [] [(3,none)] (aV az rfl rfl (by rw [List.length_map,hr])) rfl rfl<|aj 1 [] [] (aa rfl) rfl rfl<|aj 2 [] [] (aa rfl) rfl rfl<|aj 3 [] [] (aa rfl) rfl rfl<|aj 4 [2,3] [] (aT i Tryz.underlying24 bA rfl rfl rfl (by omega) rfl) rfl rfl<|aj 5 [4] [] (bY bA rfl rfl (iM hl he) hok.len) rfl rfl<|bL false 6 [5] [] aW rfl (.cons (.pure pu) (.nil)) (tC e hok) pu (.inl rfl) rfl rfl<|aj 7 [] [] (aa rfl) rfl rfl<|aj 8 [] [] (aa rfl) rfl rfl<|aj 9 [7,8] [] (aT i Tryz.underlying24 bA rfl rfl rfl (by omega) rfl) rfl rfl ?_
    refine aj 10 [9] [] (bj Tryz.underlying45 rfl dS (by decide) rfl rfl) rfl rfl<|aj 11 [10] [] (bY dS rfl rfl (Ay hl he) rfl) rfl rfl<|bL false 12 [0,1,6,11] [] aW rfl (.cons (.pure pu) (.cons (.pure pu) (.cons (.pure pu) (.cons (.pure pu) (.nil))))) (aA.cast (CZ r (cu e) n e.sg.a e.sg.S e.sg.P hr (by simp) hok.S hok.P) (congrArg (A.i .i64) (by rw [hcs];rfl:ob (dU r n (cu e) e.sg.a e.sg.S e.sg.P)=0))) pu (.inl rfl) rfl rfl<|bQ (by kernel_rfl) ?_
    refine s1 (aa rfl) rfl ?_
    refine ah<|ae<|af<|ai<|s1 (aa rfl) rfl<|s1 ((aa rfl).v (v':= .b false) (rfl)) rfl ?_
    refine ah<|ae ?_
    refine cF rfl ?_
    refine aL<|bh<|ae<|ai<|s1 (aa rfl) rfl<|s1 (bc _ 1 rfl rfl rfl rfl (by omega)) rfl<|s1 (aa rfl) rfl ?_
    refine ah ?_
    exact br (i+1) (⟨by omega,uQ he hall hcs⟩) (by omega) [(3,some 3)] hI rfl rfl ⟨⟨_,rfl,.pure pu⟩,⟨_,rfl,.pure pu⟩,⟨_,rfl,.p rfl⟩,⟨_,rfl,.pure pu⟩,trivial⟩ ⟨.inr ⟨_,_,rfl,rfl,.pure aq⟩,trivial⟩
  ·obtain rfl : i = l.length := by have := of_decide_eq_false hc21; omega
   rw [List.take_length]at hall
   refine bC<|aP<|aP<|bD<|ae<|af<|ai<|s1 ((aa rfl).v (v':= .i .i64 0) rfl) rfl ?_
   refine ah<|ae<|aE ?_
   refine aF (rs:= [.tmp 6]) rfl (aD rfl aB) ?_
   exact congrArg (A.i .i64) (rO hf hall).symm
theorem K0 (l:List Ep) (no:Int) (hl:dB l) (hn:l.length≤1000):aA Tryz.prog 19 [cO l,.i .i64 no] (aN (xl (jG l no))):=by
 refine enter Tryz.func19 rfl Tryz.ntmps19 (by kernel_rfl) (Nat.le_of_ble_eq_true rfl) fun w0 X0 hI=>?_
 refine af<|ai<|s1 (aa rfl) rfl<|s1 ((aa rfl).v (v':= .i .i64 0) rfl) rfl ?_
 refine ah<|ae<|af<|af<|ai<|s1 (aa rfl) rfl<|s1 (aa rfl) rfl<|s1 (aa rfl) rfl ?_
 refine fJ 4 rfl rfl rfl rfl (fun hb10=> .step (aa rfl) rfl rfl<| .step (aa rfl) rfl rfl<| .step (bu Tryz.underlying24 rfl rfl rfl) rfl rfl<| .step (aa rfl) rfl rfl<| .done) rfl rfl ?_
 refine ah<|ae ?_
 refine aO rfl (fun hc15=>?_) (fun hc15=>?_)
 ·have h16 : no < -1 ∨ (l.length : Int) ≤ no := by simpa using hc15
  refine af<|ai<|s1 (aa rfl) rfl<|s1 ((aa rfl).v (v':= .i .i64 1) rfl) rfl ?_
  refine ah<|ae<|aE<|aH ?_
  refine aF (rs:= [.tmp 4,.tmp 5]) rfl (aD rfl (aD rfl aB)) ?_
  rw [tT h16];rfl
 ·have h16 : ¬ (no < -1 ∨ (l.length : Int) ≤ no) := by simp at hc15; omega
  obtain⟨k,hk⟩:∃k:Nat,no+1=(k:Int):=⟨(no+1).toNat,by omega⟩
  have hkl:k≤l.length:=by omega
  have htk:(no+1).toNat=k:=by omega
  have hlk:dB (l.take k):=fun e he=>hl e (List.mem_of_mem_take he)
  have hlen:(l.take k).length=k:=by rw [List.length_take];omega
  refine aL<|ae<|af ?_
  rcases qq (cv (l.take k))with hcs|hcs
  ·have hf := hcs
   refine ai<|s1 (aa rfl) rfl<|s1 (aa rfl) rfl<|s1 ((mL rfl rfl (by omega) (by omega)).v (v':=nJ k) (congrArg (A.i .i64) hk)) rfl<|s1 ((ij (ds:=cY (l.take k)) k Tryz.underlying24 bA rfl (by rw [kF hl]) bn (bs rfl rfl) (by omega) (by omega) rfl (r9 hl k)).v (v':=cO (l.take k)) (congrArg (fun n=>A.fz n (cY (l.take k))) hlen.symm)) rfl ?_
   refine ak rfl (aI false rfl (.cons (.pure pu) (.nil)) (aA.cast (tI (l.take k) hlk (by omega)) (fl hf)) pu (.inl rfl) rfl ?_)
   refine s1 (aa rfl) rfl<|s1 (aa rfl) rfl<|s1 (aa rfl) rfl<|s1 (aa rfl) rfl<|s1 (aa rfl) rfl ?_
   refine ah<|ae<|af<|af<|ai<|s1 (aa rfl) rfl<|s1 ((aa rfl).v (v':= .b true) (rfl)) rfl ?_
   refine ah<|ae ?_
   refine bR rfl ?_
   refine af<|ai<|s1 (aa rfl) rfl<|s1 ((aa rfl).v (v':= .i .i64 351) rfl) rfl ?_
   refine ah<|ae<|aE<|aH ?_
   refine aF (rs:= [.tmp 4,.tmp 5]) rfl (aD rfl (aD rfl aB)) ?_
   rw [xH h16 (by rw [htk];exact hf)];rfl
  ·obtain ⟨σ, hf⟩ := hcs
   refine ai<|s1 (aa rfl) rfl<|s1 (aa rfl) rfl<|s1 ((mL rfl rfl (by omega) (by omega)).v (v':=nJ k) (congrArg (A.i .i64) hk)) rfl<|s1 ((ij (ds:=cY (l.take k)) k Tryz.underlying24 bA rfl (by rw [kF hl]) bn (bs rfl rfl) (by omega) (by omega) rfl (r9 hl k)).v (v':=cO (l.take k)) (congrArg (fun n=>A.fz n (cY (l.take k))) hlen.symm)) rfl ?_
   refine ak rfl (aI false rfl (.cons (.pure pu) (.nil)) (aA.cast (tI (l.take k) hlk (by omega)) (v8 hf)) pu (.inl rfl) rfl ?_)
   refine s1 (aa rfl) rfl<|s1 (aa rfl) rfl<|s1 (aa rfl) rfl<|s1 (aa rfl) rfl<|s1 (aa rfl) rfl ?_
   refine ah<|ae<|af<|af<|ai<|s1 (aa rfl) rfl<|s1 ((aa rfl).v (v':= .b false) (rfl)) rfl ?_
   refine ah<|ae ?_
   refine cF rfl ?_
   refine aL<|ae<|af<|ai<|s1 (aa rfl) rfl<|s1 (aa rfl) rfl<|s1 ((aa rfl).v (v':= .i .i64 0) rfl) rfl ?_
   refine ah<|ae<|aE ?_
   refine aF (rs:= [.tmp 4,.tmp 5]) rfl (aD rfl (aD rfl aB)) ?_
   rw [qJ h16 (by rw [htk];exact hf)];rfl
theorem J8 (l:List Ep) (day:Int) (hl:dB l) (hn:l.length≤maxLen):aA Tryz.prog 21 [cO l,.i .i64 day] (aN (mM (k8 l day))):=by
 refine enter Tryz.func21 rfl Tryz.ntmps21 (by kernel_rfl) (Nat.le_of_ble_eq_true rfl) fun w0 X0 hI=>?_
 refine af ?_
 simp only [maxLen]at hn
 refine ai<|s1 ((aa rfl).v (v':= .i .i64 0) rfl) rfl<|s1 (aa rfl) rfl ?_
 refine ah<|ae<|af<|af<|ai<|s1 (aa rfl) rfl<|s1 (bu Tryz.underlying24 rfl rfl rfl) rfl<|s1 (gx rfl rfl (by omega) (by omega)) rfl<|s1 (aa rfl) rfl ?_
 refine ah<|ae<|aM ?_
 refine bF (ι:=Nat) (fun j=> [(0,cO l),(1,.i .i64 day),(6,.i .i64 ((j:Int) - 1))]) (fun j=>⟨[]⟩) (fun j=>j≤l.length∧k8 l day=jd l day j) (fun j=>j) ?_ ?_
 ·exact bE (l.length) (⟨Nat.le_refl _,ry l day⟩) [] hI rfl rfl ⟨⟨_,rfl,.pure pu⟩,⟨_,rfl,.pure pu⟩,⟨_,rfl,.pure pu⟩,trivial⟩ trivial
 rintro j ⟨hj,hst⟩
 refine af<|af<|ai<|s1 (aa rfl) rfl<|s1 (aa rfl) rfl ?_
 refine ah<|ae ?_
 refine aO rfl (fun hc11=>?_) (fun hc11=>?_)
 ·have h11 : 0 < j := by have := of_decide_eq_true hc11; omega
  obtain⟨m,rfl⟩:∃m,j=m+1:=⟨j - 1,by omega⟩
  obtain⟨e,he⟩:∃e,l[m]? =some e:=⟨_,List.getElem?_eq_getElem (by omega)⟩
  refine aL<|ae<|af<|aM<|af ?_
  refine k9 6 rfl (v':=nJ m) (congrArg (A.i .i64) (by omega)) ?_
  refine ai<|s1 (aa rfl) rfl<|s1 (aa rfl) rfl<|s1 (aT m Tryz.underlying24 bA rfl rfl rfl (by omega) rfl) rfl<|s1 (bj Tryz.underlying45 rfl an (by decide) rfl rfl) rfl<|s1 (au an rfl rfl (dJ hl he (k:=2) rfl (by decide))) rfl<|s1 (aa rfl) rfl<|s1 (aa rfl) rfl ?_
  refine ah<|ae ?_
  refine aO rfl (fun hc20=>?_) (fun hc20=>?_)
  ·have h20 : e.day ≤ day := by have := of_decide_eq_true hc20; omega
   refine af<|ai<|s1 (aa rfl) rfl<|s1 (aa rfl) rfl<|s1 (aa rfl) rfl ?_
   refine ah<|ae<|aE<|bg<|aH<|aH<|bg<|aH ?_
   refine aF (rs:= [.tmp 4,.tmp 5]) rfl (aD rfl (aD rfl aB)) ?_
   exact congrArg mM (hst.trans (uW he h20)).symm
  ·have h20 : ¬ e.day ≤ day := by have := of_decide_eq_false hc20; omega
   refine aL<|bh<|ae<|ai<|s1 (aa rfl) rfl<|s1 (gx rfl rfl (by omega) (by omega)) rfl<|s1 (aa rfl) rfl ?_
   refine ah ?_
   exact br (m) (⟨by omega,hst.trans (uV he h20)⟩) (by omega) [] hI rfl rfl ⟨⟨_,rfl,.pure pu⟩,⟨_,rfl,.pure pu⟩,⟨_,rfl,.of (rfl:_=A.i .i64 ((m:Int) - 1)) (.pure pu)⟩,trivial⟩ trivial
 ·have h11 : j = 0 := by have := of_decide_eq_false hc11; omega
  subst h11
  refine bC<|aP<|aP<|bD<|ae<|af<|ai<|s1 ((aa rfl).v (v':= .i .i64 0) rfl) rfl<|s1 (aa rfl) rfl ?_
  refine ah<|ae<|aE ?_
  refine aF (rs:= [.tmp 4,.tmp 5]) rfl (aD rfl (aD rfl aB)) ?_
  exact congrArg mM hst.symm
end Go.Abs.D2
-- E5D
namespace Go.Abs.D2
open Go Go.Eng Go.Abs Go.Proofs
theorem Ag (l:List Ep) (hl:dB l) (hn:l.length≤maxLen):iY Tryz.prog 64 [cO l] ⟨[]⟩ (fun r st=>∃σ,cv l=some σ∧nL (mapOf σ) r st) (fun u=>cv l=none∧u=gY 136 351):=by
 refine GQ Tryz.func64 rfl Tryz.ntmps64 (by kernel_rfl) (Nat.le_of_ble_eq_true rfl) fun w0 X0 hI hS=>?_
 refine nR ?_
 refine nQ ?_
 simp only [maxLen]at hn
 refine ai ?_
 refine ak rfl (kG 1 rfl rfl rfl rfl ?_)
 refine s1 (aa rfl) rfl ?_
 refine ah<|ae ?_
 refine nR ?_
 refine nQ ?_
 refine ai ?_
 refine ak rfl (wO rfl rfl fun b8=>?_)
 refine cX 700 (cs':= [.mc b8 (mapOf σ0)]) rfl (congrArg (fun f=> [A.mc b8 f]) IG) ?_
 refine s1 (aa rfl) rfl ?_
 refine ah<|ae ?_
 refine nR ?_
 refine nQ ?_
 refine ai ?_
 refine ak rfl (bp 4 rfl az rfl rfl ?_)
 refine ah<|ae ?_
 refine nR ?_
 refine nQ ?_
 refine ai ?_
 refine ak rfl (bp 5 rfl an rfl rfl ?_)
 refine ak rfl (bp 6 rfl an rfl rfl ?_)
 refine ak rfl (bZ an rfl rfl rfl rfl (by first|rfl|omega|(simp<;>omega)|(simp [*]<;>omega)) rfl ?_)
 refine ak rfl (bZ an rfl rfl rfl rfl (by first|rfl|omega|(simp<;>omega)|(simp [*]<;>omega)) rfl ?_)
 refine ah<|ae ?_
 refine nR ?_
 refine nR ?_
 refine nQ ?_
 refine ai<|s1 (au fw rfl rfl rfl) rfl<|s1 (aa rfl) rfl ?_
 refine ak rfl (aI false rfl (.cons (.pure pu) (.cons (.pure pu) (.nil))) (GF l b8) pu (.inl rfl) rfl ?_)
 refine ah<|ae ?_
 refine EY ?_
 refine E6 [1,4,5,6,700] [(0,_),(1,_),(3,_),(4,_),(5,_),(6,_),(8,_),(9,_),(10,_),(11,_)] hI rfl ⟨rfl,⟨rfl,⟨rfl,⟨rfl,⟨rfl,⟨rfl,⟨rfl,⟨rfl,⟨rfl,⟨rfl,trivial⟩⟩⟩⟩⟩⟩⟩⟩⟩⟩ (by first|rfl|(simp [jx,jA,refs,eu,mj,refs_pu,cw];done)) rfl Tryz.func163 rfl Tryz.ntmps163 (by kernel_rfl) (Nat.le_of_ble_eq_true rfl) fun w1 l1 D1 rc1 hR1 hF1=>?_
 refine af<|ai<|s1 (au fw rfl rfl rfl) rfl<|s1 (bu Tryz.underlying24 rfl rfl rfl) rfl<|s1 ((aa rfl).v (v':= .i .i64 0) rfl) rfl ?_
 refine ah<|ae<|aM ?_
 refine bF (ι:=Nat×(Int→Int)×Int×List UInt8) (fun⟨i,τ,day,prev⟩=> [(0,yv l1),(1,.fp [cO l]),(2,.fp [.raw (.map (some b8))]),(6,cO l),(7,nJ l.length),(8,nJ i)]) (fun⟨i,τ,day,prev⟩=>⟨[(1,some ([cO l])),(4,some (prev.map u8)),(5,some ([nJ i])),(6,some ([.i .i64 day])),(700,some ([.mc b8 (mapOf τ)]))]⟩) (fun⟨i,τ,day,prev⟩=>i≤l.length∧prev.length=32∧cv l=dK (jW l) i day prev τ (l.drop i)) (fun⟨i,τ,day,prev⟩=>l.length - i) ?_ ?_
 ·exact bE ((0,σ0, -1,zD)) (⟨Nat.zero_le _,rfl,og l⟩) [(1,some 1),(4,some 4),(5,some 5),(6,some 6),(700,some 700)] hR1.sub.ids rfl rfl ⟨⟨_,rfl,.pure trivial⟩,⟨_,rfl,.pure pu⟩,⟨_,rfl,.pure pu⟩,⟨_,rfl,.pure pu⟩,⟨_,rfl,.pure pu⟩,⟨_,rfl,.pure pu⟩,trivial⟩ ⟨.inr ⟨_,_,rfl,rfl,.pure aq⟩,.inr ⟨_,_,rfl,rfl,.of rfl (.pure aq)⟩,.inr ⟨_,_,rfl,rfl,.of (rfl:_= [nJ 0]) (.pure aq)⟩,.inr ⟨_,_,rfl,rfl,.of (rfl:_= [A.i .i64 (-1)]) (.pure aq)⟩,.inr ⟨_,_,rfl,rfl,.pure aq⟩,trivial⟩
 rintro⟨i,τ,day,prev⟩ ⟨hi,hpl,hst⟩
 dsimp only
 refine af<|ai<|s1 (aa rfl) rfl ?_
 refine ah<|ae<|af ?_
 refine aO rfl (fun hc9=>?_) (fun hc9=>?_)
 ·have h9 : i < l.length := by have := of_decide_eq_true hc9; omega
  obtain⟨e,he⟩:∃e,l[i]? =some e:=⟨_,List.getElem?_eq_getElem h9⟩
  have hok:=hl e (List.mem_of_getElem? he)
  obtain⟨e0,he0⟩:∃e0,l[0]? =some e0:=⟨_,List.getElem?_eq_getElem (by omega)⟩
  have hi0:=Bg he0
  have hpv:=hok.prev
  refine aL<|ae<|af<|aM<|af<|ai<|s1 (aT i Tryz.underlying24 bA rfl rfl rfl (by omega) rfl) rfl<|s1 (bY bA rfl rfl (iM hl he) hok.len) rfl ?_
  refine ak rfl (bp 1005 rfl bA rfl rfl ?_)
  refine ak rfl (bb bA rfl rfl rfl hok.len (by simp) ?_)
  refine ah<|ae<|af<|af<|ai<|s1 (aa rfl) rfl<|s1 (aV bA rfl rfl hok.len) rfl<|s1 (au xP rfl rfl rfl) rfl ?_
  refine rD [1,4,5,6,700,1005] [(0,_),(1,_),(2,_),(5,_),(6,_),(7,_),(8,_),(9,_),(10,_),(11,_),(12,_),(13,_),(14,_)] hR1 hR1.sub.ids rfl ⟨rfl,⟨rfl,⟨rfl,⟨rfl,⟨rfl,⟨rfl,⟨rfl,⟨rfl,⟨rfl,⟨rfl,⟨rfl,⟨rfl,⟨rfl,trivial⟩⟩⟩⟩⟩⟩⟩⟩⟩⟩⟩⟩⟩ (by first|rfl|(simp [jx,jA,refs,eu,mj,refs_pu,cw];done)) rfl rfl rfl rfl rfl fun w2 tm2 hd2=>?_
  refine ai ?_
  refine ak rfl (bp 7 rfl bA rfl rfl ?_)
  refine ak rfl (bb bA rfl rfl rfl hok.len (by simp) ?_)
  refine ah ?_
  refine rz hd2 fun w3 hd3=>?_
  refine aM<|af ?_
  rcases HR e.iss e0.iss with hcs|hcs|hcs|hcs
  ·have hq := hcs
   refine dN 17 bx (by kernel_rfl) ?_
   refine t1 (aC Tryz.underlying45 rfl an (by decide) rfl rfl) rfl<|t1 (au an rfl rfl rfl) rfl<|t1 (au fw rfl rfl rfl) rfl<|t1 (aT 0 Tryz.underlying24 bA rfl rfl rfl (by omega) rfl) rfl<|t1 (bj Tryz.underlying45 rfl an (by decide) rfl rfl) rfl<|t1 (au an rfl rfl (dJ hl he0 (k:=0) rfl (by decide))) rfl<|t1 ((aa rfl).v (v':= .b false) (congrArg A.b (beq_eq_false_iff_ne.2 (by omega)))) rfl<|t1 (aa rfl) rfl<|aR rfl rfl rfl rfl<|aR rfl rfl rfl rfl ?_
   refine aR rfl rfl rfl rfl<|t1 (aa rfl) rfl<|t1 (aa rfl) rfl<|aR rfl rfl rfl rfl<|aR rfl rfl rfl rfl<|aR rfl rfl rfl rfl<|t1 (aa rfl) rfl ?_
   refine dO ?_
   refine eQ ⟨[]⟩ false rfl trivial (.cons (.pure pu) (.cons (.pure pu) .nil)) (iw 351) (fun u hu=>?_)
   refine bU ?_
   refine dA ?_
   refine py ((congrArg (fun f=>Tryz.prog.funcs[f]?) hF1).trans Tryz.func64) hR1 hd3 fun w4 hR4=>?_
   refine bU ?_
   refine bU ?_
   refine dA ?_
   refine bU ?_
   refine bU ?_
   refine dA ?_
   refine nS hR4 hS ?_
   refine dA ?_
   refine bU ?_
   exact nT rfl rfl rfl hS (dn:= [D1]) rfl rfl (by simp) ⟨hst.trans (eo he (.inl (vQ (by omega)))),hu⟩
  ·obtain ⟨hq, h0⟩ := hcs
   refine dN 17 bx (by kernel_rfl) ?_
   refine t1 (aC Tryz.underlying45 rfl an (by decide) rfl rfl) rfl<|t1 (au an rfl rfl rfl) rfl<|t1 (au fw rfl rfl rfl) rfl<|t1 (aT 0 Tryz.underlying24 bA rfl rfl rfl (by omega) rfl) rfl<|t1 (bj Tryz.underlying45 rfl an (by decide) rfl rfl) rfl<|t1 (au an rfl rfl (dJ hl he0 (k:=0) rfl (by decide))) rfl<|t1 ((aa rfl).v (v':= .b true) (congrArg A.b (beq_iff_eq.2 (by omega)))) rfl<|t1 (aa rfl) rfl<|aw rfl rfl (aC Tryz.underlying45 rfl an (by decide) rfl rfl) rfl<|aw rfl rfl (au an rfl rfl rfl) rfl ?_
   refine aw rfl rfl ((aa rfl).v (v':= .b false) (congrArg A.b (decide_eq_false (by omega)))) rfl<|t1 (aa rfl) rfl<|t1 (aa rfl) rfl<|aR rfl rfl rfl rfl<|aR rfl rfl rfl rfl<|aR rfl rfl rfl rfl<|t1 (aa rfl) rfl ?_
   refine dO ?_
   refine eQ ⟨[]⟩ false rfl trivial (.cons (.pure pu) (.cons (.pure pu) .nil)) (iw 351) (fun u hu=>?_)
   refine bU ?_
   refine dA ?_
   refine py ((congrArg (fun f=>Tryz.prog.funcs[f]?) hF1).trans Tryz.func64) hR1 hd3 fun w5 hR5=>?_
   refine bU ?_
   refine bU ?_
   refine dA ?_
   refine bU ?_
   refine bU ?_
   refine dA ?_
   refine nS hR5 hS ?_
   refine dA ?_
   refine bU ?_
   exact nT rfl rfl rfl hS (dn:= [D1]) rfl rfl (by simp) ⟨hst.trans (eo he (.inl (vQ (by omega)))),hu⟩
  ·obtain ⟨hq, h0, h8⟩ := hcs
   refine dN 17 bx (by kernel_rfl) ?_
   refine t1 (aC Tryz.underlying45 rfl an (by decide) rfl rfl) rfl<|t1 (au an rfl rfl rfl) rfl<|t1 (au fw rfl rfl rfl) rfl<|t1 (aT 0 Tryz.underlying24 bA rfl rfl rfl (by omega) rfl) rfl<|t1 (bj Tryz.underlying45 rfl an (by decide) rfl rfl) rfl<|t1 (au an rfl rfl (dJ hl he0 (k:=0) rfl (by decide))) rfl<|t1 ((aa rfl).v (v':= .b true) (congrArg A.b (beq_iff_eq.2 (by omega)))) rfl<|t1 (aa rfl) rfl<|aw rfl rfl (aC Tryz.underlying45 rfl an (by decide) rfl rfl) rfl<|aw rfl rfl (au an rfl rfl rfl) rfl ?_
   refine aw rfl rfl ((aa rfl).v (v':= .b true) (congrArg A.b (decide_eq_true (by omega)))) rfl<|t1 (aa rfl) rfl<|t1 (aa rfl) rfl<|aw rfl rfl (aC Tryz.underlying45 rfl an (by decide) rfl rfl) rfl<|aw rfl rfl (au an rfl rfl rfl) rfl<|aw rfl rfl ((aa rfl).v (v':= .b false) (congrArg A.b (decide_eq_false (by omega)))) rfl<|t1 (aa rfl) rfl ?_
   refine dO ?_
   refine eQ ⟨[]⟩ false rfl trivial (.cons (.pure pu) (.cons (.pure pu) .nil)) (iw 351) (fun u hu=>?_)
   refine bU ?_
   refine dA ?_
   refine py ((congrArg (fun f=>Tryz.prog.funcs[f]?) hF1).trans Tryz.func64) hR1 hd3 fun w6 hR6=>?_
   refine bU ?_
   refine bU ?_
   refine dA ?_
   refine bU ?_
   refine bU ?_
   refine dA ?_
   refine nS hR6 hS ?_
   refine dA ?_
   refine bU ?_
   exact nT rfl rfl rfl hS (dn:= [D1]) rfl rfl (by simp) ⟨hst.trans (eo he (.inl (vQ (by omega)))),hu⟩
  ·have hq := hcs
   obtain⟨hq1,h0,h8⟩:=hcs
   refine dN 17 bx (by kernel_rfl) ?_
   refine t1 (aC Tryz.underlying45 rfl an (by decide) rfl rfl) rfl<|t1 (au an rfl rfl rfl) rfl<|t1 (au fw rfl rfl rfl) rfl<|t1 (aT 0 Tryz.underlying24 bA rfl rfl rfl (by omega) rfl) rfl<|t1 (bj Tryz.underlying45 rfl an (by decide) rfl rfl) rfl<|t1 (au an rfl rfl (dJ hl he0 (k:=0) rfl (by decide))) rfl<|t1 ((aa rfl).v (v':= .b true) (congrArg A.b (beq_iff_eq.2 (by omega)))) rfl<|t1 (aa rfl) rfl<|aw rfl rfl (aC Tryz.underlying45 rfl an (by decide) rfl rfl) rfl<|aw rfl rfl (au an rfl rfl rfl) rfl ?_
   refine aw rfl rfl ((aa rfl).v (v':= .b true) (congrArg A.b (decide_eq_true (by omega)))) rfl<|t1 (aa rfl) rfl<|t1 (aa rfl) rfl<|aw rfl rfl (aC Tryz.underlying45 rfl an (by decide) rfl rfl) rfl<|aw rfl rfl (au an rfl rfl rfl) rfl<|aw rfl rfl ((aa rfl).v (v':= .b true) (congrArg A.b (decide_eq_true (by omega)))) rfl<|t1 (aa rfl) rfl ?_
   refine dO ?_
   refine ak rfl (aI false rfl (.cons (.pure pu) (.cons (.pure pu) .nil)) (fT 351) pu (.inl rfl) rfl ?_)
   refine ah<|ae<|af<|ai<|s1 (aC Tryz.underlying45 rfl an (by decide) rfl rfl) rfl<|s1 (au an rfl rfl rfl) rfl<|s1 (au an rfl rfl rfl) rfl<|s1 (aa rfl) rfl<|s1 (aa rfl) rfl ?_
   refine dC 5 rfl rfl rfl rfl (fun hb36=> .step (aC Tryz.underlying45 rfl dS (by decide) rfl rfl) rfl rfl<| .step (aC Tryz.underlying43 rfl an (by decide) rfl rfl) rfl rfl<| .step (au an rfl rfl (pS hok)) rfl rfl<| .step (au an rfl rfl rfl) rfl rfl<| .step (aa rfl) rfl rfl<| .done) rfl rfl ?_
   refine s1 (aa rfl) rfl ?_
   refine dC 4 rfl rfl rfl rfl (fun hb43=> .step (aC Tryz.underlying45 rfl az (by decide) rfl rfl) rfl rfl<| .step (bY az rfl rfl (jl hok) (by simp [hok.prev])) rfl rfl<| .step (aV az rfl rfl (by rw [List.length_map,hpl])) rfl rfl<| .step (um Tryz.underlying23 Tryz.underlying5 aQ (by kernel_rfl) rfl rfl (by first|assumption|(simp;done)|(simp [*];done)) (by first|assumption|(simp;done)|(simp [*];done))) rfl rfl<| .done) rfl rfl ?_
   refine il 48 rfl (fun hc48=>?_) (fun hc48=>?_)
   ·skip
    refine ak rfl (aI false rfl (.cons (.pure pu) (.cons (.pure pu) .nil)) (fT 351) pu (.inl rfl) rfl ?_)
    refine ah<|ae<|af<|ai<|s1 (aC Tryz.underlying45 rfl an (by decide) rfl rfl) rfl<|s1 (au an rfl rfl rfl) rfl<|s1 (au an rfl rfl rfl) rfl<|s1 (aa rfl) rfl<|s1 (aa rfl) rfl ?_
    refine dC 3 rfl rfl rfl rfl (fun hb54=> .step (aC Tryz.underlying45 rfl an (by decide) rfl rfl) rfl rfl<| .step (au an rfl rfl rfl) rfl rfl<| .step (aa rfl) rfl rfl<| .done) rfl rfl ?_
    refine il 58 rfl (fun hc58=>?_) (fun hc58=>?_)
    ·skip
     refine ak rfl (aI false rfl (.cons (.pure pu) (.cons (.pure pu) .nil)) (fT 351) pu (.inl rfl) rfl ?_)
     refine ah<|ae ?_
     refine bP ⟨_, [], []⟩ 7 4 bx (le_refl rfl) ?_
     refine aj 0 [] [(5,none)] (au an rfl rfl rfl) rfl rfl<|aj 1 [0] [] (bc i 1 rfl rfl rfl rfl (by omega)) rfl rfl<|aj 2 [] [(7,none)] (aC Tryz.underlying45 rfl an (by decide) rfl rfl) rfl rfl<|aj 3 [2] [(7,none)] (au an rfl rfl rfl) rfl rfl<|aj 4 [] [(7,none)] (aV bA rfl rfl hok.len) rfl rfl<|bL false 5 [4] [] aW rfl (.cons (.pure pu) (.nil)) (lW e hok) pu (.inl rfl) rfl rfl<|Hs 0 6 [1] [(5,none)] rfl aW an rfl rfl rfl rfl (by first|rfl|omega|(simp<;>omega)|(simp [*]<;>omega)) rfl rfl<|bQ (by kernel_rfl) ?_
     refine ak rfl (bZ an rfl rfl rfl rfl (by first|rfl|omega|(simp<;>omega)|(simp [*]<;>omega)) rfl ?_)
     refine ak rfl (bb az rfl rfl rfl (by simp) (by simp [hpl]) ?_)
     refine ah<|bh ?_
     refine rB hR1 hd3 rfl ?_
     refine s1 (aa rfl) rfl ?_
     refine ah<|ae ?_
     refine cF rfl ?_
     refine aL<|ae ?_
     rcases kf (cR τ (-1) e.ch)with hcs|hcs
     ·skip
      refine ai<|s1 (au xP rfl rfl rfl) rfl<|s1 (aC Tryz.underlying45 rfl cK (by decide) rfl rfl) rfl<|s1 (au cK rfl rfl rfl) rfl ?_
      refine eQ ⟨[(700,some [.mc b8 (mapOf τ)])]⟩ false rfl ⟨⟨rfl,a8.pure aq⟩,trivial⟩ (.cons (.pure pu) (.cons (.pure pu) .nil)) (vK (Nat.le_trans hok.gT (by decide)) hcs) (fun u hu=>?_)
      refine dA ?_
      refine bU ?_
      refine bU ?_
      refine dA ?_
      refine nS hR1 hS ?_
      refine dA ?_
      refine bU ?_
      exact nT rfl rfl rfl hS (dn:= [D1]) rfl rfl (by simp) ⟨hst.trans (eo he (.inr hcs)),hu.2⟩
     ·skip
      refine ai<|s1 (au xP rfl rfl rfl) rfl<|s1 (aC Tryz.underlying45 rfl cK (by decide) rfl rfl) rfl<|s1 (au cK rfl rfl rfl) rfl ?_
      refine ak rfl (oz ⟨[(700,some [.mc b8 (mapOf τ)])]⟩ [(700, [.mc b8 (mapOf (aX τ e.ch))])] false rfl ⟨⟨rfl,a8.pure aq⟩,trivial⟩ (.cons (.pure pu) (.cons (.pure pu) .nil)) (vJ (Nat.le_trans hok.gT (by decide)) hcs) pu (.inl rfl) (fun p hp=>by rw [List.mem_singleton.1 hp];exact⟨⟨_,rfl⟩,aq,.inl rfl⟩) rfl ?_)
      refine ah<|bh<|ae<|ai<|s1 (bc _ 1 rfl rfl rfl rfl (by omega)) rfl<|s1 (aa rfl) rfl ?_
      refine ah ?_
      exact br (x:=(i,τ,day,prev)) ((i+1,aX τ e.ch,e.day,cu e)) (⟨show i+1≤l.length by omega,Io e,hst.trans (wh he (GW hi0 hq (by simpa using hc48) (by simpa using hc58)) hcs)⟩) (show l.length - (i+1)<l.length - i by omega) [(1,some 1),(4,some 4),(5,some 5),(6,some 6),(700,some 700)] hR1.sub.ids rfl rfl ⟨⟨_,rfl,.pure trivial⟩,⟨_,rfl,.pure pu⟩,⟨_,rfl,.pure pu⟩,⟨_,rfl,.pure pu⟩,⟨_,rfl,.pure pu⟩,⟨_,rfl,.pure pu⟩,trivial⟩ ⟨.inr ⟨_,_,rfl,rfl,.pure aq⟩,.inr ⟨_,_,rfl,rfl,.pure aq⟩,.inr ⟨_,_,rfl,rfl,.of (rfl:_= [nJ (i+1)]) (.pure aq)⟩,.inr ⟨_,_,rfl,rfl,.of (rfl:_= [A.i .i64 e.day]) (.pure aq)⟩,.inr ⟨_,_,rfl,rfl,.pure aq⟩,trivial⟩
    ·skip
     refine eQ ⟨[]⟩ false rfl trivial (.cons (.pure pu) (.cons (.pure pu) .nil)) (iw 351) (fun u hu=>?_)
     refine bU ?_
     refine dA ?_
     refine py ((congrArg (fun f=>Tryz.prog.funcs[f]?) hF1).trans Tryz.func64) hR1 hd3 fun w7 hR7=>?_
     refine bU ?_
     refine bU ?_
     refine dA ?_
     refine bU ?_
     refine bU ?_
     refine dA ?_
     refine nS hR7 hS ?_
     refine dA ?_
     refine bU ?_
     exact nT rfl rfl rfl hS (dn:= [D1]) rfl rfl (by simp) ⟨hst.trans (eo he (.inl (GV (by simpa using hc58)))),hu⟩
   ·skip
    refine eQ ⟨[]⟩ false rfl trivial (.cons (.pure pu) (.cons (.pure pu) .nil)) (iw 351) (fun u hu=>?_)
    refine bU ?_
    refine dA ?_
    refine py ((congrArg (fun f=>Tryz.prog.funcs[f]?) hF1).trans Tryz.func64) hR1 hd3 fun w8 hR8=>?_
    refine bU ?_
    refine bU ?_
    refine dA ?_
    refine bU ?_
    refine bU ?_
    refine dA ?_
    refine nS hR8 hS ?_
    refine dA ?_
    refine bU ?_
    exact nT rfl rfl rfl hS (dn:= [D1]) rfl rfl (by simp) ⟨hst.trans (eo he (.inl (GU (by simpa using hc48)))),hu⟩
 ·obtain rfl : i = l.length := by have := of_decide_eq_false hc9; omega
  rw [List.drop_length]at hst
  refine bC<|aP<|aP<|bD ?_
  refine uY rfl hR1 hS ?_
  refine bh<|ae ?_
  refine nQ ?_
  refine af<|ai<|s1 (aa rfl) rfl<|s1 (aa rfl) rfl ?_
  refine ah<|ae<|aE ?_
  refine E8 (rs:= [.tmp 2]) rfl rfl rfl hS (dn:= [D1]) rfl rfl (by simp) rfl (aD rfl aB) ?_
  exact⟨τ,hst,b8,rfl,rfl⟩
theorem Ah {l:List Ep} (hl:dB l) (hn:l.length≤maxLen) {σ:Int→Int} (h:cv l=some σ):aA Tryz.prog 64 [cO l] (nL (mapOf σ)):=(Ag l hl hn).ret (fun r st ⟨τ,h1,h2⟩=>by rw [h]at h1;cases h1;exact h2) fun u hu=>by rw [h]at hu;cases hu.1
theorem Ai {l:List Ep} (hl:dB l) (hn:l.length≤maxLen) (h:cv l=none):kZ Tryz.prog 64 [cO l] ⟨[]⟩ (fun u=>cv l=none∧u=gY 136 351):=(Ag l hl hn).tv fun r st ⟨τ,h1,_⟩=>by rw [h]at h1;cases h1
end Go.Abs.D2
-- E5E
namespace Go.Abs.D2
open Go Go.Eng Go.Abs Go.Proofs
theorem Ac (r:List UInt8) (n:Int) (l:List Ep) (hr:r.length=32) (hl:dB l) (hn:l.length≤maxLen):iY Tryz.prog 40 [.ag (r.map u8),.i .i64 n,cO l] ⟨[]⟩ (fun q st=>∃σ,cv l=some σ∧cN r n l=0∧nL (mapOf σ) q st) (fun u=>cN r n l≠0∧u=gY 136 (cN r n l)):=by
 refine r8 Tryz.func40 rfl Tryz.ntmps40 (by kernel_rfl) (Nat.le_of_ble_eq_true rfl) fun w0 X0 hI=>?_
 refine af ?_
 have hn2:=hn
 simp only [maxLen]at hn2
 refine ai ?_
 refine ak rfl (bK 3 rfl rfl rfl ?_)
 refine s1 (aa rfl) rfl ?_
 refine ah<|ae<|af ?_
 rcases qq (cv l)with hcs|hcs
 ·have hf := hcs
  refine ai<|s1 (aa rfl) rfl ?_
  refine eQ ⟨[]⟩ false rfl trivial (.cons (.pure pu) .nil) (Ai hl hn hf) (fun u hu=>?_)
  refine bU ?_
  exact mN (show cN r n l≠0∧_=gY 136 (cN r n l) by rw [pE hf];exact⟨by decide,hu.2⟩)
 ·obtain ⟨σ, hf⟩ := hcs
  refine ai<|s1 (aa rfl) rfl ?_
  refine ak rfl (sU (F:=mapOf σ) rfl (.cons (.pure pu) (.nil)) (Ah hl hn hf) rfl rfl fun b12=>?_)
  refine s1 (aa rfl) rfl ?_
  refine ah<|ae<|af<|af<|ai<|s1 (aa rfl) rfl<|s1 (bu Tryz.underlying24 rfl rfl rfl) rfl<|s1 ((aa rfl).v (v':= .i .i64 0) rfl) rfl ?_
  refine ah<|ae<|aM ?_
  refine bF (ι:=Nat) (fun i=> [(1,.i .i64 n),(3,.p 3 0),(7,.raw (.map (some b12))),(13,cO l),(14,nJ l.length),(15,nJ i)]) (fun i=>⟨[(3,some (r.map u8)),(700,some ([.mc b12 (mapOf σ)]))]⟩) (fun i=>i≤l.length∧∀e∈l.take i,dU r n (cu e) e.sg.a e.sg.S e.sg.P=true) (fun i=>l.length - i) ?_ ?_
  ·exact bE (0) (⟨Nat.zero_le _,fun e he=>by simp at he⟩) [(3,some 3),(700,some 700)] hI rfl rfl ⟨⟨_,rfl,.pure pu⟩,⟨_,rfl,.p rfl⟩,⟨_,rfl,.pure pu⟩,⟨_,rfl,.pure pu⟩,⟨_,rfl,.pure pu⟩,⟨_,rfl,.pure pu⟩,trivial⟩ ⟨.inr ⟨_,_,rfl,rfl,.pure aq⟩,.inr ⟨_,_,rfl,rfl,.pure aq⟩,trivial⟩
  rintro i ⟨hi,hall⟩
  refine af<|ai<|s1 (aa rfl) rfl ?_
  refine ah<|ae<|af ?_
  refine aO rfl (fun hc16=>?_) (fun hc16=>?_)
  ·have h16 : i < l.length := by have := of_decide_eq_true hc16; omega
   obtain⟨e,he⟩:∃e,l[i]? =some e:=⟨_,List.getElem?_eq_getElem h16⟩
   have hem:=List.mem_of_getElem? he
   have hok:=hl e hem
   refine aL<|ae<|af<|aM<|af<|ai<|s1 (aT i Tryz.underlying24 bA rfl rfl rfl (by omega) rfl) rfl<|s1 (bY bA rfl rfl (iM hl he) hok.len) rfl ?_
   refine ak rfl (bp 9 rfl bA rfl rfl ?_)
   refine ak rfl (bb bA rfl rfl rfl hok.len (by simp) ?_)
   refine ah<|ae<|af ?_
   rcases kf (dU r n (cu e) e.sg.a e.sg.S e.sg.P)with hcs|hcs
   ·skip
    refine bP ⟨_, [], []⟩ 7 4 bx (le_refl rfl) ?_
    refine aj 0 [] [(3,none)] (aV az rfl rfl (by rw [List.length_map,hr])) rfl rfl<|aj 1 [] [] (aa rfl) rfl rfl<|aj 2 [] [(9,none)] (aV bA rfl rfl hok.len) rfl rfl<|bL false 3 [2] [] aW rfl (.cons (.pure pu) (.nil)) (lW e hok) pu (.inl rfl) rfl rfl<|aj 4 [] [(9,none)] (aC Tryz.underlying45 rfl dS (by decide) rfl rfl) rfl rfl<|aj 5 [4] [(9,none)] (bY dS rfl rfl (As hok) rfl) rfl rfl<|bL false 6 [0,1,3,5] [] aW rfl (.cons (.pure pu) (.cons (.pure pu) (.cons (.pure pu) (.cons (.pure pu) (.nil))))) (aA.cast (Bn r (cu e) n e.sg.a e.sg.S e.sg.P hr (by simp) hok.S hok.P) (show _=A.i .i64 60 by rw [hcs];rfl)) pu (.inl rfl) rfl rfl<|bQ (by kernel_rfl) ?_
    refine s1 (aa rfl) rfl ?_
    refine ah<|ae<|ai<|s1 (aa rfl) rfl<|s1 ((aa rfl).v (v':= .b false) (rfl)) rfl<|s1 (aa rfl) rfl ?_
    refine eQ ⟨[]⟩ false rfl trivial (.cons (.pure pu) (.cons (.pure pu) .nil)) (iw 60) (fun u hu=>?_)
    refine dA ?_
    refine bU ?_
    refine bU ?_
    refine dA ?_
    refine bU ?_
    exact mN (show cN r n l≠0∧_=gY 136 (cN r n l) by rw [rN hf hem hcs];exact⟨by decide,hu⟩)
   ·skip
    refine bP ⟨_, [], []⟩ 7 4 bx (le_refl rfl) ?_
    refine aj 0 [] [(3,none)] (aV az rfl rfl (by rw [List.length_map,hr])) rfl rfl<|aj 1 [] [] (aa rfl) rfl rfl<|aj 2 [] [(9,none)] (aV bA rfl rfl hok.len) rfl rfl<|bL false 3 [2] [] aW rfl (.cons (.pure pu) (.nil)) (lW e hok) pu (.inl rfl) rfl rfl<|aj 4 [] [(9,none)] (aC Tryz.underlying45 rfl dS (by decide) rfl rfl) rfl rfl<|aj 5 [4] [(9,none)] (bY dS rfl rfl (As hok) rfl) rfl rfl<|bL false 6 [0,1,3,5] [] aW rfl (.cons (.pure pu) (.cons (.pure pu) (.cons (.pure pu) (.cons (.pure pu) (.nil))))) (aA.cast (Bn r (cu e) n e.sg.a e.sg.S e.sg.P hr (by simp) hok.S hok.P) (show _=A.i .i64 0 by rw [hcs];rfl)) pu (.inl rfl) rfl rfl<|bQ (by kernel_rfl) ?_
    refine s1 (aa rfl) rfl ?_
    refine ah<|ae<|ai<|s1 (aa rfl) rfl<|s1 ((aa rfl).v (v':= .b true) (rfl)) rfl<|s1 (aa rfl) rfl ?_
    refine ak rfl (aI false rfl (.cons (.pure pu) (.cons (.pure pu) .nil)) (fT 0) pu (.inl rfl) rfl ?_)
    refine ah<|bh<|ae<|ai<|s1 (bc _ 1 rfl rfl rfl rfl (by omega)) rfl<|s1 (aa rfl) rfl ?_
    refine ah ?_
    exact br (i+1) (⟨by omega,uQ he hall hcs⟩) (by omega) [(3,some 3),(700,some 700)] hI rfl rfl ⟨⟨_,rfl,.pure pu⟩,⟨_,rfl,.p rfl⟩,⟨_,rfl,.pure pu⟩,⟨_,rfl,.pure pu⟩,⟨_,rfl,.pure pu⟩,⟨_,rfl,.pure pu⟩,trivial⟩ ⟨.inr ⟨_,_,rfl,rfl,.pure aq⟩,.inr ⟨_,_,rfl,rfl,.pure aq⟩,trivial⟩
  ·obtain rfl : i = l.length := by have := of_decide_eq_false hc16; omega
   rw [List.take_length]at hall
   refine bC<|aP<|aP<|bD<|ae<|af<|ai<|s1 (aa rfl) rfl<|s1 (aa rfl) rfl ?_
   refine ah<|ae<|aE ?_
   refine yK (rs:= [.tmp 6]) rfl (aD rfl aB) ?_
   exact⟨σ,hf,rO hf hall,b12,rfl,rfl⟩
theorem Ad {r:List UInt8} {n:Int} {l:List Ep} (hr:r.length=32) (hl:dB l) (hn:l.length≤maxLen) {σ:Int→Int} (h:cv l=some σ) (h0:cN r n l=0):aA Tryz.prog 40 [.ag (r.map u8),.i .i64 n,cO l] (nL (mapOf σ)):=(Ac r n l hr hl hn).ret (fun q st ⟨τ,h1,_,h2⟩=>by rw [h]at h1;cases h1;exact h2) fun u hu=>hu.1 h0
theorem Ae {r:List UInt8} {n:Int} {l:List Ep} (hr:r.length=32) (hl:dB l) (hn:l.length≤maxLen) (h:cN r n l≠0):kZ Tryz.prog 40 [.ag (r.map u8),.i .i64 n,cO l] ⟨[]⟩ (fun u=>cN r n l≠0∧u=gY 136 (cN r n l)):=(Ac r n l hr hl hn).tv fun q st ⟨_,_,h1,_⟩=>h h1
theorem GG (c0:A) (e:Int):oZ Tryz.prog 38 [.p 6 0] ⟨[(6,some [c0])]⟩ (fun u=>u=gY 136 e) [(6, [.i .i64 e])]:=by
 refine vn (.ic 136 (.ag [.i .i64 e])) (fun u hu X w β=>by rw [hu];exact uG _ _) Tryz.func38 rfl Tryz.ntmps38 (Nat.le_of_ble_eq_true rfl) rfl rfl fun w0 X0 hI=>?_
 refine af<|ai<|s1 (aa rfl) rfl<|s1 (xZ Tryz.underlying20 rfl) rfl ?_
 refine ah<|ae ?_
 refine bR rfl ?_
 refine ai<|s1 (aa rfl) rfl ?_
 refine ak rfl (aI false rfl (.cons (.pure pu) (.nil)) (vL e) pu (.inl rfl) rfl ?_)
 refine ak rfl (bZ b5 rfl rfl rfl rfl (by first|rfl|omega|(simp<;>omega)|(simp [*]<;>omega)) rfl ?_)
 refine ah ?_
 refine lU (rs:= []) rfl aB (ni rfl)
theorem GH:o9 Tryz.prog 38 1:=vo Tryz.func38 rfl (fun w=>xu Tryz.underlying20 w) rfl ⟨Nat.le_of_ble_eq_true rfl,Nat.le_of_ble_eq_true rfl,Nat.le_of_ble_eq_true rfl,Nat.le_of_ble_eq_true rfl,Nat.le_of_ble_eq_true rfl⟩
theorem Af:ko Tryz.prog 38:=⟨_,Tryz.func38,rfl,by kernel_rfl⟩
theorem vI (r:List UInt8) (n:Int) (l:List Ep) (hr:r.length=32) (hl:dB l) (hn:l.length≤maxLen):aA Tryz.prog 13 [.ag (r.map u8),.i .i64 n,cO l] (aN (.i .i64 (cN r n l))):=by
 refine nZ Tryz.func13 rfl Tryz.ntmps13 (by kernel_rfl) (Nat.le_of_ble_eq_true rfl) fun w0 X0 hI hS=>?_
 refine af<|ai ?_
 refine ak rfl (bK 3 rfl rfl rfl ?_)
 refine ak rfl (bp 6 rfl b5 rfl rfl ?_)
 refine ah<|ae<|af<|ai<|s1 (gA (us:= []) (vs:= [.p 6 0]) rfl rfl) rfl ?_
 refine uX [6] hI rfl rfl trivial rfl fun w1 us hdf=>?_
 refine ah<|ae<|af ?_
 rcases zF r n l with hcs|hcs
 ·have h0 := hcs
  refine ai<|s1 (aV az rfl rfl (by rw [List.length_map,hr])) rfl<|s1 (aa rfl) rfl<|s1 (aa rfl) rfl ?_
  refine eQ ⟨[]⟩ false rfl trivial (.cons (.pure pu) (.cons (.pure pu) (.cons (.pure pu) .nil))) (Ae hr hl hn h0) (fun u hu=>?_)
  refine bU ?_
  refine jM ⟨[(6,some [.i .i64 0])]⟩ hdf hS Af ⟨⟨rfl,a8.pure aq⟩,trivial⟩ (.cons (.kp rfl) .nil) (GG _ (cN r n l)) (hu.2) (Jw rfl aq) rfl (dD b5 rfl rfl rfl aB) ?_
  exact rfl
 ·obtain ⟨σ, hf, h0⟩ := hcs
  refine ai<|s1 (aV az rfl rfl (by rw [List.length_map,hr])) rfl<|s1 (aa rfl) rfl<|s1 (aa rfl) rfl ?_
  refine ak rfl (sU (F:=mapOf σ) rfl (.cons (.pure pu) (.cons (.pure pu) (.cons (.pure pu) (.nil)))) (Ad hr hl hn hf h0) rfl rfl fun b11=>?_)
  refine ah<|ae<|af<|ai ?_
  refine ak rfl (bZ b5 rfl rfl rfl rfl (by first|rfl|omega|(simp<;>omega)|(simp [*]<;>omega)) rfl ?_)
  refine ah<|ae<|aE ?_
  refine rA hdf hS Af GH rfl (dD b5 rfl rfl rfl aB) ?_
  exact congrArg (A.i .i64) h0.symm
end Go.Abs.D2
-- E5F
namespace Go.Abs.D2
open Go Go.Eng Go.Abs Go.Proofs
theorem FY (l:List Ch) (hl:l.length≤1000000):aA Tryz.prog 47 [cC l] (aN (cC l)):=by
 refine enter Tryz.func47 rfl Tryz.ntmps47 (by kernel_rfl) (Nat.le_of_ble_eq_true rfl) fun w0 X0 hI=>?_
 refine af<|ai<|s1 (aa rfl) rfl ?_
 refine ah<|ae<|af<|af ?_
 rcases BE l.length with hcs|hcs
 ·obtain rfl := List.length_eq_zero_iff.1 hcs
  refine ai<|s1 (aa rfl) rfl ?_
  refine ak rfl (B1 Tryz.underlying31 rfl rfl rfl fun q4=>?_)
  refine ah<|ae ?_
  refine aO rfl (fun hc4=>?_) (fun hc4=>?_)
  ·skip
   refine af<|ai<|s1 (aa rfl) rfl ?_
   refine ah<|ae<|aE<|aH ?_
   refine Fb 2 rfl .nl ?_
   refine aF (rs:= [.tmp 2]) rfl (aD rfl aB) ?_
   rfl
  ·skip
   refine aL<|ae<|af<|ai ?_
   refine ak rfl (fY 5 rfl Tryz.underlying31 bt rfl rfl rfl (by first|(simp [aY];done)|(simp [aY, *];done)) (show gU []= []from rfl) rfl rfl rfl ?_)
   refine s1 (aa rfl) rfl ?_
   refine ak rfl (cT 7 rfl Tryz.underlying31 bt rfl (.sl rfl (by simp)) rfl rfl (by simp) (by simp only [maxLen];omega) (by omega) rfl rfl rfl ?_)
   refine s1 (aa rfl) rfl ?_
   refine ah<|ae<|aE ?_
   refine gp 2 rfl rfl aq (cm (by simp) rfl) ?_
   refine aF (rs:= [.tmp 2]) rfl (aD rfl aB) ?_
   rfl
 ·skip
  refine ai<|s1 (aa rfl) rfl<|s1 (xY Tryz.underlying31 rfl rfl hcs) rfl ?_
  refine ah<|ae ?_
  refine cF rfl ?_
  refine aL<|ae<|af<|ai ?_
  refine ak rfl (fY 5 rfl Tryz.underlying31 bt rfl rfl rfl (by first|(simp [aY];done)|(simp [aY, *];done)) (show gU []= []from rfl) rfl rfl rfl ?_)
  refine s1 (aa rfl) rfl ?_
  refine ak rfl (cT 7 rfl Tryz.underlying31 bt rfl (.sl rfl (by simp)) rfl rfl (by simp) (by simp only [maxLen];omega) (by omega) rfl rfl rfl ?_)
  refine s1 (aa rfl) rfl ?_
  refine ah<|ae<|aE ?_
  refine gp 2 rfl rfl aq (cm (by simp) rfl) ?_
  refine aF (rs:= [.tmp 2]) rfl (aD rfl aB) ?_
  exact congrArg (fun n=>A.fz n (eD l)) (Nat.zero_add _)
theorem zH (l:List Ep) (h:dB l) (hl:l.length≤1000000):aA Tryz.prog 54 [cO l] (dq 71 l.length (cY l)):=by
 refine enter Tryz.func54 rfl Tryz.ntmps54 (by kernel_rfl) (Nat.le_of_ble_eq_true rfl) fun w0 X0 hI=>?_
 refine af<|ai<|s1 (aa rfl) rfl ?_
 refine ah<|ae<|af<|af ?_
 rcases BE l.length with hcs|hcs
 ·obtain rfl := List.length_eq_zero_iff.1 hcs
  have hel:=kF h
  refine ai<|s1 (aa rfl) rfl ?_
  refine ak rfl (B1 Tryz.underlying24 rfl rfl rfl fun q4=>?_)
  refine ah<|ae ?_
  refine aO rfl (fun hc4=>?_) (fun hc4=>?_)
  ·skip
   refine af<|ai<|s1 (aa rfl) rfl ?_
   refine ah<|ae<|aE<|aH ?_
   refine yJ 9 rfl 2 71 rfl ?_
   refine aF (rs:= [.tmp 2]) rfl (aD rfl aB) ⟨9,rfl,rfl⟩
  ·skip
   refine aL<|ae<|af<|ai ?_
   refine ak rfl (fY 5 rfl Tryz.underlying24 bA rfl rfl rfl (by first|(simp [aY];done)|(simp [aY, *];done)) (show gU []= []from rfl) rfl rfl rfl ?_)
   refine s1 (aa rfl) rfl ?_
   refine ak rfl (cT 7 rfl Tryz.underlying24 bA rfl (.sl rfl (by simp)) rfl rfl (by first|rfl|omega) (by simp only [maxLen];omega) (by omega) rfl rfl rfl ?_)
   refine s1 (aa rfl) rfl ?_
   refine ah<|ae<|aE ?_
   refine aF (rs:= [.tmp 2]) rfl (aD rfl aB) ⟨7,rfl,rfl⟩
 ·skip
  have hel:=kF h
  refine ai<|s1 (aa rfl) rfl<|s1 (xY Tryz.underlying24 rfl rfl hcs) rfl ?_
  refine ah<|ae ?_
  refine cF rfl ?_
  refine aL<|ae<|af<|ai ?_
  refine ak rfl (fY 5 rfl Tryz.underlying24 bA rfl rfl rfl (by first|(simp [aY];done)|(simp [aY, *];done)) (show gU []= []from rfl) rfl rfl rfl ?_)
  refine s1 (aa rfl) rfl ?_
  refine ak rfl (cT 7 rfl Tryz.underlying24 bA rfl (.sl rfl (by simp)) rfl rfl (by first|rfl|omega) (by simp only [maxLen];omega) (by omega) rfl rfl rfl ?_)
  refine s1 (aa rfl) rfl ?_
  refine ah<|ae<|aE ?_
  refine aF (rs:= [.tmp 2]) rfl (aD rfl aB) ⟨7,congrArg (A.sl 7 71 0) (Nat.zero_add _),rfl⟩
theorem AT (a:Int):aA Tryz.prog 52 [.i .i64 a] (aN (.fz 4 ((eF a 4).map u8))):=by
 refine enter Tryz.func52 rfl Tryz.ntmps52 (by kernel_rfl) (Nat.le_of_ble_eq_true rfl) fun w0 X0 hI=>?_
 refine af<|ai<|s1 (aa rfl) rfl ?_
 refine ah<|ae<|af<|ai<|s1 (aa rfl) rfl<|s1 (kY rfl rfl (by decide)) rfl<|s1 ((cV Tryz.underlying3 Tryz.underlying5 rfl).v (Hm a)) rfl<|s1 (aa rfl) rfl<|s1 (kY rfl rfl (by decide)) rfl<|s1 ((cV Tryz.underlying3 Tryz.underlying5 rfl).v (Hn a)) rfl<|s1 (aa rfl) rfl<|s1 (kY rfl rfl (by decide)) rfl<|s1 ((cV Tryz.underlying3 Tryz.underlying5 rfl).v (Ho a)) rfl<|s1 (aa rfl) rfl ?_
 refine s1 ((cV Tryz.underlying3 Tryz.underlying5 rfl).v (Hp a)) rfl ?_
 refine ak rfl (kH Tryz.underlying68 aQ rfl rfl rfl (m7 rfl) (lZ rfl) aq rfl rfl rfl ?_)
 refine s1 (aa rfl) rfl ?_
 refine ah<|ae<|aE ?_
 refine aF (rs:= [.tmp 2]) rfl (aD rfl aB) ?_
 rfl
theorem DA (b:Nat) (σ:Int→Int) (hs:gj σ) (ids:List Int) (hn:ids.length≤1000):iY Tryz.prog 49 [.raw (.map (some b)),.fz ids.length (ids.map (A.i .i64))] ⟨[(700,some [.mc b (mapOf σ)])]⟩ (fun r st=>fN σ ids=true∧gP (.tu [.fz (dX σ ids).length ((dX σ ids).map (A.i .i64)),.fz (fm σ ids).length ((fm σ ids).map (A.i .i64))]) [] r st) (fun u=>fN σ ids=false∧u=gY 136 351):=by
 refine r8 Tryz.func49 rfl Tryz.ntmps49 (by kernel_rfl) (Nat.le_of_ble_eq_true rfl) fun w0 X0 hI=>?_
 refine af<|ai<|s1 (aa rfl) rfl<|s1 (aa rfl) rfl ?_
 refine ah<|ae<|af<|ai<|s1 ((aa rfl).v (v':= .i .i64 (-1)) rfl) rfl ?_
 refine ah<|ae<|af<|af<|ai<|s1 (aa rfl) rfl<|s1 (bu Tryz.underlying30 rfl rfl rfl) rfl<|s1 ((aa rfl).v (v':= .i .i64 0) rfl) rfl ?_
 refine ah<|ae<|aM ?_
 refine bF (ι:=Nat) (fun i=> [(0,.raw (.map (some b))),(4,.sl 131 1 0 (dX σ (ids.take i)).length),(5,.sl 135 1 0 (fm σ (ids.take i)).length),(6,.i .i64 (fL ids i)),(9,.fz ids.length (ids.map (A.i .i64))),(10,nJ ids.length),(11,nJ i)]) (fun i=>⟨[(131,some ((dX σ (ids.take i)).map (A.i .i64))),(135,some ((fm σ (ids.take i)).map (A.i .i64))),(700,some ([.mc b (mapOf σ)]))]⟩) (fun i=>i≤ids.length∧cP ids=dW (fL ids i) (ids.drop i)) (fun i=>ids.length - i) ?_ ?_
 ·exact bE (0) (⟨Nat.zero_le _,yI ids⟩) [(131,none),(135,none),(700,some 700)] hI rfl rfl ⟨⟨_,rfl,.pure pu⟩,⟨_,rfl,.nl rfl⟩,⟨_,rfl,.nl rfl⟩,⟨_,rfl,.pure pu⟩,⟨_,rfl,.pure pu⟩,⟨_,rfl,.pure pu⟩,⟨_,rfl,.pure pu⟩,trivial⟩ ⟨.inl ⟨rfl,rfl⟩,.inl ⟨rfl,rfl⟩,.inr ⟨_,_,rfl,rfl,.pure aq⟩,trivial⟩
 rintro i ⟨hi,hl⟩
 have hlb:=wG σ (ids.take i)
 have hlg:=wJ σ (ids.take i)
 rw [List.length_take]at hlb hlg
 refine af<|ai<|s1 (aa rfl) rfl ?_
 refine ah<|ae<|af ?_
 refine aO rfl (fun hc12=>?_) (fun hc12=>?_)
 ·have h12 : i < ids.length := by have := of_decide_eq_true hc12; omega
  obtain⟨q,hq⟩:∃q,ids[i]? =some q:=⟨_,List.getElem?_eq_getElem h12⟩
  refine aL<|ae<|af<|aM<|af<|ai<|s1 (aT i Tryz.underlying30 an rfl rfl rfl (by omega) rfl) rfl<|s1 (au an rfl rfl (oq hq)) rfl<|s1 (aa rfl) rfl ?_
  refine ah<|ae<|af<|ai<|s1 (aa rfl) rfl<|s1 (aa rfl) rfl<|s1 (aa rfl) rfl<|s1 (aa rfl) rfl ?_
  refine dC 2 rfl rfl rfl rfl (fun hb18=> .step (aa rfl) rfl rfl<| .step (aa rfl) rfl rfl<| .done) rfl rfl ?_
  refine il 21 rfl (fun hc21=>?_) (fun hc21=>?_)
  ·have h21 : fL ids i < q ∧ q < 1024 := by simp at hc21; omega
   refine ak rfl (aI false rfl (.cons (.pure pu) (.cons (.pure pu) .nil)) (fT 351) pu (.inl rfl) rfl ?_)
   refine ah<|ae<|af<|ai<|s1 ((aa rfl).v (v':= .i .i64 (fL ids (i+1))) (congrArg (A.i .i64) (wE hq).symm)) rfl<|s1 (aa rfl) rfl ?_
   refine ah<|ae<|af<|ai<|s1 (aa rfl) rfl<|s1 (aa rfl) rfl<|s1 (nD Tryz.underlying80 Tryz.underlying3 uw rfl rfl rfl (sN _ _)) rfl<|s1 (aa rfl) rfl ?_
   refine ah<|ae ?_
   refine aO rfl (fun hc27=>?_) (fun hc27=>?_)
   ·have h27 : σ q ≠ 0 := by simpa using hc27
    obtain⟨hb1,hb2⟩:=Ff hq h27
    refine ai<|s1 (aa rfl) rfl<|s1 (aa rfl) rfl ?_
    refine ak rfl (dG 30 rfl Tryz.underlying30 an rfl rfl rfl rfl rfl ?_)
    refine ak rfl (cT 31 rfl Tryz.underlying30 an rfl (.sl rfl (by simp)) rfl (cE rfl (by first|rfl|omega|(simp<;>omega)|(simp [*]<;>omega))) (by simp) (by simp only [maxLen];omega) (by omega) rfl rfl rfl ?_)
    refine s1 (aa rfl) rfl ?_
    refine ah<|bh<|ae<|ai<|s1 (bc _ 1 rfl rfl rfl rfl (by omega)) rfl<|s1 (aa rfl) rfl ?_
    refine ah ?_
    exact br (i+1) (⟨by omega,uU hl hq h21⟩) (by omega) [(131,some 31),(135,some 135),(700,some 700)] hI rfl rfl ⟨⟨_,rfl,.pure pu⟩,⟨_,rfl,.sl rfl (by first|rfl|omega|(simp<;>omega)|(simp [*]<;>omega))⟩,⟨_,rfl,.sl rfl (by first|rfl|omega|(simp<;>omega)|(simp [*]<;>omega))⟩,⟨_,rfl,.pure pu⟩,⟨_,rfl,.pure pu⟩,⟨_,rfl,.pure pu⟩,⟨_,rfl,.pure pu⟩,trivial⟩ ⟨.inr ⟨_,_,rfl,rfl,.of (by rw [hb1,List.map_append];rfl) (.pure aq)⟩,.inr ⟨_,_,rfl,rfl,.of (by rw [hb2]) (.pure aq)⟩,.inr ⟨_,_,rfl,rfl,.pure aq⟩,trivial⟩
   ·have h27 : σ q = 0 := by simpa using hc27
    obtain⟨hb1,hb2⟩:=Fg hq h27
    refine ai<|s1 (aa rfl) rfl<|s1 (aa rfl) rfl ?_
    refine ak rfl (dG 34 rfl Tryz.underlying30 an rfl rfl rfl rfl rfl ?_)
    refine ak rfl (cT 35 rfl Tryz.underlying30 an rfl (.sl rfl (by simp)) rfl (cE rfl (by first|rfl|omega|(simp<;>omega)|(simp [*]<;>omega))) (by simp) (by simp only [maxLen];omega) (by omega) rfl rfl rfl ?_)
    refine s1 (aa rfl) rfl ?_
    refine ah<|bh<|ae<|ai<|s1 (bc _ 1 rfl rfl rfl rfl (by omega)) rfl<|s1 (aa rfl) rfl ?_
    refine ah ?_
    exact br (i+1) (⟨by omega,uU hl hq h21⟩) (by omega) [(131,some 131),(135,some 35),(700,some 700)] hI rfl rfl ⟨⟨_,rfl,.pure pu⟩,⟨_,rfl,.sl rfl (by first|rfl|omega|(simp<;>omega)|(simp [*]<;>omega))⟩,⟨_,rfl,.sl rfl (by first|rfl|omega|(simp<;>omega)|(simp [*]<;>omega))⟩,⟨_,rfl,.pure pu⟩,⟨_,rfl,.pure pu⟩,⟨_,rfl,.pure pu⟩,⟨_,rfl,.pure pu⟩,trivial⟩ ⟨.inr ⟨_,_,rfl,rfl,.of (by rw [hb1]) (.pure aq)⟩,.inr ⟨_,_,rfl,rfl,.of (by rw [hb2,List.map_append];rfl) (.pure aq)⟩,.inr ⟨_,_,rfl,rfl,.pure aq⟩,trivial⟩
  ·have h21 : ¬ (fL ids i < q ∧ q < 1024) := by simp at hc21; omega
   refine eQ ⟨[]⟩ false rfl trivial (.cons (.pure pu) (.cons (.pure pu) .nil)) (iw 351) (fun u hu=>?_)
   refine bU ?_
   refine dA ?_
   refine bU ?_
   refine bU ?_
   refine dA ?_
   refine bU ?_
   exact mN ⟨Dy (yH hl hq h21),hu⟩
 ·have h12 : i = ids.length := by have := of_decide_eq_false hc12; omega
  subst h12
  refine bC<|aP<|aP<|bD<|ae<|af ?_
  refine cX 131 (cs':=(dX σ ids).map (A.i .i64)) rfl (by rw [List.take_length]) ?_
  refine cX 135 (cs':=(fm σ ids).map (A.i .i64)) rfl (by rw [List.take_length]) ?_
  refine ai<|s1 (aa rfl) rfl<|s1 (bu Tryz.underlying30 rfl rfl rfl) rfl<|s1 (aa rfl) rfl<|s1 (MK (c6 σ) Tryz.underlying80 rfl rfl (wD σ) (sF hs)) rfl<|s1 (aa rfl) rfl ?_
  refine il 41 rfl (fun hc41=>?_) (fun hc41=>?_)
  ·have h41 : (dX σ ids).length = (c6 σ).length := by have := of_decide_eq_true hc41; rw [List.take_length] at this; omega
   refine ak rfl (aI false rfl (.cons (.pure pu) (.cons (.pure pu) .nil)) (fT 351) pu (.inl rfl) rfl ?_)
   refine ah<|ae<|af<|ai<|s1 (aa rfl) rfl<|s1 (aa rfl) rfl<|s1 (aa rfl) rfl<|s1 (aa rfl) rfl ?_
   refine ah<|ae<|aE ?_
   refine gp 4 rfl rfl aq (cm (by simp) rfl) ?_
   refine gp 5 rfl rfl aq (cm (by simp) rfl) ?_
   refine yK (rs:= [.tmp 4,.tmp 5]) rfl (aD rfl (aD rfl aB)) ⟨xF (yE hl) h41,?_,fun p hp=>by cases hp⟩
   show A.tu _=A.tu _
   rw [List.take_length]
  ·have h41 : (dX σ ids).length ≠ (c6 σ).length := by have := of_decide_eq_false hc41; rw [List.take_length] at this; omega
   refine eQ ⟨[]⟩ false rfl trivial (.cons (.pure pu) (.cons (.pure pu) .nil)) (iw 351) (fun u hu=>?_)
   refine bU ?_
   exact mN ⟨LO h41,hu⟩
theorem DB {b:Nat} {σ:Int→Int} (hs:gj σ) {ids:List Int} (hn:ids.length≤1000) (h:fN σ ids=true):cH Tryz.prog 49 [.raw (.map (some b)),.fz ids.length (ids.map (A.i .i64))] ⟨[(700,some [.mc b (mapOf σ)])]⟩ (gP (.tu [.fz (dX σ ids).length ((dX σ ids).map (A.i .i64)),.fz (fm σ ids).length ((fm σ ids).map (A.i .i64))]) []):=(DA b σ hs ids hn).ret (fun _ _ h=>h.2) fun u hu=>by rw [h]at hu;cases hu.1
theorem DC {b:Nat} {σ:Int→Int} (hs:gj σ) {ids:List Int} (hn:ids.length≤1000) (h:fN σ ids=false):kZ Tryz.prog 49 [.raw (.map (some b)),.fz ids.length (ids.map (A.i .i64))] ⟨[(700,some [.mc b (mapOf σ)])]⟩ (fun u=>fN σ ids=false∧u=gY 136 351):=(DA b σ hs ids hn).tv fun r st hu=>by rw [h]at hu;cases hu.1
end Go.Abs.D2
-- K6C
namespace Go.Abs.D2
open Go Go.Eng Go.Abs Go.Proofs
theorem Ds (x:List UInt8) (k:Nat) (a:Int) (m:List UInt8) (hx:x.length=32) (hm:m.length=32) (hk:cn (k:Int)):aA Tryz.prog 53 [.ag (x.map u8),bq (dw x k),.i .i64 a,.ag (m.map u8)] (aN (signA x k a m)):=by
 refine enter Tryz.func53 rfl Tryz.ntmps53 (by kernel_rfl) (Nat.le_of_ble_eq_true rfl) fun w0 X0 hI=>?_
 refine af<|ai ?_
 refine ak rfl (bK 4 rfl rfl rfl ?_)
 refine ak rfl (bK 7 rfl rfl rfl ?_)
 refine ak rfl (bp 8 rfl dS rfl rfl ?_)
 refine s1 ((aa rfl).v (v':= .i .i64 0) rfl) rfl ?_
 refine ah<|ae<|af ?_
 rcases(Decidable.em (eU (k:Int) a)).symm with hcs|hcs
 ·skip
  have hk2:k≤256:=by unfold cn at hk;omega
  refine ai<|s1 (aa rfl) rfl<|s1 (aa rfl) rfl ?_
  refine ak rfl (aI false rfl (.cons (.pure pu) (.cons (.pure pu) (.nil))) (aA.cast (CE (dw x k) a (mE x k) (by simp;omega)) (JN (by rw [len_kpubs];exact hcs))) pu (.inl rfl) rfl ?_)
  refine s1 (aa rfl) rfl<|s1 (aa rfl) rfl<|s1 (aa rfl) rfl<|s1 (aa rfl) rfl<|s1 (aa rfl) rfl ?_
  refine ah<|ae<|af<|af<|ai<|s1 (aa rfl) rfl<|s1 ((aa rfl).v (v':= .b true) (rfl)) rfl ?_
  refine ah<|ae ?_
  refine bR rfl ?_
  refine af<|ai<|s1 (aV dS rfl rfl (by first|rfl|omega|(simp<;>omega)|(simp [*]<;>omega))) rfl ?_
  refine ak rfl (bb dS rfl rfl rfl (by first|rfl|omega|(simp<;>omega)|(simp [*]<;>omega)) (by first|rfl|omega|(simp<;>omega)|(simp [*]<;>omega)) ?_)
  refine s1 ((aa rfl).v (v':= .i .i64 60) rfl) rfl ?_
  refine ah<|ae<|aE<|aH ?_
  refine iK 8 rfl (.cons (.eq rfl) (.cons .nl (.cons .nl .nil))) ?_
  refine aF (rs:= [.cell 8 43,.tmp 9]) rfl (bW dS rfl rfl rfl rfl (aD rfl aB)) ?_
  exact(LF (fun h=>hcs h.2)).symm
 ·have hat := hcs
  obtain⟨i,rfl,hi⟩:∃i:Nat,a=(i:Int)∧i<k:=⟨a.toNat,by unfold eU at hcs;omega,by unfold eU at hcs;omega⟩
  have hk2:k≤256:=by unfold cn at hk;omega
  refine ai<|s1 (aa rfl) rfl<|s1 (aa rfl) rfl ?_
  refine ak rfl (aI false rfl (.cons (.pure pu) (.cons (.pure pu) (.nil))) (aA.cast (CE (dw x k) (i:Nat) (mE x k) (by simp;omega)) (JO (by rw [len_kpubs];exact hi))) pu (.inl rfl) rfl ?_)
  refine s1 (aa rfl) rfl<|s1 (aa rfl) rfl<|s1 (aa rfl) rfl<|s1 (aa rfl) rfl<|s1 (aa rfl) rfl ?_
  refine ah<|ae<|af<|af<|ai<|s1 (aa rfl) rfl<|s1 ((aa rfl).v (v':= .b false) (rfl)) rfl ?_
  refine ah<|ae ?_
  refine cF rfl ?_
  refine aL<|ae<|af ?_
  refine bP ⟨_, [], []⟩ 8 4 bx (le_refl rfl) ?_
  refine aj 0 [] [] (aa rfl) rfl rfl<|aj 1 [] [(4,none)] (aV az rfl rfl (by first|rfl|omega|(simp<;>omega)|(simp [*]<;>omega))) rfl rfl<|aj 2 [] [] (aa rfl) rfl rfl<|bL false 3 [1,2] [] aW rfl (.cons (.pure pu) (.cons (.pure pu) (.nil))) (Dk x (i:Nat) hx) pu (.inl rfl) rfl rfl<|aj 4 [] [(7,none)] (aV az rfl rfl (by first|rfl|omega|(simp<;>omega)|(simp [*]<;>omega))) rfl rfl<|bL false 5 [3,4] [] aW rfl (.cons (.pure pu) (.cons (.pure pu) (.nil))) (LJ (fD x (i:Nat)) m (by simp) hm) pu (.inl rfl) rfl rfl<|aj 6 [] [] (aa rfl) rfl rfl<|aj 7 [0,5,6] [] (ey (out:= [_,_,_]) [[a6 (.int .i64 0)], [a6 (.slice none 0 0)], [a6 (.slice none 0 0)]] dS rfl Tryz.underlying43 (by kernel_rfl) rfl rfl ⟨⟨by(first|rfl|omega|(simp;done)|(simp [*];done)|(simp [aY, *];done)),rfl⟩,⟨⟨by(first|rfl|omega|(simp;done)|(simp [*];done)|(simp [aY, *];done)),rfl⟩,⟨⟨by(first|rfl|omega|(simp;done)|(simp [*];done)|(simp [aY, *];done)),rfl⟩,trivial⟩⟩⟩ rfl) rfl rfl<|bQ (by kernel_rfl) ?_
  refine ak rfl (bb dS rfl rfl rfl (by first|rfl|omega|(simp<;>omega)|(simp [*]<;>omega)) (by first|rfl|omega|(simp<;>omega)|(simp [*]<;>omega)) ?_)
  refine s1 ((aa rfl).v (v':= .i .i64 0) rfl) rfl ?_
  refine ah<|ae<|aE ?_
  refine aF (rs:= [.cell 8 43,.tmp 9]) rfl (bW dS rfl rfl rfl rfl (aD rfl aB)) ?_
  exact(xB hk hi).symm
end Go.Abs.D2
