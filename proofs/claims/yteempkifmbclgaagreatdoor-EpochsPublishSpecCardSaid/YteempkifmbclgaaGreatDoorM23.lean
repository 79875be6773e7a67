/-
  The engine, the plain laws and the walks that the rows need, part 23. Conditions: none.
-/
import Derived.Test.YteempkifmbclgaaGreatDoorM22
set_option linter.unusedVariables false
set_option linter.unusedSimpArgs false
set_option maxHeartbeats 1000000
set_option maxRecDepth 10000
-- D2T1
namespace Go.Abs.D2
open Go Go.Eng Go.Abs Go.Proofs
theorem AQ (htag:∀(t b:List UInt8),t.length≤1048576→b.length≤1048576→bU Tryz.prog 71 [.s t,.fz b.length (b.map u8)] (cl (.ag ((tagged t b).map u8)))) (a b:List UInt8) (ha:a.length=32) (hb:b.length=32):bU Tryz.prog 151 [.ag (a.map u8),.ag (b.map u8)] (cl (.ag ((tagged [110,111,100,101] (a++b)).map u8))):=by
 refine enter Tryz.func151 rfl Tryz.ntmps151 aw (Nat.le_of_ble_eq_true rfl) fun w0 X0 hI=>?_
 refine aa [713,68,70,654,132] ?_
 refine rE 5 0 [] cz Tryz.underlying68 cr rfl rfl rfl rfl rfl rfl ?_
 refine aa [338,339,340,341,342,2,735] ?_
 refine bZ (rs:= [.cell 4 23]) rfl (da bR rfl rfl (List.take_of_length_le aA) aA bW) rfl
theorem xA (n:Nat) (h:2≤n) (hn:n≤1099511627776):bU Tryz.prog 150 [.i .i64 (n:Nat)] (cl (.i .i64 (cC n:Nat))):=by
 refine enter Tryz.func150 rfl Tryz.ntmps150 aw (Nat.le_of_ble_eq_true rfl) fun w0 X0 hI=>?_
 refine aa [645,749,645,45,654,9] ?_
 refine c5 (ι:=Nat) (fun e=> [(0,.i .i64 (n:Nat)),(3,.i .i64 (2 ^ e:Nat))]) (fun e=>⟨[]⟩) (fun e=>2 ^ e<n) (fun e=>n - 2 ^ e) ?_ ?_
 ·exact c4 (0) aq [] hI rfl rfl ⟨⟨_,rfl,.pure pu⟩,⟨_,rfl,.of rfl (.pure pu)⟩,trivial⟩ trivial
 rintro e he
 have hpe:=Nat.two_pow_pos e
 refine aa [699,422,0,646] ?_
 refine cm rfl (fun hc7=>?_) (fun hc7=>?_)
 ·have h7 : 2 * 2 ^ e < n := by have := of_decide_eq_true hc7; omega
  refine aa [681,9,649,422,682,54] ?_
  exact cO (e+1) (by rw [Nat.pow_succ];omega) (by rw [Nat.pow_succ];omega) [] hI rfl rfl ⟨⟨_,rfl,.pure pu⟩,⟨_,rfl,.of (congrArg (fun k:Nat=>A.i .i64 (k:Int)) (by rw [Nat.pow_succ,Nat.mul_comm])) (.pure pu)⟩,trivial⟩ trivial
 ·have h7 : ¬ 2 * 2 ^ e < n := by have := of_decide_eq_false hc7; omega
  refine aa [719,4] ?_
  exact congrArg (fun k:Nat=>A.i .i64 (k:Int)) (Lt e rfl he aq)
theorem HG (L:List (List UInt8)) (hD:cg L) (hl:L.length≤1048576) (ih:∀M:List (List UInt8),M.length<L.length→cg M→bU Tryz.prog 46 [cM M] (cl (.ag ((tree M).map u8)))):bU Tryz.prog 46 [cM L] (cl (.ag ((tree L).map u8))):=by
 refine enter Tryz.func46 rfl Tryz.ntmps46 aw (Nat.le_of_ble_eq_true rfl) fun w0 X0 hI=>?_
 refine aa [645,28,727,49,656,9,665] ?_
 refine cm rfl (fun hc6=>?_) (fun hc6=>?_)
 ·have h6 : L.length = 0 := by have := of_decide_eq_true hc6; omega
  obtain rfl:=List.eq_nil_of_length_eq_zero h6
  refine bG <| bI <| bJ rfl (b7 false rfl (.cons (.pure pu) (.cons .nl (.nil))) (kB _ [] aA aA) pu (.inl rfl) rfl ?_)
  refine aa [735,701,112] ?_
  rw [Bj]
  rfl
 ·have h6 : ¬ L.length = 0 := by have := of_decide_eq_false hc6; omega
  refine aa [665] ?_
  refine cm rfl (fun hc9=>?_) (fun hc9=>?_)
  ·have h9 : L.length = 1 := by have := of_decide_eq_true hc9; omega
   obtain⟨x,rfl⟩:=List.length_eq_one_iff.1 h9
   have hx:=hD x (.head _)
   refine aa [648,423,424] ?_
   refine bJ rfl (b7 false rfl (.cons (.pure pu) (.cons (.pure pu) (.nil))) (kB _ x aq aA) pu (.inl rfl) rfl ?_)
   refine aa [735,701,112] ?_
   rw [xW]
   rfl
  ·have h9 : ¬ L.length = 1 := by have := of_decide_eq_false hc9; omega
   refine aa [52,781,648,49,425,652,196] ?_
   have hh:=ia (n:=L.length) aq
   refine aa [738,197,426,47,46,427,428] ?_
   refine c7 false 8 [3,7] [] cz rfl (.cons (.pure pu) (.cons (.pure pu) (.nil))) (As (fun t b h1 h2=>kB t b aq aq) _ _ (iz _) (iz _)) pu (.inl rfl) rfl rfl ?_
   refine aa [2,735,112] ?_
   rw [uI (L:=L) aq]
   rfl
theorem sD:∀(n:Nat) (L:List (List UInt8)),L.length≤n→cg L→L.length≤1048576→bU Tryz.prog 46 [cM L] (cl (.ag ((tree L).map u8)))
  |0,L,h,hD,hl=>HG L hD hl (fun M hM=>absurd hM aq)
  |n+1,L,h,hD,hl=>HG L hD hl (fun M hM hM2=>sD n M aq hM2 aq)
theorem GY (L:List (List UInt8)) (hD:cg L) (hl:L.length≤1048576) (ih:∀M:List (List UInt8),M.length<L.length→cg M→bU Tryz.prog 99 [cM M] (cl (.ag ((tree M).map u8)))):bU Tryz.prog 99 [cM L] (cl (.ag ((tree L).map u8))):=by
 refine enter Tryz.func99 rfl Tryz.ntmps99 aw (Nat.le_of_ble_eq_true rfl) fun w0 X0 hI=>?_
 refine aa [645,28,727,770] ?_
 refine cm rfl (fun hc6=>?_) (fun hc6=>?_)
 ·have h6 : L.length = 0 := by have := of_decide_eq_true hc6; omega
  obtain rfl:=List.eq_nil_of_length_eq_zero h6
  refine bG <| bI <| bJ rfl (b7 false rfl (.cons (.pure pu) (.cons .nl (.nil))) (kQ _ [] aA aA) pu (.inl rfl) rfl ?_)
  refine aa [100,668,112] ?_
  rw [Bj]
  rfl
 ·have h6 : ¬ L.length = 0 := by have := of_decide_eq_false hc6; omega
  refine aa [675,648,770] ?_
  refine cm rfl (fun hc10=>?_) (fun hc10=>?_)
  ·have h9 : L.length = 1 := by have := of_decide_eq_true hc10; omega
   obtain⟨x,rfl⟩:=List.length_eq_one_iff.1 h9
   have hx:=hD x (.head _)
   refine aa [648,423,424] ?_
   refine bJ rfl (b7 false rfl (.cons (.pure pu) (.cons (.pure pu) (.nil))) (kQ _ x aq aA) pu (.inl rfl) rfl ?_)
   refine aa [100,668,112] ?_
   rw [xW]
   rfl
  ·have h9 : ¬ L.length = 1 := by have := of_decide_eq_false hc10; omega
   refine aa [711,49,429,652,196] ?_
   have hh:=ia (n:=L.length) aq
   refine aa [738,197,426,47,46,427,428] ?_
   refine c7 false 8 [3,7] [] cz rfl (.cons (.pure pu) (.cons (.pure pu) (.nil))) (AQ (fun t b h1 h2=>kQ t b aq aq) _ _ (iz _) (iz _)) pu (.inl rfl) rfl rfl ?_
   refine aa [2,735,112] ?_
   rw [uI (L:=L) aq]
   rfl
theorem xH:∀(n:Nat) (L:List (List UInt8)),L.length≤n→cg L→L.length≤1048576→bU Tryz.prog 99 [cM L] (cl (.ag ((tree L).map u8)))
  |0,L,h,hD,hl=>GY L hD hl (fun M hM=>absurd hM aq)
  |n+1,L,h,hD,hl=>GY L hD hl (fun M hM hM2=>xH n M aq hM2 aq)
-- D2T2
theorem Ql (L:List (List UInt8)) (i:Nat) (hD:cg L) (hi:i<L.length) (hl:L.length≤1048576) (ih:∀(M:List (List UInt8)) (i:Nat),M.length<L.length→cg M→i<M.length→bU Tryz.prog 149 [cM M,.i .i64 (i:Nat)] (fk 32 (path M i).length ((path M i).flatten.map u8))):bU Tryz.prog 149 [cM L,.i .i64 (i:Nat)] (fk 32 (path L i).length ((path L i).flatten.map u8)):=by
 refine enter Tryz.func149 rfl Tryz.ntmps149 aw (Nat.le_of_ble_eq_true rfl) fun w0 X0 hI=>?_
 refine aa [651,648,770] ?_
 refine cm rfl (fun hc8=>?_) (fun hc8=>?_)
 ·have h8 : L.length = 1 := by have := of_decide_eq_true hc8; omega
  refine aa [707,21] ?_
  refine B7 99 rfl 4 32 rfl ?_
  refine bZ (rs:= [.tmp 4]) rfl (bV rfl bW) ⟨99,?_,?_⟩
  ·rw [mW i aq];rfl
  ·rw [mW i aq];rfl
 ·have h8 : ¬ L.length = 1 := by have := of_decide_eq_false hc8; omega
  refine aa [711,49,425,652,661,646] ?_
  refine cm rfl (fun hc14=>?_) (fun hc14=>?_)
  ·have h14 : i < (cC L.length) := by have := of_decide_eq_true hc14; omega
   have hh:=ia (n:=L.length) aq
   have hpl:=rO L.length (L.take (cC L.length)) i aG
   refine aa [3,30,738,197,31] ?_
   refine nT 19 false 4 [2,3] [] cz rfl (.cons (.pure pu) (.cons (.pure pu) (.nil))) (ih (L.take (cC L.length)) i aG (hD.take _) aG) bO (.inl rfl) rfl rfl ?_
   refine aa [46,56,430] ?_
   refine c7 false 8 [7] [] cz rfl (.cons (.pure pu) (.nil)) (sD _ (L.drop (cC L.length)) (Nat.le_refl _) (hD.drop _) aF) pu (.inl rfl) rfl rfl <| jl 24 9 [8] cz Tryz.underlying41 bR rfl rfl rfl aD (List.append_nil ((tree (L.drop (cC L.length))).map u8)) rfl rfl rfl rfl <| gp 25 10 [4,9] [(19,some 4),(24,some 9)] cz Tryz.underlying41 bR rfl (.sl rfl (by rw [List.length_map,(nw _ (L.take (cC L.length)) i (Nat.le_refl _)).len])) rfl (dH rfl au) (by simp [iz]) aC aq rfl rfl rfl rfl ?_
   refine aa [2,715] ?_
   refine bZ (rs:= [.tmp 4]) rfl (bV rfl bW) ⟨25,?_,?_⟩
   ·rw [oS aq h14,List.length_append];rfl
   ·rw [oS aq h14]
    exact congrArg some aA
  ·have h14 : ¬ i < (cC L.length) := by have := of_decide_eq_false hc14; omega
   have hh:=ia (n:=L.length) aq
   have hpl:=rO L.length (L.drop (cC L.length)) (i - (cC L.length)) aF
   refine aa [675,94,738,431,31,47,432] ?_
   refine nT 32 false 6 [2,5] [] cz rfl (.cons (.pure pu) (.cons (.pure pu) (.nil))) (ih (L.drop (cC L.length)) (i - (cC L.length)) aF (hD.drop _) aF) bO (.inl rfl) rfl rfl ?_
   refine aa [134,146,433] ?_
   refine c7 false 10 [9] [] cz rfl (.cons (.pure pu) (.nil)) (sD _ (L.take (cC L.length)) (Nat.le_refl _) (hD.take _) aG) pu (.inl rfl) rfl rfl <| jl 37 11 [10] cz Tryz.underlying41 bR rfl rfl rfl aD (List.append_nil ((tree (L.take (cC L.length))).map u8)) rfl rfl rfl rfl <| gp 38 12 [6,11] [(32,some 6),(37,some 11)] cz Tryz.underlying41 bR rfl (.sl rfl (by rw [List.length_map,(nw _ (L.drop (cC L.length)) (i - (cC L.length)) (Nat.le_refl _)).len])) rfl (dH rfl au) (by simp [iz]) aC aq rfl rfl rfl rfl ?_
   refine aa [2,650] ?_
   refine bZ (rs:= [.tmp 4]) rfl (bV rfl bW) ⟨38,?_,?_⟩
   ·rw [oT aq h14,List.length_append];rfl
   ·rw [oT aq h14]
    exact congrArg some aA
theorem HF:∀(n:Nat) (L:List (List UInt8)) (i:Nat),L.length≤n→cg L→i<L.length→L.length≤1048576→bU Tryz.prog 149 [cM L,.i .i64 (i:Nat)] (fk 32 (path L i).length ((path L i).flatten.map u8))
  |0,L,i,h,hD,hi,hl=>absurd hi aq
  |n+1,L,i,h,hD,hi,hl=>Ql L i hD hi hl (fun M i hM hM2 hi=>HF n M i aq hM2 hi aq)
theorem OT (L:List (List UInt8)) (i:Nat) (hD:cg L) (hi:i<L.length) (hl:L.length≤1048576) (ih:∀(M:List (List UInt8)) (i:Nat),M.length<L.length→cg M→i<M.length→bU Tryz.prog 159 [cM M,.i .i64 (i:Nat)] (fk 32 (path M i).length ((path M i).flatten.map u8))):bU Tryz.prog 159 [cM L,.i .i64 (i:Nat)] (fk 32 (path L i).length ((path L i).flatten.map u8)):=by
 refine enter Tryz.func159 rfl Tryz.ntmps159 aw (Nat.le_of_ble_eq_true rfl) fun w0 X0 hI=>?_
 refine aa [651,648,770] ?_
 refine cm rfl (fun hc8=>?_) (fun hc8=>?_)
 ·have h8 : L.length = 1 := by have := of_decide_eq_true hc8; omega
  refine bG <| bI <| bJ rfl (gC 9 rfl Tryz.underlying41 bR rfl rfl rfl aD rfl rfl rfl rfl ?_)
  refine aa [715] ?_
  refine bZ (rs:= [.tmp 4]) rfl (bV rfl bW) ⟨9,?_,?_⟩
  ·rw [mW i aq];rfl
  ·rw [mW i aq];rfl
 ·have h8 : ¬ L.length = 1 := by have := of_decide_eq_false hc8; omega
  refine aa [711,49,429,652,661,646] ?_
  refine cm rfl (fun hc15=>?_) (fun hc15=>?_)
  ·have h14 : i < (cC L.length) := by have := of_decide_eq_true hc15; omega
   have hh:=ia (n:=L.length) aq
   have hpl:=rO L.length (L.take (cC L.length)) i aG
   refine aa [3,30,738,197,31] ?_
   refine nT 20 false 4 [2,3] [] cz rfl (.cons (.pure pu) (.cons (.pure pu) (.nil))) (ih (L.take (cC L.length)) i aG (hD.take _) aG) bO (.inl rfl) rfl rfl ?_
   refine aa [46,56,430] ?_
   refine c7 false 8 [7] [] cz rfl (.cons (.pure pu) (.nil)) (xH _ (L.drop (cC L.length)) (Nat.le_refl _) (hD.drop _) aF) pu (.inl rfl) rfl rfl <| jl 25 9 [8] cz Tryz.underlying41 bR rfl rfl rfl aD (List.append_nil ((tree (L.drop (cC L.length))).map u8)) rfl rfl rfl rfl <| gp 26 10 [4,9] [(20,some 4),(25,some 9)] cz Tryz.underlying41 bR rfl (.sl rfl (by rw [List.length_map,(nw _ (L.take (cC L.length)) i (Nat.le_refl _)).len])) rfl (dH rfl au) (by simp [iz]) aC aq rfl rfl rfl rfl ?_
   refine aa [2,715] ?_
   refine bZ (rs:= [.tmp 4]) rfl (bV rfl bW) ⟨26,?_,?_⟩
   ·rw [oS aq h14,List.length_append];rfl
   ·rw [oS aq h14]
    exact congrArg some aA
  ·have h14 : ¬ i < (cC L.length) := by have := of_decide_eq_false hc15; omega
   have hh:=ia (n:=L.length) aq
   have hpl:=rO L.length (L.drop (cC L.length)) (i - (cC L.length)) aF
   refine aa [675,94,738,431,31,47,432] ?_
   refine nT 33 false 6 [2,5] [] cz rfl (.cons (.pure pu) (.cons (.pure pu) (.nil))) (ih (L.drop (cC L.length)) (i - (cC L.length)) aF (hD.drop _) aF) bO (.inl rfl) rfl rfl ?_
   refine aa [134,146,433] ?_
   refine c7 false 10 [9] [] cz rfl (.cons (.pure pu) (.nil)) (xH _ (L.take (cC L.length)) (Nat.le_refl _) (hD.take _) aG) pu (.inl rfl) rfl rfl <| jl 38 11 [10] cz Tryz.underlying41 bR rfl rfl rfl aD (List.append_nil ((tree (L.take (cC L.length))).map u8)) rfl rfl rfl rfl <| gp 39 12 [6,11] [(33,some 6),(38,some 11)] cz Tryz.underlying41 bR rfl (.sl rfl (by rw [List.length_map,(nw _ (L.drop (cC L.length)) (i - (cC L.length)) (Nat.le_refl _)).len])) rfl (dH rfl au) (by simp [iz]) aC aq rfl rfl rfl rfl ?_
   refine aa [2,650] ?_
   refine bZ (rs:= [.tmp 4]) rfl (bV rfl bW) ⟨39,?_,?_⟩
   ·rw [oT aq h14,List.length_append];rfl
   ·rw [oT aq h14]
    exact congrArg some aA
theorem GN:∀(n:Nat) (L:List (List UInt8)) (i:Nat),L.length≤n→cg L→i<L.length→L.length≤1048576→bU Tryz.prog 159 [cM L,.i .i64 (i:Nat)] (fk 32 (path L i).length ((path L i).flatten.map u8))
  |0,L,i,h,hD,hi,hl=>absurd hi aq
  |n+1,L,i,h,hD,hi,hl=>OT L i hD hi hl (fun M i hM hM2 hi=>GN n M i aq hM2 hi aq)
-- D2T3
theorem Gc (L:List (List UInt8)) (a:Int) (hD:cg L) (hl:L.length≤1048576):bU Tryz.prog 98 [cM L,.i .i64 a] (cl (mV L a)):=by
 refine enter Tryz.func98 rfl Tryz.ntmps98 aw (Nat.le_of_ble_eq_true rfl) fun w0 X0 hI=>?_
 refine aa [648,659,680,434,656] ?_
 refine cm rfl (fun hc13=>?_) (fun hc13=>?_)
 ·have h13 : ¬ (0 ≤ a ∧ a < L.length) := by simp at hc13; omega
  refine aa [648,45,668,60] ?_
  rw [mV,if_neg h13]
  rfl
 ·have h13 : 0 ≤ a ∧ a < L.length := by simp at hc13; omega
  obtain⟨i,rfl⟩:∃i:Nat,a=(i:Int):=⟨a.toNat,by omega⟩
  refine aa [771] ?_
  refine bJ rfl (kx 16 rfl false rfl (.cons (.pure pu) (.cons (.pure pu) (.nil))) (HF _ L i (Nat.le_refl _) hD aq hl) bO (.inl rfl) rfl ?_)
  refine aa [726,435,60] ?_
  rw [mV,if_pos h13,Int.toNat_natCast]
  rfl
theorem OR (L:List (List UInt8)) (a:Int) (hD:cg L) (hl:L.length≤1048576):bU Tryz.prog 107 [cM L,.i .i64 a] (cl (mV L a)):=by
 refine enter Tryz.func107 rfl Tryz.ntmps107 aw (Nat.le_of_ble_eq_true rfl) fun w0 X0 hI=>?_
 refine aa [648,659,680,434,656] ?_
 refine cm rfl (fun hc13=>?_) (fun hc13=>?_)
 ·have h13 : ¬ (0 ≤ a ∧ a < L.length) := by simp at hc13; omega
  refine aa [648,45,668,60] ?_
  rw [mV,if_neg h13]
  rfl
 ·have h13 : 0 ≤ a ∧ a < L.length := by simp at hc13; omega
  obtain⟨i,rfl⟩:∃i:Nat,a=(i:Int):=⟨a.toNat,by omega⟩
  refine aa [771] ?_
  refine bJ rfl (kx 16 rfl false rfl (.cons (.pure pu) (.cons (.pure pu) (.nil))) (GN _ L i (Nat.le_refl _) hD aq hl) bO (.inl rfl) rfl ?_)
  refine aa [726,435,60] ?_
  rw [mV,if_pos h13,Int.toNat_natCast]
  rfl
theorem Mp (i n:Nat) (h1:1≤n) (hi:i<n) (hn:n≤1099511627776) (ih:∀i m:Nat,m<n→1≤m→i<m→bU Tryz.prog 141 [.i .i64 (i:Nat),.i .i64 (m:Nat)] (cl (.i .i64 ((eZ i m).length:Nat)))):bU Tryz.prog 141 [.i .i64 (i:Nat),.i .i64 (n:Nat)] (cl (.i .i64 ((eZ i n).length:Nat))):=by
 refine enter Tryz.func141 rfl Tryz.ntmps141 aw (Nat.le_of_ble_eq_true rfl) fun w0 X0 hI=>?_
 refine aa [645,659,665] ?_
 refine cm rfl (fun hc7=>?_) (fun hc7=>?_)
 ·have h7 : n = 1 := by have := of_decide_eq_true hc7; omega
  refine aa [645,657,21,15] ?_
  exact congrArg (fun k:Nat=>A.i .i64 (k:Int)) (by rw [qp aq];rfl)
 ·have h7 : ¬ n = 1 := by have := of_decide_eq_false hc7; omega
  have hh:=ia (n:=n) aq
  refine aa [711,436,652,661,646] ?_
  refine cm rfl (fun hc12=>?_) (fun hc12=>?_)
  ·have h12 : i < cC n := by have := of_decide_eq_true hc12; omega
   have hr:=qo _ i (cC n) (Nat.le_refl _)
   refine aa [661] ?_
   refine bJ rfl (b7 false rfl (.cons (.pure pu) (.cons (.pure pu) (.nil))) (ih i (cC n) aq aq aq) pu (.inl rfl) rfl ?_)
   refine s1 (cE 1 _ rfl rfl rfl rfl aq) rfl ?_
   refine aa [715,15] ?_
   exact congrArg (fun k:Nat=>A.i .i64 (k:Int)) (by rw [oW aq h12,List.length_cons];omega)
  ·have h12 : ¬ i < cC n := by have := of_decide_eq_false hc12; omega
   have hr:=qo _ (i - cC n) (n - cC n) (Nat.le_refl _)
   refine aa [771] ?_
   refine s1 (eW i (cC n) rfl rfl rfl rfl aq aq) rfl ?_
   refine aa [647] ?_
   refine s1 (eW n (cC n) rfl rfl rfl rfl aq aq) rfl <| bJ rfl (b7 false rfl (.cons (.pure pu) (.cons (.pure pu) (.nil))) (ih (i - cC n) (n - cC n) aq aq aq) pu (.inl rfl) rfl ?_)
   refine s1 (cE 1 _ rfl rfl rfl rfl aq) rfl ?_
   refine aa [702] ?_
   exact congrArg (fun k:Nat=>A.i .i64 (k:Int)) (by rw [oX aq h12,List.length_cons];omega)
theorem Fe:∀(f i n:Nat),n≤f→1≤n→i<n→n≤1099511627776→bU Tryz.prog 141 [.i .i64 (i:Nat),.i .i64 (n:Nat)] (cl (.i .i64 ((eZ i n).length:Nat)))
  |0,i,n,h,h1,_,_=>absurd h1 aq
  |f+1,i,n,h,h1,hi,hn=>Mp i n h1 hi hn (fun i m hm h1 hi=>Fe f i m aq h1 hi aq)
theorem JP (d:List UInt8) (hd:d.length=32) (i n:Nat) (P:List (List UInt8)) (h1:1≤n) (hi:i<n) (hn:n≤1099511627776) (hD:cg P) (hP:P.length=(eZ i n).length) (ih:∀(i m:Nat) (p:List (List UInt8)),m<n→1≤m→i<m→cg p→p.length=(eZ i m).length→bU Tryz.prog 142 [.ag (d.map u8),.i .i64 (i:Nat),.i .i64 (m:Nat),cM p] (cl (.ag ((jC d i m p).map u8)))):bU Tryz.prog 142 [.ag (d.map u8),.i .i64 (i:Nat),.i .i64 (n:Nat),cM P] (cl (.ag ((jC d i n P).map u8))):=by
 refine enter Tryz.func142 rfl Tryz.ntmps142 aw (Nat.le_of_ble_eq_true rfl) fun w0 X0 hI=>?_
 refine aa [756,198,654,665] ?_
 refine cm rfl (fun hc12=>?_) (fun hc12=>?_)
 ·have h12 : n = 1 := by have := of_decide_eq_true hc12; omega
  refine aa [645,437] ?_
  refine bJ rfl (b7 true rfl (.cons (.pure pu) (.cons (.sl rfl rfl au (dD au aJ) (cK.pure bO) bO) (.nil))) (by have h:=kQ [108,101,97,102] d aq aA;rw [hd]at h;exact h) pu (.inr fu) rfl ?_)
  refine aa [41,668,302] ?_
  exact congrArg (fun l:List UInt8=>A.ag (l.map u8)) (by rw [CU aq];rfl)
 ·have h12 : ¬ n = 1 := by have := of_decide_eq_false hc12; omega
  have hh:=ia (n:=n) aq
  have hr:=qo _ i n (Nat.le_refl _)
  obtain⟨p,q,rfl⟩:=LA (P:=P) (by intro h;subst h;have:=Ow (i:=i) (n:=n) aq;rw [←hP]at this;simp at this)
  have hDp:cg p:=fun x hx=>hD x aH
  have hDq:q.length=32:=hD q aA
  refine aa [711,436,660,49] ?_
  refine s1 ((eW (p++ [q]).length 1 rfl rfl rfl rfl aA (by rw [hP];omega)).v (v':= .i .i64 (p.length:Nat)) (congrArg (fun k:Nat=>A.i .i64 (k:Int)) aA)) rfl <| s1 (cf p.length Tryz.underlying41 bR rfl rfl rfl aA rfl) rfl <| s1 (dw bR rfl rfl (we hD (q:=q) aA) (by simp [hDq])) rfl <| bJ rfl (cI 10 rfl bR rfl rfl ?_)
  refine bJ rfl (cD bR rfl rfl rfl (by simp [hDq]) aA ?_)
  refine aa [654,661,646] ?_
  refine cm rfl (fun hc25=>?_) (fun hc25=>?_)
  ·have h25 : i < cC n := by have := of_decide_eq_true hc25; omega
   have hp:p.length=(eZ i (cC n)).length:=by rw [oW aq h25]at hP;simpa using hP
   refine aa [3,30] ?_
   refine bK 0 [] [(4,none)] (cu bR rfl rfl (by simp [hd])) rfl rfl ?_
   refine aa [22,17,31,47] ?_
   refine bK 5 [4] [] (cJ Tryz.underlying41 rfl rfl rfl) rfl rfl <| bK 6 [5] [] ((eW (p++ [q]).length 1 rfl rfl rfl rfl aA (by rw [hP];omega)).v (v':= .i .i64 (p.length:Nat)) (congrArg (fun k:Nat=>A.i .i64 (k:Int)) aA)) rfl rfl <| bK 7 [3,6] [] ((jf p.length Tryz.underlying41 bR rfl aP bn (bs rfl rfl) aq aA rfl rfl).v (v':=cM p) (C1 hD)) rfl rfl <| c7 false 8 [0,1,2,7] [] cz rfl (.cons (.pure pu) (.cons (.pure pu) (.cons (.pure pu) (.cons (.pure pu) (.nil))))) (ih i (cC n) p aq aq aq hDp hp) pu (.inl rfl) rfl rfl <| bK 9 [] [(10,none)] (cu bR rfl rfl (by simp [hDq])) rfl rfl <| c7 false 10 [8,9] [] cz rfl (.cons (.pure pu) (.cons (.pure pu) (.nil))) (AQ (fun t b h1 h2=>kQ t b aq aq) _ q (EZ _ _ _ _) hDq) pu (.inl rfl) rfl rfl ?_
   refine aa [2,41,668,302] ?_
   exact congrArg (fun l:List UInt8=>A.ag (l.map u8)) (by rw [CS aq h25 hp];rfl)
  ·have h25 : ¬ i < cC n := by have := of_decide_eq_false hc25; omega
   have hp:p.length=(eZ (i - cC n) (n - cC n)).length:=by rw [oX aq h25]at hP;simpa using hP
   refine b9 <| bF <| bG <| dh ⟨_, [], []⟩ 15 4 cL (le_refl rfl) <| bK 0 [] [(10,none)] (cu bR rfl rfl (by simp [hDq])) rfl rfl <| bK 1 [] [(4,none)] (cu bR rfl rfl (by simp [hd])) rfl rfl ?_
   refine aa [17,31] ?_
   refine bK 4 [2,3] [] (eW i (cC n) rfl rfl rfl rfl aq aq) rfl rfl ?_
   refine aa [46,56] ?_
   refine bK 7 [5,6] [] (eW n (cC n) rfl rfl rfl rfl aq aq) rfl rfl ?_
   refine aa [146] ?_
   refine bK 9 [] [] (bE rfl) rfl rfl <| bK 10 [9] [] (cJ Tryz.underlying41 rfl rfl rfl) rfl rfl <| bK 11 [10] [] ((eW (p++ [q]).length 1 rfl rfl rfl rfl aA (by rw [hP];omega)).v (v':= .i .i64 (p.length:Nat)) (congrArg (fun k:Nat=>A.i .i64 (k:Int)) aA)) rfl rfl <| bK 12 [8,11] [] ((jf p.length Tryz.underlying41 bR rfl aP bn (bs rfl rfl) aq aA rfl rfl).v (v':=cM p) (C1 hD)) rfl rfl <| c7 false 13 [1,4,7,12] [] cz rfl (.cons (.pure pu) (.cons (.pure pu) (.cons (.pure pu) (.cons (.pure pu) (.nil))))) (ih (i - cC n) (n - cC n) p aq aq aq hDp hp) pu (.inl rfl) rfl rfl <| c7 false 14 [0,13] [] cz rfl (.cons (.pure pu) (.cons (.pure pu) (.nil))) (AQ (fun t b h1 h2=>kQ t b aq aq) q _ hDq (EZ _ _ _ _)) pu (.inl rfl) rfl rfl ?_
   refine aa [2,41,724,302] ?_
   exact congrArg (fun l:List UInt8=>A.ag (l.map u8)) (by rw [CW aq h25 hp];rfl)
theorem CT (d:List UInt8) (hd:d.length=32):∀(f i n:Nat) (p:List (List UInt8)),n≤f→1≤n→i<n→n≤1099511627776→cg p→p.length=(eZ i n).length→bU Tryz.prog 142 [.ag (d.map u8),.i .i64 (i:Nat),.i .i64 (n:Nat),cM p] (cl (.ag ((jC d i n p).map u8)))
  |0,i,n,p,h,h1,_,_,_,_=>absurd h1 aq
  |f+1,i,n,p,h,h1,hi,hn,hD,hP=>JP d hd i n p h1 hi hn hD hP (fun i m p hm h1 hi hD hP=>CT d hd f i m p aq h1 hi aq hD hP)
-- D2T5
theorem NX (d:List UInt8) (_hd:d.length=32) (a nn:Int) (P:List (List UInt8)) (hc:¬(1≤nn∧nn≤1099511627776∧0≤a∧a<nn)):bU Tryz.prog 92 [.ag (d.map u8),.i .i64 a,.i .i64 nn,cM P] (cl (lB d a nn P)):=by
 refine enter Tryz.func92 rfl Tryz.ntmps92 aw (Nat.le_of_ble_eq_true rfl) fun w0 X0 hI=>?_
 refine aa [756,198,659,680,281,0,138,0,438] ?_
 refine lu 24 rfl (v':= .b true) (congrArg A.b aE) ?_
 refine aa [0,688,725,679,439,41,45,668] ?_
 have hbad:¬fits a nn P.length:=fun h=>hc ⟨h.1,h.2.1,h.2.2.1,h.2.2.2.1⟩
 refine aa [113] ?_
 rw [lB,if_neg hbad]
 rfl
theorem NY (d:List UInt8) (hd:d.length=32) (i n:Nat) (P:List (List UInt8)) (hD:cg P) (h1:1≤n) (hn:n≤1099511627776) (hi:i<n):bU Tryz.prog 92 [.ag (d.map u8),.i .i64 (i:Nat),.i .i64 (n:Nat),cM P] (cl (lB d (i:Int) (n:Int) P)):=by
 refine enter Tryz.func92 rfl Tryz.ntmps92 aw (Nat.le_of_ble_eq_true rfl) fun w0 X0 hI=>?_
 refine aa [756,198,659,680,281,0,138,0,438] ?_
 refine lu 24 rfl (v':= .b false) (congrArg A.b aE) ?_
 refine aa [716] ?_
 refine g1 rfl rfl (cJ Tryz.underlying41 rfl rfl rfl) rfl ?_
 refine aa [696] ?_
 refine fN rfl rfl rfl (b7 false rfl (.cons (.pure pu) (.cons (.pure pu) (.nil))) (Fe _ i n (Nat.le_refl _) h1 hi hn) pu (.inl rfl) rfl ?_)
 refine aa [763] ?_
 refine cm rfl (fun hc32=>?_) (fun hc32=>?_)
 ·have hbad : ¬ fits (i : Int) (n : Int) P.length := by
   intro h
   have h5:=h.2.2.2.2
   rw [Int.toNat_natCast,Int.toNat_natCast]at h5
   have:=bne_iff_ne.1 hc32
   omega
  refine aa [645,439,41,45,668,113] ?_
  rw [lB,if_neg hbad]
  rfl
 ·have hP : P.length = (eZ i n).length := by have := bne_eq_false_iff_eq.1 hc32; omega
  have hfit:fits (i:Int) (n:Int) P.length:=⟨by omega,by omega,by omega,by omega,by rw [Int.toNat_natCast,Int.toNat_natCast];exact hP⟩
  refine b9 <| bF <| bG <| bI <| s1 (cu bR rfl rfl (by simp [hd])) rfl ?_
  refine aa [671] ?_
  refine bJ rfl (b7 false rfl (.cons (.pure pu) (.cons (.pure pu) (.cons (.pure pu) (.cons (.pure pu) (.nil))))) (CT d hd _ i n P (Nat.le_refl _) h1 hi hn hD hP) pu (.inl rfl) rfl ?_)
  refine aa [41,657,113] ?_
  rw [lB,if_pos hfit,Int.toNat_natCast,Int.toNat_natCast]
  rfl
theorem NW (d:List UInt8) (hd:d.length=32) (a nn:Int) (P:List (List UInt8)) (hD:cg P):bU Tryz.prog 92 [.ag (d.map u8),.i .i64 a,.i .i64 nn,cM P] (cl (lB d a nn P)):=by
  by_cases h:1≤nn∧nn≤1099511627776∧0≤a∧a<nn
  · obtain ⟨i, rfl⟩ : ∃ i : Nat, a = (i : Int) := ⟨a.toNat, by omega⟩
    obtain⟨n,rfl⟩:∃n:Nat,nn=(n:Int):=⟨nn.toNat,by omega⟩
    exact NY d hd i n P hD aq aq aq
  · exact NX d hd a nn P h
-- D2T4
theorem JN (d:List UInt8) (hd:d.length=32) (a nn:Int) (P:List (List UInt8)) (hD:cg P):bU Tryz.prog 132 [.ag (d.map u8),.i .i64 a,.i .i64 nn,cM P] (cl (lB d a nn P)):=by
 refine enter Tryz.func132 rfl Tryz.ntmps132 aw (Nat.le_of_ble_eq_true rfl) fun w0 X0 hI=>?_
 refine aa [756,198,659,680,138,0] ?_
 refine gr 2 rfl rfl rfl rfl (fun hb20=> .step (bE rfl) rfl rfl<| .step (bE rfl) rfl rfl<| .done) rfl rfl <| s1 (bE rfl) rfl <| gr 3 rfl rfl rfl rfl (fun hb24=> .step (bE rfl) rfl rfl<| .step (bE rfl) rfl rfl<| .step (bE rfl) rfl rfl<| .done) rfl rfl <| bH <| bF ?_
 refine cm rfl (fun hc28=>?_) (fun hc28=>?_)
 ·have hbad : ¬ fits a nn P.length := by intro h; unfold fits at h; simp at hc28; omega
  refine aa [645,95,41,45,668,113] ?_
  rw [lB,if_neg hbad]
  rfl
 ·have h28 : 1 ≤ nn ∧ nn ≤ 1099511627776 ∧ 0 ≤ a ∧ a < nn := by simp at hc28; omega
  obtain⟨i,rfl⟩:∃i:Nat,a=(i:Int):=⟨a.toNat,by omega⟩
  obtain⟨n,rfl⟩:∃n:Nat,nn=(n:Int):=⟨nn.toNat,by omega⟩
  have hn1:1≤n:=by omega
  have hn:n≤1099511627776:=by omega
  have hi:i<n:=by omega
  refine aa [681,651,9] ?_
  refine c5 (ι:=List Bool×Nat×Nat) (fun⟨ds,i2,n2⟩=> [(1,.i .i64 (i2:Nat)),(2,.i .i64 (n2:Nat)),(3,cM P),(4,.p 4 0),(8,.p 8 0),(10,.sl 10 1 0 ds.length)]) (fun⟨ds,i2,n2⟩=>⟨[(4,some (d.map u8)),(8,some (List.replicate 32 (u8 0))),(10,some (ds.map A.b))]⟩) (fun⟨ds,i2,n2⟩=>eZ i n=ds++eZ i2 n2∧1≤n2∧i2<n2∧n2≤n∧ds.length+(eZ i2 n2).length≤n) (fun⟨ds,i2,n2⟩=>n2) ?_ ?_
  ·exact c4 (([],i,n)) (⟨rfl,hn1,hi,Nat.le_refl _,by have:=qo _ i n (Nat.le_refl _);simpa using this⟩) [(4,some 4),(8,some 8),(10,none)] hI rfl rfl ⟨⟨_,rfl,.pure pu⟩,⟨_,rfl,.pure pu⟩,⟨_,rfl,.pure pu⟩,⟨_,rfl,.p rfl⟩,⟨_,rfl,.p rfl⟩,⟨_,rfl,.nl rfl⟩,trivial⟩ ⟨.inr ⟨_,_,rfl,rfl,.pure bO⟩,.inr ⟨_,_,rfl,rfl,.pure bO⟩,.inl ⟨rfl,rfl⟩,trivial⟩
  rintro⟨ds,i2,n2⟩ ⟨hr,h1,hi2,hn2,hlen⟩
  dsimp only
  refine aa [695] ?_
  refine cm rfl (fun hc31=>?_) (fun hc31=>?_)
  ·have h31 : 2 ≤ n2 := by have := of_decide_eq_true hc31; omega
   have hh:=ia h31
   refine aa [681,9,648] ?_
   refine bJ rfl (b7 false rfl (.cons (.pure pu) (.nil)) (Ac n2 aq aq) pu (.inl rfl) rfl ?_)
   refine aa [660,647] ?_
   refine bJ rfl (eF 38 rfl Tryz.underlying205 xU rfl rfl rfl rfl rfl ?_)
   refine bJ rfl (dR 39 rfl Tryz.underlying205 xU rfl (.sl rfl aA) rfl (dH rfl au) au aC aq rfl rfl rfl ?_)
   refine aa [660,646] ?_
   refine cm rfl (fun hc42=>?_) (fun hc42=>?_)
   ·have h42 : (i2 : Int) ≥ (cC n2) := of_decide_eq_true hc42
    have h42n:¬i2<(cC n2):=by omega
    refine aa [658] ?_
    refine s1 (eW i2 (cC n2) rfl rfl rfl rfl aq aq) rfl ?_
    refine aa [647] ?_
    refine s1 (eW n2 (cC n2) rfl rfl rfl rfl aq aq) rfl ?_
    refine aa [647,760] ?_
    exact cO (x:=(ds,i2,n2)) ((ds++ [true],i2 - (cC n2),n2 - (cC n2))) (⟨by rw [hr,oX aq h42n];simp,by dsimp only;omega,by dsimp only;omega,by dsimp only;omega,by rw [oX aq h42n,List.length_cons]at hlen;dsimp only;rw [List.length_append];simp;omega⟩) (by dsimp only;omega) [(4,some 4),(8,some 8),(10,some 39)] hI rfl rfl ⟨⟨_,rfl,.pure pu⟩,⟨_,rfl,.pure pu⟩,⟨_,rfl,.pure pu⟩,⟨_,rfl,.p rfl⟩,⟨_,rfl,.p rfl⟩,⟨_,rfl,.sl rfl au⟩,trivial⟩ ⟨.inr ⟨_,_,rfl,rfl,.pure bO⟩,.inr ⟨_,_,rfl,rfl,.pure bO⟩,.inr ⟨_,_,rfl,rfl,.of (by simp [h42]) (.pure bO)⟩,trivial⟩
   ·have h42 : ¬ (i2 : Int) ≥ (cC n2) := of_decide_eq_false hc42
    have h42n:i2<(cC n2):=by omega
    refine aa [658,760] ?_
    exact cO (x:=(ds,i2,n2)) ((ds++ [false],i2,(cC n2))) (⟨by rw [hr,oW aq h42n];simp,by dsimp only;omega,by dsimp only;omega,by dsimp only;omega,by rw [oW aq h42n,List.length_cons]at hlen;dsimp only;rw [List.length_append];simp;omega⟩) (by dsimp only;omega) [(4,some 4),(8,some 8),(10,some 39)] hI rfl rfl ⟨⟨_,rfl,.pure pu⟩,⟨_,rfl,.pure pu⟩,⟨_,rfl,.pure pu⟩,⟨_,rfl,.p rfl⟩,⟨_,rfl,.p rfl⟩,⟨_,rfl,.sl rfl au⟩,trivial⟩ ⟨.inr ⟨_,_,rfl,rfl,.pure bO⟩,.inr ⟨_,_,rfl,rfl,.pure bO⟩,.inr ⟨_,_,rfl,rfl,.of (by simp [h42]) (.pure bO)⟩,trivial⟩
  ·have h31 : n2 = 1 := by have := of_decide_eq_false hc31; omega
   subst h31
   rw [qp (Nat.le_refl _),List.append_nil]at hr
   subst hr
   refine aa [684,648,49,0] ?_
   refine s1 (cJ Tryz.underlying205 rfl rfl rfl) rfl ?_
   refine aa [646] ?_
   refine cm rfl (fun hc54=>?_) (fun hc54=>?_)
   ·have hbad : ¬ fits (i : Int) (n : Int) P.length := by
     intro h
     unfold fits at h
     have h5:=h.2.2.2.2
     rw [Int.toNat_natCast,Int.toNat_natCast]at h5
     have:=bne_iff_ne.1 hc54
     omega
    refine aa [645,95,41,45,668,113] ?_
    rw [lB,if_neg hbad]
    rfl
   ·have hP : P.length = (eZ i n).length := by have := bne_eq_false_iff_eq.1 hc54; omega
    have hfit:fits (i:Int) (n:Int) P.length:=⟨by omega,by omega,by omega,by omega,by rw [Int.toNat_natCast,Int.toNat_natCast];exact hP⟩
    refine aa [669,437] ?_
    refine bJ rfl (b7 true rfl (.cons (.pure pu) (.cons (.sl rfl rfl au (dD au aJ) (cK.pure bO) bO) (.nil))) (by have h:=kB [108,101,97,102] d aq aA;rw [hd]at h;exact h) pu (.inr fu) rfl ?_)
    refine aa [41,727,49,667] ?_
    refine c5 (ι:=Nat) (fun j=> [(8,.p 8 0),(10,.sl 10 1 0 (eZ i n).length),(58,cM P),(59,.i .i64 (P.length:Nat)),(60,.i .i64 (j:Nat))]) (fun j=>⟨[(8,some ((fold ((eZ i n).reverse.take j) (P.take j) (rL d)).map u8)),(10,some ((eZ i n).map A.b))]⟩) (fun j=>j≤P.length) (fun j=>P.length - j) ?_ ?_
    ·exact c4 (0) (Nat.zero_le _) [(8,some 8),(10,some 10)] hI rfl rfl ⟨⟨_,rfl,.p rfl⟩,⟨_,rfl,.sl rfl au⟩,⟨_,rfl,.pure pu⟩,⟨_,rfl,.pure pu⟩,⟨_,rfl,.pure pu⟩,trivial⟩ ⟨.inr ⟨_,_,rfl,rfl,.of (by rw [List.take_zero];rfl) (.pure bO)⟩,.inr ⟨_,_,rfl,rfl,.pure bO⟩,trivial⟩
    rintro j hj
    have hlf:(fold ((eZ i n).reverse.take j) (P.take j) (rL d)).length=32:=Ak _ _ _ (kL _ _)
    have hrl:=qo _ i n (Nat.le_refl _)
    refine aa [651] ?_
    refine cm rfl (fun hc61=>?_) (fun hc61=>?_)
    ·have hj2 : j < P.length := by have := of_decide_eq_true hc61; omega
     obtain⟨q,hq⟩:∃q,P[j]? =some q:=⟨_,List.getElem?_eq_getElem hj2⟩
     have hq32:q.length=32:=hD q (List.mem_of_getElem? hq)
     obtain⟨b,hb⟩:∃b,(eZ i n).reverse[j]? =some b:=⟨_,List.getElem?_eq_getElem aE⟩
     have hb2:(eZ i n)[(eZ i n).length - 1 - j]? =some b:=by rw [List.getElem?_reverse aq]at hb;exact hb
     refine aa [655,648] ?_
     refine s1 (cf j Tryz.underlying41 bR rfl rfl rfl aq rfl) rfl <| s1 (dw bR rfl rfl (we hD hq) bh) rfl <| bJ rfl (cI 13 rfl bR rfl rfl ?_)
     refine s1 (bE rfl) rfl <| bJ rfl (cD bR rfl rfl rfl bh aA ?_)
     refine aa [656,661] ?_
     refine s1 (cJ Tryz.underlying205 rfl rfl rfl) rfl <| s1 (eW (eZ i n).length 1 rfl rfl rfl rfl aq aq) rfl <| s1 (bE rfl) rfl <| s1 (eW ((eZ i n).length - 1) j rfl rfl rfl rfl aq aq) rfl <| s1 (mC ((eZ i n).length - 1 - j) Tryz.underlying205 xU rfl rfl rfl rfl aq rfl) rfl <| s1 (bM xU rfl rfl (Lo hb2)) rfl <| bH <| bF ?_
     refine cm rfl (fun hc72=>?_) (fun hc72=>?_)
     ·skip
      refine bI <| s1 (cu bR rfl rfl bh) rfl <| s1 (cu bR rfl rfl (by simp [hlf])) rfl <| bJ rfl (b7 false rfl (.cons (.pure pu) (.cons (.pure pu) (.nil))) (As (fun t b h1 h2=>kB t b aq aq) q _ hq32 hlf) pu (.inl rfl) rfl ?_)
      refine aa [440,685] ?_
      exact cO (j+1) aq aq [(8,some 8),(10,some 10)] hI rfl rfl ⟨⟨_,rfl,.p rfl⟩,⟨_,rfl,.sl rfl au⟩,⟨_,rfl,.pure pu⟩,⟨_,rfl,.pure pu⟩,⟨_,rfl,.pure pu⟩,trivial⟩ ⟨.inr ⟨_,_,rfl,rfl,.of (by rw [DY hb hq,if_pos hc72];rfl) (.pure bO)⟩,.inr ⟨_,_,rfl,rfl,.pure bO⟩,trivial⟩
     ·skip
      refine bI <| s1 (cu bR rfl rfl (by simp [hlf])) rfl <| s1 (cu bR rfl rfl bh) rfl <| bJ rfl (b7 false rfl (.cons (.pure pu) (.cons (.pure pu) (.nil))) (As (fun t b h1 h2=>kB t b aq aq) _ q hlf hq32) pu (.inl rfl) rfl ?_)
      refine aa [440,685] ?_
      exact cO (j+1) aq aq [(8,some 8),(10,some 10)] hI rfl rfl ⟨⟨_,rfl,.p rfl⟩,⟨_,rfl,.sl rfl au⟩,⟨_,rfl,.pure pu⟩,⟨_,rfl,.pure pu⟩,⟨_,rfl,.pure pu⟩,trivial⟩ ⟨.inr ⟨_,_,rfl,rfl,.of (by rw [DY hb hq,if_neg (by rw [hc72];decide)];rfl) (.pure bO)⟩,.inr ⟨_,_,rfl,rfl,.pure bO⟩,trivial⟩
    ·have hj2 : j = P.length := by have := of_decide_eq_false hc61; omega
     subst hj2
     have hct:fold ((eZ i n).reverse.take P.length) (P.take P.length) (rL d)=jC d i n P:=by rw [List.take_length,List.take_of_length_le aE];rfl
     refine aa [684] ?_
     refine dP 8 rfl (cs':=(jC d i n P).map u8) (by rw [hct]) ?_
     refine aa [1,95,41,657,113] ?_
     rw [lB,if_pos hfit,Int.toNat_natCast,Int.toNat_natCast]
     rfl
-- K6B
theorem Qa (x:List UInt8) (a:Int) (hx:x.length=32):bU Tryz.prog 50 [.s [108,101,97,102],.fz 36 ((x++fV a 4).map u8)] (cl (.ag ((gw x a).map u8))):=by
  have e2:(x++fV a 4).length=36:=by simp [hx]
  rw [A2, ←e2];exact kB _ _ aq aA
theorem O3 (x:List UInt8) (a:Int) (hx:x.length=32):bU Tryz.prog 71 [.s [108,101,97,102],.fz 36 ((x++fV a 4).map u8)] (cl (.ag ((gw x a).map u8))):=by
  have e2:(x++fV a 4).length=36:=by simp [hx]
  rw [A2, ←e2];exact kQ _ _ aq aA
theorem Hb (x:List UInt8) (a:Int) (hx:x.length=32):bU Tryz.prog 89 [.ag (x.map u8),.i .i64 a] (cl (.ag ((gw x a).map u8))):=by
 refine enter Tryz.func89 rfl Tryz.ntmps89 aw (Nat.le_of_ble_eq_true rfl) fun w0 X0 hI=>?_
 refine aa [745,653] ?_
 refine bJ rfl (cI 5 rfl Qj rfl rfl ?_)
 refine bH <| bF <| bG <| eN 2 cL aw <| t1 (gX Tryz.underlying175 cr rfl rfl aA aI) rfl <| t1 (gX Tryz.underlying23 cr rfl rfl aH aI) rfl <| eO <| bJ rfl (MH Tryz.underlying68 cr rfl rfl rfl (dH rfl aH) ar av av av (JX (a:=a)) rfl ?_)
 refine aa [720] ?_
 refine c5 (ι:=Nat) (fun i=> [(1,.i .i64 a),(4,.p 4 0),(5,.p 5 0),(10,.i .i64 (i:Nat))]) (fun i=>⟨[(4,some (zD.map u8)),(5,some ((x++fV a i++List.replicate (4 - i) 0).map u8))]⟩) (fun i=>i≤4) (fun i=>4 - i) ?_ ?_
 ·exact c4 (0) (Nat.zero_le _) [(4,some 4),(5,some 5)] hI rfl rfl ⟨⟨_,rfl,.pure pu⟩,⟨_,rfl,.p rfl⟩,⟨_,rfl,.p rfl⟩,⟨_,rfl,.pure pu⟩,trivial⟩ ⟨.inr ⟨_,_,rfl,rfl,.pure bO⟩,.inr ⟨_,_,rfl,rfl,.pure bO⟩,trivial⟩
 rintro i hi
 refine aa [651] ?_
 refine cm rfl (fun hc11=>?_) (fun hc11=>?_)
 ·have h11 : i < 4 := by have := of_decide_eq_true hc11; omega
  refine aa [721,649] ?_
  refine s1 (cE 32 i rfl rfl rfl rfl aq) rfl ?_
  refine aa [647,275] ?_
  refine s1 (eW 24 (8*i) rfl rfl rfl rfl aq aq) rfl <| s1 (j5 rfl rfl aq) rfl <| s1 ((ep Tryz.underlying3 Tryz.underlying5 rfl).v (xK a i h11)) rfl <| s1 (dC (32+i) Tryz.underlying175 cr rfl rfl rfl aq rfl) rfl <| bJ rfl (dI cr rfl rfl rfl rfl (by simp [hx];omega) (Px hx a i h11) ?_)
  refine aa [685] ?_
  exact cO (i+1) aq aq [(4,some 4),(5,some 5)] hI rfl rfl ⟨⟨_,rfl,.pure pu⟩,⟨_,rfl,.p rfl⟩,⟨_,rfl,.p rfl⟩,⟨_,rfl,.pure pu⟩,trivial⟩ ⟨.inr ⟨_,_,rfl,rfl,.pure bO⟩,.inr ⟨_,_,rfl,rfl,.of aX (.pure bO)⟩,trivial⟩
 ·have h11 : i = 4 := by have := of_decide_eq_false hc11; omega
  subst h11
  refine aa [683] ?_
  refine s1 (gX Tryz.underlying175 cr rfl rfl aH aI) rfl <| bJ rfl (b7 true rfl (.cons (.pure pu) (.cons (.sl rfl rfl rfl (dD aH aA) (cK.pure bO) bO) .nil)) (Qa x a hx) pu (.inr fu) rfl ?_)
  refine aa [712] ?_
  refine bZ (rs:= [.cell 4 23]) rfl (da bR rfl rfl (List.take_of_length_le aA) aA bW) rfl
theorem NN (x:List UInt8) (n:Nat):bU Tryz.prog 94 [.ag (x.map u8),nI n] (cl (.fn (.func 144) [] [.fp [nI n],.fp (x.map u8)])):=by
 refine enter Tryz.func94 rfl Tryz.ntmps94 aw (Nat.le_of_ble_eq_true rfl) fun w0 X0 hI=>?_
 refine aa [713,255,652] ?_
 refine iy 2 rfl rfl bO <| iy 3 rfl rfl bO <| bI <| s1 (jJ (us:= []) (vs:= [.fp [nI n],.fp (x.map u8)]) rfl rfl) rfl ?_
 refine aa [650] ?_
 refine bZ (rs:= [.tmp 4]) rfl (bV rfl bW) rfl
theorem II (x:List UInt8) (n:Nat) (hx:x.length=32) (hn:n≤256):bU Tryz.prog 143 [.nl,.fn (.func 144) [] [.fp [nI n],.fp (x.map u8)]] (fk 32 n ((fg x n).flatten.map u8)):=by
 refine rq Tryz.func143 rfl Tryz.ntmps143 aw (Nat.le_of_ble_eq_true rfl) fun w0 X0 hI hS=>?_
 refine aa [645,254,652,645,739] ?_
 refine yP [2] [(0,_),(1,_),(2,_),(4,_),(6,_)] hI rfl ⟨rfl,⟨rfl,⟨rfl,⟨rfl,⟨rfl,trivial⟩⟩⟩⟩⟩ aL rfl Tryz.func144 rfl Tryz.ntmps144 aw (Nat.le_of_ble_eq_true rfl) fun w1 l1 D1 rc1 hR1=>?_
 refine aa [645,8,667] ?_
 refine c5 (ι:=Nat) (fun i=> [(0,yv l1),(1,.fp [nI n]),(2,.fp (x.map u8)),(5,nI n),(6,nI i)]) (fun i=>⟨[(2,some ([.sl 11 32 0 i])),(11,some ((fg x i).flatten.map u8))]⟩) (fun i=>i≤n) (fun i=>n - i) ?_ ?_
 ·exact c4 (0) (Nat.zero_le _) [(2,some 2),(11,none)] hR1.sub.ids rfl rfl ⟨⟨_,rfl,.pure trivial⟩,⟨_,rfl,.pure pu⟩,⟨_,rfl,.pure pu⟩,⟨_,rfl,.pure pu⟩,⟨_,rfl,.pure pu⟩,trivial⟩ ⟨.inr ⟨_,_,rfl,rfl,.cons (.nl rfl) .nil⟩,.inl ⟨rfl,rfl⟩,trivial⟩
 rintro i hi
 have hfl:=(lY x i).len
 rw [mo]at hfl
 refine aa [651] ?_
 refine cm rfl (fun hc7=>?_) (fun hc7=>?_)
 ·have h7 : i < n := by have := of_decide_eq_true hc7; omega
  refine aa [721,648,71,0] ?_
  refine bJ rfl (b7 false rfl (.cons (.pure pu) (.cons (.pure pu) (.nil))) (Hb x (i:Nat) hx) pu (.inl rfl) rfl ?_)
  refine bJ rfl (b7 false rfl (.cons (.pure pu) (.nil)) (NM (gw x (i:Nat)) aA) pu (.inl rfl) rfl ?_)
  refine vj [2] [(0,_),(1,_),(2,_),(4,_),(5,_),(6,_),(7,_),(8,_),(9,_),(10,_),(11,_),(12,_),(13,_)] hR1 hR1.sub.ids rfl ⟨rfl,⟨rfl,⟨rfl,⟨rfl,⟨rfl,⟨rfl,⟨rfl,⟨rfl,⟨rfl,⟨rfl,⟨rfl,⟨rfl,⟨rfl,trivial⟩⟩⟩⟩⟩⟩⟩⟩⟩⟩⟩⟩⟩ aL rfl rfl rfl rfl rfl fun w2 tm2 hd2=>?_
  refine aa [1,106,5,26] ?_
  refine vg hd2 fun w3 hd3=>?_
  refine aa [9,1,114,13] ?_
  refine bJ rfl (gC 10 rfl Tryz.underlying41 bR rfl rfl rfl aD (List.append_nil ((mZ (gw x (i:Nat))).map u8)) rfl rfl rfl ?_)
  refine bJ rfl (dR 111 rfl Tryz.underlying41 bR rfl (.sl rfl (by rw [List.length_map];exact hfl)) rfl (dH rfl ar) aA aC aq rfl rfl rfl ?_)
  refine bJ rfl (dI ir rfl rfl rfl rfl ar rfl ?_)
  refine aa [760,174,673,717] ?_
  exact cO (i+1) aq aq [(2,some 2),(11,some 111)] hR1.sub.ids rfl rfl ⟨⟨_,rfl,.pure trivial⟩,⟨_,rfl,.pure pu⟩,⟨_,rfl,.pure pu⟩,⟨_,rfl,.pure pu⟩,⟨_,rfl,.pure pu⟩,trivial⟩ ⟨.inr ⟨_,_,rfl,rfl,.cons (.sl rfl ar) .nil⟩,.inr ⟨_,_,rfl,rfl,.of (EK x i) (.pure bO)⟩,trivial⟩
 ·have h7 : i = n := by have := of_decide_eq_false hc7; omega
  subst h7
  refine cY <| cq <| cq <| cZ <| yN rfl hR1 hS ?_
  refine aa [781,645,114,650] ?_
  refine sX (rs:= [.tmp 4]) rfl rfl rfl hS (dn:= [D1]) rfl rfl aA rfl (bV rfl bW) ⟨11,rfl,rfl⟩
theorem JR (x:List UInt8) (n:Nat) (hx:x.length=32) (hn:n≤256):bU Tryz.prog 93 [.fn (.func 144) [] [.fp [nI n],.fp (x.map u8)]] (cl (cM (fg x n))):=by
 refine enter Tryz.func93 rfl Tryz.ntmps93 aw (Nat.le_of_ble_eq_true rfl) fun w0 X0 hI=>?_
 refine aa [645,664] ?_
 refine bJ rfl (kx 4 rfl false rfl (.cons (.pure pu) (.cons (.pure pu) .nil)) (II x n hx hn) bO (.inl rfl) rfl ?_)
 refine s1 (bE rfl) rfl <| bH <| bF <| bY <| gm 2 rfl rfl bO (dD (by rw [List.length_map,(lY x n).len,mo]) rfl) ?_
 refine aa [4] ?_
 exact congrArg (fun z=>A.fz z _) (mo x n).symm
theorem xm (x:List UInt8) (n:Int) (hx:x.length=32):bU Tryz.prog 44 [.ag (x.map u8),.i .i64 n] (cl (if dY n then .tu [cM (fg x n.toNat),.i .i64 0]else .tu [.nl,.i .i64 60])):=by
 refine enter Tryz.func44 rfl Tryz.ntmps44 aw (Nat.le_of_ble_eq_true rfl) fun w0 X0 hI=>?_
 refine aa [713,0,659,680,384,656] ?_
 refine cm rfl (fun hc11=>?_) (fun hc11=>?_)
 ·have hcs : ¬ dY n := by intro h; unfold dY at h; simp at hc11; omega
  refine aa [648,772,60] ?_
  exact(if_neg hcs).symm
 ·have hcs : dY n := by unfold dY; simp at hc11; omega
  have hsz:=hcs
  obtain⟨k,rfl,h1,h2⟩:=qv hcs
  refine aa [669,13,0] ?_
  refine bJ rfl (b7 false rfl (.cons (.pure pu) (.cons (.pure pu) (.nil))) (NN x k) pu (.inl rfl) rfl ?_)
  refine bJ rfl (b7 false rfl (.cons (.pure pu) (.nil)) (JR x k hx h2) pu (.inl rfl) rfl ?_)
  refine aa [726,60] ?_
  exact(if_pos hsz).symm
theorem OF (x:List UInt8) (n:Int) (hx:x.length=32):bU Tryz.prog 27 [.ag (x.map u8),.i .i64 n] (cl (sm x n)):=by
 refine enter Tryz.func27 rfl Tryz.ntmps27 aw (Nat.le_of_ble_eq_true rfl) fun w0 X0 hI=>?_
 refine aa [745,659] ?_
 rcases(Decidable.em (dY n)).symm with hcs|hcs
 ·skip
  refine aa [728,0,441,764,645,13,0,5,715,77] ?_
  exact(AS hcs).symm
 ·have hsz := hcs
  obtain⟨k,rfl,h1,h2⟩:=qv hcs
  refine aa [728,0,442,708,694,711] ?_
  refine bJ rfl (b7 false rfl (.cons (.pure pu) (.nil)) (sD _ (fg x k) (Nat.le_refl _) (lY x k) aE) pu (.inl rfl) rfl ?_)
  refine aa [5,657,77] ?_
  exact(GM hsz).symm
theorem sn (n:Int):bU Tryz.prog 90 [.i .i64 n] (cl (.b (decide (dY n)))):=by
 refine enter Tryz.func90 rfl Tryz.ntmps90 aw (Nat.le_of_ble_eq_true rfl) fun w0 X0 hI=>?_
 refine aa [645,660,0] ?_
 refine fU 2 rfl rfl rfl rfl (fun hb5=> .step (bE rfl) rfl rfl<| .step (bE rfl) rfl rfl<| .done) rfl rfl ?_
 refine aa [698] ?_
 exact congrArg A.b (by rw [Bool.eq_iff_iff,decide_eq_true_eq];simp [dY])
end Go.Abs.D2
