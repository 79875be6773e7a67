/-
  The engine, the plain laws and the walks that the rows need, part 18. Conditions: none.
-/
import Derived.Test.YteempkifmbclgaaGreatDoorM17
set_option linter.unusedVariables false
set_option linter.unusedSimpArgs false
set_option maxHeartbeats 1000000
set_option maxRecDepth 10000
-- C1C
namespace Go.Abs.D2
open Go Go.Eng Go.Abs Go.Proofs
def je (i:Nat):List A:= [.raw .nilFunc,.fn (.func 168) [] [],.fn (.func 171) [] [],.fn (.func 172) [] [.p i 0]]
theorem zq:ny je:=vD (zo trivial) (vD (zo ⟨trivial,trivial⟩) (vD (zo ⟨trivial,trivial⟩) (vD Ki Ke)))
theorem C3 (B R:List UInt8) (n:Int) (s:List UInt8) (l:List CV) (h0: -9223372036854775808≤n) (h1:n≤9223372036854775807) (hR:B++1::dz (iu n)=R) (hl:R.length≤100000000):eQ Tryz.prog 168 [.sl 131 1 0 B.length,.ag [.i .i64 1,.i .i64 n,.s s,.fz l.length (CV.dt l)]] ⟨[(131,some (B.map u8))]⟩ (jx 1 R.length (R.map u8) []):=by
 refine zJ [] bO FH FG F5 Tryz.func168 rfl Tryz.ntmps168 aw (Nat.le_of_ble_eq_true rfl) fun w0 X0 hI=>?_
 refine aa [689,652] ?_
 have hlen:B.length+1≤100000000:=by rw [←hR]at hl;simp at hl;omega
 refine aa [38,258,336] ?_
 refine gp 128 2 [0,1] [(6,some 1),(131,none)] cz Tryz.underlying68 cr rfl (.sl rfl aA) rfl (dH rfl ar) aA aC aq rfl (yI B 1) rfl rfl <| bK 3 [] [(3,none)] (bX Tryz.underlying109 rfl bL az rfl rfl) rfl rfl <| bK 4 [3] [(3,none)] (bM bL rfl rfl rfl) rfl rfl <| c7 false 5 [4] [] cz rfl (.cons (.pure pu) (.nil)) (JY n h0 h1) pu (.inl rfl) rfl rfl <| z6 11 ⟨[(128,some ((B++ [1]).map u8))]⟩ true 6 [2,5] [(128,some 2)] cz rfl ⟨⟨rfl,cK.pure bO⟩,trivial⟩ (.cons (.ksl rfl) (.cons (.pure pu) .nil)) (zg (B++ [1]) (R) (cQ (iu n)) (B.length+1) aE aA (by rw [kT (qA h0 h1), ←hR];simp)) bO (.inr iX) rfl rfl ?_
 refine aa [2,650] ?_
 refine bZ (rs:= [.tmp 4]) rfl (bV rfl bW) (Gz rfl)
theorem C4 (B R:List UInt8) (n:Int) (s:List UInt8) (l:List CV) (hR:B++2::(dz s.length++s)=R) (hl:R.length≤100000000):eQ Tryz.prog 171 [.sl 131 1 0 B.length,.ag [.i .i64 2,.i .i64 n,.s s,.fz l.length (CV.dt l)]] ⟨[(131,some (B.map u8))]⟩ (jx 1 R.length (R.map u8) []):=by
 refine zJ [] bO FH FG F5 Tryz.func171 rfl Tryz.ntmps171 aw (Nat.le_of_ble_eq_true rfl) fun w0 X0 hI=>?_
 refine aa [689,652] ?_
 have hlen:B.length+1+s.length≤100000000:=by rw [←hR]at hl;simp at hl;omega
 have hlen2:(B++2::dz s.length).length+s.length=R.length:=by rw [←hR];simp;omega
 refine aa [30,258,336] ?_
 refine gp 128 2 [0,1] [(6,some 1),(131,none)] cz Tryz.underlying68 cr rfl (.sl rfl aA) rfl (dH rfl ar) aA aC aq rfl (yI B 2) rfl rfl <| bK 3 [] [(3,none)] (bX Tryz.underlying109 rfl jZ az rfl rfl) rfl rfl <| bK 4 [3] [(3,none)] (bM jZ rfl rfl rfl) rfl rfl <| bK 5 [4] [] (x7 Tryz.underlying9 rfl rfl) rfl rfl ?_
 refine aa [337] ?_
 refine z6 12 ⟨[(128,some ((B++ [2]).map u8))]⟩ true 7 [2,6] [(128,some 2)] cz rfl ⟨⟨rfl,cK.pure bO⟩,trivial⟩ (.cons (.ksl rfl) (.cons (.pure pu) .nil)) (zg (B++ [2]) (B++2::dz s.length) (cQ s.length) (B.length+1) aE aA (by rw [kT aq];simp)) bO (.inr iX) rfl rfl <| bK 8 [] [(3,none)] (bX Tryz.underlying109 rfl jZ az rfl rfl) rfl rfl <| bK 9 [8] [(3,none)] (bM jZ rfl rfl rfl) rfl rfl <| Ee 15 10 [7,9] [(12,some 7)] cz Tryz.underlying68 Tryz.underlying9 cr rfl rfl aA aE rfl aC aq (IG _ _ R (by rw [←hR];simp)) rfl rfl ?_
 refine aa [2,702] ?_
 rw [←hlen2]
 exact Gz rfl
theorem HO {s0:St} {ow:Bool} {T:Nat} {cs:List A} (h:s0.get T=some cs):∀p∈ [(T,je T)],(∃cs,s0.get p.1=some cs)∧ov s0 ow p.2:=fun p hp=>by
  rw [List.mem_singleton.1 hp]
  exact⟨⟨_,h⟩,.inl ⟨trivial,.inr trivial⟩,.inl ⟨⟨trivial,trivial⟩,.inr ⟨trivial,trivial⟩⟩,.inl ⟨⟨trivial,trivial⟩,.inr ⟨trivial,trivial⟩⟩,Ig h,trivial⟩
theorem J5 (n:Int) (s:List UInt8) (l:List CV) (ih:∀v∈l,∀(n:Int) (s:List UInt8) (q:List CV),v= .mk 3 n s q→CV.lL q=true→CV.m7 q=true→∀B R:List UInt8,B++3::(dz q.length++CV.dQ q)=R→R.length≤100000000→eQ Tryz.prog 172 [.sl 131 1 0 B.length,.ag [.i .i64 3,.i .i64 n,.s s,.fz q.length (CV.dt q)],.p 11 0] ⟨[(131,some (B.map u8)),(11,some (je 11))]⟩ (jx 1 R.length (R.map u8) [(11,je 11)])) (hok:CV.lL l=true) (hrg:CV.m7 l=true) (B R:List UInt8) (hR:B++3::(dz l.length++CV.dQ l)=R) (hl:R.length≤100000000):eQ Tryz.prog 172 [.sl 131 1 0 B.length,.ag [.i .i64 3,.i .i64 n,.s s,.fz l.length (CV.dt l)],.p 11 0] ⟨[(131,some (B.map u8)),(11,some (je 11))]⟩ (jx 1 R.length (R.map u8) [(11,je 11)]):=by
 refine zJ [11] bO Ng (Nf rfl) (Nj zq) Tryz.func172 rfl Tryz.ntmps172 aw (Nat.le_of_ble_eq_true rfl) fun w0 X0 hI=>?_
 refine aa [756,652] ?_
 have hnl:=CV.wx l
 have hRl:R.length=B.length+1+(dz l.length).length+(CV.dQ l).length:=by rw [←hR];simp;omega
 rw [CV.oR]at hok
 rw [CV.xD]at hrg
 refine aa [131,258] ?_
 refine rE 9 1 [] cz Tryz.underlying68 cr rfl rfl rfl rfl rfl rfl <| gp 128 2 [0,1] [(9,some 1),(131,none)] cz Tryz.underlying68 cr rfl (.sl rfl aA) rfl (dH rfl ar) aA aC aq rfl (yI B 3) rfl rfl <| bK 3 [] [(4,none)] (bX Tryz.underlying109 rfl ey az rfl rfl) rfl rfl <| bK 4 [3] [(4,none)] (bM ey rfl rfl rfl) rfl rfl <| bK 5 [4] [] (cJ Tryz.underlying107 rfl rfl rfl) rfl rfl ?_
 refine aa [337] ?_
 refine z6 15 ⟨[(128,some ((B++ [3]).map u8))]⟩ true 7 [2,6] [(128,some 2)] cz rfl ⟨⟨rfl,cK.pure bO⟩,trivial⟩ (.cons (.ksl rfl) (.cons (.pure pu) .nil)) (zg (B++ [3]) (B++3::(dz l.length++CV.dQ (l.take 0))) (cQ l.length) (B.length+1) aE aA (by rw [kT aq];simp [CV.dQ])) bO (.inr iX) rfl rfl ?_
 refine aa [2,652,645,733,88,667] ?_
 refine c5 (ι:=Nat) (fun i=> [(0,.sl 131 1 0 (B++3::(dz l.length++CV.dQ (l.take i))).length),(2,.p 11 0),(17,.fz l.length (CV.dt l)),(18,nJ l.length),(19,nJ i)]) (fun i=>⟨[(131,some ((B++3::(dz l.length++CV.dQ (l.take i))).map u8)),(11,some (je 11))]⟩) (fun i=>i≤l.length) (fun i=>l.length - i) ?_ ?_
 ·exact c4 (0) (Nat.zero_le _) [(11,some 11),(131,some 15)] hI rfl rfl ⟨⟨_,rfl,.sl rfl ar⟩,⟨_,rfl,.p rfl⟩,⟨_,rfl,.pure pu⟩,⟨_,rfl,.pure pu⟩,⟨_,rfl,.pure pu⟩,trivial⟩ ⟨.inr ⟨_,_,rfl,rfl,.pure bO⟩,.inr ⟨_,_,rfl,rfl,.cons (.pure trivial) (.cons (.pure pu) (.cons (.pure pu) (.cons (.fn .nil (.cons (.p rfl) .nil)) .nil)))⟩,trivial⟩
 rintro i hi
 have hli:=CV.vK l i
 have hli2:=CV.vK l (i+1)
 have hCl:(B++3::(dz l.length++CV.dQ (l.take i))).length=B.length+1+(dz l.length).length+(CV.dQ (l.take i)).length:=by simp;omega
 have hCl2:(B++3::(dz l.length++CV.dQ (l.take (i+1)))).length=B.length+1+(dz l.length).length+(CV.dQ (l.take (i+1))).length:=by simp;omega
 refine aa [651] ?_
 refine cm rfl (fun hc20=>?_) (fun hc20=>?_)
 ·have h20 : i < l.length := by have := of_decide_eq_true hc20; omega
  obtain⟨⟨k2,n2,s2,q2⟩,hv⟩:∃v,l[i]? =some v:=⟨_,List.getElem?_eq_getElem h20⟩
  have hvm:=List.mem_of_getElem? hv
  have hvo:=List.all_eq_true.1 hok _ hvm
  have hvr:=List.all_eq_true.1 hrg _ hvm
  simp only [CV.il,Bool.and_eq_true,decide_eq_true_eq]at hvr
  refine aa [672,98] ?_
  refine s1 (dw cP rfl rfl (CV.Lh hv) rfl) rfl <| bJ rfl (cI 7 rfl cP rfl rfl ?_)
  refine aa [99,656] ?_
  rcases ui hvo with hcs|hcs|hcs
  ·subst hcs
   refine aa [38,259,260] ?_
   refine bK 2 [1] [(11,none)] (dC 1 Tryz.underlying158 ju rfl rfl rfl az rfl) rfl rfl ?_
   refine aa [261,262,263] ?_
   refine rG 29 ⟨[(131,some ((B++3::(dz l.length++CV.dQ (l.take i))).map u8))]⟩ [] true 6 [3,4,5] [(131,none)] cz rfl rfl rfl ⟨⟨rfl,cK.pure bO⟩,trivial⟩ (.cons (.ksl rfl) (.cons (.pure pu) .nil)) (C3 _ (B++3::(dz l.length++CV.dQ (l.take (i+1)))) n2 s2 q2 hvr.1.1 hvr.1.2 (by rw [←CV.tA hv];simp [CV.enc]) aq) bO (.inr iX) wR rfl rfl ?_
   refine aa [2,704] ?_
   exact cO (i+1) aq aq [(11,some 11),(131,some 29)] hI rfl rfl ⟨⟨_,rfl,.sl rfl ar⟩,⟨_,rfl,.p rfl⟩,⟨_,rfl,.pure pu⟩,⟨_,rfl,.pure pu⟩,⟨_,rfl,.pure pu⟩,trivial⟩ ⟨.inr ⟨_,_,rfl,rfl,.pure bO⟩,.inr ⟨_,_,rfl,rfl,.cons (.pure trivial) (.cons (.pure pu) (.cons (.pure pu) (.cons (.fn .nil (.cons (.p rfl) .nil)) .nil)))⟩,trivial⟩
  ·subst hcs
   refine aa [38,259,260] ?_
   refine bK 2 [1] [(11,none)] (dC 2 Tryz.underlying158 ju rfl rfl rfl az rfl) rfl rfl ?_
   refine aa [261,262,263] ?_
   refine rG 29 ⟨[(131,some ((B++3::(dz l.length++CV.dQ (l.take i))).map u8))]⟩ [] true 6 [3,4,5] [(131,none)] cz rfl rfl rfl ⟨⟨rfl,cK.pure bO⟩,trivial⟩ (.cons (.ksl rfl) (.cons (.pure pu) .nil)) (C4 _ (B++3::(dz l.length++CV.dQ (l.take (i+1)))) n2 s2 q2 (by rw [←CV.tA hv];simp [CV.enc]) aq) bO (.inr iX) wR rfl rfl ?_
   refine aa [2,704] ?_
   exact cO (i+1) aq aq [(11,some 11),(131,some 29)] hI rfl rfl ⟨⟨_,rfl,.sl rfl ar⟩,⟨_,rfl,.p rfl⟩,⟨_,rfl,.pure pu⟩,⟨_,rfl,.pure pu⟩,⟨_,rfl,.pure pu⟩,trivial⟩ ⟨.inr ⟨_,_,rfl,rfl,.pure bO⟩,.inr ⟨_,_,rfl,rfl,.cons (.pure trivial) (.cons (.pure pu) (.cons (.pure pu) (.cons (.fn .nil (.cons (.p rfl) .nil)) .nil)))⟩,trivial⟩
  ·obtain ⟨rfl, hq2⟩ := hcs
   refine aa [38,259,260] ?_
   refine bK 2 [1] [(11,none)] (dC 3 Tryz.underlying158 ju rfl rfl rfl az rfl) rfl rfl ?_
   refine aa [261,262,263] ?_
   refine rG 29 ⟨[(131,some ((B++3::(dz l.length++CV.dQ (l.take i))).map u8)),(11,some (je 11))]⟩ [(11,je 11)] true 6 [3,4,5] [(11,none),(131,none)] cz rfl rfl rfl ⟨⟨rfl,cK.pure bO⟩,⟨rfl,(.cons (.pure trivial) (.cons (.pure pu) (.cons (.pure pu) (.cons (.fn .nil (.cons (.kp rfl) .nil)) .nil))))⟩,trivial⟩ (.cons (.ksl rfl) (.cons (.pure pu) (.cons (.kp rfl) .nil))) (ih _ hvm n2 s2 q2 rfl hq2 hvr.2 _ (B++3::(dz l.length++CV.dQ (l.take (i+1)))) (by rw [←CV.tA hv];simp [CV.enc]) aq) bO (.inr iX) (HO rfl) rfl rfl ?_
   refine aa [2,704] ?_
   exact cO (i+1) aq aq [(11,some 11),(131,some 29)] hI rfl rfl ⟨⟨_,rfl,.sl rfl ar⟩,⟨_,rfl,.p rfl⟩,⟨_,rfl,.pure pu⟩,⟨_,rfl,.pure pu⟩,⟨_,rfl,.pure pu⟩,trivial⟩ ⟨.inr ⟨_,_,rfl,rfl,.pure bO⟩,.inr ⟨_,_,rfl,rfl,.cons (.pure trivial) (.cons (.pure pu) (.cons (.pure pu) (.cons (.fn .nil (.cons (.p rfl) .nil)) .nil)))⟩,trivial⟩
 ·obtain rfl : i = l.length := by have := of_decide_eq_false hc20; omega
  refine aa [719] ?_
  refine bZ (rs:= [.tmp 5]) rfl (bV rfl bW) ?_
  rw [←hR]
  exact On aN rfl rfl az
theorem J4 (n:Int) (s:List UInt8) (l:List CV) (hok:CV.lL l=true) (hrg:CV.m7 l=true) (B R:List UInt8) (hR:B++3::(dz l.length++CV.dQ l)=R) (hl:R.length≤100000000):eQ Tryz.prog 172 [.sl 131 1 0 B.length,.ag [.i .i64 3,.i .i64 n,.s s,.fz l.length (CV.dt l)],.p 11 0] ⟨[(131,some (B.map u8)),(11,some (je 11))]⟩ (jx 1 R.length (R.map u8) [(11,je 11)]):=by
 have key:∀v:CV,v.size≤(CV.mk 3 n s l).size→∀(n:Int) (s:List UInt8) (q:List CV),v= .mk 3 n s q→CV.lL q=true→CV.m7 q=true→∀B R:List UInt8,B++3::(dz q.length++CV.dQ q)=R→R.length≤100000000→eQ Tryz.prog 172 [.sl 131 1 0 B.length,.ag [.i .i64 3,.i .i64 n,.s s,.fz q.length (CV.dt q)],.p 11 0] ⟨[(131,some (B.map u8)),(11,some (je 11))]⟩ (jx 1 R.length (R.map u8) [(11,je 11)]):=by
  refine CV.sa _ fun k n s l hl ih=>?_
  rintro n' s' q e
  cases e
  exact J5 n s l ih
 exact key _ (Nat.le_refl _) n s l rfl hok hrg B R hR hl
theorem J6:bU Tryz.prog 116 [] (yp (fun i=> .ag (je i)) je):=by
 refine enter Tryz.func116 rfl Tryz.ntmps116 aw (Nat.le_of_ble_eq_true rfl) fun w0 X0 hI=>?_
 refine bG <| bI <| bJ rfl (cI 0 rfl sB rfl rfl ?_)
 refine bH <| bF <| bG <| bI <| s1 (dC 1 Tryz.underlying158 ju rfl rfl rfl aq rfl) rfl ?_
 refine aa [264,653] ?_
 refine s1 (dC 2 Tryz.underlying158 ju rfl rfl rfl aq rfl) rfl ?_
 refine aa [264,653] ?_
 refine s1 (jJ (us:= []) (vs:= [.p 0 0]) rfl rfl) rfl <| s1 (dC 3 Tryz.underlying158 ju rfl rfl rfl aq rfl) rfl ?_
 refine aa [264,653] ?_
 refine s1 (cu sB rfl rfl rfl) rfl <| bJ rfl (cD sB rfl rfl rfl rfl rfl ?_)
 refine bH <| bF <| bY ?_
 refine bZ (rs:= [.cell 0 158]) rfl (da sB rfl rfl rfl rfl bW) ⟨0,rfl,rfl⟩
-- C1D
theorem Cs (k n:Int) (s:List UInt8) (l:List CV) (hs:(CV.mk k n s l).size≤1000000) (hrg:(CV.mk k n s l).il=true) (hl:(CV.mk k n s l).enc.length≤100000000):bU Tryz.prog 69 [.ag [.i .i64 k,.i .i64 n,.s s,.fz l.length (CV.dt l)]] (cl (oC (.mk k n s l))):=by
 refine enter Tryz.func69 rfl Tryz.ntmps69 aw (Nat.le_of_ble_eq_true rfl) fun w0 X0 hI=>?_
 refine aa [670,0,703] ?_
 simp only [CV.il,Bool.and_eq_true,decide_eq_true_eq]at hrg
 refine bI <| s1 (cu cP rfl rfl rfl) rfl <| bJ rfl (b7 false rfl (.cons (.pure pu) (.nil)) (Js (.mk k n s l) hs) pu (.inl rfl) rfl ?_)
 refine aa [646,665] ?_
 refine cm rfl (fun hc9=>?_) (fun hc9=>?_)
 ·have h9 : iI (.mk k n s l) ≠ 0 := by simpa using hc9
  refine aa [757,35] ?_
  exact(Dz h9).symm
 ·have h9 : iI (.mk k n s l) = 0 := by simpa using hc9
  have hok:=CK h9
  refine b9 <| bF <| bG <| bI <| bJ rfl (MB (mk:=fun i=> .ag (je i)) (mkc:=je) (Nc (f:= .func 172) 3 zq (fun _=>rfl)) zq 11 rfl true rfl .nil J6 rfl ?_)
  refine bJ rfl (cI 5 rfl sB rfl rfl ?_)
  refine bJ rfl (cD sB rfl rfl rfl rfl rfl ?_)
  refine bH <| bF <| bG ?_
  rcases ui hok with hcs|hcs|hcs
  ·subst hcs
   refine aa [132,265,172] ?_
   refine bK 2 [1] [(5,none)] (dC 1 Tryz.underlying158 ju rfl rfl rfl az rfl) rfl rfl ?_
   refine aa [266,267] ?_
   refine rG 17 ⟨[]⟩ [] true 5 [3,4] [] cz rfl rfl rfl trivial (.cons (.pure pu) (.cons (.pure pu) .nil)) (eQ.nl (i:=131) rfl (C3 [] (CV.enc (.mk 1 n s l)) n s l hrg.1.1 hrg.1.2 rfl hl)) bO (.inr iX) wR rfl rfl ?_
   refine aa [2,726,69,35] ?_
   exact(rn h9).symm
  ·subst hcs
   refine aa [132,265,172] ?_
   refine bK 2 [1] [(5,none)] (dC 2 Tryz.underlying158 ju rfl rfl rfl az rfl) rfl rfl ?_
   refine aa [266,267] ?_
   refine rG 17 ⟨[]⟩ [] true 5 [3,4] [] cz rfl rfl rfl trivial (.cons (.pure pu) (.cons (.pure pu) .nil)) (eQ.nl (i:=131) rfl (C4 [] (CV.enc (.mk 2 n s l)) n s l rfl hl)) bO (.inr iX) wR rfl rfl ?_
   refine aa [2,726,69,35] ?_
   exact(rn h9).symm
  ·obtain ⟨rfl, hq2⟩ := hcs
   refine aa [132,265,172] ?_
   refine bK 2 [1] [(5,none)] (dC 3 Tryz.underlying158 ju rfl rfl rfl az rfl) rfl rfl ?_
   refine aa [266,267] ?_
   refine rG 17 ⟨[(11,some (je 11))]⟩ [(11,je 11)] true 5 [3,4] [(11,none)] cz rfl rfl rfl ⟨⟨rfl,(.cons (.pure trivial) (.cons (.pure pu) (.cons (.pure pu) (.cons (.fn .nil (.cons (.kp rfl) .nil)) .nil))))⟩,trivial⟩ (.cons (.pure pu) (.cons (.pure pu) (.cons (.kp rfl) .nil))) (eQ.nl (i:=131) rfl (J4 n s l hq2 hrg.2 [] (CV.enc (.mk 3 n s l)) rfl hl)) bO (.inr iX) (HO rfl) rfl rfl ?_
   refine aa [2,726,69,35] ?_
   exact(rn h9).symm
-- D2A
theorem As (htag:∀(t b:List UInt8),t.length≤1048576→b.length≤1048576→bU Tryz.prog 50 [.s t,.fz b.length (b.map u8)] (cl (.ag ((tagged t b).map u8)))) (a b:List UInt8) (ha:a.length=32) (hb:b.length=32):bU Tryz.prog 96 [.ag (a.map u8),.ag (b.map u8)] (cl (.ag ((tagged [110,111,100,101] (a++b)).map u8))):=by
 refine enter Tryz.func96 rfl Tryz.ntmps96 aw (Nat.le_of_ble_eq_true rfl) fun w0 X0 hI=>?_
 refine aa [713,68,70,654,132] ?_
 refine Lc 5 0 [] 0 64 cz Tryz.underlying68 cr rfl rfl rfl rfl rfl av av av rfl rfl ?_
 refine aa [338,339,340,341,342,2,735] ?_
 refine bZ (rs:= [.cell 4 23]) rfl (da bR rfl rfl (List.take_of_length_le aA) aA bW) rfl
-- D2B
theorem OL (x:BitVec 32):bU Tryz.prog 188 [ct x,.i .i64 (-2)] (cl (ct (iC x 2))):=by
 refine enter Tryz.func188 rfl Tryz.ntmps188 aw (Nat.le_of_ble_eq_true rfl) fun w0 X0 hI=>?_
 refine aa [736] ?_
 refine s1 ((ep Tryz.underlying3 Tryz.underlying74 rfl).v (v':=cN (cQ 18446744073709551614)) (congrArg (A.i .u64) az)) rfl <| s1 ((l5 _ (cQ 31) rfl rfl).v (v':=cN (cQ 30)) (congrArg cN az)) rfl ?_
 refine aa [660] ?_
 refine s1 (kA _ 30 rfl rfl rfl az) rfl ?_
 refine aa [647] ?_
 refine s1 ((nj (cQ 32) (cQ 30) rfl rfl az).v (v':=cN (cQ 2)) (congrArg cN az)) rfl <| s1 (iT _ 2 rfl rfl rfl az) rfl <| s1 ((kz _ _ rfl rfl).v (congrArg ct (na x 2))) rfl ?_
 refine aa [650] ?_
 refine bZ (rs:= [.tmp 4]) rfl (bV rfl (bW)) rfl
theorem OO (x:BitVec 32):bU Tryz.prog 188 [ct x,.i .i64 (-6)] (cl (ct (iC x 6))):=by
 refine enter Tryz.func188 rfl Tryz.ntmps188 aw (Nat.le_of_ble_eq_true rfl) fun w0 X0 hI=>?_
 refine aa [736] ?_
 refine s1 ((ep Tryz.underlying3 Tryz.underlying74 rfl).v (v':=cN (cQ 18446744073709551610)) (congrArg (A.i .u64) az)) rfl <| s1 ((l5 _ (cQ 31) rfl rfl).v (v':=cN (cQ 26)) (congrArg cN az)) rfl ?_
 refine aa [660] ?_
 refine s1 (kA _ 26 rfl rfl rfl az) rfl ?_
 refine aa [647] ?_
 refine s1 ((nj (cQ 32) (cQ 26) rfl rfl az).v (v':=cN (cQ 6)) (congrArg cN az)) rfl <| s1 (iT _ 6 rfl rfl rfl az) rfl <| s1 ((kz _ _ rfl rfl).v (congrArg ct (na x 6))) rfl ?_
 refine aa [650] ?_
 refine bZ (rs:= [.tmp 4]) rfl (bV rfl (bW)) rfl
theorem OP (x:BitVec 32):bU Tryz.prog 188 [ct x,.i .i64 (-7)] (cl (ct (iC x 7))):=by
 refine enter Tryz.func188 rfl Tryz.ntmps188 aw (Nat.le_of_ble_eq_true rfl) fun w0 X0 hI=>?_
 refine aa [736] ?_
 refine s1 ((ep Tryz.underlying3 Tryz.underlying74 rfl).v (v':=cN (cQ 18446744073709551609)) (congrArg (A.i .u64) az)) rfl <| s1 ((l5 _ (cQ 31) rfl rfl).v (v':=cN (cQ 25)) (congrArg cN az)) rfl ?_
 refine aa [660] ?_
 refine s1 (kA _ 25 rfl rfl rfl az) rfl ?_
 refine aa [647] ?_
 refine s1 ((nj (cQ 32) (cQ 25) rfl rfl az).v (v':=cN (cQ 7)) (congrArg cN az)) rfl <| s1 (iT _ 7 rfl rfl rfl az) rfl <| s1 ((kz _ _ rfl rfl).v (congrArg ct (na x 7))) rfl ?_
 refine aa [650] ?_
 refine bZ (rs:= [.tmp 4]) rfl (bV rfl (bW)) rfl
theorem OG (x:BitVec 32):bU Tryz.prog 188 [ct x,.i .i64 (-11)] (cl (ct (iC x 11))):=by
 refine enter Tryz.func188 rfl Tryz.ntmps188 aw (Nat.le_of_ble_eq_true rfl) fun w0 X0 hI=>?_
 refine aa [736] ?_
 refine s1 ((ep Tryz.underlying3 Tryz.underlying74 rfl).v (v':=cN (cQ 18446744073709551605)) (congrArg (A.i .u64) az)) rfl <| s1 ((l5 _ (cQ 31) rfl rfl).v (v':=cN (cQ 21)) (congrArg cN az)) rfl ?_
 refine aa [660] ?_
 refine s1 (kA _ 21 rfl rfl rfl az) rfl ?_
 refine aa [647] ?_
 refine s1 ((nj (cQ 32) (cQ 21) rfl rfl az).v (v':=cN (cQ 11)) (congrArg cN az)) rfl <| s1 (iT _ 11 rfl rfl rfl az) rfl <| s1 ((kz _ _ rfl rfl).v (congrArg ct (na x 11))) rfl ?_
 refine aa [650] ?_
 refine bZ (rs:= [.tmp 4]) rfl (bV rfl (bW)) rfl
theorem OH (x:BitVec 32):bU Tryz.prog 188 [ct x,.i .i64 (-13)] (cl (ct (iC x 13))):=by
 refine enter Tryz.func188 rfl Tryz.ntmps188 aw (Nat.le_of_ble_eq_true rfl) fun w0 X0 hI=>?_
 refine aa [736] ?_
 refine s1 ((ep Tryz.underlying3 Tryz.underlying74 rfl).v (v':=cN (cQ 18446744073709551603)) (congrArg (A.i .u64) az)) rfl <| s1 ((l5 _ (cQ 31) rfl rfl).v (v':=cN (cQ 19)) (congrArg cN az)) rfl ?_
 refine aa [660] ?_
 refine s1 (kA _ 19 rfl rfl rfl az) rfl ?_
 refine aa [647] ?_
 refine s1 ((nj (cQ 32) (cQ 19) rfl rfl az).v (v':=cN (cQ 13)) (congrArg cN az)) rfl <| s1 (iT _ 13 rfl rfl rfl az) rfl <| s1 ((kz _ _ rfl rfl).v (congrArg ct (na x 13))) rfl ?_
 refine aa [650] ?_
 refine bZ (rs:= [.tmp 4]) rfl (bV rfl (bW)) rfl
theorem OI (x:BitVec 32):bU Tryz.prog 188 [ct x,.i .i64 (-17)] (cl (ct (iC x 17))):=by
 refine enter Tryz.func188 rfl Tryz.ntmps188 aw (Nat.le_of_ble_eq_true rfl) fun w0 X0 hI=>?_
 refine aa [736] ?_
 refine s1 ((ep Tryz.underlying3 Tryz.underlying74 rfl).v (v':=cN (cQ 18446744073709551599)) (congrArg (A.i .u64) az)) rfl <| s1 ((l5 _ (cQ 31) rfl rfl).v (v':=cN (cQ 15)) (congrArg cN az)) rfl ?_
 refine aa [660] ?_
 refine s1 (kA _ 15 rfl rfl rfl az) rfl ?_
 refine aa [647] ?_
 refine s1 ((nj (cQ 32) (cQ 15) rfl rfl az).v (v':=cN (cQ 17)) (congrArg cN az)) rfl <| s1 (iT _ 17 rfl rfl rfl az) rfl <| s1 ((kz _ _ rfl rfl).v (congrArg ct (na x 17))) rfl ?_
 refine aa [650] ?_
 refine bZ (rs:= [.tmp 4]) rfl (bV rfl (bW)) rfl
theorem OJ (x:BitVec 32):bU Tryz.prog 188 [ct x,.i .i64 (-18)] (cl (ct (iC x 18))):=by
 refine enter Tryz.func188 rfl Tryz.ntmps188 aw (Nat.le_of_ble_eq_true rfl) fun w0 X0 hI=>?_
 refine aa [736] ?_
 refine s1 ((ep Tryz.underlying3 Tryz.underlying74 rfl).v (v':=cN (cQ 18446744073709551598)) (congrArg (A.i .u64) az)) rfl <| s1 ((l5 _ (cQ 31) rfl rfl).v (v':=cN (cQ 14)) (congrArg cN az)) rfl ?_
 refine aa [660] ?_
 refine s1 (kA _ 14 rfl rfl rfl az) rfl ?_
 refine aa [647] ?_
 refine s1 ((nj (cQ 32) (cQ 14) rfl rfl az).v (v':=cN (cQ 18)) (congrArg cN az)) rfl <| s1 (iT _ 18 rfl rfl rfl az) rfl <| s1 ((kz _ _ rfl rfl).v (congrArg ct (na x 18))) rfl ?_
 refine aa [650] ?_
 refine bZ (rs:= [.tmp 4]) rfl (bV rfl (bW)) rfl
theorem OK (x:BitVec 32):bU Tryz.prog 188 [ct x,.i .i64 (-19)] (cl (ct (iC x 19))):=by
 refine enter Tryz.func188 rfl Tryz.ntmps188 aw (Nat.le_of_ble_eq_true rfl) fun w0 X0 hI=>?_
 refine aa [736] ?_
 refine s1 ((ep Tryz.underlying3 Tryz.underlying74 rfl).v (v':=cN (cQ 18446744073709551597)) (congrArg (A.i .u64) az)) rfl <| s1 ((l5 _ (cQ 31) rfl rfl).v (v':=cN (cQ 13)) (congrArg cN az)) rfl ?_
 refine aa [660] ?_
 refine s1 (kA _ 13 rfl rfl rfl az) rfl ?_
 refine aa [647] ?_
 refine s1 ((nj (cQ 32) (cQ 13) rfl rfl az).v (v':=cN (cQ 19)) (congrArg cN az)) rfl <| s1 (iT _ 19 rfl rfl rfl az) rfl <| s1 ((kz _ _ rfl rfl).v (congrArg ct (na x 19))) rfl ?_
 refine aa [650] ?_
 refine bZ (rs:= [.tmp 4]) rfl (bV rfl (bW)) rfl
theorem OM (x:BitVec 32):bU Tryz.prog 188 [ct x,.i .i64 (-22)] (cl (ct (iC x 22))):=by
 refine enter Tryz.func188 rfl Tryz.ntmps188 aw (Nat.le_of_ble_eq_true rfl) fun w0 X0 hI=>?_
 refine aa [736] ?_
 refine s1 ((ep Tryz.underlying3 Tryz.underlying74 rfl).v (v':=cN (cQ 18446744073709551594)) (congrArg (A.i .u64) az)) rfl <| s1 ((l5 _ (cQ 31) rfl rfl).v (v':=cN (cQ 10)) (congrArg cN az)) rfl ?_
 refine aa [660] ?_
 refine s1 (kA _ 10 rfl rfl rfl az) rfl ?_
 refine aa [647] ?_
 refine s1 ((nj (cQ 32) (cQ 10) rfl rfl az).v (v':=cN (cQ 22)) (congrArg cN az)) rfl <| s1 (iT _ 22 rfl rfl rfl az) rfl <| s1 ((kz _ _ rfl rfl).v (congrArg ct (na x 22))) rfl ?_
 refine aa [650] ?_
 refine bZ (rs:= [.tmp 4]) rfl (bV rfl (bW)) rfl
theorem ON (x:BitVec 32):bU Tryz.prog 188 [ct x,.i .i64 (-25)] (cl (ct (iC x 25))):=by
 refine enter Tryz.func188 rfl Tryz.ntmps188 aw (Nat.le_of_ble_eq_true rfl) fun w0 X0 hI=>?_
 refine aa [736] ?_
 refine s1 ((ep Tryz.underlying3 Tryz.underlying74 rfl).v (v':=cN (cQ 18446744073709551591)) (congrArg (A.i .u64) az)) rfl <| s1 ((l5 _ (cQ 31) rfl rfl).v (v':=cN (cQ 7)) (congrArg cN az)) rfl ?_
 refine aa [660] ?_
 refine s1 (kA _ 7 rfl rfl rfl az) rfl ?_
 refine aa [647] ?_
 refine s1 ((nj (cQ 32) (cQ 7) rfl rfl az).v (v':=cN (cQ 25)) (congrArg cN az)) rfl <| s1 (iT _ 25 rfl rfl rfl az) rfl <| s1 ((kz _ _ rfl rfl).v (congrArg ct (na x 25))) rfl ?_
 refine aa [650] ?_
 refine bZ (rs:= [.tmp 4]) rfl (bV rfl (bW)) rfl
theorem m9 (x:BitVec 32) (n:Nat) (h:n≤32):bU Tryz.prog 205 [ct x,.i .i64 (n:Int)] (cl (ct (iC x n))):=by
 refine enter Tryz.func205 rfl Tryz.ntmps205 aw (Nat.le_of_ble_eq_true rfl) fun w0 X0 hI=>?_
 refine aa [814,654,268,666] ?_
 refine t1 (iT _ n rfl rfl rfl h) rfl ?_
 refine aa [666] ?_
 refine t1 (eW 32 n rfl rfl rfl rfl h aq) rfl <| t1 (kA _ (32 - n) rfl rfl rfl aq) rfl <| t1 ((kz _ _ rfl rfl).v rfl) rfl ?_
 refine aa [11,650] ?_
 refine bZ (rs:= [.tmp 4]) rfl (bV rfl (bW)) rfl
theorem QD (b:List UInt8) (i:Nat) (h:i+4≤b.length):bU Tryz.prog 204 [.fz 4 (((b.map u8).drop (i*1)).take (4*1))] (cl (ct (word b i))):=by
 refine enter Tryz.func204 rfl Tryz.ntmps204 aw (Nat.le_of_ble_eq_true rfl) fun w0 X0 hI=>?_
 refine aa [814,654] ?_
 refine eN 22 cL aw <| t1 (bE rfl) rfl <| t1 (cf 0 Tryz.underlying68 cr rfl rfl rfl aq rfl) rfl <| t1 (bM cr rfl rfl (v8 b (i+0) aq (k:=0) rfl aq rfl)) rfl ?_
 refine aa [133] ?_
 refine t1 (kA _ 24 rfl rfl rfl az) rfl <| t1 (bE rfl) rfl <| t1 (cf 1 Tryz.underlying68 cr rfl rfl rfl aq rfl) rfl <| t1 (bM cr rfl rfl (v8 b (i+1) aq (k:=1) rfl aq rfl)) rfl ?_
 refine aa [133] ?_
 refine t1 (kA _ 16 rfl rfl rfl az) rfl ?_
 refine aa [269,6] ?_
 refine t1 (cf 2 Tryz.underlying68 cr rfl rfl rfl aq rfl) rfl <| t1 (bM cr rfl rfl (v8 b (i+2) aq (k:=2) rfl aq rfl)) rfl ?_
 refine aa [133] ?_
 refine t1 (kA _ 8 rfl rfl rfl az) rfl ?_
 refine aa [269,6] ?_
 refine t1 (cf 3 Tryz.underlying68 cr rfl rfl rfl aq rfl) rfl <| t1 (bM cr rfl rfl (v8 b (i+3) aq (k:=3) rfl aq rfl)) rfl ?_
 refine aa [133,269,11,650] ?_
 refine bZ (rs:= [.tmp 2]) rfl (bV rfl (bW)) rfl
-- D2C
theorem M0:bU Tryz.prog 206 [] (cl (.ag (oL.map ct))):=by
 refine enter Tryz.func206 rfl Tryz.ntmps206 aw (Nat.le_of_ble_eq_true rfl) fun w0 X0 hI=>?_
 refine bG <| bI <| bJ rfl (cI 0 rfl nq rfl rfl ?_)
 refine bH <| bF <| bG <| bI <| s1 ((uL (vs:= [_,_,_,_,_,_,_,_,_,_,_,_,_,_,_,_,_,_,_,_,_,_,_,_,_,_,_,_,_,_,_,_,_,_,_,_,_,_,_,_,_,_,_,_,_,_,_,_,_,_,_,_,_,_,_,_,_,_,_,_,_,_,_,_]) nq rfl Tryz.underlying216 cW rfl rfl rfl rfl).v (v':= .ag (oL.map ct)) aw) rfl <| bJ rfl (cD nq rfl rfl rfl au au ?_)
 refine bH <| bF <| bY ?_
 refine bZ (rs:= [.cell 0 216]) rfl (da nq rfl rfl (List.take_of_length_le (by simp [tS])) (by simp [tS]) bW) rfl
theorem Jf (s:S8) (b:List UInt8) (hb:b.length=64):bU Tryz.prog 174 [.ag (s.l.map ct),.fz 64 (b.map u8)] (cl (.ag ((comp s b).l.map ct))):=by
 refine enter Tryz.func174 rfl Tryz.ntmps174 aw (Nat.le_of_ble_eq_true rfl) fun w0 X0 hI=>?_
 refine aa [713] ?_
 refine bJ rfl (cI 4 rfl oc rfl rfl ?_)
 refine bH <| bF <| bG <| bI <| s1 ((oq nq rfl Tryz.underlying216 cW rfl).v (v':= .ag ((words b 0).map ct++List.replicate (64 - 0) (ct 0))) aw) rfl <| bJ rfl (cI 5 rfl nq rfl rfl ?_)
 refine bJ rfl (cD nq rfl rfl rfl aA aA ?_)
 refine aa [720] ?_
 refine c5 (ι:=Nat) (fun i=> [(1,.fz 64 (b.map u8)),(2,.p 2 0),(4,.p 4 0),(5,.p 5 0),(6,.i .i64 (i:Nat))]) (fun i=>⟨[(2,some (s.l.map ct)),(4,some (List.replicate 8 (ct 0))),(5,some ((words b i).map ct++List.replicate (64 - i) (ct 0)))]⟩) (fun i=>i≤16) (fun i=>16 - i) ?_ ?_
 ·exact c4 (0) (Nat.zero_le _) [(2,some 2),(4,some 4),(5,some 5)] hI rfl rfl ⟨⟨_,rfl,.pure pu⟩,⟨_,rfl,.p rfl⟩,⟨_,rfl,.p rfl⟩,⟨_,rfl,.p rfl⟩,⟨_,rfl,.pure pu⟩,trivial⟩ ⟨.inr ⟨_,_,rfl,rfl,.pure bO⟩,.inr ⟨_,_,rfl,rfl,.pure bO⟩,.inr ⟨_,_,rfl,rfl,.pure bO⟩,trivial⟩
 rintro i hi
 refine aa [695] ?_
 refine cm rfl (fun hc24=>?_) (fun hc24=>?_)
 ·have hi16 : i < 16 := by have := of_decide_eq_true hc24; omega
  refine aa [655,758,101,0,101] ?_
  refine s1 (cE _ 4 rfl rfl rfl rfl aq) rfl <| s1 (jf 4 Tryz.underlying68 cr rfl (by simp [hb]) (bs rfl rfl) (bs rfl rfl) aq aq aq rfl) rfl <| bJ rfl (b7 false rfl (.cons (.pure pu) (.nil)) (QD b (4*i) aq) pu (.inl rfl) rfl ?_)
  refine s1 (dC i Tryz.underlying216 cW rfl rfl rfl aq rfl) rfl <| bJ rfl (dI cW rfl rfl rfl rfl au (PB b i aq) ?_)
  refine aa [737] ?_
  exact cO (i+1) aq aq [(2,some 2),(4,some 4),(5,some 5)] hI rfl rfl ⟨⟨_,rfl,.pure pu⟩,⟨_,rfl,.p rfl⟩,⟨_,rfl,.p rfl⟩,⟨_,rfl,.p rfl⟩,⟨_,rfl,.pure pu⟩,trivial⟩ ⟨.inr ⟨_,_,rfl,rfl,.pure bO⟩,.inr ⟨_,_,rfl,rfl,.pure bO⟩,.inr ⟨_,_,rfl,rfl,.pure bO⟩,trivial⟩
 ·have hi16 : i = 16 := by have := of_decide_eq_false hc24; omega
  subst hi16
  refine aa [684,645] ?_
  refine s1 ((bE rfl).v (v':= .i .i64 16) rfl) rfl <| bH <| bF <| cd ?_
  refine c5 (ι:=Nat) (fun k=> [(2,.p 2 0),(4,.p 4 0),(5,.p 5 0),(7,.i .i64 ((16+k:Nat):Int))]) (fun k=>⟨[(2,some (s.l.map ct)),(4,some (List.replicate 8 (ct 0))),(5,some ((sched b k).map ct++List.replicate (48 - k) (ct 0)))]⟩) (fun k=>k≤48) (fun k=>48 - k) ?_ ?_
  ·skip
   refine dP 5 rfl (cs':=(sched b 0).map ct++List.replicate (48 - 0) (ct 0)) (by rw [A1]) ?_
   exact c4 (0) (Nat.zero_le _) [(2,some 2),(4,some 4),(5,some 5)] hI rfl rfl ⟨⟨_,rfl,.p rfl⟩,⟨_,rfl,.p rfl⟩,⟨_,rfl,.p rfl⟩,⟨_,rfl,.pure pu⟩,trivial⟩ ⟨.inr ⟨_,_,rfl,rfl,.pure bO⟩,.inr ⟨_,_,rfl,rfl,.pure bO⟩,.inr ⟨_,_,rfl,rfl,.pure bO⟩,trivial⟩
  rintro k hk
  refine aa [695] ?_
  refine cm rfl (fun hc38=>?_) (fun hc38=>?_)
  ·have hk48 : k < 48 := by have := of_decide_eq_true hc38; omega
   refine aa [655,648] ?_
   refine s1 (eW (16+k) 15 rfl rfl rfl rfl aq aq) rfl <| s1 (dC (16+k - 15) Tryz.underlying216 cW rfl rfl rfl aq rfl) rfl <| s1 (bM cW rfl rfl (mi (16+k - 15) au rfl)) rfl ?_
   refine aa [664] ?_
   refine s1 (eW (16+k) 2 rfl rfl rfl rfl aq aq) rfl <| s1 (dC (16+k - 2) Tryz.underlying216 cW rfl rfl rfl aq rfl) rfl <| s1 (bM cW rfl rfl (mi (16+k - 2) au rfl)) rfl <| s1 (bE rfl) rfl <| bH <| bF <| dh ⟨_, [], []⟩ 29 4 cL (le_refl rfl) ?_
   refine aa [738] ?_
   refine bK 2 [1] [] (eW (16+k) 16 rfl rfl rfl rfl aq aq) rfl rfl <| bK 3 [2] [(5,none)] (dC (16+k - 16) Tryz.underlying216 cW rfl rfl rfl aq rfl) rfl rfl <| bK 4 [3] [(5,none)] (bM cW rfl rfl (mi (16+k - 16) au rfl)) rfl rfl ?_
   refine aa [46] ?_
   refine c7 false 6 [5] [] cz rfl (.cons (.pure pu) (.cons (.pure pu) (.nil))) (m9 _ 7 az) pu (.inl rfl) rfl rfl ?_
   refine aa [134] ?_
   refine c7 false 8 [7] [] cz rfl (.cons (.pure pu) (.cons (.pure pu) (.nil))) (m9 _ 18 az) pu (.inl rfl) rfl rfl <| bK 9 [6,8] [] (iD _ _ rfl rfl) rfl rfl <| bK 10 [] [] (bE rfl) rfl rfl <| bK 11 [10] [] (iT _ 3 rfl rfl rfl az) rfl rfl <| bK 12 [9,11] [] (iD _ _ rfl rfl) rfl rfl <| bK 13 [4,12] [] (fY _ _ rfl rfl) rfl rfl <| bK 14 [] [] (bE rfl) rfl rfl <| bK 15 [14] [] (eW (16+k) 7 rfl rfl rfl rfl aq aq) rfl rfl <| bK 16 [15] [(5,none)] (dC (16+k - 7) Tryz.underlying216 cW rfl rfl rfl aq rfl) rfl rfl <| bK 17 [16] [(5,none)] (bM cW rfl rfl (mi (16+k - 7) au rfl)) rfl rfl <| bK 18 [13,17] [] (fY _ _ rfl rfl) rfl rfl <| bK 19 [] [] (bE rfl) rfl rfl <| c7 false 20 [19] [] cz rfl (.cons (.pure pu) (.cons (.pure pu) (.nil))) (m9 _ 17 az) pu (.inl rfl) rfl rfl <| bK 21 [] [] (bE rfl) rfl rfl <| c7 false 22 [21] [] cz rfl (.cons (.pure pu) (.cons (.pure pu) (.nil))) (m9 _ 19 az) pu (.inl rfl) rfl rfl <| bK 23 [20,22] [] (iD _ _ rfl rfl) rfl rfl <| bK 24 [] [] (bE rfl) rfl rfl <| bK 25 [24] [] (iT _ 10 rfl rfl rfl az) rfl rfl <| bK 26 [23,25] [] (iD _ _ rfl rfl) rfl rfl <| bK 27 [18,26] [] (fY _ _ rfl rfl) rfl rfl <| bK 28 [0] [(5,none)] (dC (16+k) Tryz.underlying216 cW rfl rfl rfl aq rfl) rfl rfl ?_
   refine aa [2,343,737] ?_
   exact cO (k+1) aq aq [(2,some 2),(4,some 4),(5,some 5)] hI rfl rfl ⟨⟨_,rfl,.p rfl⟩,⟨_,rfl,.p rfl⟩,⟨_,rfl,.p rfl⟩,⟨_,rfl,.pure pu⟩,trivial⟩ ⟨.inr ⟨_,_,rfl,rfl,.pure bO⟩,.inr ⟨_,_,rfl,rfl,.pure bO⟩,.inr ⟨_,_,rfl,rfl,.pure bO⟩,trivial⟩
  ·have hk48 : k = 48 := by have := of_decide_eq_false hc38; omega
   subst hk48
   refine aa [683] ?_
   refine bJ rfl (b7 false rfl (.nil) (M0) pu (.inl rfl) rfl ?_)
   refine bJ rfl (cI 10 rfl nq rfl rfl ?_)
   refine bJ rfl (cD nq rfl rfl rfl (by simp [tS]) aA ?_)
   refine bH <| bF <| bG <| eN 23 cL aw <| t1 (dC 0 Tryz.underlying184 cW rfl rfl rfl aq rfl) rfl ?_
   refine aa [23] ?_
   refine t1 (dC 1 Tryz.underlying184 cW rfl rfl rfl aq rfl) rfl ?_
   refine aa [23] ?_
   refine t1 (dC 2 Tryz.underlying184 cW rfl rfl rfl aq rfl) rfl ?_
   refine aa [23] ?_
   refine t1 (dC 3 Tryz.underlying184 cW rfl rfl rfl aq rfl) rfl ?_
   refine aa [23] ?_
   refine t1 (dC 4 Tryz.underlying184 cW rfl rfl rfl aq rfl) rfl ?_
   refine aa [23] ?_
   refine t1 (dC 5 Tryz.underlying184 cW rfl rfl rfl aq rfl) rfl ?_
   refine aa [23] ?_
   refine t1 (dC 6 Tryz.underlying184 cW rfl rfl rfl aq rfl) rfl ?_
   refine aa [23] ?_
   refine t1 (dC 7 Tryz.underlying184 cW rfl rfl rfl aq rfl) rfl ?_
   refine aa [23,666,666,666,6,11,690] ?_
   refine c5 (ι:=Nat) (fun t=> [(2,.p 2 0),(4,.p 4 0),(5,.p 5 0),(10,.p 10 0),(19,.i .i64 (t:Nat)),(11,ct (rounds (sched b 48) s t).a),(12,ct (rounds (sched b 48) s t).b),(13,ct (rounds (sched b 48) s t).c),(14,ct (rounds (sched b 48) s t).d),(15,ct (rounds (sched b 48) s t).e),(16,ct (rounds (sched b 48) s t).f),(17,ct (rounds (sched b 48) s t).g),(18,ct (rounds (sched b 48) s t).h)]) (fun t=>⟨[(2,some (s.l.map ct)),(4,some (List.replicate 8 (ct 0))),(5,some ((sched b 48).map ct++List.replicate (48 - 48) (ct 0))),(10,some (oL.map ct))]⟩) (fun t=>t≤64) (fun t=>64 - t) ?_ ?_
   ·exact c4 (0) (Nat.zero_le _) [(2,some 2),(4,some 4),(5,some 5),(10,some 10)] hI rfl rfl ⟨⟨_,rfl,.p rfl⟩,⟨_,rfl,.p rfl⟩,⟨_,rfl,.p rfl⟩,⟨_,rfl,.p rfl⟩,⟨_,rfl,.pure pu⟩,⟨_,rfl,.pure pu⟩,⟨_,rfl,.pure pu⟩,⟨_,rfl,.pure pu⟩,⟨_,rfl,.pure pu⟩,⟨_,rfl,.pure pu⟩,⟨_,rfl,.pure pu⟩,⟨_,rfl,.pure pu⟩,⟨_,rfl,.pure pu⟩,trivial⟩ ⟨.inr ⟨_,_,rfl,rfl,.pure bO⟩,.inr ⟨_,_,rfl,rfl,.pure bO⟩,.inr ⟨_,_,rfl,rfl,.pure bO⟩,.inr ⟨_,_,rfl,rfl,.pure bO⟩,trivial⟩
   rintro t ht
   refine aa [695] ?_
   refine cm rfl (fun hc96=>?_) (fun hc96=>?_)
   ·have ht64 : t < 64 := by have := of_decide_eq_true hc96; omega
    refine b9 <| bF <| bG <| cd <| bG <| dh ⟨_, [], []⟩ 27 4 cL (le_refl rfl) ?_
    refine aa [738] ?_
    refine c7 false 2 [1] [] cz rfl (.cons (.pure pu) (.cons (.pure pu) (.nil))) (m9 _ 6 az) pu (.inl rfl) rfl rfl ?_
    refine aa [31] ?_
    refine c7 false 4 [3] [] cz rfl (.cons (.pure pu) (.cons (.pure pu) (.nil))) (m9 _ 11 az) pu (.inl rfl) rfl rfl <| bK 5 [2,4] [] (iD _ _ rfl rfl) rfl rfl ?_
    refine aa [56] ?_
    refine c7 false 7 [6] [] cz rfl (.cons (.pure pu) (.cons (.pure pu) (.nil))) (m9 _ 25 az) pu (.inl rfl) rfl rfl <| bK 8 [5,7] [] (iD _ _ rfl rfl) rfl rfl <| bK 9 [0,8] [] (fY _ _ rfl rfl) rfl rfl <| bK 10 [] [] (bE rfl) rfl rfl <| bK 11 [] [] (bE rfl) rfl rfl <| bK 12 [10,11] [] (mJ _ _ rfl rfl) rfl rfl <| bK 13 [] [] (bE rfl) rfl rfl <| bK 14 [13] [] (FI _ rfl) rfl rfl <| bK 15 [] [] (bE rfl) rfl rfl <| bK 16 [14,15] [] (mJ _ _ rfl rfl) rfl rfl <| bK 17 [12,16] [] (iD _ _ rfl rfl) rfl rfl <| bK 18 [9,17] [] (fY _ _ rfl rfl) rfl rfl <| bK 19 [] [] (bE rfl) rfl rfl <| bK 20 [19] [(10,none)] (dC t Tryz.underlying216 cW rfl rfl rfl aq rfl) rfl rfl <| bK 21 [20] [(10,none)] (bM cW rfl rfl (rI t (by first|(simp [tS];done)|(simp [tS];omega)) rfl)) rfl rfl <| bK 22 [18,21] [] (fY _ _ rfl rfl) rfl rfl <| bK 23 [] [] (bE rfl) rfl rfl <| bK 24 [23] [(5,none)] (dC t Tryz.underlying216 cW rfl rfl rfl aq rfl) rfl rfl <| bK 25 [24] [(5,none)] (bM cW rfl rfl (mi t au rfl)) rfl rfl <| bK 26 [22,25] [] (fY _ _ rfl rfl) rfl rfl ?_
    refine aa [2,664] ?_
    refine bJ rfl (b7 false rfl (.cons (.pure pu) (.cons (.pure pu) (.nil))) (m9 _ 2 az) pu (.inl rfl) rfl ?_)
    refine s1 (bE rfl) rfl <| bJ rfl (b7 false rfl (.cons (.pure pu) (.cons (.pure pu) (.nil))) (m9 _ 13 az) pu (.inl rfl) rfl ?_)
    refine aa [27,0] ?_
    refine bJ rfl (b7 false rfl (.cons (.pure pu) (.cons (.pure pu) (.nil))) (m9 _ 22 az) pu (.inl rfl) rfl ?_)
    refine aa [27,647,103,647,103,27,647,103,27,173,646,1,663,816,663,816,663,663,737] ?_
    exact cO (t+1) aq aq [(2,some 2),(4,some 4),(5,some 5),(10,some 10)] hI rfl rfl ⟨⟨_,rfl,.p rfl⟩,⟨_,rfl,.p rfl⟩,⟨_,rfl,.p rfl⟩,⟨_,rfl,.p rfl⟩,⟨_,rfl,.pure pu⟩,⟨_,rfl,.pure pu⟩,⟨_,rfl,.pure pu⟩,⟨_,rfl,.pure pu⟩,⟨_,rfl,.pure pu⟩,⟨_,rfl,.pure pu⟩,⟨_,rfl,.pure pu⟩,⟨_,rfl,.pure pu⟩,⟨_,rfl,.pure pu⟩,trivial⟩ ⟨.inr ⟨_,_,rfl,rfl,.pure bO⟩,.inr ⟨_,_,rfl,rfl,.pure bO⟩,.inr ⟨_,_,rfl,rfl,.pure bO⟩,.inr ⟨_,_,rfl,rfl,.pure bO⟩,trivial⟩
   ·have ht64 : t = 64 := by have := of_decide_eq_false hc96; omega
    subst ht64
    refine aa [683] ?_
    refine s1 (dC 0 Tryz.underlying184 cW rfl rfl rfl aq rfl) rfl ?_
    refine aa [759] ?_
    refine s1 (dC 1 Tryz.underlying184 cW rfl rfl rfl aq rfl) rfl ?_
    refine aa [759] ?_
    refine s1 (dC 2 Tryz.underlying184 cW rfl rfl rfl aq rfl) rfl ?_
    refine aa [759] ?_
    refine s1 (dC 3 Tryz.underlying184 cW rfl rfl rfl aq rfl) rfl ?_
    refine aa [759] ?_
    refine s1 (dC 4 Tryz.underlying184 cW rfl rfl rfl aq rfl) rfl ?_
    refine aa [759] ?_
    refine s1 (dC 5 Tryz.underlying184 cW rfl rfl rfl aq rfl) rfl ?_
    refine aa [759] ?_
    refine s1 (dC 6 Tryz.underlying184 cW rfl rfl rfl aq rfl) rfl ?_
    refine aa [759] ?_
    refine s1 (dC 7 Tryz.underlying184 cW rfl rfl rfl aq rfl) rfl ?_
    refine aa [759] ?_
    refine s1 (uL (vs:= [_,_,_,_,_,_,_,_]) oc rfl Tryz.underlying184 cW rfl rfl rfl rfl) rfl <| bJ rfl (cD oc rfl rfl rfl aA aA ?_)
    refine bH <| bF <| bY ?_
    refine bZ (rs:= [.cell 4 184]) rfl (da oc rfl rfl rfl aA bW) rfl
-- D2E
theorem u6 (s:S8) (b:List UInt8) (hb:b.length=64):eQ Tryz.prog 148 [.p 3 0,.fz 64 (b.map u8)] ⟨[(3,some (s.l.map ct))]⟩ (j7 (.tu []) [(3,(comp s b).l.map ct)]):=by
 refine tF Tryz.func148 rfl Tryz.ntmps148 aw (Nat.le_of_ble_eq_true rfl) fun w0 X0 hI=>?_
 refine bG <| bI <| bJ rfl (cI 4 rfl nq rfl rfl ?_)
 refine aa [720] ?_
 refine c5 (ι:=Nat) (fun i=> [(0,.p 3 0),(1,.fz 64 (b.map u8)),(4,.p 4 0),(23,.i .i64 (i:Nat))]) (fun i=>⟨[(3,some (s.l.map ct)),(4,some ((words b i).map ct++List.replicate (64 - i) (ct 0)))]⟩) (fun i=>i≤16) (fun i=>16 - i) ?_ ?_
 ·exact c4 (0) (Nat.zero_le _) [(3,some 3),(4,some 4)] hI rfl rfl ⟨⟨_,rfl,.p rfl⟩,⟨_,rfl,.pure pu⟩,⟨_,rfl,.p rfl⟩,⟨_,rfl,.pure pu⟩,trivial⟩ ⟨.inr ⟨_,_,rfl,rfl,.pure bO⟩,.inr ⟨_,_,rfl,rfl,.of aX (.pure bO)⟩,trivial⟩
 rintro i hi
 refine aa [651] ?_
 refine cm rfl (fun hc24=>?_) (fun hc24=>?_)
 ·have hi16 : i < 16 := by have := of_decide_eq_true hc24; omega
  refine aa [721,697] ?_
  refine c5 (ι:=Nat) (fun j=> [(0,.p 3 0),(1,.fz 64 (b.map u8)),(4,.p 4 0),(5,.i .i64 (i:Nat)),(23,.i .i64 (i:Nat)),(26,.i .i64 (j:Nat))]) (fun j=>⟨[(3,some (s.l.map ct)),(4,some ((words b i).map ct++ [ct (ld b (4*i) j)]++List.replicate (63 - i) (ct 0)))]⟩) (fun j=>j≤4) (fun j=>4 - j) ?_ ?_
  ·skip
   refine dP 4 rfl (Nv b i aq) ?_
   exact c4 (0) (Nat.zero_le _) [(3,some 3),(4,some 4)] hI rfl rfl ⟨⟨_,rfl,.p rfl⟩,⟨_,rfl,.pure pu⟩,⟨_,rfl,.p rfl⟩,⟨_,rfl,.pure pu⟩,⟨_,rfl,.pure pu⟩,⟨_,rfl,.pure pu⟩,trivial⟩ ⟨.inr ⟨_,_,rfl,rfl,.pure bO⟩,.inr ⟨_,_,rfl,rfl,.pure bO⟩,trivial⟩
  rintro j hj
  refine aa [651] ?_
  refine cm rfl (fun hc27=>?_) (fun hc27=>?_)
  ·have hj4 : j < 4 := by have := of_decide_eq_true hc27; omega
   refine aa [721] ?_
   refine eN 15 cL aw ?_
   refine aa [666,344] ?_
   refine t1 (bM cW rfl rfl (Lr b i j)) rfl <| t1 (kA _ 8 rfl rfl rfl az) rfl ?_
   refine aa [666] ?_
   refine t1 (iK 4 i rfl rfl rfl rfl aq) rfl <| t1 (bE rfl) rfl <| t1 (cE (4*i) j rfl rfl rfl rfl aq) rfl <| t1 (cf (4*i+j) Tryz.underlying68 cr rfl rfl rfl aq rfl) rfl <| t1 (bM cr rfl rfl (Eg (4*i+j) aq rfl)) rfl ?_
   refine aa [133] ?_
   refine t1 ((kz _ _ rfl rfl).v (v':=ct (ld b (4*i) (j+1))) rfl) rfl ?_
   refine aa [344,11] ?_
   refine bJ rfl (dI cW rfl rfl rfl rfl (by simp only [List.length_append,List.length_map,List.length_replicate,List.length_cons,List.length_nil,Mo];omega) (Pu b i j) ?_)
   refine aa [685] ?_
   exact cO (j+1) aq aq [(3,some 3),(4,some 4)] hI rfl rfl ⟨⟨_,rfl,.p rfl⟩,⟨_,rfl,.pure pu⟩,⟨_,rfl,.p rfl⟩,⟨_,rfl,.pure pu⟩,⟨_,rfl,.pure pu⟩,⟨_,rfl,.pure pu⟩,trivial⟩ ⟨.inr ⟨_,_,rfl,rfl,.pure bO⟩,.inr ⟨_,_,rfl,rfl,.pure bO⟩,trivial⟩
  ·have hj4 : j = 4 := by have := of_decide_eq_false hc27; omega
   subst hj4
   refine aa [792,776] ?_
   exact cO (i+1) aq aq [(3,some 3),(4,some 4)] hI rfl rfl ⟨⟨_,rfl,.p rfl⟩,⟨_,rfl,.pure pu⟩,⟨_,rfl,.p rfl⟩,⟨_,rfl,.pure pu⟩,trivial⟩ ⟨.inr ⟨_,_,rfl,rfl,.pure bO⟩,.inr ⟨_,_,rfl,rfl,.of (Nw b i aq) (.pure bO)⟩,trivial⟩
 ·have hi16 : i = 16 := by have := of_decide_eq_false hc24; omega
  subst hi16
  refine aa [684,645] ?_
  refine s1 ((bE rfl).v (v':= .i .i64 16) rfl) rfl <| bH <| bF <| cd ?_
  refine c5 (ι:=Nat) (fun k=> [(0,.p 3 0),(1,.fz 64 (b.map u8)),(4,.p 4 0),(7,.i .i64 ((16+k:Nat):Int))]) (fun k=>⟨[(3,some (s.l.map ct)),(4,some ((sched b k).map ct++List.replicate (48 - k) (ct 0)))]⟩) (fun k=>k≤48) (fun k=>48 - k) ?_ ?_
  ·skip
   refine dP 4 rfl (cs':=(sched b 0).map ct++List.replicate (48 - 0) (ct 0)) (by rw [A1]) ?_
   exact c4 (0) (Nat.zero_le _) [(3,some 3),(4,some 4)] hI rfl rfl ⟨⟨_,rfl,.p rfl⟩,⟨_,rfl,.pure pu⟩,⟨_,rfl,.p rfl⟩,⟨_,rfl,.pure pu⟩,trivial⟩ ⟨.inr ⟨_,_,rfl,rfl,.pure bO⟩,.inr ⟨_,_,rfl,rfl,.pure bO⟩,trivial⟩
  rintro k hk
  refine aa [695] ?_
  refine cm rfl (fun hc47=>?_) (fun hc47=>?_)
  ·have hk48 : k < 48 := by have := of_decide_eq_true hc47; omega
   refine b9 <| bF <| bG <| cd <| bG <| eN 9 cL aw <| t1 (bE rfl) rfl <| t1 (eW (16+k) 15 rfl rfl rfl rfl aq aq) rfl <| t1 (dC (16+k - 15) Tryz.underlying216 cW rfl rfl rfl aq rfl) rfl <| t1 (bM cW rfl rfl (mi (16+k - 15) au rfl)) rfl <| t1 (bE rfl) rfl <| t1 (eW (16+k) 2 rfl rfl rfl rfl aq aq) rfl <| t1 (dC (16+k - 2) Tryz.underlying216 cW rfl rfl rfl aq rfl) rfl <| t1 (bM cW rfl rfl (mi (16+k - 2) au rfl)) rfl ?_
   refine aa [6,11,664] ?_
   refine bJ rfl (b7 false rfl (.cons (.pure pu) (.cons (.pure pu) (.nil))) (OP _) pu (.inl rfl) rfl ?_)
   refine s1 (bE rfl) rfl <| bJ rfl (b7 false rfl (.cons (.pure pu) (.cons (.pure pu) (.nil))) (OJ _) pu (.inl rfl) rfl ?_)
   refine aa [27,0] ?_
   refine s1 (iT _ 3 rfl rfl rfl az) rfl ?_
   refine aa [27,664] ?_
   refine bJ rfl (b7 false rfl (.cons (.pure pu) (.cons (.pure pu) (.nil))) (OI _) pu (.inl rfl) rfl ?_)
   refine s1 (bE rfl) rfl <| bJ rfl (b7 false rfl (.cons (.pure pu) (.cons (.pure pu) (.nil))) (OK _) pu (.inl rfl) rfl ?_)
   refine aa [27,0] ?_
   refine s1 (iT _ 10 rfl rfl rfl az) rfl ?_
   refine aa [27,646] ?_
   refine eN 15 cL aw ?_
   refine aa [666] ?_
   refine t1 (eW (16+k) 16 rfl rfl rfl rfl aq aq) rfl <| t1 (dC (16+k - 16) Tryz.underlying216 cW rfl rfl rfl aq rfl) rfl <| t1 (bM cW rfl rfl (mi (16+k - 16) au rfl)) rfl ?_
   refine aa [6,89,6] ?_
   refine t1 (eW (16+k) 7 rfl rfl rfl rfl aq aq) rfl <| t1 (dC (16+k - 7) Tryz.underlying216 cW rfl rfl rfl aq rfl) rfl <| t1 (bM cW rfl rfl (mi (16+k - 7) au rfl)) rfl ?_
   refine aa [89,6,89] ?_
   refine t1 (dC (16+k) Tryz.underlying216 cW rfl rfl rfl aq rfl) rfl ?_
   refine aa [11,343,737] ?_
   exact cO (k+1) aq aq [(3,some 3),(4,some 4)] hI rfl rfl ⟨⟨_,rfl,.p rfl⟩,⟨_,rfl,.pure pu⟩,⟨_,rfl,.p rfl⟩,⟨_,rfl,.pure pu⟩,trivial⟩ ⟨.inr ⟨_,_,rfl,rfl,.pure bO⟩,.inr ⟨_,_,rfl,rfl,.pure bO⟩,trivial⟩
  ·have hk48 : k = 48 := by have := of_decide_eq_false hc47; omega
   subst hk48
   refine aa [722] ?_
   refine s1 (uM rfl rfl) rfl <| s1 (cu pg rfl rfl au) rfl <| bJ rfl (cI 12 rfl pg rfl rfl ?_)
   refine aa [345,720] ?_
   refine c5 (ι:=Nat) (fun t=> [(0,.p 3 0),(4,.p 4 0),(12,.p 12 0),(92,.i .i64 (t:Nat))]) (fun t=>⟨[(3,some (s.l.map ct)),(4,some ((sched b 48).map ct)),(12,some ((rounds (sched b 48) s t).l.map ct))]⟩) (fun t=>t≤64) (fun t=>64 - t) ?_ ?_
   ·skip
    refine dP 4 rfl (cs':=(sched b 48).map ct) aA ?_
    exact c4 (0) (Nat.zero_le _) [(3,some 3),(4,some 4),(12,some 12)] hI rfl rfl ⟨⟨_,rfl,.p rfl⟩,⟨_,rfl,.p rfl⟩,⟨_,rfl,.p rfl⟩,⟨_,rfl,.pure pu⟩,trivial⟩ ⟨.inr ⟨_,_,rfl,rfl,.pure bO⟩,.inr ⟨_,_,rfl,rfl,.pure bO⟩,.inr ⟨_,_,rfl,rfl,.pure bO⟩,trivial⟩
   rintro t ht
   refine aa [651] ?_
   refine cm rfl (fun hc93=>?_) (fun hc93=>?_)
   ·have ht64 : t < 64 := by have := of_decide_eq_true hc93; omega
    refine aa [655,648,652,271] ?_
    refine t1 (dC 0 Tryz.underlying185 cW rfl rfl rfl aq rfl) rfl ?_
    refine aa [23] ?_
    refine t1 (dC 1 Tryz.underlying185 cW rfl rfl rfl aq rfl) rfl ?_
    refine aa [23] ?_
    refine t1 (dC 2 Tryz.underlying185 cW rfl rfl rfl aq rfl) rfl ?_
    refine aa [23] ?_
    refine t1 (dC 4 Tryz.underlying185 cW rfl rfl rfl aq rfl) rfl ?_
    refine aa [23,666,6,11,664] ?_
    refine bJ rfl (b7 false rfl (.cons (.pure pu) (.cons (.pure pu) (.nil))) (OO _) pu (.inl rfl) rfl ?_)
    refine s1 (bE rfl) rfl <| bJ rfl (b7 false rfl (.cons (.pure pu) (.cons (.pure pu) (.nil))) (OG _) pu (.inl rfl) rfl ?_)
    refine aa [27,0] ?_
    refine bJ rfl (b7 false rfl (.cons (.pure pu) (.cons (.pure pu) (.nil))) (ON _) pu (.inl rfl) rfl ?_)
    refine aa [27,652] ?_
    refine eN 23 cL aw <| t1 (dC 7 Tryz.underlying185 cW rfl rfl rfl aq rfl) rfl ?_
    refine aa [23,6,89,6] ?_
    refine t1 (dC 5 Tryz.underlying185 cW rfl rfl rfl aq rfl) rfl ?_
    refine aa [23] ?_
    refine t1 (mJ _ _ rfl rfl) rfl <| t1 (bE rfl) rfl <| t1 (FI _ rfl) rfl <| t1 (dC 6 Tryz.underlying185 cW rfl rfl rfl aq rfl) rfl ?_
    refine aa [23] ?_
    refine t1 (mJ _ _ rfl rfl) rfl <| t1 (iD _ _ rfl rfl) rfl ?_
    refine aa [89,6] ?_
    refine t1 (QS t Tryz.underlying216 cW rfl rfl rfl aq rfl) rfl <| t1 (bM cW rfl rfl (Li t ht64)) rfl ?_
    refine aa [89,6] ?_
    refine t1 (dC t Tryz.underlying216 cW rfl rfl rfl aq rfl) rfl <| t1 (bM cW rfl rfl (rI t au rfl)) rfl ?_
    refine aa [89,11,664] ?_
    refine bJ rfl (b7 false rfl (.cons (.pure pu) (.cons (.pure pu) (.nil))) (OL _) pu (.inl rfl) rfl ?_)
    refine s1 (bE rfl) rfl <| bJ rfl (b7 false rfl (.cons (.pure pu) (.cons (.pure pu) (.nil))) (OH _) pu (.inl rfl) rfl ?_)
    refine aa [27,0] ?_
    refine bJ rfl (b7 false rfl (.cons (.pure pu) (.cons (.pure pu) (.nil))) (OM _) pu (.inl rfl) rfl ?_)
    refine aa [27,660,0,103,647,103,27,647,103,27,173,646,658,173,671] ?_
    refine s1 (dC 3 Tryz.underlying185 cW rfl rfl rfl aq rfl) rfl ?_
    refine aa [759,0] ?_
    refine s1 (dC 5 Tryz.underlying185 cW rfl rfl rfl aq rfl) rfl ?_
    refine aa [270] ?_
    refine s1 (dC 6 Tryz.underlying185 cW rfl rfl rfl aq rfl) rfl ?_
    refine aa [270] ?_
    refine s1 (uL (vs:= [_,_,_,_,_,_,_,_]) pg rfl Tryz.underlying185 cW rfl rfl rfl rfl) rfl ?_
    refine aa [345,685] ?_
    exact cO (t+1) aq aq [(3,some 3),(4,some 4),(12,some 12)] hI rfl rfl ⟨⟨_,rfl,.p rfl⟩,⟨_,rfl,.p rfl⟩,⟨_,rfl,.p rfl⟩,⟨_,rfl,.pure pu⟩,trivial⟩ ⟨.inr ⟨_,_,rfl,rfl,.pure bO⟩,.inr ⟨_,_,rfl,rfl,.pure bO⟩,.inr ⟨_,_,rfl,rfl,.pure bO⟩,trivial⟩
   ·have ht64 : t = 64 := by have := of_decide_eq_false hc93; omega
    subst ht64
    refine aa [687,697] ?_
    refine c5 (ι:=Nat) (fun i=> [(0,.p 3 0),(12,.p 12 0),(172,.i .i64 (i:Nat))]) (fun i=>⟨[(3,some ((qx s (rounds (sched b 48) s 64) i).map ct)),(12,some ((rounds (sched b 48) s 64).l.map ct))]⟩) (fun i=>i≤8) (fun i=>8 - i) ?_ ?_
    ·exact c4 (0) (Nat.zero_le _) [(3,some 3),(12,some 12)] hI rfl rfl ⟨⟨_,rfl,.p rfl⟩,⟨_,rfl,.p rfl⟩,⟨_,rfl,.pure pu⟩,trivial⟩ ⟨.inr ⟨_,_,rfl,rfl,.pure bO⟩,.inr ⟨_,_,rfl,rfl,.pure bO⟩,trivial⟩
    rintro i hi
    refine aa [651] ?_
    refine cm rfl (fun hc173=>?_) (fun hc173=>?_)
    ·have hi8 : i < 8 := by have := of_decide_eq_true hc173; omega
     refine aa [721,271,666] ?_
     refine t1 (uM rfl rfl) rfl ?_
     refine aa [272] ?_
     refine t1 (bM cW rfl rfl (rI i (by rw [E9];omega) rfl)) rfl ?_
     refine aa [6,272] ?_
     refine t1 (bM cW rfl rfl (rI i (by rw [Mf];omega) rfl)) rfl <| t1 (fY _ _ rfl rfl) rfl <| t1 (uM rfl rfl) rfl ?_
     refine aa [272,11] ?_
     refine bJ rfl (dI cW rfl rfl rfl rfl (by rw [List.length_map,E9];omega) (Pz s _ i aq) ?_)
     refine aa [685] ?_
     exact cO (i+1) aq aq [(3,some 3),(12,some 12)] hI rfl rfl ⟨⟨_,rfl,.p rfl⟩,⟨_,rfl,.p rfl⟩,⟨_,rfl,.pure pu⟩,trivial⟩ ⟨.inr ⟨_,_,rfl,rfl,.pure bO⟩,.inr ⟨_,_,rfl,rfl,.pure bO⟩,trivial⟩
    ·have hi8 : i = 8 := by have := of_decide_eq_false hc173; omega
     subst hi8
     refine cY <| cq <| cq <| cZ ?_
     refine nE (rs:= []) rfl bW (qm (congrArg (fun l=>some (List.map ct l)) (P4 _ _)))
-- D2D
theorem Nu (b:List UInt8) (hb:b.length≤140737488300000):bU Tryz.prog 173 [.fz b.length (b.map u8)] (cl (.fz (pad b).length ((pad b).map u8))):=by
 refine enter Tryz.func173 rfl Tryz.ntmps173 aw (Nat.le_of_ble_eq_true rfl) fun w0 X0 hI=>?_
 refine aa [645,662,346,0] ?_
 refine bJ rfl (dR 8 rfl Tryz.underlying68 cr rfl (.sl rfl au) rfl rfl au av av rfl rfl rfl ?_)
 refine aa [273] ?_
 refine bJ rfl (dR 10 rfl Tryz.underlying68 cr rfl (.sl rfl au) rfl (dH rfl au) au av av rfl rfl rfl ?_)
 refine aa [652,9] ?_
 refine c5 (ι:=Nat) (fun i=> [(0,.fz b.length (b.map u8)),(3,.sl 3 1 0 (b.length+1+i))]) (fun i=>⟨[(3,some ((b++ [128]++List.replicate i 0).map u8))]⟩) (fun i=>i≤j6 b.length) (fun i=>j6 b.length - i) ?_ ?_
 ·exact c4 (0) (Nat.zero_le _) [(3,some 10)] hI rfl rfl ⟨⟨_,rfl,.pure pu⟩,⟨_,rfl,.sl rfl au⟩,trivial⟩ ⟨.inr ⟨_,_,rfl,rfl,.of aA (.pure bO)⟩,trivial⟩
 rintro i hi
 refine aa [699] ?_
 refine s1 (cJ Tryz.underlying68 rfl (dH rfl aE) rfl) rfl <| s1 (iS (b.length+1+i) 64 rfl rfl rfl rfl az) rfl ?_
 refine aa [646] ?_
 refine cm rfl (fun hc14=>?_) (fun hc14=>?_)
 ·have hz := uN b.length
  have hi2:i<j6 b.length:=by
   have:=bne_iff_ne.1 hc14
   rcases Nat.lt_or_ge i (j6 b.length)with h|h
   ·exact h
   ·exfalso; have : i = j6 b.length := by omega
    subst this;omega
  refine aa [681,9,649] ?_
  refine bJ rfl (eF 16 rfl Tryz.underlying68 cr rfl rfl rfl rfl rfl ?_)
  refine bJ rfl (dR 17 rfl Tryz.underlying68 cr rfl (.sl rfl au) rfl (dH rfl au) au av av rfl rfl rfl ?_)
  refine aa [682,54] ?_
  exact cO (i+1) aq aq [(3,some 17)] hI rfl rfl ⟨⟨_,rfl,.pure pu⟩,⟨_,rfl,.sl rfl au⟩,trivial⟩ ⟨.inr ⟨_,_,rfl,rfl,.of (by simp [List.replicate_succ', ←List.append_assoc]) (.pure bO)⟩,trivial⟩
 ·have hz := uN b.length
  have hi2:i=j6 b.length:=by
   have:=bne_eq_false_iff_eq.1 hc14
   omega
  subst hi2
  refine aa [722,104,347] ?_
  refine s1 ((tZ _ (cQ 8) rfl rfl).v (v':=cN (cQ (8*b.length))) (congrArg cN (by rw [←BitVec.ofNat_mul,Nat.mul_comm]))) rfl ?_
  refine aa [652,645] ?_
  refine s1 ((bE rfl).v (v':= .i .i64 7) rfl) rfl <| bH <| bF <| cd ?_
  refine c5 (ι:=Nat) (fun k=> [(3,.sl 3 1 0 (b.length+1+j6 b.length+k)),(4,cN (cQ (8*b.length))),(5,.i .i64 (7 - (k:Int)))]) (fun k=>⟨[(3,some ((b++ [128]++List.replicate (j6 b.length) 0++(gS (8*b.length)).take k).map u8))]⟩) (fun k=>k≤8) (fun k=>8 - k) ?_ ?_
  ·exact c4 (0) (Nat.zero_le _) [(3,some 3)] hI rfl rfl ⟨⟨_,rfl,.sl rfl au⟩,⟨_,rfl,.pure pu⟩,⟨_,rfl,.pure pu⟩,trivial⟩ ⟨.inr ⟨_,_,rfl,rfl,.of aA (.pure bO)⟩,trivial⟩
  rintro k hk
  refine aa [695] ?_
  refine cm rfl (fun hc23=>?_) (fun hc23=>?_)
  ·have hk8 : k < 8 := by have := of_decide_eq_true hc23; omega
   refine aa [655,758] ?_
   refine s1 ((bE rfl).v (v':= .i .i64 ((8*(7 - k):Nat):Int)) (by rw [oh _ aq aq];congr 1;omega)) rfl <| s1 (mz _ (8*(7 - k)) rfl rfl rfl aq) rfl <| s1 ((kC _ Tryz.underlying198 Tryz.underlying5 rfl).v (v':=u8 (UInt8.ofNat (8*b.length / 2 ^ (8*(7 - k))))) (congrArg u8 (yQ _ _ aq))) rfl <| bJ rfl (eF 32 rfl Tryz.underlying68 cr rfl rfl rfl rfl rfl ?_)
   refine bJ rfl (dR 33 rfl Tryz.underlying68 cr rfl (.sl rfl au) rfl (dH rfl au) au av av rfl rfl rfl ?_)
   refine aa [682,793] ?_
   refine s1 ((iq rfl rfl aq aq).v (v':= .i .i64 (7 - ((k+1:Nat):Int))) (congrArg (A.i .i64) aq)) rfl ?_
   refine aa [682] ?_
   exact cO (k+1) aq aq [(3,some 33)] hI rfl rfl ⟨⟨_,rfl,.sl rfl au⟩,⟨_,rfl,.pure pu⟩,⟨_,rfl,.pure pu⟩,trivial⟩ ⟨.inr ⟨_,_,rfl,rfl,.of (by rw [Qi _ k aq];simp) (.pure bO)⟩,trivial⟩
  ·have hk8 : k = 8 := by have := of_decide_eq_false hc23; omega
   subst hk8
   refine aa [719] ?_
   refine gm 2 rfl rfl bO (dD (by simp [gH];omega) (by rw [Qg (gH _)])) ?_
   refine aa [4] ?_
   show A.fz _ _=_
   rw [wz]
   rfl
theorem GX (b:List UInt8) (hb:b.length≤140737488300000):bU Tryz.prog 117 [.fz b.length (b.map u8)] (cl (.ag ((ng b).map u8))):=by
 refine enter Tryz.func117 rfl Tryz.ntmps117 aw (Nat.le_of_ble_eq_true rfl) fun w0 X0 hI=>?_
 refine aa [645,28,653] ?_
 refine s1 ((uL (vs:= [_,_,_,_,_,_,_,_]) oc rfl Tryz.underlying184 cW rfl rfl rfl rfl).v (v':= .ag (h0.l.map ct)) aw) rfl <| bJ rfl (cI 3 rfl oc rfl rfl ?_)
 refine aa [348,750] ?_
 refine bJ rfl (b7 false rfl (.cons (.pure pu) (.nil)) (Nu b hb) pu (.inl rfl) rfl ?_)
 refine aa [690] ?_
 refine c5 (ι:=Nat) (fun k=> [(2,.p 2 0),(3,.p 3 0),(4,.fz (pad b).length ((pad b).map u8)),(5,.i .i64 ((64*k:Nat):Int))]) (fun k=>⟨[(2,some (List.replicate 32 (u8 0))),(3,some ((iF k h0 (pad b)).l.map ct))]⟩) (fun k=>k≤(pad b).length / 64) (fun k=>(pad b).length / 64 - k) ?_ ?_
 ·exact c4 (0) (Nat.zero_le _) [(2,some 2),(3,some 3)] hI rfl rfl ⟨⟨_,rfl,.p rfl⟩,⟨_,rfl,.p rfl⟩,⟨_,rfl,.pure pu⟩,⟨_,rfl,.pure pu⟩,trivial⟩ ⟨.inr ⟨_,_,rfl,rfl,.of aA (.pure bO)⟩,.inr ⟨_,_,rfl,rfl,.pure bO⟩,trivial⟩
 rintro k hk
 have hp:=Mi b
 have hpl:=wz b
 have hz:=uN b.length
 refine aa [674,104,646] ?_
 refine cm rfl (fun hc14=>?_) (fun hc14=>?_)
 ·have hk2 : k < (pad b).length / 64 := by have := of_decide_eq_true hc14; omega
  refine aa [655,38] ?_
  refine bK 0 [] [(3,none)] (cu oc rfl rfl au) rfl rfl ?_
  refine aa [22,17,31] ?_
  refine bK 4 [3] [] (cE _ 64 rfl rfl rfl rfl aq) rfl rfl <| bK 5 [1,2,4] [] ((jf 64 Tryz.underlying68 cr rfl aA (bs rfl rfl) (bs rfl rfl) aq aq aq rfl).v (congrArg (A.fz 64) (J1 (pad b) (64*k)))) rfl rfl <| c7 false 6 [0,5] [] cz rfl (.cons (.pure pu) (.cons (.pure pu) (.nil))) (Jf _ _ aE) pu (.inl rfl) rfl rfl ?_
  refine aa [2,348,26,793] ?_
  refine s1 (cE _ 64 rfl rfl rfl rfl aq) rfl ?_
  refine aa [682] ?_
  exact cO (k+1) aq aq [(2,some 2),(3,some 3)] hI rfl rfl ⟨⟨_,rfl,.p rfl⟩,⟨_,rfl,.p rfl⟩,⟨_,rfl,.pure pu⟩,⟨_,rfl,.pure pu⟩,trivial⟩ ⟨.inr ⟨_,_,rfl,rfl,.of aA (.pure bO)⟩,.inr ⟨_,_,rfl,rfl,.of (by rw [yD]) (.pure bO)⟩,trivial⟩
 ·have hk2 : k = (pad b).length / 64 := by have := of_decide_eq_false hc14; omega
  subst hk2
  refine aa [683] ?_
  refine s1 ((oq bR rfl Tryz.underlying23 cr rfl).v (v':= .ag ((lP h0 0).map u8++List.replicate (32 - 0) (u8 0))) aw) rfl <| bJ rfl (cI 6 rfl bR rfl rfl ?_)
  refine aa [100,720] ?_
  refine c5 (ι:=Nat) (fun i=> [(2,.p 2 0),(3,.p 3 0),(6,.p 6 0),(7,.i .i64 (i:Nat))]) (fun i=>⟨[(2,some (List.replicate 32 (u8 0))),(3,some ((iF ((pad b).length / 64) h0 (pad b)).l.map ct)),(6,some ((lP (iF ((pad b).length / 64) h0 (pad b)) i).map u8++List.replicate (32 - i) (u8 0)))]⟩) (fun i=>i≤32) (fun i=>32 - i) ?_ ?_
  ·exact c4 (0) (Nat.zero_le _) [(2,some 2),(3,some 3),(6,some 6)] hI rfl rfl ⟨⟨_,rfl,.p rfl⟩,⟨_,rfl,.p rfl⟩,⟨_,rfl,.p rfl⟩,⟨_,rfl,.pure pu⟩,trivial⟩ ⟨.inr ⟨_,_,rfl,rfl,.pure bO⟩,.inr ⟨_,_,rfl,rfl,.pure bO⟩,.inr ⟨_,_,rfl,rfl,.pure bO⟩,trivial⟩
  rintro i hi
  refine aa [695] ?_
  refine cm rfl (fun hc26=>?_) (fun hc26=>?_)
  ·have hi2 : i < 32 := by have := of_decide_eq_true hc26; omega
   refine aa [655,658,349] ?_
   refine s1 (dC (i / 4) Tryz.underlying184 cW rfl rfl rfl aq rfl) rfl ?_
   refine aa [350,0] ?_
   refine s1 (iS i 4 rfl rfl rfl rfl az) rfl ?_
   refine aa [351,352,353,105,274,354,737] ?_
   exact cO (i+1) aq aq [(2,some 2),(3,some 3),(6,some 6)] hI rfl rfl ⟨⟨_,rfl,.p rfl⟩,⟨_,rfl,.p rfl⟩,⟨_,rfl,.p rfl⟩,⟨_,rfl,.pure pu⟩,trivial⟩ ⟨.inr ⟨_,_,rfl,rfl,.pure bO⟩,.inr ⟨_,_,rfl,rfl,.pure bO⟩,.inr ⟨_,_,rfl,rfl,.pure bO⟩,trivial⟩
  ·have hi2 : i = 32 := by have := of_decide_eq_false hc26; omega
   subst hi2
   refine aa [683,355,735] ?_
   refine bZ (rs:= [.cell 2 23]) rfl (da bR rfl rfl (List.take_of_length_le aA) aA bW) rfl
end Go.Abs.D2
