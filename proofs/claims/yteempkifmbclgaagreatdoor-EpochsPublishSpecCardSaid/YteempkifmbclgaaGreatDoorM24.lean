/-
  The engine, the plain laws and the walks that the rows need, part 24. Conditions: none.
-/
import Derived.Test.YteempkifmbclgaaGreatDoorM23
set_option linter.unusedVariables false
set_option linter.unusedSimpArgs false
set_option maxHeartbeats 1000000
set_option maxRecDepth 10000
-- C5E
namespace Go.Abs.D2
open Go Go.Eng Go.Abs Go.Proofs
theorem O4 (x:List UInt8) (hx:x.length=32):bU Tryz.prog 71 [.s [115,116,101,112],.fz 32 (x.map u8)] (cl (.ag ((o9 x).map u8))):=by
  rw [Ba];simpa [hx]using kQ [115,116,101,112] x aq aA
theorem O0 (x:List UInt8) (i:Nat) (hx:x.length=32):bU Tryz.prog 71 [.s [99,104,97,105,110],.fz 33 (x.map u8++ [u8 (UInt8.ofNat i)])] (cl (.ag ((iJ x i).map u8))):=by
  rw [zT];simpa [hx]using kQ [99,104,97,105,110] (x++ [UInt8.ofNat i]) aH aA
theorem O1 (L:List (List UInt8)) (hD:cg L) (hl:L.length=19):bU Tryz.prog 71 [.s [112,117,98,108,105,99],.fz (L.length*32) (L.flatten.map u8)] (cl (.ag ((ml L).map u8))):=by
  rw [Ah, ←hD.len];exact kQ [112,117,98,108,105,99] L.flatten (by rw [hD.len,hl];omega) aA
theorem OY (x:List UInt8) (hx:x.length=32):bU Tryz.prog 185 [.ag (x.map u8)] (cl (.ag ((o9 x).map u8))):=by
 refine enter Tryz.func185 rfl Tryz.ntmps185 aw (Nat.le_of_ble_eq_true rfl) fun w0 X0 hI=>?_
 refine aa [670,28,653,136] ?_
 refine bJ rfl (b7 true rfl (.cons (.pure pu) (.cons (.sl rfl rfl ar (dD ar aJ) (cK.pure bO) bO) (.nil))) (O4 x hx) pu (.inr fu) rfl ?_)
 refine aa [712] ?_
 refine bZ (rs:= [.cell 2 23]) rfl (da bR rfl rfl (List.take_of_length_le aA) aA bW) rfl
theorem AV (x:List UInt8) (n:Nat) (hx:x.length=32) (hn:n≤1000):bU Tryz.prog 139 [.ag (x.map u8),nI n] (cl (.ag ((gi n x).map u8))):=by
 refine enter Tryz.func139 rfl Tryz.ntmps139 aw (Nat.le_of_ble_eq_true rfl) fun w0 X0 hI=>?_
 refine aa [745,720] ?_
 refine c5 (ι:=Nat) (fun k=> [(1,nI n),(2,.p 2 0),(4,.p 4 0),(5,nI k)]) (fun k=>⟨[(2,some ((gi k x).map u8)),(4,some (List.replicate 32 (u8 0)))]⟩) (fun k=>k≤n) (fun k=>n - k) ?_ ?_
 ·exact c4 (0) (Nat.zero_le _) [(2,some 2),(4,some 4)] hI rfl rfl ⟨⟨_,rfl,.pure pu⟩,⟨_,rfl,.p rfl⟩,⟨_,rfl,.p rfl⟩,⟨_,rfl,.pure pu⟩,trivial⟩ ⟨.inr ⟨_,_,rfl,rfl,.pure bO⟩,.inr ⟨_,_,rfl,rfl,.pure bO⟩,trivial⟩
 rintro k hk
 have hxk:=jr hx k
 refine aa [674,646] ?_
 refine cm rfl (fun hc8=>?_) (fun hc8=>?_)
 ·have h8 : k < n := by have := of_decide_eq_true hc8; omega
  refine aa [655,728] ?_
  refine bJ rfl (b7 false rfl (.cons (.pure pu) (.nil)) (OY (gi k x) hxk) pu (.inl rfl) rfl ?_)
  refine aa [5,737] ?_
  exact cO (k+1) aq aq [(2,some 2),(4,some 4)] hI rfl rfl ⟨⟨_,rfl,.pure pu⟩,⟨_,rfl,.p rfl⟩,⟨_,rfl,.p rfl⟩,⟨_,rfl,.pure pu⟩,trivial⟩ ⟨.inr ⟨_,_,rfl,rfl,.of aX (.pure bO)⟩,.inr ⟨_,_,rfl,rfl,.pure bO⟩,trivial⟩
 ·have h8 : k = n := by have := of_decide_eq_false hc8; omega
  subst h8
  refine aa [683,13,712] ?_
  refine bZ (rs:= [.cell 4 23]) rfl (da bR rfl rfl (List.take_of_length_le (by simp [hxk])) (by simp [hxk]) bW) rfl
theorem GB (x:List UInt8) (i:Nat) (hx:x.length=32):bU Tryz.prog 160 [.ag (x.map u8),nI i] (cl (.ag ((iJ x i).map u8))):=by
 refine enter Tryz.func160 rfl Tryz.ntmps160 aw (Nat.le_of_ble_eq_true rfl) fun w0 X0 hI=>?_
 refine aa [745,653,346,136] ?_
 refine bJ rfl (dR 8 rfl Tryz.underlying68 cr rfl (.sl rfl ar) rfl (dH rfl ar) ar av av rfl rfl rfl ?_)
 refine aa [660,417,170] ?_
 refine bJ rfl (dR 13 rfl Tryz.underlying68 cr rfl (.sl rfl ar) rfl (dH rfl ar) ar av av rfl rfl rfl ?_)
 refine bJ rfl (b7 true rfl (.cons (.pure pu) (.cons (.sl rfl rfl ar (dD ar aJ) (cK.pure bO) bO) (.nil))) (O0 x i hx) pu (.inr fu) rfl ?_)
 refine aa [712] ?_
 refine bZ (rs:= [.cell 4 23]) rfl (da bR rfl rfl (List.take_of_length_le aA) aA bW) rfl
theorem Oy (L:List (List UInt8)) (hD:cg L) (hl:L.length=19):bU Tryz.prog 140 [cM L] (cl (.ag ((ml L).map u8))):=by
 refine enter Tryz.func140 rfl Tryz.ntmps140 aw (Nat.le_of_ble_eq_true rfl) fun w0 X0 hI=>?_
 refine aa [645,28,653,178,690] ?_
 refine c5 (ι:=Nat) (fun i=> [(0,cM L),(2,.p 2 0),(3,.sl 5 1 0 (i*32)),(4,nI i)]) (fun i=>⟨[(2,some (List.replicate 32 (u8 0))),(5,some ((L.take i).flatten.map u8))]⟩) (fun i=>i≤L.length) (fun i=>L.length - i) ?_ ?_
 ·exact c4 (0) (Nat.zero_le _) [(2,some 2),(5,some 5)] hI rfl rfl ⟨⟨_,rfl,.pure pu⟩,⟨_,rfl,.p rfl⟩,⟨_,rfl,.sl rfl ar⟩,⟨_,rfl,.pure pu⟩,trivial⟩ ⟨.inr ⟨_,_,rfl,rfl,.pure bO⟩,.inr ⟨_,_,rfl,rfl,.of aX (.pure bO)⟩,trivial⟩
 rintro i hi
 have hDi:=hD.take i
 refine aa [674,770] ?_
 refine cm rfl (fun hc9=>?_) (fun hc9=>?_)
 ·have h9 : i < L.length := by have := of_decide_eq_true hc9; omega
  obtain⟨q,hq⟩:∃q,L[i]? =some q:=⟨_,List.getElem?_eq_getElem h9⟩
  have hq32:=hD q (List.mem_of_getElem? hq)
  refine aa [655,758,421] ?_
  refine s1 ((nv 32 Tryz.underlying23 cr rfl aI bn bn (Nat.zero_le _) (Nat.le_refl _) aA rfl rfl).v (v':= .fz 32 (q.map u8)) (congrArg (A.fz 32) (J0 hD hq))) rfl <| bJ rfl (dR 17 rfl Tryz.underlying68 cr rfl (.sl rfl (by rw [List.length_map,hDi.len,List.length_take];omega)) rfl rfl bh aC aq rfl rfl rfl ?_)
  refine aa [686] ?_
  exact cO (i+1) aq aq [(2,some 2),(5,some 17)] hI rfl rfl ⟨⟨_,rfl,.pure pu⟩,⟨_,rfl,.p rfl⟩,⟨_,rfl,.sl rfl ar⟩,⟨_,rfl,.pure pu⟩,trivial⟩ ⟨.inr ⟨_,_,rfl,rfl,.pure bO⟩,.inr ⟨_,_,rfl,rfl,.of (by rw [←List.map_append,xR hq]) (.pure bO)⟩,trivial⟩
 ·have h9 : i = L.length := by have := of_decide_eq_false hc9; omega
  subst h9
  refine dP 5 rfl (congrArg (fun l:List (List UInt8)=>l.flatten.map u8) List.take_length) ?_
  refine aa [722] ?_
  refine bJ rfl (b7 true rfl (.cons (.pure pu) (.cons (.sl rfl rfl rfl (dD (by rw [List.length_map,hD.len,Nat.mul_one]) rfl) (cK.pure bO) bO) .nil)) (O1 L hD hl) pu (.inr fu) rfl ?_)
  refine aa [712] ?_
  refine bZ (rs:= [.cell 2 23]) rfl (da bR rfl rfl (List.take_of_length_le aA) aA bW) rfl
theorem GF (L:List (List UInt8)) (hD:cg L) (hl:L.length=19):bU Tryz.prog 140 [.fz 19 (L.flatten.map u8)] (cl (.ag ((ml L).map u8))):=by
  have:=Oy L hD hl
  rwa [cM,hl]at this
theorem OU (x:List UInt8) (hx:x.length=32):bU Tryz.prog 152 [.ag (x.map u8)] (cl (.ag ((mZ x).map u8))):=by
 refine enter Tryz.func152 rfl Tryz.ntmps152 aw (Nat.le_of_ble_eq_true rfl) fun w0 X0 hI=>?_
 refine aa [670,28,653] ?_
 refine bJ rfl (gC 5 rfl Tryz.underlying41 bR rfl rfl rfl aD rfl rfl rfl rfl ?_)
 refine aa [690] ?_
 refine c5 (ι:=Nat) (fun i=> [(1,.p 1 0),(2,.p 2 0),(3,.sl 5 32 0 i),(4,nI i)]) (fun i=>⟨[(1,some (x.map u8)),(2,some (List.replicate 32 (u8 0))),(5,some ((jS x i).flatten.map u8))]⟩) (fun i=>i≤19) (fun i=>19 - i) ?_ ?_
 ·exact c4 (0) (Nat.zero_le _) [(1,some 1),(2,some 2),(5,some 5)] hI rfl rfl ⟨⟨_,rfl,.p rfl⟩,⟨_,rfl,.p rfl⟩,⟨_,rfl,.sl rfl ar⟩,⟨_,rfl,.pure pu⟩,trivial⟩ ⟨.inr ⟨_,_,rfl,rfl,.pure bO⟩,.inr ⟨_,_,rfl,rfl,.pure bO⟩,.inr ⟨_,_,rfl,rfl,.of (by rw [xh];rfl) (.pure bO)⟩,trivial⟩
 rintro i hi
 have hDi:=pw x i
 refine aa [695] ?_
 refine cm rfl (fun hc7=>?_) (fun hc7=>?_)
 ·have h7 : i < 19 := by have := of_decide_eq_true hc7; omega
  refine aa [655,649,13,0] ?_
  refine bJ rfl (b7 false rfl (.cons (.pure pu) (.cons (.pure pu) (.nil))) (GB x i hx) pu (.inl rfl) rfl ?_)
  refine bJ rfl (b7 false rfl (.cons (.pure pu) (.cons (.pure pu) (.nil))) (AV (iJ x i) 3 aA aq) pu (.inl rfl) rfl ?_)
  refine bJ rfl (gC 15 rfl Tryz.underlying41 bR rfl rfl rfl (by simp [cw,jr, *]) (List.append_nil ((gi 3 (iJ x i)).map u8)) rfl rfl rfl ?_)
  refine bJ rfl (dR 16 rfl Tryz.underlying41 bR rfl (.sl rfl (by rw [List.length_map,hDi.len,nX])) rfl (dH rfl (by rw [List.length_map,jr (by simp [*])])) (by simp [jr, *]) aC aq rfl rfl rfl ?_)
  refine aa [686] ?_
  exact cO (i+1) aq aq [(1,some 1),(2,some 2),(5,some 16)] hI rfl rfl ⟨⟨_,rfl,.p rfl⟩,⟨_,rfl,.p rfl⟩,⟨_,rfl,.sl rfl ar⟩,⟨_,rfl,.pure pu⟩,trivial⟩ ⟨.inr ⟨_,_,rfl,rfl,.pure bO⟩,.inr ⟨_,_,rfl,rfl,.pure bO⟩,.inr ⟨_,_,rfl,rfl,.of (NK x i) (.pure bO)⟩,trivial⟩
 ·have h7 : i = 19 := by have := of_decide_eq_false hc7; omega
  subst h7
  refine aa [722] ?_
  refine bJ rfl (b7 true rfl (.cons (.sl rfl rfl rfl (dD (by rw [List.length_map,(pw x 19).len,(nX x 19)]) rfl) (cK.pure bO) bO) .nil) (GF (jS x 19) (pw x 19) (nX x 19)) pu (.inr fu) rfl ?_)
  refine aa [712] ?_
  refine bZ (rs:= [.cell 2 23]) rfl (da bR rfl rfl (List.take_of_length_le aA) aA bW) rfl
theorem Gr (m:List UInt8) (hm:m.length=32):bU Tryz.prog 138 [.ag (m.map u8)] (cl (.fz 19 ((digits m).map nI))):=by
 refine enter Tryz.func138 rfl Tryz.ntmps138 aw (Nat.le_of_ble_eq_true rfl) fun w0 X0 hI=>?_
 refine aa [670,662,443,662,659,697] ?_
 refine c5 (ι:=Nat) (fun i=> [(1,.p 1 0),(3,.sl 9 1 0 (4*i)),(4,nI (fq m (4*i))),(5,nI i)]) (fun i=>⟨[(1,some (m.map u8)),(9,some ((dl m (4*i)).map nI))]⟩) (fun i=>i≤4) (fun i=>4 - i) ?_ ?_
 ·exact c4 (0) (Nat.zero_le _) [(1,some 1),(9,some 9)] hI rfl rfl ⟨⟨_,rfl,.p rfl⟩,⟨_,rfl,.sl rfl ar⟩,⟨_,rfl,.of (by rw [Nat.mul_zero,Bc];rfl) (.pure pu)⟩,⟨_,rfl,.pure pu⟩,trivial⟩ ⟨.inr ⟨_,_,rfl,rfl,.pure bO⟩,.inr ⟨_,_,rfl,rfl,.of (by rw [Nat.mul_zero,Di];rfl) (.pure bO)⟩,trivial⟩
 rintro i hi
 have hsi:=qw m (4*i)
 refine aa [695] ?_
 refine cm rfl (fun hc11=>?_) (fun hc11=>?_)
 ·have h11 : i < 4 := by have := of_decide_eq_true hc11; omega
  have hb8:=(m.getD i 0).toNat_lt
  refine aa [655,648,274] ?_
  refine s1 (bM cr rfl rfl (z8 i aq)) rfl <| s1 ((ep Tryz.underlying5 Tryz.underlying3 rfl).v (JW _)) rfl ?_
  refine aa [646,697] ?_
  refine c5 (ι:=Nat) (fun k=> [(1,.p 1 0),(3,.sl 9 1 0 (4*i+k)),(4,nI (fq m (4*i+k))),(5,nI i),(6,nI (nk (m.getD i 0).toNat k)),(7,nI k)]) (fun k=>⟨[(1,some (m.map u8)),(9,some ((dl m (4*i+k)).map nI))]⟩) (fun k=>k≤4) (fun k=>4 - k) ?_ ?_
  ·exact c4 (0) (Nat.zero_le _) [(1,some 1),(9,some 9)] hI rfl rfl ⟨⟨_,rfl,.p rfl⟩,⟨_,rfl,.sl rfl ar⟩,⟨_,rfl,.pure pu⟩,⟨_,rfl,.pure pu⟩,⟨_,rfl,.of (congrArg nI (MO hb8).symm) (.pure pu)⟩,⟨_,rfl,.pure pu⟩,trivial⟩ ⟨.inr ⟨_,_,rfl,rfl,.pure bO⟩,.inr ⟨_,_,rfl,rfl,.pure bO⟩,trivial⟩
  rintro k hk
  have hsk:=qw m (4*i+k)
  have hnk:=MP (b:=(m.getD i 0).toNat) hk
  refine aa [695] ?_
  refine cm rfl (fun hc19=>?_) (fun hc19=>?_)
  ·have h19 : k < 4 := by have := of_decide_eq_true hc19; omega
   have hdk:nk (m.getD i 0).toNat k / 64<4:=by rw [Ar h19];exact vF _ _
   refine aa [655,648] ?_
   refine s1 (iR (nk (m.getD i 0).toNat k) 64 rfl rfl rfl rfl az aq) rfl ?_
   refine aa [664] ?_
   refine s1 (iS (nk (m.getD i 0).toNat k) 64 rfl rfl rfl rfl az) rfl <| s1 (iK (nk (m.getD i 0).toNat k % 64) 4 rfl rfl rfl rfl aq) rfl ?_
   refine aa [660,444] ?_
   refine bJ rfl (dR 30 rfl Tryz.underlying30 bL rfl (.sl rfl aA) rfl (dH rfl ar) ar av av rfl rfl rfl ?_)
   refine aa [646,649] ?_
   refine s1 (cE (fq m (4*i+k)) 3 rfl rfl rfl rfl aq) rfl <| s1 (bE rfl) rfl <| s1 (eW (fq m (4*i+k)+3) (nk (m.getD i 0).toNat k / 64) rfl rfl rfl rfl aq aq) rfl ?_
   refine aa [686] ?_
   exact cO (k+1) aq aq [(1,some 1),(9,some 30)] hI rfl rfl ⟨⟨_,rfl,.p rfl⟩,⟨_,rfl,.sl rfl ar⟩,⟨_,rfl,.of (congrArg nI (P5 (Ar h19))) (.pure pu)⟩,⟨_,rfl,.pure pu⟩,⟨_,rfl,.of (congrArg nI (MQ h19)) (.pure pu)⟩,⟨_,rfl,.pure pu⟩,trivial⟩ ⟨.inr ⟨_,_,rfl,rfl,.pure bO⟩,.inr ⟨_,_,rfl,rfl,.of (Kr (Ar h19)) (.pure bO)⟩,trivial⟩
  ·have h19 : k = 4 := by have := of_decide_eq_false hc19; omega
   subst h19
   refine aa [792,801] ?_
   exact cO (i+1) aq aq [(1,some 1),(9,some 9)] hI rfl rfl ⟨⟨_,rfl,.p rfl⟩,⟨_,rfl,.sl rfl ar⟩,⟨_,rfl,.pure pu⟩,⟨_,rfl,.pure pu⟩,trivial⟩ ⟨.inr ⟨_,_,rfl,rfl,.pure bO⟩,.inr ⟨_,_,rfl,rfl,.pure bO⟩,trivial⟩
 ·have h11 : i = 4 := by have := of_decide_eq_false hc11; omega
  subst h11
  have hs16:=qw m 16
  refine aa [687,661] ?_
  refine s1 (iR (fq m 16) 16 rfl rfl rfl rfl az aq) rfl <| s1 (bE rfl) rfl <| s1 (iR (fq m 16) 4 rfl rfl rfl rfl az aq) rfl <| s1 (iS (fq m 16 / 4) 4 rfl rfl rfl rfl az) rfl <| s1 (bE rfl) rfl <| s1 (iS (fq m 16) 4 rfl rfl rfl rfl az) rfl <| bJ rfl (eF 43 rfl Tryz.underlying30 bL rfl rfl rfl rfl rfl ?_)
  refine bJ rfl (dR 44 rfl Tryz.underlying30 bL rfl (.sl rfl aA) rfl (dH rfl ar) ar av av rfl (Kl m) rfl ?_)
  refine aa [650,69] ?_
  refine bZ (rs:= [.tmp 2]) rfl (bV rfl bW) rfl
theorem OX (x m:List UInt8) (hx:x.length=32) (hm:m.length=32):bU Tryz.prog 108 [.ag (x.map u8),.ag (m.map u8)] (cl (cM (jX x m))):=by
 refine enter Tryz.func108 rfl Tryz.ntmps108 aw (Nat.le_of_ble_eq_true rfl) fun w0 X0 hI=>?_
 refine aa [713,68,662,13,445,662] ?_
 refine bJ rfl (gC 10 rfl Tryz.underlying41 bR rfl rfl rfl aD rfl rfl rfl rfl ?_)
 refine aa [690] ?_
 refine c5 (ι:=Nat) (fun i=> [(2,.p 2 0),(5,.fz 19 ((digits m).map nI)),(6,.sl 10 32 0 i),(7,nI i)]) (fun i=>⟨[(2,some (x.map u8)),(10,some ((jY x m i).flatten.map u8))]⟩) (fun i=>i≤19) (fun i=>19 - i) ?_ ?_
 ·exact c4 (0) (Nat.zero_le _) [(2,some 2),(10,some 10)] hI rfl rfl ⟨⟨_,rfl,.p rfl⟩,⟨_,rfl,.pure pu⟩,⟨_,rfl,.sl rfl ar⟩,⟨_,rfl,.pure pu⟩,trivial⟩ ⟨.inr ⟨_,_,rfl,rfl,.pure bO⟩,.inr ⟨_,_,rfl,rfl,.of aX (.pure bO)⟩,trivial⟩
 rintro i hi
 have hDi:=qK x m i
 have hdi:=tq m i
 refine aa [695] ?_
 refine cm rfl (fun hc12=>?_) (fun hc12=>?_)
 ·have h12 : i < 19 := by have := of_decide_eq_true hc12; omega
  refine aa [655,30] ?_
  refine bK 0 [] [(10,none)] (bE rfl) rfl rfl <| bK 1 [] [(2,none)] (cu bR rfl rfl ar) rfl rfl ?_
  refine aa [17] ?_
  refine c7 false 3 [1,2] [] cz rfl (.cons (.pure pu) (.cons (.pure pu) (.nil))) (GB x i hx) pu (.inl rfl) rfl rfl ?_
  refine aa [47,46] ?_
  refine bK 6 [4,5] [] (cf i Tryz.underlying30 bL rfl rfl rfl aq rfl) rfl rfl <| bK 7 [6] [] (bM bL rfl rfl (Ej m i h12)) rfl rfl <| c7 false 8 [3,7] [] cz rfl (.cons (.pure pu) (.cons (.pure pu) (.nil))) (AV (iJ x i) (dg m i) aA aq) pu (.inl rfl) rfl rfl <| jl 24 9 [8] cz Tryz.underlying41 bR rfl rfl rfl (by simp [cw,jr, *]) (List.append_nil ((gi (dg m i) (iJ x i)).map u8)) rfl rfl rfl rfl <| gp 25 10 [0,9] [(10,none),(24,some 9)] cz Tryz.underlying41 bR rfl (.sl rfl (by rw [List.length_map,hDi.len,rP])) rfl (dH rfl (by rw [List.length_map,jr (by simp [*])])) (by simp [jr, *]) aC aq rfl rfl rfl rfl ?_
  refine aa [2,686] ?_
  exact cO (i+1) aq aq [(2,some 2),(10,some 25)] hI rfl rfl ⟨⟨_,rfl,.p rfl⟩,⟨_,rfl,.pure pu⟩,⟨_,rfl,.sl rfl ar⟩,⟨_,rfl,.pure pu⟩,trivial⟩ ⟨.inr ⟨_,_,rfl,rfl,.pure bO⟩,.inr ⟨_,_,rfl,rfl,.of (Hl x m i) (.pure bO)⟩,trivial⟩
 ·have h12 : i = 19 := by have := of_decide_eq_false hc12; omega
  subst h12
  refine aa [719,420,15] ?_
  show A.fz _ _=cM (jY x m 19)
  rw [cM,rP]
theorem OV (m:List UInt8) (S:List (List UInt8)) (hm:m.length=32) (hS:cg S):bU Tryz.prog 91 [.ag (m.map u8),cM S] (cl (.tu [.ag ((gJ m S).map u8),nI (jV S)])):=by
 refine enter Tryz.func91 rfl Tryz.ntmps91 aw (Nat.le_of_ble_eq_true rfl) fun w0 X0 hI=>?_
 refine aa [745,659,648,770] ?_
 refine cm rfl (fun hc11=>?_) (fun hc11=>?_)
 ·have h11 : S.length ≠ 19 := by have := bne_iff_ne.1 hc11; omega
  refine aa [645,303,5] ?_
  refine s1 ((bE rfl).v (v':= .i .i64 50) rfl) rfl ?_
  refine aa [668,77] ?_
  rw [(xx h11).1,(xx (m:=m) h11).2]
  rfl
 ·have h11 : S.length = 19 := by have := bne_eq_false_iff_eq.1 hc11; omega
  refine aa [669,13,445,662] ?_
  refine bJ rfl (gC 15 rfl Tryz.underlying41 bR rfl rfl rfl aD rfl rfl rfl rfl ?_)
  refine aa [690] ?_
  refine c5 (ι:=Nat) (fun i=> [(1,cM S),(4,.p 4 0),(6,.fz 19 ((digits m).map nI)),(7,.sl 15 32 0 i),(8,nI i)]) (fun i=>⟨[(4,some (List.replicate 32 (u8 0))),(15,some ((jW m S i).flatten.map u8))]⟩) (fun i=>i≤19) (fun i=>19 - i) ?_ ?_
  ·exact c4 (0) (Nat.zero_le _) [(4,some 4),(15,some 15)] hI rfl rfl ⟨⟨_,rfl,.pure pu⟩,⟨_,rfl,.p rfl⟩,⟨_,rfl,.pure pu⟩,⟨_,rfl,.sl rfl ar⟩,⟨_,rfl,.pure pu⟩,trivial⟩ ⟨.inr ⟨_,_,rfl,rfl,.pure bO⟩,.inr ⟨_,_,rfl,rfl,.of (by rw [xv];rfl) (.pure bO)⟩,trivial⟩
  rintro i hi
  have hDi:=yf (m:=m) hS i aq
  have hdi:=tq m i
  refine aa [695] ?_
  refine cm rfl (fun hc17=>?_) (fun hc17=>?_)
  ·have h17 : i < 19 := by have := of_decide_eq_true hc17; omega
   obtain⟨q,hq⟩:∃q,S[i]? =some q:=⟨_,List.getElem?_eq_getElem aq⟩
   have hq32:=hS q (List.mem_of_getElem? hq)
   have hq2:S.getD i []=q:=by simp [hq]
   refine aa [655,94] ?_
   refine bK 0 [] [(15,none)] (bE rfl) rfl rfl ?_
   refine aa [22,17] ?_
   refine bK 3 [1,2] [] (cf i Tryz.underlying41 bR rfl rfl rfl aq rfl) rfl rfl <| bK 4 [3] [] (dw bR rfl rfl (Aa hS hq) bh) rfl rfl ?_
   refine aa [46,56] ?_
   refine bK 7 [5,6] [] (cf i Tryz.underlying30 bL rfl rfl rfl aq rfl) rfl rfl <| bK 8 [7] [] (bM bL rfl rfl (Ej m i h17)) rfl rfl <| bK 9 [8] [] (eW 3 (dg m i) rfl rfl rfl rfl aq aq) rfl rfl <| c7 false 10 [4,9] [] cz rfl (.cons (.pure pu) (.cons (.pure pu) (.nil))) (AV q (3 - dg m i) hq32 aq) pu (.inl rfl) rfl rfl <| jl 31 11 [10] cz Tryz.underlying41 bR rfl rfl rfl (by simp [cw,jr, *]) (List.append_nil ((gi (3 - dg m i) q).map u8)) rfl rfl rfl rfl <| gp 32 12 [0,11] [(15,none),(31,some 11)] cz Tryz.underlying41 bR rfl (.sl rfl (by rw [List.length_map,hDi.len,nY])) rfl (dH rfl (by rw [List.length_map,jr (by simp [*])])) (by simp [jr, *]) aC aq rfl rfl rfl rfl ?_
   refine aa [2,686] ?_
   exact cO (i+1) aq aq [(4,some 4),(15,some 32)] hI rfl rfl ⟨⟨_,rfl,.pure pu⟩,⟨_,rfl,.p rfl⟩,⟨_,rfl,.pure pu⟩,⟨_,rfl,.sl rfl ar⟩,⟨_,rfl,.pure pu⟩,trivial⟩ ⟨.inr ⟨_,_,rfl,rfl,.pure bO⟩,.inr ⟨_,_,rfl,rfl,.of (N9 hq2) (.pure bO)⟩,trivial⟩
  ·have h17 : i = 19 := by have := of_decide_eq_false hc17; omega
   subst h17
   refine aa [722] ?_
   refine bJ rfl (b7 true rfl (.cons (.sl rfl rfl rfl (dD (by rw [List.length_map,hDi.len,(nY m S 19)]) rfl) (cK.pure bO) bO) .nil) (GF (jW m S 19) hDi (nY m S 19)) pu (.inr fu) rfl ?_)
   refine aa [5,657,77] ?_
   rw [(ur h11).1,(ur (m:=m) h11).2]
   rfl
-- K6D
theorem Qv (n:Int):bU Tryz.prog 127 [.fp [.i .i64 n]] (cl (.b (decide (dY n)))):=by
 refine enter Tryz.func127 rfl Tryz.ntmps127 aw (Nat.le_of_ble_eq_true rfl) fun w0 X0 hI=>?_
 refine aa [645,662,8,647] ?_
 refine fU 2 rfl rfl rfl rfl (fun hb4=> .step (bM bL rfl rfl rfl) rfl rfl<| .step (bE rfl) rfl rfl<| .done) rfl rfl <| s1 (bE rfl) rfl <| bH <| bF <| bY <| bZ (rs:= [.tmp 1]) rfl (bV rfl bW) ?_
 exact congrArg A.b (by rw [Bool.eq_iff_iff,decide_eq_true_eq];simp [dY])
theorem Qw (a n:Int) (S P:List (List UInt8)):bU Tryz.prog 128 [.fp [.i .i64 a,cM S,cM P],.fp [.i .i64 n]] (cl (.b (decide (gQ n a)))):=by
 refine enter Tryz.func128 rfl Tryz.ntmps128 aw (Nat.le_of_ble_eq_true rfl) fun w0 X0 hI=>?_
 refine aa [645,662,446,8,647] ?_
 refine fU 4 rfl rfl rfl rfl (fun hb6=> .step (cR Tryz.underlying43 rfl bL az rfl rfl) rfl rfl<| .step (bM bL rfl rfl rfl) rfl rfl<| .step (bM bL rfl rfl rfl) rfl rfl<| .step (bE rfl) rfl rfl<| .done) rfl rfl ?_
 refine aa [698] ?_
 exact congrArg A.b (IN n a)
theorem Qx (m:List UInt8) (a:Int) (S P:List (List UInt8)) (hm:m.length=32) (hS:cg S):eQ Tryz.prog 129 [.fp (m.map u8),.fp [.i .i64 a,cM S,cM P],.p 9 0] ⟨[(9,some (zD.map u8))]⟩ (j7 (.b (decide (jV S=0))) [(9,(gJ m S).map u8)]):=by
 refine tF Tryz.func129 rfl Tryz.ntmps129 aw (Nat.le_of_ble_eq_true rfl) fun w0 X0 hI=>?_
 refine aa [645,662] ?_
 refine s1 (dw bR rfl rfl (List.take_of_length_le (by simp [hm])) (by simp [hm])) rfl ?_
 refine aa [447,114] ?_
 refine bJ rfl (b7 false rfl (.cons (.pure pu) (.cons (.pure pu) (.nil))) (Oa m S hm hS) pu (.inl rfl) rfl ?_)
 refine aa [671,70,5,662,13,5,750] ?_
 refine s1 ((bE rfl).v (v':= .b (decide (jV S=0))) (congrArg A.b (N8 S))) rfl ?_
 refine aa [650] ?_
 refine bZ (rs:= [.tmp 3]) rfl (bV rfl bW) (qm rfl)
theorem Qy (r m:List UInt8) (n a:Int) (S P:List (List UInt8)) (hr:r.length=32) (hP:cg P):eQ Tryz.prog 131 [.p 9 0,.fp [.i .i64 a,cM S,cM P],.fp [.i .i64 n],.fp (r.map u8)] ⟨[(9,some ((gJ m S).map u8))]⟩ (j7 (.b ((lC a n P.length==0)&&(kG (gJ m S) a n P==r))) [(9,(gJ m S).map u8)]):=by
 refine tF Tryz.func131 rfl Tryz.ntmps131 aw (Nat.le_of_ble_eq_true rfl) fun w0 X0 hI=>?_
 refine aa [645,662,13,446,8,8,447,114] ?_
 refine bJ rfl (b7 false rfl (.cons (.pure pu) (.cons (.pure pu) (.cons (.pure pu) (.cons (.pure pu) (.nil))))) (bU.cast (JN (gJ m S) aA a n P hP) (CR ..)) pu (.inl rfl) rfl ?_)
 refine aa [671,106,5,660,0] ?_
 refine fU 3 rfl rfl rfl rfl (fun hb19=> .step (cu bR rfl rfl ar) rfl rfl<| .step (dw bR rfl rfl (List.take_of_length_le (by simp [hr])) (by simp [hr])) rfl rfl<| .step (oo Tryz.underlying23 Tryz.underlying5 cr aw rfl rfl aM aM) rfl rfl<| .done) rfl rfl ?_
 refine aa [650] ?_
 refine bZ (rs:= [.tmp 4]) rfl (bV rfl bW) (qm rfl)
theorem EL (r m:List UInt8) (n a:Int) (S P:List (List UInt8)) (hr:r.length=32) (hm:m.length=32) (hS:cg S) (hP:cg P):bU Tryz.prog 84 [.ag (r.map u8),.i .i64 n,.ag (m.map u8),.ag [.i .i64 a,cM S,cM P]] (cl (.i .i64 (rv (gx r n m a S P)))):=by
 refine enter Tryz.func84 rfl Tryz.ntmps84 aw (Nat.le_of_ble_eq_true rfl) fun w0 X0 hI=>?_
 refine aa [756] ?_
 refine bJ rfl (mP 5 rfl rfl rfl rfl ?_)
 refine bJ rfl (cX 6 rfl rfl rfl ?_)
 refine aa [96,749,645] ?_
 refine bJ rfl (cI 9 rfl bR rfl rfl ?_)
 refine bH <| bF <| bG <| iy 4 rfl rfl bO <| iy 5 rfl rfl bO <| iy 6 rfl rfl bO <| iy 7 rfl rfl bO <| bI <| s1 (jJ (us:= []) (vs:= [.fp [.i .i64 n]]) rfl rfl) rfl <| s1 (jJ (us:= []) (vs:= [.fp [.i .i64 a,cM S,cM P],.fp [.i .i64 n]]) rfl rfl) rfl <| s1 (jJ (us:= []) (vs:= [.fp (m.map u8),.fp [.i .i64 a,cM S,cM P],.p 9 0]) rfl rfl) rfl <| s1 (jJ (us:= []) (vs:= [.p 9 0,.fp [.i .i64 a,cM S,cM P],.fp [.i .i64 n],.fp (r.map u8)]) rfl rfl) rfl <| bJ rfl (eF 17 rfl Tryz.underlying169 od rfl rfl rfl rfl rfl ?_)
 refine aa [692] ?_
 refine s1 (cJ Tryz.underlying169 rfl rfl rfl) rfl ?_
 refine aa [667] ?_
 refine c5 (ι:=Nat) (fun i=> [(18,.sl 17 1 0 4),(19,nI 4),(20,nI i)]) (fun i=>⟨[(9,some ((NH m S i).map u8)),(17,some ([.fn (.func 127) [] [.fp [.i .i64 n]],.fn (.func 128) [] [.fp [.i .i64 a,cM S,cM P],.fp [.i .i64 n]],.fn (.func 129) [] [.fp (m.map u8),.fp [.i .i64 a,cM S,cM P],.p 9 0],.fn (.func 131) [] [.p 9 0,.fp [.i .i64 a,cM S,cM P],.fp [.i .i64 n],.fp (r.map u8)]]))]⟩) (fun i=>i≤4∧(0<i→dY n)∧(1<i→gQ n a)∧(2<i→jV S=0)∧(3<i→((lC a n P.length==0)&&(kG (gJ m S) a n P==r))=true)) (fun i=>4 - i) ?_ ?_
 ·exact c4 (0) (⟨by omega,fun h=>absurd h aq,fun h=>absurd h aq,fun h=>absurd h aq,fun h=>absurd h aq⟩) [(9,some 9),(17,some 17)] hI rfl rfl ⟨⟨_,rfl,.sl rfl ar⟩,⟨_,rfl,.pure pu⟩,⟨_,rfl,.pure pu⟩,trivial⟩ ⟨.inr ⟨_,_,rfl,rfl,.of aX (.pure bO)⟩,.inr ⟨_,_,rfl,rfl,.cons (.pure pu) (.cons (.pure pu) (.cons (.fn .nil (.cons (.pure pu) (.cons (.pure pu) (.cons (.p rfl) .nil)))) (.cons (.fn .nil (.cons (.p rfl) (.cons (.pure pu) (.cons (.pure pu) (.cons (.pure pu) .nil))))) .nil)))⟩,trivial⟩
 rintro i ⟨hi,p1,p2,p3,p4⟩
 refine aa [651] ?_
 refine cm rfl (fun hc21=>?_) (fun hc21=>?_)
 ·have h21 : i < 4 := by have := of_decide_eq_true hc21; omega
  refine b9 <| bF <| bG <| cd <| bG ?_
  rcases show i=0∨i=1∨i=2∨i=3 by omega with hcs|hcs|hcs|hcs
  ·subst hcs
   refine bI <| s1 (mC 0 Tryz.underlying169 od rfl rfl rfl rfl aq rfl) rfl ?_
   refine aa [199,664] ?_
   refine bJ rfl (p7 false rfl rfl (.cons (.pure pu) .nil) (Qv n) pu (.inl rfl) rfl ?_)
   refine aa [646] ?_
   refine cm rfl (fun hc26=>?_) (fun hc26=>?_)
   ·skip
    refine aa [645,147,700,33] ?_
    exact congrArg (A.i .i64) (by rw [HI (by simpa using hc26)];rfl)
   ·skip
    refine aa [717] ?_
    exact cO (0+1) (⟨by omega,fun _=>by simpa using hc26,fun h=>absurd h aq,fun h=>absurd h aq,fun h=>absurd h aq⟩) aq [(9,some 9),(17,some 17)] hI rfl rfl ⟨⟨_,rfl,.sl rfl ar⟩,⟨_,rfl,.pure pu⟩,⟨_,rfl,.pure pu⟩,trivial⟩ ⟨.inr ⟨_,_,rfl,rfl,.of aX (.pure bO)⟩,.inr ⟨_,_,rfl,rfl,.cons (.pure pu) (.cons (.pure pu) (.cons (.fn .nil (.cons (.pure pu) (.cons (.pure pu) (.cons (.p rfl) .nil)))) (.cons (.fn .nil (.cons (.p rfl) (.cons (.pure pu) (.cons (.pure pu) (.cons (.pure pu) .nil))))) .nil)))⟩,trivial⟩
  ·subst hcs
   refine bI <| s1 (mC 1 Tryz.underlying169 od rfl rfl rfl rfl aq rfl) rfl ?_
   refine aa [199,664] ?_
   refine bJ rfl (p7 false rfl rfl (.cons (.pure pu) (.cons (.pure pu) .nil)) (Qw a n S P) pu (.inl rfl) rfl ?_)
   refine aa [646] ?_
   refine cm rfl (fun hc26=>?_) (fun hc26=>?_)
   ·skip
    refine aa [645,147,700,33] ?_
    exact congrArg (A.i .i64) (by rw [HJ (by simpa using hc26)];rfl)
   ·skip
    refine aa [717] ?_
    exact cO (1+1) (⟨by omega,fun _=>p1 aq,fun _=>by simpa using hc26,fun h=>absurd h aq,fun h=>absurd h aq⟩) aq [(9,some 9),(17,some 17)] hI rfl rfl ⟨⟨_,rfl,.sl rfl ar⟩,⟨_,rfl,.pure pu⟩,⟨_,rfl,.pure pu⟩,trivial⟩ ⟨.inr ⟨_,_,rfl,rfl,.of aX (.pure bO)⟩,.inr ⟨_,_,rfl,rfl,.cons (.pure pu) (.cons (.pure pu) (.cons (.fn .nil (.cons (.pure pu) (.cons (.pure pu) (.cons (.p rfl) .nil)))) (.cons (.fn .nil (.cons (.p rfl) (.cons (.pure pu) (.cons (.pure pu) (.cons (.pure pu) .nil))))) .nil)))⟩,trivial⟩
  ·subst hcs
   refine bI <| s1 (mC 2 Tryz.underlying169 od rfl rfl rfl rfl aq rfl) rfl ?_
   refine aa [199,664] ?_
   refine bJ rfl (oO ⟨[(9,some (zD.map u8))]⟩ [(9,(gJ m S).map u8)] false rfl rfl ⟨⟨rfl,cK.pure bO⟩,trivial⟩ (.cons (.pure pu) (.cons (.pure pu) (.cons (.kp rfl) .nil))) (Qx m a S P hm hS) trivial (.inl rfl) (qB (c0:=zD.map u8) rfl bO iX) rfl ?_)
   refine aa [646] ?_
   refine cm rfl (fun hc26=>?_) (fun hc26=>?_)
   ·skip
    refine aa [645,147,700,33] ?_
    exact congrArg (A.i .i64) (by rw [HK (by simpa using hc26)];rfl)
   ·skip
    refine aa [717] ?_
    exact cO (2+1) (⟨by omega,fun _=>p1 aq,fun _=>p2 aq,fun _=>by simpa using hc26,fun h=>absurd h aq⟩) aq [(9,some 9),(17,some 17)] hI rfl rfl ⟨⟨_,rfl,.sl rfl ar⟩,⟨_,rfl,.pure pu⟩,⟨_,rfl,.pure pu⟩,trivial⟩ ⟨.inr ⟨_,_,rfl,rfl,.of aX (.pure bO)⟩,.inr ⟨_,_,rfl,rfl,.cons (.pure pu) (.cons (.pure pu) (.cons (.fn .nil (.cons (.pure pu) (.cons (.pure pu) (.cons (.p rfl) .nil)))) (.cons (.fn .nil (.cons (.p rfl) (.cons (.pure pu) (.cons (.pure pu) (.cons (.pure pu) .nil))))) .nil)))⟩,trivial⟩
  ·subst hcs
   refine bI <| s1 (mC 3 Tryz.underlying169 od rfl rfl rfl rfl aq rfl) rfl ?_
   refine aa [199,664] ?_
   refine bJ rfl (oO ⟨[(9,some ((gJ m S).map u8))]⟩ [(9,(gJ m S).map u8)] false rfl rfl ⟨⟨rfl,cK.pure bO⟩,trivial⟩ (.cons (.kp rfl) (.cons (.pure pu) (.cons (.pure pu) (.cons (.pure pu) .nil)))) (Qy r m n a S P hr hP) trivial (.inl rfl) (qB (c0:=(gJ m S).map u8) rfl bO iX) rfl ?_)
   refine aa [646] ?_
   refine cm rfl (fun hc26=>?_) (fun hc26=>?_)
   ·skip
    refine aa [645,147,700,33] ?_
    exact congrArg (A.i .i64) (by rw [HL (by rwa [Bool.not_eq_true']at hc26)];rfl)
   ·skip
    refine aa [717] ?_
    exact cO (3+1) (⟨by omega,fun _=>p1 aq,fun _=>p2 aq,fun _=>p3 aq,fun _=>by simpa using hc26⟩) aq [(9,some 9),(17,some 17)] hI rfl rfl ⟨⟨_,rfl,.sl rfl ar⟩,⟨_,rfl,.pure pu⟩,⟨_,rfl,.pure pu⟩,trivial⟩ ⟨.inr ⟨_,_,rfl,rfl,.of aX (.pure bO)⟩,.inr ⟨_,_,rfl,rfl,.cons (.pure pu) (.cons (.pure pu) (.cons (.fn .nil (.cons (.pure pu) (.cons (.pure pu) (.cons (.p rfl) .nil)))) (.cons (.fn .nil (.cons (.p rfl) (.cons (.pure pu) (.cons (.pure pu) (.cons (.pure pu) .nil))))) .nil)))⟩,trivial⟩
 ·have h21 : i = 4 := by have := of_decide_eq_false hc21; omega
  subst h21
  refine aa [683,657,33] ?_
  exact congrArg (A.i .i64) (by rw [Bn (p1 aq) (p2 aq) (p3 aq) (p4 aq)];rfl)
theorem GH (r m:List UInt8) (n a:Int) (S P:List (List UInt8)) (hr:r.length=32) (hm:m.length=32) (hS:cg S) (hP:cg P):bU Tryz.prog 42 [.ag (r.map u8),.i .i64 n,.ag (m.map u8),.ag [.i .i64 a,cM S,cM P]] (cl (.i .i64 (rv (gx r n m a S P)))):=by
 refine enter Tryz.func42 rfl Tryz.ntmps42 aw (Nat.le_of_ble_eq_true rfl) fun w0 X0 hI=>?_
 refine aa [756] ?_
 refine bJ rfl (cX 6 rfl rfl rfl ?_)
 refine aa [96,703] ?_
 rcases(Decidable.em (dY n)).symm with hcs|hcs
 ·skip
  refine aa [649,304,705,677,679,772,33] ?_
  exact congrArg (A.i .i64) (by rw [HI hcs];rfl)
 ·have hsz := hcs
  refine aa [649,305,647] ?_
  refine g1 rfl rfl (bX Tryz.underlying43 rfl bL az rfl rfl) rfl ?_
  refine aa [176,7,647] ?_
  refine gr 4 rfl rfl rfl rfl (fun hb21=> .step (bX Tryz.underlying43 rfl bL az rfl rfl) rfl rfl<| .step (bM bL rfl rfl rfl) rfl rfl<| .step (bE rfl) rfl rfl<| .step (bE rfl) rfl rfl<| .done) rfl rfl <| bH <| bF ?_
  refine cm rfl (fun hc26=>?_) (fun hc26=>?_)
  ·have hna : ¬ gQ n a := by intro h; unfold gQ at h; simp at hc26; omega
   refine aa [645,772,33] ?_
   exact congrArg (A.i .i64) (by rw [HJ hna];rfl)
  ·have hat : gQ n a := by unfold gQ; simp at hc26; omega
   refine aa [669,13,448,114] ?_
   refine bJ rfl (b7 false rfl (.cons (.pure pu) (.cons (.pure pu) (.nil))) (OV m S hm hS) pu (.inl rfl) rfl ?_)
   refine aa [671] ?_
   refine bJ rfl (cI 9 rfl bR rfl rfl ?_)
   refine aa [5,652,665] ?_
   refine cm rfl (fun hc35=>?_) (fun hc35=>?_)
   ·have h3 : ¬ jV S = 0 := by intro h; rw [h] at hc35; simp at hc35
    refine aa [645,772,33] ?_
    exact congrArg (A.i .i64) (by rw [HK h3];rfl)
   ·have h3 : jV S = 0 := by simp at hc35; omega
    refine aa [669,13,306,8,0,448,114] ?_
    refine bJ rfl (b7 false rfl (.cons (.pure pu) (.cons (.pure pu) (.cons (.pure pu) (.cons (.pure pu) (.nil))))) (bU.cast (NW (gJ m S) aA a n P hP) (CR ..)) pu (.inl rfl) rfl ?_)
    refine aa [671] ?_
    refine bJ rfl (cI 11 rfl bR rfl rfl ?_)
    refine aa [5,652,680] ?_
    refine gr 3 rfl rfl rfl rfl (fun hb48=> .step (cu bR rfl rfl ar) rfl rfl<| .step (cu bR rfl rfl (by simp [hr])) rfl rfl<| .step (nu Tryz.underlying23 Tryz.underlying5 cr aw rfl rfl aM aM) rfl rfl<| .done) rfl rfl <| bH <| bF ?_
    refine cm rfl (fun hc52=>?_) (fun hc52=>?_)
    ·have h4 : ((lC a n P.length == 0) && (kG (gJ m S) a n P == r)) = false := by revert hc52; simp [bne]; intro h hh; rcases h with h | h <;> simp_all
     refine aa [645,772,33] ?_
     exact congrArg (A.i .i64) (by rw [HL h4];rfl)
    ·have h4 : ((lC a n P.length == 0) && (kG (gJ m S) a n P == r)) = true := by simp [bne] at hc52 ⊢; exact hc52
     refine aa [669,657,33] ?_
     exact congrArg (A.i .i64) (by rw [Bn hsz hat h3 h4];rfl)
end Go.Abs.D2
