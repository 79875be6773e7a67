/-
  The engine, the plain laws and the walks that the rows need, part 28. Conditions: none.
-/
import Derived.Test.YteempkifmbclgaaGreatDoorM27
import Derived.Lib.SlKeysI
set_option linter.unusedVariables false
set_option linter.unusedSimpArgs false
set_option maxHeartbeats 1000000
set_option maxRecDepth 10000
-- E6N
namespace Go.Abs.D2
open Go Go.Eng Go.Abs Go.Proofs
theorem GO (x:List UInt8) (n:Int) (l:List Ep) (iss day:Int) (ids:List Int) (c:List Ch) (hx:x.length=32) (hl:fK l) (hn:l.length≤1000) (hi:rg iss) (hd:rg day) (hids:ids.length≤100) (hc:c.length≤1000) (hcr:∀e∈c,rg e.id∧rg e.st):bU Tryz.prog 16 [.ag (x.map u8),.i .i64 n,eS l,.i .i64 iss,.i .i64 day,.fz ids.length (ids.map (A.i .i64)),eo c] (cl (Gx l (iB x n l iss day ids c))):=by
 refine enter Tryz.func16 rfl Tryz.ntmps16 aw (Nat.le_of_ble_eq_true rfl) fun w0 X0 hI=>?_
 refine aa [645,96,0,659] ?_
 rcases(Decidable.em (dY n)).symm with hcs|hcs
 ·skip
  refine aa [1,50,0] ?_
  refine bJ rfl (b7 false rfl (.cons (.pure pu) (.cons (.pure pu) (.nil))) (bU.cast (GQ x n hx) (AS hcs)) pu (.inl rfl) rfl ?_)
  refine aa [671] ?_
  refine bJ rfl (cI 16 rfl bR rfl rfl ?_)
  refine aa [5,692,714,757,42] ?_
  rw [AG hcs];rfl
 ·have hsz := hcs
  obtain⟨k,rfl,hk1,hk2⟩:=qv hcs
  refine aa [1,50,0] ?_
  refine bJ rfl (b7 false rfl (.cons (.pure pu) (.cons (.pure pu) (.nil))) (bU.cast (GQ x k hx) ((xF ..).trans (by rw [decide_eq_true hsz];rfl:_= .tu [.ag ((fJ x (k:Int)).map u8),.i .i64 0]))) pu (.inl rfl) rfl ?_)
  refine aa [671] ?_
  refine bJ rfl (cI 16 rfl bR rfl rfl ?_)
  refine aa [5,692,710] ?_
  rcases ze (fJ x (k:Int)) k l with hcs|hcs
  ·have h0 := hcs
   refine aa [1,95,647,522,692] ?_
   refine s1 ((bE rfl).v (v':= .b true) (congrArg A.b (bne_iff_ne.2 h0))) rfl ?_
   refine aa [782,757,42] ?_
   rw [xk hsz h0];rfl
  ·obtain ⟨σ, hf, h0⟩ := hcs
   have hsup:=Be hf
   have hlk:=y6 hf h0
   have hSl:=vt σ
   refine aa [1,95,647,522,692] ?_
   refine s1 ((bE rfl).v (v':= .b false) (congrArg A.b (by rw [h0];rfl))) rfl ?_
   refine aa [779,675,648,25,0,646] ?_
   refine cm rfl (fun hc47=>?_) (fun hc47=>?_)
   ·have h43 : (l.length : Int) = (k : Int) := by simpa using hc47
    refine aa [648,257,832] ?_
    rw [xl hsz hf h0 h43];rfl
   ·have h43 : ¬ (l.length : Int) = (k : Int) := by simpa using hc47
    have hlt:l.length<k:=by omega
    refine aa [711,461,663,664,25,652,3] ?_
    rcases NL hf iss day c with hcs|hcs|hcs|hcs|hcs|hcs|hcs|hcs|hcs|hcs
    ·obtain ⟨h1, hA⟩ := hcs
     refine aa [649,523,0,725,705,705,705,12,747,747,677,706,748] ?_
     rw [gv hsz hf h0 h43 (.inl hA)];rfl
    ·obtain ⟨h0a, h1, hA⟩ := hcs
     refine aa [774,87,705,705,705,12,747,747,677,706,748] ?_
     rw [gv hsz hf h0 h43 (.inl hA)];rfl
    ·obtain ⟨⟨h0a, h1⟩, h2, hA⟩ := hcs
     refine aa [774,678,87,705,705,12,747,747,677,706,748] ?_
     rw [gv hsz hf h0 h43 (.inl hA)];rfl
    ·obtain ⟨⟨h0a, h1, h2⟩, h3, hA⟩ := hcs
     refine aa [774,678,678,87,705,12,747,747,677,706,748] ?_
     rw [gv hsz hf h0 h43 (.inl hA)];rfl
    ·obtain ⟨⟨r1, r2, r3, r4⟩, hA, hl0, hlE, hld, hk⟩ := hcs
     refine aa [774,678,678,678,165,7,688,725,12,747,12,7,777,7,244,140,706,748] ?_
     rw [gv hsz hf h0 h43 (.inr (.inr (.inl hk)))];rfl
    ·obtain ⟨⟨r1, r2, r3, r4⟩, hA, hl0, hlE, hld, hk⟩ := hcs
     have hsup1:=np hsup aq hk
     refine aa [774,678,678,678,165,7,688,725,12,747,12,7,777,7,244,92,673,771,526,690] ?_
     refine c5 (ι:=Nat) (fun i=> [(1,nJ k),(2,eS l),(3,.i .i64 iss),(4,.i .i64 day),(5,.fz ids.length (ids.map (A.i .i64))),(6,eo c),(7,.p 7 0),(20,nJ l.length),(21,eo (eL (cv σ c))),(22,nJ i)]) (fun i=>⟨[(7,some (x.map u8))]⟩) (fun i=>i≤ids.length∧eD ids=fZ (fA ids i) (ids.drop i)∧ -1≤fA ids i) (fun i=>ids.length - i) ?_ ?_
     ·exact c4 (0) (⟨Nat.zero_le _,sW ids,Int.le_refl _⟩) [(7,some 7)] hI rfl rfl ⟨⟨_,rfl,.pure pu⟩,⟨_,rfl,.pure pu⟩,⟨_,rfl,.pure pu⟩,⟨_,rfl,.pure pu⟩,⟨_,rfl,.pure pu⟩,⟨_,rfl,.pure pu⟩,⟨_,rfl,.p rfl⟩,⟨_,rfl,.pure pu⟩,⟨_,rfl,.pure pu⟩,⟨_,rfl,.pure pu⟩,trivial⟩ ⟨.inr ⟨_,_,rfl,rfl,.pure bO⟩,trivial⟩
     rintro i ⟨hii,hli,hla⟩
     refine aa [674,765] ?_
     refine cm rfl (fun hc103=>?_) (fun hc103=>?_)
     ·have h103 : i < ids.length := by have := of_decide_eq_true hc103; omega
      obtain⟨q,hq⟩:∃q,ids[i]? =some q:=⟨_,List.getElem?_eq_getElem h103⟩
      refine b9 <| bF <| bG <| cd <| bG ?_
      rcases Ey hq hla with hcs|hcs|hcs|hcs|hcs
      ·obtain ⟨h1, hb⟩ := hcs
       refine aa [802,300,6,693,14,741,775,14,754,786,700,42] ?_
       rw [gv hsz hf h0 h43 (.inr (.inr (.inr (oZ (l6 hli hq hb)))))];rfl
      ·obtain ⟨h0a, h1, hb⟩ := hcs
       refine aa [742,32,741,775,14,754,786,700,42] ?_
       rw [gv hsz hf h0 h43 (.inr (.inr (.inr (oZ (l6 hli hq hb)))))];rfl
      ·obtain ⟨⟨h0a, h1⟩, h2, ⟨p, hp, h5⟩, hb⟩ := hcs
       refine aa [742,766,76,245,246,796,32,10,754,786,700,42] ?_
       rw [gv hsz hf h0 h43 (.inr (.inr (.inr (oZ (l6 hli hq hb)))))];rfl
      ·obtain ⟨⟨h0a, h1⟩, h2, hb⟩ := hcs
       refine aa [742,787,729,693,797,10,11,673,676] ?_
       exact cO (i+1) (⟨by omega,nD hli hq hb,by rw [mm hq];omega⟩) aq [(7,some 7)] hI rfl rfl ⟨⟨_,rfl,.pure pu⟩,⟨_,rfl,.pure pu⟩,⟨_,rfl,.pure pu⟩,⟨_,rfl,.pure pu⟩,⟨_,rfl,.pure pu⟩,⟨_,rfl,.pure pu⟩,⟨_,rfl,.p rfl⟩,⟨_,rfl,.pure pu⟩,⟨_,rfl,.pure pu⟩,⟨_,rfl,.pure pu⟩,trivial⟩ ⟨.inr ⟨_,_,rfl,rfl,.pure bO⟩,trivial⟩
      ·obtain ⟨⟨h0a, h1⟩, h2, ⟨p, hp, h5⟩, hb⟩ := hcs
       refine aa [742,766,76,245,246,796,729,11,673,676] ?_
       exact cO (i+1) (⟨by omega,nD hli hq hb,by rw [mm hq];omega⟩) aq [(7,some 7)] hI rfl rfl ⟨⟨_,rfl,.pure pu⟩,⟨_,rfl,.pure pu⟩,⟨_,rfl,.pure pu⟩,⟨_,rfl,.pure pu⟩,⟨_,rfl,.pure pu⟩,⟨_,rfl,.pure pu⟩,⟨_,rfl,.p rfl⟩,⟨_,rfl,.pure pu⟩,⟨_,rfl,.pure pu⟩,⟨_,rfl,.pure pu⟩,trivial⟩ ⟨.inr ⟨_,_,rfl,rfl,.pure bO⟩,trivial⟩
     ·obtain rfl : i = ids.length := by have := of_decide_eq_false hc103; omega
      have hlis:=sV hli
      refine aa [687,661,527,708,19,0,34,646] ?_
      refine cm rfl (fun hc144=>?_) (fun hc144=>?_)
      ·have h144 : (eY (cv σ c) ids).length ≠ (fe (cv σ c)).length := by have := bne_iff_ne.1 hc144; rw [← vr]; omega
       refine aa [748] ?_
       rw [gv hsz hf h0 h43 (.inr (.inr (.inr (A8 h144))))];rfl
      ·have h144 : (eY (cv σ c) ids).length = (fe (cv σ c)).length := by have := bne_eq_false_iff_eq.1 hc144; rw [← vr]; omega
       have hs:=uE hlis h144
       have hbl:=rM (cv σ c) ids
       have hgl:=rN (cv σ c) ids
       obtain⟨hbE,hbF⟩:=vn (x:=kR x l.length) (p:=(eY (cv σ c) ids)) (q:=(fP (cv σ c) ids)) aq aq
       have hok0:(fQ x l iss day ids c (cv σ c)).ok:=wP hn hi hd hc hcr
       have hokN:(fl x k l iss day ids c (cv σ c)).ok:=p9 hn hi hd hc hcr
       have hNl:=hokN.len
       refine aa [669,50,0,528,647,529,671] ?_
       refine bJ rfl (cI 25 rfl dO rfl rfl ?_)
       refine aa [236,692,694,771,647,315] ?_
       refine bJ rfl (cI 27 rfl cT rfl rfl ?_)
       refine aa [316,654,530,1,237,531,671,125,532,727,525,779,675,533] ?_
       refine gR 27 rfl wV ?_
       refine aa [30,534,22,17,535,536,537,181,126] ?_
       refine bK 8 [6] [] (bE rfl) rfl rfl ?_
       refine aa [538,539,2,654,38,540,22,541,542,543,544] ?_
       refine bK 6 [5] [(192,some 5)] (bE rfl) rfl rfl ?_
       refine aa [2,657,545,546,42] ?_
       rw [ql hsz hf h0 h43 hA hlE hk hs];exact congrArg (fun n=>A.tu [.fz n (fm (l++ [(fl x k l iss day ids c (cv σ c))])),.i .i64 0]) (show l.length+1=(l++ [(fl x k l iss day ids c (cv σ c))]).length by simp)
    ·obtain ⟨⟨r1, r2, r3, r4⟩, hA, hl0, ⟨e0, he0, hi0⟩, hlE⟩ := hcs
     refine aa [774,678,678,678,87,696,7,247,97,248] ?_
     refine g1 rfl rfl ((bE rfl).v (v':= .b true) (congrArg A.b (bne_iff_ne.2 aq))) rfl ?_
     refine aa [7,688,688,696,732,706,748] ?_
     rw [gv hsz hf h0 h43 (.inr (.inl hlE))];rfl
    ·obtain ⟨⟨r1, r2, r3, r4⟩, hA, hl0, ⟨e0, he0, hi0⟩, ⟨e, he, hed⟩, hlE⟩ := hcs
     refine aa [774,678,678,678,87,696,7,247,97,248,321,696,696,322,323,97,324,87,696,732,706,748] ?_
     rw [gv hsz hf h0 h43 (.inr (.inl hlE))];rfl
    ·obtain ⟨⟨r1, r2, r3, r4⟩, hA, hl0, ⟨e0, he0, hi0⟩, ⟨e, he, hed, hld⟩, hlE, hk⟩ := hcs
     refine aa [774,678,678,678,87,696,7,247,97,248,321,696,696,322,323,97,324,165,696,777,7,244,140,706,748] ?_
     rw [gv hsz hf h0 h43 (.inr (.inr (.inl hk)))];rfl
    ·obtain ⟨⟨r1, r2, r3, r4⟩, hA, hl0, ⟨e0, he0, hi0⟩, ⟨e, he, hed, hld⟩, hlE, hk⟩ := hcs
     have hsup1:=np hsup aq hk
     have heo:=hl e (List.mem_of_getElem? he)
     refine aa [774,678,678,678,87,696,7,247,97,248,321,696,696,322,323,97,324,165,696,777,7,244,92,673,771,526,690] ?_
     refine c5 (ι:=Nat) (fun i=> [(1,nJ k),(2,eS l),(3,.i .i64 iss),(4,.i .i64 day),(5,.fz ids.length (ids.map (A.i .i64))),(6,eo c),(7,.p 7 0),(20,nJ l.length),(21,eo (eL (cv σ c))),(22,nJ i)]) (fun i=>⟨[(7,some (x.map u8))]⟩) (fun i=>i≤ids.length∧eD ids=fZ (fA ids i) (ids.drop i)∧ -1≤fA ids i) (fun i=>ids.length - i) ?_ ?_
     ·exact c4 (0) (⟨Nat.zero_le _,sW ids,Int.le_refl _⟩) [(7,some 7)] hI rfl rfl ⟨⟨_,rfl,.pure pu⟩,⟨_,rfl,.pure pu⟩,⟨_,rfl,.pure pu⟩,⟨_,rfl,.pure pu⟩,⟨_,rfl,.pure pu⟩,⟨_,rfl,.pure pu⟩,⟨_,rfl,.p rfl⟩,⟨_,rfl,.pure pu⟩,⟨_,rfl,.pure pu⟩,⟨_,rfl,.pure pu⟩,trivial⟩ ⟨.inr ⟨_,_,rfl,rfl,.pure bO⟩,trivial⟩
     rintro i ⟨hii,hli,hla⟩
     refine aa [674,765] ?_
     refine cm rfl (fun hc103=>?_) (fun hc103=>?_)
     ·have h103 : i < ids.length := by have := of_decide_eq_true hc103; omega
      obtain⟨q,hq⟩:∃q,ids[i]? =some q:=⟨_,List.getElem?_eq_getElem h103⟩
      refine b9 <| bF <| bG <| cd <| bG ?_
      rcases Ey hq hla with hcs|hcs|hcs|hcs|hcs
      ·obtain ⟨h1, hb⟩ := hcs
       refine aa [802,300,6,693,14,741,775,14,754,786,700,42] ?_
       rw [gv hsz hf h0 h43 (.inr (.inr (.inr (oZ (l6 hli hq hb)))))];rfl
      ·obtain ⟨h0a, h1, hb⟩ := hcs
       refine aa [742,32,741,775,14,754,786,700,42] ?_
       rw [gv hsz hf h0 h43 (.inr (.inr (.inr (oZ (l6 hli hq hb)))))];rfl
      ·obtain ⟨⟨h0a, h1⟩, h2, ⟨p, hp, h5⟩, hb⟩ := hcs
       refine aa [742,766,76,245,246,796,32,10,754,786,700,42] ?_
       rw [gv hsz hf h0 h43 (.inr (.inr (.inr (oZ (l6 hli hq hb)))))];rfl
      ·obtain ⟨⟨h0a, h1⟩, h2, hb⟩ := hcs
       refine aa [742,787,729,693,797,10,11,673,676] ?_
       exact cO (i+1) (⟨by omega,nD hli hq hb,by rw [mm hq];omega⟩) aq [(7,some 7)] hI rfl rfl ⟨⟨_,rfl,.pure pu⟩,⟨_,rfl,.pure pu⟩,⟨_,rfl,.pure pu⟩,⟨_,rfl,.pure pu⟩,⟨_,rfl,.pure pu⟩,⟨_,rfl,.pure pu⟩,⟨_,rfl,.p rfl⟩,⟨_,rfl,.pure pu⟩,⟨_,rfl,.pure pu⟩,⟨_,rfl,.pure pu⟩,trivial⟩ ⟨.inr ⟨_,_,rfl,rfl,.pure bO⟩,trivial⟩
      ·obtain ⟨⟨h0a, h1⟩, h2, ⟨p, hp, h5⟩, hb⟩ := hcs
       refine aa [742,766,76,245,246,796,729,11,673,676] ?_
       exact cO (i+1) (⟨by omega,nD hli hq hb,by rw [mm hq];omega⟩) aq [(7,some 7)] hI rfl rfl ⟨⟨_,rfl,.pure pu⟩,⟨_,rfl,.pure pu⟩,⟨_,rfl,.pure pu⟩,⟨_,rfl,.pure pu⟩,⟨_,rfl,.pure pu⟩,⟨_,rfl,.pure pu⟩,⟨_,rfl,.p rfl⟩,⟨_,rfl,.pure pu⟩,⟨_,rfl,.pure pu⟩,⟨_,rfl,.pure pu⟩,trivial⟩ ⟨.inr ⟨_,_,rfl,rfl,.pure bO⟩,trivial⟩
     ·obtain rfl : i = ids.length := by have := of_decide_eq_false hc103; omega
      have hlis:=sV hli
      refine aa [687,661,527,708,19,0,34,646] ?_
      refine cm rfl (fun hc144=>?_) (fun hc144=>?_)
      ·have h144 : (eY (cv σ c) ids).length ≠ (fe (cv σ c)).length := by have := bne_iff_ne.1 hc144; rw [← vr]; omega
       refine aa [748] ?_
       rw [gv hsz hf h0 h43 (.inr (.inr (.inr (A8 h144))))];rfl
      ·have h144 : (eY (cv σ c) ids).length = (fe (cv σ c)).length := by have := bne_eq_false_iff_eq.1 hc144; rw [← vr]; omega
       have hs:=uE hlis h144
       have hbl:=rM (cv σ c) ids
       have hgl:=rN (cv σ c) ids
       obtain⟨hbE,hbF⟩:=vn (x:=kR x l.length) (p:=(eY (cv σ c) ids)) (q:=(fP (cv σ c) ids)) aq aq
       have hok0:(fQ x l iss day ids c (cv σ c)).ok:=wP hn hi hd hc hcr
       have hokN:(fl x k l iss day ids c (cv σ c)).ok:=p9 hn hi hd hc hcr
       have hNl:=hokN.len
       refine aa [669,50,0,528,647,529,671] ?_
       refine bJ rfl (cI 25 rfl dO rfl rfl ?_)
       refine aa [236,692,694,771,647,315] ?_
       refine bJ rfl (cI 27 rfl cT rfl rfl ?_)
       refine aa [316,654,530,1,237,531,671,125,532,727,523,782,658] ?_
       refine s1 ((iq rfl rfl aq aq).v (v':=nJ (l.length - 1)) (congrArg (A.i .i64) aq)) rfl ?_
       refine aa [489] ?_
       refine s1 (dw cT rfl rfl (kI hl he) heo.len) rfl <| bJ rfl (b7 false rfl (.cons (.pure pu) (.nil)) (r9 e heo) pu (.inl rfl) rfl ?_)
       refine aa [125] ?_
       refine bJ rfl (ky bR rfl rfl rfl rfl rfl (show((dX e).map u8).length=32 by simp) (by rw [rV aA rfl];decide) (FO aA rfl) ?_)
       refine aa [654,533] ?_
       refine gR 27 rfl wV ?_
       refine aa [30,534,22,17,535,536,537,181,126] ?_
       refine bK 8 [6] [] (bE rfl) rfl rfl ?_
       refine aa [538,539,2,654,38,540,22,541,542,543,544] ?_
       refine bK 6 [5] [(192,some 5)] (bE rfl) rfl rfl ?_
       refine aa [2,657,545,546,42] ?_
       rw [ql hsz hf h0 h43 hA hlE hk hs];exact congrArg (fun n=>A.tu [.fz n (fm (l++ [(fl x k l iss day ids c (cv σ c))])),.i .i64 0]) (show l.length+1=(l++ [(fl x k l iss day ids c (cv σ c))]).length by simp)
-- E5T
theorem LJ (σ:Int→Int):(fe σ).mergeSort (fun x y=>decide (x≤y))=fe σ:=by
  refine List.mergeSort_of_pairwise ?_
  refine List.Pairwise.filter _ ?_
  rw [List.pairwise_map]
  exact List.pairwise_lt_range.imp fun h=>by simp;omega
theorem EJ (σ:Int→Int):(fe σ).length≤1024:=by
  have:=List.length_filter_le (fun n=>σ n !=0) ((List.range 1024).map fun k:Nat=>(k:Int))
  simpa [fe]using this
theorem Ms {es:Array MapEntry} {clk:Nat} {f:Int→Option Value} (h:fG es clk f) {L:List Int} (hn:L.Nodup) (hL:∀k,(f k).isSome=true↔k∈L):(es.toList.map jm).Perm L:=by
  have hk:∀x∈es.toList,x.key= .int .i64 (jm x)∧f (jm x)=some x.val:=fun x hx=>by
    obtain⟨k,e1,e2⟩:=h.ent x hx
    have:jm x=k:=by unfold jm;rw [e1]
    rw [this];exact⟨e1,e2⟩
  have hnd:(es.toList.map jm).Nodup:=by
    have h3:=h.st.2.2
    rw [List.nodup_iff_pairwise_ne]at h3 ⊢
    rw [List.pairwise_map]at h3 ⊢
    refine h3.imp_of_mem fun {a b} ha hb hne e=>hne ?_
    rw [(hk a ha).1,(hk b hb).1,e]
  exact(List.perm_ext_iff_of_nodup hnd hn).2 fun k=>by
    rw [←hL k,List.mem_map]
    constructor
    · rintro ⟨x, hx, rfl⟩
      rw [(hk x hx).2];rfl
    · intro hs
      obtain⟨v,hv⟩:=Option.isSome_iff_exists.1 hs
      obtain⟨x,hx,e⟩:=h.has k v hv
      exact⟨x,hx,by unfold jm;rw [e]⟩
theorem Nr {H:Type} {P:Program} {k:TypeId} (hk:P.underlying k=some (.int .i64)) {σ:Int→Int} (hs:jg σ) {w:World} {b:Nat} {es:Array MapEntry} {clk:Nat} (hb:w.heap[b]? =some (.map es clk)) (hF:fG es clk (mapOf σ)):
    ∃D0:DataW H,w.ownsMap P k (fun _=>some (.nil, [])) b 1024 D0∧(intKeys D0).Perm (fe σ)∧Maps.size D0≤1024:=by
  have hsz:=hF.size (Ai σ) (wq hs)
  have hkl:=EJ σ
  have hrd:∀x∈es.toList,Go.WideElems.rd (H:=H) P k (fun _=>some (.nil, [])) x=some (.int .i64 (jm x),.nil):=fun x hx=>by
    obtain⟨q,e1,e2⟩:=hF.ent x hx
    have hq:jm x=q:=by unfold jm;rw [e1]
    have h0:σ q≠0:=by
      unfold mapOf at e2
      split at e2
      · cases e2
      · assumption
    obtain⟨h1,h2⟩:=hs q h0
    have hw:(Lit.int .i64 q).wf=true:=by
      have hmin:IntKind.i64.min= -9223372036854775808:=by decide
      simp only [Lit.wf,decide_eq_true_eq,Bool.and_eq_true]
      simp
      exact⟨by rw [hmin];omega,by omega⟩
    rw [hq]
    show(keyOf P k x.key).bind _=_
    rw [e1,Go.Maps.keyOf_int_mk hk hw]
    rfl
  refine⟨_,⟨es,clk,hb,⟨by rw [hsz];exact Nat.le_trans hkl az,hF.st,fun x hx=>⟨_,hrd x hx⟩⟩,by rw [hsz];exact hkl,rfl⟩,?_,?_⟩
  · show ((es.toList.map (Go.WideElems.rg P k (fun _ => some (.nil, [])))).foldr DataW.insert [] |>.map fun p => intOf p.1).Perm _
    refine((Go.WideShapes.sorted_perm _).map _).trans ?_
    rw [List.map_map]
    have:es.toList.map ((fun p:Lit×DataW H=>intOf p.1) ∘ Go.WideElems.rg P k (fun _=>some (.nil, [])))=es.toList.map jm:=List.map_congr_left fun x hx=>by
      show intOf (Go.WideElems.rg P k (fun _=>some (.nil, [])) x).1=_
      rw [Go.WideElems.rg_of (hrd x hx)];rfl
    rw [this]
    exact Ms hF (Ai σ) (wq hs)
  · show ((es.toList.map (Go.WideElems.rg P k (fun _ => some (.nil, [])))).foldr DataW.insert []).length ≤ 1024
    rw [(Go.WideShapes.sorted_perm _).length_eq,List.length_map,Array.length_toList,hsz]
    exact hkl
end Go.Abs.D2
