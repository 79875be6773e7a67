/-
  The engine, the plain laws and the walks that the rows need, part 21. Conditions: none.
-/
import Derived.Test.YteempkifmbclgaaGreatDoorM20
set_option linter.unusedVariables false
set_option linter.unusedSimpArgs false
set_option maxHeartbeats 1000000
set_option maxRecDepth 10000
-- E5C
namespace Go.Abs.D2
open Go Go.Eng Go.Abs Go.Proofs
theorem tG (n:Int):bU Tryz.prog 68 [.i .i64 n] (cl (.ag (CV.cells (dB n)))):=by
 refine enter Tryz.func68 rfl Tryz.ntmps68 aw (Nat.le_of_ble_eq_true rfl) fun w0 X0 hI=>?_
 refine aa [767,743,93,40] ?_
 rfl
theorem Dw (l:List CV):bU Tryz.prog 67 [.fz l.length (CV.dt l)] (cl (.ag (CV.cells (eT l)))):=by
 refine enter Tryz.func67 rfl Tryz.ntmps67 aw (Nat.le_of_ble_eq_true rfl) fun w0 X0 hI=>?_
 refine aa [767,743,40] ?_
 rfl
theorem Kz:bU Tryz.prog 67 [.nl] (cl (.ag [.i .i64 3,.i .i64 0,.s [],.nl])):=by
 refine enter Tryz.func67 rfl Tryz.ntmps67 aw (Nat.le_of_ble_eq_true rfl) fun w0 X0 hI=>?_
 refine aa [767,743,40] ?_
 rfl
theorem DL (x:List UInt8) (hx:x.length=32):bU Tryz.prog 70 [.ag (x.map u8)] (cl (.ag (CV.cells (fh x)))):=by
 refine enter Tryz.func70 rfl Tryz.ntmps70 aw (Nat.le_of_ble_eq_true rfl) fun w0 X0 hI=>?_
 refine aa [670,293,654,188,1] ?_
 refine s1 ((nv (ds:=((x.map u8).drop (0*1)).take (32*1)) 32 Tryz.underlying23 cr rfl aI bn bn (Nat.zero_le _) (Nat.le_refl _) aH rfl rfl).v (zl hx)) rfl <| s1 (qI Tryz.underlying68 Tryz.underlying5 Tryz.underlying9 rfl rfl (by rw [hx])) rfl ?_
 refine aa [743,93,40] ?_
 rfl
theorem pO (e:Ep) (h:e.ok):bU Tryz.prog 22 [.ag e.cells] (cl (.ag ((dX e).map u8))):=by
 refine enter Tryz.func22 rfl Tryz.ntmps22 aw (Nat.le_of_ble_eq_true rfl) fun w0 X0 hI=>?_
 refine aa [670,28,654] ?_
 have hfew:=h.g9
 refine bI <| bJ rfl (b7 false rfl (.cons (.pure pu) .nil) (Kz) pu (.inl rfl) rfl ?_)
 refine aa [294,99,654,645,109,75,34,667] ?_
 refine c5 (ι:=Nat) (fun i=> [(1,.p 1 0),(2,.p 2 0),(3,.p 3 0),(10,eo e.ch),(11,nJ e.ch.length),(12,nJ i)]) (fun i=>⟨[(1,some (e.cells)),(2,some (zD.map u8)),(3,some ([.i .i64 3,.i .i64 0,.s [],.sl 127 4 0 i])),(127,some (CV.dt ((e.ch.take i).map ga)))]⟩) (fun i=>i≤e.ch.length) (fun i=>e.ch.length - i) ?_ ?_
 ·exact c4 (0) (Nat.zero_le _) [(1,some 1),(2,some 2),(3,some 3),(127,none)] hI rfl rfl ⟨⟨_,rfl,.p rfl⟩,⟨_,rfl,.p rfl⟩,⟨_,rfl,.p rfl⟩,⟨_,rfl,.pure pu⟩,⟨_,rfl,.pure pu⟩,⟨_,rfl,.pure pu⟩,trivial⟩ ⟨.inr ⟨_,_,rfl,rfl,.pure bO⟩,.inr ⟨_,_,rfl,rfl,.pure bO⟩,.inr ⟨_,_,rfl,rfl,.cons (.pure pu) (.cons (.pure pu) (.cons (.pure pu) (.cons (.nl rfl) .nil)))⟩,.inl ⟨rfl,rfl⟩,trivial⟩
 rintro i hi
 refine aa [651] ?_
 refine cm rfl (fun hc13=>?_) (fun hc13=>?_)
 ·have h13 : i < e.ch.length := by have := of_decide_eq_true hc13; omega
  obtain⟨c,hc⟩:∃c,e.ch[i]? =some c:=⟨_,List.getElem?_eq_getElem h13⟩
  refine aa [672,128] ?_
  refine s1 (dw c8 rfl rfl (s9 hc) rfl) rfl <| bJ rfl (cI 5 rfl c8 rfl rfl ?_)
  refine aa [327,656,94,295,296] ?_
  refine bK 2 [] [(5,none)] (bX Tryz.underlying55 rfl bL az rfl rfl) rfl rfl ?_
  refine aa [409] ?_
  refine c7 false 4 [3] [] cz rfl (.cons (.pure pu) (.nil)) (tG c.id) pu (.inl rfl) rfl rfl <| bK 5 [] [(5,none)] (bX Tryz.underlying55 rfl bL az rfl rfl) rfl rfl <| bK 6 [5] [(5,none)] (bM bL rfl rfl rfl) rfl rfl <| c7 false 7 [6] [] cz rfl (.cons (.pure pu) (.nil)) (tG c.st) pu (.inl rfl) rfl rfl <| jl 24 8 [4,7] cz Tryz.underlying107 cP rfl rfl rfl aQ (show _=CV.dt [dB c.id,dB c.st]from rfl) rfl rfl rfl rfl <| z2 24 9 [8] [(24,some 8)] cz rfl rfl bO rfl (CV.s7 [dB c.id,dB c.st]) rfl (by exact bO) (Dw [dB c.id,dB c.st]) pu rfl rfl <| jl 26 10 [9] cz Tryz.underlying107 cP rfl rfl rfl aQ (rX (ga c)) rfl rfl rfl rfl <| gp 27 11 [1,10] [(26,some 10),(127,none)] cz Tryz.underlying107 cP rfl (.sl rfl aE) rfl (dH rfl ar) aA aC aq rfl rfl rfl rfl ?_
  refine aa [410,2,189,685] ?_
  exact cO (i+1) aq aq [(1,some 1),(2,some 2),(3,some 3),(127,some 27)] hI rfl rfl ⟨⟨_,rfl,.p rfl⟩,⟨_,rfl,.p rfl⟩,⟨_,rfl,.p rfl⟩,⟨_,rfl,.pure pu⟩,⟨_,rfl,.pure pu⟩,⟨_,rfl,.pure pu⟩,trivial⟩ ⟨.inr ⟨_,_,rfl,rfl,.pure bO⟩,.inr ⟨_,_,rfl,rfl,.pure bO⟩,.inr ⟨_,_,rfl,rfl,.cons (.pure pu) (.cons (.pure pu) (.cons (.pure pu) (.cons (.sl rfl aA) .nil)))⟩,.inr ⟨_,_,rfl,rfl,.of (CA hc) (.pure bO)⟩,trivial⟩
 ·obtain rfl : i = e.ch.length := by have := of_decide_eq_false hc13; omega
  refine aa [684] ?_
  refine dP 127 (cs':=CV.dt (e.ch.map ga)) rfl aN ?_
  refine aa [297] ?_
  refine dh ⟨_, [], []⟩ 23 4 cL (le_refl rfl) <| bK 0 [] [(1,none)] (bX Tryz.underlying45 rfl bL az rfl rfl) rfl rfl ?_
  refine aa [172] ?_
  refine c7 false 2 [1] [] cz rfl (.cons (.pure pu) (.nil)) (tG e.iss) pu (.inl rfl) rfl rfl <| bK 3 [] [(1,none)] (bX Tryz.underlying45 rfl bL az rfl rfl) rfl rfl <| bK 4 [3] [(1,none)] (bM bL rfl rfl rfl) rfl rfl <| c7 false 5 [4] [] cz rfl (.cons (.pure pu) (.nil)) (tG e.no) pu (.inl rfl) rfl rfl <| bK 6 [] [(1,none)] (bX Tryz.underlying45 rfl bL az rfl rfl) rfl rfl <| bK 7 [6] [(1,none)] (bM bL rfl rfl rfl) rfl rfl <| c7 false 8 [7] [] cz rfl (.cons (.pure pu) (.nil)) (tG e.day) pu (.inl rfl) rfl rfl ?_
  refine aa [411] ?_
  refine bK 10 [] [(1,none)] (bX Tryz.underlying45 rfl bR az rfl rfl) rfl rfl <| bK 11 [10] [(1,none)] (dw bR rfl rfl (oD h) (by simp [h.dc])) rfl rfl <| c7 false 12 [11] [] cz rfl (.cons (.pure pu) (.nil)) (DL e.dc h.dc) pu (.inl rfl) rfl rfl <| bK 13 [] [(1,none)] (bX Tryz.underlying45 rfl bR az rfl rfl) rfl rfl <| bK 14 [13] [(1,none)] (dw bR rfl rfl (jP h) (by simp [h.prev])) rfl rfl <| c7 false 15 [14] [] cz rfl (.cons (.pure pu) (.nil)) (DL e.prev h.prev) pu (.inl rfl) rfl rfl <| jl 47 16 [2,5,8,9,12,15] cz Tryz.underlying107 cP rfl rfl rfl aQ (show _=CV.dt [dB e.iss,dB e.no,dB e.day,eT (e.ch.map ga),fh e.dc,fh e.prev]from rfl) rfl rfl rfl rfl <| z2 47 17 [16] [(47,some 16)] cz rfl rfl bO rfl (CV.s7 [dB e.iss,dB e.no,dB e.day,eT (e.ch.map ga),fh e.dc,fh e.prev]) rfl (by exact bO) (Dw [dB e.iss,dB e.no,dB e.day,eT (e.ch.map ga),fh e.dc,fh e.prev]) pu rfl rfl <| c7 false 18 [17] [] cz rfl (.cons (.pure pu) (.nil)) (bU.cast (Cs 3 0 [] [dB e.iss,dB e.no,dB e.day,eT (e.ch.map ga),fh e.dc,fh e.prev] (Hn h) (GI h) (Nat.le_trans (tE h) aq)) (Dy e)) pu (.inl rfl) rfl rfl <| bK 19 [18] [] (bE rfl) rfl rfl <| bK 20 [19] [] (bE rfl) rfl rfl <| bK 21 [19] [] (bE rfl) rfl rfl <| bK 22 [20] [] (bE rfl) rfl rfl ?_
  refine aa [2,652] ?_
  have hel:=tE h
  refine aa [649] ?_
  refine bJ rfl (b7 false rfl (.cons (.pure pu) (.cons (.pure pu) (.nil))) (bU.cast (kB xP (jk e).enc aq az) (congrArg (fun l:List UInt8=>A.ag (l.map u8)) (tr e).symm)) pu (.inl rfl) rfl ?_)
  refine aa [712,412] ?_
  rfl
end Go.Abs.D2
-- C4T
namespace Go.Abs.D2
open Go Go.Eng Go.Abs
def two (e:CV):Bool:=decide (e.ls.length=2)
theorem HR {l:List A} {m m':List A} (h:jK m m'):jK (l++m) (l++m'):=by
  induction l with
  |nil=>exact h
  |cons a l ih=>exact .cons (.eq rfl) ih
def Sm (N:Nat) (u:CV):Prop:=(u.okB=true∧u.enc.length≤N)∨u=zV
theorem Sm.parts {N:Nat} {u:CV} (h:Sm N u):(∀e∈u.ls,Sm N e)∧u.st.length≤N∧u.ls.length≤N:=by
  rcases h with ⟨ho,hl⟩|rfl
  · obtain ⟨k, n, s, l⟩ := u
    rcases ui ho with rfl|rfl|⟨rfl,h1⟩
    · rw [CV.okB, if_pos rfl] at ho
      simp only [Bool.and_eq_true,List.isEmpty_iff]at ho
      obtain⟨rfl,rfl⟩:=ho
      exact⟨(fun e he=>by cases he),Nat.zero_le _,Nat.zero_le _⟩
    · rw [CV.okB, if_neg az, if_pos rfl] at ho
      simp only [Bool.and_eq_true,List.isEmpty_iff]at ho
      obtain⟨_,rfl⟩:=ho
      have:=KA n s []
      exact⟨(fun e he=>by cases he),show s.length≤N by omega,Nat.zero_le _⟩
    · rw [CV.okB, if_neg az, if_neg az, if_pos rfl] at ho
      simp only [Bool.and_eq_true,List.isEmpty_iff]at ho
      obtain⟨⟨_,rfl⟩,_⟩:=ho
      rw [CV.oR]at h1
      have e1:=KC n [] l
      have e2:=CV.wx l
      exact⟨fun e he=> .inl ⟨List.all_eq_true.1 h1 e he,by have:=Fv (show e∈l from he);omega⟩,Nat.zero_le _,show l.length≤N by omega⟩
  · exact⟨(fun e he=>by cases he),Nat.zero_le _,Nat.zero_le _⟩
theorem Sm.nth {N:Nat} {u:CV} (h:Sm N u) (i:Nat):Sm N (mR u i):=by
  unfold mR
  rw [List.getD_eq_getElem?_getD]
  cases hi:u.ls[i]? with
  |none=>exact .inr rfl
  |some e=>exact h.parts.1 e (List.mem_of_getElem? hi)
theorem Sm.dc {N:Nat} {v:CV} (h:Sm N v):(∀f∈(AL v).F,f.D.length≤N)∧(AL v).E.length≤N∧(AL v).F.length≤N:=by
  refine⟨fun f hf=>?_,?_,?_⟩
  · obtain ⟨i, hi⟩ := List.mem_iff_getElem?.1 hf
    have hi:(List.mapIdx DP (mR v 1).ls)[i]? =some f:=hi
    rw [List.getElem?_mapIdx]at hi
    obtain⟨e,he,rfl⟩:=Option.map_eq_some_iff.1 hi
    exact(((h.nth 1).parts.1 e (List.mem_of_getElem? he)).nth 1).parts.2.1
  · show ((mR v 2).ls.map CV.nm).length ≤ N
    rw [List.length_map];exact(h.nth 2).parts.2.2
  · show (vT (mR v 1).ls).length ≤ N
    rw [Md];exact(h.nth 1).parts.2.2
def rf (a b:List Int):Bool:=a.any fun n=>decide (n∈b)
theorem CY (a b:List Int):rf a b= !(Go.Eng.kV a b):=by
  unfold rf Go.Eng.kV
  rw [Bool.eq_iff_iff]
  simp only [List.any_eq_true,decide_eq_true_eq,Bool.not_eq_true',List.all_eq_false]
  exact⟨fun⟨n,h1,h2⟩=>⟨n,h2,by simp [h1]⟩,fun⟨n,h1,h2⟩=>⟨n,by simpa using h2,h1⟩⟩
theorem JU {a b:List Int} {i:Nat} {q:Int} (h:a[i]? =some q) (hq:q∈b):rf a b=true:=by
  unfold rf;rw [List.any_eq_true];exact⟨q,List.mem_of_getElem? h,decide_eq_true hq⟩
theorem JT {a b:List Int} (h:(a.take a.length).any (fun n=>decide (n∈b))=false):rf a b=false:=by rwa [List.take_length]at h
theorem IF {a b:List Int} {i:Nat} {q:Int} (hq:a[i]? =some q) (h:(a.take i).any (fun n=>decide (n∈b))=false) (h2:q∉b):(a.take (i+1)).any (fun n=>decide (n∈b))=false:=by
  rw [List.take_add_one,hq,List.any_append,h];simp [h2]
theorem MK (a:List Int):min 4096 (max 8 (4*a.length))=ff a:=by unfold ff;omega
theorem EU (x:List UInt8) (n:Nat) (a l:List Int):(jz x (n:Nat) (ff a:Nat) (mD (ff a)) l).length≤1000000:=by
  have:=(p8 a).2
  rw [L5];unfold mD;rw [List.length_replicate];omega
theorem Mc (x:List UInt8) (n:Nat) (a:List Int):(lG x n a).D.length≤1000000:=EU x n a a
-- V6S
def wm (p q:List UInt8):Nat→List UInt8
  |0=>List.replicate 16 0
  |i+1=>(wm p q i).set i (p.getD i 0 ^^^ q.getD i 0)
@[simp] theorem Me (p q : List UInt8) : ∀ i, (wm p q i).length = 16
  |0=>by simp [wm]
  |i+1=>by rw [wm,List.length_set,Me p q i]
theorem Eg {l:List Bool} {i:Nat} {b:Bool} (h:l[i]? =some b):((l.map A.b).drop (i*1))[0]? =some (.b b):=by
  rw [List.getElem?_drop,show i*1+0=i by omega,List.getElem?_map,h];rfl
-- S7V
theorem ra {x : List UInt8} {p q : List Int} (h : kN p q = true) : fO (fT x p q) = true := by
  have hsub:=vk x p q (jO x p q)
  have hE:=DB x p q
  have hasc : ∀ n, eD (bS x p q n).2.1 = true ∧ eD (bS x p q n).2.2 = true := by
    intro n
    induction n with
    | zero =>
      unfold kN at h
      simp only [Bool.and_eq_true]at h
      exact⟨h.1.1,h.1.2⟩
    | succ n ih =>
      refine⟨?_,ih.1⟩
      rw [bS]
      have key:∀(l:List Int) (f:Int→Bool) (last:Int),fZ last l=true→fZ last (l.filter f)=true:=by
        intro l f
        induction l with
        |nil=>intro last _;rfl
        | cons a l ih2 =>
          intro last hl
          simp only [fZ,Bool.and_eq_true,decide_eq_true_eq]at hl
          cases hf:f a with
          | true =>
            rw [List.filter_cons_of_pos hf]
            simp only [fZ,Bool.and_eq_true,decide_eq_true_eq]
            exact⟨hl.1,ih2 _ hl.2⟩
          | false =>
            rw [List.filter_cons_of_neg (by rw [hf];simp)]
            have h3:=ih2 a hl.2
            have mono:∀(m:List Int) (u v:Int),u≤v→fZ v m=true→fZ u m=true:=by
              intro m u v huv hm
              cases m with
              |nil=>rfl
              | cons b m =>
                simp only [fZ,Bool.and_eq_true,decide_eq_true_eq]at hm ⊢
                exact⟨⟨by omega,hm.1.2⟩,hm.2⟩
            exact mono _ _ _ aq h3
      exact key _ _ _ ih.2
  have hlev:∀n,n≤16→∀F:List eX,(∀i,i<F.length→∃a,F[i]? =some (lG x (n+i) a))→n+F.length≤16→gI n F=true:=by
    intro n hn F
    induction F generalizing n with
    |nil=>intro _ _;rfl
    | cons f F ih =>
      intro hF hl
      rw [List.length_cons]at hl
      obtain⟨a,ha⟩:=hF 0 aA
      simp only [List.getElem?_cons_zero,Option.some.injEq,Nat.add_zero]at ha
      subst ha
      simp only [gI,Bool.and_eq_true,decide_eq_true_eq]
      refine⟨⟨rfl,JI x n a aq⟩,ih (n+1) aq (fun i hi=>?_) aq⟩
      obtain⟨b,hb⟩:=hF (i+1) (by rw [List.length_cons];omega)
      exact⟨b,by rw [List.getElem?_cons_succ]at hb;rw [hb,show n+1+i=n+(i+1) by omega]⟩
  refine y5 ?_ (hasc _).1 ?_
  · show (bS x p q (jO x p q)).1.length ≤ 16
    rw [ko];exact hE
  · refine hlev 0 aq _ (fun i hi => ?_) ?_
    · have hi' : i < jO x p q := by
        have:i<(bS x p q (jO x p q)).1.length:=hi
        rwa [ko]at this
      exact⟨_,by rw [Nat.zero_add];exact Cb x p q _ i hi'⟩
    · show 0 + (bS x p q (jO x p q)).1.length ≤ 16
      rw [ko];omega
-- C4U
theorem vn {x:List UInt8} {p q:List Int} (hp:p.length≤100) (hq:q.length≤100):(fT x p q).E.length≤100∧(fT x p q).F.length≤16:=by
  refine⟨(s5 hp hq _).1,?_⟩
  show(bS x p q (jO x p q)).1.length≤16
  rw [ko];exact DB x p q
theorem CN {c:dL} (h:fO c=true):c.E.length≤1024∧c.F.length≤16∧∀f∈c.F,f.D.length≤1000000:=by
  obtain⟨h1,h2,_⟩:=q9 h
  exact⟨wC h2,h1,fun f hf=>by obtain⟨k1,k2,k3⟩:=y3 h f hf;omega⟩
-- E5Q
def eY (σ:Int→Int) (l:List Int):List Int:=l.filter fun n=>σ n !=0
def fP (σ:Int→Int) (l:List Int):List Int:=l.filter fun n=>!(σ n !=0)
def fe (σ:Int→Int):List Int:=((List.range 1024).map fun k:Nat=>(k:Int)).filter fun n=>σ n !=0
def jg (σ:Int→Int):Prop:=∀k,σ k≠0→0≤k∧k<1024
theorem HA:jg σ0:=fun _ h=>absurd rfl h
theorem Ai (σ:Int→Int):(fe σ).Nodup:=by
  refine List.Nodup.sublist List.filter_sublist ?_
  rw [List.nodup_iff_pairwise_ne,List.pairwise_map]
  exact List.nodup_iff_pairwise_ne.1 List.nodup_range |>.imp fun h e=>h aq
theorem wq {σ:Int→Int} (h:jg σ) (k:Int):(mapOf σ k).isSome=true↔k∈fe σ:=by
  unfold fe mapOf
  rw [List.mem_filter]
  constructor
  · intro hs
    by_cases h0:σ k=0
    · rw [if_pos h0]at hs;cases hs
    · obtain ⟨h1, h2⟩ := h k h0
      exact⟨List.mem_map.2 ⟨k.toNat,List.mem_range.2 aq,by omega⟩,bne_iff_ne.2 h0⟩
  · rintro ⟨_, h0⟩
    rw [if_neg (bne_iff_ne.1 h0)];rfl
@[irreducible] def jd (σ:Int→Int) (l:List Int):Bool:=eD l&&decide ((eY σ l).length=(fe σ).length)
theorem oZ {σ:Int→Int} {l:List Int} (h:eD l=false):jd σ l=false:=by unfold jd;rw [h];rfl
theorem A8 {σ:Int→Int} {l:List Int} (h:(eY σ l).length≠(fe σ).length):jd σ l=false:=by unfold jd;rw [decide_eq_false h,Bool.and_false]
theorem uE {σ:Int→Int} {l:List Int} (h1:eD l=true) (h:(eY σ l).length=(fe σ).length):jd σ l=true:=by unfold jd;rw [h1,decide_eq_true h];rfl
theorem Hs {σ:Int→Int} {l:List Int} (h:jd σ l=true):eD l=true:=by
  cases hl:eD l with
  |true=>rfl
  |false=>rw [oZ hl]at h;cases h
theorem Cd {σ:Int→Int} {l:List Int} {i:Nat} {n:Int} (h:l[i]? =some n) (hn:σ n≠0):eY σ (l.take (i+1))=eY σ (l.take i)++ [n]∧fP σ (l.take (i+1))=fP σ (l.take i):=by
  unfold eY fP
  rw [List.take_add_one,h,List.filter_append,List.filter_append]
  simp [hn]
theorem Ce {σ:Int→Int} {l:List Int} {i:Nat} {n:Int} (h:l[i]? =some n) (hn:σ n=0):eY σ (l.take (i+1))=eY σ (l.take i)∧fP σ (l.take (i+1))=fP σ (l.take i)++ [n]:=by
  unfold eY fP
  rw [List.take_add_one,h,List.filter_append,List.filter_append]
  simp [hn]
theorem rM (σ:Int→Int) (l:List Int):(eY σ l).length≤l.length:=List.length_filter_le ..
theorem rN (σ:Int→Int) (l:List Int):(fP σ l).length≤l.length:=List.length_filter_le ..
theorem ve {p:Int→Bool}:∀ {l:List Int} {a b:Int},a≤b→fZ b l=true→fZ a (l.filter p)=true
  | [],_,_,_,_=>rfl
  | n :: l, a, b, hab, h => by
    simp only [fZ,Bool.and_eq_true,decide_eq_true_eq]at h
    rw [List.filter_cons]
    split
    · simp only [fZ, Bool.and_eq_true, decide_eq_true_eq]
      exact⟨⟨by omega,h.1.2⟩,ve (Int.le_refl _) h.2⟩
    · exact ve (b:=n) aq h.2
theorem mS {σ:Int→Int} {l:List Int} (h:eD l=true):kN (eY σ l) (fP σ l)=true:=by
  unfold kN
  have h1:eD (eY σ l)=true:=ve (Int.le_refl _) h
  have h2:eD (fP σ l)=true:=ve (Int.le_refl _) h
  rw [h1,h2]
  show Go.Eng.kV _ _=true
  unfold Go.Eng.kV
  rw [List.all_eq_true]
  intro n hn
  have h3:=(List.mem_filter.1 hn).2
  rw [Bool.not_eq_true',decide_eq_false_iff_not]
  intro hb
  have h4:=(List.mem_filter.1 hb).2
  rw [h4]at h3;cases h3
abbrev uG:List UInt8:= [115,97,108,116]
@[irreducible] def kR (x:List UInt8) (no:Nat):List UInt8:=tagged uG (x++fV (no:Int) 4)
theorem xJ (x:List UInt8) (no:Nat):kR x no=tagged uG (x++fV (no:Int) 4):=by unfold kR;rfl
@[simp] theorem lI (x:List UInt8) (no:Nat):(kR x no).length=32:=by rw [xJ];simp
def gT (x:List UInt8) (no:Nat) (σ:Int→Int) (ids:List Int):dL:=fT (kR x no) (eY σ ids) (fP σ ids)
def iZ (l:List Ep):List UInt8:=match l.getLast? with
  |none=>zD
  |some e=>dX e
def fQ (x:List UInt8) (l:List Ep) (iss day:Int) (ids:List Int) (c:List Ch) (σ:Int→Int):Ep:=⟨iss,(l.length:Nat),day,c,kU (gT x l.length σ ids),iZ l,⟨0, [], []⟩⟩
def fl (x:List UInt8) (k:Nat) (l:List Ep) (iss day:Int) (ids:List Int) (c:List Ch) (σ:Int→Int):Ep:=
  {fQ x l iss day ids c σ with sg:=⟨(l.length:Nat),jX (gw x (l.length:Nat)) (dX (fQ x l iss day ids c σ)),path (fg x k) l.length⟩}
theorem Kk (e:Ep) (s:Lf):dX {e with sg:=s}=dX e:=by rw [tr,tr];rfl
def ix (iss day:Int):Bool:=((decide (iss≥0)&&decide (iss<8))&&decide (day≥0))&&decide (day<1024)
def ja (l:List Ep) (iss day:Int):Bool:=match l.getLast? with
  |none=>true
  |some e=>(iss==e.iss)&&decide (day>e.day)
@[irreducible] def iB (x : List UInt8) (n : Int) (l : List Ep) (iss day : Int) (ids : List Int) (c : List Ch) : Int ⊕ Ep :=
  if dY n then
    match eC l with
    |none=> .inl 351
    | some σ => if fc (fJ x n) n l = 0 then
        if(l.length:Int)=n then .inl 2 else if ix iss day&&(ja l iss day&&(eH σ (-1) c&&jd (cv σ c) ids))then .inr (fl x n.toNat l iss day ids c (cv σ c))else .inl 351
      else .inl (fc (fJ x n) n l)
  else .inl 60
def Gx (l:List Ep):Int ⊕ Ep→A
  | .inl e=> .tu [.nl,.i .i64 e]
  | .inr e=> .tu [eS (l++ [e]),.i .i64 0]
section
variable {x:List UInt8} {n:Int} {l:List Ep} {iss day:Int} {ids:List Int} {c:List Ch} {σ:Int→Int}
theorem AG (h:¬dY n):iB x n l iss day ids c= .inl 60:=by unfold iB;rw [if_neg h]
theorem xk (h:dY n) (h2:fc (fJ x n) n l≠0):iB x n l iss day ids c= .inl (fc (fJ x n) n l):=by
  unfold iB
  rw [if_pos h]
  cases hf:eC l with
  |none=>simp only;rw [s8 hf]
  |some σ=>simp only;rw [if_neg h2]
theorem xl (h:dY n) (hf:eC l=some σ) (h2:fc (fJ x n) n l=0) (h3:(l.length:Int)=n):iB x n l iss day ids c= .inl 2:=by
  unfold iB;rw [if_pos h,hf];simp only;rw [if_pos h2,if_pos h3]
theorem gv (h:dY n) (hf:eC l=some σ) (h2:fc (fJ x n) n l=0) (h3:¬(l.length:Int)=n) (h4:ix iss day=false∨ja l iss day=false∨eH σ (-1) c=false∨jd (cv σ c) ids=false):iB x n l iss day ids c= .inl 351:=by
  unfold iB;rw [if_pos h,hf];simp only;rw [if_pos h2,if_neg h3,if_neg]
  rcases h4 with h4|h4|h4|h4<;>simp [h4]
theorem ql (h:dY n) (hf:eC l=some σ) (h2:fc (fJ x n) n l=0) (h3:¬(l.length:Int)=n) (h4:ix iss day=true) (h5:ja l iss day=true) (h6:eH σ (-1) c=true) (h7:jd (cv σ c) ids=true):iB x n l iss day ids c= .inr (fl x n.toNat l iss day ids c (cv σ c)):=by
  unfold iB;rw [if_pos h,hf];simp only;rw [if_pos h2,if_neg h3,if_pos (by simp [h4,h5,h6,h7])]
theorem EO (h:l= []):ja l iss day=true∧iZ l=zD:=by subst h;exact⟨rfl,rfl⟩
theorem wu {e:Ep} (h:l[l.length - 1]? =some e):ja l iss day=((iss==e.iss)&&decide (day>e.day))∧iZ l=dX e:=by
  have:l.getLast?=some e:=by rw [List.getLast?_eq_getElem?];exact h
  unfold ja iZ;rw [this];exact⟨rfl,rfl⟩
end
theorem np:∀ {c:List Ch} {σ:Int→Int} {la:Int},jg σ→ -1≤la→eH σ la c=true→jg (cv σ c)
  | [],_,_,h,_,_=>h
  | c :: r, σ, la, h, hla, hk => by
    simp only [eH,fF,Bool.and_eq_true,decide_eq_true_eq]at hk
    obtain⟨⟨⟨⟨⟨h1,h2⟩,_⟩,_⟩,_⟩,h3⟩:=hk
    refine np (c:=r) (la:=c.id) (fun k hk=>?_) aq h3
    unfold kD at hk
    split at hk
    · omega
    · exact h k hk
theorem HB:∀ {l:List Ep} {iss:Int} {no:Nat} {day:Int} {prev:List UInt8} {σ τ:Int→Int},jg σ→gh iss no day prev σ l=some τ→jg τ
  | [],_,_,_,_,_,_,h,hf=>by cases hf;exact h
  | e :: r, iss, no, day, prev, σ, τ, h, hf => by
    rw [gh]at hf
    split at hf
    · rename_i hb
      simp only [Bool.and_eq_true]at hb
      exact HB (np h aq hb.2) hf
    · cases hf
theorem Be {l:List Ep} {σ:Int→Int} (h:eC l=some σ):jg σ:=by rw [pS]at h;exact HB HA h
theorem Ec : ∀ {l : List Ep} {iss : Int} {no : Nat} {day : Int} {prev : List UInt8} {σ τ : Int → Int}, gh iss no day prev σ l = some τ → ∀ i e, l[i]? = some e → e.sg.a = ((no + i : Nat) : Int)
  | [],_,_,_,_,_,_,_,i,e,h=>by simp at h
  | e :: r, iss, no, day, prev, σ, τ, hf, i, a, h => by
    rw [gh]at hf
    split at hf
    · rename_i hb
      simp only [Bool.and_eq_true,eR,beq_iff_eq]at hb
      cases i with
      |zero=>simp at h;subst h;simpa using hb.1.1.2.1.2
      | succ i =>
        have:=Ec hf i a aO
        rw [this];congr 1;omega
    · cases hf
theorem y6 {r:List UInt8} {k:Nat} {l:List Ep} {σ:Int→Int} (hf:eC l=some σ) (h:fc r (k:Int) l=0):l.length≤k:=by
  rcases Nat.eq_zero_or_pos l.length with h0|h0
  · omega
  · obtain ⟨e, he⟩ : ∃ e, l[l.length - 1]? = some e := ⟨_, List.getElem?_eq_getElem aq⟩
    have hv:gx r k (dX e) e.sg.a e.sg.S e.sg.P=true:=by
      cases hv:gx r k (dX e) e.sg.a e.sg.S e.sg.P with
      |true=>rfl
      |false=>rw [vz hf (List.mem_of_getElem? he) hv]at h;cases h
    have h1:=(QA hv).2.1
    rw [pS]at hf
    have h2:=Ec hf _ e he
    unfold gQ at h1
    omega
def gD (iss no day:Int) (c:List Ch) (dc prev:List UInt8):List A:= .i .i64 iss:: .i .i64 no:: .i .i64 day::eo c::(dc.map u8++(prev.map u8++ [.i .i64 0,.nl,.nl]))
instance {iss no day:Int} {c:List Ch} {dc prev:List UInt8}:fX (gD iss no day c dc prev):=by unfold gD;infer_instance
theorem rV {iss no day:Int} {c:List Ch} {dc prev:List UInt8} (h1:dc.length=32) (h2:prev.length=32):(gD iss no day c dc prev).length=71:=by simp [gD,h1,h2]
theorem FO {iss no day:Int} {c:List Ch} {dc prev q:List UInt8} (h1:dc.length=32) (h2:prev.length=32):(gD iss no day c dc prev).take 36++q.map u8++(gD iss no day c dc prev).drop 68=gD iss no day c dc q:=by
  have e1:(gD iss no day c dc prev).take 36= .i .i64 iss:: .i .i64 no:: .i .i64 day::eo c::dc.map u8:=by
    show _::_::_::_::((dc.map u8++_).take 32)=_
    rw [List.take_left' (by rw [List.length_map,h1])]
  have e2:(gD iss no day c dc prev).drop 68= [.i .i64 0,.nl,.nl]:=by
    show((dc.map u8++(prev.map u8++_)).drop 64)=_
    rw [←List.append_assoc,List.drop_left' (by rw [List.length_append,List.length_map,List.length_map,h1,h2])]
  rw [e1,e2]
  simp [gD]
theorem wT {iss no day:Int} {c:List Ch} {dc prev q:List UInt8} (h1:dc.length=32):(gD iss no day c dc prev).take 4++q.map u8++(gD iss no day c dc prev).drop 36=gD iss no day c q prev:=by
  have e2:(gD iss no day c dc prev).drop 36=prev.map u8++ [.i .i64 0,.nl,.nl]:=by
    show((dc.map u8++_).drop 32)=_
    rw [List.drop_left' (by rw [List.length_map,h1])]
  rw [e2]
  simp [gD]
theorem wV {x:List UInt8} {l:List Ep} {iss day:Int} {ids:List Int} {c:List Ch} {σ:Int→Int}:jK (gD iss (l.length:Nat) day c (kU (gT x l.length σ ids)) (iZ l)) (fQ x l iss day ids c σ).cells:=by
  unfold gD fQ Ep.cells
  exact .cons (.eq rfl) (.cons (.eq rfl) (.cons (.eq rfl) (.cons (.eq rfl) (HR (HR (.cons (.eq rfl) (.cons .nl (.cons .nl .nil))))))))
@[simp] theorem wy (l : List Ep) : (iZ l).length = 32 := by
  unfold iZ
  split
  · rfl
  · simp
theorem Bx:cg []:=fun y hy=>by cases hy
theorem wP {x:List UInt8} {l:List Ep} {iss day:Int} {ids:List Int} {c:List Ch} {σ:Int→Int} (hn:l.length≤1000) (hi:rg iss) (hd:rg day) (hc:c.length≤1000) (hcr:∀e∈c,rg e.id∧rg e.st):(fQ x l iss day ids c σ).ok:=
  ⟨hi,⟨by show(-9223372036854775808:Int)≤(l.length:Nat);omega,by show((l.length:Nat):Int)≤9223372036854775807;omega⟩,hd,hcr,hc,E2 _,wy _,Bx,Bx⟩
theorem p9 {x:List UInt8} {k:Nat} {l:List Ep} {iss day:Int} {ids:List Int} {c:List Ch} {σ:Int→Int} (hn:l.length≤1000) (hi:rg iss) (hd:rg day) (hc:c.length≤1000) (hcr:∀e∈c,rg e.id∧rg e.st):(fl x k l iss day ids c σ).ok:=
  ⟨hi,⟨by show(-9223372036854775808:Int)≤(l.length:Nat);omega,by show((l.length:Nat):Int)≤9223372036854775807;omega⟩,hd,hcr,hc,E2 _,wy _,Ib _ _,nw _ _ _ (Nat.le_refl _)⟩
theorem wU {e:Ep} {s:Lf} (h:e.ok):e.cells.take 68++ [.i .i64 s.a,cM s.S,cM s.P]++e.cells.drop 71=({e with sg:=s}:Ep).cells:=by
  have e1:e.cells.take 68= .i .i64 e.iss:: .i .i64 e.no:: .i .i64 e.day::eo e.ch::(e.dc.map u8++e.prev.map u8):=by
    show _::_::_::_::((e.dc.map u8++(e.prev.map u8++_)).take 64)=_
    rw [←List.append_assoc,List.take_left' (by rw [List.length_append,List.length_map,List.length_map,h.dc,h.prev])]
  rw [e1,List.drop_of_length_le (by rw [h.len];omega)]
  simp [Ep.cells]
theorem vO (l:List Ep) (e:Ep):fm l++e.cells=fm (l++ [e]):=by simp [fm]
theorem tI {l:List Ep} {e:Ep} (h:fK l) (he:e.ok):fK (l++ [e]):=fun x hx=>by
  rcases List.mem_append.1 hx with hx|hx
  · exact h x hx
  · rw [List.mem_singleton.1 hx];exact he
theorem D3 (a:Int):A.i .u8 (IntKind.u8.wrap (a.fdiv (2 ^ min ((24:Int).toNat) IntKind.i64.bits)))=u8 (k8 a 0):=xK a 0 aq
theorem D4 (a:Int):A.i .u8 (IntKind.u8.wrap (a.fdiv (2 ^ min ((16:Int).toNat) IntKind.i64.bits)))=u8 (k8 a 1):=xK a 1 aq
theorem D5 (a:Int):A.i .u8 (IntKind.u8.wrap (a.fdiv (2 ^ min ((8:Int).toNat) IntKind.i64.bits)))=u8 (k8 a 2):=xK a 2 aq
theorem D6 (a:Int):A.i .u8 (IntKind.u8.wrap a)=u8 (k8 a 3):=by
  refine congrArg (A.i .u8) ?_
  unfold k8
  rw [UInt8.toNat_ofNat']
  show a % 256=_
  omega
theorem Fc (n:Nat):n=0∨0<n:=Nat.eq_zero_or_pos n
end Go.Abs.D2
-- E5R
namespace Go.Abs.D2
open Go Go.Eng Go.Abs
def l7 (l : List Ep) (day : Int) : Nat → Option Nat
  |0=>none
  | j + 1 => match l[j]? with
    |some e=>if e.day≤day then some j else l7 l day j
    |none=>l7 l day j
@[irreducible] def qP (l:List Ep) (day:Int):Option Nat:=l7 l day l.length
theorem yL (l:List Ep) (day:Int):qP l day=l7 l day l.length:=by unfold qP;rfl
def yK:Option Nat→A
  |none=> .tu [.i .i64 0,.b false]
  |some j=> .tu [nJ j,.b true]
theorem B5 {l:List Ep} {day:Int} {j:Nat} {e:Ep} (h:l[j]? =some e) (hd:e.day≤day):l7 l day (j+1)=some j:=by rw [l7,h];simp only;rw [if_pos hd]
theorem B4 {l:List Ep} {day:Int} {j:Nat} {e:Ep} (h:l[j]? =some e) (hd:¬e.day≤day):l7 l day (j+1)=l7 l day j:=by rw [l7,h];simp only;rw [if_neg hd]
-- E5S
def eL (σ:Int→Int):List Ch:=(fe σ).map fun k=>⟨k,σ k⟩
theorem JE {σ:Int→Int} {i:Nat} {q:Int} (h:(fe σ)[i]? =some q):gU ((eL σ).take i)++Ch.cells ⟨q,σ q⟩=gU ((eL σ).take (i+1)):=by
  have:(eL σ)[i]? =some ⟨q,σ q⟩:=by unfold eL;rw [List.getElem?_map,h];rfl
  rw [List.take_add_one,this];simp [gU]
theorem DI {l:List Ep} (h:fK l) (k:Nat):((fm l).drop (0*71)).take (k*71)=fm (l.take k):=by
  rw [Nat.zero_mul,List.drop_zero]
  unfold fm
  induction l generalizing k with
  |nil=>simp
  | cons e l ih =>
    cases k with
    |zero=>simp
    | succ k =>
      have he:=(h e (.head _)).len
      rw [List.flatMap_cons,List.take_succ_cons,List.flatMap_cons,show(k+1)*71=e.cells.length+k*71 by rw [he];omega,List.take_append,List.take_of_length_le aq,Nat.add_sub_cancel_left,ih (fun x hx=>h x (.tail _ hx))]
@[irreducible] def ni (l : List Ep) (no : Int) : Int ⊕ List Ch :=
  if no< -1∨(l.length:Int)≤no then .inl 1 else match eC (l.take (no+1).toNat)with
    |none=> .inl 351
    |some σ=> .inr (eL σ)
def Om:Int ⊕ List Ch→A
  | .inl e=> .tu [.nl,.i .i64 e]
  | .inr c=> .tu [eo c,.i .i64 0]
theorem Hz {l:List Ep} {no:Int} (h:no< -1∨(l.length:Int)≤no):ni l no= .inl 1:=by unfold ni;rw [if_pos h]
theorem PY {l:List Ep} {no:Int} (h:¬(no< -1∨(l.length:Int)≤no)) (hf:eC (l.take (no+1).toNat)=none):ni l no= .inl 351:=by unfold ni;rw [if_neg h,hf]
theorem Bb {l:List Ep} {no:Int} {σ:Int→Int} (h:¬(no< -1∨(l.length:Int)≤no)) (hf:eC (l.take (no+1).toNat)=some σ):ni l no= .inr (eL σ):=by unfold ni;rw [if_neg h,hf]
def rK (d0:Int) (l:List Ep):Int:=match l.getLast? with
  |none=>d0
  |some e=>e.day
def tR (p0:List UInt8) (l:List Ep):List UInt8:=match l.getLast? with
  |none=>p0
  |some e=>dX e
theorem LY (d0:Int) (e:Ep) (l:List Ep):rK d0 (e::l)=rK e.day l:=by
  unfold rK
  cases l with
  |nil=>rfl
  |cons a r=>simp [List.getLast?_cons]
theorem LX (p0:List UInt8) (e:Ep) (l:List Ep):tR p0 (e::l)=tR (dX e) l:=by
  unfold tR
  cases l with
  |nil=>rfl
  |cons a r=>simp [List.getLast?_cons]
theorem Ea:∀ {l r:List Ep} {iss:Int} {no:Nat} {day:Int} {prev:List UInt8} {σ:Int→Int},
    gh iss no day prev σ (l++r)=match gh iss no day prev σ l with
      |none=>none
      |some τ=>gh iss (no+l.length) (rK day l) (tR prev l) τ r
  | [],r,iss,no,day,prev,σ=>rfl
  | e :: l, r, iss, no, day, prev, σ => by
    rw [List.cons_append,gh,gh]
    by_cases hb:(eR iss no day prev e&&eH σ (-1) e.ch)=true
    · rw [if_pos hb,if_pos hb,Ea,LY,LX,List.length_cons,show no+1+l.length=no+(l.length+1) by omega]
    · rw [if_neg hb,if_neg hb]
theorem LB {l r:List Ep} (h:l≠ []):mj (l++r)=mj l:=by
  cases l with
  |nil=>exact absurd rfl h
  |cons a l=>rfl
theorem LR (l:List Ep):iZ l=tR zD l:=rfl
theorem LS {l:List Ep} {iss day:Int} (h:ja l iss day=true) (hl:l≠ []):∃e,l.getLast?=some e∧iss=e.iss∧e.day<day:=by
  unfold ja at h
  cases hg:l.getLast? with
  |none=>exact absurd (List.getLast?_eq_none_iff.1 hg) hl
  | some e =>
    rw [hg]at h
    simp only [Bool.and_eq_true,decide_eq_true_eq,beq_iff_eq]at h
    exact⟨e,rfl,h.1,h.2⟩
theorem vZ:∀ {l:List Ep} {iss:Int} {no:Nat} {day:Int} {prev:List UInt8} {σ τ:Int→Int},gh iss no day prev σ l=some τ→∀e∈l,e.iss=iss
  | [],_,_,_,_,_,_,_,e,h=>by cases h
  | a :: r, iss, no, day, prev, σ, τ, hf, e, h => by
    rw [gh]at hf
    split at hf
    · rename_i hb
      simp only [Bool.and_eq_true,eR,beq_iff_eq]at hb
      rcases List.mem_cons.1 h with rfl|h
      · exact hb.1.1.1.1.1
      · exact vZ hf e h
    · cases hf
section
variable {x:List UInt8} {n:Int} {l:List Ep} {iss day:Int} {ids:List Int} {c:List Ch} {e:Ep}
theorem Gg (h : iB x n l iss day ids c = .inr e) : dY n ∧ ∃ σ, eC l = some σ ∧ fc (fJ x n) n l = 0 ∧ ¬ (l.length : Int) = n ∧ ix iss day = true ∧ ja l iss day = true ∧ eH σ (-1) c = true ∧ jd (cv σ c) ids = true ∧ e = fl x n.toNat l iss day ids c (cv σ c) := by
  by_cases h1:dY n
  · refine ⟨h1, ?_⟩
    cases hf:eC l with
    |none=>rw [xk h1 (by rw [s8 hf];decide)]at h;cases h
    | some σ =>
      by_cases h2:fc (fJ x n) n l=0
      · by_cases h3 : (l.length : Int) = n
        · rw [xl h1 hf h2 h3]at h;cases h
        · have key : ∀ b : Bool, b = false ∨ b = true := fun b => by cases b <;> simp
          rcases key (ix iss day)with h4|h4
          · rw [gv h1 hf h2 h3 (.inl h4)]at h;cases h
          rcases key (ja l iss day)with h5|h5
          · rw [gv h1 hf h2 h3 (.inr (.inl h5))]at h;cases h
          rcases key (eH σ (-1) c)with h6|h6
          · rw [gv h1 hf h2 h3 (.inr (.inr (.inl h6)))]at h;cases h
          rcases key (jd (cv σ c) ids)with h7|h7
          · rw [gv h1 hf h2 h3 (.inr (.inr (.inr h7)))]at h;cases h
          rw [ql h1 hf h2 h3 h4 h5 h6 h7]at h
          exact⟨σ,rfl,h2,h3,h4,h5,h6,h7,by cases h;rfl⟩
      · rw [xk h1 h2]at h;cases h
  · rw [AG h1]at h;cases h
theorem Gf (h:iB x n l iss day ids c= .inr e):∃σ,eC l=some σ∧eC (l++ [e])=some (cv σ c)∧fc (fJ x n) n (l++ [e])=0:=by
  obtain⟨h1,σ,hf,h2,h3,h4,h5,h6,h7,he⟩:=Gg h
  obtain⟨k,rfl,hk1,hk2⟩:=qv h1
  have hlk:=y6 hf h2
  have hlt:l.length<k:=by omega
  have hem:e.iss=iss∧e.no=(l.length:Nat)∧e.day=day∧e.ch=c∧e.prev=iZ l∧e.sg=⟨(l.length:Nat),jX (gw x (l.length:Nat)) (dX (fQ x l iss day ids c (cv σ c))),path (fg x k) l.length⟩:=by subst he;exact⟨rfl,rfl,rfl,rfl,rfl,rfl⟩
  have hdg:dX e=dX (fQ x l iss day ids c (cv σ c)):=by subst he;exact Kk _ _
  obtain⟨e1,e2,e3,e4,e5,e6⟩:=hem
  unfold ix at h4
  simp only [Bool.and_eq_true,decide_eq_true_eq]at h4
  have hform:eC (l++ [e])=some (cv σ c):=by
    rw [pS]at hf ⊢
    have hi:mj (l++ [e])=if l= []then iss else mj l:=by
      split
      · rename_i h0;subst h0;exact e1
      · rename_i h0;exact LB h0
    by_cases h0:l= []
    · subst h0
      cases hf
      rw [hi,if_pos rfl]
      show gh iss 0 (-1) zD σ0 [e]=_
      rw [gh,if_pos,gh,e4]
      rw [e4,h6,Bool.and_true]
      unfold eR
      simp only [Bool.and_eq_true,decide_eq_true_eq,beq_iff_eq]
      refine⟨⟨⟨⟨e1,?_⟩,?_⟩,⟨e2,by rw [e6];rfl⟩,e5⟩,?_,?_⟩<;>first|omega|(rw [e1];omega)|(rw [e3];omega)
    · obtain ⟨q, hq, hqi, hqd⟩ := LS h5 h0
      rw [hi,if_neg h0,Ea,hf]
      simp only
      have hY:rK (-1) l=q.day:=by unfold rK;rw [hq]
      have hql:=vZ hf q (List.mem_of_getLast? hq)
      rw [gh,if_pos,gh,e4]
      rw [e4,h6,Bool.and_true]
      unfold eR
      simp only [Bool.and_eq_true,decide_eq_true_eq,beq_iff_eq]
      refine⟨⟨⟨⟨by rw [e1,hqi,hql],by rw [e1];omega⟩,by rw [e1];omega⟩,⟨by rw [e2,Nat.zero_add],by rw [e6,Nat.zero_add]⟩,by rw [e5];exact LR l⟩,by rw [hY,e3];exact hqd,by rw [e3];omega⟩
  refine⟨σ,hf,hform,vB hform fun a ha=>?_⟩
  rcases List.mem_append.1 ha with ha|ha
  · cases hv : gx (fJ x (k : Int)) k (dX a) a.sg.a a.sg.S a.sg.P with
    |true=>rfl
    |false=>rw [vz hf ha hv]at h2;cases h2
  · rw [List.mem_singleton.1 ha, e6, hdg]
    exact Qz _ h1 hlt
end
structure Sp where
  day:Int
  ch:List Ch
def Sp.cells (s:Sp):List A:= [.i .i64 s.day,eo s.ch]
def Hx (l:List Sp):List A:=l.flatMap Sp.cells
instance {s:Sp}:fX s.cells:=by unfold Sp.cells;infer_instance
instance {l:List Sp}:fX (Hx l):=by unfold Hx;infer_instance
def Sp.ok (s:Sp):Prop:=rg s.day∧∀c∈s.ch,rg c.id∧rg c.st
def u7 (l:List Ep):Int ⊕ Ep→List Ep
  | .inl _=>l
  | .inr e=>l++ [e]
theorem Iv {x:List UInt8} {n:Int} {l:List Ep} {iss day:Int} {ids:List Int} {c:List Ch} (hl:fK l) (hn:l.length≤1000) (hi:rg iss) (hd:rg day) (hc:c.length≤1000) (hcr:∀e∈c,rg e.id∧rg e.st):fK (u7 l (iB x n l iss day ids c))∧(u7 l (iB x n l iss day ids c)).length≤l.length+1:=by
  cases h:iB x n l iss day ids c with
  |inl v=>exact⟨hl,Nat.le_succ _⟩
  | inr e =>
    obtain⟨_,σ,_,_,_,_,_,_,_,rfl⟩:=Gg h
    exact⟨tI hl (p9 hn hi hd hc hcr),by simp [u7]⟩
end Go.Abs.D2
-- E5U
namespace Go.Abs.D2
open Go Go.Eng Go.Abs
def lU:List Ch→Int→Int
  | [],_=>0
  |c::r,id=>if c.id=id then c.st else lU r id
theorem PU {l:List Ch} {id:Int} {i:Nat} {c:Ch} (h:l[i]? =some c) (hc:c.id=id):lU (l.drop i) id=c.st:=by
  rw [List.drop_eq_getElem_cons (List.getElem?_eq_some_iff.1 h).1,(List.getElem?_eq_some_iff.1 h).2,lU,if_pos hc]
theorem PT {l:List Ch} {id:Int} {i:Nat} {c:Ch} (h:l[i]? =some c) (hc:¬c.id=id):lU (l.drop i) id=lU (l.drop (i+1)) id:=by
  rw [List.drop_eq_getElem_cons (List.getElem?_eq_some_iff.1 h).1,(List.getElem?_eq_some_iff.1 h).2,lU,if_neg hc]
theorem dK {l:List Ch} {i:Nat} {c:Ch} (h:l[i]? =some c) {k:Nat} {v:A} (hv:c.cells[k]? =some v) (hk:k<2):(((gU l).drop (i*2)).drop k)[0]? =some v:=by
  have e1:(((gU l).drop (i*2)).take 2)[k]? =some v:=by rw [s9 h];exact hv
  rw [List.getElem?_take,if_pos hk]at e1
  rw [List.getElem?_drop,Nat.add_zero];exact e1
def jb:List Ch→List Ch→Bool
  | [], []=>true
  |a::r,b::s=>(a.id==b.id&&a.st==b.st)&&jb r s
  |_,_=>false
theorem AY:∀l:List Ch,jb l l=true
  | []=>rfl
  |c::l=>by rw [jb,AY l];simp
theorem G7:∀ {a b:List Ch},jb a b=true→a.length=b.length
  | [], [],_=>rfl
  | _ :: a, _ :: b, h => by
    rw [jb,Bool.and_eq_true]at h
    rw [List.length_cons,List.length_cons,G7 h.2]
  | [],_::_,h=>by cases h
  |_::_, [],h=>by cases h
theorem Pf {a b:List Ch} (h:a.length≠b.length):jb a b=false:=by
  cases hs:jb a b with
  |false=>rfl
  |true=>exact absurd (G7 hs) h
theorem G6 {a b:List Ch} {i:Nat} {c d:Ch} (h1:a[i]? =some c) (h2:b[i]? =some d):jb (a.drop i) (b.drop i)=((c.id==d.id&&c.st==d.st)&&jb (a.drop (i+1)) (b.drop (i+1))):=by
  rw [List.drop_eq_getElem_cons (List.getElem?_eq_some_iff.1 h1).1,(List.getElem?_eq_some_iff.1 h1).2,List.drop_eq_getElem_cons (List.getElem?_eq_some_iff.1 h2).1,(List.getElem?_eq_some_iff.1 h2).2,jb]
theorem P6 (o:Int ⊕ Ep):(∃v,o= .inl v)∨∃e,o= .inr e:=by
  cases o with
  |inl v=>exact .inl ⟨v,rfl⟩
  |inr e=>exact .inr ⟨e,rfl⟩
-- E5W
abbrev tg:D:= .st [.int .i64,.int .i64]
abbrev th:D:= .st [.int .i64,.int .i64,.int .i64,.sl tg,.arr 32 (.int .u8),.arr 32 (.int .u8),.st [.int .i64,.sl (.arr 32 (.int .u8)),.sl (.arr 32 (.int .u8))]]
theorem J8 (aS:List A) (h:Den tg aS):∃c:Ch,aS=c.cells∧(rg c.id∧rg c.st):=by
  simp only [Den,lZ]at h
  obtain⟨a,r,h1,⟨b,r2,h2,rfl,rfl⟩,rfl⟩:=h
  obtain⟨n,rfl,hn⟩:=ma a (by simpa only [Den]using h1)
  obtain⟨m,rfl,hm⟩:=ma b (by simpa only [Den]using h2)
  exact⟨⟨n,m⟩,rfl,hn,hm⟩
theorem C8 (aS:List A) (h:Den (.sl tg) aS):∃l:List Ch,aS= [eo l]∧l.length≤maxLen∧∀c∈l,rg c.id∧rg c.st:=by
  simp only [Den]at h
  obtain⟨ls,h1,h2,rfl⟩:=h
  obtain⟨ys,rfl,h3⟩:=ri (f:=Ch.cells) (e:=tg) J8 ls (fun x hx=>by simpa only [Den]using h1 x hx)
  exact⟨ys,by rw [List.length_map, ←List.flatMap_def];rfl,by simpa using h2,h3⟩
structure Ep.typed (e:Ep):Prop where
  iss:rg e.iss
  no:rg e.no
  day:rg e.day
  ch:∀c∈e.ch,rg c.id∧rg c.st
  dc:e.dc.length=32
  prev:e.prev.length=32
  S:cg e.sg.S
  P:cg e.sg.P
  g9:e.ch.length≤maxLen
theorem Ep.typed.ok {e:Ep} (h:e.typed) (hf:e.ch.length≤1000):e.ok:=⟨h.iss,h.no,h.day,h.ch,hf,h.dc,h.prev,h.S,h.P⟩
theorem Ep.typed.len {e:Ep} (h:e.typed):e.cells.length=71:=by simp [Ep.cells,h.dc,h.prev]
theorem J9 (aS:List A) (h:Den th aS):∃e:Ep,aS=e.cells∧e.typed:=by
  simp only [Den,lZ]at h
  obtain⟨a,_,h1,⟨b,_,h2,⟨c,_,h3,⟨d,_,h4,⟨e,_,h5,⟨f,_,h6,⟨g,_,h7,rfl,rfl⟩,rfl⟩,rfl⟩,rfl⟩,rfl⟩,rfl⟩,rfl⟩:=h
  obtain⟨n1,rfl,g1⟩:=ma a (by simpa only [Den]using h1)
  obtain⟨n2,rfl,g2⟩:=ma b (by simpa only [Den]using h2)
  obtain⟨n3,rfl,g3⟩:=ma c (by simpa only [Den]using h3)
  obtain⟨l,rfl,hl,hc⟩:=C8 d (by simpa only [Den,lZ]using h4)
  obtain⟨x,rfl,hx⟩:=tk (n:=32) e (by simpa only [Den]using h5)
  obtain⟨y,rfl,hy⟩:=tk (n:=32) f (by simpa only [Den]using h6)
  obtain⟨s,rfl,h8,h9⟩:=Kb g (by simpa only [Den,lZ]using h7)
  exact⟨⟨n1,n2,n3,l,x,y,s⟩,by simp [Ep.cells],g1,g2,g3,hc,hx,hy,h8,h9,hl⟩
theorem C9 (aS:List A) (h:Den (.sl th) aS):∃l:List Ep,aS= [eS l]∧l.length≤maxLen∧∀e∈l,e.typed:=by
  simp only [Den]at h
  obtain⟨ls,h1,h2,rfl⟩:=h
  obtain⟨ys,rfl,h3⟩:=ri (f:=Ep.cells) (e:=th) J9 ls (fun x hx=>by simpa only [Den]using h1 x hx)
  exact⟨ys,by rw [List.length_map, ←List.flatMap_def];rfl,by simpa using h2,h3⟩
-- E5V
abbrev jc:List UInt8:=3::List.replicate 31 0
abbrev cA:List Ch:= [⟨5,2⟩]
abbrev cB:List Ch:= [⟨4,1⟩]
@[irreducible] def eA:Ep:=fl jc 2 [] 1 10 [4,5] cA (cv σ0 cA)
theorem tw:eA=fl jc 2 [] 1 10 [4,5] cA (cv σ0 cA):=by unfold eA;rfl
@[irreducible] def eB:Ep:=fl jc 2 [eA] 1 11 [4,5] cB (cv (cv σ0 cA) cB)
theorem vH:eB=fl jc 2 [eA] 1 11 [4,5] cB (cv (cv σ0 cA) cB):=by unfold eB;rfl
theorem rg_of {n:Int} (h0: -9223372036854775808≤n) (h1:n≤9223372036854775807):rg n:=⟨h0,h1⟩
theorem xL:dY ((2:Nat):Int):=by decide
theorem rD:eC []=some σ0:=by rw [pS];rfl
theorem CL (r:List UInt8) (n:Int):fc r n []=0:=vB rD fun e he=>by cases he
theorem Gd:iB jc 2 [] 1 10 [4,5] cA= .inr eA:=by
  rw [tw]
  exact ql (n:=((2:Nat):Int)) xL rD (CL _ _) az az rfl az (uE az (by decide+kernel))
theorem tN:eC [eA]=some (cv σ0 cA)∧fc (fJ jc 2) 2 [eA]=0:=by
  obtain⟨σ,h1,h2,h3⟩:=Gf Gd
  rw [rD]at h1
  cases h1
  exact⟨h2,h3⟩
theorem LZ {iss day:Int}:ja [eA] iss day=((iss==1)&&decide (day>10)):=by
  have h:eA.iss=1∧eA.day=10:=by rw [tw];exact⟨rfl,rfl⟩
  show((iss==eA.iss)&&decide (day>eA.day))=_
  rw [h.1,h.2]
theorem Ge:iB jc 2 [eA] 1 11 [4,5] cB= .inr eB:=by
  rw [vH]
  exact ql (n:=((2:Nat):Int)) xL tN.1 tN.2 az az (by rw [LZ];rfl) (by decide+kernel) (uE az (by decide+kernel))
theorem vY:eC [eA,eB]=some (cv (cv σ0 cA) cB)∧fc (fJ jc 2) 2 [eA,eB]=0:=by
  obtain⟨σ,h1,h2,h3⟩:=Gf Ge
  rw [tN.1]at h1
  cases h1
  exact⟨h2,h3⟩
theorem NI:iB jc 2 [eA] 1 11 [4,5] [⟨5,0⟩]= .inl 351:=gv (n:=((2:Nat):Int)) xL tN.1 tN.2 az (.inr (.inr (.inl (by decide+kernel))))
theorem NJ:iB jc 2 [eA,eB] 1 12 [4,5] []= .inl 2:=xl (n:=((2:Nat):Int)) xL vY.1 vY.2 rfl
theorem PZ:ni [eA,eB] 1= .inr [⟨4,1⟩,⟨5,2⟩]:=by
  rw [Bb (σ:=cv (cv σ0 cA) cB) az (by exact vY.1)]
  have hk:fe (cv (cv σ0 cA) cB)= [4,5]:=by decide+kernel
  unfold eL
  rw [hk]
  rfl
theorem P0:ni [] (-1)= .inr []:=by
  rw [Bb (l:= []) (no:= -1) (σ:=σ0) az (by exact rD)]
  have hk:fe σ0= []:=by decide+kernel
  unfold eL
  rw [hk]
  rfl
theorem P3:ni [] 0= .inl 1:=Hz az
theorem IP:qP [] 5=none:=by rw [yL];rfl
theorem IQ:qP [eA,eB] 10=some 0:=by
  have h1:eA.day=10:=by rw [tw];rfl
  have h2:eB.day=11:=by rw [vH];rfl
  rw [yL]
  show l7 [eA,eB] 10 (0+1+1)=_
  rw [B4 (e:=eB) rfl (by rw [h2];decide),B5 (e:=eA) rfl (by rw [h1];decide)]
theorem Ou {l:List Ch} (h:∀e∈l, -9223372036854775808≤e.id∧e.id≤9223372036854775807∧ -9223372036854775808≤e.st∧e.st≤9223372036854775807):∀e∈l,rg e.id∧rg e.st:=fun e he=>let ⟨a,b,c,d⟩:=h e he;⟨⟨a,b⟩,⟨c,d⟩⟩
theorem uu {a b:Int} (h: -9223372036854775808≤a∧a≤9223372036854775807∧ -9223372036854775808≤b∧b≤9223372036854775807):∀e∈([⟨a,b⟩]:List Ch),rg e.id∧rg e.st:=Ou fun e he=>by rw [List.mem_singleton.1 he];exact h
theorem rW:eA.ok:=by rw [tw];exact p9 az (rg_of az az) (rg_of az az) az (uu az)
theorem Aw:eB.ok:=by rw [vH];exact p9 az (rg_of az az) (rg_of az az) az (uu az)
theorem uh:fK []:=fun e he=>by cases he
theorem FY:fK [eA]:=fun e he=>by rw [List.mem_singleton.1 he];exact rW
theorem qh:fK [eA,eB]:=fun e he=>by
  rcases List.mem_cons.1 he with rfl|he
  · exact rW
  · rw [List.mem_singleton.1 he];exact Aw
theorem NF:eA.prev=zD:=by rw [tw];rfl
theorem NG:eB.prev=dX eA:=by rw [vH];rfl
theorem DG {l:List Ep} {i:Nat} {e:Ep} (hl:fK l) (h:l[i]? =some e):(((fm l).drop (i*71)).drop 36).take 32=e.prev.map u8:=by
  have hok:=hl e (List.mem_of_getElem? h)
  have h1:((((fm l).drop (i*71)).take 71).drop 36).take 32=e.prev.map u8:=by rw [kI hl h];exact jP hok
  rw [List.drop_take,List.take_take]at h1
  exact h1
-- E5X
structure Good (x:List UInt8) (n:Int) (l:List Ep):Prop where
  form:∃τ,eC l=some τ
  CF:fc (fJ x n) n l=0
  size:l≠ []→dY n
theorem Hy (σ:Int→Int) (id:Int):∀l:List Int,lU (l.map fun k=>⟨k,σ k⟩) id=if id∈l then σ id else 0
  | []=>rfl
  | k :: l => by
    rw [List.map_cons,lU,Hy σ id l]
    by_cases h:k=id
    · subst h;simp
    · rw [if_neg h]
      have:id∈k::l↔id∈l:=by simp [Ne.symm h]
      simp only [this]
theorem A9 {σ:Int→Int} (h:jg σ) (id:Int):lU (eL σ) id=σ id:=by
  unfold eL
  rw [Hy]
  split
  · rfl
  · rename_i hn
    cases Decidable.em (σ id=0)with
    |inl h0=>exact h0.symm
    |inr h0=>exact absurd ((wq h id).1 (by unfold mapOf;rw [if_neg h0];rfl)) hn
theorem vt (σ:Int→Int):(eL σ).length≤1024:=by
  have:=List.length_filter_le (fun n=>σ n !=0) ((List.range 1024).map fun k:Nat=>(k:Int))
  simpa [eL,fe]using this
theorem I7 {l:List Ep} {σ:Int→Int} (h:eC (l.take 0)=some σ): []=eL σ:=by
  rw [List.take_zero,rD]at h
  cases h
  unfold eL
  rw [show fe σ0= [] by decide+kernel]
  rfl
theorem CB:∀ {l r:List Ch} {σ:Int→Int},cv σ (l++r)=cv (cv σ l) r
  | [],_,_=>rfl
  |c::l,r,σ=>by rw [List.cons_append,cv,cv,CB]
theorem CC {l:List Ch} {j:Nat} {c:Ch} (σ:Int→Int) (h:l[j]? =some c) (q:Int):cv σ (l.take (j+1)) q=if c.id=q then c.st else cv σ (l.take j) q:=by
  rw [List.take_add_one,h,show(some c).toList= [c]from rfl,CB]
  show kD _ _ _ q=_
  unfold kD
  by_cases h:c.id=q
  · rw [if_pos h,if_pos h.symm]
  · rw [if_neg h,if_neg (Ne.symm h)]
-- E6A
def rj (l:List Ep) (i:Nat):List UInt8:=match l[i]? with
  |some e=>dX e
  |none=>zD
theorem zt {l:List Ep} {i:Nat} {e:Ep} (h:l[i]? =some e):rj l i=dX e:=by unfold rj;rw [h]
def De (l:List Ep) (k j:Nat):List (List UInt8):=(List.range k).map fun i=>if i<j then rj l i else zD
@[irreducible] def zy (l:List Ep) (k:Nat):List (List UInt8):=(List.range k).map (rj l)
theorem Km (l:List Ep) (k:Nat):zy l k=(List.range k).map (rj l):=by unfold zy;rfl
@[simp] theorem Rj (l:List Ep) (k j:Nat):(De l k j).length=k:=by simp [De]
@[simp] theorem Ri (l:List Ep) (k:Nat):(zy l k).length=k:=by simp [Km]
theorem KN {l:List Ep} {i:Nat} {e:Ep} (hl:fK l) (h:l[i]? =some e):((fm l).drop (i*71+68)).take 3= [.i .i64 e.sg.a,cM e.sg.S,cM e.sg.P]:=by
  have hok:=hl e (List.mem_of_getElem? h)
  have h1:(((fm l).drop (i*71)).take 71).drop 68= [.i .i64 e.sg.a,cM e.sg.S,cM e.sg.P]:=by rw [kI hl h];exact zL hok
  rw [List.drop_take,List.drop_drop]at h1
  exact h1
theorem DH {l:List Ep} {i:Nat} {e:Ep} (hl:fK l) (h:l[i]? =some e):(((fm l).drop (i*71)).drop 68).take 3= [.i .i64 e.sg.a,cM e.sg.S,cM e.sg.P]:=by
  rw [List.drop_drop];exact KN hl h
end Go.Abs.D2
-- E6P
namespace Go.Abs
open Go Go.Eng
theorem YO.wk {P:Program} {E:Ev} {st:St} {op:Op} {ty:TypeId} {v v':A} (h:YO P E st op ty v) (hw:Wk v v'):YO P E st op ty v':=fun w0 X0 n β X a w hr=>let ⟨u,h1,h2⟩:=h w0 X0 n β X a w hr;⟨u,u4 hw h1,h2⟩
end Go.Abs
namespace Go.Abs.D2
open Go Go.Eng Go.Abs
def jF (a b:Ep):Bool:=((((a.iss==b.iss&&a.no==b.no)&&a.day==b.day)&&jb a.ch b.ch)&&a.dc==b.dc)&&a.prev==b.prev
theorem Pg (a:Ep):jF a a=true:=by simp [jF,AY]
theorem Ph (a b : Ep) : (a.iss ≠ b.iss ∧ jF a b = false) ∨ (a.iss = b.iss ∧ a.no ≠ b.no ∧ jF a b = false) ∨ (a.iss = b.iss ∧ a.no = b.no ∧ a.day ≠ b.day ∧ jF a b = false) ∨ (a.iss = b.iss ∧ a.no = b.no ∧ a.day = b.day ∧ jb a.ch b.ch = false ∧ jF a b = false)
    ∨(a.iss=b.iss∧a.no=b.no∧a.day=b.day∧jb a.ch b.ch=true∧a.dc≠b.dc∧jF a b=false)∨(a.iss=b.iss∧a.no=b.no∧a.day=b.day∧jb a.ch b.ch=true∧a.dc=b.dc∧a.prev≠b.prev∧jF a b=false)∨(a.iss=b.iss∧a.no=b.no∧a.day=b.day∧jb a.ch b.ch=true∧a.dc=b.dc∧a.prev=b.prev∧jF a b=true):=by
  by_cases h1:a.iss=b.iss
  · by_cases h2 : a.no = b.no
    · by_cases h3 : a.day = b.day
      · cases h4 : jb a.ch b.ch with
        |false=>exact .inr (.inr (.inr (.inl ⟨h1,h2,h3,rfl,by simp [jF,h4]⟩)))
        | true =>
          by_cases h5:a.dc=b.dc
          · by_cases h6 : a.prev = b.prev
            · exact .inr (.inr (.inr (.inr (.inr (.inr ⟨h1,h2,h3,rfl,h5,h6,by simp [jF,h1,h2,h3,h4,h5,h6]⟩)))))
            · exact .inr (.inr (.inr (.inr (.inr (.inl ⟨h1,h2,h3,rfl,h5,h6,by simp [jF,h6]⟩)))))
          · exact .inr (.inr (.inr (.inr (.inl ⟨h1,h2,h3,rfl,h5,by simp [jF,h5]⟩))))
      · exact .inr (.inr (.inl ⟨h1,h2,h3,by simp [jF,h3]⟩))
    · exact .inr (.inl ⟨h1,h2,by simp [jF,h2]⟩)
  · exact .inl ⟨h1,by simp [jF,h1]⟩
theorem JZ {e:Ep} (h:e.ok):A.fz 32 (((e.cells.drop 4).drop (0*1)).take (32*1))= .fz e.dc.length (e.dc.map u8):=by rw [Nat.zero_mul,List.drop_zero,Nat.mul_one,oD h,h.dc]
theorem J3 {e:Ep} (h:e.ok):A.fz 32 (((e.cells.drop 36).drop (0*1)).take (32*1))= .fz e.prev.length (e.prev.map u8):=by rw [Nat.zero_mul,List.drop_zero,Nat.mul_one,jP h,h.prev]
def px (l:List Ep):Prop:=∀e∈l,e.typed
theorem DF {l:List Ep} {i:Nat} {e:Ep} (hl:px l) (h:l[i]? =some e):((fm l).drop (i*71)).take 71=e.cells:=by
  unfold fm
  induction l generalizing i with
  |nil=>simp at h
  | cons d l ih =>
    rw [List.flatMap_cons]
    have hd:=(hl d (.head _)).len
    cases i with
    |zero=>simp at h;subst h;rw [Nat.zero_mul,List.drop_zero,List.take_left' hd]
    |succ i=>rw [show(i+1)*71=d.cells.length+i*71 by rw [hd];omega, ←List.drop_drop,List.drop_left];exact ih (fun x hx=>hl x (.tail _ hx)) aO
theorem KL {l:List Ep} {i:Nat} {e:Ep} (hl:px l) (h:l[i]? =some e):(((fm l).drop (i*71)).drop 3)[0]? =some (eo e.ch):=by
  have e1:(((fm l).drop (i*71)).take 71)[3]? =some (eo e.ch):=by rw [DF hl h];rfl
  rw [List.getElem?_take,if_pos az]at e1
  rw [List.getElem?_drop,Nat.add_zero];exact e1
theorem KM {l:List Ep} {i:Nat} {e:Ep} (hl:px l) (h:l[i]? =some e):(((fm l).drop (i*71)).drop 68).take 3= [.i .i64 e.sg.a,cM e.sg.S,cM e.sg.P]:=by
  have ht:=hl e (List.mem_of_getElem? h)
  have h1:(((fm l).drop (i*71)).take 71).drop 68= [.i .i64 e.sg.a,cM e.sg.S,cM e.sg.P]:=by
    rw [DF hl h,show 68=36+32 from rfl, ←List.drop_drop]
    have:e.cells.drop 36=e.prev.map u8++ [.i .i64 e.sg.a,cM e.sg.S,cM e.sg.P]:=by
      show(e.dc.map u8++_).drop 32=_
      rw [List.drop_left' (by rw [List.length_map,ht.dc])]
    rw [this,List.drop_left' (by rw [List.length_map,ht.prev])]
  rw [List.drop_take]at h1
  exact h1
def nR (n:Int) (e:Ep):Bool:=decide (e.ch.length≤10)&&pR n e.sg.S.length e.sg.P.length
@[irreducible] def mM (n:Int) (l:List Ep) (ids:List Int) (c:List Ch):Bool:=l.all (nR n)&&(((pR n 0 0&&decide ((l.length:Int)≤6))&&decide ((ids.length:Int)≤24))&&decide ((c.length:Int)≤10))
theorem DM {n:Int} {l:List Ep} {ids:List Int} {c:List Ch} {e:Ep} (h:e∈l) (hc:nR n e=false):mM n l ids c=false:=by
  unfold mM
  rw [show l.all (nR n)=false from List.all_eq_false.2 ⟨e,h,by simp [hc]⟩];rfl
theorem KT {n:Int} {l:List Ep} {ids:List Int} {c:List Ch} (h:∀e∈l,nR n e=true):mM n l ids c=(((pR n 0 0&&decide ((l.length:Int)≤6))&&decide ((ids.length:Int)≤24))&&decide ((c.length:Int)≤10)):=by
  unfold mM
  rw [List.all_eq_true.2 h,Bool.true_and]
theorem zP {n:Int} {l:List Ep} {ids:List Int} {c:List Ch} (h:mM n l ids c=true):(∀e∈l,e.ch.length≤10)∧(n≤10∨256<n)∧l.length≤6∧ids.length≤24∧c.length≤10:=by
  unfold mM at h
  simp only [Bool.and_eq_true,decide_eq_true_eq,List.all_eq_true,nR,pR,Bool.or_eq_true]at h
  exact⟨fun e he=>(h.1 e he).1,by have:=h.2.1.1.1.1.1;omega,by omega,by omega,by omega⟩
theorem DN {n:Int} {l:List Ep} {ids:List Int} {c:List Ch} (h:mM n l ids c=true) (hl:px l):fK l:=fun e he=>(hl e he).ok (Nat.le_trans ((zP h).1 e he) az)
end Go.Abs.D2
-- C1E
namespace Go.Abs.D2
open Go Go.Eng Go.Abs Go.Proofs
theorem Ot (k n:Int) (s:List UInt8) (l:List CV) (hl:CV.gM l<1000000) (ih:∀v∈l,bU Tryz.prog 176 [.ag v.cells] (cl (.b v.okB))):bU Tryz.prog 176 [.ag [.i .i64 k,.i .i64 n,.s s,.fz l.length (CV.dt l)]] (cl (.b (CV.okB (.mk k n s l)))):=by
 refine enter Tryz.func176 rfl Tryz.ntmps176 aw (Nat.le_of_ble_eq_true rfl) fun w0 X0 hI=>?_
 refine aa [670,652,3] ?_
 have hll:=CV.tU l
 refine aa [1,718,656,9,665] ?_
 refine cm rfl (fun hc6=>?_) (fun hc6=>?_)
 ·have hk1 : k = 1 := by simpa using hc6
  refine aa [645,330] ?_
  refine s1 (bM jZ rfl rfl rfl) rfl ?_
  refine aa [331,0] ?_
  refine fU 4 rfl rfl rfl rfl (fun hb11=> .step (bX Tryz.underlying109 rfl ey az rfl rfl) rfl rfl<| .step (bM ey rfl rfl rfl) rfl rfl<| .step (cJ Tryz.underlying107 rfl rfl rfl) rfl rfl<| .step (bE rfl) rfl rfl<| .done) rfl rfl ?_
  refine aa [650,701,4] ?_
  exact congrArg A.b (F0 hk1)
 ·have hk1 : ¬ k = 1 := by simpa using hc6
  refine aa [665] ?_
  refine cm rfl (fun hc17=>?_) (fun hc17=>?_)
  ·have hk2 : k = 2 := by simpa using hc17
   refine aa [645,718,647] ?_
   refine fU 4 rfl rfl rfl rfl (fun hb22=> .step (bX Tryz.underlying109 rfl ey az rfl rfl) rfl rfl<| .step (bM ey rfl rfl rfl) rfl rfl<| .step (cJ Tryz.underlying107 rfl rfl rfl) rfl rfl<| .step (bE rfl) rfl rfl<| .done) rfl rfl ?_
   refine aa [650,701,4] ?_
   exact congrArg A.b (F1 hk2)
  ·have hk2 : ¬ k = 2 := by simpa using hc17
   refine aa [665] ?_
   refine cm rfl (fun hc28=>?_) (fun hc28=>?_)
   ·have hk3 : k = 3 := by simpa using hc28
    refine aa [3,697] ?_
    refine c5 (ι:=Nat) (fun i=> [(1,.p 1 0),(3,nJ i)]) (fun i=>⟨[(1,some ([.i .i64 k,.i .i64 n,.s s,.fz l.length (CV.dt l)]))]⟩) (fun i=>i≤l.length∧(l.take i).all CV.okB=true) (fun i=>l.length - i) ?_ ?_
    ·exact c4 (0) (⟨Nat.zero_le _,rfl⟩) [(1,some 1)] hI rfl rfl ⟨⟨_,rfl,.p rfl⟩,⟨_,rfl,.pure pu⟩,trivial⟩ ⟨.inr ⟨_,_,rfl,rfl,.pure bO⟩,trivial⟩
    rintro i ⟨hi,hi2⟩
    refine aa [699,733,88,646] ?_
    refine cm rfl (fun hc34=>?_) (fun hc34=>?_)
    ·have h43 : i < l.length := by have := of_decide_eq_true hc34; omega
     obtain⟨v,hv⟩:∃v,l[i]? =some v:=⟨_,List.getElem?_eq_getElem h43⟩
     have hvm:=List.mem_of_getElem? hv
     refine aa [672,733,0,98,130,171,646] ?_
     refine cm rfl (fun hc43=>?_) (fun hc43=>?_)
     ·have h43 : v.okB = false := by simpa using hc43
      refine aa [751,701,4] ?_
      exact congrArg A.b (F2 hk3 hv h43)
     ·have h43 : v.okB = true := by simpa using hc43
      refine aa [676] ?_
      exact cO (i+1) (⟨by omega,BW hv hi2 h43⟩) aq [(1,some 1)] hI rfl rfl ⟨⟨_,rfl,.p rfl⟩,⟨_,rfl,.pure pu⟩,trivial⟩ ⟨.inr ⟨_,_,rfl,rfl,.pure bO⟩,trivial⟩
    ·obtain rfl : i = l.length := by have := of_decide_eq_false hc34; omega
     refine aa [683,718,647] ?_
     refine fU 3 rfl rfl rfl rfl (fun hb47=> .step (bX Tryz.underlying109 rfl jZ az rfl rfl) rfl rfl<| .step (bM jZ rfl rfl rfl) rfl rfl<| .step ((bE rfl).v (v':= .b s.isEmpty) (congrArg A.b (by cases s<;>rfl))) rfl rfl<| .done) rfl rfl ?_
     refine aa [650,701,4] ?_
     exact congrArg A.b (Na hk3 hi2)
   ·have hk3 : ¬ k = 3 := by simpa using hc28
    refine aa [52,781,707,4] ?_
    exact congrArg A.b (FZ hk1 hk2 hk3)
theorem Oq (v:CV) (h:v.size≤1000000):bU Tryz.prog 176 [.ag v.cells] (cl (.b v.okB)):=CV.sa (p:=fun v=>bU Tryz.prog 176 [.ag v.cells] (cl (.b v.okB))) 1000000 (fun k n s l hl ih=>Ot k n s l hl ih) v h
theorem N5 (k n:Int) (s:List UInt8) (l:List CV) (hl:CV.gM l<1000000) (ih:∀v∈l,bU Tryz.prog 177 [.ag v.cells] (cl (nJ v.depth))):bU Tryz.prog 177 [.ag [.i .i64 k,.i .i64 n,.s s,.fz l.length (CV.dt l)]] (cl (nJ (CV.depth (.mk k n s l)))):=by
 refine enter Tryz.func177 rfl Tryz.ntmps177 aw (Nat.le_of_ble_eq_true rfl) fun w0 X0 hI=>?_
 refine aa [670,703] ?_
 have hll:=CV.tU l
 have hdl:=CV.zr l
 refine aa [1,718,646] ?_
 refine cm rfl (fun hc7=>?_) (fun hc7=>?_)
 ·have hk3 : ¬ k = 3 := by simpa using hc7
  refine aa [645,657,21,4] ?_
  exact congrArg nJ (show 0=CV.depth (.mk k n s l) by rw [CV.depth,if_neg hk3])
 ·have hk3 : k = 3 := by simpa using hc7
  refine aa [669,659,697] ?_
  refine c5 (ι:=Nat) (fun i=> [(1,.p 1 0),(3,nJ (CV.gE (l.take i))),(4,nJ i)]) (fun i=>⟨[(1,some ([.i .i64 k,.i .i64 n,.s s,.fz l.length (CV.dt l)]))]⟩) (fun i=>i≤l.length) (fun i=>l.length - i) ?_ ?_
  ·exact c4 (0) (Nat.zero_le _) [(1,some 1)] hI rfl rfl ⟨⟨_,rfl,.p rfl⟩,⟨_,rfl,.pure pu⟩,⟨_,rfl,.pure pu⟩,trivial⟩ ⟨.inr ⟨_,_,rfl,rfl,.pure bO⟩,trivial⟩
  rintro i hi
  refine aa [699,733,88,646] ?_
  refine cm rfl (fun hc12=>?_) (fun hc12=>?_)
  ·have h43 : i < l.length := by have := of_decide_eq_true hc12; omega
   obtain⟨v,hv⟩:∃v,l[i]? =some v:=⟨_,List.getElem?_eq_getElem h43⟩
   have hvm:=List.mem_of_getElem? hv
   refine aa [655,649,733,0,98,130,171,334,686] ?_
   exact cO (i+1) aq aq [(1,some 1)] hI rfl rfl ⟨⟨_,rfl,.p rfl⟩,⟨_,rfl,.pure pu⟩,⟨_,rfl,.pure pu⟩,trivial⟩ ⟨.inr ⟨_,_,rfl,rfl,.pure bO⟩,trivial⟩
  ·obtain rfl : i = l.length := by have := of_decide_eq_false hc12; omega
   refine aa [683,335,129,698] ?_
   exact congrArg nJ (show CV.gE l+1=CV.depth (.mk k n s l) by rw [CV.depth,if_pos hk3])
theorem N4 (v:CV) (h:v.size≤1000000):bU Tryz.prog 177 [.ag v.cells] (cl (nJ v.depth)):=CV.sa (p:=fun v=>bU Tryz.prog 177 [.ag v.cells] (cl (nJ v.depth))) 1000000 (fun k n s l hl ih=>N5 k n s l hl ih) v h
theorem NV (v:CV) (h:v.size≤1000000):bU Tryz.prog 125 [.ag v.cells] (cl (.i .i64 (iI v))):=by
 refine enter Tryz.func125 rfl Tryz.ntmps125 aw (Nat.le_of_ble_eq_true rfl) fun w0 X0 hI=>?_
 refine aa [670,659,645,67] ?_
 refine bJ rfl (b7 false rfl (.cons (.pure pu) (.nil)) (Oq v h) pu (.inl rfl) rfl ?_)
 refine aa [646] ?_
 refine cm rfl (fun hc5=>?_) (fun hc5=>?_)
 ·have h5 : v.okB = false := by simpa using hc5
  refine aa [645,45,709] ?_
  exact congrArg (A.i .i64) (CI h5).symm
 ·have h5 : v.okB = true := by simpa using hc5
  refine aa [675,645,67] ?_
  refine bJ rfl (b7 false rfl (.cons (.pure pu) (.nil)) (N4 v h) pu (.inl rfl) rfl ?_)
  refine aa [646] ?_
  refine cm rfl (fun hc8=>?_) (fun hc8=>?_)
  ·have h8 : 16 < v.depth := by have := of_decide_eq_true hc8; omega
   refine aa [645,257,709] ?_
   exact congrArg (A.i .i64) (CJ h5 h8).symm
  ·have h8 : ¬ 16 < v.depth := by have := of_decide_eq_false hc8; omega
   refine aa [669,657,4] ?_
   exact congrArg (A.i .i64) (y7 h5 h8).symm
theorem Pd (n:Int) (h0: -9223372036854775808≤n) (h1:n≤9223372036854775807):bU Tryz.prog 179 [.i .i64 n] (cl (cN (cQ (iu n)))):=by
 refine enter Tryz.func179 rfl Tryz.ntmps179 aw (Nat.le_of_ble_eq_true rfl) fun w0 X0 hI=>?_
 refine aa [645,256,654,665] ?_
 refine cm rfl (fun hc4=>?_) (fun hc4=>?_)
 ·have h4 : 0 ≤ n := by have := of_decide_eq_true hc4; omega
  refine aa [648] ?_
  refine s1 ((ep Tryz.underlying3 Tryz.underlying198 rfl).v (v':=cN (BitVec.ofInt 64 (n))) (congrArg (A.i .u64) (Bl _))) rfl <| s1 ((tZ (cQ 2) _ rfl rfl).v (v':=cN (cQ (iu n))) (congrArg cN (Qo h4 h1))) rfl ?_
  refine aa [715] ?_
  refine bZ (rs:= [.tmp 2]) rfl (bV rfl (bW)) rfl
 ·have h4 : ¬ 0 ≤ n := by have := of_decide_eq_false hc4; omega
  refine aa [711] ?_
  refine s1 (sQ rfl rfl aq aq) rfl <| s1 ((QY rfl).v (v':= .i .i64 (-(n+1))) (congrArg (A.i .i64) (ML h0 h4))) rfl <| s1 ((ep Tryz.underlying3 Tryz.underlying198 rfl).v (v':=cN (BitVec.ofInt 64 (-(n+1)))) (congrArg (A.i .u64) (Bl _))) rfl <| s1 (tZ (cQ 2) _ rfl rfl) rfl <| s1 ((yE _ (cQ 1) rfl rfl).v (v':=cN (cQ (iu n))) (congrArg cN (Qn h0 h4))) rfl ?_
  refine aa [650] ?_
  refine bZ (rs:= [.tmp 2]) rfl (bV rfl (bW)) rfl
theorem GK (u:BitVec 64) (ih:128≤u.toNat→bU Tryz.prog 178 [cN (u / cQ 128)] (fk 1 (dz (u.toNat / 128)).length ((dz (u.toNat / 128)).map u8))):bU Tryz.prog 178 [cN u] (fk 1 (dz u.toNat).length ((dz u.toNat).map u8)):=by
 refine enter Tryz.func178 rfl Tryz.ntmps178 aw (Nat.le_of_ble_eq_true rfl) fun w0 X0 hI=>?_
 refine aa [651,648] ?_
 refine s1 ((bE rfl).v (v':= .b (decide (u.toNat<128))) (congrArg A.b (decide_eq_decide.2 aq))) rfl <| bH <| bF ?_
 refine cm rfl (fun hc4=>?_) (fun hc4=>?_)
 ·have h4 : u.toNat < 128 := of_decide_eq_true hc4
  refine aa [648,44] ?_
  refine bJ rfl (eF 7 rfl Tryz.underlying68 cr rfl rfl rfl rfl rfl ?_)
  refine aa [715] ?_
  rw [ue h4]
  refine bZ (rs:= [.tmp 2]) rfl (bV rfl bW) ⟨7,rfl,rfl⟩
 ·have h4 : ¬ u.toNat < 128 := of_decide_eq_false hc4
  have hnl:=tT (u:=u.toNat / 128) aq
  refine aa [711] ?_
  refine s1 (Of _ (cQ 128) rfl rfl az) rfl <| s1 (yE _ (cQ 128) rfl rfl) rfl <| s1 ((kC _ Tryz.underlying198 Tryz.underlying5 rfl).v (v':=u8 (UInt8.ofNat (u.toNat % 128+128))) (congrArg u8 (MY u))) rfl ?_
  refine aa [170,0] ?_
  refine s1 (NS _ (cQ 128) rfl rfl az) rfl <| bJ rfl (kx 15 rfl false rfl (.cons (.pure pu) (.nil)) (ih aq) bO (.inl rfl) rfl ?_)
  refine bJ rfl (dR 16 rfl Tryz.underlying68 cr rfl (.sl rfl rfl) rfl (dH rfl ar) aA aC aq rfl (show [u8 (UInt8.ofNat (u.toNat % 128+128))]++(dz (u.toNat / 128)).map u8=(dz u.toNat).map u8 by rw [ud h4];rfl) rfl ?_)
  refine aa [650] ?_
  have hlb:1+(dz (u.toNat / 128)).length=(dz u.toNat).length:=by rw [ud h4,List.length_cons,Nat.add_comm]
  refine bZ (rs:= [.tmp 2]) rfl (bV rfl bW) ⟨16,?_,rfl⟩
  rw [←hlb];rfl
theorem OD (u:BitVec 64):bU Tryz.prog 178 [cN u] (fk 1 (dz u.toNat).length ((dz u.toNat).map u8)):=by
  have key:∀(q:Nat) (u:BitVec 64),u.toNat≤q→bU Tryz.prog 178 [cN u] (fk 1 (dz u.toNat).length ((dz u.toNat).map u8)):=by
    intro q
    induction q with
    |zero=>intro u hu;exact GK u fun h=>absurd h aq
    |succ q ih=>intro u hu;exact GK u fun h=>by have:=ih (u / cQ 128) (by rw [FN];omega);rw [FN]at this;exact this
  exact key u.toNat u (Nat.le_refl _)
theorem AR (R:List UInt8) (u:BitVec 64) (h:dz u.toNat=R):bU Tryz.prog 178 [cN u] (fk 1 R.length (R.map u8)):=by subst h;exact OD u
-- C1F
theorem Ol (k n:Int) (s:List UInt8) (l:List CV) (hk:k=1∨k=2∨(k=3∧CV.lL l=true)) (hrg:(CV.mk k n s l).il=true) (R:List UInt8) (hR:(CV.mk k n s l).enc=R) (hl:R.length≤100000000) (ih:∀v∈l,v.okB=true→v.il=true→v.enc.length≤100000000→bU Tryz.prog 126 [.ag v.cells] (fk 1 v.enc.length (v.enc.map u8))):bU Tryz.prog 126 [.ag [.i .i64 k,.i .i64 n,.s s,.fz l.length (CV.dt l)]] (fk 1 R.length (R.map u8)):=by
 refine enter Tryz.func126 rfl Tryz.ntmps126 aw (Nat.le_of_ble_eq_true rfl) fun w0 X0 hI=>?_
 refine aa [670,652,3] ?_
 rcases hk with hcs|hcs|hcs
 ·subst hcs
  simp only [CV.il,Bool.and_eq_true,decide_eq_true_eq]at hrg
  have hR1:1::dz (iu n)=R:=by rw [←hR];rfl
  have hR1l:R.length=(dz (iu n)).length+1:=by rw [←hR1];rfl
  have hnl:=tT (qA hrg.1.1 hrg.1.2)
  refine aa [1,718,656,9,648,714,645,273,718] ?_
  refine bJ rfl (b7 false rfl (.cons (.pure pu) (.nil)) (Pd n hrg.1.1 hrg.1.2) pu (.inl rfl) rfl ?_)
  refine bJ rfl (kx 13 rfl false rfl (.cons (.pure pu) (.nil)) (AR (dz (iu n)) _ (by rw [kT (qA hrg.1.1 hrg.1.2)])) bO (.inl rfl) rfl ?_)
  refine bJ rfl (dR 14 rfl Tryz.underlying68 cr rfl (.sl rfl aA) rfl (dH rfl ar) aA aC aq rfl (show [u8 1]++(dz (iu n)).map u8=R.map u8 by rw [←hR1];rfl) rfl ?_)
  refine aa [650,701] ?_
  refine bZ (rs:= [.tmp 2]) rfl (bV rfl bW) ⟨14,?_,rfl⟩
  rw [hR1l,Nat.add_comm];rfl
 ·subst hcs
  have hR2:2::(dz s.length++s)=R:=by rw [←hR];rfl
  have hR2l:R.length=1+(dz s.length).length+s.length:=by rw [←hR2];simp;omega
  refine aa [1,718,656,9,648,694,648,714,3] ?_
  refine dh ⟨_, [], []⟩ 10 4 cL (le_refl rfl) <| rE 17 0 [] cz Tryz.underlying68 cr rfl rfl rfl rfl rfl rfl <| bK 1 [] [(1,none)] (bX Tryz.underlying109 rfl jZ az rfl rfl) rfl rfl <| bK 2 [1] [(1,none)] (bM jZ rfl rfl rfl) rfl rfl <| bK 3 [2] [] (x7 Tryz.underlying9 rfl rfl) rfl rfl <| bK 4 [3] [] (qb _ Tryz.underlying3 Tryz.underlying198 rfl rfl) rfl rfl <| nT 22 false 5 [4] [] cz rfl (.cons (.pure pu) (.nil)) (AR (dz s.length) _ (by rw [kT aq])) bO (.inl rfl) rfl rfl <| gp 23 6 [0,5] [(17,some 0),(22,some 5)] cz Tryz.underlying68 cr rfl (.sl rfl aA) rfl (dH rfl ar) aA aC aq rfl (show [u8 2]++(dz s.length).map u8=(2::dz s.length).map u8 from rfl) rfl rfl <| bK 7 [] [(1,none)] (bX Tryz.underlying109 rfl jZ az rfl rfl) rfl rfl <| bK 8 [7] [(1,none)] (bM jZ rfl rfl rfl) rfl rfl <| Ee 26 9 [6,8] [(23,some 6)] cz Tryz.underlying68 Tryz.underlying9 cr rfl rfl aE aq rfl aC aq (show(2::dz s.length).map u8++s.map u8=R.map u8 by rw [←hR2];simp) rfl rfl ?_
  refine aa [2,650,701] ?_
  refine bZ (rs:= [.tmp 2]) rfl (bV rfl bW) ⟨26,?_,rfl⟩
  rw [hR2l];rfl
 ·obtain ⟨rfl, hok⟩ := hcs
  simp only [CV.il,Bool.and_eq_true,decide_eq_true_eq]at hrg
  have hR3:3::(dz l.length++CV.dQ l)=R:=by rw [←hR];rfl
  have hRl:R.length=1+(dz l.length).length+(CV.dQ l).length:=by rw [←hR3];simp;omega
  have hnl:=CV.wx l
  rw [CV.oR]at hok
  have hrl:=hrg.2
  rw [CV.xD]at hrl
  refine aa [1,718,656,9,648,694,648,694,52,781,645] ?_
  refine bJ rfl (eF 27 rfl Tryz.underlying68 cr rfl rfl rfl rfl rfl ?_)
  refine aa [733,88,347] ?_
  refine bJ rfl (kx 32 rfl false rfl (.cons (.pure pu) (.nil)) (AR (dz l.length) _ (by rw [kT aq])) bO (.inl rfl) rfl ?_)
  refine bJ rfl (dR 33 rfl Tryz.underlying68 cr rfl (.sl rfl aA) rfl (dH rfl ar) aA aC aq rfl (show [u8 3]++(dz l.length).map u8=(3::(dz l.length++CV.dQ (l.take 0))).map u8 by simp [CV.dQ]) rfl ?_)
  refine aa [690] ?_
  refine c5 (ι:=Nat) (fun i=> [(1,.p 1 0),(3,.sl 140 1 0 (1+(dz l.length).length+(CV.dQ (l.take i)).length)),(4,nJ i)]) (fun i=>⟨[(1,some ([.i .i64 3,.i .i64 n,.s s,.fz l.length (CV.dt l)])),(140,some ((3::(dz l.length++CV.dQ (l.take i))).map u8))]⟩) (fun i=>i≤l.length) (fun i=>l.length - i) ?_ ?_
  ·exact c4 (0) (Nat.zero_le _) [(1,some 1),(140,some 33)] hI rfl rfl ⟨⟨_,rfl,.p rfl⟩,⟨_,rfl,.sl rfl ar⟩,⟨_,rfl,.pure pu⟩,trivial⟩ ⟨.inr ⟨_,_,rfl,rfl,.pure bO⟩,.inr ⟨_,_,rfl,rfl,.pure bO⟩,trivial⟩
  rintro i hi
  have hli:=CV.vK l i
  have hli2:=CV.vK l (i+1)
  have hCl:(3::(dz l.length++CV.dQ (l.take i))).length=1+(dz l.length).length+(CV.dQ (l.take i)).length:=by simp;omega
  refine aa [699,733,88,646] ?_
  refine cm rfl (fun hc38=>?_) (fun hc38=>?_)
  ·have h38 : i < l.length := by have := of_decide_eq_true hc38; omega
   obtain⟨v,hv⟩:∃v,l[i]? =some v:=⟨_,List.getElem?_eq_getElem h38⟩
   have hvm:=List.mem_of_getElem? hv
   have hvo:=List.all_eq_true.1 hok _ hvm
   have hvr:=List.all_eq_true.1 hrl _ hvm
   have hvl:(CV.dQ (l.take i)).length+v.enc.length=(CV.dQ (l.take (i+1))).length:=by rw [←CV.tA hv,List.length_append]
   refine aa [655,649,733,0,98,130] ?_
   refine bJ rfl (kx 47 rfl false rfl (.cons (.pure pu) (.nil)) (ih v hvm hvo hvr aq) bO (.inl rfl) rfl ?_)
   refine bJ rfl (dR 48 rfl Tryz.underlying68 cr rfl (.sl rfl (by rw [List.length_map,hCl];omega)) rfl (dH rfl ar) aA aC aq rfl (show(3::(dz l.length++CV.dQ (l.take i))).map u8++v.enc.map u8=(3::(dz l.length++CV.dQ (l.take (i+1)))).map u8 by rw [←CV.tA hv];simp) rfl ?_)
   refine aa [686] ?_
   exact cO (i+1) aq aq [(1,some 1),(140,some 48)] hI rfl rfl ⟨⟨_,rfl,.p rfl⟩,⟨_,rfl,.sl rfl ar⟩,⟨_,rfl,.pure pu⟩,trivial⟩ ⟨.inr ⟨_,_,rfl,rfl,.pure bO⟩,.inr ⟨_,_,rfl,rfl,.pure bO⟩,trivial⟩
  ·obtain rfl : i = l.length := by have := of_decide_eq_false hc38; omega
   refine aa [719] ?_
   refine dP 140 (cs':=R.map u8) rfl (by rw [List.take_length,hR3]) <| bZ (rs:= [.tmp 2]) rfl (bV rfl bW) ⟨140,?_,rfl⟩
   rw [hRl,List.take_length];rfl
theorem Oj (v:CV) (ho:v.okB=true) (hr:v.il=true) (hl:v.enc.length≤100000000):bU Tryz.prog 126 [.ag v.cells] (fk 1 v.enc.length (v.enc.map u8)):=by
 have key:∀u:CV,u.size≤v.size→u.okB=true→u.il=true→u.enc.length≤100000000→bU Tryz.prog 126 [.ag u.cells] (fk 1 u.enc.length (u.enc.map u8)):=by
  refine CV.sa _ fun k n s l _ ih=>?_
  intro h1 h2 h3
  exact Ol k n s l (ui h1) h2 _ rfl h3 ih
 exact key v (Nat.le_refl _) ho hr hl
theorem Gv (v:CV) (hs:v.size≤1000000) (hrg:v.il=true) (hl:v.enc.length≤100000000):bU Tryz.prog 83 [.ag v.cells] (cl (oC v)):=by
 refine enter Tryz.func83 rfl Tryz.ntmps83 aw (Nat.le_of_ble_eq_true rfl) fun w0 X0 hI=>?_
 refine aa [670,0,749,645,67] ?_
 refine bJ rfl (b7 false rfl (.cons (.pure pu) (.nil)) (NV v hs) pu (.inl rfl) rfl ?_)
 refine aa [652,665] ?_
 refine cm rfl (fun hc8=>?_) (fun hc8=>?_)
 ·have h9 : iI v ≠ 0 := by simpa using hc8
  refine aa [757,35] ?_
  exact(Dz h9).symm
 ·have h9 : iI v = 0 := by simpa using hc8
  have hok:=CK h9
  refine aa [669,67] ?_
  refine bJ rfl (kx 11 rfl false rfl (.cons (.pure pu) (.nil)) (Oj v hok hrg hl) bO (.inl rfl) rfl ?_)
  refine aa [726,69,35] ?_
  exact(rn h9).symm
-- E6F
theorem uw (n:Int):bU Tryz.prog 82 [.i .i64 n] (cl (.ag (CV.cells (dB n)))):=by
 refine enter Tryz.func82 rfl Tryz.ntmps82 aw (Nat.le_of_ble_eq_true rfl) fun w0 X0 hI=>?_
 refine aa [767,743,93,40] ?_
 rfl
theorem NZ (e:Ep) (h:e.ok):bU Tryz.prog 34 [.ag e.cells] (cl (.fz (jk e).enc.length ((jk e).enc.map u8))):=by
 refine enter Tryz.func34 rfl Tryz.ntmps34 aw (Nat.le_of_ble_eq_true rfl) fun w0 X0 hI=>?_
 refine aa [670,652] ?_
 have hfew:=h.g9
 refine aa [1,298,294,99,720] ?_
 refine c5 (ι:=Nat) (fun i=> [(1,.p 1 0),(3,.p 3 0),(4,nJ i)]) (fun i=>⟨[(1,some (e.cells)),(3,some ([.i .i64 3,.i .i64 0,.s [],.sl 134 4 0 i])),(134,some (CV.dt ((e.ch.take i).map ga)))]⟩) (fun i=>i≤e.ch.length) (fun i=>e.ch.length - i) ?_ ?_
 ·exact c4 (0) (Nat.zero_le _) [(1,some 1),(3,some 3),(134,none)] hI rfl rfl ⟨⟨_,rfl,.p rfl⟩,⟨_,rfl,.p rfl⟩,⟨_,rfl,.pure pu⟩,trivial⟩ ⟨.inr ⟨_,_,rfl,rfl,.pure bO⟩,.inr ⟨_,_,rfl,rfl,.cons (.pure pu) (.cons (.pure pu) (.cons (.pure pu) (.cons (.nl rfl) .nil)))⟩,.inl ⟨rfl,rfl⟩,trivial⟩
 rintro i hi
 refine aa [699,109,75,34,646] ?_
 refine cm rfl (fun hc12=>?_) (fun hc12=>?_)
 ·have h12 : i < e.ch.length := by have := of_decide_eq_true hc12; omega
  obtain⟨c,hc⟩:∃c,e.ch[i]? =some c:=⟨_,List.getElem?_eq_getElem h12⟩
  refine b9 <| bF <| bG <| cd <| dh ⟨_, [], []⟩ 21 4 cL (le_refl rfl) ?_
  refine aa [295,296] ?_
  refine bK 2 [] [(1,none)] (bX Tryz.underlying45 rfl dN az rfl rfl) rfl rfl <| bK 3 [2] [(1,none)] (bM dN rfl rfl rfl) rfl rfl ?_
  refine aa [47] ?_
  refine bK 5 [3,4] [] (cf i Tryz.underlying31 c8 rfl rfl rfl aq rfl) rfl rfl <| bK 6 [5] [] (cR Tryz.underlying55 rfl bL az rfl rfl) rfl rfl <| bK 7 [6] [] (bM bL rfl rfl (dK hc (k:=0) rfl az)) rfl rfl <| c7 false 8 [7] [] cz rfl (.cons (.pure pu) (.nil)) (uw c.id) pu (.inl rfl) rfl rfl <| bK 9 [] [(1,none)] (bX Tryz.underlying45 rfl dN az rfl rfl) rfl rfl <| bK 10 [9] [(1,none)] (bM dN rfl rfl rfl) rfl rfl <| bK 11 [] [] (bE rfl) rfl rfl <| bK 12 [10,11] [] (cf i Tryz.underlying31 c8 rfl rfl rfl aq rfl) rfl rfl <| bK 13 [12] [] (cR Tryz.underlying55 rfl bL az rfl rfl) rfl rfl <| bK 14 [13] [] (bM bL rfl rfl (dK hc (k:=1) rfl az)) rfl rfl <| c7 false 15 [14] [] cz rfl (.cons (.pure pu) (.nil)) (uw c.st) pu (.inl rfl) rfl rfl <| oH 16 [8,15] cz Tryz.underlying107 cP rfl rfl rfl aQ (show _=CV.dt [dB c.id,dB c.st]from rfl) bO rfl rfl rfl rfl <| bK 17 [16] [] (YO.v (v':= .ag (CV.cells (ga c))) (eP (out:= [_,_,_,_]) [[cn (.int .i64 0)], [cn (.int .i64 0)], [cn (.string ByteArray.empty)], [cn (.slice none 0 0)]] cP rfl Tryz.underlying109 aw rfl rfl ⟨⟨by(first|rfl|omega|(simp;done)|(simp [*];done)|(simp [cw, *];done)),rfl⟩,⟨⟨by(first|rfl|omega|(simp;done)|(simp [*];done)|(simp [cw, *];done)),rfl⟩,trivial⟩⟩ rfl) (rfl)) rfl rfl <| oH 18 [17] cz Tryz.underlying107 cP rfl rfl rfl aQ (rX (ga c)) bO rfl rfl rfl rfl <| gp 34 19 [1,18] [(134,none)] cz Tryz.underlying107 cP rfl (.sl rfl aE) rfl rfl aA aC aq rfl rfl rfl rfl <| bK 20 [] [(3,none)] (bX Tryz.underlying109 rfl ey az rfl rfl) rfl rfl ?_
  refine aa [2,189,737] ?_
  exact cO (i+1) aq aq [(1,some 1),(3,some 3),(134,some 34)] hI rfl rfl ⟨⟨_,rfl,.p rfl⟩,⟨_,rfl,.p rfl⟩,⟨_,rfl,.pure pu⟩,trivial⟩ ⟨.inr ⟨_,_,rfl,rfl,.pure bO⟩,.inr ⟨_,_,rfl,rfl,.cons (.pure pu) (.cons (.pure pu) (.cons (.pure pu) (.cons (.sl rfl aA) .nil)))⟩,.inr ⟨_,_,rfl,rfl,.of (CA hc) (.pure bO)⟩,trivial⟩
 ·obtain rfl : i = e.ch.length := by have := of_decide_eq_false hc12; omega
  refine aa [684] ?_
  refine dP 134 (cs':=CV.dt (e.ch.map ga)) rfl aN ?_
  refine aa [297,188] ?_
  refine dh ⟨_, [], []⟩ 25 4 cL (le_refl rfl) <| bK 0 [] [] (cR Tryz.underlying45 rfl bL az rfl rfl) rfl rfl <| bK 1 [0] [] (bM bL rfl rfl rfl) rfl rfl <| c7 false 2 [1] [] cz rfl (.cons (.pure pu) (.nil)) (uw e.iss) pu (.inl rfl) rfl rfl <| bK 3 [] [] (cR Tryz.underlying45 rfl bL az rfl rfl) rfl rfl <| bK 4 [3] [] (bM bL rfl rfl rfl) rfl rfl <| c7 false 5 [4] [] cz rfl (.cons (.pure pu) (.nil)) (uw e.no) pu (.inl rfl) rfl rfl <| bK 6 [] [] (cR Tryz.underlying45 rfl bL az rfl rfl) rfl rfl <| bK 7 [6] [] (bM bL rfl rfl rfl) rfl rfl <| c7 false 8 [7] [] cz rfl (.cons (.pure pu) (.nil)) (uw e.day) pu (.inl rfl) rfl rfl ?_
  refine aa [411] ?_
  refine bK 10 [] [] (cR Tryz.underlying45 rfl bR az rfl rfl) rfl rfl <| bK 11 [10] [] ((nv (ds:=((e.cells.drop 4).drop (0*1)).take (32*1)) 32 Tryz.underlying23 cr rfl aI bn bn (Nat.zero_le _) (Nat.le_refl _) az rfl rfl).v (JZ h)) rfl rfl <| bK 12 [11] [] (qI Tryz.underlying68 Tryz.underlying5 Tryz.underlying9 rfl rfl (by rw [h.dc])) rfl rfl <| bK 13 [12] [] (YO.wk (v':= .ag (CV.cells (fh e.dc))) (eP (out:= [_,_,_,_]) [[cn (.int .i64 0)], [cn (.int .i64 0)], [cn (.string ByteArray.empty)], [cn (.slice none 0 0)]] cP rfl Tryz.underlying109 aw rfl rfl ⟨⟨by(first|rfl|omega|(simp;done)|(simp [*];done)|(simp [cw, *];done)),rfl⟩,⟨⟨by(first|rfl|omega|(simp;done)|(simp [*];done)|(simp [cw, *];done)),rfl⟩,trivial⟩⟩ rfl) (.ag (.cons (.eq rfl) (.cons (.eq rfl) (.cons (.eq rfl) (.cons .nl .nil)))))) rfl rfl <| bK 14 [] [] (cR Tryz.underlying45 rfl bR az rfl rfl) rfl rfl <| bK 15 [14] [] ((nv (ds:=((e.cells.drop 36).drop (0*1)).take (32*1)) 32 Tryz.underlying23 cr rfl aI bn bn (Nat.zero_le _) (Nat.le_refl _) az rfl rfl).v (J3 h)) rfl rfl <| bK 16 [15] [] (qI Tryz.underlying68 Tryz.underlying5 Tryz.underlying9 rfl rfl (by rw [h.prev])) rfl rfl <| bK 17 [16] [] (YO.wk (v':= .ag (CV.cells (fh e.prev))) (eP (out:= [_,_,_,_]) [[cn (.int .i64 0)], [cn (.int .i64 0)], [cn (.string ByteArray.empty)], [cn (.slice none 0 0)]] cP rfl Tryz.underlying109 aw rfl rfl ⟨⟨by(first|rfl|omega|(simp;done)|(simp [*];done)|(simp [cw, *];done)),rfl⟩,⟨⟨by(first|rfl|omega|(simp;done)|(simp [*];done)|(simp [cw, *];done)),rfl⟩,trivial⟩⟩ rfl) (.ag (.cons (.eq rfl) (.cons (.eq rfl) (.cons (.eq rfl) (.cons .nl .nil)))))) rfl rfl <| oH 18 [2,5,8,9,13,17] cz Tryz.underlying107 cP rfl rfl rfl aQ (show _=CV.dt [dB e.iss,dB e.no,dB e.day,eT (e.ch.map ga),fh e.dc,fh e.prev]from rfl) bO rfl rfl rfl rfl <| bK 19 [18] [] (YO.v (v':= .ag (CV.cells (jk e))) (eP (out:= [_,_,_,_]) [[cn (.int .i64 0)], [cn (.int .i64 0)], [cn (.string ByteArray.empty)], [cn (.slice none 0 0)]] cP rfl Tryz.underlying109 aw rfl rfl ⟨⟨by(first|rfl|omega|(simp;done)|(simp [*];done)|(simp [cw, *];done)),rfl⟩,⟨⟨by(first|rfl|omega|(simp;done)|(simp [*];done)|(simp [cw, *];done)),rfl⟩,trivial⟩⟩ rfl) (rfl)) rfl rfl <| c7 false 20 [19] [] cz rfl (.cons (.pure pu) (.nil)) (bU.cast (Gv (jk e) (Hn h) (GI h) (Nat.le_trans (tE h) aq)) (Dy e)) pu (.inl rfl) rfl rfl <| bK 21 [20] [] (bE rfl) rfl rfl <| bK 22 [21] [] (bE rfl) rfl rfl <| bK 23 [21] [] (bE rfl) rfl rfl <| bK 24 [22] [] (bE rfl) rfl rfl ?_
  refine aa [2,646,778,4] ?_
  rfl
end Go.Abs.D2
