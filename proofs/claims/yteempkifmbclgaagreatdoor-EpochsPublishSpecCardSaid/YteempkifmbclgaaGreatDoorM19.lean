/-
  The engine, the plain laws and the walks that the rows need, part 19. Conditions: none.
-/
import Derived.Test.YteempkifmbclgaaGreatDoorM18
set_option linter.unusedVariables false
set_option linter.unusedSimpArgs false
set_option maxHeartbeats 1000000
set_option maxRecDepth 10000
-- D2F
namespace Go.Abs.D2
open Go Go.Eng Go.Abs Go.Proofs
theorem Jg (parts:List (List UInt8)) (hk:parts.length≤1048576) (ht:parts.flatten.length≤140737488300000):eQ Tryz.prog 147 [.fn (.func 148) [.p 3 0] [],.fz parts.length (parts.map eU)] ⟨[(3,some (h0.l.map ct))]⟩ (j7 (.tu []) [(3,(fin parts.flatten).l.map ct)]):=by
 refine tF Tryz.func147 rfl Tryz.ntmps147 aw (Nat.le_of_ble_eq_true rfl) fun w0 X0 hI=>?_
 refine bG <| bI <| bJ rfl (cI 4 rfl Qk rfl rfl ?_)
 refine aa [653,65,256,727] ?_
 refine s1 (cJ Tryz.underlying182 rfl rfl rfl) rfl ?_
 refine aa [667] ?_
 refine c5 (ι:=List UInt8×List UInt8×Nat) (fun⟨s,tl,i⟩=> [(0,.fn (.func 148) [.p 3 0] []),(4,.p 4 0),(5,.i .i64 ((s.length % 64):Nat)),(6,cN (cQ s.length)),(11,.fz parts.length (parts.map eU)),(12,.i .i64 (parts.length:Nat)),(13,.i .i64 (i:Nat))]) (fun⟨s,tl,i⟩=>⟨[(3,some ((hs s).l.map ct)),(4,some ((rem s++tl).map u8))]⟩) (fun⟨s,tl,i⟩=>s=(parts.take i).flatten∧i≤parts.length∧tl.length=64 - (s.length % 64)) (fun⟨s,tl,i⟩=>parts.length - i) ?_ ?_
 ·exact c4 (([],List.replicate 64 0,0)) (⟨by simp,Nat.zero_le _,by simp⟩) [(3,some 3),(4,some 4)] hI rfl rfl ⟨⟨_,rfl,.fn (.cons (.p rfl) .nil) .nil⟩,⟨_,rfl,.p rfl⟩,⟨_,rfl,.of rfl (.pure pu)⟩,⟨_,rfl,.of rfl (.pure pu)⟩,⟨_,rfl,.pure pu⟩,⟨_,rfl,.pure pu⟩,⟨_,rfl,.pure pu⟩,trivial⟩ ⟨.inr ⟨_,_,rfl,rfl,.of rfl (.pure bO)⟩,.inr ⟨_,_,rfl,rfl,.of Q3 (.pure bO)⟩,trivial⟩
 rintro⟨s,tl,i⟩ ⟨hs0,hi,htl⟩
 dsimp only
 have hmod:=Nat.mod_lt s.length (show 0<64 by decide)
 refine aa [651] ?_
 refine cm rfl (fun hc14=>?_) (fun hc14=>?_)
 ·have hi2 : i < parts.length := by have := of_decide_eq_true hc14; omega
  obtain⟨p,hp⟩:∃p,parts[i]? =some p:=⟨_,List.getElem?_eq_getElem hi2⟩
  have hpl:=Mj (List.mem_of_getElem? hp)
  refine aa [672,356] ?_
  refine s1 (bM eM rfl rfl (Ei hp)) rfl ?_
  refine aa [660,104] ?_
  refine s1 (qb p.length Tryz.underlying3 Tryz.underlying198 rfl rfl) rfl <| s1 (yE (cQ s.length) (cQ p.length) rfl rfl) rfl ?_
  refine aa [739] ?_
  refine c5 (ι:=Nat×List UInt8) (fun⟨j,tl2⟩=> [(0,.fn (.func 148) [.p 3 0] []),(4,.p 4 0),(5,.i .i64 (((s++p.take j).length % 64):Nat)),(6,cN (cQ s.length+cQ p.length)),(8,.fz (p.length - j) ((p.drop j).map u8)),(11,.fz parts.length (parts.map eU)),(12,.i .i64 (parts.length:Nat)),(13,.i .i64 (i:Nat))]) (fun⟨j,tl2⟩=>⟨[(3,some ((hs (s++p.take j)).l.map ct)),(4,some ((rem (s++p.take j)++tl2).map u8))]⟩) (fun⟨j,tl2⟩=>j≤p.length∧tl2.length=64 - ((s++p.take j).length % 64)) (fun⟨j,tl2⟩=>p.length - j) ?_ ?_
  ·exact c4 ((0,tl)) (⟨Nat.zero_le _,by rw [vf];exact htl⟩) [(3,some 3),(4,some 4)] hI rfl rfl ⟨⟨_,rfl,.fn (.cons (.p rfl) .nil) .nil⟩,⟨_,rfl,.p rfl⟩,⟨_,rfl,.of (by rw [vf]) (.pure pu)⟩,⟨_,rfl,.pure pu⟩,⟨_,rfl,.pure pu⟩,⟨_,rfl,.pure pu⟩,⟨_,rfl,.pure pu⟩,⟨_,rfl,.pure pu⟩,trivial⟩ ⟨.inr ⟨_,_,rfl,rfl,.of (by rw [vf]) (.pure bO)⟩,.inr ⟨_,_,rfl,rfl,.of (by rw [vf]) (.pure bO)⟩,trivial⟩
  rintro⟨j,tl2⟩ ⟨hj,htl2⟩
  dsimp only
  have hSL:(s++p.take j).length=s.length+min j p.length:=by rw [List.length_append,List.length_take]
  have hmod1:=Nat.mod_lt (s++p.take j).length (show 0<64 by decide)
  refine aa [699,104,646] ?_
  refine cm rfl (fun hc24=>?_) (fun hc24=>?_)
  ·have hj2 : j < p.length := by have := of_decide_eq_true hc24; omega
   have hc1:vU p (s++p.take j) j≤p.length - j:=Nat.min_le_left _ _
   have hc2:vU p (s++p.take j) j≤64 - ((s++p.take j).length % 64):=Nat.min_le_right _ _
   have hc0:0<vU p (s++p.take j) j:=Nat.lt_min.2 ⟨by omega,by omega⟩
   obtain⟨c,hcd⟩:∃c,c=vU p (s++p.take j) j:=⟨_,rfl⟩
   rw [←hcd]at hc0 hc1 hc2
   refine aa [681,9,648] ?_
   refine s1 (qF (o':=((s++p.take j).length % 64)) (64 - ((s++p.take j).length % 64)) Tryz.underlying214 cr rfl rfl aB aI (bs rfl rfl) bn aq aq rfl (by rw [if_neg aq];omega)) rfl <| s1 (bE rfl) rfl <| bJ rfl (MI (c) Tryz.underlying68 cr rfl rfl rfl rfl au hcd hc0 aB (Ji _ _ _ _ _) rfl ?_)
   refine s1 (bE rfl) rfl <| bH <| bF <| bG <| dh ⟨_, [5], [(0, [5])]⟩ 7 4 cL (le_refl rfl) ?_
   refine aa [738] ?_
   refine bK 2 [0,1] [] (cE _ _ rfl rfl rfl rfl aq) rfl rfl ?_
   refine aa [31,47] ?_
   refine bK 5 [3,4] [] ((jf (p.length - (j+c)) Tryz.underlying68 cr rfl aA (bs rfl rfl) bn aq aq aq rfl).v (congrArg (A.fz _) (J2 p j c))) rfl rfl <| bK 6 [2] [] (bE rfl) rfl rfl ?_
   refine aa [2,646,665] ?_
   refine cm rfl (fun hc36=>?_) (fun hc36=>?_)
   ·obtain ⟨r1, r2, r3⟩ := MM (s := s) hc1 htl2 (by have := of_decide_eq_true hc36; omega)
    refine aa [648,135] ?_
    refine bJ rfl (oO ⟨[(3,some ((hs (s++p.take j)).l.map ct))]⟩ [(3,(comp (hs (s++p.take j)) (rem (s++p.take j)++(p.drop j).take c++tl2.drop c)).l.map ct)] true rfl rfl ⟨⟨rfl,cK.pure bO⟩,trivial⟩ (.cons (.kp rfl) (.cons (.sl rfl rfl rfl (dD aB rfl) (cK.pure bO) bO) .nil)) (u6 _ (rem (s++p.take j)++(p.drop j).take c++tl2.drop c) aB) trivial (.inr trivial) (qB (c0:=(hs (s++p.take j)).l.map ct) rfl bO iX) rfl ?_)
    refine aa [656,1,65,760] ?_
    exact cO (x:=(j,tl2)) ((j+c,rem (s++p.take j)++(p.drop j).take c++tl2.drop c)) (⟨by dsimp only;omega,by dsimp only;rw [r3];simp only [List.length_append,gu,List.length_take,List.length_drop];omega⟩) (by dsimp only;omega) [(3,some 3),(4,some 4)] hI rfl rfl ⟨⟨_,rfl,.fn (.cons (.p rfl) .nil) .nil⟩,⟨_,rfl,.p rfl⟩,⟨_,rfl,.of (congrArg (fun k:Nat=>A.i .i64 (k:Int)) r3.symm) (.pure pu)⟩,⟨_,rfl,.pure pu⟩,⟨_,rfl,.pure pu⟩,⟨_,rfl,.pure pu⟩,⟨_,rfl,.pure pu⟩,⟨_,rfl,.pure pu⟩,trivial⟩ ⟨.inr ⟨_,_,rfl,rfl,.of (by rw [r2]) (.pure bO)⟩,.inr ⟨_,_,rfl,rfl,.of (by rw [r1,List.nil_append]) (.pure bO)⟩,trivial⟩
   ·obtain ⟨r1, r2, r3⟩ := MN (s := s) hc1 (by have := of_decide_eq_false hc36; omega)
    refine b9 <| cH ?_
    exact cO (x:=(j,tl2)) ((j+c,tl2.drop c)) (⟨by dsimp only;omega,by dsimp only;rw [r3,List.length_drop];omega⟩) (by dsimp only;omega) [(3,some 3),(4,some 4)] hI rfl rfl ⟨⟨_,rfl,.fn (.cons (.p rfl) .nil) .nil⟩,⟨_,rfl,.p rfl⟩,⟨_,rfl,.of (congrArg (fun k:Nat=>A.i .i64 (k:Int)) r3.symm) (.pure pu)⟩,⟨_,rfl,.pure pu⟩,⟨_,rfl,.pure pu⟩,⟨_,rfl,.pure pu⟩,⟨_,rfl,.pure pu⟩,⟨_,rfl,.pure pu⟩,trivial⟩ ⟨.inr ⟨_,_,rfl,rfl,.of (by rw [r2]) (.pure bO)⟩,.inr ⟨_,_,rfl,rfl,.of (by rw [r1]) (.pure bO)⟩,trivial⟩
  ·have hj2 : j = p.length := by have := of_decide_eq_false hc24; omega
   subst hj2
   refine aa [792,776] ?_
   exact cO (x:=(s,tl,i)) ((s++p.take p.length,tl2,i+1)) (⟨by rw [hs0];exact Jq hp,by dsimp only;omega,htl2⟩) (by dsimp only;omega) [(3,some 3),(4,some 4)] hI rfl rfl ⟨⟨_,rfl,.fn (.cons (.p rfl) .nil) .nil⟩,⟨_,rfl,.p rfl⟩,⟨_,rfl,.pure pu⟩,⟨_,rfl,.of (Iw s p) (.pure pu)⟩,⟨_,rfl,.pure pu⟩,⟨_,rfl,.pure pu⟩,⟨_,rfl,.pure pu⟩,trivial⟩ ⟨.inr ⟨_,_,rfl,rfl,.pure bO⟩,.inr ⟨_,_,rfl,rfl,.pure bO⟩,trivial⟩
 ·have hi2 : i = parts.length := by have := of_decide_eq_false hc14; omega
  subst hi2
  rw [List.take_length]at hs0
  have hsl:s.length≤140737488300000:=by rw [hs0];exact ht
  refine aa [722] ?_
  refine s1 (dC (s.length % 64) Tryz.underlying214 cr rfl rfl rfl aq rfl) rfl <| bJ rfl (dI cr rfl rfl rfl rfl aB (Pp s tl htl) ?_)
  refine aa [750,129] ?_
  refine s1 (qF (64 - ((s.length % 64)+1)) Tryz.underlying214 cr rfl rfl aB aI (bs rfl rfl) bn aq aq rfl rfl) rfl <| bJ rfl (FB Tryz.underlying68 cr rfl rfl rfl (by simp only [List.length_map,List.length_append,List.length_cons,List.length_nil,List.length_replicate,List.length_drop,List.length_take,gu,ie,gH];split<;>omega) (KV s tl htl _ rfl) rfl ?_)
  refine aa [727,129,646] ?_
  refine cm rfl (fun hc48=>?_) (fun hc48=>?_)
  ·have hfar : s.length % 64 + 1 > 56 := by have := of_decide_eq_true hc48; omega
   refine aa [648,135] ?_
   refine bJ rfl (oO ⟨[(3,some ((hs s).l.map ct))]⟩ [(3,(comp (hs s) (rem s++ [128]++List.replicate (63 - s.length % 64) 0)).l.map ct)] true rfl rfl ⟨⟨rfl,cK.pure bO⟩,trivial⟩ (.cons (.kp rfl) (.cons (.sl rfl rfl rfl (dD aB rfl) (cK.pure bO) bO) .nil)) (u6 _ (rem s++ [128]++List.replicate (63 - s.length % 64) 0) aB) trivial (.inr trivial) (qB (c0:=(hs s).l.map ct) rfl bO iX) rfl ?_)
   refine aa [656,1,135] ?_
   refine bJ rfl (FB Tryz.underlying68 cr rfl rfl rfl aB (JM aB) rfl ?_)
   refine bH <| bF <| bG <| bG <| dP 4 rfl (LP hfar) <| dP 3 rfl (cs':=(kj s).l.map ct) (by rw [kj,if_pos hfar]) ?_
   refine aa [761] ?_
   refine c5 (ι:=Nat) (fun i=> [(0,.fn (.func 148) [.p 3 0] []),(4,.p 4 0),(6,cN (cQ s.length)),(53,.i .i64 (i:Nat))]) (fun i=>⟨[(3,some ((kj s).l.map ct)),(4,some ((iY s++List.replicate (8 - i) 0++(gS (8*s.length)).drop (8 - i)).map u8))]⟩) (fun i=>i≤8) (fun i=>8 - i) ?_ ?_
   ·exact c4 (0) (Nat.zero_le _) [(3,some 3),(4,some 4)] hI rfl rfl ⟨⟨_,rfl,.fn (.cons (.p rfl) .nil) .nil⟩,⟨_,rfl,.p rfl⟩,⟨_,rfl,.pure pu⟩,⟨_,rfl,.pure pu⟩,trivial⟩ ⟨.inr ⟨_,_,rfl,rfl,.pure bO⟩,.inr ⟨_,_,rfl,rfl,.pure bO⟩,trivial⟩
   rintro i hi
   refine aa [651] ?_
   refine cm rfl (fun hc54=>?_) (fun hc54=>?_)
   ·have hi8 : i < 8 := by have := of_decide_eq_true hc54; omega
    refine aa [721,649,357,0,358,0,275] ?_
    refine s1 (mz _ (8*i) rfl rfl rfl aq) rfl ?_
    refine aa [359,360,361,685] ?_
    exact cO (i+1) aq aq [(3,some 3),(4,some 4)] hI rfl rfl ⟨⟨_,rfl,.fn (.cons (.p rfl) .nil) .nil⟩,⟨_,rfl,.p rfl⟩,⟨_,rfl,.pure pu⟩,⟨_,rfl,.pure pu⟩,trivial⟩ ⟨.inr ⟨_,_,rfl,rfl,.pure bO⟩,.inr ⟨_,_,rfl,rfl,.pure bO⟩,trivial⟩
   ·have hi8 : i = 8 := by have := of_decide_eq_false hc54; omega
    subst hi8
    refine aa [687,649,135,362,26,363] ?_
    exact congrArg (fun q:S8=>some (q.l.map ct)) ((DV s).trans (by rw [hs0]))
  ·have hfar : ¬ s.length % 64 + 1 > 56 := by have := of_decide_eq_false hc48; omega
   refine b9 <| bF <| bG <| bG <| dP 4 rfl (LQ hfar) <| dP 3 rfl (cs':=(kj s).l.map ct) (by rw [kj,if_neg hfar]) ?_
   refine aa [761] ?_
   refine c5 (ι:=Nat) (fun i=> [(0,.fn (.func 148) [.p 3 0] []),(4,.p 4 0),(6,cN (cQ s.length)),(53,.i .i64 (i:Nat))]) (fun i=>⟨[(3,some ((kj s).l.map ct)),(4,some ((iY s++List.replicate (8 - i) 0++(gS (8*s.length)).drop (8 - i)).map u8))]⟩) (fun i=>i≤8) (fun i=>8 - i) ?_ ?_
   ·exact c4 (0) (Nat.zero_le _) [(3,some 3),(4,some 4)] hI rfl rfl ⟨⟨_,rfl,.fn (.cons (.p rfl) .nil) .nil⟩,⟨_,rfl,.p rfl⟩,⟨_,rfl,.pure pu⟩,⟨_,rfl,.pure pu⟩,trivial⟩ ⟨.inr ⟨_,_,rfl,rfl,.pure bO⟩,.inr ⟨_,_,rfl,rfl,.pure bO⟩,trivial⟩
   rintro i hi
   refine aa [651] ?_
   refine cm rfl (fun hc54=>?_) (fun hc54=>?_)
   ·have hi8 : i < 8 := by have := of_decide_eq_true hc54; omega
    refine aa [721,649,357,0,358,0,275] ?_
    refine s1 (mz _ (8*i) rfl rfl rfl aq) rfl ?_
    refine aa [359,360,361,685] ?_
    exact cO (i+1) aq aq [(3,some 3),(4,some 4)] hI rfl rfl ⟨⟨_,rfl,.fn (.cons (.p rfl) .nil) .nil⟩,⟨_,rfl,.p rfl⟩,⟨_,rfl,.pure pu⟩,⟨_,rfl,.pure pu⟩,trivial⟩ ⟨.inr ⟨_,_,rfl,rfl,.pure bO⟩,.inr ⟨_,_,rfl,rfl,.pure bO⟩,trivial⟩
   ·have hi8 : i = 8 := by have := of_decide_eq_false hc54; omega
    subst hi8
    refine aa [687,649,135,362,26,363] ?_
    exact congrArg (fun q:S8=>some (q.l.map ct)) ((DV s).trans (by rw [hs0]))
-- D2G
theorem Ex (parts:List (List UInt8)) (hk:parts.length≤1048576) (ht:parts.flatten.length≤140737488300000):bU Tryz.prog 97 [.fz parts.length (parts.map eU)] (cl (.ag ((ng parts.flatten).map u8))):=by
 refine enter Tryz.func97 rfl Tryz.ntmps97 aw (Nat.le_of_ble_eq_true rfl) fun w0 X0 hI=>?_
 refine aa [645,28,653] ?_
 refine s1 ((uL (vs:= [_,_,_,_,_,_,_,_]) pg rfl Tryz.underlying185 cW rfl rfl rfl rfl).v (v':= .ag (h0.l.map ct)) aw) rfl <| bJ rfl (cI 3 rfl pg rfl rfl ?_)
 refine bJ rfl (cD pg rfl rfl rfl au au ?_)
 refine bH <| bF <| bG <| bI <| s1 (jJ (us:= [.p 3 0]) (vs:= []) rfl rfl) rfl <| s1 (bE rfl) rfl <| bJ rfl (rR ⟨[(3,some (h0.l.map ct))]⟩ [(3,(fin parts.flatten).l.map ct)] false rfl ⟨⟨rfl,cK.pure bO⟩,trivial⟩ (.cons (.fn (.cons (.kp rfl) .nil) .nil) (.cons (.pure pu) .nil)) (Jg parts hk ht) trivial (.inl rfl) (qB (c0:=h0.l.map ct) rfl bO iX) rfl ?_)
 refine aa [720] ?_
 refine c5 (ι:=Nat) (fun i=> [(2,.p 2 0),(3,.p 3 0),(9,.i .i64 (i:Nat))]) (fun i=>⟨[(2,some ((lP (fin parts.flatten) i).map u8++List.replicate (32 - i) (u8 0))),(3,some ((fin parts.flatten).l.map ct))]⟩) (fun i=>i≤32) (fun i=>32 - i) ?_ ?_
 ·exact c4 (0) (Nat.zero_le _) [(2,some 2),(3,some 3)] hI rfl rfl ⟨⟨_,rfl,.p rfl⟩,⟨_,rfl,.p rfl⟩,⟨_,rfl,.pure pu⟩,trivial⟩ ⟨.inr ⟨_,_,rfl,rfl,.pure bO⟩,.inr ⟨_,_,rfl,rfl,.pure bO⟩,trivial⟩
 rintro i hi
 refine aa [651] ?_
 refine cm rfl (fun hc10=>?_) (fun hc10=>?_)
 ·have hi2 : i < 32 := by have := of_decide_eq_true hc10; omega
  refine aa [721,658,349] ?_
  refine s1 (dC (i / 4) Tryz.underlying185 cW rfl rfl rfl aq rfl) rfl ?_
  refine aa [350,0] ?_
  refine s1 (iS i 4 rfl rfl rfl rfl az) rfl ?_
  refine aa [351,352,353,105,274,354,685] ?_
  exact cO (i+1) aq aq [(2,some 2),(3,some 3)] hI rfl rfl ⟨⟨_,rfl,.p rfl⟩,⟨_,rfl,.p rfl⟩,⟨_,rfl,.pure pu⟩,trivial⟩ ⟨.inr ⟨_,_,rfl,rfl,.pure bO⟩,.inr ⟨_,_,rfl,rfl,.pure bO⟩,trivial⟩
 ·have hi2 : i = 32 := by have := of_decide_eq_false hc10; omega
  subst hi2
  refine aa [684] ?_
  refine dP 2 rfl (cs':=(ng parts.flatten).map u8) (by simp [ng,fin]) ?_
  refine aa [1,355,735] ?_
  refine bZ (rs:= [.cell 2 23]) rfl (da bR rfl rfl (List.take_of_length_le aA) aA bW) rfl
theorem kB (t b:List UInt8) (hb:b.length≤140737488000000) (hl:t.length≤140737488000000):bU Tryz.prog 50 [.s t,.fz b.length (b.map u8)] (cl (.ag ((tagged t b).map u8))):=by
 refine enter Tryz.func50 rfl Tryz.ntmps50 aw (Nat.le_of_ble_eq_true rfl) fun w0 X0 hI=>?_
 refine aa [645,70,750,364] ?_
 refine bJ rfl (eF 8 rfl Tryz.underlying182 eM rfl rfl rfl rfl rfl ?_)
 refine bJ rfl (b7 true rfl (.cons (.sl rfl rfl au (dD au aJ) (cK.pure bO) bO) (.nil)) (by simpa using Ex [t] aA aE) pu (.inr fu) rfl ?_)
 refine aa [106,100,653,365,0] ?_
 refine bJ rfl (eF 12 rfl Tryz.underlying182 eM rfl rfl rfl rfl rfl ?_)
 refine bJ rfl (b7 true rfl (.cons (.sl rfl rfl rfl rfl (.cons (.sl rfl rfl rfl (dD aA rfl) (cK.pure bO) bO) (.cons (.pure pu) .nil)) bO) .nil) (by simpa [eU]using Ex [ng t,b] aA aE) pu (.inr fu) rfl ?_)
 refine aa [735] ?_
 refine bZ (rs:= [.cell 4 23]) rfl (da bR rfl rfl (List.take_of_length_le aA) aA bW) rfl
theorem kQ (t b:List UInt8) (hb:b.length≤140737488000000) (hl:t.length≤140737488000000):bU Tryz.prog 71 [.s t,.fz b.length (b.map u8)] (cl (.ag ((tagged t b).map u8))):=by
 refine enter Tryz.func71 rfl Tryz.ntmps71 aw (Nat.le_of_ble_eq_true rfl) fun w0 X0 hI=>?_
 refine aa [645,70,750,364] ?_
 refine bJ rfl (b7 false rfl (.cons (.pure pu) (.nil)) (GX t aq) pu (.inl rfl) rfl ?_)
 refine aa [106,100,653,273,365] ?_
 refine bJ rfl (dR 11 rfl Tryz.underlying68 cr rfl (.sl rfl au) rfl (dH rfl au) au av av rfl rfl rfl ?_)
 refine s1 (bE rfl) rfl <| bJ rfl (dR 13 rfl Tryz.underlying68 cr rfl (.sl rfl au) rfl rfl au av av rfl rfl rfl ?_)
 refine bJ rfl (b7 true rfl (.cons (.sl rfl rfl au (dD au aJ) (cK.pure bO) bO) (.nil)) (by simpa [tagged]using GX (ng t++b) aE) pu (.inr fu) rfl ?_)
 refine aa [735] ?_
 refine bZ (rs:= [.cell 4 23]) rfl (da bR rfl rfl (List.take_of_length_le aA) aA bW) rfl
-- F3B
theorem K2 (ps:List Part) (hk:ps.length≤1000) (hok:∀p∈ps,p.ok):bU Tryz.prog 208 [.fz ps.length (ps.map (Part.a 23 5 183))] (fk 1 (kF ps).length ((kF ps).map u8)):=by
 refine enter Tryz.func208 rfl Tryz.ntmps208 aw (Nat.le_of_ble_eq_true rfl) fun w0 X0 hI=>?_
 refine aa [651,648] ?_
 refine s1 (cJ Tryz.underlying237 rfl rfl rfl) rfl ?_
 refine aa [667] ?_
 refine c5 (ι:=Nat) (fun i=> [(2,.sl 2 1 0 (kF (ps.take i)).length),(8,.fz ps.length (ps.map (Part.a 23 5 183))),(9,.i .i64 (ps.length:Nat)),(10,.i .i64 (i:Nat))]) (fun i=>⟨[(2,some ((kF (ps.take i)).map u8))]⟩) (fun i=>i≤ps.length) (fun i=>ps.length - i) ?_ ?_
 ·exact c4 (0) (Nat.zero_le _) [(2,none)] hI rfl rfl ⟨⟨_,rfl,.nl rfl⟩,⟨_,rfl,.pure pu⟩,⟨_,rfl,.pure pu⟩,⟨_,rfl,.pure pu⟩,trivial⟩ ⟨.inl ⟨rfl,rfl⟩,trivial⟩
 rintro i hi
 have hbl:=EX (ps:=ps.take i) fun q hq=>hok q (List.mem_of_mem_take hq)
 rw [List.length_take]at hbl
 refine aa [651] ?_
 refine cm rfl (fun hc11=>?_) (fun hc11=>?_)
 ·have h11 : i < ps.length := by have := of_decide_eq_true hc11; omega
  obtain⟨p,hp⟩:∃p,ps[i]? =some p:=⟨_,List.getElem?_eq_getElem h11⟩
  have hpok:=hok p (List.mem_of_getElem? hp)
  refine aa [672] ?_
  refine s1 (cf i Tryz.underlying237 Bg rfl rfl rfl aq rfl) rfl <| s1 (bM Bg rfl rfl (Ll hp)) rfl ?_
  refine aa [652] ?_
  rcases p with hcs|hcs|hcs
  ·have hl32 : hcs.length = 32 := hpok
   have hnl:=congrArg List.length (vm hp)
   simp only [List.length_append,Part.bs,iG,List.length_cons,List.length_nil]at hnl
   refine aa [1,739,645] ?_
   refine s1 (yd Tryz.underlying23 rfl rfl) rfl ?_
   refine aa [0,679,106] ?_
   refine bJ rfl (cD bR rfl rfl rfl (by simp [hl32]) aA ?_)
   refine aa [656,649,136] ?_
   refine bJ rfl (dR 20 rfl Tryz.underlying68 cr rfl (.sl rfl aV) rfl (dH rfl ar) (by simp [hl32]) aC aq rfl rfl rfl ?_)
   refine aa [682,54,776] ?_
   exact cO (i+1) aq aq [(2,some 20)] hI rfl rfl ⟨⟨_,rfl,.sl rfl ar⟩,⟨_,rfl,.pure pu⟩,⟨_,rfl,.pure pu⟩,⟨_,rfl,.pure pu⟩,trivial⟩ ⟨.inr ⟨_,_,rfl,rfl,.of (yX hp rfl) (.pure bO)⟩,trivial⟩
  ·have hnl := congrArg List.length (vm hp)
   simp only [List.length_append,Part.bs,iG,List.length_cons,List.length_nil]at hnl
   refine aa [1,739,645,366,0,673,645] ?_
   refine s1 (yd Tryz.underlying5 rfl rfl) rfl ?_
   refine aa [0,679,646,658] ?_
   refine bJ rfl (eF 26 rfl Tryz.underlying68 cr rfl rfl rfl rfl rfl ?_)
   refine bJ rfl (dR 27 rfl Tryz.underlying68 cr rfl (.sl rfl aV) rfl (dH rfl ar) ar aC aq rfl rfl rfl ?_)
   refine aa [682,54,776] ?_
   exact cO (i+1) aq aq [(2,some 27)] hI rfl rfl ⟨⟨_,rfl,.sl rfl ar⟩,⟨_,rfl,.pure pu⟩,⟨_,rfl,.pure pu⟩,⟨_,rfl,.pure pu⟩,trivial⟩ ⟨.inr ⟨_,_,rfl,rfl,.of (yX hp rfl) (.pure bO)⟩,trivial⟩
  ·have hnl := congrArg List.length (vm hp)
   simp only [List.length_append,Part.bs,iG,List.length_cons,List.length_nil]at hnl
   refine aa [1,739,645,366,0,673,645] ?_
   refine s1 (Bu (z:= .int .u8 0) Tryz.underlying5 rfl aw rfl rfl) rfl ?_
   refine aa [0,673,645] ?_
   refine s1 (yd Tryz.underlying183 rfl rfl) rfl ?_
   refine aa [0,679,646,658] ?_
   refine s1 (iT _ 24 rfl rfl rfl az) rfl ?_
   refine aa [105,0] ?_
   refine s1 (iT _ 16 rfl rfl rfl az) rfl ?_
   refine aa [105,0] ?_
   refine s1 (iT _ 8 rfl rfl rfl az) rfl ?_
   refine aa [105,0,105] ?_
   refine bJ rfl (eF 43 rfl Tryz.underlying68 cr rfl rfl rfl rfl rfl ?_)
   refine bJ rfl (dR 44 rfl Tryz.underlying68 cr rfl (.sl rfl aV) rfl (dH rfl ar) ar aC aq rfl rfl rfl ?_)
   refine aa [682,54,776] ?_
   exact cO (i+1) aq aq [(2,some 44)] hI rfl rfl ⟨⟨_,rfl,.sl rfl ar⟩,⟨_,rfl,.pure pu⟩,⟨_,rfl,.pure pu⟩,⟨_,rfl,.pure pu⟩,trivial⟩ ⟨.inr ⟨_,_,rfl,rfl,.of (yX hp rfl) (.pure bO)⟩,trivial⟩
 ·have h11 : i = ps.length := by have := of_decide_eq_false hc11; omega
  subst h11
  refine aa [719] ?_
  refine bZ (rs:= [.tmp 2]) rfl (bV rfl bW) ⟨2,?_,?_⟩
  ·rw [List.take_length];rfl
  ·rw [List.take_length];rfl
theorem Jd (x:List UInt8) (lv nb id:Int) (D:List UInt8):bU Tryz.prog 175 [.ag (x.map u8),.ag [.i .i64 lv,.i .i64 nb,eU D],.i .i64 id] (cl (.fn (.func 207) [] [.fp (x.map u8),.fp [.i .i64 lv,.i .i64 nb,eU D],.fp [.i .i64 id]])):=by
 refine enter Tryz.func175 rfl Tryz.ntmps175 aw (Nat.le_of_ble_eq_true rfl) fun w0 X0 hI=>?_
 refine aa [689,55] ?_
 refine bJ rfl (mP 5 rfl rfl rfl rfl ?_)
 refine aa [652,137] ?_
 refine iy 4 rfl rfl bO <| iy 5 rfl rfl bO <| bI <| s1 (jJ (us:= []) (vs:= [.fp (x.map u8),.fp [.i .i64 lv,.i .i64 nb,eU D],.fp [.i .i64 id]]) rfl rfl) rfl ?_
 refine aa [650] ?_
 refine bZ (rs:= [.tmp 6]) rfl (bV rfl bW) rfl
-- F3C
theorem K1 (x:List UInt8) (lv id:Nat) (hx:x.length=32):bU Tryz.prog 208 [.fz 3 [.ic 23 (.ag (x.map u8)),.ic 5 (u8 (UInt8.ofNat lv)),.ic 183 (ct (BitVec.ofNat 32 id))]] (fk 1 37 ((x++UInt8.ofNat lv::iG (BitVec.ofNat 32 id)).map u8)):=by
  have:=K2 [.d x,.b (UInt8.ofNat lv),.w (BitVec.ofNat 32 id)] aA (by simp [Part.ok,hx])
  have e:kF [.d x,.b (UInt8.ofNat lv),.w (BitVec.ofNat 32 id)]=(x++UInt8.ofNat lv::iG (BitVec.ofNat 32 id)):=by simp [kF,Part.bs]
  rw [e]at this
  have e2:(x++UInt8.ofNat lv::iG (BitVec.ofNat 32 id)).length=37:=by simp [iG,hx]
  rw [e2]at this
  exact this
theorem P7 (x:List UInt8) (lv id:Nat) (hx:x.length=32):bU Tryz.prog 50 [.s [102,105,108,116,101,114],.fz 37 ((x++UInt8.ofNat lv::iG (BitVec.ofNat 32 id)).map u8)] (cl (.ag ((iW x lv id).map u8))):=by
  have e2:(x++UInt8.ofNat lv::iG (BitVec.ofNat 32 id)).length=37:=by simp [iG,hx]
  rw [zQ, ←e2];exact kB _ _ aq aA
theorem IJ (x:List UInt8) (lv nb id:Nat) (D:List UInt8) (hx:x.length=32) (hnb:0<nb):bU Tryz.prog 164 [.nl,.fn (.func 207) [] [.fp (x.map u8),.fp [nJ lv,nJ nb,eU D],.fp [nJ id]]] (fk 1 2 ((jB x lv nb id 2).map nJ)):=by
 refine rq Tryz.func164 rfl Tryz.ntmps164 aw (Nat.le_of_ble_eq_true rfl) fun w0 X0 hI hS=>?_
 refine aa [645,254,652,645,739] ?_
 refine yP [2] [(0,_),(1,_),(2,_),(4,_),(6,_)] hI rfl ⟨rfl,⟨rfl,⟨rfl,⟨rfl,⟨rfl,trivial⟩⟩⟩⟩⟩ aL rfl Tryz.func207 rfl Tryz.ntmps207 aw (Nat.le_of_ble_eq_true rfl) fun w1 l1 D1 rc1 hR1=>?_
 refine aa [645,71,169,276,8] ?_
 refine s1 (qc lv Tryz.underlying3 Tryz.underlying5 rfl rfl) rfl ?_
 refine aa [169,8] ?_
 refine s1 (M4 _ Tryz.underlying3 Tryz.underlying183 rfl rfl) rfl ?_
 refine aa [169] ?_
 refine bJ rfl (eF 1019 rfl Tryz.underlying237 Bg rfl rfl rfl rfl rfl ?_)
 refine bJ rfl (kx 1020 rfl true rfl (.cons (.sl rfl rfl ar (dD ar aJ) (cK.pure bO) bO) (.nil)) (K1 x lv id hx) bO (.inr iX) rfl ?_)
 refine bJ rfl (b7 true rfl (.cons (.pure pu) (.cons (.sl rfl rfl ar (dD ar aJ) (cK.pure bO) bO) (.nil))) (P7 x lv id hx) pu (.inr fu) rfl ?_)
 refine bJ rfl (cI 1005 rfl bR rfl rfl ?_)
 refine aa [5,653,667] ?_
 refine c5 (ι:=Nat) (fun i=> [(0,yv l1),(1,.fp (x.map u8)),(2,.fp [nJ lv,nJ nb,eU D]),(3,.fp [nJ id]),(5,.p 1005 0),(22,nJ i)]) (fun i=>⟨[(2,some ([.sl 11 1 0 i])),(11,some (((jB x lv nb id i).map nJ))),(1005,some ((iW x lv id).map u8))]⟩) (fun i=>i≤2) (fun i=>2 - i) ?_ ?_
 ·exact c4 (0) (Nat.zero_le _) [(2,some 2),(11,none),(1005,some 1005)] hR1.sub.ids rfl rfl ⟨⟨_,rfl,.pure trivial⟩,⟨_,rfl,.pure pu⟩,⟨_,rfl,.pure pu⟩,⟨_,rfl,.pure pu⟩,⟨_,rfl,.p rfl⟩,⟨_,rfl,.pure pu⟩,trivial⟩ ⟨.inr ⟨_,_,rfl,rfl,.cons (.nl rfl) .nil⟩,.inl ⟨rfl,rfl⟩,.inr ⟨_,_,rfl,rfl,.pure bO⟩,trivial⟩
 rintro i hi
 refine aa [651] ?_
 refine cm rfl (fun hc23=>?_) (fun hc23=>?_)
 ·have h23 : i < 2 := by have := of_decide_eq_true hc23; omega
  refine aa [721,645,659,648,101,0,101] ?_
  refine s1 (cE _ 4 rfl rfl rfl rfl aq) rfl <| s1 (qF (o':=0+4*i*1) 4 Tryz.underlying23 cr rfl rfl aA aI (bs rfl rfl) (bs rfl rfl) aq aq aq (by rw [if_neg aq])) rfl ?_
  refine aa [104,667] ?_
  refine c5 (ι:=Nat) (fun k=> [(0,yv l1),(1,.fp (x.map u8)),(2,.fp [nJ lv,nJ nb,eU D]),(3,.fp [nJ id]),(5,.p 1005 0),(6,nJ i),(7,nJ (js (iW x lv id) (4*i) k)),(22,nJ i),(30,.sl 1005 1 (0+4*i*1) 4),(31,nJ 4),(32,nJ k)]) (fun k=>⟨[(2,some ([.sl 11 1 0 i])),(11,some (((jB x lv nb id i).map nJ))),(1005,some ((iW x lv id).map u8))]⟩) (fun k=>k≤4) (fun k=>4 - k) ?_ ?_
  ·exact c4 (0) (Nat.zero_le _) [(2,some 2),(11,some 11),(1005,some 1005)] hR1.sub.ids rfl rfl ⟨⟨_,rfl,.pure trivial⟩,⟨_,rfl,.pure pu⟩,⟨_,rfl,.pure pu⟩,⟨_,rfl,.pure pu⟩,⟨_,rfl,.p rfl⟩,⟨_,rfl,.pure pu⟩,⟨_,rfl,.of aX (.pure pu)⟩,⟨_,rfl,.pure pu⟩,⟨_,rfl,.sl rfl ar⟩,⟨_,rfl,.pure pu⟩,⟨_,rfl,.pure pu⟩,trivial⟩ ⟨.inr ⟨_,_,rfl,rfl,.cons (.sl rfl rfl) .nil⟩,.inr ⟨_,_,rfl,rfl,.pure bO⟩,.inr ⟨_,_,rfl,rfl,.pure bO⟩,trivial⟩
  rintro k hk
  have hnl:=Au (iW x lv id) (4*i) k
  have h4:256 ^ k≤256 ^ 4:=Nat.pow_le_pow_right aq hk
  refine aa [651] ?_
  refine cm rfl (fun hc33=>?_) (fun hc33=>?_)
  ·have h33 : k < 4 := by have := of_decide_eq_true hc33; omega
   have h3:js (iW x lv id) (4*i) k<16777216:=Nat.lt_of_lt_of_le hnl (Nat.pow_le_pow_right aq (show k≤3 by omega))
   refine aa [672] ?_
   refine s1 (mC k Tryz.underlying68 cr rfl rfl rfl rfl aq rfl) rfl <| s1 (bM cr rfl rfl (Lj k aE rfl)) rfl ?_
   refine aa [646,649] ?_
   refine s1 ((qH rfl rfl az).v (congrArg (A.i .i64) (PG _ h3))) rfl ?_
   refine aa [0,277] ?_
   refine s1 ((mB rfl rfl (.inr (.inl rfl))).v (congrArg (A.i .i64) (Np _ _ h3))) rfl ?_
   refine aa [704] ?_
   exact cO (k+1) aq aq [(2,some 2),(11,some 11),(1005,some 1005)] hR1.sub.ids rfl rfl ⟨⟨_,rfl,.pure trivial⟩,⟨_,rfl,.pure pu⟩,⟨_,rfl,.pure pu⟩,⟨_,rfl,.pure pu⟩,⟨_,rfl,.p rfl⟩,⟨_,rfl,.pure pu⟩,⟨_,rfl,.pure pu⟩,⟨_,rfl,.pure pu⟩,⟨_,rfl,.sl rfl ar⟩,⟨_,rfl,.pure pu⟩,⟨_,rfl,.pure pu⟩,trivial⟩ ⟨.inr ⟨_,_,rfl,rfl,.cons (.sl rfl rfl) .nil⟩,.inr ⟨_,_,rfl,rfl,.pure bO⟩,.inr ⟨_,_,rfl,rfl,.pure bO⟩,trivial⟩
  ·have h33 : k = 4 := by have := of_decide_eq_false hc33; omega
   subst h33
   refine aa [687,661,276,8] ?_
   refine s1 (iS (js (iW x lv id) (4*i) 4) nb rfl rfl rfl rfl hnb) rfl ?_
   refine vj [2,1005] [(0,_),(1,_),(2,_),(3,_),(5,_),(6,_),(7,_),(22,_),(30,_),(31,_),(32,_),(33,_),(42,_),(43,_),(44,_),(45,_),(46,_)] hR1 hR1.sub.ids rfl ⟨rfl,⟨rfl,⟨rfl,⟨rfl,⟨rfl,⟨rfl,⟨rfl,⟨rfl,⟨rfl,⟨rfl,⟨rfl,⟨rfl,⟨rfl,⟨rfl,⟨rfl,⟨rfl,⟨rfl,trivial⟩⟩⟩⟩⟩⟩⟩⟩⟩⟩⟩⟩⟩⟩⟩⟩⟩ aL rfl rfl rfl rfl rfl fun w2 tm2 hd2=>?_
   refine aa [1,682] ?_
   refine vg hd2 fun w3 hd3=>?_
   refine cd <| bI <| s1 (bM gN rfl rfl rfl) rfl ?_
   refine aa [0,367] ?_
   refine bJ rfl (dR 111 rfl Tryz.underlying30 bL rfl (.sl rfl aA) rfl (dH rfl ar) ar av av rfl rfl rfl ?_)
   refine bJ rfl (dI gN rfl rfl rfl rfl ar rfl ?_)
   refine aa [760,174,673,717] ?_
   exact cO (i+1) aq aq [(2,some 2),(11,some 111),(1005,some 1005)] hR1.sub.ids rfl rfl ⟨⟨_,rfl,.pure trivial⟩,⟨_,rfl,.pure pu⟩,⟨_,rfl,.pure pu⟩,⟨_,rfl,.pure pu⟩,⟨_,rfl,.p rfl⟩,⟨_,rfl,.pure pu⟩,trivial⟩ ⟨.inr ⟨_,_,rfl,rfl,.cons (.sl rfl ar) .nil⟩,.inr ⟨_,_,rfl,rfl,.of (by rw [Ja];simp) (.pure bO)⟩,.inr ⟨_,_,rfl,rfl,.pure bO⟩,trivial⟩
 ·have h23 : i = 2 := by have := of_decide_eq_false hc23; omega
  subst h23
  refine cY <| cq <| cq <| cZ <| yN rfl hR1 hS <| cH <| bF <| bG <| bI <| s1 (bM gN rfl rfl rfl) rfl ?_
  refine aa [650] ?_
  refine sX (rs:= [.tmp 4]) rfl rfl rfl hS (dn:= [D1]) rfl rfl aA rfl (bV rfl bW) ⟨11,rfl,rfl⟩
theorem JS (x:List UInt8) (lv nb id:Nat) (D:List UInt8) (hx:x.length=32) (hnb:0<nb):bU Tryz.prog 112 [.fn (.func 207) [] [.fp (x.map u8),.fp [nJ lv,nJ nb,eU D],.fp [nJ id]]] (cl (.fz 2 ((jB x lv nb id 2).map nJ))):=by
 refine enter Tryz.func112 rfl Tryz.ntmps112 aw (Nat.le_of_ble_eq_true rfl) fun w0 X0 hI=>?_
 refine aa [645,664] ?_
 refine bJ rfl (kx 4 rfl false rfl (.cons (.pure pu) (.cons (.pure pu) .nil)) (IJ x lv nb id D hx hnb) bO (.inl rfl) rfl ?_)
 refine aa [650,69] ?_
 refine bZ (rs:= [.tmp 2]) rfl (bV rfl bW) rfl
theorem xM (a b:Int):bU Tryz.prog 118 [.i .i64 a,.i .i64 b] (cl (.b (decide (fW a b)))):=by
 refine enter Tryz.func118 rfl Tryz.ntmps118 aw (Nat.le_of_ble_eq_true rfl) fun w0 X0 hI=>?_
 refine aa [645,660,0] ?_
 refine fU 2 rfl rfl rfl rfl (fun hb7=> .step (bE rfl) rfl rfl<| .step (bE rfl) rfl rfl<| .done) rfl rfl <| s1 (bE rfl) rfl <| fU 2 rfl rfl rfl rfl (fun hb11=> .step (bE rfl) rfl rfl<| .step (bE rfl) rfl rfl<| .done) rfl rfl <| s1 (bE rfl) rfl <| fU 2 rfl rfl rfl rfl (fun hb15=> .step (bE rfl) rfl rfl<| .step (bE rfl) rfl rfl<| .done) rfl rfl ?_
 refine aa [702] ?_
 exact congrArg A.b (by rw [Bool.eq_iff_iff,decide_eq_true_eq];simp [fW,and_assoc])
-- F3D
theorem K5 (lv nb:Int):bU Tryz.prog 74 [.i .i64 lv,.i .i64 nb] (cl (rT lv nb)):=by
 refine enter Tryz.func74 rfl Tryz.ntmps74 aw (Nat.le_of_ble_eq_true rfl) fun w0 X0 hI=>?_
 refine aa [645,278,703] ?_
 rcases Decidable.em (fW lv nb)with hcs|hcs
 ·obtain ⟨l, n, rfl, rfl, h1, h2, h3⟩ := uB hcs
  refine aa [658,368,673,681,680] ?_
  refine s1 (cE n 7 rfl rfl rfl rfl aq) rfl ?_
  refine aa [369] ?_
  refine bJ rfl (rS 16 rfl _ _ Tryz.underlying68 cr rfl rfl rfl rfl rfl av av av rfl ?_)
  refine aa [370,18,657,371,175] ?_
  show A.tu _=_
  rw [wO hcs,kW,eU,List.length_replicate];rfl
 ·skip
  refine aa [658,372,679,57,18,48,668,373,175] ?_
  show A.tu _=_
  rw [FE hcs];rfl
theorem zN (lv nb:Int) (D:List UInt8):bU Tryz.prog 123 [.ag [.i .i64 lv,.i .i64 nb,eU D]] (cl (.i .i64 (mg (eu lv nb D)))):=by
 refine enter Tryz.func123 rfl Tryz.ntmps123 aw (Nat.le_of_ble_eq_true rfl) fun w0 X0 hI=>?_
 refine aa [670,703] ?_
 rcases Decidable.em (fW lv nb)with hcs|hcs
 ·obtain ⟨l, n, rfl, rfl, h1, h2, h3⟩ := uB hcs
  refine aa [1,762,762,368,647,374] ?_
  refine g1 rfl rfl (bM eM rfl rfl rfl) rfl ?_
  refine aa [375,376,176,377,378,763] ?_
  refine cm rfl (fun hc19=>?_) (fun hc19=>?_)
  ·have hl : D.length ≠ (n + 7) / 8 := by intro h; rw [h] at hc19; simp at hc19
   refine aa [645,48,709] ?_
   show A.i _ _=_
   rw [y9 hl];rfl
  ·have hl : D.length = (n + 7) / 8 := by simp at hc19; omega
   have hct:=CO h1 h2 h3 hl
   refine aa [675,645,762] ?_
   refine s1 (iS n 8 rfl rfl rfl rfl aq) rfl ?_
   refine aa [660,0] ?_
   refine fU 11 rfl rfl rfl rfl (fun hb25=> .step (bX Tryz.underlying120 rfl eM az rfl rfl) rfl rfl<| .step (bM eM rfl rfl rfl) rfl rfl<| .step (bX Tryz.underlying120 rfl eM az rfl rfl) rfl rfl<| .step (bM eM rfl rfl rfl) rfl rfl<| .step (cJ Tryz.underlying68 rfl rfl rfl) rfl rfl<| .step (eW D.length 1 rfl rfl rfl rfl aq aq) rfl rfl<| .step (cf (D.length - 1) Tryz.underlying68 cr rfl rfl rfl aq rfl) rfl rfl<| .step (bM cr rfl rfl (z7 aq)) rfl rfl<| .step (bE rfl) rfl rfl<| .step (uA (D.getD (D.length - 1) 0) (n % 8) rfl rfl rfl aq) rfl rfl<| .step ((bE rfl).v (v':= .b (!((D.getD (D.length - 1) 0).toNat / 2 ^ (n % 8)==0))) (congrArg A.b (PJ _ _))) rfl rfl<| .done) rfl rfl <| bH <| bF ?_
   refine cm rfl (fun hc37=>?_) (fun hc37=>?_)
   ·have hf : eu l n D = false := by rw [hct]; simp at hc37 ⊢; omega
    refine aa [645,48,709] ?_
    show A.i _ _=_
    rw [hf];rfl
   ·have hf : eu l n D = true := by rw [hct]; simp at hc37 ⊢; omega
    refine aa [669,657,4] ?_
    show A.i _ _=_
    rw [hf];rfl
 ·skip
  refine aa [1,762,762,372,732,688,679,48,709] ?_
  show A.i _ _=_
  rw [zb hcs];rfl
theorem vR (x:List UInt8) (lv nb id:Int) (D:List UInt8) (hx:x.length=32):bU Tryz.prog 119 [.ag (x.map u8),.ag [.i .i64 lv,.i .i64 nb,eU D],.i .i64 id] (cl (qU x lv nb D id)):=by
 refine enter Tryz.func119 rfl Tryz.ntmps119 aw (Nat.le_of_ble_eq_true rfl) fun w0 X0 hI=>?_
 refine aa [689,55,0,703] ?_
 rcases tf (eu lv nb D)with hcs|hcs
 ·skip
  refine aa [1,57] ?_
  refine bJ rfl (b7 false rfl (.cons (.pure pu) (.nil)) (bU.cast (zN _ _ _) (congrArg (A.i .i64) (by rw [hcs];rfl:mg (eu lv nb D)=330))) pu (.inl rfl) rfl ?_)
  refine aa [664,714,757,36] ?_
  show A.tu _=_
  rw [oz (F3 hcs)];rfl
 ·skip
  refine aa [1,57] ?_
  refine bJ rfl (b7 false rfl (.cons (.pure pu) (.nil)) (bU.cast (zN _ _ _) (congrArg (A.i .i64) (by rw [hcs];rfl:mg (eu lv nb D)=0))) pu (.inl rfl) rfl ?_)
  refine aa [664,710,680,138,656] ?_
  refine cm rfl (fun hc19=>?_) (fun hc19=>?_)
  ·have h19 : ¬ (0 ≤ id ∧ id < 1024) := by simp at hc19; omega
   refine aa [648,48,668,36] ?_
   show A.tu _=_
   rw [oz (F4 h19)];rfl
  ·have h19 : 0 ≤ id ∧ id < 1024 := by simp at hc19; omega
   have hk:=Ax hcs h19
   obtain⟨l,n,j,rfl,rfl,rfl,h1,h2,h3,h4,h5,h6⟩:=qi hk
   refine aa [669,13,740] ?_
   refine bJ rfl (b7 false rfl (.cons (.pure pu) (.cons (.pure pu) (.cons (.pure pu) (.nil)))) (Jd x _ _ _ D) pu (.inl rfl) rfl ?_)
   refine bJ rfl (b7 false rfl (.cons (.pure pu) (.nil)) (JS x l n j D hx aq) pu (.inl rfl) rfl ?_)
   refine aa [726,36] ?_
   show A.tu _=_
   exact(qV hk).symm
theorem KU (x:List UInt8) (lv nb id:Int) (D:List UInt8) (hx:x.length=32):bU Tryz.prog 78 [.ag (x.map u8),.ag [.i .i64 lv,.i .i64 nb,eU D],.i .i64 id] (cl (oK x lv nb D id)):=by
 refine enter Tryz.func78 rfl Tryz.ntmps78 aw (Nat.le_of_ble_eq_true rfl) fun w0 X0 hI=>?_
 refine aa [689,55,0,659] ?_
 rcases tf (okB lv nb D id)with hcs|hcs
 ·skip
  refine aa [728,740,379,764,757,36] ?_
  show A.tu _=_
  rw [Ew hcs];rfl
 ·obtain ⟨l, n, j, rfl, rfl, rfl, h1, h2, h3, h4, h5, h6⟩ := qi hcs
  refine aa [728,740,380,708,710,648,19,667] ?_
  refine c5 (ι:=Nat) (fun i=> [(4,.p 4 0),(21,.fz 2 ((jB x l n j 2).map nJ)),(22,nJ 2),(23,nJ i)]) (fun i=>⟨[(4,some ([nJ l,nJ n,eU D]))]⟩) (fun i=>i≤2∧∀t,t<i→fH D (bN x l n j t)=true) (fun i=>2 - i) ?_ ?_
  ·exact c4 (0) (⟨by omega,fun t ht=>absurd ht aq⟩) [(4,some 4)] hI rfl rfl ⟨⟨_,rfl,.p rfl⟩,⟨_,rfl,.pure pu⟩,⟨_,rfl,.pure pu⟩,⟨_,rfl,.pure pu⟩,trivial⟩ ⟨.inr ⟨_,_,rfl,rfl,.pure bO⟩,trivial⟩
  rintro i ⟨hi,hall⟩
  have hbi:bN x l n j i<n:=mK aq i
  refine aa [651] ?_
  refine cm rfl (fun hc24=>?_) (fun hc24=>?_)
  ·have h24 : i < 2 := by have := of_decide_eq_true hc24; omega
   refine aa [672,58] ?_
   refine s1 (bM bL rfl rfl (pK x l n j i h24)) rfl ?_
   refine aa [662,139,177,0] ?_
   refine s1 (iR _ 8 rfl rfl rfl rfl aq aq) rfl <| s1 (cf (bN x l n j i / 8) Tryz.underlying68 cr rfl rfl rfl aq rfl) rfl <| s1 (bM cr rfl rfl (z7 aq)) rfl <| s1 (bE rfl) rfl <| s1 (iS _ 8 rfl rfl rfl rfl aq) rfl <| s1 (uA (D.getD (bN x l n j i / 8) 0) (bN x l n j i % 8) rfl rfl rfl aq) rfl <| s1 (yH _ (1:UInt8) rfl rfl) rfl <| s1 ((bE rfl).v (v':= .b (!fH D (bN x l n j i))) (congrArg A.b (Lw _ _))) rfl <| bH <| bF ?_
   refine cm rfl (fun hc37=>?_) (fun hc37=>?_)
   ·have hb : fH D (bN x l n j i) = false := by simpa using hc37
    refine aa [648,657,790,36] ?_
    show A.tu _=_
    rw [wi hcs,Lu h24 hb];rfl
   ·have hb : fH D (bN x l n j i) = true := by simpa using hc37
    refine aa [717] ?_
    exact cO (i+1) (⟨by omega,u9 hall hb⟩) aq [(4,some 4)] hI rfl rfl ⟨⟨_,rfl,.p rfl⟩,⟨_,rfl,.pure pu⟩,⟨_,rfl,.pure pu⟩,⟨_,rfl,.pure pu⟩,trivial⟩ ⟨.inr ⟨_,_,rfl,rfl,.pure bO⟩,trivial⟩
  ·have h24 : i = 2 := by have := of_decide_eq_false hc24; omega
   subst h24
   refine aa [722,657,36] ?_
   show A.tu _=_
   rw [wi hcs,Lv hall];rfl
theorem zO (D:List UInt8) (h:0<D.length) (hD:D.length≤1000000):bU Tryz.prog 51 [eU D] (fk 1 D.length (D.map u8)):=by
 refine enter Tryz.func51 rfl Tryz.ntmps51 aw (Nat.le_of_ble_eq_true rfl) fun w0 X0 hI=>?_
 refine aa [651,648] ?_
 refine s1 (Bq Tryz.underlying68 rfl rfl h) rfl ?_
 refine aa [779,669,178,0] ?_
 refine bJ rfl (dR 7 rfl Tryz.underlying68 cr rfl (.sl rfl ar) rfl rfl ar av av rfl rfl rfl ?_)
 refine aa [650] ?_
 refine bZ (rs:= [.tmp 2]) rfl (bV rfl bW) ⟨7,congrArg (A.sl 7 1 0) (Nat.zero_add _),rfl⟩
theorem KS (x:List UInt8) (lv nb id:Int) (D:List UInt8) (hx:x.length=32):bU Tryz.prog 75 [.ag (x.map u8),.ag [.i .i64 lv,.i .i64 nb,eU D],.i .i64 id] (cl (nB x lv nb D id)):=by
 refine enter Tryz.func75 rfl Tryz.ntmps75 aw (Nat.le_of_ble_eq_true rfl) fun w0 X0 hI=>?_
 refine aa [689,55,279,659] ?_
 rcases tf (okB lv nb D id)with hcs|hcs
 ·skip
  refine aa [728,740,379,764,645,740,18,715,381,179] ?_
  show A.tu _=_
  rw [BS hcs];rfl
 ·obtain ⟨l, n, j, rfl, rfl, rfl, h1, h2, h3, h4, h5, h6⟩ := qi hcs
  refine aa [728,740,380,708,694,669,57,18,653,139,177] ?_
  refine bJ rfl (kx 25 rfl false rfl (.cons (.pure pu) (.nil)) (zO D aq aq) bO (.inl rfl) rfl ?_)
  refine aa [139,382,727,19,667] ?_
  refine c5 (ι:=Nat) (fun i=> [(6,.p 6 0),(27,.fz 2 ((jB x l n j 2).map nJ)),(28,nJ 2),(29,nJ i)]) (fun i=>⟨[(6,some ([nJ l,nJ n,.sl 25 1 0 D.length])),(25,some ((su x l n j D i).map u8))]⟩) (fun i=>i≤2) (fun i=>2 - i) ?_ ?_
  ·exact c4 (0) (Nat.zero_le _) [(6,some 6),(25,some 25)] hI rfl rfl ⟨⟨_,rfl,.p rfl⟩,⟨_,rfl,.pure pu⟩,⟨_,rfl,.pure pu⟩,⟨_,rfl,.pure pu⟩,trivial⟩ ⟨.inr ⟨_,_,rfl,rfl,.cons (.pure pu) (.cons (.pure pu) (.cons (.sl rfl rfl) .nil))⟩,.inr ⟨_,_,rfl,rfl,.of aX (.pure bO)⟩,trivial⟩
  rintro i hi
  have hbi:bN x l n j i<n:=mK aq i
  have hsl:=Al x l n j D i
  refine aa [651] ?_
  refine cm rfl (fun hc30=>?_) (fun hc30=>?_)
  ·have h30 : i < 2 := by have := of_decide_eq_true hc30; omega
   refine aa [672,58] ?_
   refine s1 (bM bL rfl rfl (pK x l n j i h30)) rfl ?_
   refine aa [646,271] ?_
   refine t1 (bX Tryz.underlying120 rfl eM az rfl rfl) rfl <| t1 (bM eM rfl rfl rfl) rfl <| t1 (bE rfl) rfl <| t1 (iR _ 8 rfl rfl rfl rfl aq aq) rfl ?_
   refine aa [383] ?_
   refine t1 (bM cr rfl rfl (Eh aq)) rfl <| t1 (bE rfl) rfl <| t1 (iS _ 8 rfl rfl rfl rfl aq) rfl <| t1 (A3 (bN x l n j i % 8) rfl rfl rfl aq) rfl <| t1 (xe _ _ rfl rfl) rfl ?_
   refine aa [383,11] ?_
   refine bJ rfl (dI cr rfl rfl rfl rfl (by simp [hsl];omega) (Hd _ _) ?_)
   refine aa [685] ?_
   exact cO (i+1) aq aq [(6,some 6),(25,some 25)] hI rfl rfl ⟨⟨_,rfl,.p rfl⟩,⟨_,rfl,.pure pu⟩,⟨_,rfl,.pure pu⟩,⟨_,rfl,.pure pu⟩,trivial⟩ ⟨.inr ⟨_,_,rfl,rfl,.cons (.pure pu) (.cons (.pure pu) (.cons (.sl rfl rfl) .nil))⟩,.inr ⟨_,_,rfl,rfl,.of aX (.pure bO)⟩,trivial⟩
  ·have h30 : i = 2 := by have := of_decide_eq_false hc30; omega
   subst h30
   refine aa [683,57,18,657] ?_
   refine jL 6 2 rfl rfl rfl rfl bO (dD aA rfl) rfl ?_
   refine aa [179] ?_
   show A.tu _=_
   rw [BU hcs,kW,eU,Al];rfl
end Go.Abs.D2
