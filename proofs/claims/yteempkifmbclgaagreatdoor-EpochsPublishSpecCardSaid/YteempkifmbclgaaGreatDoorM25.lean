/-
  The engine, the plain laws and the walks that the rows need, part 25. Conditions: none.
-/
import Derived.Test.YteempkifmbclgaaGreatDoorM24
set_option linter.unusedVariables false
set_option linter.unusedSimpArgs false
set_option maxHeartbeats 1000000
set_option maxRecDepth 10000
-- E6I
namespace Go.Abs.D2
open Go Go.Eng Go.Abs Go.Proofs
theorem AO (l:List Ep) (hl:fK l) (hn:l.length≤1000):bU Tryz.prog 41 [eS l] (cl (tM l)):=by
 refine enter Tryz.func41 rfl Tryz.ntmps41 aw (Nat.le_of_ble_eq_true rfl) fun w0 X0 hI=>?_
 refine aa [665,645] ?_
 refine bJ rfl (mQ Tryz.underlying31 c8 rfl rfl rfl aD (show jD []= []from rfl) bO rfl rfl rfl ?_)
 refine aa [690] ?_
 refine c5 (ι:=Nat×(Int→Int)×List Ch) (fun⟨i,τ,bf⟩=> [(0,eS l),(4,eo bf),(5,nJ i)]) (fun⟨i,τ,bf⟩=>⟨[]⟩) (fun⟨i,τ,bf⟩=>i≤l.length∧bf=eL τ∧ -1≤lE l i∧jg τ∧eC l=gh (mj l) i (lE l i) (nZ l i) τ (l.drop i)) (fun⟨i,τ,bf⟩=>l.length - i) ?_ ?_
 ·exact c4 ((0,σ0, [])) (⟨Nat.zero_le _,JD,Int.le_refl _,HA,pS l⟩) [] hI rfl rfl ⟨⟨_,rfl,.pure pu⟩,⟨_,rfl,.pure pu⟩,⟨_,rfl,.pure pu⟩,trivial⟩ trivial
 rintro⟨i,τ,bf⟩ ⟨hi,hbf,hdy,hsu,hst⟩
 dsimp only
 refine aa [674,25,646] ?_
 refine cm rfl (fun hc12=>?_) (fun hc12=>?_)
 ·have h12 : i < l.length := by have := of_decide_eq_true hc12; omega
  obtain⟨e,he⟩:∃e,l[i]? =some e:=⟨_,List.getElem?_eq_getElem h12⟩
  have hok:=hl e (List.mem_of_getElem? he)
  obtain⟨e0,he0⟩:∃e0,l[0]? =some e0:=⟨_,List.getElem?_eq_getElem aq⟩
  have hi0:=EE he0
  refine aa [655,661,200,201] ?_
  refine bJ rfl (cI 6 rfl cT rfl rfl ?_)
  refine aa [148,653] ?_
  refine s1 ((oq bR rfl Tryz.underlying23 cr rfl).v (v':= .ag (zD.map u8)) (rfl)) rfl <| bJ rfl (cI 7 rfl bR rfl rfl ?_)
  refine aa [5,654,665] ?_
  refine cm rfl (fun hc21=>?_) (fun hc21=>?_)
  ·have h21 : 0 < i := by have := of_decide_eq_true hc21; omega
   obtain⟨p,hp⟩:∃p,l[i - 1]? =some p:=⟨_,List.getElem?_eq_getElem aq⟩
   have hpo:=hl p (List.mem_of_getElem? hp)
   have hpv:=NR h21 hp
   have hdp:=Kt h21 hp
   refine aa [658] ?_
   refine s1 ((iq rfl rfl aq aq).v (v':=nJ (i - 1)) (congrArg (A.i .i64) aq)) rfl <| s1 (cf (i - 1) Tryz.underlying24 cT rfl rfl rfl aq rfl) rfl <| s1 (dw cT rfl rfl (kI hl hp) hpo.len) rfl <| bJ rfl (b7 false rfl (.cons (.pure pu) (.nil)) (r9 p hpo) pu (.inl rfl) rfl ?_)
   refine aa [41,654,3] ?_
   rcases DZ e (mj l) i (lE l i) (nZ l i) τ hdy with hcs|hcs|hcs|hcs|hcs|hcs|hcs|hcs|hcs|hcs|hcs
   ·obtain ⟨h1, hb⟩ := hcs
    refine aa [805,449,307] ?_
    refine bT 4 [3] rfl rfl rfl rfl rfl <| bT 5 [3,4] rfl rfl rfl rfl rfl <| bT 6 [3,5] rfl rfl rfl rfl rfl ?_
    refine aa [794,202,203,204,205,206,207,208,784,115,116,117,118,752,78,79,80,746] ?_
    exact(iQ (hst.trans (gG he (.inl hb)))).symm
   ·obtain ⟨h0, h1, hb⟩ := hcs
    refine aa [807,450,794,202,203,204,205,206,207,208,784,115,116,117,118,752,78,79,80,746] ?_
    exact(iQ (hst.trans (gG he (.inl hb)))).symm
   ·obtain ⟨⟨h0, h1⟩, h2, hb⟩ := hcs
    refine aa [809,451,784,115,116,117,118,752,78,79,80,746] ?_
    exact(iQ (hst.trans (gG he (.inl hb)))).symm
   ·obtain ⟨⟨h0, h1, h2⟩, h3, hb⟩ := hcs
    refine aa [811,452,752,78,79,80,746] ?_
    exact(iQ (hst.trans (gG he (.inl hb)))).symm
   ·obtain ⟨⟨h0, h1, h2, h3⟩, h4, hb⟩ := hcs
    refine aa [813,453,746] ?_
    exact(iQ (hst.trans (gG he (.inl hb)))).symm
   ·obtain ⟨⟨h0, h1, h2, h3, h4⟩, h5, hb⟩ := hcs
    refine aa [817,454,815] ?_
    exact(iQ (hst.trans (gG he (.inl hb)))).symm
   ·obtain ⟨⟨r1, r2, r3, r4, r5, r6⟩, h7, hb⟩ := hcs
    refine aa [773,150,61,151,152,153,154,155,156,157,158] ?_
    refine bP 45 [36,42,44] [] rfl rfl ((bE rfl).v (v':= .b true) (congrArg A.b (decide_eq_true aq))) rfl rfl ?_
    refine aa [62,827] ?_
    exact(iQ (hst.trans (gG he (.inl hb)))).symm
   ·obtain ⟨⟨r1, r2, r3, r4, r5, r6⟩, h7, h8, hb⟩ := hcs
    rw [hpv]at h8
    refine aa [773,150,61,151,152,153,154,155,156,157,158,209,62,753,81,82,83,455,810] ?_
    exact(iQ (hst.trans (gG he (.inl hb)))).symm
   ·obtain ⟨⟨r1, r2, r3, r4, r5, r6⟩, h7, h8, hk⟩ := hcs
    rw [hpv]at h8
    refine aa [773,150,61,151,152,153,154,155,156,157,158,209,62,753,81,82,83,119,785,120,121,122,123,456,808] ?_
    exact(iQ (hst.trans (gG he (.inr hk)))).symm
   ·obtain ⟨⟨r1, r2, r3, r4, r5, r6⟩, h7, h8, hk, h9, hb⟩ := hcs
    rw [hpv]at h8
    refine aa [773,150,61,151,152,153,154,155,156,157,158,209,62,753,81,82,83,119,785,120,121,122,123,210,795,211,212,213,214,457,806] ?_
    exact(iQ (hst.trans (gG he (.inl hb)))).symm
   ·obtain ⟨⟨r1, r2, r3, r4, r5, r6⟩, h7, h8, hk, h9, hb⟩ := hcs
    rw [hpv]at h8
    refine aa [773,150,61,151,152,153,154,155,156,157,158,209,62,753,81,82,83,119,785,120,121,122,123,210,795,211,212,213,214,458,2,673,681,649,109,75,459,686] ?_
    exact cO (x:=(i,τ,bf)) ((i+1,cv τ e.ch,eL (cv τ e.ch))) (⟨show i+1≤l.length by omega,rfl,by show -1≤lE l (i+1);rw [tv he];omega,np hsu (Int.le_refl _) hk,hst.trans bc⟩) (show l.length - (i+1)<l.length - i by omega) [] hI rfl rfl ⟨⟨_,rfl,.pure pu⟩,⟨_,rfl,.pure pu⟩,⟨_,rfl,.pure pu⟩,trivial⟩ trivial
  ·have h21 : i = 0 := by have := of_decide_eq_false hc21; omega
   have hpv:nZ l i=zD:=by rw [h21];rfl
   have hdp:lE l i= -1:=by rw [h21];rfl
   refine b9 <| bF <| bG <| bG ?_
   rcases K7 e (mj l) i (lE l i) (nZ l i) τ hdp with hcs|hcs|hcs|hcs|hcs|hcs|hcs|hcs|hcs|hcs
   ·obtain ⟨h1, hb⟩ := hcs
    refine aa [805,449,307] ?_
    refine bT 4 [3] rfl rfl rfl rfl rfl <| bT 5 [3,4] rfl rfl rfl rfl rfl <| bT 6 [3,5] rfl rfl rfl rfl rfl ?_
    refine aa [794,202,203,204,205,206,207,208,784,115,116,117,118,752,78,79,80,746] ?_
    exact(iQ (hst.trans (gG he (.inl hb)))).symm
   ·obtain ⟨h0, h1, hb⟩ := hcs
    refine aa [807,450,794,202,203,204,205,206,207,208,784,115,116,117,118,752,78,79,80,746] ?_
    exact(iQ (hst.trans (gG he (.inl hb)))).symm
   ·obtain ⟨⟨h0, h1⟩, h2, hb⟩ := hcs
    refine aa [809,451,784,115,116,117,118,752,78,79,80,746] ?_
    exact(iQ (hst.trans (gG he (.inl hb)))).symm
   ·obtain ⟨⟨h0, h1, h2⟩, h3, hb⟩ := hcs
    refine aa [811,452,752,78,79,80,746] ?_
    exact(iQ (hst.trans (gG he (.inl hb)))).symm
   ·obtain ⟨⟨h0, h1, h2, h3⟩, h4, hb⟩ := hcs
    refine aa [813,453,746] ?_
    exact(iQ (hst.trans (gG he (.inl hb)))).symm
   ·obtain ⟨⟨h0, h1, h2, h3, h4⟩, h5, hb⟩ := hcs
    refine aa [817,454,815] ?_
    exact(iQ (hst.trans (gG he (.inl hb)))).symm
   ·obtain ⟨⟨r1, r2, r3, r4, r5, r6⟩, h7, h8, hb⟩ := hcs
    rw [hpv]at h8
    refine aa [773,215,61,216,217,218,219,220,221,222,223,224,62,753,81,82,83,455,810] ?_
    exact(iQ (hst.trans (gG he (.inl hb)))).symm
   ·obtain ⟨⟨r1, r2, r3, r4, r5, r6⟩, h7, h8, hk⟩ := hcs
    rw [hpv]at h8
    refine aa [773,215,61,216,217,218,219,220,221,222,223,224,62,753,81,82,83,119,785,120,121,122,123,456,808] ?_
    exact(iQ (hst.trans (gG he (.inr hk)))).symm
   ·obtain ⟨⟨r1, r2, r3, r4, r5, r6⟩, h7, h8, hk, h9, hb⟩ := hcs
    rw [hpv]at h8
    refine aa [773,215,61,216,217,218,219,220,221,222,223,224,62,753,81,82,83,119,785,120,121,122,123,210,795,211,212,213,214,457,806] ?_
    exact(iQ (hst.trans (gG he (.inl hb)))).symm
   ·obtain ⟨⟨r1, r2, r3, r4, r5, r6⟩, h7, h8, hk, h9, hb⟩ := hcs
    rw [hpv]at h8
    refine aa [773,215,61,216,217,218,219,220,221,222,223,224,62,753,81,82,83,119,785,120,121,122,123,210,795,211,212,213,214,458,2,673,681,649,109,75,459,686] ?_
    exact cO (x:=(i,τ,bf)) ((i+1,cv τ e.ch,eL (cv τ e.ch))) (⟨show i+1≤l.length by omega,rfl,by show -1≤lE l (i+1);rw [tv he];omega,np hsu (Int.le_refl _) hk,hst.trans bc⟩) (show l.length - (i+1)<l.length - i by omega) [] hI rfl rfl ⟨⟨_,rfl,.pure pu⟩,⟨_,rfl,.pure pu⟩,⟨_,rfl,.pure pu⟩,trivial⟩ trivial
 ·obtain rfl : i = l.length := by have := of_decide_eq_false hc12; omega
  rw [List.drop_length]at hst
  refine aa [687,661,650,35] ?_
  rw [zW hst,hbf];rfl
theorem AJ (r:List UInt8) (n:Int) (l:List Ep) (hr:r.length=32) (hl:fK l) (hn:l.length≤1000):bU Tryz.prog 14 [.ag (r.map u8),.i .i64 n,eS l] (cl (.i .i64 (fc r n l))):=by
 refine enter Tryz.func14 rfl Tryz.ntmps14 aw (Nat.le_of_ble_eq_true rfl) fun w0 X0 hI=>?_
 refine aa [689,659] ?_
 rcases xd (eC l)with hcs|hcs
 ·have hf := hcs
  refine aa [649] ?_
  refine bJ rfl (b7 false rfl (.cons (.pure pu) (.nil)) (bU.cast (AO l hl hn) (iQ hf)) pu (.inl rfl) rfl ?_)
  refine aa [764,645,460,668,124] ?_
  exact congrArg (A.i .i64) (s8 hf).symm
 ·obtain ⟨σ, hf⟩ := hcs
  refine aa [649,461,708,710,697] ?_
  refine c5 (ι:=Nat) (fun i=> [(1,.i .i64 n),(2,eS l),(3,.p 3 0),(9,nJ i)]) (fun i=>⟨[(3,some (r.map u8))]⟩) (fun i=>i≤l.length∧∀e∈l.take i,gx r n (dX e) e.sg.a e.sg.S e.sg.P=true) (fun i=>l.length - i) ?_ ?_
  ·exact c4 (0) (⟨Nat.zero_le _,fun e he=>by simp at he⟩) [(3,some 3)] hI rfl rfl ⟨⟨_,rfl,.pure pu⟩,⟨_,rfl,.pure pu⟩,⟨_,rfl,.p rfl⟩,⟨_,rfl,.pure pu⟩,trivial⟩ ⟨.inr ⟨_,_,rfl,rfl,.pure bO⟩,trivial⟩
  rintro i ⟨hi,hall⟩
  refine aa [674,25,646] ?_
  refine cm rfl (fun hc21=>?_) (fun hc21=>?_)
  ·have h21 : i < l.length := by have := of_decide_eq_true hc21; omega
   obtain⟨e,he⟩:∃e,l[i]? =some e:=⟨_,List.getElem?_eq_getElem h21⟩
   have hok:=hl e (List.mem_of_getElem? he)
   refine b9 <| bF <| bG <| cd <| bG ?_
   rcases k9 (gx r n (dX e) e.sg.a e.sg.S e.sg.P)with hcs|hcs
   ·skip
    refine aa [94,159,22,17,31,462,463,464,134,146,465,466,467] ?_
    refine c7 false 12 [0,1,6,11] [] cz rfl (.cons (.pure pu) (.cons (.pure pu) (.cons (.pure pu) (.cons (.pure pu) (.nil))))) (bU.cast (GH r (dX e) n e.sg.a e.sg.S e.sg.P hr aA hok.S hok.P) (congrArg (A.i .i64) (by rw [hcs];rfl:rv (gx r n (dX e) e.sg.a e.sg.S e.sg.P)=60))) pu (.inl rfl) rfl rfl ?_
    refine aa [2,664,714,778,790,124] ?_
    exact congrArg (A.i .i64) (vz hf (List.mem_of_getElem? he) hcs).symm
   ·skip
    refine aa [94,159,22,17,31,462,463,464,134,146,465,466,467] ?_
    refine c7 false 12 [0,1,6,11] [] cz rfl (.cons (.pure pu) (.cons (.pure pu) (.cons (.pure pu) (.cons (.pure pu) (.nil))))) (bU.cast (GH r (dX e) n e.sg.a e.sg.S e.sg.P hr aA hok.S hok.P) (congrArg (A.i .i64) (by rw [hcs];rfl:rv (gx r n (dX e) e.sg.a e.sg.S e.sg.P)=0))) pu (.inl rfl) rfl rfl ?_
    refine aa [2,664,694,676] ?_
    exact cO (i+1) (⟨by omega,yG he hall hcs⟩) aq [(3,some 3)] hI rfl rfl ⟨⟨_,rfl,.pure pu⟩,⟨_,rfl,.pure pu⟩,⟨_,rfl,.p rfl⟩,⟨_,rfl,.pure pu⟩,trivial⟩ ⟨.inr ⟨_,_,rfl,rfl,.pure bO⟩,trivial⟩
  ·obtain rfl : i = l.length := by have := of_decide_eq_false hc21; omega
   rw [List.take_length]at hall
   refine aa [683,657,124] ?_
   exact congrArg (A.i .i64) (vB hf hall).symm
end Go.Abs.D2
