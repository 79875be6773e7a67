/-
  The engine, the plain laws and the walks that the rows need, part 26. Conditions: none.
-/
import Derived.Test.YteempkifmbclgaaGreatDoorM25
set_option linter.unusedVariables false
set_option linter.unusedSimpArgs false
set_option maxHeartbeats 1000000
set_option maxRecDepth 10000
-- E5D
namespace Go.Abs.D2
open Go Go.Eng Go.Abs Go.Proofs
theorem Dt (l:List Ep) (hl:fK l) (hn:l.length≤maxLen):lf Tryz.prog 64 [eS l] ⟨[]⟩ (fun r st=>∃σ,eC l=some σ∧qM (mapOf σ) r st) (fun u=>eC l=none∧u=ku 136 351):=by
 refine KF Tryz.func64 rfl Tryz.ntmps64 aw (Nat.le_of_ble_eq_true rfl) fun w0 X0 hI hS=>?_
 refine qR <| qQ ?_
 simp only [maxLen]at hn
 refine bI <| bJ rfl (mP 1 rfl rfl rfl rfl ?_)
 refine s1 (bE rfl) rfl <| bH <| bF <| qR <| qQ <| bI ?_
 refine bJ rfl (Ap rfl rfl fun b8=>?_)
 refine dP 700 (cs':= [.mc b8 (mapOf σ0)]) rfl (congrArg (fun f=> [A.mc b8 f]) Mu) <| s1 (bE rfl) rfl <| bH <| bF <| qR <| qQ ?_
 refine aa [1,70,656] ?_
 refine qR <| qQ <| bI <| bJ rfl (cI 5 rfl bL rfl rfl ?_)
 refine bJ rfl (cI 6 rfl bL rfl rfl ?_)
 refine aa [193,193,656] ?_
 refine qR <| qR <| qQ <| bI <| s1 (bM iN rfl rfl rfl) rfl <| s1 (bE rfl) rfl <| bJ rfl (b7 false rfl (.cons (.pure pu) (.cons (.pure pu) (.nil))) (Ku l b8) pu (.inl rfl) rfl ?_)
 refine bH <| bF <| IS ?_
 refine IY [1,4,5,6,700] [(0,_),(1,_),(3,_),(4,_),(5,_),(6,_),(8,_),(9,_),(10,_),(11,_)] hI rfl ⟨rfl,⟨rfl,⟨rfl,⟨rfl,⟨rfl,⟨rfl,⟨rfl,⟨rfl,⟨rfl,⟨rfl,trivial⟩⟩⟩⟩⟩⟩⟩⟩⟩⟩ aL rfl Tryz.func163 rfl Tryz.ntmps163 aw (Nat.le_of_ble_eq_true rfl) fun w1 l1 D1 rc1 hR1 hF1=>?_
 refine bG <| bI <| s1 (bM iN rfl rfl rfl) rfl ?_
 refine aa [25,667] ?_
 refine c5 (ι:=Nat×(Int→Int)×Int×List UInt8) (fun⟨i,τ,day,prev⟩=> [(0,yv l1),(1,.fp [eS l]),(2,.fp [.raw (.map (some b8))]),(6,eS l),(7,nJ l.length),(8,nJ i)]) (fun⟨i,τ,day,prev⟩=>⟨[(1,some ([eS l])),(4,some (prev.map u8)),(5,some ([nJ i])),(6,some ([.i .i64 day])),(700,some ([.mc b8 (mapOf τ)]))]⟩) (fun⟨i,τ,day,prev⟩=>i≤l.length∧prev.length=32∧eC l=gh (mj l) i day prev τ (l.drop i)) (fun⟨i,τ,day,prev⟩=>l.length - i) ?_ ?_
 ·exact c4 ((0,σ0, -1,zD)) (⟨Nat.zero_le _,rfl,pS l⟩) [(1,some 1),(4,some 4),(5,some 5),(6,some 6),(700,some 700)] hR1.sub.ids rfl rfl ⟨⟨_,rfl,.pure trivial⟩,⟨_,rfl,.pure pu⟩,⟨_,rfl,.pure pu⟩,⟨_,rfl,.pure pu⟩,⟨_,rfl,.pure pu⟩,⟨_,rfl,.pure pu⟩,trivial⟩ ⟨.inr ⟨_,_,rfl,rfl,.pure bO⟩,.inr ⟨_,_,rfl,rfl,.of rfl (.pure bO)⟩,.inr ⟨_,_,rfl,rfl,.of (rfl:_= [nJ 0]) (.pure bO)⟩,.inr ⟨_,_,rfl,rfl,.of (rfl:_= [A.i .i64 (-1)]) (.pure bO)⟩,.inr ⟨_,_,rfl,rfl,.pure bO⟩,trivial⟩
 rintro⟨i,τ,day,prev⟩ ⟨hi,hpl,hst⟩
 dsimp only
 refine aa [651] ?_
 refine cm rfl (fun hc9=>?_) (fun hc9=>?_)
 ·have h9 : i < l.length := by have := of_decide_eq_true hc9; omega
  obtain⟨e,he⟩:∃e,l[i]? =some e:=⟨_,List.getElem?_eq_getElem h9⟩
  have hok:=hl e (List.mem_of_getElem? he)
  obtain⟨e0,he0⟩:∃e0,l[0]? =some e0:=⟨_,List.getElem?_eq_getElem aq⟩
  have hi0:=EE he0
  have hpv:=hok.prev
  refine aa [672,200,201] ?_
  refine bJ rfl (cI 1005 rfl cT rfl rfl ?_)
  refine aa [148,727] ?_
  refine s1 (cu cT rfl rfl hok.len) rfl ?_
  refine aa [308] ?_
  refine vj [1,4,5,6,700,1005] [(0,_),(1,_),(2,_),(5,_),(6,_),(7,_),(8,_),(9,_),(10,_),(11,_),(12,_),(13,_),(14,_)] hR1 hR1.sub.ids rfl ⟨rfl,⟨rfl,⟨rfl,⟨rfl,⟨rfl,⟨rfl,⟨rfl,⟨rfl,⟨rfl,⟨rfl,⟨rfl,⟨rfl,⟨rfl,trivial⟩⟩⟩⟩⟩⟩⟩⟩⟩⟩⟩⟩⟩ aL rfl rfl rfl rfl rfl fun w2 tm2 hd2=>?_
  refine bI <| bJ rfl (cI 7 rfl cT rfl rfl ?_)
  refine aa [148,26] ?_
  refine vg hd2 fun w3 hd3=>?_
  refine cd <| bG ?_
  rcases LC e.iss e0.iss with hcs|hcs|hcs|hcs
  ·have hq := hcs
   refine aa [225,226,227,228,229,230,231] ?_
   refine t1 ((bE rfl).v (v':= .b false) (congrArg A.b (beq_eq_false_iff_ne.2 aq))) rfl ?_
   refine aa [6,788,14,829,6,11] ?_
   refine ik ⟨[]⟩ false rfl trivial (.cons (.pure pu) (.cons (.pure pu) .nil)) (kH 351) (fun u hu=>?_)
   refine dJ <| fS ?_
   refine sY ((congrArg (fun f=>Tryz.prog.funcs[f]?) hF1).trans Tryz.func64) hR1 hd3 fun w4 hR4=>?_
   refine aa [730,730] ?_
   refine qS hR4 hS <| fS <| dJ ?_
   exact qT rfl rfl rfl hS (dn:= [D1]) rfl rfl aA ⟨hst.trans (gG he (.inl (zK aq))),hu⟩
  ·obtain ⟨hq, h0⟩ := hcs
   refine aa [225,226,227,228,229,230,231,309,6,160,161,803,788,14,6,11] ?_
   refine ik ⟨[]⟩ false rfl trivial (.cons (.pure pu) (.cons (.pure pu) .nil)) (kH 351) (fun u hu=>?_)
   refine dJ <| fS ?_
   refine sY ((congrArg (fun f=>Tryz.prog.funcs[f]?) hF1).trans Tryz.func64) hR1 hd3 fun w5 hR5=>?_
   refine aa [730,730] ?_
   refine qS hR5 hS <| fS <| dJ ?_
   exact qT rfl rfl rfl hS (dn:= [D1]) rfl rfl aA ⟨hst.trans (gG he (.inl (zK aq))),hu⟩
  ·obtain ⟨hq, h0, h8⟩ := hcs
   refine aa [225,226,227,228,229,230,231,309,6,160,161,32,666,160,161,289,6,11] ?_
   refine ik ⟨[]⟩ false rfl trivial (.cons (.pure pu) (.cons (.pure pu) .nil)) (kH 351) (fun u hu=>?_)
   refine dJ <| fS ?_
   refine sY ((congrArg (fun f=>Tryz.prog.funcs[f]?) hF1).trans Tryz.func64) hR1 hd3 fun w6 hR6=>?_
   refine aa [730,730] ?_
   refine qS hR6 hS <| fS <| dJ ?_
   exact qT rfl rfl rfl hS (dn:= [D1]) rfl rfl aA ⟨hst.trans (gG he (.inl (zK aq))),hu⟩
  ·have hq := hcs
   obtain⟨hq1,h0,h8⟩:=hcs
   refine aa [225,226,227,228,229,230,231,309,6,160,161,32,666,160,161,32,6,11,53,653,691,8,647] ?_
   refine fU 5 rfl rfl rfl rfl (fun hb36=> .step (bX Tryz.underlying45 rfl eG az rfl rfl) rfl rfl<| .step (bX Tryz.underlying43 rfl bL az rfl rfl) rfl rfl<| .step (bM bL rfl rfl (tH hok)) rfl rfl<| .step (bM bL rfl rfl rfl) rfl rfl<| .step (bE rfl) rfl rfl<| .done) rfl rfl <| s1 (bE rfl) rfl <| fU 4 rfl rfl rfl rfl (fun hb43=> .step (bX Tryz.underlying45 rfl bR az rfl rfl) rfl rfl<| .step (dw bR rfl rfl (jP hok) (by simp [hok.prev])) rfl rfl<| .step (cu bR rfl rfl (by rw [List.length_map,hpl])) rfl rfl<| .step (oo Tryz.underlying23 Tryz.underlying5 cr aw rfl rfl aM aM) rfl rfl<| .done) rfl rfl ?_
   refine ji 48 rfl (fun hc48=>?_) (fun hc48=>?_)
   ·skip
    refine aa [53,653,691,8,647] ?_
    refine fU 3 rfl rfl rfl rfl (fun hb54=> .step (bX Tryz.underlying45 rfl bL az rfl rfl) rfl rfl<| .step (bM bL rfl rfl rfl) rfl rfl<| .step (bE rfl) rfl rfl<| .done) rfl rfl ?_
    refine ji 58 rfl (fun hc58=>?_) (fun hc58=>?_)
    ·skip
     refine aa [53,656,38] ?_
     refine bK 0 [] [(5,none)] (bM bL rfl rfl rfl) rfl rfl <| bK 1 [0] [] (cE i 1 rfl rfl rfl rfl aq) rfl rfl <| bK 2 [] [(7,none)] (bX Tryz.underlying45 rfl bL az rfl rfl) rfl rfl <| bK 3 [2] [(7,none)] (bM bL rfl rfl rfl) rfl rfl <| bK 4 [] [(7,none)] (cu cT rfl rfl hok.len) rfl rfl <| c7 false 5 [4] [] cz rfl (.cons (.pure pu) (.nil)) (pO e hok) pu (.inl rfl) rfl rfl <| Ld 0 6 [1] [(5,none)] rfl cz bL rfl rfl rfl rfl ar rfl rfl ?_
     refine aa [2,193] ?_
     refine bJ rfl (cD bR rfl rfl rfl aA (by simp [hpl]) ?_)
     refine aa [760,174,673,681] ?_
     rcases k9 (eH τ (-1) e.ch)with hcs|hcs
     ·skip
      refine aa [1,308,109,75] ?_
      refine ik ⟨[(700,some [.mc b8 (mapOf τ)])]⟩ false rfl ⟨⟨rfl,cK.pure bO⟩,trivial⟩ (.cons (.pure pu) (.cons (.pure pu) .nil)) (zE (Nat.le_trans hok.g9 az) hcs) (fun u hu=>?_)
      refine fS <| dJ <| dJ <| fS <| qS hR1 hS <| fS <| dJ ?_
      exact qT rfl rfl rfl hS (dn:= [D1]) rfl rfl aA ⟨hst.trans (gG he (.inr hcs)),hu.2⟩
     ·skip
      refine aa [1,308,109,75] ?_
      refine bJ rfl (rR ⟨[(700,some [.mc b8 (mapOf τ)])]⟩ [(700, [.mc b8 (mapOf (cv τ e.ch))])] false rfl ⟨⟨rfl,cK.pure bO⟩,trivial⟩ (.cons (.pure pu) (.cons (.pure pu) .nil)) (zC (Nat.le_trans hok.g9 az) hcs) pu (.inl rfl) (fun p hp=>by rw [List.mem_singleton.1 hp];exact⟨⟨_,rfl⟩,bO,.inl rfl⟩) rfl ?_)
      refine aa [685] ?_
      exact cO (x:=(i,τ,day,prev)) ((i+1,cv τ e.ch,e.day,dX e)) (⟨show i+1≤l.length by omega,L8 e,hst.trans (zZ he (KK hi0 hq (by simpa using hc48) (by simpa using hc58)) hcs)⟩) (show l.length - (i+1)<l.length - i by omega) [(1,some 1),(4,some 4),(5,some 5),(6,some 6),(700,some 700)] hR1.sub.ids rfl rfl ⟨⟨_,rfl,.pure trivial⟩,⟨_,rfl,.pure pu⟩,⟨_,rfl,.pure pu⟩,⟨_,rfl,.pure pu⟩,⟨_,rfl,.pure pu⟩,⟨_,rfl,.pure pu⟩,trivial⟩ ⟨.inr ⟨_,_,rfl,rfl,.pure bO⟩,.inr ⟨_,_,rfl,rfl,.pure bO⟩,.inr ⟨_,_,rfl,rfl,.of (rfl:_= [nJ (i+1)]) (.pure bO)⟩,.inr ⟨_,_,rfl,rfl,.of (rfl:_= [A.i .i64 e.day]) (.pure bO)⟩,.inr ⟨_,_,rfl,rfl,.pure bO⟩,trivial⟩
    ·skip
     refine ik ⟨[]⟩ false rfl trivial (.cons (.pure pu) (.cons (.pure pu) .nil)) (kH 351) (fun u hu=>?_)
     refine dJ <| fS ?_
     refine sY ((congrArg (fun f=>Tryz.prog.funcs[f]?) hF1).trans Tryz.func64) hR1 hd3 fun w7 hR7=>?_
     refine aa [730,730] ?_
     refine qS hR7 hS <| fS <| dJ ?_
     exact qT rfl rfl rfl hS (dn:= [D1]) rfl rfl aA ⟨hst.trans (gG he (.inl (KJ (by simpa using hc58)))),hu⟩
   ·skip
    refine ik ⟨[]⟩ false rfl trivial (.cons (.pure pu) (.cons (.pure pu) .nil)) (kH 351) (fun u hu=>?_)
    refine dJ <| fS ?_
    refine sY ((congrArg (fun f=>Tryz.prog.funcs[f]?) hF1).trans Tryz.func64) hR1 hd3 fun w8 hR8=>?_
    refine aa [730,730] ?_
    refine qS hR8 hS <| fS <| dJ ?_
    exact qT rfl rfl rfl hS (dn:= [D1]) rfl rfl aA ⟨hst.trans (gG he (.inl (KI (by simpa using hc48)))),hu⟩
 ·obtain rfl : i = l.length := by have := of_decide_eq_false hc9; omega
  rw [List.drop_length]at hst
  refine cY <| cq <| cq <| cZ <| yN rfl hR1 hS <| cH <| bF <| qQ ?_
  refine aa [778] ?_
  refine I0 (rs:= [.tmp 2]) rfl rfl rfl hS (dn:= [D1]) rfl rfl aA rfl (bV rfl bW) ?_
  exact⟨τ,hst,b8,rfl,rfl⟩
theorem Du {l:List Ep} (hl:fK l) (hn:l.length≤maxLen) {σ:Int→Int} (h:eC l=some σ):bU Tryz.prog 64 [eS l] (qM (mapOf σ)):=(Dt l hl hn).ret (fun r st ⟨τ,h1,h2⟩=>by rw [h]at h1;cases h1;exact h2) fun u hu=>by rw [h]at hu;cases hu.1
theorem Dv {l:List Ep} (hl:fK l) (hn:l.length≤maxLen) (h:eC l=none):lg Tryz.prog 64 [eS l] ⟨[]⟩ (fun u=>eC l=none∧u=ku 136 351):=(Dt l hl hn).xf fun r st ⟨τ,h1,_⟩=>by rw [h]at h1;cases h1
-- E5E
theorem Dn (r:List UInt8) (n:Int) (l:List Ep) (hr:r.length=32) (hl:fK l) (hn:l.length≤maxLen):lf Tryz.prog 40 [.ag (r.map u8),.i .i64 n,eS l] ⟨[]⟩ (fun q st=>∃σ,eC l=some σ∧fc r n l=0∧qM (mapOf σ) q st) (fun u=>fc r n l≠0∧u=ku 136 (fc r n l)):=by
 refine vM Tryz.func40 rfl Tryz.ntmps40 aw (Nat.le_of_ble_eq_true rfl) fun w0 X0 hI=>?_
 refine bG ?_
 have hn2:=hn
 simp only [maxLen]at hn2
 refine aa [1,68,652] ?_
 rcases xd (eC l)with hcs|hcs
 ·have hf := hcs
  refine aa [649] ?_
  refine ik ⟨[]⟩ false rfl trivial (.cons (.pure pu) .nil) (Dv hl hn hf) (fun u hu=>?_)
  refine dJ ?_
  exact pJ (show fc r n l≠0∧_=ku 136 (fc r n l) by rw [s8 hf];exact⟨by decide,hu.2⟩)
 ·obtain ⟨σ, hf⟩ := hcs
  refine aa [649] ?_
  refine bJ rfl (wL (F:=mapOf σ) rfl (.cons (.pure pu) (.nil)) (Du hl hn hf) rfl rfl fun b12=>?_)
  refine aa [692,25,667] ?_
  refine c5 (ι:=Nat) (fun i=> [(1,.i .i64 n),(3,.p 3 0),(7,.raw (.map (some b12))),(13,eS l),(14,nJ l.length),(15,nJ i)]) (fun i=>⟨[(3,some (r.map u8)),(700,some ([.mc b12 (mapOf σ)]))]⟩) (fun i=>i≤l.length∧∀e∈l.take i,gx r n (dX e) e.sg.a e.sg.S e.sg.P=true) (fun i=>l.length - i) ?_ ?_
  ·exact c4 (0) (⟨Nat.zero_le _,fun e he=>by simp at he⟩) [(3,some 3),(700,some 700)] hI rfl rfl ⟨⟨_,rfl,.pure pu⟩,⟨_,rfl,.p rfl⟩,⟨_,rfl,.pure pu⟩,⟨_,rfl,.pure pu⟩,⟨_,rfl,.pure pu⟩,⟨_,rfl,.pure pu⟩,trivial⟩ ⟨.inr ⟨_,_,rfl,rfl,.pure bO⟩,.inr ⟨_,_,rfl,rfl,.pure bO⟩,trivial⟩
  rintro i ⟨hi,hall⟩
  refine aa [651] ?_
  refine cm rfl (fun hc16=>?_) (fun hc16=>?_)
  ·have h16 : i < l.length := by have := of_decide_eq_true hc16; omega
   obtain⟨e,he⟩:∃e,l[i]? =some e:=⟨_,List.getElem?_eq_getElem h16⟩
   have hem:=List.mem_of_getElem? he
   have hok:=hl e hem
   refine aa [672,200,201] ?_
   refine bJ rfl (cI 9 rfl cT rfl rfl ?_)
   refine aa [148,654] ?_
   rcases k9 (gx r n (dX e) e.sg.a e.sg.S e.sg.P)with hcs|hcs
   ·skip
    refine aa [38,159,22,469,470,471,472] ?_
    refine c7 false 6 [0,1,3,5] [] cz rfl (.cons (.pure pu) (.cons (.pure pu) (.cons (.pure pu) (.cons (.pure pu) (.nil))))) (bU.cast (EL r (dX e) n e.sg.a e.sg.S e.sg.P hr aA hok.S hok.P) (show _=A.i .i64 60 by rw [hcs];rfl)) pu (.inl rfl) rfl rfl ?_
    refine aa [2,646,649,43,0] ?_
    refine ik ⟨[]⟩ false rfl trivial (.cons (.pure pu) (.cons (.pure pu) .nil)) (kH 60) (fun u hu=>?_)
    refine fS <| dJ <| dJ <| fS <| dJ ?_
    exact pJ (show fc r n l≠0∧_=ku 136 (fc r n l) by rw [vz hf hem hcs];exact⟨by decide,hu⟩)
   ·skip
    refine aa [38,159,22,469,470,471,472] ?_
    refine c7 false 6 [0,1,3,5] [] cz rfl (.cons (.pure pu) (.cons (.pure pu) (.cons (.pure pu) (.cons (.pure pu) (.nil))))) (bU.cast (EL r (dX e) n e.sg.a e.sg.S e.sg.P hr aA hok.S hok.P) (show _=A.i .i64 0 by rw [hcs];rfl)) pu (.inl rfl) rfl rfl ?_
    refine aa [2,646,649,37,0,84,685] ?_
    exact cO (i+1) (⟨by omega,yG he hall hcs⟩) aq [(3,some 3),(700,some 700)] hI rfl rfl ⟨⟨_,rfl,.pure pu⟩,⟨_,rfl,.p rfl⟩,⟨_,rfl,.pure pu⟩,⟨_,rfl,.pure pu⟩,⟨_,rfl,.pure pu⟩,⟨_,rfl,.pure pu⟩,trivial⟩ ⟨.inr ⟨_,_,rfl,rfl,.pure bO⟩,.inr ⟨_,_,rfl,rfl,.pure bO⟩,trivial⟩
  ·obtain rfl : i = l.length := by have := of_decide_eq_false hc16; omega
   rw [List.take_length]at hall
   refine aa [719] ?_
   refine B8 (rs:= [.tmp 6]) rfl (bV rfl bW) ?_
   exact⟨σ,hf,vB hf hall,b12,rfl,rfl⟩
theorem Dq {r:List UInt8} {n:Int} {l:List Ep} (hr:r.length=32) (hl:fK l) (hn:l.length≤maxLen) {σ:Int→Int} (h:eC l=some σ) (h0:fc r n l=0):bU Tryz.prog 40 [.ag (r.map u8),.i .i64 n,eS l] (qM (mapOf σ)):=(Dn r n l hr hl hn).ret (fun q st ⟨τ,h1,_,h2⟩=>by rw [h]at h1;cases h1;exact h2) fun u hu=>hu.1 h0
theorem Dr {r:List UInt8} {n:Int} {l:List Ep} (hr:r.length=32) (hl:fK l) (hn:l.length≤maxLen) (h:fc r n l≠0):lg Tryz.prog 40 [.ag (r.map u8),.i .i64 n,eS l] ⟨[]⟩ (fun u=>fc r n l≠0∧u=ku 136 (fc r n l)):=(Dn r n l hr hl hn).xf fun q st ⟨_,_,h1,_⟩=>h h1
theorem Kv (c0:A) (e:Int):sH Tryz.prog 38 [.p 6 0] ⟨[(6,some [c0])]⟩ (fun u=>u=ku 136 e) [(6, [.i .i64 e])]:=by
 refine zh (.ic 136 (.ag [.i .i64 e])) (fun u hu X w β=>by rw [hu];exact yx _ _) Tryz.func38 rfl Tryz.ntmps38 (Nat.le_of_ble_eq_true rfl) rfl rfl fun w0 X0 hI=>?_
 refine aa [648,310,782,649,311,20,26] ?_
 refine nE (rs:= []) rfl bW (qm rfl)
theorem Kw:sI Tryz.prog 38 1:=zi Tryz.func38 rfl (fun w=>AX Tryz.underlying20 w) rfl ⟨Nat.le_of_ble_eq_true rfl,Nat.le_of_ble_eq_true rfl,Nat.le_of_ble_eq_true rfl,Nat.le_of_ble_eq_true rfl,Nat.le_of_ble_eq_true rfl⟩
theorem Ds:mF Tryz.prog 38:=⟨_,Tryz.func38,rfl,by kernel_rfl⟩
theorem zB (r:List UInt8) (n:Int) (l:List Ep) (hr:r.length=32) (hl:fK l) (hn:l.length≤maxLen):bU Tryz.prog 13 [.ag (r.map u8),.i .i64 n,eS l] (cl (.i .i64 (fc r n l))):=by
 refine rq Tryz.func13 rfl Tryz.ntmps13 aw (Nat.le_of_ble_eq_true rfl) fun w0 X0 hI hS=>?_
 refine aa [689] ?_
 refine bJ rfl (cI 6 rfl dU rfl rfl ?_)
 refine bH <| bF <| bG <| bI <| s1 (jJ (us:= []) (vs:= [.p 6 0]) rfl rfl) rfl ?_
 refine yM [6] hI rfl rfl trivial rfl fun w1 us hdf=>?_
 refine bH <| bF <| bG ?_
 rcases ze r n l with hcs|hcs
 ·have h0 := hcs
  refine aa [1,473,647] ?_
  refine ik ⟨[]⟩ false rfl trivial (.cons (.pure pu) (.cons (.pure pu) (.cons (.pure pu) .nil))) (Dr hr hl hn h0) (fun u hu=>?_)
  refine dJ <| l8 ⟨[(6,some [.i .i64 0])]⟩ hdf hS Ds ⟨⟨rfl,cK.pure bO⟩,trivial⟩ (.cons (.kp rfl) .nil) (Kv _ (fc r n l)) (hu.2) (Nh rfl bO) rfl (fR dU rfl rfl rfl bW) ?_
  exact rfl
 ·obtain ⟨σ, hf, h0⟩ := hcs
  refine aa [1,473,647] ?_
  refine bJ rfl (wL (F:=mapOf σ) rfl (.cons (.pure pu) (.cons (.pure pu) (.cons (.pure pu) (.nil)))) (Dq hr hl hn hf h0) rfl rfl fun b11=>?_)
  refine aa [653,20,724] ?_
  refine vh hdf hS Ds Kw rfl (fR dU rfl rfl rfl bW) ?_
  exact congrArg (A.i .i64) h0.symm
-- E5F
theorem JL (l:List Ch) (hl:l.length≤1000000):bU Tryz.prog 47 [eo l] (cl (eo l)):=by
 refine enter Tryz.func47 rfl Tryz.ntmps47 aw (Nat.le_of_ble_eq_true rfl) fun w0 X0 hI=>?_
 refine aa [651,3] ?_
 rcases Fc l.length with hcs|hcs
 ·obtain rfl := List.length_eq_zero_iff.1 hcs
  refine aa [649] ?_
  refine bJ rfl (FC Tryz.underlying31 rfl rfl rfl fun q4=>?_)
  refine bH <| bF ?_
  refine cm rfl (fun hc4=>?_) (fun hc4=>?_)
  ·skip
   refine aa [707,21] ?_
   refine I5 2 rfl .nl ?_
   refine aa [4] ?_
   rfl
  ·skip
   refine aa [669,474,0,475,650,69,4] ?_
   rfl
 ·skip
  refine aa [649] ?_
  refine s1 (Bq Tryz.underlying31 rfl rfl hcs) rfl ?_
  refine aa [779,669,474,0,475,650,69,4] ?_
  exact congrArg (fun n=>A.fz n (gU l)) (Nat.zero_add _)
theorem CQ (l:List Ep) (h:fK l) (hl:l.length≤1000000):bU Tryz.prog 54 [eS l] (fk 71 l.length (fm l)):=by
 refine enter Tryz.func54 rfl Tryz.ntmps54 aw (Nat.le_of_ble_eq_true rfl) fun w0 X0 hI=>?_
 refine aa [651,3] ?_
 rcases Fc l.length with hcs|hcs
 ·obtain rfl := List.length_eq_zero_iff.1 hcs
  have hel:=kK h
  refine aa [649] ?_
  refine bJ rfl (FC Tryz.underlying24 rfl rfl rfl fun q4=>?_)
  refine bH <| bF ?_
  refine cm rfl (fun hc4=>?_) (fun hc4=>?_)
  ·skip
   refine aa [707,21] ?_
   refine B7 9 rfl 2 71 rfl ?_
   refine bZ (rs:= [.tmp 2]) rfl (bV rfl bW) ⟨9,rfl,rfl⟩
  ·skip
   refine aa [669,476,0,477,650] ?_
   refine bZ (rs:= [.tmp 2]) rfl (bV rfl bW) ⟨7,rfl,rfl⟩
 ·skip
  have hel:=kK h
  refine aa [649] ?_
  refine s1 (Bq Tryz.underlying24 rfl rfl hcs) rfl ?_
  refine aa [779,669,476,0,477,650] ?_
  refine bZ (rs:= [.tmp 2]) rfl (bV rfl bW) ⟨7,congrArg (A.sl 7 71 0) (Nat.zero_add _),rfl⟩
theorem D7 (a:Int):bU Tryz.prog 52 [.i .i64 a] (cl (.fz 4 ((fV a 4).map u8))):=by
 refine enter Tryz.func52 rfl Tryz.ntmps52 aw (Nat.le_of_ble_eq_true rfl) fun w0 X0 hI=>?_
 refine aa [645,664,64,478,0,64,479,0,64,480,0,481] ?_
 refine bJ rfl (mQ Tryz.underlying68 cr rfl rfl rfl (pY rfl) (oF rfl) bO rfl rfl rfl ?_)
 refine aa [698] ?_
 rfl
theorem Ht (b:Nat) (σ:Int→Int) (hs:jg σ) (ids:List Int) (hn:ids.length≤1000):lf Tryz.prog 49 [.raw (.map (some b)),.fz ids.length (ids.map (A.i .i64))] ⟨[(700,some [.mc b (mapOf σ)])]⟩ (fun r st=>jd σ ids=true∧j7 (.tu [.fz (eY σ ids).length ((eY σ ids).map (A.i .i64)),.fz (fP σ ids).length ((fP σ ids).map (A.i .i64))]) [] r st) (fun u=>jd σ ids=false∧u=ku 136 351):=by
 refine vM Tryz.func49 rfl Tryz.ntmps49 aw (Nat.le_of_ble_eq_true rfl) fun w0 X0 hI=>?_
 refine aa [665,645,252,727,19,667] ?_
 refine c5 (ι:=Nat) (fun i=> [(0,.raw (.map (some b))),(4,.sl 131 1 0 (eY σ (ids.take i)).length),(5,.sl 135 1 0 (fP σ (ids.take i)).length),(6,.i .i64 (fA ids i)),(9,.fz ids.length (ids.map (A.i .i64))),(10,nJ ids.length),(11,nJ i)]) (fun i=>⟨[(131,some ((eY σ (ids.take i)).map (A.i .i64))),(135,some ((fP σ (ids.take i)).map (A.i .i64))),(700,some ([.mc b (mapOf σ)]))]⟩) (fun i=>i≤ids.length∧eD ids=fZ (fA ids i) (ids.drop i)) (fun i=>ids.length - i) ?_ ?_
 ·exact c4 (0) (⟨Nat.zero_le _,sW ids⟩) [(131,none),(135,none),(700,some 700)] hI rfl rfl ⟨⟨_,rfl,.pure pu⟩,⟨_,rfl,.nl rfl⟩,⟨_,rfl,.nl rfl⟩,⟨_,rfl,.pure pu⟩,⟨_,rfl,.pure pu⟩,⟨_,rfl,.pure pu⟩,⟨_,rfl,.pure pu⟩,trivial⟩ ⟨.inl ⟨rfl,rfl⟩,.inl ⟨rfl,rfl⟩,.inr ⟨_,_,rfl,rfl,.pure bO⟩,trivial⟩
 rintro i ⟨hi,hl⟩
 have hlb:=rM σ (ids.take i)
 have hlg:=rN σ (ids.take i)
 rw [List.length_take]at hlb hlg
 refine aa [651] ?_
 refine cm rfl (fun hc12=>?_) (fun hc12=>?_)
 ·have h12 : i < ids.length := by have := of_decide_eq_true hc12; omega
  obtain⟨q,hq⟩:∃q,ids[i]? =some q:=⟨_,List.getElem?_eq_getElem h12⟩
  refine aa [672,58,39,660,647] ?_
  refine fU 2 rfl rfl rfl rfl (fun hb18=> .step (bE rfl) rfl rfl<| .step (bE rfl) rfl rfl<| .done) rfl rfl ?_
  refine ji 21 rfl (fun hc21=>?_) (fun hc21=>?_)
  ·have h21 : fA ids i < q ∧ q < 1024 := by simp at hc21; omega
   refine aa [53,653] ?_
   refine s1 ((bE rfl).v (v':= .i .i64 (fA ids (i+1))) (congrArg (A.i .i64) (mm hq).symm)) rfl ?_
   refine aa [660,253,646] ?_
   refine cm rfl (fun hc27=>?_) (fun hc27=>?_)
   ·have h27 : σ q ≠ 0 := by simpa using hc27
    obtain⟨hb1,hb2⟩:=Cd hq h27
    refine aa [658] ?_
    refine bJ rfl (eF 30 rfl Tryz.underlying30 bL rfl rfl rfl rfl rfl ?_)
    refine bJ rfl (dR 31 rfl Tryz.underlying30 bL rfl (.sl rfl aA) rfl (dH rfl ar) aA aC aq rfl rfl rfl ?_)
    refine aa [704] ?_
    exact cO (i+1) (⟨by omega,nD hl hq h21⟩) aq [(131,some 31),(135,some 135),(700,some 700)] hI rfl rfl ⟨⟨_,rfl,.pure pu⟩,⟨_,rfl,.sl rfl ar⟩,⟨_,rfl,.sl rfl ar⟩,⟨_,rfl,.pure pu⟩,⟨_,rfl,.pure pu⟩,⟨_,rfl,.pure pu⟩,⟨_,rfl,.pure pu⟩,trivial⟩ ⟨.inr ⟨_,_,rfl,rfl,.of (by rw [hb1,List.map_append];rfl) (.pure bO)⟩,.inr ⟨_,_,rfl,rfl,.of (by rw [hb2]) (.pure bO)⟩,.inr ⟨_,_,rfl,rfl,.pure bO⟩,trivial⟩
   ·have h27 : σ q = 0 := by simpa using hc27
    obtain⟨hb1,hb2⟩:=Ce hq h27
    refine aa [658,482] ?_
    refine bJ rfl (dR 35 rfl Tryz.underlying30 bL rfl (.sl rfl aA) rfl (dH rfl ar) aA aC aq rfl rfl rfl ?_)
    refine aa [704] ?_
    exact cO (i+1) (⟨by omega,nD hl hq h21⟩) aq [(131,some 131),(135,some 35),(700,some 700)] hI rfl rfl ⟨⟨_,rfl,.pure pu⟩,⟨_,rfl,.sl rfl ar⟩,⟨_,rfl,.sl rfl ar⟩,⟨_,rfl,.pure pu⟩,⟨_,rfl,.pure pu⟩,⟨_,rfl,.pure pu⟩,⟨_,rfl,.pure pu⟩,trivial⟩ ⟨.inr ⟨_,_,rfl,rfl,.of (by rw [hb1]) (.pure bO)⟩,.inr ⟨_,_,rfl,rfl,.of (by rw [hb2,List.map_append];rfl) (.pure bO)⟩,.inr ⟨_,_,rfl,rfl,.pure bO⟩,trivial⟩
  ·have h21 : ¬ (fA ids i < q ∧ q < 1024) := by simp at hc21; omega
   refine ik ⟨[]⟩ false rfl trivial (.cons (.pure pu) (.cons (.pure pu) .nil)) (kH 351) (fun u hu=>?_)
   refine aa [63,468,730,63] ?_
   exact pJ ⟨oZ (l6 hl hq h21),hu⟩
 ·have h12 : i = ids.length := by have := of_decide_eq_false hc12; omega
  subst h12
  refine aa [684] ?_
  refine dP 131 (cs':=(eY σ ids).map (A.i .i64)) rfl aN <| dP 135 (cs':=(fP σ ids).map (A.i .i64)) rfl aN ?_
  refine aa [649,19,0] ?_
  refine s1 (QT (fe σ) Tryz.underlying80 rfl rfl (Ai σ) (wq hs)) rfl <| s1 (bE rfl) rfl ?_
  refine ji 41 rfl (fun hc41=>?_) (fun hc41=>?_)
  ·have h41 : (eY σ ids).length = (fe σ).length := by have := of_decide_eq_true hc41; rw [List.take_length] at this; omega
   refine aa [53,656,680,650,180] ?_
   refine gm 5 rfl rfl bO (dD aA rfl) <| B8 (rs:= [.tmp 4,.tmp 5]) rfl (bV rfl (bV rfl bW)) ⟨uE (sV hl) h41,?_,fun p hp=>by cases hp⟩
   show A.tu _=A.tu _
   rw [List.take_length]
  ·have h41 : (eY σ ids).length ≠ (fe σ).length := by have := of_decide_eq_false hc41; rw [List.take_length] at this; omega
   refine ik ⟨[]⟩ false rfl trivial (.cons (.pure pu) (.cons (.pure pu) .nil)) (kH 351) (fun u hu=>?_)
   refine dJ ?_
   exact pJ ⟨A8 h41,hu⟩
theorem Hu {b:Nat} {σ:Int→Int} (hs:jg σ) {ids:List Int} (hn:ids.length≤1000) (h:jd σ ids=true):eQ Tryz.prog 49 [.raw (.map (some b)),.fz ids.length (ids.map (A.i .i64))] ⟨[(700,some [.mc b (mapOf σ)])]⟩ (j7 (.tu [.fz (eY σ ids).length ((eY σ ids).map (A.i .i64)),.fz (fP σ ids).length ((fP σ ids).map (A.i .i64))]) []):=(Ht b σ hs ids hn).ret (fun _ _ h=>h.2) fun u hu=>by rw [h]at hu;cases hu.1
theorem Hv {b:Nat} {σ:Int→Int} (hs:jg σ) {ids:List Int} (hn:ids.length≤1000) (h:jd σ ids=false):lg Tryz.prog 49 [.raw (.map (some b)),.fz ids.length (ids.map (A.i .i64))] ⟨[(700,some [.mc b (mapOf σ)])]⟩ (fun u=>jd σ ids=false∧u=ku 136 351):=(Ht b σ hs ids hn).xf fun r st hu=>by rw [h]at hu;cases hu.1
-- K6C
theorem NU (a:Int):bU Tryz.prog 161 [.i .i64 a] (fk 1 4 ((fV a 4).map u8)):=by
 refine enter Tryz.func161 rfl Tryz.ntmps161 aw (Nat.le_of_ble_eq_true rfl) fun w0 X0 hI=>?_
 refine aa [645,664] ?_
 refine s1 (ep Tryz.underlying3 Tryz.underlying198 rfl) rfl ?_
 refine aa [664,64] ?_
 refine s1 ((ep Tryz.underlying198 Tryz.underlying5 rfl).v (xy a 24 0 rfl aq)) rfl ?_
 refine aa [0,64] ?_
 refine s1 ((ep Tryz.underlying198 Tryz.underlying5 rfl).v (xy a 16 1 rfl aq)) rfl ?_
 refine aa [0,64] ?_
 refine s1 ((ep Tryz.underlying198 Tryz.underlying5 rfl).v (xy a 8 2 rfl aq)) rfl <| s1 (bE rfl) rfl <| s1 ((ep Tryz.underlying198 Tryz.underlying5 rfl).v (Oc a)) rfl <| bJ rfl (eF 17 rfl Tryz.underlying68 cr rfl rfl rfl rfl rfl ?_)
 refine aa [650] ?_
 refine bZ (rs:= [.tmp 2]) rfl (bV rfl bW) ⟨17,rfl,rfl⟩
theorem GU (x:List UInt8) (a:Int) (hx:x.length=32):bU Tryz.prog 109 [.ag (x.map u8),.i .i64 a] (cl (.ag ((gw x a).map u8))):=by
 refine enter Tryz.func109 rfl Tryz.ntmps109 aw (Nat.le_of_ble_eq_true rfl) fun w0 X0 hI=>?_
 refine aa [745,653,178,282,483,0] ?_
 refine bJ rfl (kx 9 rfl false rfl (.cons (.pure pu) (.nil)) (NU a) bO (.inl rfl) rfl ?_)
 refine bJ rfl (dR 10 rfl Tryz.underlying68 cr rfl (.sl rfl aH) rfl (dH rfl aA) aA aI aA rfl rfl rfl ?_)
 refine bJ rfl (b7 true rfl (.cons (.pure pu) (.cons (.sl rfl rfl rfl (dD aH aA) (cK.pure bO) bO) .nil)) (O3 x a hx) pu (.inr fu) rfl ?_)
 refine aa [712] ?_
 refine bZ (rs:= [.cell 4 23]) rfl (da bR rfl rfl (List.take_of_length_le aA) aA bW) rfl
theorem GP (x:List UInt8) (n:Nat) (hx:x.length=32) (hn:n≤256):bU Tryz.prog 100 [.ag (x.map u8),nI n] (cl (cM (fg x n))):=by
 refine enter Tryz.func100 rfl Tryz.ntmps100 aw (Nat.le_of_ble_eq_true rfl) fun w0 X0 hI=>?_
 refine aa [713,662] ?_
 refine bJ rfl (gC 7 rfl Tryz.underlying41 bR rfl rfl rfl aD rfl rfl rfl rfl ?_)
 refine aa [690] ?_
 refine c5 (ι:=Nat) (fun i=> [(1,nI n),(2,.p 2 0),(5,.sl 7 32 0 i),(6,nI i)]) (fun i=>⟨[(2,some (x.map u8)),(7,some ((fg x i).flatten.map u8))]⟩) (fun i=>i≤n) (fun i=>n - i) ?_ ?_
 ·exact c4 (0) (Nat.zero_le _) [(2,some 2),(7,some 7)] hI rfl rfl ⟨⟨_,rfl,.pure pu⟩,⟨_,rfl,.p rfl⟩,⟨_,rfl,.sl rfl ar⟩,⟨_,rfl,.pure pu⟩,trivial⟩ ⟨.inr ⟨_,_,rfl,rfl,.pure bO⟩,.inr ⟨_,_,rfl,rfl,.of aX (.pure bO)⟩,trivial⟩
 rintro i hi
 have hfl:=(lY x i).len
 rw [mo]at hfl
 refine aa [674,646] ?_
 refine cm rfl (fun hc10=>?_) (fun hc10=>?_)
 ·have h10 : i < n := by have := of_decide_eq_true hc10; omega
  refine aa [655,649] ?_
  refine s1 (cu bR rfl rfl aH) rfl <| s1 (bE rfl) rfl <| bJ rfl (b7 false rfl (.cons (.pure pu) (.cons (.pure pu) (.nil))) (GU x (i:Nat) hx) pu (.inl rfl) rfl ?_)
  refine bJ rfl (b7 false rfl (.cons (.pure pu) (.nil)) (OU (gw x (i:Nat)) aA) pu (.inl rfl) rfl ?_)
  refine bJ rfl (gC 18 rfl Tryz.underlying41 bR rfl rfl rfl aD (List.append_nil ((mZ (gw x (i:Nat))).map u8)) rfl rfl rfl ?_)
  refine bJ rfl (dR 19 rfl Tryz.underlying41 bR rfl (.sl rfl (by rw [List.length_map];exact hfl)) rfl (dH rfl ar) aA aC aq rfl rfl rfl ?_)
  refine aa [686] ?_
  exact cO (i+1) aq aq [(2,some 2),(7,some 19)] hI rfl rfl ⟨⟨_,rfl,.pure pu⟩,⟨_,rfl,.p rfl⟩,⟨_,rfl,.sl rfl ar⟩,⟨_,rfl,.pure pu⟩,trivial⟩ ⟨.inr ⟨_,_,rfl,rfl,.pure bO⟩,.inr ⟨_,_,rfl,rfl,.of (EK x i) (.pure bO)⟩,trivial⟩
 ·have h10 : i = n := by have := of_decide_eq_false hc10; omega
  subst h10
  refine aa [719] ?_
  refine gm 4 rfl rfl bO (dD (by rw [List.length_map,(lY x _).len,mo]) rfl) ?_
  refine aa [15] ?_
  exact congrArg (fun z=>A.fz z _) (mo x _).symm
theorem GQ (x:List UInt8) (n:Int) (hx:x.length=32):bU Tryz.prog 55 [.ag (x.map u8),.i .i64 n] (cl (sm x n)):=by
 refine enter Tryz.func55 rfl Tryz.ntmps55 aw (Nat.le_of_ble_eq_true rfl) fun w0 X0 hI=>?_
 refine aa [745,703] ?_
 rcases(Decidable.em (dY n)).symm with hcs|hcs
 ·skip
  refine aa [649,304,679,303,5,772,77] ?_
  exact(AS hcs).symm
 ·have hsz := hcs
  obtain⟨k,rfl,h1,h2⟩:=qv hcs
  refine aa [649,305,673,669,13,0,484] ?_
  refine bJ rfl (b7 false rfl (.cons (.pure pu) (.nil)) (xH _ (fg x k) (Nat.le_refl _) (lY x k) aE) pu (.inl rfl) rfl ?_)
  refine aa [5,657,77] ?_
  exact(GM hsz).symm
theorem Hk (x:List UInt8) (k:Nat) (a:Int) (m:List UInt8) (hx:x.length=32) (hm:m.length=32) (hk:dY (k:Int)):bU Tryz.prog 53 [.ag (x.map u8),cM (fg x k),.i .i64 a,.ag (m.map u8)] (cl (sw x k a m)):=by
 refine enter Tryz.func53 rfl Tryz.ntmps53 aw (Nat.le_of_ble_eq_true rfl) fun w0 X0 hI=>?_
 refine aa [756,96] ?_
 refine bJ rfl (cI 8 rfl eG rfl rfl ?_)
 refine aa [659] ?_
 rcases(Decidable.em (gQ (k:Int) a)).symm with hcs|hcs
 ·skip
  have hk2:k≤256:=by unfold dY at hk;omega
  refine aa [658] ?_
  refine bJ rfl (b7 false rfl (.cons (.pure pu) (.cons (.pure pu) (.nil))) (bU.cast (Gc (fg x k) a (lY x k) aE) (Nx (by rw [mo];exact hcs))) pu (.inl rfl) rfl ?_)
  refine aa [764,645] ?_
  refine s1 (cu eG rfl rfl ar) rfl ?_
  refine aa [162,772,312,163] ?_
  exact(A5 (fun h=>hcs h.2)).symm
 ·have hat := hcs
  obtain⟨i,rfl,hi⟩:∃i:Nat,a=(i:Int)∧i<k:=⟨a.toNat,by unfold gQ at hcs;omega,by unfold gQ at hcs;omega⟩
  have hk2:k≤256:=by unfold dY at hk;omega
  refine aa [658] ?_
  refine bJ rfl (b7 false rfl (.cons (.pure pu) (.cons (.pure pu) (.nil))) (bU.cast (Gc (fg x k) (i:Nat) (lY x k) aE) (Gb (by rw [mo];exact hi))) pu (.inl rfl) rfl ?_)
  refine aa [708,710,131,102,485,17] ?_
  refine c7 false 3 [1,2] [] cz rfl (.cons (.pure pu) (.cons (.pure pu) (.nil))) (Hb x (i:Nat) hx) pu (.inl rfl) rfl rfl ?_
  refine aa [486] ?_
  refine c7 false 5 [3,4] [] cz rfl (.cons (.pure pu) (.cons (.pure pu) (.nil))) (PN (gw x (i:Nat)) m aA hm) pu (.inl rfl) rfl rfl ?_
  refine aa [56,487,2,162,657,163] ?_
  exact(sx hk hi).symm
theorem GG (x:List UInt8) (n a:Int) (m:List UInt8) (hx:x.length=32) (hm:m.length=32):bU Tryz.prog 61 [.ag (x.map u8),.i .i64 n,.i .i64 a,.ag (m.map u8)] (cl (sw x n a m)):=by
 refine enter Tryz.func61 rfl Tryz.ntmps61 aw (Nat.le_of_ble_eq_true rfl) fun w0 X0 hI=>?_
 refine aa [756,96] ?_
 refine bJ rfl (cI 8 rfl eG rfl rfl ?_)
 refine aa [703] ?_
 rcases(Decidable.em (dY n)).symm with hcs|hcs
 ·skip
  refine aa [649,304,705,705,12,679,313,162,772,312,163] ?_
  exact(A5 (fun h=>hcs h.1)).symm
 ·have hsz := hcs
  obtain⟨k,rfl,h1,h2⟩:=qv hcs
  refine aa [649,305,777,7,647] ?_
  refine gr 3 rfl rfl rfl rfl (fun hb19=> .step (bE rfl) rfl rfl<| .step (bE rfl) rfl rfl<| .step (bE rfl) rfl rfl<| .done) rfl rfl <| bH <| bF ?_
  refine cm rfl (fun hc23=>?_) (fun hc23=>?_)
  ·have hna : ¬ gQ (k : Int) a := by intro h; unfold gQ at h; simp at hc23; omega
   refine aa [645,313,162,772,312,163] ?_
   exact(A5 (fun h=>hna h.2)).symm
  ·obtain ⟨i, rfl, hi⟩ : ∃ i : Nat, a = (i : Int) ∧ i < k := ⟨a.toNat, by simp at hc23; omega, by simp at hc23; omega⟩
   refine aa [669,13,0,484,0] ?_
   refine bJ rfl (b7 false rfl (.cons (.pure pu) (.cons (.pure pu) (.nil))) (bU.cast (OR (fg x k) (i:Nat) (lY x k) aE) (Gb (by rw [mo];exact hi))) pu (.inl rfl) rfl ?_)
   refine aa [663,652,131,102,485,17] ?_
   refine c7 false 3 [1,2] [] cz rfl (.cons (.pure pu) (.cons (.pure pu) (.nil))) (GU x (i:Nat) hx) pu (.inl rfl) rfl rfl ?_
   refine aa [486] ?_
   refine c7 false 5 [3,4] [] cz rfl (.cons (.pure pu) (.cons (.pure pu) (.nil))) (OX (gw x (i:Nat)) m aA hm) pu (.inl rfl) rfl rfl ?_
   refine aa [56,487,2,162,657,163] ?_
   exact(sx hsz hi).symm
-- E5G
theorem nQ (c0 c1:A) (e:Int):sH Tryz.prog 43 [.p 14 0,.p 15 0] ⟨[(14,some [c0]),(15,some [c1])]⟩ (fun u=>u=ku 136 e) [(14, [.nl]),(15, [.i .i64 e])]:=by
 refine zh (.ic 136 (.ag [.i .i64 e])) (fun u hu X w β=>by rw [hu];exact yx _ _) Tryz.func43 rfl Tryz.ntmps43 (Nat.le_of_ble_eq_true rfl) rfl rfl fun w0 X0 hI=>?_
 refine aa [648,310,782,649,311,314,20,26] ?_
 refine nE (rs:= []) rfl bW (GA rfl rfl)
theorem DJ:sI Tryz.prog 43 2:=zi Tryz.func43 rfl (fun w=>AX Tryz.underlying20 w) rfl ⟨Nat.le_of_ble_eq_true rfl,Nat.le_of_ble_eq_true rfl,Nat.le_of_ble_eq_true rfl,Nat.le_of_ble_eq_true rfl,Nat.le_of_ble_eq_true rfl⟩
theorem mf:mF Tryz.prog 43:=⟨_,Tryz.func43,rfl,by kernel_rfl⟩
theorem rr (x : List UInt8) (n : Int) (l : List Ep) (iss day : Int) (ids : List Int) (c : List Ch) (hx : x.length = 32) (hl : fK l) (hn : l.length ≤ 1000) (hi : rg iss) (hd : rg day) (hids : ids.length ≤ 100) (hc : c.length ≤ 1000) (hcr : ∀ e ∈ c, rg e.id ∧ rg e.st) : bU Tryz.prog 15 [.ag (x.map u8), .i .i64 n, eS l, .i .i64 iss, .i .i64 day, .fz ids.length (ids.map (A.i .i64)), eo c] (cl (Gx l (iB x n l iss day ids c))) := by
 refine rq Tryz.func15 rfl Tryz.ntmps15 aw (Nat.le_of_ble_eq_true rfl) fun w0 X0 hI hS=>?_
 refine aa [645,96] ?_
 refine bJ rfl (cI 14 rfl iN rfl rfl ?_)
 refine bJ rfl (cI 15 rfl dU rfl rfl ?_)
 refine bH <| bF <| bG <| bI <| s1 (jJ (us:= []) (vs:= [.p 14 0,.p 15 0]) rfl rfl) rfl ?_
 refine yM [14,15] hI rfl rfl trivial rfl fun w1 us hdf=>?_
 refine bH <| bF <| bG ?_
 rcases(Decidable.em (dY n)).symm with hcs|hcs
 ·skip
  refine aa [1,50,0,441,663,20,653,16,43,16] ?_
  refine ik ⟨[]⟩ false rfl trivial (.cons (.pure pu) (.cons (.pure pu) .nil)) (kH 60) (fun u hu=>?_)
  refine dJ <| l8 ⟨[(14,some [.nl]),(15,some [.i .i64 60])]⟩ hdf hS mf ⟨⟨rfl,cK.pure bO⟩,⟨rfl,cK.pure bO⟩,trivial⟩ (.cons (.kp rfl) (.cons (.kp rfl) .nil)) (nQ _ _ 60) (hu) (nt rfl rfl bO bO) rfl (fR iN rfl rfl rfl (fR dU rfl rfl rfl bW)) ?_
  rw [AG hcs];rfl
 ·have hsz := hcs
  obtain⟨k,rfl,hk1,hk2⟩:=qv hcs
  refine aa [1,50,0,442,663,20,653,16,37,16,84,654] ?_
  rcases ze (fJ x (k:Int)) k l with hcs|hcs
  ·have h0 := hcs
   refine aa [649,488,647] ?_
   refine ik ⟨[]⟩ false rfl trivial (.cons (.pure pu) (.cons (.pure pu) (.cons (.pure pu) .nil))) (Dr aA hl aC h0) (fun u hu=>?_)
   refine dJ <| l8 ⟨[(14,some [.nl]),(15,some [.i .i64 0])]⟩ hdf hS mf ⟨⟨rfl,cK.pure bO⟩,⟨rfl,cK.pure bO⟩,trivial⟩ (.cons (.kp rfl) (.cons (.kp rfl) .nil)) (nQ _ _ (fc (fJ x (k:Int)) k l)) (hu.2) (nt rfl rfl bO bO) rfl (fR iN rfl rfl rfl (fR dU rfl rfl rfl bW)) ?_
   rw [xk hsz h0];rfl
  ·obtain ⟨σ, hf, h0⟩ := hcs
   have hsup:=Be hf
   have hlk:=y6 hf h0
   refine aa [649,488,647] ?_
   refine bJ rfl (wL (F:=mapOf σ) rfl (.cons (.pure pu) (.cons (.pure pu) (.cons (.pure pu) (.nil)))) (Dq aA hl aC hf h0) rfl rfl fun b39=>?_)
   refine aa [664,25,647] ?_
   refine ji 43 rfl (fun hc43=>?_) (fun hc43=>?_)
   ·have h43 : ¬ (l.length : Int) = (k : Int) := by simpa using hc43
    refine bJ rfl (b7 false rfl (.cons (.pure pu) (.cons (.pure pu) .nil)) (jj 2) pu (.inl rfl) rfl ?_)
    refine aa [656,680] ?_
    refine fU 2 rfl rfl rfl rfl (fun hb47=> .step (bE rfl) rfl rfl<| .step (bE rfl) rfl rfl<| .done) rfl rfl <| s1 (bE rfl) rfl <| fU 2 rfl rfl rfl rfl (fun hb51=> .step (bE rfl) rfl rfl<| .step (bE rfl) rfl rfl<| .done) rfl rfl <| s1 (bE rfl) rfl <| fU 2 rfl rfl rfl rfl (fun hb55=> .step (bE rfl) rfl rfl<| .step (bE rfl) rfl rfl<| .done) rfl rfl ?_
    refine ji 58 rfl (fun hc58=>?_) (fun hc58=>?_)
    ·skip
     refine aa [53,656,661,25,647] ?_
     refine bJ rfl (b7 false rfl (.cons (.pure pu) (.nil)) (JL c aq) pu (.inl rfl) rfl ?_)
     refine aa [315] ?_
     refine bJ rfl (cI 18 rfl cT rfl rfl ?_)
     refine aa [316,654,3] ?_
     refine dP 18 (cs':=gD iss (l.length:Nat) day c zD zD) rfl rfl ?_
     refine aa [649,25,646] ?_
     refine cm rfl (fun hc69=>?_) (fun hc69=>?_)
     ·have h69 : 0 < l.length := by have := of_decide_eq_true hc69; omega
      obtain⟨e,he⟩:∃e,l[l.length - 1]? =some e:=⟨_,List.getElem?_eq_getElem aq⟩
      have hok:=hl e (List.mem_of_getElem? he)
      obtain⟨hlb,hld⟩:=wu (iss:=iss) (day:=day) he
      refine aa [661,25] ?_
      refine s1 (eW _ 1 rfl rfl rfl rfl aq aq) rfl ?_
      refine aa [489,201] ?_
      refine bJ rfl (cI 19 rfl cT rfl rfl ?_)
      refine aa [148,750,691,647] ?_
      refine fU 4 rfl rfl rfl rfl (fun hb80=> .step (bE rfl) rfl rfl<| .step (bX Tryz.underlying45 rfl bL az rfl rfl) rfl rfl<| .step (bM bL rfl rfl rfl) rfl rfl<| .step (bE rfl) rfl rfl<| .done) rfl rfl ?_
      refine ji 85 rfl (fun hc85=>?_) (fun hc85=>?_)
      ·skip
       refine aa [53,656,1] ?_
       refine s1 (cu cT rfl rfl hok.len) rfl <| bJ rfl (b7 false rfl (.cons (.pure pu) (.nil)) (pO e hok) pu (.inl rfl) rfl ?_)
       refine aa [125] ?_
       refine bJ rfl (ky bR rfl rfl rfl rfl rfl (show((dX e).map u8).length=32 by simp) (by rw [rV rfl rfl];decide) (FO rfl rfl) ?_)
       refine bH <| bF <| bG ?_
       rcases k9 (eH σ (-1) c)with hcs|hcs
       ·have hk := hcs
        refine aa [232,658] ?_
        refine ik ⟨[(700,some [.mc b39 (mapOf σ)])]⟩ false rfl ⟨⟨rfl,cK.pure bO⟩,trivial⟩ (.cons (.pure pu) (.cons (.pure pu) .nil)) (zE aC hk) (fun u hu=>?_)
        refine aa [63,233] ?_
        rw [gv hsz hf h0 h43 (.inr (.inr (.inl hk)))];rfl
       ·have hk := hcs
        refine aa [232,658,490,654] ?_
        rcases k9 (jd (cv σ c) ids)with hcs|hcs
        ·have hs := hcs
         refine aa [658] ?_
         refine ik ⟨[(700,some [.mc b39 (mapOf (cv σ c))])]⟩ false rfl ⟨⟨rfl,cK.pure bO⟩,trivial⟩ (.cons (.pure pu) (.cons (.pure pu) .nil)) (Hv (np hsup aq hk) aq hs) (fun u hu=>?_)
         refine aa [63,233] ?_
         rw [gv hsz hf h0 h43 (.inr (.inr (.inr hs)))];rfl
        ·have hs := hcs
         have hlis:=Hs hs
         have hbl:=rM (cv σ c) ids
         have hgl:=rN (cv σ c) ids
         obtain⟨hbE,hbF⟩:=vn (x:=kR x l.length) (p:=(eY (cv σ c) ids)) (q:=(fP (cv σ c) ids)) aq aq
         have hok0:(fQ x l iss day ids c (cv σ c)).ok:=wP hn hi hd hc hcr
         have hokN:(fl x k l iss day ids c (cv σ c)).ok:=p9 hn hi hd hc hcr
         have hlt:l.length<k:=by omega
         have hNl:=hokN.len
         refine aa [658,491,663,652] ?_
         refine iy 7 rfl rfl bO ?_
         refine aa [131,492,493,234,235,494,495,496] ?_
         refine Ed 22 7 [] cz bR rfl rfl rfl ?_
         refine aa [2,5,653,95,647,497,671] ?_
         refine bJ rfl (cI 23 rfl dO rfl rfl ?_)
         refine aa [236,20,653,16,37,16,84,653,237,498,671,125,499,20,653,16,37,16,84,654] ?_
         refine gR 18 rfl wV <| dh ⟨_, [], []⟩ 12 4 cL (le_refl rfl) ?_
         refine aa [500,22,234,235,501,502,503,126,149,238,504,505,2,20,653,16,37,16,84,654] ?_
         refine dh ⟨_, [], []⟩ 5 4 cL (le_refl rfl) ?_
         refine aa [102,506,507,508,509,2,314,20,724,510,511] ?_
         rw [ql hsz hf h0 h43 hc58 (hlb.trans hc85) hk hs];exact congrArg (fun n=>A.tu [.fz n (fm (l++ [(fl x k l iss day ids c (cv σ c))])),.i .i64 0]) (show l.length+1=(l++ [(fl x k l iss day ids c (cv σ c))]).length by simp)
      ·skip
       refine ik ⟨[]⟩ false rfl trivial (.cons (.pure pu) (.cons (.pure pu) .nil)) (kH 351) (fun u hu=>?_)
       refine aa [828,512] ?_
       rw [gv hsz hf h0 h43 (.inr (.inl (hlb.trans hc85)))];rfl
     ·have h69 : l = [] := List.length_eq_zero_iff.1 (by have := of_decide_eq_false hc69; omega)
      obtain⟨hlb,hld⟩:=EO (iss:=iss) (day:=day) h69
      refine b9 <| bF <| bG ?_
      rcases k9 (eH σ (-1) c)with hcs|hcs
      ·have hk := hcs
       refine aa [232,658] ?_
       refine ik ⟨[(700,some [.mc b39 (mapOf σ)])]⟩ false rfl ⟨⟨rfl,cK.pure bO⟩,trivial⟩ (.cons (.pure pu) (.cons (.pure pu) .nil)) (zE aC hk) (fun u hu=>?_)
       refine aa [63,233] ?_
       rw [gv hsz hf h0 h43 (.inr (.inr (.inl hk)))];rfl
      ·have hk := hcs
       refine aa [232,658,490,654] ?_
       rcases k9 (jd (cv σ c) ids)with hcs|hcs
       ·have hs := hcs
        refine aa [658] ?_
        refine ik ⟨[(700,some [.mc b39 (mapOf (cv σ c))])]⟩ false rfl ⟨⟨rfl,cK.pure bO⟩,trivial⟩ (.cons (.pure pu) (.cons (.pure pu) .nil)) (Hv (np hsup aq hk) aq hs) (fun u hu=>?_)
        refine aa [63,233] ?_
        rw [gv hsz hf h0 h43 (.inr (.inr (.inr hs)))];rfl
       ·have hs := hcs
        have hlis:=Hs hs
        have hbl:=rM (cv σ c) ids
        have hgl:=rN (cv σ c) ids
        obtain⟨hbE,hbF⟩:=vn (x:=kR x l.length) (p:=(eY (cv σ c) ids)) (q:=(fP (cv σ c) ids)) aq aq
        have hok0:(fQ x l iss day ids c (cv σ c)).ok:=wP hn hi hd hc hcr
        have hokN:(fl x k l iss day ids c (cv σ c)).ok:=p9 hn hi hd hc hcr
        have hlt:l.length<k:=by omega
        have hNl:=hokN.len
        refine aa [658,491,663,652] ?_
        refine iy 7 rfl rfl bO ?_
        refine aa [131,492,493,234,235,494,495,496] ?_
        refine Ed 22 7 [] cz bR rfl rfl rfl ?_
        refine aa [2,5,653,95,647,497,671] ?_
        refine bJ rfl (cI 23 rfl dO rfl rfl ?_)
        refine aa [236,20,653,16,37,16,84,653,237,498,671,125,499,20,653,16,37,16,84,654] ?_
        refine gR 18 rfl wV <| dh ⟨_, [], []⟩ 12 4 cL (le_refl rfl) ?_
        refine aa [500,22,234,235,501,502,503,126,149,238,504,505,2,20,653,16,37,16,84,654] ?_
        refine dh ⟨_, [], []⟩ 5 4 cL (le_refl rfl) ?_
        refine aa [102,506,507,508,509,2,314,20,724,510,511] ?_
        rw [ql hsz hf h0 h43 hc58 (hlb) hk hs];exact congrArg (fun n=>A.tu [.fz n (fm (l++ [(fl x k l iss day ids c (cv σ c))])),.i .i64 0]) (show l.length+1=(l++ [(fl x k l iss day ids c (cv σ c))]).length by simp)
    ·skip
     refine ik ⟨[]⟩ false rfl trivial (.cons (.pure pu) (.cons (.pure pu) .nil)) (kH 351) (fun u hu=>?_)
     refine aa [63,512] ?_
     rw [gv hsz hf h0 h43 (.inl hc58)];rfl
   ·have h43 : (l.length : Int) = (k : Int) := by simpa using hc43
    refine ik ⟨[]⟩ false rfl trivial (.cons (.pure pu) (.cons (.pure pu) .nil)) (kH 2) (fun u hu=>?_)
    refine dJ <| l8 ⟨[(14,some [.nl]),(15,some [.i .i64 0])]⟩ hdf hS mf ⟨⟨rfl,cK.pure bO⟩,⟨rfl,cK.pure bO⟩,trivial⟩ (.cons (.kp rfl) (.cons (.kp rfl) .nil)) (nQ _ _ 2) (hu) (nt rfl rfl bO bO) rfl (fR iN rfl rfl rfl (fR dU rfl rfl rfl bW)) ?_
    rw [xl hsz hf h0 h43];rfl
end Go.Abs.D2
