/-
  The engine, the plain laws and the walks that the rows need, part 14. Conditions: none.
-/
import Derived.Test.YteempkifmbclgaaGreatDoorM13
set_option linter.unusedVariables false
set_option linter.unusedSimpArgs false
set_option maxHeartbeats 1000000
set_option maxRecDepth 10000
-- AbsT
namespace Go.Abs
open Go Go.Eng
def jx (s m:Nat) (cs:List A) (upds:List (Nat×List A)):A→St→Prop:=fun r st=>∃id,r= .sl id s 0 m∧st.get id=some cs∧∀p∈upds,st.get p.1=some p.2∧p.1≠id
section
variable {P:Program} {w0:Bw} {X0:Xs} {n:Nat} {E:Ev} {st:St} {K:Act→World→Prop} {Q:Exit→Act→World→Prop}
theorem Fz {d : Nat} (nx : Nat) (hfr : st.free nx = true) (s0 : St) (upds : List (Nat × List A)) (ow : Bool) {f : FuncId} {x : Operand} {xs : List Operand} {fs cs vs vs' ds : List A} {s m : Nat} {ats : Array TypeId} {ty : TypeId} {pos aft' g} (hx : ev E x = some (.fn (.func f) fs cs)) (hxs : fx E xs = some vs) (hS : jy st s0 ow s0.os) (hv : cK st s0 ow (fs ++ vs ++ cs) vs')
    (hc:eQ P f vs' s0 (jx s m ds upds)) (hp:dF ds) (hf:ow=false∨fL ds) (hu:∀p∈upds,(∃cs,s0.get p.1=some cs)∧ov s0 ow p.2) (hd:Nat.ble (d+1) n=true) (h:At w0 X0 n ((d,.sl nx s 0 m)::E) ((b6 s0 st upds).put nx ds) K):
    At w0 X0 n E st (fun a w=>(⟨some d,.call {callee:= .value x,args:=xs.toArray,argTypes:=ats},ty,pos,aft',g⟩:Oper).wp P a w K Q):=by
  rintro a w ⟨β,X,hr⟩
  have hss:∀id cs,s0.get id=some cs→st.get id=some cs:=fun id cs h=>(lj hS h).1
  refine oB hr hx hxs hS hv hc fun v w' ⟨r,β',X',st',hR,hsup,hsub,hm,hvv⟩=>?_
  obtain⟨id,rfl,hg,hup⟩:=hR
  obtain⟨m1,m2,m3,m4,m6⟩:=hm.BV hr hss hsub hsup (upds:=upds) (fun p hp=>⟨(hup p hp).1,(hu p hp).1,(hu p hp).2⟩)
  have hnx:=hr.mem.dom nx hfr
  have hfa:∀k,(b6 s0 st upds).free k=true→st.free k=true:=fun k=>(mI (s0:=s0) (st:=st) (upds:=upds)).2
  have hga:∀k ck,(b6 s0 st upds).get k=some ck→(k,ck)∈upds∨(s0.free k=true∧st.get k=some ck):=fun k ck hk=>(mI (s0:=s0) (st:=st) (upds:=upds)).1 ck hk
  have ho:=hm.obj id ds hg
  unfold OB at ho
  have key:∀y:BL,OB (dS β nx y) (fun b o=>X b o∨(X' b o∧(bw w (er s0 β) s0 fC).own b)) w' w0 nx ds→(∀k ck q M N',(b6 s0 st upds).get k=some ck→β k=some (.bk q M)→y= .bk q N'→False)→Mem w0 (dS β nx y) (fun b o=>X b o∨(X' b o∧(bw w (er s0 β) s0 fC).own b)) ((b6 s0 st upds).put nx ds) w':=fun y hy hfresh=>by
    refine .of (m1.below) (fun k y h=>(en hnx) k y (m1.b0 k y h)) (m1.xlt) (fun k h=>?_) (fun k es hk=>?_) (fun i j ci cj q M N' hij hi hj hbi hbj=>?_)
    · rw [St.gF] at h
      split at h
      · cases h
      · rename_i hne
        rw [dV (fun e=>hne e.symm)]
        exact hr.mem.dom k (hfa k h)
    · rw [St.ef] at hk
      split at hk
      · rename_i e; subst e
        simp only [Option.some.injEq]at hk
        subst hk
        exact hy
      · refine (m1.obj k es hk).later (fun _ _ h => ⟨h, rfl⟩) (en hnx) (fun q M hq => ⟨rfl, ?_⟩) fun q hq => ⟨rfl, ((m1.obj k es hk).gB hq).2.2.1⟩
        have hk':=m1.obj k es hk
        unfold OB at hk'
        rw [hq]at hk'
        exact hk'.2.1
    · rw [St.ef] at hi hj
      by_cases ei:nx=i
      · by_cases ej : nx = j
        · omega
        · rw [if_neg ej] at hj
          rw [←ei,dA]at hbi
          rw [dV aq]at hbj
          exact hfresh j cj q N' M hj hbj (Option.some.inj hbi)
      · rw [if_neg ei] at hi
        rw [dV aq]at hbi
        by_cases ej:nx=j
        · rw [← ej, dA] at hbj
          exact hfresh i ci q M N' hi hbi (Option.some.inj hbj)
        · rw [if_neg ej] at hj
          rw [dV aq]at hbj
          exact m1.inj i j ci cj q M N' hij hi hj hbi hbj
  simp only [V]at hvv
  rcases hvv with ⟨hβ,rfl,_,rfl⟩|⟨b,N,cap,hβ,rfl,c1,c2,c3⟩
  · rw [hβ] at ho
    have ho:ds= []:=ho
    subst ho
    exact h _ _ ⟨_,_,hr.jT hd m2 m3 (en hnx) (key .ph (by unfold OB;rw [dA]) (fun _ _ _ _ _ _ _ e=>by cases e)) aR⟩
  · rw [hβ] at ho
    obtain⟨o1,o2,us,rest,ety,o3,o4,o5,o6⟩:=ho
    have hown:w0.own b∧∀k ck q M N',(b6 s0 st upds).get k=some ck→β k=some (.bk q M)→BL.bk b N= .bk q N'→False:=by
      have hsame:∀k ck q M,(k,ck)∈upds→β k=some (.bk q M)→q≠b:=fun k ck q M hk hq e=>by
        obtain⟨g1,g2⟩:=hup _ hk
        obtain⟨⟨c0,g3⟩,_⟩:=hu _ hk
        have g4:β' k=some (.bk q M):=hm.b0 k _ (by show er s0 β k=_;rw [lS (pT g3)];exact hq)
        subst e
        exact hm.inj k id ck ds q M N g2 g1 hg g4 hβ
      rcases o1 with h|⟨id',cs',h1,y',h2,h2'⟩
      · have h : w.heap.size ≤ b := h
        refine⟨Bw.mr hr.mem.below h,fun k ck q M N' hk hq e=>?_⟩
        simp only [BL.bk.injEq]at e
        rcases hga k ck hk with hk|⟨_,hk⟩
        · exact hsame k ck q M hk hq e.1.symm
        · have := m6 q M k ck hk hq
          omega
      · obtain ⟨g3, g4⟩ := my h2
        refine⟨((hr.mem.obj id' cs' (hss id' cs' h1)).mT g4 h2').2.1,fun k ck q M N2 hk hq e=>?_⟩
        simp only [BL.bk.injEq]at e
        rcases hga k ck hk with hk|⟨k1,k2⟩
        · exact hsame k ck q M hk hq e.1.symm
        · obtain ⟨rfl, _⟩ := e
          refine hr.mem.apart (fun e=>?_) k2 (hss id' cs' h1) hq g4 rfl h2'
          subst e;rw [k1]at g3;cases g3
    have hnX:∀o,¬(X b o∨(X' b o∧(bw w (er s0 β) s0 fC).own b)):=fun o h=>by
      rcases h with h|⟨h,_⟩
      · exact o2 o (hsup b o (.inl h))
      · exact o2 o h
    have hvs:VS (fun b o=>X b o∨(X' b o∧(bw w (er s0 β) s0 fC).own b)) w' (dS β nx (.bk b N)) ds us:=by
      rcases hf with hf|hf
      · exact gP (m4 hf) _ _ _ _ (dE.refl _) (l3 _ _ hp o5)
      · exact nA _ _ hf o5
    exact h _ _ ⟨_,_,hr.jT hd m2 m3 (en hnx) (key (.bk b N) (by unfold OB;rw [dA];exact⟨hown.1,hnX,us,rest,ety,o3,o4,hvs,o6⟩) hown.2) bb⟩
end
end Go.Abs
namespace Go.Abs
open Go Go.Eng
section
variable {P:Program} {n:Nat}
def yV (w:World) (β:Bm) (s0:St) (T:List Nat):Bw:=⟨w,fun b=>∃id cs,s0.get id=some cs∧∃y,β id=some y∧y.on b,fun id=>if id∈T then β id else none,T,(fun id x h=>by
  by_cases hi:id∈T
  · exact hi
  · rw [if_neg hi]at h;cases h), []⟩
def uR (T:List Nat) (upds:List (Nat×List A)):Prop:=∀p∈upds,∀(X:Xs) (w:World) (β1 β2:Bm) (us:List Value),(∀t∈T,β2 t=β1 t)→VS X w β1 p.2 us→VS X w β2 p.2 us
theorem NA {w : World} {X : Xs} {β : Bm} {s0 : St} {hd : ∀ id, s0.free id = true → β id = none} {T : List Nat} {s m : Nat} {ds : List A} {upds : List (Nat × List A)} {v : Value} {w' : World} (hp : dF ds) (hT : ∀ t ∈ T, ∃ x, β t = some x) (hU : ∀ p ∈ upds, p.1 ∈ T) (hO : uR T upds)
    (h:Post (yV w β s0 T) X (jx s m ds upds) v w'):Post (bw w β s0 hd) X (jx s m ds upds) v w':=by
  obtain⟨r,β',X',st',⟨id,rfl,hg,hup⟩,h1,h2,hm,hv⟩:=h
  obtain⟨N0,hN⟩:=zX s0.os
  have hK:s0.free N0=true:=hN N0 (Nat.le_refl _)
  have hnx:=hd N0 hK
  have hNT:N0∉T:=fun hn=>by obtain⟨x,e⟩:=hT N0 hn;rw [hnx]at e;cases e
  have hsame:∀t∈T,β' t=β t:=fun t ht=>by
    obtain⟨x,e⟩:=hT t ht
    rw [e]
    exact hm.b0 t x (by show(if t∈T then β t else none)=some x;rw [if_pos ht];exact e)
  have hbel:KB (bw w β s0 hd) w':=⟨hm.below.os,hm.below.tape,hm.below.output,hm.below.size,hm.below.block,fun s hs=>by cases hs⟩
  have hfa:∀k,(b6 s0 ⟨[]⟩ upds).free k=true→s0.free k=true:=fun k hk=>by
    have key:∀(l:List (Nat×List A)) os,fresh ((l.map fun p=>(p.1,some p.2))++os) k=true→fresh os k=true:=by
      intro l os
      induction l with
      |nil=>exact fun h=>h
      | cons p l ih =>
        simp only [List.map_cons,List.cons_append]
        rw [oG]
        intro h
        split at h
        · cases h
        · exact ih h
    unfold b6 St.free at hk
    rw [List.append_assoc]at hk
    have:=key _ _ hk
    rw [zY]at this
    exact this
  have hga:∀k ck,(b6 s0 ⟨[]⟩ upds).get k=some ck→(k,ck)∈upds:=fun k ck hk=>by
    rcases(mI (s0:=s0) (st:=⟨[]⟩) (upds:=upds)).1 ck hk with h|⟨_,h⟩
    · exact h
    · cases h
  have ho:=hm.obj id ds hg
  unfold OB at ho
  have hb2:∀y,∀t∈T,(dS β N0 y) t=β' t:=fun y t ht=>by
    rw [dV (show t≠N0 by rintro rfl;exact hNT ht),hsame t ht]
  have key:∀y:BL,OB (dS β N0 y) X' w' (bw w β s0 hd) N0 ds→(∀k ck q M N',(k,ck)∈upds→β k=some (.bk q M)→y= .bk q N'→False)→Mem (bw w β s0 hd) (dS β N0 y) X' ((b6 s0 ⟨[]⟩ upds).put N0 ds) w':=fun y hy hfresh=>by
    refine .of hbel (en hnx) hm.xlt (fun k h=>?_) (fun k es hk=>?_) (fun i j ci cj q M N' hij hi hj hbi hbj=>?_)
    · rw [St.gF] at h
      split at h
      · cases h
      · rename_i hne
        rw [dV (fun e=>hne e.symm)]
        exact hd k (hfa k h)
    · rw [St.ef] at hk
      split at hk
      · rename_i e; subst e
        simp only [Option.some.injEq]at hk
        subst hk
        exact hy
      · have hu := hga k es hk
        have hkT:=hU _ hu
        have hob:=hm.obj k es (hup _ hu).1
        have e1:=hb2 y k hkT
        unfold OB at hob ⊢
        rw [e1]
        split
        · rename_i h';rw [h']at hob;exact hob
        · rename_i h';rw [h']at hob;exact hob
        · rename_i b N h'
          rw [h']at hob
          obtain⟨q1,q2,us,rest,ty,q3,q4,q5,q6⟩:=hob
          exact⟨q1,q2,us,rest,ty,q3,q4,hO _ hu X' w' β' _ us (hb2 y) q5,q6⟩
        · rename_i b h'
          rw [h']at hob
          exact hob
    · rw [St.ef] at hi hj
      by_cases ei:N0=i
      · rw [if_neg aq] at hj
        have hu:=hga j cj hj
        rw [←ei,dA]at hbi
        rw [dV aq]at hbj
        exact hfresh j cj q N' M hu hbj (Option.some.inj hbi)
      · rw [if_neg ei] at hi
        have hui:=hga i ci hi
        rw [dV (fun e=>ei e.symm)]at hbi
        by_cases ej:N0=j
        · rw [← ej, dA] at hbj
          exact hfresh i ci q M N' hui hbi (Option.some.inj hbj)
        · rw [if_neg ej] at hj
          have huj:=hga j cj hj
          rw [dV (fun e=>ej e.symm)]at hbj
          exact hm.inj i j ci cj q M N' hij (hup _ hui).1 (hup _ huj).1 ((hsame i (hU _ hui)).trans hbi) ((hsame j (hU _ huj)).trans hbj)
  have hget:∀p∈upds,((b6 s0 ⟨[]⟩ upds).put N0 ds).get p.1=some p.2∧p.1≠N0:=fun p hp'=>by
    have hne:p.1≠N0:=fun e=>hNT (by rw [←e];exact hU p hp')
    refine⟨?_,hne⟩
    rw [St.ef,if_neg (fun e=>hne e.symm)]
    have key2:∀(l:List (Nat×List A)) os,(∀q∈l,st'.get q.1=some q.2)→p∈l→look ((l.map fun q=>(q.1,some q.2))++os) p.1=some p.2:=by
      intro l os
      induction l with
      |nil=>intro _ h;cases h
      | cons q l ih =>
        intro hq hpl
        simp only [List.map_cons,List.cons_append]
        rw [rQ]
        split
        · rename_i e
          have e1:=hq q (.head _)
          rw [e,(hup p hp').1]at e1
          exact e1.symm
        · rename_i e
          rcases List.mem_cons.1 hpl with rfl|hpl
          · exact absurd rfl e
          · exact ih (fun q hq'=>hq q (.tail _ hq')) hpl
    show look _ _=_
    unfold b6
    dsimp only
    rw [List.append_assoc]
    exact key2 upds _ (fun q hq=>(hup q hq).1) hp'
  simp only [V]at hv
  rcases hv with ⟨hβ,rfl,e2,rfl⟩|⟨b,N,cap,hβ,rfl,c1,c2,c3⟩
  · rw [hβ] at ho
    have ho:ds= []:=ho
    subst ho
    refine⟨.sl N0 s 0 0,dS β N0 .ph,X',_,⟨N0,rfl,by rw [St.ef,if_pos rfl],hget⟩,h1,h2,key .ph (by unfold OB;rw [dA]) (fun _ _ _ _ _ _ _ e=>by cases e),?_⟩
    simp only [V];exact .inl ⟨dA,by simp⟩
  · rw [hβ] at ho
    obtain⟨o1,o2,us,rest,ety,o3,o4,o5,o6⟩:=ho
    refine⟨.sl N0 s 0 m,dS β N0 (.bk b N),X',_,⟨N0,rfl,by rw [St.ef,if_pos rfl],hget⟩,h1,h2,key (.bk b N) (by unfold OB;rw [dA];exact⟨o1,o2,us,rest,ety,o3,o4,l3 _ _ hp o5,o6⟩) (fun k ck q M N' hu hk e=>?_),?_⟩
    · simp only [BL.bk.injEq] at e
      obtain⟨rfl,_⟩:=e
      exact hm.inj k id ck ds b M N (hup _ hu).2 (hup _ hu).1 hg ((hsame k (hU _ hu)).trans hk) hβ
    · simp only [V];exact .inr ⟨b,N,cap,dA,rfl,c1,c2,c3⟩
theorem zJ {f:FuncId} {fn:Func} {c:Code} {args:List A} {s0:St} {s m:Nat} {ds:List A} {upds:List (Nat×List A)} (T:List Nat) (hp:dF ds) (hU:∀p∈upds,p.1∈T) (hTs:∀t∈T,∃cs,s0.get t=some cs) (hO:uR T upds) (hf:P.funcs[f]? =some fn) (hb:fn.body=some c)
    (hn:fn.ntmps=n) (hname:(fn.name== "runtime.NumGoroutine")=false) (ha:args.length≤n)
    (h:∀w0 X0,w0.ids=T→At w0 X0 n (jA args 0) s0 (Pw [] (c.wpIn (rF none) 0 P (bodyPost P fn fun e w'=>∃v,e= .returned v∧Post w0 X0 (jx s m ds upds) v w')))):eQ P f args s0 (jx s m ds upds):=by
  intro w X β us hd hX hgl ho hi hv
  have hl:=fb hv
  have hT:∀t∈T,∃x,β t=some x:=fun t ht=>by
    obtain⟨cs,e⟩:=hTs t ht
    have:=ho t cs e
    unfold OB at this
    cases hb':β t with
    |none=>rw [hb']at this;exact this.elim
    |some x=>exact⟨x,rfl⟩
  refine Eng.Fn.mono (R:=Post (yV w β s0 T) X (jx s m ds upds)) ⟨⟨fn,hf,by simp [hb],hname⟩,calls_of_wp hf hb (wpIn_wide.1 (mA (h (yV w β s0 T) X rfl _ w ⟨β,X,.of (fun _ _ h=>h) (fun _ _ h=> .inl h) (.of ⟨rfl,rfl,rfl,Nat.le_refl _,fun _ _ _=>rfl,fun s hs=>by cases hs⟩ (fun id x h=>?_) hX hd ho hi) hgl ?_ rfl (fun s hs=>by cases hs) (fun t v ht=>?_)⟩)))⟩ (fun _ _ h=>NA hp hT hU hO h)
  · have h : (if id ∈ T then β id else none) = some x := h
    split at h
    · exact h
    · cases h
  · simp [hn];omega
  · obtain ⟨_, h2⟩ := nC _ _ _ _ ht
    simp only [Nat.sub_zero]at h2
    obtain⟨u,g1,g2⟩:=iO hv h2
    have hlt:=(List.getElem?_eq_some_iff.1 g1).1
    refine⟨u,?_,g2⟩
    rw [Array.getElem?_append,if_pos aZ]
    simpa using g1
end
end Go.Abs
namespace Go.Abs
open Go Go.Eng
def yp (mk:Nat→A) (mkc:Nat→List A):A→St→Prop:=fun r st=>∃id,r=mk id∧st.get id=some (mkc id)
def uQ (mk:Nat→A):Prop:=∀X w β i u,V X w β (mk i) u→∀X' w' β' j,β' j=β i→V X' w' β' (mk j) u
def ny (mkc:Nat→List A):Prop:=∀X w β i us,VS X w β (mkc i) us→∀X' w' β' j,β' j=β i→VS X' w' β' (mkc j) us
theorem zo {v:A} (h:Flat v):uQ (fun _=>v):=fun _ _ _ _ _ hv _ _ _ _ _=>sO _ _ h hv
theorem Ki {f:Fn}:uQ (fun i=> .fn f [] [.p i 0]):=fun _ _ _ _ _ hv _ _ _ _ hj=>(wY _ _ _ _ _ hv).2 _ _ _ _ hj
theorem Ke:ny (fun _=> []):=fun _ _ _ _ us h _ _ _ _ _=>by simp only [VS]at h ⊢;exact h
theorem vD {a:Nat→A} {l:Nat→List A} (h1:uQ a) (h2:ny l):ny (fun i=>a i::l i):=fun _ _ _ _ us h _ _ _ _ hj=>by
  simp only [VS]at h ⊢
  obtain⟨u,r,rfl,g1,g2⟩:=h
  exact⟨u,r,rfl,h1 _ _ _ _ _ g1 _ _ _ _ hj,h2 _ _ _ _ _ g2 _ _ _ _ hj⟩
theorem Kf {l:Nat→List A} (h:ny l):uQ (fun i=> .ag (l i)):=fun _ _ _ _ _ hv _ _ _ _ hj=>by
  simp only [V]at hv ⊢
  obtain⟨us,e1,e2,e3⟩:=hv
  exact⟨us,e1,h _ _ _ _ _ e2 _ _ _ _ hj,e3⟩
theorem Nc {l:Nat→List A} {f:Fn} (k:Nat) (h:ny l) (hk:∀i,(l i)[k]? =some (.fn f [] [.p i 0])):qL (fun i=> .ag (l i)):=by
  intro X w β i u hv
  refine⟨?_,fun X' w' β' j hj=>Kf h _ _ _ _ _ hv _ _ _ _ hj⟩
  simp only [V]at hv
  obtain⟨us,_,e2,_⟩:=hv
  obtain⟨u',_,g⟩:=iO e2 (hk i)
  exact(wY _ _ _ _ _ g).1
section
variable {P:Program} {w0:Bw} {X0:Xs} {n:Nat} {E:Ev} {st:St} {Q:Exit→Act→World→Prop}
theorem ME {K : Act → World → Prop} {mk : Nat → A} {mkc : Nat → List A} (hmk : qL mk) (hmc : ny mkc) {d : Nat} (nx : Nat) (hfr : st.free nx = true) {f : FuncId} {x : Operand} {xs : List Operand} {fs cs vs vs' : List A} {ats : Array TypeId} {ty : TypeId} {pos aft' g} (ow : Bool) (hx : ev E x = some (.fn (.func f) fs cs)) (hxs : fx E xs = some vs) (hv : cK st ⟨[]⟩ ow (fs ++ vs ++ cs) vs')
    (hc:bU P f vs' (yp mk mkc)) (hd:Nat.ble (d+1) n=true) (h:At w0 X0 n ((d,mk nx)::E) (st.put nx (mkc nx)) K):
    At w0 X0 n E st (fun a w=>(⟨some d,.call {callee:= .value x,args:=xs.toArray,argTypes:=ats},ty,pos,aft',g⟩:Oper).wp P a w K Q):=by
  rintro a w ⟨β,X,hr⟩
  refine oB hr hx hxs (s0:=⟨[]⟩) trivial hv hc fun v w' ⟨r,β',X',st',hR,hsup,hsub,hm,hvv⟩=>?_
  obtain⟨id,rfl,hg⟩:=hR
  obtain⟨m1,m2,m3,m4,m6⟩:=hm.after hr (fun id cs h=>by cases h) hsub hsup (upds:= []) (fun p hp=>by cases hp)
  rw [sR]at m1
  have hnx:=hr.mem.dom nx hfr
  have ho:=hm.obj id (mkc id) hg
  unfold OB at ho
  obtain⟨⟨b,N,hβ⟩,hV⟩:=hmk _ _ _ _ _ hvv
  rw [hβ]at ho
  obtain⟨o1,o2,us,rest,ety,o3,o4,o5,o6⟩:=ho
  have o1:w.heap.size≤b:=by
    rcases o1 with h|⟨id',cs',h,_⟩
    · exact h
    · cases h
  have hnX:∀o,¬(X b o∨(X' b o∧(bw w (er ⟨[]⟩ β) ⟨[]⟩ fC).own b)):=fun o h=>by
    rcases h with h|⟨h,_⟩
    · exact o2 o (hsup b o (.inl h))
    · exact o2 o h
  have hvs:VS (fun b o=>X b o∨(X' b o∧(bw w (er ⟨[]⟩ β) ⟨[]⟩ fC).own b)) w' (dS β nx (.bk b N)) (mkc nx) us:=hmc _ _ _ _ _ o5 _ _ _ _ (dA.trans hβ.symm)
  have hfresh:∀k ck q M,st.get k=some ck→β k=some (.bk q M)→q≠b:=fun k ck q M hk hq=>by
    have:=m6 q M k ck hk hq
    omega
  have m5 : Mem w0 (dS β nx (.bk b N)) (fun b o => X b o ∨ (X' b o ∧ (bw w (er ⟨[]⟩ β) ⟨[]⟩ fC).own b)) (st.put nx (mkc nx)) w' := by
    refine .of (m1.below) (fun k y h=>(en hnx) k y (m1.b0 k y h)) (m1.xlt) (fun k h=>?_) (fun k es hk=>?_) (fun i j ci cj q M N' hij hi hj hbi hbj=>?_)
    · rw [St.gF] at h
      split at h
      · cases h
      · rename_i hne
        rw [dV (fun e=>hne e.symm)]
        exact hr.mem.dom k h
    · rw [St.ef] at hk
      split at hk
      · rename_i e; subst e
        simp only [Option.some.injEq]at hk
        subst hk
        unfold OB
        rw [dA]
        exact⟨Bw.mr hr.mem.below o1,hnX,us,rest,ety,o3,o4,hvs,o6⟩
      · refine (m1.obj k es hk).later (fun _ _ h => ⟨h, rfl⟩) (en hnx) (fun q M hq => ⟨rfl, ?_⟩) fun q hq => ⟨rfl, ((m1.obj k es hk).gB hq).2.2.1⟩
        have hk':=m1.obj k es hk
        unfold OB at hk'
        rw [hq]at hk'
        exact hk'.2.1
    · rw [St.ef] at hi hj
      by_cases ei:nx=i
      · by_cases ej : nx = j
        · omega
        · rw [if_neg ej] at hj
          rw [←ei,dA]at hbi
          rw [dV aq]at hbj
          simp only [Option.some.injEq,BL.bk.injEq]at hbi
          exact hfresh j cj q N' hj hbj aq
      · rw [if_neg ei] at hi
        rw [dV aq]at hbi
        by_cases ej:nx=j
        · rw [← ej, dA] at hbj
          simp only [Option.some.injEq,BL.bk.injEq]at hbj
          exact hfresh i ci q M hi hbi aq
        · rw [if_neg ej] at hj
          rw [dV aq]at hbj
          exact hr.mem.inj i j ci cj q M N' hij hi hj hbi hbj
  exact h _ _ ⟨_,_,hr.jT hd m2 m3 (en hnx) m5 (hV _ _ _ _ (dA.trans hβ.symm))⟩
theorem MB {K:Act→World→Prop} {mk:Nat→A} {mkc:Nat→List A} (hmk:qL mk) (hmc:ny mkc) {d:Nat} (nx:Nat) (hfr:st.free nx=true) {f:FuncId} {xs:List Operand} {vs vs':List A} {ats:Array TypeId} {ty:TypeId} {pos aft' g} (ow:Bool) (hxs:fx E xs=some vs) (hv:cK st ⟨[]⟩ ow vs vs')
    (hc:bU P f vs' (yp mk mkc)) (hd:Nat.ble (d+1) n=true) (h:At w0 X0 n ((d,mk nx)::E) (st.put nx (mkc nx)) K):
    At w0 X0 n E st (fun a w=>(⟨some d,.call {callee:= .value (.func f),args:=xs.toArray,argTypes:=ats},ty,pos,aft',g⟩:Oper).wp P a w K Q):=
  ME hmk hmc nx hfr (fs:= []) (cs:= []) ow rfl hxs aU hc hd h
end
theorem Nj {T0:Nat} {mkc:Nat→List A} (h:ny mkc):uR [T0] [(T0,mkc T0)]:=fun p hp X w β1 β2 us hβ hv=>by
  rw [List.mem_singleton.1 hp]at hv ⊢
  exact h X w β1 T0 us hv X w β2 T0 (hβ T0 (.head _))
theorem Ng {T0:Nat} {c:List A}:∀p∈ [(T0,c)],p.1∈ [T0]:=fun p hp=>by rw [List.mem_singleton.1 hp];exact .head _
end Go.Abs
-- C1P
namespace Go.Abs.D2
open Go Go.Eng Go.Abs
inductive CV where
  |mk (k n:Int) (s:List UInt8) (l:List CV)
mutual
def CV.cells:CV→List A
  | .mk k n s l=> [.i .i64 k,.i .i64 n,.s s,.fz l.length (CV.dt l)]
def CV.dt:List CV→List A
  | []=> []
  |v::l=>v.cells++CV.dt l
end
mutual
def CV.size:CV→Nat
  | .mk _ _ _ l=>CV.gM l+1
def CV.gM:List CV→Nat
  | []=>0
  |v::l=>v.size+CV.gM l+1
end
theorem CV.Ho:∀ {l:List CV} {v:CV},v∈l→v.size<CV.gM l
  | [],_,h=>by cases h
  | u :: l, v, h => by
    rcases List.mem_cons.1 h with rfl|h
    · simp only [CV.gM];omega
    · have := CV.Ho h
      simp only [CV.gM];omega
mutual
def CV.okB:CV→Bool
  | .mk k n s l=>if k=1 then s.isEmpty&&l.isEmpty else if k=2 then decide (n=0)&&l.isEmpty else if k=3 then decide (n=0)&&s.isEmpty&&CV.lL l else false
def CV.lL:List CV→Bool
  | []=>true
  |v::l=>v.okB&&CV.lL l
end
mutual
def CV.depth:CV→Nat
  | .mk k _ _ l=>if k=3 then CV.gE l+1 else 0
def CV.gE:List CV→Nat
  | []=>0
  |v::l=>max v.depth (CV.gE l)
end
def dz (u:Nat):List UInt8:=if _h:u<128 then [UInt8.ofNat u]else UInt8.ofNat (u % 128+128)::dz (u / 128)
theorem ue {u:Nat} (h:u<128):dz u= [UInt8.ofNat u]:=by rw [dz,dif_pos h]
theorem ud {u:Nat} (h:¬u<128):dz u=UInt8.ofNat (u % 128+128)::dz (u / 128):=by rw [dz,dif_neg h]
def iu (n:Int):Nat:=if 0≤n then 2*n.toNat else 2*(-(n+1)).toNat+1
mutual
def CV.enc:CV→List UInt8
  | .mk k n s l=>if k=1 then 1::dz (iu n)else if k=2 then 2::(dz s.length++s)else 3::(dz l.length++CV.dQ l)
def CV.dQ:List CV→List UInt8
  | []=> []
  |v::l=>v.enc++CV.dQ l
end
@[simp] theorem CV.jq (v:CV):v.cells.length=4:=by cases v;simp [CV.cells]
theorem CV.q8:∀l:List CV,CV.dt l=l.flatMap CV.cells
  | []=>rfl
  |v::l=>by rw [CV.dt,CV.q8 l,List.flatMap_cons]
theorem CV.get:∀ {l:List CV} {i:Nat} {v:CV},l[i]? =some v→((CV.dt l).drop (i*4)).take 4=v.cells
  | [],_,_,h=>by simp at h
  | u :: l, i, v, h => by
    rw [CV.dt]
    cases i with
    |zero=>simp at h;subst h;rw [Nat.zero_mul,List.drop_zero,List.take_left' (CV.jq u)]
    | succ i =>
      rw [show(i+1)*4=4+i*4 by omega, ←List.drop_drop,List.drop_left' (CV.jq u)]
      exact CV.get aO
theorem CV.oR:∀(l:List CV),CV.lL l=l.all CV.okB
  | []=>rfl
  |v::l=>by rw [CV.lL,CV.oR l,List.all_cons]
theorem CV.tz:∀(l:List CV),CV.dQ l=l.flatMap CV.enc
  | []=>rfl
  |v::l=>by rw [CV.dQ,CV.tz l,List.flatMap_cons]
theorem CV.tA {l:List CV} {i:Nat} {v:CV} (h:l[i]? =some v):CV.dQ (l.take i)++v.enc=CV.dQ (l.take (i+1)):=by
  rw [CV.tz,CV.tz,List.take_add_one,h];simp
theorem CV.Db {l:List CV} {i:Nat} {v:CV} (h:l[i]? =some v):max (CV.gE (l.take i)) v.depth=CV.gE (l.take (i+1)):=by
  have key:∀(m:List CV) (u:CV),CV.gE (m++ [u])=max (CV.gE m) u.depth:=by
    intro m u
    induction m with
    |nil=>simp [CV.gE]
    |cons a m ih=>simp only [List.cons_append,CV.gE,ih];omega
  rw [List.take_add_one,h]
  exact(key _ _).symm
theorem CV.Dc : ∀ (n : Nat) (v : CV), v.size ≤ n → v.depth ≤ v.size
  |0,v,h=>by cases v;simp only [CV.size]at h;omega
  | n + 1, .mk k m s l, h => by
    simp only [CV.size]at h
    have hl:CV.gE l≤CV.gM l:=by
      have key:∀(q:List CV),CV.gM q≤n→CV.gE q≤CV.gM q:=by
        intro q
        induction q with
        |nil=>intro _;exact Nat.le_refl _
        | cons a q ih =>
          intro hq
          simp only [CV.gM]at hq
          have h1:=CV.Dc n a aq
          have h2:=ih aq
          simp only [CV.gE,CV.gM];omega
      exact key l aq
    simp only [CV.depth,CV.size]
    split<;>omega
@[irreducible] def iI (v:CV):Int:=if v.okB then (if v.depth≤16 then 0 else 2)else 1
@[irreducible] def oC (v:CV):A:=if iI v=0 then .tu [.fz v.enc.length (v.enc.map u8),.i .i64 0]else .tu [.nl,.i .i64 (iI v)]
def kM (u k:Nat):List UInt8:=(List.range k).map fun i=>UInt8.ofNat (u / 128 ^ i % 128+128)
@[simp] theorem Rs (u k:Nat):(kM u k).length=k:=by simp [kM]
theorem FM (u k:Nat):kM u k++ [UInt8.ofNat (u / 128 ^ k % 128+128)]=kM u (k+1):=by simp [kM,List.range_succ]
theorem FK (u:Nat):∀k,(∀i,i<k→128≤u / 128 ^ i)→dz u=kM u k++dz (u / 128 ^ k)
  |0,_=>by simp [kM]
  | k + 1, h => by
    rw [FK u k fun i hi=>h i aq,ud (by have:=h k aq;omega), ←FM,List.append_assoc,Nat.div_div_eq_div_mul, ←Nat.pow_succ]
    rfl
theorem FL {u k:Nat} (h:∀i,i<k→128≤u / 128 ^ i) (h2:u / 128 ^ k<128):kM u k++ [UInt8.ofNat (u / 128 ^ k)]=dz u:=by
  rw [FK u k h,ue h2]
theorem IC (w:BitVec 64):(w&&& 127#64).toNat=w.toNat % 128:=by
  rw [BitVec.toNat_and]
  exact Nat.and_two_pow_sub_one_eq_mod _ 7
theorem Nn:∀x,x<128→UInt8.ofNat x|||128=UInt8.ofNat (x+128):=by decide+kernel
theorem qA {n:Int} (h0: -9223372036854775808≤n) (h1:n≤9223372036854775807):iu n<2 ^ 64:=by
  unfold iu;split<;>omega
theorem NC {u k:Nat} (h:u<2 ^ 64) (hk:10≤k):u / 128 ^ k=0:=by
  apply Nat.div_eq_of_lt
  have:128 ^ 10≤128 ^ k:=Nat.pow_le_pow_right aq hk
  have h2:(2:Nat) ^ 64<128 ^ 10:=by decide
  omega
theorem tT {u : Nat} (h : u < 2 ^ 64) : (dz u).length ≤ 11 := by
  have key:∀(k u:Nat),u<128 ^ (k+1)→(dz u).length≤k+1:=by
    intro k
    induction k with
    |zero=>intro u hu;rw [ue aq];exact Nat.le_refl _
    | succ k ih =>
      intro u hu
      by_cases hs:u<128
      · rw [ue hs];simp
      · rw [ud hs, List.length_cons]
        have:=ih (u / 128) (by rw [Nat.div_lt_iff_lt_mul aq];rw [Nat.pow_succ]at hu;exact hu)
        omega
  exact key 10 u (by have h2 : (2 : Nat) ^ 64 < 128 ^ 11 := by decide
                     omega)
theorem NB (k:Nat):2 ^ (7*k)=128 ^ k:=by rw [Nat.pow_mul]
theorem A4 (u:BitVec 64) (k:Nat):(u>>>(7*k)).toNat=u.toNat / 128 ^ k:=by rw [BitVec.toNat_ushiftRight,Nat.shiftRight_eq_div_pow,NB]
theorem MV (u:BitVec 64) (k:Nat):decide (((u>>>(7*k)).toNat:Int)≥128)=decide (128≤u.toNat / 128 ^ k):=by
  rw [A4];exact decide_eq_decide.2 aq
theorem MU (u:BitVec 64) (k:Nat):UInt8.ofNat (((u>>>(7*k))&&& cQ 127)).toNat|||128=UInt8.ofNat (u.toNat / 128 ^ k % 128+128):=by
  rw [IC,A4];exact Nn _ (Nat.mod_lt _ aq)
theorem MT (B:List UInt8) (u:BitVec 64) (k:Nat):(B++kM u.toNat k).map u8++ [u8 (UInt8.ofNat (u.toNat / 128 ^ k % 128+128))]=(B++kM u.toNat (k+1)).map u8:=by
  rw [←FM];simp
theorem PI (u:BitVec 64) (k:Nat):(u>>>(7*k))>>>7=u>>>(7*(k+1)):=by
  apply BitVec.eq_of_toNat_eq
  rw [BitVec.toNat_ushiftRight,BitVec.toNat_ushiftRight,BitVec.toNat_ushiftRight, ←Nat.shiftRight_add]
  rfl
theorem MW (B:List UInt8) {u:BitVec 64} {k:Nat} (h:∀i,i<k→128≤u.toNat / 128 ^ i) (h2:u.toNat / 128 ^ k<128):(B++kM u.toNat k).map u8++ [u8 (UInt8.ofNat (u.toNat / 128 ^ k))]=(B++dz u.toNat).map u8:=by
  rw [←FL h h2];simp
theorem MX (B:List UInt8) {u:BitVec 64} {k:Nat} (h:∀i,i<k→128≤u.toNat / 128 ^ i) (h2:u.toNat / 128 ^ k<128):B.length+k+1=(B++dz u.toNat).length:=by
  rw [←FL h h2];simp;omega
theorem Bl (n:Int):IntKind.u64.wrap n=((BitVec.ofInt 64 n).toNat:Int):=by
  simp only [IntKind.wrap,IntKind.bits,IntKind.signed,BitVec.toNat_ofInt]
  simp
  omega
theorem Qp {n:Int} (h0: -9223372036854775808≤n) (h1:n≤9223372036854775807):n.fdiv (2 ^ min (63:Int).toNat IntKind.i64.bits)=if 0≤n then 0 else -1:=by
  rw [show(2:Int) ^ min (63:Int).toNat IntKind.i64.bits=9223372036854775808 from by decide]
  rw [Int.fdiv_eq_ediv_of_nonneg _ aq]
  split<;>omega
theorem Qm (n:Int):IntKind.u64.wrap (if 0≤n then 0 else -1)=((if 0≤n then (0:BitVec 64)else BitVec.allOnes 64).toNat:Int):=by
  split<;>rfl
theorem Qq {n:Int} (h0: -9223372036854775808≤n) (h1:n≤9223372036854775807):(BitVec.ofInt 64 n<<<1) ^^^ (if 0≤n then (0:BitVec 64)else BitVec.allOnes 64)=cQ (iu n):=by
  apply BitVec.eq_of_toNat_eq
  have hc:(cQ (iu n)).toNat=iu n:=by
    rw [cQ,BitVec.toNat_ofNat,Nat.mod_eq_of_lt (qA h0 h1)]
  rw [hc]
  unfold iu
  split
  · rename_i h
    rw [show(BitVec.ofInt 64 n<<<1) ^^^ (0:BitVec 64)=BitVec.ofInt 64 n<<<1 from BitVec.xor_zero,BitVec.toNat_shiftLeft,Nat.shiftLeft_eq,BitVec.toNat_ofInt]
    omega
  · rename_i h
    rw [BitVec.xor_allOnes,BitVec.toNat_not,BitVec.toNat_shiftLeft,Nat.shiftLeft_eq,BitVec.toNat_ofInt]
    omega
theorem BW {l:List CV} {i:Nat} {v:CV} {p:CV→Bool} (hv:l[i]? =some v) (h:(l.take i).all p=true) (h2:p v=true):(l.take (i+1)).all p=true:=by
  rw [List.take_add_one,hv];simp [h,h2]
theorem Fb (l:List CV):((l.length:Int)==0)=l.isEmpty:=by
  cases l with
  |nil=>rfl
  | cons v l =>
    have h:(((v::l).length:Int)==0)=false:=by
      rw [beq_eq_false_iff_ne,List.length_cons];omega
    rw [h];rfl
theorem F0 {k n:Int} {s:List UInt8} {l:List CV} (h:k=1):(s.isEmpty&&((l.length:Int)==0))=CV.okB (.mk k n s l):=by
  rw [CV.okB,if_pos h,Fb]
theorem F1 {k n:Int} {s:List UInt8} {l:List CV} (h:k=2):((n==0)&&((l.length:Int)==0))=CV.okB (.mk k n s l):=by
  rw [CV.okB,if_neg aq,if_pos h,Fb];rfl
theorem M9 {k n:Int} {s:List UInt8} {l:List CV} (h:k=3) (h2:(n !=0|| !s.isEmpty)=true):false=CV.okB (.mk k n s l):=by
  rw [CV.okB,if_neg aq,if_neg aq,if_pos h]
  cases s<;>simp_all
theorem F2 {k n:Int} {s:List UInt8} {l:List CV} (h:k=3) {i:Nat} {v:CV} (hv:l[i]? =some v) (h2:v.okB=false):false=CV.okB (.mk k n s l):=by
  rw [CV.okB,if_neg aq,if_neg aq,if_pos h,CV.oR]
  have:l.all CV.okB=false:=by
    rw [List.all_eq_false];exact⟨v,List.mem_of_getElem? hv,by simp [h2]⟩
  rw [this];simp
theorem M8 {k n:Int} {s:List UInt8} {l:List CV} (h:k=3) (hn:(n !=0|| !s.isEmpty)=false) (h2:(l.take l.length).all CV.okB=true):true=CV.okB (.mk k n s l):=by
  rw [List.take_length]at h2
  rw [CV.okB,if_neg aq,if_neg aq,if_pos h,CV.oR,h2]
  cases s<;>simp_all
theorem FZ {k n:Int} {s:List UInt8} {l:List CV} (h1:k≠1) (h2:k≠2) (h3:k≠3):false=CV.okB (.mk k n s l):=by
  rw [CV.okB,if_neg h1,if_neg h2,if_neg h3]
theorem CV.sa {p:CV→Prop} (N:Nat) (h:∀k n s l,CV.gM l<N→(∀v∈l,p v)→p (.mk k n s l)):∀v:CV,v.size≤N→p v:=by
  have key:∀(q:Nat) (v:CV),v.size≤q→q≤N→p v:=by
    intro q
    induction q with
    |zero=>intro v hv;cases v;simp only [CV.size]at hv;omega
    | succ q ih =>
      intro v hv hq
      obtain⟨k,n,s,l⟩:=v
      simp only [CV.size]at hv
      exact h k n s l aq fun u hu=>ih u (by have:=CV.Ho hu;omega) aq
  exact fun v hv=>key N v hv (Nat.le_refl _)
theorem CV.tU:∀l:List CV,l.length≤CV.gM l
  | []=>Nat.le_refl _
  |v::l=>by simp only [List.length_cons,CV.gM];have:=CV.tU l;omega
theorem CV.zr:∀l:List CV,CV.gE l≤CV.gM l
  | []=>Nat.le_refl _
  |v::l=>by simp only [CV.gE,CV.gM];have:=CV.zr l;have:=CV.Dc v.size v (Nat.le_refl _);omega
theorem CV.Gi (v:CV):dF v.cells:=by
  obtain⟨k,n,s,l⟩:=v
  exact⟨trivial,trivial,trivial,trivial,trivial⟩
instance (v:CV):fX v.cells:=⟨v.Gi⟩
theorem CV.Lh {l:List CV} {i:Nat} {k n:Int} {s:List UInt8} {q:List CV} (h:l[i]? =some (.mk k n s q)):((CV.dt l).drop (i*4)).take 4= [.i .i64 k,.i .i64 n,.s s,.fz q.length (CV.dt q)]:=CV.get h
theorem ui {k n:Int} {s:List UInt8} {l:List CV} (h:CV.okB (.mk k n s l)=true):k=1∨k=2∨(k=3∧CV.lL l=true):=by
  rw [CV.okB]at h
  split at h
  · exact .inl (by assumption)
  · split at h
    · exact .inr (.inl (by assumption))
    · split at h
      · simp only [Bool.and_eq_true]at h;exact .inr (.inr ⟨by assumption,h.2⟩)
      · cases h
mutual
def CV.il:CV→Bool
  | .mk _ n _ l=>decide (-9223372036854775808≤n)&&decide (n≤9223372036854775807)&&CV.m7 l
def CV.m7:List CV→Bool
  | []=>true
  |v::l=>v.il&&CV.m7 l
end
theorem CV.xD:∀(l:List CV),CV.m7 l=l.all CV.il
  | []=>rfl
  |v::l=>by rw [CV.m7,CV.xD l,List.all_cons]
theorem CV.L9 (v:CV):0<v.enc.length:=by
  obtain⟨k,n,s,l⟩:=v
  rw [CV.enc]
  split
  · simp
  · split<;>simp
theorem CV.wx:∀l:List CV,l.length≤(CV.dQ l).length
  | []=>Nat.le_refl _
  | v :: l => by
    have:=CV.wx l
    have:=v.L9
    rw [CV.dQ,List.length_append,List.length_cons];omega
theorem CV.vK (l:List CV) (i:Nat):(CV.dQ (l.take i)).length≤(CV.dQ l).length:=by
  conv=>rhs;rw [←List.take_append_drop i l,CV.tz]
  rw [List.flatMap_append,List.length_append,CV.tz];omega
theorem yI (B:List UInt8) (x:UInt8):B.map u8++ [u8 x]=(B++ [x]).map u8:=by simp
theorem IG (B s R:List UInt8) (h:B++s=R):B.map u8++s.map u8=R.map u8:=by rw [←h];simp
theorem kT {n:Nat} (h:n<2 ^ 64):(cQ n).toNat=n:=by rw [cQ,BitVec.toNat_ofNat,Nat.mod_eq_of_lt h]
theorem CI {v:CV} (h:v.okB=false):iI v=1:=by unfold iI;rw [h];rfl
theorem CJ {v:CV} (h:v.okB=true) (h2:16<v.depth):iI v=2:=by unfold iI;rw [if_pos h,if_neg aq]
theorem y7 {v:CV} (h:v.okB=true) (h2:¬16<v.depth):iI v=0:=by unfold iI;rw [if_pos h,if_pos aq]
theorem CK {v:CV} (h:iI v=0):v.okB=true:=by
  unfold iI at h
  split at h
  · assumption
  · omega
theorem Dz {v:CV} (h:iI v≠0):oC v= .tu [.nl,.i .i64 (iI v)]:=by unfold oC;rw [if_neg h]
theorem rn {v:CV} (h:iI v=0):oC v= .tu [.fz v.enc.length (v.enc.map u8),.i .i64 0]:=by unfold oC;rw [if_pos h]
theorem On {C C':List UInt8} {id T:Nat} {tc:List A} {st:St} (hC:C=C') (h:st.get id=some (C.map u8)) (h2:st.get T=some tc) (h3:T≠id):jx 1 C'.length (C'.map u8) [(T,tc)] (.sl id 1 0 C.length) st:=by
  subst hC
  exact⟨id,rfl,h,fun p hp=>by rw [List.mem_singleton.1 hp];exact⟨h2,h3⟩⟩
theorem Qo {n:Int} (h:0≤n) (h1:n≤9223372036854775807):cQ 2*BitVec.ofInt 64 n=cQ (iu n):=by
  apply BitVec.eq_of_toNat_eq
  rw [kT (qA aq h1),BitVec.toNat_mul,BitVec.toNat_ofInt,kT aq,iu,if_pos h]
  omega
theorem ML {n:Int} (h0: -9223372036854775808≤n) (h:¬0≤n):IntKind.i64.wrap (0 - (n+1))= -(n+1):=by
  rw [IntKind.wrap_i64];omega
theorem Qn {n:Int} (h0: -9223372036854775808≤n) (h:¬0≤n):cQ 2*BitVec.ofInt 64 (-(n+1))+cQ 1=cQ (iu n):=by
  apply BitVec.eq_of_toNat_eq
  rw [kT (qA h0 aq),BitVec.toNat_add,BitVec.toNat_mul,BitVec.toNat_ofInt,kT aq,kT aq,iu,if_neg h]
  omega
theorem Na {k n:Int} {s:List UInt8} {l:List CV} (h:k=3) (h2:(l.take l.length).all CV.okB=true):((n==0)&&s.isEmpty)=CV.okB (.mk k n s l):=by
  rw [List.take_length]at h2
  rw [CV.okB,if_neg aq,if_neg aq,if_pos h,CV.oR,h2,Bool.and_true];rfl
theorem MY (u:BitVec 64):UInt8.ofNat (u % cQ 128+cQ 128).toNat=UInt8.ofNat (u.toNat % 128+128):=by
  rw [BitVec.toNat_add,BitVec.toNat_umod,kT aq,Nat.mod_eq_of_lt aq]
theorem FN (u:BitVec 64):(u / cQ 128).toNat=u.toNat / 128:=by rw [BitVec.toNat_udiv,kT aq]
-- C1Q
def xu:Nat→List UInt8→Option (Nat×List UInt8)
  |_, []=>none
  |i,c::r=>if(i=9∧1<c.toNat)∨(0<i∧c.toNat=0)then none else if c.toNat<128 then some (c.toNat,r)else(xu (i+1) r).map fun p=>(c.toNat % 128+128*p.1,p.2)
def PE (u:Nat):Int:=if u % 2=0 then ((u / 2:Nat):Int)else -((u / 2:Nat):Int) - 1
def uq (sub : Nat → List UInt8 → Option (List CV × List UInt8)) : List UInt8 → Option (CV × List UInt8)
  | []=>none
  | c :: r =>
    if c=1 then (xu 0 r).map fun p=>(.mk 1 (PE p.1) [] [],p.2)
    else if c=2 then (xu 0 r).bind fun p=>if p.1≤p.2.length then some (.mk 2 0 (p.2.take p.1) [],p.2.drop p.1)else none
    else if c=3 then (xu 0 r).bind fun p=>if p.1≤p.2.length then (sub p.1 p.2).map fun q=>(.mk 3 0 [] q.1,q.2)else none
    else none
def Rd (d:Nat) (v:CV):Prop:=v.okB=true∧v.depth≤d∧v.il=true
theorem Da {d:Nat}:∀ {vs:List CV},(∀v∈vs,v.depth≤d)→CV.gE vs≤d
  | [],_=>Nat.zero_le _
  |v::vs,h=>by simp only [CV.gE];have:=h v (.head _);have:=Da (vs:=vs) fun u hu=>h u (.tail _ hu);omega
end Go.Abs.D2
-- AbsU
namespace Go.Abs
open Go Go.Eng
section
variable {st stN:St}
mutual
theorem It {s0:St} (h:nh st stN):∀ {ow:Bool} {v v':A},Vw stN s0 ow v v'→Vw st s0 ow v v'
  |_,_,_,.pure hp=> .pure hp
  |_,_,_,.nl=> .nl
  |_,_,_,.sl hf hg hm hd hv hp=> .sl hf (h _ _ hg) hm hd (oy h hv) hp
  |_,_,_,.kp hf=> .kp hf
  |_,_,_,.ksl hf=> .ksl hf
  |_,_,_,.ag hv=> .ag (oy h hv)
  |_,_,_,.fn hv hv'=> .fn (oy h hv) (oy h hv')
theorem oy {s0:St} (h:nh st stN):∀ {ow:Bool} {v v':List A},cK stN s0 ow v v'→cK st s0 ow v v'
  |_,_,_,.nil=> .nil
  |_,_,_,.cons hv hs=> .cons (It h hv) (oy h hs)
end
theorem uV {s0:St} {ow:Bool} (h:nh st stN):∀ {os:List (Nat×Option (List A))},jy stN s0 ow os→jy st s0 ow os
  | [],_=>trivial
  |(_,none)::r,hs=>uV h (os:=r) hs
  |(_,some _)::r,hs=>⟨⟨h _ _ hs.1.1,oy h hs.1.2⟩,uV h (os:=r) hs.2⟩
end
theorem vu {d nx:Nat} {v:A} {deps u:List Nat} {need:List (Nat×Option Nat)} {ds:List A} {s0 st:St} {upds:List (Nat×List A)}:(⟨d,v,deps,s0.os.map (·.1),(nx,ds)::upds,need,u⟩:dM).cv st=(b6 s0 st upds).put nx ds:=by
  unfold dM.cv b6 St.put
  simp [List.map_map,Function.comp_def]
section
variable {r:Option Nat} {ds0:List Deferred} {P:Program} {w0:Bw} {X0:Xs} {N:Nat} {E0:EV} {st0:St} {Q:Exit→Act→World→Prop} {ops:Array Oper} {n g:Nat} {plan:List dM} {E:Ev} {st:St} {rest:List Oper} {d:Nat} {ty:TypeId} {pos:String} {aft':Array Edge} {gd:Option (Nat×Bool)}
theorem z6 {f:FuncId} {xs:List Operand} {vs vs' ds:List A} {s m:Nat} {ats:Array TypeId} (nx:Nat) (s0:St) (ow:Bool) (k0:Nat) (deps:List Nat) (need:List (Nat×Option Nat)) (hg:iV ops (ek (E0.at k0) deps k0 E) gd) (hxs:fx (ek (E0.at k0) deps k0 E) xs=some vs) (hS:jy (iL plan st0 need) s0 ow s0.os) (hv:cK (iL plan st0 need) s0 ow vs vs')
    (hc:eQ P f vs' s0 (fk s m ds)) (hp:dF ds) (hf:ow=false∨fL ds) (hb:Nat.ble (d+1) N=true) (hd:g8 k0 deps need=true) (h:FS r ds0 P w0 X0 N Q ops n g E0 st0 (plan++ [⟨d,.sl nx s 0 m,deps,s0.os.map (·.1), [(nx,ds)],need, []⟩]) (k0+1) ((d,.sl nx s 0 m)::E) ((b6 s0 st []).put nx ds) rest):
    FS r ds0 P w0 X0 N Q ops n g E0 st0 plan k0 E st (⟨some d,.call {callee:= .value (.func f),args:=xs.toArray,argTypes:=ats},ty,pos,aft',gd⟩::rest):=
  kf ⟨d,.sl nx s 0 m,deps,s0.os.map (·.1), [(nx,ds)],need, []⟩ (fun hk hE _ _ _ hD hs hfr hK=>have he':=hD.fin hE hk;lK hg he' (MA nx (hfr _ (.head _) rfl) s0 ow (rA he' hxs) (uV hs hS) (oy hs hv) hc hp hf hb (vu (upds:= []) ▸ hK))) hd (vu (upds:= []) ▸ h)
theorem rG {f:FuncId} {x:Operand} {xs:List Operand} {fs cs vs vs' ds:List A} {s m:Nat} {ats:Array TypeId} (nx:Nat) (s0:St) (upds:List (Nat×List A)) (ow:Bool) (k0:Nat) (deps:List Nat) (need:List (Nat×Option Nat)) (hg:iV ops (ek (E0.at k0) deps k0 E) gd) (hx:ev (ek (E0.at k0) deps k0 E) x=some (.fn (.func f) fs cs)) (hxs:fx (ek (E0.at k0) deps k0 E) xs=some vs) (hnx:eE (upds.map (·.1)) nx=false) (hS:jy (iL plan st0 need) s0 ow s0.os) (hv:cK (iL plan st0 need) s0 ow (fs++vs++cs) vs')
    (hc:eQ P f vs' s0 (jx s m ds upds)) (hp:dF ds) (hf:ow=false∨fL ds) (hu:∀p∈upds,(∃cs,s0.get p.1=some cs)∧ov s0 ow p.2) (hb:Nat.ble (d+1) N=true) (hd:g8 k0 deps need=true) (h:FS r ds0 P w0 X0 N Q ops n g E0 st0 (plan++ [⟨d,.sl nx s 0 m,deps,s0.os.map (·.1),(nx,ds)::upds,need,upds.map (·.1)⟩]) (k0+1) ((d,.sl nx s 0 m)::E) ((b6 s0 st upds).put nx ds) rest):
    FS r ds0 P w0 X0 N Q ops n g E0 st0 plan k0 E st (⟨some d,.call {callee:= .value x,args:=xs.toArray,argTypes:=ats},ty,pos,aft',gd⟩::rest):=
  kf ⟨d,.sl nx s 0 m,deps,s0.os.map (·.1),(nx,ds)::upds,need,upds.map (·.1)⟩ (fun hk hE _ _ _ hD hs hfr hK=>have he':=hD.fin hE hk;lK hg he' (Fz nx (hfr _ (.head _) hnx) s0 upds ow (lF he' hx) (rA he' hxs) (uV hs hS) (oy hs hv) hc hp hf hu hb (vu ▸ hK))) hd (vu ▸ h)
end
theorem eQ.nl {P : Program} {f : FuncId} {i s : Nat} {vs : List A} {s0 : St} {R : A → St → Prop} (hi : s0.free i = true) (h : eQ P f (.sl i s 0 0 :: vs) (s0.put i []) R) : eQ P f (.nl :: vs) s0 R := by
  intro w X β us hd hX hgl ho hinj hv
  have hn:=hd i hi
  simp only [VS]at hv
  obtain⟨u,us,rfl,hu,hvs⟩:=hv
  have hext:=en (x:=BL.ph) hn
  have hd2:∀id,(s0.put i []).free id=true→(dS β i .ph) id=none:=fun id hf=>by
    rw [St.gF]at hf
    split at hf
    · cases hf
    · rename_i hne
      rw [dV (fun e=>hne e.symm)]
      exact hd id hf
  have hget:∀id cs,(s0.put i []).get id=some cs→(id=i∧cs= [])∨(id≠i∧s0.get id=some cs):=fun id cs hg=>by
    rw [St.ef]at hg
    split at hg
    · rename_i e;simp only [Option.some.injEq]at hg;exact .inl ⟨e.symm,hg.symm⟩
    · rename_i e;exact .inr ⟨fun h=>e h.symm,hg⟩
  have hownM:∀b,(bw w (dS β i .ph) (s0.put i []) hd2).M b→(bw w β s0 hd).M b:=fun b ⟨id,cs,h1,y,h2,h3⟩=>by
    rcases hget id cs h1 with ⟨rfl,_⟩|⟨hne,h1⟩
    · rw [dA]at h2;cases h2;exact h3.elim
    · rw [dV hne]at h2;exact⟨id,cs,h1,y,h2,h3⟩
  have hownM2:∀b,(bw w β s0 hd).M b→(bw w (dS β i .ph) (s0.put i []) hd2).M b:=fun b ⟨id,cs,h1,y,h2,h3⟩=>by
    have hne:id≠i:=fun e=>by subst e;rw [hn]at h2;cases h2
    refine⟨id,cs,?_,y,?_,h3⟩
    · rw [St.ef,if_neg (fun e=>hne e.symm)];exact h1
    · rw [dV hne];exact h2
  have hown:∀b,(bw w (dS β i .ph) (s0.put i []) hd2).own b→(bw w β s0 hd).own b:=fun b=>Or.imp_right (hownM b)
  have hown2:∀b,(bw w β s0 hd).own b→(bw w (dS β i .ph) (s0.put i []) hd2).own b:=fun b=>Or.imp_right (hownM2 b)
  refine(h w X (dS β i .ph) (u::us) hd2 hX hgl (fun id cs hg=>?_) (fun a b ca cb q M N hab ha hb ea eb=>?_) ?_).mono fun v w' hP=>?_
  · rcases hget id cs hg with ⟨rfl, rfl⟩ | ⟨hne, hg⟩
    · unfold OB;rw [dA]
    · have := ho id cs hg
      unfold OB at this ⊢
      rw [dV hne]
      cases hb:β id with
      |none=>rw [hb]at this;exact this
      | some y =>
        rw [hb]at this
        cases y with
        |ph=>exact this
        | bk b N =>
          obtain⟨q1,q2,us',rest,ty,q3,q4,q5,q6⟩:=this
          exact⟨hown2 b q1,q2,us',rest,ty,q3,q4,gP (fun _ _ h=>⟨h,rfl⟩) _ _ _ _ hext q5,q6⟩
        | mp b =>
          obtain⟨q0,q1,q2,q3⟩:=this
          exact⟨q0,hown2 b q1,q2,q3⟩
  · rcases hget a ca ha with ⟨rfl, _⟩ | ⟨hna, ha⟩
    · rw [dA]at ea;cases ea
    · rcases hget b cb hb with ⟨rfl, _⟩ | ⟨hnb, hb⟩
      · rw [dA]at eb;cases eb
      · rw [dV hna] at ea; rw [dV hnb] at eb
        exact hinj a b ca cb q M N hab ha hb ea eb
  · simp only [VS]
    refine⟨u,us,rfl,?_,gP (fun _ _ h=>⟨h,rfl⟩) _ _ _ _ hext hvs⟩
    simp only [V]at hu ⊢
    exact .inl ⟨dA,trivial,trivial,hu⟩
  · obtain ⟨r, β', X', st', h1, h2, h3, hm, hv⟩ := hP
    refine⟨r,β',X',st',h1,h2,fun b o hx=>(h3 b o hx).imp_right (hown b),?_,hv⟩
    refine .of ⟨hm.below.os,hm.below.tape,hm.below.output,hm.below.size,fun k hk hM=>hm.below.block k hk fun h=>hM (hownM k h),fun s hs=>by cases hs⟩ (fun k y hk=>hm.b0 k y (hext k y hk)) hm.xlt hm.dom (fun id cs hg=>?_) hm.inj
    have:=hm.obj id cs hg
    unfold OB at this ⊢
    split
    · rename_i e;rw [e]at this;exact this
    · rename_i e;rw [e]at this;exact this
    · rename_i b N e
      rw [e]at this
      exact⟨hown b this.1,this.2⟩
    · rename_i b e
      rw [e]at this
      exact⟨this.1,hown b this.2.1,this.2.2⟩
section
variable {P:Program} {n:Nat}
theorem KG {f:FuncId} {fn:Func} {c:Code} {args:List A} {s0:St} {s m:Nat} {ds:List A} (hp:dF ds) (hf:P.funcs[f]? =some fn) (hb:fn.body=some c)
    (hn:fn.ntmps=n) (hname:(fn.name== "runtime.NumGoroutine")=false) (ha:args.length≤n)
    (h:∀w0 X0,w0.ids= []→At w0 X0 n (jA args 0) s0 (Pw [] (c.wpIn (rF none) 0 P (bodyPost P fn fun e w'=>∃v,e= .returned v∧Post w0 X0 (fk s m ds) v w')))):eQ P f args s0 (fk s m ds):=by
  intro w X β us hd hX hgl ho hi hv
  have hl:=fb hv
  refine Eng.Fn.mono (R:=Post (yU w β s0) X (fk s m ds)) ⟨⟨fn,hf,by simp [hb],hname⟩,calls_of_wp hf hb (wpIn_wide.1 (mA (h (yU w β s0) X rfl _ w ⟨β,X,.of (fun _ _ h=>h) (fun _ _ h=> .inl h) (.of ⟨rfl,rfl,rfl,Nat.le_refl _,fun _ _ _=>rfl,fun s hs=>by cases hs⟩ (fun _ _ h=>by cases h) hX hd ho hi) hgl ?_ rfl (fun s hs=>by cases hs) (fun t v ht=>?_)⟩)))⟩ (fun _ _ h=>Nz hp h)
  · simp [hn];omega
  · obtain ⟨_, h2⟩ := nC _ _ _ _ ht
    simp only [Nat.sub_zero]at h2
    obtain⟨u,g1,g2⟩:=iO hv h2
    have hlt:=(List.getElem?_eq_some_iff.1 g1).1
    refine⟨u,?_,g2⟩
    rw [Array.getElem?_append,if_pos aZ]
    simpa using g1
end
theorem FH {T:List Nat}:∀p∈([]:List (Nat×List A)),p.1∈T:=fun p hp=>by cases hp
theorem FG {st:St}:∀t∈([]:List Nat),∃cs,st.get t=some cs:=fun p hp=>by cases hp
theorem F5 {T:List Nat}:uR T []:=fun p hp=>by cases hp
theorem wR {s0:St} {ow:Bool}:∀p∈([]:List (Nat×List A)),(∃cs,s0.get p.1=some cs)∧ov s0 ow p.2:=fun p hp=>by cases hp
theorem Gz {s m id:Nat} {cs:List A} {st:St} (h:st.get id=some cs):jx s m cs [] (.sl id s 0 m) st:=⟨id,rfl,h,fun p hp=>by cases hp⟩
theorem Nf {st:St} {T:Nat} {cs:List A} (h:st.get T=some cs):∀t∈ [T],∃cs,st.get t=some cs:=fun t ht=>by
  rw [List.mem_singleton.1 ht];exact⟨_,h⟩
end Go.Abs
