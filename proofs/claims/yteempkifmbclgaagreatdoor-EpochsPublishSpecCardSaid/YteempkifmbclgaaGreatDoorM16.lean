/-
  The engine, the plain laws and the walks that the rows need, part 16. Conditions: none.
-/
import Derived.Test.YteempkifmbclgaaGreatDoorM15
import Derived.RecoverIn
set_option linter.unusedVariables false
set_option linter.unusedSimpArgs false
set_option maxHeartbeats 1000000
set_option maxRecDepth 10000
-- AbsW
namespace Go.Abs
open Go Go.Eng
abbrev kZ (u:Value):List PanicEntry:= [{v:=u,recovered:=false}]
def ot (w0:Bw) (X0:Xs) (R:A→St→Prop) (pn:Value→Prop) (e:Ending) (w':World):Prop:=
  (∃v,e= .returned v∧Post w0 X0 R v w')∨∃u,e= .panicked (kZ u)∧pn u∧Post w0 X0 (fun _ _=>True) undef w'
def lf (P : Program) (f : FuncId) (args : List A) (s0 : St) (R : A → St → Prop) (pn : Value → Prop) : Prop :=
  ∀ w X β us (hd : ∀ id, s0.free id = true → β id = none), (∀ b o, X b o → b < w.heap.size) → GL X w → (∀ id cs, s0.get id = some cs → OB β X w (bw w β s0 hd) id cs) →
    (∀i j ci cj b M N,i≠j→s0.get i=some ci→s0.get j=some cj→β i=some (.bk b M)→β j=some (.bk b N)→False)→VS X w β args us→mF P f∧Calls P f us.toArray w (ot (bw w β s0 hd) X R pn)
def lg (P:Program) (f:FuncId) (args:List A) (s0:St) (pn:Value→Prop):Prop:=lf P f args s0 (fun _ _=>False) pn
section
variable {P:Program} {f:FuncId} {args:List A} {s0:St} {R R':A→St→Prop} {pn:Value→Prop}
theorem Post.mono {w0:Bw} {X:Xs} {v:Value} {w':World} (h:Post w0 X R v w') (hr:∀r st,R r st→R' r st):Post w0 X R' v w':=let ⟨r,β',X',st',h1,h2⟩:=h;⟨r,β',X',st',hr _ _ h1,h2⟩
theorem lf.ret (h:lf P f args s0 R pn) (hr:∀r st,R r st→R' r st) (hn:∀u,¬pn u):eQ P f args s0 R':=fun w X β us hd h1 h2 h3 h4 h5=>
  let ⟨c,k⟩:=h w X β us hd h1 h2 h3 h4 h5
  ⟨c,k.mono fun e w' he=>by
    rcases he with ⟨v,e1,e2⟩|⟨u,_,e2,_⟩
    · exact⟨v,e1,e2.mono hr⟩
    · exact absurd e2 (hn u)⟩
theorem lf.xf (h:lf P f args s0 R pn) (hr:∀r st,¬R r st):lg P f args s0 pn:=fun w X β us hd h1 h2 h3 h4 h5=>
  let ⟨c,k⟩:=h w X β us hd h1 h2 h3 h4 h5
  ⟨c,k.mono fun e w' he=>by
    rcases he with ⟨v,e1,e2⟩|h
    · exact .inl ⟨v,e1,e2.mono fun r st h=>hr r st h⟩
    · exact .inr h⟩
end
section
variable {r:Option Nat} {ds:List Deferred} {P:Program} {w0:Bw} {X0:Xs} {n:Nat} {E:Ev} {st:St} {Q:Exit→Act→World→Prop} {K:Act→World→Prop}
theorem Jj {d : Option Nat} {f : FuncId} {x : Operand} {xs : List Operand} {fs cs vs vs' : List A} {s0 : St} {ats : Array TypeId} {ty : TypeId} {pos b6 g} {ow : Bool} {pn : Value → Prop} {β : Bm} {X : Xs} {a : Act} {w : World} (hr : dZ w0 X0 n E st β X a w) (hx : ev E x = some (.fn (.func f) fs cs)) (hxs : fx E xs = some vs) (hSub : jy st s0 ow s0.os) (hv : cK st s0 ow (fs ++ vs ++ cs) vs')
    (hc:lg P f vs' s0 pn) (h:∀u w',pn u→Post (bw w (er s0 β) s0 fC) (Xo ow st s0 β X) (fun _ _=>True) undef w'→Q (.panic (kZ u)) a w'):
    (⟨d,.call {callee:= .value x,args:=xs.toArray,argTypes:=ats},ty,pos,b6,g⟩:Oper).wp P a w K Q:=by
  have hss:∀id cs,s0.get id=some cs→st.get id=some cs:=fun id cs h=>(lj hSub h).1
  obtain⟨e1,e2⟩:=hr.c9 hx
  obtain⟨us,e3,e4⟩:=hr.gA hxs
  simp only [V]at e2
  obtain⟨uf,uc,e5,e6,e7⟩:=e2
  have hall:=l4 hr hv (gZ (gZ e6 e4) e7)
  obtain ⟨hcal, hcall⟩ := hc w (Xo ow st s0 β X) (er s0 β) (uf ++ us ++ uc) fC (yB hr) (hr.gl.mono fun b o h => ⟨.inl h, rfl⟩)
    (fun id cs hg => by
      have hst:=hss id cs hg
      have ho:=hr.mem.obj id cs hst
      have hf:=pT hg
      unfold OB at ho ⊢
      rw [lS hf]
      split
      · rename_i h';rw [h']at ho;exact ho
      · rename_i h';rw [h']at ho;exact ho
      · rename_i b N h'
        rw [h']at ho
        obtain⟨h1,h2,us,rest,ty,h3,h4,h5,h6⟩:=ho
        refine⟨.inr ⟨id,cs,hg,.bk b N,bd,rfl⟩,fun o h=>?_,us,rest,ty,h3,h4,?_,h6⟩
        · rcases h with h | ⟨_, id', cs', N', k1, k2, k3, _⟩
          · exact h2 o h
          · refine hr.mem.inj id id' cs cs' b N N' (fun e => ?_) hst k2 h' k3
            subst e;rw [hf]at k1;cases k1
        · exact l4 hr (lj hSub hg).2 h5
      · rename_i b h'
        rw [h']at ho
        obtain⟨h0,h1,h2,h3⟩:=ho
        refine⟨h0,.inr ⟨id,cs,hg,.mp b,bd,rfl⟩,fun o h=>?_,h3⟩
        rcases h with h|⟨_,id',cs',N',k1,k2,k3,_⟩
        · exact h2 o h
        · refine hr.mem.apart (fun e => ?_) hst k2 h' k3 rfl rfl
          subst e;rw [hf]at k1;cases k1)
    (fun i j ci cj b M N hij hi hj hbi hbj=>hr.mem.inj i j ci cj b M N hij (hss i ci hi) (hss j cj hj) (my hbi).2 (my hbj).2) hall
  have hm:=Eng.fa.gA (gq a hr.defers) e3
  unfold Oper.wp
  rw [G0 hcal e5 hm]
  show Calls P f _ w _
  refine hcall.mono fun e w' he=>?_
  rcases he with ⟨v,_,_,_,_,_,h,_⟩|⟨u,rfl,hp,hpo⟩
  · exact h.elim
  · exact h u w' hp hpo
theorem MC {d:Option Nat} {f:FuncId} {x:Operand} {xs:List Operand} {fs cs vs vs':List A} {ats:Array TypeId} {ty:TypeId} {pos aft' g} {pn:Value→Prop} (s0:St) (ow:Bool) (hx:ev E x=some (.fn (.func f) fs cs)) (hxs:fx E xs=some vs) (hS:jy st s0 ow s0.os) (hv:cK st s0 ow (fs++vs++cs) vs')
    (hc:lg P f vs' s0 pn) (h:∀u,pn u→At w0 X0 n E (b6 s0 st []) (Q (.panic (kZ u)))):
    At w0 X0 n E st (fun a w=>(⟨d,.call {callee:= .value x,args:=xs.toArray,argTypes:=ats},ty,pos,aft',g⟩:Oper).wp P a w K Q):=by
  rintro a w ⟨β,X,hr⟩
  refine Jj hr hx hxs hS hv hc fun u w' hp ⟨r,β',X',st',_,hsup,hsub,hm,_⟩=>?_
  obtain⟨m1,m2,m3,_,_⟩:=hm.after hr (fun id cs h=>(lj hS h).1) hsub hsup (upds:= []) (fun p hp=>by cases hp)
  refine h u hp a w' ⟨β,_,.of (fun b o h=>(m2 b o (hr.x0 b o h)).1) (fun b o h=>?_) m1 (hr.gl.mono m2) hr.size hr.defers (fun s hs=>ew.lT m2 (hr.sslot s hs)) fun t v ht=>?_⟩
  · rcases m3 b o h with h | h
    · exact hr.xn b o h
    · exact .inr h
  · obtain ⟨u, h1, h2⟩ := hr.slot t v ht
    exact⟨u,h1,gj m2 _ _ β β (dE.refl β) h2⟩
section
variable {ops:Array Oper} {rest:List Oper}
theorem Ns {d:Option Nat} {f:FuncId} {x:Operand} {xs:List Operand} {fs cs vs vs':List A} {ats:Array TypeId} {ty:TypeId} {pos aft'} {pn:Value→Prop} (s0:St) (ow:Bool) (hx:ev E x=some (.fn (.func f) fs cs)) (hxs:fx E xs=some vs) (hS:jy st s0 ow s0.os) (hv:cK st s0 ow (fs++vs++cs) vs')
    (hc:lg P f vs' s0 pn) (h:∀u,pn u→At w0 X0 n E (b6 s0 st []) (Pw ds (Q (.panic (kZ u))))):
    At w0 X0 n E st (Pw ds (wpListIn (rF r) 0 P ops Q (⟨d,.call {callee:= .value x,args:=xs.toArray,argTypes:=ats},ty,pos,aft',none⟩::rest))):=
  bJ rfl (MC s0 ow hx hxs hS hv hc h)
theorem ik {d:Option Nat} {f:FuncId} {xs:List Operand} {vs vs':List A} {ats:Array TypeId} {ty:TypeId} {pos aft'} {pn:Value→Prop} (s0:St) (ow:Bool) (hxs:fx E xs=some vs) (hS:jy st s0 ow s0.os) (hv:cK st s0 ow vs vs')
    (hc:lg P f vs' s0 pn) (h:∀u,pn u→At w0 X0 n E (b6 s0 st []) (Pw ds (Q (.panic (kZ u))))):
    At w0 X0 n E st (Pw ds (wpListIn (rF r) 0 P ops Q (⟨d,.call {callee:= .value (.func f),args:=xs.toArray,argTypes:=ats},ty,pos,aft',none⟩::rest))):=
  Ns (fs:= []) (cs:= []) s0 ow rfl hxs hS aU hc h
mutual
def jH:A→Option Value
  | .b x=>some (.bool x)
  | .i k m=>some (.int k m)
  | .s l=>some (.string ⟨l.toArray⟩)
  | .ag cs=>(uJ cs).map fun us=> .agg us.toArray
  | .ic t v=>(jH v).map fun u=> .iface t u
  |_=>none
def uJ : List A → Option (List Value)
  | []=>some []
  | c :: cs => match jH c, uJ cs with
    |some u,some us=>some (u::us)
    |_,_=>none
end
mutual
theorem yA {X:Xs} {w:World} {β:Bm}:∀ {v:A} {u z:Value},V X w β v u→jH v=some z→u=z
  | .b x,u,z,h,e=>by simp only [V,jH,Option.some.injEq]at h e;rw [h,e]
  | .i k m,u,z,h,e=>by simp only [V,jH,Option.some.injEq]at h e;rw [h,e]
  | .s l,u,z,h,e=>by simp only [V,jH,Option.some.injEq]at h e;rw [h,e]
  | .ag cs, u, z, h, e => by
    simp only [V,jH]at h e
    obtain⟨us,rfl,h2,_⟩:=h
    obtain⟨vs,h3,rfl⟩:=Option.map_eq_some_iff.1 e
    rw [BP h2 h3]
  | .ic t v, u, z, h, e => by
    simp only [V,jH]at h e
    obtain⟨x,rfl,h2⟩:=h
    obtain⟨y,h3,rfl⟩:=Option.map_eq_some_iff.1 e
    rw [yA h2 h3]
  | .nl,_,_,_,e=>by simp only [jH]at e;cases e
  | .fz _ _,_,_,_,e=>by simp only [jH]at e;cases e
  | .fp _,_,_,_,e=>by simp only [jH]at e;cases e
  | .p _ _,_,_,_,e=>by simp only [jH]at e;cases e
  | .sl _ _ _ _,_,_,_,e=>by simp only [jH]at e;cases e
  | .tu _,_,_,_,e=>by simp only [jH]at e;cases e
  | .fn _ _ _,_,_,_,e=>by simp only [jH]at e;cases e
  | .raw _,_,_,_,e=>by simp only [jH]at e;cases e
theorem BP {X:Xs} {w:World} {β:Bm}:∀ {vs:List A} {us zs:List Value},VS X w β vs us→uJ vs=some zs→us=zs
  | [],us,zs,h,e=>by simp only [VS,uJ,Option.some.injEq]at h e;rw [h, ←e]
  | c :: cs, us, zs, h, e => by
    simp only [VS,uJ]at h e
    obtain⟨u,r,rfl,h1,h2⟩:=h
    split at e
    · rename_i y ys e1 e2
      simp only [Option.some.injEq]at e
      rw [yA h1 e1,BP h2 e2,e]
    · cases e
end
theorem Nt {d:Option Nat} {x:Operand} {ty:TypeId} {pos aft'} {t:TypeId} {v:A} {u:Value} (hx:ev E x=some (.ic t v)) (hu:jH v=some u) (h:At w0 X0 n E st (Pw ds (Q (.panic (kZ (.iface t u)))))):
    At w0 X0 n E st (Pw ds (wpListIn (rF r) 0 P ops Q (⟨d,.panic x,ty,pos,aft',none⟩::rest))):=
  bJ rfl fun a w hr=>by
    have hr':=hr
    obtain⟨β,X,hx'⟩:=hr
    have hv:=hx'.ry hx
    simp only [V]at hv
    obtain⟨z,e1,e2⟩:=hv
    have e3:=yA e2 hu
    subst e3
    have e:(execOp a.eval (⟨d,.panic x,ty,pos,aft',none⟩:Oper)).run P w= .halt (.panic (.iface t z)) w:=by
      simp only [execOp,e1];rfl
    show Oper.upon P _ a _ _ ((execOp a.eval (⟨d,.panic x,ty,pos,aft',none⟩:Oper)).run P w)
    rw [e]
    exact h a w hr'
end
theorem dJ {N:Act→World→Prop} {ch:List PanicEntry} (h:At w0 X0 n E st (Pw ds (Q (.panic ch)))):At w0 X0 n E st (Pw ds (Exit.then N Q (.panic ch))):=h
theorem fS {id:Nat} {ch:List PanicEntry} (h:At w0 X0 n E st (Pw ds (Q (.panic ch)))):At w0 X0 n E st (Pw ds (Exit.inBlock id Q (.panic ch))):=h
theorem pJ {fn:Func} {R:A→St→Prop} {pn:Value→Prop} {u:Value} (h:pn u):At w0 X0 n E st (Pw [] (bodyPost P fn (ot w0 X0 R pn) (.panic (kZ u)))):=fun a w ⟨β,X,hr⟩=>by
  show bodyPost P fn _ (.panic (kZ u)) (a.wd []) w
  rw [og]
  exact⟨hr.defers,.inr ⟨u,rfl,h,.raw undef,β,X,st,trivial,hr.x0,hr.xn,hr.mem,by simp only [V]⟩⟩
theorem B8 {fn:Func} {R:A→St→Prop} {pn:Value→Prop} {rs:List ResultVar} {vs:List A} (hrs:fn.results=rs.toArray) (hv:gO P E st rs vs) (h:R (mv vs) st):
    At w0 X0 n E st (Pw [] (bodyPost P fn (ot w0 X0 R pn) .ret)):=fun a w hr=>
  let ⟨h1,v,h2,h3⟩:=bZ (R:=R) hrs hv h a w hr
  ⟨h1,v,h2,.inl h3⟩
theorem IZ {fn:Func} {R:A→St→Prop} {pn:Value→Prop} {rs:List ResultVar} {vs:List A} (hrs:fn.results=rs.toArray) (hv:gO P E st rs vs) (h:R (mv vs) st):
    At w0 X0 n E st (Pw [] (bodyPost P fn (ot w0 X0 R pn) .normal)):=fun a w hr=>
  let ⟨h1,v,h2,h3⟩:=nE (R:=R) hrs hv h a w hr
  ⟨h1,v,h2,.inl h3⟩
theorem vM {f:FuncId} {fn:Func} {c:Code} {args:List A} {s0:St} {R:A→St→Prop} {pn:Value→Prop} (hf:P.funcs[f]? =some fn) (hb:fn.body=some c)
    (hn:fn.ntmps=n) (hname:(fn.name== "runtime.NumGoroutine")=false) (ha:args.length≤n)
    (h:∀w0 X0,w0.ids=s0.os.map Prod.fst→At w0 X0 n (jA args 0) s0 (Pw [] (c.wpIn (rF none) 0 P (bodyPost P fn (ot w0 X0 R pn))))):lf P f args s0 R pn:=by
  intro w X β us hd hX hgl ho hi hv
  have hl:=fb hv
  refine⟨⟨fn,hf,by simp [hb],hname⟩,calls_of_wp hf hb (wpIn_wide.1 (mA (h (bw w β s0 hd) X rfl _ w ⟨β,X,.of (fun _ _ h=>h) (fun _ _ h=> .inl h) (.of ⟨rfl,rfl,rfl,Nat.le_refl _,fun _ _ _=>rfl,fun s hs=>by cases hs⟩ (dE.refl β) hX hd ho hi) hgl ?_ rfl (fun s hs=>by cases hs) (fun t v ht=>?_)⟩)))⟩
  · simp [hn];omega
  · obtain ⟨_, h2⟩ := nC _ _ _ _ ht
    simp only [Nat.sub_zero]at h2
    obtain⟨u,g1,g2⟩:=iO hv h2
    have hlt:=(List.getElem?_eq_some_iff.1 g1).1
    refine⟨u,?_,g2⟩
    rw [Array.getElem?_append,if_pos aZ]
    simpa using g1
end
end Go.Abs
-- AbsY
namespace Go.Abs
open Go Go.Eng
def uS:List A→Prop
  | []=>True
  | .p _ _::r=>uS r
  |_=>False
theorem BN {X X':Xs} {w w':World} {β β':Bm}:∀ {cs:List A} {us:List Value},uS cs→(∀id∈gL cs,β' id=β id)→VS X w β cs us→VS X' w' β' cs us
  | [],us,_,_,h=>by simp only [VS]at h ⊢;exact h
  | .p id off :: r, us, hp, hb, h => by
    simp only [VS,V]at h ⊢
    obtain⟨u,q,rfl,h1,h2⟩:=h
    refine⟨u,q,rfl,by rw [hb id (by simp [gL,refs])];exact h1,BN hp (fun i hi=>hb i ?_) h2⟩
    simp only [gL,List.mem_append]
    exact .inr hi
structure Df (w0 w1:Bw) (ids:List Nat) (cs:List A) (us:List Value):Prop where
  w:w1.w=w0.w
  M:w1.M=w0.M
  sus:w1.sus=w0.sus
  ids:w1.ids=ids
  ext:dE w0.β w1.β
  caps:∀X w β,dE w1.β β→VS X w β cs us
abbrev lD (g:FuncId) (us:List Value):Deferred:= {target:= .fn (.func g) us.toArray,args:= #[]}
section
variable {P:Program} {w0 w1:Bw} {X0:Xs} {n:Nat} {E:Ev} {st:St} {Q:Exit→Act→World→Prop}
theorem yM {x : Operand} {g : FuncId} {cs : List A} {ops : Array Oper} {rest : List Oper} {ats : Array TypeId} {ty : TypeId} {pos : String} {aft' : Array Edge} {idsB : List Nat} (ids : List Nat) (hI : w0.ids = idsB) (hs : (idsB.all (eE ids)) = true) (hx : ev E x = some (.fn (.func g) [] cs)) (hp : uS cs) (hids : ((gL cs).all (eE ids)) = true)
    (h:∀w1 us,Df w0 w1 ids cs us→At w1 X0 n E st (Pw [lD g us] (wpListIn (rF none) 0 P ops Q rest))):
    At w0 X0 n E st (Pw [] (wpListIn (rF none) 0 P ops Q (⟨none,.defer {callee:= .value x,args:= #[],argTypes:=ats},ty,pos,aft',none⟩::rest))):=fun a w ⟨β,X,hr⟩=>by
  have hgv:=hr.ry hx
  simp only [V]at hgv
  obtain⟨us0,us,e1,e2,e3⟩:=hgv
  simp only [VS]at e2
  subst e2
  have hall:=List.all_eq_true.1 hids
  have key:=h (tY w0 β ids w0.sus) us ⟨rfl,rfl,rfl,rfl,wJ hI hs hr.mem.b0,fun X' w' β' hb=>BN hp (fun id hi=>?_) e3⟩ a w
    ⟨β,X,hr.jU rfl rfl .refl Az (fun s hs'=>wo (hr.mem.below.sus s hs') (fun b hb=>hb) fun b o _ _=>rfl) hr.sslot hr.size hr.defers hr.slot⟩
  · show wpListIn (rF none) 0 P ops Q (_ :: rest) (a.wd []) w
    unfold wpListIn
    rw [if_pos a8]
    unfold Oper.wpIn
    refine⟨fun _ _=>trivial,?_⟩
    have e:(Oper.semAt (rF none).round (a.wd []).eval (⟨none,.defer {callee:= .value x,args:= #[],argTypes:=ats},ty,pos,aft',none⟩:Oper)).run P w= .ok (.defer (lD g us)) w:=by
      show(Oper.semAt none _ _).run P w=_
      rw [Oper.semAt_none,vQ]
      simp only [execOp,resolve,e1]
      simp [Deferred.ofValue]
    rw [e]
    show wpListIn (rF none) 0 P ops Q rest _ w
    have e5:({tmps:=(a.wd []).tmps,defers:=lD g us::(a.wd []).defers}:Act).put none undef=a.wd [lD g us]:=by
      simp [Act.wd,Act.put,hr.defers]
    rw [e5]
    exact key
  · have hm := hall id hi
    obtain ⟨hv⟩ : Nonempty (∃ b N, β id = some (.bk b N)) := ⟨by
      have go:∀ {cs:List A} {us:List Value},uS cs→id∈gL cs→VS X w β cs us→∃b N,β id=some (.bk b N):=by
        intro cs
        induction cs with
        |nil=>intro us _ h;cases h
        | cons c cs ih =>
          intro us hp hi hv
          cases c with
          | p i o =>
            simp only [VS,V]at hv
            obtain⟨u,q,_,⟨b,N,h1,_⟩,h2⟩:=hv
            simp only [gL,refs,List.mem_append,List.mem_singleton]at hi
            rcases hi with hi|hi
            · subst hi;exact⟨b,N,h1⟩
            · exact ih hp hi h2
          |_=>exact hp.elim
      exact go hp hi e3⟩
    obtain⟨b,N,hv⟩:=hv
    rw [hv]
    exact hb id _ (by show kO ids β id=_;rw [w9 hm];exact hv)
def sI (P:Program) (g:FuncId) (k:Nat):Prop:=∀(us:List Value) (w:World),us.length=k→CallsDIn (rF none) 0 P g us.toArray .returning w fun e u' w'=>(∃v,e= .returned v)∧u'= .returning∧w'=w
def sH (P : Program) (g : FuncId) (args : List A) (s0 : St) (pn : Value → Prop) (upds : List (Nat × List A)) : Prop :=
  ∀ u, pn u → ∀ w X β us (hd : ∀ id, s0.free id = true → β id = none), (∀ b o, X b o → b < w.heap.size) → GL X w → (∀ id cs, s0.get id = some cs → OB β X w (bw w β s0 hd) id cs) →
    (∀i j ci cj b M N,i≠j→s0.get i=some ci→s0.get j=some cj→β i=some (.bk b M)→β j=some (.bk b N)→False)→VS X w β args us→
    CallsDIn (rF none) 0 P g us.toArray (.panicking (kZ u)) w fun e u' w'=>∃v,e= .returned v∧u'= .panicking [{v:=u,recovered:=true}]∧Post (bw w β s0 hd) X (j7 (.tu []) upds) v w'
theorem G1 {g:FuncId} {us:List Value} {w:World} (hc:mF P g):(invoke (.fn (.func g) us.toArray) #[]).run P w= .ok (.enter g us.toArray) w:=by
  obtain⟨fn,h1,h2,h3⟩:=hc
  cases hb:fn.body with
  |none=>rw [hb]at h2;cases h2
  | some c =>
    have e:invoke (.fn (.func g) us.toArray) #[]=callFunc g (#[]++us.toArray):=rfl
    rw [e,AW h1 hb h3]
    simp
theorem vh {fn:Func} {R:A→St→Prop} {ids:List Nat} {cs:List A} {us:List Value} {g:FuncId} {rs:List ResultVar} {vs:List A} (hdf:Df w0 w1 ids cs us) (hs0:w0.sus= []) (hcal:mF P g) (hc:sI P g cs.length) (hrs:fn.results=rs.toArray) (hv:gO P E st rs vs) (h:R (mv vs) st):
    At w1 X0 n E st (Pw [lD g us] (bodyPostM (rF none) 0 P fn (fun e w'=>∃v,e= .returned v∧Post w0 X0 R v w') .ret)):=fun a w ⟨β,X,hr⟩=>by
  show LeavesInM (rF none) 0 P fn a.tmps _ (a.wd [lD g us]).defers .returning w
  have e:(a.wd [lD g us]).defers= [lD g us]:=by simp [Act.wd,hr.defers]
  rw [e]
  have hl:us.length=cs.length:=fb (hdf.caps X w β hr.mem.b0)
  refine⟨by simp,.inr ⟨(fun h=>by cases h),.func g,us.toArray,g,us.toArray,rfl,G1 hcal,fun _ _=>trivial,(hc us w hl).mono fun e' u' w' ⟨⟨v,e1⟩,e2,e3⟩=>?_⟩⟩
  subst e1;subst e2;subst e3
  obtain⟨us',h1,h2⟩:=hv _ _ _ _ _ _ _ hr.toRelQ
  have hr0:dZ w0 X0 n E st β X a w':=hr.jU hdf.w.symm hdf.M.symm .refl (fun id x hx=>hr.mem.b0 id x (hdf.ext id x hx)) (fun s hs=>by rw [hs0]at hs;cases hs) (fun s hs=>by rw [hs0]at hs;cases hs) hr.size hr.defers hr.slot
  exact⟨_,oa hrs h1,_,rfl,_,β,X,st,h,hr0.x0,hr0.xn,hr0.mem,sP h2⟩
theorem l8 {fn : Func} {R : A → St → Prop} {ids : List Nat} {cs : List A} {us : List Value} {g : FuncId} {rs : List ResultVar} {vs : List A} {u : Value} {pn : Value → Prop} {upds : List (Nat × List A)} (s0 : St) (hdf : Df w0 w1 ids cs us) (hs0 : w0.sus = []) (hcal : mF P g) (hS : jy st s0 false s0.os) (hvw : cK st s0 false cs cs) (hc : sH P g cs s0 pn upds) (hpn : pn u)
    (hu:∀p∈upds,(∃cs,s0.get p.1=some cs)∧dF p.2) (hrs:fn.results=rs.toArray) (hv:gO P E (b6 s0 st upds) rs vs) (h:R (mv vs) (b6 s0 st upds)):
    At w1 X0 n E st (Pw [lD g us] (bodyPostM (rF none) 0 P fn (fun e w'=>∃v,e= .returned v∧Post w0 X0 R v w') (.panic (kZ u)))):=fun a w ⟨β,X,hr⟩=>by
  show LeavesInM (rF none) 0 P fn a.tmps _ (a.wd [lD g us]).defers (.panicking (kZ u)) w
  have e:(a.wd [lD g us]).defers= [lD g us]:=by simp [Act.wd,hr.defers]
  rw [e]
  have hall:=l4 hr hvw (hdf.caps X w β hr.mem.b0)
  have hss:∀id cs,s0.get id=some cs→st.get id=some cs:=fun id cs h=>(lj hS h).1
  have hcall:=hc u hpn w (Xo false st s0 β X) (er s0 β) us fC (yB hr) (hr.gl.mono fun b o h=>⟨.inl h,rfl⟩)
    (fun id cs hg=>by
      have hst:=hss id cs hg
      have ho:=hr.mem.obj id cs hst
      have hf:=pT hg
      unfold OB at ho ⊢
      rw [lS hf]
      split
      · rename_i h';rw [h']at ho;exact ho
      · rename_i h';rw [h']at ho;exact ho
      · rename_i b N h'
        rw [h']at ho
        obtain⟨h1,h2,us,rest,ty,h3,h4,h5,h6⟩:=ho
        refine⟨.inr ⟨id,cs,hg,.bk b N,bd,rfl⟩,fun o h=>?_,us,rest,ty,h3,h4,?_,h6⟩
        · rcases h with h | ⟨h, _⟩
          · exact h2 o h
          · cases h
        · exact l4 hr (lj hS hg).2 h5
      · rename_i b h'
        rw [h']at ho
        obtain⟨h0,h1,h2,h3⟩:=ho
        refine⟨h0,.inr ⟨id,cs,hg,.mp b,bd,rfl⟩,fun o h=>?_,h3⟩
        rcases h with h|⟨h,_⟩
        · exact h2 o h
        · cases h)
    (fun i j ci cj b M N hij hi hj hbi hbj=>hr.mem.inj i j ci cj b M N hij (hss i ci hi) (hss j cj hj) (my hbi).2 (my hbj).2) hall
  refine⟨by simp,.inr ⟨(fun h=>by cases h),.func g,us.toArray,g,us.toArray,rfl,G1 hcal,fun _ _=>trivial,hcall.mono fun e' u' w' ⟨v,e1,e2,hpo⟩=>?_⟩⟩
  subst e1;subst e2
  obtain⟨r,β',X',st',⟨_,hR2⟩,hsup,hsub,hm,_⟩:=hpo
  obtain⟨m1,m2,m3,_,_⟩:=hm.after hr hss hsub hsup (upds:=upds) (fun p hp=>⟨hR2 p hp,(hu p hp).1,(hu p hp).2,.inl rfl⟩)
  have hr1:dZ w1 X0 n E (b6 s0 st upds) β _ a w':= .of (fun b o h=>(m2 b o (hr.x0 b o h)).1) (fun b o h=>by
      rcases m3 b o h with h|h
      · exact hr.xn b o h
      · exact .inr h) m1 (hr.gl.mono m2) hr.size hr.defers (fun s hs=>ew.lT m2 (hr.sslot s hs)) fun t v ht=>by
    obtain⟨u,h1,h2⟩:=hr.slot t v ht
    exact⟨u,h1,gj m2 _ _ β β (dE.refl β) h2⟩
  obtain⟨us',h1,h2⟩:=hv _ _ _ _ _ _ _ hr1.toRelQ
  have hr0:dZ w0 X0 n E (b6 s0 st upds) β _ a w':=hr1.jU hdf.w.symm hdf.M.symm .refl (fun id x hx=>hr1.mem.b0 id x (hdf.ext id x hx)) (fun s hs=>by rw [hs0]at hs;cases hs) (fun s hs=>by rw [hs0]at hs;cases hs) hr1.size hr1.defers hr1.slot
  exact⟨_,oa hrs h1,_,rfl,_,β,_,_,h,hr0.x0,hr0.xn,hr0.mem,sP h2⟩
theorem G4 {ρ:Operand→Value} {d:Option Nat} {ty:TypeId} {pos b6 g} {w:World}:(execOp ρ (⟨d,.call {callee:= .builtin .recover,args:= #[],argTypes:= #[]},ty,pos,b6,g⟩:Oper)).run P w= .ok .recover w:=rfl
theorem xc {Q:Exit→Act→List Frame→World→Prop} {a:Act} {cs:List Frame} {w:World} {ops:Array Oper} {o:Oper} {i:Nat} {rest:List Nat} {v:Value} (ho:ops[i]? =some o) (hg:o.guard=none) (hr:(execOp a.eval o).run P w= .ok (.value v) w) (h:wpOpsSIn (rF none) 0 P ops Q rest (a.put o.dst v) cs w):
    wpOpsSIn (rF none) 0 P ops Q (i::rest) a cs w:=by
  unfold wpOpsSIn
  rw [ho]
  refine⟨fun _ _=>trivial,?_⟩
  rw [if_pos bg,hr]
  exact h
theorem Nl {Q:Exit→Act→List Frame→World→Prop} {a:Act} {cs:List Frame} {w:World} {ops:Array Oper} {d:Option Nat} {ty:TypeId} {pos b6} {i:Nat} {rest:List Nat} (ho:ops[i]? =some ⟨d,.call {callee:= .builtin .recover,args:= #[],argTypes:= #[]},ty,pos,b6,none⟩) (hr:recoverD cs=none) (h:wpOpsSIn (rF none) 0 P ops Q rest (a.put d .nilIface) cs w):
    wpOpsSIn (rF none) 0 P ops Q (i::rest) a cs w:=by
  unfold wpOpsSIn
  rw [ho]
  refine⟨fun _ _=>trivial,?_⟩
  rw [if_pos a8,G4]
  simp only [hr]
  exact h
theorem Nm {Q:Exit→Act→List Frame→World→Prop} {a:Act} {cs cs':List Frame} {w:World} {ops:Array Oper} {d:Option Nat} {ty:TypeId} {pos b6} {i:Nat} {rest:List Nat} {v:Value} (ho:ops[i]? =some ⟨d,.call {callee:= .builtin .recover,args:= #[],argTypes:= #[]},ty,pos,b6,none⟩) (hr:recoverD cs=some (v,cs')) (h:wpOpsSIn (rF none) 0 P ops Q rest (a.put d v) cs' w):
    wpOpsSIn (rF none) 0 P ops Q (i::rest) a cs w:=by
  unfold wpOpsSIn
  rw [ho]
  refine⟨fun _ _=>trivial,?_⟩
  rw [if_pos a8,G4]
  simp only [hr]
  exact h
theorem AA {Q:Exit→Act→List Frame→World→Prop} {a:Act} {cs:List Frame} {w:World} {ops:Array Oper} (h:Q .normal a cs w):wpOpsSIn (rF none) 0 P ops Q [] a cs w:=h
theorem um {a:Act} {m:Nat} (ha:a.tmps.size=m) (t:Nat) (v:Value) (ht:t<m):(a.put (some t) v).eval (.tmp t)=v:=by
  have:t<a.tmps.size:=by omega
  simp [Act.put,Act.eval,this]
theorem r7 {a:Act} {m:Nat} (ha:a.tmps.size=m) (t:Nat) (v:Value):(a.put (some t) v).tmps.size=m:=by simp [Act.put,ha]
theorem zi {g:FuncId} {fn:Func} {k:Nat} {id1 id2 d2 d3 d4 d5:Nat} {y:Code} {ty1 ty2 ty3 ty4 ti tj:TypeId} {p1 p2 p3 p4:String} {a1 a2 a3 a4:Array Edge} (hf:P.funcs[g]? =some fn)
    (hb:fn.body=some (.seq (.region id1 #[⟨some d3,.call {callee:= .builtin .recover,args:= #[],argTypes:= #[]},ty1,p1,a1,none⟩,⟨some d2,.assign (.tmp d3),ty2,p2,a2,none⟩] false)
      (.seq (.region id2 #[⟨some d4,.move (.tmp d2),ty3,p3,a3,none⟩,⟨some d5,.binOp .neq ti (.tmp d4) (.const .nilIface) tj,ty4,p4,a4,none⟩] false) (.cond (.tmp d5) y .skip))))
    (hne:∀(w:World),(execOp (fun _=> .nilIface) (⟨some d5,.binOp .neq ti (.tmp d4) (.const .nilIface) tj,ty4,p4,a4,none⟩:Oper)).run P w= .ok (.value (.bool false)) w) (hres:fn.results= #[]) (hn:k≤fn.ntmps∧d2<fn.ntmps∧d3<fn.ntmps∧d4<fn.ntmps∧d5<fn.ntmps):sI P g k:=by
  obtain⟨n1,n2,n3,n4,n5⟩:=hn
  intro us w hl
  refine callsDIn_of_wpSIn hf hb trivial fun c₀ cs hu=>?_
  have hrec:recoverD (c₀::cs)=none:=by simp [recoverD,hu]
  obtain⟨a0,ha0⟩:∃a0:Act,a0= {tmps:=us.toArray++Array.replicate (fn.ntmps - us.toArray.size) undef,defers:= []}:=⟨_,rfl⟩
  have hs0:a0.tmps.size=fn.ntmps:=by rw [ha0];simp [hl];omega
  have hd0:a0.defers= []:=by rw [ha0]
  rw [←ha0]
  refine wpSIn_seq (wpSIn_region (Nl rfl hrec (xc (v:= .nilIface) rfl rfl ?_ (AA (wpSIn_seq (wpSIn_region (xc (v:= .nilIface) rfl rfl ?_ (xc (v:= .bool false) rfl rfl ?_ (AA (wpSIn_cond (t:=false) ?_ (wpSIn_of_wpIn rfl (wpIn_skip ?_))))))))))))
  · show Result.ok (Next.value ((a0.put (some d3) .nilIface).eval (.tmp d3))) w = _
    rw [um hs0 d3 _ n3]
  · show Result.ok (Next.value (((a0.put (some d3) .nilIface).put (some d2) .nilIface).eval (.tmp d2))) w = _
    rw [um (r7 hs0 _ _) d2 _ n2]
  · show (execOp (((a0.put (some d3) .nilIface).put (some d2) .nilIface).put (some d4) .nilIface).eval (⟨some d5, .binOp .neq ti (.tmp d4) (.const .nilIface) tj, ty4, p4, a4, none⟩ : Oper)).run P w = _
    rw [←hne w]
    have:=um (r7 (r7 hs0 d3 .nilIface) d2 .nilIface) d4 .nilIface n4
    simp only [execOp,this]
    rfl
  · exact um (r7 (r7 (r7 hs0 _ _) _ _) _ _) d5 _ n5
  · refine ⟨hd0, .returning, by rw [← hu], ?_⟩
    exact⟨.tuple #[],by simp [results,hres],⟨_,rfl⟩,rfl,rfl⟩
theorem zh {g:FuncId} {fn:Func} {args:List A} {s0:St} {pn:Value→Prop} {upds:List (Nat×List A)} {id1 d2 d3:Nat} {y:Code} {ty1 ty2:TypeId} {p1 p2:String} {a1 a2:Array Edge} (vA:A) (hpn:∀u,pn u→∀X w β,V X w β vA u) (hf:P.funcs[g]? =some fn)
    (hb:fn.body=some (.seq (.region id1 #[⟨some d3,.call {callee:= .builtin .recover,args:= #[],argTypes:= #[]},ty1,p1,a1,none⟩,⟨some d2,.assign (.tmp d3),ty2,p2,a2,none⟩] false) y))
    (hn:fn.ntmps=n) (hna:args.length≤n) (hn2:Nat.ble (d2+1) n=true) (hn3:Nat.ble (d3+1) n=true)
    (h:∀w0 X0,w0.ids=s0.os.map Prod.fst→At w0 X0 n ((d2,vA)::(d3,vA)::jA args 0) s0 (Pw [] (y.wpIn (rF none) 0 P (bodyPost P fn fun e w'=>∃v,e= .returned v∧Post w0 X0 (j7 (.tu []) upds) v w')))):sH P g args s0 pn upds:=by
  intro u hu w X β us hd hX hgl ho hi hv
  have hl:=fb hv
  refine callsDIn_of_wpSIn hf hb trivial fun c₀ cs hm=>?_
  have hrec:recoverD (c₀::cs)=some (u, {c₀ with mode:= .panicking [{v:=u,recovered:=true}]}::cs):=by simp [recoverD,hm]
  obtain⟨a0,ha0⟩:∃a0:Act,a0= {tmps:=us.toArray++Array.replicate (fn.ntmps - us.toArray.size) undef,defers:= []}:=⟨_,rfl⟩
  have hs0:a0.tmps.size=n:=by rw [ha0];simp [hn,hl];omega
  have hd0:a0.defers= []:=by rw [ha0]
  have hr0:dZ (bw w β s0 hd) X n (jA args 0) s0 β X a0 w:= .of (fun _ _ h=>h) (fun _ _ h=> .inl h) (.of ⟨rfl,rfl,rfl,Nat.le_refl _,fun _ _ _=>rfl,fun s hs=>by cases hs⟩ (dE.refl β) hX hd ho hi) hgl hs0 hd0 (fun s hs=>by cases hs) (fun t v ht=>by
    obtain⟨_,h2⟩:=nC _ _ _ _ ht
    simp only [Nat.sub_zero]at h2
    obtain⟨u,g1,g2⟩:=iO hv h2
    have hlt:=(List.getElem?_eq_some_iff.1 g1).1
    refine⟨u,?_,g2⟩
    rw [ha0,Array.getElem?_append,if_pos aZ]
    simpa using g1)
  have hrel:=(hr0.put hn3 (hpn u hu X w β)).put hn2 (hpn u hu X w β)
  have key:=h (bw w β s0 hd) X rfl _ w ⟨β,X,hrel⟩
  rw [←ha0]
  refine wpSIn_seq (wpSIn_region (Nm rfl hrec (xc (v:=u) rfl rfl ?_ (AA ?_))))
  · show Result.ok (Next.value ((a0.put (some d3) u).eval (.tmp d3))) w = _
    rw [um hs0 d3 _ (Nat.le_of_ble_eq_true hn3)]
  · refine wpSIn_of_wpIn rfl (wpIn_mono (mA key) fun e a' w' hq => ?_)
    cases e with
    |normal=>obtain⟨h1,v,h2,h3⟩:=hq;obtain⟨v',h4,h5⟩:=h3;exact⟨h1,_,rfl,v,h2,v',h4,rfl,h5⟩
    |ret=>obtain⟨h1,v,h2,h3⟩:=hq;obtain⟨v',h4,h5⟩:=h3;exact⟨h1,_,rfl,v,h2,v',h4,rfl,h5⟩
    |panic ch=>obtain⟨_,v,h4,_⟩:=hq;cases h4
    |exit id=>exact hq.elim
    |goto l=>exact hq.elim
    |outgrown=>obtain⟨v,h4,_⟩:=hq;cases h4
end
end Go.Abs
-- AbsZ
namespace Go.Eng
open Go
end Go.Eng
namespace Go.Abs
open Go Go.Eng
section
variable {P:Program} {E:Ev} {st:St}
theorem O9 {t T:TypeId} {z:Value} {ms:Array (String×TypeId)} (ht:P.underlying t=some (.interface ms)) (d:Nat) (w:World):(Op.equalIn (d+1) t (.iface T z) .nilIface).run P w= .ok false w:=by
  simp [Op.equalIn,run_underlying ht]
theorem Br {t T ty tj:TypeId} {x:Operand} {v:A} {ms:Array (String×TypeId)} (ht:P.underlying t=some (.interface ms)) (hx:ev E x=some (.ic T v)):YO P E st (.binOp .neq t x (.const .nilIface) tj) ty (.b true):=by
  intro w0 X0 n β X a w hr'
  obtain⟨h1,h2⟩:=hr'.c9 hx
  simp only [V]at h2
  obtain⟨z,h3,_⟩:=h2
  refine⟨.bool true,by simp only [V],fun d pos b6 g w' _=>?_⟩
  have heq:(Op.equalIn (9999+1) t (.iface T z) .nilIface).run P w'= .ok false w':=O9 ht _ _
  have e1:(binOp .neq t (.iface T z) .nilIface).run P w'= .ok (.bool true) w':=by
    show(do pure (.bool (!(←Op.equalIn (9999+1) t (.iface T z) .nilIface))):Sem Value).run P w'=_
    rw [Sem.run_bind,heq]
    rfl
  have e2:(eqGuard .neq t x (.const .nilIface) (.iface T z) .nilIface).run P w'= .ok () w':=rfl
  have e3:a.eval (.const .nilIface)= .nilIface:=rfl
  simp only [execOp,h3,e3]
  rw [Sem.run_bind,Sem.run_bind,e2]
  simp only [Result.andThen_ok]
  rw [e1]
  rfl
theorem Pb {t:TypeId} {ms:Array (String×TypeId)} (ht:P.underlying t=some (.interface ms)) (d:Nat) (w:World):(Op.equalIn (d+1) t .nilIface .nilIface).run P w= .ok true w:=by
  simp [Op.equalIn,run_underlying ht]
theorem AX {t ty tj:TypeId} {ms:Array (String×TypeId)} {d:Option Nat} {x:Nat} {pos:String} {b6:Array Edge} {g:Option (Nat×Bool)} (ht:P.underlying t=some (.interface ms)) (w:World):(execOp (fun _=> .nilIface) (⟨d,.binOp .neq t (.tmp x) (.const .nilIface) tj,ty,pos,b6,g⟩:Oper)).run P w= .ok (.value (.bool false)) w:=by
  have e1:(binOp .neq t .nilIface .nilIface).run P w= .ok (.bool false) w:=by
    show(do pure (.bool (!(←Op.equalIn (9999+1) t .nilIface .nilIface))):Sem Value).run P w=_
    rw [Sem.run_bind,Pb ht]
    rfl
  have e2:(eqGuard .neq t (.tmp x) (.const .nilIface) .nilIface .nilIface).run P w= .ok () w:=rfl
  simp only [execOp]
  rw [Sem.run_bind,Sem.run_bind,e2]
  simp only [Result.andThen_ok]
  rw [e1]
  rfl
end
theorem nt {s0:St} {i j:Nat} {ci cj di dj:List A} (h1:s0.get i=some ci) (h2:s0.get j=some cj) (h3:dF di) (h4:dF dj):∀p∈ [(i,di),(j,dj)],(∃cs,s0.get p.1=some cs)∧dF p.2:=fun p hp=>by
  rcases List.mem_cons.1 hp with rfl|hp
  · exact⟨⟨_,h1⟩,h3⟩
  · rw [List.mem_singleton.1 hp];exact⟨⟨_,h2⟩,h4⟩
theorem Nh {s0:St} {i:Nat} {ci di:List A} (h1:s0.get i=some ci) (h3:dF di):∀p∈ [(i,di)],(∃cs,s0.get p.1=some cs)∧dF p.2:=fun p hp=>by
  rw [List.mem_singleton.1 hp];exact⟨⟨_,h1⟩,h3⟩
end Go.Abs
-- C1R
namespace Go.Abs
theorem lg.imp {P:Program} {f:FuncId} {args:List A} {s0:St} {p q:Value→Prop} (h:lg P f args s0 p) (hpq:∀u,p u→q u):lg P f args s0 q:=fun w X β us hd h1 h2 h3 h4 h5=>
  let ⟨c,k⟩:=h w X β us hd h1 h2 h3 h4 h5
  ⟨c,k.mono fun _ _ he=>he.imp_right fun⟨u,e1,e2,e3⟩=>⟨u,e1,hpq u e2,e3⟩⟩
end Go.Abs
namespace Go.Abs.D2
open Go Go.Eng Go.Abs
@[simp] theorem CV.EY : ∀ l : List CV, (CV.dt l).length = l.length * 4
  | []=>rfl
  |v::l=>by rw [CV.dt,List.length_append,CV.jq,CV.EY l,List.length_cons];omega
theorem CV.Cp (l:List CV) (v:CV):CV.dt l++v.cells=CV.dt (l++ [v]):=by rw [CV.q8,CV.q8];simp
theorem CV.NO (l:List CV):dF (CV.dt l):=by rw [CV.q8];exact yn _ CV.Gi l
instance (l:List CV):fX (CV.dt l):=⟨CV.NO l⟩
theorem CV.s7 (l:List CV):((CV.dt l).drop 0).take (l.length*4)=CV.dt l:=by rw [List.drop_zero, ←CV.EY l,List.take_length]
theorem qC {a b c:A}:jK [a,b,c,.nl] [a,b,c,.fz 0 []]:= .cons (.eq rfl) (.cons (.eq rfl) (.cons (.eq rfl) (.cons .nl .nil)))
-- C1S
def zV:CV:= .mk 0 0 [] []
theorem Rd.CF {v:CV} (h:Rd 16 v):iI v=0:=by
  unfold iI;rw [if_pos h.1,if_pos h.2.1]
theorem Av (u:Nat):1≤(dz u).length:=by
  by_cases h:u<128
  · rw [ue h];simp
  · rw [ud h];simp
theorem CV.A6 : ∀ (n : Nat) (v : CV), v.size ≤ n → v.okB = true → v.size + 1 ≤ v.enc.length
  |0,v,h,_=>by cases v;simp only [CV.size]at h;omega
  | n + 1, .mk k m s l, h, ho => by
    simp only [CV.size]at h
    have hl:∀(q:List CV),CV.gM q≤n→CV.lL q=true→CV.gM q≤(CV.dQ q).length:=by
      intro q
      induction q with
      |nil=>intro _ _;exact Nat.zero_le _
      | cons a q ih =>
        intro hq hoq
        simp only [CV.gM]at hq
        simp only [CV.lL,Bool.and_eq_true]at hoq
        have h1:=CV.A6 n a aq hoq.1
        have h2:=ih aq hoq.2
        simp only [CV.dQ,CV.gM,List.length_append];omega
    simp only [CV.size]
    rcases ui ho with rfl|rfl|⟨rfl,hol⟩
    · rw [CV.okB, if_pos rfl] at ho
      simp only [Bool.and_eq_true,List.isEmpty_iff]at ho
      obtain⟨rfl,rfl⟩:=ho
      have:=Av (iu m)
      rw [CV.enc,if_pos rfl,List.length_cons];simp only [CV.gM];omega
    · rw [CV.okB, if_neg aq, if_pos rfl] at ho
      simp only [Bool.and_eq_true,List.isEmpty_iff,decide_eq_true_eq]at ho
      obtain⟨rfl,rfl⟩:=ho
      have:=Av s.length
      rw [CV.enc,if_neg aq,if_pos rfl,List.length_cons,List.length_append];simp only [CV.gM];omega
    · have := Av l.length
      have:=hl l aq hol
      rw [CV.enc,if_neg aq,if_neg aq,List.length_cons,List.length_append];omega
end Go.Abs.D2
