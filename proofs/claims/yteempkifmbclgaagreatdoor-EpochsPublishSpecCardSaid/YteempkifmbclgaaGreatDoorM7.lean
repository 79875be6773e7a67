/-
  The engine, the plain laws and the walks that the rows need, part 7. Conditions: none.
-/
import Derived.Test.YteempkifmbclgaaGreatDoorM6
set_option linter.unusedVariables false
set_option linter.unusedSimpArgs false
set_option maxHeartbeats 1000000
set_option maxRecDepth 10000
-- AbsC
namespace Go.Abs
open Go Go.Eng
def dS (β:Bm) (id:Nat) (x:BL):Bm:=fun k=>if k=id then some x else β k
theorem en {β:Bm} {id x} (h:β id=none):dE β (dS β id x):=fun k y hk=>by
  unfold dS
  split
  · rename_i e;subst e;rw [h]at hk;cases hk
  · exact hk
theorem dA {β:Bm} {id x}:dS β id x id=some x:=if_pos rfl
theorem dV {β:Bm} {id x k} (h:k≠id):dS β id x k=β k:=if_neg h
section
variable {P:Program} {w0:Bw} {X0:Xs} {n:Nat} {E:Ev} {st:St} {β:Bm} {X:Xs} {a:Act} {w:World} {Q:Exit→Act→World→Prop} {K:Act→World→Prop}
theorem dZ.next (hr:dZ w0 X0 n E st β X a w) {a1:Act} {w1:World} {β':Bm} {X':Xs} {st':St} {d:Nat} {u:Value} {v:A} (hrep:fa a.tmps.size ((d,u)::full a) a1)
    (hx:dW X X' w w1) (hn:∀b o,X' b o→X b o∨w0.own b) (hb:dE β β') (hm:Mem w0 β' X' st' w1) (hv:V X' w1 β' v u):dZ w0 X0 n ((d,v)::E) st' β' X' a1 w1:=by
  refine .of (fun b o h=>(hx b o (hr.x0 b o h)).1) (fun b o h=>(hn b o h).elim (hr.xn b o) .inr) (hm) (hr.gl.mono hx) (hrep.size.trans hr.size) (hrep.defers) (fun s hs=>ew.lT hx (hr.sslot s hs)) (fun t v' ht=>?_)
  simp only [Ev.cF]at ht
  cases hbq:Nat.beq d t with
  | true =>
    rw [hbq]at ht
    have:d=t:=Nat.eq_of_beq_eq_true hbq
    subst this
    simp only [cond_true,Option.some.injEq]at ht
    subst ht
    exact⟨u,hrep.slot d u (by simp [Env.cF]),hv⟩
  | false =>
    rw [hbq]at ht
    obtain⟨u',h1,h2⟩:=hr.slot t v' ht
    have hlt:=(Array.getElem?_eq_some_iff.1 h1).1
    refine⟨u',hrep.slot t u' ?_,gj hx _ _ _ _ hb h2⟩
    simp only [Env.cF,hbq,cond_false,v7,if_pos hlt]
    rw [Array.getD_eq_getD_getElem?,h1];rfl
theorem dZ.fQ (hr:dZ w0 X0 n E st β X a w) {a1:Act} {w1:World} {β':Bm} {X':Xs} {st':St} (hrep:fa a.tmps.size (full a) a1)
    (hx:dW X X' w w1) (hn:∀b o,X' b o→X b o∨w0.own b) (hb:dE β β') (hm:Mem w0 β' X' st' w1):dZ w0 X0 n E st' β' X' a1 w1:=by
  refine .of (fun b o h=>(hx b o (hr.x0 b o h)).1) (fun b o h=>(hn b o h).elim (hr.xn b o) .inr) (hm) (hr.gl.mono hx) (hrep.size.trans hr.size) (hrep.defers) (fun s hs=>ew.lT hx (hr.sslot s hs)) (fun t v' ht=>?_)
  obtain⟨u',h1,h2⟩:=hr.slot t v' ht
  have hlt:=(Array.getElem?_eq_some_iff.1 h1).1
  refine⟨u',hrep.slot t u' ?_,gj hx _ _ _ _ hb h2⟩
  rw [v7,if_pos hlt,Array.getD_eq_getD_getElem?,h1];rfl
theorem OB.later {β':Bm} {X':Xs} {w1:World} {id:Nat} {cs:List A} (h:OB β X w w0 id cs) (hx:dW X X' w w1) (hb:dE β β') (hne:∀b N,β id=some (.bk b N)→w1.heap[b]? =w.heap[b]? ∧∀o,¬X' b o)
    (hnm:∀b,β id=some (.mp b)→w1.heap[b]? =w.heap[b]? ∧∀o,¬X' b o):OB β' X' w1 w0 id cs:=by
  unfold OB at*
  split at h
  · exact h.elim
  · rename_i he;rw [hb _ _ he];exact h
  · rename_i b N he
    rw [hb _ _ he]
    obtain⟨h1,h2,us,rest,ty,h3,h4,h5,h6⟩:=h
    obtain⟨g1,g2⟩:=hne b N he
    exact⟨h1,g2,us,rest,ty,g1.trans h3,h4,gP hx _ _ _ _ hb h5,h6⟩
  · rename_i b he
    rw [hb _ _ he]
    obtain⟨h0,h1,h2,f,es,clk,h3,h4,h5⟩:=h
    obtain⟨g1,g2⟩:=hnm b he
    exact⟨h0,h1,g2,f,es,clk,h3,g1.trans h4,h5⟩
theorem OB.gB {id:Nat} {cs:List A} {b:Nat} (h:OB β X w w0 id cs) (hb:β id=some (.mp b)):id=ec∧w0.own b∧(∀o,¬X b o)∧∃f es clk,cs= [.mc b f]∧w.heap[b]? =some (.map es clk)∧Eng.fG es clk f:=by
  unfold OB at h;rwa [hb]at h
theorem OB.pZ {id:Nat} {cs:List A} {b:Nat} (h:OB β X w w0 id cs) (hb:β id=some (.mp b)):b<w.heap.size:=by
  obtain⟨_,_,_,_,es,clk,_,h4,_⟩:=h.gB hb
  exact(Array.getElem?_eq_some_iff.1 h4).1
theorem OB.mT {id:Nat} {cs:List A} {y:BL} {b:Nat} (h:OB β X w w0 id cs) (hy:β id=some y) (hb:y.on b):b<w.heap.size∧w0.own b∧∀o,¬X b o:=by
  cases y with
  |ph=>exact hb.elim
  | bk q N =>
    cases hb
    unfold OB at h;rw [hy]at h
    obtain⟨h1,h2,us,rest,ty,h3,_⟩:=h
    exact⟨(Array.getElem?_eq_some_iff.1 h3).1,h1,h2⟩
  | mp q =>
    cases hb
    exact⟨h.pZ hy,(h.gB hy).2.1,(h.gB hy).2.2.1⟩
theorem OB.Nb {id:Nat} {cs:List A} {y:BL} {b:Nat} (h:OB β X w w0 id cs) (hy:β id=some y) (hb:y.on b):¬(w.heap[b]? =some (Obj.deferred (some []))∨∃r:Loop,w.heap[b]? =some (Obj.loop r)):=by
  cases y with
  |ph=>exact hb.elim
  | bk q N =>
    cases hb
    unfold OB at h;rw [hy]at h
    obtain⟨_,_,us,rest,ty,h3,_⟩:=h
    rw [h3]
    rintro(h|⟨_,h⟩)<;>simp [row]at h
  | mp q =>
    cases hb
    obtain⟨_,_,_,_,es,clk,_,h4,_⟩:=h.gB hy
    rw [h4]
    rintro(h|⟨_,h⟩)<;>cases h
theorem MemQ.apart {i j:Nat} {ci cj:List A} {x y:BL} {b:Nat} {st:St} (hm:MemQ w0 β X st w) (hij:i≠j) (hi:st.get i=some ci) (hj:st.get j=some cj) (hx:β i=some x) (hy:β j=some y) (hb:x.on b) (hc:y.on b):False:=by
  have oi:=hm.obj i ci hi
  have oj:=hm.obj j cj hj
  cases x with
  |ph=>exact hb
  | bk q N =>
    cases hb
    cases y with
    |ph=>exact hc
    |bk q' N'=>cases hc;exact hm.inj i j ci cj _ _ _ hij hi hj hx hy
    | mp q' =>
      cases hc
      have oi2:=oi
      unfold OB at oi2;rw [hx]at oi2
      obtain⟨_,_,us,rest,ty,h3,_⟩:=oi2
      obtain⟨_,_,_,_,es,clk,_,h4,_⟩:=oj.gB hy
      rw [h3]at h4;cases h4
  | mp q =>
    cases hb
    cases y with
    |ph=>exact hc
    | bk q' N' =>
      cases hc
      have oj2:=oj
      unfold OB at oj2;rw [hy]at oj2
      obtain⟨_,_,us,rest,ty,h3,_⟩:=oj2
      obtain⟨_,_,_,_,es,clk,_,h4,_⟩:=oi.gB hx
      rw [h3]at h4;cases h4
    |mp q'=>exact hij ((oi.gB hx).1.trans (oj.gB hy).1.symm)
theorem OB.Fy {id:Nat} {cs:List A} {b q:Nat} {ty:TypeId} {vs:List Value} (h:OB β X w w0 id cs) (hb:β id=some (.mp b)) (hq:w.heap[q]? =some (row ty vs)):b≠q:=fun e=>by
  obtain⟨_,_,_,_,es,clk,_,h4,_⟩:=h.gB hb
  rw [e,hq]at h4
  cases h4
theorem Mem.push (hm : Mem w0 β X st w) {w1 : World} {b N : Nat} (id : Nat) (hf : st.free id = true) {cs : List A} {us rest : List Value} {ty : TypeId} (hbel : RowKit.Below w.heap.size w w1) (hb : w.heap.size ≤ b) (hw : w1.heap[b]? = some (row ty (us ++ rest))) (hN : us.length + rest.length = N)
    (hv:VS X w1 (dS β id (.bk b N)) cs us) (h1:∀x∈us,x.oneCell'=true):Mem w0 (dS β id (.bk b N)) X (st.put id cs) w1:=by
  have hx:dW X X w w1:=fun q o h=>⟨h,World.cell?_of_block (w:=w) (hbel.block q (hm.xlt q o h))⟩
  have hnx:=hm.dom id hf
  refine .of (hm.below.trans hbel) (fun k y h=>(en hnx) k y (hm.b0 k y h)) (fun q o h=>Nat.lt_of_lt_of_le (hm.xlt q o h) hbel.size) (fun k h=>?_) (fun k ds hg=>?_) (fun i j ci cj q M N' hij hi hj hbi hbj=>?_)
  · rw [St.gF] at h
    split at h
    · cases h
    · rename_i hne
      rw [dV (fun e=>hne e.symm)]
      exact hm.dom k h
  · rw [St.ef] at hg
    split at hg
    · rename_i e; subst e
      simp only [Option.some.injEq]at hg
      subst hg
      unfold OB
      rw [dA]
      exact⟨Bw.mr hm.below hb,fun o h=>absurd (hm.xlt b o h) aq,us,rest,ty,hw,hN,hv,h1⟩
    · refine (hm.obj k ds hg).later hx (en hnx) (fun q M hq => ?_) fun q hq => ⟨hbel.block q ((hm.obj k ds hg).pZ hq), ((hm.obj k ds hg).gB hq).2.2.1⟩
      have ho:=hm.obj k ds hg
      unfold OB at ho
      rw [hq]at ho
      obtain⟨_,h2,us',rest',ty',h3,_⟩:=ho
      exact⟨hbel.block q (Array.getElem?_eq_some_iff.1 h3).1,h2⟩
  · have hold : ∀ k ck, st.get k = some ck → ∀ q M, β k = some (.bk q M) → q < w.heap.size := by
      intro k ck hk q M hq
      have ho:=hm.obj k ck hk
      unfold OB at ho
      rw [hq]at ho
      obtain⟨_,_,us',rest',ty',h3,_⟩:=ho
      exact(Array.getElem?_eq_some_iff.1 h3).1
    rw [St.ef]at hi hj
    by_cases ei:id=i
    · by_cases ej : id = j
      · omega
      · rw [if_neg ej] at hj
        rw [←ei,dA]at hbi
        rw [dV aq]at hbj
        have:=hold j cj hj q N' hbj
        simp only [Option.some.injEq,BL.bk.injEq]at hbi
        omega
    · rw [if_neg ei] at hi
      rw [dV aq]at hbi
      by_cases ej:id=j
      · rw [← ej, dA] at hbj
        have:=hold i ci hi q M hbi
        simp only [Option.some.injEq,BL.bk.injEq]at hbj
        omega
      · rw [if_neg ej] at hj
        rw [dV aq]at hbj
        exact hm.inj i j ci cj q M N' hij hi hj hbi hbj
theorem tO {H:List (Nat×Obj)} {w1:World} (h:Eng.Good [w] H w1) (hH:H.all (fun p=>decide (w.heap.size≤p.1))=true):RowKit.Below w.heap.size w w1:=Eng.Good.below h (.head _) (by simpa using hH)
theorem dW.oQ (hm:∀b o,X b o→b<w.heap.size) {w1:World} (hbel:RowKit.Below w.heap.size w w1):dW X X w w1:=fun q o h=>⟨h,World.cell?_of_block (w:=w) (hbel.block q (hm q o h))⟩
theorem pG:∀(l:List Value),VS X w β (l.map cn) l
  | []=>fM
  |v::l=>eV (yw v) (pG l)
theorem cI {d:Nat} (id:Nat) (hf:st.free id=true) {t ty:TypeId} {pos b6 g} {size by' zero agg} (ht:TI P t size by' zero agg) (h1:zero.all (·.oneCell')=true) (hd:Nat.ble (d+1) n=true)
    (h:At w0 X0 n ((d,.p id 0)::E) (st.put id (zero.map cn)) K):At w0 X0 n E st (fun a w=>(⟨some d,.alloc t,ty,pos,b6,g⟩:Oper).wp P a w K Q):=by
  rintro a w ⟨β,X,hr⟩
  refine Eng.cI (S:= [w]) (H:= []) (E:=full a) (n:=a.tmps.size) ht aT (fun b hS hH a1 w1 hR hG=>?_) a w (gq a hr.defers) (Eng.Good.start w)
  have hb:w.heap.size≤b:=hS.1
  have hbel:=tO hG (by simp [hb])
  have hw:=hG.own (b,row t zero) (.head _)
  simp only at hw
  have hm:=hr.mem.push id hf (cs:=zero.map cn) (us:=zero) (rest:= []) (ty:=t) hbel hb (by simpa using hw) rfl (pG zero) (by simpa using h1)
  exact h a1 w1 ⟨_,X,hr.next hR (dW.oQ hr.mem.xlt hbel) (fun _ _ h=> .inl h) (en (hr.mem.dom id hf)) hm (by simp only [V];exact⟨b,_,dA,rfl⟩)⟩
def cw:A→List A
  | .ag cs=>cs
  |v=> [v]
def one:A→Bool
  | .ag _=>false
  | .raw v=>v.oneCell'
  | .tu _=>false
  |_=>true
theorem yy {v:A} {u:Value} (h:one v=true) (hv:V X w β v u):u.oneCell'=true:=by
  cases v<;>simp only [V]at hv
  case b=>subst hv;rfl
  case i=>subst hv;rfl
  case s=>subst hv;rfl
  case nl=>subst hv;rfl
  case fz=>obtain⟨_,_,rfl,_⟩:=hv;rfl
  case fp=>obtain⟨_,_,rfl,_⟩:=hv;rfl
  case p=>obtain⟨_,_,_,rfl⟩:=hv;rfl
  case sl=>rcases hv with ⟨_,_,_,rfl⟩|⟨_,_,_,_,rfl,_⟩<;>rfl
  case ag=>cases h
  case tu=>cases h
  case fn=>obtain⟨_,_,rfl,_⟩:=hv;rfl
  case ic=>obtain⟨_,rfl,_⟩:=hv;rfl
  case raw=>subst hv;exact h
theorem uY {v:A} {u:Value} {cs:List A} (hc:cw v=cs) (h1:one v=true∨∃ds,v= .ag ds) (hv:V X w β v u):∃us,u.cells=us.toArray∧VS X w β cs us∧∀x∈us,x.oneCell'=true:=by
  rcases h1 with h1|⟨ds,rfl⟩
  · have ho := yy h1 hv
    have:cs= [v]:=by rw [←hc];cases v<;>first|rfl|cases h1
    subst this
    exact⟨[u],Cq ho,eV hv fM,by simpa using ho⟩
  · simp only [V] at hv
    obtain⟨us,rfl,h2,h3⟩:=hv
    subst hc
    exact⟨us,rfl,h2,h3⟩
def lz:A→Bool
  | .ag _=>true
  |v=>one v
theorem tP (v:A) (h:lz v=true):one v=true∨∃ds,v= .ag ds:=by
  cases v<;>first|exact .inl rfl|exact .inr ⟨_,rfl⟩|exact .inl h
theorem ua {d:Nat} (id:Nat) (hf:st.free id=true) {t ty:TypeId} {pos b6 g} {x:Operand} {v:A} {cs:List A} (hx:ev E x=some v) (hc:cw v=cs) (h1:lz v=true) (hd:Nat.ble (d+1) n=true)
    (h:At w0 X0 n ((d,.p id 0)::E) (st.put id cs) K):At w0 X0 n E st (fun a w=>(⟨some d,.box t x,ty,pos,b6,g⟩:Oper).wp P a w K Q):=by
  rintro a w ⟨β,X,hr⟩
  obtain⟨e1,e2⟩:=hr.c9 hx
  obtain⟨us,g1,g2,g3⟩:=uY hc (tP v h1) e2
  refine Eng.ua (S:= [w]) (H:= []) (E:=full a) (n:=a.tmps.size) e1 g1 aT (fun b hS hH a1 w1 hR hG=>?_) a w (gq a hr.defers) (Eng.Good.start w)
  have hb:w.heap.size≤b:=hS.1
  have hbel:=tO hG (by simp [hb])
  have hw:=hG.own (b,row t us) (.head _)
  simp only at hw
  have hnx:=hr.mem.dom id hf
  have hx':=dW.oQ hr.mem.xlt hbel
  have hm:=hr.mem.push id hf (cs:=cs) (us:=us) (rest:= []) (ty:=t) hbel hb (by simpa using hw) rfl (gP hx' _ _ _ _ (en hnx) g2) g3
  exact h a1 w1 ⟨_,X,hr.next hR hx' (fun _ _ h=> .inl h) (en hnx) hm (by simp only [V];exact⟨b,_,dA,rfl⟩)⟩
theorem vq {v:A} (h:one v=true):cw v= [v]:=by cases v<;>first|rfl|cases h
theorem yZ {v:A} (h:one v=true):lz v=true:=by cases v<;>first|rfl|cases h|exact h
theorem cX {d:Nat} (id:Nat) (hf:st.free id=true) {t ty:TypeId} {pos b6 g} {x:Operand} {cs:List A} (hx:ev E x=some (.ag cs)) (hd:Nat.ble (d+1) n=true)
    (h:At w0 X0 n ((d,.p id 0)::E) (st.put id cs) K):At w0 X0 n E st (fun a w=>(⟨some d,.box t x,ty,pos,b6,g⟩:Oper).wp P a w K Q):=ua id hf hx rfl rfl hd h
theorem mP {d:Nat} (id:Nat) (hf:st.free id=true) {t ty:TypeId} {pos b6 g} {x:Operand} {v:A} (hx:ev E x=some v) (h1:one v=true) (hd:Nat.ble (d+1) n=true)
    (h:At w0 X0 n ((d,.p id 0)::E) (st.put id [v]) K):At w0 X0 n E st (fun a w=>(⟨some d,.box t x,ty,pos,b6,g⟩:Oper).wp P a w K Q):=ua id hf hx (vq h1) (yZ h1) hd h
theorem Mem.write (hm:Mem w0 β X st w) {w1:World} {id b N:Nat} {cs cs':List A} {us' rest':List Value} {ty:TypeId} (hg:st.get id=some cs) (hβ:β id=some (.bk b N))
    (hG:Eng.Good [w] [(b,row ty (us'++rest'))] w1) (hl:us'.length+rest'.length=N) (hv:VS X w β cs' us') (h1:∀x∈us',x.oneCell'=true):Mem w0 β X (st.put id cs') w1∧dW X X w w1:=by
  have ho:=hm.obj id cs hg
  unfold OB at ho
  rw [hβ]at ho
  obtain⟨o1,o2,_,_,_,hrowb,_⟩:=ho
  have hsn:=hG.snap w (.head _)
  have hblk:∀k,k<w.heap.size→k≠b→w1.heap[k]? =w.heap[k]? :=fun k hk hne=>hsn.blk k hk (fun p hp=>by simp only [List.mem_singleton]at hp;subst hp;exact fun e=>hne e.symm)
  have hx:dW X X w w1:=fun q o h=>⟨h,World.cell?_of_block (w:=w) (hblk q (hm.xlt q o h) (fun e=>by subst e;exact o2 o h))⟩
  have hw1:=hG.own _ (.head _)
  simp only at hw1
  have hget:∀k,(st.put id cs').get k=if id=k then some cs' else st.get k:=fun k=>St.ef
  refine⟨.of (⟨hsn.os.trans hm.below.os,hsn.tape.trans hm.below.tape,hsn.output.trans hm.below.output,Nat.le_trans hm.below.size hsn.size,fun k hk hkm=>?_,fun s hs=>ew.rJ (hm.below.sus s hs) fun k hk=>hblk k (by rcases hk with hk|⟨_,hk⟩<;>exact(Array.getElem?_eq_some_iff.1 hk).1) (fun e=>by subst e;rw [hrowb]at hk;rcases hk with hk|⟨_,hk⟩<;>simp [row]at hk)⟩) (hm.b0) (fun q o h=>Nat.lt_of_lt_of_le (hm.xlt q o h) hsn.size) (fun k hk=>hm.dom k (by rw [St.gF]at hk;split at hk;cases hk;exact hk)) (fun k ds hk=>?_) (fun i j ci cj q M N' hij hi hj hbi hbj=>?_),hx⟩
  · rw [hblk k (Nat.lt_of_lt_of_le hk hm.below.size) (fun e => by subst e; rcases o1 with h | h; omega; exact hkm h)]
    exact hm.below.block k hk hkm
  · rw [hget] at hk
    split at hk
    · rename_i e; subst e
      simp only [Option.some.injEq]at hk
      subst hk
      unfold OB
      rw [hβ]
      exact⟨o1,o2,us',rest',ty,hw1,hl,gP hx _ _ _ _ (dE.refl β) hv,h1⟩
    · rename_i hne
      refine(hm.obj k ds hk).later hx (dE.refl β) (fun q M hq=>?_) fun q hq=>⟨hblk q ((hm.obj k ds hk).pZ hq) ((hm.obj k ds hk).Fy hq hrowb),((hm.obj k ds hk).gB hq).2.2.1⟩
      have ho:=hm.obj k ds hk
      unfold OB at ho
      rw [hq]at ho
      obtain⟨_,h2,us'',rest'',ty'',h3,_⟩:=ho
      exact⟨hblk q (Array.getElem?_eq_some_iff.1 h3).1 fun e=>hm.inj id k cs ds b N M hne hg hk hβ (by rw [hq,e]),h2⟩
  · have hgi : ∃ c, st.get i = some c := by rw [hget] at hi; split at hi; rename_i e; subst e; exact ⟨cs, hg⟩; exact ⟨ci, hi⟩
    have hgj:∃c,st.get j=some c:=by rw [hget]at hj;split at hj;rename_i e;subst e;exact⟨cs,hg⟩;exact⟨cj,hj⟩
    obtain⟨c1,hi'⟩:=hgi
    obtain⟨c2,hj'⟩:=hgj
    exact hm.inj i j c1 c2 q M N' hij hi' hj' hbi hbj
theorem nU {b:Nat} {o:Obj} (h:w.heap[b]? =some o):Eng.Good [w] [(b,o)] w:=
  ⟨fun s hs=>by simp only [List.mem_singleton]at hs;subst hs;exact⟨rfl,rfl,rfl,Nat.le_refl _,fun _ _ _=>rfl⟩,fun p hp=>by simp only [List.mem_singleton]at hp;subst hp;exact h,List.pairwise_singleton _ _⟩
theorem ky {t ty:TypeId} {size by' zero agg} {pos b6 g} {x y:Operand} {id o:Nat} {cs cs' ds:List A} {v:A} (ht:TI P t size by' zero agg) (hx:ev E x=some (.p id o)) (hy:ev E y=some v) (hg:st.get id=some cs) (hc:cw v=ds)
    (h1:lz v=true) (hl:ds.length=size) (hfit:o+size≤cs.length) (hcs:cs.take o++ds++cs.drop (o+size)=cs')
    (h:At w0 X0 n E (st.put id cs') K):At w0 X0 n E st (fun a w=>(⟨none,.store t x y,ty,pos,b6,g⟩:Oper).wp P a w K Q):=by
  rintro a w ⟨β,X,hr⟩
  obtain⟨e1,e2⟩:=hr.c9 hx
  obtain⟨e3,e4⟩:=hr.c9 hy
  obtain⟨us,g1,g2,g3⟩:=uY hc (tP v h1) e4
  simp only [V]at e2
  obtain⟨b,N,hβ,e5⟩:=e2
  rw [e5]at e1
  have ho:=hr.mem.obj id cs hg
  unfold OB at ho
  rw [hβ]at ho
  obtain⟨o1,o2,us0,rest,ety,o3,o4,o5,o6⟩:=ho
  have hlu:=fb o5
  have hus:=fb g2
  subst hl
  have hle:us0.take o++us++us0.drop (o+us.length)++rest=(us0++rest).take o++us++(us0++rest).drop (o+us.length):=by
    rw [List.take_append_of_le_length aq,List.drop_append_of_le_length aq];simp
  refine Eng.ky (S:= [w]) (H:= [(b,row ety (us0++rest))]) (E:=full a) (n:=a.tmps.size) 0 ht e1 e3 g1 rfl hus g3 aE _ hle.symm (fun a1 w1 hR hG=>?_) a w (gq a hr.defers) (nU o3)
  have hv:VS X w β cs' (us0.take o++us++us0.drop (o+us.length)):=by
    rw [←hcs,hus]
    exact gZ (gZ (j8 o5 o) g2) (ll o5 _)
  have h1':∀z∈us0.take o++us++us0.drop (o+us.length),z.oneCell'=true:=by
    intro z hz
    simp only [List.mem_append]at hz
    rcases hz with (hz|hz)|hz
    · exact o6 z (List.mem_of_mem_take hz)
    · exact g3 z hz
    · exact o6 z (List.mem_of_mem_drop hz)
  obtain⟨hm,hx'⟩:=hr.mem.write (cs':=cs') hg hβ hG aE hv h1'
  exact h a1 w1 ⟨β,X,hr.fQ hR hx' (fun _ _ h=> .inl h) (dE.refl β) hm⟩
theorem dI {t ty:TypeId} {by' zero agg} {pos b6 g} {x y:Operand} {id o:Nat} {cs cs':List A} {v:A} (ht:TI P t 1 by' zero agg) (hx:ev E x=some (.p id o)) (hy:ev E y=some v) (hg:st.get id=some cs)
    (h1:one v=true) (hfit:o<cs.length) (hcs:cs.set o v=cs')
    (h:At w0 X0 n E (st.put id cs') K):At w0 X0 n E st (fun a w=>(⟨none,.store t x y,ty,pos,b6,g⟩:Oper).wp P a w K Q):=
  ky (ds:= [v]) ht hx hy hg (by cases v<;>first|rfl|cases h1) (by cases v<;>first|rfl|cases h1|exact h1) rfl aq (by rw [←hcs,List.set_eq_take_append_cons_drop,if_pos hfit];simp) h
theorem cD {t ty:TypeId} {size by' zero agg} {pos b6 g} {x y:Operand} {id:Nat} {cs ds:List A} (ht:TI P t size by' zero agg) (hx:ev E x=some (.p id 0)) (hy:ev E y=some (.ag ds)) (hg:st.get id=some cs) (hl:ds.length=size) (hc:cs.length=size)
    (h:At w0 X0 n E (st.put id ds) K):At w0 X0 n E st (fun a w=>(⟨none,.store t x y,ty,pos,b6,g⟩:Oper).wp P a w K Q):=
  ky ht hx hy hg rfl rfl hl aq (by rw [List.take_zero,Nat.zero_add,List.drop_eq_nil_of_le aq];simp [cw]) h
theorem rS {d:Nat} (id:Nat) (hf:st.free id=true) {t e:TypeId} {by':Nat} {z:Value} {agg} {x y:Operand} {k k':IntKind} {iv jv:Int} {ty:TypeId} {pos b6 g} (l c:Nat) (ht:P.underlying t=some (.slice e)) (he:TI P e 1 by' [z] agg) (hz:z.oneCell'=true)
    (hx:ev E x=some (.i k iv)) (hy:ev E y=some (.i k' jv)) (hl:iv=(l:Int)) (hc:jv=(c:Int)) (hlc:l≤c) (hby:by'*c≤281474976710656) (hc63:c≤9223372036854775807) (hd:Nat.ble (d+1) n=true)
    (h:At w0 X0 n ((d,.sl id 1 0 l)::E) (st.put id (List.replicate l (cn z))) K):
    At w0 X0 n E st (fun a w=>(⟨some d,.makeSlice t x y,ty,pos,b6,g⟩:Oper).wp P a w K Q):=by
  rintro a w ⟨β,X,hr⟩
  obtain⟨e1,e2⟩:=hr.c9 hx
  obtain⟨e3,e4⟩:=hr.c9 hy
  rw [iE]at e2 e4
  rw [e2]at e1;rw [e4]at e3
  refine Eng.rS (S:= [w]) (H:= []) (E:=full a) (n:=a.tmps.size) l c ht he e1 e3 hl hc hlc hby hc63 aT (fun b hS hH a1 w1 hR hG=>?_) a w (gq a hr.defers) (Eng.Good.start w)
  have hb:w.heap.size≤b:=hS.1
  have hbel:=tO hG (by simp [hb])
  have hw:=hG.own _ (.head _)
  simp only at hw
  have hm:=hr.mem.push id hf (cs:=List.replicate l (cn z)) (us:=List.replicate l z) (rest:=List.replicate (c - l) z) (ty:=e) (N:=c) hbel hb (by rw [hw];simp only [row,List.replicate_append_replicate];rw [show l+(c - l)=c by omega]) aE
    (by have:=pG (X:=X) (w:=w1) (β:=dS β id (.bk b c)) (List.replicate l z);simpa using this) (by intro q hq;rw [List.eq_of_mem_replicate hq];exact hz)
  exact h a1 w1 ⟨_,X,hr.next hR (dW.oQ hr.mem.xlt hbel) (fun _ _ h=> .inl h) (en (hr.mem.dom id hf)) hm (by simp only [V];exact .inr ⟨b,c,c,dA,rfl,hlc,by simp only [maxLen];omega,by omega⟩)⟩
def iM (E : Ev) : List (Nat × Operand) → Nat → Option (List A)
  | [],_=>some []
  | (i, x) :: r, k =>
    match Nat.beq i k,ev E x,iM E r (k+1)with
    |true,some v,some vs=>some (v::vs)
    |_,_,_=>none
def jD:List A→List A
  | []=> []
  |v::r=>cw v++jD r
theorem AI (hr : dZ w0 X0 n E st β X a w) {size : Nat} : ∀ {parts : List (Nat × Operand)} {k : Nat} {vs : List A}, iM E parts k = some vs → (∀ v ∈ vs, (one v = true ∨ ∃ ds, v = .ag ds) ∧ (cw v).length = size) →
    ∃us:List (Value×List Value),iP (full a) parts=some (ib us k)∧us.length=vs.length∧(∀p∈us,p.1.cells=p.2.toArray∧p.2.length=size)∧VS X w β (jD vs) (flat us)∧∀x∈flat us,x.oneCell'=true
  | [],k,vs,h,_=>by simp only [iM,Option.some.injEq]at h;subst h;exact⟨[],rfl,rfl,(fun p hp=>by cases hp),fM,(fun x hx=>by cases hx)⟩
  | (i, x) :: r, k, vs, h, hv => by
    simp only [iM]at h
    split at h
    · rename_i v vs' hik hx hrest
      simp only [Option.some.injEq]at h
      subst h
      have:i=k:=Nat.eq_of_beq_eq_true hik
      subst this
      obtain⟨us,g1,g2,g3,g4,g5⟩:=AI hr hrest (fun q hq=>hv q (.tail _ hq))
      obtain⟨e1,e2⟩:=hr.c9 hx
      obtain⟨h1,h2⟩:=hv v (.head _)
      obtain⟨cs,c1,c2,c3⟩:=uY rfl h1 e2
      refine⟨(a.eval x,cs)::us,by simp only [iP,e1,g1,ib],by simp [g2],fun p hp=>?_,gZ c2 g4,fun q hq=>?_⟩
      · rcases List.mem_cons.1 hp with rfl | hp
        · exact⟨c1,(fb c2).trans h2⟩
        · exact g3 p hp
      · simp only [flat, List.mem_append] at hq
        exact hq.elim (c3 q) (g5 q)
    · cases h
theorem gC {d:Nat} (id:Nat) (hf:st.free id=true) {t e:TypeId} {size by' zero agg} {len:Nat} {parts:List (Nat×Operand)} {vs cs:List A} {ty:TypeId} {pos b6 g} (ht:P.underlying t=some (.slice e)) (he:TI P e size by' zero agg)
    (hp:iM E parts 0=some vs) (hlen:len=vs.length) (hce:vs.all lz=true) (hcl:∀v∈vs,(cw v).length=size) (hfl:jD vs=cs) (hs:Nat.ble (len*size) 16777216=true) (hs2:Nat.ble len 16777216=true) (hd:Nat.ble (d+1) n=true)
    (h:At w0 X0 n ((d,.sl id size 0 len)::E) (st.put id cs) K):
    At w0 X0 n E st (fun a w=>(⟨some d,.buildSlice t len parts.toArray,ty,pos,b6,g⟩:Oper).wp P a w K Q):=by
  rintro a w ⟨β,X,hr⟩
  subst hfl
  obtain⟨us,g1,g2,g3,g4,g5⟩:=AI hr hp (fun v hv=>⟨tP v (List.all_eq_true.1 hce v hv),hcl v hv⟩)
  refine Eng.gC (S:= [w]) (H:= []) (E:=full a) (n:=a.tmps.size) us ht he g1 rfl aq g3 hs aT (fun b hS hH a1 w1 hR hG=>?_) a w (gq a hr.defers) (Eng.Good.start w)
  have hb:w.heap.size≤b:=hS.1
  have hbel:=tO hG (by simp [hb])
  have hw:=hG.own _ (.head _)
  simp only at hw
  have hnx:=hr.mem.dom id hf
  have hx':=dW.oQ hr.mem.xlt hbel
  have hm:=hr.mem.push id hf (cs:=jD vs) (us:=flat us) (rest:= []) (ty:=e) hbel hb (by simpa using hw) rfl (gP hx' _ _ _ _ (en hnx) g4) g5
  have hfl:∀us:List (Value×List Value),(∀p∈us,p.1.cells=p.2.toArray∧p.2.length=size)→(flat us).length=us.length*size:=by
    intro us
    induction us with
    |nil=>intro _;simp [flat]
    |cons p us ih=>intro h;obtain⟨v,c⟩:=p;simp only [flat,List.length_append,List.length_cons];rw [(h _ (.head _)).2,ih (fun q hq=>h q (.tail _ hq)),Nat.add_mul];omega
  have hlen':=hfl us g3
  have hm2:=Nat.le_of_ble_eq_true hs2
  exact h a1 w1 ⟨_,X,hr.next hR hx' (fun _ _ h=> .inl h) (en hnx) hm (by simp only [V];exact .inr ⟨b,_,len,dA,rfl,Nat.le_refl _,by simp only [maxLen];omega,by simp [hlen',g2,hlen]⟩)⟩
theorem oF:∀ {vs:List A},vs.all one=true→jD vs=vs
  | [],_=>rfl
  | v :: r, h => by
    simp only [List.all_cons,Bool.and_eq_true]at h
    simp only [jD,vq h.1,oF h.2,List.singleton_append]
theorem BX {vs:List A} (h:vs.all one=true):vs.all lz=true:=List.all_eq_true.2 fun v hv=>yZ (List.all_eq_true.1 h v hv)
theorem pY {vs:List A} (h:vs.all one=true):∀v∈vs,(cw v).length=1:=fun v hv=>by rw [vq (List.all_eq_true.1 h v hv)];rfl
theorem eF {d:Nat} (id:Nat) (hf:st.free id=true) {t e:TypeId} {by' zero agg} {len:Nat} {parts:List (Nat×Operand)} {vs:List A} {ty:TypeId} {pos b6 g} (ht:P.underlying t=some (.slice e)) (he:TI P e 1 by' zero agg)
    (hp:iM E parts 0=some vs) (hlen:len=vs.length) (h1:vs.all one=true) (hs2:Nat.ble len 16777216=true) (hd:Nat.ble (d+1) n=true)
    (h:At w0 X0 n ((d,.sl id 1 0 len)::E) (st.put id vs) K):
    At w0 X0 n E st (fun a w=>(⟨some d,.buildSlice t len parts.toArray,ty,pos,b6,g⟩:Oper).wp P a w K Q):=
  gC id hf ht he hp hlen (BX h1) (pY h1) (oF h1) (by rw [Nat.mul_one];exact hs2) hs2 hd h
end
end Go.Abs
-- AbsD
namespace Go.Abs
open Go Go.Eng
section
variable {P:Program} {w0:Bw} {X0:Xs} {n:Nat} {E:Ev} {st:St} {β:Bm} {X:Xs} {a:Act} {w:World} {Q:Exit→Act→World→Prop} {K:Act→World→Prop}
theorem Mem.move (hm : Mem w0 β X st w) (nx : Nat) (hf : st.free nx = true) {id : Nat} {cs : List A} {x : BL} (hg : st.get id = some cs) (hβ : β id = some x) (hnm : ∀ b, x ≠ .mp b) : Mem w0 (dS β nx x) X ((st.del id).put nx cs) w := by
  have hnx:=hm.dom nx hf
  have hx:dW X X w w:=fun _ _ h=>⟨h,rfl⟩
  have hget:∀k,((st.del id).put nx cs).get k=if nx=k then some cs else if id=k then none else st.get k:=fun k=>by rw [St.ef,St.oI]
  have hne:id≠nx:=fun e=>by rw [e,hnx]at hβ;cases hβ
  refine .of (hm.below) (fun k y h=>(en hnx) k y (hm.b0 k y h)) (hm.xlt) (fun k h=>?_) (fun k ds hk=>?_) (fun i j ci cj q M N' hij hi hj hbi hbj=>?_)
  · have h' : k ≠ nx ∧ st.free k = true := by
      simp only [St.gF,St.nS]at h
      split at h
      · cases h
      · rename_i hne
        first
          |exact⟨fun e=>hne e.symm,h⟩
          | (split at h
             · cases h
             · exact⟨fun e=>hne e.symm,h⟩)
    rw [dV h'.1]
    exact hm.dom k h'.2
  · rw [hget] at hk
    split at hk
    · rename_i e; subst e
      simp only [Option.some.injEq]at hk
      subst hk
      have ho:=hm.obj id _ hg
      unfold OB at ho ⊢
      rw [dA]
      rw [hβ]at ho
      cases x with
      |ph=>exact ho
      | bk b N =>
        obtain⟨h1,h2,us,rest,ty,h3,h4,h5,h6⟩:=ho
        exact⟨h1,h2,us,rest,ty,h3,h4,gP hx _ _ _ _ (en hnx) h5,h6⟩
      |mp b=>exact absurd rfl (hnm b)
    · split at hk
      · cases hk
      · refine (hm.obj k ds hk).later hx (en hnx) (fun q M hq => ⟨rfl, ?_⟩) fun q hq => ⟨rfl, ((hm.obj k ds hk).gB hq).2.2.1⟩
        have ho:=hm.obj k ds hk
        unfold OB at ho
        rw [hq]at ho
        exact ho.2.1
  · have key : ∀ k ck, ((st.del id).put nx cs).get k = some ck → ∀ b M, dS β nx x k = some (.bk b M) → ∃ k' c', st.get k' = some c' ∧ β k' = some (.bk b M) ∧ (k = nx ∧ k' = id ∨ k ≠ nx ∧ k' = k ∧ k ≠ id) := by
      intro k ck hk b M hb
      rw [hget]at hk
      split at hk
      · rename_i e; subst e
        rw [dA]at hb
        exact⟨id,cs,hg,hβ.trans hb,.inl ⟨rfl,rfl⟩⟩
      · rename_i e1
        split at hk
        · cases hk
        · rename_i e2
          rw [dV (fun e=>e1 e.symm)]at hb
          exact⟨k,ck,hk,hb,.inr ⟨fun e=>e1 e.symm,rfl,fun e=>e2 e.symm⟩⟩
    obtain⟨i',c1,g1,g2,g3⟩:=key i ci hi q M hbi
    obtain⟨j',c2,g4,g5,g6⟩:=key j cj hj q N' hbj
    exact hm.inj i' j' c1 c2 q M N' aq g1 g4 g2 g5
theorem Mem.AE (hm : Mem w0 β X st w) (nx : Nat) (hf : st.free nx = true) : Mem w0 (dS β nx .ph) X (st.put nx []) w := by
  have hnx:=hm.dom nx hf
  have hx:dW X X w w:=fun _ _ h=>⟨h,rfl⟩
  refine .of (hm.below) (fun k y h=>(en hnx) k y (hm.b0 k y h)) (hm.xlt) (fun k h=>?_) (fun k ds hk=>?_) (fun i j ci cj q M N' hij hi hj hbi hbj=>?_)
  · have h' : k ≠ nx ∧ st.free k = true := by
      simp only [St.gF]at h
      split at h
      · cases h
      · rename_i hne
        first
          |exact⟨fun e=>hne e.symm,h⟩
          | (split at h
             · cases h
             · exact⟨fun e=>hne e.symm,h⟩)
    rw [dV h'.1]
    exact hm.dom k h'.2
  · rw [St.ef] at hk
    split at hk
    · rename_i e; subst e
      simp only [Option.some.injEq]at hk
      subst hk
      unfold OB
      rw [dA]
    · refine (hm.obj k ds hk).later hx (en hnx) (fun q M hq => ⟨rfl, ?_⟩) fun q hq => ⟨rfl, ((hm.obj k ds hk).gB hq).2.2.1⟩
      have ho:=hm.obj k ds hk
      unfold OB at ho
      rw [hq]at ho
      exact ho.2.1
  · rw [St.ef] at hi hj
    by_cases ei:nx=i
    · rw [←ei,dA]at hbi;cases hbi
    · by_cases ej : nx = j
      · rw [←ej,dA]at hbj;cases hbj
      · rw [if_neg ei] at hi
        rw [if_neg ej]at hj
        rw [dV aq]at hbi hbj
        exact hm.inj i j ci cj q M N' hij hi hj hbi hbj
theorem Mem.drop (hm:Mem w0 β X st w) {st':St} (hn:∀id,st'.free id=true→st.free id=true) (hs:∀id cs,st'.get id=some cs→st.get id=some cs):Mem w0 β X st' w:=
  .of (hm.below) (hm.b0) (hm.xlt) (fun k h=>hm.dom k (hn k h)) (fun k ds hk=>hm.obj k ds (hs k ds hk)) (fun i j ci cj q M N' hij hi hj hbi hbj=>hm.inj i j ci cj q M N' hij (hs i ci hi) (hs j cj hj) hbi hbj)
theorem O5 (w:World) (t ty e e':TypeId) (i:TypeInfo) (ht:P.underlying t=some (.slice e)) (hi:P.info? e=some i) (g m c:Nat) (cur:List Value) (hg:w.heap[g]? =some (row e' cur))
    (ad:Addr) (k kc:Nat) (news:List Value) (hl:news.length=k*i.size) (hnews:∀j u,news[j]? =some u→w.cell? (ad.add j)=some u) (h1:∀u∈news,u.oneCell'=true)
    (hroom:m+k≤c) (hfit:m*i.size+news.length≤cur.length):
    (Builtin.append_ #[t,t] ty #[.slice (some ⟨g,0,none⟩) m c,.slice (some ad) k kc]).run P w=
      .ok (.slice (some ⟨g,0,none⟩) (m+k) c) (w.setRow g (cur.take (m*i.size)++news++cur.drop (m*i.size+news.length)).toArray):=by
  have hf:=run_firstCells_some (P:=P) w i.size k ad k kc news hl hnews
  have hst:=run_storeCells_at P g (m*i.size) e' news 0 cur.toArray w hg (by simpa using hfit) h1
  simp only [Nat.add_zero]at hst
  simp [Builtin.append_,run_underlying ht,sizeOf,typeInfo,hi,Builtin.lenOf,hroom,hf,Addr.add_lit,hst]
inductive uO (st:St) (size:Nat):A→Nat→List A→St→Prop where
  |nl:uO st size .nl 0 [] st
  |sl {id m:Nat} {cs:List A} (hg:st.get id=some cs) (hl:cs.length=m*size):uO st size (.sl id size 0 m) m cs (st.del id)
theorem dR {d : Nat} (nx : Nat) (hf : st.free nx = true) {t e : TypeId} {size by' zero agg} {x y : Operand} {vx vy : A} {m k : Nat} {cs news cs' : List A} {jG : St} {ty : TypeId} {pos b6 g} (ht : P.underlying t = some (.slice e)) (he : TI P e size by' zero agg) (hx : ev E x = some vx) (hB : uO st size vx m cs jG)
    (hy:ev E y=some vy) (hn:SM st vy=some (k,news)) (hnl:news.length=k*size) (hb63:m+k≤maxLen) (hby:(m+k)*by'≤140737488355328) (hzl:zero.length=size) (hcs:cs++news=cs') (hd:Nat.ble (d+1) n=true)
    (h:At w0 X0 n ((d,.sl nx size 0 (m+k))::E) (jG.put nx cs') K):
    At w0 X0 n E st (fun a w=>(⟨some d,.call {callee:= .builtin .append,args:= #[x,y],argTypes:= #[t,t]},ty,pos,b6,g⟩:Oper).wp P a w K Q):=by
  rintro A0 w ⟨β,X,hr⟩
  subst hcs
  have hnx:=hr.mem.dom nx hf
  obtain⟨e1,e2⟩:=hr.c9 hx
  obtain⟨e3,e4⟩:=hr.c9 hy
  obtain⟨ay,cy,nus,f1,f2,f3,f4⟩:=xN (s:=size) hr.toRelQ e4 hn hnl
  have hsl:=f4 w .refl
  have hnu:=fb f2
  have hexec:∀vv v w',A0.eval x=vv→(Builtin.append_ #[t,t] ty #[vv,.slice ay k cy]).run P w= .ok v w'→
      (execOp A0.eval ⟨some d,.call {callee:= .builtin .append,args:= #[x,y],argTypes:= #[t,t]},ty,pos,b6,g⟩).run P w= .ok (.value v) w':=by
    intro vv v w' hv hrun
    have h1:execOp A0.eval ⟨some d,.call {callee:= .builtin .append,args:= #[x,y],argTypes:= #[t,t]},ty,pos,b6,g⟩=(do pure (.value (←Builtin.append_ #[t,t] ty #[vv,.slice ay k cy])):Sem Next):=by
      simp only [execOp,resolve,List.map_toArray,List.map_cons,List.map_nil,hv,f1,pure_bind,invoke,builtin]
    rw [h1,Sem.run_bind,hrun]
    rfl
  have done:∀(vv u:Value) (w1:World) (bl:BL),A0.eval x=vv→(Builtin.append_ #[t,t] ty #[vv,.slice ay k cy]).run P w= .ok u w1→dW X X w w1→Mem w0 (dS β nx bl) X (jG.put nx (cs++news)) w1→V X w1 (dS β nx bl) (.sl nx size 0 (m+k)) u→
      (⟨some d,.call {callee:= .builtin .append,args:= #[x,y],argTypes:= #[t,t]},ty,pos,b6,g⟩:Oper).wp P A0 w K Q:=by
    intro vv u w1 bl hvv hrun hx1 hm1 hv1
    unfold Oper.wp
    rw [hexec vv u w1 hvv hrun]
    refine h _ _ ⟨_,X,hr.next (d:=d) (u:=u) (v:= .sl nx size 0 (m+k)) ?_ hx1 (fun _ _ h=> .inl h) (en hnx) hm1 hv1⟩
    exact(gq A0 hr.defers).put aT u
  have hsmall:m+k≤9223372036854775807:=by simp only [maxLen]at hb63;omega
  obtain⟨⟨i,z,i1,i2,i3,i4,i5⟩,hu⟩:=he
  have hzc:z.cells.size=size:=by rw [←hzl, ←i5];simp
  have hnl':nus.length=k*i.size:=by rw [i3,hnu,hnl]
  have hnw:k≠0→∀j u,nus[j]? =some u→w.cell? ((⟨ab ay,ao ay,none⟩:Addr).add j)=some u:=fun _ j u hj=>by rw [addr_add];exact hsl.cell j u hj
  -- into a new block
  have grow:∀(vv:Value) (ous:List Value) (w1:World) (cap:Nat),VS X w β cs ous→(∀q∈ous,q.oneCell'=true)→ous.length=m*size→A0.eval x=vv→m+k≤cap→cap≤maxLen→
      (Builtin.append_ #[t,t] ty #[vv,.slice ay k cy]).run P w= .ok (.slice (some ⟨w.heap.size,0,none⟩) (m+k) cap) (w.drew.alloc (.cells (ous.toArray++nus.toArray++Builtin.zeroCells z.cells (cap - (m+k))) e))→
      (∀id,jG.free id=true→st.free id=true)→jG.free nx=true→(∀id c,jG.get id=some c→st.get id=some c)→
      (⟨some d,.call {callee:= .builtin .append,args:= #[x,y],argTypes:= #[t,t]},ty,pos,b6,g⟩:Oper).wp P A0 w K Q:=by
    intro vv ous w1 cap ho1 ho2 ho3 hvv hc1 hc2 hrun hsn hsf hss
    have hbel:RowKit.Below w.heap.size w (w.drew.alloc (.cells (ous.toArray++nus.toArray++Builtin.zeroCells z.cells (cap - (m+k))) e)):=
      ⟨rfl,rfl,rfl,by simp,fun q hq=>xo w.drew _ q hq⟩
    have hx1:=dW.oQ hr.mem.xlt hbel
    have hm1:=hr.mem.drop (st':=jG) hsn hss
    have hnx1:=hm1.dom nx hsf
    have hlen:(ous++nus).length=(m+k)*size:=by rw [List.length_append,ho3,hnu,hnl,Nat.add_mul]
    have hm2:=hm1.push nx hsf (cs:=cs++news) (us:=ous++nus) (rest:=(Builtin.zeroCells z.cells (cap - (m+k))).toList) (ty:=e) (b:=w.heap.size) (N:=cap*size) hbel (Nat.le_refl _)
      (by refine(heap_alloc_new w.drew _).trans ?_;simp [row]) (by rw [hlen];simp only [Array.length_toList,size_zeroCells,hzc, ←Nat.add_mul];congr 1;omega)
      (gZ (gP hx1 _ _ _ _ (en hnx1) ho1) (gP hx1 _ _ _ _ (en hnx1) f2)) (by intro q hq;rcases List.mem_append.1 hq with hq|hq;exact ho2 q hq;exact f3 q hq)
    exact done vv _ _ (.bk w.heap.size (cap*size)) hvv hrun hx1 hm2 (by simp only [V];exact .inr ⟨_,_,cap,dA,rfl,hc1,hc2,by omega⟩)
  cases hB with
  | nl =>
    simp only [V]at e2
    by_cases hk:k=0
    · subst hk
      have hnn:news= []:=List.eq_nil_of_length_eq_zero (by simpa using hnl)
      subst hnn
      exact done _ _ w .ph e2 (xI ht ⟨⟨i,z,i1,i2,i3,i4,i5⟩,hu⟩ none 0 0 (Nat.le_refl _) ay cy) (fun _ _ h=>⟨h,rfl⟩) (hr.mem.AE nx hf) aR
    · have hax := hsl.addr aq
      have hrun:=run_append_nil (P:=P) w t ty e i z ht i1 i2 ⟨ab ay,ao ay,none⟩ k cy nus hnl' (hnw hk) aq aq bj
      rw [←hax]at hrun
      exact grow _ [] w (grownCap w k 0 e) fM (fun q hq=>by cases hq) aA e2 (by simpa using grownCap_ge w k 0 e) (grownCap_le_maxLen w k 0 e aq) (by simpa using hrun) (fun _ h=>h) hf (fun _ _ h=>h)
  | sl hg hl =>
    rename_i id
    simp only [V]at e2
    have hfd:∀q,(st.del id).free q=true→st.free q=true:=fun q h=>by rw [St.nS]at h;split at h;cases h;exact h
    have hne:id≠nx:=fun e=>by subst e;have:=wE hf;unfold St.get at hg;rw [this]at hg;cases hg
    have hfn:(st.del id).free nx=true:=by rw [St.nS,if_neg hne];exact hf
    have hdel:∀q c,(st.del id).get q=some c→st.get q=some c:=fun q c hq=>by rw [St.oI]at hq;split at hq;cases hq;exact hq
    rcases e2 with ⟨hβ,rfl,_,e2⟩|⟨b,N,cap,hβ,e2,c1,c2,c3⟩
    · have hcs : cs = [] := List.eq_nil_of_length_eq_zero (by simpa using hl)
      subst hcs
      by_cases hk:k=0
      · subst hk
        have hnn:news= []:=List.eq_nil_of_length_eq_zero (by simpa using hnl)
        subst hnn
        exact done _ _ w .ph e2 (xI ht ⟨⟨i,z,i1,i2,i3,i4,i5⟩,hu⟩ none 0 0 (Nat.le_refl _) ay cy) (fun _ _ h=>⟨h,rfl⟩) (hr.mem.move nx hf hg hβ (fun _ h=>by cases h)) aR
      · have hax := hsl.addr aq
        have hrun:=run_append_nil (P:=P) w t ty e i z ht i1 i2 ⟨ab ay,ao ay,none⟩ k cy nus hnl' (hnw hk) aq aq bj
        rw [←hax]at hrun
        exact grow _ [] w (grownCap w k 0 e) fM (fun q hq=>by cases hq) aA e2 (by simpa using grownCap_ge w k 0 e) (grownCap_le_maxLen w k 0 e aq) (by simpa using hrun) hfd hfn hdel
    · obtain ⟨us0, o5, o6, o7, o8⟩ := uj hr.toRelQ hg hβ
      have ho:=hr.mem.obj id cs hg
      unfold OB at ho
      rw [hβ]at ho
      obtain⟨p1,p2,us,rest,ety,p3,p4,p5,p6⟩:=ho
      have hul:=fb p5
      by_cases hk:k=0
      · subst hk
        have hnn:news= []:=List.eq_nil_of_length_eq_zero (by simpa using hnl)
        subst hnn
        rw [List.append_nil]at done
        exact done _ _ w (.bk b N) e2 (xI ht ⟨⟨i,z,i1,i2,i3,i4,i5⟩,hu⟩ _ m cap c1 ay cy) (fun _ _ h=>⟨h,rfl⟩) (hr.mem.move nx hf hg hβ (fun _ h=>by cases h)) (by simp only [V];exact .inr ⟨b,N,cap,dA,rfl,by omega,c2,c3⟩)
      · have hax := hsl.addr aq
        by_cases hroom:m+k≤cap
        · have hNs : (m + k) * size ≤ cap * size := Nat.mul_le_mul_right _ hroom
          rw [Nat.add_mul]at hNs
          have hrun:=O5 (P:=P) w t ty e ety i ht i1 b m cap (us++rest) p3 ⟨ab ay,ao ay,none⟩ k cy nus hnl' (hnw hk) f3 hroom (by rw [i3,hnu,hnl,List.length_append];omega)
          rw [←hax]at hrun
          have htk:(us++rest).take (m*i.size)=us:=by rw [i3, ←hl, ←hul];exact List.take_left
          rw [htk]at hrun
          have hG:=Eng.Good.setRow (nU p3) 0 (cs:=us++rest) rfl (us++nus++(us++rest).drop (m*i.size+nus.length))
          simp only [List.set_cons_zero]at hG
          obtain⟨hm1,hx1⟩:=hr.mem.write (cs':=cs++news) hg hβ hG (by simp only [List.length_append,List.length_drop,i3,hul,hl,hnu,hnl]at p4 ⊢;omega) (gZ p5 f2) (by intro q hq;rcases List.mem_append.1 hq with hq|hq;exact p6 q hq;exact f3 q hq)
          have hm2:=hm1.move nx (by rw [St.gF,if_neg hne];exact hf) (id:=id) (cs:=cs++news) (by rw [St.ef,if_pos rfl]) hβ (fun _ h=>by cases h)
          have hm3:Mem w0 (dS β nx (.bk b N)) X ((st.del id).put nx (cs++news)) _:=hm2.drop (fun q hq=>by
            simp only [St.gF,St.nS]at hq ⊢
            split at hq
            · cases hq
            · rename_i e1
              rw [if_neg e1]
              split at hq
              · cases hq
              · rename_i e2;rw [if_neg e2,if_neg e2];exact hq) fun q c hq=>by
            simp only [St.ef,St.oI]at hq ⊢
            split at hq
            · rename_i e1;rw [if_pos e1];exact hq
            · rename_i e1
              rw [if_neg e1]
              split at hq
              · cases hq
              · rename_i e2;rw [if_neg e2,if_neg e2];exact hq
          exact done _ _ _ (.bk b N) e2 hrun hx1 hm3 (by simp only [V];exact .inr ⟨b,N,cap,dA,rfl,hroom,c2,c3⟩)
        · have holds : ∀ j u, us[j]? = some u → w.cell? ((⟨b, 0, none⟩ : Addr).add j) = some u := by
            intro j u hj
            rw [addr_add,Nat.zero_add]
            have hlt:=(List.getElem?_eq_some_iff.1 hj).1
            simp only [World.cell?,p3]
            simp [List.getElem?_append_left hlt,hj]
          have hrun:=run_append_grow (P:=P) w t ty e i z ht i1 i2 ⟨b,0,none⟩ m cap us (by rw [i3,hul,hl]) holds ⟨ab ay,ao ay,none⟩ k cy nus hnl' (hnw hk) aq aq (by rw [i4];exact growslice_fits aq hby)
          rw [←hax]at hrun
          exact grow _ us w (grownCap w (m+k) cap e) p5 p6 (by rw [hul,hl]) e2 (grownCap_ge w (m+k) cap e) (grownCap_le_maxLen w (m+k) cap e hb63) hrun hfd hfn hdel
end
end Go.Abs
-- AbsE
namespace Go.Abs
open Go Go.Eng
mutual
def Pure:A→Prop
  | .p _ _=>False
  | .sl _ _ _ _=>False
  | .ag cs=>dF cs
  | .tu cs=>dF cs
  | .fn _ a c=>dF a∧dF c
  | .ic _ v=>Pure v
  | .b _=>True| .i _ _=>True| .s _=>True| .nl=>True| .fz _ _=>True| .fp _=>True| .raw _=>True| .mc _ _=>True
def dF:List A→Prop
  | []=>True
  |c::cs=>Pure c∧dF cs
end
mutual
def Flat:A→Prop
  | .p _ _=>False
  | .sl _ _ _ _=>False
  | .fz _ _=>False
  | .fp _=>False
  | .ag cs=>fL cs
  | .tu cs=>fL cs
  | .fn _ a c=>fL a∧fL c
  | .ic _ v=>Flat v
  | .b _=>True| .i _ _=>True| .s _=>True| .nl=>True| .raw _=>True| .mc _ _=>True
def fL:List A→Prop
  | []=>True
  |c::cs=>Flat c∧fL cs
end
theorem BE {α:Type} (f:α→A) (h:∀x,Pure (f x)):∀l:List α,dF (l.map f)
  | []=>trivial
  |x::l=>⟨h x,BE f h l⟩
theorem BA {α:Type} (f:α→A) (h:∀x,Flat (f x)):∀l:List α,fL (l.map f)
  | []=>trivial
  |x::l=>⟨h x,BA f h l⟩
theorem ym:∀ {l m:List A},dF l→dF m→dF (l++m)
  | [],_,_,h=>h
  |_::_,_,h,h'=>⟨h.1,ym h.2 h'⟩
theorem yh:∀ {l m:List A},fL l→fL m→fL (l++m)
  | [],_,_,h=>h
  |_::_,_,h,h'=>⟨h.1,yh h.2 h'⟩
theorem yn {α:Type} (f:α→List A) (h:∀x,dF (f x)):∀l:List α,dF (l.flatMap f)
  | []=>trivial
  |x::l=>by rw [List.flatMap_cons];exact ym (h x) (yn f h l)
theorem Bz {α:Type} (f:α→List A) (h:∀x,fL (f x)):∀l:List α,fL (l.flatMap f)
  | []=>trivial
  |x::l=>by rw [List.flatMap_cons];exact yh (h x) (Bz f h l)
section
variable {X X':Xs} {w w':World} {β β':Bm}
mutual
theorem mH:∀(v:A) (u:Value),Pure v→V X w β v u→V X w β' v u
  | .b _,u,_,h=>by simp only [V]at*;exact h
  | .i _ _,u,_,h=>by simp only [V]at*;exact h
  | .s _,u,_,h=>by simp only [V]at*;exact h
  | .nl,u,_,h=>by simp only [V]at*;exact h
  | .fz _ _,u,_,h=>by simp only [V]at*;exact h
  | .fp _,u,_,h=>by simp only [V]at*;exact h
  | .raw _,u,_,h=>by simp only [V]at*;exact h
  | .mc _ _,u,_,h=>by simp only [V]at h
  | .p _ _,_,hp,_=>hp.elim
  | .sl _ _ _ _,_,hp,_=>hp.elim
  | .ag cs, u, hp, h => by
    simp only [V]at*
    obtain⟨us,h1,h2,h3⟩:=h
    exact⟨us,h1,l3 cs us (by simpa only [Pure]using hp) h2,h3⟩
  | .tu cs, u, hp, h => by
    simp only [V]at*
    obtain⟨us,h1,h2⟩:=h
    exact⟨us,h1,l3 cs us (by simpa only [Pure]using hp) h2⟩
  | .fn f a c, u, hp, h => by
    simp only [V]at*
    simp only [Pure]at hp
    obtain⟨us,vs,h1,h2,h3⟩:=h
    exact⟨us,vs,h1,l3 a us hp.1 h2,l3 c vs hp.2 h3⟩
  | .ic t v, u, hp, h => by
    simp only [V]at*
    obtain⟨x,h1,h2⟩:=h
    exact⟨x,h1,mH v x (by simpa only [Pure]using hp) h2⟩
theorem l3:∀(cs:List A) (us:List Value),dF cs→VS X w β cs us→VS X w β' cs us
  | [],us,_,h=>by simp only [VS]at*;exact h
  | c :: cs, us, hp, h => by
    simp only [dF]at hp
    simp only [VS]at*
    obtain⟨u,r,h1,h2,h3⟩:=h
    exact⟨u,r,h1,mH c u hp.1 h2,l3 cs r hp.2 h3⟩
end
mutual
theorem sO:∀(v:A) (u:Value),Flat v→V X w β v u→V X' w' β' v u
  | .b _,u,_,h=>by simp only [V]at*;exact h
  | .i _ _,u,_,h=>by simp only [V]at*;exact h
  | .s _,u,_,h=>by simp only [V]at*;exact h
  | .nl,u,_,h=>by simp only [V]at*;exact h
  | .fz _ _,u,hp,h=>hp.elim
  | .fp _,u,hp,h=>hp.elim
  | .raw _,u,_,h=>by simp only [V]at*;exact h
  | .mc _ _,u,_,h=>by simp only [V]at h
  | .p _ _,_,hp,_=>hp.elim
  | .sl _ _ _ _,_,hp,_=>hp.elim
  | .ag cs, u, hp, h => by
    simp only [V]at*
    obtain⟨us,h1,h2,h3⟩:=h
    exact⟨us,h1,nA cs us (by simpa only [Flat]using hp) h2,h3⟩
  | .tu cs, u, hp, h => by
    simp only [V]at*
    obtain⟨us,h1,h2⟩:=h
    exact⟨us,h1,nA cs us (by simpa only [Flat]using hp) h2⟩
  | .fn f a c, u, hp, h => by
    simp only [V]at*
    simp only [Flat]at hp
    obtain⟨us,vs,h1,h2,h3⟩:=h
    exact⟨us,vs,h1,nA a us hp.1 h2,nA c vs hp.2 h3⟩
  | .ic t v, u, hp, h => by
    simp only [V]at*
    obtain⟨x,h1,h2⟩:=h
    exact⟨x,h1,sO v x (by simpa only [Flat]using hp) h2⟩
theorem nA:∀(cs:List A) (us:List Value),fL cs→VS X w β cs us→VS X' w' β' cs us
  | [],us,_,h=>by simp only [VS]at*;exact h
  | c :: cs, us, hp, h => by
    simp only [fL]at hp
    simp only [VS]at*
    obtain⟨u,r,h1,h2,h3⟩:=h
    exact⟨u,r,h1,sO c u hp.1 h2,nA cs r hp.2 h3⟩
end
end
section
variable {P:Program} {w0:Bw} {X0:Xs} {n:Nat} {E:Ev} {st:St} {β:Bm} {X:Xs} {a:Act} {w:World} {Q:Exit→Act→World→Prop} {K:Act→World→Prop}
mutual
inductive Vw (st s0:St):Bool→A→A→Prop where
  |pure {ow v} (h:Pure v):Vw st s0 ow v v
  |nl {ow}:Vw st s0 ow .nl (.fz 0 [])
  |sl {id s off m m' cs ds ds'} (hf:s0.free id=true) (hg:st.get id=some cs) (hm:m=m') (hd:(cs.drop off).take (m*s)=ds) (hv:cK st s0 true ds ds') (hp:dF ds'):Vw st s0 true (.sl id s off m) (.fz m' ds')
  |kp {ow id off} (h:s0.free id=false):Vw st s0 ow (.p id off) (.p id off)
  |ksl {ow id s off m} (h:s0.free id=false):Vw st s0 ow (.sl id s off m) (.sl id s off m)
  |ag {ow cs cs'} (h:cK st s0 ow cs cs'):Vw st s0 ow (.ag cs) (.ag cs')
  |fn {ow f aS aS' cs cs'} (h:cK st s0 ow aS aS') (h':cK st s0 ow cs cs'):Vw st s0 ow (.fn f aS cs) (.fn f aS' cs')
inductive cK (st s0:St):Bool→List A→List A→Prop where
  |nil {ow}:cK st s0 ow [] []
  |cons {ow c c' cs cs'} (h:Vw st s0 ow c c') (hs:cK st s0 ow cs cs'):cK st s0 ow (c::cs) (c'::cs')
end
theorem Vw.eq {s0:St} {ow v v' x} (h:v=v') (hv:Vw st s0 ow v' x):Vw st s0 ow v x:=h ▸ hv
theorem cK.pure {s0:St} {ow}:∀ {cs:List A},dF cs→cK st s0 ow cs cs
  | [],_=> .nil
  |_::_,h=> .cons (.pure h.1) (cK.pure h.2)
def Xo (ow:Bool) (st s0:St) (β:Bm) (X:Xs):Xs:=fun b o=>X b o∨(ow=true∧∃id cs N,s0.free id=true∧st.get id=some cs∧β id=some (.bk b N)∧o<cs.length)
def er (s0:St) (β:Bm):Bm:=fun id=>if s0.free id=true then none else β id
mutual
theorem Ir {s0 : St} (hr : dZ w0 X0 n E st β X a w) : ∀ {ow : Bool} {v v' : A} {u : Value}, Vw st s0 ow v v' → V X w β v u → V (Xo ow st s0 β X) w (er s0 β) v' u
  |ow,v,_,u,.pure h,hv=>gj (fun b o hx=>⟨.inl hx,rfl⟩) _ _ _ _ (dE.refl _) (mH (β':=er s0 β) v u h hv)
  | ow, _, _, u, .nl, hv => by
    simp only [V]at*
    exact⟨none,0,hv,Nat.le_refl _,Nat.zero_le _,fun _=>rfl,(fun h=>absurd h aq),by simp only [VM]⟩
  | _, _, _, u, .kp h, hv => by
    simp only [V]at*
    obtain⟨b,N,h1,h2⟩:=hv
    exact⟨b,N,by simp [er,h,h1],h2⟩
  | _, _, _, u, .ksl h, hv => by
    simp only [V]at*
    rcases hv with ⟨h1,h2⟩|⟨b,N,cap,h1,h2⟩
    · exact .inl ⟨by simp [er,h,h1],h2⟩
    · exact .inr ⟨b,N,cap,by simp [er,h,h1],h2⟩
  | _, _, _, u, @Vw.sl _ _ id s off m m' cs ds ds' hfr hg hmm hd hv' hp, hv => by
    simp only [V]at hv ⊢
    subst hd;subst hmm
    rcases hv with ⟨hβ,rfl,rfl,rfl⟩|⟨b,N,cap,hβ,rfl,c1,c2,c3⟩
    · have : ds' = [] := by
        simp only [Nat.zero_mul,List.take_zero]at hv'
        cases hv';rfl
      subst this
      exact⟨none,0,rfl,Nat.le_refl _,Nat.zero_le _,fun _=>rfl,(fun h=>absurd h aq),by simp only [VM]⟩
    · obtain ⟨us, g1, g2, g3, g4⟩ := uj hr.toRelQ hg hβ
      refine⟨some ⟨b,off,none⟩,cap,rfl,c1,c2,(fun h=>by cases h),(fun _ x hx=>by cases hx;rfl),?_⟩
      have hu:=j8 (ll g1 off) (m*s)
      have hu':=l4 hr hv' hu
      refine mG fun j c hj=>?_
      obtain⟨u,h1,h2⟩:=iO hu' hj
      have hjj:us[off+j]? =some u∧off+j<us.length:=by
        rw [List.getElem?_take]at h1
        split at h1
        · rw [List.getElem?_drop] at h1
          exact⟨h1,(List.getElem?_eq_some_iff.1 h1).1⟩
        · cases h1
      have hpc:Pure c:=by
        have:∀(l:List A) (i:Nat) (c:A),dF l→l[i]? =some c→Pure c:=by
          intro l
          induction l with
          |nil=>intro i c _ h;simp at h
          | cons x l ih => intro i c hp h; cases i with
            |zero=>simp at h;subst h;exact hp.1
            |succ i=>exact ih i c hp.2 aO
        exact this ds' _ c hp hj
      exact⟨.inr ⟨rfl,id,cs,N,hfr,hg,hβ,by rw [←fb g1];exact hjj.2⟩,u,g4 w .refl _ _ hjj.1,mH (β':=no) _ _ hpc h2,g2 u (List.mem_of_getElem? hjj.1)⟩
  | ow, _, _, u, .ag h, hv => by
    simp only [V]at hv ⊢
    obtain⟨us,h1,h2,h3⟩:=hv
    exact⟨us,h1,l4 hr h h2,h3⟩
  | ow, _, _, u, .fn h h', hv => by
    simp only [V]at hv ⊢
    obtain⟨us,vs,h1,h2,h3⟩:=hv
    exact⟨us,vs,h1,l4 hr h h2,l4 hr h' h3⟩
theorem l4 {s0:St} (hr:dZ w0 X0 n E st β X a w):∀ {ow:Bool} {vs vs':List A} {us:List Value},cK st s0 ow vs vs'→VS X w β vs us→VS (Xo ow st s0 β X) w (er s0 β) vs' us
  |ow,_,_,us,.nil,hv=>by simp only [VS]at*;exact hv
  | ow, _, _, us, .cons h hs, hv => by
    simp only [VS]at*
    obtain⟨u,r,h1,h2,h3⟩:=hv
    exact⟨u,r,h1,Ir hr h h2,l4 hr hs h3⟩
end
theorem yB {s0:St} (hr:dZ w0 X0 n E st β X a w) {ow:Bool}:∀b o,Xo ow st s0 β X b o→b<w.heap.size:=by
  intro b o h
  rcases h with h|⟨_,id,cs,N,_,hg,hβ,_⟩
  · exact hr.mem.xlt b o h
  · have ho := hr.mem.obj id cs hg
    unfold OB at ho
    rw [hβ]at ho
    obtain⟨_,_,us,rest,ty,h3,_⟩:=ho
    exact(Array.getElem?_eq_some_iff.1 h3).1
def bw (w : World) (β : Bm) (s0 : St) (hd : ∀ id, s0.free id = true → β id = none) : Bw :=
  ⟨w, fun b => ∃ id cs, s0.get id = some cs ∧ ∃ y, β id = some y ∧ y.on b, β, s0.os.map Prod.fst, (fun id x h => by
    have key:∀os:List (Nat×Option (List A)),fresh os id=false→id∈os.map Prod.fst:=by
      intro os
      induction os with
      |nil=>intro h;cases h
      | cons p os ih =>
        intro h
        rw [oG]at h
        split at h
        · rename_i e;rw [←e];exact .head _
        · exact .tail _ (ih h)
    refine key _ ?_
    cases hf:fresh s0.os id with
    |false=>rfl
    |true=>have:=hd id hf;rw [h]at this;cases this), []⟩
def Post (w0:Bw) (X:Xs) (R:A→St→Prop) (v:Value) (w':World):Prop:=
  ∃r β' X' st',R r st'∧(∀b o,X b o→X' b o)∧(∀b o,X' b o→X b o∨w0.own b)∧Mem w0 β' X' st' w'∧V X' w' β' r v
def eQ (P : Program) (f : FuncId) (args : List A) (s0 : St) (R : A → St → Prop) : Prop :=
  ∀ w X β us (hd : ∀ id, s0.free id = true → β id = none), (∀ b o, X b o → b < w.heap.size) → GL X w → (∀ id cs, s0.get id = some cs → OB β X w (bw w β s0 hd) id cs) →
    (∀i j ci cj b M N,i≠j→s0.get i=some ci→s0.get j=some cj→β i=some (.bk b M)→β j=some (.bk b N)→False)→VS X w β args us→Eng.Fn P f us.toArray w (Post (bw w β s0 hd) X R)
def bU (P:Program) (f:FuncId) (args:List A) (R:A→St→Prop):Prop:=eQ P f args ⟨[]⟩ R
def cl (r:A):A→St→Prop:=fun r' _=>r'=r
def fk (s m:Nat) (cs:List A):A→St→Prop:=fun r st=>∃id,r= .sl id s 0 m∧st.get id=some cs
def j7 (r:A) (upds:List (Nat×List A)):A→St→Prop:=fun r' st=>r'=r∧∀p∈upds,st.get p.1=some p.2
theorem eQ.mono {f args s0 R R'} (h:eQ P f args s0 R) (hr:∀r st,R r st→R' r st):eQ P f args s0 R':=
  fun w X β us hd hx hg ho hi hv=>(h w X β us hd hx hg ho hi hv).mono fun _ _ ⟨r,β',X',st',h1,h2⟩=>⟨r,β',X',st',hr r st' h1,h2⟩
theorem bU.mono {f args R R'} (h:bU P f args R) (hr:∀r st,R r st→R' r st):bU P f args R':=eQ.mono h hr
def fx (E : Ev) : List Operand → Option (List A)
  | []=>some []
  | x :: r =>
    match ev E x,fx E r with
    |some v,some vs=>some (v::vs)
    |_,_=>none
theorem dZ.gA (hr:dZ w0 X0 n E st β X a w):∀ {l:List Operand} {vs:List A},fx E l=some vs→∃us,Eng.gA (full a) l=some us∧VS X w β vs us
  | [],vs,h=>by simp only [fx,Option.some.injEq]at h;subst h;exact⟨[],rfl,fM⟩
  | x :: r, vs, h => by
    simp only [fx]at h
    split at h
    · rename_i v us hv hus
      simp only [Option.some.injEq]at h
      subst h
      obtain⟨e1,e2⟩:=hr.c9 hv
      obtain⟨us',e3,e4⟩:=dZ.gA hr hus
      exact⟨_,by simp only [Eng.gA,e1,e3],eV e2 e4⟩
    · cases h
theorem fC {s0:St}:∀id,s0.free id=true→er s0 β id=none:=fun id h=>by simp [er,h]
theorem my {s0:St} {id:Nat} {x:BL} (h:er s0 β id=some x):s0.free id=false∧β id=some x:=by
  unfold er at h
  split at h
  · cases h
  · rename_i h';exact⟨by simpa using h',h⟩
theorem lS {s0:St} {id:Nat} (h:s0.free id=false):er s0 β id=β id:=by simp [er,h]
theorem pT {s0:St} {id:Nat} {cs:List A} (h:s0.get id=some cs):s0.free id=false:=by
  cases hf:s0.free id with
  |false=>rfl
  |true=>have:=wE hf;unfold St.get at h;rw [this]at h;cases h
def b6 (s0 st:St) (upds:List (Nat×List A)):St:=⟨(upds.map fun p=>(p.1,some p.2))++(s0.os.map fun p=>(p.1,none))++st.os⟩
theorem mI {s0 : St} {upds : List (Nat × List A)} {id : Nat} : (∀ cs, (b6 s0 st upds).get id = some cs → (id, cs) ∈ upds ∨ (s0.free id = true ∧ st.get id = some cs)) ∧ ((b6 s0 st upds).free id = true → st.free id = true) := by
  unfold b6 St.get St.free
  dsimp only
  rw [List.append_assoc]
  have g1:∀(l:List (Nat×List A)) os,(∀cs,look ((l.map fun p=>(p.1,some p.2))++os) id=some cs→(id,cs)∈l∨look os id=some cs)∧(fresh ((l.map fun p=>(p.1,some p.2))++os) id=true→fresh os id=true):=by
    intro l os
    induction l with
    |nil=>exact⟨fun cs h=> .inr h,fun h=>h⟩
    | cons p l ih =>
      simp only [List.map_cons,List.cons_append,look,fresh]
      cases hb:Nat.beq p.1 id with
      | true =>
        refine⟨fun cs h=> .inl ?_,fun h=>by cases h⟩
        simp only [cond_true,Option.some.injEq]at h
        rw [←h, ←Nat.eq_of_beq_eq_true hb];exact .head _
      |false=>exact⟨fun cs h=>(ih.1 cs h).imp (fun h=> .tail _ h) (fun h=>h),fun h=>ih.2 h⟩
  have g2:∀(l os:List (Nat×Option (List A))),(∀cs,look ((l.map fun p=>(p.1,(none:Option (List A))))++os) id=some cs→fresh l id=true∧look os id=some cs)∧(fresh ((l.map fun p=>(p.1,(none:Option (List A))))++os) id=true→fresh os id=true):=by
    intro l os
    induction l with
    |nil=>exact⟨fun cs h=>⟨rfl,h⟩,fun h=>h⟩
    | cons p l ih =>
      simp only [List.map_cons,List.cons_append,look,fresh]
      cases hb:Nat.beq p.1 id with
      |true=>exact⟨(fun cs h=>by cases h),(fun h=>by cases h)⟩
      |false=>exact ih
  refine⟨fun cs h=>?_,fun h=>?_⟩
  · rcases (g1 _ _).1 cs h with h | h
    · exact .inl h
    · exact .inr ((g2 _ _).1 cs h)
  · exact(g2 _ _).2 ((g1 _ _).2 h)
def vW:A→Option Nat
  | .fn _ [] [.p id _]=>some id
  |_=>none
theorem K4 {v:A} {id:Nat} (h:vW v=some id):∃f off,v= .fn f [] [.p id off]:=by
  unfold vW at h
  split at h
  · simp only [Option.some.injEq]at h;subst h;exact⟨_,_,rfl⟩
  · cases h
def Kp (s0:St) (ow:Bool):A→Prop
  | .p id _=>∃cs,s0.get id=some cs
  | .sl id _ _ _=>∃cs,s0.get id=some cs
  |v=>(Pure v∧(ow=false∨Flat v))∨∃id cs,vW v=some id∧s0.get id=some cs
def ov (s0:St) (ow:Bool):List A→Prop
  | []=>True
  |c::cs=>Kp s0 ow c∧ov s0 ow cs
theorem Ih {s0:St} {ow:Bool} {v:A} (h:Pure v) (hf:ow=false∨Flat v):Kp s0 ow v:=by
  cases v<;>first|exact .inl ⟨h,hf⟩|(simp only [Pure]at h)
theorem Ig {s0:St} {ow:Bool} {f:Fn} {id off:Nat} {cs:List A} (h:s0.get id=some cs):Kp s0 ow (.fn f [] [.p id off]):= .inr ⟨id,cs,rfl,h⟩
theorem yl {s0:St} {ow:Bool}:∀ {l:List A},dF l→(ow=false∨fL l)→ov s0 ow l
  | [],_,_=>trivial
  |_::_,h,hf=>⟨Ih h.1 (hf.imp id (·.1)),yl h.2 (hf.imp id (·.2))⟩
theorem Ip {s0:St} {ow:Bool} {X X':Xs} {w':World} {β β':Bm} (hx:ow=false→dW X' X w' w') (hid:∀id cs,s0.get id=some cs→β' id=β id) {v:A} {u:Value} (h:Kp s0 ow v) (hv:V X' w' β' v u):V X w' β v u:=by
  have go:((Pure v∧(ow=false∨Flat v))∨∃id cs,vW v=some id∧s0.get id=some cs)→V X w' β v u:=fun h=>by
    rcases h with ⟨hp,hf⟩|⟨id,cs,e,hc⟩
    · rcases hf with hf | hf
      · exact gj (hx hf) _ _ _ _ (dE.refl _) (mH _ _ hp hv)
      · exact sO _ _ hf hv
    · obtain ⟨f, off, rfl⟩ := K4 e
      simp only [V,VS]at hv ⊢
      rw [←hid id cs hc];exact hv
  cases v with
  |p id off=>obtain⟨cs,hc⟩:=h;simp only [V]at hv ⊢;rw [←hid id cs hc];exact hv
  |sl id s off n=>obtain⟨cs,hc⟩:=h;simp only [V]at hv ⊢;rw [←hid id cs hc];exact hv
  |b _=>exact go h
  |i _ _=>exact go h
  |s _=>exact go h
  |nl=>exact go h
  |fz _ _=>exact go h
  |fp _=>exact go h
  |mc _ _=>exact go h
  |ag _=>exact go h
  |tu _=>exact go h
  |fn _ _ _=>exact go h
  |ic _ _=>exact go h
  |raw _=>exact go h
theorem BK {s0:St} {ow:Bool} {X X':Xs} {w':World} {β β':Bm} (hx:ow=false→dW X' X w' w') (hid:∀id cs,s0.get id=some cs→β' id=β id):∀ {cs:List A} {us:List Value},ov s0 ow cs→VS X' w' β' cs us→VS X w' β cs us
  | [],us,_,hv=>by simp only [VS]at hv ⊢;exact hv
  | c :: cs, us, h, hv => by
    simp only [VS]at hv
    obtain⟨u,r,rfl,h1,h2⟩:=hv
    exact eV (Ip hx hid h.1 h1) (BK hx hid h.2 h2)
theorem Mem.BV (hr : dZ w0 X0 n E st β X a w) {s0 : St} {ow : Bool} {X' : Xs} {β' : Bm} {st' : St} {w' : World} {upds : List (Nat × List A)} (hss : ∀ id cs, s0.get id = some cs → st.get id = some cs) (hm : Mem (bw w (er s0 β) s0 fC) β' X' st' w')
    (hsub:∀b o,X' b o→Xo ow st s0 β X b o∨(bw w (er s0 β) s0 fC).own b) (hsup:∀b o,Xo ow st s0 β X b o→X' b o) (hu:∀p∈upds,st'.get p.1=some p.2∧(∃cs,s0.get p.1=some cs)∧ov s0 ow p.2):
    let X1:Xs:=fun b o=>X b o∨(X' b o∧(bw w (er s0 β) s0 fC).own b)
    Mem w0 β X1 (b6 s0 st upds) w'∧dW X X1 w w'∧(∀b o,X1 b o→X b o∨w0.own b)∧(ow=false→dW X' X1 w' w')∧(∀b N id cs,st.get id=some cs→β id=some (.bk b N)→b<w.heap.size):=by
  intro X1
  have hlt:∀b N id cs,st.get id=some cs→β id=some (.bk b N)→b<w.heap.size∧w0.own b∧∀o,¬X b o:=fun b N id cs hg hβ=>(hr.mem.obj id cs hg).mT hβ rfl
  have hM:∀b,(bw w (er s0 β) s0 fC).M b→b<w.heap.size∧w0.own b∧∀o,¬X b o:=fun b ⟨id,cs,h1,y,h2,h3⟩=>(hr.mem.obj id cs (hss id cs h1)).mT (my h2).2 h3
  have hMr:∀b,(bw w (er s0 β) s0 fC).M b→¬(w.heap[b]? =some (Obj.deferred (some []))∨∃r:Loop,w.heap[b]? =some (Obj.loop r)):=fun b ⟨id,cs,h1,y,h2,h3⟩ hb=>(hr.mem.obj id cs (hss id cs h1)).Nb (my h2).2 h3 hb
  have hown:∀b,(bw w (er s0 β) s0 fC).own b→w0.own b:=fun b h=>by
    rcases h with h|h
    · exact Bw.mr hr.mem.below h
    · exact(hM b h).2.1
  have hx:dW X X1 w w':=fun b o h=>⟨.inl h,World.cell?_of_block (w:=w) (hm.below.block b (hr.mem.xlt b o h) fun hb=>(hM b hb).2.2 o h)⟩
  have hX1:ow=false→dW X' X1 w' w':=fun how b o h=>by
    refine⟨?_,rfl⟩
    rcases hsub b o h with h'|h'
    · rcases h' with h' | ⟨h', _⟩
      · exact .inl h'
      · rw [how]at h';cases h'
    · exact .inr ⟨h,h'⟩
  have hb0:∀id x,er s0 β id=some x→β' id=some x:=hm.b0
  have hsz:w.heap.size≤w'.heap.size:=hm.below.size
  refine⟨.of ⟨hm.below.os.trans hr.mem.below.os,hm.below.tape.trans hr.mem.below.tape,hm.below.output.trans hr.mem.below.output,Nat.le_trans hr.mem.below.size hsz,fun k hk hkm=>?_,fun s hs=>ew.rJ (hr.mem.below.sus s hs) fun b hb=>hm.below.block b (by rcases hb with hb|⟨_,hb⟩<;>exact(Array.getElem?_eq_some_iff.1 hb).1) (fun hM'=>hMr b hM' hb)⟩ hr.mem.b0 (fun b o h=>?_) (fun id h=>hr.mem.dom id (mI.2 h)) (fun id cs hg=>?_) (fun i j ci cj b M N hij hi hj hbi hbj=>?_),hx,fun b o h=>?_,hX1,fun b N id cs hg hβ=>(hlt b N id cs hg hβ).1⟩
  · rw [hm.below.block k (Nat.lt_of_lt_of_le hk hr.mem.below.size) (fun hb => by rcases (hM k hb).2.1 with h | h; omega; exact hkm h)]
    exact hr.mem.below.block k hk hkm
  · rcases h with h | ⟨h, _⟩
    · exact Nat.lt_of_lt_of_le (hr.mem.xlt b o h) hsz
    · exact hm.xlt b o h
  · rcases mI.1 cs hg with hg | ⟨hf, hg⟩
    · obtain ⟨g1, ⟨cs0, g2⟩, g3⟩ := hu _ hg
      have ho:=hm.obj id cs g1
      have hfr:=pT g2
      have hst:=hss id cs0 g2
      have ho0:=hr.mem.obj id cs0 hst
      unfold OB at ho ho0 ⊢
      cases hβ:β id with
      |none=>rw [hβ]at ho0;exact ho0
      | some x =>
        have:=hb0 id x (by rw [lS hfr];exact hβ)
        rw [this]at ho
        cases x with
        |ph=>exact ho
        | bk b N =>
          obtain⟨h1,h2,us,rest,ty,h3,h4,h5,h6⟩:=ho
          refine⟨hown b h1,fun o h=>?_,us,rest,ty,h3,h4,?_,h6⟩
          · rcases h with h | ⟨h, _⟩
            · exact h2 o (hsup b o (.inl h))
            · exact h2 o h
          · refine BK hX1 (fun i ci hi => ?_) g3 h5
            have hoi:=hr.mem.obj i ci (hss i ci hi)
            unfold OB at hoi
            cases hβi:β i with
            |none=>rw [hβi]at hoi;exact hoi.elim
            |some y=>exact hb0 i y (by rw [lS (pT hi)];exact hβi)
        | mp b =>
          obtain⟨h0,h1,h2,h3⟩:=ho
          refine⟨h0,hown b h1,fun o h=>?_,h3⟩
          rcases h with h|⟨h,_⟩
          · exact h2 o (hsup b o (.inl h))
          · exact h2 o h
    · have key : ∀ (y : BL) (b : Nat), β id = some y → y.on b → w'.heap[b]? = w.heap[b]? ∧ ∀ o, ¬ X1 b o := fun y b hb hyb => by
        obtain⟨h1,h2,h3⟩:=(hr.mem.obj id cs hg).mT hb hyb
        have hnm:¬(bw w (er s0 β) s0 fC).M b:=fun⟨id',cs',g1,z,g2,g5⟩=>by
          obtain⟨g3,g4⟩:=my g2
          refine hr.mem.apart (fun e=>?_) hg (hss id' cs' g1) hb g4 hyb g5
          subst e;rw [hf]at g3;cases g3
        refine⟨hm.below.block b h1 hnm,fun o h=>?_⟩
        rcases h with h|⟨_,h|h⟩
        · exact h3 o h
        · exact absurd h1 (Nat.not_lt.2 h)
        · exact hnm h
      exact(hr.mem.obj id cs hg).later hx (dE.refl β) (fun b N hb=>key _ b hb rfl) fun b hb=>key _ b hb rfl
  · have hgi : ∃ c, st.get i = some c := by
      rcases mI.1 ci hi with h|⟨_,h⟩
      · obtain⟨_,⟨cs,h⟩,_⟩:=hu _ h;exact⟨cs,hss _ _ h⟩
      · exact⟨_,h⟩
    have hgj:∃c,st.get j=some c:=by
      rcases mI.1 cj hj with h|⟨_,h⟩
      · obtain⟨_,⟨cs,h⟩,_⟩:=hu _ h;exact⟨cs,hss _ _ h⟩
      · exact⟨_,h⟩
    obtain⟨c1,hi'⟩:=hgi
    obtain⟨c2,hj'⟩:=hgj
    exact hr.mem.inj i j c1 c2 b M N hij hi' hj' hbi hbj
  · rcases h with h | ⟨_, h⟩
    · exact .inl h
    · exact .inr (hown b h)
theorem Mem.after (hr:dZ w0 X0 n E st β X a w) {s0:St} {ow:Bool} {X':Xs} {β':Bm} {st':St} {w':World} {upds:List (Nat×List A)} (hss:∀id cs,s0.get id=some cs→st.get id=some cs) (hm:Mem (bw w (er s0 β) s0 fC) β' X' st' w')
    (hsub:∀b o,X' b o→Xo ow st s0 β X b o∨(bw w (er s0 β) s0 fC).own b) (hsup:∀b o,Xo ow st s0 β X b o→X' b o) (hu:∀p∈upds,st'.get p.1=some p.2∧(∃cs,s0.get p.1=some cs)∧dF p.2∧(ow=false∨fL p.2)):
    let X1:Xs:=fun b o=>X b o∨(X' b o∧(bw w (er s0 β) s0 fC).own b)
    Mem w0 β X1 (b6 s0 st upds) w'∧dW X X1 w w'∧(∀b o,X1 b o→X b o∨w0.own b)∧(ow=false→dW X' X1 w' w')∧(∀b N id cs,st.get id=some cs→β id=some (.bk b N)→b<w.heap.size):=
  hm.BV hr hss hsub hsup fun p hp=>let ⟨h1,h2,h3,h4⟩:=hu p hp;⟨h1,h2,yl h3 h4⟩
theorem dZ.jT (hr:dZ w0 X0 n E st β X a w) {w1:World} {β':Bm} {X':Xs} {st':St} {d:Nat} {u:Value} {v:A} (hd:Nat.ble (d+1) n=true)
    (hx:dW X X' w w1) (hn:∀b o,X' b o→X b o∨w0.own b) (hb:dE β β') (hm:Mem w0 β' X' st' w1) (hv:V X' w1 β' v u):dZ w0 X0 n ((d,v)::E) st' β' X' (a.put (some d) u) w1:=
  hr.next ((gq a hr.defers).put aT u) hx hn hb hm hv
theorem G0 {f:FuncId} {x:Operand} {xs:List Operand} {uf us uc:List Value} {ats:Array TypeId} {d:Option Nat} {ty:TypeId} {pos b6 g} (hf:mF P f) (h1:a.eval x= .func (.func f) uf.toArray uc.toArray) (h2:xs.map a.eval=us):
    (execOp a.eval ⟨d,.call {callee:= .value x,args:=xs.toArray,argTypes:=ats},ty,pos,b6,g⟩).run P w= .ok (.enter f (uf++us++uc).toArray) w:=by
  obtain⟨fn,hf,hb,hname⟩:=hf
  have he:xs.toArray.map a.eval=us.toArray:=by rw [List.map_toArray,h2]
  have e1:execOp a.eval ⟨d,.call {callee:= .value x,args:=xs.toArray,argTypes:=ats},ty,pos,b6,g⟩=callFunc f (uf.toArray++us.toArray++uc.toArray):=by
    show(do let d ←Deferred.ofValue (a.eval x) (xs.toArray.map a.eval);invoke d.target d.args:Sem Next)=_
    rw [h1,he]
    rfl
  rw [e1]
  unfold callFunc
  rw [Sem.run_bind,run_program]
  simp only [Result.andThen_ok,hf,hname,hb,Bool.false_eq_true,if_false]
  simp
def jy (st s0:St) (ow:Bool):List (Nat×Option (List A))→Prop
  | []=>True
  |(_,none)::r=>jy st s0 ow r
  |(k,some cs)::r=>(st.get k=some cs∧cK st s0 ow cs cs)∧jy st s0 ow r
theorem lj {s0:St} {ow:Bool}:∀ {os:List (Nat×Option (List A))},jy st s0 ow os→∀ {id cs},look os id=some cs→st.get id=some cs∧cK st s0 ow cs cs
  | [],_,_,_,h=>by cases h
  | (k, none) :: r, hs, id, cs, h => by
    rw [rQ]at h
    split at h
    · cases h
    · exact lj (os:=r) hs h
  | (k, some c) :: r, hs, id, cs, h => by
    rw [rQ]at h
    split at h
    · rename_i e;subst e;simp only [Option.some.injEq]at h;subst h;exact hs.1
    · exact lj (os:=r) hs.2 h
theorem oB {d : Nat} {f : FuncId} {x : Operand} {xs : List Operand} {fs cs vs vs' : List A} {s0 : St} {ats : Array TypeId} {ty : TypeId} {pos b6 g} {ow : Bool} {R : A → St → Prop} (hr : dZ w0 X0 n E st β X a w) (hx : ev E x = some (.fn (.func f) fs cs)) (hxs : fx E xs = some vs) (hSub : jy st s0 ow s0.os) (hv : cK st s0 ow (fs ++ vs ++ cs) vs')
    (hc:eQ P f vs' s0 R) (h:∀v w',Post (bw w (er s0 β) s0 fC) (Xo ow st s0 β X) R v w'→K (a.put (some d) v) w'):
    (⟨some d,.call {callee:= .value x,args:=xs.toArray,argTypes:=ats},ty,pos,b6,g⟩:Oper).wp P a w K Q:=by
  have hss:∀id cs,s0.get id=some cs→st.get id=some cs:=fun id cs h=>(lj hSub h).1
  obtain⟨e1,e2⟩:=hr.c9 hx
  obtain⟨us,e3,e4⟩:=hr.gA hxs
  simp only [V]at e2
  obtain⟨uf,uc,e5,e6,e7⟩:=e2
  have hall:=l4 hr hv (gZ (gZ e6 e4) e7)
  have hcall:=hc w (Xo ow st s0 β X) (er s0 β) (uf++us++uc) fC (yB hr) (hr.gl.mono fun b o h=>⟨.inl h,rfl⟩)
    (fun id cs hg => by
      have hst:=hss id cs hg
      have ho:=hr.mem.obj id cs hst
      have hf:=pT hg
      unfold OB at ho ⊢
      rw [lS hf]
      split
      · rename_i h';rw [h']at ho;exact ho
      · rename_i h';rw [h']at ho;exact ho
      · rename_i b N h'
        rw [h']at ho
        obtain⟨h1,h2,us,rest,ty,h3,h4,h5,h6⟩:=ho
        refine⟨.inr ⟨id,cs,hg,.bk b N,bd,rfl⟩,fun o h=>?_,us,rest,ty,h3,h4,?_,h6⟩
        · rcases h with h | ⟨_, id', cs', N', k1, k2, k3, _⟩
          · exact h2 o h
          · refine hr.mem.inj id id' cs cs' b N N' (fun e => ?_) hst k2 h' k3
            subst e;rw [hf]at k1;cases k1
        · exact l4 hr (lj hSub hg).2 h5
      · rename_i b h'
        rw [h']at ho
        obtain⟨h0,h1,h2,h3⟩:=ho
        refine⟨h0,.inr ⟨id,cs,hg,.mp b,bd,rfl⟩,fun o h=>?_,h3⟩
        rcases h with h|⟨_,id',cs',N',k1,k2,k3,_⟩
        · exact h2 o h
        · refine hr.mem.apart (fun e => ?_) hst k2 h' k3 rfl rfl
          subst e;rw [hf]at k1;cases k1)
    (fun i j ci cj b M N hij hi hj hbi hbj=>hr.mem.inj i j ci cj b M N hij (hss i ci hi) (hss j cj hj) (my hbi).2 (my hbj).2) hall
  have hm:=Eng.fa.gA (gq a hr.defers) e3
  unfold Oper.wp
  rw [G0 hcall.callable e5 hm]
  show Calls P f _ w _
  refine hcall.calls.mono fun e w' he=>?_
  obtain⟨v,rfl,hp⟩:=he
  exact h v w' hp
theorem sR:b6 ⟨[]⟩ st []=st:=rfl
theorem oO {d:Nat} {f:FuncId} {x:Operand} {xs:List Operand} {fs cs vs vs':List A} {ats:Array TypeId} {ty:TypeId} {pos aft' g} {ret:A} (s0:St) (upds:List (Nat×List A)) (ow:Bool) (hx:ev E x=some (.fn (.func f) fs cs)) (hxs:fx E xs=some vs) (hS:jy st s0 ow s0.os) (hv:cK st s0 ow (fs++vs++cs) vs')
    (hc:eQ P f vs' s0 (j7 ret upds)) (hp:Pure ret) (hf:ow=false∨Flat ret) (hu:∀p∈upds,(∃cs,s0.get p.1=some cs)∧dF p.2∧(ow=false∨fL p.2)) (hd:Nat.ble (d+1) n=true) (h:At w0 X0 n ((d,ret)::E) (b6 s0 st upds) K):
    At w0 X0 n E st (fun a w=>(⟨some d,.call {callee:= .value x,args:=xs.toArray,argTypes:=ats},ty,pos,aft',g⟩:Oper).wp P a w K Q):=by
  rintro a w ⟨β,X,hr⟩
  refine oB hr hx hxs hS hv hc fun v w' ⟨r,β',X',st',⟨hR,hR2⟩,hsup,hsub,hm,hvv⟩=>?_
  obtain⟨m1,m2,m3,m4,_⟩:=hm.after hr (fun id cs h=>(lj hS h).1) hsub hsup (upds:=upds) (fun p hp=>⟨hR2 p hp,hu p hp⟩)
  subst hR
  refine h _ _ ⟨β,_,hr.jT hd m2 m3 (dE.refl β) m1 ?_⟩
  rcases hf with hf|hf
  · exact gj (m4 hf) _ _ _ _ (dE.refl β) (mH _ _ hp hvv)
  · exact sO _ _ hf hvv
theorem rR {d:Nat} {f:FuncId} {xs:List Operand} {vs vs':List A} {ats:Array TypeId} {ty:TypeId} {pos aft' g} {ret:A} (s0:St) (upds:List (Nat×List A)) (ow:Bool) (hxs:fx E xs=some vs) (hS:jy st s0 ow s0.os) (hv:cK st s0 ow vs vs')
    (hc:eQ P f vs' s0 (j7 ret upds)) (hp:Pure ret) (hf:ow=false∨Flat ret) (hu:∀p∈upds,(∃cs,s0.get p.1=some cs)∧dF p.2∧(ow=false∨fL p.2)) (hd:Nat.ble (d+1) n=true) (h:At w0 X0 n ((d,ret)::E) (b6 s0 st upds) K):
    At w0 X0 n E st (fun a w=>(⟨some d,.call {callee:= .value (.func f),args:=xs.toArray,argTypes:=ats},ty,pos,aft',g⟩:Oper).wp P a w K Q):=
  oO (fs:= []) (cs:= []) s0 upds ow rfl hxs hS aU hc hp hf hu hd h
theorem p7 {d:Nat} {f:FuncId} {x:Operand} {xs:List Operand} {fs cs vs vs':List A} {ats:Array TypeId} {ty:TypeId} {pos aft' g} {ret:A} (ow:Bool) (hx:ev E x=some (.fn (.func f) fs cs)) (hxs:fx E xs=some vs) (hv:cK st ⟨[]⟩ ow (fs++vs++cs) vs')
    (hc:bU P f vs' (cl ret)) (hp:Pure ret) (hf:ow=false∨Flat ret) (hd:Nat.ble (d+1) n=true) (h:At w0 X0 n ((d,ret)::E) st K):
    At w0 X0 n E st (fun a w=>(⟨some d,.call {callee:= .value x,args:=xs.toArray,argTypes:=ats},ty,pos,aft',g⟩:Oper).wp P a w K Q):=
  oO ⟨[]⟩ [] ow hx hxs trivial hv (eQ.mono hc fun r st h=>⟨h,(fun p hp=>by cases hp)⟩) hp hf (fun p hp=>by cases hp) hd (by rw [sR];exact h)
theorem b7 {d:Nat} {f:FuncId} {xs:List Operand} {vs vs':List A} {ats:Array TypeId} {ty:TypeId} {pos b6 g} {ret:A} (ow:Bool) (hxs:fx E xs=some vs) (hv:cK st ⟨[]⟩ ow vs vs')
    (hc:bU P f vs' (cl ret)) (hp:Pure ret) (hf:ow=false∨Flat ret) (hd:Nat.ble (d+1) n=true) (h:At w0 X0 n ((d,ret)::E) st K):
    At w0 X0 n E st (fun a w=>(⟨some d,.call {callee:= .value (.func f),args:=xs.toArray,argTypes:=ats},ty,pos,b6,g⟩:Oper).wp P a w K Q):=
  p7 (fs:= []) (cs:= []) ow rfl hxs aU hc hp hf hd h
theorem MG {d : Nat} (nx : Nat) (hfr : st.free nx = true) {f : FuncId} {x : Operand} {xs : List Operand} {fs cs vs vs' ds : List A} {s m : Nat} {ats : Array TypeId} {ty : TypeId} {pos aft' g} (ow : Bool) (hx : ev E x = some (.fn (.func f) fs cs)) (hxs : fx E xs = some vs) (hv : cK st ⟨[]⟩ ow (fs ++ vs ++ cs) vs')
    (hc:bU P f vs' (fk s m ds)) (hp:dF ds) (hf:ow=false∨fL ds) (hd:Nat.ble (d+1) n=true) (h:At w0 X0 n ((d,.sl nx s 0 m)::E) (st.put nx ds) K):
    At w0 X0 n E st (fun a w=>(⟨some d,.call {callee:= .value x,args:=xs.toArray,argTypes:=ats},ty,pos,aft',g⟩:Oper).wp P a w K Q):=by
  rintro a w ⟨β,X,hr⟩
  refine oB hr hx hxs (s0:=⟨[]⟩) trivial hv hc fun v w' ⟨r,β',X',st',hR,hsup,hsub,hm,hvv⟩=>?_
  obtain⟨id,rfl,hg⟩:=hR
  obtain⟨m1,m2,m3,m4,m6⟩:=hm.after hr (fun id cs h=>by cases h) hsub hsup (upds:= []) (fun p hp=>by cases hp)
  rw [sR]at m1
  have hnx:=hr.mem.dom nx hfr
  have ho:=hm.obj id ds hg
  unfold OB at ho
  simp only [V]at hvv
  rcases hvv with ⟨hβ,rfl,_,rfl⟩|⟨b,N,cap,hβ,rfl,c1,c2,c3⟩
  · rw [hβ] at ho
    have ho:ds= []:=ho
    subst ho
    exact h _ _ ⟨_,_,hr.jT hd m2 m3 (en hnx) (m1.AE nx hfr) aR⟩
  · rw [hβ] at ho
    obtain⟨o1,o2,us,rest,ety,o3,o4,o5,o6⟩:=ho
    have o1:w.heap.size≤b:=by
      rcases o1 with h|⟨id',cs',h,_⟩
      · exact h
      · cases h
    have hnX:∀o,¬(X b o∨(X' b o∧(bw w (er ⟨[]⟩ β) ⟨[]⟩ fC).own b)):=fun o h=>by
      rcases h with h|⟨h,_⟩
      · exact o2 o (hsup b o (.inl h))
      · exact o2 o h
    have hvs:VS (fun b o=>X b o∨(X' b o∧(bw w (er ⟨[]⟩ β) ⟨[]⟩ fC).own b)) w' (dS β nx (.bk b N)) ds us:=by
      rcases hf with hf|hf
      · exact gP (m4 hf) _ _ _ _ (dE.refl _) (l3 _ _ hp o5)
      · exact nA _ _ hf o5
    have hfresh:∀k ck q M,st.get k=some ck→β k=some (.bk q M)→q≠b:=fun k ck q M hk hq=>by
      have:=m6 q M k ck hk hq
      omega
    have m5 : Mem w0 (dS β nx (.bk b N)) (fun b o => X b o ∨ (X' b o ∧ (bw w (er ⟨[]⟩ β) ⟨[]⟩ fC).own b)) (st.put nx ds) w' := by
      refine .of (m1.below) (fun k y h=>(en hnx) k y (m1.b0 k y h)) (m1.xlt) (fun k h=>?_) (fun k es hk=>?_) (fun i j ci cj q M N' hij hi hj hbi hbj=>?_)
      · rw [St.gF] at h
        split at h
        · cases h
        · rename_i hne
          rw [dV (fun e=>hne e.symm)]
          exact hr.mem.dom k h
      · rw [St.ef] at hk
        split at hk
        · rename_i e; subst e
          simp only [Option.some.injEq]at hk
          subst hk
          unfold OB
          rw [dA]
          exact⟨Bw.mr hr.mem.below o1,hnX,us,rest,ety,o3,o4,hvs,o6⟩
        · refine (m1.obj k es hk).later (fun _ _ h => ⟨h, rfl⟩) (en hnx) (fun q M hq => ⟨rfl, ?_⟩) fun q hq => ⟨rfl, ((m1.obj k es hk).gB hq).2.2.1⟩
          have hk':=m1.obj k es hk
          unfold OB at hk'
          rw [hq]at hk'
          exact hk'.2.1
      · rw [St.ef] at hi hj
        by_cases ei:nx=i
        · by_cases ej : nx = j
          · omega
          · rw [if_neg ej] at hj
            rw [←ei,dA]at hbi
            rw [dV aq]at hbj
            simp only [Option.some.injEq,BL.bk.injEq]at hbi
            exact hfresh j cj q N' hj hbj aq
        · rw [if_neg ei] at hi
          rw [dV aq]at hbi
          by_cases ej:nx=j
          · rw [← ej, dA] at hbj
            simp only [Option.some.injEq,BL.bk.injEq]at hbj
            exact hfresh i ci q M hi hbi aq
          · rw [if_neg ej] at hj
            rw [dV aq]at hbj
            exact hr.mem.inj i j ci cj q M N' hij hi hj hbi hbj
    exact h _ _ ⟨_,_,hr.jT hd m2 m3 (en hnx) m5 bb⟩
theorem kx {d:Nat} (nx:Nat) (hfr:st.free nx=true) {f:FuncId} {xs:List Operand} {vs vs' ds:List A} {s m:Nat} {ats:Array TypeId} {ty:TypeId} {pos b6 g} (ow:Bool) (hxs:fx E xs=some vs) (hv:cK st ⟨[]⟩ ow vs vs')
    (hc:bU P f vs' (fk s m ds)) (hp:dF ds) (hf:ow=false∨fL ds) (hd:Nat.ble (d+1) n=true) (h:At w0 X0 n ((d,.sl nx s 0 m)::E) (st.put nx ds) K):
    At w0 X0 n E st (fun a w=>(⟨some d,.call {callee:= .value (.func f),args:=xs.toArray,argTypes:=ats},ty,pos,b6,g⟩:Oper).wp P a w K Q):=
  MG nx hfr (fs:= []) (cs:= []) ow rfl hxs aU hc hp hf hd h
def jA:List A→Nat→Ev
  | [],_=> []
  |v::r,k=>(k,v)::jA r (k+1)
theorem nC:∀(l:List A) (k t:Nat) (v:A),(jA l k).cF t=some v→k≤t∧l[t - k]? =some v
  | [],_,_,_,h=>by simp [jA,Ev.cF]at h
  | u :: r, k, t, v, h => by
    simp only [jA,Ev.cF]at h
    cases hb:Nat.beq k t with
    | true =>
      rw [hb]at h
      have:k=t:=Nat.eq_of_beq_eq_true hb
      subst this
      simp only [cond_true,Option.some.injEq]at h
      subst h
      simp
    | false =>
      rw [hb]at h
      have hne:k≠t:=Nat.ne_of_beq_eq_false hb
      obtain⟨h1,h2⟩:=nC r (k+1) t v h
      refine⟨by omega,?_⟩
      rw [show t - k=(t - (k+1))+1 by omega]
      simpa using h2
theorem tF {f:FuncId} {fn:Func} {c:Code} {args:List A} {s0:St} {R:A→St→Prop} (hf:P.funcs[f]? =some fn) (hb:fn.body=some c)
    (hn:fn.ntmps=n) (hname:(fn.name== "runtime.NumGoroutine")=false) (ha:args.length≤n)
    (h:∀w0 X0,w0.ids=s0.os.map Prod.fst→At w0 X0 n (jA args 0) s0 (Pw [] (c.wpIn (rF none) 0 P (bodyPost P fn fun e w'=>∃v,e= .returned v∧Post w0 X0 R v w')))):eQ P f args s0 R:=by
  intro w X β us hd hX hgl ho hi hv
  have hl:=fb hv
  refine⟨⟨fn,hf,by simp [hb],hname⟩,calls_of_wp hf hb (wpIn_wide.1 (mA (h (bw w β s0 hd) X rfl _ w ⟨β,X,.of (fun _ _ h=>h) (fun _ _ h=> .inl h) (.of ⟨rfl,rfl,rfl,Nat.le_refl _,fun _ _ _=>rfl,fun s hs=>by cases hs⟩ (dE.refl β) hX hd ho hi) hgl ?_ rfl (fun s hs=>by cases hs) (fun t v ht=>?_)⟩)))⟩
  · simp [hn];omega
  · obtain ⟨_, h2⟩ := nC _ _ _ _ ht
    simp only [Nat.sub_zero]at h2
    obtain⟨u,g1,g2⟩:=iO hv h2
    have hlt:=(List.getElem?_eq_some_iff.1 g1).1
    refine⟨u,?_,g2⟩
    rw [Array.getElem?_append,if_pos aZ]
    simpa using g1
theorem enter {f:FuncId} {fn:Func} {c:Code} {args:List A} {R:A→St→Prop} (hf:P.funcs[f]? =some fn) (hb:fn.body=some c)
    (hn:fn.ntmps=n) (hname:(fn.name== "runtime.NumGoroutine")=false) (ha:args.length≤n)
    (h:∀w0 X0,w0.ids= []→At w0 X0 n (jA args 0) ⟨[]⟩ (Pw [] (c.wpIn (rF none) 0 P (bodyPost P fn fun e w'=>∃v,e= .returned v∧Post w0 X0 R v w')))):bU P f args R:=tF hf hb hn hname ha h
def gO (P:Program) (E:Ev) (st:St) (rs:List ResultVar) (vs:List A):Prop:=
  ∀w0 X0 n β X a w,RelQ w0 X0 n E st β X a w→∃us,(rs.mapM (m0 a.tmps)).run P w= .ok us w∧VS X w β vs us
theorem bW:gO P E st [] []:=fun _ _ _ _ _ _ _ _=>⟨[],by simp,fM⟩
theorem bV {t:Nat} {v:A} {rs:List ResultVar} {vs:List A} (ht:E.cF t=some v) (h:gO P E st rs vs):gO P E st (.tmp t::rs) (v::vs):=fun _ _ _ _ _ a w hr=>by
  obtain⟨u,h1,h2⟩:=hr.slot t v ht
  obtain⟨us,h3,h4⟩:=h _ _ _ _ _ _ _ hr
  refine⟨u::us,?_,eV h2 h4⟩
  simp only [List.mapM_cons,Sem.run_bind,Sem.run_pure,Result.andThen_ok,m0]
  rw [h3]
  simp [h1]
theorem fR {x t by':Nat} {zero:List Value} {v c:A} {cs:List A} {rs:List ResultVar} {vs:List A} (ht:TI P t 1 by' zero false) (hx:E.cF x=some v) (hm:PM st v=some cs) (hc:cs[0]? =some c) (h:gO P E st rs vs):gO P E st (.cell x t::rs) (c::vs):=fun _ _ _ _ _ a w hr=>by
  obtain⟨u,h1,h2⟩:=hr.slot x v hx
  obtain⟨us,h3,h4⟩:=h _ _ _ _ _ _ _ hr
  obtain⟨b,o,us',e1,e2,e3,e4⟩:=uk hr h2 hm
  obtain⟨z,g1,g2⟩:=iO e2 hc
  have e5:(asAddr (a.tmps.getD x undef)).run P w= .ok ⟨b,o,none⟩ w:=by simp [h1,e1,asAddr]
  refine⟨z::us,?_,eV g2 h4⟩
  simp only [List.mapM_cons,Sem.run_bind,m0]
  rw [e5]
  have hrun:=G3 (P:=P) ht (e4 w .refl 0 z g1)
  rw [Nat.add_zero]at hrun
  simp only [Result.andThen_ok,hrun]
  rw [h3]
  rfl
theorem da {x t size by':Nat} {zero:List Value} {v:A} {cs ds:List A} {rs:List ResultVar} {vs:List A} (ht:TI P t size by' zero true) (hx:E.cF x=some v) (hm:PM st v=some cs) (hc:cs.take size=ds) (hl:ds.length=size) (h:gO P E st rs vs):gO P E st (.cell x t::rs) (.ag ds::vs):=fun _ _ _ _ _ a w hr=>by
  obtain⟨u,h1,h2⟩:=hr.slot x v hx
  obtain⟨us,h3,h4⟩:=h _ _ _ _ _ _ _ hr
  obtain⟨b,o,us',e1,e2,e3,e4⟩:=uk hr h2 hm
  subst hc
  have e5:(asAddr (a.tmps.getD x undef)).run P w= .ok ⟨b,o,none⟩ w:=by simp [h1,e1,asAddr]
  refine⟨.agg (us'.take size).toArray::us,?_,eV (by simp only [V];exact⟨_,rfl,j8 e2 _,fun x hx=>e3 x (List.mem_of_mem_take hx)⟩) h4⟩
  have hrun:=G2 (P:=P) ht (w:=w) (b:=b) (o:=o) (cs:=us'.take size) ((fb (j8 e2 size)).trans hl) (fun j u hj=>by
    rw [List.getElem?_take]at hj
    split at hj
    · exact e4 w .refl j u hj
    · cases hj)
  simp only [List.mapM_cons,Sem.run_bind,m0]
  rw [e5]
  simp only [Result.andThen_ok,hrun]
  rw [h3]
  rfl
def mv:List A→A
  | [v]=>v
  |vs=> .tu vs
theorem sP {vs:List A} {us:List Value} (h:VS X w β vs us):V X w β (mv vs) (k5 us):=by
  match vs with
  | []=>simp only [VS]at h;subst h;simp only [mv,k5,V];exact⟨[],rfl,fM⟩
  | [v]=>simp only [VS]at h;obtain⟨u,r,rfl,h1,rfl⟩:=h;exact h1
  | v :: v' :: r =>
    simp only [VS]at h
    obtain⟨u,r1,rfl,h1,u',r2,rfl,h2,h3⟩:=h
    simp only [mv,k5,V]
    exact⟨_,rfl,eV h1 (eV h2 h3)⟩
theorem oa {fn:Func} {rs:List ResultVar} {us:List Value} (hrs:fn.results=rs.toArray) (h2:(rs.mapM (m0 a.tmps)).run P w= .ok us w):(results fn a.tmps).run P w= .ok (k5 us) w:=by
  have e:results fn a.tmps=(do let vs ←fn.results.mapM (m0 a.tmps);pure (if h:vs.size=1 then vs[0]else .tuple vs)):=by
    unfold results
    congr 2
  rw [e,Sem.run_bind,hrs,List.mapM_toArray,Sem.run_map,h2]
  match us with
  | []=>simp [k5]
  | [v]=>simp [k5]
  |u::v::r=>simp [k5]
theorem bZ {fn:Func} {R:A→St→Prop} {rs:List ResultVar} {vs:List A} (hrs:fn.results=rs.toArray) (hv:gO P E st rs vs) (h:R (mv vs) st):
    At w0 X0 n E st (Pw [] (bodyPost P fn (fun e w'=>∃v,e= .returned v∧Post w0 X0 R v w') .ret)):=fun a w ⟨β,X,hr⟩=>by
  show bodyPost P fn _ .ret (a.wd []) w
  rw [og]
  obtain⟨us,h1,h2⟩:=hv _ _ _ _ _ _ _ hr.toRelQ
  exact⟨hr.defers,_,oa hrs h1,_,rfl,_,β,X,st,h,hr.x0,hr.xn,hr.mem,sP h2⟩
theorem nE {fn:Func} {R:A→St→Prop} {rs:List ResultVar} {vs:List A} (hrs:fn.results=rs.toArray) (hv:gO P E st rs vs) (h:R (mv vs) st):
    At w0 X0 n E st (Pw [] (bodyPost P fn (fun e w'=>∃v,e= .returned v∧Post w0 X0 R v w') .normal)):=fun a w ⟨β,X,hr⟩=>by
  show bodyPost P fn _ .normal (a.wd []) w
  rw [og]
  obtain⟨us,h1,h2⟩:=hv _ _ _ _ _ _ _ hr.toRelQ
  exact⟨hr.defers,_,oa hrs h1,_,rfl,_,β,X,st,h,hr.x0,hr.xn,hr.mem,sP h2⟩
end
end Go.Abs
