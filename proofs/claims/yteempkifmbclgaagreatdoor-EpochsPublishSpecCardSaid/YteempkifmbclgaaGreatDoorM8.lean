/-
  The engine, the plain laws and the walks that the rows need, part 8. Conditions: none.
-/
import Derived.Test.YteempkifmbclgaaGreatDoorM7
set_option linter.unusedVariables false
set_option linter.unusedSimpArgs false
set_option maxHeartbeats 1000000
set_option maxRecDepth 10000
-- AbsF
namespace Go.Abs
open Go Go.Eng
abbrev gy:=List (Nat×Option Nat)
def gW:gy→Nat→Option (Option Nat)
  | [],_=>none
  |(k,o)::r,id=>cond (Nat.beq k id) (some o) (gW r id)
mutual
inductive Ren (ρ:gy):A→A→Prop where
  |pure {v} (h:Pure v):Ren ρ v v
  |p {id id' off} (h:gW ρ id'=some (some id)):Ren ρ (.p id off) (.p id' off)
  |sl {id id' s off m m'} (h:gW ρ id'=some (some id)) (hm:m=m'):Ren ρ (.sl id s off m) (.sl id' s off m')
  |nl {id' s} (h:gW ρ id'=some none):Ren ρ .nl (.sl id' s 0 0)
  |ag {cs cs'} (h:iw ρ cs cs'):Ren ρ (.ag cs) (.ag cs')
  |fn {f aS aS' cs cs'} (h:iw ρ aS aS') (h':iw ρ cs cs'):Ren ρ (.fn f aS cs) (.fn f aS' cs')
inductive iw (ρ:gy):List A→List A→Prop where
  |nil:iw ρ [] []
  |cons {c c' cs cs'} (h:Ren ρ c c') (hs:iw ρ cs cs'):iw ρ (c::cs) (c'::cs')
end
theorem iw.pure {ρ:gy}:∀ {cs:List A},dF cs→iw ρ cs cs
  | [],_=> .nil
  |_::_,h=> .cons (.pure h.1) (iw.pure h.2)
theorem iw.app {ρ:gy}:∀ {cs cs' ds ds':List A},iw ρ cs cs'→iw ρ ds ds'→iw ρ (cs++ds) (cs'++ds')
  |_,_,_,_,.nil,h=>h
  |_,_,_,_,.cons h hs,h'=> .cons h (iw.app hs h')
def jt (ρ:gy) (β:Bm):Bm:=fun id=>match gW ρ id with
  |some (some old)=>β old
  |some none=>some .ph
  |none=>none
section
variable {X:Xs} {w:World} {β:Bm} {ρ:gy}
mutual
theorem BF:∀ {v v':A} {u:Value},Ren ρ v v'→V X w β v u→V X w (jt ρ β) v' u
  |v,_,u,.pure h,hv=>mH _ _ h hv
  | _, _, u, .p h, hv => by
    simp only [V]at*
    obtain⟨b,N,h1,h2⟩:=hv
    exact⟨b,N,by simp only [jt,h];exact h1,h2⟩
  | _, _, u, .sl h hm, hv => by
    subst hm
    simp only [V]at*
    rcases hv with ⟨h1,h2⟩|⟨b,N,cap,h1,h2⟩
    · exact .inl ⟨by simp only [jt,h];exact h1,h2⟩
    · exact .inr ⟨b,N,cap,by simp only [jt,h];exact h1,h2⟩
  | _, _, u, .nl h, hv => by
    simp only [V]at*
    exact .inl ⟨by simp only [jt,h],by simpa using hv⟩
  | _, _, u, .ag h, hv => by
    simp only [V]at*
    obtain⟨us,h1,h2,h3⟩:=hv
    exact⟨us,h1,sL h h2,h3⟩
  | _, _, u, .fn h h', hv => by
    simp only [V]at*
    obtain⟨us,vs,h1,h2,h3⟩:=hv
    exact⟨us,vs,h1,sL h h2,sL h' h3⟩
theorem sL:∀ {vs vs':List A} {us:List Value},iw ρ vs vs'→VS X w β vs us→VS X w (jt ρ β) vs' us
  |_,_,us,.nil,hv=>by simp only [VS]at*;exact hv
  | _, _, us, .cons h hs, hv => by
    simp only [VS]at*
    obtain⟨u,r,h1,h2,h3⟩:=hv
    exact⟨u,r,h1,BF h h2,sL hs h3⟩
end
end
def pW (ids:List Nat) (ρ:gy):Bool:=(ids.all fun i=>match gW ρ i with|some (some j)=>Nat.beq j i|_=>false)&&ρ.all fun p=>match p.2 with|some j=>cond (Nat.beq j ec) (Nat.beq p.1 ec) true|none=>true
theorem LH {ids:List Nat} {ρ:gy} (h:pW ids ρ=true) {i:Nat} (hi:i∈ids):gW ρ i=some (some i):=by
  unfold pW at h
  rw [Bool.and_eq_true]at h
  have:=List.all_eq_true.1 h.1 i hi
  split at this
  · rename_i j hj;rw [hj,Nat.eq_of_beq_eq_true this]
  · cases this
theorem Fo:∀ {ρ:gy} {i:Nat} {x:Option Nat},gW ρ i=some x→(i,x)∈ρ
  | [],_,_,h=>by cases h
  | (k, c) :: r, i, x, h => by
    simp only [gW]at h
    cases hb:Nat.beq k i with
    | true =>
      rw [hb]at h
      simp only [cond_true,Option.some.injEq]at h
      rw [←h, ←Nat.eq_of_beq_eq_true hb];exact .head _
    | false =>
      rw [hb]at h
      exact .tail _ (Fo h)
theorem LG {ids:List Nat} {ρ:gy} (h:pW ids ρ=true) {i:Nat} (hi:gW ρ i=some (some ec)):i=ec:=by
  unfold pW at h
  rw [Bool.and_eq_true]at h
  have:=List.all_eq_true.1 h.2 _ (Fo hi)
  exact Nat.eq_of_beq_eq_true this
def uT (ρ:gy) (E:Ev):Ev→Prop
  | []=>True
  |(t,v)::r=>(∃v0,E.cF t=some v0∧Ren ρ v0 v)∧uT ρ E r
def sM (ρ:gy) (st:St):List (Nat×Option (List A))→Prop
  | []=>True
  |(_,none)::_=>False
  |(id,some cs)::r=>((gW ρ id=some none∧cs= [])∨∃old cs0,gW ρ id=some (some old)∧st.get old=some cs0∧iw ρ cs0 cs)∧sM ρ st r
def olds:gy→List Nat
  | []=> []
  |(_,some o)::r=>o::olds r
  |(_,none)::r=>olds r
def xB (ρ:gy) (st:St):Bool:=(ρ.all fun p=>!st.free p.1)&&decide (olds ρ).Nodup
theorem An:∀ {ρ:gy} {st:St} {id:Nat} {o},(ρ.all fun p=>!st.free p.1)=true→gW ρ id=some o→st.free id=false
  | [],_,_,_,_,h=>by cases h
  | (k, o') :: r, st, id, o, ha, h => by
    simp only [List.all_cons,Bool.and_eq_true]at ha
    simp only [gW]at h
    cases hb:Nat.beq k id with
    |true=>rw [←Nat.eq_of_beq_eq_true hb];simpa using ha.1
    |false=>rw [hb]at h;exact An ha.2 h
theorem Ao:∀ {ρ:gy} {id o:Nat},gW ρ id=some (some o)→o∈olds ρ
  | [],_,_,h=>by cases h
  | (k, o') :: r, id, o, h => by
    simp only [gW]at h
    cases hb:Nat.beq k id with
    |true=>rw [hb]at h;simp only [cond_true,Option.some.injEq]at h;subst h;exact .head _
    | false =>
      rw [hb]at h
      have:=Ao (ρ:=r) h
      cases o' with
      |none=>exact this
      |some _=>exact .tail _ this
theorem Fm : ∀ {ρ : gy} {i j o : Nat}, (olds ρ).Nodup → gW ρ i = some (some o) → gW ρ j = some (some o) → i = j
  | [],_,_,_,_,h,_=>by cases h
  | (k, o') :: r, i, j, o, hn, hi, hj => by
    simp only [gW]at hi hj
    have hn':(olds r).Nodup:=by
      cases o' with
      |none=>exact hn
      |some _=>exact(List.nodup_cons.1 hn).2
    cases hbi:Nat.beq k i with
    | true =>
      cases hbj:Nat.beq k j with
      |true=>rw [←Nat.eq_of_beq_eq_true hbi, ←Nat.eq_of_beq_eq_true hbj]
      | false =>
        rw [hbi]at hi;rw [hbj]at hj
        simp only [cond_true,Option.some.injEq]at hi
        subst hi
        exact absurd (Ao hj) (List.nodup_cons.1 hn).1
    | false =>
      cases hbj:Nat.beq k j with
      | true =>
        rw [hbi]at hi;rw [hbj]at hj
        simp only [cond_true,Option.some.injEq]at hj
        subst hj
        exact absurd (Ao hi) (List.nodup_cons.1 hn).1
      |false=>rw [hbi]at hi;rw [hbj]at hj;exact Fm hn' hi hj
theorem yo {ρ:gy} {st:St}:∀ {os:List (Nat×Option (List A))},sM ρ st os→∀ {id cs},look os id=some cs→(gW ρ id=some none∧cs= [])∨∃old cs0,gW ρ id=some (some old)∧st.get old=some cs0∧iw ρ cs0 cs
  | [],_,_,_,h=>by cases h
  |(_,none)::_,h,_,_,_=>h.elim
  | (k, some c) :: r, h, id, cs, hl => by
    simp only [look]at hl
    cases hb:Nat.beq k id with
    | true =>
      rw [hb]at hl
      simp only [cond_true,Option.some.injEq]at hl
      subst hl
      rw [←Nat.eq_of_beq_eq_true hb]
      exact h.1
    |false=>rw [hb]at hl;exact yo h.2 hl
section
variable {P:Program} {w0:Bw} {X0:Xs} {n:Nat} {E:Ev} {st:St} {β:Bm} {X:Xs} {a:Act} {w:World} {Q:Exit→Act→World→Prop} {K:Act→World→Prop}
theorem dZ.jt (hr : dZ w0 X0 n E st β X a w) {E' : Ev} {st' : St} {ids : List Nat} (ρ : gy) (hI : w0.ids = ids) (hkI : pW ids ρ = true) (hk : xB ρ st' = true) (hE : uT ρ E E') (hS : sM ρ st st'.os) : dZ w0 X0 n E' st' (jt ρ β) X a w := by
  simp only [xB,Bool.and_eq_true,decide_eq_true_eq]at hk
  refine .of (hr.x0) (hr.xn) (.of (hr.mem.below) (fun id y h=>by
      have hid:=w0.bi id y h
      rw [hI]at hid
      unfold Abs.jt
      rw [LH hkI hid]
      exact hr.mem.b0 id y h) (hr.mem.xlt) (fun id h=>?_) (fun id cs hg=>?_) (fun i j ci cj b M N hij hi hj hbi hbj=>?_)) (hr.gl) (hr.size) (hr.defers) (hr.sslot) (?_)
  · unfold Abs.jt
    split
    · rename_i old h';have:=An hk.1 h';rw [h]at this;cases this
    · rename_i h';have:=An hk.1 h';rw [h]at this;cases this
    · rfl
  · rcases yo hS hg with ⟨h1, h2⟩ | ⟨old, cs0, h1, h2, h3⟩
    · unfold OB
      simp only [Abs.jt,h1]
      exact h2
    · have ho := hr.mem.obj old cs0 h2
      have e:Abs.jt ρ β id=β old:=by simp only [Abs.jt,h1]
      unfold OB at ho ⊢
      rw [e]
      split
      · rename_i h';rw [h']at ho;exact ho
      · rename_i h';rw [h']at ho;simp only at ho;subst ho;cases h3;rfl
      · rename_i b N h'
        rw [h']at ho
        obtain⟨o1,o2,us,rest,ty,o3,o4,o5,o6⟩:=ho
        exact⟨o1,o2,us,rest,ty,o3,o4,sL h3 o5,o6⟩
      · rename_i b h'
        rw [h']at ho
        obtain⟨o0,o1,o2,f,es,clk,o3,o4,o5⟩:=ho
        subst o0;subst o3
        refine⟨LG hkI h1,o1,o2,f,es,clk,?_,o4,o5⟩
        cases h3 with
        | cons h hs =>
          cases hs
          cases h
          rfl
  · have key : ∀ k ck, st'.get k = some ck → ∀ b M, Abs.jt ρ β k = some (.bk b M) → ∃ old c0, gW ρ k = some (some old) ∧ st.get old = some c0 ∧ β old = some (.bk b M) := by
      intro k ck hk' b M hb
      rcases yo hS hk' with ⟨h1,h2⟩|⟨old,cs0,h1,h2,h3⟩
      · simp only [Abs.jt,h1,Option.some.injEq]at hb;cases hb
      · simp only [Abs.jt, h1] at hb
        exact⟨old,cs0,h1,h2,hb⟩
    obtain⟨o1,c1,g1,g2,g3⟩:=key i ci hi b M hbi
    obtain⟨o2,c2,g4,g5,g6⟩:=key j cj hj b N hbj
    exact hr.mem.inj o1 o2 c1 c2 b M N (fun e=>hij (Fm hk.2 g1 (by rw [e];exact g4))) g2 g5 g3 g6
  · clear hS
    induction E' with
    |nil=>intro t v h;cases h
    | cons p r ih =>
      obtain⟨k,v'⟩:=p
      intro t v ht
      simp only [Ev.cF]at ht
      cases hb:Nat.beq k t with
      | true =>
        rw [hb]at ht
        simp only [cond_true,Option.some.injEq]at ht
        subst ht
        obtain⟨⟨v0,h1,h2⟩,_⟩:=hE
        rw [←Nat.eq_of_beq_eq_true hb]
        obtain⟨u,g1,g2⟩:=hr.slot k v0 h1
        exact⟨u,g1,BF h2 g2⟩
      |false=>rw [hb]at ht;exact ih hE.2 t v ht
theorem c4 {ι:Type} {I:ι→Ev} {SS:ι→St} {pre:ι→Prop} {ids:List Nat} (x:ι) (hp:pre x) (ρ:gy) (hI:w0.ids=ids) (hkI:pW ids ρ=true) (hk:xB ρ (SS x)=true) (hE:uT ρ E (I x)) (hS:sM ρ st (SS x).os):
    At w0 X0 n E st (fun a w=>∃x,pre x∧Rel w0 X0 n (I x) (SS x) a w):=fun _ _ ⟨_,_,hr⟩=>⟨x,hp,_,_,hr.jt ρ hI hkI hk hE hS⟩
theorem cO {ds:List Deferred} {ι:Type} {I:ι→Ev} {SS:ι→St} {pre:ι→Prop} {m:ι→Nat} {x:ι} (y:ι) (hp:pre y) (hm:m y<m x) (ρ:gy) {ids:List Nat} (hI:w0.ids=ids) (hkI:pW ids ρ=true) (hk:xB ρ (SS y)=true) (hE:uT ρ E (I y)) (hS:sM ρ st (SS y).os):
    At w0 X0 n E st (Pw ds (BC w0 X0 n ds I SS pre m (m x))):=fun a _ ⟨_,_,hr⟩=>⟨a,rfl,y,hp,hm,_,_,hr.jt ρ hI hkI hk hE hS⟩
theorem Mem.freeze (hm : Mem w0 β X st w) {id b N : Nat} {cs : List A} (hg : st.get id = some cs) (hβ : β id = some (.bk b N)) :
    let X1:Xs:=fun q o=>X q o∨(q=b∧o<cs.length)
    Mem w0 β X1 (st.del id) w∧dW X X1 w w∧(∀q o,X1 q o→X q o∨w0.own q)∧∀(off k:Nat),dF cs→VM X1 w ((cs.drop off).take k) b off:=by
  intro X1
  have ho:=hm.obj id cs hg
  unfold OB at ho
  rw [hβ]at ho
  obtain⟨o1,o2,us,rest,ty,o3,o4,o5,o6⟩:=ho
  have hx:dW X X1 w w:=fun q o h=>⟨.inl h,rfl⟩
  have hlt:=(Array.getElem?_eq_some_iff.1 o3).1
  have hdel:∀q c,(st.del id).get q=some c→q≠id∧st.get q=some c:=fun q c hq=>by rw [St.oI]at hq;split at hq;cases hq;rename_i h;exact⟨fun e=>h e.symm,hq⟩
  refine⟨.of (hm.below) (hm.b0) (fun q o h=>?_) (fun k hk=>hm.dom k (by rw [St.nS]at hk;split at hk;cases hk;exact hk)) (fun k ds hk=>?_) (fun i j ci cj q M N' hij hi hj=>hm.inj i j ci cj q M N' hij (hdel i ci hi).2 (hdel j cj hj).2),hx,fun q o h=>?_,fun off k hp=>?_⟩
  · rcases h with h | ⟨rfl, _⟩
    · exact hm.xlt q o h
    · exact hlt
  · obtain ⟨hne, hk'⟩ := hdel k ds hk
    refine(hm.obj k ds hk').later hx (dE.refl β) (fun q M hq=>⟨rfl,fun o h=>?_⟩) fun q hq=>⟨rfl,fun o h=>h.elim (((hm.obj k ds hk').gB hq).2.2.1 o) fun h=>((hm.obj k ds hk').Fy hq o3) h.1⟩
    rcases h with h|⟨rfl,_⟩
    · have hk2 := hm.obj k ds hk'
      unfold OB at hk2
      rw [hq]at hk2
      exact hk2.2.1 o h
    · exact hm.inj k id ds cs q M N hne hk' hg hq hβ
  · rcases h with h | ⟨rfl, _⟩
    · exact .inl h
    · exact .inr o1
  · refine mG fun j c hj => ?_
    have hj':(cs.drop off)[j]? =some c:=by rw [List.getElem?_take]at hj;split at hj;exact hj;cases hj
    rw [List.getElem?_drop]at hj'
    obtain⟨u,g1,g2⟩:=iO o5 hj'
    have hjl:=(List.getElem?_eq_some_iff.1 hj').1
    have hju:=(List.getElem?_eq_some_iff.1 g1).1
    refine⟨.inr ⟨rfl,hjl⟩,u,?_,?_,o6 u (List.mem_of_getElem? g1)⟩
    · simp only [World.cell?, o3]
      simp [List.getElem?_append_left hju,g1]
    · have hpc : Pure c := by
        have:∀(l:List A) (i:Nat) (c:A),dF l→l[i]? =some c→Pure c:=by
          intro l
          induction l with
          |nil=>intro i c _ h;simp at h
          | cons x l ih => intro i c hp h; cases i with
            |zero=>simp at h;subst h;exact hp.1
            |succ i=>exact ih i c hp.2 aO
        exact this cs _ c hp hj'
      exact gj hx _ _ _ _ (dE.refl _) (mH (β':=no) _ _ hpc g2)
theorem z1 (hm:Mem w0 β X st w) {id s off m:Nat} {cs:List A} {u:Value} (hg:st.get id=some cs) (hp:dF cs) (hv:V X w β (.sl id s off m) u):
    ∃X1:Xs,Mem w0 β X1 (st.del id) w∧dW X X1 w w∧(∀q o,X1 q o→X q o∨w0.own q)∧∀s off m u,V X w β (.sl id s off m) u→V X1 w β (.fz m ((cs.drop off).take (m*s))) u:=by
  have hv':=hv
  simp only [V]at hv
  rcases hv with ⟨hβ,_⟩|⟨b,N,cap,hβ,_⟩
  · have hdel : ∀ q c, (st.del id).get q = some c → st.get q = some c := fun q c hq => by rw [St.oI] at hq; split at hq; cases hq; exact hq
    refine⟨X,hm.drop (fun q h=>by rw [St.nS]at h;split at h;cases h;exact h) hdel,fun _ _ h=>⟨h,rfl⟩,fun _ _ h=> .inl h,fun s off m u hv=>?_⟩
    simp only [V]at hv ⊢
    rcases hv with ⟨_,rfl,rfl,rfl⟩|⟨b,N,cap,hβ',_⟩
    · exact⟨none,0,rfl,Nat.le_refl _,Nat.zero_le _,fun _=>rfl,(fun h=>absurd h aq),by simp only [Nat.zero_mul,List.take_zero,VM]⟩
    · rw [hβ]at hβ';cases hβ'
  · obtain ⟨m1, m2, m3, m4⟩ := hm.freeze hg hβ
    refine⟨_,m1,m2,m3,fun s off m u hv=>?_⟩
    simp only [V]at hv ⊢
    rcases hv with ⟨hβ',_⟩|⟨b',N',cap',hβ',rfl,c1,c2,c3⟩
    · rw [hβ]at hβ';cases hβ'
    · rw [hβ] at hβ'; cases hβ'
      exact⟨some ⟨b,off,none⟩,cap',rfl,c1,c2,(fun h=>by cases h),(fun _ x hx=>by cases hx;rfl),m4 off (m*s) hp⟩
theorem dZ.uy (hr:dZ w0 X0 n E st β X a w) {st':St} {X1:Xs} {t:Nat} {v v':A} (ht:E.cF t=some v) (hm:Mem w0 β X1 st' w) (hx:dW X X1 w w) (hn:∀q o,X1 q o→X q o∨w0.own q) (hv:∀u,V X w β v u→V X1 w β v' u):dZ w0 X0 n ((t,v')::E) st' β X1 a w:=by
  refine .of (fun b o h=>(hx b o (hr.x0 b o h)).1) (fun b o h=>(hn b o h).elim (hr.xn b o) .inr) (hm) (hr.gl.mono hx) (hr.size) (hr.defers) (fun s hs=>ew.lT hx (hr.sslot s hs)) (fun s x hs=>?_)
  simp only [Ev.cF]at hs
  cases hb:Nat.beq t s with
  | true =>
    rw [hb]at hs
    simp only [cond_true,Option.some.injEq]at hs
    subst hs
    rw [←Nat.eq_of_beq_eq_true hb]
    obtain⟨u,g1,g2⟩:=hr.slot t v ht
    exact⟨u,g1,hv u g2⟩
  | false =>
    rw [hb]at hs
    obtain⟨u,g1,g2⟩:=hr.slot s x hs
    exact⟨u,g1,gj hx _ _ _ _ (dE.refl β) g2⟩
theorem gm (t:Nat) {id s off m:Nat} {cs ds:List A} (ht:E.cF t=some (.sl id s off m)) (hg:st.get id=some cs) (hp:dF cs) (hd:(cs.drop off).take (m*s)=ds) (h:At w0 X0 n ((t,.fz m ds)::E) (st.del id) K):At w0 X0 n E st K:=by
  rintro a w ⟨β,X,hr⟩
  subst hd
  obtain⟨u,g1,g2⟩:=hr.slot t _ ht
  obtain⟨X1,m1,m2,m3,m4⟩:=z1 hr.mem hg hp g2
  exact h a w ⟨β,X1,hr.uy ht m1 m2 m3 (fun u hu=>m4 s off m u hu)⟩
theorem B7 (nx:Nat) (hf:st.free nx=true) (t s:Nat) (ht:E.cF t=some .nl) (h:At w0 X0 n ((t,.sl nx s 0 0)::E) (st.put nx []) K):At w0 X0 n E st K:=by
  rintro a w ⟨β,X,hr⟩
  have hnx:=hr.mem.dom nx hf
  refine h a w ⟨_,X,.of (hr.x0) (hr.xn) (hr.mem.AE nx hf) (hr.gl) (hr.size) (hr.defers) (hr.sslot) (fun k x hk=>?_)⟩
  simp only [Ev.cF]at hk
  cases hb:Nat.beq t k with
  | true =>
    rw [hb]at hk
    simp only [cond_true,Option.some.injEq]at hk
    subst hk
    rw [←Nat.eq_of_beq_eq_true hb]
    obtain⟨u,g1,g2⟩:=hr.slot t _ ht
    exact⟨u,g1,by simp only [V]at*;exact .inl ⟨dA,by simpa using g2⟩⟩
  | false =>
    rw [hb]at hk
    obtain⟨u,g1,g2⟩:=hr.slot k x hk
    exact⟨u,g1,gj (fun _ _ h=>⟨h,rfl⟩) _ _ _ _ (en hnx) g2⟩
theorem lu (t:Nat) {v v':A} (ht:E.cF t=some v) (hv:v=v') (h:At w0 X0 n ((t,v')::E) st K):At w0 X0 n E st K:=by
  subst hv
  rintro a w ⟨β,X,hr⟩
  exact h a w ⟨β,X,hr.uy ht hr.mem (fun _ _ h=>⟨h,rfl⟩) (fun _ _ h=> .inl h) (fun _ h=>h)⟩
theorem IX (t:Nat) {m:Nat} {cs:List A} (ht:E.cF t=some (.fz m cs)) (h:m≤maxLen→At w0 X0 n E st K):At w0 X0 n E st K:=by
  rintro a w ⟨β,X,hr⟩
  obtain⟨u,g1,g2⟩:=hr.slot t _ ht
  simp only [V]at g2
  obtain⟨ad,cap,_,h1,h2,_⟩:=g2
  exact h (Nat.le_trans h1 h2) a w ⟨β,X,hr⟩
def ou (ps:List (Nat×Nat)):List A→List (Nat×A)→List A→Prop
  |cs, [],out=>cs=out
  |cs,(i,v)::r,out=>∃off size,ps[i]? =some (off,size)∧(cw v).length=size∧off+size≤cs.length∧lz v=true∧ou ps (cs.take off++cw v++cs.drop (off+size)) r out
def rz (E : Ev) : List (Nat × Operand) → Option (List (Nat × A))
  | []=>some []
  | (i, x) :: r =>
    match ev E x,rz E r with
    |some v,some vs=>some ((i,v)::vs)
    |_,_=>none
theorem DR (hr : RelQ w0 X0 n E st β X a w) {ps : List (Nat × Nat)} : ∀ {parts : List (Nat × Operand)} {pvs : List (Nat × A)} {cs out : List A} {us : List Value}, rz E parts = some pvs → ou ps cs pvs out → VS X w β cs us → (∀ x ∈ us, x.oneCell' = true) →
    ∃qs us',iP (full a) parts=some qs∧Instr.fill (fun i=>ps.toArray[i]?) us.toArray qs=some us'.toArray∧VS X w β out us'∧∀x∈us',x.oneCell'=true
  | [], pvs, cs, out, us, hp, hf, hv, h1 => by
    simp only [rz,Option.some.injEq]at hp
    subst hp
    simp only [ou]at hf
    subst hf
    exact⟨[],us,rfl,rfl,hv,h1⟩
  | (i, x) :: r, pvs, cs, out, us, hp, hf, hv, h1 => by
    simp only [rz]at hp
    split at hp
    · rename_i v vs hx hrest
      simp only [Option.some.injEq]at hp
      subst hp
      obtain⟨off,size,f1,f2,f3,f4,f5⟩:=hf
      obtain⟨e1,e2⟩:=hr.c9 hx
      obtain⟨ws,c1,c2,c3⟩:=uY rfl (tP v f4) e2
      have hlw:=fb c2
      have hlu:=fb hv
      have hv':VS X w β (cs.take off++cw v++cs.drop (off+size)) (us.take off++ws++us.drop (off+ws.length)):=by
        rw [hlw,f2]
        exact gZ (gZ (j8 hv off) c2) (ll hv _)
      have h1':∀z∈us.take off++ws++us.drop (off+ws.length),z.oneCell'=true:=by
        intro z hz
        simp only [List.mem_append]at hz
        rcases hz with (hz|hz)|hz
        · exact h1 z (List.mem_of_mem_take hz)
        · exact c3 z hz
        · exact h1 z (List.mem_of_mem_drop hz)
      obtain⟨qs,us',g1,g2,g3,g4⟩:=DR hr hrest f5 hv' h1'
      refine⟨(i,a.eval x)::qs,us',by simp only [iP,e1,g1],?_,g3,g4⟩
      have hps:ps.toArray[i]? =some (off,size):=by simpa using f1
      simp only [Instr.fill,hps,c1,List.size_toArray]
      have hno:¬((decide (ws.length≠size)||decide (off+ws.length>us.length))=true):=by
        rw [hlw,f2];simp;omega
      rw [if_neg hno]
      have hw:=xX ws 0 off (us.take off) (us.drop off) aE aE
      have ez:ws.toArray.zipIdx=(ws.zipIdx 0).toArray:=by simp
      rw [ez,List.foldl_toArray]
      rw [List.take_append_drop,List.drop_drop]at hw
      refine Eq.trans (congrArg (fun y=>Instr.fill (fun i=>ps.toArray[i]?) y qs) hw) g2
    · cases hp
theorem QQ {t : TypeId} {size by' : Nat} {zero : List Value} {fs : List Field} {ps : List (Nat × Nat)} {parts : List (Nat × Operand)} {pvs : List (Nat × A)} {ty : TypeId} {out : List A} (ht : TI P t size by' zero true) (hz : zero.all (·.oneCell') = true) (hu : P.underlying t = some (.struct fs.toArray))
    (hps:(fs.map fun f=>(P.info? f.type).map fun i=>(f.offset,i.size))=ps.map some) (hp:rz E parts=some pvs) (hf:ou ps (zero.map cn) pvs out):YO P E st (.build t parts.toArray) ty (.ag out):=by
  intro w0 X0 n β X a w hr
  obtain⟨qs,us,g1,g2,g3,g4⟩:=DR hr hp hf (pG zero) (by simpa using hz)
  refine⟨.agg us.toArray,by simp only [V];exact⟨us,rfl,g3,g4⟩,fun d pos b6 g w' _=>?_⟩
  obtain⟨z,hz',hzc⟩:=ht.zeroValue w'
  have hrun:∀(fs:List Field) (ps:List (Nat×Nat)),(fs.map fun f=>(P.info? f.type).map fun i=>(f.offset,i.size))=ps.map some→(fs.mapM fun f=>(do pure (f.offset, ←sizeOf f.type):Sem (Nat×Nat))).run P w'= .ok ps w':=by
    intro fs
    induction fs with
    | nil => intro ps h; cases ps with
      |nil=>simp
      |cons _ _=>simp at h
    | cons f r ih =>
      intro ps h
      cases ps with
      |nil=>simp at h
      | cons p q =>
        simp only [List.map_cons,List.cons.injEq]at h
        obtain⟨i,hi,hpe⟩:=Option.map_eq_some_iff.1 h.1
        subst hpe
        simp only [List.mapM_cons,Sem.run_bind]
        have e1:(sizeOf f.type).run P w'= .ok i.size w':=by simp [sizeOf,typeInfo,hi]
        rw [e1]
        simp only [Result.andThen_ok,Sem.run_pure]
        rw [ih q h.2]
        rfl
  have:(Instr.build t qs.toArray).run P w'= .ok (.agg us.toArray) w':=by
    unfold Instr.build
    rw [Sem.run_bind,hz']
    simp only [Result.andThen_ok,hzc]
    rw [Sem.run_bind,run_underlying hu]
    simp only [Result.andThen_ok]
    rw [Sem.run_bind,List.mapM_toArray,Sem.run_map,hrun fs ps hps]
    show(match Instr.fill (fun i=>ps.toArray[i]?) zero.toArray qs with|some cells=>(pure (.agg cells):Sem Value)|_=>stuck "build: no such field, or a part of the wrong size").run P w'=_
    rw [g2]
    rfl
  have e:execOp a.eval ⟨d,.build t parts.toArray,ty,pos,b6,g⟩=Next.value<$>Instr.build t (parts.toArray.map fun(i,x)=>(i,a.eval x)):=by simp [execOp]
  have e0:(parts.toArray.map fun(i,x)=>(i,a.eval x))=qs.toArray:=by rw [List.map_toArray,(gq a hr.defers).iP g1]
  rw [e,e0,Sem.run_map,this]
  rfl
def nF:List (List A)→Nat→List (Nat×A)→List A
  | [],_,_=> []
  |z::zs,k, []=>z++nF zs (k+1) []
  |z::zs,k,(i,v)::ps=>cond (Nat.beq i k) (cw v++nF zs (k+1) ps) (z++nF zs (k+1) ((i,v)::ps))
def qW:List (List A)→Nat→List (Nat×A)→Prop
  |_,_, []=>True
  | [],_,_::_=>False
  |z::zs,k,(i,v)::ps=>cond (Nat.beq i k) (((cw v).length=z.length∧lz v=true)∧qW zs (k+1) ps) (qW zs (k+1) ((i,v)::ps))
def mY:List (List A)→Nat→List (Nat×Nat)
  | [],_=> []
  |z::zs,o=>(o,z.length)::mY zs (o+z.length)
theorem vS {ps : List (Nat × Nat)} : ∀ (zs : List (List A)) (k : Nat) (done : List A) (parts : List (Nat × A)), (∀ i x, (mY zs done.length)[i]? = some x → ps[k + i]? = some x) → qW zs k parts → ou ps (done ++ zs.flatten) parts (done ++ nF zs k parts)
  | [],k,done, [],_,_=>by simp [ou,nF]
  | [],_,_,_::_,_,h=>h.elim
  | z :: zs, k, done, [], hp, h => by
    have:=vS zs (k+1) (done++z) [] (fun i x hx=>by have:=hp (i+1) x (by simpa [mY]using hx);rw [show k+1+i=k+(i+1) by omega];exact this) (by cases zs<;>exact trivial)
    simpa [ou,nF]using this
  | z :: zs, k, done, (i, v) :: parts, hp, h => by
    have hp':∀(d:List A),d.length=done.length+z.length→∀i x,(mY zs d.length)[i]? =some x→ps[k+1+i]? =some x:=fun d hd i x hx=>by
      have:=hp (i+1) x (by rw [hd]at hx;simpa [mY]using hx);rw [show k+1+i=k+(i+1) by omega];exact this
    cases hb:Nat.beq i k with
    | true =>
      have hik:=Nat.eq_of_beq_eq_true hb
      subst hik
      simp only [qW,hb,cond_true]at h
      obtain⟨⟨h1,h2⟩,h3⟩:=h
      simp only [ou,nF,hb,cond_true]
      refine⟨done.length,z.length,hp 0 _ (by simp [mY]),h1,by simp,h2,?_⟩
      have ih:=vS zs (i+1) (done++cw v) parts (hp' _ (by simp [h1])) h3
      have e:(done++(z::zs).flatten).take done.length++cw v++(done++(z::zs).flatten).drop (done.length+z.length)=done++cw v++zs.flatten:=by
        simp [List.drop_append]
      rw [e]
      simpa using ih
    | false =>
      simp only [qW,hb,cond_false]at h
      have ih:=vS zs (k+1) (done++z) ((i,v)::parts) (hp' _ aA) h
      simp only [nF,hb,cond_false]
      simpa using ih
theorem eP {t:TypeId} {size by':Nat} {zero:List Value} {fs:List Field} {parts:List (Nat×Operand)} {pvs:List (Nat×A)} {ty:TypeId} {out:List A} (zs:List (List A)) (ht:TI P t size by' zero true) (hz:zero.all (·.oneCell')=true) (hu:P.underlying t=some (.struct fs.toArray))
    (hps:(fs.map fun f=>(P.info? f.type).map fun i=>(f.offset,i.size))=(mY zs 0).map some) (hzs:zero.map cn=zs.flatten) (hp:rz E parts=some pvs) (hok:qW zs 0 pvs) (ho:nF zs 0 pvs=out):YO P E st (.build t parts.toArray) ty (.ag out):=by
  refine QQ ht hz hu hps hp ?_
  have:=vS (ps:=mY zs 0) zs 0 [] pvs (fun i x hx=>by simpa using hx) hok
  rw [hzs, ←ho]
  simpa using this
theorem uL {t e : TypeId} {len size by' by2 : Nat} {zero zero' : List Value} {agg : Bool} {parts : List (Nat × Operand)} {vs : List A} {ty : TypeId} (ht : TI P t len by' zero true) (hzl : zero.length = len) (hu : P.underlying t = some (.array len e)) (he : TI P e size by2 zero' agg) (hs : size = 1)
    (hp:iM E parts 0=some vs) (hlen:vs.length=len) (h1:vs.all one=true):YO P E st (.build t parts.toArray) ty (.ag vs):=by
  subst hs
  intro w0 X0 n β X a w hr
  have key:∀(parts:List (Nat×Operand)) (k:Nat) (vs:List A),iM E parts k=some vs→vs.all one=true→∃us:List Value,iP (full a) parts=some (ib (ig us) k)∧VS X w β vs us∧∀x∈us,x.oneCell'=true:=by
    intro parts
    induction parts with
    |nil=>intro k vs h _;simp only [iM,Option.some.injEq]at h;subst h;exact⟨[],rfl,fM,(fun x hx=>by cases hx)⟩
    | cons p r ih =>
      intro k vs h h1
      obtain⟨i,x⟩:=p
      simp only [iM]at h
      split at h
      · rename_i v vs' hik hx hrest
        simp only [Option.some.injEq]at h
        subst h
        simp only [List.all_cons,Bool.and_eq_true]at h1
        have:i=k:=Nat.eq_of_beq_eq_true hik
        subst this
        obtain⟨us,g1,g2,g3⟩:=ih (i+1) vs' hrest h1.2
        obtain⟨e1,e2⟩:=hr.c9 hx
        exact⟨a.eval x::us,by simp only [iP,e1,g1,ig,ib],eV e2 g2,fun q hq=>by rcases List.mem_cons.1 hq with rfl|hq;exact yy h1.1 e2;exact g3 q hq⟩
      · cases h
  obtain⟨us,g1,g2,g3⟩:=key parts 0 vs hp h1
  have hul:=fb g2
  refine⟨.agg us.toArray,by simp only [V];exact⟨us,rfl,g2,g3⟩,fun d pos b6 g w' _=>?_⟩
  obtain⟨z,hz',hzc⟩:=ht.zeroValue w'
  have hfill:Instr.fill (fun i=>some (i*1,1)) zero.toArray (ib (ig us) 0)=some us.toArray:=by
    have:=zR 1 (ig us) 0 [] zero (wZ g3) aA (by
      have:∀l:List Value,(ig l).length=l.length:=fun l=>by induction l with|nil=>rfl|cons x l ih=>simp [ig,ih]
      rw [this,hul,hlen,hzl];simp)
    rw [List.nil_append,vV]at this
    exact this
  have:(Instr.build t (ib (ig us) 0).toArray).run P w'= .ok (.agg us.toArray) w':=by
    unfold Instr.build
    rw [Sem.run_bind,hz']
    simp only [Result.andThen_ok,hzc]
    rw [Sem.run_bind,run_underlying hu]
    simp only [Result.andThen_ok]
    rw [Sem.run_bind,he.sizeOf w']
    simp only [Result.andThen_ok,hfill]
    rfl
  have e:execOp a.eval ⟨d,.build t parts.toArray,ty,pos,b6,g⟩=Next.value<$>Instr.build t (parts.toArray.map fun(i,x)=>(i,a.eval x)):=by simp [execOp]
  have e0:(parts.toArray.map fun(i,x)=>(i,a.eval x))=(ib (ig us) 0).toArray:=by rw [List.map_toArray,(gq a hr.defers).iP g1]
  rw [e,e0,Sem.run_map,this]
  rfl
theorem oq {t e:TypeId} {len size sz by' by2:Nat} {zero zero':List Value} {agg:Bool} {ty:TypeId} {out:List A} (ht:TI P t sz by' zero true) (hz:zero.all (·.oneCell')=true) (hu:P.underlying t=some (.array len e)) (he:TI P e size by2 zero' agg) (ho:zero.map cn=out):YO P E st (.build t ([]:List (Nat×Operand)).toArray) ty (.ag out):=by
  subst ho
  intro w0 X0 n β X a w hr
  refine⟨.agg zero.toArray,by simp only [V];exact⟨zero,rfl,pG zero,by simpa using hz⟩,fun d pos b6 g w' _=>?_⟩
  obtain⟨z,hz',hzc⟩:=ht.zeroValue w'
  have:(Instr.build t #[]).run P w'= .ok (.agg zero.toArray) w':=by
    unfold Instr.build
    rw [Sem.run_bind,hz']
    simp only [Result.andThen_ok,hzc]
    rw [Sem.run_bind,run_underlying hu]
    simp only [Result.andThen_ok]
    rw [Sem.run_bind,he.sizeOf w']
    rfl
  simp only [execOp,List.map_toArray,List.map_nil]
  rw [Sem.run_bind,this]
  rfl
theorem nv {ty t e:TypeId} {x:Operand} {size by' len l h:Nat} {zero:List Value} {agg:Bool} {lo hi:Option Operand} {cs ds:List A} (k:Nat) (ht:P.underlying t=some (.array len e)) (he:TI P e size by' zero agg) (hx:ev E x=some (.fp cs)) (hml:len≤maxLen) (hlo:mE E lo 0 l) (hhi:mE E hi len h) (h1:l≤h) (h2:h≤len) (hll:len≠l)
    (hk:h - l=k) (hd:(cs.drop (l*size)).take (k*size)=ds):YO P E st (.slice t x lo hi none) ty (.fz k ds):=by
  intro w0 X0 n β X a w hr
  subst hk;subst hd
  obtain⟨g1,g2⟩:=hr.c9 hx
  simp only [V]at g2
  obtain⟨b,o,e1,e2⟩:=g2
  rw [e1]at g1
  refine⟨.slice (some ⟨b,o+l*size,none⟩) (h - l) (len - l),?_,hr.old fun w' _=>Eng.H7 _ _ _ ht he g1 (hlo.old hr) (hhi.old hr) h1 h2 ?_ rfl rfl⟩
  · simp only [V]
    exact⟨some ⟨b,o+l*size,none⟩,len - l,rfl,by omega,by omega,(fun h=>by cases h),(fun _ x hx=>by cases hx;rfl),Im (uW e2 _) _⟩
  · unfold jh
    rw [if_neg hll]
    simp [addr_add]
theorem MH {d : Option Nat} {dT sT ty e : TypeId} {by' : Nat} {zero : List Value} {agg : Bool} {x y : Operand} {vy : A} {id off m k : Nat} {cs news cs' : List A} {pos b6 g} (ht : P.underlying dT = some (.slice e)) (he : TI P e 1 by' zero agg) (hx : ev E x = some (.sl id 1 off m)) (hg : st.get id = some cs) (hy : ev E y = some vy) (hn : SM st vy = some (k, news)) (hnl : news.length = k)
    (hk0:0<k) (hkm:k≤m) (hfit:off+k≤cs.length) (hcs:cs.take off++news++cs.drop (off+k)=cs') (hd:lM n d=true) (h:At w0 X0 n (E.put d (.i .i64 (k:Int))) (st.put id cs') K):
    At w0 X0 n E st (fun a w=>(⟨d,.call {callee:= .builtin .copy,args:= #[x,y],argTypes:= #[dT,sT]},ty,pos,b6,g⟩:Oper).wp P a w K Q):=by
  rintro a w ⟨β,X,hr⟩
  obtain⟨e1,e2⟩:=hr.c9 hx
  obtain⟨e3,e4⟩:=hr.c9 hy
  obtain⟨ay,cy,nus,f1,f2,f3,f4⟩:=xN (s:=1) hr.toRelQ e4 hn aq
  have hsl:=f4 w .refl
  have hnu:=fb f2
  simp only [V]at e2
  rcases e2 with ⟨_,rfl,_⟩|⟨b,N,cap,hβ,e5,c1,c2,c3⟩
  · omega
  · have ho := hr.mem.obj id cs hg
    unfold OB at ho
    rw [hβ]at ho
    obtain⟨p1,p2,us,rest,ety,p3,p4,p5,p6⟩:=ho
    have hul:=fb p5
    have hax:=hsl.addr hk0
    obtain⟨⟨i,z,i1,i2,i3,i4,i5⟩,hu⟩:=he
    have hrun:=run_copy_row (P:=P) w dT sT ty e b off m cap ⟨ab ay,ao ay,none⟩ k cy (us++rest).toArray ety nus ht (by rw [i1];simp [i3]) p3 (by rw [hnu,hnl];exact(Nat.min_eq_left hkm).symm)
      (fun j u hj=>by rw [addr_add];exact hsl.cell j u hj) aE f3
    rw [←hax]at hrun
    have hlist:(us++rest).toArray.toList.take off++nus++(us++rest).toArray.toList.drop (off+nus.length)=(us.take off++nus++us.drop (off+nus.length))++rest:=by
      simp only []
      rw [List.take_append_of_le_length aq,List.drop_append_of_le_length aq]
      simp
    rw [hlist]at hrun
    have hG:=Eng.Good.setRow (nU p3) 0 (cs:=us++rest) rfl ((us.take off++nus++us.drop (off+nus.length))++rest)
    simp only [List.set_cons_zero]at hG
    obtain⟨hm1,hx1⟩:=hr.mem.write (cs':=cs') hg hβ hG (by simp only [List.length_append,List.length_take,List.length_drop];omega)
      (by rw [←hcs,hnu,hnl];exact gZ (gZ (j8 p5 off) f2) (ll p5 _))
      (by intro q hq;simp only [List.mem_append]at hq;rcases hq with (hq|hq)|hq;exact p6 q (List.mem_of_mem_take hq);exact f3 q hq;exact p6 q (List.mem_of_mem_drop hq))
    have hexec:(execOp a.eval ⟨d,.call {callee:= .builtin .copy,args:= #[x,y],argTypes:= #[dT,sT]},ty,pos,b6,g⟩).run P w= .ok (.value (goInt nus.length)) (w.setRow b (us.take off++nus++us.drop (off+nus.length)++rest).toArray):=by
      have h1:execOp a.eval ⟨d,.call {callee:= .builtin .copy,args:= #[x,y],argTypes:= #[dT,sT]},ty,pos,b6,g⟩=(do pure (.value (←Builtin.copy_ #[dT,sT] ty #[.slice (some ⟨b,off,none⟩) m cap,.slice ay k cy])):Sem Next):=by
        simp only [execOp,resolve,List.map_toArray,List.map_cons,List.map_nil,e5,f1,pure_bind,invoke,builtin]
      rw [h1,Sem.run_bind,hrun]
      rfl
    unfold Oper.wp
    rw [hexec]
    refine h _ _ ⟨β,X,?_⟩
    have hkk:goInt nus.length= .int .i64 (k:Int):=by rw [hnu,hnl];rfl
    cases d with
    |none=>exact hr.fQ (gq a hr.defers) hx1 (fun _ _ h=> .inl h) (dE.refl β) hm1
    |some d=>exact hr.jT hd hx1 (fun _ _ h=> .inl h) (dE.refl β) hm1 (by rw [hkk];simp only [V])
end
end Go.Abs
-- EngG
namespace Go.Eng
open Go
def Ks (H' H:List (Nat×Obj)) (N:Nat):Prop:=∀p∈H',(∃q∈H,q.1=p.1)∨N≤p.1
theorem Ks.nil {H N}:Ks [] H N:=fun p hp=>by cases hp
theorem Ks.refl (H N):Ks H H N:=fun p hp=> .inl ⟨p,hp,rfl⟩
theorem Ks.cons {H' H N b o o'} (h:Ks H' H N):Ks ((b,o')::H') ((b,o)::H) N:=fun p hp=>by
  rcases List.mem_cons.1 hp with rfl|hp
  · exact .inl ⟨(b,o),.head _,rfl⟩
  · rcases h p hp with ⟨q, hq, e⟩ | h
    · exact .inl ⟨q,.tail _ hq,e⟩
    · exact .inr h
theorem Ks.new {H' H N b o} (hb:N≤b) (h:Ks H' H N):Ks ((b,o)::H') H N:=fun p hp=>by
  rcases List.mem_cons.1 hp with rfl|hp
  · exact .inr hb
  · exact h p hp
theorem Ks.own {H' H N e a a' c c'} {w:World} (hn:a'=a∨∃g',a'=some ⟨g',0,none⟩∧w.heap.size≤g') (hw:N≤w.heap.size) (h:Ks H' H N):Ks (ij e a' c'++H') (ij e a c++H) N:=fun p hp=>by
  rcases List.mem_append.1 hp with hp|hp
  · obtain ⟨x, hx, rfl⟩ := tX hp
    rcases hn with rfl|⟨g,hg,hle⟩
    · exact .inl ⟨(x.block,row e c),List.mem_append_left _ (by simp [ij,hx]),rfl⟩
    · rw [hx]at hg;cases hg;exact .inr (Nat.le_trans hw hle)
  · rcases h p hp with ⟨q, hq, e⟩ | h
    · exact .inl ⟨q,List.mem_append_right _ hq,e⟩
    · exact .inr h
theorem Ks.keep {H' H N e a c} (h:Ks H' H N):Ks (ij e a c++H') (ij e a c++H) N:=fun p hp=>by
  rcases List.mem_append.1 hp with hp|hp
  · exact .inl ⟨p,List.mem_append_left _ hp,rfl⟩
  · rcases h p hp with ⟨q, hq, e⟩ | h
    · exact .inl ⟨q,List.mem_append_right _ hq,e⟩
    · exact .inr h
theorem Ks.mono {H' H N N'} (h:Ks H' H N) (hN:N'≤N):Ks H' H N':=fun p hp=>(h p hp).imp id (Nat.le_trans hN)
theorem Ks.sub {H' H N} (h:List.Sublist H' H):Ks H' H N:=fun p hp=> .inl ⟨p,h.subset hp,rfl⟩
structure gY (H:List (Nat×Obj)) (u:World) (rs:List SV) (ls:List (List UInt8)):Prop where
  rows:lh u rs ls
  apt:∀r∈rs,r.n≠0→ab r.a<u.heap.size∧∀p∈H,p.1≠ab r.a
theorem gY.nil (H u):gY H u [] []:=⟨lh.nil u,fun r h=>by cases h⟩
theorem gY.len {H u rs ls} (h:gY H u rs ls):rs.length=ls.length:=h.rows.1
theorem gY.step {H H' S u w rs ls} (h:gY H u rs ls) (hG:Good S H' w) (hu:u∈S) (hk:Ks H' H u.heap.size):gY H' w rs ls:=by
  have ne:∀r∈rs,r.n≠0→∀p∈H',p.1≠ab r.a:=by
    intro r hr hn p hp
    obtain⟨h1,h2⟩:=h.apt r hr hn
    rcases hk p hp with ⟨q,hq,e⟩|h3
    · rw [←e];exact h2 q hq
    · omega
  refine⟨h.rows.move fun r hr l hb=>?_,fun r hr hn=>⟨Nat.lt_of_lt_of_le (h.apt r hr hn).1 (hG.snap u hu).size,ne r hr hn⟩⟩
  by_cases hn:r.n=0
  · have hl : l = [] := List.eq_nil_of_length_eq_zero (by rw [← hb.1]; exact hn)
    subst hl
    exact⟨hb.1,hb.2.len,hb.2.le,hb.2.max,hb.2.nil,hb.2.spot,fun j u hj=>by simp at hj⟩
  · exact hb.move fun hlt=>(hG.snap u hu).blk _ hlt (ne r hr hn)
theorem Ck {w:World} {r:SV} {l:List UInt8} (h:Bytes w r l) (hn:r.n≠0):ab r.a<w.heap.size:=
  h.2.lt (by intro e;have:=h.1;rw [List.map_eq_nil_iff]at e;rw [e]at this;exact hn this)
theorem gY.fresh {H S u w rs ls r l} (h:gY H w rs ls) (hG:Good S H u) (hb:Bytes w r l) (hf:l≠ []→u.heap.size≤ab r.a):gY H w (rs++ [r]) (ls++ [l]):=by
  refine⟨h.rows.snoc hb,fun r' hr' hn=>?_⟩
  rcases List.mem_append.1 hr' with hr'|hr'
  · exact h.apt r' hr' hn
  · simp only [List.mem_singleton] at hr'
    subst hr'
    have hl:l≠ []:=by intro e;subst e;exact hn hb.1
    have:=hf hl
    refine⟨Ck hb hn,fun p hp=>?_⟩
    have:=hG.mU hp
    omega
theorem gY.snoc {H w rs ls r l} (h:gY H w rs ls) (hb:Bytes w r l) (hf:r.n≠0→∀p∈H,p.1≠ab r.a):gY H w (rs++ [r]) (ls++ [l]):=by
  refine⟨h.rows.snoc hb,fun r' hr' hn=>?_⟩
  rcases List.mem_append.1 hr' with hr'|hr'
  · exact h.apt r' hr' hn
  · simp only [List.mem_singleton] at hr'
    subst hr'
    exact⟨Ck hb hn,hf hn⟩
theorem gY.sub {H H' w rs ls} (h:gY H w rs ls) (hs:List.Sublist H' H):gY H' w rs ls:=⟨h.rows,fun r hr hn=>⟨(h.apt r hr hn).1,fun p hp=>(h.apt r hr hn).2 p (hs.subset hp)⟩⟩
theorem gY.out {H w rs ls} (h:gY H w rs ls) {e:TypeId} {a:Option Addr} {k c:Nat} {x:List Value} (hOS:OS 1 a k c x (rs.map SV.v)) (hw:∀p∈ij e a x,w.heap[p.1]? =some p.2):Rows w 0 ⟨a,k,c⟩ rs ls:=
  h.rows.rows (by have:=hOS.len;simp at this;exact this.symm) (hOS.sl hw)
theorem gY.Q4 {H S b e l rest cap w rs ls} (h:gY H w rs ls) (hG:Good S ((b,row e (l.map B++rest))::H) w) (hn:l.length≤cap) (hc:cap≤maxLen):
    gY H w (rs++ [⟨some ⟨b,0,none⟩,l.length,cap⟩]) (ls++ [l]):=
  h.snoc (Bytes.own (hG.block 0 rfl) hn hc) fun _ p hp=>by
    have:=(List.pairwise_cons.1 hG.nd).1 p hp
    exact fun e=>this e.symm
theorem gY.one {H w r l} (h:gY H w [r] [l]):Bytes w r l:=h.rows.2 0 r l rfl rfl
theorem Fn.args {P:Program} {f:FuncId} {xs ys:Array Value} {w:World} {R:Value→World→Prop} (h:Fn P f xs w R) (e:xs=ys):Fn P f ys w R:=e ▸ h
end Go.Eng
