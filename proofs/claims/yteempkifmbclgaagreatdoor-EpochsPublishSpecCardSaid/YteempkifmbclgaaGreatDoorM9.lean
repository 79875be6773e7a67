/-
  The engine, the plain laws and the walks that the rows need, part 9. Conditions: none.
-/
import Derived.Test.YteempkifmbclgaaGreatDoorM8
import Derived.Lib.AppendZerosOnto
set_option linter.unusedVariables false
set_option linter.unusedSimpArgs false
set_option maxHeartbeats 1000000
set_option maxRecDepth 10000
-- EngH
namespace Go.Eng
open Go
abbrev Spec:=Value→World→Prop
def Ik (A:Spec):Prop:=∀u w w',A u w→RowKit.Below w.heap.size w w'→A u w'
def nN (ops:Array Oper) (j:Nat):Option Nat:=(ops[j]?).bind (·.dst)
def D8 (md : Region.Mode) (ops : Array Oper) (n : Nat) : Bool :=
  Region.noSelect ops&&decide (n<ops.size)&&Region.sinkB md ops n&&Region.chainB md ops n&&
  Region.seqB md ops (ops.size - n) n ((List.range ops.size).map fun i=>decide (i<n)).toArray&&
  ((List.range n).all fun k => match ops[k]? with
    |none=>false
    | some o => o.after.all (fun e => !Region.binds md e || decide (e.on < k)) &&
      ((List.range n).all fun j => match nN ops j with
        |none=>true
        |some d=>(!(o.looksAt ops).contains d||Region.waitsFor md ops k j)&&(decide (j=k)||o.dst !=some d)))
section
variable {P:Program} {ops:Array Oper} {md:Region.Mode} {N:Nat} {E:Env} {S:List World} {H:List (Nat×Obj)}
def F6 (P : Program) (ops : Array Oper) (A : Nat → Spec) (o : Oper) (a : Act) (w : World) : Prop :=
  if Region.wanted o (yielded ops a.tmps)then
    o.wp P a w (fun a' w'=>a'.defers= []∧RowKit.Below w.heap.size w w'∧∀d,o.dst=some d→A d (a'.tmps.getD d undef) w') wQ
  else ∀d,o.dst=some d→A d undef w
def sJ (P:Program) (ops:Array Oper) (A:Nat→Spec) (N:Nat) (E:Env) (S:List World) (H:List (Nat×Obj)) (n:Nat) (o:Oper):Prop:=
  ∀a w,fa N E a→Good S H w→(∀t∈o.looksAt ops,(∃j,j<n∧nN ops j=some t)→A t (a.tmps.getD t undef) w)→F6 P ops A o a w
theorem least {p : Nat → Bool} : ∀ m, (∃ i, i < m ∧ p i = true) → ∃ i, i < m ∧ p i = true ∧ ∀ j, j < i → p j = false
  |0,⟨i,hi,_⟩=>absurd hi aq
  | m + 1, ⟨i, hi, hp⟩ => by
    by_cases h:∃i,i<m∧p i=true
    · obtain ⟨k, h1, h2, h3⟩ := least m h
      exact⟨k,by omega,h2,h3⟩
    · have him : i = m := by
        rcases Nat.lt_or_ge i m with h1|h1
        · exact absurd ⟨i,h1,hp⟩ h
        · omega
      subst him
      refine⟨i,hi,hp,fun j hj=>?_⟩
      cases hpj:p j with
      |false=>rfl
      |true=>exact absurd ⟨j,hj,hpj⟩ h
structure yj (ops:Array Oper) (A:Nat→Spec) (N:Nat) (E:Env) (S:List World) (H:List (Nat×Obj)) (n:Nat) (listed:Array Bool) (a:Act) (w:World):Prop where
  rep:fa N E a
  good:Good S H w
  spec:∀j d,j<n→nN ops j=some d→listed.getD j false=true→A d (a.tmps.getD d undef) w
theorem HV {n : Nat} {A : Nat → Spec} {Q : Exit → Act → World → Prop} (hst : ∀ d, Ik (A d)) (hB : D8 .any ops n = true) (hE : ∀ j d, j < n → nN ops j = some d → E.cF d = none ∧ d < N)
    (hob:∀k o,k<n→ops[k]? =some o→sJ P ops A N E S H n o)
    (hend:∀a w,fa N E a→Good S H w→(∀j d,j<n→nN ops j=some d→A d (a.tmps.getD d undef) w)→wpList P ops Q (ops.toList.drop n) a w):
    ∀ (f : Nat) (L : List Nat) (listed : Array Bool) (a : Act) (w : World), L.length = f → L.Nodup → (∀ i, i ∈ L ↔ i < n ∧ listed.getD i true = false) → HeadInv .any ops n listed → yj ops A N E S H n listed a w →
      wpAny P .any ops Q (f+(ops.size - n)) listed a w:=by
  have hB':=hB
  unfold D8 at hB
  simp only [Bool.and_eq_true,decide_eq_true_eq]at hB
  obtain⟨⟨⟨⟨⟨hsel,hn⟩,hs⟩,hc⟩,hseq⟩,hall⟩:=hB
  have hk:∀k o,k<n→ops[k]? =some o→(∀e∈o.after,Region.binds .any e=true→e.on<k)∧(∀j d,j<n→nN ops j=some d→(d∈o.looksAt ops→Region.waitsFor .any ops k j=true)∧(j≠k→o.dst≠some d)):=by
    intro k o hkn hko
    have h:=List.all_eq_true.1 hall k (List.mem_range.2 hkn)
    simp only [hko,Bool.and_eq_true]at h
    refine⟨fun e he hb=>?_,fun j d hj hd=>?_⟩
    · have := Array.all_eq_true_iff_forall_mem.1 h.1 e he
      simpa [hb]using this
    · have := List.all_eq_true.1 h.2 j (List.mem_range.2 hj)
      simp only [hd,Bool.and_eq_true,Bool.or_eq_true,Bool.not_eq_true',decide_eq_true_eq,bne_iff_ne]at this
      refine⟨fun hm=>?_,fun hne=>this.2.resolve_left hne⟩
      rcases this.1 with h1|h1
      · rw [List.contains_eq_mem, decide_eq_false_iff_not] at h1
        exact absurd hm h1
      · exact h1
  intro f
  induction f with
  | zero =>
    intro L listed a w hL _ hmem hinv inv
    have hnil:L= []:=List.eq_nil_of_length_eq_zero hL
    subst hnil
    have hall':∀i,i<n→listed.getD i true=true:=fun i hi=>by
      cases hg:listed.getD i true with
      |true=>rfl
      |false=>have:=(hmem i).2 ⟨hi,hg⟩;cases this
    have htar:listed=((List.range ops.size).map fun i=>decide (i<n)).toArray:=by
      apply Array.ext
      · simp [hinv.size]
      · intro i h1 h2
        have hsz:i<ops.size:=by rw [←hinv.size];exact h1
        simp only [List.getElem_toArray,List.getElem_map,List.getElem_range]
        by_cases hin:i<n
        · have := hall' i hin
          simp only [Array.getD,h1,dif_pos]at this
          rw [decide_eq_true hin]
          simpa using this
        · have := hinv.tail i aq hsz
          simp only [Array.getD,h1,dif_pos]at this
          rw [decide_eq_false hin]
          simpa using this
    rw [Nat.zero_add]
    have hlen:(ops.toList.drop n).length=ops.size - n:=by simp
    have:=wpAny_of_seq (P:=P) (md:= .any) (ops:=ops) (Q':=Q) (ops.toList.drop n) n listed a w (fun j=>by rw [List.getElem?_drop];simp) (by rw [hlen,htar];exact hseq)
      (hend a w inv.rep inv.good fun j d hj hd=>inv.spec j d hj hd (by
        have h1:=hall' j hj
        have hjs:j<listed.size:=by rw [hinv.size];omega
        simp [hjs]at h1 ⊢;exact h1))
    rwa [hlen]at this
  | succ f ih =>
    intro L listed a w hL hnd hmem hinv inv
    obtain⟨i0,hi0⟩:∃i,i∈L:=by
      cases L with
      |nil=>simp at hL
      |cons x r=>exact⟨x,.head _⟩
    obtain⟨h01,h02⟩:=(hmem i0).1 hi0
    have hwait:=tail_waits hs hc hn hinv _ i0 rfl h01 h02
    rw [show f+1+(ops.size - n)=(f+(ops.size - n))+1 by omega]
    refine⟨fun hnone=>?_,fun i hi=>?_⟩
    · obtain ⟨m, hm1, hm2, hm3⟩ := least (p := fun i => !listed.getD i true) n ⟨i0, h01, by simp only [h02, Bool.not_false]⟩
      have hmo:∃o,ops[m]? =some o:=⟨ops[m]' aq,by simp [show m<ops.size by omega]⟩
      obtain⟨o,ho⟩:=hmo
      have:m∈Region.ready .any ops listed:=mem_ready.2 ⟨by simpa using hm2,o,ho,fun e he hb=>by
        have hlt:=(hk m o hm1 ho).1 e he hb
        have:=hm3 e.on hlt
        have hes:e.on<listed.size:=by rw [hinv.size];omega
        simp [hes]at this ⊢;exact this⟩
      rw [hnone]at this
      cases this
    · obtain ⟨hiun, o, ho, hpre⟩ := mem_ready.1 hi
      have hin:i<n:=by
        rcases Nat.lt_or_ge i n with h|h
        · exact h
        · exact absurd hi (hwait i h)
      have hob':=hob i o hin ho a w inv.rep inv.good (fun t ht ⟨j,hj,hd⟩=>inv.spec j t hj hd (by
        have hw:=((hk i o hin ho).2 j t hj hd).1 ht
        obtain⟨o',ho',e,he,hb,hon⟩:=Region.waitsFor_spec hw
        have:o'=o:=Option.some.inj (ho'.symm.trans ho)
        subst this
        rw [←hon]
        exact hpre e he hb))
      have step : ∀ a' w', Alike o.dst a a' → a'.defers = [] → RowKit.Below w.heap.size w w' → (∀ d, o.dst = some d → A d (a'.tmps.getD d undef) w') →
          wpAny P .any ops Q (f+(ops.size - n)) (listed.setIfInBounds i true) a' w':=by
        intro a' w' hal hdf hbel hA
        have hdst:nN ops i=o.dst:=by simp [nN,ho]
        refine ih (L.erase i) _ _ _ ?_ (hnd.erase i) ?_ (hinv.set hi hin) ⟨?_,inv.good.ext hbel,?_⟩
        · rw [List.length_erase_of_mem ((hmem i).2 ⟨hin,hiun⟩),hL];rfl
        · intro j
          rw [hnd.mem_erase_iff,hmem]
          constructor
          · rintro ⟨h1, h2, h3⟩
            exact⟨h2,by rw [getD_set_ne true (Ne.symm h1)];exact h3⟩
          · rintro ⟨h1, h2⟩
            by_cases hji:j=i
            · subst hji
              have hlt:j<listed.size:=by rw [hinv.size];omega
              simp [hlt]at h2
            · rw [getD_set_ne true (Ne.symm hji)] at h2
              exact⟨hji,h1,h2⟩
        · obtain ⟨u, ds, rfl⟩ := hal
          refine⟨?_,hdf,fun t v ht=>?_⟩
          · cases hd:o.dst<;>simp [Act.put,inv.rep.size]
          · have h1 := inv.rep.slot t v ht
            cases hd:o.dst with
            |none=>simpa [Act.put,hd]using h1
            | some d =>
              have hne:d≠t:=by
                intro e
                subst e
                rw [(hE i d hin (by rw [hdst,hd])).1]at ht
                cases ht
              simp only [Act.put]
              rw [Array.getElem?_setIfInBounds_ne hne]
              exact h1
        · intro j d hj hd hl
          by_cases hji:j=i
          · subst hji
            exact hA d (by rw [←hdst];exact hd)
          · rw [getD_set_ne false (Ne.symm hji)] at hl
            have hold:=hst d _ _ _ (inv.spec j d hj hd hl) hbel
            have hne:=((hk i o hin ho).2 j d hj hd).2 hji
            obtain⟨u,ds,rfl⟩:=hal
            cases hd':o.dst with
            |none=>simpa [Act.put,hd']using hold
            | some d' =>
              have:d'≠d:=fun e=>hne (by rw [hd',e])
              simp only [Act.put]
              have e1:(a.tmps.setIfInBounds d' u).getD d undef=a.tmps.getD d undef:=by
                simp only [Array.getD_eq_getD_getElem?]
                rw [Array.getElem?_setIfInBounds_ne this]
              rw [e1]
              exact hold
      unfold wpOp
      simp only [ho]
      unfold F6 at hob'
      split
      · rename_i hw
        rw [if_pos hw]at hob'
        refine .inl (Oper.wp_mono ?_ (QM (QL hob')))
        rintro a' w' ⟨⟨h1,h2,h3⟩,h4⟩
        exact step a' w' h4 h1 h2 h3
      · rename_i hw
        rw [if_neg hw]at hob'
        refine step _ w (sS a o.dst undef) ?_ (by exact⟨rfl,rfl,rfl,Nat.le_refl _,fun _ _=>rfl⟩) ?_
        · cases hd:o.dst<;>simp [Act.put,inv.rep.defers]
        · intro d hd
          have:=hob' d hd
          have hlt:d<N:=(hE i d hin (by simp [nN,ho,hd])).2
          have hsz:d<a.tmps.size:=by rw [inv.rep.size];exact hlt
          rw [hd]
          simp only [Act.put]
          have e1:(a.tmps.setIfInBounds d undef).getD d undef=undef:=by simp [hsz]
          rw [e1]
          exact this
end
end Go.Eng
-- AbsG
namespace Go.Abs
open Go Go.Eng
structure dM where
  d:Nat
  v:A
  deps:List Nat
  dels:List Nat
  puts:List (Nat×List A)
  need:List (Nat×Option Nat)
  dS:List Nat
def dM.cv (s:dM) (st:St):St:=⟨(s.puts.map fun p=>(p.1,some p.2))++(s.dels.map fun i=>(i,none))++st.os⟩
def dM.j0 (s:dM) (id:Nat):Bool:=(s.puts.any fun p=>Nat.beq p.1 id)||(s.dels.any fun i=>Nat.beq i id)
def PW:dM:=⟨0,un, [], [], [], [], []⟩
def nth:List dM→Nat→dM
  | [],_=>PW
  |s::_,0=>s
  |_::r,k+1=>nth r k
theorem wS {l:List dM} {k:Nat} {s:dM} (h:l[k]? =some s):nth l k=s:=by
  induction l generalizing k with
  |nil=>simp at h
  | cons x l ih => cases k with
    |zero=>simp only [List.getElem?_cons_zero,Option.some.injEq]at h;exact h
    |succ k=>exact ih aO
def kX:List (Nat×List A)→Nat→Option (List A)
  | [],_=>none
  |(k,c)::r,id=>cond (Nat.beq k id) (some c) (kX r id)
def iL (plan:List dM) (st0:St) (need:List (Nat×Option Nat)):St:=⟨need.map fun p=>(p.1,match p.2 with|none=>st0.get p.1|some j=>kX (nth plan j).puts p.1)⟩
def jQ (E F:Ev):Prop:=∀t v,F.cF t=some v→E.cF t=some v
def nh (st stN:St):Prop:=∀id cs,stN.get id=some cs→st.get id=some cs
def eE:List Nat→Nat→Bool
  | [],_=>false
  |x::r,k=>cond (Nat.beq x k) true (eE r k)
theorem wI:∀ {l:List Nat} {k:Nat},eE l k=true→k∈l
  | [],_,h=>by cases h
  | x :: r, k, h => by
    simp only [eE]at h
    cases hb:Nat.beq x k with
    |true=>rw [Nat.eq_of_beq_eq_true hb];exact .head _
    |false=>rw [hb]at h;exact .tail _ (wI h)
structure EV where
  e:Ev
  vol:List Nat
  old:List (Nat×List Nat)
def Ay:List (Nat×List Nat)→Nat→List Nat
  | [],_=> []
  |(k,l)::r,i=>cond (Nat.beq k i) l (Ay r i)
def td (vol old:List Nat):Ev→Ev
  | []=> []
  |p::E=>cond (eE vol p.1&& !eE old p.1) (td vol old E) (p::td vol old E)
def cut (c:List Nat×List Nat) (E:Ev):Ev:=match c.1 with
  | []=>E
  |_::_=>td c.1 c.2 E
def EV.at (E0:EV) (k:Nat):List Nat×List Nat:=(E0.vol,Ay E0.old k)
theorem zk {vol old : List Nat} : ∀ {E : Ev} {t : Nat} {v : A}, (td vol old E).cF t = some v → E.cF t = some v ∧ (eE vol t = false ∨ eE old t = true)
  | [],_,_,h=>by cases h
  | p :: E, t, v, h => by
    simp only [td]at h
    cases hc:(eE vol p.1&& !eE old p.1)with
    | true =>
      rw [hc]at h
      obtain⟨h1,h2⟩:=zk (E:=E) h
      simp only [Ev.cF]
      cases hb:Nat.beq p.1 t with
      | true =>
        rw [Nat.eq_of_beq_eq_true hb]at hc
        rcases h2 with h2|h2<;>simp [h2]at hc
      |false=>exact⟨h1,h2⟩
    | false =>
      rw [hc]at h
      simp only [cond_false,Ev.cF]at h ⊢
      cases hb:Nat.beq p.1 t with
      | true =>
        rw [hb]at h
        refine⟨h,?_⟩
        rw [Nat.eq_of_beq_eq_true hb]at hc
        cases hv:eE vol t with
        |false=>exact .inl rfl
        |true=>rw [hv]at hc;simp at hc;exact .inr hc
      |false=>rw [hb]at h;exact zk (E:=E) h
theorem zm {c:List Nat×List Nat} {E:Ev} {t:Nat} {v:A} (h:(cut c E).cF t=some v):E.cF t=some v∧(eE c.1 t=false∨eE c.2 t=true):=by
  obtain⟨vol,old⟩:=c
  cases vol with
  |nil=>exact⟨h,.inl rfl⟩
  |cons x r=>exact zk h
def kJ (plan:List dM) (E0:Ev):Ev:=plan.foldl (fun E s=>(s.d,s.v)::E) E0
def mN (plan:List dM) (st0:St):St:=plan.foldl (fun st s=>s.cv st) st0
def rZ (md : Region.Mode) (ops : Array Oper) (n g : Nat) (plan : List dM) (E0 : EV) (st0 : St) (N : Nat) : Bool :=
  Region.noSelect ops&&((decide (n<ops.size)&&Region.sinkB md ops n&&Region.chainB md ops n)||Nat.beq n ops.size)&&
  Region.seqB md ops (ops.size - n) n ((List.range ops.size).map fun i=>decide (i<n)).toArray&&Nat.beq plan.length n&&
  ((List.range n).all fun k => match ops[k]? with
    |none=>false
    | some o => rU o.op && o.after.all (fun e => !Region.binds md e || decide (e.on < k)) &&
      (match o.dst with|none=>!eE E0.vol (nth plan k).d|some d=>Nat.beq d (nth plan k).d&&((E0.e.cF d).isNone||eE E0.vol d)&&Nat.ble (d+1) N&&((List.range n).all fun j=>Nat.beq j k|| !Nat.beq (nth plan j).d d))&&
      (((nth plan k).deps.all fun j=>decide (j<n)&&Region.waitsFor md ops k j)&&((Ay E0.old k).all fun t=>(List.range n).all fun i=>Nat.beq i k|| !Nat.beq (nth plan i).d t||jE md ops g i k))&&
      ((nth plan k).need.all fun p => (match p.2 with | none => true | some j => decide (j < n) && jE md ops g k j) &&
        ((List.range n).all fun i=>Nat.beq i k|| !(nth plan i).j0 p.1||jE md ops g i k||(match p.2 with|some j=>Nat.beq i j||jE md ops g j i|none=>false)))&&
      ((nth plan k).puts.all fun p=>(eE (nth plan k).dS p.1||st0.free p.1)&&((List.range n).all fun i=>Nat.beq i k|| !(nth plan i).j0 p.1||jE md ops g i k||(eE (nth plan k).dS p.1&&jE md ops g k i))))
section
variable {r:Option Nat} {ds0:List Deferred}
variable {P:Program} {w0:Bw} {X0:Xs} {N:Nat} {E0:EV} {st0:St} {Q:Exit→Act→World→Prop}
abbrev Qd (ds:List Deferred) (Q:Exit→Act→World→Prop):Exit→Act→World→Prop:=fun e a w=>Q e (a.wd ds) w
def lW (P:Program) (ops:Array Oper) (Q:Exit→Act→World→Prop) (o:Oper) (K:Act→World→Prop) (a:Act) (w:World):Prop:=
  if Region.wanted o (yielded ops a.tmps)then o.wp P a w K Q else K (a.put o.dst undef) w
def Dp (E1:Ev) (plan:List dM) (E0:Ev) (deps:List Nat):Prop:=(∀j∈deps,E1.cF (nth plan j).d=some (nth plan j).v)∧jQ E1 E0
def ek (c:List Nat×List Nat) (deps:List Nat):Nat→Ev→Ev
  |0,E=>cut c E
  |_+1, []=> []
  |k+1,p::E=>cond (eE deps k) (p::ek c deps k E) (ek c deps k E)
theorem Dp.jQ {E1 : Ev} {c : List Nat × List Nat} {deps : List Nat} {E0 : Ev} {full : List dM} (h : Dp E1 full (cut c E0) deps) : ∀ (r : List dM) (k : Nat), r.length = k → (∀ i s, r.reverse[i]? = some s → nth full i = s) → Abs.jQ E1 (ek c deps k ((r.map fun s => (s.d, s.v)) ++ E0))
  | [],0,_,_=>h.2
  | s :: r, k + 1, hk, hr => by
    have hrk:r.length=k:=by simpa using hk
    have ih:=Dp.jQ h r k hrk (fun i q hq=>hr i q (by rw [List.reverse_cons];have:=(List.getElem?_eq_some_iff.1 hq).1;rw [List.getElem?_append_left this];exact hq))
    have hs:nth full k=s:=hr k s (by rw [List.reverse_cons];simp [hrk])
    simp only [List.map_cons,List.cons_append,ek]
    cases hm:eE deps k with
    |false=>exact ih
    | true =>
      intro t v ht
      simp only [cond_true,Ev.cF]at ht
      cases hb:Nat.beq s.d t with
      |false=>rw [hb]at ht;exact ih t v ht
      | true =>
        rw [hb]at ht
        simp only [cond_true,Option.some.injEq]at ht
        subst ht
        have:=h.1 k (wI hm)
        rw [hs]at this
        rw [←Nat.eq_of_beq_eq_true hb];exact this
theorem DU:∀(plan:List dM) (E0:Ev),kJ plan E0=(plan.reverse.map fun s=>(s.d,s.v))++E0
  | [],_=>rfl
  | s :: r, E0 => by
    show kJ r ((s.d,s.v)::E0)=_
    rw [DU r];simp
theorem Dp.fin {E1:Ev} {c:List Nat×List Nat} {deps:List Nat} {E0:Ev} {plan:List dM} {k:Nat} {E:Ev} (h:Dp E1 plan (cut c E0) deps) (hE:E=kJ plan E0) (hk:plan.length=k):Abs.jQ E1 (ek c deps k E):=by
  subst hE
  rw [DU]
  exact h.jQ _ k (by rw [List.length_reverse];exact hk) (fun i s hs=>wS (by simpa using hs))
def sJ (P:Program) (w0:Bw) (X0:Xs) (N:Nat) (Q:Exit→Act→World→Prop) (ops:Array Oper) (plan:List dM) (E0:EV) (st0:St) (k:Nat) (o:Oper) (s:dM):Prop:=
  (o.dst=none→E0.e.cF s.d=some s.v)∧∀E st K,Dp E plan (cut (E0.at k) E0.e) s.deps→nh st (iL plan st0 s.need)→(∀p∈s.puts,eE s.dS p.1=false→st.free p.1=true)→At w0 X0 N ((s.d,s.v)::E) (s.cv st) K→At w0 X0 N E st (lW P ops Q o K)
def sK (P:Program) (w0:Bw) (X0:Xs) (N:Nat) (Q:Exit→Act→World→Prop) (ops:Array Oper) (plan:List dM) (E0:EV) (st0:St):Nat→List Oper→List dM→Prop
  |_, [],_=>True
  |_,_::_, []=>False
  |k,o::r,s::q=>sJ P w0 X0 N Q ops plan E0 st0 k o s∧sK P w0 X0 N Q ops plan E0 st0 (k+1) r q
theorem FR {ops:Array Oper} {plan:List dM}:∀ {l:List Oper} {q:List dM} {k0:Nat},sK P w0 X0 N Q ops plan E0 st0 k0 l q→∀ {k o},l[k]? =some o→sJ P w0 X0 N Q ops plan E0 st0 (k0+k) o (nth q k)
  | [],_,_,_,k,o,h=>by simp at h
  |_::_, [],_,h,_,_,_=>h.elim
  |_::_,_::_,_,h,0,o,hk=>by simp at hk;subst hk;exact h.1
  | _ :: r, _ :: q, k0, h, k + 1, o, hk => by
    have:=FR (l:=r) (q:=q) h.2 (k:=k) (o:=o) (by simpa using hk)
    rw [show k0+(k+1)=k0+1+k by omega];exact this
theorem HE {s:dM} {st:St} {id:Nat} (h:s.j0 id=false):(s.cv st).get id=st.get id∧(s.cv st).free id=st.free id:=by
  simp only [dM.j0,Bool.or_eq_false_iff]at h
  obtain⟨h1,h2⟩:=h
  have g1:∀(l:List (Nat×List A)) os,(l.any fun p=>Nat.beq p.1 id)=false→look ((l.map fun p=>(p.1,some p.2))++os) id=look os id∧fresh ((l.map fun p=>(p.1,some p.2))++os) id=fresh os id:=by
    intro l os
    induction l with
    |nil=>intro _;exact⟨rfl,rfl⟩
    | cons p l ih =>
      intro h
      simp only [List.any_cons,Bool.or_eq_false_iff]at h
      simp only [List.map_cons,List.cons_append,look,fresh,h.1,cond_false]
      exact ih h.2
  have g2:∀(l:List Nat) os,(l.any fun i=>Nat.beq i id)=false→look ((l.map fun i=>(i,(none:Option (List A))))++os) id=look os id∧fresh ((l.map fun i=>(i,(none:Option (List A))))++os) id=fresh os id:=by
    intro l os
    induction l with
    |nil=>intro _;exact⟨rfl,rfl⟩
    | cons p l ih =>
      intro h
      simp only [List.any_cons,Bool.or_eq_false_iff]at h
      simp only [List.map_cons,List.cons_append,look,fresh,h.1,cond_false]
      exact ih h.2
  unfold dM.cv St.get St.free
  dsimp only
  rw [List.append_assoc]
  exact⟨(g1 s.puts _ h1).1.trans (g2 s.dels _ h2).1,(g1 s.puts _ h1).2.trans (g2 s.dels _ h2).2⟩
theorem NQ {s:dM} {st:St} {id:Nat} {cs:List A} (h:kX s.puts id=some cs):(s.cv st).get id=some cs:=by
  have g:∀(l:List (Nat×List A)) os,kX l id=some cs→look ((l.map fun p=>(p.1,some p.2))++os) id=some cs:=by
    intro l os
    induction l with
    |nil=>intro h;cases h
    | cons p l ih =>
      intro h
      simp only [kX]at h
      simp only [List.map_cons,List.cons_append,look]
      cases hb:Nat.beq p.1 id with
      |true=>rw [hb]at h;exact h
      |false=>rw [hb]at h;exact ih h
  unfold dM.cv St.get
  dsimp only
  rw [List.append_assoc]
  exact g _ _ h
theorem Fl:∀ {l:List (Nat×List A)} {id:Nat} {cs:List A},kX l id=some cs→(id,cs)∈l
  | [],_,_,h=>by cases h
  | (k, c) :: r, id, cs, h => by
    simp only [kX]at h
    cases hb:Nat.beq k id with
    |true=>rw [hb]at h;simp only [cond_true,Option.some.injEq]at h;subst h;rw [←Nat.eq_of_beq_eq_true hb];exact .head _
    |false=>rw [hb]at h;exact .tail _ (Fl h)
structure yj (w0:Bw) (X0:Xs) (N:Nat) (E0:EV) (st0:St) (plan:List dM) (n:Nat) (hg:Nat→Nat→Bool) (listed:Array Bool) (E:Ev) (st:St):Prop where
  e0:∀t v,E0.e.cF t=some v→(eE E0.vol t=false∨∀k,k<n→listed.getD k false=true→(nth plan k).d≠t)→E.cF t=some v
  ed:∀j,j<n→listed.getD j false=true→E.cF (nth plan j).d=some (nth plan j).v
  si:∀id,(∀k,k<n→listed.getD k false=true→(nth plan k).j0 id=false)→st.get id=st0.get id∧st.free id=st0.free id
  sc:∀j,j<n→listed.getD j false=true→∀id cs,kX (nth plan j).puts id=some cs→(∀k,k<n→k≠j→listed.getD k false=true→(nth plan k).j0 id=true→hg j k=true)→st.get id=some cs
theorem Fj {plan:List dM} {k:Nat} (h:k<plan.length):plan[k]? =some (nth plan k):=by
  rw [List.getElem?_eq_getElem h];rw [wS (List.getElem?_eq_getElem h)]
theorem KY {plan:List dM} {s:dM} {E0:Ev}:kJ (plan++ [s]) E0=(s.d,s.v)::kJ plan E0:=by simp [kJ]
theorem KZ {plan:List dM} {s:dM}:mN (plan++ [s]) st0=s.cv (mN plan st0):=by simp [mN]
theorem DT:∀ {plan:List dM} {E0 E:Ev},(∀t v,(∀s∈plan,s.d≠t)→E0.cF t=some v→E.cF t=some v)→(∀s∈plan,E.cF s.d=some s.v)→∀t v,(kJ plan E0).cF t=some v→E.cF t=some v
  | [],_,_,h0,_,t,v,h=>h0 t v (fun _ hs=>by cases hs) h
  | s :: r, E0, E, h0, hs, t, v, h => by
    refine DT (plan:=r) (E0:=(s.d,s.v)::E0) (fun t v hn h=>?_) (fun q hq=>hs q (.tail _ hq)) t v h
    simp only [Ev.cF]at h
    cases hb:Nat.beq s.d t with
    | true =>
      rw [hb]at h
      simp only [cond_true,Option.some.injEq]at h
      subst h
      rw [←Nat.eq_of_beq_eq_true hb]
      exact hs s (.head _)
    | false =>
      rw [hb]at h
      refine h0 t v (fun q hq=>?_) h
      rcases List.mem_cons.1 hq with rfl|hq
      · intro e;rw [e]at hb;simp at hb
      · exact hn q hq
theorem CD {s:dM} {st:St} {id:Nat}:(∀cs,(s.cv st).get id=some cs→kX s.puts id=some cs∨(s.j0 id=false∧st.get id=some cs))∧((s.cv st).free id=true→s.j0 id=false∧st.free id=true):=by
  have g1:∀(l:List (Nat×List A)) os,(∀cs,look ((l.map fun p=>(p.1,some p.2))++os) id=some cs→kX l id=some cs∨((l.any fun p=>Nat.beq p.1 id)=false∧look os id=some cs))∧(fresh ((l.map fun p=>(p.1,some p.2))++os) id=true→(l.any fun p=>Nat.beq p.1 id)=false∧fresh os id=true):=by
    intro l os
    induction l with
    |nil=>exact⟨fun cs h=> .inr ⟨rfl,h⟩,fun h=>⟨rfl,h⟩⟩
    | cons p l ih =>
      simp only [List.map_cons,List.cons_append,look,fresh,kX,List.any_cons]
      cases hb:Nat.beq p.1 id with
      |true=>exact⟨fun cs h=> .inl aO,(fun h=>by cases h)⟩
      |false=>simp only [cond_false,Bool.false_or];exact ih
  have g2:∀(l:List Nat) os,(∀cs,look ((l.map fun i=>(i,(none:Option (List A))))++os) id=some cs→(l.any fun i=>Nat.beq i id)=false∧look os id=some cs)∧(fresh ((l.map fun i=>(i,(none:Option (List A))))++os) id=true→(l.any fun i=>Nat.beq i id)=false∧fresh os id=true):=by
    intro l os
    induction l with
    |nil=>exact⟨fun cs h=>⟨rfl,h⟩,fun h=>⟨rfl,h⟩⟩
    | cons p l ih =>
      simp only [List.map_cons,List.cons_append,look,fresh,List.any_cons]
      cases hb:Nat.beq p id with
      |true=>exact⟨(fun cs h=>by cases h),(fun h=>by cases h)⟩
      |false=>simp only [cond_false,Bool.false_or];exact ih
  unfold dM.cv St.get St.free
  dsimp only
  rw [List.append_assoc]
  refine⟨fun cs h=>?_,fun h=>?_⟩
  · rcases (g1 _ _).1 cs h with h | ⟨h1, h⟩
    · exact .inl h
    · obtain ⟨h2, h3⟩ := (g2 _ _).1 cs h
      exact .inr ⟨by simp only [dM.j0,h1,h2,Bool.or_false],h3⟩
  · obtain ⟨h1, h⟩ := (g1 _ _).2 h
    obtain⟨h2,h3⟩:=(g2 _ _).2 h
    exact⟨by simp only [dM.j0,h1,h2,Bool.or_false],h3⟩
theorem zS : ∀ {plan : List dM} {st0 : St} {id : Nat}, (∀ cs, (mN plan st0).get id = some cs → (∃ k, k < plan.length ∧ kX (nth plan k).puts id = some cs ∧ ∀ i, k < i → i < plan.length → (nth plan i).j0 id = false) ∨ ((∀ i, i < plan.length → (nth plan i).j0 id = false) ∧ st0.get id = some cs)) ∧
    ((mN plan st0).free id=true→(∀i,i<plan.length→(nth plan i).j0 id=false)∧st0.free id=true)
  | [],st0,id=>⟨fun cs h=> .inr ⟨(fun i hi=>absurd hi aA),h⟩,fun h=>⟨(fun i hi=>absurd hi aA),h⟩⟩
  | s :: r, st0, id => by
    obtain⟨ih1,ih2⟩:=zS (plan:=r) (st0:=s.cv st0) (id:=id)
    refine⟨fun cs h=>?_,fun h=>?_⟩
    · rcases ih1 cs h with ⟨k, h1, h2, h3⟩ | ⟨h1, h2⟩
      · refine .inl ⟨k + 1, by simp; omega, h2, fun i hi hi' => ?_⟩
        obtain⟨i,rfl⟩:∃q,i=q+1:=⟨i - 1,by omega⟩
        exact h3 i aq (by simpa using hi')
      · rcases CD.1 cs h2 with h2 | ⟨h2, h3⟩
        · refine .inl ⟨0, by simp, h2, fun i hi hi' => ?_⟩
          obtain⟨i,rfl⟩:∃q,i=q+1:=⟨i - 1,by omega⟩
          exact h1 i (by simpa using hi')
        · refine .inr ⟨fun i hi => ?_, h3⟩
          cases i with
          |zero=>exact h2
          |succ i=>exact h1 i (by simpa using hi)
    · obtain ⟨h1, h2⟩ := ih2 h
      obtain⟨h3,h4⟩:=CD.2 h2
      refine⟨fun i hi=>?_,h4⟩
      cases i with
      |zero=>exact h3
      |succ i=>exact h1 i (by simpa using hi)
theorem Et {md:Region.Mode} {ops:Array Oper} {n:Nat} (hall:∀k o,k<n→ops[k]? =some o→∀e∈o.after,Region.binds md e=true→e.on<k):∀(g i k:Nat),i<n→jE md ops g i k=true→k<i
  |0,_,_,_,h=>by simp [jE]at h
  | g + 1, i, k, hi, h => by
    simp only [jE,Bool.or_eq_true]at h
    rcases h with h|h
    · obtain ⟨oj, hoj, e, he, hb, hon⟩ := Region.waitsFor_spec h
      rw [←hon];exact hall i oj hi hoj e he hb
    · obtain ⟨m, hm1, hm⟩ := List.any_eq_true.1 h
      simp only [Bool.and_eq_true]at hm
      have:=List.mem_range.1 hm1
      have:=Et hall g m k aq hm.2
      omega
theorem Rel.weaken {w0 X0 n} {E E':Ev} {st st':St} {a w} (h:Rel w0 X0 n E st a w) (hE:∀t v,E'.cF t=some v→E.cF t=some v) (hs:∀id cs,st'.get id=some cs→st.get id=some cs) (hf:∀id,st'.free id=true→st.free id=true):Rel w0 X0 n E' st' a w:=
  let ⟨β,X,hr⟩:=h
  ⟨β,X,.of (hr.x0) (hr.xn) (hr.mem.drop hf hs) (hr.gl) (hr.size) (hr.defers) (hr.sslot) (fun t v ht=>hr.slot t v (hE t v ht))⟩
theorem HV {ops : Array Oper} {md : Region.Mode} {n g : Nat} {plan : List dM} (hB : rZ md ops n g plan E0 st0 N = true) (hob : sK P w0 X0 N (Qd ds0 Q) ops plan E0 st0 0 (ops.toList.take n) plan)
    (hend:At w0 X0 N (kJ plan E0.e) (mN plan st0) (Pw ds0 (wpListIn (rF r) 0 P ops Q (ops.toList.drop n)))):
    ∀ (f : Nat) (L : List Nat) (listed : Array Bool) (a : Act) (w : World), L.length = f → L.Nodup → (∀ i, i ∈ L ↔ i < n ∧ listed.getD i true = false) → HeadInv md ops n listed →
      (∃E st,yj w0 X0 N E0 st0 plan n (jE md ops g) listed E st∧Rel w0 X0 N E st a w)→wpAnyIn (rF r) 0 P md ops Q (f+(ops.size - n)) listed (a.wd ds0) w:=by
  unfold rZ at hB
  simp only [Bool.and_eq_true,Bool.or_eq_true,decide_eq_true_eq]at hB
  obtain⟨⟨⟨⟨hsel,hnn⟩,hseq⟩,hlen⟩,hall⟩:=hB
  have hn:n≤ops.size:=by
    rcases hnn with ⟨⟨h,_⟩,_⟩|h
    · omega
    · rw [Nat.eq_of_beq_eq_true h];exact Nat.le_refl _
  have hlen:=Nat.eq_of_beq_eq_true hlen
  intro f
  induction f with
  | zero =>
    rintro L listed a w hL _ hmem hinv ⟨E,st,inv,hrel⟩
    have hnil:L= []:=List.eq_nil_of_length_eq_zero hL
    subst hnil
    have hall':∀i,i<n→listed.getD i true=true:=fun i hi=>by
      cases hg:listed.getD i true with
      |true=>rfl
      |false=>have:=(hmem i).2 ⟨hi,hg⟩;cases this
    have hallf:∀i,i<n→listed.getD i false=true:=fun i hi=>by
      have h1:=hall' i hi
      have:i<listed.size:=by rw [hinv.size];omega
      simp [this]at h1 ⊢;exact h1
    have htar:listed=((List.range ops.size).map fun i=>decide (i<n)).toArray:=by
      apply Array.ext
      · simp [hinv.size]
      · intro i h1 h2
        have hsz:i<ops.size:=by rw [←hinv.size];exact h1
        simp only [List.getElem_toArray,List.getElem_map,List.getElem_range]
        by_cases hin:i<n
        · have := hall' i hin
          simp only [Array.getD,h1,dif_pos]at this
          rw [decide_eq_true hin]
          simpa using this
        · have := hinv.tail i aq hsz
          simp only [Array.getD,h1,dif_pos]at this
          rw [decide_eq_false hin]
          simpa using this
    rw [Nat.zero_add]
    have hlen':(ops.toList.drop n).length=ops.size - n:=by simp
    have hk:∀k o,k<n→ops[k]? =some o→_:=fun k o hkn hko=>by
      have h:=List.all_eq_true.1 hall k (List.mem_range.2 hkn)
      simp only [hko]at h
      exact h
    have hon:∀k o,k<n→ops[k]? =some o→∀e∈o.after,Region.binds md e=true→e.on<k:=fun k o hkn hko e he hb=>by
      have h1:=hk k o hkn hko
      simp only [Bool.and_eq_true]at h1
      have h2:=Array.all_eq_true_iff_forall_mem.1 h1.1.1.1.1.2 e he
      simpa [hb]using h2
    have hfin:Rel w0 X0 N (kJ plan E0.e) (mN plan st0) a w:=by
      refine hrel.weaken (DT (fun t v hn h=>inv.e0 t v h (.inr fun k hkn _=>hn _ (List.mem_of_getElem? (Fj aq)))) fun s hs=>?_) (fun id cs hg=>?_) (fun id hf=>?_)
      · obtain ⟨k, hk'⟩ := List.mem_iff_getElem?.1 hs
        have hlt:=(List.getElem?_eq_some_iff.1 hk').1
        have:=inv.ed k aq (hallf k aq)
        rwa [wS hk']at this
      · rcases zS.1 cs hg with ⟨k, h1, h2, h3⟩ | ⟨h1, h2⟩
        · refine inv.sc k aq (hallf k aq) id cs h2 fun i hi hne _ htch => ?_
          by_cases hki:k<i
          · rw [h3 i hki aq]at htch;cases htch
          · have hok : ∃ o, ops[k]? = some o := ⟨ops[k]' aq, by simp [show k < ops.size by omega]⟩
            obtain⟨o,ho⟩:=hok
            have hp:=hk k o aq ho
            simp only [Bool.and_eq_true]at hp
            have hq:=List.all_eq_true.1 hp.2 (id,cs) (Fl h2)
            simp only [Bool.and_eq_true]at hq
            have h4:=List.all_eq_true.1 hq.2 i (List.mem_range.2 hi)
            have hb:Nat.beq i k=false:=by cases hb:Nat.beq i k with|false=>rfl|true=>exact absurd (Nat.eq_of_beq_eq_true hb) hne
            simp only [hb,Bool.false_or,Bool.or_eq_true,Bool.and_eq_true,Bool.not_eq_true']at h4
            rcases h4 with (h4|h4)|⟨_,h4⟩
            · rw [h4]at htch;cases htch
            · have:=Et hon g i k hi h4;omega
            · exact h4
        · exact((inv.si id fun k hkn _=>h1 k aq).1).trans h2
      · obtain ⟨h1, h2⟩ := zS.2 hf
        exact((inv.si id fun k hkn _=>h1 k aq).2).trans h2
    have:=Bo (r:=r) (P:=P) (md:=md) (ops:=ops) (Q:=Q) (ops.toList.drop n) n listed (a.wd ds0) w (fun j=>by rw [List.getElem?_drop];simp) (by rw [hlen',htar];exact hseq) (hend a w hfin)
    rwa [hlen']at this
  | succ f ih =>
    rintro L listed a w hL hnd hmem hinv ⟨E,st,inv,hrel⟩
    obtain⟨i0,hi0⟩:∃i,i∈L:=by
      cases L with
      |nil=>simp at hL
      |cons x r=>exact⟨x,.head _⟩
    obtain⟨h01,h02⟩:=(hmem i0).1 hi0
    have hwait:∀t,n≤t→t∉Region.ready md ops listed:=by
      rcases hnn with ⟨⟨h,hs⟩,hc⟩|h
      · exact tail_waits hs hc h hinv _ i0 rfl h01 h02
      · intro t ht hr
        obtain⟨_,o,ho,_⟩:=mem_ready.1 hr
        have h1:=(Array.getElem?_eq_some_iff.1 ho).1
        have h2:=Nat.eq_of_beq_eq_true h
        omega
    have hk:∀k o,k<n→ops[k]? =some o→_:=fun k o hkn hko=>by
      have h:=List.all_eq_true.1 hall k (List.mem_range.2 hkn)
      simp only [hko]at h
      exact h
    rw [show f+1+(ops.size - n)=(f+(ops.size - n))+1 by omega]
    refine⟨fun hnone=>?_,fun i hi=>?_⟩
    · obtain ⟨m, hm1, hm2, hm3⟩ := least (p := fun i => !listed.getD i true) n ⟨i0, h01, by simp only [h02, Bool.not_false]⟩
      have hmo:∃o,ops[m]? =some o:=⟨ops[m]' aq,by simp [show m<ops.size by omega]⟩
      obtain⟨o,ho⟩:=hmo
      have:m∈Region.ready md ops listed:=mem_ready.2 ⟨by simpa using hm2,o,ho,fun e he hb=>by
        have h1:=hk m o hm1 ho
        simp only [Bool.and_eq_true]at h1
        have h2:=Array.all_eq_true_iff_forall_mem.1 h1.1.1.1.1.2 e he
        have hlt:e.on<m:=by simpa [hb]using h2
        have:=hm3 e.on hlt
        have hes:e.on<listed.size:=by rw [hinv.size];omega
        simp [hes]at this ⊢;exact this⟩
      rw [hnone]at this
      cases this
    · obtain ⟨hiun, o, ho, hpre⟩ := mem_ready.1 hi
      have hin:i<n:=by
        rcases Nat.lt_or_ge i n with h|h
        · exact h
        · exact absurd hi (hwait i h)
      have h1:=hk i o hin ho
      simp only [Bool.and_eq_true]at h1
      obtain⟨⟨⟨⟨⟨hnd',_⟩,hdst⟩,hdeps,hold⟩,hneed⟩,hputs⟩:=h1
      -- what is listed ahead
      have hafter:∀k,jE md ops g i k=true→listed.getD k false=true:=fun k hk'=>wh hinv g i k hk' (fun oj hoj e he hb=>by
        have:oj=o:=Option.some.inj (hoj.symm.trans ho)
        subst this
        exact hpre e he hb)
      have hbefore:∀k,jE md ops g k i=true→listed.getD k false=true→False:=fun k hk' hl=>by
        have:=wh hinv g k i hk' (fun oj hoj e he hb=>hinv.closed k oj hoj hl e he hb)
        rw [getD_both hiun]at this
        cases this
      have hbeq:∀ {x y:Nat},x≠y→Nat.beq x y=false:=fun {x y} h=>by cases hb:Nat.beq x y with|false=>rfl|true=>exact absurd (Nat.eq_of_beq_eq_true hb) h
      have hob':=FR hob (k:=i) (o:=o) (by rw [List.getElem?_take,if_pos hin];simpa using ho)
      rw [Nat.zero_add]at hob'
      have hwp:=hob'.2 E st (Pw ds0 (wpAnyIn (rF r) 0 P md ops Q (f+(ops.size - n)) (listed.setIfInBounds i true))) ?_ ?_ ?_ ?_ a w hrel
      · unfold wpOpIn
        simp only [ho]
        unfold lW at hwp
        by_cases hw:Region.wanted o (yielded ops a.tmps)=true
        · rw [if_pos hw]at hwp;rw [if_pos (by rw [qz];exact hw)];exact xa hnd' hwp
        · rw [if_neg hw]at hwp;rw [if_neg (by rw [qz];exact hw),lQ];exact⟨fun _ _=>trivial,hwp⟩
      · -- slots
        refine⟨fun j hj=>?_,fun t v ht=>?_⟩
        rotate_left
        · obtain ⟨h2, h3⟩ := zm ht
          refine inv.e0 t v h2 ?_
          rcases h3 with h3|h3
          · exact .inl h3
          · refine .inr fun k hkn hkl e => ?_
            have h4:=List.all_eq_true.1 (List.all_eq_true.1 hold t (wI h3)) k (List.mem_range.2 hkn)
            have hki:k≠i:=fun e=>by subst e;rw [getD_both hiun]at hkl;cases hkl
            rw [hbeq hki,e]at h4
            simp only [Bool.false_or,Bool.or_eq_true,Bool.not_eq_true']at h4
            rcases h4 with h4|h4
            · simp at h4
            · exact hbefore k h4 hkl
        have:=List.all_eq_true.1 hdeps j hj
        simp only [Bool.and_eq_true,decide_eq_true_eq]at this
        obtain⟨oj,hoj,e,he,hb,hon⟩:=Region.waitsFor_spec this.2
        have heq:oj=o:=Option.some.inj (hoj.symm.trans ho)
        subst heq
        exact inv.ed j this.1 (by rw [←hon];exact hpre e he hb)
      · -- objects
        intro id cs hg
        have:∀l:List (Nat×Option Nat),(∀p∈l,p∈(nth plan i).need)→look (l.map fun p=>(p.1,match p.2 with|none=>st0.get p.1|some j=>kX (nth plan j).puts p.1)) id=some cs→st.get id=some cs:=by
          intro l
          induction l with
          |nil=>intro _ h;cases h
          | cons p l ihl =>
            intro hp h
            simp only [List.map_cons,look]at h
            cases hb:Nat.beq p.1 id with
            |false=>rw [hb]at h;exact ihl (fun q hq=>hp q (.tail _ hq)) h
            | true =>
              rw [hb]at h
              simp only [cond_true]at h
              have hid:=Nat.eq_of_beq_eq_true hb
              subst hid
              have hq:=List.all_eq_true.1 hneed p (hp p (.head _))
              simp only [Bool.and_eq_true]at hq
              obtain⟨hq1,hq2⟩:=hq
              have huntouched:∀k,k<n→listed.getD k false=true→(∀j,p.2=some j→k≠j)→(nth plan k).j0 p.1=false∨∃j,p.2=some j∧jE md ops g j k=true:=by
                intro k hkn hkl hkj
                have hki:k≠i:=fun e=>by subst e;rw [getD_both hiun]at hkl;cases hkl
                have h3:=List.all_eq_true.1 hq2 k (List.mem_range.2 hkn)
                simp only [hbeq hki,Bool.false_or,Bool.or_eq_true,Bool.not_eq_true']at h3
                rcases h3 with (h3|h3)|h3
                · exact .inl h3
                · exact(hbefore k h3 hkl).elim
                · split at h3
                  · rename_i j hj
                    simp only [Bool.or_eq_true]at h3
                    rcases h3 with h3|h3
                    · exact absurd (Nat.eq_of_beq_eq_true h3) (hkj j hj)
                    · exact .inr ⟨j,hj,h3⟩
                  · cases h3
              cases hp2:p.2 with
              | none =>
                rw [hp2]at h
                exact((inv.si p.1 fun k hkn hkl=>(huntouched k hkn hkl (by rw [hp2];intro j hj;cases hj)).elim (fun h=>h) (fun⟨j,hj,_⟩=>by rw [hp2]at hj;cases hj)).1).trans h
              | some j =>
                rw [hp2]at h hq1
                simp only [Bool.and_eq_true,decide_eq_true_eq]at hq1
                exact inv.sc j hq1.1 (hafter j hq1.2) p.1 cs h fun k hkn hkj hkl htch=>(huntouched k hkn hkl (by rw [hp2];intro j' hj';cases hj';exact hkj)).elim (fun h=>by rw [h]at htch;cases htch) (fun⟨j',hj',h5⟩=>by rw [hp2]at hj';cases hj';exact h5)
        exact this _ (fun p hp=>hp) hg
      · -- fresh numbers
        intro p hp hup
        have hq:=List.all_eq_true.1 hputs p hp
        simp only [hup,Bool.false_or,Bool.false_and,Bool.or_false,Bool.and_eq_true]at hq
        refine((inv.si p.1 fun k hkn hkl=>?_).2).trans hq.1
        have hki:k≠i:=fun e=>by subst e;rw [getD_both hiun]at hkl;cases hkl
        have h3:=List.all_eq_true.1 hq.2 k (List.mem_range.2 hkn)
        simp only [hbeq hki,Bool.false_or,Bool.or_eq_true,Bool.not_eq_true']at h3
        rcases h3 with h3|h3
        · exact h3
        · exact(hbefore k h3 hkl).elim
      · -- behind it
        intro a' w' hrel'
        have hset:∀j,(listed.setIfInBounds i true).getD j false=true→j=i∨listed.getD j false=true:=fun j hj=>by
          by_cases hji:j=i
          · exact .inl hji
          · rw [getD_set_ne false (Ne.symm hji)]at hj;exact .inr hj
        have hmono:∀j,listed.getD j false=true→(listed.setIfInBounds i true).getD j false=true:=fun j hj=>getD_set_true hj
        have hii:(listed.setIfInBounds i true).getD i false=true:=by
          have:i<listed.size:=by rw [hinv.size];omega
          simp [this]
        refine ih (L.erase i) _ a' w' ?_ (hnd.erase i) ?_ (hinv.set hi hin) ⟨_,_,⟨?_,?_,?_,?_⟩,hrel'⟩
        · rw [List.length_erase_of_mem ((hmem i).2 ⟨hin,hiun⟩),hL];rfl
        · intro j
          rw [hnd.mem_erase_iff,hmem]
          constructor
          · rintro ⟨h1, h2, h3⟩
            exact⟨h2,by rw [getD_set_ne true (Ne.symm h1)];exact h3⟩
          · rintro ⟨h1, h2⟩
            by_cases hji:j=i
            · subst hji
              have hlt:j<listed.size:=by rw [hinv.size];omega
              simp [hlt]at h2
            · rw [getD_set_ne true (Ne.symm hji)] at h2
              exact⟨hji,h1,h2⟩
        · intro t v ht hc
          have hold':=inv.e0 t v ht (hc.imp (fun h=>h) fun h k hkn hkl=>h k hkn (hmono k hkl))
          simp only [Ev.cF]
          cases hb:Nat.beq (nth plan i).d t with
          |false=>exact hold'
          | true =>
            have e:=Nat.eq_of_beq_eq_true hb
            cases hod:o.dst with
            | none =>
              have:=hob'.1 hod
              rw [e,ht]at this
              exact this.symm
            | some d =>
              exfalso
              rw [hod]at hdst
              simp only [Bool.and_eq_true]at hdst
              obtain⟨⟨⟨hd1,hd2⟩,hd3⟩,hd4⟩:=hdst
              have hd1:=Nat.eq_of_beq_eq_true hd1
              rcases hc with hc|hc
              · rw [← e, ← hd1] at ht hc
                simp only [Bool.or_eq_true,Option.isNone_iff_eq_none]at hd2
                rcases hd2 with hd2|hd2
                · rw [hd2]at ht;cases ht
                · rw [hd2]at hc;cases hc
              · exact hc i hin hii e
        · intro j hj hjl
          by_cases hji:j=i
          · subst hji
            simp only [Ev.cF]
            have:Nat.beq (nth plan j).d (nth plan j).d=true:=by simp
            rw [this];rfl
          · have hjl' : listed.getD j false = true := (hset j hjl).resolve_left hji
            have hold':=inv.ed j hj hjl'
            simp only [Ev.cF]
            cases hb:Nat.beq (nth plan i).d (nth plan j).d with
            |false=>exact hold'
            | true =>
              have e:=Nat.eq_of_beq_eq_true hb
              cases hod:o.dst with
              | none =>
                rw [hod]at hdst
                have hi0:=hob'.1 hod
                have hiv:eE E0.vol (nth plan i).d=false:=by simpa using hdst
                have:=inv.e0 _ _ hi0 (.inl hiv)
                rw [e,hold']at this
                exact this.symm
              | some d =>
                exfalso
                rw [hod]at hdst
                simp only [Bool.and_eq_true]at hdst
                obtain⟨⟨⟨hd1,hd2⟩,hd3⟩,hd4⟩:=hdst
                have hd1:=Nat.eq_of_beq_eq_true hd1
                have h3:=List.all_eq_true.1 hd4 j (List.mem_range.2 hj)
                simp only [hbeq hji,Bool.false_or,Bool.not_eq_true']at h3
                rw [←e,hd1]at h3
                simp at h3
        · intro id hun
          have ht:=hun i hin hii
          obtain⟨g1,g2⟩:=HE (s:=nth plan i) (st:=st) ht
          obtain⟨g3,g4⟩:=inv.si id fun k hkn hkl=>hun k hkn (hmono k hkl)
          exact⟨g1.trans g3,g2.trans g4⟩
        · intro j hj hjl id cs hlp hun
          by_cases hji:j=i
          · subst hji;exact NQ hlp
          · rcases hset j hjl with h | h
            · exact absurd h hji
            · have hti : (nth plan i).j0 id = false := by
                cases htc:(nth plan i).j0 id with
                |false=>rfl
                | true =>
                  have:=wh hinv g j i (hun i hin (Ne.symm hji) hii htc) (fun oj hoj e he hb=>hinv.closed j oj hoj h e he hb)
                  rw [getD_both hiun]at this
                  cases this
              obtain⟨g1,_⟩:=HE (s:=nth plan i) (st:=st) hti
              exact g1.trans (inv.sc j hj h id cs hlp fun k hkn hkj hkl=>hun k hkn hkj (hmono k hkl))
theorem IT {id : Nat} {l : List Oper} {E : Ev} (plan : List dM) (E0 : EV) (n g : Nat) (hm : P.follows .mixedOrders = true) (hE : jQ E E0.e) (hB : rZ .any l.toArray n g plan E0 st0 N = true)
    (hob:sK P w0 X0 N (Qd ds0 Q) l.toArray plan E0 st0 0 (l.take n) plan) (h:At w0 X0 N (kJ plan E0.e) (mN plan st0) (Pw ds0 (wpListIn (rF r) 0 P l.toArray Q (l.drop n)))):At w0 X0 N E st0 (Pw ds0 ((Code.region id l.toArray true).wpIn (rF r) 0 P Q)):=by
  intro a w hr'
  have hr:Rel w0 X0 N E0.e st0 a w:=hr'.weaken hE (fun _ _ h=>h) (fun _ h=>h)
  refine wpIn_region_any hm ?_
  have hn:n≤l.length:=by
    unfold rZ at hB
    simp only [Bool.and_eq_true,Bool.or_eq_true,decide_eq_true_eq]at hB
    rcases hB.1.1.1.2 with ⟨⟨h,_⟩,_⟩|h
    · simpa using Nat.le_of_lt h
    · have := Nat.eq_of_beq_eq_true h
      simp at this;omega
  have hgo:=HV (r:=r) (ds0:=ds0) (P:=P) (Q:=Q) (w0:=w0) (X0:=X0) hB (by simpa using hob) aO n (List.range n) (Array.replicate l.toArray.size false) a {w with drawn:=w.drawn+1} aA List.nodup_range
    (fun i=>by
      rw [List.mem_range]
      constructor
      · intro hi
        refine⟨hi,?_⟩
        have:i<l.length:=by omega
        simp [this]
      · exact fun h=>h.1)
    ⟨by simp,(fun j oj _ hl=>by rw [getD_replicate_false]at hl;cases hl),(fun t _ ht=>by simp at ht ⊢;simp [ht])⟩
    ⟨E0.e,st0,⟨fun _ _ h _=>h,(fun j _ hl=>by rw [getD_replicate_false]at hl;cases hl),fun _ _=>⟨rfl,rfl⟩,(fun j _ hl=>by rw [getD_replicate_false]at hl;cases hl)⟩,hr.drew⟩
  have e:n+(l.toArray.size - n)=l.toArray.size:=by simp;omega
  rw [e]at hgo
  exact hgo
section use
variable {ops:Array Oper} {E F:Ev} {st stN:St} {K:Act→World→Prop}
theorem lF (h:jQ E F) {x:Operand} {v:A} (hx:ev F x=some v):ev E x=some v:=by
  cases x with
  |tmp t=>exact h t v hx
  |const u=>exact hx
  |global g=>exact hx
  |func f=>exact hx
theorem rA (h:jQ E F):∀ {l:List Operand} {vs:List A},fx F l=some vs→fx E l=some vs
  | [],_,hx=>hx
  | x :: r, vs, hx => by
    simp only [fx]at hx ⊢
    split at hx
    · rename_i v us hv hus
      rw [lF h hv,rA h hus];exact hx
    · cases hx
theorem AH (h:jQ E F):∀ {l:List (Nat×Operand)} {k:Nat} {vs:List A},iM F l k=some vs→iM E l k=some vs
  | [],_,_,hx=>hx
  | (i, x) :: r, k, vs, hx => by
    simp only [iM]at hx ⊢
    split at hx
    · rename_i v us hik hv hus
      rw [hik,lF h hv,AH h hus];exact hx
    · cases hx
theorem Ii (h:nh st stN) {v:A} {r:Nat×List A} (hm:SM stN v=some r):SM st v=some r:=by
  unfold SM at*
  split at hm
  · exact hm
  · exact hm
  · obtain ⟨cs, hg, he⟩ := Option.map_eq_some_iff.1 hm
    simp only [h _ _ hg,Option.map_some,he]
  · cases hm
mutual
theorem Is (h:nh st stN):∀ {ow:Bool} {v v':A},Vw stN ⟨[]⟩ ow v v'→Vw st ⟨[]⟩ ow v v'
  |_,_,_,.pure hp=> .pure hp
  |_,_,_,.nl=> .nl
  |_,_,_,.sl hf hg hm hd hv hp=> .sl hf (h _ _ hg) hm hd (pH h hv) hp
  |_,_,_,.kp hf=> .kp hf
  |_,_,_,.ksl hf=> .ksl hf
  |_,_,_,.ag hv=> .ag (pH h hv)
  |_,_,_,.fn hv hv'=> .fn (pH h hv) (pH h hv')
theorem pH (h:nh st stN):∀ {ow:Bool} {v v':List A},cK stN ⟨[]⟩ ow v v'→cK st ⟨[]⟩ ow v v'
  |_,_,_,.nil=> .nil
  |_,_,_,.cons hv hs=> .cons (Is h hv) (pH h hs)
end
theorem BQ {op:Op} {ty:TypeId} {v:A} (h:jQ E F) (hs:nh st stN) (hy:YO P F stN op ty v):YO P E st op ty v:=by
  intro w0 X0 n β X a w hr
  obtain⟨u,h1,h2⟩:=hy w0 X0 n β X a w ⟨hr.x0,hr.xn,⟨hr.memq.below,hr.memq.b0,hr.memq.xlt,fun id cs hg=>hr.memq.obj id cs (hs id cs hg),fun i j ci cj b M N hij hi hj=>hr.memq.inj i j ci cj b M N hij (hs i ci hi) (hs j cj hj)⟩,hr.gl,hr.size,hr.defers,hr.sslot,fun t v ht=>hr.slot t v (h t v ht)⟩
  exact⟨u,h1,fun d pos b6 g w' hsame=>h2 d pos b6 g w' ⟨hsame.xs,fun id cs b N hg=>hsame.own id cs b N (hs id cs hg),fun id cs b hg=>hsame.map id cs b (hs id cs hg)⟩⟩
theorem FQ {o:Oper} (hg:o.guard=none) (h:At w0 X0 N E st (fun a w=>o.wp P a w K Q)):At w0 X0 N E st (lW P ops Q o K):=fun a w hr=>by
  unfold lW
  rw [if_pos bg]
  exact h a w hr
theorem FP {o:Oper} {j t:Nat} {b:Bool} (hg:o.guard=some (j,b)) (hj:fy ops j=some t) (hb:E.cF t=some (.b b)) (h:At w0 X0 N E st (fun a w=>o.wp P a w K Q)):At w0 X0 N E st (lW P ops Q o K):=fun a w hr=>by
  unfold lW
  rw [if_pos (by obtain⟨β,X,hr⟩:=hr;simp [Region.wanted,hg,hr.lX hj hb])]
  exact h a w hr
theorem M1 {op:Op} {ty:TypeId} {pos:String} {b6:Array Edge} {d j t:Nat} {b b':Bool} (hj:fy ops j=some t) (hb:E.cF t=some (.b b')) (hn:b'= !b) (hd:Nat.ble (d+1) N=true) (h:At w0 X0 N ((d,un)::E) st K):At w0 X0 N E st (lW P ops Q ⟨some d,op,ty,pos,b6,some (j,b)⟩ K):=fun a w ⟨β,X,hr⟩=>by
  subst hn
  unfold lW
  rw [if_neg (by simp [Region.wanted,hr.lX hj hb])]
  exact h _ _ ⟨β,X,hr.put hd aW⟩
end use
theorem FJ {plan q:List dM} {k:Nat} (h:k<plan.length):nth (plan++q) k=nth plan k:=by
  have:(plan++q)[k]? =some (nth plan k):=by rw [List.getElem?_append_left h];exact Fj h
  exact wS this
theorem Ic {E1 E0:Ev} {plan q:List dM} {deps:List Nat} (h:(deps.all fun j=>Nat.blt j plan.length)=true) (hD:Dp E1 (plan++q) E0 deps):Dp E1 plan E0 deps:=
  ⟨fun j hj=>by have:=hD.1 j hj;rw [FJ (Nat.le_of_ble_eq_true (List.all_eq_true.1 h j hj))]at this;exact this,hD.2⟩
theorem MS {plan q:List dM} {need:List (Nat×Option Nat)} (h:(need.all fun p=>match p.2 with|none=>true|some j=>Nat.blt j plan.length)=true):iL (plan++q) st0 need=iL plan st0 need:=by
  unfold iL
  congr 1
  refine List.map_congr_left fun p hp=>?_
  have:=List.all_eq_true.1 h p hp
  obtain⟨id,o⟩:=p
  cases o with
  |none=>rfl
  |some j=>simp only;rw [FJ (Nat.le_of_ble_eq_true this)]
def Ie (r:Option Nat) (ds0:List Deferred) (P:Program) (w0:Bw) (X0:Xs) (N:Nat) (Q:Exit→Act→World→Prop) (ops:Array Oper) (n g:Nat) (E0:EV) (st0:St) (plan:List dM) (rest:List Oper):Prop:=
  ∃q,sK P w0 X0 N (Qd ds0 Q) ops (plan++q) E0 st0 plan.length rest q∧rZ .any ops n g (plan++q) E0 st0 N=true∧At w0 X0 N (kJ (plan++q) E0.e) (mN (plan++q) st0) (Pw ds0 (wpListIn (rF r) 0 P ops Q (ops.toList.drop n)))
def FS (r:Option Nat) (ds0:List Deferred) (P:Program) (w0:Bw) (X0:Xs) (N:Nat) (Q:Exit→Act→World→Prop) (ops:Array Oper) (n g:Nat) (E0:EV) (st0:St) (plan:List dM) (k:Nat) (E:Ev) (st:St) (rest:List Oper):Prop:=
  plan.length=k→E=kJ plan E0.e→st=mN plan st0→Ie r ds0 P w0 X0 N Q ops n g E0 st0 plan rest
def g8 (k:Nat) (deps:List Nat) (need:List (Nat×Option Nat)):Bool:=(deps.all fun j=>Nat.blt j k)&&(need.all fun p=>match p.2 with|none=>true|some j=>Nat.blt j k)
section seq
variable {ops:Array Oper} {n g:Nat} {plan:List dM} {E:Ev} {st:St} {rest:List Oper}
theorem Ef {o:Oper} {k0:Nat} (s:dM) (hn:o.dst=none→E0.e.cF s.d=some s.v) (hO:plan.length=k0→E=kJ plan E0.e→(sJ P w0 X0 N (Qd ds0 Q) ops plan E0 st0 k0 o s)) (hd:g8 k0 s.deps s.need=true) (h:FS r ds0 P w0 X0 N Q ops n g E0 st0 (plan++ [s]) (k0+1) ((s.d,s.v)::E) (s.cv st) rest):FS r ds0 P w0 X0 N Q ops n g E0 st0 plan k0 E st (o::rest):=by
  intro hk hE hs
  subst hk
  obtain⟨q,h1,h2,h3⟩:=h aA (by rw [KY,hE]) (by rw [KZ,hs])
  rw [List.append_assoc]at h1 h2 h3
  rw [List.length_append]at h1
  unfold g8 at hd
  simp only [Bool.and_eq_true]at hd
  refine⟨s::q,⟨⟨hn,fun E1 jG K he hst hf hK=>(hO rfl hE).2 E1 jG K (Ic hd.1 he) ?_ hf hK⟩,h1⟩,h2,h3⟩
  · rw [MS hd.2]at hst;exact hst
theorem kf {d0:Nat} {op:Op} {ty:TypeId} {pos:String} {b6:Array Edge} {gd:Option (Nat×Bool)} {k0:Nat} (s:dM) (hO:plan.length=k0→E=kJ plan E0.e→∀E st K,Dp E plan (cut (E0.at k0) E0.e) s.deps→nh st (iL plan st0 s.need)→(∀p∈s.puts,eE s.dS p.1=false→st.free p.1=true)→At w0 X0 N ((s.d,s.v)::E) (s.cv st) K→At w0 X0 N E st (lW P ops (Qd ds0 Q) ⟨some d0,op,ty,pos,b6,gd⟩ K)) (hd:g8 k0 s.deps s.need=true)
    (h:FS r ds0 P w0 X0 N Q ops n g E0 st0 (plan++ [s]) (k0+1) ((s.d,s.v)::E) (s.cv st) rest):FS r ds0 P w0 X0 N Q ops n g E0 st0 plan k0 E st (⟨some d0,op,ty,pos,b6,gd⟩::rest):=
  Ef s (fun h=>by cases h) (fun hk hE=>⟨(fun h=>by cases h),hO hk hE⟩) hd h
theorem dq {k0:Nat} (hB:rZ .any ops n g plan E0 st0 N=true) (h:At w0 X0 N E st (Pw ds0 (wpListIn (rF r) 0 P ops Q (ops.toList.drop n)))):FS r ds0 P w0 X0 N Q ops n g E0 st0 plan k0 E st []:=fun _ hE hs=>
  ⟨[],trivial,by rw [List.append_nil];exact hB,by rw [List.append_nil, ←hE, ←hs];exact h⟩
theorem dh {id:Nat} {l:List Oper} (E0:EV) (n g:Nat) (hm:P.follows .mixedOrders=true) (hE:jQ E E0.e) (h:FS r ds0 P w0 X0 N Q l.toArray n g E0 st0 [] 0 E0.e st0 (l.take n)):At w0 X0 N E st0 (Pw ds0 ((Code.region id l.toArray true).wpIn (rF r) 0 P Q)):=by
  obtain⟨q,h1,h2,h3⟩:=h rfl rfl rfl
  exact IT q E0 n g hm hE h2 h1 (by simpa using h3)
variable {d:Nat} {op:Op} {ty:TypeId} {pos:String} {b6:Array Edge} {v:A}
theorem bK (k0:Nat) (deps:List Nat) (need:List (Nat×Option Nat)) (hy:YO P (ek (E0.at k0) deps k0 E) (iL plan st0 need) op ty v) (hb:Nat.ble (d+1) N=true) (hd:g8 k0 deps need=true)
    (h:FS r ds0 P w0 X0 N Q ops n g E0 st0 (plan++ [⟨d,v,deps, [], [],need, []⟩]) (k0+1) ((d,v)::E) st rest):FS r ds0 P w0 X0 N Q ops n g E0 st0 plan k0 E st (⟨some d,op,ty,pos,b6,none⟩::rest):=
  kf ⟨d,v,deps, [], [],need, []⟩ (fun hk hE _ _ _ hD hs _ hK=>have he:=hD.fin hE hk;FQ rfl (sZ (BQ he hs hy) hb hK)) hd h
theorem bP {j t:Nat} {b:Bool} (k0:Nat) (deps:List Nat) (need:List (Nat×Option Nat)) (hj:fy ops j=some t) (hbv:(ek (E0.at k0) deps k0 E).cF t=some (.b b)) (hy:YO P (ek (E0.at k0) deps k0 E) (iL plan st0 need) op ty v) (hb:Nat.ble (d+1) N=true) (hd:g8 k0 deps need=true)
    (h:FS r ds0 P w0 X0 N Q ops n g E0 st0 (plan++ [⟨d,v,deps, [], [],need, []⟩]) (k0+1) ((d,v)::E) st rest):FS r ds0 P w0 X0 N Q ops n g E0 st0 plan k0 E st (⟨some d,op,ty,pos,b6,some (j,b)⟩::rest):=
  kf ⟨d,v,deps, [], [],need, []⟩ (fun hk hE _ _ _ hD hs _ hK=>have he:=hD.fin hE hk;FP rfl hj (he _ _ hbv) (sZ (BQ he hs hy) hb hK)) hd h
theorem bT {j t:Nat} {b b':Bool} (k0:Nat) (deps:List Nat) (hj:fy ops j=some t) (hbv:(ek (E0.at k0) deps k0 E).cF t=some (.b b')) (hn:b'= !b) (hb:Nat.ble (d+1) N=true) (hd:g8 k0 deps []=true)
    (h:FS r ds0 P w0 X0 N Q ops n g E0 st0 (plan++ [⟨d,un,deps, [], [], [], []⟩]) (k0+1) ((d,un)::E) st rest):FS r ds0 P w0 X0 N Q ops n g E0 st0 plan k0 E st (⟨some d,op,ty,pos,b6,some (j,b)⟩::rest):=
  kf ⟨d,un,deps, [], [], [], []⟩ (fun hk hE _ _ _ hD _ _ hK=>have he:=hD.fin hE hk;M1 hj (he _ _ hbv) hn hb hK) hd h
def iV (ops:Array Oper) (F:Ev) (g:Option (Nat×Bool)):Prop:=g=none∨∃j t b,g=some (j,b)∧fy ops j=some t∧F.cF t=some (.b b)
theorem cz {F:Ev}:iV ops F none:= .inl rfl
theorem oJ {F:Ev} {j t:Nat} {b:Bool} (hj:fy ops j=some t) (hb:F.cF t=some (.b b)):iV ops F (some (j,b)):= .inr ⟨j,t,b,rfl,hj,hb⟩
theorem lK {o:Oper} {F E1:Ev} {jG:St} {K:Act→World→Prop} (hg:iV ops F o.guard) (he:jQ E1 F) (h:At w0 X0 N E1 jG (fun a w=>o.wp P a w K Q)):At w0 X0 N E1 jG (lW P ops Q o K):=by
  rcases hg with hg|⟨j,t,b,h1,h2,h3⟩
  · exact FQ hg h
  · exact FP h1 h2 (he _ _ h3) h
variable {gd:Option (Nat×Bool)}
theorem Ed {t:TypeId} {size by' zero agg} (id:Nat) (k0:Nat) (deps:List Nat) (hg:iV ops (ek (E0.at k0) deps k0 E) gd) (ht:TI P t size by' zero agg) (h1:zero.all (·.oneCell')=true) (hb:Nat.ble (d+1) N=true) (hd:g8 k0 deps []=true)
    (h:FS r ds0 P w0 X0 N Q ops n g E0 st0 (plan++ [⟨d,.p id 0,deps, [], [(id,zero.map cn)], [], []⟩]) (k0+1) ((d,.p id 0)::E) (st.put id (zero.map cn)) rest):FS r ds0 P w0 X0 N Q ops n g E0 st0 plan k0 E st (⟨some d,.alloc t,ty,pos,b6,gd⟩::rest):=
  kf ⟨d,.p id 0,deps, [], [(id,zero.map cn)], [], []⟩ (fun hk hE _ _ _ hD _ hf hK=>have he:=hD.fin hE hk;lK hg he (cI id (hf _ (.head _) rfl) ht h1 hb hK)) hd h
theorem Lc {t e:TypeId} {by':Nat} {z:Value} {agg} {x y:Operand} {k k':IntKind} {iv jv:Int} (id:Nat) (k0:Nat) (deps:List Nat) (l c:Nat) (hg:iV ops (ek (E0.at k0) deps k0 E) gd) (ht:P.underlying t=some (.slice e)) (he:TI P e 1 by' [z] agg) (hz:z.oneCell'=true)
    (hx:ev (ek (E0.at k0) deps k0 E) x=some (.i k iv)) (hy:ev (ek (E0.at k0) deps k0 E) y=some (.i k' jv)) (hl:iv=(l:Int)) (hc:jv=(c:Int)) (hlc:l≤c) (hby:by'*c≤281474976710656) (hc63:c≤9223372036854775807) (hb:Nat.ble (d+1) N=true) (hd:g8 k0 deps []=true)
    (h:FS r ds0 P w0 X0 N Q ops n g E0 st0 (plan++ [⟨d,.sl id 1 0 l,deps, [], [(id,List.replicate l (cn z))], [], []⟩]) (k0+1) ((d,.sl id 1 0 l)::E) (st.put id (List.replicate l (cn z))) rest):FS r ds0 P w0 X0 N Q ops n g E0 st0 plan k0 E st (⟨some d,.makeSlice t x y,ty,pos,b6,gd⟩::rest):=
  kf ⟨d,.sl id 1 0 l,deps, [], [(id,List.replicate l (cn z))], [], []⟩ (fun hk hE _ _ _ hD _ hf hK=>have he':=hD.fin hE hk;lK hg he' (rS id (hf _ (.head _) rfl) l c ht he hz (lF he' hx) (lF he' hy) hl hc hlc hby hc63 hb hK)) hd h
theorem jl {t e:TypeId} {size by' zero agg} {len:Nat} {parts:List (Nat×Operand)} {vs cs:List A} (id:Nat) (k0:Nat) (deps:List Nat) (hg:iV ops (ek (E0.at k0) deps k0 E) gd) (ht:P.underlying t=some (.slice e)) (he:TI P e size by' zero agg)
    (hp:iM (ek (E0.at k0) deps k0 E) parts 0=some vs) (hlen:len=vs.length) (hce:vs.all lz=true) (hcl:∀v∈vs,(cw v).length=size) (hfl:jD vs=cs) (hs:Nat.ble (len*size) 16777216=true) (hs2:Nat.ble len 16777216=true) (hb:Nat.ble (d+1) N=true) (hd:g8 k0 deps []=true)
    (h:FS r ds0 P w0 X0 N Q ops n g E0 st0 (plan++ [⟨d,.sl id size 0 len,deps, [], [(id,cs)], [], []⟩]) (k0+1) ((d,.sl id size 0 len)::E) (st.put id cs) rest):FS r ds0 P w0 X0 N Q ops n g E0 st0 plan k0 E st (⟨some d,.buildSlice t len parts.toArray,ty,pos,b6,gd⟩::rest):=
  kf ⟨d,.sl id size 0 len,deps, [], [(id,cs)], [], []⟩ (fun hk hE _ _ _ hD _ hf hK=>have he':=hD.fin hE hk;lK hg he' (gC id (hf _ (.head _) rfl) ht he (AH he' hp) hlen hce hcl hfl hs hs2 hb hK)) hd h
theorem rE {t e:TypeId} {by' zero agg} {len:Nat} {parts:List (Nat×Operand)} {vs:List A} (id:Nat) (k0:Nat) (deps:List Nat) (hg:iV ops (ek (E0.at k0) deps k0 E) gd) (ht:P.underlying t=some (.slice e)) (he:TI P e 1 by' zero agg)
    (hp:iM (ek (E0.at k0) deps k0 E) parts 0=some vs) (hlen:len=vs.length) (h1:vs.all one=true) (hs2:Nat.ble len 16777216=true) (hb:Nat.ble (d+1) N=true) (hd:g8 k0 deps []=true)
    (h:FS r ds0 P w0 X0 N Q ops n g E0 st0 (plan++ [⟨d,.sl id 1 0 len,deps, [], [(id,vs)], [], []⟩]) (k0+1) ((d,.sl id 1 0 len)::E) (st.put id vs) rest):FS r ds0 P w0 X0 N Q ops n g E0 st0 plan k0 E st (⟨some d,.buildSlice t len parts.toArray,ty,pos,b6,gd⟩::rest):=
  jl id k0 deps hg ht he hp hlen (BX h1) (pY h1) (oF h1) (by rw [Nat.mul_one];exact hs2) hs2 hb hd h
inductive sG (st:St) (size:Nat):A→Nat→List A→List Nat→Prop where
  |nl:sG st size .nl 0 [] []
  |sl {id m:Nat} {cs:List A} (hg:st.get id=some cs) (hl:cs.length=m*size):sG st size (.sl id size 0 m) m cs [id]
def zn:List Nat→St→St
  | [],st=>st
  |i::r,st=>(zn r st).del i
theorem sG.base {jG stN:St} {size m:Nat} {vx:A} {cs:List A} {dels:List Nat} (h:sG stN size vx m cs dels) (hs:nh jG stN):uO jG size vx m cs (zn dels jG):=by
  cases h with
  |nl=>exact .nl
  |sl hg hl=>exact .sl (hs _ _ hg) hl
theorem gp {t e:TypeId} {size by' zero agg} {x y:Operand} {vx vy:A} {m k:Nat} {cs news cs':List A} {dels:List Nat} (nx:Nat) (k0:Nat) (deps:List Nat) (need:List (Nat×Option Nat)) (hg:iV ops (ek (E0.at k0) deps k0 E) gd) (ht:P.underlying t=some (.slice e)) (he:TI P e size by' zero agg)
    (hx:ev (ek (E0.at k0) deps k0 E) x=some vx) (hB:sG (iL plan st0 need) size vx m cs dels) (hy:ev (ek (E0.at k0) deps k0 E) y=some vy) (hn:SM (iL plan st0 need) vy=some (k,news)) (hnl:news.length=k*size) (hb63:m+k≤maxLen) (hby:(m+k)*by'≤140737488355328) (hzl:zero.length=size) (hcs:cs++news=cs') (hb:Nat.ble (d+1) N=true) (hd:g8 k0 deps need=true)
    (h:FS r ds0 P w0 X0 N Q ops n g E0 st0 (plan++ [⟨d,.sl nx size 0 (m+k),deps,dels, [(nx,cs')],need, []⟩]) (k0+1) ((d,.sl nx size 0 (m+k))::E) ((zn dels st).put nx cs') rest):
    FS r ds0 P w0 X0 N Q ops n g E0 st0 plan k0 E st (⟨some d,.call {callee:= .builtin .append,args:= #[x,y],argTypes:= #[t,t]},ty,pos,b6,gd⟩::rest):=
  kf ⟨d,.sl nx size 0 (m+k),deps,dels, [(nx,cs')],need, []⟩ (fun hk hE _ _ _ hD hs hf hK=>have he':=hD.fin hE hk;lK hg he' (dR nx (hf _ (.head _) rfl) ht he (lF he' hx) (hB.base hs) (lF he' hy) (Ii hs hn) hnl hb63 hby hzl hcs hb (by cases hB<;>exact hK))) hd (by cases hB<;>exact h)
theorem Lb {f:FuncId} {x:Operand} {xs:List Operand} {fs cs vs vs':List A} {ats:Array TypeId} {ret:A} (ow:Bool) (k0:Nat) (deps:List Nat) (need:List (Nat×Option Nat)) (hg:iV ops (ek (E0.at k0) deps k0 E) gd) (hx:ev (ek (E0.at k0) deps k0 E) x=some (.fn (.func f) fs cs)) (hxs:fx (ek (E0.at k0) deps k0 E) xs=some vs) (hv:cK (iL plan st0 need) ⟨[]⟩ ow (fs++vs++cs) vs')
    (hc:bU P f vs' (cl ret)) (hp:Pure ret) (hf:ow=false∨Flat ret) (hb:Nat.ble (d+1) N=true) (hd:g8 k0 deps need=true) (h:FS r ds0 P w0 X0 N Q ops n g E0 st0 (plan++ [⟨d,ret,deps, [], [],need, []⟩]) (k0+1) ((d,ret)::E) st rest):
    FS r ds0 P w0 X0 N Q ops n g E0 st0 plan k0 E st (⟨some d,.call {callee:= .value x,args:=xs.toArray,argTypes:=ats},ty,pos,b6,gd⟩::rest):=
  kf ⟨d,ret,deps, [], [],need, []⟩ (fun hk hE _ _ _ hD hs _ hK=>have he':=hD.fin hE hk;lK hg he' (p7 ow (lF he' hx) (rA he' hxs) (pH hs hv) hc hp hf hb hK)) hd h
theorem c7 {f:FuncId} {xs:List Operand} {vs vs':List A} {ats:Array TypeId} {ret:A} (ow:Bool) (k0:Nat) (deps:List Nat) (need:List (Nat×Option Nat)) (hg:iV ops (ek (E0.at k0) deps k0 E) gd) (hxs:fx (ek (E0.at k0) deps k0 E) xs=some vs) (hv:cK (iL plan st0 need) ⟨[]⟩ ow vs vs')
    (hc:bU P f vs' (cl ret)) (hp:Pure ret) (hf:ow=false∨Flat ret) (hb:Nat.ble (d+1) N=true) (hd:g8 k0 deps need=true) (h:FS r ds0 P w0 X0 N Q ops n g E0 st0 (plan++ [⟨d,ret,deps, [], [],need, []⟩]) (k0+1) ((d,ret)::E) st rest):
    FS r ds0 P w0 X0 N Q ops n g E0 st0 plan k0 E st (⟨some d,.call {callee:= .value (.func f),args:=xs.toArray,argTypes:=ats},ty,pos,b6,gd⟩::rest):=
  Lb (fs:= []) (cs:= []) ow k0 deps need hg rfl hxs aU hc hp hf hb hd h
theorem nT {f:FuncId} {xs:List Operand} {vs vs' ds:List A} {s m:Nat} {ats:Array TypeId} (nx:Nat) (ow:Bool) (k0:Nat) (deps:List Nat) (need:List (Nat×Option Nat)) (hg:iV ops (ek (E0.at k0) deps k0 E) gd) (hxs:fx (ek (E0.at k0) deps k0 E) xs=some vs) (hv:cK (iL plan st0 need) ⟨[]⟩ ow vs vs')
    (hc:bU P f vs' (fk s m ds)) (hp:dF ds) (hf:ow=false∨fL ds) (hb:Nat.ble (d+1) N=true) (hd:g8 k0 deps need=true) (h:FS r ds0 P w0 X0 N Q ops n g E0 st0 (plan++ [⟨d,.sl nx s 0 m,deps, [], [(nx,ds)],need, []⟩]) (k0+1) ((d,.sl nx s 0 m)::E) (st.put nx ds) rest):
    FS r ds0 P w0 X0 N Q ops n g E0 st0 plan k0 E st (⟨some d,.call {callee:= .value (.func f),args:=xs.toArray,argTypes:=ats},ty,pos,b6,gd⟩::rest):=
  kf ⟨d,.sl nx s 0 m,deps, [], [(nx,ds)],need, []⟩ (fun hk hE _ _ _ hD hs hfr hK=>have he':=hD.fin hE hk;lK hg he' (kx nx (hfr _ (.head _) rfl) ow (rA he' hxs) (pH hs hv) hc hp hf hb hK)) hd h
theorem rH {t:TypeId} {size by':Nat} {zero:List Value} {agg:Bool} {x y:Operand} {id o:Nat} {cs cs' ds:List A} {v dv:A} (dm:Nat) (k0:Nat) (deps:List Nat) (need:List (Nat×Option Nat)) (hdm:(cut (E0.at k0) E0.e).cF dm=some dv) (hg:iV ops (ek (E0.at k0) deps k0 E) gd) (ht:TI P t size by' zero agg) (hx:ev (ek (E0.at k0) deps k0 E) x=some (.p id o)) (hy:ev (ek (E0.at k0) deps k0 E) y=some v) (hgt:(iL plan st0 need).get id=some cs) (hc:cw v=ds)
    (h1:lz v=true) (hl:ds.length=size) (hfit:o+size≤cs.length) (hcs:cs.take o++ds++cs.drop (o+size)=cs') (hd:g8 k0 deps need=true)
    (h:FS r ds0 P w0 X0 N Q ops n g E0 st0 (plan++ [⟨dm,dv,deps, [], [(id,cs')],need, [id]⟩]) (k0+1) ((dm,dv)::E) (st.put id cs') rest):FS r ds0 P w0 X0 N Q ops n g E0 st0 plan k0 E st (⟨none,.store t x y,ty,pos,b6,gd⟩::rest):=
  Ef ⟨dm,dv,deps, [], [(id,cs')],need, [id]⟩ (fun _=>(zm hdm).1) (fun hk hE=>⟨(fun _=>(zm hdm).1),fun _ _ _ hD hs _ hK=>have he:=hD.fin hE hk;lK hg he (ky ht (lF he hx) (lF he hy) (hs _ _ hgt) hc h1 hl hfit hcs (lu dm (hD.2 _ _ hdm) rfl hK))⟩) hd h
theorem Le {t:TypeId} {size by':Nat} {zero:List Value} {agg:Bool} {x y:Operand} {id:Nat} {cs ds:List A} {dv:A} (dm:Nat) (k0:Nat) (deps:List Nat) (need:List (Nat×Option Nat)) (hdm:(cut (E0.at k0) E0.e).cF dm=some dv) (hg:iV ops (ek (E0.at k0) deps k0 E) gd) (ht:TI P t size by' zero agg) (hx:ev (ek (E0.at k0) deps k0 E) x=some (.p id 0)) (hy:ev (ek (E0.at k0) deps k0 E) y=some (.ag ds)) (hgt:(iL plan st0 need).get id=some cs)
    (hl:ds.length=size) (hc:cs.length=size) (hd:g8 k0 deps need=true)
    (h:FS r ds0 P w0 X0 N Q ops n g E0 st0 (plan++ [⟨dm,dv,deps, [], [(id,ds)],need, [id]⟩]) (k0+1) ((dm,dv)::E) (st.put id ds) rest):FS r ds0 P w0 X0 N Q ops n g E0 st0 plan k0 E st (⟨none,.store t x y,ty,pos,b6,gd⟩::rest):=
  rH (ds:=ds) dm k0 deps need hdm hg ht hx hy hgt rfl rfl hl aq (by rw [List.take_zero,List.nil_append,Nat.zero_add,List.drop_of_length_le aq,List.append_nil]) hd h
theorem Ld {t:TypeId} {by':Nat} {zero:List Value} {agg:Bool} {x y:Operand} {id o:Nat} {cs cs':List A} {v dv:A} (dm:Nat) (k0:Nat) (deps:List Nat) (need:List (Nat×Option Nat)) (hdm:(cut (E0.at k0) E0.e).cF dm=some dv) (hg:iV ops (ek (E0.at k0) deps k0 E) gd) (ht:TI P t 1 by' zero agg) (hx:ev (ek (E0.at k0) deps k0 E) x=some (.p id o)) (hy:ev (ek (E0.at k0) deps k0 E) y=some v) (hgt:(iL plan st0 need).get id=some cs)
    (h1:one v=true) (hfit:o<cs.length) (hcs:cs.set o v=cs') (hd:g8 k0 deps need=true)
    (h:FS r ds0 P w0 X0 N Q ops n g E0 st0 (plan++ [⟨dm,dv,deps, [], [(id,cs')],need, [id]⟩]) (k0+1) ((dm,dv)::E) (st.put id cs') rest):FS r ds0 P w0 X0 N Q ops n g E0 st0 plan k0 E st (⟨none,.store t x y,ty,pos,b6,gd⟩::rest):=
  rH dm k0 deps need hdm hg ht hx hy hgt (vq h1) (yZ h1) rfl hfit (by rw [←hcs,List.set_eq_take_append_cons_drop,if_pos hfit,List.append_assoc];rfl) hd h
end seq
end
end Go.Abs
-- AbsH
namespace Go.Abs
open Go Go.Eng
class IsPure (v:A):Prop where out:Pure v
class fX (l:List A):Prop where out:dF l
class kE (v:A):Prop where out:Flat v
class jw (l:List A):Prop where out:fL l
theorem pu {v:A} [h:IsPure v]:Pure v:=h.out
theorem bO {l:List A} [h:fX l]:dF l:=h.out
theorem fu {v:A} [h:kE v]:Flat v:=h.out
theorem iX {l:List A} [h:jw l]:fL l:=h.out
instance {x}:IsPure (.b x):=⟨trivial⟩
instance {k n}:IsPure (.i k n):=⟨trivial⟩
instance {l}:IsPure (.s l):=⟨trivial⟩
instance:IsPure .nl:=⟨trivial⟩
instance {n cs}:IsPure (.fz n cs):=⟨trivial⟩
instance {cs}:IsPure (.fp cs):=⟨trivial⟩
instance {v}:IsPure (.raw v):=⟨trivial⟩
instance {cs} [h:fX cs]:IsPure (.ag cs):=⟨by simp only [Pure];exact h.out⟩
instance {cs} [h:fX cs]:IsPure (.tu cs):=⟨by simp only [Pure];exact h.out⟩
instance {t v} [h:IsPure v]:IsPure (.ic t v):=⟨by simp only [Pure];exact h.out⟩
instance {f a c} [h:fX a] [h':fX c]:IsPure (.fn f a c):=⟨by simp only [Pure];exact⟨h.out,h'.out⟩⟩
instance {v}:IsPure (cn v):=⟨by unfold cn;split<;>trivial⟩
instance {v}:kE (cn v):=⟨by unfold cn;split<;>trivial⟩
instance:fX []:=⟨trivial⟩
instance {v l} [h:IsPure v] [h':fX l]:fX (v::l):=⟨⟨h.out,h'.out⟩⟩
instance {l m} [h:fX l] [h':fX m]:fX (l++m):=⟨ym h.out h'.out⟩
instance {α:Type} {f:α→A} {l:List α} [h:∀x,IsPure (f x)]:fX (l.map f):=⟨BE f (fun x=>(h x).out) l⟩
instance {α:Type} {f:α→List A} {l:List α} [h:∀x,fX (f x)]:fX (l.flatMap f):=⟨yn f (fun x=>(h x).out) l⟩
theorem pE:∀ {l:List A},dF l↔∀c∈l,Pure c
  | []=>⟨fun _ c h=>(by cases h),fun _=>trivial⟩
  |c::l=>⟨fun h d hd=>by rcases List.mem_cons.1 hd with rfl|hd;exact h.1;exact pE.1 h.2 d hd,fun h=>⟨h c (.head _),pE.2 fun d hd=>h d (.tail _ hd)⟩⟩
theorem py:∀ {l:List A},fL l↔∀c∈l,Flat c
  | []=>⟨fun _ c h=>(by cases h),fun _=>trivial⟩
  |c::l=>⟨fun h d hd=>by rcases List.mem_cons.1 hd with rfl|hd;exact h.1;exact py.1 h.2 d hd,fun h=>⟨h c (.head _),py.2 fun d hd=>h d (.tail _ hd)⟩⟩
instance {l k} [h:fX l]:fX (List.take k l):=⟨pE.2 fun c hc=>pE.1 h.out c (List.mem_of_mem_take hc)⟩
instance {l k} [h:fX l]:fX (List.drop k l):=⟨pE.2 fun c hc=>pE.1 h.out c (List.mem_of_mem_drop hc)⟩
instance {v k} [h:IsPure v]:fX (List.replicate k v):=⟨pE.2 fun c hc=>by rw [List.eq_of_mem_replicate hc];exact h.out⟩
instance {x}:kE (.b x):=⟨trivial⟩
instance {k n}:kE (.i k n):=⟨trivial⟩
instance {l}:kE (.s l):=⟨trivial⟩
instance:kE .nl:=⟨trivial⟩
instance {v}:kE (.raw v):=⟨trivial⟩
instance {cs} [h:jw cs]:kE (.ag cs):=⟨by simp only [Flat];exact h.out⟩
instance {cs} [h:jw cs]:kE (.tu cs):=⟨by simp only [Flat];exact h.out⟩
instance {t v} [h:kE v]:kE (.ic t v):=⟨by simp only [Flat];exact h.out⟩
instance:jw []:=⟨trivial⟩
instance {v l} [h:kE v] [h':jw l]:jw (v::l):=⟨⟨h.out,h'.out⟩⟩
instance {l m} [h:jw l] [h':jw m]:jw (l++m):=⟨yh h.out h'.out⟩
instance {α:Type} {f:α→A} {l:List α} [h:∀x,kE (f x)]:jw (l.map f):=⟨BA f (fun x=>(h x).out) l⟩
instance {α:Type} {f:α→List A} {l:List α} [h:∀x,jw (f x)]:jw (l.flatMap f):=⟨Bz f (fun x=>(h x).out) l⟩
instance {l k} [h:jw l]:jw (List.take k l):=⟨py.2 fun c hc=>py.1 h.out c (List.mem_of_mem_take hc)⟩
instance {l k} [h:jw l]:jw (List.drop k l):=⟨py.2 fun c hc=>py.1 h.out c (List.mem_of_mem_drop hc)⟩
@[simp] theorem Q6 (k:IntKind) (n:Int):cn (.int k n)= .i k n:=rfl
@[simp] theorem Q5 (b:Bool):cn (.bool b)= .b b:=rfl
theorem le_refl {E F:Ev} (h:E=F):jQ E F:=fun _ _ g=>by rw [h];exact g
theorem HM {cs:List A} {k:Nat} (h:cs.length=k):(cs.drop 0).take k=cs:=by rw [List.drop_zero];exact List.take_of_length_le aq
theorem dD {cs ds:List A} {k:Nat} (h:cs.length=k) (he:cs=ds):(cs.drop 0).take k=ds:=(HM h).trans he
theorem Ren.of {ρ:gy} {v v' x:A} (h:v=v') (hr:Ren ρ v' x):Ren ρ v x:=h ▸ hr
theorem iw.of {ρ:gy} {v v' x:List A} (h:v=v') (hr:iw ρ v' x):iw ρ v x:=h ▸ hr
section
variable {P:Program} {w0:Bw} {X0:Xs} {n:Nat} {E:Ev} {st:St} {K:Act→World→Prop}
theorem dP (id:Nat) {cs cs':List A} (hg:st.get id=some cs) (h1:cs=cs') (h:At w0 X0 n E (st.put id cs') K):At w0 X0 n E st K:=by
  subst h1
  refine fun a w hr=>h a w (hr.weaken (fun _ _ h=>h) (fun k c hk=>?_) (fun k hk=>?_))
  · rw [St.ef] at hk
    split at hk
    · rename_i e;subst e;rw [hg];exact hk
    · exact hk
  · rw [St.gF] at hk
    split at hk
    · cases hk
    · exact hk
theorem sq {e:TypeId} {k:IntKind} {w:World} (he:P.underlying e=some (.int k)) {l:List Value} {i:Nat} {v:Value} (h:l[i]? =some v):(part e l.toArray i).run P w= .ok v w:=by
  unfold part
  have hag:(isAgg e).run P w= .ok false w:=by unfold Go.isAgg;rw [Sem.run_bind,run_underlying he];rfl
  rw [Sem.run_bind,hag]
  simp [h]
theorem O8 {t e : TypeId} {len : Nat} {k : IntKind} {by' : Nat} {zero : List Value} {agg : Bool} (ht : P.underlying t = some (.array len e)) (he : P.underlying e = some (.int k)) (hs : TI P e 1 by' zero agg) (w : World) (d : Nat) : ∀ (xs ys : List Int), xs.length = len → ys.length = len →
    (Op.equalIn (d+2) t (.agg (xs.map (Value.int k)).toArray) (.agg (ys.map (Value.int k)).toArray)).run P w= .ok (xs==ys) w:=by
  intro xs ys hx hy
  unfold Op.equalIn
  simp only [Sem.run_bind,run_underlying ht,Result.andThen_ok,hs.sizeOf w]
  simp only [Std.Legacy.Range.forIn_eq_forIn_range',Std.Legacy.Range.size,Nat.sub_zero,Nat.add_sub_cancel,Nat.div_one,Nat.mul_one]
  have key:∀(m s:Nat),s+m=len→(forIn (m:=Sem) (List.range' s m) ((none,()):Option Bool×Unit) fun i _=>do
      let a ←part e (xs.map (Value.int k)).toArray i
      let b ←part e (ys.map (Value.int k)).toArray i
      let r ←Op.equalIn (d+1) e a b
      if(!r)=true then pure (ForInStep.done (some false,()))else pure (ForInStep.yield (none,()))).run P w= .ok (if xs.drop s==ys.drop s then (none,())else(some false,())) w:=by
    intro m
    induction m with
    | zero =>
      intro s hs'
      have h1:xs.drop s= []:=List.drop_eq_nil_of_le aq
      have h2:ys.drop s= []:=List.drop_eq_nil_of_le aq
      simp [h1,h2]
    | succ m ih =>
      intro s hs'
      obtain⟨x,hxs⟩:∃x,xs[s]? =some x:=⟨xs[s]' aq,by simp [show s<xs.length by omega]⟩
      obtain⟨y,hys⟩:∃y,ys[s]? =some y:=⟨ys[s]' aq,by simp [show s<ys.length by omega]⟩
      have p1:=sq (P:=P) (w:=w) he (l:=xs.map (Value.int k)) (i:=s) (v:= .int k x) (by simp [hxs])
      have p2:=sq (P:=P) (w:=w) he (l:=ys.map (Value.int k)) (i:=s) (v:= .int k y) (by simp [hys])
      have p3:=run_equalIn_int (P:=P) w d e k k x y he
      rw [List.range'_succ]
      simp only [List.forIn_cons,Sem.run_bind]
      rw [p1]
      simp only [Result.andThen_ok]
      rw [p2]
      simp only [Result.andThen_ok]
      rw [p3]
      simp only [Result.andThen_ok]
      have dx:xs.drop s=x::xs.drop (s+1):=by
        rw [List.drop_eq_getElem_cons aq]
        congr 1
        have:=(List.getElem?_eq_some_iff.1 hxs).2;exact this
      have dy:ys.drop s=y::ys.drop (s+1):=by
        rw [List.drop_eq_getElem_cons aq]
        congr 1
        have:=(List.getElem?_eq_some_iff.1 hys).2;exact this
      rw [dx,dy]
      cases hxy:(x==y)with
      |false=>simp [hxy]
      | true =>
        have hih:=ih (s+1) aq
        simp only [Bool.not_true,Bool.false_eq_true,if_false,Sem.run_pure,Result.andThen_ok]
        rw [hih]
        simp only [List.cons_beq_cons,hxy,Bool.true_and]
  have:=key len 0 aq
  simp only [List.drop_zero]at this
  rw [this]
  cases h:(xs==ys)<;>simp
theorem yt {X:Xs} {w:World} {β:Bm} {k:IntKind}:∀ {l:List Int} {us:List Value},VS X w β (l.map (A.i k)) us→us=l.map (Value.int k)
  | [],us,h=>by simpa [VS]using h
  | x :: l, us, h => by
    simp only [List.map_cons,VS]at h
    obtain⟨u,r,rfl,h1,h2⟩:=h
    rw [iE]at h1
    rw [h1,yt h2];rfl
theorem H2 {op:BinOp} (hop:op= .eql∨op= .neq) {t t' e ty:TypeId} {x y:Operand} {len:Nat} {k:IntKind} {by':Nat} {zero:List Value} {agg:Bool} {xs ys:List Int} (ht:P.underlying t=some (.array len e)) (he:P.underlying e=some (.int k)) (hs:TI P e 1 by' zero agg) (hm:P.eqGuardType P.depth t=false) (hx:ev E x=some (.ag (xs.map (.i k)))) (hy:ev E y=some (.ag (ys.map (.i k)))) (hlx:xs.length=len) (hly:ys.length=len):
    YO P E st (.binOp op t x y t') ty (.b (if op= .eql then xs==ys else !(xs==ys))):=by
  intro w0 X0 n β X a w hr
  obtain⟨_,h2⟩:=hr.c9 hx
  obtain⟨_,h4⟩:=hr.c9 hy
  simp only [V]at h2 h4
  obtain⟨us,e1,e2,_⟩:=h2
  obtain⟨vs,e3,e4,_⟩:=h4
  have e5:=yt e2
  have e6:=yt e4
  subst e5;subst e6
  refine⟨.bool (if op= .eql then xs==ys else !(xs==ys)),by simp only [V],fun d pos b6 g w' _=>?_⟩
  have hr':=O8 (P:=P) ht he hs w' 9998 xs ys hlx hly
  simp only [execOp,e1,e3]
  rw [Sem.run_bind,Sem.run_bind,run_eqGuard_agg (P:=P) w' op t x y _ _ hm]
  simp only [Result.andThen_ok]
  rcases hop with rfl|rfl
  · rw [run_eql_struct,hr'];rfl
  · rw [run_neq_struct,hr'];rfl
theorem wH (l:List UInt8):l.map u8=(l.map fun x:UInt8=>(x.toNat:Int)).map (A.i .u8):=by simp [List.map_map,Function.comp_def]
theorem Ci (l m:List UInt8):((l.map fun x:UInt8=>(x.toNat:Int))==(m.map fun x:UInt8=>(x.toNat:Int)))=(l==m):=by
  rw [Bool.eq_iff_iff]
  simp only [beq_iff_eq]
  refine⟨fun h=>?_,fun h=>by rw [h]⟩
  refine List.map_inj_right (f:=fun x:UInt8=>(x.toNat:Int)) (fun x y hxy=>?_) |>.1 h
  exact UInt8.toNat_inj.1 (Int.ofNat_inj.1 hxy)
theorem oo {t t' e ty:TypeId} {x y:Operand} {len:Nat} {by':Nat} {zero:List Value} {agg:Bool} {l m:List UInt8} (ht:P.underlying t=some (.array len e)) (he:P.underlying e=some (.int .u8)) (hs:TI P e 1 by' zero agg) (hm:P.eqGuardType P.depth t=false) (hx:ev E x=some (.ag (l.map u8))) (hy:ev E y=some (.ag (m.map u8))) (hl:l.length=len) (hlm:m.length=len):
    YO P E st (.binOp .eql t x y t') ty (.b (l==m)):=
  (H2 (.inl rfl) ht he hs hm (by rw [←wH];exact hx) (by rw [←wH];exact hy) (by simpa using hl) (by simpa using hlm)).v (by rw [if_pos rfl,Ci])
theorem nu {t t' e ty:TypeId} {x y:Operand} {len:Nat} {by':Nat} {zero:List Value} {agg:Bool} {l m:List UInt8} (ht:P.underlying t=some (.array len e)) (he:P.underlying e=some (.int .u8)) (hs:TI P e 1 by' zero agg) (hm:P.eqGuardType P.depth t=false) (hx:ev E x=some (.ag (l.map u8))) (hy:ev E y=some (.ag (m.map u8))) (hl:l.length=len) (hlm:m.length=len):
    YO P E st (.binOp .neq t x y t') ty (.b (!(l==m))):=
  (H2 (.inr rfl) ht he hs hm (by rw [←wH];exact hx) (by rw [←wH];exact hy) (by simpa using hl) (by simpa using hlm)).v (by rw [if_neg az,Ci])
end
end Go.Abs
-- AbsI
namespace Go.Abs
open Go Go.Eng
abbrev ct (x:BitVec 32):A:= .i .u32 (x.toNat:Int)
abbrev nG (n:Nat):BitVec 32:=BitVec.ofNat 32 n
theorem uK (a:Nat):IntKind.u32.wrap (a:Int)=((a % 2 ^ 32:Nat):Int):=by
  simp only [IntKind.wrap,IntKind.bits,IntKind.signed]
  simp
theorem xZ (x:BitVec 32):IntKind.u32.wrap (x.toNat:Int)=(x.toNat:Int):=by
  rw [uK,Nat.mod_eq_of_lt x.isLt]
theorem oP (x:BitVec 32):BitVec.ofInt 32 (x.toNat:Int)=x:=by
  apply BitVec.eq_of_toNat_eq;simp
section
variable {P:Program} {E:Ev} {st:St} {t t' ty:TypeId} {x y:Operand}
theorem fY (p q:BitVec 32) (hx:ev E x=some (ct p)) (hy:ev E y=some (ct q)):YO P E st (.binOp .add t x y t') ty (ct (p+q)):=
  (bE (v:= .i .u32 (IntKind.u32.wrap ((p.toNat:Int)+(q.toNat:Int)))) (by simp only [mX,hx,hy];rfl)).v (by rw [←Int.natCast_add,uK, ←BitVec.toNat_add])
theorem iD (p q:BitVec 32) (hx:ev E x=some (ct p)) (hy:ev E y=some (ct q)):YO P E st (.binOp .xor t x y t') ty (ct (p ^^^ q)):=
  (mB hx hy (.inr (.inr (.inl rfl)))).v (by
    show A.i .u32 (IntKind.u32.wrap (((BitVec.ofInt 32 (p.toNat:Int) ^^^ BitVec.ofInt 32 (q.toNat:Int)).toNat:Nat):Int))=_
    rw [oP,oP,xZ])
theorem mJ (p q:BitVec 32) (hx:ev E x=some (ct p)) (hy:ev E y=some (ct q)):YO P E st (.binOp .and t x y t') ty (ct (p&&& q)):=
  (mB hx hy (.inl rfl)).v (by
    show A.i .u32 (IntKind.u32.wrap (((BitVec.ofInt 32 (p.toNat:Int)&&& BitVec.ofInt 32 (q.toNat:Int)).toNat:Nat):Int))=_
    rw [oP,oP,xZ])
theorem kz (p q:BitVec 32) (hx:ev E x=some (ct p)) (hy:ev E y=some (ct q)):YO P E st (.binOp .or t x y t') ty (ct (p|||q)):=
  (mB hx hy (.inr (.inl rfl))).v (by
    show A.i .u32 (IntKind.u32.wrap (((BitVec.ofInt 32 (p.toNat:Int)|||BitVec.ofInt 32 (q.toNat:Int)).toNat:Nat):Int))=_
    rw [oP,oP,xZ])
theorem kA {k:IntKind} {j:Int} (p:BitVec 32) (n:Nat) (hx:ev E x=some (ct p)) (hy:ev E y=some (.i k j)) (hj:j=(n:Int)) (hn:n≤32):YO P E st (.binOp .shl t x y t') ty (ct (p<<<n)):=by
  subst hj
  refine(qH hx hy aq).v ?_
  have h1:min ((n:Int).toNat) IntKind.u32.bits=n:=by simp [IntKind.bits];omega
  rw [h1,show((p.toNat:Int)*2 ^ n)=((p.toNat*2 ^ n:Nat):Int) by push_cast;rfl,uK]
  simp only [ct,BitVec.toNat_shiftLeft,Nat.shiftLeft_eq]
theorem iT {k:IntKind} {j:Int} (p:BitVec 32) (n:Nat) (hx:ev E x=some (ct p)) (hy:ev E y=some (.i k j)) (hj:j=(n:Int)) (hn:n≤32):YO P E st (.binOp .shr t x y t') ty (ct (p>>>n)):=by
  subst hj
  refine(j5 hx hy aq).v ?_
  have h1:min ((n:Int).toNat) IntKind.u32.bits=n:=by simp [IntKind.bits];omega
  rw [h1,Int.fdiv_eq_ediv_of_nonneg _ (by exact_mod_cast Nat.zero_le _),show((2:Int) ^ n)=((2 ^ n:Nat):Int)from by simp, ←Int.natCast_ediv]
  simp only [ct,BitVec.toNat_ushiftRight,Nat.shiftRight_eq_div_pow]
theorem FI (p:BitVec 32) (hx:ev E x=some (ct p)):YO P E st (.unOp .xor t x) ty (ct (~~~p)):=by
  intro w0 X0 n β X a w hr
  obtain⟨_,h2⟩:=hr.c9 hx
  rw [iE]at h2
  refine⟨.int .u32 (((~~~p).toNat:Nat):Int),by simp only [V],fun d pos b6 g w' _=>?_⟩
  have h1:(if IntKind.u32.signed then (-1:Int)else IntKind.u32.max)=((BitVec.allOnes 32).toNat:Int):=by decide
  have h3:mO .xor .u32 ((BitVec.allOnes 32).toNat:Int) (p.toNat:Int)=((~~~p).toNat:Int):=by
    show IntKind.u32.wrap (((BitVec.ofInt 32 ((BitVec.allOnes 32).toNat:Int) ^^^ BitVec.ofInt 32 (p.toNat:Int)).toNat:Nat):Int)=_
    rw [oP,oP,xZ,BitVec.allOnes_xor]
  have h4:(Op.intBits .xor .u32 ((BitVec.allOnes 32).toNat:Int) (p.toNat:Int)).run P w'= .ok (.int .u32 ((~~~p).toNat:Int)) w':=by
    rw [←h3];simp [Op.intBits,mO]
  simp only [execOp,h2,Op.unary]
  rw [h1,Sem.run_bind,h4]
  rfl
theorem ug {src dst:TypeId} {ds:TypeDesc} (p:UInt8) (hs:P.underlying src=some ds) (ht:P.underlying dst=some (.int .u32)) (hx:ev E x=some (u8 p)):YO P E st (.convert src dst x) ty (ct (nG p.toNat)):=
  (ep hs ht hx).v (by rw [uK];simp only [ct,nG,BitVec.toNat_ofNat])
theorem sC {src dst:TypeId} {ds:TypeDesc} (p:BitVec 32) (hs:P.underlying src=some ds) (ht:P.underlying dst=some (.int .u8)) (hx:ev E x=some (ct p)):YO P E st (.convert src dst x) ty (u8 (UInt8.ofNat p.toNat)):=
  (ep hs ht hx).v (by
    show A.i .u8 (IntKind.u8.wrap (p.toNat:Int))=A.i .u8 _
    simp only [IntKind.wrap,IntKind.bits,IntKind.signed]
    simp [UInt8.toNat_ofNat'])
theorem M4 {src dst:TypeId} {ds:TypeDesc} {j:Int} {k:IntKind} (n:Nat) (hs:P.underlying src=some ds) (ht:P.underlying dst=some (.int .u32)) (hx:ev E x=some (.i k j)) (hj:j=(n:Int)):YO P E st (.convert src dst x) ty (ct (nG n)):=by
  subst hj
  exact(ep hs ht hx).v (by rw [uK];simp only [ct,nG,BitVec.toNat_ofNat])
end
abbrev cN (x:BitVec 64):A:= .i .u64 (x.toNat:Int)
abbrev cQ (n:Nat):BitVec 64:=BitVec.ofNat 64 n
theorem qD (a:Nat):IntKind.u64.wrap (a:Int)=((a % 2 ^ 64:Nat):Int):=by
  simp only [IntKind.wrap,IntKind.bits,IntKind.signed]
  simp
theorem HX (x:BitVec 64):IntKind.u64.wrap (x.toNat:Int)=(x.toNat:Int):=by
  rw [qD,Nat.mod_eq_of_lt x.isLt]
theorem wW (x:BitVec 64):BitVec.ofInt 64 (x.toNat:Int)=x:=by
  apply BitVec.eq_of_toNat_eq;simp
section
variable {P:Program} {E:Ev} {st:St} {t t' ty:TypeId} {x y:Operand}
theorem yE (p q:BitVec 64) (hx:ev E x=some (cN p)) (hy:ev E y=some (cN q)):YO P E st (.binOp .add t x y t') ty (cN (p+q)):=
  (bE (v:= .i .u64 (IntKind.u64.wrap ((p.toNat:Int)+(q.toNat:Int)))) (by simp only [mX,hx,hy];rfl)).v (by rw [←Int.natCast_add,qD, ←BitVec.toNat_add])
theorem tZ (p q:BitVec 64) (hx:ev E x=some (cN p)) (hy:ev E y=some (cN q)):YO P E st (.binOp .mul t x y t') ty (cN (p*q)):=
  (bE (v:= .i .u64 (IntKind.u64.wrap ((p.toNat:Int)*(q.toNat:Int)))) (by simp only [mX,hx,hy];rfl)).v (by rw [←Int.natCast_mul,qD, ←BitVec.toNat_mul])
theorem nj (p q:BitVec 64) (hx:ev E x=some (cN p)) (hy:ev E y=some (cN q)) (hle:q.toNat≤p.toNat):YO P E st (.binOp .sub t x y t') ty (cN (p - q)):=
  (bE (v:= .i .u64 (IntKind.u64.wrap ((p.toNat:Int) - (q.toNat:Int)))) (by simp only [mX,hx,hy];rfl)).v (by
    have h1:=p.isLt
    rw [show(p.toNat:Int) - (q.toNat:Int)=((p.toNat - q.toNat:Nat):Int) by omega,qD,Nat.mod_eq_of_lt aq, ←BitVec.toNat_sub_of_le (BitVec.le_def.2 hle)])
theorem QO (p q:BitVec 64) (hx:ev E x=some (cN p)) (hy:ev E y=some (cN q)):YO P E st (.binOp .xor t x y t') ty (cN (p ^^^ q)):=
  (mB hx hy (.inr (.inr (.inl rfl)))).v (by
    show A.i .u64 (IntKind.u64.wrap (((BitVec.ofInt 64 (p.toNat:Int) ^^^ BitVec.ofInt 64 (q.toNat:Int)).toNat:Nat):Int))=_
    rw [wW,wW,HX])
theorem l5 (p q:BitVec 64) (hx:ev E x=some (cN p)) (hy:ev E y=some (cN q)):YO P E st (.binOp .and t x y t') ty (cN (p&&& q)):=
  (mB hx hy (.inl rfl)).v (by
    show A.i .u64 (IntKind.u64.wrap (((BitVec.ofInt 64 (p.toNat:Int)&&& BitVec.ofInt 64 (q.toNat:Int)).toNat:Nat):Int))=_
    rw [wW,wW,HX])
theorem PF {k:IntKind} {j:Int} (p:BitVec 64) (n:Nat) (hx:ev E x=some (cN p)) (hy:ev E y=some (.i k j)) (hj:j=(n:Int)) (hn:n≤64):YO P E st (.binOp .shl t x y t') ty (cN (p<<<n)):=by
  subst hj
  refine(qH hx hy aq).v ?_
  have h1:min ((n:Int).toNat) IntKind.u64.bits=n:=by simp [IntKind.bits];omega
  rw [h1,show((p.toNat:Int)*2 ^ n)=((p.toNat*2 ^ n:Nat):Int) by push_cast;rfl,qD]
  simp only [cN,BitVec.toNat_shiftLeft,Nat.shiftLeft_eq]
theorem mz {k:IntKind} {j:Int} (p:BitVec 64) (n:Nat) (hx:ev E x=some (cN p)) (hy:ev E y=some (.i k j)) (hj:j=(n:Int)) (hn:n≤64):YO P E st (.binOp .shr t x y t') ty (cN (p>>>n)):=by
  subst hj
  refine(j5 hx hy aq).v ?_
  have h1:min ((n:Int).toNat) IntKind.u64.bits=n:=by simp [IntKind.bits];omega
  rw [h1,Int.fdiv_eq_ediv_of_nonneg _ (by exact_mod_cast Nat.zero_le _),show((2:Int) ^ n)=((2 ^ n:Nat):Int)from by simp, ←Int.natCast_ediv]
  simp only [cN,BitVec.toNat_ushiftRight,Nat.shiftRight_eq_div_pow]
theorem kC {src dst:TypeId} {ds:TypeDesc} (p:BitVec 64) (hs:P.underlying src=some ds) (ht:P.underlying dst=some (.int .u8)) (hx:ev E x=some (cN p)):YO P E st (.convert src dst x) ty (u8 (UInt8.ofNat p.toNat)):=
  (ep hs ht hx).v (by
    show A.i .u8 (IntKind.u8.wrap (p.toNat:Int))=A.i .u8 _
    simp only [IntKind.wrap,IntKind.bits,IntKind.signed]
    simp [UInt8.toNat_ofNat'])
theorem qb {src dst:TypeId} {ds:TypeDesc} {j:Int} {k:IntKind} (n:Nat) (hs:P.underlying src=some ds) (ht:P.underlying dst=some (.int .u64)) (hx:ev E x=some (.i k j)) (hj:j=(n:Int)):YO P E st (.convert src dst x) ty (cN (cQ n)):=by
  subst hj
  exact(ep hs ht hx).v (by rw [qD];simp only [cN,cQ,BitVec.toNat_ofNat])
end
theorem v8 (b:List UInt8) {cs:List A} {o k m:Nat} (i:Nat) (hi:i<b.length) (h:i=o+k) (hk:k<m) (hc:cs=(((b.map u8).drop (o*1)).take (m*1)).drop (k*1)):cs[0]? =some (u8 (b.getD i 0)):=by
  subst hc;subst h
  rw [List.getElem?_drop,List.getElem?_take,if_pos aq,List.getElem?_drop,List.getElem?_map,show o*1+(k*1+0)=o+k by omega,List.getElem?_eq_getElem hi,List.getD_eq_getElem?_getD,List.getElem?_eq_getElem hi]
  rfl
theorem Eg {b:List UInt8} {cs:List A} (i:Nat) (hi:i<b.length) (hc:cs=(b.map u8).drop (i*1)):cs[0]? =some (u8 (b.getD i 0)):=by
  subst hc
  rw [List.getElem?_drop,List.getElem?_map,show i*1+0=i by omega,List.getElem?_eq_getElem hi,List.getD_eq_getElem?_getD,List.getElem?_eq_getElem hi]
  rfl
end Go.Abs
