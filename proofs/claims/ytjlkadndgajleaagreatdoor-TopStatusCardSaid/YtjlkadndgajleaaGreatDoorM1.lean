/-
  The engine, the plain laws and the walks that the rows need, part 1. Conditions: none.
-/
import Derived.Tactics
import Derived.StillTail
import Derived.Below
theorem aq {P:Prop}(h:P:=by first|rfl|omega|(simp<;>omega)|(simp [*]<;>omega)):P:=h
theorem ar {P:Prop}(h:P:=by omega):P:=h
theorem au {P:Prop}(h:P:=by first|rfl|omega|(simp<;>omega)|(simp [*]<;>omega)|(simp [cm.len, -List.length_flatten, *]<;>omega)):P:=h
theorem av {P:Prop}(h:P:=by first|omega|(simp only [maxLen];omega)|(simp [maxLen];done)|(simp [maxLen];omega)|(simp [maxLen, *];omega)):P:=h
theorem aw {P:Prop}(h:P:=by kernel_rfl):P:=h
theorem az {P:Prop}(h:P:=by decide):P:=h
theorem aA {P:Prop}(h:P:=by simp only [List.length_map,List.length_append,List.length_cons,List.length_nil,List.length_replicate,List.length_drop,List.length_take,fX,gO,gw]<;>omega):P:=h
theorem aB {P:Prop}(h:P:=by simp):P:=h
theorem aC {P:Prop}(h:P:=by simp only [maxLen];omega):P:=h
theorem aD {P:Prop}(h:P:=by first|rfl|(simp [iM,iP,refs,fl,jX,jY,dJ];done)):P:=h
theorem aE {P:Prop}(h:P:=by simp;omega):P:=h
theorem aF {P:Prop}(h:P:=by rw [List.length_drop];omega):P:=h
theorem aG {P:Prop}(h:P:=by rw [List.take_length]):P:=h
theorem aH {P:Prop}(h:P:=by rw [List.length_take];omega):P:=h
theorem aI {P:Prop}(h:P:=by simp [hx]):P:=h
theorem aJ {P:Prop}(h:P:=by simp [maxLen]):P:=h
theorem aK {P:Prop}(h:P:=by first|(simp [cU];done)|(simp [cU, *];done)):P:=h
theorem aL {P:Prop}(h:P:=by rw [List.length_map];omega):P:=h
theorem aM {P:Prop}(h:P:=by first|rfl|(simp;done)|(simp [*];done)):P:=h
theorem aN {P:Prop}(h:P:=by simpa using h):P:=h
theorem aO {P:Prop}(h:P:=by rw [List.getElem?_append_right (by simp [hx]),List.length_map,hx];rfl):P:=h
theorem aP {P:Prop}(h:P:=by simp only [V];exact .inl ⟨cW,by simp⟩):P:=h
theorem aQ {P:Prop}(h:P:=by simpa using hv):P:=h
theorem aR {P:Prop}(h:P:=by rw [hr.size];exact hd):P:=h
theorem aT {P:Prop}(h:P:=by simpa using hlt):P:=h
theorem aU {P:Prop}(h:P:=by first|assumption|(simp;done)|(simp [*];done)):P:=h
theorem aV {P:Prop}(h:P:=by rw [List.length_map,Nat.mul_one]):P:=h
theorem aW {P:Prop}(h:P:=by rw [List.length_map,hx]):P:=h
theorem aX {P:Prop}(h:P:=by simp [hp]):P:=h
theorem aY {P:Prop}(h:P:=by rw [List.length_map,hD.len]):P:=h
theorem aZ {P:Prop}(h:P:=by rfl):P:=h
theorem ba {P:Prop}(h:P:=by simp [Region.wanted]):P:=h
theorem bb {P:Prop}(h:P:=by simp [Region.wanted,hg,hR.mV hj hb]):P:=h
theorem bc {P:Prop}(h:P:=by simp only [V];exact .inr ⟨b,N,cap,cW,rfl,c1,c2,c3⟩):P:=h
theorem bd {P:Prop}(h:P:=by rw [ma hf];exact h'):P:=h
theorem bf {P:Prop}(h:P:=by simp [Region.wanted,hg]):P:=h
theorem bg {P:Prop}(h:P:=by rw [i4];simp only [Nat.zero_add]at hby;omega):P:=h
set_option linter.unusedVariables false
set_option linter.unusedSimpArgs false
set_option maxHeartbeats 1000000
set_option maxRecDepth 10000
-- EngA
namespace Go.Eng
abbrev Env:=List (Nat×Value)
def Env.cw:Env→Nat→Option Value
  | [],_=>none
  |(k,v)::r,t=>cond (Nat.beq k t) (some v) (Env.cw r t)
structure eN (n:Nat) (E:Env) (a:Act):Prop where
  size:a.tmps.size=n
  defers:a.defers= []
  slot:∀t v,E.cw t=some v→a.tmps[t]? =some v
def ev (E:Env):Operand→Option Value
  | .tmp t=>E.cw t
  | .const v=>some v
  | .global g=>some (.pointer (some ⟨g,0,none⟩))
  | .func f=>some (.func (.func f) #[] #[])
theorem eN.ev {n E a} (h:eN n E a) {x:Operand} {v:Value} (hx:Eng.ev E x=some v):a.eval x=v:=by
  cases x with
  | tmp t =>
    have:=h.slot t v hx
    simp [Act.eval,this]
  |const u=>simpa [Eng.ev,Act.eval]using hx
  |global g=>simpa [Eng.ev,Act.eval]using hx
  |func f=>simpa [Eng.ev,Act.eval]using hx
theorem eN.put {n E a} (h:eN n E a) {d:Nat} (hd:Nat.ble (d+1) n=true) (v:Value):eN n ((d,v)::E) (a.put (some d) v):=by
  have hd':d<a.tmps.size:=by rw [h.size];exact Nat.le_of_ble_eq_true hd
  refine⟨by simpa [Act.put]using h.size,h.defers,fun t u ht=>?_⟩
  simp only [Env.cw]at ht
  cases hb:Nat.beq d t with
  | true =>
    rw [hb]at ht
    have:d=t:=Nat.eq_of_beq_eq_true hb
    subst this
    simp only [cond_true,Option.some.injEq]at ht
    subst ht
    simp [Act.put,hd']
  | false =>
    rw [hb]at ht
    simp only [cond_false]at ht
    have hne:d≠t:=Nat.ne_of_beq_eq_false hb
    simp only [Act.put]
    rw [Array.getElem?_setIfInBounds_ne hne]
    exact h.slot t u ht
def Env.put (E:Env):Option Nat→Value→Env
  |some d,v=>(d,v)::E
  |none,_=>E
def l5 (n:Nat):Option Nat→Bool
  |some d=>Nat.ble (d+1) n
  |none=>true
theorem eN.iN {n E a} (h:eN n E a) {d:Option Nat} (hd:l5 n d=true) (v:Value):eN n (E.put d v) (a.put d v):=by
  cases d with
  |none=>exact h
  |some d=>exact h.put hd v
def Env.le:Env→Env→Prop
  |_, []=>True
  |E,(t,v)::r=>E.cw t=some v∧Env.le E r
theorem eN.weaken {n E a} (h:eN n E a):∀ {F:Env},Env.le E F→eN n F a:=by
  intro F hF
  refine⟨h.size,h.defers,?_⟩
  induction F with
  |nil=>intro t v ht;simp [Env.cw]at ht
  | cons p r ih =>
    obtain⟨k,u⟩:=p
    obtain⟨h1,h2⟩:=hF
    intro t v ht
    simp only [Env.cw]at ht
    cases hb:Nat.beq k t with
    | true =>
      rw [hb]at ht
      have:k=t:=Nat.eq_of_beq_eq_true hb
      subst this
      simp only [cond_true,Option.some.injEq]at ht
      subst ht
      exact h.slot _ _ h1
    | false =>
      rw [hb]at ht
      exact ih h2 t v ht
structure I7 (H:List (Nat×Obj)) (s w:World):Prop where
  os:w.os=s.os
  tape:w.tape=s.tape
  output:w.output=s.output
  size:s.heap.size≤w.heap.size
  blk:∀k,k<s.heap.size→(∀p∈H,p.1≠k)→w.heap[k]? =s.heap[k]?
structure Good (S:List World) (H:List (Nat×Obj)) (w:World):Prop where
  snap:∀s∈S,I7 H s w
  own:∀p∈H,w.heap[p.1]? =some p.2
  nd:H.Pairwise (fun p q=>p.1≠q.1)
theorem Good.start (w:World):Good [w] [] w:=
  ⟨(by intro s hs;simp only [List.mem_singleton]at hs;subst hs;exact⟨rfl,rfl,rfl,Nat.le_refl _,fun _ _ _=>rfl⟩),(by intro p hp;cases hp),List.Pairwise.nil⟩
theorem Good.nr {S H w} (h:Good S H w) {p} (hp:p∈H):p.1<w.heap.size:=(Array.getElem?_eq_some_iff.1 (h.own p hp)).1
theorem Good.ext {S H w w'} (h:Good S H w) (hb:RowKit.Below w.heap.size w w'):Good S H w':=by
  refine⟨fun s hs=>?_,fun p hp=>?_,h.nd⟩
  · have k := h.snap s hs
    exact⟨hb.os.trans k.os,hb.tape.trans k.tape,hb.output.trans k.output,Nat.le_trans k.size hb.size,fun i hi hn=>(hb.block i (Nat.lt_of_lt_of_le hi k.size)).trans (k.blk i hi hn)⟩
  · rw [hb.block p.1 (h.nr hp)];exact h.own p hp
theorem Good.now {S H w} (h:Good S H w):Good (w::S) H w:=by
  refine⟨fun s hs=>?_,h.own,h.nd⟩
  rcases List.mem_cons.1 hs with rfl|hs
  · exact⟨rfl,rfl,rfl,Nat.le_refl _,fun _ _ _=>rfl⟩
  · exact h.snap s hs
theorem Good.call {S H w w'} (h:Good S H w) (hb:RowKit.Below w.heap.size w w'):Good (w'::S) H w':=(h.ext hb).now
theorem Good.sub {S S' H w} (h:Good S H w) (hs:∀s∈S',s∈S):Good S' H w:=⟨fun s hs'=>h.snap s (hs s hs'),h.own,h.nd⟩
theorem Good.drew {S H w} (h:Good S H w):Good S H {w with drawn:=w.drawn+1}:=
  ⟨fun s hs=>let k:=h.snap s hs;⟨k.os,k.tape,k.output,k.size,k.blk⟩,h.own,h.nd⟩
theorem Good.below {S H w} (h:Good S H w) {s} (hs:s∈S) (hH:∀p∈H,s.heap.size≤p.1):RowKit.Below s.heap.size s w:=by
  have k:=h.snap s hs
  refine⟨k.os,k.tape,k.output,k.size,fun i hi=>k.blk i hi fun p hp=>?_⟩
  have:=hH p hp
  omega
theorem Good.cell {S H w} (h:Good S H w) {s} (hs:s∈S) {a:Addr} {v:Value} (hc:s.cell? a=some v) (hn:∀p∈H,p.1≠a.block):w.cell? a=some v:=by
  have hlt:=World.block_lt_of_cell? s a hc
  have k:=(h.snap s hs).blk a.block hlt hn
  rw [World.cell?_of_block k]
  exact hc
theorem Good.obj {S H w} (h:Good S H w) {s} (hs:s∈S) {b:Nat} {o:Obj} (hc:s.heap[b]? =some o) (hn:∀p∈H,p.1≠b):w.heap[b]? =some o:=by
  have hlt:=(Array.getElem?_eq_some_iff.1 hc).1
  rw [(h.snap s hs).blk b hlt hn]
  exact hc
theorem Good.alloc {S H w} (h:Good S H w) (o:Obj):Good S ((w.heap.size,o)::H) {w with heap:=w.heap.push o}:=by
  refine⟨fun s hs=>?_,fun p hp=>?_,?_⟩
  · have k := h.snap s hs
    refine⟨k.os,k.tape,k.output,by have:=k.size;simp;omega,fun i hi hn=>?_⟩
    have hi':i<w.heap.size:=Nat.lt_of_lt_of_le hi k.size
    have:=k.blk i hi (fun p hp=>hn p (List.mem_cons_of_mem _ hp))
    rw [←this]
    show(w.heap.push o)[i]? =_
    rw [Array.getElem?_push,if_neg ar]
  · rcases List.mem_cons.1 hp with rfl | hp
    · show (w.heap.push o)[w.heap.size]? = _
      simp
    · have hlt := h.nr hp
      show(w.heap.push o)[p.1]? =_
      rw [Array.getElem?_push,if_neg ar]
      exact h.own p hp
  · refine List.Pairwise.cons (fun p hp => ?_) h.nd
    have:=h.nr hp
    simp only
    omega
theorem Good.set {S H w} (h : Good S H w) (i : Nat) {b : Nat} {o o' : Obj} (hi : H[i]? = some (b, o)) {w' : World} (hos : w'.os = w.os) (htape : w'.tape = w.tape) (hout : w'.output = w.output)
    (hsz:w'.heap.size=w.heap.size) (hb:w'.heap[b]? =some o') (hk:∀k,k≠b→w'.heap[k]? =w.heap[k]?):Good S (H.set i (b,o')) w':=by
  have hlen:i<H.length:=(List.getElem?_eq_some_iff.1 hi).1
  have hmem:(b,o)∈H:=List.mem_of_getElem? hi
  have hkeys:(H.set i (b,o')).map Prod.fst=H.map Prod.fst:=by
    rw [List.map_set]
    apply List.ext_getElem?
    intro j
    rw [List.getElem?_set]
    split
    · rename_i hij
      subst hij
      rw [List.getElem?_map,hi]
      simp [hlen]
    · rfl
  have hn:∀k,(∀p∈H.set i (b,o'),p.1≠k)→(∀p∈H,p.1≠k):=by
    intro k hk' p hp hpk
    have:p.1∈(H.set i (b,o')).map Prod.fst:=by rw [hkeys];exact List.mem_map_of_mem hp
    obtain⟨q,hq,hqe⟩:=List.mem_map.1 this
    exact hk' q hq (hqe.trans hpk)
  refine⟨fun s hs=>?_,fun p hp=>?_,?_⟩
  · have k := h.snap s hs
    refine⟨hos.trans k.os,htape.trans k.tape,hout.trans k.output,by rw [hsz];exact k.size,fun j hj hnj=>?_⟩
    have hn':=hn j hnj
    rw [hk j (fun e=>hn' _ hmem e.symm)]
    exact k.blk j hj hn'
  · obtain ⟨j, hj⟩ := List.mem_iff_getElem?.1 hp
    rw [List.getElem?_set]at hj
    split at hj
    · cases hj
      exact hb
    · rename_i hij
      have hpm:=List.mem_of_getElem? hj
      have hne:p.1≠b:=by
        have hpw:=h.nd
        rw [List.pairwise_iff_getElem]at hpw
        obtain⟨hjl,hje⟩:=List.getElem?_eq_some_iff.1 hj
        obtain⟨_,hie⟩:=List.getElem?_eq_some_iff.1 hi
        rcases Nat.lt_or_gt_of_ne hij with hlt|hlt
        · have := hpw i j hlen hjl hlt
          rw [hie,hje]at this
          exact fun e=>this e.symm
        · have := hpw j i hjl hlen hlt
          rw [hie,hje]at this
          exact this
      rw [hk p.1 hne]
      exact h.own p hpm
  · have hpw : (H.map Prod.fst).Pairwise (· ≠ ·) := List.pairwise_map.2 h.nd
    rw [←hkeys]at hpw
    exact List.pairwise_map.1 hpw
def At (n:Nat) (E:Env) (S:List World) (H:List (Nat×Obj)) (K:Act→World→Prop):Prop:=
  ∀a w,eN n E a→Good S H w→K a w
section rules
variable {P:Program} {n:Nat} {E:Env} {S:List World} {H:List (Nat×Obj)} {Q:Exit→Act→World→Prop}
theorem bH {x y:Code} (h:At n E S H (x.wp P (Exit.then (y.wp P Q) Q))):At n E S H ((Code.seq x y).wp P Q):=fun a w hR hG=>wp_seq (h a w hR hG)
theorem bY (h:At n E S H (Q .normal)):At n E S H (Code.skip.wp P Q):=fun a w hR hG=>wp_skip (h a w hR hG)
theorem bV (h:At n E S H (Q .ret)):At n E S H (Code.ret.wp P Q):=fun a w hR hG=>wp_ret (h a w hR hG)
theorem cG {id:Nat} (h:At n E S H (Q (.exit id))):At n E S H ((Code.exit id).wp P Q):=fun a w hR hG=>wp_exit (h a w hR hG)
theorem bZ {id:Nat} {c:Code} (h:At n E S H (c.wp P (Exit.inBlock id Q))):At n E S H ((Code.block id c).wp P Q):=fun a w hR hG=>wp_block (h a w hR hG)
theorem b7 {c:Operand} {x y:Code} {t:Bool} (hc:ev E c=some (.bool t)) (ht:t=true→At n E S H (x.wp P Q)) (hf:t=false→At n E S H (y.wp P Q)):At n E S H ((Code.cond c x y).wp P Q):=
  fun a w hR hG=>wp_cond_split (hR.ev hc) (fun h=>ht h a w hR hG) (fun h=>hf h a w hR hG)
theorem dS {c:Operand} {x y:Code} (hc:ev E c=some (.bool true)) (h:At n E S H (x.wp P Q)):At n E S H ((Code.cond c x y).wp P Q):=
  fun a w hR hG=>wp_cond_true (hR.ev hc) (h a w hR hG)
theorem de {c:Operand} {x y:Code} (hc:ev E c=some (.bool false)) (h:At n E S H (y.wp P Q)):At n E S H ((Code.cond c x y).wp P Q):=
  fun a w hR hG=>wp_cond_false (hR.ev hc) (h a w hR hG)
theorem bJ {id:Nat} {l:List Oper} (h:At n E S H (wpList P l.toArray Q l)):At n E S H ((Code.region id l.toArray false).wp P Q):=fun a w hR hG=>wp_region_lit (h a w hR hG)
theorem bI {ops:Array Oper} (h:At n E S H (Q .normal)):At n E S H (wpList P ops Q []):=fun a w hR hG=>wpList_nil (h a w hR hG)
theorem bK {ops:Array Oper} {o:Oper} {rest:List Oper} (hg:o.guard=none) (h:At n E S H (fun a w=>o.wp P a w (wpList P ops Q rest) Q)):At n E S H (wpList P ops Q (o::rest)):=
  fun a w hR hG=>by
    unfold wpList
    rw [if_pos bf]
    exact .inl (h a w hR hG)
def gG (ops:Array Oper) (j:Nat):Option Nat:=(ops[j]?).bind (·.dst)
theorem eN.mV {n E a} (h:eN n E a) {ops:Array Oper} {j t:Nat} {b:Bool} (hj:gG ops j=some t) (hb:E.cw t=some (.bool b)):yielded ops a.tmps j=some b:=by
  have:=h.slot t _ hb
  unfold gG at hj
  simp [yielded,hj,this]
theorem fg {ops:Array Oper} {o:Oper} {rest:List Oper} {j t:Nat} {b:Bool} (hg:o.guard=some (j,b)) (hj:gG ops j=some t) (hb:E.cw t=some (.bool b))
    (h:At n E S H (fun a w=>o.wp P a w (wpList P ops Q rest) Q)):At n E S H (wpList P ops Q (o::rest)):=
  fun a w hR hG=>by
    unfold wpList
    rw [if_pos bb]
    exact .inl (h a w hR hG)
theorem zg {ops:Array Oper} {o:Oper} {rest:List Oper} {j t:Nat} {b:Bool} (hg:o.guard=some (j,b)) (hj:gG ops j=some t) (hb:E.cw t=some (.bool (!b)))
    (hd:l5 n o.dst=true) (h:At n (E.put o.dst undef) S H (wpList P ops Q rest)):At n E S H (wpList P ops Q (o::rest)):=
  fun a w hR hG=>by
    unfold wpList
    rw [if_neg bb]
    exact h _ _ (hR.iN hd _) hG
def Yields (P:Program) (n:Nat) (E:Env) (S:List World) (H:List (Nat×Obj)) (o:Oper) (v:Value):Prop:=
  At n E S H fun a w=>(execOp a.eval o).run P w= .ok (.value v) w
theorem vr {o:Oper} {v:Value} {K:Act→World→Prop} (hy:Yields P n E S H o v) (hd:l5 n o.dst=true) (h:At n (E.put o.dst v) S H K):At n E S H (fun a w=>o.wp P a w K Q):=
  fun a w hR hG=>by
    have h1:(execOp a.eval o).run P w= .ok (.value v) w:=hy a w hR hG
    show o.wp P a w K Q
    unfold Oper.wp
    rw [h1]
    exact h _ _ (hR.iN hd _) hG
theorem gq {id:Nat} {l:List Oper} (k:Nat) (hm:P.follows .mixedOrders=true) (hB:Region.lexTailB .any l.toArray k=true)
    (h:At n E S H (fun a w=>wpStill P l.toArray w (fun a'=>wpList P l.toArray Q (l.drop k) a' w) (l.take k) a)):At n E S H ((Code.region id l.toArray true).wp P Q):=
  fun a _ hR hG=>wp_region_still_tail k hm hB (h a _ hR hG.drew)
theorem gu {ops:Array Oper} {K:Act→World→Prop} (h:At n E S H K):At n E S H (fun a w=>wpStill P ops w (fun a'=>K a' w) [] a):=fun a w hR hG=>h a w hR hG
theorem J8 {ops:Array Oper} {o:Oper} {rest:List Oper} {v:Value} {K:Act→World→Prop} (hg:o.guard=none) (hy:Yields P n E S H o v) (hd:l5 n o.dst=true)
    (h:At n (E.put o.dst v) S H (fun a w=>wpStill P ops w (fun a'=>K a' w) rest a)):At n E S H (fun a w=>wpStill P ops w (fun a'=>K a' w) (o::rest) a):=
  fun a w hR hG=>by
    have h1:(execOp a.eval o).run P w= .ok (.value v) w:=hy a w hR hG
    show wpStill P ops w (fun a'=>K a' w) (o::rest) a
    unfold wpStill
    rw [if_pos bf]
    unfold Oper.still
    rw [h1]
    exact⟨rfl,h _ _ (hR.iN hd _) hG⟩
theorem J9 {ops:Array Oper} {o:Oper} {rest:List Oper} {v:Value} {K:Act→World→Prop} {j t:Nat} {b:Bool} (hg:o.guard=some (j,b)) (hj:gG ops j=some t) (hb:E.cw t=some (.bool b))
    (hy:Yields P n E S H o v) (hd:l5 n o.dst=true)
    (h:At n (E.put o.dst v) S H (fun a w=>wpStill P ops w (fun a'=>K a' w) rest a)):At n E S H (fun a w=>wpStill P ops w (fun a'=>K a' w) (o::rest) a):=
  fun a w hR hG=>by
    have h1:(execOp a.eval o).run P w= .ok (.value v) w:=hy a w hR hG
    show wpStill P ops w (fun a'=>K a' w) (o::rest) a
    unfold wpStill
    rw [if_pos bb]
    unfold Oper.still
    rw [h1]
    exact⟨rfl,h _ _ (hR.iN hd _) hG⟩
theorem Ka {ops:Array Oper} {o:Oper} {rest:List Oper} {K:Act→World→Prop} {j t:Nat} {b:Bool} (hg:o.guard=some (j,b)) (hj:gG ops j=some t) (hb:E.cw t=some (.bool (!b)))
    (hd:l5 n o.dst=true)
    (h:At n (E.put o.dst undef) S H (fun a w=>wpStill P ops w (fun a'=>K a' w) rest a)):At n E S H (fun a w=>wpStill P ops w (fun a'=>K a' w) (o::rest) a):=
  fun a _ hR hG=>by
    show wpStill P ops _ (fun a'=>K a' _) (o::rest) a
    unfold wpStill
    rw [if_neg bb]
    exact h _ _ (hR.iN hd _) hG
theorem cO {ι : Type} {c : Code} (I : ι → Env) (SS : ι → List World) (HH : ι → List (Nat × Obj)) (pre : ι → Prop) (m : ι → Nat)
    (hbeg:At n E S H (fun a w=>∃x,pre x∧eN n (I x) a∧Good (SS x) (HH x) w))
    (hround:∀x,pre x→At n (I x) (SS x) (HH x) (c.wp P (Exit.then (fun a w=>∃y,pre y∧m y<m x∧eN n (I y) a∧Good (SS y) (HH y) w) Q))):
    At n E S H ((Code.loop c).wp P Q):=by
  intro a w hR hG b k cs
  have key:∀q a w x,m x=q→pre x→eN n (I x) a→Good (SS x) (HH x) w→
      ∃e a' w',Q e a' w'∧Arrives P (lone (b.at a (.code c:: .inLoop c::k)) cs w) b k cs e a' w':=by
    intro q
    induction q using Nat.strongRecOn with
    | _ q ih =>
      intro a w x hm hp hR hG
      obtain⟨e,a₁,w₁,hq,harr⟩:=hround x hp a w hR hG b (.inLoop c::k) cs
      cases e with
      | normal =>
        obtain⟨y,hpy,hlt,hRy,hGy⟩:=hq
        obtain⟨e₂,a₂,w₂,hq₂,harr₂⟩:=ih (m y) (hm ▸ hlt) a₁ w₁ y rfl hpy hRy hGy
        exact⟨e₂,a₂,w₂,hq₂,.of_steps (Steps.trans harr (.one step_inLoop)) harr₂⟩
      |exit id=>exact⟨_,a₁,w₁,hq,.pass (x:= .inLoop c) rfl (fun _ _=> .inl aB) harr⟩
      |goto l=>exact⟨_,a₁,w₁,hq,.pass (x:= .inLoop c) rfl (fun _ _=> .inl aB) harr⟩
      |ret=>exact⟨_,a₁,w₁,hq,.pass (x:= .inLoop c) rfl (fun _ _=> .inl aB) harr⟩
      |panic ch=>exact⟨_,a₁,w₁,hq,.pass (x:= .inLoop c) rfl (fun _ _=> .inl aB) harr⟩
      |outgrown=>exact⟨_,a₁,w₁,hq,.pass (x:= .inLoop c) rfl (fun _ _=> .inl aB) harr⟩
  obtain⟨x,hp,hRx,hGx⟩:=hbeg a w hR hG
  obtain⟨e,a',w',hq,harr⟩:=key _ a w x rfl hp hRx hGx
  exact⟨e,a',w',hq,.of_steps (.one step_loop) harr⟩
end rules
end Go.Eng
