/-
  The engine, the plain laws and the walks that the rows need, part 13. Conditions: none.
-/
import Derived.Test.YtjlkadndgajleaaGreatDoorM12
import Derived.Lib.BufferWrite
set_option linter.unusedVariables false
set_option linter.unusedSimpArgs false
set_option maxHeartbeats 1000000
set_option maxRecDepth 10000
-- AbsX
namespace Go.Abs
open Go Go.Eng
theorem Cs:∀ {l:List A} {i:Nat} {c:A},dc l→l[i]? =some c→Pure c
  | [],_,_,_,h=>by simp at h
  |_::_,0,_,hp,h=>by simp at h;subst h;exact hp.1
  |_::l,i+1,_,hp,h=>Cs (l:=l) (i:=i) hp.2 aN
section
variable {P:Program} {w0:Bw} {X0:Xs} {n:Nat} {E:Ev} {st:St} {K:Act→World→Prop} {Q:Exit→Act→World→Prop}
theorem rT {d:Nat} {t e:TypeId} {size by' zero agg} {len:Nat} {parts:List (Nat×Operand)} {vs cs:List A} {ty:TypeId} {pos bU g} (ht:P.underlying t=some (.slice e)) (he:TI P e size by' zero agg)
    (hp:iO E parts 0=some vs) (hlen:len=vs.length) (hce:vs.all my=true) (hcl:∀v∈vs,(cU v).length=size) (hfl:kL vs=cs) (hpu:dc cs) (hs:Nat.ble (len*size) 16777216=true) (hs2:Nat.ble len 16777216=true) (hd:Nat.ble (d+1) n=true)
    (h:At w0 X0 n ((d,.fz len cs)::E) st K):
    At w0 X0 n E st (fun a w=>(⟨some d,.buildSlice t len parts.toArray,ty,pos,bU,g⟩:Oper).wp P a w K Q):=by
  rintro a w ⟨β,X,hr⟩
  subst hfl
  obtain⟨us,g1,g2,g3,g4,g5⟩:=Bl hr hp (fun v hv=>⟨tV v (List.all_eq_true.1 hce v hv),hcl v hv⟩)
  refine Eng.jT (S:= [w]) (H:= []) (E:=full a) (n:=a.tmps.size) us ht he g1 rfl ar g3 hs aR (fun b hS hH a1 w1 hR hG=>?_) a w (fW a hr.defers) (Eng.Good.start w)
  have hb:w.heap.size≤b:=hS.1
  have hbel:=tR hG (by simp [hb])
  have hw:=hG.own _ (.head _)
  simp only at hw
  have hbl:b<w1.heap.size:=(Array.getElem?_eq_some_iff.1 hw).1
  obtain⟨m1,m2,m3⟩:=hr.mem.HJ (b:=b) (kL vs).length hbel hb hbl
  have hm2:=Nat.le_of_ble_eq_true hs2
  have hll:=eF g4
  refine h a1 w1 ⟨β,_,hr.next hR m2 m3 (c4.refl β) m1 ?_⟩
  simp only [V]
  refine⟨_,_,rfl,Nat.le_refl _,by simp only [maxLen];omega,(fun h=>by cases h),(fun _ x hx=>by cases hx;rfl),mY fun j c hj=>?_⟩
  have hjl:=(List.getElem?_eq_some_iff.1 hj).1
  obtain⟨u,q1,q2⟩:=ik g4 hj
  refine⟨.inr ⟨rfl,by simpa [ao]using hjl⟩,u,?_,fR m2 _ _ _ _ (c4.refl _) (mo _ _ (Cs hpu hj) q2),g5 u (List.mem_of_getElem? q1)⟩
  simp only [ab,ao,Nat.zero_add,World.cell?,hw]
  simp [q1]
variable {r:Option Nat} {ds0:List Deferred} {N g:Nat} {E0:EV} {st0:St} {ops:Array Oper} {nn:Nat} {plan:List dD} {rest:List Oper} {d:Nat} {ty:TypeId} {pos:String} {aft':Array Edge} {gd:Option (Nat×Bool)}
end
end Go.Abs
-- C4S
namespace Go.Abs.D2
open Go Go.Eng Go.Abs
abbrev dF (n:Int):CV:= .mk 1 n [] []
abbrev fK (s:List UInt8):CV:= .mk 2 0 s []
abbrev fc (l:List CV):CV:= .mk 3 0 [] l
abbrev iY (f:cY):CV:=fc [dF f.nb,fK f.D]
def jk (c:cq):CV:=fc [fK c.x,fc (c.F.map iY),fc (c.E.map dF)]
def CV.kd:CV→Int| .mk k _ _ _=>k
def CV.nm:CV→Int| .mk _ n _ _=>n
def CV.st:CV→List UInt8| .mk _ _ s _=>s
def CV.ls:CV→List CV| .mk _ _ _ l=>l
theorem qF (n:Int):(dF n).okB=true:=by rw [CV.okB,if_pos rfl];rfl
theorem xo (s:List UInt8):(fK s).okB=true:=by rw [CV.okB,if_neg az,if_pos rfl];rfl
theorem qG {l:List CV} (h:∀v∈l,v.okB=true):(fc l).okB=true:=by
  rw [CV.okB,if_neg az,if_neg az,if_pos rfl,CV.rX,List.all_eq_true.2 h];rfl
theorem Pt (f:cY):(iY f).okB=true:=qG fun v hv=>by
  simp only [List.mem_cons,List.not_mem_nil,or_false]at hv
  rcases hv with rfl|rfl
  · exact qF _
  · exact xo _
theorem G1 (c:cq):(jk c).okB=true:=qG fun v hv=>by
  simp only [List.mem_cons,List.not_mem_nil,or_false]at hv
  rcases hv with rfl|rfl|rfl
  · exact xo _
  · exact qG fun v hv=>by obtain⟨f,_,rfl⟩:=List.mem_map.1 hv;exact Pt f
  · exact qG fun v hv=>by obtain⟨f,_,rfl⟩:=List.mem_map.1 hv;exact qF f
theorem qh {l:List CV} {d:Nat} (h:∀v∈l,v.depth≤d):(fc l).depth≤d+1:=by
  rw [CV.depth,if_pos rfl];have:=D5 h;omega
theorem qg (n:Int):(dF n).depth=0:=by rw [CV.depth,if_neg az]
theorem vV (s:List UInt8):(fK s).depth=0:=by rw [CV.depth,if_neg az]
theorem LW (c : cq) : (jk c).depth ≤ 16 := by
  refine Nat.le_trans (qh (d:=2) fun v hv=>?_) ar
  simp only [List.mem_cons,List.not_mem_nil,or_false]at hv
  rcases hv with rfl|rfl|rfl
  · rw [vV];omega
  · exact qh (d:=1) fun v hv=>by
      obtain⟨f,_,rfl⟩:=List.mem_map.1 hv
      exact qh (d:=0) fun v hv=>by
        simp only [List.mem_cons,List.not_mem_nil,or_false]at hv
        rcases hv with rfl|rfl
        · rw [qg];exact Nat.le_refl _
        · rw [vV];exact Nat.le_refl _
  · exact qh (d:=1) fun v hv=>by obtain⟨f,_,rfl⟩:=List.mem_map.1 hv;rw [qg];omega
theorem qL {n:Int} (h0: -9223372036854775808≤n) (h1:n≤9223372036854775807):(dF n).jZ=true:=by simp [CV.jZ,CV.ny,h0,h1]
theorem xP (s:List UInt8):(fK s).jZ=true:=by simp [CV.jZ,CV.ny]
theorem qM {l:List CV} (h:∀v∈l,v.jZ=true):(fc l).jZ=true:=by
  simp only [CV.jZ,CV.Bz,List.all_eq_true.2 h];rfl
theorem DF {c:cq} (h:eB c=true):∀f∈c.F,0≤f.nb∧f.nb≤4096∧f.D.length≤512:=fun f hf=>by
  obtain⟨i,hi⟩:=List.mem_iff_getElem?.1 hf
  obtain⟨_,n,h1,h2,h3,h4,_⟩:=tA h hi
  omega
theorem Hv {c : cq} (h : eB c = true) : (jk c).jZ = true := qM fun v hv => by
  simp only [List.mem_cons,List.not_mem_nil,or_false]at hv
  rcases hv with rfl|rfl|rfl
  · exact xP _
  · exact qM fun v hv=>by
      obtain⟨f,hf,rfl⟩:=List.mem_map.1 hv
      obtain⟨h1,h2,_⟩:=DF h f hf
      exact qM fun v hv=>by
        simp only [List.mem_cons,List.not_mem_nil,or_false]at hv
        rcases hv with rfl|rfl
        · exact qL ar ar
        · exact xP _
  · exact qM fun v hv=>by
      obtain⟨n,hn,rfl⟩:=List.mem_map.1 hv
      obtain⟨_,he,_⟩:=od h
      have:=oy he n hn
      exact qL ar ar
theorem z8 {l:List CV} {k:Nat} (h:∀v∈l,v.enc.length≤k):(CV.ey l).length≤l.length*k:=by
  induction l with
  |nil=>simp [CV.ey]
  | cons v l ih =>
    have h1:=h v (.head _)
    have h2:=ih fun u hu=>h u (.tail _ hu)
    rw [CV.ey,List.length_append,List.length_cons,Nat.succ_mul];omega
theorem qj {n:Int} (h0: -9223372036854775808≤n) (h1:n≤9223372036854775807):(dF n).enc.length≤12:=by
  have:=AQ (B5 h0 h1)
  rw [CV.enc,if_pos rfl,List.length_cons];omega
theorem vY {s:List UInt8} (h:s.length<2 ^ 64):(fK s).enc.length≤s.length+12:=by
  have:=AQ h
  rw [CV.enc,if_neg az,if_pos rfl,List.length_cons,List.length_append];omega
theorem ql {l:List CV} (h:l.length<2 ^ 64):(fc l).enc.length≤(CV.ey l).length+12:=by
  have:=AQ h
  rw [CV.enc,if_neg az,if_neg az,List.length_cons,List.length_append];omega
theorem CR:∀ {l:List Int} {last:Int},gh last l=true→last<1024→last+l.length<1024
  | [],last,_,h=>by simpa using h
  | n :: l, last, h, _ => by
    simp only [gh,Bool.and_eq_true,decide_eq_true_eq]at h
    have:=CR h.2 h.1.2
    simp only [List.length_cons];omega
theorem Gg {l:List Int} (h:eD l=true):l.length≤1024:=by
  have:=CR h ar
  omega
theorem Ab {c:cq} (h:eB c=true) (hx:c.x.length=32):(jk c).enc.length≤30000:=by
  obtain⟨h1,h2,_⟩:=od h
  have he:=Gg h2
  have e1:(fK c.x).enc.length≤44:=by have:=vY (s:=c.x) ar;omega
  have e2:(fc (c.F.map iY)).enc.length≤10000:=by
    have q1:=ql (l:=c.F.map iY) aL
    have q2:=z8 (l:=c.F.map iY) (k:=600) fun v hv=>by
      obtain⟨f,hf,rfl⟩:=List.mem_map.1 hv
      obtain⟨k1,k2,k3⟩:=DF h f hf
      have q3:(iY f).enc.length≤_:=ql (l:= [dF f.nb,fK f.D]) aB
      have q4:=qj (n:=f.nb) ar ar
      have q5:=vY (s:=f.D) ar
      simp only [CV.ey,List.length_append,List.length_nil]at q3
      omega
    rw [List.length_map]at q2
    omega
  have e3:(fc (c.E.map dF)).enc.length≤12300:=by
    have q1:=ql (l:=c.E.map dF) aL
    have q2:=z8 (l:=c.E.map dF) (k:=12) fun v hv=>by
      obtain⟨n,hn,rfl⟩:=List.mem_map.1 hv
      have:=oy h2 n hn
      exact qj ar ar
    rw [List.length_map]at q2
    omega
  have q:=ql (l:= [fK c.x,fc (c.F.map iY),fc (c.E.map dF)]) aB
  simp only [CV.ey,List.length_append,List.length_nil]at q
  show(fc _).enc.length≤_
  omega
theorem Qo {c:cq} (h:eB c=true):Rd 16 (jk c):=⟨G1 c,LW c,Hv h⟩
def np (v:CV) (i:Nat):CV:=v.ls.getD i zV
def EP (i:Nat) (v:CV):cY:=⟨i,(np v 0).nm,(np v 1).st⟩
def wk (l:List CV):List cY:=l.mapIdx EP
@[simp] theorem On (l:List CV):(wk l).length=l.length:=by simp [wk]
def Bp (v:CV):cq:=⟨(np v 0).st,wk (np v 1).ls,(np v 2).ls.map CV.nm⟩
@[irreducible] def tJ (c:cq):A:=if eB c then .tu [.fz (jk c).enc.length ((jk c).enc.map u8),.i .i64 0]else .tu [.nl,.i .i64 340]
theorem Ew {c:cq} (h:eB c=true):tJ c= .tu [.fz (jk c).enc.length ((jk c).enc.map u8),.i .i64 0]:=by unfold tJ;rw [h];rfl
theorem Eu {c:cq} (h:eB c=false):tJ c= .tu [.nl,.i .i64 340]:=by unfold tJ;rw [h];rfl
theorem B6 {l:List CV} {m:Nat} (h:m=l.length):((CV.dA l).drop 0).take (m*4)=CV.dA l:=by subst h;exact CV.tz l
theorem Bb (v:CV):cU (A.ag (CV.cells v))++ []=CV.cells v:=List.append_nil _
theorem MK {F:List cY} {i:Nat} {f:cY} (h:F[i]? =some f):CV.dA ((F.take i).map iY)++CV.cells (iY f)=CV.dA ((F.take (i+1)).map iY):=by
  rw [CV.Dr,List.take_add_one,h];simp
theorem NO {E:List Int} {i:Nat} {q:Int} (h:E[i]? =some q):CV.dA ((E.take i).map dF)++CV.cells (dF q)=CV.dA ((E.take (i+1)).map dF):=by
  rw [CV.Dr,List.take_add_one,h];simp
theorem KK {c:cq} (hx:c.x.length=32):A.fz 32 (((dN c).drop (0*1)).take (32*1))= .fz c.x.length (c.x.map u8):=by
  rw [Nat.zero_mul,List.drop_zero,Dq hx,hx]
theorem Mf {c:cq} (h:eB c=true):qi (jk c)= .tu [.fz (jk c).enc.length ((jk c).enc.map u8),.i .i64 0]:=tI (Qo h).vL
abbrev BQ:List UInt8:= [99,97,115,99,97,100,101]
@[irreducible] def mA (c:cq):List UInt8:=tagged BQ (jk c).enc
theorem Ea (c:cq):mA c=tagged BQ (jk c).enc:=by unfold mA;rfl
@[simp] theorem F1 (c:cq):(mA c).length=32:=by rw [Ea];simp
@[irreducible] def tG (c:cq):A:=if eB c then .tu [.ag ((mA c).map u8),.i .i64 0]else .tu [.ag (mr.map u8),.i .i64 340]
theorem vW {c:cq} (h:eB c=true):tG c= .tu [.ag ((mA c).map u8),.i .i64 0]:=by unfold tG;rw [h];rfl
theorem L1 {c:cq} (h:eB c=false):tG c= .tu [.ag (mr.map u8),.i .i64 340]:=by unfold tG;rw [h];rfl
theorem Sb {c:cq} (h:eB c=true) (hx:c.x.length=32):(jk c).size≤1000000:=by
  have h1:=CV.BJ (jk c).size (jk c) (Nat.le_refl _) (G1 c)
  have h2:=Ab h hx
  omega
theorem Gt:∀ {l:List CV} {v:CV},v∈l→v.enc.length≤(CV.ey l).length
  | [],_,h=>by cases h
  | u :: l, v, h => by
    rw [CV.ey,List.length_append]
    rcases List.mem_cons.1 h with rfl|h
    · omega
    · have:=Gt h;omega
theorem Mj (n:Int) (s:List UInt8) (l:List CV):(CV.ey l).length≤(CV.mk 3 n s l).enc.length:=by
  rw [CV.enc,if_neg az,if_neg az,List.length_cons,List.length_append];omega
theorem Mi (n:Int) (s:List UInt8) (l:List CV):s.length≤(CV.mk 2 n s l).enc.length:=by
  rw [CV.enc,if_neg az,if_pos rfl,List.length_cons,List.length_append];omega
end Go.Abs.D2
-- Abs1
namespace Go.Eng
open Go Go.MapKept
def oe (f:Int→Option Value) (k:Int):Int→Option Value:=fun j=>if j=k then none else f j
theorem fm.erase {es:Array MapEntry} {clk:Nat} {f:Int→Option Value} (h:fm es clk f) {k:Int} {j:Nat} {e:MapEntry} (hj:es[j]? =some e) (he:e.key= .int .i64 k):fm (es.eraseIdxIfInBounds j) clk (oe f k):=by
  have hlt:=(Array.getElem?_eq_some_iff.1 hj).1
  have hmem:∀x,x∈(es.eraseIdxIfInBounds j).toList↔∃i,i≠j∧es.toList[i]? =some x:=fun x=>by
    unfold Array.eraseIdxIfInBounds
    rw [dif_pos hlt,Array.toList_eraseIdx]
    exact List.mem_eraseIdx_iff_getElem?
  have hnd:=h.st.2.2
  have hkey:∀i x,i≠j→es.toList[i]? =some x→x.key≠ .int .i64 k:=fun i x hij hx hk=>by
    have g1:(es.toList.map (·.key))[j]? =some (.int .i64 k):=by rw [List.getElem?_map,Array.getElem?_toList,hj];simp [he]
    have g2:(es.toList.map (·.key))[i]? =some (.int .i64 k):=by rw [List.getElem?_map,hx];simp [hk]
    have hl:=(List.getElem?_eq_some_iff.1 g1).1
    exact hij ((List.getElem?_inj hl hnd).1 (g1.trans g2.symm)).symm
  refine⟨stamped_erase h.st _,fun x hx=>?_,fun i v hi=>?_⟩
  · obtain ⟨i, hij, hx⟩ := (hmem x).1 hx
    obtain⟨q,e1,e2⟩:=h.ent x (List.mem_of_getElem? hx)
    refine⟨q,e1,?_⟩
    unfold oe
    rw [if_neg (fun e=>hkey i x hij hx (by rw [e1,e])),e2]
  · unfold oe at hi
    split at hi
    · cases hi
    · rename_i hne
      obtain⟨x,hx,e1⟩:=h.has i v hi
      obtain⟨q,hq⟩:=List.mem_iff_getElem?.1 hx
      refine⟨x,(hmem x).2 ⟨q,fun e2=>?_,hq⟩,e1⟩
      subst e2
      rw [Array.getElem?_toList,hj]at hq
      simp only [Option.some.injEq]at hq
      subst hq
      rw [he]at e1
      simp only [Value.int.injEq,true_and]at e1
      exact hne e1.symm
def jt (x:MapEntry):Int:=match x.key with
  | .int _ k=>k
  |_=>0
theorem fm.size {es:Array MapEntry} {clk:Nat} {f:Int→Option Value} (h:fm es clk f) {L:List Int} (hn:L.Nodup) (hL:∀k,(f k).isSome=true↔k∈L):es.size=L.length:=by
  have hk:∀x∈es.toList,x.key= .int .i64 (jt x)∧f (jt x)=some x.val:=fun x hx=>by
    obtain⟨k,e1,e2⟩:=h.ent x hx
    have:jt x=k:=by unfold jt;rw [e1]
    rw [this];exact⟨e1,e2⟩
  have hnd:(es.toList.map jt).Nodup:=by
    have h3:=h.st.2.2
    rw [List.nodup_iff_pairwise_ne]at h3 ⊢
    rw [List.pairwise_map]at h3 ⊢
    refine h3.imp_of_mem fun {a b} ha hb hne e=>hne ?_
    rw [(hk a ha).1,(hk b hb).1,e]
  have hp:(es.toList.map jt).Perm L:=(List.perm_ext_iff_of_nodup hnd hn).2 fun k=>by
    rw [←hL k,List.mem_map]
    constructor
    · rintro ⟨x, hx, rfl⟩
      rw [(hk x hx).2];rfl
    · intro hs
      obtain⟨v,hv⟩:=Option.isSome_iff_exists.1 hs
      obtain⟨x,hx,e⟩:=h.has k v hv
      exact⟨x,hx,by unfold jt;rw [e]⟩
  have:=hp.length_eq
  rw [List.length_map]at this
  simpa using this
end Go.Eng
namespace Go.Abs
open Go Go.Eng Go.MapKept
section
variable {w0:Bw} {β:Bm} {X:Xs} {st:St} {w:World}
theorem Mem.Ql (hm : Mem w0 β X st w) (hf : st.free dQ = true) :
    Mem w0 (dI β dQ (.mp w.heap.size)) X (st.put dQ [.mc w.heap.size (fun _=>none)]) {w with heap:=w.heap.push (.map #[] 0)}∧dM X X w {w with heap:=w.heap.push (.map #[] 0)}:=by
  have hbel:RowKit.Below w.heap.size w {w with heap:=w.heap.push (.map #[] 0)}:=⟨rfl,rfl,rfl,by simp,fun k hk=>by simp [Array.getElem?_push,Nat.ne_of_lt hk]⟩
  have hx:dM X X w {w with heap:=w.heap.push (.map #[] 0)}:=fun q o h=>⟨h,World.cell?_of_block (w:=w) (hbel.block q (hm.xlt q o h))⟩
  have hnx:=hm.dom dQ hf
  refine⟨.of (hm.below.trans hbel) (fun k y h=>(dX hnx) k y (hm.b0 k y h)) (fun q o h=>Nat.lt_of_lt_of_le (hm.xlt q o h) hbel.size) (fun k h=>?_) (fun k ds hg=>?_) (fun i j ci cj q M N' hij hi hj hbi hbj=>?_),hx⟩
  · rw [St.gv] at h
    split at h
    · cases h
    · rename_i hne
      rw [dL (fun e=>hne e.symm)]
      exact hm.dom k h
  · rw [St.dV] at hg
    split at hg
    · rename_i e; subst e
      simp only [Option.some.injEq]at hg
      subst hg
      unfold OB
      rw [cW]
      exact⟨rfl,Bw.mO hm.below (Nat.le_refl _),fun o h=>absurd (hm.xlt _ o h) (Nat.lt_irrefl _),_, #[],0,rfl,by simp,fm.empty 0⟩
    · refine (hm.obj k ds hg).later hx (dX hnx) (fun q M hq => ?_) fun q hq => ⟨hbel.block q ((hm.obj k ds hg).qA hq), ((hm.obj k ds hg).gm hq).2.2.1⟩
      have h:=(hm.obj k ds hg).nq hq rfl
      exact⟨hbel.block q h.1,h.2.2⟩
  · rw [St.dV] at hi hj
    by_cases ei:dQ=i
    · subst ei;rw [cW]at hbi;cases hbi
    · rw [if_neg ei] at hi
      rw [dL (fun e=>ei e.symm)]at hbi
      by_cases ej:dQ=j
      · subst ej;rw [cW]at hbj;cases hbj
      · rw [if_neg ej] at hj
        rw [dL (fun e=>ej e.symm)]at hbj
        exact hm.inj i j ci cj q M N' hij hi hj hbi hbj
theorem Mem.HM (hm : Mem w0 β X st w) {b : Nat} {f f' : Int → Option Value} {es : Array MapEntry} {clk : Nat} {w1 : World} (hg : st.get dQ = some [.mc b f]) (hF : fm es clk f') (hG : Eng.Good [w] [(b, .map es clk)] w1) :
    Mem w0 β X (st.put dQ [.mc b f']) w1∧dM X X w w1:=by
  have ho:=hm.obj dQ _ hg
  obtain⟨y,hβ,hy⟩:∃y,β dQ=some y∧y= .mp b:=by
    have ho2:=ho
    unfold OB at ho2
    cases hb:β dQ with
    |none=>rw [hb]at ho2;exact ho2.elim
    | some y =>
      rw [hb]at ho2
      cases y with
      |ph=>cases ho2
      | bk q N =>
        obtain⟨_,_,us,rest,ty,_,_,h5,_⟩:=ho2
        simp only [VS,V]at h5
        obtain⟨_,_,_,h,_⟩:=h5
        exact h.elim
      | mp q =>
        obtain⟨_,_,_,g,_,_,e,_⟩:=ho2
        simp only [List.cons.injEq,A.mc.injEq,and_true]at e
        exact⟨_,rfl,by rw [e.1]⟩
  subst hy
  obtain⟨_,hown,hnX,g,es0,clk0,_,hb0,_⟩:=ho.gm hβ
  have hlt:=(Array.getElem?_eq_some_iff.1 hb0).1
  have hsn:=hG.snap w (.head _)
  have hblk:∀k,k<w.heap.size→k≠b→w1.heap[k]? =w.heap[k]? :=fun k hk hne=>hsn.blk k hk (fun p hp=>by simp only [List.mem_singleton]at hp;subst hp;exact fun e=>hne e.symm)
  have hw1:=hG.own _ (.head _)
  simp only at hw1
  have hx:dM X X w w1:=fun q o h=>⟨h,World.cell?_of_block (w:=w) (hblk q (hm.xlt q o h) fun e=>by subst e;exact hnX o h)⟩
  refine⟨.of ⟨hsn.os.trans hm.below.os,hsn.tape.trans hm.below.tape,hsn.output.trans hm.below.output,Nat.le_trans hm.below.size hsn.size,fun k hk hM=>?_,fun s hs=>?_⟩ hm.b0 (fun q o h=>Nat.lt_of_lt_of_le (hm.xlt q o h) hsn.size) (fun k h=>?_) (fun k ds hk=>?_) (fun i j ci cj q M N' hij hi hj hbi hbj=>?_),hx⟩
  · rw [hblk k (Nat.lt_of_lt_of_le hk hm.below.size) (fun e => by
      subst e
      rcases hown with h|h
      · omega
      · exact hM h)]
    exact hm.below.block k hk hM
  · refine dZ.rJ (hm.below.sus s hs) fun q hq => hblk q (by rcases hq with hq | ⟨r, hq⟩ <;> exact (Array.getElem?_eq_some_iff.1 hq).1) fun e => ?_
    subst e
    rw [hb0]at hq
    rcases hq with h|⟨_,h⟩<;>cases h
  · rw [St.gv] at h
    split at h
    · cases h
    · exact hm.dom k h
  · rw [St.dV] at hk
    split at hk
    · rename_i e; subst e
      simp only [Option.some.injEq]at hk
      subst hk
      unfold OB
      rw [hβ]
      exact⟨rfl,hown,hnX,f',es,clk,rfl,hw1,hF⟩
    · rename_i hne
      have key:∀(y:BL) (q:Nat),β k=some y→y.on q→w1.heap[q]? =w.heap[q]? ∧∀o,¬X q o:=fun y q hq hyq=>
        ⟨hblk q ((hm.obj k ds hk).nq hq hyq).1 fun e=>by subst e;exact hm.apart hne hg hk hβ hq rfl hyq,((hm.obj k ds hk).nq hq hyq).2.2⟩
      exact(hm.obj k ds hk).later hx (c4.refl β) (fun q M hq=>key _ q hq rfl) fun q hq=>key _ q hq rfl
  · have g : ∀ (k : Nat) (c : List A), (st.put dQ [.mc b f']).get k = some c → ∃ c', st.get k = some c' := fun k c hk => by
      rw [St.dV]at hk
      split at hk
      · rename_i e;subst e;exact⟨_,hg⟩
      · exact⟨_,hk⟩
    obtain⟨c1,h1⟩:=g i ci hi
    obtain⟨c2,h2⟩:=g j cj hj
    exact hm.inj i j c1 c2 q M N' hij h1 h2 hbi hbj
theorem Mem.wV (hm:Mem w0 β X st w) {b:Nat} {f:Int→Option Value} (hg:st.get dQ=some [.mc b f]):∃es clk,w.heap[b]? =some (.map es clk)∧fm es clk f:=by
  have ho:=hm.obj dQ _ hg
  unfold OB at ho
  cases hb:β dQ with
  |none=>rw [hb]at ho;exact ho.elim
  | some y =>
    rw [hb]at ho
    cases y with
    |ph=>cases ho
    | bk q N =>
      obtain⟨_,_,us,rest,ty,_,_,h5,_⟩:=ho
      simp only [VS,V]at h5
      obtain⟨_,_,_,h,_⟩:=h5
      exact h.elim
    | mp q =>
      obtain⟨_,_,_,g,es,clk,e,h4,h5⟩:=ho
      simp only [List.cons.injEq,A.mc.injEq,and_true]at e
      obtain⟨e1,e2⟩:=e
      subst e1;subst e2
      exact⟨es,clk,h4,h5⟩
end
section
variable {P:Program} {w0:Bw} {X0:Xs} {n:Nat} {E:Ev} {st:St} {K:Act→World→Prop} {Q:Exit→Act→World→Prop}
theorem A2 {d:Nat} {t ty:TypeId} {pos bU g} (hf:st.free dQ=true) (hd:Nat.ble (d+1) n=true)
    (h:∀b,At w0 X0 n ((d,.raw (.map (some b)))::E) (st.put dQ [.mc b (fun _=>none)]) K):At w0 X0 n E st (fun a w=>(⟨some d,.makeMap t none,ty,pos,bU,g⟩:Oper).wp P a w K Q):=by
  rintro a w ⟨β,X,hr⟩
  obtain⟨hm,hx⟩:=hr.mem.Ql hf
  have hrun:(execOp a.eval ⟨some d,.makeMap t none,ty,pos,bU,g⟩).run P w= .ok (.value (.map (some w.heap.size))) {w with heap:=w.heap.push (.map #[] 0)}:=by
    simp [execOp,Instr.makeMap]
  unfold Oper.wp
  rw [hrun]
  exact h w.heap.size _ _ ⟨_,X,hr.jF hd hx (fun _ _ h=> .inl h) (dX (hr.mem.dom dQ hf)) hm (by simp only [V])⟩
theorem xe {t kt et ty:TypeId} {pos bU g} {x y z:Operand} {b:Nat} {f:Int→Option Value} {k v:Int} {kv:IntKind} (hm:P.underlying t=some (.map kt et)) (hk:P.underlying kt=some (.int .i64))
    (hx:ev E x=some (.raw (.map (some b)))) (hy:ev E y=some (.i .i64 k)) (hz:ev E z=some (.i kv v)) (hg:st.get dQ=some [.mc b f])
    (h:At w0 X0 n E (st.put dQ [.mc b (j8 f k (.int kv v))]) K):At w0 X0 n E st (fun a w=>(⟨none,.mapUpdate t x y z,ty,pos,bU,g⟩:Oper).wp P a w K Q):=by
  rintro a w ⟨β,X,hr⟩
  obtain⟨e1,e2⟩:=hr.cR hx
  obtain⟨e3,e4⟩:=hr.cR hy
  obtain⟨e5,e6⟩:=hr.cR hz
  simp only [V]at e2 e4 e6
  rw [e2]at e1;rw [e4]at e3;rw [e6]at e5
  obtain⟨es,clk,hb,hF⟩:=hr.mem.wV hg
  refine Eng.xe (S:= [w]) (H:= [(b,.map es clk)]) (E:=full a) (n:=a.tmps.size) 0 hm hk e1 e3 e5 rfl hF (fun es' clk' hF' a1 w1 hR hG=>?_) a w (fW a hr.defers) (oq hb)
  obtain⟨m1,m2⟩:=hr.mem.HM (w1:=w1) hg hF' hG
  exact h a1 w1 ⟨β,X,hr.gP hR m2 (fun _ _ h=> .inl h) (c4.refl β) m1⟩
theorem qT {t kt et ty : TypeId} {x y : Operand} {b : Nat} {f : Int → Option Value} {k m : Int} {kv : IntKind} (hm : P.underlying t = some (.map kt et)) (hk : P.underlying kt = some (.int .i64)) (hz0 : ∀ w, (zeroValue et).run P w = .ok (.int kv 0) w)
    (hx:ev E x=some (.raw (.map (some b)))) (hy:ev E y=some (.i .i64 k)) (hg:st.get dQ=some [.mc b f]) (hf:(f k).getD (.int kv 0)= .int kv m):YO P E st (.lookup t x y false) ty (.i kv m):=by
  intro w0 X0 n β X a w hr
  obtain⟨e1,e2⟩:=hr.cR hx
  obtain⟨e3,e4⟩:=hr.cR hy
  simp only [V]at e2 e4
  rw [e2]at e1;rw [e4]at e3
  have ho:=hr.memq.obj dQ _ hg
  obtain⟨hβ,es,clk,hb,hF⟩:β dQ=some (.mp b)∧∃es clk,w.heap[b]? =some (.map es clk)∧fm es clk f:=by
    unfold OB at ho
    cases hb:β dQ with
    |none=>rw [hb]at ho;exact ho.elim
    | some y =>
      rw [hb]at ho
      cases y with
      |ph=>cases ho
      | bk q N =>
        obtain⟨_,_,us,rest,ty,_,_,h5,_⟩:=ho
        simp only [VS,V]at h5
        obtain⟨_,_,_,h,_⟩:=h5
        exact h.elim
      | mp q =>
        obtain⟨_,_,_,g,es,clk,e,h4,h5⟩:=ho
        simp only [List.cons.injEq,A.mc.injEq,and_true]at e
        obtain⟨e1,e2⟩:=e
        subst e1;subst e2
        exact⟨rfl,es,clk,h4,h5⟩
  refine⟨.int kv m,by simp only [V],fun d pos bU g w' hs=>?_⟩
  have hb':w'.heap[b]? =some (.map es clk):=(hs.map _ _ _ hg hβ).trans hb
  have hy:=Eng.qT (P:=P) (S:= [w']) (H:= [(b,.map es clk)]) (E:=full a) (n:=a.tmps.size) (ty:=ty) 0 hm hk hz0 e1 e3 rfl hF
  rw [hf]at hy
  exact hy d pos bU g a w' (fW a hr.defers) (oq hb')
theorem O9 {t kt et ty : TypeId} {ats : Array TypeId} {pos bU g} {x y : Operand} {b : Nat} {f : Int → Option Value} {k : Int} (hm : P.underlying t = some (.map kt et)) (hk : P.underlying kt = some (.int .i64)) (hat : ats = #[t, kt])
    (hx:ev E x=some (.raw (.map (some b)))) (hy:ev E y=some (.i .i64 k)) (hg:st.get dQ=some [.mc b f])
    (h:At w0 X0 n E (st.put dQ [.mc b (oe f k)]) K):At w0 X0 n E st (fun a w=>(⟨none,.call {callee:= .builtin .delete,args:= #[x,y],argTypes:=ats},ty,pos,bU,g⟩:Oper).wp P a w K Q):=by
  subst hat
  rintro a w ⟨β,X,hr⟩
  obtain⟨e1,e2⟩:=hr.cR hx
  obtain⟨e3,e4⟩:=hr.cR hy
  simp only [V]at e2 e4
  rw [e2]at e1;rw [e4]at e3
  have f1:=(fW a hr.defers).ev e1
  have f3:=(fW a hr.defers).ev e3
  obtain⟨es,clk,hb,hF⟩:=hr.mem.wV hg
  have hkk:IsKey (.int .i64) (Value.int .i64 k):=rfl
  obtain ⟨es', hF', hrun⟩ : ∃ es', fm es' clk (oe f k) ∧ (execOp a.eval ⟨none, .call { callee := .builtin .delete, args := #[x, y], argTypes := #[t, kt] }, ty, pos, bU, g⟩).run P w = .ok (.value (.tuple #[])) { w with heap := w.heap.setIfInBounds b (.map es' clk) } := by
    rcases findNow_spec hkk es.toList 0 hF.keys with ⟨h1,h2⟩|⟨j,e,h1,h2,h3⟩
    · refine ⟨es, ?_, ?_⟩
      · have : oe f k = f := by
          funext i
          unfold oe
          split
          · rename_i e; subst e
            cases hf:f i with
            |none=>rfl
            |some v=>obtain⟨q,hq,e⟩:=hF.has i v hf;exact absurd e (h2 q hq)
          · rfl
        rw [this];exact hF
      · simp [execOp,resolve,invoke,builtin,f1,f3,Builtin.delete_,run_underlying hm,MapKept.run_getObj_map hb,MapKept.run_checkKey hk hkk,MapKept.run_findKey hk h1,MapKept.run_setObj_map _ hb,Result.andThen]
    · have hj : es[j]? = some e := by simpa using h2
      refine⟨_,hF.erase hj h3,?_⟩
      simp [execOp,resolve,invoke,builtin,f1,f3,Builtin.delete_,run_underlying hm,MapKept.run_getObj_map hb,MapKept.run_checkKey hk hkk,MapKept.run_findKey hk h1,MapKept.run_setObj_map _ hb,Result.andThen]
  obtain⟨m1,m2⟩:=hr.mem.HM (w1:= {w with heap:=w.heap.setIfInBounds b (.map es' clk)}) hg hF' ((oq hb).set 0 rfl rfl rfl rfl aB (heap_set hb).1 (fun q hq=>(heap_set hb).2 q hq))
  unfold Oper.wp
  rw [hrun]
  exact h a _ ⟨β,X,hr.gP (fW a hr.defers) m2 (fun _ _ h=> .inl h) (c4.refl β) m1⟩
theorem MemQ.wV {β:Bm} {X:Xs} {w:World} (hm:MemQ w0 β X st w) {b:Nat} {f:Int→Option Value} (hg:st.get dQ=some [.mc b f]):β dQ=some (.mp b)∧∃es clk,w.heap[b]? =some (.map es clk)∧fm es clk f:=by
  have ho:=hm.obj dQ _ hg
  unfold OB at ho
  cases hb:β dQ with
  |none=>rw [hb]at ho;exact ho.elim
  | some y =>
    rw [hb]at ho
    cases y with
    |ph=>cases ho
    | bk q N =>
      obtain⟨_,_,us,rest,ty,_,_,h5,_⟩:=ho
      simp only [VS,V]at h5
      obtain⟨_,_,_,h,_⟩:=h5
      exact h.elim
    | mp q =>
      obtain⟨_,_,_,g,es,clk,e,h4,h5⟩:=ho
      simp only [List.cons.injEq,A.mc.injEq,and_true]at e
      obtain⟨e1,e2⟩:=e
      subst e1;subst e2
      exact⟨rfl,es,clk,h4,h5⟩
theorem T4 {t kt et ty:TypeId} {x:Operand} {b:Nat} {f:Int→Option Value} (L:List Int) (hm:P.underlying t=some (.map kt et)) (hx:ev E x=some (.raw (.map (some b)))) (hg:st.get dQ=some [.mc b f]) (hn:L.Nodup) (hL:∀k,(f k).isSome=true↔k∈L):
    YO P E st (.call {callee:= .builtin .len,args:= #[x],argTypes:= #[t]}) ty (.i .i64 (L.length:Nat)):=by
  intro w0 X0 n β X a w hr
  obtain⟨e1,e2⟩:=hr.cR hx
  simp only [V]at e2
  rw [e2]at e1
  have f1:=(fW a hr.defers).ev e1
  obtain⟨hβ,es,clk,hb,hF⟩:=hr.memq.wV hg
  have hs:=hF.size hn hL
  refine⟨.int .i64 (L.length:Nat),by simp only [V],fun d pos bU g w' hsm=>?_⟩
  have hb':w'.heap[b]? =some (.map es clk):=(hsm.map _ _ _ hg hβ).trans hb
  simp [execOp,resolve,invoke,builtin,f1,Builtin.len_,run_underlying hm,MapKept.run_getObj_map hb',Result.andThen,hs]
  rfl
end
end Go.Abs
-- Abs2
namespace Go.Abs
open Go Go.Eng
section
variable {P:Program} {w0 w1 w2:Bw} {X0:Xs} {n:Nat} {E:Ev} {st:St} {Q:Exit→Act→World→Prop} {r:Option Nat} {ds:List Deferred}
theorem th {l D n1 nO:Nat} {rc:Loop} {Ek Eit:Ev} {ps:List Tmp} {assign body:Code} {ids idsR:List Nat} {tm:Array Value} {d:Nat} {N:Act→World→Prop} {ch:List PanicEntry} {fo:Func} (hf:P.funcs[rc.fn]? =some fo)
    (hR:Rg w0 w1 idsR l D rc nO Ek ps assign body .ready none) (hd:Rd w0 w1 w2 ids l D rc Ek .busy none tm n1 Eit)
    (h:∀wj,Rg w0 wj idsR l D rc nO Ek ps assign body .busy none→At wj X0 n1 Eit st (Pw ds (Q (.panic ch)))):At w2 X0 n E st (Pw [] (su P l rc.fn (sm ds tm (some d) N Q) (.panic ch))):=by
  rintro a w ⟨β,X,hr⟩
  obtain⟨wj,hβ,hS⟩:=hR.stop .busy none
  have hss:w2.sus= .fr tm Eit w2.β:: .lp l {rc with state:= .busy,pending:=none} Ek w1.β:: .df D::w0.sus:=hd.sub.sus
  have hs1:wj.sus= .lp l {rc with state:= .busy,pending:=none} Ek wj.β:: .df D::w0.sus:=hS.sub.sus
  have hfr:=hr.sslot (.fr tm Eit w2.β) (by rw [hss];exact .head _)
  refine⟨by rw [oL];exact hr.defers,⟨_,hf⟩,h _ hS ⟨tm, []⟩ w ⟨β,X,hr.jW (hS.sub.w.trans hd.sub.w.symm) (hS.sub.M.trans hd.sub.M.symm) .refl (fun id y h=>hr.mem.b0 id y (hd.ext id y (hβ ▸ h))) (fun s hs=>?_) (fun s hs=>?_) hd.size rfl (fun t v ht=>?_)⟩⟩
  · refine wJ (B := w2) (hr.mem.below.sus s ?_) (fun b h => (qH (hS.sub.w.trans hd.sub.w.symm) (hS.sub.M.trans hd.sub.M.symm) b).2 h) (fun _ _ _ _ => rfl)
    rw [hs1,hβ]at hs
    rw [hss];exact .tail _ hs
  · refine hr.sslot s ?_
    rw [hs1,hβ]at hs
    rw [hss];exact .tail _ hs
  · obtain ⟨u, g1, g2⟩ := hfr t v ht
    exact⟨u,g1,fR (fun b o h=>⟨h,rfl⟩) _ _ _ _ hr.mem.b0 g2⟩
theorem rj {l D nO:Nat} {rc:Loop} {Ek:Ev} {ps:List Tmp} {assign body:Code} {idsR:List Nat} {s:LoopState} {pe:Option Code} {fn:Func} {ss:List dZ} {ch:List PanicEntry} (hR:Rg w0 w1 idsR l D rc nO Ek ps assign body s pe) (hs0:w0.sus=ss)
    (h:At (w0.re (.df D::ss)) X0 nO Ek st (Pw (gi D::ds) (Q (.panic ch)))):At w1 X0 n E st (Pw [] (bodyPostM (rF none) 0 P fn (rangePost (rF r) 0 P l Q (Act.wd (gi D::ds) ⟨rc.tmps, []⟩)) (.panic ch))):=by
  rintro a w ⟨β,X,hr⟩
  subst hs0
  have hss:w1.sus= .lp l {rc with state:=s,pending:=pe} Ek w1.β:: .df D::w0.sus:=hR.sub.sus
  have hlp:=hr.sslot (.lp l {rc with state:=s,pending:=pe} Ek w1.β) (by rw [hss];exact .head _)
  show LeavesInM (rF none) 0 P fn (a.wd []).tmps _ (a.wd []).defers (.panicking ch) w
  rw [oL,hr.defers]
  show Q (.panic ch) (Act.wd (gi D::ds) ⟨rc.tmps, []⟩) w
  refine h ⟨rc.tmps, []⟩ w ⟨β,X,hr.jW hR.sub.w.symm hR.sub.M.symm .refl (fun id y h=>hr.mem.b0 id y (hR.sub.ext id y h)) (fun s hs=>?_) (fun s hs=>?_) hR.size rfl (fun t v ht=>?_)⟩
  · exact wJ (B:=w1) (hr.mem.below.sus s (by rw [hss];exact .tail _ hs)) (fun b h=>(qH hR.sub.w hR.sub.M b).1 h) (fun _ _ _ _=>rfl)
  · exact hr.sslot s (by rw [hss];exact .tail _ hs)
  · obtain ⟨u, g1, g2⟩ := hlp t v ht
    exact⟨u,g1,fR (fun b o h=>⟨h,rfl⟩) _ _ _ _ hr.mem.b0 g2⟩
theorem Gn {fn:Func} {Rr:Ending→World→Prop} {ch:List PanicEntry}:∀(ds:List Nat) {wB:Bw} {a:Act} {w:World},ds.Nodup→wB.sus=ds.map .df→Rel wB X0 n E st a w→(∀w',Rel (wB.re []) X0 n E st a w'→Rr (.panicked ch) w')→
    LeavesInM (rF none) 0 P fn a.tmps Rr (ds.map gi) (.panicking ch) w
  | [],wB,a,w,_,hs,⟨β,X,hr⟩,h=>h w ⟨β,X,hr.jW rfl rfl .refl hr.mem.b0 (fun s hs=>by cases hs) (fun s hs=>by cases hs) hr.size hr.defers hr.slot⟩
  | D :: ds, wB, a, w, hnd, hs, ⟨β, X, hr⟩, h => by
    have hs':wB.sus= .df D::ds.map .df:=by simpa using hs
    have hk:=hr.mem.below.sus (.df D) (by rw [hs'];exact .head _)
    refine⟨by simp,.inl ⟨D,_,rfl,run_takeDeferred hk.2,?_⟩⟩
    refine Gn ds (wB:=wB.re (ds.map .df)) (List.nodup_cons.1 hnd).2 rfl ⟨β,X,hr.jW rfl rfl (Qt.put hk.1 hk.2 rfl rfl) hr.mem.b0 (fun s hs=>?_) (fun s hs=>?_) hr.size hr.defers hr.slot⟩ h
    · obtain ⟨D', hD, rfl⟩ := List.mem_map.1 hs
      have hk':=hr.mem.below.sus (.df D') (by rw [hs'];exact .tail _ hs)
      exact⟨hk'.1,(World.putObj_heap_other (fun e:D'=D=>(List.nodup_cons.1 hnd).1 (e ▸ hD))).trans hk'.2⟩
    · obtain ⟨D', hD, rfl⟩ := List.mem_map.1 hs
      trivial
theorem rk {wB:Bw} {fn:Func} {R:A→St→Prop} {pn:Value→Prop} {u:Value} (hw:wB.w=w0.w) (hM:wB.M=w0.M) (hβ:wB.β=w0.β) (hs0:w0.sus= []) {dn:List Nat} (hdn:ds=dn.map gi) (hsB:wB.sus=dn.map .df) (hnd:dn.Nodup) (hp:pn u):
    At wB X0 n E st (Pw ds (bodyPostM (rF none) 0 P fn (oO w0 X0 R pn) (.panic (lh u)))):=fun a w hr=>by
  have hd:a.defers= []:=by obtain⟨_,_,hr⟩:=hr;exact hr.defers
  show LeavesInM (rF none) 0 P fn a.tmps _ (a.wd ds).defers (.panicking (lh u)) w
  have e:(a.wd ds).defers=dn.map gi:=by simp [Act.wd,hd,hdn]
  rw [e]
  refine Gn dn hnd hsB hr fun w' ⟨β,X,hr'⟩=>?_
  have hr0:dP w0 X0 n E st β X a w':=hr'.jW hw.symm hM.symm .refl (by rw [←hβ];exact hr'.mem.b0) (fun s hs=>by rw [hs0]at hs;cases hs) (fun s hs=>by rw [hs0]at hs;cases hs) hr'.size hr'.defers hr'.slot
  exact .inr ⟨u,rfl,hp,.raw undef,β,X,st,trivial,hr0.x0,hr0.xn,hr0.mem,by simp only [V]⟩
theorem FU {F:Fence} {m:Nat} {fn:Func} {tm:Array Value} {R R':Ending→World→Prop} (hr:∀e w,R e w→R' e w):∀(ds:List Nat) {w:World},LeavesInM F m P fn tm R (ds.map gi) .returning w→LeavesInM F m P fn tm R' (ds.map gi) .returning w
  | [],w,⟨v,h1,h2⟩=>⟨v,h1,hr _ _ h2⟩
  | D :: ds, w, ⟨h0, h⟩ => ⟨h0, by
    rcases h with ⟨r,w',h1,h2,h3⟩|⟨_,fv,cap,f,args,h1,_⟩
    · exact .inl ⟨r,w',h1,h2,FU hr ds h3⟩
    · cases h1⟩
theorem J5 {wB:Bw} {fn:Func} {R:A→St→Prop} {pn:Value→Prop} {rs:List ResultVar} {vs:List A} (hw:wB.w=w0.w) (hM:wB.M=w0.M) (hβ:wB.β=w0.β) (hs0:w0.sus= []) {dn:List Nat} (hdn:ds=dn.map gi) (hsB:wB.sus=dn.map .df) (hnd:dn.Nodup) (hrs:fn.results=rs.toArray) (hv:gA P E st rs vs) (h:R (mQ vs) st):
    At wB X0 n E st (Pw ds (bodyPostM (rF none) 0 P fn (oO w0 X0 R pn) .ret)):=fun a w hr=>by
  have hd:a.defers= []:=by obtain⟨_,_,hr⟩:=hr;exact hr.defers
  have h1:=qb hw hM hβ hs0 hdn hsB hnd hrs hv h a w hr
  show LeavesInM (rF none) 0 P fn a.tmps _ (a.wd ds).defers .returning w
  have e:(a.wd ds).defers=dn.map gi:=by simp [Act.wd,hd,hdn]
  have h2:LeavesInM (rF none) 0 P fn a.tmps _ (a.wd ds).defers .returning w:=h1
  rw [e]at h2 ⊢
  exact FU (fun e w h=> .inl h) dn h2
def jJ (P:Program) (f0:FuncId) (c:Code) (Q:Exit→Act→World→Prop) (a:Act) (w:World):Prop:=
  ∀(b:Frame) (k:List Item) (cs:List Frame),b.roundOf=none→b.fn=f0→∃e a' w',Q e a' w'∧ArrivesIn (Machine.fenced P (rF none)) P (lone (b.atR a (.code c::k)) cs w) b k cs e a' w'
theorem nA {m:Nat}:(rF none).room m:=fun d h=>by cases h
theorem TH {f0:FuncId} {c:Code} {a:Act} {w:World} (h:c.wpIn (rF none) 0 P Q a w):jJ P f0 c Q a w:=fun b k cs hro _=>h b k cs hro trivial nA
theorem TK {f0:FuncId} {x y:Code} {a:Act} {w:World} (h:jJ P f0 x (Exit.then (jJ P f0 y Q) Q) a w):jJ P f0 (.seq x y) Q a w:=by
  intro b k cs hro hb
  have h0:(lone (b.atR a (.code (.seq x y)::k)) cs w).fenced P (rF none):=fenced_calm (n:=0) trivial nA rfl
  obtain⟨e,a₁,w₁,hq,harr⟩:=h b (.code y::k) cs hro hb
  cases e with
  | normal =>
    obtain⟨e₂,a₂,w₂,hq₂,harr₂⟩:=hq b k cs hro hb
    exact⟨e₂,a₂,w₂,hq₂,.of_steps (.head h0 stepR_seq harr) harr₂⟩
  |exit id=>exact⟨_,a₁,w₁,hq,.of_steps (.one h0 stepR_seq) (.pass (x:= .code y) rfl (fun _ _=> .inl aB) harr)⟩
  |goto l=>exact⟨_,a₁,w₁,hq,.of_steps (.one h0 stepR_seq) (.pass (x:= .code y) rfl (fun _ _=> .inl aB) harr)⟩
  |ret=>exact⟨_,a₁,w₁,hq,.of_steps (.one h0 stepR_seq) (.pass (x:= .code y) rfl (fun _ _=> .inl aB) harr)⟩
  |panic ch=>exact⟨_,a₁,w₁,hq,.of_steps (.one h0 stepR_seq) (.pass (x:= .code y) rfl (fun _ _=> .inl aB) harr)⟩
  |outgrown=>exact⟨_,a₁,w₁,hq,.of_steps (.one h0 stepR_seq) (.pass (x:= .code y) rfl (fun _ _=> .inl aB) harr)⟩
theorem TG {f0 id : Nat} {c : Code} {a : Act} {w : World} (h : jJ P f0 c (Exit.inBlock id Q) a w) : jJ P f0 (.block id c) Q a w := by
  intro b k cs hro hb
  have h0:(lone (b.atR a (.code (.block id c)::k)) cs w).fenced P (rF none):=fenced_calm (n:=0) trivial nA rfl
  obtain⟨e,a₁,w₁,hq,harr⟩:=h b (.inBlock id::k) cs hro hb
  cases e with
  |normal=>exact⟨.normal,a₁,w₁,hq,.head h0 stepR_block (StepsIn.trans harr (.one (fenced_calm (n:=0) trivial nA rfl) stepR_inBlock))⟩
  | exit id' =>
    by_cases hid:id'=id
    · simp only [Exit.inBlock, hid, if_true] at hq
      exact⟨.normal,a₁,w₁,hq,.head h0 stepR_block (harr.1 k (by simp [exitTo,hid]))⟩
    · simp only [Exit.inBlock, hid, if_false] at hq
      have this:(id==id')=false:=by simp;exact fun h=>hid h.symm
      have hx:exitTo id' (.inBlock id::k)=exitTo id' k:=by simp [exitTo,this]
      exact⟨.exit id',a₁,w₁,hq,fun k' hk=> .head h0 stepR_block (harr.1 k' (by rw [hx];exact hk)),
        fun hr' hk=>let ⟨k₁,h1,h2⟩:=harr.2 hr' (by rw [hx];exact hk);⟨k₁,h1,.head h0 stepR_block h2⟩⟩
  | goto l =>
    have hx:gotoIn l (.inBlock id::k)=gotoIn l k:=by simp [gotoIn]
    exact⟨_,a₁,w₁,hq,fun k' hk=> .head h0 stepR_block (harr.1 k' (by rw [hx];exact hk)),
      fun hr' hk=>let ⟨k₁,h1,h2⟩:=harr.2 hr' (by rw [hx];exact hk);⟨k₁,h1,.head h0 stepR_block h2⟩⟩
  |ret=>exact⟨_,a₁,w₁,hq,.of_steps (.one h0 stepR_block) harr⟩
  |panic ch=>exact⟨_,a₁,w₁,hq,.of_steps (.one h0 stepR_block) harr⟩
  |outgrown=>exact⟨_,a₁,w₁,hq,.of_steps (.one h0 stepR_block) harr⟩
theorem KG {f:FuncId} {fn:Func} {c:Code} {args:Array Value} {w:World} {R:Ending→World→Prop} (hf:P.funcs[f]? =some fn) (hb:fn.body=some c)
    (h:jJ P f c (bodyPostM (rF none) 0 P fn R) {tmps:=args++Array.replicate (fn.ntmps - args.size) undef,defers:= []} w):CallsIn (rF none) 0 P f args w R:=by
  refine⟨trivial,fun cs hr=>?_⟩
  let b:Frame:= {(default:Frame)with fn:=f,kind:= .normal,roundOf:=none}
  have henter:Frame.enter P f args .normal=b.atR {tmps:=args++Array.replicate (fn.ntmps - args.size) undef,defers:= []} [.code c]:=by simp [Frame.enter,Frame.atR,hf,hb,b]
  obtain⟨e,a',w',hq,harr⟩:=h b [] cs rfl rfl
  rw [←henter]at harr
  cases e with
  | normal =>
    obtain⟨e',w'',fr',hR,hs,hfn,hl⟩:=leaves_stepsInM a'.defers .returning w' {b.atR a' []with mode:= .returning} cs rfl rfl rfl hf rfl trivial hr hq
    exact⟨e',w'',fr',hR,ComesIn.of_steps (StepsIn.trans harr (.one (fenced_calm (fr:=b.atR a' []) (n:=0) trivial hr rfl) (stepR_end rfl))) hs,hfn,hl⟩
  | ret =>
    obtain⟨todo,hs₀⟩:=harr.1 rfl
    obtain⟨e',w'',fr',hR,hs,hfn,hl⟩:=leaves_stepsInM a'.defers .returning w' {b.atR a' todo with mode:= .returning} cs rfl rfl rfl hf rfl trivial hr hq
    exact⟨e',w'',fr',hR,ComesIn.of_steps hs₀ hs,hfn,hl⟩
  | panic chain =>
    obtain⟨todo,hs₀⟩:=harr
    obtain⟨e',w'',fr',hR,hs,hfn,hl⟩:=leaves_stepsInM a'.defers (.panicking chain) w' {b.atR a' todo with mode:= .panicking chain} cs rfl rfl rfl hf rfl trivial hr hq
    exact⟨e',w'',fr',hR,ComesIn.of_steps hs₀ hs,hfn,hl⟩
  |exit id=>exact hq.elim
  |goto l=>exact hq.elim
  |outgrown=>exact⟨.outgrown,w',b,hq,harr.resolve_left (by simp [b]),rfl,trivial⟩
theorem TJ {f0:FuncId} {g:Operand} {ps:Array Tmp} {assign body:Code} {a:Act} {w:World}
    (h:∃(l:Nat) (mark:List Deferred) (w₁:World) (d:Deferred) (w₁':World) (f:FuncId) (args:Array Value) (w₂:World),
      (Instr.enterLoop f0 a.tmps ps assign body none).run P w= .ok (l,mark) w₁∧(resolve a.eval (rangeCall g l) 0).run P w₁= .ok d w₁'∧(invoke d.target d.args).run P w₁'= .ok (.enter f args) w₂∧
      CallsIn (rF none) 0 P f args w₂ (rangePost (rF none) 0 P l Q {a with defers:=mark++a.defers})):jJ P f0 (Code.rangeFunc g ps assign body) Q a w:=by
  intro b k cs hro hb
  obtain⟨l,mark,w₁,d,w₁',f,args,w₂,he,hres,hinv,hF,hcall⟩:=h
  rw [←hro, ←hb]at he
  have h0:(lone (b.atR a (.code (.rangeFunc g ps assign body)::k)) cs w).fenced P (rF none):=fenced_lone (.inl trivial) (fun f' _=>trivial) nA
  have henter:=stepR_rangeFunc (P:=P) (b:=b) (a:=a) (k:=k) (cs:=cs) (w:=w) he hres hinv
  obtain⟨e,w₃,fr,hR,hsteps,hfn,hleave⟩:=hcall (b.atR {a with defers:=mark++a.defers} (.inRangeFunc l::k)::cs) nA
  cases e with
  | outgrown =>
    obtain⟨a₀,w₀,hq⟩:=hR
    exact⟨.outgrown,a₀,w₀,hq,.inr (Outgrown.of_steps (.one henter) hsteps)⟩
  | returned v =>
    have hl:(lone fr (b.atR {a with defers:=mark++a.defers} (.inRangeFunc l::k)::cs) w₃).fenced P (rF none):=fenced_leaving (n:=0) trivial nA hleave
    obtain⟨jump,w₄,hend,hj⟩:=hR
    have sback:StepsIn (Machine.fenced P (rF none)) P (lone (b.atR a (.code (.rangeFunc g ps assign body)::k)) cs w) (lone (b.atR {a with defers:=mark++a.defers} ((jump.map Item.code).toList++k)) cs w₄):=by
      refine .head h0 henter (StepsIn.trans hsteps (.head hl ?_ (.one (fenced_calm (fr:=b.atR {a with defers:=mark++a.defers} (.endRangeFunc l::k)) (n:=0) trivial nA rfl) (stepR_endRangeFunc hend))))
      rw [←finish_atR_inRangeFunc l v];exact step_leave_returned hleave
    cases jump with
    |none=>exact⟨.normal,_,w₄,hj,sback⟩
    | some c =>
      obtain⟨e',a'',w₅,hq,harr⟩:=hj b k cs hro trivial nA
      exact⟨e',a'',w₅,hq,.of_steps sback harr⟩
  | panicked chain =>
    have hl:(lone fr (b.atR {a with defers:=mark++a.defers} (.inRangeFunc l::k)::cs) w₃).fenced P (rF none):=fenced_leaving (n:=0) trivial nA hleave
    refine⟨.panic chain,_,w₃,hR,.inRangeFunc l::k,.head h0 henter (StepsIn.trans hsteps (.one hl ?_))⟩
    rw [←Frame.raise_atR];exact step_leave_panicked hleave
theorem ri {f0:FuncId} {x y:Code} (h:At w0 X0 n E st (Pw ds (jJ P f0 x (Exit.then (jJ P f0 y Q) Q)))):At w0 X0 n E st (Pw ds (jJ P f0 (.seq x y) Q)):=fun a w hr=>TK (h a w hr)
theorem JW {f0 id:Nat} {c:Code} (h:At w0 X0 n E st (Pw ds (jJ P f0 c (Exit.inBlock id Q)))):At w0 X0 n E st (Pw ds (jJ P f0 (.block id c) Q)):=fun a w hr=>TG (h a w hr)
theorem rh {f0:FuncId} {c:Code} (h:At w0 X0 n E st (Pw ds (c.wpIn (rF none) 0 P Q))):At w0 X0 n E st (Pw ds (jJ P f0 c Q)):=fun a w hr=>TH (h a w hr)
theorem J3 {f0:FuncId} {g:Operand} {ps:List Tmp} {assign body c:Code} {f:FuncId} {fn:Func} {cs:List A} {idsB:List Nat} {n':Nat} (ids:List Nat) (Ek:Ev) (hI:w0.ids=idsB) (hs:(idsB.all (dJ ids))=true) (hE:le E Ek) (hids:iM ids Ek=true)
    (hg:ev E g=some (.fn (.func f) [] cs)) (hf:P.funcs[f]? =some fn) (hb:fn.body=some c) (hn:fn.ntmps=n') (hname:(fn.name== "runtime.NumGoroutine")=false) (ha:cs.length+1≤n')
    (h:∀w1 l D rc,Rg w0 w1 ids l D rc n Ek ps assign body .ready none→rc.fn=f0→At w1 X0 n' (jg (yv l::cs) 0) st (Pw [] (c.wpIn (rF none) 0 P (bodyPostM (rF none) 0 P fn (rangePost (rF none) 0 P l Q (Act.wd (gi D::ds) ⟨rc.tmps, []⟩)))))):
    At w0 X0 n E st (Pw ds (jJ P f0 (Code.rangeFunc g ps.toArray assign body) Q)):=by
  rintro a w ⟨β,X,hr⟩
  show jJ P f0 (Code.rangeFunc g ps.toArray assign body) Q (a.wd ds) w
  refine TJ ?_
  obtain⟨vs,rc,W1,g2,g3,hrt,hrf,w1,hrg,hrel⟩:=Hm (P:=P) (fn:=fn) (n':=n') f0 ids Ek ps assign body hI hs hE hids hg ha hn hr
  refine⟨w.heap.size+1, [{target:= .collected w.heap.size,args:= #[]}],W1, {target:= .fn (.func f) vs.toArray,args:= #[.func (.yield (w.heap.size+1)) #[] #[]]},W1,f,
    #[.func (.yield (w.heap.size+1)) #[] #[]]++vs.toArray,W1,g2,?_,?_,?_⟩
  · simp only [resolve, we, g3]
    simp [go_sem]
  · simp [invoke,go_sem,BB hf hb hname]
  · rw [Ix hr.defers, ← hrt]
    exact callsIn_of_wp_marks hf hb trivial (mj (h _ _ _ rc hrg hrf _ W1 hrel))
theorem Mn {f:FuncId} {fn:Func} {c:Code} {args:List A} {s0:St} {R:A→St→Prop} {pn:Value→Prop} (hf:P.funcs[f]? =some fn) (hb:fn.body=some c)
    (hn:fn.ntmps=n) (hname:(fn.name== "runtime.NumGoroutine")=false) (ha:args.length≤n)
    (h:∀w0 X0,w0.ids=s0.os.map Prod.fst→w0.sus= []→At w0 X0 n (jg args 0) s0 (Pw [] (jJ P f c (bodyPostM (rF none) 0 P fn (oO w0 X0 R pn))))):lE P f args s0 R pn:=by
  intro w X β us hd hX hgl ho hi hv
  have hl:=eF hv
  refine⟨⟨fn,hf,by simp [hb],hname⟩,(callsIn_wide (n:=0)).1 (KG hf hb (mj (h (bw w β s0 hd) X rfl rfl _ w ⟨β,X,.of (fun _ _ h=>h) (fun _ _ h=> .inl h) (.of ⟨rfl,rfl,rfl,Nat.le_refl _,fun _ _ _=>rfl,fun s hs=>by cases hs⟩ (c4.refl β) hX hd ho hi) hgl ?_ rfl (fun s hs=>by cases hs) (fun t v ht=>?_)⟩)))⟩
  · simp [hn];omega
  · obtain ⟨_, h2⟩ := m7 _ _ _ _ ht
    simp only [Nat.sub_zero]at h2
    obtain⟨u,g1,g2⟩:=ik hv h2
    have hlt:=(List.getElem?_eq_some_iff.1 g1).1
    refine⟨u,?_,g2⟩
    rw [Array.getElem?_append,if_pos aT]
    simpa using g1
end
end Go.Abs
-- Abs3
namespace Go.Abs
open Go Go.Eng Go.MapKept
instance {b:Nat} {f:Int→Option Value}:IsPure (.mc b f):=⟨by simp only [Pure]⟩
def qX (F:Int→Option Value):A→St→Prop:=fun r st=>∃b,r= .raw (.map (some b))∧st.get dQ=some [.mc b F]
theorem OB.Gx {β:Bm} {X:Xs} {w:World} {w0:Bw} {b:Nat} {F:Int→Option Value} (h:OB β X w w0 dQ [.mc b F]):β dQ=some (.mp b)∧w0.own b∧(∀o,¬X b o)∧∃es clk,w.heap[b]? =some (.map es clk)∧fm es clk F:=by
  unfold OB at h
  cases hb:β dQ with
  |none=>rw [hb]at h;exact h.elim
  | some y =>
    rw [hb]at h
    cases y with
    |ph=>cases h
    | bk q N =>
      obtain⟨_,_,us,rest,ty,_,_,h5,_⟩:=h
      simp only [VS,V]at h5
      obtain⟨_,_,_,h,_⟩:=h5
      exact h.elim
    | mp q =>
      obtain⟨_,h1,h2,g,es,clk,e,h4,h5⟩:=h
      simp only [List.cons.injEq,A.mc.injEq,and_true]at e
      obtain⟨e1,e2⟩:=e
      subst e1;subst e2
      exact⟨rfl,h1,h2,es,clk,h4,h5⟩
section
variable {P:Program} {w0:Bw} {X0:Xs} {n:Nat} {E:Ev} {st:St} {K:Act→World→Prop} {Q:Exit→Act→World→Prop}
theorem O5 {F : Int → Option Value} {d : Nat} {f : FuncId} {x : Operand} {xs : List Operand} {fs cs vs vs' : List A} {ats : Array TypeId} {ty : TypeId} {pos aft' g} (hx : ev E x = some (.fn (.func f) fs cs)) (hxs : eU E xs = some vs) (hv : cv st ⟨[]⟩ false (fs ++ vs ++ cs) vs')
    (hc:bO P f vs' (qX F)) (hfr:st.free dQ=true) (hd:Nat.ble (d+1) n=true) (h:∀b,At w0 X0 n ((d,.raw (.map (some b)))::E) (st.put dQ [.mc b F]) K):
    At w0 X0 n E st (fun a w=>(⟨some d,.call {callee:= .value x,args:=xs.toArray,argTypes:=ats},ty,pos,aft',g⟩:Oper).wp P a w K Q):=by
  rintro a w ⟨β,X,hr⟩
  refine oc hr hx hxs (s0:=⟨[]⟩) trivial hv hc fun v w' ⟨r,β',X',st',hR,hsup,hsub,hm,hvv⟩=>?_
  obtain⟨b,rfl,hg⟩:=hR
  obtain⟨m1,m2,m3,m4,m6⟩:=hm.after hr (fun id cs h=>by cases h) hsub hsup (upds:= []) (fun p hp=>by cases hp)
  rw [s5]at m1
  have hnx:=hr.mem.dom dQ hfr
  obtain⟨hβ,o1,o2,es,clk,hb,hF⟩:=(hm.obj dQ _ hg).Gx
  have o1:w.heap.size≤b:=by
    rcases o1 with h|⟨id',cs',h,_⟩
    · exact h
    · cases h
  have hnX:∀o,¬(X b o∨(X' b o∧(bw w (dY ⟨[]⟩ β) ⟨[]⟩ ff).own b)):=fun o h=>by
    rcases h with h|⟨h,_⟩
    · exact o2 o (hsup b o (.inl h))
    · exact o2 o h
  have m5 : Mem w0 (dI β dQ (.mp b)) (fun b o => X b o ∨ (X' b o ∧ (bw w (dY ⟨[]⟩ β) ⟨[]⟩ ff).own b)) (st.put dQ [.mc b F]) w' := by
    refine .of (m1.below) (fun k y h=>(dX hnx) k y (m1.b0 k y h)) (m1.xlt) (fun k h=>?_) (fun k es hk=>?_) (fun i j ci cj q M N' hij hi hj hbi hbj=>?_)
    · rw [St.gv] at h
      split at h
      · cases h
      · rename_i hne
        rw [dL (fun e=>hne e.symm)]
        exact hr.mem.dom k h
    · rw [St.dV] at hk
      split at hk
      · rename_i e; subst e
        simp only [Option.some.injEq]at hk
        subst hk
        unfold OB
        rw [cW]
        exact⟨rfl,Bw.mO hr.mem.below o1,hnX,F,_,clk,rfl,hb,hF⟩
      · refine (m1.obj k es hk).later (fun _ _ h => ⟨h, rfl⟩) (dX hnx) (fun q M hq => ⟨rfl, ?_⟩) fun q hq => ⟨rfl, ((m1.obj k es hk).gm hq).2.2.1⟩
        have hk':=m1.obj k es hk
        unfold OB at hk'
        rw [hq]at hk'
        exact hk'.2.1
    · rw [St.dV] at hi hj
      by_cases ei:dQ=i
      · subst ei;rw [cW]at hbi;cases hbi
      · rw [if_neg ei] at hi
        rw [dL (fun e=>ei e.symm)]at hbi
        by_cases ej:dQ=j
        · subst ej;rw [cW]at hbj;cases hbj
        · rw [if_neg ej] at hj
          rw [dL (fun e=>ej e.symm)]at hbj
          exact hr.mem.inj i j ci cj q M N' hij hi hj hbi hbj
  have hv':v= .map (some b):=by simpa only [V]using hvv
  exact h b _ _ ⟨_,_,hr.jF hd m2 m3 (dX hnx) m5 (by simp only [V];exact hv')⟩
theorem xd {F:Int→Option Value} {d:Nat} {f:FuncId} {xs:List Operand} {vs vs':List A} {ats:Array TypeId} {ty:TypeId} {pos aft' g} (hxs:eU E xs=some vs) (hv:cv st ⟨[]⟩ false vs vs')
    (hc:bO P f vs' (qX F)) (hfr:st.free dQ=true) (hd:Nat.ble (d+1) n=true) (h:∀b,At w0 X0 n ((d,.raw (.map (some b)))::E) (st.put dQ [.mc b F]) K):
    At w0 X0 n E st (fun a w=>(⟨some d,.call {callee:= .value (.func f),args:=xs.toArray,argTypes:=ats},ty,pos,aft',g⟩:Oper).wp P a w K Q):=
  O5 (fs:= []) (cs:= []) rfl hxs aQ hc hfr hd h
end
section
variable {P:Program} {w0:Bw} {X0:Xs} {n:Nat} {E:Ev} {st:St} {K:Act→World→Prop} {Q:Exit→Act→World→Prop}
theorem GD {d:Nat} {t e t' ty:TypeId} {x y:Operand} {m:Nat} {cs:List A} {pos bU g} (ht:P.underlying t=some (.slice e)) (hx:ev E x=some (.fz m cs)) (hy:ev E y=some .nl) (hd:Nat.ble (d+1) n=true)
    (h:∀q,At w0 X0 n ((d,.b q)::E) st K):At w0 X0 n E st (fun a w=>(⟨some d,.binOp .eql t x y t',ty,pos,bU,g⟩:Oper).wp P a w K Q):=by
  rintro a w ⟨β,X,hr⟩
  obtain⟨h1,h2⟩:=hr.cR hx
  obtain⟨h3,h4⟩:=hr.cR hy
  simp only [V]at h2 h4
  obtain⟨ad,cap,g1,_⟩:=h2
  rw [g1]at h1;rw [h4]at h3
  have hrun:=(Eng.yy (P:=P) (n:=a.tmps.size) (S:= [w]) (H:= []) (t':=t') (ty:=ty) ht h1 h3) (some d) pos bU g a w (fW a hr.defers) (Eng.Good.start w)
  unfold Oper.wp
  rw [hrun]
  exact h ad.isNone _ _ ⟨β,X,hr.jF hd (fun b o h=>⟨h,rfl⟩) (fun _ _ h=> .inl h) (c4.refl β) hr.mem (by simp only [V])⟩
end
def mapOf (σ:Int→Int):Int→Option Value:=fun k=>if σ k=0 then none else some (.int .i64 (σ k))
def mi (σ:Int→Int) (k v:Int):Int→Int:=fun j=>if j=k then v else σ j
theorem ON:(fun _=>none:Int→Option Value)=mapOf (fun _=>0):=by funext k;simp [mapOf]
theorem wW (σ:Int→Int) (k:Int):(mapOf σ k).getD (.int .i64 0)= .int .i64 (σ k):=by
  unfold mapOf
  split
  · rename_i h;rw [h];rfl
  · rfl
theorem OO {σ:Int→Int} {k v:Int} (h:v≠0):j8 (mapOf σ) k (.int .i64 v)=mapOf (mi σ k v):=by
  funext j
  unfold j8 mapOf mi
  by_cases e:j=k
  · simp [e,h]
  · simp [e]
theorem OM {σ:Int→Int} {k v:Int} (h:v=0):oe (j8 (mapOf σ) k (.int .i64 v)) k=mapOf (mi σ k v):=by
  funext j
  unfold oe j8 mapOf mi
  by_cases e:j=k
  · simp [e,h]
  · simp [e]
end Go.Abs
-- E5P
namespace Go.Abs.D2
open Go Go.Eng Go.Abs
structure Ch where
  id:Int
  st:Int
def Ch.cells (c:Ch):List A:= [.i .i64 c.id,.i .i64 c.st]
def jC (l:List Ch):List A:=l.flatMap Ch.cells
abbrev gD (l:List Ch):A:= .fz l.length (jC l)
structure Ep where
  iss:Int
  no:Int
  day:Int
  ch:List Ch
  dw:List UInt8
  prev:List UInt8
  sg:Lf
def Ep.cells (e:Ep):List A:= .i .i64 e.iss:: .i .i64 e.no:: .i .i64 e.day::gD e.ch::(e.dw.map u8++(e.prev.map u8++ [.i .i64 e.sg.a,dq e.sg.S,dq e.sg.P]))
def gE (l:List Ep):List A:=l.flatMap Ep.cells
abbrev fa (l:List Ep):A:= .fz l.length (gE l)
instance {c:Ch}:fL c.cells:=by unfold Ch.cells;infer_instance
instance {l:List Ch}:fL (jC l):=by unfold jC;infer_instance
instance {e:Ep}:fL e.cells:=by unfold Ep.cells;infer_instance
instance {l:List Ep}:fL (gE l):=by unfold gE;infer_instance
def rg (n:Int):Prop:= -9223372036854775808≤n∧n≤9223372036854775807
structure Ep.ok (e:Ep):Prop where
  iss:rg e.iss
  no:rg e.no
  day:rg e.day
  ch:∀c∈e.ch,rg c.id∧rg c.st
  k5:e.ch.length≤1000
  dw:e.dw.length=32
  prev:e.prev.length=32
  S:cm e.sg.S
  P:cm e.sg.P
def ga (l:List Ep):Prop:=∀e∈l,e.ok
@[simp] theorem Ch.len (c:Ch):c.cells.length=2:=rfl
theorem Ep.ok.len {e:Ep} (h:e.ok):e.cells.length=71:=by simp [Ep.cells,h.dw,h.prev]
theorem Ep.ok.all {e:Ep} (h:e.ok):e.cells.take 71=e.cells:=List.take_of_length_le (by rw [h.len];omega)
@[simp] theorem Un (l : List Ch) : (jC l).length = l.length * 2 := by
  unfold jC
  induction l with
  |nil=>rfl
  |cons c l ih=>rw [List.flatMap_cons,List.length_append,ih,List.length_cons,Ch.len];omega
theorem pc {l:List Ep} (h:ga l):(gE l).length=l.length*71:=by
  unfold gE
  induction l with
  |nil=>rfl
  |cons e l ih=>rw [List.flatMap_cons,List.length_append,ih (fun x hx=>h x (.tail _ hx)),List.length_cons,(h e (.head _)).len];omega
theorem zE {l:List Ch} {i:Nat} {c:Ch} (h:l[i]? =some c):((jC l).drop (i*2)).take 2=c.cells:=by
  unfold jC
  induction l generalizing i with
  |nil=>simp at h
  | cons d l ih =>
    rw [List.flatMap_cons]
    cases i with
    |zero=>simp at h;subst h;rfl
    |succ i=>rw [show(i+1)*2=d.cells.length+i*2 by rw [Ch.len];omega, ←List.drop_drop,List.drop_left];exact ih aN
theorem tN {l:List Ep} {i:Nat} {e:Ep} (hl:ga l) (h:l[i]? =some e):((gE l).drop (i*71)).take 71=e.cells:=by
  unfold gE
  induction l generalizing i with
  |nil=>simp at h
  | cons d l ih =>
    rw [List.flatMap_cons]
    have hd:=(hl d (.head _)).len
    cases i with
    |zero=>simp at h;subst h;rw [Nat.zero_mul,List.drop_zero,List.take_left' hd]
    |succ i=>rw [show(i+1)*71=d.cells.length+i*71 by rw [hd];omega, ←List.drop_drop,List.drop_left];exact ih (fun x hx=>hl x (.tail _ hx)) aN
theorem ry {l:List Ep} {i:Nat} {e:Ep} (hl:ga l) (h:l[i]? =some e) {k:Nat} {v:A} (hv:e.cells[k]? =some v) (hk:k<71):(((gE l).drop (i*71)).drop k)[0]? =some v:=by
  have e1:(((gE l).drop (i*71)).take 71)[k]? =some v:=by rw [tN hl h];exact hv
  rw [List.getElem?_take,if_pos hk]at e1
  rw [List.getElem?_drop,Nat.add_zero];exact e1
theorem Ez {e:Ep} (h:e.ok):(e.cells.drop 4).take 32=e.dw.map u8:=by
  show(e.dw.map u8++_).take 32=_
  rw [List.take_left' (by rw [List.length_map,h.dw])]
theorem ED {e:Ep} (h:e.ok):e.cells.drop 36=e.prev.map u8++ [.i .i64 e.sg.a,dq e.sg.S,dq e.sg.P]:=by
  show(e.dw.map u8++_).drop 32=_
  rw [List.drop_left' (by rw [List.length_map,h.dw])]
theorem EA {e:Ep} (h:e.ok):(e.cells.drop 36).take 32=e.prev.map u8:=by
  rw [ED h,List.take_left' (by rw [List.length_map,h.prev])]
theorem EB {e:Ep} (h:e.ok):e.cells.drop 68= [.i .i64 e.sg.a,dq e.sg.S,dq e.sg.P]:=by
  rw [show 68=36+32 from rfl, ←List.drop_drop,ED h,List.drop_left' (by rw [List.length_map,h.prev])]
theorem Mu {e:Ep} (h:e.ok):(e.cells.drop 68)[0]? =some (.i .i64 e.sg.a):=by rw [EB h];rfl
def iE (c:Ch):CV:=fc [dF c.id,dF c.st]
def kZ (e:Ep):CV:=fc [dF e.iss,dF e.no,dF e.day,fc (e.ch.map iE),fK e.dw,fK e.prev]
theorem Ps (c:Ch):(iE c).okB=true:=qG fun v hv=>by
  simp only [List.mem_cons,List.not_mem_nil,or_false]at hv
  rcases hv with rfl|rfl
  · exact qF _
  · exact qF _
theorem G2 (e:Ep):(kZ e).okB=true:=qG fun v hv=>by
  simp only [List.mem_cons,List.not_mem_nil,or_false]at hv
  rcases hv with rfl|rfl|rfl|rfl|rfl|rfl
  · exact qF _
  · exact qF _
  · exact qF _
  · exact qG fun v hv=>by obtain⟨c,_,rfl⟩:=List.mem_map.1 hv;exact Ps c
  · exact xo _
  · exact xo _
theorem LX (e : Ep) : (kZ e).depth ≤ 16 := by
  refine Nat.le_trans (qh (d:=2) fun v hv=>?_) ar
  simp only [List.mem_cons,List.not_mem_nil,or_false]at hv
  rcases hv with rfl|rfl|rfl|rfl|rfl|rfl
  · rw [qg];omega
  · rw [qg];omega
  · rw [qg];omega
  · exact qh (d:=1) fun v hv=>by
      obtain⟨c,_,rfl⟩:=List.mem_map.1 hv
      exact qh (d:=0) fun v hv=>by
        simp only [List.mem_cons,List.not_mem_nil,or_false]at hv
        rcases hv with rfl|rfl
        · rw [qg];exact Nat.le_refl _
        · rw [qg];exact Nat.le_refl _
  · rw [vV];omega
  · rw [vV];omega
theorem QO {c:Ch} (h:rg c.id∧rg c.st):(iE c).jZ=true:=qM fun v hv=>by
  simp only [List.mem_cons,List.not_mem_nil,or_false]at hv
  rcases hv with rfl|rfl
  · exact qL h.1.1 h.1.2
  · exact qL h.2.1 h.2.2
theorem QP {e:Ep} (h:e.ok):(kZ e).jZ=true:=qM fun v hv=>by
  simp only [List.mem_cons,List.not_mem_nil,or_false]at hv
  rcases hv with rfl|rfl|rfl|rfl|rfl|rfl
  · exact qL h.iss.1 h.iss.2
  · exact qL h.no.1 h.no.2
  · exact qL h.day.1 h.day.2
  · exact qM fun v hv=>by obtain⟨c,hc,rfl⟩:=List.mem_map.1 hv;exact QO (h.ch c hc)
  · exact xP _
  · exact xP _
theorem Mk {c:Ch} (h:rg c.id∧rg c.st):(iE c).enc.length≤36:=by
  have q:=ql (l:= [dF c.id,dF c.st]) aB
  have q1:=qj h.1.1 h.1.2
  have q2:=qj h.2.1 h.2.2
  simp only [CV.ey,List.length_append,List.length_nil]at q
  show(fc _).enc.length≤_
  omega
theorem Ac {e:Ep} (h:e.ok):(kZ e).enc.length≤40000:=by
  have hf:=h.k5
  have q:=ql (l:= [dF e.iss,dF e.no,dF e.day,fc (e.ch.map iE),fK e.dw,fK e.prev]) aB
  have q1:=qj h.iss.1 h.iss.2
  have q2:=qj h.no.1 h.no.2
  have q3:=qj h.day.1 h.day.2
  have q4:=ql (l:=e.ch.map iE) aL
  have q5:=z8 (l:=e.ch.map iE) (k:=36) fun v hv=>by obtain⟨c,hc,rfl⟩:=List.mem_map.1 hv;exact Mk (h.ch c hc)
  have q6:=vY (s:=e.dw) (by rw [h.dw];omega)
  have q7:=vY (s:=e.prev) (by rw [h.prev];omega)
  rw [List.length_map]at q5
  have:=h.dw
  have:=h.prev
  simp only [CV.ey,List.length_append,List.length_nil]at q
  show(fc _).enc.length≤_
  omega
theorem Sc {e:Ep} (h:e.ok):(kZ e).size≤1000000:=by
  have h1:=CV.BJ (kZ e).size (kZ e) (Nat.le_refl _) (G2 e)
  have h2:=Ac h
  omega
theorem Mg (e:Ep):qi (kZ e)= .tu [.fz (kZ e).enc.length ((kZ e).enc.map u8),.i .i64 0]:=tI (DJ (G2 e) (by have:=LX e;omega))
abbrev BR:List UInt8:= [101,112,111,99,104]
@[irreducible] def fk (e:Ep):List UInt8:=tagged BR (kZ e).enc
theorem vX (e:Ep):fk e=tagged BR (kZ e).enc:=by unfold fk;rfl
@[simp] theorem Ol (e:Ep):(fk e).length=32:=by rw [vX];simp
theorem KY {l:List Ch} {i:Nat} {c:Ch} (h:l[i]? =some c):CV.dA ((l.take i).map iE)++CV.cells (iE c)=CV.dA ((l.take (i+1)).map iE):=by
  rw [CV.rq,CV.rq,List.take_add_one,h];simp
theorem zK {x:List UInt8} (hx:x.length=32):A.fz 32 (((x.map u8).drop (0*1)).take (32*1))= .fz x.length (x.map u8):=by
  rw [Nat.zero_mul,List.drop_zero,List.take_of_length_le (by rw [List.length_map,hx];omega),hx]
def mz (σ:Int→Int) (last:Int) (c:Ch):Bool:=(((decide (last<c.id)&&decide (c.id<1024))&&decide (0≤c.st))&&decide (c.st≤4))&&((c.st !=σ c.id)&&(σ c.id !=2))
def fy (σ:Int→Int) (last:Int):List Ch→Bool
  | []=>true
  |c::r=>mz σ last c&&fy (mi σ c.id c.st) c.id r
theorem KV {σ:Int→Int} {la:Int} {c:Ch} (h:(((decide (c.id>la)&&decide (c.id<1024))&&decide (c.st≥0))&&decide (c.st≤4))=false):mz σ la c=false:=by
  unfold mz
  rw [show(((decide (la<c.id)&&decide (c.id<1024))&&decide (0≤c.st))&&decide (c.st≤4))=false from h];rfl
theorem KW {σ:Int→Int} {la:Int} {c:Ch} (h:((c.st !=σ c.id)&&(σ c.id !=2))=false):mz σ la c=false:=by
  unfold mz;rw [h,Bool.and_false]
theorem Dv {σ:Int→Int} {la:Int} {c:Ch} (h1:(((decide (c.id>la)&&decide (c.id<1024))&&decide (c.st≥0))&&decide (c.st≤4))=true) (h2:((c.st !=σ c.id)&&(σ c.id !=2))=true):mz σ la c=true:=by
  unfold mz
  rw [show(((decide (la<c.id)&&decide (c.id<1024))&&decide (0≤c.st))&&decide (c.st≤4))=true from h1,h2];rfl
def cF (σ:Int→Int):List Ch→Int→Int
  | []=>σ
  |c::r=>cF (mi σ c.id c.st) r
theorem Dw {σ:Int→Int} {last:Int} {l:List Ch} {i:Nat} {c:Ch} (h:l[i]? =some c) (hb:mz σ last c=false):fy σ last (l.drop i)=false:=by
  rw [List.drop_eq_getElem_cons (List.getElem?_eq_some_iff.1 h).1,(List.getElem?_eq_some_iff.1 h).2,fy,hb];rfl
theorem Dx {σ:Int→Int} {last:Int} {l:List Ch} {i:Nat} {c:Ch} (h:l[i]? =some c) (hb:mz σ last c=true):fy σ last (l.drop i)=fy (mi σ c.id c.st) c.id (l.drop (i+1)):=by
  rw [List.drop_eq_getElem_cons (List.getElem?_eq_some_iff.1 h).1,(List.getElem?_eq_some_iff.1 h).2,fy,hb];rfl
theorem DB {σ:Int→Int} {l:List Ch} {i:Nat} {c:Ch} (h:l[i]? =some c):cF σ (l.drop i)=cF (mi σ c.id c.st) (l.drop (i+1)):=by
  rw [List.drop_eq_getElem_cons (List.getElem?_eq_some_iff.1 h).1,(List.getElem?_eq_some_iff.1 h).2,cF]
def iX (iss:Int) (no:Nat) (day:Int) (prev:List UInt8) (e:Ep):Bool:=((e.iss==iss&&decide (0≤e.iss))&&decide (e.iss<8))&&(((e.no==(no:Int))&&(e.sg.a==(no:Int)))&&(e.prev==prev))&&(decide (day<e.day)&&decide (e.day<1024))
theorem NQ (a q:Int):a≠q∨(a=q∧a<0)∨(a=q∧0≤a∧8≤a)∨(a=q∧0≤a∧a<8):=by omega
theorem Af {iss:Int} {no:Nat} {day:Int} {prev:List UInt8} {e:Ep} (h:¬(e.iss=iss∧0≤e.iss∧e.iss<8)):iX iss no day prev e=false:=by
  cases hb:iX iss no day prev e with
  |false=>rfl
  |true=>unfold iX at hb;simp only [Bool.and_eq_true,decide_eq_true_eq,beq_iff_eq]at hb;omega
theorem Mr {iss:Int} {no:Nat} {day:Int} {prev:List UInt8} {e:Ep} (h:e.no=(no:Int)→e.sg.a=(no:Int)→¬e.prev=prev):iX iss no day prev e=false:=by
  cases hb:iX iss no day prev e with
  |false=>rfl
  |true=>unfold iX at hb;simp only [Bool.and_eq_true,decide_eq_true_eq,beq_iff_eq]at hb;exact absurd hb.1.2.2 (h hb.1.2.1.1 hb.1.2.1.2)
theorem Ms {iss:Int} {no:Nat} {day:Int} {prev:List UInt8} {e:Ep} (h:day<e.day→1024≤e.day):iX iss no day prev e=false:=by
  cases hb:iX iss no day prev e with
  |false=>rfl
  |true=>unfold iX at hb;simp only [Bool.and_eq_true,decide_eq_true_eq,beq_iff_eq]at hb;omega
theorem Mt {iss e0:Int} {no:Nat} {day:Int} {prev:List UInt8} {e:Ep} (h0:iss=e0) (h:e.iss=e0∧0≤e.iss∧e.iss<8) (h2:(e.no=(no:Int)∧e.sg.a=(no:Int))∧e.prev=prev) (h3:day<e.day∧e.day<1024):iX iss no day prev e=true:=by
  unfold iX;simp only [Bool.and_eq_true,decide_eq_true_eq,beq_iff_eq]
  exact⟨⟨⟨⟨by omega,h.2.1⟩,h.2.2⟩,h2⟩,h3⟩
def fN (iss:Int):Nat→Int→List UInt8→(Int→Int)→List Ep→Option (Int→Int)
  |_,_,_,σ, []=>some σ
  |no,day,prev,σ,e::r=>if iX iss no day prev e&&fy σ (-1) e.ch then fN iss (no+1) e.day (fk e) (cF σ e.ch) r else none
def lX:List Ep→Int
  | []=>0
  |e::_=>e.iss
abbrev σ0:Int→Int:=fun _=>0
@[irreducible] def dU (l:List Ep):Option (Int→Int):=fN (lX l) 0 (-1) zD σ0 l
theorem lU (l:List Ep):dU l=fN (lX l) 0 (-1) zD σ0 l:=by unfold dU;rfl
theorem NP {l:List Ep} {e:Ep} (h:l[0]? =some e):lX l=e.iss:=by
  cases l with
  |nil=>cases h
  |cons a l=>simp at h;subst h;rfl
theorem rE {iss:Int} {no:Nat} {day:Int} {prev:List UInt8} {σ:Int→Int} {l:List Ep} {i:Nat} {e:Ep} (h:l[i]? =some e) (hb:iX iss no day prev e=false∨fy σ (-1) e.ch=false):fN iss no day prev σ (l.drop i)=none:=by
  rw [List.drop_eq_getElem_cons (List.getElem?_eq_some_iff.1 h).1,(List.getElem?_eq_some_iff.1 h).2,fN]
  rcases hb with hb|hb
  · rw [hb,if_neg aB]
  · rw [hb,if_neg aB]
theorem M1 {iss:Int} {no:Nat} {day:Int} {prev:List UInt8} {σ:Int→Int} {l:List Ep} {i:Nat} {e:Ep} (h:l[i]? =some e) (hb:iX iss no day prev e=true) (hc:fy σ (-1) e.ch=true):
    fN iss no day prev σ (l.drop i)=fN iss (no+1) e.day (fk e) (cF σ e.ch) (l.drop (i+1)):=by
  rw [List.drop_eq_getElem_cons (List.getElem?_eq_some_iff.1 h).1,(List.getElem?_eq_some_iff.1 h).2,fN,hb,hc,if_pos aB]
@[irreducible] def eS (r:List UInt8) (n:Int) (l:List Ep):Int:=if(dU l).isSome then (if l.all (fun e=>gU r n (fk e) e.sg.a e.sg.S e.sg.P)then 0 else 60)else 351
theorem vO {r:List UInt8} {n:Int} {l:List Ep} (h:dU l=none):eS r n l=351:=by unfold eS;rw [h];rfl
theorem vN {r:List UInt8} {n:Int} {l:List Ep} {σ:Int→Int} (h:dU l=some σ) {e:Ep} (he:e∈l) (hv:gU r n (fk e) e.sg.a e.sg.S e.sg.P=false):eS r n l=60:=by
  unfold eS
  rw [h,if_pos (show(some σ).isSome=true from rfl),if_neg]
  intro hall
  rw [List.all_eq_true.1 hall e he]at hv;cases hv
theorem tC {r:List UInt8} {n:Int} {l:List Ep} {σ:Int→Int} (h:dU l=some σ) (hv:∀e∈l,gU r n (fk e) e.sg.a e.sg.S e.sg.P=true):eS r n l=0:=by
  unfold eS
  rw [h,if_pos (show(some σ).isSome=true from rfl),if_pos (List.all_eq_true.2 hv)]
abbrev ku (T:Nat) (e:Int):Value:= .iface T (.agg #[.int .i64 e])
theorem yM {X:Xs} {w:World} {β:Bm} (T:Nat) (e:Int):V X w β (.ic T (.ag [.i .i64 e])) (ku T e):=by
  simp only [V,VS]
  exact⟨_,rfl, [.int .i64 e],rfl,⟨_,_,rfl,rfl,rfl⟩,fun x hx=>by rw [List.mem_singleton.1 hx];rfl⟩
theorem xA {α:Type} (o:Option α):o=none∨∃a,o=some a:=by cases o<;>simp
theorem DR (r:List UInt8) (n:Int) (l:List Ep):eS r n l≠0∨∃σ,dU l=some σ∧eS r n l=0:=by
  rcases xA (dU l)with h|⟨σ,h⟩
  · exact .inl (by rw [vO h];decide)
  · by_cases h0 : eS r n l = 0
    · exact .inr ⟨σ,h,h0⟩
    · exact .inl h0
theorem Jy {l:List Ep} {i:Nat} {e:Ep} {p:Ep→Bool} (h:l[i]? =some e) (ha:∀x∈l.take i,p x=true) (he:p e=true):∀x∈l.take (i+1),p x=true:=fun x hx=>by
  rw [List.take_add_one,h]at hx
  rcases List.mem_append.1 hx with hx|hx
  · exact ha x hx
  · rw [List.mem_singleton.1 hx];exact he
theorem EC {e:Ep} (h:e.ok):(e.cells.drop 68).take 3= [.i .i64 e.sg.a,dq e.sg.S,dq e.sg.P]:=by rw [EB h];rfl
-- C4T
def two (e:CV):Bool:=decide (e.ls.length=2)
theorem IB {l:List A} {m m':List A} (h:jN m m'):jN (l++m) (l++m'):=by
  induction l with
  |nil=>exact h
  |cons a l ih=>exact .cons (.eq rfl) ih
def Sm (N:Nat) (u:CV):Prop:=(u.okB=true∧u.enc.length≤N)∨u=zV
theorem Sm.parts {N:Nat} {u:CV} (h:Sm N u):(∀e∈u.ls,Sm N e)∧u.st.length≤N∧u.ls.length≤N:=by
  rcases h with ⟨ho,hl⟩|rfl
  · obtain ⟨k, n, s, l⟩ := u
    rcases xp ho with rfl|rfl|⟨rfl,h1⟩
    · rw [CV.okB, if_pos rfl] at ho
      simp only [Bool.and_eq_true,List.isEmpty_iff]at ho
      obtain⟨rfl,rfl⟩:=ho
      exact⟨(fun e he=>by cases he),Nat.zero_le _,Nat.zero_le _⟩
    · rw [CV.okB, if_neg az, if_pos rfl] at ho
      simp only [Bool.and_eq_true,List.isEmpty_iff]at ho
      obtain⟨_,rfl⟩:=ho
      have:=Mi n s []
      exact⟨(fun e he=>by cases he),show s.length≤N by omega,Nat.zero_le _⟩
    · rw [CV.okB, if_neg az, if_neg az, if_pos rfl] at ho
      simp only [Bool.and_eq_true,List.isEmpty_iff]at ho
      obtain⟨⟨_,rfl⟩,_⟩:=ho
      rw [CV.rX]at h1
      have e1:=Mj n [] l
      have e2:=CV.AO l
      exact⟨fun e he=> .inl ⟨List.all_eq_true.1 h1 e he,by have:=Gt (show e∈l from he);omega⟩,Nat.zero_le _,show l.length≤N by omega⟩
  · exact⟨(fun e he=>by cases he),Nat.zero_le _,Nat.zero_le _⟩
theorem Sm.nth {N:Nat} {u:CV} (h:Sm N u) (i:Nat):Sm N (np u i):=by
  unfold np
  rw [List.getD_eq_getElem?_getD]
  cases hi:u.ls[i]? with
  |none=>exact .inr rfl
  |some e=>exact h.parts.1 e (List.mem_of_getElem? hi)
theorem Sm.dw {N:Nat} {v:CV} (h:Sm N v):(∀f∈(Bp v).F,f.D.length≤N)∧(Bp v).E.length≤N∧(Bp v).F.length≤N:=by
  refine⟨fun f hf=>?_,?_,?_⟩
  · obtain ⟨i, hi⟩ := List.mem_iff_getElem?.1 hf
    have hi:(List.mapIdx EP (np v 1).ls)[i]? =some f:=hi
    rw [List.getElem?_mapIdx]at hi
    obtain⟨e,he,rfl⟩:=Option.map_eq_some_iff.1 hi
    exact(((h.nth 1).parts.1 e (List.mem_of_getElem? he)).nth 1).parts.2.1
  · show ((np v 2).ls.map CV.nm).length ≤ N
    rw [List.length_map];exact(h.nth 2).parts.2.2
  · show (wk (np v 1).ls).length ≤ N
    rw [On];exact(h.nth 1).parts.2.2
-- V6S
def wI (p q:List UInt8):Nat→List UInt8
  |0=>List.replicate 16 0
  |i+1=>(wI p q i).set i (p.getD i 0 ^^^ q.getD i 0)
@[simp] theorem Oo (p q : List UInt8) : ∀ i, (wI p q i).length = 16
  |0=>by simp [wI]
  |i+1=>by rw [wI,List.length_set,Oo p q i]
theorem Fh {l:List Bool} {i:Nat} {b:Bool} (h:l[i]? =some b):((l.map A.b).drop (i*1))[0]? =some (.b b):=by
  rw [List.getElem?_drop,show i*1+0=i by omega,List.getElem?_map,h];rfl
-- S7V
theorem Io:∀ {a b:List UInt8},a.map u8=b.map u8→a=b
  | [], [],_=>rfl
  | [],_::_,h=>by cases h
  |_::_, [],h=>by cases h
  | x :: a, y :: b, h => by
    simp only [List.map_cons,List.cons.injEq]at h
    have h1:(x.toNat:Int)=(y.toNat:Int):=by
      have:=h.1
      simp only [u8,A.i.injEq,true_and]at this
      exact this
    have:x=y:=UInt8.toNat_inj.1 ar
    rw [this,Io h.2]
theorem vM {x : List UInt8} {p q : List Int} (h : jU p q = true) : eB (fq x p q) = true := by
  have hsub:=vu x p q (eZ x p q)
  have hE:=Ad x p q
  have hasc : ∀ n, eD (bS x p q n).2.1 = true ∧ eD (bS x p q n).2.2 = true := by
    intro n
    induction n with
    | zero =>
      unfold jU at h
      simp only [Bool.and_eq_true]at h
      exact⟨h.1.1,h.1.2⟩
    | succ n ih =>
      refine⟨?_,ih.1⟩
      rw [bS]
      have key:∀(l:List Int) (f:Int→Bool) (last:Int),gh last l=true→gh last (l.filter f)=true:=by
        intro l f
        induction l with
        |nil=>intro last _;rfl
        | cons a l ih2 =>
          intro last hl
          simp only [gh,Bool.and_eq_true,decide_eq_true_eq]at hl
          cases hf:f a with
          | true =>
            rw [List.filter_cons_of_pos hf]
            simp only [gh,Bool.and_eq_true,decide_eq_true_eq]
            exact⟨hl.1,ih2 _ hl.2⟩
          | false =>
            rw [List.filter_cons_of_neg (by rw [hf];simp)]
            have h3:=ih2 a hl.2
            have mono:∀(m:List Int) (u v:Int),u≤v→gh v m=true→gh u m=true:=by
              intro m u v huv hm
              cases m with
              |nil=>rfl
              | cons b m =>
                simp only [gh,Bool.and_eq_true,decide_eq_true_eq]at hm ⊢
                exact⟨⟨by omega,hm.1.2⟩,hm.2⟩
            exact mono _ _ _ ar h3
      exact key _ _ _ ih.2
  have hlev:∀n,n≤16→∀F:List cY,(∀i,i<F.length→∃a,F[i]? =some (jq x (n+i) a))→n+F.length≤16→gx n F=true:=by
    intro n hn F
    induction F generalizing n with
    |nil=>intro _ _;rfl
    | cons f F ih =>
      intro hF hl
      rw [List.length_cons]at hl
      obtain⟨a,ha⟩:=hF 0 aB
      simp only [List.getElem?_cons_zero,Option.some.injEq,Nat.add_zero]at ha
      subst ha
      simp only [gx,Bool.and_eq_true,decide_eq_true_eq]
      refine⟨⟨rfl,DL x n a ar⟩,ih (n+1) ar (fun i hi=>?_) ar⟩
      obtain⟨b,hb⟩:=hF (i+1) (by rw [List.length_cons];omega)
      exact⟨b,by rw [List.getElem?_cons_succ]at hb;rw [hb,show n+1+i=n+(i+1) by omega]⟩
  refine DH ?_ (hasc _).1 ?_
  · show (bS x p q (eZ x p q)).1.length ≤ 16
    rw [k9];exact hE
  · refine hlev 0 ar _ (fun i hi => ?_) ?_
    · have hi' : i < eZ x p q := by
        have:i<(bS x p q (eZ x p q)).1.length:=hi
        rwa [k9]at this
      exact⟨_,by rw [Nat.zero_add];exact zi x p q _ i hi'⟩
    · show 0 + (bS x p q (eZ x p q)).1.length ≤ 16
      rw [k9];omega
theorem vT {c:cq}:(eC (eM c) 520).any fO=false:=by
  rw [List.any_eq_false]
  intro b hb
  unfold eC at hb
  obtain⟨i,hi,rfl⟩:=List.mem_map.1 hb
  simp [fO,FY (F3 c) (List.mem_range.1 hi)]
theorem C4 {c:cq}:∀ {ids:List Int} {n k:Nat},n<ids.length→k<33→(cE c ids)[33*n+k]? =(ie c (ids.getD n 0).toNat)[k]?
  | [],_,_,h,_=>by simp at h
  | a :: ids, n, k, h, hk => by
    unfold cE
    rw [List.flatMap_cons]
    cases n with
    |zero=>rw [show 33*0+k=k by omega,List.getElem?_append_left (by rw [ld];exact hk)];rfl
    | succ n =>
      rw [List.getElem?_append_right (by rw [ld];omega),ld,show 33*(n+1)+k - 33=33*n+k by omega]
      have:=C4 (c:=c) (ids:=ids) (n:=n) (k:=k) aN hk
      unfold cE at this
      rw [this];rfl
theorem HU {db ms:List (List UInt8)} (hdb:∀b∈db,b.length=16) (h:ms.length=132):fP (ms.map (V6.answer db)) 132=true:=by
  unfold fP
  rw [List.length_map,h,Bool.and_eq_true]
  refine⟨rfl,?_⟩
  rw [Bool.not_eq_true',List.any_eq_false]
  intro x hx
  obtain⟨m,_,rfl⟩:=List.mem_map.1 hx
  have:=congrArg (fun v:A=>match v with| .fz n _=>n|_=>0) (yW hdb m)
  simp only at this
  simp [fO, ←this]
theorem Q7 {c : cq} {ids : List Int} {coins a b : List (List UInt8)} (hk : eW c ids = true) (hR : ∀ k, k < coins.length → V6.Round (520 : Nat) (cE c ids) coins a b k) (hc : coins.length = 132) (ha : a.length = 132) (hb : b.length = 132) {n j : Nat} (hn : ids[n]? = some (j : Int)) :
    j0 (a.map (V6.answer (eC (eM c) 520))) (b.map (V6.answer (eC (eM c) 520))) n 33=nZ c j:=by
  obtain⟨_,hi4,hall⟩:=lJ hk
  have hnl:=(List.getElem?_eq_some_iff.1 hn).1
  have hj:j<1024:=by
    obtain⟨j',e,h⟩:=qD (hall _ (List.mem_of_getElem? hn))
    omega
  have hal:=pb c ids
  apply List.ext_getElem?
  intro k
  rcases Nat.lt_or_ge k 33 with h|h
  · have h132 : 33 * n + k < coins.length := by omega
    obtain⟨i,x,y,d,hw,hi,hd,hx,hy,hjn⟩:=Qs (db:=eC (eM c) 520) vT (by rw [wN];exact hR _ h132) h132 ar ar
    have hwk:(ie c j)[k]? =some (i:Int):=by
      have h1:=C4 (c:=c) (ids:=ids) hnl h
      rw [show(ids.getD n 0).toNat=j by rw [List.getD,hn];rfl]at h1
      rw [←h1]
      rw [←hw,V6.sM ar]
      simp [List.getD,List.getElem?_eq_getElem (show 33*n+k<(cE c ids).length by omega)]
    have hdi:d=lM (eM c) i:=by
      unfold eC at hd
      rw [List.getElem?_map,List.getElem?_range (by rw [wN]at hi;exact hi)]at hd
      simpa using hd.symm
    have hxy:V6.dR (V6.answer (eC (eM c) 520) x) (V6.answer (eC (eM c) 520) y)=d:=by
      have h16:∀q∈eC (eM c) 520,q.length=16:=fun q hq=>by
        have:=(List.any_eq_false.1 (vT (c:=c))) q hq
        simpa [fO]using this
      have l1:∀m,(V6.answer (eC (eM c) 520) m).length=16:=fun m=>by
        have:=congrArg (fun v:A=>match v with| .fz n _=>n|_=>0) (yW h16 m)
        exact this.symm
      rw [FK (l1 x) (l1 y)]at hjn
      simp only [A.tu.injEq,List.cons.injEq,and_true]at hjn
      have h2:(V6.dR (V6.answer (eC (eM c) 520) x) (V6.answer (eC (eM c) 520) y)).map u8=d.map u8:=by
        have:=congrArg (fun v:A=>match v with| .fz _ cs=>cs|_=> []) hjn
        exact this
      exact Io h2
    unfold j0 nZ
    rw [List.getElem?_map,List.getElem?_range h,List.getElem?_map,hwk]
    simp only [Option.map_some,Int.toNat_natCast]
    rw [show(a.map (V6.answer (eC (eM c) 520))).getD (33*n+k) []=V6.answer (eC (eM c) 520) x by rw [List.getD,hx,Option.getD_some],show(b.map (V6.answer (eC (eM c) 520))).getD (33*n+k) []=V6.answer (eC (eM c) 520) y by rw [List.getD,hy,Option.getD_some],hxy,hdi]
  · rw [List.getElem?_eq_none (by rw [AR];exact h),List.getElem?_eq_none (by rw [nZ,List.length_map,ld];exact h)]
theorem D3 {c:cq}:∀q∈eC (eM c) 520,q.length=16:=fun q hq=>by
  have:=(List.any_eq_false.1 (vT (c:=c))) q hq
  simpa [fO]using this
abbrev Al (c:cq) (ids:List Int):List Bool:=ids.map fun id=>rI c id.toNat
theorem QJ {c:cq} (hck:eB c=true) {ids:List Int} {coins a b:List (List UInt8)} (hk:eW c ids=true) (hR:∀k,k<coins.length→V6.Round (520:Nat) (cE c ids) coins a b k) (hc:coins.length=132) (ha:a.length=132) (hb:b.length=132) {fill:UInt8}:
    pz (lW c fill) ids (a.map (V6.answer (eC (eM c) 520))) (b.map (V6.answer (eC (eM c) 520)))= .tu [oa (Al c ids),.i .i64 0]:=by
  have hrs:kQ (lW c fill) ids (a.map (V6.answer (eC (eM c) 520))) (b.map (V6.answer (eC (eM c) 520)))=true:=by
    unfold kQ
    rw [CU,hk,HU D3 ha,HU D3 hb];rfl
  rw [xL hrs]
  obtain⟨_,_,hall⟩:=lJ hk
  have e:jG (lW c fill) ids (a.map (V6.answer (eC (eM c) 520))) (b.map (V6.answer (eC (eM c) 520))) ids.length=Al c ids:=by
    apply List.ext_getElem?
    intro n
    rcases Nat.lt_or_ge n ids.length with h|h
    · obtain ⟨v, hv⟩ : ∃ v, ids[n]? = some v := ⟨_, List.getElem?_eq_getElem h⟩
      obtain⟨j,rfl,hj⟩:=qD (hall v (List.mem_of_getElem? hv))
      unfold jG
      rw [List.getElem?_map,List.getElem?_range h,List.getElem?_map,hv]
      simp only [Option.map_some]
      rw [show(ids.getD n 0).toNat=j by rw [List.getD,hv,Option.getD_some,Int.toNat_natCast],Q7 hk hR hc ha hb hv,Hn,Qq hck,Int.toNat_natCast]
    · rw [List.getElem?_eq_none (by rw [F7];exact h),List.getElem?_eq_none (by rw [List.length_map];exact h)]
  rw [e]
theorem JH {c:cq} {ids:List Int} {coins a b:List (List UInt8)} (hR:∀k,k<coins.length→V6.Round (520:Nat) (cE c ids) coins a b k) (hc:coins.length=132) (ha:a.length=132) (hb:b.length=132):iC (eC (eM c) 520) a=true∧iC (eC (eM c) 520) b=true:=by
  rcases Qu (db:=eC (eM c) 520) (at1:=cE c ids) (coins:=coins) (a:=a) (b:=b) ar ar ar ar (by rw [wN];exact hR)with ⟨h,_⟩|⟨_,h⟩
  · rw [vT]at h;cases h
  · exact h
-- C4U
theorem vE {x:List UInt8} {p q:List Int} (hp:p.length≤100) (hq:q.length≤100):(fq x p q).E.length≤100∧(fq x p q).F.length≤16:=by
  refine⟨(vt hp hq _).1,?_⟩
  show(bS x p q (eZ x p q)).1.length≤16
  rw [k9];exact Ad x p q
-- E5Q
def ec (σ:Int→Int) (l:List Int):List Int:=l.filter fun n=>σ n !=0
def eL (σ:Int→Int) (l:List Int):List Int:=l.filter fun n=>!(σ n !=0)
def fA (σ:Int→Int):List Int:=((List.range 1024).map fun k:Nat=>(k:Int)).filter fun n=>σ n !=0
def jB (σ:Int→Int):Prop:=∀k,σ k≠0→0≤k∧k<1024
theorem SG:jB σ0:=fun _ h=>absurd rfl h
theorem AL (σ:Int→Int):(fA σ).Nodup:=by
  refine List.Nodup.sublist List.filter_sublist ?_
  rw [List.nodup_iff_pairwise_ne,List.pairwise_map]
  exact List.nodup_iff_pairwise_ne.1 List.nodup_range |>.imp fun h e=>h ar
theorem wK {σ:Int→Int} (h:jB σ) (k:Int):(mapOf σ k).isSome=true↔k∈fA σ:=by
  unfold fA mapOf
  rw [List.mem_filter]
  constructor
  · intro hs
    by_cases h0:σ k=0
    · rw [if_pos h0]at hs;cases hs
    · obtain ⟨h1, h2⟩ := h k h0
      exact⟨List.mem_map.2 ⟨k.toNat,List.mem_range.2 ar,by omega⟩,bne_iff_ne.2 h0⟩
  · rintro ⟨_, h0⟩
    rw [if_neg (bne_iff_ne.1 h0)];rfl
@[irreducible] def iT (σ:Int→Int) (l:List Int):Bool:=eD l&&decide ((ec σ l).length=(fA σ).length)
theorem HZ {σ:Int→Int} {l:List Int} (h:eD l=false):iT σ l=false:=by unfold iT;rw [h];rfl
theorem Sj {σ:Int→Int} {l:List Int} (h:(ec σ l).length≠(fA σ).length):iT σ l=false:=by unfold iT;rw [decide_eq_false h,Bool.and_false]
theorem Sk {σ:Int→Int} {l:List Int} (h1:eD l=true) (h:(ec σ l).length=(fA σ).length):iT σ l=true:=by unfold iT;rw [h1,decide_eq_true h];rfl
theorem BO {σ:Int→Int} {l:List Int} (h:iT σ l=true):eD l=true:=by
  cases hl:eD l with
  |true=>rfl
  |false=>rw [HZ hl]at h;cases h
theorem zj {σ:Int→Int} {l:List Int} {i:Nat} {n:Int} (h:l[i]? =some n) (hn:σ n≠0):ec σ (l.take (i+1))=ec σ (l.take i)++ [n]∧eL σ (l.take (i+1))=eL σ (l.take i):=by
  unfold ec eL
  rw [List.take_add_one,h,List.filter_append,List.filter_append]
  simp [hn]
theorem zk {σ:Int→Int} {l:List Int} {i:Nat} {n:Int} (h:l[i]? =some n) (hn:σ n=0):ec σ (l.take (i+1))=ec σ (l.take i)∧eL σ (l.take (i+1))=eL σ (l.take i)++ [n]:=by
  unfold ec eL
  rw [List.take_add_one,h,List.filter_append,List.filter_append]
  simp [hn]
theorem qx (σ:Int→Int) (l:List Int):(ec σ l).length≤l.length:=List.length_filter_le ..
theorem qy (σ:Int→Int) (l:List Int):(eL σ l).length≤l.length:=List.length_filter_le ..
theorem vl {p:Int→Bool}:∀ {l:List Int} {a b:Int},a≤b→gh b l=true→gh a (l.filter p)=true
  | [],_,_,_,_=>rfl
  | n :: l, a, b, hab, h => by
    simp only [gh,Bool.and_eq_true,decide_eq_true_eq]at h
    rw [List.filter_cons]
    split
    · simp only [gh, Bool.and_eq_true, decide_eq_true_eq]
      exact⟨⟨by omega,h.1.2⟩,vl (Int.le_refl _) h.2⟩
    · exact vl (b:=n) ar h.2
theorem oB {σ:Int→Int} {l:List Int} (h:eD l=true):jU (ec σ l) (eL σ l)=true:=by
  unfold jU
  have h1:eD (ec σ l)=true:=vl (Int.le_refl _) h
  have h2:eD (eL σ l)=true:=vl (Int.le_refl _) h
  rw [h1,h2]
  show Go.Eng.lR _ _=true
  unfold Go.Eng.lR
  rw [List.all_eq_true]
  intro n hn
  have h3:=(List.mem_filter.1 hn).2
  rw [Bool.not_eq_true',decide_eq_false_iff_not]
  intro hb
  have h4:=(List.mem_filter.1 hb).2
  rw [h4]at h3;cases h3
abbrev uJ:List UInt8:= [115,97,108,116]
@[irreducible] def kz (x:List UInt8) (no:Nat):List UInt8:=tagged uJ (x++fZ (no:Int) 4)
theorem xS (x:List UInt8) (no:Nat):kz x no=tagged uJ (x++fZ (no:Int) 4):=by unfold kz;rfl
@[simp] theorem fH (x:List UInt8) (no:Nat):(kz x no).length=32:=by rw [xS];simp
def cJ (x:List UInt8) (no:Nat) (σ:Int→Int) (ids:List Int):cq:=fq (kz x no) (ec σ ids) (eL σ ids)
def k8 (l:List Ep):List UInt8:=match l.getLast? with
  |none=>zD
  |some e=>fk e
def gP (x:List UInt8) (l:List Ep) (iss day:Int) (ids:List Int) (c:List Ch) (σ:Int→Int):Ep:=⟨iss,(l.length:Nat),day,c,mA (cJ x l.length σ ids),k8 l,⟨0, [], []⟩⟩
def iK (x:List UInt8) (k:Nat) (l:List Ep) (iss day:Int) (ids:List Int) (c:List Ch) (σ:Int→Int):Ep:=
  {gP x l iss day ids c σ with sg:=⟨(l.length:Nat),lz (iR x (l.length:Nat)) (fk (gP x l iss day ids c σ)),path (fB x k) l.length⟩}
theorem L2 (e:Ep) (s:Lf):fk {e with sg:=s}=fk e:=by rw [vX,vX];rfl
def rf (iss day:Int):Bool:=((decide (iss≥0)&&decide (iss<8))&&decide (day≥0))&&decide (day<1024)
def nk (l:List Ep) (iss day:Int):Bool:=match l.getLast? with
  |none=>true
  |some e=>(iss==e.iss)&&decide (day>e.day)
@[irreducible] def gy (x : List UInt8) (n : Int) (l : List Ep) (iss day : Int) (ids : List Int) (c : List Ch) : Int ⊕ Ep :=
  if ek n then
    match dU l with
    |none=> .inl 351
    | some σ => if eS (fY x n) n l = 0 then
        if(l.length:Int)=n then .inl 2 else if rf iss day&&(nk l iss day&&(fy σ (-1) c&&iT (cF σ c) ids))then .inr (iK x n.toNat l iss day ids c (cF σ c))else .inl 351
      else .inl (eS (fY x n) n l)
  else .inl 60
def QG (l:List Ep):Int ⊕ Ep→A
  | .inl e=> .tu [.nl,.i .i64 e]
  | .inr e=> .tu [fa (l++ [e]),.i .i64 0]
section
variable {x:List UInt8} {n:Int} {l:List Ep} {iss day:Int} {ids:List Int} {c:List Ch} {σ:Int→Int}
theorem Hf (h:¬ek n):gy x n l iss day ids c= .inl 60:=by unfold gy;rw [if_neg h]
theorem Bj (h:ek n) (h2:eS (fY x n) n l≠0):gy x n l iss day ids c= .inl (eS (fY x n) n l):=by
  unfold gy
  rw [if_pos h]
  cases hf:dU l with
  |none=>simp only;rw [vO hf]
  |some σ=>simp only;rw [if_neg h2]
theorem Hg (h:ek n) (hf:dU l=some σ) (h2:eS (fY x n) n l=0) (h3:(l.length:Int)=n):gy x n l iss day ids c= .inl 2:=by
  unfold gy;rw [if_pos h,hf];simp only;rw [if_pos h2,if_pos h3]
theorem nu (h:ek n) (hf:dU l=some σ) (h2:eS (fY x n) n l=0) (h3:¬(l.length:Int)=n) (h4:rf iss day=false∨nk l iss day=false∨fy σ (-1) c=false∨iT (cF σ c) ids=false):gy x n l iss day ids c= .inl 351:=by
  unfold gy;rw [if_pos h,hf];simp only;rw [if_pos h2,if_neg h3,if_neg]
  rcases h4 with h4|h4|h4|h4<;>simp [h4]
theorem xF (h:ek n) (hf:dU l=some σ) (h2:eS (fY x n) n l=0) (h3:¬(l.length:Int)=n) (h4:rf iss day=true) (h5:nk l iss day=true) (h6:fy σ (-1) c=true) (h7:iT (cF σ c) ids=true):gy x n l iss day ids c= .inr (iK x n.toNat l iss day ids c (cF σ c)):=by
  unfold gy;rw [if_pos h,hf];simp only;rw [if_pos h2,if_neg h3,if_pos (by simp [h4,h5,h6,h7])]
theorem Od (h:l= []):nk l iss day=true∧k8 l=zD:=by subst h;exact⟨rfl,rfl⟩
theorem Oc {e:Ep} (h:l[l.length - 1]? =some e):nk l iss day=((iss==e.iss)&&decide (day>e.day))∧k8 l=fk e:=by
  have:l.getLast?=some e:=by rw [List.getLast?_eq_getElem?];exact h
  unfold nk k8;rw [this];exact⟨rfl,rfl⟩
end
theorem sG:∀ {c:List Ch} {σ:Int→Int} {la:Int},jB σ→ -1≤la→fy σ la c=true→jB (cF σ c)
  | [],_,_,h,_,_=>h
  | c :: r, σ, la, h, hla, hk => by
    simp only [fy,mz,Bool.and_eq_true,decide_eq_true_eq]at hk
    obtain⟨⟨⟨⟨⟨h1,h2⟩,_⟩,_⟩,_⟩,h3⟩:=hk
    refine sG (c:=r) (la:=c.id) (fun k hk=>?_) ar h3
    unfold mi at hk
    split at hk
    · omega
    · exact h k hk
theorem Ic:∀ {l:List Ep} {iss:Int} {no:Nat} {day:Int} {prev:List UInt8} {σ τ:Int→Int},jB σ→fN iss no day prev σ l=some τ→jB τ
  | [],_,_,_,_,_,_,h,hf=>by cases hf;exact h
  | e :: r, iss, no, day, prev, σ, τ, h, hf => by
    rw [fN]at hf
    split at hf
    · rename_i hb
      simp only [Bool.and_eq_true]at hb
      exact Ic (sG h ar hb.2) hf
    · cases hf
theorem xZ {l:List Ep} {σ:Int→Int} (h:dU l=some σ):jB σ:=by rw [lU]at h;exact Ic SG h
theorem Fe : ∀ {l : List Ep} {iss : Int} {no : Nat} {day : Int} {prev : List UInt8} {σ τ : Int → Int}, fN iss no day prev σ l = some τ → ∀ i e, l[i]? = some e → e.sg.a = ((no + i : Nat) : Int)
  | [],_,_,_,_,_,_,_,i,e,h=>by simp at h
  | e :: r, iss, no, day, prev, σ, τ, hf, i, a, h => by
    rw [fN]at hf
    split at hf
    · rename_i hb
      simp only [Bool.and_eq_true,iX,beq_iff_eq]at hb
      cases i with
      |zero=>simp at h;subst h;simpa using hb.1.1.2.1.2
      | succ i =>
        have:=Fe hf i a aN
        rw [this];congr 1;omega
    · cases hf
theorem DI {r:List UInt8} {k:Nat} {l:List Ep} {σ:Int→Int} (hf:dU l=some σ) (h:eS r (k:Int) l=0):l.length≤k:=by
  rcases Nat.eq_zero_or_pos l.length with h0|h0
  · omega
  · obtain ⟨e, he⟩ : ∃ e, l[l.length - 1]? = some e := ⟨_, List.getElem?_eq_getElem ar⟩
    have hv:gU r k (fk e) e.sg.a e.sg.S e.sg.P=true:=by
      cases hv:gU r k (fk e) e.sg.a e.sg.S e.sg.P with
      |true=>rfl
      |false=>rw [vN hf (List.mem_of_getElem? he) hv]at h;cases h
    have h1:=(Tv hv).2.1
    rw [lU]at hf
    have h2:=Fe hf _ e he
    unfold ji at h1
    omega
def gZ (iss no day:Int) (c:List Ch) (dw prev:List UInt8):List A:= .i .i64 iss:: .i .i64 no:: .i .i64 day::gD c::(dw.map u8++(prev.map u8++ [.i .i64 0,.nl,.nl]))
instance {iss no day:Int} {c:List Ch} {dw prev:List UInt8}:fL (gZ iss no day c dw prev):=by unfold gZ;infer_instance
theorem A9 {iss no day:Int} {c:List Ch} {dw prev:List UInt8} (h1:dw.length=32) (h2:prev.length=32):(gZ iss no day c dw prev).length=71:=by simp [gZ,h1,h2]
theorem Pn {iss no day:Int} {c:List Ch} {dw prev q:List UInt8} (h1:dw.length=32) (h2:prev.length=32):(gZ iss no day c dw prev).take 36++q.map u8++(gZ iss no day c dw prev).drop 68=gZ iss no day c dw q:=by
  have e1:(gZ iss no day c dw prev).take 36= .i .i64 iss:: .i .i64 no:: .i .i64 day::gD c::dw.map u8:=by
    show _::_::_::_::((dw.map u8++_).take 32)=_
    rw [List.take_left' (by rw [List.length_map,h1])]
  have e2:(gZ iss no day c dw prev).drop 68= [.i .i64 0,.nl,.nl]:=by
    show((dw.map u8++(prev.map u8++_)).drop 64)=_
    rw [←List.append_assoc,List.drop_left' (by rw [List.length_append,List.length_map,List.length_map,h1,h2])]
  rw [e1,e2]
  simp [gZ]
theorem GS {iss no day:Int} {c:List Ch} {dw prev q:List UInt8} (h1:dw.length=32):(gZ iss no day c dw prev).take 4++q.map u8++(gZ iss no day c dw prev).drop 36=gZ iss no day c q prev:=by
  have e2:(gZ iss no day c dw prev).drop 36=prev.map u8++ [.i .i64 0,.nl,.nl]:=by
    show((dw.map u8++_).drop 32)=_
    rw [List.drop_left' (by rw [List.length_map,h1])]
  rw [e2]
  simp [gZ]
theorem GV {x:List UInt8} {l:List Ep} {iss day:Int} {ids:List Int} {c:List Ch} {σ:Int→Int}:jN (gZ iss (l.length:Nat) day c (mA (cJ x l.length σ ids)) (k8 l)) (gP x l iss day ids c σ).cells:=by
  unfold gZ gP Ep.cells
  exact .cons (.eq rfl) (.cons (.eq rfl) (.cons (.eq rfl) (.cons (.eq rfl) (IB (IB (.cons (.eq rfl) (.cons .nl (.cons .nl .nil))))))))
@[simp] theorem wP (l : List Ep) : (k8 l).length = 32 := by
  unfold k8
  split
  · rfl
  · simp
theorem Cl:cm []:=fun y hy=>by cases hy
theorem GG {x:List UInt8} {l:List Ep} {iss day:Int} {ids:List Int} {c:List Ch} {σ:Int→Int} (hn:l.length≤1000) (hi:rg iss) (hd:rg day) (hc:c.length≤1000) (hcr:∀e∈c,rg e.id∧rg e.st):(gP x l iss day ids c σ).ok:=
  ⟨hi,⟨by show(-9223372036854775808:Int)≤(l.length:Nat);omega,by show((l.length:Nat):Int)≤9223372036854775807;omega⟩,hd,hcr,hc,F1 _,wP _,Cl,Cl⟩
theorem xf {x:List UInt8} {k:Nat} {l:List Ep} {iss day:Int} {ids:List Int} {c:List Ch} {σ:Int→Int} (hn:l.length≤1000) (hi:rg iss) (hd:rg day) (hc:c.length≤1000) (hcr:∀e∈c,rg e.id∧rg e.st):(iK x k l iss day ids c σ).ok:=
  ⟨hi,⟨by show(-9223372036854775808:Int)≤(l.length:Nat);omega,by show((l.length:Nat):Int)≤9223372036854775807;omega⟩,hd,hcr,hc,F1 _,wP _,I1 _ _,qV _ _ _ (Nat.le_refl _)⟩
theorem GU {e:Ep} {s:Lf} (h:e.ok):e.cells.take 68++ [.i .i64 s.a,dq s.S,dq s.P]++e.cells.drop 71=({e with sg:=s}:Ep).cells:=by
  have e1:e.cells.take 68= .i .i64 e.iss:: .i .i64 e.no:: .i .i64 e.day::gD e.ch::(e.dw.map u8++e.prev.map u8):=by
    show _::_::_::_::((e.dw.map u8++(e.prev.map u8++_)).take 64)=_
    rw [←List.append_assoc,List.take_left' (by rw [List.length_append,List.length_map,List.length_map,h.dw,h.prev])]
  rw [e1,List.drop_of_length_le (by rw [h.len];omega)]
  simp [Ep.cells]
theorem EE (l:List Ep) (e:Ep):gE l++e.cells=gE (l++ [e]):=by simp [gE]
theorem Ah {l:List Ep} {e:Ep} (h:ga l) (he:e.ok):ga (l++ [e]):=fun x hx=>by
  rcases List.mem_append.1 hx with hx|hx
  · exact h x hx
  · rw [List.mem_singleton.1 hx];exact he
theorem E5 (a:Int):A.i .u8 (IntKind.u8.wrap (a.fdiv (2 ^ min ((24:Int).toNat) IntKind.i64.bits)))=u8 (nD a 0):=xT a 0 ar
theorem E6 (a:Int):A.i .u8 (IntKind.u8.wrap (a.fdiv (2 ^ min ((16:Int).toNat) IntKind.i64.bits)))=u8 (nD a 1):=xT a 1 ar
theorem E7 (a:Int):A.i .u8 (IntKind.u8.wrap (a.fdiv (2 ^ min ((8:Int).toNat) IntKind.i64.bits)))=u8 (nD a 2):=xT a 2 ar
theorem E8 (a:Int):A.i .u8 (IntKind.u8.wrap a)=u8 (nD a 3):=by
  refine congrArg (A.i .u8) ?_
  unfold nD
  rw [UInt8.toNat_ofNat']
  show a % 256=_
  omega
theorem Gb (n:Nat):n=0∨0<n:=Nat.eq_zero_or_pos n
end Go.Abs.D2
-- E5R
namespace Go.Abs.D2
open Go Go.Eng Go.Abs
def lK (l : List Ep) (day : Int) : Nat → Option Nat
  |0=>none
  | j + 1 => match l[j]? with
    |some e=>if e.day≤day then some j else lK l day j
    |none=>lK l day j
@[irreducible] def oT (l:List Ep) (day:Int):Option Nat:=lK l day l.length
theorem zb (l:List Ep) (day:Int):oT l day=lK l day l.length:=by unfold oT;rfl
def za:Option Nat→A
  |none=> .tu [.i .i64 0,.b false]
  |some j=> .tu [nJ j,.b true]
theorem C3 {l:List Ep} {day:Int} {j:Nat} {e:Ep} (h:l[j]? =some e) (hd:e.day≤day):lK l day (j+1)=some j:=by rw [lK,h];simp only;rw [if_pos hd]
theorem C2 {l:List Ep} {day:Int} {j:Nat} {e:Ep} (h:l[j]? =some e) (hd:¬e.day≤day):lK l day (j+1)=lK l day j:=by rw [lK,h];simp only;rw [if_neg hd]
theorem zc {l : List Ep} {day : Int} : ∀ {j : Nat}, j ≤ l.length → match lK l day j with
    |none=>∀i e,i<j→l[i]? =some e→day<e.day
    |some k=>k<j∧(∃e,l[k]? =some e∧e.day≤day)∧∀i e,k<i→i<j→l[i]? =some e→day<e.day
  |0,_=>fun i e h=>by omega
  | j + 1, hj => by
    obtain⟨e,he⟩:∃e,l[j]? =some e:=⟨_,List.getElem?_eq_getElem ar⟩
    by_cases hd:e.day≤day
    · rw [C3 he hd]
      exact⟨by omega,⟨e,he,hd⟩,fun i e h1 h2=>by omega⟩
    · rw [C2 he hd]
      have ih:=zc (l:=l) (day:=day) (j:=j) ar
      cases hk:lK l day j with
      | none =>
        rw [hk]at ih
        intro i a hi ha
        rcases Nat.lt_or_ge i j with h|h
        · exact ih i a h ha
        · obtain rfl : i = j := by omega
          rw [he]at ha;cases ha;omega
      | some k =>
        rw [hk]at ih
        obtain⟨h1,h2,h3⟩:=ih
        refine⟨by omega,h2,fun i a hi1 hi2 ha=>?_⟩
        rcases Nat.lt_or_ge i j with h|h
        · exact h3 i a hi1 h ha
        · obtain rfl : i = j := by omega
          rw [he]at ha;cases ha;omega
-- E5S
def fG (σ:Int→Int):List Ch:=(fA σ).map fun k=>⟨k,σ k⟩
theorem KX {σ:Int→Int} {i:Nat} {q:Int} (h:(fA σ)[i]? =some q):jC ((fG σ).take i)++Ch.cells ⟨q,σ q⟩=jC ((fG σ).take (i+1)):=by
  have:(fG σ)[i]? =some ⟨q,σ q⟩:=by unfold fG;rw [List.getElem?_map,h];rfl
  rw [List.take_add_one,this];simp [jC]
theorem EF {l:List Ep} (h:ga l) (k:Nat):((gE l).drop (0*71)).take (k*71)=gE (l.take k):=by
  rw [Nat.zero_mul,List.drop_zero]
  unfold gE
  induction l generalizing k with
  |nil=>simp
  | cons e l ih =>
    cases k with
    |zero=>simp
    | succ k =>
      have he:=(h e (.head _)).len
      rw [List.flatMap_cons,List.take_succ_cons,List.flatMap_cons,show(k+1)*71=e.cells.length+k*71 by rw [he];omega,List.take_append,List.take_of_length_le ar,Nat.add_sub_cancel_left,ih (fun x hx=>h x (.tail _ hx))]
@[irreducible] def oH (l : List Ep) (no : Int) : Int ⊕ List Ch :=
  if no< -1∨(l.length:Int)≤no then .inl 1 else match dU (l.take (no+1).toNat)with
    |none=> .inl 351
    |some σ=> .inr (fG σ)
def QI:Int ⊕ List Ch→A
  | .inl e=> .tu [.nl,.i .i64 e]
  | .inr c=> .tu [gD c,.i .i64 0]
theorem SA {l:List Ep} {no:Int} (h:no< -1∨(l.length:Int)≤no):oH l no= .inl 1:=by unfold oH;rw [if_pos h]
theorem SB {l:List Ep} {no:Int} (h:¬(no< -1∨(l.length:Int)≤no)) (hf:dU (l.take (no+1).toNat)=none):oH l no= .inl 351:=by unfold oH;rw [if_neg h,hf]
theorem H9 {l:List Ep} {no:Int} {σ:Int→Int} (h:¬(no< -1∨(l.length:Int)≤no)) (hf:dU (l.take (no+1).toNat)=some σ):oH l no= .inr (fG σ):=by unfold oH;rw [if_neg h,hf]
def rK (d0:Int) (l:List Ep):Int:=match l.getLast? with
  |none=>d0
  |some e=>e.day
def tY (p0:List UInt8) (l:List Ep):List UInt8:=match l.getLast? with
  |none=>p0
  |some e=>fk e
theorem Ob (d0:Int) (e:Ep) (l:List Ep):rK d0 (e::l)=rK e.day l:=by
  unfold rK
  cases l with
  |nil=>rfl
  |cons a r=>simp [List.getLast?_cons]
theorem Oa (p0:List UInt8) (e:Ep) (l:List Ep):tY p0 (e::l)=tY (fk e) l:=by
  unfold tY
  cases l with
  |nil=>rfl
  |cons a r=>simp [List.getLast?_cons]
theorem wx:∀ {l r:List Ep} {iss:Int} {no:Nat} {day:Int} {prev:List UInt8} {σ:Int→Int},
    fN iss no day prev σ (l++r)=match fN iss no day prev σ l with
      |none=>none
      |some τ=>fN iss (no+l.length) (rK day l) (tY prev l) τ r
  | [],r,iss,no,day,prev,σ=>rfl
  | e :: l, r, iss, no, day, prev, σ => by
    rw [List.cons_append,fN,fN]
    by_cases hb:(iX iss no day prev e&&fy σ (-1) e.ch)=true
    · rw [if_pos hb,if_pos hb,wx,Ob,Oa,List.length_cons,show no+1+l.length=no+(l.length+1) by omega]
    · rw [if_neg hb,if_neg hb]
theorem FG {l r:List Ep} (h:l≠ []):lX (l++r)=lX l:=by
  cases l with
  |nil=>exact absurd rfl h
  |cons a l=>rfl
theorem MX {l : List Ep} {σ : Int → Int} (h : dU l = some σ) (k : Nat) : ∃ τ, dU (l.take k) = some τ := by
  rcases Nat.eq_zero_or_pos k with h0|h0
  · subst h0
    exact⟨σ0,by rw [lU];rfl⟩
  · rw [lU] at h ⊢
    have e:l=l.take k++l.drop k:=(List.take_append_drop k l).symm
    cases l with
    |nil=>exact⟨σ,by simpa using h⟩
    | cons a r =>
      have hi:lX ((a::r).take k)=lX (a::r):=by
        cases k with
        |zero=>omega
        |succ k=>rfl
      rw [e,wx]at h
      rw [←e]at h
      rw [hi]
      cases hf:fN (lX (a::r)) 0 (-1) zD σ0 ((a::r).take k)with
      |none=>rw [hf]at h;cases h
      |some τ=>exact⟨τ,rfl⟩
theorem N8 (l:List Ep):k8 l=tY zD l:=rfl
theorem N9 {l:List Ep} {iss day:Int} (h:nk l iss day=true) (hl:l≠ []):∃e,l.getLast?=some e∧iss=e.iss∧e.day<day:=by
  unfold nk at h
  cases hg:l.getLast? with
  |none=>exact absurd (List.getLast?_eq_none_iff.1 hg) hl
  | some e =>
    rw [hg]at h
    simp only [Bool.and_eq_true,decide_eq_true_eq,beq_iff_eq]at h
    exact⟨e,rfl,h.1,h.2⟩
theorem Fc:∀ {l:List Ep} {iss:Int} {no:Nat} {day:Int} {prev:List UInt8} {σ τ:Int→Int},fN iss no day prev σ l=some τ→∀e∈l,e.iss=iss
  | [],_,_,_,_,_,_,_,e,h=>by cases h
  | a :: r, iss, no, day, prev, σ, τ, hf, e, h => by
    rw [fN]at hf
    split at hf
    · rename_i hb
      simp only [Bool.and_eq_true,iX,beq_iff_eq]at hb
      rcases List.mem_cons.1 h with rfl|h
      · exact hb.1.1.1.1.1
      · exact Fc hf e h
    · cases hf
section
variable {x:List UInt8} {n:Int} {l:List Ep} {iss day:Int} {ids:List Int} {c:List Ch} {e:Ep}
theorem xH (h : gy x n l iss day ids c = .inr e) : ek n ∧ ∃ σ, dU l = some σ ∧ eS (fY x n) n l = 0 ∧ ¬ (l.length : Int) = n ∧ rf iss day = true ∧ nk l iss day = true ∧ fy σ (-1) c = true ∧ iT (cF σ c) ids = true ∧ e = iK x n.toNat l iss day ids c (cF σ c) := by
  by_cases h1:ek n
  · refine ⟨h1, ?_⟩
    cases hf:dU l with
    |none=>rw [Bj h1 (by rw [vO hf];decide)]at h;cases h
    | some σ =>
      by_cases h2:eS (fY x n) n l=0
      · by_cases h3 : (l.length : Int) = n
        · rw [Hg h1 hf h2 h3]at h;cases h
        · have key : ∀ b : Bool, b = false ∨ b = true := fun b => by cases b <;> simp
          rcases key (rf iss day)with h4|h4
          · rw [nu h1 hf h2 h3 (.inl h4)]at h;cases h
          rcases key (nk l iss day)with h5|h5
          · rw [nu h1 hf h2 h3 (.inr (.inl h5))]at h;cases h
          rcases key (fy σ (-1) c)with h6|h6
          · rw [nu h1 hf h2 h3 (.inr (.inr (.inl h6)))]at h;cases h
          rcases key (iT (cF σ c) ids)with h7|h7
          · rw [nu h1 hf h2 h3 (.inr (.inr (.inr h7)))]at h;cases h
          rw [xF h1 hf h2 h3 h4 h5 h6 h7]at h
          exact⟨σ,rfl,h2,h3,h4,h5,h6,h7,by cases h;rfl⟩
      · rw [Bj h1 h2]at h;cases h
  · rw [Hf h1]at h;cases h
theorem Bk (h:gy x n l iss day ids c= .inr e):∃σ,dU l=some σ∧dU (l++ [e])=some (cF σ c)∧eS (fY x n) n (l++ [e])=0:=by
  obtain⟨h1,σ,hf,h2,h3,h4,h5,h6,h7,he⟩:=xH h
  obtain⟨k,rfl,hk1,hk2⟩:=xV h1
  have hlk:=DI hf h2
  have hlt:l.length<k:=by omega
  have hem:e.iss=iss∧e.no=(l.length:Nat)∧e.day=day∧e.ch=c∧e.prev=k8 l∧e.sg=⟨(l.length:Nat),lz (iR x (l.length:Nat)) (fk (gP x l iss day ids c (cF σ c))),path (fB x k) l.length⟩:=by subst he;exact⟨rfl,rfl,rfl,rfl,rfl,rfl⟩
  have hdg:fk e=fk (gP x l iss day ids c (cF σ c)):=by subst he;exact L2 _ _
  obtain⟨e1,e2,e3,e4,e5,e6⟩:=hem
  unfold rf at h4
  simp only [Bool.and_eq_true,decide_eq_true_eq]at h4
  have hform:dU (l++ [e])=some (cF σ c):=by
    rw [lU]at hf ⊢
    have hi:lX (l++ [e])=if l= []then iss else lX l:=by
      split
      · rename_i h0;subst h0;exact e1
      · rename_i h0;exact FG h0
    by_cases h0:l= []
    · subst h0
      cases hf
      rw [hi,if_pos rfl]
      show fN iss 0 (-1) zD σ0 [e]=_
      rw [fN,if_pos,fN,e4]
      rw [e4,h6,Bool.and_true]
      unfold iX
      simp only [Bool.and_eq_true,decide_eq_true_eq,beq_iff_eq]
      refine⟨⟨⟨⟨e1,?_⟩,?_⟩,⟨e2,by rw [e6];rfl⟩,e5⟩,?_,?_⟩<;>first|omega|(rw [e1];omega)|(rw [e3];omega)
    · obtain ⟨q, hq, hqi, hqd⟩ := N9 h5 h0
      rw [hi,if_neg h0,wx,hf]
      simp only
      have hY:rK (-1) l=q.day:=by unfold rK;rw [hq]
      have hql:=Fc hf q (List.mem_of_getLast? hq)
      rw [fN,if_pos,fN,e4]
      rw [e4,h6,Bool.and_true]
      unfold iX
      simp only [Bool.and_eq_true,decide_eq_true_eq,beq_iff_eq]
      refine⟨⟨⟨⟨by rw [e1,hqi,hql],by rw [e1];omega⟩,by rw [e1];omega⟩,⟨by rw [e2,Nat.zero_add],by rw [e6,Nat.zero_add]⟩,by rw [e5];exact N8 l⟩,by rw [hY,e3];exact hqd,by rw [e3];omega⟩
  refine⟨σ,hf,hform,tC hform fun a ha=>?_⟩
  rcases List.mem_append.1 ha with ha|ha
  · cases hv : gU (fY x (k : Int)) k (fk a) a.sg.a a.sg.S a.sg.P with
    |true=>rfl
    |false=>rw [vN hf ha hv]at h2;cases h2
  · rw [List.mem_singleton.1 ha, e6, hdg]
    exact Tu _ h1 hlt
end
structure Sp where
  day:Int
  ch:List Ch
def Sp.cells (s:Sp):List A:= [.i .i64 s.day,gD s.ch]
def oG (l:List Sp):List A:=l.flatMap Sp.cells
instance {s:Sp}:fL s.cells:=by unfold Sp.cells;infer_instance
instance {l:List Sp}:fL (oG l):=by unfold oG;infer_instance
def Sp.ok (s:Sp):Prop:=rg s.day∧∀c∈s.ch,rg c.id∧rg c.st
theorem Sn {l:List Sp} {i:Nat} {s:Sp} (h:l[i]? =some s):((oG l).drop (i*2)).take 2=s.cells:=by
  unfold oG
  induction l generalizing i with
  |nil=>simp at h
  | cons d l ih =>
    rw [List.flatMap_cons]
    cases i with
    |zero=>simp at h;subst h;rfl
    |succ i=>rw [show(i+1)*2=d.cells.length+i*2 by show _=2+_;omega, ←List.drop_drop,List.drop_left];exact ih aN
theorem uG {l:List Sp} {i:Nat} {s:Sp} (h:l[i]? =some s) {k:Nat} {v:A} (hv:s.cells[k]? =some v) (hk:k<2):(((oG l).drop (i*2)).drop k)[0]? =some v:=by
  have e1:(((oG l).drop (i*2)).take 2)[k]? =some v:=by rw [Sn h];exact hv
  rw [List.getElem?_take,if_pos hk]at e1
  rw [List.getElem?_drop,Nat.add_zero];exact e1
def pZ (l:List Ep):Int ⊕ Ep→List Ep
  | .inl _=>l
  | .inr e=>l++ [e]
def qJ (x:List UInt8) (n iss:Int) (ids:List Int):List Ep→List Sp→List Ep
  |l, []=>l
  |l,s::r=>qJ x n iss ids (pZ l (gy x n l iss s.day ids s.ch)) r
theorem Jk {x:List UInt8} {n:Int} {l:List Ep} {iss day:Int} {ids:List Int} {c:List Ch} (hl:ga l) (hn:l.length≤1000) (hi:rg iss) (hd:rg day) (hc:c.length≤1000) (hcr:∀e∈c,rg e.id∧rg e.st):ga (pZ l (gy x n l iss day ids c))∧(pZ l (gy x n l iss day ids c)).length≤l.length+1:=by
  cases h:gy x n l iss day ids c with
  |inl v=>exact⟨hl,Nat.le_succ _⟩
  | inr e =>
    obtain⟨_,σ,_,_,_,_,_,_,_,rfl⟩:=xH h
    exact⟨Ah hl (xf hn hi hd hc hcr),by simp [pZ]⟩
end Go.Abs.D2
-- E5U
namespace Go.Abs.D2
open Go Go.Eng Go.Abs
def mg:List Ch→Int→Int
  | [],_=>0
  |c::r,id=>if c.id=id then c.st else mg r id
theorem Sw {l:List Ch} {id:Int} {i:Nat} {c:Ch} (h:l[i]? =some c) (hc:c.id=id):mg (l.drop i) id=c.st:=by
  rw [List.drop_eq_getElem_cons (List.getElem?_eq_some_iff.1 h).1,(List.getElem?_eq_some_iff.1 h).2,mg,if_pos hc]
theorem Sv {l:List Ch} {id:Int} {i:Nat} {c:Ch} (h:l[i]? =some c) (hc:¬c.id=id):mg (l.drop i) id=mg (l.drop (i+1)) id:=by
  rw [List.drop_eq_getElem_cons (List.getElem?_eq_some_iff.1 h).1,(List.getElem?_eq_some_iff.1 h).2,mg,if_neg hc]
theorem DT {l:List Ch} {i:Nat} {c:Ch} (h:l[i]? =some c) {k:Nat} {v:A} (hv:c.cells[k]? =some v) (hk:k<2):(((jC l).drop (i*2)).drop k)[0]? =some v:=by
  have e1:(((jC l).drop (i*2)).take 2)[k]? =some v:=by rw [zE h];exact hv
  rw [List.getElem?_take,if_pos hk]at e1
  rw [List.getElem?_drop,Nat.add_zero];exact e1
theorem SF (o:Int ⊕ Ep):(∃v,o= .inl v)∨∃e,o= .inr e:=by
  cases o with
  |inl v=>exact .inl ⟨v,rfl⟩
  |inr e=>exact .inr ⟨e,rfl⟩
theorem Qh {x : List UInt8} {n : Int} {l : List Ep} {iss day : Int} {ids : List Int} {c : List Ch} {v : Int} (h : gy x n l iss day ids c = .inl v) : v ≠ 0 := by
  unfold gy at h
  split at h
  · split at h
    · cases h;decide
    · split at h
      · split at h
        · cases h;decide
        · split at h
          · cases h
          · cases h;decide
      · rename_i h0;cases h;exact h0
  · cases h;decide
theorem J2 {l:List Ep} {day:Int} (h:oT l day=none) {e:Ep} (he:l[0]? =some e):day<e.day:=by
  have:=zc (l:=l) (day:=day) (j:=l.length) (Nat.le_refl _)
  rw [←zb,h]at this
  exact this 0 e (List.getElem?_eq_some_iff.1 he).1 he
theorem J7 {l:List Ep} {day:Int} {j:Nat} (h:oT l day=some j):j<l.length∧(∃e,l[j]? =some e∧e.day≤day)∧∀e,l[j+1]? =some e→day<e.day:=by
  have:=zc (l:=l) (day:=day) (j:=l.length) (Nat.le_refl _)
  rw [←zb,h]at this
  exact⟨this.1,this.2.1,fun e he=>this.2.2 (j+1) e ar (List.getElem?_eq_some_iff.1 he).1 he⟩
-- E5W
abbrev vR:D:= .st [.int .i64,.int .i64]
abbrev vS:D:= .st [.int .i64,.sl vR]
theorem LO (aS:List A) (h:Den vR aS):∃c:Ch,aS=c.cells∧(rg c.id∧rg c.st):=by
  simp only [Den,nT]at h
  obtain⟨a,r,h1,⟨b,r2,h2,rfl,rfl⟩,rfl⟩:=h
  obtain⟨n,rfl,hn⟩:=qd a (by simpa only [Den]using h1)
  obtain⟨m,rfl,hm⟩:=qd b (by simpa only [Den]using h2)
  exact⟨⟨n,m⟩,rfl,hn,hm⟩
theorem LP (aS:List A) (h:Den (.sl vR) aS):∃l:List Ch,aS= [gD l]∧l.length≤maxLen∧∀c∈l,rg c.id∧rg c.st:=by
  simp only [Den]at h
  obtain⟨ls,h1,h2,rfl⟩:=h
  obtain⟨ys,rfl,h3⟩:=qf (f:=Ch.cells) (e:=vR) LO ls (fun x hx=>by simpa only [Den]using h1 x hx)
  exact⟨ys,by rw [List.length_map, ←List.flatMap_def];rfl,by simpa using h2,h3⟩
theorem LR (aS:List A) (h:Den vS aS):∃s:Sp,aS=s.cells∧s.ok∧s.ch.length≤maxLen:=by
  simp only [Den,nT]at h
  obtain⟨a,r,h1,⟨b,r2,h2,rfl,rfl⟩,rfl⟩:=h
  obtain⟨n,rfl,hn⟩:=qd a (by simpa only [Den]using h1)
  obtain⟨l,rfl,hl,hc⟩:=LP b (by simpa only [Den,nT]using h2)
  exact⟨⟨n,l⟩,rfl,⟨hn,hc⟩,hl⟩
theorem LS (aS:List A) (h:Den (.sl vS) aS):∃S:List Sp,aS= [.fz S.length (oG S)]∧S.length≤maxLen∧∀s∈S,s.ok∧s.ch.length≤maxLen:=by
  simp only [Den]at h
  obtain⟨ls,h1,h2,rfl⟩:=h
  obtain⟨ys,rfl,h3⟩:=qf (f:=Sp.cells) (e:=vS) LR ls (fun x hx=>by simpa only [Den]using h1 x hx)
  exact⟨ys,by rw [List.length_map, ←List.flatMap_def];rfl,by simpa using h2,h3⟩
structure Ep.typed (e:Ep):Prop where
  iss:rg e.iss
  no:rg e.no
  day:rg e.day
  ch:∀c∈e.ch,rg c.id∧rg c.st
  dw:e.dw.length=32
  prev:e.prev.length=32
  S:cm e.sg.S
  P:cm e.sg.P
  k5:e.ch.length≤maxLen
theorem Ep.typed.ok {e:Ep} (h:e.typed) (hf:e.ch.length≤1000):e.ok:=⟨h.iss,h.no,h.day,h.ch,hf,h.dw,h.prev,h.S,h.P⟩
theorem Ep.typed.len {e:Ep} (h:e.typed):e.cells.length=71:=by simp [Ep.cells,h.dw,h.prev]
-- E5V
theorem rg_of {n:Int} (h0: -9223372036854775808≤n) (h1:n≤9223372036854775807):rg n:=⟨h0,h1⟩
theorem Ar:dU []=some σ0:=by rw [lU];rfl
theorem K6 (r:List UInt8) (n:Int):eS r n []=0:=tC Ar fun e he=>by cases he
theorem QM {l:List Ch} (h:∀e∈l, -9223372036854775808≤e.id∧e.id≤9223372036854775807∧ -9223372036854775808≤e.st∧e.st≤9223372036854775807):∀e∈l,rg e.id∧rg e.st:=fun e he=>let ⟨a,b,c,d⟩:=h e he;⟨⟨a,b⟩,⟨c,d⟩⟩
theorem Ht {a b:Int} (h: -9223372036854775808≤a∧a≤9223372036854775807∧ -9223372036854775808≤b∧b≤9223372036854775807):∀e∈([⟨a,b⟩]:List Ch),rg e.id∧rg e.st:=QM fun e he=>by rw [List.mem_singleton.1 he];exact h
theorem Pu:ga []:=fun e he=>by cases he
-- E5X
structure Good (x:List UInt8) (n:Int) (l:List Ep):Prop where
  form:∃τ,dU l=some τ
  vL:eS (fY x n) n l=0
  size:l≠ []→ek n
theorem Fm (x:List UInt8) (n:Int):Good x n []:=⟨⟨σ0,by rw [lU];rfl⟩,tC (show dU []=some σ0 by rw [lU];rfl) (fun e he=>by cases he),fun h=>absurd rfl h⟩
theorem He {x:List UInt8} {n iss:Int} {ids:List Int}:∀ {S:List Sp} {l:List Ep},Good x n l→Good x n (qJ x n iss ids l S)
  | [],_,h=>h
  | s :: r, l, h => by
    rw [qJ]
    refine He (S:=r) ?_
    cases hp:gy x n l iss s.day ids s.ch with
    |inl v=>exact h
    | inr e =>
      obtain⟨σ,h1,h2,h3⟩:=Bk hp
      exact⟨⟨_,h2⟩,h3,fun _=>(xH hp).1⟩
theorem MW {l : List Ep} {e : Ep} {τ : Int → Int} (h : dU (l ++ [e]) = some τ) : ∃ σ, dU l = some σ ∧ fy σ (-1) e.ch = true ∧ τ = cF σ e.ch := by
  rw [lU]at h
  cases l with
  | nil =>
    rw [List.nil_append,fN]at h
    split at h
    · rename_i hb
      rw [Bool.and_eq_true]at hb
      cases h
      exact⟨σ0,by rw [lU];rfl,hb.2,rfl⟩
    · cases h
  | cons a r =>
    rw [FG aB,wx]at h
    rw [lU]
    cases hf:fN (lX (a::r)) 0 (-1) zD σ0 (a::r)with
    |none=>rw [hf]at h;cases h
    | some σ =>
      rw [hf]at h
      simp only at h
      rw [fN]at h
      split at h
      · rename_i hb
        rw [Bool.and_eq_true]at hb
        cases h
        exact⟨σ,rfl,hb.2,rfl⟩
      · cases h
theorem Fo {x:List UInt8} {n:Int} {l:List Ep} (h:Good x n l) {i:Nat} {e:Ep} (he:l[i]? =some e):∃σ,dU (l.take i)=some σ∧jB σ∧fy σ (-1) e.ch=true∧jB (cF σ e.ch)∧dU (l.take (i+1))=some (cF σ e.ch)∧eS (fY x n) n (l.take (i+1))=0∧oH l (i:Int)= .inr (fG (cF σ e.ch)):=by
  obtain⟨τ,hτ⟩:=h.form
  have hi:=(List.getElem?_eq_some_iff.1 he).1
  obtain⟨ρ,hρ⟩:=MX hτ (i+1)
  have hs:=hρ
  rw [List.take_add_one,he]at hs
  obtain⟨σ,h1,h2,rfl⟩:=MW hs
  have hS:=xZ h1
  refine⟨σ,h1,hS,h2,xZ hρ,hρ,tC hρ fun a ha=>?_,H9 ar (by rw [show((i:Int)+1).toNat=i+1 by omega];exact hρ)⟩
  cases hv:gU (fY x n) n (fk a) a.sg.a a.sg.S a.sg.P with
  |true=>rfl
  | false =>
    have:=h.vL
    rw [vN hτ (List.mem_of_mem_take ha) hv]at this
    cases this
theorem H7 (σ:Int→Int) (id:Int):∀l:List Int,mg (l.map fun k=>⟨k,σ k⟩) id=if id∈l then σ id else 0
  | []=>rfl
  | k :: l => by
    rw [List.map_cons,mg,H7 σ id l]
    by_cases h:k=id
    · subst h;simp
    · rw [if_neg h]
      have:id∈k::l↔id∈l:=by simp [Ne.symm h]
      simp only [this]
theorem xY {σ:Int→Int} (h:jB σ) (id:Int):mg (fG σ) id=σ id:=by
  unfold fG
  rw [H7]
  split
  · rfl
  · rename_i hn
    cases Decidable.em (σ id=0)with
    |inl h0=>exact h0.symm
    |inr h0=>exact absurd ((wK h id).1 (by unfold mapOf;rw [if_neg h0];rfl)) hn
theorem vJ (σ:Int→Int):(fG σ).length≤1024:=by
  have:=List.length_filter_le (fun n=>σ n !=0) ((List.range 1024).map fun k:Nat=>(k:Int))
  simpa [fG,fA]using this
theorem DC:∀ {l:List Ch} {σ:Int→Int} {la q:Int},fy σ la l=true→σ q=2→cF σ l q=2
  | [],_,_,_,_,h=>h
  | c :: r, σ, la, q, hk, h => by
    simp only [fy,mz,Bool.and_eq_true,decide_eq_true_eq,bne_iff_ne]at hk
    rw [cF]
    refine DC hk.2 ?_
    unfold mi
    split
    · rename_i e;rw [e]at h;exact absurd h hk.1.2.2
    · exact h
-- E5Y
def oN (x:List UInt8) (ids:List Int) (l:List Ep):Prop:=∀i e,l[i]? =some e→∃τ,dU (l.take (i+1))=some τ∧iT τ ids=true∧e.dw=mA (cJ x i τ ids)
theorem Dm (x:List UInt8) (ids:List Int):oN x ids []:=fun i e h=>by simp at h
theorem Hd {x : List UInt8} {n iss : Int} {ids : List Int} : ∀ {S : List Sp} {l : List Ep}, oN x ids l → oN x ids (qJ x n iss ids l S)
  | [],_,h=>h
  | s :: r, l, h => by
    rw [qJ]
    refine Hd (S:=r) ?_
    cases hp:gy x n l iss s.day ids s.ch with
    |inl v=>exact h
    | inr e =>
      obtain⟨σ,h1,h2,h3⟩:=Bk hp
      obtain⟨_,ρ,g1,_,_,_,_,_,g7,g8⟩:=xH hp
      rw [h1]at g1
      cases g1
      intro i a ha
      show ∃τ,dU ((l++ [e]).take (i+1))=some τ∧_
      change (l++ [e])[i]? =some a at ha
      rcases Nat.lt_trichotomy i l.length with hi|hi|hi
      · rw [List.getElem?_append_left hi] at ha
        rw [List.take_append_of_le_length ar]
        exact h i a ha
      · subst hi
        rw [List.getElem?_append_right (Nat.le_refl _),Nat.sub_self]at ha
        cases ha
        rw [List.take_of_length_le aB]
        exact⟨_,h2,g7,by rw [g8];rfl⟩
      · rw [List.getElem?_eq_none (by simp; omega)] at ha
        cases ha
theorem Mv {l:List Ep} {i:Nat} {e:Ep} (hl:ga l) (h:l[i]? =some e):(((gE l).drop (i*71)).drop 4).take 32=e.dw.map u8:=by
  have hok:=hl e (List.mem_of_getElem? h)
  have h1:((((gE l).drop (i*71)).take 71).drop 4).take 32=e.dw.map u8:=by rw [tN hl h];exact Ez hok
  rw [List.drop_take,List.take_take]at h1
  exact h1
-- T1P
theorem CY {c : cq} (hck : eB c = true) {ids : List Int} (h4 : ids.length ≤ 4) (hn : ∀ q ∈ ids, 0 ≤ q ∧ q < 1024) {coins : List (List UInt8)} (hc : coins.length = 132) (hz : ∀ q ∈ coins, q.length = 65) :
    ∃a b,jb c ids coins= .tu [.ag [dr a],.ag [dr b],.i .i64 0]∧eW c ids=true∧(cE c ids).length≤132∧a.length=132∧b.length=132∧∀k,k<coins.length→V6.Round (520:Nat) (cE c ids) coins a b k:=by
  have hh:=K0 hck
  have hk:eW c ids=true:=by
    unfold eW
    rw [hh,decide_eq_true h4]
    simp only [Bool.true_and,List.all_eq_true]
    exact fun q hq=>decide_eq_true (hn q hq)
  have hlen:=pb c ids
  rcases BD c ids coins with ⟨e,he,hA⟩|⟨a,b,h1,h2,_,h3,h5,h6,h7⟩
  · exfalso
    have hz0:(V6.ask 520 (cE c ids) 132 coins).2.2=0:=by
      have:=V6.lJ (many:=520) (at':=cE c ids) (coins:=coins) ar ar ar
      rw [show(132:Int)=(coins.length:Int) by omega,this]
      refine y9 _ fun k hk2=>?_
      have hcl:(coins.getD k []).length=65:=by
        rw [List.getD,List.getElem?_eq_getElem ar,Option.getD_some]
        exact hz _ (List.getElem_mem _)
      have hw:∃j:Nat,V6.want (cE c ids) k=(j:Int)∧j<520:=by
        rcases Nat.lt_or_ge k (cE c ids).length with h|h
        · rw [V6.sM h, List.getD, List.getElem?_eq_getElem h, Option.getD_some]
          have hm:(cE c ids)[k]∈cE c ids:=List.getElem_mem _
          unfold cE at hm
          obtain⟨q,hq,hm⟩:=List.mem_flatMap.1 hm
          have:=TD hh (id:=q.toNat) (by have:=hn q hq;omega) _ hm
          exact⟨((cE c ids)[k]).toNat,by unfold cE;omega,by unfold cE;omega⟩
        · rw [V6.uN ar]
          exact⟨0,rfl,by omega⟩
      obtain⟨j,e1,e2⟩:=hw
      rw [e1]
      exact rR (m:=520) ar ar (by rw [hcl]) e2
    rw [sy hk,vn hz0]at hA
    simp only [A.tu.injEq,List.cons.injEq,A.i.injEq,and_true,true_and]at hA
    exact he hA.2.2.symm
  · exact⟨a,b,h1,h2,h3,h5,h6,h7⟩
theorem NH {c:cq} (hck:eB c=true) {ids:List Int} (h4:ids.length≤4) (hn:∀q∈ids,0≤q∧q<1024) (others:List Int) {coins:List (List UInt8)} (hc:coins.length=132) (hz:∀q∈coins,q.length=65):
    (∃a b,∃e:Int,e≠0∧jb c ids coins= .tu [.ag [dr a],.ag [dr b],.i .i64 0]∧jb c others coins= .tu [l8,l8,.i .i64 e])∨
    (∃a b b' x,jb c ids coins= .tu [.ag [dr a],.ag [dr b],.i .i64 0]∧jb c others coins= .tu [.ag [dr a],.ag [dr b'],.i .i64 0]∧eW c ids=true∧eW c others=true∧coins.length=132∧(cE c ids).length≤132∧(cE c others).length≤132∧a.length=132∧b.length=132∧
      (∀k,k<coins.length→mT (520:Nat) (V6.want (cE c ids) k) (V6.want (cE c others) k) (coins.getD k [])= .tu [V6.cA (j7 520 (cE c ids) (cE c others) coins k),.i .i64 0])∧
      jb c others (twins 520 (cE c ids) (cE c others) coins)= .tu [.ag [dr x],.ag [dr b],.i .i64 0]):=by
  rcases Qf c ids others coins with ⟨e,he,h⟩|h|h
  · exfalso
    obtain⟨a,b,h1,_⟩:=CY hck h4 hn hc hz
    rw [h1]at h
    simp only [A.tu.injEq,List.cons.injEq,A.i.injEq,and_true,true_and]at h
    exact he h.2.2.symm
  · exact .inl h
  · exact .inr h
abbrev rD (τ:Int→Int) (ids:List Int):List Bool:=ids.map fun q=>τ q !=0
theorem MA {x:List UInt8} {i:Nat} {τ:Int→Int} {ids asked:List Int} (hl:eD ids=true) (ha:∀q∈asked,q∈ids):Al (cJ x i τ ids) asked=rD τ asked:=by
  refine List.map_congr_left fun q hq=>?_
  have hqi:=ha q hq
  have hm:=y2 hl q hqi
  obtain⟨j,rfl⟩:∃j:Nat,q=(j:Int):=⟨q.toNat,by omega⟩
  have hok:=oB (σ:=τ) hl
  have hbg:(j:Int)∈ec τ ids∨(j:Int)∈eL τ ids:=by
    unfold ec eL
    rw [List.mem_filter,List.mem_filter]
    cases (τ (j:Int) !=0)with
    |true=>exact .inl ⟨hqi,rfl⟩
    |false=>exact .inr ⟨hqi,rfl⟩
  show rI (fq (kz x i) (ec τ ids) (eL τ ids)) ((j:Int).toNat)=_
  rw [Int.toNat_natCast,MC hok ar hbg]
  unfold ec
  rw [Bool.eq_iff_iff,decide_eq_true_iff,List.mem_filter]
  exact⟨fun h=>h.2,fun h=>⟨hqi,h⟩⟩
theorem QF (c:cq) (fill:UInt8) (ids:List Int) (a b:List (List UInt8)):pz (lW c fill) ids a b=pz c ids a b:=by
  have h1:kQ (lW c fill) ids a b=kQ c ids a b:=by unfold kQ;rw [CU]
  have h2:jG (lW c fill) ids a b ids.length=jG c ids a b ids.length:=by unfold jG;simp only [Hn]
  cases h:kQ c ids a b with
  |false=>rw [uv h,uv (h1.trans h)]
  |true=>rw [xL h,xL (h1.trans h),h2]
theorem FN {x:List UInt8} {n:Int} {l:List Ep} {iss:Int} {ids:List Int} {s:Sp} {e:Ep} (hp:gy x n l iss s.day ids s.ch= .inr e) (h:Good x n l):Good x n (l++ [e]):=by
  have:=He (iss:=iss) (ids:=ids) (S:= [s]) h
  simpa only [qJ,hp,pZ]using this
theorem FM {x:List UInt8} {n:Int} {l:List Ep} {iss:Int} {ids:List Int} {s:Sp} {e:Ep} (hp:gy x n l iss s.day ids s.ch= .inr e) (h:oN x ids l):oN x ids (l++ [e]):=by
  have:=Hd (n:=n) (iss:=iss) (ids:=ids) (S:= [s]) h
  simpa only [qJ,hp,pZ]using this
structure yB (x:List UInt8) (ids:List Int) (l:List Ep) (i:Nat) (e:Ep) (τ:Int→Int):Prop where
  he:l[i]? =some e
  form:dU (l.take (i+1))=some τ
  sup:jB τ
  sts:oH l (i:Int)= .inr (fG τ)
  lis:eD ids=true
  dw:e.dw=mA (cJ x i τ ids)
theorem Ag {x:List UInt8} {n:Int} {ids:List Int} {l:List Ep} (hg:Good x n l) (hc:oN x ids l) {i:Nat} (hi:i<l.length):∃e τ,yB x ids l i e τ:=by
  obtain⟨e,he⟩:∃e,l[i]? =some e:=⟨_,List.getElem?_eq_getElem hi⟩
  obtain⟨τ,h1,h2,h3⟩:=hc i e he
  obtain⟨σ,_,_,_,g1,g2,_,g3⟩:=Fo hg he
  have h1':=h1
  rw [g2]at h1
  cases h1
  exact⟨e,_,he,h1',g1,g3,BO h2,h3⟩
theorem QL {x:List UInt8} {n:Int} {l:List Ep} (hg:Good x n l) {i:Nat} {σ:Int→Int} (h:dU (l.take (i+1))=some σ) {q:Int} (hq:σ q=2):∀j,i≤j→j<l.length→∀τ,dU (l.take (j+1))=some τ→τ q=2:=by
  intro j hij
  induction j with
  | zero =>
    intro _ τ hτ
    obtain rfl:i=0:=by omega
    rw [h]at hτ;cases hτ;exact hq
  | succ j ih =>
    intro hj τ hτ
    rcases Nat.lt_or_ge j i with hlt|hge
    · obtain rfl : i = j + 1 := by omega
      rw [h]at hτ;cases hτ;exact hq
    · obtain ⟨e, he⟩ : ∃ e, l[j + 1]? = some e := ⟨_, List.getElem?_eq_getElem hj⟩
      obtain⟨ρ,g1,_,g3,_,g5,_,_⟩:=Fo hg he
      rw [g5]at hτ;cases hτ
      exact DC g3 (ih hge ar ρ g1)
theorem J1 {l:List Ep} {day:Int} (h:oT l day=none):l.length=0∨∃e,l[0]? =some e∧day<e.day:=by
  cases hl:l[0]? with
  |none=>exact .inl (by rw [List.getElem?_eq_none_iff]at hl;omega)
  |some e=>exact .inr ⟨e,rfl,J2 h hl⟩
theorem M8 (S:List Sp) (n:Int) (ids asked others:List Int) (b:Bool):
    4<S.length∨(S.length≤4∧5<n)∨(S.length≤4∧n≤5∧24<ids.length)∨(S.length≤4∧n≤5∧ids.length≤24∧4<asked.length)∨(S.length≤4∧n≤5∧ids.length≤24∧asked.length≤4∧4<others.length)∨
    (S.length≤4∧n≤5∧ids.length≤24∧asked.length≤4∧others.length≤4∧b=false)∨(S.length≤4∧n≤5∧ids.length≤24∧asked.length≤4∧others.length≤4∧b=true):=by
  cases b<;>simp only [and_true,reduceCtorEq,and_false,or_false,false_or]<;>omega
theorem Jz {l:List Int} {p:Int→Prop} {i:Nat} {q:Int} (h:l[i]? =some q) (ha:∀x∈l.take i,p x) (he:p q):∀x∈l.take (i+1),p x:=fun x hx=>by
  rw [List.take_add_one,h]at hx
  rcases List.mem_append.1 hx with hx|hx
  · exact ha x hx
  · simp only [Option.toList_some, List.mem_singleton] at hx
    subst hx;exact he
theorem JA {l:List (List UInt8)} {p:List UInt8→Prop} {i:Nat} {q:List UInt8} (h:l[i]? =some q) (ha:∀x∈l.take i,p x) (he:p q):∀x∈l.take (i+1),p x:=fun x hx=>by
  rw [List.take_add_one,h]at hx
  rcases List.mem_append.1 hx with hx|hx
  · exact ha x hx
  · simp only [Option.toList_some, List.mem_singleton] at hx
    subst hx;exact he
theorem Ny {l:List Int} {i:Nat} {q v:Int} (h:l[i]? =some q) (hq:¬q=v) (hn:¬v∈l.take i):¬v∈l.take (i+1):=fun hv=>by
  rw [List.take_add_one,h]at hv
  rcases List.mem_append.1 hv with hv|hv
  · exact hn hv
  · simp only [Option.toList_some, List.mem_singleton] at hv
    exact hq hv.symm
abbrev oE:List UInt8:=2::List.replicate 31 0
abbrev cT:List Ch:= [⟨5,2⟩]
@[irreducible] def eT:Ep:=iK oE 1 [] 0 4 [3,5] cT (cF σ0 cT)
theorem Eg:eT=iK oE 1 [] 0 4 [3,5] cT (cF σ0 cT):=by unfold eT;rfl
theorem Sa:ek ((1:Nat):Int):=by decide
theorem xG:gy oE 1 [] 0 4 [3,5] cT= .inr eT:=by
  rw [Eg]
  exact xF (n:=((1:Nat):Int)) Sa Ar (K6 _ _) az az rfl (by decide+kernel) (by decide+kernel)
theorem Ns:Good oE 1 [eT]:=FN (s:=⟨4,cT⟩) (ids:= [3,5]) xG (Fm _ _)
theorem KJ:oN oE [3,5] [eT]:=FM (s:=⟨4,cT⟩) (n:=1) (iss:=0) xG (Dm _ _)
theorem PD:eT.ok:=by rw [Eg];exact xf az (rg_of az az) (rg_of az az) az (Ht az)
theorem Pv:ga [eT]:=fun e he=>by rw [List.mem_singleton.1 he];exact PD
theorem MV {τ:Int→Int} (h:dU ([eT].take 1)=some τ):τ=cF σ0 cT:=by
  obtain⟨σ,h1,h2,_⟩:=Bk xG
  rw [Ar]at h1
  cases h1
  change dU [eT]=some τ at h
  rw [show([]:List Ep)++ [eT]= [eT]from rfl,h]at h2
  cases h2;rfl
theorem MB {τ:Int→Int} (h:dU ([eT].take 1)=some τ):rD τ [5,3]= [true,false]:=by
  rw [MV h];decide+kernel
abbrev oM:List UInt8:=List.replicate 65 0
abbrev ru (k:Nat):List A:=List.replicate k (V6.cA oM)++List.replicate (132 - k) .nl
theorem Lo {k:Nat} (h:k<132):(ru k).set k (V6.cA oM)=ru (k+1):=by
  show List.set (List.replicate k (V6.cA oM)++List.replicate (132 - k) .nl) k _=List.replicate (k+1) (V6.cA oM)++List.replicate (132 - (k+1)) .nl
  rw [List.set_append_right _ _ aB,List.length_replicate,Nat.sub_self,show 132 - k=(132 - (k+1))+1 by omega,List.replicate_succ,List.set_cons_zero,List.replicate_succ',List.append_assoc]
  rfl
@[simp] theorem Oj {k:Nat} (h:k≤132):(ru k).length=132:=by simp [ru];omega
theorem Ln:ru 132=(List.replicate 132 oM).map V6.cA:=by rw [List.map_replicate];exact List.append_nil _
end Go.Abs.D2
