/-
  The engine, the plain laws and the walks that the rows need, part 13. Conditions: none.
-/
import Derived.Test.YteempkifmbclgaaGreatDoorM12
import Derived.Lib.BufferWrite
set_option linter.unusedVariables false
set_option linter.unusedSimpArgs false
set_option maxHeartbeats 1000000
set_option maxRecDepth 10000
-- AbsX
namespace Go.Abs
open Go Go.Eng
theorem ye:∀ {l:List A} {i:Nat} {c:A},bO l→l[i]? =some c→Pure c
  | [],_,_,_,h=>by simp at h
  |_::_,0,_,hp,h=>by simp at h;subst h;exact hp.1
  |_::l,i+1,_,hp,h=>ye (l:=l) (i:=i) hp.2 (by simpa using h)
section
variable {P:Program} {w0:Bw} {X0:Xs} {n:Nat} {E:Ev} {st:St} {K:Act→World→Prop} {Q:Exit→Act→World→Prop}
theorem kH {d:Nat} {t e:TypeId} {size by' zero agg} {len:Nat} {parts:List (Nat×Operand)} {vs cs:List A} {ty:TypeId} {pos aG g} (ht:P.underlying t=some (.slice e)) (he:TI P e size by' zero agg)
    (hp:fq E parts 0=some vs) (hlen:len=vs.length) (hce:vs.all jg=true) (hcl:∀v∈vs,(aY v).length=size) (hfl:gU vs=cs) (hpu:bO cs) (hs:Nat.ble (len*size) 16777216=true) (hs2:Nat.ble len 16777216=true) (hd:Nat.ble (d+1) n=true)
    (h:At w0 X0 n ((d,.fz len cs)::E) st K):
    At w0 X0 n E st (fun a w=>(⟨some d,.buildSlice t len parts.toArray,ty,pos,aG,g⟩:Oper).wp P a w K Q):=by
  rintro a w ⟨β,X,hr⟩
  subst hfl
  obtain⟨us,g1,g2,g3,g4,g5⟩:=xj hr hp (fun v hv=>⟨pY v (List.all_eq_true.1 hce v hv),hcl v hv⟩)
  refine Eng.fY (S:= [w]) (H:= []) (E:=full a) (n:=a.tmps.size) us ht he g1 rfl (by omega) g3 hs (by rw [hr.size];exact hd) (fun b hS hH a1 w1 hR hG=>?_) a w (dQ a hr.defers) (Eng.Good.start w)
  have hb:w.heap.size≤b:=hS.1
  have hbel:=pX hG (by simp [hb])
  have hw:=hG.own _ (.head _)
  simp only at hw
  have hbl:b<w1.heap.size:=(Array.getElem?_eq_some_iff.1 hw).1
  obtain⟨m1,m2,m3⟩:=hr.mem.Di (b:=b) (gU vs).length hbel hb hbl
  have hm2:=Nat.le_of_ble_eq_true hs2
  have hll:=cL g4
  refine h a1 w1 ⟨β,_,hr.next hR m2 m3 (bM.refl β) m1 ?_⟩
  simp only [V]
  refine⟨_,_,rfl,Nat.le_refl _,by simp only [maxLen];omega,(fun h=>by cases h),(fun _ x hx=>by cases hx;rfl),ku fun j c hj=>?_⟩
  have hjl:=(List.getElem?_eq_some_iff.1 hj).1
  obtain⟨u,q1,q2⟩:=fx g4 hj
  refine⟨.inr ⟨rfl,by simpa [ao]using hjl⟩,u,?_,dM m2 _ _ _ _ (bM.refl _) (kx _ _ (ye hpu hj) q2),g5 u (List.mem_of_getElem? q1)⟩
  simp only [ab,ao,Nat.zero_add,World.cell?,hw]
  simp [q1]
variable {r:Option Nat} {ds0:List Deferred} {N g:Nat} {E0:EV} {st0:St} {ops:Array Oper} {nn:Nat} {plan:List bX} {rest:List Oper} {d:Nat} {ty:TypeId} {pos:String} {aft':Array Edge} {gd:Option (Nat×Bool)}
theorem sy {t e:TypeId} {size by' zero agg} {len:Nat} {parts:List (Nat×Operand)} {vs cs:List A} (k0:Nat) (deps:List Nat) (hg:fP ops (ct (E0.at k0) deps k0 E) gd) (ht:P.underlying t=some (.slice e)) (he:TI P e size by' zero agg)
    (hp:fq (ct (E0.at k0) deps k0 E) parts 0=some vs) (hlen:len=vs.length) (hce:vs.all jg=true) (hcl:∀v∈vs,(aY v).length=size) (hfl:gU vs=cs) (hpu:bO cs) (hs:Nat.ble (len*size) 16777216=true) (hs2:Nat.ble len 16777216=true) (hb:Nat.ble (d+1) N=true) (hd:eV k0 deps []=true)
    (h:FS r ds0 P w0 X0 N Q ops nn g E0 st0 (plan++ [⟨d,.fz len cs,deps, [], [], [], []⟩]) (k0+1) ((d,.fz len cs)::E) st rest):FS r ds0 P w0 X0 N Q ops nn g E0 st0 plan k0 E st (⟨some d,.buildSlice t len parts.toArray,ty,pos,aft',gd⟩::rest):=
  gV ⟨d,.fz len cs,deps, [], [], [], []⟩ (fun hk hE _ _ _ hD _ _ hK=>have he':=hD.fin hE hk;ju hg he' (kH ht he (xh he' hp) hlen hce hcl hfl hpu hs hs2 hb hK)) hd h
end
end Go.Abs
-- C4S
namespace Go.Abs.D2
open Go Go.Eng Go.Abs
abbrev bT (n:Int):CV:= .mk 1 n [] []
abbrev c9 (s:List UInt8):CV:= .mk 2 0 s []
abbrev cZ (l:List CV):CV:= .mk 3 0 [] l
abbrev fH (f:da):CV:=cZ [bT f.nb,c9 f.D]
def fS (c:cD):CV:=cZ [c9 c.x,cZ (c.F.map fH),cZ (c.E.map bT)]
def CV.kd:CV→Int| .mk k _ _ _=>k
def CV.nm:CV→Int| .mk _ n _ _=>n
def CV.st:CV→List UInt8| .mk _ _ s _=>s
def CV.ls:CV→List CV| .mk _ _ _ l=>l
theorem nc (n:Int):(bT n).okB=true:=by rw [CV.okB,if_pos rfl];rfl
theorem s7 (s:List UInt8):(c9 s).okB=true:=by rw [CV.okB,if_neg (by decide),if_pos rfl];rfl
theorem nf {l:List CV} (h:∀v∈l,v.okB=true):(cZ l).okB=true:=by
  rw [CV.okB,if_neg (by decide),if_neg (by decide),if_pos rfl,CV.na,List.all_eq_true.2 h];rfl
theorem Jm (f:da):(fH f).okB=true:=nf fun v hv=>by
  simp only [List.mem_cons,List.not_mem_nil,or_false]at hv
  rcases hv with rfl|rfl
  · exact nc _
  · exact s7 _
theorem Cq (c:cD):(fS c).okB=true:=nf fun v hv=>by
  simp only [List.mem_cons,List.not_mem_nil,or_false]at hv
  rcases hv with rfl|rfl|rfl
  · exact s7 _
  · exact nf fun v hv=>by obtain⟨f,_,rfl⟩:=List.mem_map.1 hv;exact Jm f
  · exact nf fun v hv=>by obtain⟨f,_,rfl⟩:=List.mem_map.1 hv;exact nc f
theorem mP {l:List CV} {d:Nat} (h:∀v∈l,v.depth≤d):(cZ l).depth≤d+1:=by
  rw [CV.depth,if_pos rfl];have:=zX h;omega
theorem mO (n:Int):(bT n).depth=0:=by rw [CV.depth,if_neg (by decide)]
theorem rU (s:List UInt8):(c9 s).depth=0:=by rw [CV.depth,if_neg (by decide)]
theorem Gt (c : cD) : (fS c).depth ≤ 16 := by
  refine Nat.le_trans (mP (d:=2) fun v hv=>?_) (by omega)
  simp only [List.mem_cons,List.not_mem_nil,or_false]at hv
  rcases hv with rfl|rfl|rfl
  · rw [rU];omega
  · exact mP (d:=1) fun v hv=>by
      obtain⟨f,_,rfl⟩:=List.mem_map.1 hv
      exact mP (d:=0) fun v hv=>by
        simp only [List.mem_cons,List.not_mem_nil,or_false]at hv
        rcases hv with rfl|rfl
        · rw [mO];exact Nat.le_refl _
        · rw [rU];exact Nat.le_refl _
  · exact mP (d:=1) fun v hv=>by obtain⟨f,_,rfl⟩:=List.mem_map.1 hv;rw [mO];omega
theorem nq {n:Int} (h0: -9223372036854775808≤n) (h1:n≤9223372036854775807):(bT n).eR=true:=by simp [CV.eR,CV.kM,h0,h1]
theorem tM (s:List UInt8):(c9 s).eR=true:=by simp [CV.eR,CV.kM]
theorem nr {l:List CV} (h:∀v∈l,v.eR=true):(cZ l).eR=true:=by
  simp only [CV.eR,CV.tL,List.all_eq_true.2 h];rfl
theorem zn {c:cD} (h:dP c=true):∀f∈c.F,0≤f.nb∧f.nb≤4096∧f.D.length≤512:=fun f hf=>by
  obtain⟨i,hi⟩:=List.mem_iff_getElem?.1 hf
  obtain⟨_,n,h1,h2,h3,h4,_⟩:=FQ h hi
  omega
theorem C0 {c : cD} (h : dP c = true) : (fS c).eR = true := nr fun v hv => by
  simp only [List.mem_cons,List.not_mem_nil,or_false]at hv
  rcases hv with rfl|rfl|rfl
  · exact tM _
  · exact nr fun v hv=>by
      obtain⟨f,hf,rfl⟩:=List.mem_map.1 hv
      obtain⟨h1,h2,_⟩:=zn h f hf
      exact nr fun v hv=>by
        simp only [List.mem_cons,List.not_mem_nil,or_false]at hv
        rcases hv with rfl|rfl
        · exact nq (by omega) (by omega)
        · exact tM _
  · exact nr fun v hv=>by
      obtain⟨n,hn,rfl⟩:=List.mem_map.1 hv
      obtain⟨_,he,_⟩:=rM h
      have:=sK he n hn
      exact nq (by omega) (by omega)
theorem vM {l:List CV} {k:Nat} (h:∀v∈l,v.enc.length≤k):(CV.cc l).length≤l.length*k:=by
  induction l with
  |nil=>simp [CV.cc]
  | cons v l ih =>
    have h1:=h v (.head _)
    have h2:=ih fun u hu=>h u (.tail _ hu)
    rw [CV.cc,List.length_append,List.length_cons,Nat.succ_mul];omega
theorem mQ {n:Int} (h0: -9223372036854775808≤n) (h1:n≤9223372036854775807):(bT n).enc.length≤12:=by
  have:=qb (ny h0 h1)
  rw [CV.enc,if_pos rfl,List.length_cons];omega
theorem r7 {s:List UInt8} (h:s.length<2 ^ 64):(c9 s).enc.length≤s.length+12:=by
  have:=qb h
  rw [CV.enc,if_neg (by decide),if_pos rfl,List.length_cons,List.length_append];omega
theorem mR {l:List CV} (h:l.length<2 ^ 64):(cZ l).enc.length≤(CV.cc l).length+12:=by
  have:=qb h
  rw [CV.enc,if_neg (by decide),if_neg (by decide),List.length_cons,List.length_append];omega
theorem yF:∀ {l:List Int} {last:Int},dW last l=true→last<1024→last+l.length<1024
  | [],last,_,h=>by simpa using h
  | n :: l, last, h, _ => by
    simp only [dW,Bool.and_eq_true,decide_eq_true_eq]at h
    have:=yF h.2 h.1.2
    simp only [List.length_cons];omega
theorem BK {l:List Int} (h:cP l=true):l.length≤1024:=by
  have:=yF h (by omega)
  omega
theorem vN {c:cD} (h:dP c=true) (hx:c.x.length=32):(fS c).enc.length≤30000:=by
  obtain⟨h1,h2,_⟩:=rM h
  have he:=BK h2
  have e1:(c9 c.x).enc.length≤44:=by have:=r7 (s:=c.x) (by omega);omega
  have e2:(cZ (c.F.map fH)).enc.length≤10000:=by
    have q1:=mR (l:=c.F.map fH) (by rw [List.length_map];omega)
    have q2:=vM (l:=c.F.map fH) (k:=600) fun v hv=>by
      obtain⟨f,hf,rfl⟩:=List.mem_map.1 hv
      obtain⟨k1,k2,k3⟩:=zn h f hf
      have q3:(fH f).enc.length≤_:=mR (l:= [bT f.nb,c9 f.D]) (by simp)
      have q4:=mQ (n:=f.nb) (by omega) (by omega)
      have q5:=r7 (s:=f.D) (by omega)
      simp only [CV.cc,List.length_append,List.length_nil]at q3
      omega
    rw [List.length_map]at q2
    omega
  have e3:(cZ (c.E.map bT)).enc.length≤12300:=by
    have q1:=mR (l:=c.E.map bT) (by rw [List.length_map];omega)
    have q2:=vM (l:=c.E.map bT) (k:=12) fun v hv=>by
      obtain⟨n,hn,rfl⟩:=List.mem_map.1 hv
      have:=sK h2 n hn
      exact mQ (by omega) (by omega)
    rw [List.length_map]at q2
    omega
  have q:=mR (l:= [c9 c.x,cZ (c.F.map fH),cZ (c.E.map bT)]) (by simp)
  simp only [CV.cc,List.length_append,List.length_nil]at q
  show(cZ _).enc.length≤_
  omega
theorem Kg {c:cD} (h:dP c=true):Rd 16 (fS c):=⟨Cq c,Gt c,C0 h⟩
def CB (v:CV) (ks:List Int):Bool:=decide (v.kd=3)&&(v.ls.map CV.kd==ks)
def ql (v:CV) (i:Nat):CV:=v.ls.getD i zV
def G7 (i:Nat) (v:CV):da:=⟨i,(ql v 0).nm,(ql v 1).st⟩
def AK (l:List CV):List da:=l.mapIdx G7
@[simp] theorem len_filsR (l:List CV):(AK l).length=l.length:=by simp [AK]
def M9 (v:CV):Bool:=CB v [2,3,3]&&decide ((ql v 0).st.length=32)&&(ql v 1).ls.all (fun e=>CB e [1,2])&&(ql v 2).ls.all (fun e=>decide (e.kd=1))
@[irreducible] def encCA (c:cD):A:=if dP c then .tu [.fz (fS c).enc.length ((fS c).enc.map u8),.i .i64 0]else .tu [.nl,.i .i64 340]
theorem An {c:cD} (h:dP c=true):encCA c= .tu [.fz (fS c).enc.length ((fS c).enc.map u8),.i .i64 0]:=by unfold encCA;rw [h];rfl
theorem Am {c:cD} (h:dP c=false):encCA c= .tu [.nl,.i .i64 340]:=by unfold encCA;rw [h];rfl
theorem uh {l:List CV} {m:Nat} (h:m=l.length):((CV.bJ l).drop 0).take (m*4)=CV.bJ l:=by subst h;exact CV.pz l
theorem tg (v:CV):aY (A.ag (CV.cells v))++ []=CV.cells v:=List.append_nil _
theorem G8 {F:List da} {i:Nat} {f:da} (h:F[i]? =some f):CV.bJ ((F.take i).map fH)++CV.cells (fH f)=CV.bJ ((F.take (i+1)).map fH):=by
  rw [CV.y2,List.take_add_one,h];simp
theorem HP {E:List Int} {i:Nat} {q:Int} (h:E[i]? =some q):CV.bJ ((E.take i).map bT)++CV.cells (bT q)=CV.bJ ((E.take (i+1)).map bT):=by
  rw [CV.y2,List.take_add_one,h];simp
theorem Fy {c:cD} (hx:c.x.length=32):A.fz 32 (((eL c).drop (0*1)).take (32*1))= .fz c.x.length (c.x.map u8):=by
  rw [Nat.zero_mul,List.drop_zero,FA hx,hx]
theorem GM {c:cD} (h:dP c=true):encA (fS c)= .tu [.fz (fS c).enc.length ((fS c).enc.map u8),.i .i64 0]:=nY (Kg h).zl
abbrev xK:List UInt8:= [99,97,115,99,97,100,101]
@[irreducible] def lq (c:cD):List UInt8:=tagged xK (fS c).enc
theorem z1 (c:cD):lq c=tagged xK (fS c).enc:=by unfold lq;rfl
@[simp] theorem Bz (c:cD):(lq c).length=32:=by rw [z1];simp
@[irreducible] def digCA (c:cD):A:=if dP c then .tu [.ag ((lq c).map u8),.i .i64 0]else .tu [.ag (ky.map u8),.i .i64 340]
theorem vF {c:cD} (h:dP c=true):digCA c= .tu [.ag ((lq c).map u8),.i .i64 0]:=by unfold digCA;rw [h];rfl
theorem Gx {c:cD} (h:dP c=false):digCA c= .tu [.ag (ky.map u8),.i .i64 340]:=by unfold digCA;rw [h];rfl
theorem LK {c:cD} (h:dP c=true) (hx:c.x.length=32):(fS c).size≤1000000:=by
  have h1:=CV.xC (fS c).size (fS c) (Nat.le_refl _) (Cq c)
  have h2:=vN h hx
  omega
end Go.Abs.D2
-- Abs1
namespace Go.Eng
open Go Go.MapKept
def lj (f:Int→Option Value) (k:Int):Int→Option Value:=fun j=>if j=k then none else f j
theorem dh.erase {es:Array MapEntry} {clk:Nat} {f:Int→Option Value} (h:dh es clk f) {k:Int} {j:Nat} {e:MapEntry} (hj:es[j]? =some e) (he:e.key= .int .i64 k):dh (es.eraseIdxIfInBounds j) clk (lj f k):=by
  have hlt:=(Array.getElem?_eq_some_iff.1 hj).1
  have hmem:∀x,x∈(es.eraseIdxIfInBounds j).toList↔∃i,i≠j∧es.toList[i]? =some x:=fun x=>by
    unfold Array.eraseIdxIfInBounds
    rw [dif_pos hlt,Array.toList_eraseIdx]
    exact List.mem_eraseIdx_iff_getElem?
  have hnd:=h.st.2.2
  have hkey:∀i x,i≠j→es.toList[i]? =some x→x.key≠ .int .i64 k:=fun i x hij hx hk=>by
    have g1:(es.toList.map (·.key))[j]? =some (.int .i64 k):=by rw [List.getElem?_map,Array.getElem?_toList,hj];simp [he]
    have g2:(es.toList.map (·.key))[i]? =some (.int .i64 k):=by rw [List.getElem?_map,hx];simp [hk]
    have hl:=(List.getElem?_eq_some_iff.1 g1).1
    exact hij ((List.getElem?_inj hl hnd).1 (g1.trans g2.symm)).symm
  refine⟨stamped_erase h.st _,fun x hx=>?_,fun i v hi=>?_⟩
  · obtain ⟨i, hij, hx⟩ := (hmem x).1 hx
    obtain⟨q,e1,e2⟩:=h.ent x (List.mem_of_getElem? hx)
    refine⟨q,e1,?_⟩
    unfold lj
    rw [if_neg (fun e=>hkey i x hij hx (by rw [e1,e])),e2]
  · unfold lj at hi
    split at hi
    · cases hi
    · rename_i hne
      obtain⟨x,hx,e1⟩:=h.has i v hi
      obtain⟨q,hq⟩:=List.mem_iff_getElem?.1 hx
      refine⟨x,(hmem x).2 ⟨q,fun e2=>?_,hq⟩,e1⟩
      subst e2
      rw [Array.getElem?_toList,hj]at hq
      simp only [Option.some.injEq]at hq
      subst hq
      rw [he]at e1
      simp only [Value.int.injEq,true_and]at e1
      exact hne e1.symm
def fW (x:MapEntry):Int:=match x.key with
  | .int _ k=>k
  |_=>0
theorem dh.size {es:Array MapEntry} {clk:Nat} {f:Int→Option Value} (h:dh es clk f) {L:List Int} (hn:L.Nodup) (hL:∀k,(f k).isSome=true↔k∈L):es.size=L.length:=by
  have hk:∀x∈es.toList,x.key= .int .i64 (fW x)∧f (fW x)=some x.val:=fun x hx=>by
    obtain⟨k,e1,e2⟩:=h.ent x hx
    have:fW x=k:=by unfold fW;rw [e1]
    rw [this];exact⟨e1,e2⟩
  have hnd:(es.toList.map fW).Nodup:=by
    have h3:=h.st.2.2
    rw [List.nodup_iff_pairwise_ne]at h3 ⊢
    rw [List.pairwise_map]at h3 ⊢
    refine h3.imp_of_mem fun {a b} ha hb hne e=>hne ?_
    rw [(hk a ha).1,(hk b hb).1,e]
  have hp:(es.toList.map fW).Perm L:=(List.perm_ext_iff_of_nodup hnd hn).2 fun k=>by
    rw [←hL k,List.mem_map]
    constructor
    · rintro ⟨x, hx, rfl⟩
      rw [(hk x hx).2];rfl
    · intro hs
      obtain⟨v,hv⟩:=Option.isSome_iff_exists.1 hs
      obtain⟨x,hx,e⟩:=h.has k v hv
      exact⟨x,hx,by unfold fW;rw [e]⟩
  have:=hp.length_eq
  rw [List.length_map]at this
  simpa using this
end Go.Eng
namespace Go.Abs
open Go Go.Eng Go.MapKept
section
variable {w0:Bw} {β:Bm} {X:Xs} {st:St} {w:World}
theorem Mem.J4 (hm : Mem w0 β X st w) (hf : st.free cd = true) :
    Mem w0 (b6 β cd (.mp w.heap.size)) X (st.put cd [.mc w.heap.size (fun _=>none)]) {w with heap:=w.heap.push (.map #[] 0)}∧cf X X w {w with heap:=w.heap.push (.map #[] 0)}:=by
  have hbel:RowKit.Below w.heap.size w {w with heap:=w.heap.push (.map #[] 0)}:=⟨rfl,rfl,rfl,by simp,fun k hk=>by simp [Array.getElem?_push,Nat.ne_of_lt hk]⟩
  have hx:cf X X w {w with heap:=w.heap.push (.map #[] 0)}:=fun q o h=>⟨h,World.cell?_of_block (w:=w) (hbel.block q (hm.xlt q o h))⟩
  have hnx:=hm.dom cd hf
  refine⟨.of (hm.below.trans hbel) (fun k y h=>(cl hnx) k y (hm.b0 k y h)) (fun q o h=>Nat.lt_of_lt_of_le (hm.xlt q o h) hbel.size) (fun k h=>?_) (fun k ds hg=>?_) (fun i j ci cj q M N' hij hi hj hbi hbj=>?_),hx⟩
  · rw [St.en] at h
    split at h
    · cases h
    · rename_i hne
      rw [b7 (fun e=>hne e.symm)]
      exact hm.dom k h
  · rw [St.cg] at hg
    split at hg
    · rename_i e; subst e
      simp only [Option.some.injEq]at hg
      subst hg
      unfold OB
      rw [bH]
      exact⟨rfl,Bw.j4 hm.below (Nat.le_refl _),fun o h=>absurd (hm.xlt _ o h) (Nat.lt_irrefl _),_, #[],0,rfl,by simp,dh.empty 0⟩
    · refine (hm.obj k ds hg).later hx (cl hnx) (fun q M hq => ?_) fun q hq => ⟨hbel.block q ((hm.obj k ds hg).m8 hq), ((hm.obj k ds hg).dZ hq).2.2.1⟩
      have h:=(hm.obj k ds hg).kI hq rfl
      exact⟨hbel.block q h.1,h.2.2⟩
  · rw [St.cg] at hi hj
    by_cases ei:cd=i
    · subst ei;rw [bH]at hbi;cases hbi
    · rw [if_neg ei] at hi
      rw [b7 (fun e=>ei e.symm)]at hbi
      by_cases ej:cd=j
      · subst ej;rw [bH]at hbj;cases hbj
      · rw [if_neg ej] at hj
        rw [b7 (fun e=>ej e.symm)]at hbj
        exact hm.inj i j ci cj q M N' hij hi hj hbi hbj
theorem Mem.Dl (hm : Mem w0 β X st w) {b : Nat} {f f' : Int → Option Value} {es : Array MapEntry} {clk : Nat} {w1 : World} (hg : st.get cd = some [.mc b f]) (hF : dh es clk f') (hG : Eng.Good [w] [(b, .map es clk)] w1) :
    Mem w0 β X (st.put cd [.mc b f']) w1∧cf X X w w1:=by
  have ho:=hm.obj cd _ hg
  obtain⟨y,hβ,hy⟩:∃y,β cd=some y∧y= .mp b:=by
    have ho2:=ho
    unfold OB at ho2
    cases hb:β cd with
    |none=>rw [hb]at ho2;exact ho2.elim
    | some y =>
      rw [hb]at ho2
      cases y with
      |ph=>cases ho2
      | bk q N =>
        obtain⟨_,_,us,rest,ty,_,_,h5,_⟩:=ho2
        simp only [VS,V]at h5
        obtain⟨_,_,_,h,_⟩:=h5
        exact h.elim
      | mp q =>
        obtain⟨_,_,_,g,_,_,e,_⟩:=ho2
        simp only [List.cons.injEq,A.mc.injEq,and_true]at e
        exact⟨_,rfl,by rw [e.1]⟩
  subst hy
  obtain⟨_,hown,hnX,g,es0,clk0,_,hb0,_⟩:=ho.dZ hβ
  have hlt:=(Array.getElem?_eq_some_iff.1 hb0).1
  have hsn:=hG.snap w (.head _)
  have hblk:∀k,k<w.heap.size→k≠b→w1.heap[k]? =w.heap[k]? :=fun k hk hne=>hsn.blk k hk (fun p hp=>by simp only [List.mem_singleton]at hp;subst hp;exact fun e=>hne e.symm)
  have hw1:=hG.own _ (.head _)
  simp only at hw1
  have hx:cf X X w w1:=fun q o h=>⟨h,World.cell?_of_block (w:=w) (hblk q (hm.xlt q o h) fun e=>by subst e;exact hnX o h)⟩
  refine⟨.of ⟨hsn.os.trans hm.below.os,hsn.tape.trans hm.below.tape,hsn.output.trans hm.below.output,Nat.le_trans hm.below.size hsn.size,fun k hk hM=>?_,fun s hs=>?_⟩ hm.b0 (fun q o h=>Nat.lt_of_lt_of_le (hm.xlt q o h) hsn.size) (fun k h=>?_) (fun k ds hk=>?_) (fun i j ci cj q M N' hij hi hj hbi hbj=>?_),hx⟩
  · rw [hblk k (Nat.lt_of_lt_of_le hk hm.below.size) (fun e => by
      subst e
      rcases hown with h|h
      · omega
      · exact hM h)]
    exact hm.below.block k hk hM
  · refine cz.pZ (hm.below.sus s hs) fun q hq => hblk q (by rcases hq with hq | ⟨r, hq⟩ <;> exact (Array.getElem?_eq_some_iff.1 hq).1) fun e => ?_
    subst e
    rw [hb0]at hq
    rcases hq with h|⟨_,h⟩<;>cases h
  · rw [St.en] at h
    split at h
    · cases h
    · exact hm.dom k h
  · rw [St.cg] at hk
    split at hk
    · rename_i e; subst e
      simp only [Option.some.injEq]at hk
      subst hk
      unfold OB
      rw [hβ]
      exact⟨rfl,hown,hnX,f',es,clk,rfl,hw1,hF⟩
    · rename_i hne
      have key:∀(y:BL) (q:Nat),β k=some y→y.on q→w1.heap[q]? =w.heap[q]? ∧∀o,¬X q o:=fun y q hq hyq=>
        ⟨hblk q ((hm.obj k ds hk).kI hq hyq).1 fun e=>by subst e;exact hm.apart hne hg hk hβ hq rfl hyq,((hm.obj k ds hk).kI hq hyq).2.2⟩
      exact(hm.obj k ds hk).later hx (bM.refl β) (fun q M hq=>key _ q hq rfl) fun q hq=>key _ q hq rfl
  · have g : ∀ (k : Nat) (c : List A), (st.put cd [.mc b f']).get k = some c → ∃ c', st.get k = some c' := fun k c hk => by
      rw [St.cg]at hk
      split at hk
      · rename_i e;subst e;exact⟨_,hg⟩
      · exact⟨_,hk⟩
    obtain⟨c1,h1⟩:=g i ci hi
    obtain⟨c2,h2⟩:=g j cj hj
    exact hm.inj i j c1 c2 q M N' hij h1 h2 hbi hbj
theorem Mem.sM (hm:Mem w0 β X st w) {b:Nat} {f:Int→Option Value} (hg:st.get cd=some [.mc b f]):∃es clk,w.heap[b]? =some (.map es clk)∧dh es clk f:=by
  have ho:=hm.obj cd _ hg
  unfold OB at ho
  cases hb:β cd with
  |none=>rw [hb]at ho;exact ho.elim
  | some y =>
    rw [hb]at ho
    cases y with
    |ph=>cases ho
    | bk q N =>
      obtain⟨_,_,us,rest,ty,_,_,h5,_⟩:=ho
      simp only [VS,V]at h5
      obtain⟨_,_,_,h,_⟩:=h5
      exact h.elim
    | mp q =>
      obtain⟨_,_,_,g,es,clk,e,h4,h5⟩:=ho
      simp only [List.cons.injEq,A.mc.injEq,and_true]at e
      obtain⟨e1,e2⟩:=e
      subst e1;subst e2
      exact⟨es,clk,h4,h5⟩
end
section
variable {P:Program} {w0:Bw} {X0:Xs} {n:Nat} {E:Ev} {st:St} {K:Act→World→Prop} {Q:Exit→Act→World→Prop}
theorem wO {d:Nat} {t ty:TypeId} {pos aG g} (hf:st.free cd=true) (hd:Nat.ble (d+1) n=true)
    (h:∀b,At w0 X0 n ((d,.raw (.map (some b)))::E) (st.put cd [.mc b (fun _=>none)]) K):At w0 X0 n E st (fun a w=>(⟨some d,.makeMap t none,ty,pos,aG,g⟩:Oper).wp P a w K Q):=by
  rintro a w ⟨β,X,hr⟩
  obtain⟨hm,hx⟩:=hr.mem.J4 hf
  have hrun:(execOp a.eval ⟨some d,.makeMap t none,ty,pos,aG,g⟩).run P w= .ok (.value (.map (some w.heap.size))) {w with heap:=w.heap.push (.map #[] 0)}:=by
    simp [execOp,Instr.makeMap]
  unfold Oper.wp
  rw [hrun]
  exact h w.heap.size _ _ ⟨_,X,hr.gF hd hx (fun _ _ h=> .inl h) (cl (hr.mem.dom cd hf)) hm (by simp only [V])⟩
theorem sV {t kt et ty:TypeId} {pos aG g} {x y z:Operand} {b:Nat} {f:Int→Option Value} {k v:Int} {kv:IntKind} (hm:P.underlying t=some (.map kt et)) (hk:P.underlying kt=some (.int .i64))
    (hx:ev E x=some (.raw (.map (some b)))) (hy:ev E y=some (.i .i64 k)) (hz:ev E z=some (.i kv v)) (hg:st.get cd=some [.mc b f])
    (h:At w0 X0 n E (st.put cd [.mc b (gM f k (.int kv v))]) K):At w0 X0 n E st (fun a w=>(⟨none,.mapUpdate t x y z,ty,pos,aG,g⟩:Oper).wp P a w K Q):=by
  rintro a w ⟨β,X,hr⟩
  obtain⟨e1,e2⟩:=hr.bB hx
  obtain⟨e3,e4⟩:=hr.bB hy
  obtain⟨e5,e6⟩:=hr.bB hz
  simp only [V]at e2 e4 e6
  rw [e2]at e1;rw [e4]at e3;rw [e6]at e5
  obtain⟨es,clk,hb,hF⟩:=hr.mem.sM hg
  refine Eng.sV (S:= [w]) (H:= [(b,.map es clk)]) (E:=full a) (n:=a.tmps.size) 0 hm hk e1 e3 e5 rfl hF (fun es' clk' hF' a1 w1 hR hG=>?_) a w (dQ a hr.defers) (lD hb)
  obtain⟨m1,m2⟩:=hr.mem.Dl (w1:=w1) hg hF' hG
  exact h a1 w1 ⟨β,X,hr.eP hR m2 (fun _ _ h=> .inl h) (bM.refl β) m1⟩
theorem nD {t kt et ty : TypeId} {x y : Operand} {b : Nat} {f : Int → Option Value} {k m : Int} {kv : IntKind} (hm : P.underlying t = some (.map kt et)) (hk : P.underlying kt = some (.int .i64)) (hz0 : ∀ w, (zeroValue et).run P w = .ok (.int kv 0) w)
    (hx:ev E x=some (.raw (.map (some b)))) (hy:ev E y=some (.i .i64 k)) (hg:st.get cd=some [.mc b f]) (hf:(f k).getD (.int kv 0)= .int kv m):YO P E st (.lookup t x y false) ty (.i kv m):=by
  intro w0 X0 n β X a w hr
  obtain⟨e1,e2⟩:=hr.bB hx
  obtain⟨e3,e4⟩:=hr.bB hy
  simp only [V]at e2 e4
  rw [e2]at e1;rw [e4]at e3
  have ho:=hr.memq.obj cd _ hg
  obtain⟨hβ,es,clk,hb,hF⟩:β cd=some (.mp b)∧∃es clk,w.heap[b]? =some (.map es clk)∧dh es clk f:=by
    unfold OB at ho
    cases hb:β cd with
    |none=>rw [hb]at ho;exact ho.elim
    | some y =>
      rw [hb]at ho
      cases y with
      |ph=>cases ho
      | bk q N =>
        obtain⟨_,_,us,rest,ty,_,_,h5,_⟩:=ho
        simp only [VS,V]at h5
        obtain⟨_,_,_,h,_⟩:=h5
        exact h.elim
      | mp q =>
        obtain⟨_,_,_,g,es,clk,e,h4,h5⟩:=ho
        simp only [List.cons.injEq,A.mc.injEq,and_true]at e
        obtain⟨e1,e2⟩:=e
        subst e1;subst e2
        exact⟨rfl,es,clk,h4,h5⟩
  refine⟨.int kv m,by simp only [V],fun d pos aG g w' hs=>?_⟩
  have hb':w'.heap[b]? =some (.map es clk):=(hs.map _ _ _ hg hβ).trans hb
  have hy:=Eng.nD (P:=P) (S:= [w']) (H:= [(b,.map es clk)]) (E:=full a) (n:=a.tmps.size) (ty:=ty) 0 hm hk hz0 e1 e3 rfl hF
  rw [hf]at hy
  exact hy d pos aG g a w' (dQ a hr.defers) (lD hb')
theorem IX {t kt et ty : TypeId} {ats : Array TypeId} {pos aG g} {x y : Operand} {b : Nat} {f : Int → Option Value} {k : Int} (hm : P.underlying t = some (.map kt et)) (hk : P.underlying kt = some (.int .i64)) (hat : ats = #[t, kt])
    (hx:ev E x=some (.raw (.map (some b)))) (hy:ev E y=some (.i .i64 k)) (hg:st.get cd=some [.mc b f])
    (h:At w0 X0 n E (st.put cd [.mc b (lj f k)]) K):At w0 X0 n E st (fun a w=>(⟨none,.call {callee:= .builtin .delete,args:= #[x,y],argTypes:=ats},ty,pos,aG,g⟩:Oper).wp P a w K Q):=by
  subst hat
  rintro a w ⟨β,X,hr⟩
  obtain⟨e1,e2⟩:=hr.bB hx
  obtain⟨e3,e4⟩:=hr.bB hy
  simp only [V]at e2 e4
  rw [e2]at e1;rw [e4]at e3
  have f1:=(dQ a hr.defers).ev e1
  have f3:=(dQ a hr.defers).ev e3
  obtain⟨es,clk,hb,hF⟩:=hr.mem.sM hg
  have hkk:IsKey (.int .i64) (Value.int .i64 k):=rfl
  obtain ⟨es', hF', hrun⟩ : ∃ es', dh es' clk (lj f k) ∧ (execOp a.eval ⟨none, .call { callee := .builtin .delete, args := #[x, y], argTypes := #[t, kt] }, ty, pos, aG, g⟩).run P w = .ok (.value (.tuple #[])) { w with heap := w.heap.setIfInBounds b (.map es' clk) } := by
    rcases findNow_spec hkk es.toList 0 hF.keys with ⟨h1,h2⟩|⟨j,e,h1,h2,h3⟩
    · refine ⟨es, ?_, ?_⟩
      · have : lj f k = f := by
          funext i
          unfold lj
          split
          · rename_i e; subst e
            cases hf:f i with
            |none=>rfl
            |some v=>obtain⟨q,hq,e⟩:=hF.has i v hf;exact absurd e (h2 q hq)
          · rfl
        rw [this];exact hF
      · simp [execOp,resolve,invoke,builtin,f1,f3,Builtin.delete_,run_underlying hm,MapKept.run_getObj_map hb,MapKept.run_checkKey hk hkk,MapKept.run_findKey hk h1,MapKept.run_setObj_map _ hb,Result.andThen]
    · have hj : es[j]? = some e := by simpa using h2
      refine⟨_,hF.erase hj h3,?_⟩
      simp [execOp,resolve,invoke,builtin,f1,f3,Builtin.delete_,run_underlying hm,MapKept.run_getObj_map hb,MapKept.run_checkKey hk hkk,MapKept.run_findKey hk h1,MapKept.run_setObj_map _ hb,Result.andThen]
  obtain⟨m1,m2⟩:=hr.mem.Dl (w1:= {w with heap:=w.heap.setIfInBounds b (.map es' clk)}) hg hF' ((lD hb).set 0 rfl rfl rfl rfl (by simp) (heap_set hb).1 (fun q hq=>(heap_set hb).2 q hq))
  unfold Oper.wp
  rw [hrun]
  exact h a _ ⟨β,X,hr.eP (dQ a hr.defers) m2 (fun _ _ h=> .inl h) (bM.refl β) m1⟩
theorem MemQ.sM {β:Bm} {X:Xs} {w:World} (hm:MemQ w0 β X st w) {b:Nat} {f:Int→Option Value} (hg:st.get cd=some [.mc b f]):β cd=some (.mp b)∧∃es clk,w.heap[b]? =some (.map es clk)∧dh es clk f:=by
  have ho:=hm.obj cd _ hg
  unfold OB at ho
  cases hb:β cd with
  |none=>rw [hb]at ho;exact ho.elim
  | some y =>
    rw [hb]at ho
    cases y with
    |ph=>cases ho
    | bk q N =>
      obtain⟨_,_,us,rest,ty,_,_,h5,_⟩:=ho
      simp only [VS,V]at h5
      obtain⟨_,_,_,h,_⟩:=h5
      exact h.elim
    | mp q =>
      obtain⟨_,_,_,g,es,clk,e,h4,h5⟩:=ho
      simp only [List.cons.injEq,A.mc.injEq,and_true]at e
      obtain⟨e1,e2⟩:=e
      subst e1;subst e2
      exact⟨rfl,es,clk,h4,h5⟩
theorem MK {t kt et ty:TypeId} {x:Operand} {b:Nat} {f:Int→Option Value} (L:List Int) (hm:P.underlying t=some (.map kt et)) (hx:ev E x=some (.raw (.map (some b)))) (hg:st.get cd=some [.mc b f]) (hn:L.Nodup) (hL:∀k,(f k).isSome=true↔k∈L):
    YO P E st (.call {callee:= .builtin .len,args:= #[x],argTypes:= #[t]}) ty (.i .i64 (L.length:Nat)):=by
  intro w0 X0 n β X a w hr
  obtain⟨e1,e2⟩:=hr.bB hx
  simp only [V]at e2
  rw [e2]at e1
  have f1:=(dQ a hr.defers).ev e1
  obtain⟨hβ,es,clk,hb,hF⟩:=hr.memq.sM hg
  have hs:=hF.size hn hL
  refine⟨.int .i64 (L.length:Nat),by simp only [V],fun d pos aG g w' hsm=>?_⟩
  have hb':w'.heap[b]? =some (.map es clk):=(hsm.map _ _ _ hg hβ).trans hb
  simp [execOp,resolve,invoke,builtin,f1,Builtin.len_,run_underlying hm,MapKept.run_getObj_map hb',Result.andThen,hs]
  rfl
end
end Go.Abs
-- Abs2
namespace Go.Abs
open Go Go.Eng
section
variable {P:Program} {w0 w1 w2:Bw} {X0:Xs} {n:Nat} {E:Ev} {st:St} {Q:Exit→Act→World→Prop} {r:Option Nat} {ds:List Deferred}
theorem py {l D n1 nO:Nat} {rc:Loop} {Ek Eit:Ev} {ps:List Tmp} {assign body:Code} {ids idsR:List Nat} {tm:Array Value} {d:Nat} {N:Act→World→Prop} {ch:List PanicEntry} {fo:Func} (hf:P.funcs[rc.fn]? =some fo)
    (hR:Rg w0 w1 idsR l D rc nO Ek ps assign body .ready none) (hd:Rd w0 w1 w2 ids l D rc Ek .busy none tm n1 Eit)
    (h:∀wj,Rg w0 wj idsR l D rc nO Ek ps assign body .busy none→At wj X0 n1 Eit st (Pw ds (Q (.panic ch)))):At w2 X0 n E st (Pw [] (oM P l rc.fn (oJ ds tm (some d) N Q) (.panic ch))):=by
  rintro a w ⟨β,X,hr⟩
  obtain⟨wj,hβ,hS⟩:=hR.stop .busy none
  have hss:w2.sus= .fr tm Eit w2.β:: .lp l {rc with state:= .busy,pending:=none} Ek w1.β:: .df D::w0.sus:=hd.sub.sus
  have hs1:wj.sus= .lp l {rc with state:= .busy,pending:=none} Ek wj.β:: .df D::w0.sus:=hS.sub.sus
  have hfr:=hr.sslot (.fr tm Eit w2.β) (by rw [hss];exact .head _)
  refine⟨by rw [lL];exact hr.defers,⟨_,hf⟩,h _ hS ⟨tm, []⟩ w ⟨β,X,hr.gG (hS.sub.w.trans hd.sub.w.symm) (hS.sub.M.trans hd.sub.M.symm) .refl (fun id y h=>hr.mem.b0 id y (hd.ext id y (hβ ▸ h))) (fun s hs=>?_) (fun s hs=>?_) hd.size rfl (fun t v ht=>?_)⟩⟩
  · refine sE (B := w2) (hr.mem.below.sus s ?_) (fun b h => (oD (hS.sub.w.trans hd.sub.w.symm) (hS.sub.M.trans hd.sub.M.symm) b).2 h) (fun _ _ _ _ => rfl)
    rw [hs1,hβ]at hs
    rw [hss];exact .tail _ hs
  · refine hr.sslot s ?_
    rw [hs1,hβ]at hs
    rw [hss];exact .tail _ hs
  · obtain ⟨u, g1, g2⟩ := hfr t v ht
    exact⟨u,g1,dM (fun b o h=>⟨h,rfl⟩) _ _ _ _ hr.mem.b0 g2⟩
theorem nS {l D nO:Nat} {rc:Loop} {Ek:Ev} {ps:List Tmp} {assign body:Code} {idsR:List Nat} {s:LoopState} {pe:Option Code} {fn:Func} {ss:List cz} {ch:List PanicEntry} (hR:Rg w0 w1 idsR l D rc nO Ek ps assign body s pe) (hs0:w0.sus=ss)
    (h:At (w0.re (.df D::ss)) X0 nO Ek st (Pw (dY D::ds) (Q (.panic ch)))):At w1 X0 n E st (Pw [] (bodyPostM (rF none) 0 P fn (rangePost (rF r) 0 P l Q (Act.wd (dY D::ds) ⟨rc.tmps, []⟩)) (.panic ch))):=by
  rintro a w ⟨β,X,hr⟩
  subst hs0
  have hss:w1.sus= .lp l {rc with state:=s,pending:=pe} Ek w1.β:: .df D::w0.sus:=hR.sub.sus
  have hlp:=hr.sslot (.lp l {rc with state:=s,pending:=pe} Ek w1.β) (by rw [hss];exact .head _)
  show LeavesInM (rF none) 0 P fn (a.wd []).tmps _ (a.wd []).defers (.panicking ch) w
  rw [lL,hr.defers]
  show Q (.panic ch) (Act.wd (dY D::ds) ⟨rc.tmps, []⟩) w
  refine h ⟨rc.tmps, []⟩ w ⟨β,X,hr.gG hR.sub.w.symm hR.sub.M.symm .refl (fun id y h=>hr.mem.b0 id y (hR.sub.ext id y h)) (fun s hs=>?_) (fun s hs=>?_) hR.size rfl (fun t v ht=>?_)⟩
  · exact sE (B:=w1) (hr.mem.below.sus s (by rw [hss];exact .tail _ hs)) (fun b h=>(oD hR.sub.w hR.sub.M b).1 h) (fun _ _ _ _=>rfl)
  · exact hr.sslot s (by rw [hss];exact .tail _ hs)
  · obtain ⟨u, g1, g2⟩ := hlp t v ht
    exact⟨u,g1,dM (fun b o h=>⟨h,rfl⟩) _ _ _ _ hr.mem.b0 g2⟩
theorem BT {fn:Func} {Rr:Ending→World→Prop} {ch:List PanicEntry}:∀(ds:List Nat) {wB:Bw} {a:Act} {w:World},ds.Nodup→wB.sus=ds.map .df→Rel wB X0 n E st a w→(∀w',Rel (wB.re []) X0 n E st a w'→Rr (.panicked ch) w')→
    LeavesInM (rF none) 0 P fn a.tmps Rr (ds.map dY) (.panicking ch) w
  | [],wB,a,w,_,hs,⟨β,X,hr⟩,h=>h w ⟨β,X,hr.gG rfl rfl .refl hr.mem.b0 (fun s hs=>by cases hs) (fun s hs=>by cases hs) hr.size hr.defers hr.slot⟩
  | D :: ds, wB, a, w, hnd, hs, ⟨β, X, hr⟩, h => by
    have hs':wB.sus= .df D::ds.map .df:=by simpa using hs
    have hk:=hr.mem.below.sus (.df D) (by rw [hs'];exact .head _)
    refine⟨by simp,.inl ⟨D,_,rfl,run_takeDeferred hk.2,?_⟩⟩
    refine BT ds (wB:=wB.re (ds.map .df)) (List.nodup_cons.1 hnd).2 rfl ⟨β,X,hr.gG rfl rfl (Qt.put hk.1 hk.2 rfl rfl) hr.mem.b0 (fun s hs=>?_) (fun s hs=>?_) hr.size hr.defers hr.slot⟩ h
    · obtain ⟨D', hD, rfl⟩ := List.mem_map.1 hs
      have hk':=hr.mem.below.sus (.df D') (by rw [hs'];exact .tail _ hs)
      exact⟨hk'.1,(World.putObj_heap_other (fun e:D'=D=>(List.nodup_cons.1 hnd).1 (e ▸ hD))).trans hk'.2⟩
    · obtain ⟨D', hD, rfl⟩ := List.mem_map.1 hs
      trivial
theorem nT {wB:Bw} {fn:Func} {R:A→St→Prop} {pn:Value→Prop} {u:Value} (hw:wB.w=w0.w) (hM:wB.M=w0.M) (hβ:wB.β=w0.β) (hs0:w0.sus= []) {dn:List Nat} (hdn:ds=dn.map dY) (hsB:wB.sus=dn.map .df) (hnd:dn.Nodup) (hp:pn u):
    At wB X0 n E st (Pw ds (bodyPostM (rF none) 0 P fn (lP w0 X0 R pn) (.panic (iR u)))):=fun a w hr=>by
  have hd:a.defers= []:=by obtain⟨_,_,hr⟩:=hr;exact hr.defers
  show LeavesInM (rF none) 0 P fn a.tmps _ (a.wd ds).defers (.panicking (iR u)) w
  have e:(a.wd ds).defers=dn.map dY:=by simp [Act.wd,hd,hdn]
  rw [e]
  refine BT dn hnd hsB hr fun w' ⟨β,X,hr'⟩=>?_
  have hr0:b9 w0 X0 n E st β X a w':=hr'.gG hw.symm hM.symm .refl (by rw [←hβ];exact hr'.mem.b0) (fun s hs=>by rw [hs0]at hs;cases hs) (fun s hs=>by rw [hs0]at hs;cases hs) hr'.size hr'.defers hr'.slot
  exact .inr ⟨u,rfl,hp,.raw undef,β,X,st,trivial,hr0.x0,hr0.xn,hr0.mem,by simp only [V]⟩
theorem Bq {F:Fence} {m:Nat} {fn:Func} {tm:Array Value} {R R':Ending→World→Prop} (hr:∀e w,R e w→R' e w):∀(ds:List Nat) {w:World},LeavesInM F m P fn tm R (ds.map dY) .returning w→LeavesInM F m P fn tm R' (ds.map dY) .returning w
  | [],w,⟨v,h1,h2⟩=>⟨v,h1,hr _ _ h2⟩
  | D :: ds, w, ⟨h0, h⟩ => ⟨h0, by
    rcases h with ⟨r,w',h1,h2,h3⟩|⟨_,fv,cap,f,args,h1,_⟩
    · exact .inl ⟨r,w',h1,h2,Bq hr ds h3⟩
    · cases h1⟩
theorem E8 {wB:Bw} {fn:Func} {R:A→St→Prop} {pn:Value→Prop} {rs:List ResultVar} {vs:List A} (hw:wB.w=w0.w) (hM:wB.M=w0.M) (hβ:wB.β=w0.β) (hs0:w0.sus= []) {dn:List Nat} (hdn:ds=dn.map dY) (hsB:wB.sus=dn.map .df) (hnd:dn.Nodup) (hrs:fn.results=rs.toArray) (hv:fe P E st rs vs) (h:R (j7 vs) st):
    At wB X0 n E st (Pw ds (bodyPostM (rF none) 0 P fn (lP w0 X0 R pn) .ret)):=fun a w hr=>by
  have hd:a.defers= []:=by obtain⟨_,_,hr⟩:=hr;exact hr.defers
  have h1:=px hw hM hβ hs0 hdn hsB hnd hrs hv h a w hr
  show LeavesInM (rF none) 0 P fn a.tmps _ (a.wd ds).defers .returning w
  have e:(a.wd ds).defers=dn.map dY:=by simp [Act.wd,hd,hdn]
  have h2:LeavesInM (rF none) 0 P fn a.tmps _ (a.wd ds).defers .returning w:=h1
  rw [e]at h2 ⊢
  exact Bq (fun e w h=> .inl h) dn h2
def gz (P:Program) (f0:FuncId) (c:Code) (Q:Exit→Act→World→Prop) (a:Act) (w:World):Prop:=
  ∀(b:Frame) (k:List Item) (cs:List Frame),b.roundOf=none→b.fn=f0→∃e a' w',Q e a' w'∧ArrivesIn (Machine.fenced P (rF none)) P (lone (b.atR a (.code c::k)) cs w) b k cs e a' w'
theorem kN {m:Nat}:(rF none).room m:=fun d h=>by cases h
theorem Mw {f0:FuncId} {c:Code} {a:Act} {w:World} (h:c.wpIn (rF none) 0 P Q a w):gz P f0 c Q a w:=fun b k cs hro _=>h b k cs hro trivial kN
theorem My {f0:FuncId} {x y:Code} {a:Act} {w:World} (h:gz P f0 x (Exit.then (gz P f0 y Q) Q) a w):gz P f0 (.seq x y) Q a w:=by
  intro b k cs hro hb
  have h0:(lone (b.atR a (.code (.seq x y)::k)) cs w).fenced P (rF none):=fenced_calm (n:=0) trivial kN rfl
  obtain⟨e,a₁,w₁,hq,harr⟩:=h b (.code y::k) cs hro hb
  cases e with
  | normal =>
    obtain⟨e₂,a₂,w₂,hq₂,harr₂⟩:=hq b k cs hro hb
    exact⟨e₂,a₂,w₂,hq₂,.of_steps (.head h0 stepR_seq harr) harr₂⟩
  |exit id=>exact⟨_,a₁,w₁,hq,.of_steps (.one h0 stepR_seq) (.pass (x:= .code y) rfl (fun _ _=> .inl (by simp)) harr)⟩
  |goto l=>exact⟨_,a₁,w₁,hq,.of_steps (.one h0 stepR_seq) (.pass (x:= .code y) rfl (fun _ _=> .inl (by simp)) harr)⟩
  |ret=>exact⟨_,a₁,w₁,hq,.of_steps (.one h0 stepR_seq) (.pass (x:= .code y) rfl (fun _ _=> .inl (by simp)) harr)⟩
  |panic ch=>exact⟨_,a₁,w₁,hq,.of_steps (.one h0 stepR_seq) (.pass (x:= .code y) rfl (fun _ _=> .inl (by simp)) harr)⟩
  |outgrown=>exact⟨_,a₁,w₁,hq,.of_steps (.one h0 stepR_seq) (.pass (x:= .code y) rfl (fun _ _=> .inl (by simp)) harr)⟩
theorem Mv {f0 id : Nat} {c : Code} {a : Act} {w : World} (h : gz P f0 c (Exit.inBlock id Q) a w) : gz P f0 (.block id c) Q a w := by
  intro b k cs hro hb
  have h0:(lone (b.atR a (.code (.block id c)::k)) cs w).fenced P (rF none):=fenced_calm (n:=0) trivial kN rfl
  obtain⟨e,a₁,w₁,hq,harr⟩:=h b (.inBlock id::k) cs hro hb
  cases e with
  |normal=>exact⟨.normal,a₁,w₁,hq,.head h0 stepR_block (StepsIn.trans harr (.one (fenced_calm (n:=0) trivial kN rfl) stepR_inBlock))⟩
  | exit id' =>
    by_cases hid:id'=id
    · simp only [Exit.inBlock, hid, if_true] at hq
      exact⟨.normal,a₁,w₁,hq,.head h0 stepR_block (harr.1 k (by simp [exitTo,hid]))⟩
    · simp only [Exit.inBlock, hid, if_false] at hq
      have this:(id==id')=false:=by simp;exact fun h=>hid h.symm
      have hx:exitTo id' (.inBlock id::k)=exitTo id' k:=by simp [exitTo,this]
      exact⟨.exit id',a₁,w₁,hq,fun k' hk=> .head h0 stepR_block (harr.1 k' (by rw [hx];exact hk)),
        fun hr' hk=>let ⟨k₁,h1,h2⟩:=harr.2 hr' (by rw [hx];exact hk);⟨k₁,h1,.head h0 stepR_block h2⟩⟩
  | goto l =>
    have hx:gotoIn l (.inBlock id::k)=gotoIn l k:=by simp [gotoIn]
    exact⟨_,a₁,w₁,hq,fun k' hk=> .head h0 stepR_block (harr.1 k' (by rw [hx];exact hk)),
      fun hr' hk=>let ⟨k₁,h1,h2⟩:=harr.2 hr' (by rw [hx];exact hk);⟨k₁,h1,.head h0 stepR_block h2⟩⟩
  |ret=>exact⟨_,a₁,w₁,hq,.of_steps (.one h0 stepR_block) harr⟩
  |panic ch=>exact⟨_,a₁,w₁,hq,.of_steps (.one h0 stepR_block) harr⟩
  |outgrown=>exact⟨_,a₁,w₁,hq,.of_steps (.one h0 stepR_block) harr⟩
theorem Fw {f:FuncId} {fn:Func} {c:Code} {args:Array Value} {w:World} {R:Ending→World→Prop} (hf:P.funcs[f]? =some fn) (hb:fn.body=some c)
    (h:gz P f c (bodyPostM (rF none) 0 P fn R) {tmps:=args++Array.replicate (fn.ntmps - args.size) undef,defers:= []} w):CallsIn (rF none) 0 P f args w R:=by
  refine⟨trivial,fun cs hr=>?_⟩
  let b:Frame:= {(default:Frame)with fn:=f,kind:= .normal,roundOf:=none}
  have henter:Frame.enter P f args .normal=b.atR {tmps:=args++Array.replicate (fn.ntmps - args.size) undef,defers:= []} [.code c]:=by simp [Frame.enter,Frame.atR,hf,hb,b]
  obtain⟨e,a',w',hq,harr⟩:=h b [] cs rfl rfl
  rw [←henter]at harr
  cases e with
  | normal =>
    obtain⟨e',w'',fr',hR,hs,hfn,hl⟩:=leaves_stepsInM a'.defers .returning w' {b.atR a' []with mode:= .returning} cs rfl rfl rfl hf rfl trivial hr hq
    exact⟨e',w'',fr',hR,ComesIn.of_steps (StepsIn.trans harr (.one (fenced_calm (fr:=b.atR a' []) (n:=0) trivial hr rfl) (stepR_end rfl))) hs,hfn,hl⟩
  | ret =>
    obtain⟨todo,hs₀⟩:=harr.1 rfl
    obtain⟨e',w'',fr',hR,hs,hfn,hl⟩:=leaves_stepsInM a'.defers .returning w' {b.atR a' todo with mode:= .returning} cs rfl rfl rfl hf rfl trivial hr hq
    exact⟨e',w'',fr',hR,ComesIn.of_steps hs₀ hs,hfn,hl⟩
  | panic chain =>
    obtain⟨todo,hs₀⟩:=harr
    obtain⟨e',w'',fr',hR,hs,hfn,hl⟩:=leaves_stepsInM a'.defers (.panicking chain) w' {b.atR a' todo with mode:= .panicking chain} cs rfl rfl rfl hf rfl trivial hr hq
    exact⟨e',w'',fr',hR,ComesIn.of_steps hs₀ hs,hfn,hl⟩
  |exit id=>exact hq.elim
  |goto l=>exact hq.elim
  |outgrown=>exact⟨.outgrown,w',b,hq,harr.resolve_left (by simp [b]),rfl,trivial⟩
theorem Mx {f0:FuncId} {g:Operand} {ps:Array Tmp} {assign body:Code} {a:Act} {w:World}
    (h:∃(l:Nat) (mark:List Deferred) (w₁:World) (d:Deferred) (w₁':World) (f:FuncId) (args:Array Value) (w₂:World),
      (Instr.enterLoop f0 a.tmps ps assign body none).run P w= .ok (l,mark) w₁∧(resolve a.eval (rangeCall g l) 0).run P w₁= .ok d w₁'∧(invoke d.target d.args).run P w₁'= .ok (.enter f args) w₂∧
      CallsIn (rF none) 0 P f args w₂ (rangePost (rF none) 0 P l Q {a with defers:=mark++a.defers})):gz P f0 (Code.rangeFunc g ps assign body) Q a w:=by
  intro b k cs hro hb
  obtain⟨l,mark,w₁,d,w₁',f,args,w₂,he,hres,hinv,hF,hcall⟩:=h
  rw [←hro, ←hb]at he
  have h0:(lone (b.atR a (.code (.rangeFunc g ps assign body)::k)) cs w).fenced P (rF none):=fenced_lone (.inl trivial) (fun f' _=>trivial) kN
  have henter:=stepR_rangeFunc (P:=P) (b:=b) (a:=a) (k:=k) (cs:=cs) (w:=w) he hres hinv
  obtain⟨e,w₃,fr,hR,hsteps,hfn,hleave⟩:=hcall (b.atR {a with defers:=mark++a.defers} (.inRangeFunc l::k)::cs) kN
  cases e with
  | outgrown =>
    obtain⟨a₀,w₀,hq⟩:=hR
    exact⟨.outgrown,a₀,w₀,hq,.inr (Outgrown.of_steps (.one henter) hsteps)⟩
  | returned v =>
    have hl:(lone fr (b.atR {a with defers:=mark++a.defers} (.inRangeFunc l::k)::cs) w₃).fenced P (rF none):=fenced_leaving (n:=0) trivial kN hleave
    obtain⟨jump,w₄,hend,hj⟩:=hR
    have sback:StepsIn (Machine.fenced P (rF none)) P (lone (b.atR a (.code (.rangeFunc g ps assign body)::k)) cs w) (lone (b.atR {a with defers:=mark++a.defers} ((jump.map Item.code).toList++k)) cs w₄):=by
      refine .head h0 henter (StepsIn.trans hsteps (.head hl ?_ (.one (fenced_calm (fr:=b.atR {a with defers:=mark++a.defers} (.endRangeFunc l::k)) (n:=0) trivial kN rfl) (stepR_endRangeFunc hend))))
      rw [←finish_atR_inRangeFunc l v];exact step_leave_returned hleave
    cases jump with
    |none=>exact⟨.normal,_,w₄,hj,sback⟩
    | some c =>
      obtain⟨e',a'',w₅,hq,harr⟩:=hj b k cs hro trivial kN
      exact⟨e',a'',w₅,hq,.of_steps sback harr⟩
  | panicked chain =>
    have hl:(lone fr (b.atR {a with defers:=mark++a.defers} (.inRangeFunc l::k)::cs) w₃).fenced P (rF none):=fenced_leaving (n:=0) trivial kN hleave
    refine⟨.panic chain,_,w₃,hR,.inRangeFunc l::k,.head h0 henter (StepsIn.trans hsteps (.one hl ?_))⟩
    rw [←Frame.raise_atR];exact step_leave_panicked hleave
theorem nR {f0:FuncId} {x y:Code} (h:At w0 X0 n E st (Pw ds (gz P f0 x (Exit.then (gz P f0 y Q) Q)))):At w0 X0 n E st (Pw ds (gz P f0 (.seq x y) Q)):=fun a w hr=>My (h a w hr)
theorem EY {f0 id:Nat} {c:Code} (h:At w0 X0 n E st (Pw ds (gz P f0 c (Exit.inBlock id Q)))):At w0 X0 n E st (Pw ds (gz P f0 (.block id c) Q)):=fun a w hr=>Mv (h a w hr)
theorem nQ {f0:FuncId} {c:Code} (h:At w0 X0 n E st (Pw ds (c.wpIn (rF none) 0 P Q))):At w0 X0 n E st (Pw ds (gz P f0 c Q)):=fun a w hr=>Mw (h a w hr)
theorem E6 {f0:FuncId} {g:Operand} {ps:List Tmp} {assign body c:Code} {f:FuncId} {fn:Func} {cs:List A} {idsB:List Nat} {n':Nat} (ids:List Nat) (Ek:Ev) (hI:w0.ids=idsB) (hs:(idsB.all (cw ids))=true) (hE:le E Ek) (hids:jx ids Ek=true)
    (hg:ev E g=some (.fn (.func f) [] cs)) (hf:P.funcs[f]? =some fn) (hb:fn.body=some c) (hn:fn.ntmps=n') (hname:(fn.name== "runtime.NumGoroutine")=false) (ha:cs.length+1≤n')
    (h:∀w1 l D rc,Rg w0 w1 ids l D rc n Ek ps assign body .ready none→rc.fn=f0→At w1 X0 n' (gm (yv l::cs) 0) st (Pw [] (c.wpIn (rF none) 0 P (bodyPostM (rF none) 0 P fn (rangePost (rF none) 0 P l Q (Act.wd (dY D::ds) ⟨rc.tmps, []⟩)))))):
    At w0 X0 n E st (Pw ds (gz P f0 (Code.rangeFunc g ps.toArray assign body) Q)):=by
  rintro a w ⟨β,X,hr⟩
  show gz P f0 (Code.rangeFunc g ps.toArray assign body) Q (a.wd ds) w
  refine Mx ?_
  obtain⟨vs,rc,W1,g2,g3,hrt,hrf,w1,hrg,hrel⟩:=CP (P:=P) (fn:=fn) (n':=n') f0 ids Ek ps assign body hI hs hE hids hg ha hn hr
  refine⟨w.heap.size+1, [{target:= .collected w.heap.size,args:= #[]}],W1, {target:= .fn (.func f) vs.toArray,args:= #[.func (.yield (w.heap.size+1)) #[] #[]]},W1,f,
    #[.func (.yield (w.heap.size+1)) #[] #[]]++vs.toArray,W1,g2,?_,?_,?_⟩
  · simp only [resolve, sk, g3]
    simp [go_sem]
  · simp [invoke,go_sem,xq hf hb hname]
  · rw [DY hr.defers, ← hrt]
    exact callsIn_of_wp_marks hf hb trivial (kg (h _ _ _ rc hrg hrf _ W1 hrel))
theorem GQ {f:FuncId} {fn:Func} {c:Code} {args:List A} {s0:St} {R:A→St→Prop} {pn:Value→Prop} (hf:P.funcs[f]? =some fn) (hb:fn.body=some c)
    (hn:fn.ntmps=n) (hname:(fn.name== "runtime.NumGoroutine")=false) (ha:args.length≤n)
    (h:∀w0 X0,w0.ids=s0.os.map Prod.fst→w0.sus= []→At w0 X0 n (gm args 0) s0 (Pw [] (gz P f c (bodyPostM (rF none) 0 P fn (lP w0 X0 R pn))))):iY P f args s0 R pn:=by
  intro w X β us hd hX hgl ho hi hv
  have hl:=cL hv
  refine⟨⟨fn,hf,by simp [hb],hname⟩,(callsIn_wide (n:=0)).1 (Fw hf hb (kg (h (bw w β s0 hd) X rfl rfl _ w ⟨β,X,.of (fun _ _ h=>h) (fun _ _ h=> .inl h) (.of ⟨rfl,rfl,rfl,Nat.le_refl _,fun _ _ _=>rfl,fun s hs=>by cases hs⟩ (bM.refl β) hX hd ho hi) hgl ?_ rfl (fun s hs=>by cases hs) (fun t v ht=>?_)⟩)))⟩
  · simp [hn];omega
  · obtain ⟨_, h2⟩ := k7 _ _ _ _ ht
    simp only [Nat.sub_zero]at h2
    obtain⟨u,g1,g2⟩:=fx hv h2
    have hlt:=(List.getElem?_eq_some_iff.1 g1).1
    refine⟨u,?_,g2⟩
    rw [Array.getElem?_append,if_pos (by simpa using hlt)]
    simpa using g1
end
end Go.Abs
-- Abs3
namespace Go.Abs
open Go Go.Eng Go.MapKept
instance {b:Nat} {f:Int→Option Value}:IsPure (.mc b f):=⟨by simp only [Pure]⟩
def nL (F:Int→Option Value):A→St→Prop:=fun r st=>∃b,r= .raw (.map (some b))∧st.get cd=some [.mc b F]
theorem OB.BW {β:Bm} {X:Xs} {w:World} {w0:Bw} {b:Nat} {F:Int→Option Value} (h:OB β X w w0 cd [.mc b F]):β cd=some (.mp b)∧w0.own b∧(∀o,¬X b o)∧∃es clk,w.heap[b]? =some (.map es clk)∧dh es clk F:=by
  unfold OB at h
  cases hb:β cd with
  |none=>rw [hb]at h;exact h.elim
  | some y =>
    rw [hb]at h
    cases y with
    |ph=>cases h
    | bk q N =>
      obtain⟨_,_,us,rest,ty,_,_,h5,_⟩:=h
      simp only [VS,V]at h5
      obtain⟨_,_,_,h,_⟩:=h5
      exact h.elim
    | mp q =>
      obtain⟨_,h1,h2,g,es,clk,e,h4,h5⟩:=h
      simp only [List.cons.injEq,A.mc.injEq,and_true]at e
      obtain⟨e1,e2⟩:=e
      subst e1;subst e2
      exact⟨rfl,h1,h2,es,clk,h4,h5⟩
section
variable {P:Program} {w0:Bw} {X0:Xs} {n:Nat} {E:Ev} {st:St} {K:Act→World→Prop} {Q:Exit→Act→World→Prop}
theorem IT {F : Int → Option Value} {d : Nat} {f : FuncId} {x : Operand} {xs : List Operand} {fs cs vs vs' : List A} {ats : Array TypeId} {ty : TypeId} {pos aft' g} (hx : ev E x = some (.fn (.func f) fs cs)) (hxs : c5 E xs = some vs) (hv : a8 st ⟨[]⟩ false (fs ++ vs ++ cs) vs')
    (hc:aA P f vs' (nL F)) (hfr:st.free cd=true) (hd:Nat.ble (d+1) n=true) (h:∀b,At w0 X0 n ((d,.raw (.map (some b)))::E) (st.put cd [.mc b F]) K):
    At w0 X0 n E st (fun a w=>(⟨some d,.call {callee:= .value x,args:=xs.toArray,argTypes:=ats},ty,pos,aft',g⟩:Oper).wp P a w K Q):=by
  rintro a w ⟨β,X,hr⟩
  refine lV hr hx hxs (s0:=⟨[]⟩) trivial hv hc fun v w' ⟨r,β',X',st',hR,hsup,hsub,hm,hvv⟩=>?_
  obtain⟨b,rfl,hg⟩:=hR
  obtain⟨m1,m2,m3,m4,m6⟩:=hm.after hr (fun id cs h=>by cases h) hsub hsup (upds:= []) (fun p hp=>by cases hp)
  rw [pq]at m1
  have hnx:=hr.mem.dom cd hfr
  obtain⟨hβ,o1,o2,es,clk,hb,hF⟩:=(hm.obj cd _ hg).BW
  have o1:w.heap.size≤b:=by
    rcases o1 with h|⟨id',cs',h,_⟩
    · exact h
    · cases h
  have hnX:∀o,¬(X b o∨(X' b o∧(bw w (cq ⟨[]⟩ β) ⟨[]⟩ c8).own b)):=fun o h=>by
    rcases h with h|⟨h,_⟩
    · exact o2 o (hsup b o (.inl h))
    · exact o2 o h
  have m5 : Mem w0 (b6 β cd (.mp b)) (fun b o => X b o ∨ (X' b o ∧ (bw w (cq ⟨[]⟩ β) ⟨[]⟩ c8).own b)) (st.put cd [.mc b F]) w' := by
    refine .of (m1.below) (fun k y h=>(cl hnx) k y (m1.b0 k y h)) (m1.xlt) (fun k h=>?_) (fun k es hk=>?_) (fun i j ci cj q M N' hij hi hj hbi hbj=>?_)
    · rw [St.en] at h
      split at h
      · cases h
      · rename_i hne
        rw [b7 (fun e=>hne e.symm)]
        exact hr.mem.dom k h
    · rw [St.cg] at hk
      split at hk
      · rename_i e; subst e
        simp only [Option.some.injEq]at hk
        subst hk
        unfold OB
        rw [bH]
        exact⟨rfl,Bw.j4 hr.mem.below o1,hnX,F,_,clk,rfl,hb,hF⟩
      · refine (m1.obj k es hk).later (fun _ _ h => ⟨h, rfl⟩) (cl hnx) (fun q M hq => ⟨rfl, ?_⟩) fun q hq => ⟨rfl, ((m1.obj k es hk).dZ hq).2.2.1⟩
        have hk':=m1.obj k es hk
        unfold OB at hk'
        rw [hq]at hk'
        exact hk'.2.1
    · rw [St.cg] at hi hj
      by_cases ei:cd=i
      · subst ei;rw [bH]at hbi;cases hbi
      · rw [if_neg ei] at hi
        rw [b7 (fun e=>ei e.symm)]at hbi
        by_cases ej:cd=j
        · subst ej;rw [bH]at hbj;cases hbj
        · rw [if_neg ej] at hj
          rw [b7 (fun e=>ej e.symm)]at hbj
          exact hr.mem.inj i j ci cj q M N' hij hi hj hbi hbj
  have hv':v= .map (some b):=by simpa only [V]using hvv
  exact h b _ _ ⟨_,_,hr.gF hd m2 m3 (cl hnx) m5 (by simp only [V];exact hv')⟩
theorem sU {F:Int→Option Value} {d:Nat} {f:FuncId} {xs:List Operand} {vs vs':List A} {ats:Array TypeId} {ty:TypeId} {pos aft' g} (hxs:c5 E xs=some vs) (hv:a8 st ⟨[]⟩ false vs vs')
    (hc:aA P f vs' (nL F)) (hfr:st.free cd=true) (hd:Nat.ble (d+1) n=true) (h:∀b,At w0 X0 n ((d,.raw (.map (some b)))::E) (st.put cd [.mc b F]) K):
    At w0 X0 n E st (fun a w=>(⟨some d,.call {callee:= .value (.func f),args:=xs.toArray,argTypes:=ats},ty,pos,aft',g⟩:Oper).wp P a w K Q):=
  IT (fs:= []) (cs:= []) rfl hxs (by simpa using hv) hc hfr hd h
end
section
variable {P:Program} {w0:Bw} {X0:Xs} {n:Nat} {E:Ev} {st:St} {K:Act→World→Prop} {Q:Exit→Act→World→Prop}
theorem B1 {d:Nat} {t e t' ty:TypeId} {x y:Operand} {m:Nat} {cs:List A} {pos aG g} (ht:P.underlying t=some (.slice e)) (hx:ev E x=some (.fz m cs)) (hy:ev E y=some .nl) (hd:Nat.ble (d+1) n=true)
    (h:∀q,At w0 X0 n ((d,.b q)::E) st K):At w0 X0 n E st (fun a w=>(⟨some d,.binOp .eql t x y t',ty,pos,aG,g⟩:Oper).wp P a w K Q):=by
  rintro a w ⟨β,X,hr⟩
  obtain⟨h1,h2⟩:=hr.bB hx
  obtain⟨h3,h4⟩:=hr.bB hy
  simp only [V]at h2 h4
  obtain⟨ad,cap,g1,_⟩:=h2
  rw [g1]at h1;rw [h4]at h3
  have hrun:=(Eng.Ef (P:=P) (n:=a.tmps.size) (S:= [w]) (H:= []) (t':=t') (ty:=ty) ht h1 h3) (some d) pos aG g a w (dQ a hr.defers) (Eng.Good.start w)
  unfold Oper.wp
  rw [hrun]
  exact h ad.isNone _ _ ⟨β,X,hr.gF hd (fun b o h=>⟨h,rfl⟩) (fun _ _ h=> .inl h) (bM.refl β) hr.mem (by simp only [V])⟩
end
def mapOf (σ:Int→Int):Int→Option Value:=fun k=>if σ k=0 then none else some (.int .i64 (σ k))
def ig (σ:Int→Int) (k v:Int):Int→Int:=fun j=>if j=k then v else σ j
theorem IG:(fun _=>none:Int→Option Value)=mapOf (fun _=>0):=by funext k;simp [mapOf]
theorem sN (σ:Int→Int) (k:Int):(mapOf σ k).getD (.int .i64 0)= .int .i64 (σ k):=by
  unfold mapOf
  split
  · rename_i h;rw [h];rfl
  · rfl
theorem II {σ:Int→Int} {k v:Int} (h:v≠0):gM (mapOf σ) k (.int .i64 v)=mapOf (ig σ k v):=by
  funext j
  unfold gM mapOf ig
  by_cases e:j=k
  · simp [e,h]
  · simp [e]
theorem IF {σ:Int→Int} {k v:Int} (h:v=0):lj (gM (mapOf σ) k (.int .i64 v)) k=mapOf (ig σ k v):=by
  funext j
  unfold lj gM mapOf ig
  by_cases e:j=k
  · simp [e,h]
  · simp [e]
end Go.Abs
-- E5P
namespace Go.Abs.D2
open Go Go.Eng Go.Abs
structure Ch where
  id:Int
  st:Int
def Ch.cells (c:Ch):List A:= [.i .i64 c.id,.i .i64 c.st]
def eD (l:List Ch):List A:=l.flatMap Ch.cells
abbrev cC (l:List Ch):A:= .fz l.length (eD l)
structure Ep where
  iss:Int
  no:Int
  day:Int
  ch:List Ch
  cas:List UInt8
  prev:List UInt8
  sg:Lf
def Ep.cells (e:Ep):List A:= .i .i64 e.iss:: .i .i64 e.no:: .i .i64 e.day::cC e.ch::(e.cas.map u8++(e.prev.map u8++ [.i .i64 e.sg.a,bq e.sg.S,bq e.sg.P]))
def cY (l:List Ep):List A:=l.flatMap Ep.cells
abbrev cO (l:List Ep):A:= .fz l.length (cY l)
instance {c:Ch}:dE c.cells:=by unfold Ch.cells;infer_instance
instance {l:List Ch}:dE (eD l):=by unfold eD;infer_instance
instance {e:Ep}:dE e.cells:=by unfold Ep.cells;infer_instance
instance {l:List Ep}:dE (cY l):=by unfold cY;infer_instance
def rg (n:Int):Prop:= -9223372036854775808≤n∧n≤9223372036854775807
structure Ep.ok (e:Ep):Prop where
  iss:rg e.iss
  no:rg e.no
  day:rg e.day
  ch:∀c∈e.ch,rg c.id∧rg c.st
  gT:e.ch.length≤1000
  cas:e.cas.length=32
  prev:e.prev.length=32
  S:aK e.sg.S
  P:aK e.sg.P
def dB (l:List Ep):Prop:=∀e∈l,e.ok
@[simp] theorem Ch.len (c:Ch):c.cells.length=2:=rfl
theorem Ep.ok.len {e:Ep} (h:e.ok):e.cells.length=71:=by simp [Ep.cells,h.cas,h.prev]
@[simp] theorem Im (l : List Ch) : (eD l).length = l.length * 2 := by
  unfold eD
  induction l with
  |nil=>rfl
  |cons c l ih=>rw [List.flatMap_cons,List.length_append,ih,List.length_cons,Ch.len];omega
theorem kF {l:List Ep} (h:dB l):(cY l).length=l.length*71:=by
  unfold cY
  induction l with
  |nil=>rfl
  |cons e l ih=>rw [List.flatMap_cons,List.length_append,ih (fun x hx=>h x (.tail _ hx)),List.length_cons,(h e (.head _)).len];omega
theorem pF {l:List Ch} {i:Nat} {c:Ch} (h:l[i]? =some c):((eD l).drop (i*2)).take 2=c.cells:=by
  unfold eD
  induction l generalizing i with
  |nil=>simp at h
  | cons d l ih =>
    rw [List.flatMap_cons]
    cases i with
    |zero=>simp at h;subst h;rfl
    |succ i=>rw [show(i+1)*2=d.cells.length+i*2 by rw [Ch.len];omega, ←List.drop_drop,List.drop_left];exact ih (by simpa using h)
theorem iM {l:List Ep} {i:Nat} {e:Ep} (hl:dB l) (h:l[i]? =some e):((cY l).drop (i*71)).take 71=e.cells:=by
  unfold cY
  induction l generalizing i with
  |nil=>simp at h
  | cons d l ih =>
    rw [List.flatMap_cons]
    have hd:=(hl d (.head _)).len
    cases i with
    |zero=>simp at h;subst h;rw [Nat.zero_mul,List.drop_zero,List.take_left' hd]
    |succ i=>rw [show(i+1)*71=d.cells.length+i*71 by rw [hd];omega, ←List.drop_drop,List.drop_left];exact ih (fun x hx=>hl x (.tail _ hx)) (by simpa using h)
theorem dJ {l:List Ep} {i:Nat} {e:Ep} (hl:dB l) (h:l[i]? =some e) {k:Nat} {v:A} (hv:e.cells[k]? =some v) (hk:k<71):(((cY l).drop (i*71)).drop k)[0]? =some v:=by
  have e1:(((cY l).drop (i*71)).take 71)[k]? =some v:=by rw [iM hl h];exact hv
  rw [List.getElem?_take,if_pos hk]at e1
  rw [List.getElem?_drop,Nat.add_zero];exact e1
theorem Ar {e:Ep} (h:e.ok):(e.cells.drop 4).take 32=e.cas.map u8:=by
  show(e.cas.map u8++_).take 32=_
  rw [List.take_left' (by rw [List.length_map,h.cas])]
theorem Au {e:Ep} (h:e.ok):e.cells.drop 36=e.prev.map u8++ [.i .i64 e.sg.a,bq e.sg.S,bq e.sg.P]:=by
  show(e.cas.map u8++_).drop 32=_
  rw [List.drop_left' (by rw [List.length_map,h.cas])]
theorem jl {e:Ep} (h:e.ok):(e.cells.drop 36).take 32=e.prev.map u8:=by
  rw [Au h,List.take_left' (by rw [List.length_map,h.prev])]
theorem vR {e:Ep} (h:e.ok):e.cells.drop 68= [.i .i64 e.sg.a,bq e.sg.S,bq e.sg.P]:=by
  rw [show 68=36+32 from rfl, ←List.drop_drop,Au h,List.drop_left' (by rw [List.length_map,h.prev])]
theorem pS {e:Ep} (h:e.ok):(e.cells.drop 68)[0]? =some (.i .i64 e.sg.a):=by rw [vR h];rfl
def dI (c:Ch):CV:=cZ [bT c.id,bT c.st]
def fU (e:Ep):CV:=cZ [bT e.iss,bT e.no,bT e.day,cZ (e.ch.map dI),c9 e.cas,c9 e.prev]
theorem Jk (c:Ch):(dI c).okB=true:=nf fun v hv=>by
  simp only [List.mem_cons,List.not_mem_nil,or_false]at hv
  rcases hv with rfl|rfl
  · exact nc _
  · exact nc _
theorem Cr (e:Ep):(fU e).okB=true:=nf fun v hv=>by
  simp only [List.mem_cons,List.not_mem_nil,or_false]at hv
  rcases hv with rfl|rfl|rfl|rfl|rfl|rfl
  · exact nc _
  · exact nc _
  · exact nc _
  · exact nf fun v hv=>by obtain⟨c,_,rfl⟩:=List.mem_map.1 hv;exact Jk c
  · exact s7 _
  · exact s7 _
theorem Gu (e : Ep) : (fU e).depth ≤ 16 := by
  refine Nat.le_trans (mP (d:=2) fun v hv=>?_) (by omega)
  simp only [List.mem_cons,List.not_mem_nil,or_false]at hv
  rcases hv with rfl|rfl|rfl|rfl|rfl|rfl
  · rw [mO];omega
  · rw [mO];omega
  · rw [mO];omega
  · exact mP (d:=1) fun v hv=>by
      obtain⟨c,_,rfl⟩:=List.mem_map.1 hv
      exact mP (d:=0) fun v hv=>by
        simp only [List.mem_cons,List.not_mem_nil,or_false]at hv
        rcases hv with rfl|rfl
        · rw [mO];exact Nat.le_refl _
        · rw [mO];exact Nat.le_refl _
  · rw [rU];omega
  · rw [rU];omega
theorem KG {c:Ch} (h:rg c.id∧rg c.st):(dI c).eR=true:=nr fun v hv=>by
  simp only [List.mem_cons,List.not_mem_nil,or_false]at hv
  rcases hv with rfl|rfl
  · exact nq h.1.1 h.1.2
  · exact nq h.2.1 h.2.2
theorem C1 {e:Ep} (h:e.ok):(fU e).eR=true:=nr fun v hv=>by
  simp only [List.mem_cons,List.not_mem_nil,or_false]at hv
  rcases hv with rfl|rfl|rfl|rfl|rfl|rfl
  · exact nq h.iss.1 h.iss.2
  · exact nq h.no.1 h.no.2
  · exact nq h.day.1 h.day.2
  · exact nr fun v hv=>by obtain⟨c,hc,rfl⟩:=List.mem_map.1 hv;exact KG (h.ch c hc)
  · exact tM _
  · exact tM _
theorem GN {c:Ch} (h:rg c.id∧rg c.st):(dI c).enc.length≤36:=by
  have q:=mR (l:= [bT c.id,bT c.st]) (by simp)
  have q1:=mQ h.1.1 h.1.2
  have q2:=mQ h.2.1 h.2.2
  simp only [CV.cc,List.length_append,List.length_nil]at q
  show(cZ _).enc.length≤_
  omega
theorem pP {e:Ep} (h:e.ok):(fU e).enc.length≤40000:=by
  have hf:=h.gT
  have q:=mR (l:= [bT e.iss,bT e.no,bT e.day,cZ (e.ch.map dI),c9 e.cas,c9 e.prev]) (by simp)
  have q1:=mQ h.iss.1 h.iss.2
  have q2:=mQ h.no.1 h.no.2
  have q3:=mQ h.day.1 h.day.2
  have q4:=mR (l:=e.ch.map dI) (by rw [List.length_map];omega)
  have q5:=vM (l:=e.ch.map dI) (k:=36) fun v hv=>by obtain⟨c,hc,rfl⟩:=List.mem_map.1 hv;exact GN (h.ch c hc)
  have q6:=r7 (s:=e.cas) (by rw [h.cas];omega)
  have q7:=r7 (s:=e.prev) (by rw [h.prev];omega)
  rw [List.length_map]at q5
  have:=h.cas
  have:=h.prev
  simp only [CV.cc,List.length_append,List.length_nil]at q
  show(cZ _).enc.length≤_
  omega
theorem Dt {e:Ep} (h:e.ok):(fU e).size≤1000000:=by
  have h1:=CV.xC (fU e).size (fU e) (Nat.le_refl _) (Cr e)
  have h2:=pP h
  omega
theorem Ak (e:Ep):encA (fU e)= .tu [.fz (fU e).enc.length ((fU e).enc.map u8),.i .i64 0]:=nY (vj (Cr e) (by have:=Gu e;omega))
abbrev tU:List UInt8:= [101,112,111,99,104]
@[irreducible] def cu (e:Ep):List UInt8:=tagged tU (fU e).enc
theorem pJ (e:Ep):cu e=tagged tU (fU e).enc:=by unfold cu;rfl
@[simp] theorem Io (e:Ep):(cu e).length=32:=by rw [pJ];simp
theorem zg {l:List Ch} {i:Nat} {c:Ch} (h:l[i]? =some c):CV.bJ ((l.take i).map dI)++CV.cells (dI c)=CV.bJ ((l.take (i+1)).map dI):=by
  rw [CV.nX,CV.nX,List.take_add_one,h];simp
theorem vq {x:List UInt8} (hx:x.length=32):A.fz 32 (((x.map u8).drop (0*1)).take (32*1))= .fz x.length (x.map u8):=by
  rw [Nat.zero_mul,List.drop_zero,List.take_of_length_le (by rw [List.length_map,hx];omega),hx]
def de (σ:Int→Int) (last:Int) (c:Ch):Bool:=(((decide (last<c.id)&&decide (c.id<1024))&&decide (0≤c.st))&&decide (c.st≤4))&&((c.st !=σ c.id)&&(σ c.id !=2))
def cR (σ:Int→Int) (last:Int):List Ch→Bool
  | []=>true
  |c::r=>de σ last c&&cR (ig σ c.id c.st) c.id r
theorem FK {σ:Int→Int} {la:Int} {c:Ch} (h:(((decide (c.id>la)&&decide (c.id<1024))&&decide (c.st≥0))&&decide (c.st≤4))=false):de σ la c=false:=by
  unfold de
  rw [show(((decide (la<c.id)&&decide (c.id<1024))&&decide (0≤c.st))&&decide (c.st≤4))=false from h];rfl
theorem FL {σ:Int→Int} {la:Int} {c:Ch} (h:((c.st !=σ c.id)&&(σ c.id !=2))=false):de σ la c=false:=by
  unfold de;rw [h,Bool.and_false]
theorem y7 {σ:Int→Int} {la:Int} {c:Ch} (h1:(((decide (c.id>la)&&decide (c.id<1024))&&decide (c.st≥0))&&decide (c.st≤4))=true) (h2:((c.st !=σ c.id)&&(σ c.id !=2))=true):de σ la c=true:=by
  unfold de
  rw [show(((decide (la<c.id)&&decide (c.id<1024))&&decide (0≤c.st))&&decide (c.st≤4))=true from h1,h2];rfl
def aX (σ:Int→Int):List Ch→Int→Int
  | []=>σ
  |c::r=>aX (ig σ c.id c.st) r
theorem ze {σ:Int→Int} {last:Int} {l:List Ch} {i:Nat} {c:Ch} (h:l[i]? =some c) (hb:de σ last c=false):cR σ last (l.drop i)=false:=by
  rw [List.drop_eq_getElem_cons (List.getElem?_eq_some_iff.1 h).1,(List.getElem?_eq_some_iff.1 h).2,cR,hb];rfl
theorem zf {σ:Int→Int} {last:Int} {l:List Ch} {i:Nat} {c:Ch} (h:l[i]? =some c) (hb:de σ last c=true):cR σ last (l.drop i)=cR (ig σ c.id c.st) c.id (l.drop (i+1)):=by
  rw [List.drop_eq_getElem_cons (List.getElem?_eq_some_iff.1 h).1,(List.getElem?_eq_some_iff.1 h).2,cR,hb];rfl
theorem zk {σ:Int→Int} {l:List Ch} {i:Nat} {c:Ch} (h:l[i]? =some c):aX σ (l.drop i)=aX (ig σ c.id c.st) (l.drop (i+1)):=by
  rw [List.drop_eq_getElem_cons (List.getElem?_eq_some_iff.1 h).1,(List.getElem?_eq_some_iff.1 h).2,aX]
def cG (iss:Int) (no:Nat) (day:Int) (prev:List UInt8) (e:Ep):Bool:=((e.iss==iss&&decide (0≤e.iss))&&decide (e.iss<8))&&(((e.no==(no:Int))&&(e.sg.a==(no:Int)))&&(e.prev==prev))&&(decide (day<e.day)&&decide (e.day<1024))
theorem HR (a q:Int):a≠q∨(a=q∧a<0)∨(a=q∧0≤a∧8≤a)∨(a=q∧0≤a∧a<8):=by omega
theorem vQ {iss:Int} {no:Nat} {day:Int} {prev:List UInt8} {e:Ep} (h:¬(e.iss=iss∧0≤e.iss∧e.iss<8)):cG iss no day prev e=false:=by
  cases hb:cG iss no day prev e with
  |false=>rfl
  |true=>unfold cG at hb;simp only [Bool.and_eq_true,decide_eq_true_eq,beq_iff_eq]at hb;omega
theorem GU {iss:Int} {no:Nat} {day:Int} {prev:List UInt8} {e:Ep} (h:e.no=(no:Int)→e.sg.a=(no:Int)→¬e.prev=prev):cG iss no day prev e=false:=by
  cases hb:cG iss no day prev e with
  |false=>rfl
  |true=>unfold cG at hb;simp only [Bool.and_eq_true,decide_eq_true_eq,beq_iff_eq]at hb;exact absurd hb.1.2.2 (h hb.1.2.1.1 hb.1.2.1.2)
theorem GV {iss:Int} {no:Nat} {day:Int} {prev:List UInt8} {e:Ep} (h:day<e.day→1024≤e.day):cG iss no day prev e=false:=by
  cases hb:cG iss no day prev e with
  |false=>rfl
  |true=>unfold cG at hb;simp only [Bool.and_eq_true,decide_eq_true_eq,beq_iff_eq]at hb;omega
theorem GW {iss e0:Int} {no:Nat} {day:Int} {prev:List UInt8} {e:Ep} (h0:iss=e0) (h:e.iss=e0∧0≤e.iss∧e.iss<8) (h2:(e.no=(no:Int)∧e.sg.a=(no:Int))∧e.prev=prev) (h3:day<e.day∧e.day<1024):cG iss no day prev e=true:=by
  unfold cG;simp only [Bool.and_eq_true,decide_eq_true_eq,beq_iff_eq]
  exact⟨⟨⟨⟨by omega,h.2.1⟩,h.2.2⟩,h2⟩,h3⟩
def dK (iss:Int):Nat→Int→List UInt8→(Int→Int)→List Ep→Option (Int→Int)
  |_,_,_,σ, []=>some σ
  |no,day,prev,σ,e::r=>if cG iss no day prev e&&cR σ (-1) e.ch then dK iss (no+1) e.day (cu e) (aX σ e.ch) r else none
def jW:List Ep→Int
  | []=>0
  |e::_=>e.iss
abbrev σ0:Int→Int:=fun _=>0
@[irreducible] def cv (l:List Ep):Option (Int→Int):=dK (jW l) 0 (-1) zD σ0 l
theorem og (l:List Ep):cv l=dK (jW l) 0 (-1) zD σ0 l:=by unfold cv;rfl
theorem Bg {l:List Ep} {e:Ep} (h:l[0]? =some e):jW l=e.iss:=by
  cases l with
  |nil=>cases h
  |cons a l=>simp at h;subst h;rfl
theorem eo {iss:Int} {no:Nat} {day:Int} {prev:List UInt8} {σ:Int→Int} {l:List Ep} {i:Nat} {e:Ep} (h:l[i]? =some e) (hb:cG iss no day prev e=false∨cR σ (-1) e.ch=false):dK iss no day prev σ (l.drop i)=none:=by
  rw [List.drop_eq_getElem_cons (List.getElem?_eq_some_iff.1 h).1,(List.getElem?_eq_some_iff.1 h).2,dK]
  rcases hb with hb|hb
  · rw [hb,if_neg (by simp)]
  · rw [hb,if_neg (by simp)]
theorem wh {iss:Int} {no:Nat} {day:Int} {prev:List UInt8} {σ:Int→Int} {l:List Ep} {i:Nat} {e:Ep} (h:l[i]? =some e) (hb:cG iss no day prev e=true) (hc:cR σ (-1) e.ch=true):
    dK iss no day prev σ (l.drop i)=dK iss (no+1) e.day (cu e) (aX σ e.ch) (l.drop (i+1)):=by
  rw [List.drop_eq_getElem_cons (List.getElem?_eq_some_iff.1 h).1,(List.getElem?_eq_some_iff.1 h).2,dK,hb,hc,if_pos (by simp)]
@[irreducible] def cN (r:List UInt8) (n:Int) (l:List Ep):Int:=if(cv l).isSome then (if l.all (fun e=>dU r n (cu e) e.sg.a e.sg.S e.sg.P)then 0 else 60)else 351
theorem pE {r:List UInt8} {n:Int} {l:List Ep} (h:cv l=none):cN r n l=351:=by unfold cN;rw [h];rfl
theorem rN {r:List UInt8} {n:Int} {l:List Ep} {σ:Int→Int} (h:cv l=some σ) {e:Ep} (he:e∈l) (hv:dU r n (cu e) e.sg.a e.sg.S e.sg.P=false):cN r n l=60:=by
  unfold cN
  rw [h,if_pos (show(some σ).isSome=true from rfl),if_neg]
  intro hall
  rw [List.all_eq_true.1 hall e he]at hv;cases hv
theorem rO {r:List UInt8} {n:Int} {l:List Ep} {σ:Int→Int} (h:cv l=some σ) (hv:∀e∈l,dU r n (cu e) e.sg.a e.sg.S e.sg.P=true):cN r n l=0:=by
  unfold cN
  rw [h,if_pos (show(some σ).isSome=true from rfl),if_pos (List.all_eq_true.2 hv)]
abbrev gY (T:Nat) (e:Int):Value:= .iface T (.agg #[.int .i64 e])
theorem uG {X:Xs} {w:World} {β:Bm} (T:Nat) (e:Int):V X w β (.ic T (.ag [.i .i64 e])) (gY T e):=by
  simp only [V,VS]
  exact⟨_,rfl, [.int .i64 e],rfl,⟨_,_,rfl,rfl,rfl⟩,fun x hx=>by rw [List.mem_singleton.1 hx];rfl⟩
theorem qq {α:Type} (o:Option α):o=none∨∃a,o=some a:=by cases o<;>simp
theorem zF (r:List UInt8) (n:Int) (l:List Ep):cN r n l≠0∨∃σ,cv l=some σ∧cN r n l=0:=by
  rcases qq (cv l)with h|⟨σ,h⟩
  · exact .inl (by rw [pE h];decide)
  · by_cases h0 : cN r n l = 0
    · exact .inr ⟨σ,h,h0⟩
    · exact .inl h0
theorem uQ {l:List Ep} {i:Nat} {e:Ep} {p:Ep→Bool} (h:l[i]? =some e) (ha:∀x∈l.take i,p x=true) (he:p e=true):∀x∈l.take (i+1),p x=true:=fun x hx=>by
  rw [List.take_add_one,h]at hx
  rcases List.mem_append.1 hx with hx|hx
  · exact ha x hx
  · rw [List.mem_singleton.1 hx];exact he
theorem As {e:Ep} (h:e.ok):(e.cells.drop 68).take 3= [.i .i64 e.sg.a,bq e.sg.S,bq e.sg.P]:=by rw [vR h];rfl
end Go.Abs.D2
-- E5B
namespace Go.Abs.D2
open Go Go.Eng Go.Abs Go.Proofs
theorem uw (w:World):(zeroValue 3).run Tryz.prog w= .ok (.int .i64 0) w:=by kernel_rfl
theorem fT (e:Int):aA Tryz.prog 45 [.b true,.i .i64 e] (aN (.tu [])):=by
 refine enter Tryz.func45 rfl Tryz.ntmps45 (by kernel_rfl) (Nat.le_of_ble_eq_true rfl) fun w0 X0 hI=>?_
 refine af<|ai<|s1 (aa rfl) rfl<|s1 ((aa rfl).v (v':= .b false) (rfl)) rfl ?_
 refine ah<|ae ?_
 refine cF rfl ?_
 refine aL ?_
 refine lU (rs:= []) rfl aB rfl
theorem iw (e:Int):iY Tryz.prog 45 [.b false,.i .i64 e] ⟨[]⟩ (fun _ _=>False) (fun u=>u=gY 136 e):=by
 refine r8 Tryz.func45 rfl Tryz.ntmps45 (by kernel_rfl) (Nat.le_of_ble_eq_true rfl) fun w0 X0 hI=>?_
 refine af<|ai<|s1 (aa rfl) rfl<|s1 ((aa rfl).v (v':= .b true) (rfl)) rfl ?_
 refine ah<|ae ?_
 refine bR rfl ?_
 refine ai<|s1 (aa rfl) rfl<|s1 (ey (out:= [_]) [[a6 (.int .i64 0)]] xN rfl Tryz.underlying136 (by kernel_rfl) rfl rfl ⟨⟨by(first|rfl|omega|(simp;done)|(simp [*];done)|(simp [aY, *];done)),rfl⟩,trivial⟩ rfl) rfl<|s1 (uq (by kernel_rfl) rfl) rfl ?_
 refine JJ rfl rfl ?_
 exact mN rfl
theorem vL (e:Int):aA Tryz.prog 39 [.ic 136 (.ag [.i .i64 e])] (aN (.i .i64 e)):=by
 refine enter Tryz.func39 rfl Tryz.ntmps39 (by kernel_rfl) (Nat.le_of_ble_eq_true rfl) fun w0 X0 hI=>?_
 refine af<|ai<|s1 ((aa rfl).v (v':= .i .i64 0) rfl) rfl ?_
 refine ah<|ae<|af<|ai<|s1 (aa rfl) rfl<|s1 (uv Tryz.underlying136 rfl rfl) rfl<|s1 (aa rfl) rfl<|s1 (aa rfl) rfl<|s1 (aa rfl) rfl ?_
 refine ak rfl (bp 3 rfl xN rfl rfl ?_)
 refine ak rfl (bb xN rfl rfl rfl (by first|rfl|omega|(simp<;>omega)|(simp [*]<;>omega)) (by first|rfl|omega|(simp<;>omega)|(simp [*]<;>omega)) ?_)
 refine s1 (aa rfl) rfl ?_
 refine ah<|ae<|af<|af<|ai<|s1 (aa rfl) rfl<|s1 (aa rfl) rfl ?_
 refine ah<|ae ?_
 refine cF rfl ?_
 refine aL<|ae<|af<|ai<|s1 (aC Tryz.underlying136 rfl b5 (by decide) rfl rfl) rfl<|s1 (au b5 rfl rfl rfl) rfl<|s1 (aa rfl) rfl ?_
 refine ah<|ae<|aE ?_
 refine aF (rs:= [.tmp 2]) rfl (aD rfl aB) ?_
 rfl
theorem Ab (b:Nat) (σ:Int→Int) (l:List Ch) (hn:l.length≤maxLen):iY Tryz.prog 48 [.raw (.map (some b)),cC l] ⟨[(700,some [.mc b (mapOf σ)])]⟩ (fun r st=>cR σ (-1) l=true∧gP (.tu []) [(700, [.mc b (mapOf (aX σ l))])] r st) (fun u=>cR σ (-1) l=false∧u=gY 136 351):=by
 refine r8 Tryz.func48 rfl Tryz.ntmps48 (by kernel_rfl) (Nat.le_of_ble_eq_true rfl) fun w0 X0 hI=>?_
 refine af<|ai<|s1 ((aa rfl).v (v':= .i .i64 (-1)) rfl) rfl ?_
 refine ah<|ae<|af ?_
 simp only [maxLen]at hn
 refine ai<|s1 (aa rfl) rfl<|s1 (bu Tryz.underlying31 rfl rfl rfl) rfl<|s1 ((aa rfl).v (v':= .i .i64 0) rfl) rfl ?_
 refine ah<|ae<|aM ?_
 refine bF (ι:=Nat×(Int→Int)×Int) (fun⟨i,τ,la⟩=> [(0,.raw (.map (some b))),(4,.i .i64 la),(7,cC l),(8,nJ l.length),(9,nJ i)]) (fun⟨i,τ,la⟩=>⟨[(700,some ([.mc b (mapOf τ)]))]⟩) (fun⟨i,τ,la⟩=>i≤l.length∧cR σ (-1) l=cR τ la (l.drop i)∧aX σ l=aX τ (l.drop i)) (fun⟨i,τ,la⟩=>l.length - i) ?_ ?_
 ·exact bE ((0,σ, -1)) (⟨Nat.zero_le _,rfl,rfl⟩) [(700,some 700)] hI rfl rfl ⟨⟨_,rfl,.pure pu⟩,⟨_,rfl,.pure pu⟩,⟨_,rfl,.pure pu⟩,⟨_,rfl,.pure pu⟩,⟨_,rfl,.pure pu⟩,trivial⟩ ⟨.inr ⟨_,_,rfl,rfl,.pure aq⟩,trivial⟩
 rintro⟨i,τ,la⟩ ⟨hi,hk,hg⟩
 dsimp only
 refine af<|ai<|s1 (aa rfl) rfl ?_
 refine ah<|ae<|af ?_
 refine aO rfl (fun hc10=>?_) (fun hc10=>?_)
 ·have h10 : i < l.length := by have := of_decide_eq_true hc10; omega
  obtain⟨c,hc⟩:∃c,l[i]? =some c:=⟨_,List.getElem?_eq_getElem h10⟩
  refine aL<|ae<|af<|aM<|af<|ai<|s1 (aT i Tryz.underlying31 bt rfl rfl rfl (by omega) rfl) rfl<|s1 (bY bt rfl rfl (pF hc) rfl) rfl ?_
  refine ak rfl (bp 6 rfl bt rfl rfl ?_)
  refine ak rfl (bb bt rfl rfl rfl (by first|rfl|omega|(simp<;>omega)|(simp [*]<;>omega)) (by first|rfl|omega|(simp<;>omega)|(simp [*]<;>omega)) ?_)
  refine ah<|ae<|af<|ai<|s1 (aC Tryz.underlying55 rfl an (by decide) rfl rfl) rfl<|s1 (au an rfl rfl rfl) rfl<|s1 (aa rfl) rfl<|s1 (aa rfl) rfl<|s1 (aa rfl) rfl ?_
  refine dC 3 rfl rfl rfl rfl (fun hb17=> .step (aC Tryz.underlying55 rfl an (by decide) rfl rfl) rfl rfl<| .step (au an rfl rfl rfl) rfl rfl<| .step (aa rfl) rfl rfl<| .done) rfl rfl ?_
  refine s1 (aa rfl) rfl ?_
  refine dC 3 rfl rfl rfl rfl (fun hb22=> .step (aC Tryz.underlying55 rfl an (by decide) rfl rfl) rfl rfl<| .step (au an rfl rfl rfl) rfl rfl<| .step (aa rfl) rfl rfl<| .done) rfl rfl ?_
  refine s1 (aa rfl) rfl ?_
  refine dC 3 rfl rfl rfl rfl (fun hb27=> .step (aC Tryz.underlying55 rfl an (by decide) rfl rfl) rfl rfl<| .step (au an rfl rfl rfl) rfl rfl<| .step (aa rfl) rfl rfl<| .done) rfl rfl ?_
  refine il 31 rfl (fun hc31=>?_) (fun hc31=>?_)
  ·skip
   refine ak rfl (aI false rfl (.cons (.pure pu) (.cons (.pure pu) .nil)) (fT 351) pu (.inl rfl) rfl ?_)
   refine ah<|ae<|af<|ai<|s1 (aC Tryz.underlying55 rfl an (by decide) rfl rfl) rfl<|s1 (au an rfl rfl rfl) rfl<|s1 (aa rfl) rfl<|s1 (aC Tryz.underlying55 rfl an (by decide) rfl rfl) rfl<|s1 (au an rfl rfl rfl) rfl<|s1 (nD Tryz.underlying80 Tryz.underlying3 uw rfl rfl rfl (sN _ _)) rfl<|s1 (aa rfl) rfl<|s1 (aa rfl) rfl ?_
   refine dC 5 rfl rfl rfl rfl (fun hb40=> .step (aa rfl) rfl rfl<| .step (aC Tryz.underlying55 rfl an (by decide) rfl rfl) rfl rfl<| .step (au an rfl rfl rfl) rfl rfl<| .step (nD Tryz.underlying80 Tryz.underlying3 uw rfl rfl rfl (sN _ _)) rfl rfl<| .step (aa rfl) rfl rfl<| .done) rfl rfl ?_
   refine il 46 rfl (fun hc46=>?_) (fun hc46=>?_)
   ·skip
    refine ak rfl (aI false rfl (.cons (.pure pu) (.cons (.pure pu) .nil)) (fT 351) pu (.inl rfl) rfl ?_)
    refine ah<|ae<|af<|ai<|s1 (aC Tryz.underlying55 rfl an (by decide) rfl rfl) rfl<|s1 (au an rfl rfl rfl) rfl<|s1 (aa rfl) rfl ?_
    refine ah<|ae<|af<|ai<|s1 (aa rfl) rfl<|s1 (aC Tryz.underlying55 rfl an (by decide) rfl rfl) rfl<|s1 (au an rfl rfl rfl) rfl<|s1 (aC Tryz.underlying55 rfl an (by decide) rfl rfl) rfl<|s1 (au an rfl rfl rfl) rfl ?_
    refine ak rfl (sV Tryz.underlying80 Tryz.underlying3 rfl rfl rfl rfl ?_)
    refine ah<|ae<|af<|ai<|s1 (aC Tryz.underlying55 rfl an (by decide) rfl rfl) rfl<|s1 (au an rfl rfl rfl) rfl<|s1 (aa rfl) rfl ?_
    refine ah<|ae ?_
    refine aO rfl (fun hc57=>?_) (fun hc57=>?_)
    ·have h57 : c.st = 0 := by simpa using hc57
     refine ai<|s1 (aa rfl) rfl<|s1 (aC Tryz.underlying55 rfl an (by decide) rfl rfl) rfl<|s1 (au an rfl rfl rfl) rfl ?_
     refine ak rfl (IX Tryz.underlying80 Tryz.underlying3 rfl rfl rfl rfl ?_)
     refine ah<|bh<|ae<|ai<|s1 (bc _ 1 rfl rfl rfl rfl (by omega)) rfl<|s1 (aa rfl) rfl ?_
     refine ah ?_
     exact br (x:=(i,τ,la)) ((i+1,ig τ c.id c.st,c.id)) (⟨show i+1≤l.length by omega,hk.trans (zf hc (y7 hc31 hc46)),hg.trans (zk hc)⟩) (show l.length - (i+1)<l.length - i by omega) [(700,some 700)] hI rfl rfl ⟨⟨_,rfl,.pure pu⟩,⟨_,rfl,.pure pu⟩,⟨_,rfl,.pure pu⟩,⟨_,rfl,.pure pu⟩,⟨_,rfl,.pure pu⟩,trivial⟩ ⟨.inr ⟨_,_,rfl,rfl,.of (congrArg (fun f=> [A.mc b f]) (IF h57)) (.pure aq)⟩,trivial⟩
    ·have h57 : c.st ≠ 0 := by simpa using hc57
     refine aL<|bh<|ae<|ai<|s1 (bc _ 1 rfl rfl rfl rfl (by omega)) rfl<|s1 (aa rfl) rfl ?_
     refine ah ?_
     exact br (x:=(i,τ,la)) ((i+1,ig τ c.id c.st,c.id)) (⟨show i+1≤l.length by omega,hk.trans (zf hc (y7 hc31 hc46)),hg.trans (zk hc)⟩) (show l.length - (i+1)<l.length - i by omega) [(700,some 700)] hI rfl rfl ⟨⟨_,rfl,.pure pu⟩,⟨_,rfl,.pure pu⟩,⟨_,rfl,.pure pu⟩,⟨_,rfl,.pure pu⟩,⟨_,rfl,.pure pu⟩,trivial⟩ ⟨.inr ⟨_,_,rfl,rfl,.of (congrArg (fun f=> [A.mc b f]) (II h57)) (.pure aq)⟩,trivial⟩
   ·skip
    refine eQ ⟨[]⟩ false rfl trivial (.cons (.pure pu) (.cons (.pure pu) .nil)) (iw 351) (fun u hu=>?_)
    refine bU ?_
    refine dA ?_
    refine bU ?_
    refine bU ?_
    refine dA ?_
    exact mN ⟨hk.trans (ze hc (FL hc46)),hu⟩
  ·skip
   refine eQ ⟨[]⟩ false rfl trivial (.cons (.pure pu) (.cons (.pure pu) .nil)) (iw 351) (fun u hu=>?_)
   refine bU ?_
   refine dA ?_
   refine bU ?_
   refine bU ?_
   refine dA ?_
   exact mN ⟨hk.trans (ze hc (FK hc31)),hu⟩
 ·obtain rfl : i = l.length := by have := of_decide_eq_false hc10; omega
  rw [List.drop_length]at hk hg
  refine bC<|aP<|aP<|bD ?_
  refine cX 700 (cs':= [.mc b (mapOf (aX σ l))]) rfl (by rw [hg];rfl) ?_
  refine E7 (rs:= []) rfl aB ⟨hk,ni rfl⟩
theorem vJ {b:Nat} {σ:Int→Int} {l:List Ch} (hn:l.length≤maxLen) (h:cR σ (-1) l=true):cH Tryz.prog 48 [.raw (.map (some b)),cC l] ⟨[(700,some [.mc b (mapOf σ)])]⟩ (gP (.tu []) [(700, [.mc b (mapOf (aX σ l))])]):=(Ab b σ l hn).ret (fun _ _ h=>h.2) fun u hu=>by rw [h]at hu;cases hu.1
theorem vK {b:Nat} {σ:Int→Int} {l:List Ch} (hn:l.length≤maxLen) (h:cR σ (-1) l=false):kZ Tryz.prog 48 [.raw (.map (some b)),cC l] ⟨[(700,some [.mc b (mapOf σ)])]⟩ (fun u=>cR σ (-1) l=false∧u=gY 136 351):=(Ab b σ l hn).tv fun r st hu=>by rw [h]at hu;cases hu.1
theorem GF (l:List Ep) (b:Nat):aA Tryz.prog 111 [cO l,.raw (.map (some b))] (aN (.fn (.func 163) [] [.fp [cO l],.fp [.raw (.map (some b))]])):=by
 refine enter Tryz.func111 rfl Tryz.ntmps111 (by kernel_rfl) (Nat.le_of_ble_eq_true rfl) fun w0 X0 hI=>?_
 refine af<|ai ?_
 refine ak rfl (kG 2 rfl rfl rfl rfl ?_)
 refine ak rfl (kG 3 rfl rfl rfl rfl ?_)
 refine s1 (aa rfl) rfl ?_
 refine ah<|ae<|af ?_
 refine fh 2 rfl rfl aq ?_
 refine fh 3 rfl rfl aq ?_
 refine ai<|s1 (gA (us:= []) (vs:= [.fp [cO l],.fp [.raw (.map (some b))]]) rfl rfl) rfl<|s1 (aa rfl) rfl ?_
 refine ah<|ae<|aE ?_
 refine aF (rs:= [.tmp 4]) rfl (aD rfl aB) ?_
 rfl
end Go.Abs.D2
-- C1B
namespace Go.Abs.D2
open Go Go.Eng Go.Abs Go.Proofs
theorem F3 (B:List UInt8) (u:BitVec 64) (hB:B.length≤100000000):cH Tryz.prog 169 [.sl 128 1 0 B.length,a7 u] ⟨[(128,some (B.map u8))]⟩ (dq 1 (B++bG u.toNat).length ((B++bG u.toNat).map u8)):=by
 refine GR aq Tryz.func169 rfl Tryz.ntmps169 (by kernel_rfl) (Nat.le_of_ble_eq_true rfl) fun w0 X0 hI=>?_
 refine af<|ai<|s1 (aa rfl) rfl ?_
 refine ah<|ae<|af<|aM ?_
 refine bF (ι:=Nat) (fun k=> [(0,.sl 130 1 0 (B.length+k)),(1,a7 (u>>>(7*k)))]) (fun k=>⟨[(130,some ((B++iB u.toNat (k)).map u8))]⟩) (fun k=>k≤10∧∀i,i<k→128≤u.toNat / 128 ^ i) (fun k=>10 - k) ?_ ?_
 ·exact bE (0) (⟨by omega,fun t ht=>absurd ht (by omega)⟩) [(130,some 128)] hI rfl rfl ⟨⟨_,rfl,.sl rfl (by first|rfl|omega|(simp<;>omega)|(simp [*]<;>omega))⟩,⟨_,rfl,.pure pu⟩,trivial⟩ ⟨.inr ⟨_,_,rfl,rfl,.of (by simp [iB]) (.pure aq)⟩,trivial⟩
 rintro k ⟨hk,hk2⟩
 have hsh:=xA u k
 have hpl:(B++iB u.toNat (k)).length=B.length+k:=by simp
 refine af<|af<|ai<|s1 (aa rfl) rfl<|s1 ((aa rfl).v (v':= .b (decide (128≤u.toNat / 128 ^ k))) (congrArg A.b (Ja u k))) rfl ?_
 refine ah<|ae ?_
 refine aO rfl (fun hc6=>?_) (fun hc6=>?_)
 ·have h6 : 128 ≤ u.toNat / 128 ^ k := of_decide_eq_true hc6
  have hk9:k<10:=Nat.lt_of_not_le fun h=>by rw [JU u.isLt h]at h6;omega
  refine aL<|ae<|aM<|af<|ai<|s1 (aa rfl) rfl<|s1 (aa rfl) rfl<|s1 (jK _ (ba 127) rfl rfl) rfl<|s1 (ie _ Tryz.underlying198 Tryz.underlying5 rfl) rfl<|s1 ((tt _ (128:UInt8) rfl rfl).v (v':=u8 (UInt8.ofNat (u.toNat / 128 ^ k % 128+128))) (congrArg u8 (I9 u k))) rfl ?_
  refine ak rfl (dG 12 rfl Tryz.underlying68 aQ rfl rfl rfl rfl rfl ?_)
  refine ak rfl (cT 13 rfl Tryz.underlying68 aQ rfl (.sl rfl (by simp)) rfl (cE rfl (by first|rfl|omega|(simp<;>omega)|(simp [*]<;>omega))) (by simp) (by simp only [maxLen];omega) (by omega) rfl (I8 B u k) rfl ?_)
  refine s1 (aa rfl) rfl ?_
  refine ah<|ae<|ai<|s1 (aa rfl) rfl<|s1 ((ke _ 7 rfl rfl rfl (by decide)).v (v':=a7 (u>>>(7*(k+1)))) (congrArg a7 (LC u k))) rfl<|s1 (aa rfl) rfl ?_
  refine ah<|bh ?_
  exact br (k+1) (⟨by omega,uP hk2 h6⟩) (by omega) [(130,some 13)] hI rfl rfl ⟨⟨_,rfl,.sl rfl (by first|rfl|omega|(simp<;>omega)|(simp [*]<;>omega))⟩,⟨_,rfl,.pure pu⟩,trivial⟩ ⟨.inr ⟨_,_,rfl,rfl,.pure aq⟩,trivial⟩
 ·have h6 : ¬ 128 ≤ u.toNat / 128 ^ k := of_decide_eq_false hc6
  refine bC<|aP<|aP<|bD<|ae<|af<|ai<|s1 (aa rfl) rfl<|s1 (aa rfl) rfl<|s1 ((ie _ Tryz.underlying198 Tryz.underlying5 rfl).v (v':=u8 (UInt8.ofNat (u.toNat / 128 ^ k))) (by rw [hsh])) rfl ?_
  refine ak rfl (dG 19 rfl Tryz.underlying68 aQ rfl rfl rfl rfl rfl ?_)
  refine ak rfl (cT 20 rfl Tryz.underlying68 aQ rfl (.sl rfl (by simp)) rfl (cE rfl (by first|rfl|omega|(simp<;>omega)|(simp [*]<;>omega))) (by simp) (by simp only [maxLen];omega) (by omega) rfl (Jb B hk2 (Nat.lt_of_not_le h6)) rfl ?_)
  refine s1 (aa rfl) rfl ?_
  refine ah<|ae<|aE ?_
  have hll:=Jc B hk2 (Nat.lt_of_not_le h6)
  refine aF (rs:= [.tmp 4]) rfl (aD rfl aB) ⟨20,?_,rfl⟩
  rw [←hll];rfl
theorem vm (B R:List UInt8) (u:BitVec 64) (m:Nat) (hB:B.length≤100000000) (hm:m=B.length) (hR:B++bG u.toNat=R):cH Tryz.prog 169 [.sl 128 1 0 m,a7 u] ⟨[(128,some (B.map u8))]⟩ (dq 1 R.length (R.map u8)):=by
  subst hm;subst hR
  exact F3 B u hB
theorem Ga (n:Int) (h0: -9223372036854775808≤n) (h1:n≤9223372036854775807):aA Tryz.prog 170 [.i .i64 n] (aN (a7 (ba (eS n)))):=by
 refine enter Tryz.func170 rfl Tryz.ntmps170 (by kernel_rfl) (Nat.le_of_ble_eq_true rfl) fun w0 X0 hI=>?_
 refine af<|ai<|s1 ((aa rfl).v (v':= .i .u64 0) rfl) rfl ?_
 refine ah<|ae<|af<|ai<|s1 (aa rfl) rfl<|s1 ((cV Tryz.underlying3 Tryz.underlying198 rfl).v (v':=a7 (BitVec.ofInt 64 n)) (congrArg (A.i .u64) (xT n))) rfl<|s1 (Lz _ 1 rfl rfl rfl (by decide)) rfl<|s1 (aa rfl) rfl<|s1 ((kY rfl rfl (by decide)).v (v':= .i .i64 (if 0≤n then 0 else -1)) (congrArg (A.i .i64) (Mg h0 h1))) rfl<|s1 ((cV Tryz.underlying3 Tryz.underlying198 rfl).v (v':=a7 (if 0≤n then 0 else BitVec.allOnes 64)) (congrArg (A.i .u64) (Md n))) rfl<|s1 ((ME _ _ rfl rfl).v (v':=a7 (ba (eS n))) (congrArg a7 (Mh h0 h1))) rfl<|s1 (aa rfl) rfl ?_
 refine ah<|ae<|aE ?_
 refine aF (rs:= [.tmp 2]) rfl (aD rfl aB) ?_
 rfl
theorem FJ (k n:Int) (s:List UInt8) (l:List CV) (hl:CV.ew l<1000000) (ih:∀v∈l,aA Tryz.prog 166 [.ag v.cells] (aN (.b v.okB))):aA Tryz.prog 166 [.ag [.i .i64 k,.i .i64 n,.s s,.fz l.length (CV.bJ l)]] (aN (.b (CV.okB (.mk k n s l)))):=by
 refine enter Tryz.func166 rfl Tryz.ntmps166 (by kernel_rfl) (Nat.le_of_ble_eq_true rfl) fun w0 X0 hI=>?_
 refine af<|ai ?_
 refine ak rfl (bK 1 rfl rfl rfl ?_)
 refine s1 (aa rfl) rfl ?_
 refine ah<|ae<|af<|af ?_
 have hll:=CV.qc l
 refine ai<|s1 (aC Tryz.underlying109 rfl an (by decide) rfl rfl) rfl<|s1 (au an rfl rfl rfl) rfl ?_
 refine ah<|ae<|aM<|af<|ai<|s1 (aa rfl) rfl<|s1 (aa rfl) rfl ?_
 refine ah<|ae ?_
 refine aO rfl (fun hc7=>?_) (fun hc7=>?_)
 ·have hk1 : k = 1 := by simpa using hc7
  refine af<|ai<|s1 (aC Tryz.underlying109 rfl gJ (by decide) rfl rfl) rfl<|s1 (au gJ rfl rfl rfl) rfl<|s1 ((aa rfl).v (v':= .b s.isEmpty) (congrArg A.b (by cases s<;>rfl))) rfl<|s1 (aa rfl) rfl ?_
  refine dC 4 rfl rfl rfl rfl (fun hb12=> .step (aC Tryz.underlying109 rfl cU (by decide) rfl rfl) rfl rfl<| .step (au cU rfl rfl rfl) rfl rfl<| .step (bu Tryz.underlying107 rfl rfl rfl) rfl rfl<| .step (aa rfl) rfl rfl<| .done) rfl rfl ?_
  refine s1 (aa rfl) rfl ?_
  refine ah<|ae<|aE<|bg<|aH ?_
  refine aF (rs:= [.tmp 2]) rfl (aD rfl aB) ?_
  exact congrArg A.b (Cu hk1)
 ·have hk1 : ¬ k = 1 := by simpa using hc7
  refine af<|ai<|s1 (aa rfl) rfl<|s1 (aa rfl) rfl ?_
  refine ah<|ae ?_
  refine aO rfl (fun hc18=>?_) (fun hc18=>?_)
  ·have hk2 : k = 2 := by simpa using hc18
   refine af<|ai<|s1 (aC Tryz.underlying109 rfl an (by decide) rfl rfl) rfl<|s1 (au an rfl rfl rfl) rfl<|s1 (aa rfl) rfl<|s1 (aa rfl) rfl ?_
   refine dC 4 rfl rfl rfl rfl (fun hb23=> .step (aC Tryz.underlying109 rfl cU (by decide) rfl rfl) rfl rfl<| .step (au cU rfl rfl rfl) rfl rfl<| .step (bu Tryz.underlying107 rfl rfl rfl) rfl rfl<| .step (aa rfl) rfl rfl<| .done) rfl rfl ?_
   refine s1 (aa rfl) rfl ?_
   refine ah<|ae<|aE<|bg<|aH ?_
   refine aF (rs:= [.tmp 2]) rfl (aD rfl aB) ?_
   exact congrArg A.b (Cv hk2)
  ·have hk2 : ¬ k = 2 := by simpa using hc18
   refine af<|ai<|s1 (aa rfl) rfl<|s1 (aa rfl) rfl ?_
   refine ah<|ae ?_
   refine aO rfl (fun hc29=>?_) (fun hc29=>?_)
   ·have hk3 : k = 3 := by simpa using hc29
    refine af<|af<|ai<|s1 (aC Tryz.underlying109 rfl an (by decide) rfl rfl) rfl<|s1 (au an rfl rfl rfl) rfl<|s1 (aa rfl) rfl<|s1 (aa rfl) rfl ?_
    refine fJ 3 rfl rfl rfl rfl (fun hb34=> .step (aC Tryz.underlying109 rfl gJ (by decide) rfl rfl) rfl rfl<| .step (au gJ rfl rfl rfl) rfl rfl<| .step ((aa rfl).v (v':= .b (!s.isEmpty)) (congrArg A.b (by cases s<;>rfl))) rfl rfl<| .done) rfl rfl ?_
    refine ah<|ae ?_
    refine aO rfl (fun hc38=>?_) (fun hc38=>?_)
    ·skip
     refine af<|ai<|s1 (aa rfl) rfl ?_
     refine ah<|ae<|aE<|aH<|bg<|aH ?_
     refine aF (rs:= [.tmp 2]) rfl (aD rfl aB) ?_
     exact congrArg A.b (Jo hk3 hc38)
    ·skip
     refine aL<|ae<|af<|af<|ai<|s1 (aC Tryz.underlying109 rfl cU (by decide) rfl rfl) rfl<|s1 (au cU rfl rfl rfl) rfl<|s1 (bu Tryz.underlying107 rfl rfl rfl) rfl<|s1 ((aa rfl).v (v':= .i .i64 0) rfl) rfl ?_
     refine ah<|ae<|aM ?_
     refine bF (ι:=Nat) (fun i=> [(40,.fz l.length (CV.bJ l)),(41,nJ l.length),(42,nJ i)]) (fun i=>⟨[]⟩) (fun i=>i≤l.length∧(l.take i).all CV.okB=true) (fun i=>l.length - i) ?_ ?_
     ·exact bE (0) (⟨Nat.zero_le _,rfl⟩) [] hI rfl rfl ⟨⟨_,rfl,.pure pu⟩,⟨_,rfl,.pure pu⟩,⟨_,rfl,.pure pu⟩,trivial⟩ trivial
     rintro i ⟨hi,hi2⟩
     refine af<|ai<|s1 (aa rfl) rfl ?_
     refine ah<|ae<|af ?_
     refine aO rfl (fun hc43=>?_) (fun hc43=>?_)
     ·have h43 : i < l.length := by have := of_decide_eq_true hc43; omega
      obtain⟨v,hv⟩:∃v,l[i]? =some v:=⟨_,List.getElem?_eq_getElem h43⟩
      have hvm:=List.mem_of_getElem? hv
      refine aL<|ae<|af<|aM<|af<|ai<|s1 (aT i Tryz.underlying107 bz rfl rfl rfl (by omega) rfl) rfl<|s1 (bY bz rfl rfl (CV.get hv) (CV.len_cells v)) rfl ?_
      refine ak rfl (bp 4 rfl bz rfl rfl ?_)
      refine ak rfl (bb bz rfl rfl rfl (CV.len_cells v) (by first|rfl|omega|(simp<;>omega)|(simp [*]<;>omega)) ?_)
      refine ah<|ae<|af<|ai<|s1 (aV bz rfl rfl (CV.len_cells v)) rfl ?_
      refine ak rfl (aI false rfl (.cons (.pure pu) (.nil)) (ih v hvm) pu (.inl rfl) rfl ?_)
      refine s1 (aa rfl) rfl ?_
      refine ah<|ae ?_
      refine aO rfl (fun hc48=>?_) (fun hc48=>?_)
      ·have h48 : v.okB = false := by simpa using hc48
       refine af<|ai<|s1 (aa rfl) rfl ?_
       refine ah<|ae<|aE<|bg<|aH<|aH<|bg<|aH<|bg<|aH ?_
       refine aF (rs:= [.tmp 2]) rfl (aD rfl aB) ?_
       exact congrArg A.b (Cw hk3 hv h48)
      ·have h48 : v.okB = true := by simpa using hc48
       refine aL<|bh<|ae<|ai<|s1 (bc _ 1 rfl rfl rfl rfl (by omega)) rfl<|s1 (aa rfl) rfl ?_
       refine ah ?_
       exact br (i+1) (⟨by omega,yy hv hi2 h48⟩) (by omega) [] hI rfl rfl ⟨⟨_,rfl,.pure pu⟩,⟨_,rfl,.pure pu⟩,⟨_,rfl,.pure pu⟩,trivial⟩ trivial
     ·obtain rfl : i = l.length := by have := of_decide_eq_false hc43; omega
      refine bC<|aP<|aP<|bD<|ae<|af<|ai<|s1 (aa rfl) rfl ?_
      refine ah<|ae<|aE<|bg<|aH ?_
      refine aF (rs:= [.tmp 2]) rfl (aD rfl aB) ?_
      exact congrArg A.b (Jn hk3 hc38 hi2)
   ·have hk3 : ¬ k = 3 := by simpa using hc29
    refine aL<|bh<|ae<|af<|ai<|s1 (aa rfl) rfl ?_
    refine ah<|ae<|aE ?_
    refine aF (rs:= [.tmp 2]) rfl (aD rfl aB) ?_
    exact congrArg A.b (Ct hk1 hk2 hk3)
theorem FI (v:CV) (h:v.size≤1000000):aA Tryz.prog 166 [.ag v.cells] (aN (.b v.okB)):=CV.oK (p:=fun v=>aA Tryz.prog 166 [.ag v.cells] (aN (.b v.okB))) 1000000 (fun k n s l hl ih=>FJ k n s l hl ih) v h
theorem FG (k n:Int) (s:List UInt8) (l:List CV) (hl:CV.ew l<1000000) (ih:∀v∈l,aA Tryz.prog 167 [.ag v.cells] (aN (nJ v.depth))):aA Tryz.prog 167 [.ag [.i .i64 k,.i .i64 n,.s s,.fz l.length (CV.bJ l)]] (aN (nJ (CV.depth (.mk k n s l)))):=by
 refine enter Tryz.func167 rfl Tryz.ntmps167 (by kernel_rfl) (Nat.le_of_ble_eq_true rfl) fun w0 X0 hI=>?_
 refine af<|ai ?_
 refine ak rfl (bK 1 rfl rfl rfl ?_)
 refine s1 ((aa rfl).v (v':= .i .i64 0) rfl) rfl ?_
 refine ah<|ae<|af<|af ?_
 have hll:=CV.qc l
 have hdl:=CV.vB l
 refine ai<|s1 (aC Tryz.underlying109 rfl an (by decide) rfl rfl) rfl<|s1 (au an rfl rfl rfl) rfl<|s1 (aa rfl) rfl ?_
 refine ah<|ae ?_
 refine aO rfl (fun hc8=>?_) (fun hc8=>?_)
 ·have hk3 : ¬ k = 3 := by simpa using hc8
  refine af<|ai<|s1 ((aa rfl).v (v':= .i .i64 0) rfl) rfl ?_
  refine ah<|ae<|aE<|aH ?_
  refine aF (rs:= [.tmp 2]) rfl (aD rfl aB) ?_
  exact congrArg nJ (show 0=CV.depth (.mk k n s l) by rw [CV.depth,if_neg hk3])
 ·have hk3 : k = 3 := by simpa using hc8
  refine aL<|ae<|af<|ai<|s1 ((aa rfl).v (v':= .i .i64 0) rfl) rfl ?_
  refine ah<|ae<|af<|af<|ai<|s1 (aC Tryz.underlying109 rfl cU (by decide) rfl rfl) rfl<|s1 (au cU rfl rfl rfl) rfl<|s1 (bu Tryz.underlying107 rfl rfl rfl) rfl<|s1 ((aa rfl).v (v':= .i .i64 0) rfl) rfl ?_
  refine ah<|ae<|aM ?_
  refine bF (ι:=Nat) (fun i=> [(3,nJ (CV.ek (l.take i))),(10,.fz l.length (CV.bJ l)),(11,nJ l.length),(12,nJ i)]) (fun i=>⟨[]⟩) (fun i=>i≤l.length) (fun i=>l.length - i) ?_ ?_
  ·exact bE (0) (Nat.zero_le _) [] hI rfl rfl ⟨⟨_,rfl,.pure pu⟩,⟨_,rfl,.pure pu⟩,⟨_,rfl,.pure pu⟩,⟨_,rfl,.pure pu⟩,trivial⟩ trivial
  rintro i hi
  refine af<|ai<|s1 (aa rfl) rfl ?_
  refine ah<|ae<|af ?_
  refine aO rfl (fun hc13=>?_) (fun hc13=>?_)
  ·have h43 : i < l.length := by have := of_decide_eq_true hc13; omega
   obtain⟨v,hv⟩:∃v,l[i]? =some v:=⟨_,List.getElem?_eq_getElem h43⟩
   have hvm:=List.mem_of_getElem? hv
   refine aL<|ae<|af<|aM<|af<|ai<|s1 (aT i Tryz.underlying107 bz rfl rfl rfl (by omega) rfl) rfl<|s1 (bY bz rfl rfl (CV.get hv) (CV.len_cells v)) rfl ?_
   refine ak rfl (bp 5 rfl bz rfl rfl ?_)
   refine ak rfl (bb bz rfl rfl rfl (CV.len_cells v) (by first|rfl|omega|(simp<;>omega)|(simp [*]<;>omega)) ?_)
   refine ah<|ae<|ai<|s1 (aa rfl) rfl<|s1 (aV bz rfl rfl (CV.len_cells v)) rfl ?_
   refine ak rfl (aI false rfl (.cons (.pure pu) (.nil)) (ih v hvm) pu (.inl rfl) rfl ?_)
   refine s1 ((x6 (a:=CV.ek (l.take i)) (b:=v.depth) rfl rfl rfl).v (v':=nJ (CV.ek (l.take (i+1)))) (congrArg nJ (CV.zY hv))) rfl<|s1 (aa rfl) rfl ?_
   refine ah<|bh<|ae<|ai<|s1 (bc _ 1 rfl rfl rfl rfl (by omega)) rfl<|s1 (aa rfl) rfl ?_
   refine ah ?_
   exact br (i+1) (by omega) (by omega) [] hI rfl rfl ⟨⟨_,rfl,.pure pu⟩,⟨_,rfl,.pure pu⟩,⟨_,rfl,.pure pu⟩,⟨_,rfl,.pure pu⟩,trivial⟩ trivial
  ·obtain rfl : i = l.length := by have := of_decide_eq_false hc13; omega
   refine bC<|aP<|aP<|bD<|ae<|af<|ai<|s1 ((aa rfl).v (v':=nJ (CV.ek l)) (by rw [List.take_length])) rfl<|s1 (bc _ 1 rfl rfl rfl rfl (by omega)) rfl<|s1 (aa rfl) rfl ?_
   refine ah<|ae<|aE ?_
   refine aF (rs:= [.tmp 2]) rfl (aD rfl aB) ?_
   exact congrArg nJ (show CV.ek l+1=CV.depth (.mk k n s l) by rw [CV.depth,if_pos hk3])
theorem FF (v:CV) (h:v.size≤1000000):aA Tryz.prog 167 [.ag v.cells] (aN (nJ v.depth)):=CV.oK (p:=fun v=>aA Tryz.prog 167 [.ag v.cells] (aN (nJ v.depth))) 1000000 (fun k n s l hl ih=>FG k n s l hl ih) v h
theorem FD (v:CV) (h:v.size≤1000000):aA Tryz.prog 115 [.ag v.cells] (aN (.i .i64 (fk v))):=by
 refine enter Tryz.func115 rfl Tryz.ntmps115 (by kernel_rfl) (Nat.le_of_ble_eq_true rfl) fun w0 X0 hI=>?_
 refine af<|ai ?_
 refine ak rfl (bK 1 rfl rfl rfl ?_)
 refine s1 ((aa rfl).v (v':= .i .i64 0) rfl) rfl ?_
 refine ah<|ae<|af<|af<|ai<|s1 (aV bz rfl rfl (CV.len_cells v)) rfl ?_
 refine ak rfl (aI false rfl (.cons (.pure pu) (.nil)) (FI v h) pu (.inl rfl) rfl ?_)
 refine s1 (aa rfl) rfl ?_
 refine ah<|ae ?_
 refine aO rfl (fun hc5=>?_) (fun hc5=>?_)
 ·have h5 : v.okB = false := by simpa using hc5
  refine af<|ai<|s1 ((aa rfl).v (v':= .i .i64 1) rfl) rfl ?_
  refine ah<|ae<|aE<|aH ?_
  refine aF (rs:= [.tmp 2]) rfl (aD rfl aB) ?_
  exact congrArg (A.i .i64) (zt h5).symm
 ·have h5 : v.okB = true := by simpa using hc5
  refine aL<|ae<|af<|af<|ai<|s1 (aV bz rfl rfl (CV.len_cells v)) rfl ?_
  refine ak rfl (aI false rfl (.cons (.pure pu) (.nil)) (FF v h) pu (.inl rfl) rfl ?_)
  refine s1 (aa rfl) rfl ?_
  refine ah<|ae ?_
  refine aO rfl (fun hc8=>?_) (fun hc8=>?_)
  ·have h8 : 16 < v.depth := by have := of_decide_eq_true hc8; omega
   refine af<|ai<|s1 ((aa rfl).v (v':= .i .i64 2) rfl) rfl ?_
   refine ah<|ae<|aE<|aH ?_
   refine aF (rs:= [.tmp 2]) rfl (aD rfl aB) ?_
   exact congrArg (A.i .i64) (zu h5 h8).symm
  ·have h8 : ¬ 16 < v.depth := by have := of_decide_eq_false hc8; omega
   refine aL<|ae<|af<|ai<|s1 ((aa rfl).v (v':= .i .i64 0) rfl) rfl ?_
   refine ah<|ae<|aE ?_
   refine aF (rs:= [.tmp 2]) rfl (aD rfl aB) ?_
   exact congrArg (A.i .i64) (vj h5 h8).symm
end Go.Abs.D2
-- C1C
namespace Go.Abs.D2
open Go Go.Eng Go.Abs Go.Proofs
def fO (i:Nat):List A:= [.raw .nilFunc,.fn (.func 168) [] [],.fn (.func 171) [] [],.fn (.func 172) [] [.p i 0]]
theorem vz:k5 fO:=rT (vw trivial) (rT (vw ⟨trivial,trivial⟩) (rT (vw ⟨trivial,trivial⟩) (rT Gv Gr)))
theorem zR (B R:List UInt8) (n:Int) (s:List UInt8) (l:List CV) (h0: -9223372036854775808≤n) (h1:n≤9223372036854775807) (hR:B++1::bG (eS n)=R) (hl:R.length≤100000000):cH Tryz.prog 168 [.sl 131 1 0 B.length,.ag [.i .i64 1,.i .i64 n,.s s,.fz l.length (CV.bJ l)]] ⟨[(131,some (B.map u8))]⟩ (gh 1 R.length (R.map u8) []):=by
 refine vP [] aq B8 B7 Cy Tryz.func168 rfl Tryz.ntmps168 (by kernel_rfl) (Nat.le_of_ble_eq_true rfl) fun w0 X0 hI=>?_
 refine af<|ai ?_
 refine ak rfl (bK 3 rfl rfl rfl ?_)
 refine s1 (aa rfl) rfl ?_
 refine ah<|ae<|af ?_
 have hlen:B.length+1≤100000000:=by rw [←hR]at hl;simp at hl;omega
 refine bP ⟨_, [], []⟩ 7 4 bx (le_refl rfl) ?_
 refine aj 0 [] [(131,none)] (aa rfl) rfl rfl<|pW 6 1 [] aW Tryz.underlying68 aQ rfl rfl rfl rfl rfl rfl<|fV 128 2 [0,1] [(6,some 1),(131,none)] aW Tryz.underlying68 aQ rfl (.sl rfl (by simp)) rfl (cE rfl (by first|rfl|omega|(simp<;>omega)|(simp [*]<;>omega))) (by simp) (by simp only [maxLen];omega) (by omega) rfl (uS B 1) rfl rfl<|aj 3 [] [(3,none)] (aC Tryz.underlying109 rfl an (by decide) rfl rfl) rfl rfl<|aj 4 [3] [(3,none)] (au an rfl rfl rfl) rfl rfl<|bL false 5 [4] [] aW rfl (.cons (.pure pu) (.nil)) (Ga n h0 h1) pu (.inl rfl) rfl rfl<|wo 11 ⟨[(128,some ((B++ [1]).map u8))]⟩ true 6 [2,5] [(128,some 2)] aW rfl ⟨⟨rfl,a8.pure aq⟩,trivial⟩ (.cons (.ksl rfl) (.cons (.pure pu) .nil)) (vm (B++ [1]) (R) (ba (eS n)) (B.length+1) (by simp;omega) (by simp) (by rw [iL (ny h0 h1), ←hR];simp)) aq (.inr fI) rfl rfl<|bQ (by kernel_rfl) ?_
 refine s1 (aa rfl) rfl ?_
 refine ah<|ae<|aE ?_
 refine aF (rs:= [.tmp 4]) rfl (aD rfl aB) (CU rfl)
theorem zS (B R:List UInt8) (n:Int) (s:List UInt8) (l:List CV) (hR:B++2::(bG s.length++s)=R) (hl:R.length≤100000000):cH Tryz.prog 171 [.sl 131 1 0 B.length,.ag [.i .i64 2,.i .i64 n,.s s,.fz l.length (CV.bJ l)]] ⟨[(131,some (B.map u8))]⟩ (gh 1 R.length (R.map u8) []):=by
 refine vP [] aq B8 B7 Cy Tryz.func171 rfl Tryz.ntmps171 (by kernel_rfl) (Nat.le_of_ble_eq_true rfl) fun w0 X0 hI=>?_
 refine af<|ai ?_
 refine ak rfl (bK 3 rfl rfl rfl ?_)
 refine s1 (aa rfl) rfl ?_
 refine ah<|ae<|af ?_
 have hlen:B.length+1+s.length≤100000000:=by rw [←hR]at hl;simp at hl;omega
 have hlen2:(B++2::bG s.length).length+s.length=R.length:=by rw [←hR];simp;omega
 refine bP ⟨_, [], []⟩ 11 4 bx (le_refl rfl) ?_
 refine aj 0 [] [(131,none)] (aa rfl) rfl rfl<|pW 6 1 [] aW Tryz.underlying68 aQ rfl rfl rfl rfl rfl rfl<|fV 128 2 [0,1] [(6,some 1),(131,none)] aW Tryz.underlying68 aQ rfl (.sl rfl (by simp)) rfl (cE rfl (by first|rfl|omega|(simp<;>omega)|(simp [*]<;>omega))) (by simp) (by simp only [maxLen];omega) (by omega) rfl (uS B 2) rfl rfl<|aj 3 [] [(3,none)] (aC Tryz.underlying109 rfl gJ (by decide) rfl rfl) rfl rfl<|aj 4 [3] [(3,none)] (au gJ rfl rfl rfl) rfl rfl<|aj 5 [4] [] (uo Tryz.underlying9 rfl rfl) rfl rfl<|aj 6 [5] [] (m9 _ Tryz.underlying3 Tryz.underlying198 rfl rfl) rfl rfl<|wo 12 ⟨[(128,some ((B++ [2]).map u8))]⟩ true 7 [2,6] [(128,some 2)] aW rfl ⟨⟨rfl,a8.pure aq⟩,trivial⟩ (.cons (.ksl rfl) (.cons (.pure pu) .nil)) (vm (B++ [2]) (B++2::bG s.length) (ba s.length) (B.length+1) (by simp;omega) (by simp) (by rw [iL (by omega)];simp)) aq (.inr fI) rfl rfl<|aj 8 [] [(3,none)] (aC Tryz.underlying109 rfl gJ (by decide) rfl rfl) rfl rfl<|aj 9 [8] [(3,none)] (au gJ rfl rfl rfl) rfl rfl ?_
 refine AY 15 10 [7,9] [(12,some 7)] aW Tryz.underlying68 Tryz.underlying9 aQ rfl rfl (by simp) (by simp;omega) rfl (by simp only [maxLen];omega) (by omega) (EO _ _ R (by rw [←hR];simp)) rfl rfl<|bQ (by kernel_rfl) ?_
 refine s1 (aa rfl) rfl ?_
 refine ah<|ae<|aE ?_
 refine aF (rs:= [.tmp 4]) rfl (aD rfl aB) ?_
 rw [←hlen2]
 exact CU rfl
theorem DX {s0:St} {ow:Bool} {T:Nat} {cs:List A} (h:s0.get T=some cs):∀p∈ [(T,fO T)],(∃cs,s0.get p.1=some cs)∧lR s0 ow p.2:=fun p hp=>by
  rw [List.mem_singleton.1 hp]
  exact⟨⟨_,h⟩,.inl ⟨trivial,.inr trivial⟩,.inl ⟨⟨trivial,trivial⟩,.inr ⟨trivial,trivial⟩⟩,.inl ⟨⟨trivial,trivial⟩,.inr ⟨trivial,trivial⟩⟩,En h,trivial⟩
theorem Gi (n:Int) (s:List UInt8) (l:List CV) (ih:∀v∈l,∀(n:Int) (s:List UInt8) (q:List CV),v= .mk 3 n s q→CV.jw q=true→CV.kM q=true→∀B R:List UInt8,B++3::(bG q.length++CV.cc q)=R→R.length≤100000000→cH Tryz.prog 172 [.sl 131 1 0 B.length,.ag [.i .i64 3,.i .i64 n,.s s,.fz q.length (CV.bJ q)],.p 11 0] ⟨[(131,some (B.map u8)),(11,some (fO 11))]⟩ (gh 1 R.length (R.map u8) [(11,fO 11)])) (hok:CV.jw l=true) (hrg:CV.kM l=true) (B R:List UInt8) (hR:B++3::(bG l.length++CV.cc l)=R) (hl:R.length≤100000000):cH Tryz.prog 172 [.sl 131 1 0 B.length,.ag [.i .i64 3,.i .i64 n,.s s,.fz l.length (CV.bJ l)],.p 11 0] ⟨[(131,some (B.map u8)),(11,some (fO 11))]⟩ (gh 1 R.length (R.map u8) [(11,fO 11)]):=by
 refine vP [11] aq Jv (Ju rfl) (Jy vz) Tryz.func172 rfl Tryz.ntmps172 (by kernel_rfl) (Nat.le_of_ble_eq_true rfl) fun w0 X0 hI=>?_
 refine af<|ai ?_
 refine ak rfl (bK 4 rfl rfl rfl ?_)
 refine s1 (aa rfl) rfl ?_
 refine ah<|ae<|af ?_
 have hnl:=CV.wH l
 have hRl:R.length=B.length+1+(bG l.length).length+(CV.cc l).length:=by rw [←hR];simp;omega
 rw [CV.na]at hok
 rw [CV.tL]at hrg
 refine bP ⟨_, [], []⟩ 8 4 bx (le_refl rfl) ?_
 refine aj 0 [] [(131,none)] (aa rfl) rfl rfl<|pW 9 1 [] aW Tryz.underlying68 aQ rfl rfl rfl rfl rfl rfl<|fV 128 2 [0,1] [(9,some 1),(131,none)] aW Tryz.underlying68 aQ rfl (.sl rfl (by simp)) rfl (cE rfl (by first|rfl|omega|(simp<;>omega)|(simp [*]<;>omega))) (by simp) (by simp only [maxLen];omega) (by omega) rfl (uS B 3) rfl rfl<|aj 3 [] [(4,none)] (aC Tryz.underlying109 rfl cU (by decide) rfl rfl) rfl rfl<|aj 4 [3] [(4,none)] (au cU rfl rfl rfl) rfl rfl<|aj 5 [4] [] (bu Tryz.underlying107 rfl rfl rfl) rfl rfl<|aj 6 [5] [] (m9 _ Tryz.underlying3 Tryz.underlying198 rfl rfl) rfl rfl<|wo 15 ⟨[(128,some ((B++ [3]).map u8))]⟩ true 7 [2,6] [(128,some 2)] aW rfl ⟨⟨rfl,a8.pure aq⟩,trivial⟩ (.cons (.ksl rfl) (.cons (.pure pu) .nil)) (vm (B++ [3]) (B++3::(bG l.length++CV.cc (l.take 0))) (ba l.length) (B.length+1) (by simp;omega) (by simp) (by rw [iL (by omega)];simp [CV.cc])) aq (.inr fI) rfl rfl<|bQ (by kernel_rfl) ?_
 refine s1 (aa rfl) rfl ?_
 refine ah<|ae<|af<|af<|ai<|s1 (aC Tryz.underlying109 rfl cU (by decide) rfl rfl) rfl<|s1 (au cU rfl rfl rfl) rfl<|s1 (bu Tryz.underlying107 rfl rfl rfl) rfl<|s1 ((aa rfl).v (v':= .i .i64 0) rfl) rfl ?_
 refine ah<|ae<|aM ?_
 refine bF (ι:=Nat) (fun i=> [(0,.sl 131 1 0 (B++3::(bG l.length++CV.cc (l.take i))).length),(2,.p 11 0),(17,.fz l.length (CV.bJ l)),(18,nJ l.length),(19,nJ i)]) (fun i=>⟨[(131,some ((B++3::(bG l.length++CV.cc (l.take i))).map u8)),(11,some (fO 11))]⟩) (fun i=>i≤l.length) (fun i=>l.length - i) ?_ ?_
 ·exact bE (0) (Nat.zero_le _) [(11,some 11),(131,some 15)] hI rfl rfl ⟨⟨_,rfl,.sl rfl (by first|rfl|omega|(simp<;>omega)|(simp [*]<;>omega))⟩,⟨_,rfl,.p rfl⟩,⟨_,rfl,.pure pu⟩,⟨_,rfl,.pure pu⟩,⟨_,rfl,.pure pu⟩,trivial⟩ ⟨.inr ⟨_,_,rfl,rfl,.pure aq⟩,.inr ⟨_,_,rfl,rfl,.cons (.pure trivial) (.cons (.pure pu) (.cons (.pure pu) (.cons (.fn .nil (.cons (.p rfl) .nil)) .nil)))⟩,trivial⟩
 rintro i hi
 have hli:=CV.rZ l i
 have hli2:=CV.rZ l (i+1)
 have hCl:(B++3::(bG l.length++CV.cc (l.take i))).length=B.length+1+(bG l.length).length+(CV.cc (l.take i)).length:=by simp;omega
 have hCl2:(B++3::(bG l.length++CV.cc (l.take (i+1)))).length=B.length+1+(bG l.length).length+(CV.cc (l.take (i+1))).length:=by simp;omega
 refine af<|ai<|s1 (aa rfl) rfl ?_
 refine ah<|ae<|af ?_
 refine aO rfl (fun hc20=>?_) (fun hc20=>?_)
 ·have h20 : i < l.length := by have := of_decide_eq_true hc20; omega
  obtain⟨⟨k2,n2,s2,q2⟩,hv⟩:∃v,l[i]? =some v:=⟨_,List.getElem?_eq_getElem h20⟩
  have hvm:=List.mem_of_getElem? hv
  have hvo:=List.all_eq_true.1 hok _ hvm
  have hvr:=List.all_eq_true.1 hrg _ hvm
  simp only [CV.eR,Bool.and_eq_true,decide_eq_true_eq]at hvr
  refine aL<|ae<|af<|aM<|af<|ai<|s1 (aT i Tryz.underlying107 bz rfl rfl rfl (by omega) rfl) rfl<|s1 (bY bz rfl rfl (CV.Hu hv) rfl) rfl ?_
  refine ak rfl (bp 7 rfl bz rfl rfl ?_)
  refine ak rfl (bb bz rfl rfl rfl (by first|rfl|omega|(simp<;>omega)|(simp [*]<;>omega)) (by first|rfl|omega|(simp<;>omega)|(simp [*]<;>omega)) ?_)
  refine ah<|ae ?_
  rcases s8 hvo with hcs|hcs|hcs
  ·subst hcs
   refine bP ⟨_, [], []⟩ 7 4 bx (le_refl rfl) ?_
   refine aj 0 [] [(7,none)] (aC Tryz.underlying109 rfl an (by decide) rfl rfl) rfl rfl<|aj 1 [0] [(7,none)] (au an rfl rfl rfl) rfl rfl<|aj 2 [1] [(11,none)] (bI 1 Tryz.underlying158 ga rfl rfl rfl (by decide) rfl) rfl rfl<|aj 3 [2] [(11,none)] (au ga rfl rfl rfl) rfl rfl<|aj 4 [] [(131,none)] (aa rfl) rfl rfl<|aj 5 [] [(7,none)] (aV bz rfl rfl (by first|rfl|omega|(simp<;>omega)|(simp [*]<;>omega))) rfl rfl<|oo 29 ⟨[(131,some ((B++3::(bG l.length++CV.cc (l.take i))).map u8))]⟩ [] true 6 [3,4,5] [(131,none)] aW rfl rfl rfl ⟨⟨rfl,a8.pure aq⟩,trivial⟩ (.cons (.ksl rfl) (.cons (.pure pu) .nil)) (zR _ (B++3::(bG l.length++CV.cc (l.take (i+1)))) n2 s2 q2 hvr.1.1 hvr.1.2 (by rw [←CV.pO hv];simp [CV.enc]) (by omega)) aq (.inr fI) sY rfl rfl<|bQ (by kernel_rfl) ?_
   refine s1 (aa rfl) rfl ?_
   refine ah<|bh<|ae<|ai<|s1 (bc _ 1 rfl rfl rfl rfl (by omega)) rfl<|s1 (aa rfl) rfl ?_
   refine ah ?_
   exact br (i+1) (by omega) (by omega) [(11,some 11),(131,some 29)] hI rfl rfl ⟨⟨_,rfl,.sl rfl (by first|rfl|omega|(simp<;>omega)|(simp [*]<;>omega))⟩,⟨_,rfl,.p rfl⟩,⟨_,rfl,.pure pu⟩,⟨_,rfl,.pure pu⟩,⟨_,rfl,.pure pu⟩,trivial⟩ ⟨.inr ⟨_,_,rfl,rfl,.pure aq⟩,.inr ⟨_,_,rfl,rfl,.cons (.pure trivial) (.cons (.pure pu) (.cons (.pure pu) (.cons (.fn .nil (.cons (.p rfl) .nil)) .nil)))⟩,trivial⟩
  ·subst hcs
   refine bP ⟨_, [], []⟩ 7 4 bx (le_refl rfl) ?_
   refine aj 0 [] [(7,none)] (aC Tryz.underlying109 rfl an (by decide) rfl rfl) rfl rfl<|aj 1 [0] [(7,none)] (au an rfl rfl rfl) rfl rfl<|aj 2 [1] [(11,none)] (bI 2 Tryz.underlying158 ga rfl rfl rfl (by decide) rfl) rfl rfl<|aj 3 [2] [(11,none)] (au ga rfl rfl rfl) rfl rfl<|aj 4 [] [(131,none)] (aa rfl) rfl rfl<|aj 5 [] [(7,none)] (aV bz rfl rfl (by first|rfl|omega|(simp<;>omega)|(simp [*]<;>omega))) rfl rfl<|oo 29 ⟨[(131,some ((B++3::(bG l.length++CV.cc (l.take i))).map u8))]⟩ [] true 6 [3,4,5] [(131,none)] aW rfl rfl rfl ⟨⟨rfl,a8.pure aq⟩,trivial⟩ (.cons (.ksl rfl) (.cons (.pure pu) .nil)) (zS _ (B++3::(bG l.length++CV.cc (l.take (i+1)))) n2 s2 q2 (by rw [←CV.pO hv];simp [CV.enc]) (by omega)) aq (.inr fI) sY rfl rfl<|bQ (by kernel_rfl) ?_
   refine s1 (aa rfl) rfl ?_
   refine ah<|bh<|ae<|ai<|s1 (bc _ 1 rfl rfl rfl rfl (by omega)) rfl<|s1 (aa rfl) rfl ?_
   refine ah ?_
   exact br (i+1) (by omega) (by omega) [(11,some 11),(131,some 29)] hI rfl rfl ⟨⟨_,rfl,.sl rfl (by first|rfl|omega|(simp<;>omega)|(simp [*]<;>omega))⟩,⟨_,rfl,.p rfl⟩,⟨_,rfl,.pure pu⟩,⟨_,rfl,.pure pu⟩,⟨_,rfl,.pure pu⟩,trivial⟩ ⟨.inr ⟨_,_,rfl,rfl,.pure aq⟩,.inr ⟨_,_,rfl,rfl,.cons (.pure trivial) (.cons (.pure pu) (.cons (.pure pu) (.cons (.fn .nil (.cons (.p rfl) .nil)) .nil)))⟩,trivial⟩
  ·obtain ⟨rfl, hq2⟩ := hcs
   refine bP ⟨_, [], []⟩ 7 4 bx (le_refl rfl) ?_
   refine aj 0 [] [(7,none)] (aC Tryz.underlying109 rfl an (by decide) rfl rfl) rfl rfl<|aj 1 [0] [(7,none)] (au an rfl rfl rfl) rfl rfl<|aj 2 [1] [(11,none)] (bI 3 Tryz.underlying158 ga rfl rfl rfl (by decide) rfl) rfl rfl<|aj 3 [2] [(11,none)] (au ga rfl rfl rfl) rfl rfl<|aj 4 [] [(131,none)] (aa rfl) rfl rfl<|aj 5 [] [(7,none)] (aV bz rfl rfl (by first|rfl|omega|(simp<;>omega)|(simp [*]<;>omega))) rfl rfl<|oo 29 ⟨[(131,some ((B++3::(bG l.length++CV.cc (l.take i))).map u8)),(11,some (fO 11))]⟩ [(11,fO 11)] true 6 [3,4,5] [(11,none),(131,none)] aW rfl rfl rfl ⟨⟨rfl,a8.pure aq⟩,⟨rfl,(.cons (.pure trivial) (.cons (.pure pu) (.cons (.pure pu) (.cons (.fn .nil (.cons (.kp rfl) .nil)) .nil))))⟩,trivial⟩ (.cons (.ksl rfl) (.cons (.pure pu) (.cons (.kp rfl) .nil))) (ih _ hvm n2 s2 q2 rfl hq2 hvr.2 _ (B++3::(bG l.length++CV.cc (l.take (i+1)))) (by rw [←CV.pO hv];simp [CV.enc]) (by omega)) aq (.inr fI) (DX rfl) rfl rfl<|bQ (by kernel_rfl) ?_
   refine s1 (aa rfl) rfl ?_
   refine ah<|bh<|ae<|ai<|s1 (bc _ 1 rfl rfl rfl rfl (by omega)) rfl<|s1 (aa rfl) rfl ?_
   refine ah ?_
   exact br (i+1) (by omega) (by omega) [(11,some 11),(131,some 29)] hI rfl rfl ⟨⟨_,rfl,.sl rfl (by first|rfl|omega|(simp<;>omega)|(simp [*]<;>omega))⟩,⟨_,rfl,.p rfl⟩,⟨_,rfl,.pure pu⟩,⟨_,rfl,.pure pu⟩,⟨_,rfl,.pure pu⟩,trivial⟩ ⟨.inr ⟨_,_,rfl,rfl,.pure aq⟩,.inr ⟨_,_,rfl,rfl,.cons (.pure trivial) (.cons (.pure pu) (.cons (.pure pu) (.cons (.fn .nil (.cons (.p rfl) .nil)) .nil)))⟩,trivial⟩
 ·obtain rfl : i = l.length := by have := of_decide_eq_false hc20; omega
  refine bC<|aP<|aP<|bD<|ae<|af<|ai<|s1 (aa rfl) rfl<|s1 (aa rfl) rfl ?_
  refine ah<|ae<|aE ?_
  refine aF (rs:= [.tmp 5]) rfl (aD rfl aB) ?_
  rw [←hR]
  exact Kx (by rw [List.take_length]) rfl rfl (by decide)
theorem Gh (n:Int) (s:List UInt8) (l:List CV) (hok:CV.jw l=true) (hrg:CV.kM l=true) (B R:List UInt8) (hR:B++3::(bG l.length++CV.cc l)=R) (hl:R.length≤100000000):cH Tryz.prog 172 [.sl 131 1 0 B.length,.ag [.i .i64 3,.i .i64 n,.s s,.fz l.length (CV.bJ l)],.p 11 0] ⟨[(131,some (B.map u8)),(11,some (fO 11))]⟩ (gh 1 R.length (R.map u8) [(11,fO 11)]):=by
 have key:∀v:CV,v.size≤(CV.mk 3 n s l).size→∀(n:Int) (s:List UInt8) (q:List CV),v= .mk 3 n s q→CV.jw q=true→CV.kM q=true→∀B R:List UInt8,B++3::(bG q.length++CV.cc q)=R→R.length≤100000000→cH Tryz.prog 172 [.sl 131 1 0 B.length,.ag [.i .i64 3,.i .i64 n,.s s,.fz q.length (CV.bJ q)],.p 11 0] ⟨[(131,some (B.map u8)),(11,some (fO 11))]⟩ (gh 1 R.length (R.map u8) [(11,fO 11)]):=by
  refine CV.oK _ fun k n s l hl ih=>?_
  rintro n' s' q e
  cases e
  exact Gi n s l ih
 exact key _ (Nat.le_refl _) n s l rfl hok hrg B R hR hl
theorem Gj:aA Tryz.prog 116 [] (uC (fun i=> .ag (fO i)) fO):=by
 refine enter Tryz.func116 rfl Tryz.ntmps116 (by kernel_rfl) (Nat.le_of_ble_eq_true rfl) fun w0 X0 hI=>?_
 refine af<|ai ?_
 refine ak rfl (bp 0 rfl oT rfl rfl ?_)
 refine ah<|ae<|af<|ai<|s1 (bI 1 Tryz.underlying158 ga rfl rfl rfl (by omega) rfl) rfl ?_
 refine ak rfl (bZ ga rfl rfl rfl rfl (by first|rfl|omega|(simp<;>omega)|(simp [*]<;>omega)) rfl ?_)
 refine ah<|ae<|af<|ai<|s1 (bI 2 Tryz.underlying158 ga rfl rfl rfl (by omega) rfl) rfl ?_
 refine ak rfl (bZ ga rfl rfl rfl rfl (by first|rfl|omega|(simp<;>omega)|(simp [*]<;>omega)) rfl ?_)
 refine ah<|ae<|af<|ai<|s1 (gA (us:= []) (vs:= [.p 0 0]) rfl rfl) rfl<|s1 (bI 3 Tryz.underlying158 ga rfl rfl rfl (by omega) rfl) rfl ?_
 refine ak rfl (bZ ga rfl rfl rfl rfl (by first|rfl|omega|(simp<;>omega)|(simp [*]<;>omega)) rfl ?_)
 refine ah<|ae<|af<|ai<|s1 (aV oT rfl rfl rfl) rfl ?_
 refine ak rfl (bb oT rfl rfl rfl rfl rfl ?_)
 refine ah<|ae<|aE ?_
 refine aF (rs:= [.cell 0 158]) rfl (bW oT rfl rfl rfl rfl aB) ⟨0,rfl,rfl⟩
end Go.Abs.D2
-- C1D
namespace Go.Abs.D2
open Go Go.Eng Go.Abs Go.Proofs
theorem y6 (k n:Int) (s:List UInt8) (l:List CV) (hs:(CV.mk k n s l).size≤1000000) (hrg:(CV.mk k n s l).eR=true) (hl:(CV.mk k n s l).enc.length≤100000000):aA Tryz.prog 69 [.ag [.i .i64 k,.i .i64 n,.s s,.fz l.length (CV.bJ l)]] (aN (encA (.mk k n s l))):=by
 refine enter Tryz.func69 rfl Tryz.ntmps69 (by kernel_rfl) (Nat.le_of_ble_eq_true rfl) fun w0 X0 hI=>?_
 refine af<|ai ?_
 refine ak rfl (bK 1 rfl rfl rfl ?_)
 refine s1 (aa rfl) rfl<|s1 ((aa rfl).v (v':= .i .i64 0) rfl) rfl ?_
 refine ah<|ae<|af<|af ?_
 simp only [CV.eR,Bool.and_eq_true,decide_eq_true_eq]at hrg
 refine ai<|s1 (aV bz rfl rfl rfl) rfl ?_
 refine ak rfl (aI false rfl (.cons (.pure pu) (.nil)) (FD (.mk k n s l) hs) pu (.inl rfl) rfl ?_)
 refine s1 (aa rfl) rfl ?_
 refine ah<|ae<|af<|ai<|s1 (aa rfl) rfl<|s1 (aa rfl) rfl ?_
 refine ah<|ae ?_
 refine aO rfl (fun hc9=>?_) (fun hc9=>?_)
 ·have h9 : fk (.mk k n s l) ≠ 0 := by simpa using hc9
  refine af<|ai<|s1 (aa rfl) rfl<|s1 (aa rfl) rfl<|s1 (aa rfl) rfl ?_
  refine ah<|ae<|aE<|aH ?_
  refine aF (rs:= [.tmp 2,.tmp 3]) rfl (aD rfl (aD rfl aB)) ?_
  exact(Al h9).symm
 ·have h9 : fk (.mk k n s l) = 0 := by simpa using hc9
  have hok:=zw h9
  refine aL<|ae<|af<|ai ?_
  refine ak rfl (IN (mk:=fun i=> .ag (fO i)) (mkc:=fO) (Jt (f:= .func 172) 3 vz (fun _=>rfl)) vz 11 rfl true rfl .nil Gj rfl ?_)
  refine ak rfl (bp 5 rfl oT rfl rfl ?_)
  refine ak rfl (bb oT rfl rfl rfl rfl rfl ?_)
  refine ah<|ae<|af ?_
  rcases s8 hok with hcs|hcs|hcs
  ·subst hcs
   refine bP ⟨_, [], []⟩ 6 4 bx (le_refl rfl) ?_
   refine aj 0 [] [(1,none)] (aC Tryz.underlying109 rfl an (by decide) rfl rfl) rfl rfl<|aj 1 [0] [(1,none)] (au an rfl rfl rfl) rfl rfl<|aj 2 [1] [(5,none)] (bI 1 Tryz.underlying158 ga rfl rfl rfl (by decide) rfl) rfl rfl<|aj 3 [2] [(5,none)] (au ga rfl rfl rfl) rfl rfl<|aj 4 [] [(1,none)] (aV bz rfl rfl rfl) rfl rfl<|oo 17 ⟨[]⟩ [] true 5 [3,4] [] aW rfl rfl rfl trivial (.cons (.pure pu) (.cons (.pure pu) .nil)) (cH.nl (i:=131) rfl (zR [] (CV.enc (.mk 1 n s l)) n s l hrg.1.1 hrg.1.2 rfl hl)) aq (.inr fI) sY rfl rfl<|bQ (by kernel_rfl) ?_
   refine s1 (aa rfl) rfl<|s1 ((aa rfl).v (v':= .i .i64 0) rfl) rfl ?_
   refine ah<|ae<|aE ?_
   refine gp 2 rfl rfl aq (cm (by simp) rfl) ?_
   refine aF (rs:= [.tmp 2,.tmp 3]) rfl (aD rfl (aD rfl aB)) ?_
   exact(nY h9).symm
  ·subst hcs
   refine bP ⟨_, [], []⟩ 6 4 bx (le_refl rfl) ?_
   refine aj 0 [] [(1,none)] (aC Tryz.underlying109 rfl an (by decide) rfl rfl) rfl rfl<|aj 1 [0] [(1,none)] (au an rfl rfl rfl) rfl rfl<|aj 2 [1] [(5,none)] (bI 2 Tryz.underlying158 ga rfl rfl rfl (by decide) rfl) rfl rfl<|aj 3 [2] [(5,none)] (au ga rfl rfl rfl) rfl rfl<|aj 4 [] [(1,none)] (aV bz rfl rfl rfl) rfl rfl<|oo 17 ⟨[]⟩ [] true 5 [3,4] [] aW rfl rfl rfl trivial (.cons (.pure pu) (.cons (.pure pu) .nil)) (cH.nl (i:=131) rfl (zS [] (CV.enc (.mk 2 n s l)) n s l rfl hl)) aq (.inr fI) sY rfl rfl<|bQ (by kernel_rfl) ?_
   refine s1 (aa rfl) rfl<|s1 ((aa rfl).v (v':= .i .i64 0) rfl) rfl ?_
   refine ah<|ae<|aE ?_
   refine gp 2 rfl rfl aq (cm (by simp) rfl) ?_
   refine aF (rs:= [.tmp 2,.tmp 3]) rfl (aD rfl (aD rfl aB)) ?_
   exact(nY h9).symm
  ·obtain ⟨rfl, hq2⟩ := hcs
   refine bP ⟨_, [], []⟩ 6 4 bx (le_refl rfl) ?_
   refine aj 0 [] [(1,none)] (aC Tryz.underlying109 rfl an (by decide) rfl rfl) rfl rfl<|aj 1 [0] [(1,none)] (au an rfl rfl rfl) rfl rfl<|aj 2 [1] [(5,none)] (bI 3 Tryz.underlying158 ga rfl rfl rfl (by decide) rfl) rfl rfl<|aj 3 [2] [(5,none)] (au ga rfl rfl rfl) rfl rfl<|aj 4 [] [(1,none)] (aV bz rfl rfl rfl) rfl rfl<|oo 17 ⟨[(11,some (fO 11))]⟩ [(11,fO 11)] true 5 [3,4] [(11,none)] aW rfl rfl rfl ⟨⟨rfl,(.cons (.pure trivial) (.cons (.pure pu) (.cons (.pure pu) (.cons (.fn .nil (.cons (.kp rfl) .nil)) .nil))))⟩,trivial⟩ (.cons (.pure pu) (.cons (.pure pu) (.cons (.kp rfl) .nil))) (cH.nl (i:=131) rfl (Gh n s l hq2 hrg.2 [] (CV.enc (.mk 3 n s l)) rfl hl)) aq (.inr fI) (DX rfl) rfl rfl<|bQ (by kernel_rfl) ?_
   refine s1 (aa rfl) rfl<|s1 ((aa rfl).v (v':= .i .i64 0) rfl) rfl ?_
   refine ah<|ae<|aE ?_
   refine gp 2 rfl rfl aq (cm (by simp) rfl) ?_
   refine aF (rs:= [.tmp 2,.tmp 3]) rfl (aD rfl (aD rfl aB)) ?_
   exact(nY h9).symm
end Go.Abs.D2
-- D2A
namespace Go.Abs.D2
open Go Go.Eng Go.Abs Go.Proofs
theorem wS (htag:∀(t b:List UInt8),t.length≤1048576→b.length≤1048576→aA Tryz.prog 50 [.s t,.fz b.length (b.map u8)] (aN (.ag ((tagged t b).map u8)))) (a b:List UInt8) (ha:a.length=32) (hb:b.length=32):aA Tryz.prog 96 [.ag (a.map u8),.ag (b.map u8)] (aN (.ag ((tagged [110,111,100,101] (a++b)).map u8))):=by
 refine enter Tryz.func96 rfl Tryz.ntmps96 (by kernel_rfl) (Nat.le_of_ble_eq_true rfl) fun w0 X0 hI=>?_
 refine af<|ai ?_
 refine ak rfl (bK 2 rfl rfl rfl ?_)
 refine ak rfl (bK 3 rfl rfl rfl ?_)
 refine ak rfl (bp 4 rfl az rfl rfl ?_)
 refine ah<|ae<|af ?_
 refine bP ⟨_, [], []⟩ 6 4 bx (le_refl rfl) ?_
 refine Hr 5 0 [] 0 64 aW Tryz.underlying68 aQ rfl rfl rfl rfl rfl (by first|omega|(simp only [maxLen];omega)|(simp [maxLen];done)|(simp [maxLen];omega)|(simp [maxLen, *];omega)) (by first|omega|(simp only [maxLen];omega)|(simp [maxLen];done)|(simp [maxLen];omega)|(simp [maxLen, *];omega)) (by first|omega|(simp only [maxLen];omega)|(simp [maxLen];done)|(simp [maxLen];omega)|(simp [maxLen, *];omega)) rfl rfl<|aj 1 [] [(2,none)] (fF Tryz.underlying23 aQ rfl rfl (by first|rfl|omega|(simp<;>omega)|(simp [*]<;>omega)|(simp [aK.len, -List.length_flatten, *]<;>omega)) (by simp [maxLen])) rfl rfl<|fV 7 2 [0,1] [(2,none),(5,some 0)] aW Tryz.underlying68 aQ rfl (.sl rfl (by first|rfl|omega|(simp<;>omega)|(simp [*]<;>omega)|(simp [aK.len, -List.length_flatten, *]<;>omega))) rfl (cE rfl (by first|rfl|omega|(simp<;>omega)|(simp [*]<;>omega)|(simp [aK.len, -List.length_flatten, *]<;>omega))) (by first|rfl|omega|(simp<;>omega)|(simp [*]<;>omega)|(simp [aK.len, -List.length_flatten, *]<;>omega)) (by first|omega|(simp only [maxLen];omega)|(simp [maxLen];done)|(simp [maxLen];omega)|(simp [maxLen, *];omega)) (by first|omega|(simp only [maxLen];omega)|(simp [maxLen];done)|(simp [maxLen];omega)|(simp [maxLen, *];omega)) rfl rfl rfl rfl<|aj 3 [] [(3,none)] (fF Tryz.underlying23 aQ rfl rfl (by first|rfl|omega|(simp<;>omega)|(simp [*]<;>omega)|(simp [aK.len, -List.length_flatten, *]<;>omega)) (by simp [maxLen])) rfl rfl<|fV 9 4 [2,3] [(3,none),(7,some 2)] aW Tryz.underlying68 aQ rfl (.sl rfl (by first|rfl|omega|(simp<;>omega)|(simp [*]<;>omega)|(simp [aK.len, -List.length_flatten, *]<;>omega))) rfl (cE rfl (by first|rfl|omega|(simp<;>omega)|(simp [*]<;>omega)|(simp [aK.len, -List.length_flatten, *]<;>omega))) (by first|rfl|omega|(simp<;>omega)|(simp [*]<;>omega)|(simp [aK.len, -List.length_flatten, *]<;>omega)) (by first|omega|(simp only [maxLen];omega)|(simp [maxLen];done)|(simp [maxLen];omega)|(simp [maxLen, *];omega)) (by first|omega|(simp only [maxLen];omega)|(simp [maxLen];done)|(simp [maxLen];omega)|(simp [maxLen, *];omega)) rfl rfl rfl rfl<|bL true 5 [4] [(9,some 4)] aW rfl (.cons (.pure pu) (.cons (.sl rfl rfl (by first|rfl|omega|(simp<;>omega)|(simp [*]<;>omega)|(simp [aK.len, -List.length_flatten, *]<;>omega)) (cm (by first|rfl|omega|(simp<;>omega)|(simp [*]<;>omega)|(simp [aK.len, -List.length_flatten, *]<;>omega)) (by first|rfl|(simp;done)|(simp [*];done))) (a8.pure aq) aq) (.nil))) (htag _ (a++b) (by simp) (by simp;omega)) pu (.inr fu) rfl rfl<|bQ (by kernel_rfl) ?_
 refine ak rfl (bb az rfl rfl rfl (by first|rfl|omega|(simp<;>omega)|(simp [*]<;>omega)|(simp [aK.len, -List.length_flatten, *]<;>omega)) (by first|rfl|omega|(simp<;>omega)|(simp [*]<;>omega)|(simp [aK.len, -List.length_flatten, *]<;>omega)) ?_)
 refine ah<|ae<|aE ?_
 refine aF (rs:= [.cell 4 23]) rfl (bW az rfl rfl (List.take_of_length_le (by simp)) (by simp) aB) rfl
end Go.Abs.D2
-- D2B
namespace Go.Abs.D2
open Go Go.Eng Go.Abs Go.Proofs
theorem KR (x:BitVec 32):aA Tryz.prog 188 [aJ x,.i .i64 (-2)] (aN (aJ (fa x 2))):=by
 refine enter Tryz.func188 rfl Tryz.ntmps188 (by kernel_rfl) (Nat.le_of_ble_eq_true rfl) fun w0 X0 hI=>?_
 refine af<|ai<|s1 ((aa rfl).v (v':= .i .u32 0) rfl) rfl ?_
 refine ah<|ae<|af<|ai<|s1 (aa rfl) rfl<|s1 ((cV Tryz.underlying3 Tryz.underlying74 rfl).v (v':=a7 (ba 18446744073709551614)) (congrArg (A.i .u64) (by decide))) rfl<|s1 ((jK _ (ba 31) rfl rfl).v (v':=a7 (ba 30)) (congrArg a7 (by decide))) rfl<|s1 (aa rfl) rfl ?_
 refine ah<|ae<|af<|ai<|s1 (aa rfl) rfl<|s1 (aa rfl) rfl<|s1 (g8 _ 30 rfl rfl rfl (by decide)) rfl<|s1 (aa rfl) rfl<|s1 (aa rfl) rfl<|s1 ((kT (ba 32) (ba 30) rfl rfl (by decide)).v (v':=a7 (ba 2)) (congrArg a7 (by decide))) rfl<|s1 (fE _ 2 rfl rfl rfl (by decide)) rfl<|s1 ((gZ _ _ rfl rfl).v (congrArg aJ (kP x 2))) rfl<|s1 (aa rfl) rfl ?_
 refine ah<|ae<|aE ?_
 refine aF (rs:= [.tmp 4]) rfl (aD rfl (aB)) rfl
theorem KU (x:BitVec 32):aA Tryz.prog 188 [aJ x,.i .i64 (-6)] (aN (aJ (fa x 6))):=by
 refine enter Tryz.func188 rfl Tryz.ntmps188 (by kernel_rfl) (Nat.le_of_ble_eq_true rfl) fun w0 X0 hI=>?_
 refine af<|ai<|s1 ((aa rfl).v (v':= .i .u32 0) rfl) rfl ?_
 refine ah<|ae<|af<|ai<|s1 (aa rfl) rfl<|s1 ((cV Tryz.underlying3 Tryz.underlying74 rfl).v (v':=a7 (ba 18446744073709551610)) (congrArg (A.i .u64) (by decide))) rfl<|s1 ((jK _ (ba 31) rfl rfl).v (v':=a7 (ba 26)) (congrArg a7 (by decide))) rfl<|s1 (aa rfl) rfl ?_
 refine ah<|ae<|af<|ai<|s1 (aa rfl) rfl<|s1 (aa rfl) rfl<|s1 (g8 _ 26 rfl rfl rfl (by decide)) rfl<|s1 (aa rfl) rfl<|s1 (aa rfl) rfl<|s1 ((kT (ba 32) (ba 26) rfl rfl (by decide)).v (v':=a7 (ba 6)) (congrArg a7 (by decide))) rfl<|s1 (fE _ 6 rfl rfl rfl (by decide)) rfl<|s1 ((gZ _ _ rfl rfl).v (congrArg aJ (kP x 6))) rfl<|s1 (aa rfl) rfl ?_
 refine ah<|ae<|aE ?_
 refine aF (rs:= [.tmp 4]) rfl (aD rfl (aB)) rfl
theorem KV (x:BitVec 32):aA Tryz.prog 188 [aJ x,.i .i64 (-7)] (aN (aJ (fa x 7))):=by
 refine enter Tryz.func188 rfl Tryz.ntmps188 (by kernel_rfl) (Nat.le_of_ble_eq_true rfl) fun w0 X0 hI=>?_
 refine af<|ai<|s1 ((aa rfl).v (v':= .i .u32 0) rfl) rfl ?_
 refine ah<|ae<|af<|ai<|s1 (aa rfl) rfl<|s1 ((cV Tryz.underlying3 Tryz.underlying74 rfl).v (v':=a7 (ba 18446744073709551609)) (congrArg (A.i .u64) (by decide))) rfl<|s1 ((jK _ (ba 31) rfl rfl).v (v':=a7 (ba 25)) (congrArg a7 (by decide))) rfl<|s1 (aa rfl) rfl ?_
 refine ah<|ae<|af<|ai<|s1 (aa rfl) rfl<|s1 (aa rfl) rfl<|s1 (g8 _ 25 rfl rfl rfl (by decide)) rfl<|s1 (aa rfl) rfl<|s1 (aa rfl) rfl<|s1 ((kT (ba 32) (ba 25) rfl rfl (by decide)).v (v':=a7 (ba 7)) (congrArg a7 (by decide))) rfl<|s1 (fE _ 7 rfl rfl rfl (by decide)) rfl<|s1 ((gZ _ _ rfl rfl).v (congrArg aJ (kP x 7))) rfl<|s1 (aa rfl) rfl ?_
 refine ah<|ae<|aE ?_
 refine aF (rs:= [.tmp 4]) rfl (aD rfl (aB)) rfl
theorem KM (x:BitVec 32):aA Tryz.prog 188 [aJ x,.i .i64 (-11)] (aN (aJ (fa x 11))):=by
 refine enter Tryz.func188 rfl Tryz.ntmps188 (by kernel_rfl) (Nat.le_of_ble_eq_true rfl) fun w0 X0 hI=>?_
 refine af<|ai<|s1 ((aa rfl).v (v':= .i .u32 0) rfl) rfl ?_
 refine ah<|ae<|af<|ai<|s1 (aa rfl) rfl<|s1 ((cV Tryz.underlying3 Tryz.underlying74 rfl).v (v':=a7 (ba 18446744073709551605)) (congrArg (A.i .u64) (by decide))) rfl<|s1 ((jK _ (ba 31) rfl rfl).v (v':=a7 (ba 21)) (congrArg a7 (by decide))) rfl<|s1 (aa rfl) rfl ?_
 refine ah<|ae<|af<|ai<|s1 (aa rfl) rfl<|s1 (aa rfl) rfl<|s1 (g8 _ 21 rfl rfl rfl (by decide)) rfl<|s1 (aa rfl) rfl<|s1 (aa rfl) rfl<|s1 ((kT (ba 32) (ba 21) rfl rfl (by decide)).v (v':=a7 (ba 11)) (congrArg a7 (by decide))) rfl<|s1 (fE _ 11 rfl rfl rfl (by decide)) rfl<|s1 ((gZ _ _ rfl rfl).v (congrArg aJ (kP x 11))) rfl<|s1 (aa rfl) rfl ?_
 refine ah<|ae<|aE ?_
 refine aF (rs:= [.tmp 4]) rfl (aD rfl (aB)) rfl
theorem KN (x:BitVec 32):aA Tryz.prog 188 [aJ x,.i .i64 (-13)] (aN (aJ (fa x 13))):=by
 refine enter Tryz.func188 rfl Tryz.ntmps188 (by kernel_rfl) (Nat.le_of_ble_eq_true rfl) fun w0 X0 hI=>?_
 refine af<|ai<|s1 ((aa rfl).v (v':= .i .u32 0) rfl) rfl ?_
 refine ah<|ae<|af<|ai<|s1 (aa rfl) rfl<|s1 ((cV Tryz.underlying3 Tryz.underlying74 rfl).v (v':=a7 (ba 18446744073709551603)) (congrArg (A.i .u64) (by decide))) rfl<|s1 ((jK _ (ba 31) rfl rfl).v (v':=a7 (ba 19)) (congrArg a7 (by decide))) rfl<|s1 (aa rfl) rfl ?_
 refine ah<|ae<|af<|ai<|s1 (aa rfl) rfl<|s1 (aa rfl) rfl<|s1 (g8 _ 19 rfl rfl rfl (by decide)) rfl<|s1 (aa rfl) rfl<|s1 (aa rfl) rfl<|s1 ((kT (ba 32) (ba 19) rfl rfl (by decide)).v (v':=a7 (ba 13)) (congrArg a7 (by decide))) rfl<|s1 (fE _ 13 rfl rfl rfl (by decide)) rfl<|s1 ((gZ _ _ rfl rfl).v (congrArg aJ (kP x 13))) rfl<|s1 (aa rfl) rfl ?_
 refine ah<|ae<|aE ?_
 refine aF (rs:= [.tmp 4]) rfl (aD rfl (aB)) rfl
theorem KO (x:BitVec 32):aA Tryz.prog 188 [aJ x,.i .i64 (-17)] (aN (aJ (fa x 17))):=by
 refine enter Tryz.func188 rfl Tryz.ntmps188 (by kernel_rfl) (Nat.le_of_ble_eq_true rfl) fun w0 X0 hI=>?_
 refine af<|ai<|s1 ((aa rfl).v (v':= .i .u32 0) rfl) rfl ?_
 refine ah<|ae<|af<|ai<|s1 (aa rfl) rfl<|s1 ((cV Tryz.underlying3 Tryz.underlying74 rfl).v (v':=a7 (ba 18446744073709551599)) (congrArg (A.i .u64) (by decide))) rfl<|s1 ((jK _ (ba 31) rfl rfl).v (v':=a7 (ba 15)) (congrArg a7 (by decide))) rfl<|s1 (aa rfl) rfl ?_
 refine ah<|ae<|af<|ai<|s1 (aa rfl) rfl<|s1 (aa rfl) rfl<|s1 (g8 _ 15 rfl rfl rfl (by decide)) rfl<|s1 (aa rfl) rfl<|s1 (aa rfl) rfl<|s1 ((kT (ba 32) (ba 15) rfl rfl (by decide)).v (v':=a7 (ba 17)) (congrArg a7 (by decide))) rfl<|s1 (fE _ 17 rfl rfl rfl (by decide)) rfl<|s1 ((gZ _ _ rfl rfl).v (congrArg aJ (kP x 17))) rfl<|s1 (aa rfl) rfl ?_
 refine ah<|ae<|aE ?_
 refine aF (rs:= [.tmp 4]) rfl (aD rfl (aB)) rfl
theorem KP (x:BitVec 32):aA Tryz.prog 188 [aJ x,.i .i64 (-18)] (aN (aJ (fa x 18))):=by
 refine enter Tryz.func188 rfl Tryz.ntmps188 (by kernel_rfl) (Nat.le_of_ble_eq_true rfl) fun w0 X0 hI=>?_
 refine af<|ai<|s1 ((aa rfl).v (v':= .i .u32 0) rfl) rfl ?_
 refine ah<|ae<|af<|ai<|s1 (aa rfl) rfl<|s1 ((cV Tryz.underlying3 Tryz.underlying74 rfl).v (v':=a7 (ba 18446744073709551598)) (congrArg (A.i .u64) (by decide))) rfl<|s1 ((jK _ (ba 31) rfl rfl).v (v':=a7 (ba 14)) (congrArg a7 (by decide))) rfl<|s1 (aa rfl) rfl ?_
 refine ah<|ae<|af<|ai<|s1 (aa rfl) rfl<|s1 (aa rfl) rfl<|s1 (g8 _ 14 rfl rfl rfl (by decide)) rfl<|s1 (aa rfl) rfl<|s1 (aa rfl) rfl<|s1 ((kT (ba 32) (ba 14) rfl rfl (by decide)).v (v':=a7 (ba 18)) (congrArg a7 (by decide))) rfl<|s1 (fE _ 18 rfl rfl rfl (by decide)) rfl<|s1 ((gZ _ _ rfl rfl).v (congrArg aJ (kP x 18))) rfl<|s1 (aa rfl) rfl ?_
 refine ah<|ae<|aE ?_
 refine aF (rs:= [.tmp 4]) rfl (aD rfl (aB)) rfl
theorem KQ (x:BitVec 32):aA Tryz.prog 188 [aJ x,.i .i64 (-19)] (aN (aJ (fa x 19))):=by
 refine enter Tryz.func188 rfl Tryz.ntmps188 (by kernel_rfl) (Nat.le_of_ble_eq_true rfl) fun w0 X0 hI=>?_
 refine af<|ai<|s1 ((aa rfl).v (v':= .i .u32 0) rfl) rfl ?_
 refine ah<|ae<|af<|ai<|s1 (aa rfl) rfl<|s1 ((cV Tryz.underlying3 Tryz.underlying74 rfl).v (v':=a7 (ba 18446744073709551597)) (congrArg (A.i .u64) (by decide))) rfl<|s1 ((jK _ (ba 31) rfl rfl).v (v':=a7 (ba 13)) (congrArg a7 (by decide))) rfl<|s1 (aa rfl) rfl ?_
 refine ah<|ae<|af<|ai<|s1 (aa rfl) rfl<|s1 (aa rfl) rfl<|s1 (g8 _ 13 rfl rfl rfl (by decide)) rfl<|s1 (aa rfl) rfl<|s1 (aa rfl) rfl<|s1 ((kT (ba 32) (ba 13) rfl rfl (by decide)).v (v':=a7 (ba 19)) (congrArg a7 (by decide))) rfl<|s1 (fE _ 19 rfl rfl rfl (by decide)) rfl<|s1 ((gZ _ _ rfl rfl).v (congrArg aJ (kP x 19))) rfl<|s1 (aa rfl) rfl ?_
 refine ah<|ae<|aE ?_
 refine aF (rs:= [.tmp 4]) rfl (aD rfl (aB)) rfl
theorem KS (x:BitVec 32):aA Tryz.prog 188 [aJ x,.i .i64 (-22)] (aN (aJ (fa x 22))):=by
 refine enter Tryz.func188 rfl Tryz.ntmps188 (by kernel_rfl) (Nat.le_of_ble_eq_true rfl) fun w0 X0 hI=>?_
 refine af<|ai<|s1 ((aa rfl).v (v':= .i .u32 0) rfl) rfl ?_
 refine ah<|ae<|af<|ai<|s1 (aa rfl) rfl<|s1 ((cV Tryz.underlying3 Tryz.underlying74 rfl).v (v':=a7 (ba 18446744073709551594)) (congrArg (A.i .u64) (by decide))) rfl<|s1 ((jK _ (ba 31) rfl rfl).v (v':=a7 (ba 10)) (congrArg a7 (by decide))) rfl<|s1 (aa rfl) rfl ?_
 refine ah<|ae<|af<|ai<|s1 (aa rfl) rfl<|s1 (aa rfl) rfl<|s1 (g8 _ 10 rfl rfl rfl (by decide)) rfl<|s1 (aa rfl) rfl<|s1 (aa rfl) rfl<|s1 ((kT (ba 32) (ba 10) rfl rfl (by decide)).v (v':=a7 (ba 22)) (congrArg a7 (by decide))) rfl<|s1 (fE _ 22 rfl rfl rfl (by decide)) rfl<|s1 ((gZ _ _ rfl rfl).v (congrArg aJ (kP x 22))) rfl<|s1 (aa rfl) rfl ?_
 refine ah<|ae<|aE ?_
 refine aF (rs:= [.tmp 4]) rfl (aD rfl (aB)) rfl
theorem KT (x:BitVec 32):aA Tryz.prog 188 [aJ x,.i .i64 (-25)] (aN (aJ (fa x 25))):=by
 refine enter Tryz.func188 rfl Tryz.ntmps188 (by kernel_rfl) (Nat.le_of_ble_eq_true rfl) fun w0 X0 hI=>?_
 refine af<|ai<|s1 ((aa rfl).v (v':= .i .u32 0) rfl) rfl ?_
 refine ah<|ae<|af<|ai<|s1 (aa rfl) rfl<|s1 ((cV Tryz.underlying3 Tryz.underlying74 rfl).v (v':=a7 (ba 18446744073709551591)) (congrArg (A.i .u64) (by decide))) rfl<|s1 ((jK _ (ba 31) rfl rfl).v (v':=a7 (ba 7)) (congrArg a7 (by decide))) rfl<|s1 (aa rfl) rfl ?_
 refine ah<|ae<|af<|ai<|s1 (aa rfl) rfl<|s1 (aa rfl) rfl<|s1 (g8 _ 7 rfl rfl rfl (by decide)) rfl<|s1 (aa rfl) rfl<|s1 (aa rfl) rfl<|s1 ((kT (ba 32) (ba 7) rfl rfl (by decide)).v (v':=a7 (ba 25)) (congrArg a7 (by decide))) rfl<|s1 (fE _ 25 rfl rfl rfl (by decide)) rfl<|s1 ((gZ _ _ rfl rfl).v (congrArg aJ (kP x 25))) rfl<|s1 (aa rfl) rfl ?_
 refine ah<|ae<|aE ?_
 refine aF (rs:= [.tmp 4]) rfl (aD rfl (aB)) rfl
theorem kO (x:BitVec 32) (n:Nat) (h:n≤32):aA Tryz.prog 205 [aJ x,.i .i64 (n:Int)] (aN (aJ (fa x n))):=by
 refine enter Tryz.func205 rfl Tryz.ntmps205 (by kernel_rfl) (Nat.le_of_ble_eq_true rfl) fun w0 X0 hI=>?_
 refine af<|ai<|s1 ((aa rfl).v (v':= .i .u32 0) rfl) rfl ?_
 refine ah<|ae<|af ?_
 refine dN 8 bx (by kernel_rfl) ?_
 refine t1 (aa rfl) rfl<|t1 (aa rfl) rfl<|t1 (fE _ n rfl rfl rfl h) rfl<|t1 (aa rfl) rfl<|t1 (aa rfl) rfl<|t1 (cQ 32 n rfl rfl rfl rfl h (by omega)) rfl<|t1 (g8 _ (32 - n) rfl rfl rfl (by omega)) rfl<|t1 ((gZ _ _ rfl rfl).v rfl) rfl ?_
 refine dO ?_
 refine s1 (aa rfl) rfl ?_
 refine ah<|ae<|aE ?_
 refine aF (rs:= [.tmp 4]) rfl (aD rfl (aB)) rfl
theorem Ms (b:List UInt8) (i:Nat) (h:i+4≤b.length):aA Tryz.prog 204 [.fz 4 (((b.map u8).drop (i*1)).take (4*1))] (aN (aJ (word b i))):=by
 refine enter Tryz.func204 rfl Tryz.ntmps204 (by kernel_rfl) (Nat.le_of_ble_eq_true rfl) fun w0 X0 hI=>?_
 refine af<|ai<|s1 ((aa rfl).v (v':= .i .u32 0) rfl) rfl ?_
 refine ah<|ae<|af ?_
 refine dN 22 bx (by kernel_rfl) ?_
 refine t1 (aa rfl) rfl<|t1 (aT 0 Tryz.underlying68 aQ rfl rfl rfl (by omega) rfl) rfl<|t1 (au aQ rfl rfl (sB b (i+0) (by omega) (k:=0) rfl (by omega) rfl)) rfl<|t1 (qo _ Tryz.underlying5 Tryz.underlying183 rfl) rfl<|t1 (g8 _ 24 rfl rfl rfl (by decide)) rfl<|t1 (aa rfl) rfl<|t1 (aT 1 Tryz.underlying68 aQ rfl rfl rfl (by omega) rfl) rfl<|t1 (au aQ rfl rfl (sB b (i+1) (by omega) (k:=1) rfl (by omega) rfl)) rfl<|t1 (qo _ Tryz.underlying5 Tryz.underlying183 rfl) rfl<|t1 (g8 _ 16 rfl rfl rfl (by decide)) rfl ?_
 refine t1 (gZ _ _ rfl rfl) rfl<|t1 (aa rfl) rfl<|t1 (aT 2 Tryz.underlying68 aQ rfl rfl rfl (by omega) rfl) rfl<|t1 (au aQ rfl rfl (sB b (i+2) (by omega) (k:=2) rfl (by omega) rfl)) rfl<|t1 (qo _ Tryz.underlying5 Tryz.underlying183 rfl) rfl<|t1 (g8 _ 8 rfl rfl rfl (by decide)) rfl<|t1 (gZ _ _ rfl rfl) rfl<|t1 (aa rfl) rfl<|t1 (aT 3 Tryz.underlying68 aQ rfl rfl rfl (by omega) rfl) rfl<|t1 (au aQ rfl rfl (sB b (i+3) (by omega) (k:=3) rfl (by omega) rfl)) rfl ?_
 refine t1 (qo _ Tryz.underlying5 Tryz.underlying183 rfl) rfl<|t1 (gZ _ _ rfl rfl) rfl ?_
 refine dO ?_
 refine s1 (aa rfl) rfl ?_
 refine ah<|ae<|aE ?_
 refine aF (rs:= [.tmp 2]) rfl (aD rfl (aB)) rfl
end Go.Abs.D2
-- D2C
namespace Go.Abs.D2
open Go Go.Eng Go.Abs Go.Proofs
theorem Je:aA Tryz.prog 206 [] (aN (.ag (l5.map aJ))):=by
 refine enter Tryz.func206 rfl Tryz.ntmps206 (by kernel_rfl) (Nat.le_of_ble_eq_true rfl) fun w0 X0 hI=>?_
 refine af<|ai ?_
 refine ak rfl (bp 0 rfl kU rfl rfl ?_)
 refine ah<|ae<|af<|ai<|s1 ((qO (vs:= [_,_,_,_,_,_,_,_,_,_,_,_,_,_,_,_,_,_,_,_,_,_,_,_,_,_,_,_,_,_,_,_,_,_,_,_,_,_,_,_,_,_,_,_,_,_,_,_,_,_,_,_,_,_,_,_,_,_,_,_,_,_,_,_]) kU rfl Tryz.underlying216 bo rfl rfl rfl rfl).v (v':= .ag (l5.map aJ)) (by kernel_rfl)) rfl ?_
 refine ak rfl (bb kU rfl rfl rfl (by first|rfl|omega|(simp<;>omega)|(simp [*]<;>omega)|(simp [aK.len, -List.length_flatten, *]<;>omega)) (by first|rfl|omega|(simp<;>omega)|(simp [*]<;>omega)|(simp [aK.len, -List.length_flatten, *]<;>omega)) ?_)
 refine ah<|ae<|aE ?_
 refine aF (rs:= [.cell 0 216]) rfl (bW kU rfl rfl (List.take_of_length_le (by simp [qa])) (by simp [qa]) aB) rfl
theorem Fq (s:S8) (b:List UInt8) (hb:b.length=64):aA Tryz.prog 174 [.ag (s.l.map aJ),.fz 64 (b.map u8)] (aN (.ag ((comp s b).l.map aJ))):=by
 refine enter Tryz.func174 rfl Tryz.ntmps174 (by kernel_rfl) (Nat.le_of_ble_eq_true rfl) fun w0 X0 hI=>?_
 refine af<|ai ?_
 refine ak rfl (bK 2 rfl rfl rfl ?_)
 refine ak rfl (bp 4 rfl lI rfl rfl ?_)
 refine ah<|ae<|af<|ai<|s1 ((nC kU rfl Tryz.underlying216 bo rfl).v (v':= .ag ((words b 0).map aJ++List.replicate (64 - 0) (aJ 0))) (by kernel_rfl)) rfl ?_
 refine ak rfl (bp 5 rfl kU rfl rfl ?_)
 refine ak rfl (bb kU rfl rfl rfl (by simp) (by simp) ?_)
 refine ah<|ae<|af<|af<|ai<|s1 ((aa rfl).v (v':= .i .i64 0) rfl) rfl ?_
 refine ah<|ae<|aM ?_
 refine bF (ι:=Nat) (fun i=> [(1,.fz 64 (b.map u8)),(2,.p 2 0),(4,.p 4 0),(5,.p 5 0),(6,.i .i64 (i:Nat))]) (fun i=>⟨[(2,some (s.l.map aJ)),(4,some (List.replicate 8 (aJ 0))),(5,some ((words b i).map aJ++List.replicate (64 - i) (aJ 0)))]⟩) (fun i=>i≤16) (fun i=>16 - i) ?_ ?_
 ·exact bE (0) (Nat.zero_le _) [(2,some 2),(4,some 4),(5,some 5)] hI rfl rfl ⟨⟨_,rfl,.pure pu⟩,⟨_,rfl,.p rfl⟩,⟨_,rfl,.p rfl⟩,⟨_,rfl,.p rfl⟩,⟨_,rfl,.pure pu⟩,trivial⟩ ⟨.inr ⟨_,_,rfl,rfl,.pure aq⟩,.inr ⟨_,_,rfl,rfl,.pure aq⟩,.inr ⟨_,_,rfl,rfl,.pure aq⟩,trivial⟩
 rintro i hi
 refine af<|af<|ai<|s1 (aa rfl) rfl<|s1 (aa rfl) rfl ?_
 refine ah<|ae ?_
 refine aO rfl (fun hc24=>?_) (fun hc24=>?_)
 ·have hi16 : i < 16 := by have := of_decide_eq_true hc24; omega
  refine aL<|ae<|af<|aM<|ai<|s1 (aa rfl) rfl<|s1 (aa rfl) rfl<|s1 (aa rfl) rfl<|s1 (gv 4 _ rfl rfl rfl rfl (by omega)) rfl<|s1 (aa rfl) rfl<|s1 (gv 4 _ rfl rfl rfl rfl (by omega)) rfl<|s1 (bc _ 4 rfl rfl rfl rfl (by omega)) rfl<|s1 (ij 4 Tryz.underlying68 aQ rfl (by simp [hb]) (bs rfl rfl) (bs rfl rfl) (by omega) (by omega) (by omega) rfl) rfl ?_
  refine ak rfl (aI false rfl (.cons (.pure pu) (.nil)) (Ms b (4*i) (by omega)) pu (.inl rfl) rfl ?_)
  refine s1 (bI i Tryz.underlying216 bo rfl rfl rfl (by omega) rfl) rfl ?_
  refine ak rfl (bZ bo rfl rfl rfl rfl (by first|rfl|omega|(simp<;>omega)|(simp [*]<;>omega)|(simp [aK.len, -List.length_flatten, *]<;>omega)) (Lu b i (by omega)) ?_)
  refine ah<|bh<|ae<|ai<|s1 (aa rfl) rfl<|s1 (bc _ 1 rfl rfl rfl rfl (by omega)) rfl<|s1 (aa rfl) rfl ?_
  refine ah ?_
  exact br (i+1) (by omega) (by omega) [(2,some 2),(4,some 4),(5,some 5)] hI rfl rfl ⟨⟨_,rfl,.pure pu⟩,⟨_,rfl,.p rfl⟩,⟨_,rfl,.p rfl⟩,⟨_,rfl,.p rfl⟩,⟨_,rfl,.pure pu⟩,trivial⟩ ⟨.inr ⟨_,_,rfl,rfl,.pure aq⟩,.inr ⟨_,_,rfl,rfl,.pure aq⟩,.inr ⟨_,_,rfl,rfl,.pure aq⟩,trivial⟩
 ·have hi16 : i = 16 := by have := of_decide_eq_false hc24; omega
  subst hi16
  refine bC<|aP<|aP<|bD<|ae<|af<|af<|ai<|s1 ((aa rfl).v (v':= .i .i64 16) rfl) rfl ?_
  refine ah<|ae<|aM ?_
  refine bF (ι:=Nat) (fun k=> [(2,.p 2 0),(4,.p 4 0),(5,.p 5 0),(7,.i .i64 ((16+k:Nat):Int))]) (fun k=>⟨[(2,some (s.l.map aJ)),(4,some (List.replicate 8 (aJ 0))),(5,some ((sched b k).map aJ++List.replicate (48 - k) (aJ 0)))]⟩) (fun k=>k≤48) (fun k=>48 - k) ?_ ?_
  ·skip
   refine cX 5 rfl (cs':=(sched b 0).map aJ++List.replicate (48 - 0) (aJ 0)) (by rw [xy]) ?_
   exact bE (0) (Nat.zero_le _) [(2,some 2),(4,some 4),(5,some 5)] hI rfl rfl ⟨⟨_,rfl,.p rfl⟩,⟨_,rfl,.p rfl⟩,⟨_,rfl,.p rfl⟩,⟨_,rfl,.pure pu⟩,trivial⟩ ⟨.inr ⟨_,_,rfl,rfl,.pure aq⟩,.inr ⟨_,_,rfl,rfl,.pure aq⟩,.inr ⟨_,_,rfl,rfl,.pure aq⟩,trivial⟩
  rintro k hk
  refine af<|af<|ai<|s1 (aa rfl) rfl<|s1 (aa rfl) rfl ?_
  refine ah<|ae ?_
  refine aO rfl (fun hc38=>?_) (fun hc38=>?_)
  ·have hk48 : k < 48 := by have := of_decide_eq_true hc38; omega
   refine aL<|ae<|af<|aM<|af<|ai<|s1 (aa rfl) rfl<|s1 (cQ (16+k) 15 rfl rfl rfl rfl (by omega) (by omega)) rfl<|s1 (bI (16+k - 15) Tryz.underlying216 bo rfl rfl rfl (by omega) rfl) rfl<|s1 (au bo rfl rfl (jT (16+k - 15) (by first|rfl|omega|(simp<;>omega)|(simp [*]<;>omega)|(simp [aK.len, -List.length_flatten, *]<;>omega)) rfl)) rfl<|s1 (aa rfl) rfl ?_
   refine ah<|ae<|af<|ai<|s1 (aa rfl) rfl<|s1 (cQ (16+k) 2 rfl rfl rfl rfl (by omega) (by omega)) rfl<|s1 (bI (16+k - 2) Tryz.underlying216 bo rfl rfl rfl (by omega) rfl) rfl<|s1 (au bo rfl rfl (jT (16+k - 2) (by first|rfl|omega|(simp<;>omega)|(simp [*]<;>omega)|(simp [aK.len, -List.length_flatten, *]<;>omega)) rfl)) rfl<|s1 (aa rfl) rfl ?_
   refine ah<|ae ?_
   refine bP ⟨_, [], []⟩ 29 4 bx (le_refl rfl) ?_
   refine aj 0 [] [] (aa rfl) rfl rfl<|aj 1 [] [] (aa rfl) rfl rfl<|aj 2 [1] [] (cQ (16+k) 16 rfl rfl rfl rfl (by omega) (by omega)) rfl rfl<|aj 3 [2] [(5,none)] (bI (16+k - 16) Tryz.underlying216 bo rfl rfl rfl (by omega) rfl) rfl rfl<|aj 4 [3] [(5,none)] (au bo rfl rfl (jT (16+k - 16) (by first|rfl|omega|(simp<;>omega)|(simp [*]<;>omega)|(simp [aK.len, -List.length_flatten, *]<;>omega)) rfl)) rfl rfl<|aj 5 [] [] (aa rfl) rfl rfl<|bL false 6 [5] [] aW rfl (.cons (.pure pu) (.cons (.pure pu) (.nil))) (kO _ 7 (by decide)) pu (.inl rfl) rfl rfl<|aj 7 [] [] (aa rfl) rfl rfl<|bL false 8 [7] [] aW rfl (.cons (.pure pu) (.cons (.pure pu) (.nil))) (kO _ 18 (by decide)) pu (.inl rfl) rfl rfl<|aj 9 [6,8] [] (fc _ _ rfl rfl) rfl rfl ?_
   refine aj 10 [] [] (aa rfl) rfl rfl<|aj 11 [10] [] (fE _ 3 rfl rfl rfl (by decide)) rfl rfl<|aj 12 [9,11] [] (fc _ _ rfl rfl) rfl rfl<|aj 13 [4,12] [] (dF _ _ rfl rfl) rfl rfl<|aj 14 [] [] (aa rfl) rfl rfl<|aj 15 [14] [] (cQ (16+k) 7 rfl rfl rfl rfl (by omega) (by omega)) rfl rfl<|aj 16 [15] [(5,none)] (bI (16+k - 7) Tryz.underlying216 bo rfl rfl rfl (by omega) rfl) rfl rfl<|aj 17 [16] [(5,none)] (au bo rfl rfl (jT (16+k - 7) (by first|rfl|omega|(simp<;>omega)|(simp [*]<;>omega)|(simp [aK.len, -List.length_flatten, *]<;>omega)) rfl)) rfl rfl<|aj 18 [13,17] [] (dF _ _ rfl rfl) rfl rfl<|aj 19 [] [] (aa rfl) rfl rfl ?_
   refine bL false 20 [19] [] aW rfl (.cons (.pure pu) (.cons (.pure pu) (.nil))) (kO _ 17 (by decide)) pu (.inl rfl) rfl rfl<|aj 21 [] [] (aa rfl) rfl rfl<|bL false 22 [21] [] aW rfl (.cons (.pure pu) (.cons (.pure pu) (.nil))) (kO _ 19 (by decide)) pu (.inl rfl) rfl rfl<|aj 23 [20,22] [] (fc _ _ rfl rfl) rfl rfl<|aj 24 [] [] (aa rfl) rfl rfl<|aj 25 [24] [] (fE _ 10 rfl rfl rfl (by decide)) rfl rfl<|aj 26 [23,25] [] (fc _ _ rfl rfl) rfl rfl<|aj 27 [18,26] [] (dF _ _ rfl rfl) rfl rfl<|aj 28 [0] [(5,none)] (bI (16+k) Tryz.underlying216 bo rfl rfl rfl (by omega) rfl) rfl rfl<|bQ (by kernel_rfl) ?_
   refine ak rfl (bZ bo rfl rfl rfl rfl (by first|rfl|omega|(simp<;>omega)|(simp [*]<;>omega)|(simp [aK.len, -List.length_flatten, *]<;>omega)) (Dq b k _ (by omega) rfl) ?_)
   refine ah<|bh<|ae<|ai<|s1 (aa rfl) rfl<|s1 (bc _ 1 rfl rfl rfl rfl (by omega)) rfl<|s1 (aa rfl) rfl ?_
   refine ah ?_
   exact br (k+1) (by omega) (by omega) [(2,some 2),(4,some 4),(5,some 5)] hI rfl rfl ⟨⟨_,rfl,.p rfl⟩,⟨_,rfl,.p rfl⟩,⟨_,rfl,.p rfl⟩,⟨_,rfl,.pure pu⟩,trivial⟩ ⟨.inr ⟨_,_,rfl,rfl,.pure aq⟩,.inr ⟨_,_,rfl,rfl,.pure aq⟩,.inr ⟨_,_,rfl,rfl,.pure aq⟩,trivial⟩
  ·have hk48 : k = 48 := by have := of_decide_eq_false hc38; omega
   subst hk48
   refine bC<|aP<|aP<|bD<|ae<|af<|ai ?_
   refine ak rfl (aI false rfl (.nil) (Je) pu (.inl rfl) rfl ?_)
   refine ak rfl (bp 10 rfl kU rfl rfl ?_)
   refine ak rfl (bb kU rfl rfl rfl (by simp [qa]) (by simp) ?_)
   refine ah<|ae<|af ?_
   refine dN 23 bx (by kernel_rfl) ?_
   refine t1 (bI 0 Tryz.underlying184 bo rfl rfl rfl (by omega) rfl) rfl<|t1 (au bo rfl rfl rfl) rfl<|t1 (bI 1 Tryz.underlying184 bo rfl rfl rfl (by omega) rfl) rfl<|t1 (au bo rfl rfl rfl) rfl<|t1 (bI 2 Tryz.underlying184 bo rfl rfl rfl (by omega) rfl) rfl<|t1 (au bo rfl rfl rfl) rfl<|t1 (bI 3 Tryz.underlying184 bo rfl rfl rfl (by omega) rfl) rfl<|t1 (au bo rfl rfl rfl) rfl<|t1 (bI 4 Tryz.underlying184 bo rfl rfl rfl (by omega) rfl) rfl<|t1 (au bo rfl rfl rfl) rfl ?_
   refine t1 (bI 5 Tryz.underlying184 bo rfl rfl rfl (by omega) rfl) rfl<|t1 (au bo rfl rfl rfl) rfl<|t1 (bI 6 Tryz.underlying184 bo rfl rfl rfl (by omega) rfl) rfl<|t1 (au bo rfl rfl rfl) rfl<|t1 (bI 7 Tryz.underlying184 bo rfl rfl rfl (by omega) rfl) rfl<|t1 (au bo rfl rfl rfl) rfl<|t1 (aa rfl) rfl<|t1 (aa rfl) rfl<|t1 (aa rfl) rfl<|t1 (aa rfl) rfl ?_
   refine t1 (aa rfl) rfl<|t1 (aa rfl) rfl<|t1 (aa rfl) rfl ?_
   refine dO ?_
   refine s1 (aa rfl) rfl ?_
   refine ah<|ae<|af<|af<|ai<|s1 ((aa rfl).v (v':= .i .i64 0) rfl) rfl ?_
   refine ah<|ae<|aM ?_
   refine bF (ι:=Nat) (fun t=> [(2,.p 2 0),(4,.p 4 0),(5,.p 5 0),(10,.p 10 0),(19,.i .i64 (t:Nat)),(11,aJ (rounds (sched b 48) s t).a),(12,aJ (rounds (sched b 48) s t).b),(13,aJ (rounds (sched b 48) s t).c),(14,aJ (rounds (sched b 48) s t).d),(15,aJ (rounds (sched b 48) s t).e),(16,aJ (rounds (sched b 48) s t).f),(17,aJ (rounds (sched b 48) s t).g),(18,aJ (rounds (sched b 48) s t).h)]) (fun t=>⟨[(2,some (s.l.map aJ)),(4,some (List.replicate 8 (aJ 0))),(5,some ((sched b 48).map aJ++List.replicate (48 - 48) (aJ 0))),(10,some (l5.map aJ))]⟩) (fun t=>t≤64) (fun t=>64 - t) ?_ ?_
   ·exact bE (0) (Nat.zero_le _) [(2,some 2),(4,some 4),(5,some 5),(10,some 10)] hI rfl rfl ⟨⟨_,rfl,.p rfl⟩,⟨_,rfl,.p rfl⟩,⟨_,rfl,.p rfl⟩,⟨_,rfl,.p rfl⟩,⟨_,rfl,.pure pu⟩,⟨_,rfl,.pure pu⟩,⟨_,rfl,.pure pu⟩,⟨_,rfl,.pure pu⟩,⟨_,rfl,.pure pu⟩,⟨_,rfl,.pure pu⟩,⟨_,rfl,.pure pu⟩,⟨_,rfl,.pure pu⟩,⟨_,rfl,.pure pu⟩,trivial⟩ ⟨.inr ⟨_,_,rfl,rfl,.pure aq⟩,.inr ⟨_,_,rfl,rfl,.pure aq⟩,.inr ⟨_,_,rfl,rfl,.pure aq⟩,.inr ⟨_,_,rfl,rfl,.pure aq⟩,trivial⟩
   rintro t ht
   refine af<|af<|ai<|s1 (aa rfl) rfl<|s1 (aa rfl) rfl ?_
   refine ah<|ae ?_
   refine aO rfl (fun hc96=>?_) (fun hc96=>?_)
   ·have ht64 : t < 64 := by have := of_decide_eq_true hc96; omega
    refine aL<|ae<|af<|aM<|af ?_
    refine bP ⟨_, [], []⟩ 27 4 bx (le_refl rfl) ?_
    refine aj 0 [] [] (aa rfl) rfl rfl<|aj 1 [] [] (aa rfl) rfl rfl<|bL false 2 [1] [] aW rfl (.cons (.pure pu) (.cons (.pure pu) (.nil))) (kO _ 6 (by decide)) pu (.inl rfl) rfl rfl<|aj 3 [] [] (aa rfl) rfl rfl<|bL false 4 [3] [] aW rfl (.cons (.pure pu) (.cons (.pure pu) (.nil))) (kO _ 11 (by decide)) pu (.inl rfl) rfl rfl<|aj 5 [2,4] [] (fc _ _ rfl rfl) rfl rfl<|aj 6 [] [] (aa rfl) rfl rfl<|bL false 7 [6] [] aW rfl (.cons (.pure pu) (.cons (.pure pu) (.nil))) (kO _ 25 (by decide)) pu (.inl rfl) rfl rfl<|aj 8 [5,7] [] (fc _ _ rfl rfl) rfl rfl<|aj 9 [0,8] [] (dF _ _ rfl rfl) rfl rfl ?_
    refine aj 10 [] [] (aa rfl) rfl rfl<|aj 11 [] [] (aa rfl) rfl rfl<|aj 12 [10,11] [] (kA _ _ rfl rfl) rfl rfl<|aj 13 [] [] (aa rfl) rfl rfl<|aj 14 [13] [] (B9 _ rfl) rfl rfl<|aj 15 [] [] (aa rfl) rfl rfl<|aj 16 [14,15] [] (kA _ _ rfl rfl) rfl rfl<|aj 17 [12,16] [] (fc _ _ rfl rfl) rfl rfl<|aj 18 [9,17] [] (dF _ _ rfl rfl) rfl rfl<|aj 19 [] [] (aa rfl) rfl rfl ?_
    refine aj 20 [19] [(10,none)] (bI t Tryz.underlying216 bo rfl rfl rfl (by omega) rfl) rfl rfl<|aj 21 [20] [(10,none)] (au bo rfl rfl (ot t (by first|(simp [qa];done)|(simp [qa];omega)) rfl)) rfl rfl<|aj 22 [18,21] [] (dF _ _ rfl rfl) rfl rfl<|aj 23 [] [] (aa rfl) rfl rfl<|aj 24 [23] [(5,none)] (bI t Tryz.underlying216 bo rfl rfl rfl (by omega) rfl) rfl rfl<|aj 25 [24] [(5,none)] (au bo rfl rfl (jT t (by first|rfl|omega|(simp<;>omega)|(simp [*]<;>omega)|(simp [aK.len, -List.length_flatten, *]<;>omega)) rfl)) rfl rfl<|aj 26 [22,25] [] (dF _ _ rfl rfl) rfl rfl<|bQ (by kernel_rfl) ?_
    refine s1 (aa rfl) rfl ?_
    refine ah<|ae<|af<|ai<|s1 (aa rfl) rfl ?_
    refine ak rfl (aI false rfl (.cons (.pure pu) (.cons (.pure pu) (.nil))) (kO _ 2 (by decide)) pu (.inl rfl) rfl ?_)
    refine s1 (aa rfl) rfl ?_
    refine ak rfl (aI false rfl (.cons (.pure pu) (.cons (.pure pu) (.nil))) (kO _ 13 (by decide)) pu (.inl rfl) rfl ?_)
    refine s1 (fc _ _ rfl rfl) rfl<|s1 (aa rfl) rfl ?_
    refine ak rfl (aI false rfl (.cons (.pure pu) (.cons (.pure pu) (.nil))) (kO _ 22 (by decide)) pu (.inl rfl) rfl ?_)
    refine s1 (fc _ _ rfl rfl) rfl<|s1 (aa rfl) rfl<|s1 (aa rfl) rfl<|s1 (kA _ _ rfl rfl) rfl<|s1 (aa rfl) rfl<|s1 (aa rfl) rfl<|s1 (kA _ _ rfl rfl) rfl<|s1 (fc _ _ rfl rfl) rfl<|s1 (aa rfl) rfl<|s1 (aa rfl) rfl ?_
    refine s1 (kA _ _ rfl rfl) rfl<|s1 (fc _ _ rfl rfl) rfl<|s1 (dF _ _ rfl rfl) rfl<|s1 (aa rfl) rfl ?_
    refine ah<|ae<|ai<|s1 (aa rfl) rfl<|s1 (aa rfl) rfl<|s1 (aa rfl) rfl<|s1 (aa rfl) rfl<|s1 (aa rfl) rfl<|s1 (dF _ _ rfl rfl) rfl<|s1 (aa rfl) rfl<|s1 (aa rfl) rfl<|s1 (aa rfl) rfl<|s1 (aa rfl) rfl ?_
    refine s1 (aa rfl) rfl<|s1 (dF _ _ rfl rfl) rfl<|s1 (aa rfl) rfl<|s1 (aa rfl) rfl<|s1 (aa rfl) rfl<|s1 (aa rfl) rfl<|s1 (aa rfl) rfl<|s1 (aa rfl) rfl<|s1 (aa rfl) rfl<|s1 (aa rfl) rfl ?_
    refine ah<|bh<|ae<|ai<|s1 (aa rfl) rfl<|s1 (bc _ 1 rfl rfl rfl rfl (by omega)) rfl<|s1 (aa rfl) rfl ?_
    refine ah ?_
    exact br (t+1) (by omega) (by omega) [(2,some 2),(4,some 4),(5,some 5),(10,some 10)] hI rfl rfl ⟨⟨_,rfl,.p rfl⟩,⟨_,rfl,.p rfl⟩,⟨_,rfl,.p rfl⟩,⟨_,rfl,.p rfl⟩,⟨_,rfl,.pure pu⟩,⟨_,rfl,.pure pu⟩,⟨_,rfl,.pure pu⟩,⟨_,rfl,.pure pu⟩,⟨_,rfl,.pure pu⟩,⟨_,rfl,.pure pu⟩,⟨_,rfl,.pure pu⟩,⟨_,rfl,.pure pu⟩,⟨_,rfl,.pure pu⟩,trivial⟩ ⟨.inr ⟨_,_,rfl,rfl,.pure aq⟩,.inr ⟨_,_,rfl,rfl,.pure aq⟩,.inr ⟨_,_,rfl,rfl,.pure aq⟩,.inr ⟨_,_,rfl,rfl,.pure aq⟩,trivial⟩
   ·have ht64 : t = 64 := by have := of_decide_eq_false hc96; omega
    subst ht64
    refine bC<|aP<|aP<|bD<|ae<|af<|ai<|s1 (bI 0 Tryz.underlying184 bo rfl rfl rfl (by omega) rfl) rfl<|s1 (au bo rfl rfl rfl) rfl<|s1 (aa rfl) rfl<|s1 (dF _ _ rfl rfl) rfl<|s1 (bI 1 Tryz.underlying184 bo rfl rfl rfl (by omega) rfl) rfl<|s1 (au bo rfl rfl rfl) rfl<|s1 (aa rfl) rfl<|s1 (dF _ _ rfl rfl) rfl<|s1 (bI 2 Tryz.underlying184 bo rfl rfl rfl (by omega) rfl) rfl<|s1 (au bo rfl rfl rfl) rfl ?_
    refine s1 (aa rfl) rfl<|s1 (dF _ _ rfl rfl) rfl<|s1 (bI 3 Tryz.underlying184 bo rfl rfl rfl (by omega) rfl) rfl<|s1 (au bo rfl rfl rfl) rfl<|s1 (aa rfl) rfl<|s1 (dF _ _ rfl rfl) rfl<|s1 (bI 4 Tryz.underlying184 bo rfl rfl rfl (by omega) rfl) rfl<|s1 (au bo rfl rfl rfl) rfl<|s1 (aa rfl) rfl<|s1 (dF _ _ rfl rfl) rfl ?_
    refine s1 (bI 5 Tryz.underlying184 bo rfl rfl rfl (by omega) rfl) rfl<|s1 (au bo rfl rfl rfl) rfl<|s1 (aa rfl) rfl<|s1 (dF _ _ rfl rfl) rfl<|s1 (bI 6 Tryz.underlying184 bo rfl rfl rfl (by omega) rfl) rfl<|s1 (au bo rfl rfl rfl) rfl<|s1 (aa rfl) rfl<|s1 (dF _ _ rfl rfl) rfl<|s1 (bI 7 Tryz.underlying184 bo rfl rfl rfl (by omega) rfl) rfl<|s1 (au bo rfl rfl rfl) rfl ?_
    refine s1 (aa rfl) rfl<|s1 (dF _ _ rfl rfl) rfl<|s1 (qO (vs:= [_,_,_,_,_,_,_,_]) lI rfl Tryz.underlying184 bo rfl rfl rfl rfl) rfl ?_
    refine ak rfl (bb lI rfl rfl rfl (by simp) (by simp) ?_)
    refine ah<|ae<|aE ?_
    refine aF (rs:= [.cell 4 184]) rfl (bW lI rfl rfl rfl (by simp) aB) rfl
end Go.Abs.D2
-- D2E
namespace Go.Abs.D2
open Go Go.Eng Go.Abs Go.Proofs
theorem rr (s:S8) (b:List UInt8) (hb:b.length=64):cH Tryz.prog 148 [.p 3 0,.fz 64 (b.map u8)] ⟨[(3,some (s.l.map aJ))]⟩ (gP (.tu []) [(3,(comp s b).l.map aJ)]):=by
 refine pQ Tryz.func148 rfl Tryz.ntmps148 (by kernel_rfl) (Nat.le_of_ble_eq_true rfl) fun w0 X0 hI=>?_
 refine af<|ai ?_
 refine ak rfl (bp 4 rfl kU rfl rfl ?_)
 refine ah<|ae<|af<|af<|ai<|s1 ((aa rfl).v (v':= .i .i64 0) rfl) rfl ?_
 refine ah<|ae<|aM ?_
 refine bF (ι:=Nat) (fun i=> [(0,.p 3 0),(1,.fz 64 (b.map u8)),(4,.p 4 0),(23,.i .i64 (i:Nat))]) (fun i=>⟨[(3,some (s.l.map aJ)),(4,some ((words b i).map aJ++List.replicate (64 - i) (aJ 0)))]⟩) (fun i=>i≤16) (fun i=>16 - i) ?_ ?_
 ·exact bE (0) (Nat.zero_le _) [(3,some 3),(4,some 4)] hI rfl rfl ⟨⟨_,rfl,.p rfl⟩,⟨_,rfl,.pure pu⟩,⟨_,rfl,.p rfl⟩,⟨_,rfl,.pure pu⟩,trivial⟩ ⟨.inr ⟨_,_,rfl,rfl,.pure aq⟩,.inr ⟨_,_,rfl,rfl,.of (by rfl) (.pure aq)⟩,trivial⟩
 rintro i hi
 refine af<|ai<|s1 (aa rfl) rfl ?_
 refine ah<|ae<|af ?_
 refine aO rfl (fun hc24=>?_) (fun hc24=>?_)
 ·have hi16 : i < 16 := by have := of_decide_eq_true hc24; omega
  refine aL<|ae<|af<|aM<|af<|ai<|s1 (aa rfl) rfl<|s1 (aa rfl) rfl ?_
  refine ah<|ae<|af<|ai<|s1 ((aa rfl).v (v':= .i .i64 0) rfl) rfl ?_
  refine ah<|ae<|aM ?_
  refine bF (ι:=Nat) (fun j=> [(0,.p 3 0),(1,.fz 64 (b.map u8)),(4,.p 4 0),(5,.i .i64 (i:Nat)),(23,.i .i64 (i:Nat)),(26,.i .i64 (j:Nat))]) (fun j=>⟨[(3,some (s.l.map aJ)),(4,some ((words b i).map aJ++ [aJ (iX b (4*i) j)]++List.replicate (63 - i) (aJ 0)))]⟩) (fun j=>j≤4) (fun j=>4 - j) ?_ ?_
  ·skip
   refine cX 4 rfl (JL b i (by omega)) ?_
   exact bE (0) (Nat.zero_le _) [(3,some 3),(4,some 4)] hI rfl rfl ⟨⟨_,rfl,.p rfl⟩,⟨_,rfl,.pure pu⟩,⟨_,rfl,.p rfl⟩,⟨_,rfl,.pure pu⟩,⟨_,rfl,.pure pu⟩,⟨_,rfl,.pure pu⟩,trivial⟩ ⟨.inr ⟨_,_,rfl,rfl,.pure aq⟩,.inr ⟨_,_,rfl,rfl,.pure aq⟩,trivial⟩
  rintro j hj
  refine af<|ai<|s1 (aa rfl) rfl ?_
  refine ah<|ae<|af ?_
  refine aO rfl (fun hc27=>?_) (fun hc27=>?_)
  ·have hj4 : j < 4 := by have := of_decide_eq_true hc27; omega
   refine aL<|ae<|af<|aM<|af<|ai<|s1 (aa rfl) rfl<|s1 (aa rfl) rfl ?_
   refine ah<|ae ?_
   refine dN 15 bx (by kernel_rfl) ?_
   refine t1 (aa rfl) rfl<|t1 (aa rfl) rfl<|t1 (bI i Tryz.underlying216 bo rfl rfl rfl (by omega) rfl) rfl<|t1 (au bo rfl rfl (HE b i j)) rfl<|t1 (g8 _ 8 rfl rfl rfl (by decide)) rfl<|t1 (aa rfl) rfl<|t1 (aa rfl) rfl<|t1 (gv 4 i rfl rfl rfl rfl (by omega)) rfl<|t1 (aa rfl) rfl<|t1 (bc (4*i) j rfl rfl rfl rfl (by omega)) rfl ?_
   refine t1 (aT (4*i+j) Tryz.underlying68 aQ rfl rfl rfl (by omega) rfl) rfl<|t1 (au aQ rfl rfl (Hv (4*i+j) (by omega) rfl)) rfl<|t1 (qo _ Tryz.underlying5 Tryz.underlying183 rfl) rfl<|t1 ((gZ _ _ rfl rfl).v (v':=aJ (iX b (4*i) (j+1))) rfl) rfl<|t1 (bI i Tryz.underlying216 bo rfl rfl rfl (by omega) rfl) rfl ?_
   refine dO ?_
   refine ak rfl (bZ bo rfl rfl rfl rfl (by simp only [List.length_append,List.length_map,List.length_replicate,List.length_cons,List.length_nil,len_words];omega) (Lo b i j) ?_)
   refine ah<|bh<|ae<|ai<|s1 (bc _ 1 rfl rfl rfl rfl (by omega)) rfl<|s1 (aa rfl) rfl ?_
   refine ah ?_
   exact br (j+1) (by omega) (by omega) [(3,some 3),(4,some 4)] hI rfl rfl ⟨⟨_,rfl,.p rfl⟩,⟨_,rfl,.pure pu⟩,⟨_,rfl,.p rfl⟩,⟨_,rfl,.pure pu⟩,⟨_,rfl,.pure pu⟩,⟨_,rfl,.pure pu⟩,trivial⟩ ⟨.inr ⟨_,_,rfl,rfl,.pure aq⟩,.inr ⟨_,_,rfl,rfl,.pure aq⟩,trivial⟩
  ·have hj4 : j = 4 := by have := of_decide_eq_false hc27; omega
   subst hj4
   refine bC<|aP<|aP<|bD<|bh<|ae<|ai<|s1 (bc _ 1 rfl rfl rfl rfl (by omega)) rfl<|s1 (aa rfl) rfl ?_
   refine ah ?_
   exact br (i+1) (by omega) (by omega) [(3,some 3),(4,some 4)] hI rfl rfl ⟨⟨_,rfl,.p rfl⟩,⟨_,rfl,.pure pu⟩,⟨_,rfl,.p rfl⟩,⟨_,rfl,.pure pu⟩,trivial⟩ ⟨.inr ⟨_,_,rfl,rfl,.pure aq⟩,.inr ⟨_,_,rfl,rfl,.of (JM b i (by omega)) (.pure aq)⟩,trivial⟩
 ·have hi16 : i = 16 := by have := of_decide_eq_false hc24; omega
  subst hi16
  refine bC<|aP<|aP<|bD<|ae<|af<|af<|ai<|s1 ((aa rfl).v (v':= .i .i64 16) rfl) rfl ?_
  refine ah<|ae<|aM ?_
  refine bF (ι:=Nat) (fun k=> [(0,.p 3 0),(1,.fz 64 (b.map u8)),(4,.p 4 0),(7,.i .i64 ((16+k:Nat):Int))]) (fun k=>⟨[(3,some (s.l.map aJ)),(4,some ((sched b k).map aJ++List.replicate (48 - k) (aJ 0)))]⟩) (fun k=>k≤48) (fun k=>48 - k) ?_ ?_
  ·skip
   refine cX 4 rfl (cs':=(sched b 0).map aJ++List.replicate (48 - 0) (aJ 0)) (by rw [xy]) ?_
   exact bE (0) (Nat.zero_le _) [(3,some 3),(4,some 4)] hI rfl rfl ⟨⟨_,rfl,.p rfl⟩,⟨_,rfl,.pure pu⟩,⟨_,rfl,.p rfl⟩,⟨_,rfl,.pure pu⟩,trivial⟩ ⟨.inr ⟨_,_,rfl,rfl,.pure aq⟩,.inr ⟨_,_,rfl,rfl,.pure aq⟩,trivial⟩
  rintro k hk
  refine af<|af<|ai<|s1 (aa rfl) rfl<|s1 (aa rfl) rfl ?_
  refine ah<|ae ?_
  refine aO rfl (fun hc47=>?_) (fun hc47=>?_)
  ·have hk48 : k < 48 := by have := of_decide_eq_true hc47; omega
   refine aL<|ae<|af<|aM<|af ?_
   refine dN 9 bx (by kernel_rfl) ?_
   refine t1 (aa rfl) rfl<|t1 (cQ (16+k) 15 rfl rfl rfl rfl (by omega) (by omega)) rfl<|t1 (bI (16+k - 15) Tryz.underlying216 bo rfl rfl rfl (by omega) rfl) rfl<|t1 (au bo rfl rfl (jT (16+k - 15) (by first|rfl|omega|(simp<;>omega)|(simp [*]<;>omega)|(simp [aK.len, -List.length_flatten, *]<;>omega)) rfl)) rfl<|t1 (aa rfl) rfl<|t1 (cQ (16+k) 2 rfl rfl rfl rfl (by omega) (by omega)) rfl<|t1 (bI (16+k - 2) Tryz.underlying216 bo rfl rfl rfl (by omega) rfl) rfl<|t1 (au bo rfl rfl (jT (16+k - 2) (by first|rfl|omega|(simp<;>omega)|(simp [*]<;>omega)|(simp [aK.len, -List.length_flatten, *]<;>omega)) rfl)) rfl<|t1 (aa rfl) rfl ?_
   refine dO ?_
   refine s1 (aa rfl) rfl ?_
   refine ah<|ae<|af<|ai<|s1 (aa rfl) rfl ?_
   refine ak rfl (aI false rfl (.cons (.pure pu) (.cons (.pure pu) (.nil))) (KV _) pu (.inl rfl) rfl ?_)
   refine s1 (aa rfl) rfl ?_
   refine ak rfl (aI false rfl (.cons (.pure pu) (.cons (.pure pu) (.nil))) (KP _) pu (.inl rfl) rfl ?_)
   refine s1 (fc _ _ rfl rfl) rfl<|s1 (aa rfl) rfl<|s1 (fE _ 3 rfl rfl rfl (by decide)) rfl<|s1 (fc _ _ rfl rfl) rfl<|s1 (aa rfl) rfl ?_
   refine ah<|ae<|af<|ai<|s1 (aa rfl) rfl ?_
   refine ak rfl (aI false rfl (.cons (.pure pu) (.cons (.pure pu) (.nil))) (KO _) pu (.inl rfl) rfl ?_)
   refine s1 (aa rfl) rfl ?_
   refine ak rfl (aI false rfl (.cons (.pure pu) (.cons (.pure pu) (.nil))) (KQ _) pu (.inl rfl) rfl ?_)
   refine s1 (fc _ _ rfl rfl) rfl<|s1 (aa rfl) rfl<|s1 (fE _ 10 rfl rfl rfl (by decide)) rfl<|s1 (fc _ _ rfl rfl) rfl<|s1 (aa rfl) rfl ?_
   refine ah<|ae ?_
   refine dN 15 bx (by kernel_rfl) ?_
   refine t1 (aa rfl) rfl<|t1 (aa rfl) rfl<|t1 (cQ (16+k) 16 rfl rfl rfl rfl (by omega) (by omega)) rfl<|t1 (bI (16+k - 16) Tryz.underlying216 bo rfl rfl rfl (by omega) rfl) rfl<|t1 (au bo rfl rfl (jT (16+k - 16) (by first|rfl|omega|(simp<;>omega)|(simp [*]<;>omega)|(simp [aK.len, -List.length_flatten, *]<;>omega)) rfl)) rfl<|t1 (aa rfl) rfl<|t1 (dF _ _ rfl rfl) rfl<|t1 (aa rfl) rfl<|t1 (cQ (16+k) 7 rfl rfl rfl rfl (by omega) (by omega)) rfl<|t1 (bI (16+k - 7) Tryz.underlying216 bo rfl rfl rfl (by omega) rfl) rfl ?_
   refine t1 (au bo rfl rfl (jT (16+k - 7) (by first|rfl|omega|(simp<;>omega)|(simp [*]<;>omega)|(simp [aK.len, -List.length_flatten, *]<;>omega)) rfl)) rfl<|t1 (dF _ _ rfl rfl) rfl<|t1 (aa rfl) rfl<|t1 (dF _ _ rfl rfl) rfl<|t1 (bI (16+k) Tryz.underlying216 bo rfl rfl rfl (by omega) rfl) rfl ?_
   refine dO ?_
   refine ak rfl (bZ bo rfl rfl rfl rfl (by first|rfl|omega|(simp<;>omega)|(simp [*]<;>omega)|(simp [aK.len, -List.length_flatten, *]<;>omega)) (Dq b k _ (by omega) rfl) ?_)
   refine ah<|bh<|ae<|ai<|s1 (aa rfl) rfl<|s1 (bc _ 1 rfl rfl rfl rfl (by omega)) rfl<|s1 (aa rfl) rfl ?_
   refine ah ?_
   exact br (k+1) (by omega) (by omega) [(3,some 3),(4,some 4)] hI rfl rfl ⟨⟨_,rfl,.p rfl⟩,⟨_,rfl,.pure pu⟩,⟨_,rfl,.p rfl⟩,⟨_,rfl,.pure pu⟩,trivial⟩ ⟨.inr ⟨_,_,rfl,rfl,.pure aq⟩,.inr ⟨_,_,rfl,rfl,.pure aq⟩,trivial⟩
  ·have hk48 : k = 48 := by have := of_decide_eq_false hc47; omega
   subst hk48
   refine bC<|aP<|aP<|bD<|ae<|af<|ai<|s1 (aa rfl) rfl<|s1 (qQ rfl rfl) rfl<|s1 (aV mA rfl rfl (by first|rfl|omega|(simp<;>omega)|(simp [*]<;>omega)|(simp [aK.len, -List.length_flatten, *]<;>omega))) rfl ?_
   refine ak rfl (bp 12 rfl mA rfl rfl ?_)
   refine ak rfl (bb mA rfl rfl rfl (by simp) (by simp) ?_)
   refine ah<|ae<|af<|af<|ai<|s1 ((aa rfl).v (v':= .i .i64 0) rfl) rfl ?_
   refine ah<|ae<|aM ?_
   refine bF (ι:=Nat) (fun t=> [(0,.p 3 0),(4,.p 4 0),(12,.p 12 0),(92,.i .i64 (t:Nat))]) (fun t=>⟨[(3,some (s.l.map aJ)),(4,some ((sched b 48).map aJ)),(12,some ((rounds (sched b 48) s t).l.map aJ))]⟩) (fun t=>t≤64) (fun t=>64 - t) ?_ ?_
   ·skip
    refine cX 4 rfl (cs':=(sched b 48).map aJ) (by simp) ?_
    exact bE (0) (Nat.zero_le _) [(3,some 3),(4,some 4),(12,some 12)] hI rfl rfl ⟨⟨_,rfl,.p rfl⟩,⟨_,rfl,.p rfl⟩,⟨_,rfl,.p rfl⟩,⟨_,rfl,.pure pu⟩,trivial⟩ ⟨.inr ⟨_,_,rfl,rfl,.pure aq⟩,.inr ⟨_,_,rfl,rfl,.pure aq⟩,.inr ⟨_,_,rfl,rfl,.pure aq⟩,trivial⟩
   rintro t ht
   refine af<|ai<|s1 (aa rfl) rfl ?_
   refine ah<|ae<|af ?_
   refine aO rfl (fun hc93=>?_) (fun hc93=>?_)
   ·have ht64 : t < 64 := by have := of_decide_eq_true hc93; omega
    refine aL<|ae<|af<|aM<|af<|ai<|s1 (aa rfl) rfl<|s1 (aa rfl) rfl ?_
    refine ah<|ae<|af ?_
    refine dN 11 bx (by kernel_rfl) ?_
    refine t1 (bI 0 Tryz.underlying185 bo rfl rfl rfl (by omega) rfl) rfl<|t1 (au bo rfl rfl rfl) rfl<|t1 (bI 1 Tryz.underlying185 bo rfl rfl rfl (by omega) rfl) rfl<|t1 (au bo rfl rfl rfl) rfl<|t1 (bI 2 Tryz.underlying185 bo rfl rfl rfl (by omega) rfl) rfl<|t1 (au bo rfl rfl rfl) rfl<|t1 (bI 4 Tryz.underlying185 bo rfl rfl rfl (by omega) rfl) rfl<|t1 (au bo rfl rfl rfl) rfl<|t1 (aa rfl) rfl<|t1 (aa rfl) rfl ?_
    refine t1 (aa rfl) rfl ?_
    refine dO ?_
    refine s1 (aa rfl) rfl ?_
    refine ah<|ae<|af<|ai<|s1 (aa rfl) rfl ?_
    refine ak rfl (aI false rfl (.cons (.pure pu) (.cons (.pure pu) (.nil))) (KU _) pu (.inl rfl) rfl ?_)
    refine s1 (aa rfl) rfl ?_
    refine ak rfl (aI false rfl (.cons (.pure pu) (.cons (.pure pu) (.nil))) (KM _) pu (.inl rfl) rfl ?_)
    refine s1 (fc _ _ rfl rfl) rfl<|s1 (aa rfl) rfl ?_
    refine ak rfl (aI false rfl (.cons (.pure pu) (.cons (.pure pu) (.nil))) (KT _) pu (.inl rfl) rfl ?_)
    refine s1 (fc _ _ rfl rfl) rfl<|s1 (aa rfl) rfl ?_
    refine ah<|ae<|af ?_
    refine dN 23 bx (by kernel_rfl) ?_
    refine t1 (bI 7 Tryz.underlying185 bo rfl rfl rfl (by omega) rfl) rfl<|t1 (au bo rfl rfl rfl) rfl<|t1 (aa rfl) rfl<|t1 (dF _ _ rfl rfl) rfl<|t1 (aa rfl) rfl<|t1 (bI 5 Tryz.underlying185 bo rfl rfl rfl (by omega) rfl) rfl<|t1 (au bo rfl rfl rfl) rfl<|t1 (kA _ _ rfl rfl) rfl<|t1 (aa rfl) rfl<|t1 (B9 _ rfl) rfl ?_
    refine t1 (bI 6 Tryz.underlying185 bo rfl rfl rfl (by omega) rfl) rfl<|t1 (au bo rfl rfl rfl) rfl<|t1 (kA _ _ rfl rfl) rfl<|t1 (fc _ _ rfl rfl) rfl<|t1 (dF _ _ rfl rfl) rfl<|t1 (aa rfl) rfl<|t1 (MJ t Tryz.underlying216 bo rfl rfl rfl (by omega) rfl) rfl<|t1 (au bo rfl rfl (Hw t ht64)) rfl<|t1 (dF _ _ rfl rfl) rfl<|t1 (aa rfl) rfl ?_
    refine t1 (bI t Tryz.underlying216 bo rfl rfl rfl (by omega) rfl) rfl<|t1 (au bo rfl rfl (ot t (by first|rfl|omega|(simp<;>omega)|(simp [*]<;>omega)|(simp [aK.len, -List.length_flatten, *]<;>omega)) rfl)) rfl<|t1 (dF _ _ rfl rfl) rfl ?_
    refine dO ?_
    refine s1 (aa rfl) rfl ?_
    refine ah<|ae<|af<|ai<|s1 (aa rfl) rfl ?_
    refine ak rfl (aI false rfl (.cons (.pure pu) (.cons (.pure pu) (.nil))) (KR _) pu (.inl rfl) rfl ?_)
    refine s1 (aa rfl) rfl ?_
    refine ak rfl (aI false rfl (.cons (.pure pu) (.cons (.pure pu) (.nil))) (KN _) pu (.inl rfl) rfl ?_)
    refine s1 (fc _ _ rfl rfl) rfl<|s1 (aa rfl) rfl ?_
    refine ak rfl (aI false rfl (.cons (.pure pu) (.cons (.pure pu) (.nil))) (KS _) pu (.inl rfl) rfl ?_)
    refine s1 (fc _ _ rfl rfl) rfl<|s1 (aa rfl) rfl ?_
    refine ah<|ae<|af<|ai<|s1 (aa rfl) rfl<|s1 (aa rfl) rfl<|s1 (aa rfl) rfl<|s1 (kA _ _ rfl rfl) rfl<|s1 (aa rfl) rfl<|s1 (aa rfl) rfl<|s1 (kA _ _ rfl rfl) rfl<|s1 (fc _ _ rfl rfl) rfl<|s1 (aa rfl) rfl<|s1 (aa rfl) rfl ?_
    refine s1 (kA _ _ rfl rfl) rfl<|s1 (fc _ _ rfl rfl) rfl<|s1 (dF _ _ rfl rfl) rfl<|s1 (aa rfl) rfl ?_
    refine ah<|ae<|ai<|s1 (aa rfl) rfl<|s1 (aa rfl) rfl<|s1 (dF _ _ rfl rfl) rfl<|s1 (aa rfl) rfl<|s1 (aa rfl) rfl<|s1 (aa rfl) rfl<|s1 (bI 3 Tryz.underlying185 bo rfl rfl rfl (by omega) rfl) rfl<|s1 (au bo rfl rfl rfl) rfl<|s1 (aa rfl) rfl<|s1 (dF _ _ rfl rfl) rfl ?_
    refine s1 (aa rfl) rfl<|s1 (bI 5 Tryz.underlying185 bo rfl rfl rfl (by omega) rfl) rfl<|s1 (au bo rfl rfl rfl) rfl<|s1 (bI 6 Tryz.underlying185 bo rfl rfl rfl (by omega) rfl) rfl<|s1 (au bo rfl rfl rfl) rfl<|s1 (qO (vs:= [_,_,_,_,_,_,_,_]) mA rfl Tryz.underlying185 bo rfl rfl rfl rfl) rfl ?_
    refine ak rfl (bb mA rfl rfl rfl (by simp) (by simp) ?_)
    refine ah<|bh<|ae<|ai<|s1 (bc _ 1 rfl rfl rfl rfl (by omega)) rfl<|s1 (aa rfl) rfl ?_
    refine ah ?_
    exact br (t+1) (by omega) (by omega) [(3,some 3),(4,some 4),(12,some 12)] hI rfl rfl ⟨⟨_,rfl,.p rfl⟩,⟨_,rfl,.p rfl⟩,⟨_,rfl,.p rfl⟩,⟨_,rfl,.pure pu⟩,trivial⟩ ⟨.inr ⟨_,_,rfl,rfl,.pure aq⟩,.inr ⟨_,_,rfl,rfl,.pure aq⟩,.inr ⟨_,_,rfl,rfl,.pure aq⟩,trivial⟩
   ·have ht64 : t = 64 := by have := of_decide_eq_false hc93; omega
    subst ht64
    refine bC<|aP<|aP<|bD<|ae<|af<|ai<|s1 ((aa rfl).v (v':= .i .i64 0) rfl) rfl ?_
    refine ah<|ae<|aM ?_
    refine bF (ι:=Nat) (fun i=> [(0,.p 3 0),(12,.p 12 0),(172,.i .i64 (i:Nat))]) (fun i=>⟨[(3,some ((nw s (rounds (sched b 48) s 64) i).map aJ)),(12,some ((rounds (sched b 48) s 64).l.map aJ))]⟩) (fun i=>i≤8) (fun i=>8 - i) ?_ ?_
    ·exact bE (0) (Nat.zero_le _) [(3,some 3),(12,some 12)] hI rfl rfl ⟨⟨_,rfl,.p rfl⟩,⟨_,rfl,.p rfl⟩,⟨_,rfl,.pure pu⟩,trivial⟩ ⟨.inr ⟨_,_,rfl,rfl,.pure aq⟩,.inr ⟨_,_,rfl,rfl,.pure aq⟩,trivial⟩
    rintro i hi
    refine af<|ai<|s1 (aa rfl) rfl ?_
    refine ah<|ae<|af ?_
    refine aO rfl (fun hc173=>?_) (fun hc173=>?_)
    ·have hi8 : i < 8 := by have := of_decide_eq_true hc173; omega
     refine aL<|ae<|af<|aM<|af<|ai<|s1 (aa rfl) rfl<|s1 (aa rfl) rfl ?_
     refine ah<|ae ?_
     refine dN 11 bx (by kernel_rfl) ?_
     refine t1 (aa rfl) rfl<|t1 (aa rfl) rfl<|t1 (qQ rfl rfl) rfl<|t1 (bI i Tryz.underlying185 bo rfl rfl rfl (by omega) rfl) rfl<|t1 (au bo rfl rfl (ot i (by rw [BC];omega) rfl)) rfl<|t1 (aa rfl) rfl<|t1 (bI i Tryz.underlying185 bo rfl rfl rfl (by omega) rfl) rfl<|t1 (au bo rfl rfl (ot i (by rw [Iq];omega) rfl)) rfl<|t1 (dF _ _ rfl rfl) rfl<|t1 (qQ rfl rfl) rfl ?_
     refine t1 (bI i Tryz.underlying185 bo rfl rfl rfl (by omega) rfl) rfl ?_
     refine dO ?_
     refine ak rfl (bZ bo rfl rfl rfl rfl (by rw [List.length_map,BC];omega) (Ls s _ i (by omega)) ?_)
     refine ah<|bh<|ae<|ai<|s1 (bc _ 1 rfl rfl rfl rfl (by omega)) rfl<|s1 (aa rfl) rfl ?_
     refine ah ?_
     exact br (i+1) (by omega) (by omega) [(3,some 3),(12,some 12)] hI rfl rfl ⟨⟨_,rfl,.p rfl⟩,⟨_,rfl,.p rfl⟩,⟨_,rfl,.pure pu⟩,trivial⟩ ⟨.inr ⟨_,_,rfl,rfl,.pure aq⟩,.inr ⟨_,_,rfl,rfl,.pure aq⟩,trivial⟩
    ·have hi8 : i = 8 := by have := of_decide_eq_false hc173; omega
     subst hi8
     refine bC<|aP<|aP<|bD ?_
     refine lU (rs:= []) rfl aB (ni (congrArg (fun l=>some (List.map aJ l)) (LZ _ _)))
end Go.Abs.D2
-- D2D
namespace Go.Abs.D2
open Go Go.Eng Go.Abs Go.Proofs
theorem JK (b:List UInt8) (hb:b.length≤140737488300000):aA Tryz.prog 173 [.fz b.length (b.map u8)] (aN (.fz (pad b).length ((pad b).map u8))):=by
 refine enter Tryz.func173 rfl Tryz.ntmps173 (by kernel_rfl) (Nat.le_of_ble_eq_true rfl) fun w0 X0 hI=>?_
 refine af<|ai<|s1 (aa rfl) rfl ?_
 refine ah<|ae<|af<|ai ?_
 refine ak rfl (dG 6 rfl Tryz.underlying68 aQ rfl rfl rfl rfl rfl ?_)
 refine s1 (aa rfl) rfl ?_
 refine ak rfl (cT 8 rfl Tryz.underlying68 aQ rfl (.sl rfl (by first|rfl|omega|(simp<;>omega)|(simp [*]<;>omega)|(simp [aK.len, -List.length_flatten, *]<;>omega))) rfl rfl (by first|rfl|omega|(simp<;>omega)|(simp [*]<;>omega)|(simp [aK.len, -List.length_flatten, *]<;>omega)) (by first|omega|(simp only [maxLen];omega)|(simp [maxLen];done)|(simp [maxLen];omega)|(simp [maxLen, *];omega)) (by first|omega|(simp only [maxLen];omega)|(simp [maxLen];done)|(simp [maxLen];omega)|(simp [maxLen, *];omega)) rfl rfl rfl ?_)
 refine ak rfl (dG 9 rfl Tryz.underlying68 aQ rfl rfl rfl rfl rfl ?_)
 refine ak rfl (cT 10 rfl Tryz.underlying68 aQ rfl (.sl rfl (by first|rfl|omega|(simp<;>omega)|(simp [*]<;>omega)|(simp [aK.len, -List.length_flatten, *]<;>omega))) rfl (cE rfl (by first|rfl|omega|(simp<;>omega)|(simp [*]<;>omega)|(simp [aK.len, -List.length_flatten, *]<;>omega))) (by first|rfl|omega|(simp<;>omega)|(simp [*]<;>omega)|(simp [aK.len, -List.length_flatten, *]<;>omega)) (by first|omega|(simp only [maxLen];omega)|(simp [maxLen];done)|(simp [maxLen];omega)|(simp [maxLen, *];omega)) (by first|omega|(simp only [maxLen];omega)|(simp [maxLen];done)|(simp [maxLen];omega)|(simp [maxLen, *];omega)) rfl rfl rfl ?_)
 refine s1 (aa rfl) rfl ?_
 refine ah<|ae<|af<|aM ?_
 refine bF (ι:=Nat) (fun i=> [(0,.fz b.length (b.map u8)),(3,.sl 3 1 0 (b.length+1+i))]) (fun i=>⟨[(3,some ((b++ [128]++List.replicate i 0).map u8))]⟩) (fun i=>i≤gO b.length) (fun i=>gO b.length - i) ?_ ?_
 ·exact bE (0) (Nat.zero_le _) [(3,some 10)] hI rfl rfl ⟨⟨_,rfl,.pure pu⟩,⟨_,rfl,.sl rfl (by first|rfl|omega|(simp<;>omega)|(simp [*]<;>omega)|(simp [aK.len, -List.length_flatten, *]<;>omega))⟩,trivial⟩ ⟨.inr ⟨_,_,rfl,rfl,.of (by simp) (.pure aq)⟩,trivial⟩
 rintro i hi
 refine af<|af<|ai<|s1 (aa rfl) rfl<|s1 (bu Tryz.underlying68 rfl (cE rfl (by simp;omega)) rfl) rfl<|s1 (iF (b.length+1+i) 64 rfl rfl rfl rfl (by decide)) rfl<|s1 (aa rfl) rfl ?_
 refine ah<|ae ?_
 refine aO rfl (fun hc14=>?_) (fun hc14=>?_)
 ·have hz := qR b.length
  have hi2:i<gO b.length:=by
   have:=bne_iff_ne.1 hc14
   rcases Nat.lt_or_ge i (gO b.length)with h|h
   ·exact h
   ·exfalso; have : i = gO b.length := by omega
    subst this;omega
  refine aL<|ae<|aM<|ai<|s1 (aa rfl) rfl ?_
  refine ak rfl (dG 16 rfl Tryz.underlying68 aQ rfl rfl rfl rfl rfl ?_)
  refine ak rfl (cT 17 rfl Tryz.underlying68 aQ rfl (.sl rfl (by first|rfl|omega|(simp<;>omega)|(simp [*]<;>omega)|(simp [aK.len, -List.length_flatten, *]<;>omega))) rfl (cE rfl (by first|rfl|omega|(simp<;>omega)|(simp [*]<;>omega)|(simp [aK.len, -List.length_flatten, *]<;>omega))) (by first|rfl|omega|(simp<;>omega)|(simp [*]<;>omega)|(simp [aK.len, -List.length_flatten, *]<;>omega)) (by first|omega|(simp only [maxLen];omega)|(simp [maxLen];done)|(simp [maxLen];omega)|(simp [maxLen, *];omega)) (by first|omega|(simp only [maxLen];omega)|(simp [maxLen];done)|(simp [maxLen];omega)|(simp [maxLen, *];omega)) rfl rfl rfl ?_)
  refine s1 (aa rfl) rfl ?_
  refine ah<|bh ?_
  exact br (i+1) (by omega) (by omega) [(3,some 17)] hI rfl rfl ⟨⟨_,rfl,.pure pu⟩,⟨_,rfl,.sl rfl (by first|rfl|omega|(simp<;>omega)|(simp [*]<;>omega)|(simp [aK.len, -List.length_flatten, *]<;>omega))⟩,trivial⟩ ⟨.inr ⟨_,_,rfl,rfl,.of (by simp [List.replicate_succ', ←List.append_assoc]) (.pure aq)⟩,trivial⟩
 ·have hz := qR b.length
  have hi2:i=gO b.length:=by
   have:=bne_eq_false_iff_eq.1 hc14
   omega
  subst hi2
  refine bC<|aP<|aP<|bD<|ae<|af<|ai<|s1 (aa rfl) rfl<|s1 (bu Tryz.underlying68 rfl rfl rfl) rfl<|s1 (m9 _ Tryz.underlying3 Tryz.underlying198 rfl rfl) rfl<|s1 ((qg _ (ba 8) rfl rfl).v (v':=a7 (ba (8*b.length))) (congrArg a7 (by rw [←BitVec.ofNat_mul,Nat.mul_comm]))) rfl<|s1 (aa rfl) rfl ?_
  refine ah<|ae<|af<|af<|ai<|s1 ((aa rfl).v (v':= .i .i64 7) rfl) rfl ?_
  refine ah<|ae<|aM ?_
  refine bF (ι:=Nat) (fun k=> [(3,.sl 3 1 0 (b.length+1+gO b.length+k)),(4,a7 (ba (8*b.length))),(5,.i .i64 (7 - (k:Int)))]) (fun k=>⟨[(3,some ((b++ [128]++List.replicate (gO b.length) 0++(eC (8*b.length)).take k).map u8))]⟩) (fun k=>k≤8) (fun k=>8 - k) ?_ ?_
  ·exact bE (0) (Nat.zero_le _) [(3,some 3)] hI rfl rfl ⟨⟨_,rfl,.sl rfl (by first|rfl|omega|(simp<;>omega)|(simp [*]<;>omega)|(simp [aK.len, -List.length_flatten, *]<;>omega))⟩,⟨_,rfl,.pure pu⟩,⟨_,rfl,.pure pu⟩,trivial⟩ ⟨.inr ⟨_,_,rfl,rfl,.of (by simp) (.pure aq)⟩,trivial⟩
  rintro k hk
  refine af<|af<|ai<|s1 (aa rfl) rfl<|s1 (aa rfl) rfl ?_
  refine ah<|ae ?_
  refine aO rfl (fun hc23=>?_) (fun hc23=>?_)
  ·have hk8 : k < 8 := by have := of_decide_eq_true hc23; omega
   refine aL<|ae<|af<|aM<|ai<|s1 (aa rfl) rfl<|s1 (aa rfl) rfl<|s1 (aa rfl) rfl<|s1 ((aa rfl).v (v':= .i .i64 ((8*(7 - k):Nat):Int)) (by rw [lM _ (by omega) (by omega)];congr 1;omega)) rfl<|s1 (ke _ (8*(7 - k)) rfl rfl rfl (by omega)) rfl<|s1 ((ie _ Tryz.underlying198 Tryz.underlying5 rfl).v (v':=u8 (UInt8.ofNat (8*b.length / 2 ^ (8*(7 - k))))) (congrArg u8 (u0 _ _ (by omega)))) rfl ?_
   refine ak rfl (dG 32 rfl Tryz.underlying68 aQ rfl rfl rfl rfl rfl ?_)
   refine ak rfl (cT 33 rfl Tryz.underlying68 aQ rfl (.sl rfl (by first|rfl|omega|(simp<;>omega)|(simp [*]<;>omega)|(simp [aK.len, -List.length_flatten, *]<;>omega))) rfl (cE rfl (by first|rfl|omega|(simp<;>omega)|(simp [*]<;>omega)|(simp [aK.len, -List.length_flatten, *]<;>omega))) (by first|rfl|omega|(simp<;>omega)|(simp [*]<;>omega)|(simp [aK.len, -List.length_flatten, *]<;>omega)) (by first|omega|(simp only [maxLen];omega)|(simp [maxLen];done)|(simp [maxLen];omega)|(simp [maxLen, *];omega)) (by first|omega|(simp only [maxLen];omega)|(simp [maxLen];done)|(simp [maxLen];omega)|(simp [maxLen, *];omega)) rfl rfl rfl ?_)
   refine s1 (aa rfl) rfl ?_
   refine ah<|bh<|ae<|ai<|s1 (aa rfl) rfl<|s1 ((gx rfl rfl (by omega) (by omega)).v (v':= .i .i64 (7 - ((k+1:Nat):Int))) (congrArg (A.i .i64) (by omega))) rfl<|s1 (aa rfl) rfl ?_
   refine ah ?_
   exact br (k+1) (by omega) (by omega) [(3,some 33)] hI rfl rfl ⟨⟨_,rfl,.sl rfl (by first|rfl|omega|(simp<;>omega)|(simp [*]<;>omega)|(simp [aK.len, -List.length_flatten, *]<;>omega))⟩,⟨_,rfl,.pure pu⟩,⟨_,rfl,.pure pu⟩,trivial⟩ ⟨.inr ⟨_,_,rfl,rfl,.of (by rw [L9 _ k (by omega)];simp) (.pure aq)⟩,trivial⟩
  ·have hk8 : k = 8 := by have := of_decide_eq_false hc23; omega
   subst hk8
   refine bC<|aP<|aP<|bD<|ae<|af<|ai<|s1 (aa rfl) rfl<|s1 (aa rfl) rfl ?_
   refine ah<|ae<|aE ?_
   refine gp 2 rfl rfl aq (cm (by simp [len_be64];omega) (by rw [L8 (len_be64 _)])) ?_
   refine aF (rs:= [.tmp 2]) rfl (aD rfl aB) ?_
   show A.fz _ _=_
   rw [sI]
   rfl
theorem C7 (b:List UInt8) (hb:b.length≤140737488300000):aA Tryz.prog 117 [.fz b.length (b.map u8)] (aN (.ag ((kR b).map u8))):=by
 refine enter Tryz.func117 rfl Tryz.ntmps117 (by kernel_rfl) (Nat.le_of_ble_eq_true rfl) fun w0 X0 hI=>?_
 refine af<|ai ?_
 refine ak rfl (bp 2 rfl az rfl rfl ?_)
 refine ah<|ae<|af<|ai<|s1 ((qO (vs:= [_,_,_,_,_,_,_,_]) lI rfl Tryz.underlying184 bo rfl rfl rfl rfl).v (v':= .ag (h0.l.map aJ)) (by kernel_rfl)) rfl ?_
 refine ak rfl (bp 3 rfl lI rfl rfl ?_)
 refine ak rfl (bb lI rfl rfl rfl (by first|rfl|omega|(simp<;>omega)|(simp [*]<;>omega)|(simp [aK.len, -List.length_flatten, *]<;>omega)) (by first|rfl|omega|(simp<;>omega)|(simp [*]<;>omega)|(simp [aK.len, -List.length_flatten, *]<;>omega)) ?_)
 refine ah<|ae<|af<|ai<|s1 (aa rfl) rfl ?_
 refine ak rfl (aI false rfl (.cons (.pure pu) (.nil)) (JK b hb) pu (.inl rfl) rfl ?_)
 refine s1 (aa rfl) rfl ?_
 refine ah<|ae<|af<|af<|ai<|s1 ((aa rfl).v (v':= .i .i64 0) rfl) rfl ?_
 refine ah<|ae<|aM ?_
 refine bF (ι:=Nat) (fun k=> [(2,.p 2 0),(3,.p 3 0),(4,.fz (pad b).length ((pad b).map u8)),(5,.i .i64 ((64*k:Nat):Int))]) (fun k=>⟨[(2,some (List.replicate 32 (u8 0))),(3,some ((fg k h0 (pad b)).l.map aJ))]⟩) (fun k=>k≤(pad b).length / 64) (fun k=>(pad b).length / 64 - k) ?_ ?_
 ·exact bE (0) (Nat.zero_le _) [(2,some 2),(3,some 3)] hI rfl rfl ⟨⟨_,rfl,.p rfl⟩,⟨_,rfl,.p rfl⟩,⟨_,rfl,.pure pu⟩,⟨_,rfl,.pure pu⟩,trivial⟩ ⟨.inr ⟨_,_,rfl,rfl,.of (by simp) (.pure aq)⟩,.inr ⟨_,_,rfl,rfl,.pure aq⟩,trivial⟩
 rintro k hk
 have hp:=It b
 have hpl:=sI b
 have hz:=qR b.length
 refine af<|af<|ai<|s1 (aa rfl) rfl<|s1 (aa rfl) rfl<|s1 (bu Tryz.underlying68 rfl rfl rfl) rfl<|s1 (aa rfl) rfl ?_
 refine ah<|ae ?_
 refine aO rfl (fun hc14=>?_) (fun hc14=>?_)
 ·have hk2 : k < (pad b).length / 64 := by have := of_decide_eq_true hc14; omega
  refine aL<|ae<|af<|aM ?_
  refine bP ⟨_, [], []⟩ 7 4 bx (le_refl rfl) ?_
  refine aj 0 [] [(3,none)] (aV lI rfl rfl (by first|rfl|omega|(simp<;>omega)|(simp [*]<;>omega)|(simp [aK.len, -List.length_flatten, *]<;>omega))) rfl rfl<|aj 1 [] [] (aa rfl) rfl rfl<|aj 2 [] [] (aa rfl) rfl rfl<|aj 3 [] [] (aa rfl) rfl rfl<|aj 4 [3] [] (bc _ 64 rfl rfl rfl rfl (by omega)) rfl rfl<|aj 5 [1,2,4] [] ((ij 64 Tryz.underlying68 aQ rfl (by simp) (bs rfl rfl) (bs rfl rfl) (by omega) (by omega) (by omega) rfl).v (congrArg (A.fz 64) (Gd (pad b) (64*k)))) rfl rfl<|bL false 6 [0,5] [] aW rfl (.cons (.pure pu) (.cons (.pure pu) (.nil))) (Fq _ _ (by simp;omega)) pu (.inl rfl) rfl rfl<|bQ (by kernel_rfl) ?_
  refine ak rfl (bb lI rfl rfl rfl (by first|rfl|omega|(simp<;>omega)|(simp [*]<;>omega)|(simp [aK.len, -List.length_flatten, *]<;>omega)) (by first|rfl|omega|(simp<;>omega)|(simp [*]<;>omega)|(simp [aK.len, -List.length_flatten, *]<;>omega)) ?_)
  refine ah<|bh<|ae<|ai<|s1 (aa rfl) rfl<|s1 (bc _ 64 rfl rfl rfl rfl (by omega)) rfl<|s1 (aa rfl) rfl ?_
  refine ah ?_
  exact br (k+1) (by omega) (by omega) [(2,some 2),(3,some 3)] hI rfl rfl ⟨⟨_,rfl,.p rfl⟩,⟨_,rfl,.p rfl⟩,⟨_,rfl,.pure pu⟩,⟨_,rfl,.pure pu⟩,trivial⟩ ⟨.inr ⟨_,_,rfl,rfl,.of (by simp) (.pure aq)⟩,.inr ⟨_,_,rfl,rfl,.of (by rw [uM]) (.pure aq)⟩,trivial⟩
 ·have hk2 : k = (pad b).length / 64 := by have := of_decide_eq_false hc14; omega
  subst hk2
  refine bC<|aP<|aP<|bD<|ae<|af<|ai<|s1 ((nC az rfl Tryz.underlying23 aQ rfl).v (v':= .ag ((jy h0 0).map u8++List.replicate (32 - 0) (u8 0))) (by kernel_rfl)) rfl ?_
  refine ak rfl (bp 6 rfl az rfl rfl ?_)
  refine ak rfl (bb az rfl rfl rfl (by first|rfl|omega|(simp<;>omega)|(simp [*]<;>omega)|(simp [aK.len, -List.length_flatten, *]<;>omega)) (by first|rfl|omega|(simp<;>omega)|(simp [*]<;>omega)|(simp [aK.len, -List.length_flatten, *]<;>omega)) ?_)
  refine ah<|ae<|af<|af<|ai<|s1 ((aa rfl).v (v':= .i .i64 0) rfl) rfl ?_
  refine ah<|ae<|aM ?_
  refine bF (ι:=Nat) (fun i=> [(2,.p 2 0),(3,.p 3 0),(6,.p 6 0),(7,.i .i64 (i:Nat))]) (fun i=>⟨[(2,some (List.replicate 32 (u8 0))),(3,some ((fg ((pad b).length / 64) h0 (pad b)).l.map aJ)),(6,some ((jy (fg ((pad b).length / 64) h0 (pad b)) i).map u8++List.replicate (32 - i) (u8 0)))]⟩) (fun i=>i≤32) (fun i=>32 - i) ?_ ?_
  ·exact bE (0) (Nat.zero_le _) [(2,some 2),(3,some 3),(6,some 6)] hI rfl rfl ⟨⟨_,rfl,.p rfl⟩,⟨_,rfl,.p rfl⟩,⟨_,rfl,.p rfl⟩,⟨_,rfl,.pure pu⟩,trivial⟩ ⟨.inr ⟨_,_,rfl,rfl,.pure aq⟩,.inr ⟨_,_,rfl,rfl,.pure aq⟩,.inr ⟨_,_,rfl,rfl,.pure aq⟩,trivial⟩
  rintro i hi
  refine af<|af<|ai<|s1 (aa rfl) rfl<|s1 (aa rfl) rfl ?_
  refine ah<|ae ?_
  refine aO rfl (fun hc26=>?_) (fun hc26=>?_)
  ·have hi2 : i < 32 := by have := of_decide_eq_true hc26; omega
   refine aL<|ae<|af<|aM<|ai<|s1 (aa rfl) rfl<|s1 (aa rfl) rfl<|s1 (iS i 4 rfl rfl rfl rfl (by decide) (by omega)) rfl<|s1 (bI (i / 4) Tryz.underlying184 bo rfl rfl rfl (by omega) rfl) rfl<|s1 (au bo rfl rfl (ot (i / 4) (by simp;omega) rfl)) rfl<|s1 (aa rfl) rfl<|s1 (iF i 4 rfl rfl rfl rfl (by decide)) rfl<|s1 (gv 8 (i % 4) rfl rfl rfl rfl (by omega)) rfl<|s1 (cQ 24 (8*(i % 4)) rfl rfl rfl rfl (by omega) (by omega)) rfl<|s1 (fE _ (24 - 8*(i % 4)) rfl rfl rfl (by omega)) rfl ?_
   refine s1 (oV _ Tryz.underlying183 Tryz.underlying5 rfl) rfl<|s1 (bI i Tryz.underlying23 aQ rfl rfl rfl (by omega) rfl) rfl ?_
   refine ak rfl (bZ aQ rfl rfl rfl rfl (by simp only [List.length_append,List.length_map,List.length_replicate,len_outS];omega) (Dn _ i _ (by omega) rfl) ?_)
   refine ah<|bh<|ae<|ai<|s1 (aa rfl) rfl<|s1 (bc _ 1 rfl rfl rfl rfl (by omega)) rfl<|s1 (aa rfl) rfl ?_
   refine ah ?_
   exact br (i+1) (by omega) (by omega) [(2,some 2),(3,some 3),(6,some 6)] hI rfl rfl ⟨⟨_,rfl,.p rfl⟩,⟨_,rfl,.p rfl⟩,⟨_,rfl,.p rfl⟩,⟨_,rfl,.pure pu⟩,trivial⟩ ⟨.inr ⟨_,_,rfl,rfl,.pure aq⟩,.inr ⟨_,_,rfl,rfl,.pure aq⟩,.inr ⟨_,_,rfl,rfl,.pure aq⟩,trivial⟩
  ·have hi2 : i = 32 := by have := of_decide_eq_false hc26; omega
   subst hi2
   refine bC<|aP<|aP<|bD<|ae<|af<|ai<|s1 (aV az rfl rfl (by first|rfl|omega|(simp<;>omega)|(simp [*]<;>omega)|(simp [aK.len, -List.length_flatten, *]<;>omega))) rfl ?_
   refine ak rfl (bb az rfl rfl rfl (by first|rfl|omega|(simp<;>omega)|(simp [*]<;>omega)|(simp [aK.len, -List.length_flatten, *]<;>omega)) (by first|rfl|omega|(simp<;>omega)|(simp [*]<;>omega)|(simp [aK.len, -List.length_flatten, *]<;>omega)) ?_)
   refine ah<|ae<|aE ?_
   refine aF (rs:= [.cell 2 23]) rfl (bW az rfl rfl (List.take_of_length_le (by simp)) (by simp) aB) rfl
end Go.Abs.D2
-- D2F
namespace Go.Abs.D2
open Go Go.Eng Go.Abs Go.Proofs
theorem Fs (parts:List (List UInt8)) (hk:parts.length≤1048576) (ht:parts.flatten.length≤140737488300000):cH Tryz.prog 147 [.fn (.func 148) [.p 3 0] [],.fz parts.length (parts.map dz)] ⟨[(3,some (h0.l.map aJ))]⟩ (gP (.tu []) [(3,(fin parts.flatten).l.map aJ)]):=by
 refine pQ Tryz.func147 rfl Tryz.ntmps147 (by kernel_rfl) (Nat.le_of_ble_eq_true rfl) fun w0 X0 hI=>?_
 refine af<|ai ?_
 refine ak rfl (bp 4 rfl Mb rfl rfl ?_)
 refine ah<|ae<|af<|ai<|s1 ((aa rfl).v (v':= .i .i64 0) rfl) rfl<|s1 ((aa rfl).v (v':= .i .u64 0) rfl) rfl ?_
 refine ah<|ae<|af<|af<|ai<|s1 (aa rfl) rfl<|s1 (bu Tryz.underlying182 rfl rfl rfl) rfl<|s1 ((aa rfl).v (v':= .i .i64 0) rfl) rfl ?_
 refine ah<|ae<|aM ?_
 refine bF (ι:=List UInt8×List UInt8×Nat) (fun⟨s,tl,i⟩=> [(0,.fn (.func 148) [.p 3 0] []),(4,.p 4 0),(5,.i .i64 ((s.length % 64):Nat)),(6,a7 (ba s.length)),(11,.fz parts.length (parts.map dz)),(12,.i .i64 (parts.length:Nat)),(13,.i .i64 (i:Nat))]) (fun⟨s,tl,i⟩=>⟨[(3,some ((hs s).l.map aJ)),(4,some ((rem s++tl).map u8))]⟩) (fun⟨s,tl,i⟩=>s=(parts.take i).flatten∧i≤parts.length∧tl.length=64 - (s.length % 64)) (fun⟨s,tl,i⟩=>parts.length - i) ?_ ?_
 ·exact bE (([],List.replicate 64 0,0)) (⟨by simp,Nat.zero_le _,by simp⟩) [(3,some 3),(4,some 4)] hI rfl rfl ⟨⟨_,rfl,.fn (.cons (.p rfl) .nil) .nil⟩,⟨_,rfl,.p rfl⟩,⟨_,rfl,.of rfl (.pure pu)⟩,⟨_,rfl,.of rfl (.pure pu)⟩,⟨_,rfl,.pure pu⟩,⟨_,rfl,.pure pu⟩,⟨_,rfl,.pure pu⟩,trivial⟩ ⟨.inr ⟨_,_,rfl,rfl,.of rfl (.pure aq)⟩,.inr ⟨_,_,rfl,rfl,.of MW (.pure aq)⟩,trivial⟩
 rintro⟨s,tl,i⟩ ⟨hs0,hi,htl⟩
 dsimp only
 have hmod:=Nat.mod_lt s.length (show 0<64 by decide)
 refine af<|ai<|s1 (aa rfl) rfl ?_
 refine ah<|ae<|af ?_
 refine aO rfl (fun hc14=>?_) (fun hc14=>?_)
 ·have hi2 : i < parts.length := by have := of_decide_eq_true hc14; omega
  obtain⟨p,hp⟩:∃p,parts[i]? =some p:=⟨_,List.getElem?_eq_getElem hi2⟩
  have hpl:=Iu (List.mem_of_getElem? hp)
  refine aL<|ae<|af<|aM<|af<|ai<|s1 (aT i Tryz.underlying182 ef rfl rfl rfl (by omega) rfl) rfl<|s1 (au ef rfl rfl (A3 hp)) rfl<|s1 (aa rfl) rfl ?_
  refine ah<|ae<|af<|ai<|s1 (aa rfl) rfl<|s1 (aa rfl) rfl<|s1 (bu Tryz.underlying68 rfl rfl rfl) rfl<|s1 (m9 p.length Tryz.underlying3 Tryz.underlying198 rfl rfl) rfl<|s1 (uN (ba s.length) (ba p.length) rfl rfl) rfl<|s1 (aa rfl) rfl ?_
  refine ah<|ae<|aM ?_
  refine bF (ι:=Nat×List UInt8) (fun⟨j,tl2⟩=> [(0,.fn (.func 148) [.p 3 0] []),(4,.p 4 0),(5,.i .i64 (((s++p.take j).length % 64):Nat)),(6,a7 (ba s.length+ba p.length)),(8,.fz (p.length - j) ((p.drop j).map u8)),(11,.fz parts.length (parts.map dz)),(12,.i .i64 (parts.length:Nat)),(13,.i .i64 (i:Nat))]) (fun⟨j,tl2⟩=>⟨[(3,some ((hs (s++p.take j)).l.map aJ)),(4,some ((rem (s++p.take j)++tl2).map u8))]⟩) (fun⟨j,tl2⟩=>j≤p.length∧tl2.length=64 - ((s++p.take j).length % 64)) (fun⟨j,tl2⟩=>p.length - j) ?_ ?_
  ·exact bE ((0,tl)) (⟨Nat.zero_le _,by rw [rv];exact htl⟩) [(3,some 3),(4,some 4)] hI rfl rfl ⟨⟨_,rfl,.fn (.cons (.p rfl) .nil) .nil⟩,⟨_,rfl,.p rfl⟩,⟨_,rfl,.of (by rw [rv]) (.pure pu)⟩,⟨_,rfl,.pure pu⟩,⟨_,rfl,.pure pu⟩,⟨_,rfl,.pure pu⟩,⟨_,rfl,.pure pu⟩,⟨_,rfl,.pure pu⟩,trivial⟩ ⟨.inr ⟨_,_,rfl,rfl,.of (by rw [rv]) (.pure aq)⟩,.inr ⟨_,_,rfl,rfl,.of (by rw [rv]) (.pure aq)⟩,trivial⟩
  rintro⟨j,tl2⟩ ⟨hj,htl2⟩
  dsimp only
  have hSL:(s++p.take j).length=s.length+min j p.length:=by rw [List.length_append,List.length_take]
  have hmod1:=Nat.mod_lt (s++p.take j).length (show 0<64 by decide)
  refine af<|af<|ai<|s1 (aa rfl) rfl<|s1 (bu Tryz.underlying68 rfl rfl rfl) rfl<|s1 (aa rfl) rfl ?_
  refine ah<|ae ?_
  refine aO rfl (fun hc24=>?_) (fun hc24=>?_)
  ·have hj2 : j < p.length := by have := of_decide_eq_true hc24; omega
   have hc1:sr p (s++p.take j) j≤p.length - j:=Nat.min_le_left _ _
   have hc2:sr p (s++p.take j) j≤64 - ((s++p.take j).length % 64):=Nat.min_le_right _ _
   have hc0:0<sr p (s++p.take j) j:=Nat.lt_min.2 ⟨by omega,by omega⟩
   obtain⟨c,hcd⟩:∃c,c=sr p (s++p.take j) j:=⟨_,rfl⟩
   rw [←hcd]at hc0 hc1 hc2
   refine aL<|ae<|aM<|af<|ai<|s1 (aa rfl) rfl<|s1 (qP (o':=((s++p.take j).length % 64)) (64 - ((s++p.take j).length % 64)) Tryz.underlying214 aQ rfl rfl (by simp only [List.length_map,List.length_append,List.length_cons,List.length_nil,List.length_replicate,List.length_drop,List.length_take,dR,eN,len_be64]<;>omega) (by simp [maxLen]) (bs rfl rfl) bn (by omega) (by omega) rfl (by rw [if_neg (by omega)];omega)) rfl<|s1 (aa rfl) rfl ?_
   refine ak rfl (IW (c) Tryz.underlying68 aQ rfl rfl rfl rfl (by first|rfl|omega|(simp<;>omega)|(simp [*]<;>omega)|(simp [aK.len, -List.length_flatten, *]<;>omega)) hcd hc0 (by simp only [List.length_map,List.length_append,List.length_cons,List.length_nil,List.length_replicate,List.length_drop,List.length_take,dR,eN,len_be64]<;>omega) (Fu _ _ _ _ _) rfl ?_)
   refine s1 (aa rfl) rfl ?_
   refine ah<|ae<|af ?_
   refine bP ⟨_, [5], [(0, [5])]⟩ 7 4 bx (le_refl rfl) ?_
   refine aj 0 [] [] (aa rfl) rfl rfl<|aj 1 [] [] (aa rfl) rfl rfl<|aj 2 [0,1] [] (bc _ _ rfl rfl rfl rfl (by omega)) rfl rfl<|aj 3 [] [] (aa rfl) rfl rfl<|aj 4 [] [] (aa rfl) rfl rfl<|aj 5 [3,4] [] ((ij (p.length - (j+c)) Tryz.underlying68 aQ rfl (by simp) (bs rfl rfl) bn (by omega) (by omega) (by omega) rfl).v (congrArg (A.fz _) (Gf p j c))) rfl rfl<|aj 6 [2] [] (aa rfl) rfl rfl<|bQ (by kernel_rfl) ?_
   refine s1 (aa rfl) rfl ?_
   refine ah<|ae<|af<|ai<|s1 (aa rfl) rfl<|s1 (aa rfl) rfl ?_
   refine ah<|ae ?_
   refine aO rfl (fun hc36=>?_) (fun hc36=>?_)
   ·obtain ⟨r1, r2, r3⟩ := I0 (s := s) hc1 htl2 (by have := of_decide_eq_true hc36; omega)
    refine af<|ai<|s1 (aa rfl) rfl<|s1 (fF Tryz.underlying214 aQ rfl rfl (by simp only [List.length_map,List.length_append,List.length_cons,List.length_nil,List.length_replicate,List.length_drop,List.length_take,dR,eN,len_be64]<;>omega) (by simp [maxLen])) rfl ?_
    refine ak rfl (ma ⟨[(3,some ((hs (s++p.take j)).l.map aJ))]⟩ [(3,(comp (hs (s++p.take j)) (rem (s++p.take j)++(p.drop j).take c++tl2.drop c)).l.map aJ)] true rfl rfl ⟨⟨rfl,a8.pure aq⟩,trivial⟩ (.cons (.kp rfl) (.cons (.sl rfl rfl rfl (cm (by simp only [List.length_map,List.length_append,List.length_cons,List.length_nil,List.length_replicate,List.length_drop,List.length_take,dR,eN,len_be64]<;>omega) rfl) (a8.pure aq) aq) .nil)) (rr _ (rem (s++p.take j)++(p.drop j).take c++tl2.drop c) (by simp only [List.length_map,List.length_append,List.length_cons,List.length_nil,List.length_replicate,List.length_drop,List.length_take,dR,eN,len_be64]<;>omega)) trivial (.inr trivial) (nA (c0:=(hs (s++p.take j)).l.map aJ) rfl aq fI) rfl ?_)
    refine ah<|ae<|ai<|s1 ((aa rfl).v (v':= .i .i64 0) rfl) rfl ?_
    refine ah<|bh ?_
    exact br (x:=(j,tl2)) ((j+c,rem (s++p.take j)++(p.drop j).take c++tl2.drop c)) (⟨by dsimp only;omega,by dsimp only;rw [r3];simp only [List.length_append,dR,List.length_take,List.length_drop];omega⟩) (by dsimp only;omega) [(3,some 3),(4,some 4)] hI rfl rfl ⟨⟨_,rfl,.fn (.cons (.p rfl) .nil) .nil⟩,⟨_,rfl,.p rfl⟩,⟨_,rfl,.of (congrArg (fun k:Nat=>A.i .i64 (k:Int)) r3.symm) (.pure pu)⟩,⟨_,rfl,.pure pu⟩,⟨_,rfl,.pure pu⟩,⟨_,rfl,.pure pu⟩,⟨_,rfl,.pure pu⟩,⟨_,rfl,.pure pu⟩,trivial⟩ ⟨.inr ⟨_,_,rfl,rfl,.of (by rw [r2]) (.pure aq)⟩,.inr ⟨_,_,rfl,rfl,.of (by rw [r1,List.nil_append]) (.pure aq)⟩,trivial⟩
   ·obtain ⟨r1, r2, r3⟩ := I1 (s := s) hc1 (by have := of_decide_eq_false hc36; omega)
    refine aL<|bh ?_
    exact br (x:=(j,tl2)) ((j+c,tl2.drop c)) (⟨by dsimp only;omega,by dsimp only;rw [r3,List.length_drop];omega⟩) (by dsimp only;omega) [(3,some 3),(4,some 4)] hI rfl rfl ⟨⟨_,rfl,.fn (.cons (.p rfl) .nil) .nil⟩,⟨_,rfl,.p rfl⟩,⟨_,rfl,.of (congrArg (fun k:Nat=>A.i .i64 (k:Int)) r3.symm) (.pure pu)⟩,⟨_,rfl,.pure pu⟩,⟨_,rfl,.pure pu⟩,⟨_,rfl,.pure pu⟩,⟨_,rfl,.pure pu⟩,⟨_,rfl,.pure pu⟩,trivial⟩ ⟨.inr ⟨_,_,rfl,rfl,.of (by rw [r2]) (.pure aq)⟩,.inr ⟨_,_,rfl,rfl,.of (by rw [r1]) (.pure aq)⟩,trivial⟩
  ·have hj2 : j = p.length := by have := of_decide_eq_false hc24; omega
   subst hj2
   refine bC<|aP<|aP<|bD<|bh<|ae<|ai<|s1 (bc _ 1 rfl rfl rfl rfl (by omega)) rfl<|s1 (aa rfl) rfl ?_
   refine ah ?_
   exact br (x:=(s,tl,i)) ((s++p.take p.length,tl2,i+1)) (⟨by rw [hs0];exact FB hp,by dsimp only;omega,htl2⟩) (by dsimp only;omega) [(3,some 3),(4,some 4)] hI rfl rfl ⟨⟨_,rfl,.fn (.cons (.p rfl) .nil) .nil⟩,⟨_,rfl,.p rfl⟩,⟨_,rfl,.pure pu⟩,⟨_,rfl,.of (EF s p) (.pure pu)⟩,⟨_,rfl,.pure pu⟩,⟨_,rfl,.pure pu⟩,⟨_,rfl,.pure pu⟩,trivial⟩ ⟨.inr ⟨_,_,rfl,rfl,.pure aq⟩,.inr ⟨_,_,rfl,rfl,.pure aq⟩,trivial⟩
 ·have hi2 : i = parts.length := by have := of_decide_eq_false hc14; omega
  subst hi2
  rw [List.take_length]at hs0
  have hsl:s.length≤140737488300000:=by rw [hs0];exact ht
  refine bC<|aP<|aP<|bD<|ae<|af<|ai<|s1 (aa rfl) rfl<|s1 (bI (s.length % 64) Tryz.underlying214 aQ rfl rfl rfl (by omega) rfl) rfl ?_
  refine ak rfl (bZ aQ rfl rfl rfl rfl (by simp only [List.length_map,List.length_append,List.length_cons,List.length_nil,List.length_replicate,List.length_drop,List.length_take,dR,eN,len_be64]<;>omega) (Lm s tl htl) ?_)
  refine ah<|ae<|af<|ai<|s1 (aa rfl) rfl<|s1 (bc _ 1 rfl rfl rfl rfl (by omega)) rfl<|s1 (qP (64 - ((s.length % 64)+1)) Tryz.underlying214 aQ rfl rfl (by simp only [List.length_map,List.length_append,List.length_cons,List.length_nil,List.length_replicate,List.length_drop,List.length_take,dR,eN,len_be64]<;>omega) (by simp [maxLen]) (bs rfl rfl) bn (by omega) (by omega) rfl rfl) rfl ?_
  refine ak rfl (B0 Tryz.underlying68 aQ rfl rfl rfl (by simp only [List.length_map,List.length_append,List.length_cons,List.length_nil,List.length_replicate,List.length_drop,List.length_take,dR,eN,len_be64];split<;>omega) (G9 s tl htl _ rfl) rfl ?_)
  refine ah<|ae<|af<|af<|ai<|s1 (aa rfl) rfl<|s1 (bc _ 1 rfl rfl rfl rfl (by omega)) rfl<|s1 (aa rfl) rfl ?_
  refine ah<|ae ?_
  refine aO rfl (fun hc48=>?_) (fun hc48=>?_)
  ·have hfar : s.length % 64 + 1 > 56 := by have := of_decide_eq_true hc48; omega
   refine af<|ai<|s1 (aa rfl) rfl<|s1 (fF Tryz.underlying214 aQ rfl rfl (by simp only [List.length_map,List.length_append,List.length_cons,List.length_nil,List.length_replicate,List.length_drop,List.length_take,dR,eN,len_be64]<;>omega) (by simp [maxLen])) rfl ?_
   refine ak rfl (ma ⟨[(3,some ((hs s).l.map aJ))]⟩ [(3,(comp (hs s) (rem s++ [128]++List.replicate (63 - s.length % 64) 0)).l.map aJ)] true rfl rfl ⟨⟨rfl,a8.pure aq⟩,trivial⟩ (.cons (.kp rfl) (.cons (.sl rfl rfl rfl (cm (by simp only [List.length_map,List.length_append,List.length_cons,List.length_nil,List.length_replicate,List.length_drop,List.length_take,dR,eN,len_be64]<;>omega) rfl) (a8.pure aq) aq) .nil)) (rr _ (rem s++ [128]++List.replicate (63 - s.length % 64) 0) (by simp only [List.length_map,List.length_append,List.length_cons,List.length_nil,List.length_replicate,List.length_drop,List.length_take,dR,eN,len_be64]<;>omega)) trivial (.inr trivial) (nA (c0:=(hs s).l.map aJ) rfl aq fI) rfl ?_)
   refine ah<|ae<|ai<|s1 (fF Tryz.underlying214 aQ rfl rfl (by simp only [List.length_map,List.length_append,List.length_cons,List.length_nil,List.length_replicate,List.length_drop,List.length_take,dR,eN,len_be64]<;>omega) (by simp [maxLen])) rfl ?_
   refine ak rfl (B0 Tryz.underlying68 aQ rfl rfl rfl (by simp only [List.length_map,List.length_append,List.length_cons,List.length_nil,List.length_replicate,List.length_drop,List.length_take,dR,eN,len_be64]<;>omega) (FZ (by simp only [List.length_map,List.length_append,List.length_cons,List.length_nil,List.length_replicate,List.length_drop,List.length_take,dR,eN,len_be64]<;>omega)) rfl ?_)
   refine ah<|ae<|af<|af ?_
   refine cX 4 rfl (H5 hfar) ?_
   refine cX 3 rfl (cs':=(gX s).l.map aJ) (by rw [gX,if_pos hfar]) ?_
   refine ai<|s1 ((aa rfl).v (v':= .i .i64 0) rfl) rfl ?_
   refine ah<|ae<|aM ?_
   refine bF (ι:=Nat) (fun i=> [(0,.fn (.func 148) [.p 3 0] []),(4,.p 4 0),(6,a7 (ba s.length)),(53,.i .i64 (i:Nat))]) (fun i=>⟨[(3,some ((gX s).l.map aJ)),(4,some ((fK s++List.replicate (8 - i) 0++(eC (8*s.length)).drop (8 - i)).map u8))]⟩) (fun i=>i≤8) (fun i=>8 - i) ?_ ?_
   ·exact bE (0) (Nat.zero_le _) [(3,some 3),(4,some 4)] hI rfl rfl ⟨⟨_,rfl,.fn (.cons (.p rfl) .nil) .nil⟩,⟨_,rfl,.p rfl⟩,⟨_,rfl,.pure pu⟩,⟨_,rfl,.pure pu⟩,trivial⟩ ⟨.inr ⟨_,_,rfl,rfl,.pure aq⟩,.inr ⟨_,_,rfl,rfl,.pure aq⟩,trivial⟩
   rintro i hi
   refine af<|ai<|s1 (aa rfl) rfl ?_
   refine ah<|ae<|af ?_
   refine aO rfl (fun hc54=>?_) (fun hc54=>?_)
   ·have hi8 : i < 8 := by have := of_decide_eq_true hc54; omega
    refine aL<|ae<|af<|aM<|af<|ai<|s1 (aa rfl) rfl<|s1 (aa rfl) rfl ?_
    refine ah<|ae<|ai<|s1 (aa rfl) rfl<|s1 (cQ 63 i rfl rfl rfl rfl (by omega) (by omega)) rfl<|s1 (aa rfl) rfl<|s1 ((qg _ (ba 8) rfl rfl).v (v':=a7 (ba (8*s.length))) (congrArg a7 (by rw [←BitVec.ofNat_mul,Nat.mul_comm]))) rfl<|s1 (aa rfl) rfl<|s1 (gv 8 i rfl rfl rfl rfl (by omega)) rfl<|s1 (ke _ (8*i) rfl rfl rfl (by omega)) rfl<|s1 ((ie _ Tryz.underlying198 Tryz.underlying5 rfl).v (v':=u8 (UInt8.ofNat (8*s.length / 2 ^ (8*i)))) (congrArg u8 (u0 _ _ (by omega)))) rfl<|s1 (bI (63 - i) Tryz.underlying214 aQ rfl rfl rfl (by omega) rfl) rfl ?_
    refine ak rfl (bZ aQ rfl rfl rfl rfl (by simp only [List.length_map,List.length_append,List.length_cons,List.length_nil,List.length_replicate,List.length_drop,List.length_take,dR,eN,len_be64]<;>omega) (Dm s i _ (by omega) rfl) ?_)
    refine ah<|bh<|ae<|ai<|s1 (bc _ 1 rfl rfl rfl rfl (by omega)) rfl<|s1 (aa rfl) rfl ?_
    refine ah ?_
    exact br (i+1) (by omega) (by omega) [(3,some 3),(4,some 4)] hI rfl rfl ⟨⟨_,rfl,.fn (.cons (.p rfl) .nil) .nil⟩,⟨_,rfl,.p rfl⟩,⟨_,rfl,.pure pu⟩,⟨_,rfl,.pure pu⟩,trivial⟩ ⟨.inr ⟨_,_,rfl,rfl,.pure aq⟩,.inr ⟨_,_,rfl,rfl,.pure aq⟩,trivial⟩
   ·have hi8 : i = 8 := by have := of_decide_eq_false hc54; omega
    subst hi8
    refine bC<|aP<|aP<|bD<|ae<|ai<|s1 (aa rfl) rfl<|s1 (fF Tryz.underlying214 aQ rfl rfl (by simp only [List.length_map,List.length_append,List.length_cons,List.length_nil,List.length_replicate,List.length_drop,List.length_take,dR,eN,len_be64]<;>omega) (by simp [maxLen])) rfl ?_
    refine ak rfl (ma ⟨[(3,some ((gX s).l.map aJ))]⟩ [(3,(comp (gX s) (fK s++eC (8*s.length))).l.map aJ)] true rfl rfl ⟨⟨rfl,a8.pure aq⟩,trivial⟩ (.cons (.kp rfl) (.cons (.sl rfl rfl rfl (cm (by simp only [List.length_map,List.length_append,List.length_cons,List.length_nil,List.length_replicate,List.length_drop,List.length_take,dR,eN,len_be64]<;>omega) (by simp)) (a8.pure aq) aq) .nil)) (rr _ (fK s++eC (8*s.length)) (by simp only [List.length_map,List.length_append,List.length_cons,List.length_nil,List.length_replicate,List.length_drop,List.length_take,dR,eN,len_be64]<;>omega)) trivial (.inr trivial) (nA (c0:=(gX s).l.map aJ) rfl aq fI) rfl ?_)
    refine ah ?_
    refine lU (rs:= []) rfl aB (ni (c:=(fin parts.flatten).l.map aJ) ?_)
    exact congrArg (fun q:S8=>some (q.l.map aJ)) ((AN s).trans (by rw [hs0]))
  ·have hfar : ¬ s.length % 64 + 1 > 56 := by have := of_decide_eq_false hc48; omega
   refine aL<|ae<|af<|af ?_
   refine cX 4 rfl (H6 hfar) ?_
   refine cX 3 rfl (cs':=(gX s).l.map aJ) (by rw [gX,if_neg hfar]) ?_
   refine ai<|s1 ((aa rfl).v (v':= .i .i64 0) rfl) rfl ?_
   refine ah<|ae<|aM ?_
   refine bF (ι:=Nat) (fun i=> [(0,.fn (.func 148) [.p 3 0] []),(4,.p 4 0),(6,a7 (ba s.length)),(53,.i .i64 (i:Nat))]) (fun i=>⟨[(3,some ((gX s).l.map aJ)),(4,some ((fK s++List.replicate (8 - i) 0++(eC (8*s.length)).drop (8 - i)).map u8))]⟩) (fun i=>i≤8) (fun i=>8 - i) ?_ ?_
   ·exact bE (0) (Nat.zero_le _) [(3,some 3),(4,some 4)] hI rfl rfl ⟨⟨_,rfl,.fn (.cons (.p rfl) .nil) .nil⟩,⟨_,rfl,.p rfl⟩,⟨_,rfl,.pure pu⟩,⟨_,rfl,.pure pu⟩,trivial⟩ ⟨.inr ⟨_,_,rfl,rfl,.pure aq⟩,.inr ⟨_,_,rfl,rfl,.pure aq⟩,trivial⟩
   rintro i hi
   refine af<|ai<|s1 (aa rfl) rfl ?_
   refine ah<|ae<|af ?_
   refine aO rfl (fun hc54=>?_) (fun hc54=>?_)
   ·have hi8 : i < 8 := by have := of_decide_eq_true hc54; omega
    refine aL<|ae<|af<|aM<|af<|ai<|s1 (aa rfl) rfl<|s1 (aa rfl) rfl ?_
    refine ah<|ae<|ai<|s1 (aa rfl) rfl<|s1 (cQ 63 i rfl rfl rfl rfl (by omega) (by omega)) rfl<|s1 (aa rfl) rfl<|s1 ((qg _ (ba 8) rfl rfl).v (v':=a7 (ba (8*s.length))) (congrArg a7 (by rw [←BitVec.ofNat_mul,Nat.mul_comm]))) rfl<|s1 (aa rfl) rfl<|s1 (gv 8 i rfl rfl rfl rfl (by omega)) rfl<|s1 (ke _ (8*i) rfl rfl rfl (by omega)) rfl<|s1 ((ie _ Tryz.underlying198 Tryz.underlying5 rfl).v (v':=u8 (UInt8.ofNat (8*s.length / 2 ^ (8*i)))) (congrArg u8 (u0 _ _ (by omega)))) rfl<|s1 (bI (63 - i) Tryz.underlying214 aQ rfl rfl rfl (by omega) rfl) rfl ?_
    refine ak rfl (bZ aQ rfl rfl rfl rfl (by simp only [List.length_map,List.length_append,List.length_cons,List.length_nil,List.length_replicate,List.length_drop,List.length_take,dR,eN,len_be64]<;>omega) (Dm s i _ (by omega) rfl) ?_)
    refine ah<|bh<|ae<|ai<|s1 (bc _ 1 rfl rfl rfl rfl (by omega)) rfl<|s1 (aa rfl) rfl ?_
    refine ah ?_
    exact br (i+1) (by omega) (by omega) [(3,some 3),(4,some 4)] hI rfl rfl ⟨⟨_,rfl,.fn (.cons (.p rfl) .nil) .nil⟩,⟨_,rfl,.p rfl⟩,⟨_,rfl,.pure pu⟩,⟨_,rfl,.pure pu⟩,trivial⟩ ⟨.inr ⟨_,_,rfl,rfl,.pure aq⟩,.inr ⟨_,_,rfl,rfl,.pure aq⟩,trivial⟩
   ·have hi8 : i = 8 := by have := of_decide_eq_false hc54; omega
    subst hi8
    refine bC<|aP<|aP<|bD<|ae<|ai<|s1 (aa rfl) rfl<|s1 (fF Tryz.underlying214 aQ rfl rfl (by simp only [List.length_map,List.length_append,List.length_cons,List.length_nil,List.length_replicate,List.length_drop,List.length_take,dR,eN,len_be64]<;>omega) (by simp [maxLen])) rfl ?_
    refine ak rfl (ma ⟨[(3,some ((gX s).l.map aJ))]⟩ [(3,(comp (gX s) (fK s++eC (8*s.length))).l.map aJ)] true rfl rfl ⟨⟨rfl,a8.pure aq⟩,trivial⟩ (.cons (.kp rfl) (.cons (.sl rfl rfl rfl (cm (by simp only [List.length_map,List.length_append,List.length_cons,List.length_nil,List.length_replicate,List.length_drop,List.length_take,dR,eN,len_be64]<;>omega) (by simp)) (a8.pure aq) aq) .nil)) (rr _ (fK s++eC (8*s.length)) (by simp only [List.length_map,List.length_append,List.length_cons,List.length_nil,List.length_replicate,List.length_drop,List.length_take,dR,eN,len_be64]<;>omega)) trivial (.inr trivial) (nA (c0:=(gX s).l.map aJ) rfl aq fI) rfl ?_)
    refine ah ?_
    refine lU (rs:= []) rfl aB (ni (c:=(fin parts.flatten).l.map aJ) ?_)
    exact congrArg (fun q:S8=>some (q.l.map aJ)) ((AN s).trans (by rw [hs0]))
end Go.Abs.D2
-- D2G
namespace Go.Abs.D2
open Go Go.Eng Go.Abs Go.Proofs
theorem Bb (parts:List (List UInt8)) (hk:parts.length≤1048576) (ht:parts.flatten.length≤140737488300000):aA Tryz.prog 97 [.fz parts.length (parts.map dz)] (aN (.ag ((kR parts.flatten).map u8))):=by
 refine enter Tryz.func97 rfl Tryz.ntmps97 (by kernel_rfl) (Nat.le_of_ble_eq_true rfl) fun w0 X0 hI=>?_
 refine af<|ai ?_
 refine ak rfl (bp 2 rfl az rfl rfl ?_)
 refine ah<|ae<|af<|ai<|s1 ((qO (vs:= [_,_,_,_,_,_,_,_]) mA rfl Tryz.underlying185 bo rfl rfl rfl rfl).v (v':= .ag (h0.l.map aJ)) (by kernel_rfl)) rfl ?_
 refine ak rfl (bp 3 rfl mA rfl rfl ?_)
 refine ak rfl (bb mA rfl rfl rfl (by first|rfl|omega|(simp<;>omega)|(simp [*]<;>omega)|(simp [aK.len, -List.length_flatten, *]<;>omega)) (by first|rfl|omega|(simp<;>omega)|(simp [*]<;>omega)|(simp [aK.len, -List.length_flatten, *]<;>omega)) ?_)
 refine ah<|ae<|af<|ai<|s1 (gA (us:= [.p 3 0]) (vs:= []) rfl rfl) rfl<|s1 (aa rfl) rfl ?_
 refine ak rfl (oz ⟨[(3,some (h0.l.map aJ))]⟩ [(3,(fin parts.flatten).l.map aJ)] false rfl ⟨⟨rfl,a8.pure aq⟩,trivial⟩ (.cons (.fn (.cons (.kp rfl) .nil) .nil) (.cons (.pure pu) .nil)) (Fs parts hk ht) trivial (.inl rfl) (nA (c0:=h0.l.map aJ) rfl aq fI) rfl ?_)
 refine ah<|ae<|af<|af<|ai<|s1 ((aa rfl).v (v':= .i .i64 0) rfl) rfl ?_
 refine ah<|ae<|aM ?_
 refine bF (ι:=Nat) (fun i=> [(2,.p 2 0),(3,.p 3 0),(9,.i .i64 (i:Nat))]) (fun i=>⟨[(2,some ((jy (fin parts.flatten) i).map u8++List.replicate (32 - i) (u8 0))),(3,some ((fin parts.flatten).l.map aJ))]⟩) (fun i=>i≤32) (fun i=>32 - i) ?_ ?_
 ·exact bE (0) (Nat.zero_le _) [(2,some 2),(3,some 3)] hI rfl rfl ⟨⟨_,rfl,.p rfl⟩,⟨_,rfl,.p rfl⟩,⟨_,rfl,.pure pu⟩,trivial⟩ ⟨.inr ⟨_,_,rfl,rfl,.pure aq⟩,.inr ⟨_,_,rfl,rfl,.pure aq⟩,trivial⟩
 rintro i hi
 refine af<|ai<|s1 (aa rfl) rfl ?_
 refine ah<|ae<|af ?_
 refine aO rfl (fun hc10=>?_) (fun hc10=>?_)
 ·have hi2 : i < 32 := by have := of_decide_eq_true hc10; omega
  refine aL<|ae<|af<|aM<|af<|ai<|s1 (aa rfl) rfl<|s1 (aa rfl) rfl ?_
  refine ah<|ae<|ai<|s1 (aa rfl) rfl<|s1 (aa rfl) rfl<|s1 (iS i 4 rfl rfl rfl rfl (by decide) (by omega)) rfl<|s1 (bI (i / 4) Tryz.underlying185 bo rfl rfl rfl (by omega) rfl) rfl<|s1 (au bo rfl rfl (ot (i / 4) (by simp;omega) rfl)) rfl<|s1 (aa rfl) rfl<|s1 (iF i 4 rfl rfl rfl rfl (by decide)) rfl<|s1 (gv 8 (i % 4) rfl rfl rfl rfl (by omega)) rfl<|s1 (cQ 24 (8*(i % 4)) rfl rfl rfl rfl (by omega) (by omega)) rfl<|s1 (fE _ (24 - 8*(i % 4)) rfl rfl rfl (by omega)) rfl ?_
  refine s1 (oV _ Tryz.underlying183 Tryz.underlying5 rfl) rfl<|s1 (bI i Tryz.underlying23 aQ rfl rfl rfl (by omega) rfl) rfl ?_
  refine ak rfl (bZ aQ rfl rfl rfl rfl (by simp only [List.length_append,List.length_map,List.length_replicate,len_outS];omega) (Dn _ i _ (by omega) rfl) ?_)
  refine ah<|bh<|ae<|ai<|s1 (bc _ 1 rfl rfl rfl rfl (by omega)) rfl<|s1 (aa rfl) rfl ?_
  refine ah ?_
  exact br (i+1) (by omega) (by omega) [(2,some 2),(3,some 3)] hI rfl rfl ⟨⟨_,rfl,.p rfl⟩,⟨_,rfl,.p rfl⟩,⟨_,rfl,.pure pu⟩,trivial⟩ ⟨.inr ⟨_,_,rfl,rfl,.pure aq⟩,.inr ⟨_,_,rfl,rfl,.pure aq⟩,trivial⟩
 ·have hi2 : i = 32 := by have := of_decide_eq_false hc10; omega
  subst hi2
  refine bC<|aP<|aP<|bD<|ae<|af ?_
  refine cX 2 rfl (cs':=(kR parts.flatten).map u8) (by simp [kR,fin]) ?_
  refine ai<|s1 (aV az rfl rfl (by first|rfl|omega|(simp<;>omega)|(simp [*]<;>omega)|(simp [aK.len, -List.length_flatten, *]<;>omega))) rfl ?_
  refine ak rfl (bb az rfl rfl rfl (by first|rfl|omega|(simp<;>omega)|(simp [*]<;>omega)|(simp [aK.len, -List.length_flatten, *]<;>omega)) (by first|rfl|omega|(simp<;>omega)|(simp [*]<;>omega)|(simp [aK.len, -List.length_flatten, *]<;>omega)) ?_)
  refine ah<|ae<|aE ?_
  refine aF (rs:= [.cell 2 23]) rfl (bW az rfl rfl (List.take_of_length_le (by simp)) (by simp) aB) rfl
theorem g9 (t b:List UInt8) (hb:b.length≤140737488000000) (hl:t.length≤140737488000000):aA Tryz.prog 50 [.s t,.fz b.length (b.map u8)] (aN (.ag ((tagged t b).map u8))):=by
 refine enter Tryz.func50 rfl Tryz.ntmps50 (by kernel_rfl) (Nat.le_of_ble_eq_true rfl) fun w0 X0 hI=>?_
 refine af<|ai ?_
 refine ak rfl (bp 4 rfl az rfl rfl ?_)
 refine ah<|ae<|af<|ai<|s1 (aa rfl) rfl ?_
 refine ak rfl (B2 Tryz.underlying9 Tryz.underlying68 Tryz.underlying5 rfl (by first|omega|(simp only [maxLen];omega)|(simp [maxLen];done)|(simp [maxLen];omega)|(simp [maxLen, *];omega)) rfl ?_)
 refine ak rfl (dG 8 rfl Tryz.underlying182 ef rfl rfl rfl rfl rfl ?_)
 refine ak rfl (aI true rfl (.cons (.sl rfl rfl (by first|rfl|omega|(simp<;>omega)|(simp [*]<;>omega)|(simp [aK.len, -List.length_flatten, *]<;>omega)) (cm (by first|rfl|omega|(simp<;>omega)|(simp [*]<;>omega)|(simp [aK.len, -List.length_flatten, *]<;>omega)) (by first|rfl|(simp;done)|(simp [*];done))) (a8.pure aq) aq) (.nil)) (by simpa using Bb [t] (by simp) (by simp;omega)) pu (.inr fu) rfl ?_)
 refine ak rfl (bp 5 rfl az rfl rfl ?_)
 refine ak rfl (bb az rfl rfl rfl (by first|rfl|omega|(simp<;>omega)|(simp [*]<;>omega)|(simp [aK.len, -List.length_flatten, *]<;>omega)) (by first|rfl|omega|(simp<;>omega)|(simp [*]<;>omega)|(simp [aK.len, -List.length_flatten, *]<;>omega)) ?_)
 refine ah<|ae<|af<|ai<|s1 (fF Tryz.underlying23 aQ rfl rfl (by first|rfl|omega|(simp<;>omega)|(simp [*]<;>omega)|(simp [aK.len, -List.length_flatten, *]<;>omega)) (by simp [maxLen])) rfl<|s1 (aa rfl) rfl ?_
 refine ak rfl (dG 12 rfl Tryz.underlying182 ef rfl rfl rfl rfl rfl ?_)
 refine ak rfl (aI true rfl (.cons (.sl rfl rfl rfl rfl (.cons (.sl rfl rfl rfl (cm (by simp) rfl) (a8.pure aq) aq) (.cons (.pure pu) .nil)) aq) .nil) (by simpa [dz]using Bb [kR t,b] (by simp) (by simp;omega)) pu (.inr fu) rfl ?_)
 refine ak rfl (bb az rfl rfl rfl (by first|rfl|omega|(simp<;>omega)|(simp [*]<;>omega)|(simp [aK.len, -List.length_flatten, *]<;>omega)) (by first|rfl|omega|(simp<;>omega)|(simp [*]<;>omega)|(simp [aK.len, -List.length_flatten, *]<;>omega)) ?_)
 refine ah<|ae<|aE ?_
 refine aF (rs:= [.cell 4 23]) rfl (bW az rfl rfl (List.take_of_length_le (by simp)) (by simp) aB) rfl
theorem oO (t b:List UInt8) (hb:b.length≤140737488000000) (hl:t.length≤140737488000000):aA Tryz.prog 71 [.s t,.fz b.length (b.map u8)] (aN (.ag ((tagged t b).map u8))):=by
 refine enter Tryz.func71 rfl Tryz.ntmps71 (by kernel_rfl) (Nat.le_of_ble_eq_true rfl) fun w0 X0 hI=>?_
 refine af<|ai ?_
 refine ak rfl (bp 4 rfl az rfl rfl ?_)
 refine ah<|ae<|af<|ai<|s1 (aa rfl) rfl ?_
 refine ak rfl (B2 Tryz.underlying9 Tryz.underlying68 Tryz.underlying5 rfl (by first|omega|(simp only [maxLen];omega)|(simp [maxLen];done)|(simp [maxLen];omega)|(simp [maxLen, *];omega)) rfl ?_)
 refine ak rfl (aI false rfl (.cons (.pure pu) (.nil)) (C7 t (by omega)) pu (.inl rfl) rfl ?_)
 refine ak rfl (bp 5 rfl az rfl rfl ?_)
 refine ak rfl (bb az rfl rfl rfl (by first|rfl|omega|(simp<;>omega)|(simp [*]<;>omega)|(simp [aK.len, -List.length_flatten, *]<;>omega)) (by first|rfl|omega|(simp<;>omega)|(simp [*]<;>omega)|(simp [aK.len, -List.length_flatten, *]<;>omega)) ?_)
 refine ah<|ae<|af<|ai ?_
 refine ak rfl (dG 9 rfl Tryz.underlying68 aQ rfl rfl rfl rfl rfl ?_)
 refine s1 (fF Tryz.underlying23 aQ rfl rfl (by first|rfl|omega|(simp<;>omega)|(simp [*]<;>omega)|(simp [aK.len, -List.length_flatten, *]<;>omega)) (by simp [maxLen])) rfl ?_
 refine ak rfl (cT 11 rfl Tryz.underlying68 aQ rfl (.sl rfl (by first|rfl|omega|(simp<;>omega)|(simp [*]<;>omega)|(simp [aK.len, -List.length_flatten, *]<;>omega))) rfl (cE rfl (by first|rfl|omega|(simp<;>omega)|(simp [*]<;>omega)|(simp [aK.len, -List.length_flatten, *]<;>omega))) (by first|rfl|omega|(simp<;>omega)|(simp [*]<;>omega)|(simp [aK.len, -List.length_flatten, *]<;>omega)) (by first|omega|(simp only [maxLen];omega)|(simp [maxLen];done)|(simp [maxLen];omega)|(simp [maxLen, *];omega)) (by first|omega|(simp only [maxLen];omega)|(simp [maxLen];done)|(simp [maxLen];omega)|(simp [maxLen, *];omega)) rfl rfl rfl ?_)
 refine s1 (aa rfl) rfl ?_
 refine ak rfl (cT 13 rfl Tryz.underlying68 aQ rfl (.sl rfl (by first|rfl|omega|(simp<;>omega)|(simp [*]<;>omega)|(simp [aK.len, -List.length_flatten, *]<;>omega))) rfl rfl (by first|rfl|omega|(simp<;>omega)|(simp [*]<;>omega)|(simp [aK.len, -List.length_flatten, *]<;>omega)) (by first|omega|(simp only [maxLen];omega)|(simp [maxLen];done)|(simp [maxLen];omega)|(simp [maxLen, *];omega)) (by first|omega|(simp only [maxLen];omega)|(simp [maxLen];done)|(simp [maxLen];omega)|(simp [maxLen, *];omega)) rfl rfl rfl ?_)
 refine ak rfl (aI true rfl (.cons (.sl rfl rfl (by first|rfl|omega|(simp<;>omega)|(simp [*]<;>omega)|(simp [aK.len, -List.length_flatten, *]<;>omega)) (cm (by first|rfl|omega|(simp<;>omega)|(simp [*]<;>omega)|(simp [aK.len, -List.length_flatten, *]<;>omega)) (by first|rfl|(simp;done)|(simp [*];done))) (a8.pure aq) aq) (.nil)) (by simpa [tagged]using C7 (kR t++b) (by simp;omega)) pu (.inr fu) rfl ?_)
 refine ak rfl (bb az rfl rfl rfl (by first|rfl|omega|(simp<;>omega)|(simp [*]<;>omega)|(simp [aK.len, -List.length_flatten, *]<;>omega)) (by first|rfl|omega|(simp<;>omega)|(simp [*]<;>omega)|(simp [aK.len, -List.length_flatten, *]<;>omega)) ?_)
 refine ah<|ae<|aE ?_
 refine aF (rs:= [.cell 4 23]) rfl (bW az rfl rfl (List.take_of_length_le (by simp)) (by simp) aB) rfl
end Go.Abs.D2
-- F3B
namespace Go.Abs.D2
open Go Go.Eng Go.Abs Go.Proofs
theorem Hh (ps:List Part) (hk:ps.length≤1000) (hok:∀p∈ps,p.ok):aA Tryz.prog 208 [.fz ps.length (ps.map (Part.a 23 5 183))] (dq 1 (ir ps).length ((ir ps).map u8)):=by
 refine enter Tryz.func208 rfl Tryz.ntmps208 (by kernel_rfl) (Nat.le_of_ble_eq_true rfl) fun w0 X0 hI=>?_
 refine af<|ai<|s1 (aa rfl) rfl ?_
 refine ah<|ae<|af<|af<|ai<|s1 (aa rfl) rfl<|s1 (bu Tryz.underlying237 rfl rfl rfl) rfl<|s1 ((aa rfl).v (v':= .i .i64 0) rfl) rfl ?_
 refine ah<|ae<|aM ?_
 refine bF (ι:=Nat) (fun i=> [(2,.sl 2 1 0 (ir (ps.take i)).length),(8,.fz ps.length (ps.map (Part.a 23 5 183))),(9,.i .i64 (ps.length:Nat)),(10,.i .i64 (i:Nat))]) (fun i=>⟨[(2,some ((ir (ps.take i)).map u8))]⟩) (fun i=>i≤ps.length) (fun i=>ps.length - i) ?_ ?_
 ·exact bE (0) (Nat.zero_le _) [(2,none)] hI rfl rfl ⟨⟨_,rfl,.nl rfl⟩,⟨_,rfl,.pure pu⟩,⟨_,rfl,.pure pu⟩,⟨_,rfl,.pure pu⟩,trivial⟩ ⟨.inl ⟨rfl,rfl⟩,trivial⟩
 rintro i hi
 have hbl:=Bv (ps:=ps.take i) fun q hq=>hok q (List.mem_of_mem_take hq)
 rw [List.length_take]at hbl
 refine af<|ai<|s1 (aa rfl) rfl ?_
 refine ah<|ae<|af ?_
 refine aO rfl (fun hc11=>?_) (fun hc11=>?_)
 ·have h11 : i < ps.length := by have := of_decide_eq_true hc11; omega
  obtain⟨p,hp⟩:∃p,ps[i]? =some p:=⟨_,List.getElem?_eq_getElem h11⟩
  have hpok:=hok p (List.mem_of_getElem? hp)
  refine aL<|ae<|af<|aM<|af<|ai<|s1 (aT i Tryz.underlying237 xO rfl rfl rfl (by omega) rfl) rfl<|s1 (au xO rfl rfl (Hz hp)) rfl<|s1 (aa rfl) rfl ?_
  refine ah<|ae<|af ?_
  rcases p with hcs|hcs|hcs
  ·have hl32 : hcs.length = 32 := hpok
   have hnl:=congrArg List.length (rJ hp)
   simp only [List.length_append,Part.bs,iq,List.length_cons,List.length_nil]at hnl
   refine ai<|s1 (aa rfl) rfl ?_
   refine ah<|ae<|aM<|af<|ai<|s1 (uv Tryz.underlying23 rfl rfl) rfl<|s1 (aa rfl) rfl<|s1 (aa rfl) rfl ?_
   refine ah<|ae ?_
   refine bR rfl ?_
   refine af<|ai ?_
   refine ak rfl (bp 5 rfl az rfl rfl ?_)
   refine ak rfl (bb az rfl rfl rfl (by simp [hl32]) (by simp) ?_)
   refine ah<|ae<|ai<|s1 (aa rfl) rfl<|s1 (fF Tryz.underlying23 aQ rfl rfl (by first|rfl|omega|(simp<;>omega)|(simp [*]<;>omega)) (by simp [maxLen])) rfl ?_
   refine ak rfl (cT 20 rfl Tryz.underlying68 aQ rfl (.sl rfl (by rw [List.length_map,Nat.mul_one])) rfl (cE rfl (by first|rfl|omega|(simp<;>omega)|(simp [*]<;>omega))) (by simp [hl32]) (by simp only [maxLen];omega) (by omega) rfl rfl rfl ?_)
   refine s1 (aa rfl) rfl ?_
   refine ah<|bh<|bh<|ae<|ai<|s1 (bc _ 1 rfl rfl rfl rfl (by omega)) rfl<|s1 (aa rfl) rfl ?_
   refine ah ?_
   exact br (i+1) (by omega) (by omega) [(2,some 20)] hI rfl rfl ⟨⟨_,rfl,.sl rfl (by first|rfl|omega|(simp<;>omega)|(simp [*]<;>omega))⟩,⟨_,rfl,.pure pu⟩,⟨_,rfl,.pure pu⟩,⟨_,rfl,.pure pu⟩,trivial⟩ ⟨.inr ⟨_,_,rfl,rfl,.of (vc hp rfl) (.pure aq)⟩,trivial⟩
  ·have hnl := congrArg List.length (rJ hp)
   simp only [List.length_append,Part.bs,iq,List.length_cons,List.length_nil]at hnl
   refine ai<|s1 (aa rfl) rfl ?_
   refine ah<|ae<|aM<|af<|ai<|s1 (x7 (z:= .agg (List.replicate 32 (.int .u8 0):List Value).toArray) Tryz.underlying23 rfl (by kernel_rfl) rfl rfl) rfl<|s1 (aa rfl) rfl<|s1 (aa rfl) rfl ?_
   refine ah<|ae ?_
   refine cF rfl ?_
   refine af<|ai<|s1 (uv Tryz.underlying5 rfl rfl) rfl<|s1 (aa rfl) rfl<|s1 (aa rfl) rfl ?_
   refine ah<|ae ?_
   refine bR rfl ?_
   refine af<|ai<|s1 (aa rfl) rfl ?_
   refine ah<|ae<|ai<|s1 (aa rfl) rfl<|s1 (aa rfl) rfl ?_
   refine ak rfl (dG 26 rfl Tryz.underlying68 aQ rfl rfl rfl rfl rfl ?_)
   refine ak rfl (cT 27 rfl Tryz.underlying68 aQ rfl (.sl rfl (by rw [List.length_map,Nat.mul_one])) rfl (cE rfl (by first|rfl|omega|(simp<;>omega)|(simp [*]<;>omega))) (by first|rfl|omega|(simp<;>omega)|(simp [*]<;>omega)) (by simp only [maxLen];omega) (by omega) rfl rfl rfl ?_)
   refine s1 (aa rfl) rfl ?_
   refine ah<|bh<|bh<|ae<|ai<|s1 (bc _ 1 rfl rfl rfl rfl (by omega)) rfl<|s1 (aa rfl) rfl ?_
   refine ah ?_
   exact br (i+1) (by omega) (by omega) [(2,some 27)] hI rfl rfl ⟨⟨_,rfl,.sl rfl (by first|rfl|omega|(simp<;>omega)|(simp [*]<;>omega))⟩,⟨_,rfl,.pure pu⟩,⟨_,rfl,.pure pu⟩,⟨_,rfl,.pure pu⟩,trivial⟩ ⟨.inr ⟨_,_,rfl,rfl,.of (vc hp rfl) (.pure aq)⟩,trivial⟩
  ·have hnl := congrArg List.length (rJ hp)
   simp only [List.length_append,Part.bs,iq,List.length_cons,List.length_nil]at hnl
   refine ai<|s1 (aa rfl) rfl ?_
   refine ah<|ae<|aM<|af<|ai<|s1 (x7 (z:= .agg (List.replicate 32 (.int .u8 0):List Value).toArray) Tryz.underlying23 rfl (by kernel_rfl) rfl rfl) rfl<|s1 (aa rfl) rfl<|s1 (aa rfl) rfl ?_
   refine ah<|ae ?_
   refine cF rfl ?_
   refine af<|ai<|s1 (x7 (z:= .int .u8 0) Tryz.underlying5 rfl (by kernel_rfl) rfl rfl) rfl<|s1 (aa rfl) rfl<|s1 (aa rfl) rfl ?_
   refine ah<|ae ?_
   refine cF rfl ?_
   refine af<|ai<|s1 (uv Tryz.underlying183 rfl rfl) rfl<|s1 (aa rfl) rfl<|s1 (aa rfl) rfl ?_
   refine ah<|ae ?_
   refine bR rfl ?_
   refine af<|ai<|s1 (aa rfl) rfl ?_
   refine ah<|ae<|ai<|s1 (aa rfl) rfl<|s1 (aa rfl) rfl<|s1 (fE _ 24 rfl rfl rfl (by decide)) rfl<|s1 (oV _ Tryz.underlying183 Tryz.underlying5 rfl) rfl<|s1 (aa rfl) rfl<|s1 (fE _ 16 rfl rfl rfl (by decide)) rfl<|s1 (oV _ Tryz.underlying183 Tryz.underlying5 rfl) rfl<|s1 (aa rfl) rfl<|s1 (fE _ 8 rfl rfl rfl (by decide)) rfl<|s1 (oV _ Tryz.underlying183 Tryz.underlying5 rfl) rfl ?_
   refine s1 (aa rfl) rfl<|s1 (oV _ Tryz.underlying183 Tryz.underlying5 rfl) rfl ?_
   refine ak rfl (dG 43 rfl Tryz.underlying68 aQ rfl rfl rfl rfl rfl ?_)
   refine ak rfl (cT 44 rfl Tryz.underlying68 aQ rfl (.sl rfl (by rw [List.length_map,Nat.mul_one])) rfl (cE rfl (by first|rfl|omega|(simp<;>omega)|(simp [*]<;>omega))) (by first|rfl|omega|(simp<;>omega)|(simp [*]<;>omega)) (by simp only [maxLen];omega) (by omega) rfl rfl rfl ?_)
   refine s1 (aa rfl) rfl ?_
   refine ah<|bh<|bh<|ae<|ai<|s1 (bc _ 1 rfl rfl rfl rfl (by omega)) rfl<|s1 (aa rfl) rfl ?_
   refine ah ?_
   exact br (i+1) (by omega) (by omega) [(2,some 44)] hI rfl rfl ⟨⟨_,rfl,.sl rfl (by first|rfl|omega|(simp<;>omega)|(simp [*]<;>omega))⟩,⟨_,rfl,.pure pu⟩,⟨_,rfl,.pure pu⟩,⟨_,rfl,.pure pu⟩,trivial⟩ ⟨.inr ⟨_,_,rfl,rfl,.of (vc hp rfl) (.pure aq)⟩,trivial⟩
 ·have h11 : i = ps.length := by have := of_decide_eq_false hc11; omega
  subst h11
  refine bC<|aP<|aP<|bD<|ae<|af<|ai<|s1 (aa rfl) rfl<|s1 (aa rfl) rfl ?_
  refine ah<|ae<|aE ?_
  refine aF (rs:= [.tmp 2]) rfl (aD rfl aB) ⟨2,?_,?_⟩
  ·rw [List.take_length];rfl
  ·rw [List.take_length];rfl
theorem Fp (x:List UInt8) (lv nb id:Int) (D:List UInt8):aA Tryz.prog 175 [.ag (x.map u8),.ag [.i .i64 lv,.i .i64 nb,dz D],.i .i64 id] (aN (.fn (.func 207) [] [.fp (x.map u8),.fp [.i .i64 lv,.i .i64 nb,dz D],.fp [.i .i64 id]])):=by
 refine enter Tryz.func175 rfl Tryz.ntmps175 (by kernel_rfl) (Nat.le_of_ble_eq_true rfl) fun w0 X0 hI=>?_
 refine af<|ai ?_
 refine ak rfl (bK 3 rfl rfl rfl ?_)
 refine ak rfl (bK 4 rfl rfl rfl ?_)
 refine ak rfl (kG 5 rfl rfl rfl rfl ?_)
 refine s1 (aa rfl) rfl ?_
 refine ah<|ae<|af ?_
 refine fh 3 rfl rfl aq ?_
 refine fh 4 rfl rfl aq ?_
 refine fh 5 rfl rfl aq ?_
 refine ai<|s1 (gA (us:= []) (vs:= [.fp (x.map u8),.fp [.i .i64 lv,.i .i64 nb,dz D],.fp [.i .i64 id]]) rfl rfl) rfl<|s1 (aa rfl) rfl ?_
 refine ah<|ae<|aE ?_
 refine aF (rs:= [.tmp 6]) rfl (aD rfl aB) rfl
end Go.Abs.D2
-- F3C
namespace Go.Abs.D2
open Go Go.Eng Go.Abs Go.Proofs
theorem Hg (x:List UInt8) (lv id:Nat) (hx:x.length=32):aA Tryz.prog 208 [.fz 3 [.ic 23 (.ag (x.map u8)),.ic 5 (u8 (UInt8.ofNat lv)),.ic 183 (aJ (BitVec.ofNat 32 id))]] (dq 1 37 ((x++UInt8.ofNat lv::iq (BitVec.ofNat 32 id)).map u8)):=by
  have:=Hh [.d x,.b (UInt8.ofNat lv),.w (BitVec.ofNat 32 id)] (by simp) (by simp [Part.ok,hx])
  have e:ir [.d x,.b (UInt8.ofNat lv),.w (BitVec.ofNat 32 id)]=(x++UInt8.ofNat lv::iq (BitVec.ofNat 32 id)):=by simp [ir,Part.bs]
  rw [e]at this
  have e2:(x++UInt8.ofNat lv::iq (BitVec.ofNat 32 id)).length=37:=by simp [iq,hx]
  rw [e2]at this
  exact this
theorem L1 (x:List UInt8) (lv id:Nat) (hx:x.length=32):aA Tryz.prog 50 [.s [102,105,108,116,101,114],.fz 37 ((x++UInt8.ofNat lv::iq (BitVec.ofNat 32 id)).map u8)] (aN (.ag ((ix x lv id).map u8))):=by
  have e2:(x++UInt8.ofNat lv::iq (BitVec.ofNat 32 id)).length=37:=by simp [iq,hx]
  rw [AH, ←e2];exact g9 _ _ (by omega) (by simp)
theorem ER (x:List UInt8) (lv nb id:Nat) (D:List UInt8) (hx:x.length=32) (hnb:0<nb):aA Tryz.prog 164 [.nl,.fn (.func 207) [] [.fp (x.map u8),.fp [nJ lv,nJ nb,dz D],.fp [nJ id]]] (dq 1 2 ((gR x lv nb id 2).map nJ)):=by
 refine nZ Tryz.func164 rfl Tryz.ntmps164 (by kernel_rfl) (Nat.le_of_ble_eq_true rfl) fun w0 X0 hI hS=>?_
 refine af<|ai ?_
 refine ak rfl (kG 2 rfl rfl rfl rfl ?_)
 refine s1 (aa rfl) rfl ?_
 refine ah<|ae<|af<|af<|ai<|s1 (aa rfl) rfl ?_
 refine ah<|ae<|aM ?_
 refine uZ [2] [(0,_),(1,_),(2,_),(4,_),(6,_)] hI rfl ⟨rfl,⟨rfl,⟨rfl,⟨rfl,⟨rfl,trivial⟩⟩⟩⟩⟩ (by first|rfl|(simp [jx,jA,refs,eu,mj,refs_pu,cw];done)) rfl Tryz.func207 rfl Tryz.ntmps207 (by kernel_rfl) (Nat.le_of_ble_eq_true rfl) fun w1 l1 D1 rc1 hR1=>?_
 refine af<|ai<|s1 (bY az rfl rfl (List.take_of_length_le (by simp [hx])) (by simp [hx])) rfl<|s1 (uq (by kernel_rfl) rfl) rfl<|s1 (bj Tryz.underlying120 rfl an (by decide) rfl rfl) rfl<|s1 (au an rfl rfl rfl) rfl<|s1 (Cn lv Tryz.underlying3 Tryz.underlying5 rfl rfl) rfl<|s1 (uq (by kernel_rfl) rfl) rfl<|s1 (au an rfl rfl rfl) rfl<|s1 (Ji _ Tryz.underlying3 Tryz.underlying183 rfl rfl) rfl<|s1 (uq (by kernel_rfl) rfl) rfl ?_
 refine ak rfl (dG 1019 rfl Tryz.underlying237 xO rfl rfl rfl rfl rfl ?_)
 refine ak rfl (iP 1020 rfl true rfl (.cons (.sl rfl rfl (by first|rfl|omega|(simp<;>omega)|(simp [*]<;>omega)) (cm (by first|rfl|omega|(simp<;>omega)|(simp [*]<;>omega)) (by first|rfl|(simp;done)|(simp [*];done))) (a8.pure aq) aq) (.nil)) (Hg x lv id hx) aq (.inr fI) rfl ?_)
 refine ak rfl (aI true rfl (.cons (.pure pu) (.cons (.sl rfl rfl (by first|rfl|omega|(simp<;>omega)|(simp [*]<;>omega)) (cm (by first|rfl|omega|(simp<;>omega)|(simp [*]<;>omega)) (by first|rfl|(simp;done)|(simp [*];done))) (a8.pure aq) aq) (.nil))) (L1 x lv id hx) pu (.inr fu) rfl ?_)
 refine ak rfl (bp 1005 rfl az rfl rfl ?_)
 refine ak rfl (bb az rfl rfl rfl (by first|rfl|omega|(simp<;>omega)|(simp [*]<;>omega)) (by first|rfl|omega|(simp<;>omega)|(simp [*]<;>omega)) ?_)
 refine ah<|ae<|af<|ai<|s1 ((aa rfl).v (v':= .i .i64 0) rfl) rfl ?_
 refine ah<|ae<|aM ?_
 refine bF (ι:=Nat) (fun i=> [(0,yv l1),(1,.fp (x.map u8)),(2,.fp [nJ lv,nJ nb,dz D]),(3,.fp [nJ id]),(5,.p 1005 0),(22,nJ i)]) (fun i=>⟨[(2,some ([.sl 11 1 0 i])),(11,some (((gR x lv nb id i).map nJ))),(1005,some ((ix x lv id).map u8))]⟩) (fun i=>i≤2) (fun i=>2 - i) ?_ ?_
 ·exact bE (0) (Nat.zero_le _) [(2,some 2),(11,none),(1005,some 1005)] hR1.sub.ids rfl rfl ⟨⟨_,rfl,.pure trivial⟩,⟨_,rfl,.pure pu⟩,⟨_,rfl,.pure pu⟩,⟨_,rfl,.pure pu⟩,⟨_,rfl,.p rfl⟩,⟨_,rfl,.pure pu⟩,trivial⟩ ⟨.inr ⟨_,_,rfl,rfl,.cons (.nl rfl) .nil⟩,.inl ⟨rfl,rfl⟩,.inr ⟨_,_,rfl,rfl,.pure aq⟩,trivial⟩
 rintro i hi
 refine af<|ai<|s1 (aa rfl) rfl ?_
 refine ah<|ae<|af ?_
 refine aO rfl (fun hc23=>?_) (fun hc23=>?_)
 ·have h23 : i < 2 := by have := of_decide_eq_true hc23; omega
  refine aL<|ae<|af<|aM<|af<|ai<|s1 (aa rfl) rfl<|s1 (aa rfl) rfl ?_
  refine ah<|ae<|af<|ai<|s1 ((aa rfl).v (v':= .i .i64 0) rfl) rfl ?_
  refine ah<|ae<|af<|af<|ai<|s1 (aa rfl) rfl<|s1 (gv 4 _ rfl rfl rfl rfl (by omega)) rfl<|s1 (aa rfl) rfl<|s1 (gv 4 _ rfl rfl rfl rfl (by omega)) rfl<|s1 (bc _ 4 rfl rfl rfl rfl (by omega)) rfl<|s1 (qP (o':=0+4*i*1) 4 Tryz.underlying23 aQ rfl rfl (by simp) (by simp [maxLen]) (bs rfl rfl) (bs rfl rfl) (by omega) (by omega) (by omega) (by rw [if_neg (by omega)])) rfl<|s1 (bu Tryz.underlying68 rfl rfl rfl) rfl<|s1 ((aa rfl).v (v':= .i .i64 0) rfl) rfl ?_
  refine ah<|ae<|aM ?_
  refine bF (ι:=Nat) (fun k=> [(0,yv l1),(1,.fp (x.map u8)),(2,.fp [nJ lv,nJ nb,dz D]),(3,.fp [nJ id]),(5,.p 1005 0),(6,nJ i),(7,nJ (j3 (ix x lv id) (4*i) k)),(22,nJ i),(30,.sl 1005 1 (0+4*i*1) 4),(31,nJ 4),(32,nJ k)]) (fun k=>⟨[(2,some ([.sl 11 1 0 i])),(11,some (((gR x lv nb id i).map nJ))),(1005,some ((ix x lv id).map u8))]⟩) (fun k=>k≤4) (fun k=>4 - k) ?_ ?_
  ·exact bE (0) (Nat.zero_le _) [(2,some 2),(11,some 11),(1005,some 1005)] hR1.sub.ids rfl rfl ⟨⟨_,rfl,.pure trivial⟩,⟨_,rfl,.pure pu⟩,⟨_,rfl,.pure pu⟩,⟨_,rfl,.pure pu⟩,⟨_,rfl,.p rfl⟩,⟨_,rfl,.pure pu⟩,⟨_,rfl,.of (by rfl) (.pure pu)⟩,⟨_,rfl,.pure pu⟩,⟨_,rfl,.sl rfl (by first|rfl|omega|(simp<;>omega)|(simp [*]<;>omega))⟩,⟨_,rfl,.pure pu⟩,⟨_,rfl,.pure pu⟩,trivial⟩ ⟨.inr ⟨_,_,rfl,rfl,.cons (.sl rfl rfl) .nil⟩,.inr ⟨_,_,rfl,rfl,.pure aq⟩,.inr ⟨_,_,rfl,rfl,.pure aq⟩,trivial⟩
  rintro k hk
  have hnl:=Cb (ix x lv id) (4*i) k
  have h4:256 ^ k≤256 ^ 4:=Nat.pow_le_pow_right (by omega) hk
  refine af<|ai<|s1 (aa rfl) rfl ?_
  refine ah<|ae<|af ?_
  refine aO rfl (fun hc33=>?_) (fun hc33=>?_)
  ·have h33 : k < 4 := by have := of_decide_eq_true hc33; omega
   have h3:j3 (ix x lv id) (4*i) k<16777216:=Nat.lt_of_lt_of_le hnl (Nat.pow_le_pow_right (by omega) (show k≤3 by omega))
   refine aL<|ae<|af<|aM<|af<|ai<|s1 (lN k Tryz.underlying68 aQ rfl rfl rfl rfl (by omega) rfl) rfl<|s1 (au aQ rfl rfl (Hx k (by simp;omega) rfl)) rfl<|s1 (aa rfl) rfl ?_
   refine ah<|ae<|ai<|s1 (aa rfl) rfl<|s1 ((nE rfl rfl (by decide)).v (congrArg (A.i .i64) (LA _ h3))) rfl<|s1 (aa rfl) rfl<|s1 ((cV Tryz.underlying5 Tryz.underlying3 rfl).v (F8 _)) rfl<|s1 ((ki rfl rfl (.inr (.inl rfl))).v (congrArg (A.i .i64) (JF _ _ h3))) rfl<|s1 (aa rfl) rfl ?_
   refine ah<|bh<|ae<|ai<|s1 (bc _ 1 rfl rfl rfl rfl (by omega)) rfl<|s1 (aa rfl) rfl ?_
   refine ah ?_
   exact br (k+1) (by omega) (by omega) [(2,some 2),(11,some 11),(1005,some 1005)] hR1.sub.ids rfl rfl ⟨⟨_,rfl,.pure trivial⟩,⟨_,rfl,.pure pu⟩,⟨_,rfl,.pure pu⟩,⟨_,rfl,.pure pu⟩,⟨_,rfl,.p rfl⟩,⟨_,rfl,.pure pu⟩,⟨_,rfl,.pure pu⟩,⟨_,rfl,.pure pu⟩,⟨_,rfl,.sl rfl (by first|rfl|omega|(simp<;>omega)|(simp [*]<;>omega))⟩,⟨_,rfl,.pure pu⟩,⟨_,rfl,.pure pu⟩,trivial⟩ ⟨.inr ⟨_,_,rfl,rfl,.cons (.sl rfl rfl) .nil⟩,.inr ⟨_,_,rfl,rfl,.pure aq⟩,.inr ⟨_,_,rfl,rfl,.pure aq⟩,trivial⟩
  ·have h33 : k = 4 := by have := of_decide_eq_false hc33; omega
   subst h33
   refine bC<|aP<|aP<|bD<|ae<|af<|ai<|s1 (aa rfl) rfl<|s1 (aa rfl) rfl<|s1 (bj Tryz.underlying120 rfl an (by decide) rfl rfl) rfl<|s1 (au an rfl rfl rfl) rfl<|s1 (iF (j3 (ix x lv id) (4*i) 4) nb rfl rfl rfl rfl hnb) rfl ?_
   refine rD [2,1005] [(0,_),(1,_),(2,_),(3,_),(5,_),(6,_),(7,_),(22,_),(30,_),(31,_),(32,_),(33,_),(42,_),(43,_),(44,_),(45,_),(46,_)] hR1 hR1.sub.ids rfl ⟨rfl,⟨rfl,⟨rfl,⟨rfl,⟨rfl,⟨rfl,⟨rfl,⟨rfl,⟨rfl,⟨rfl,⟨rfl,⟨rfl,⟨rfl,⟨rfl,⟨rfl,⟨rfl,⟨rfl,trivial⟩⟩⟩⟩⟩⟩⟩⟩⟩⟩⟩⟩⟩⟩⟩⟩⟩ (by first|rfl|(simp [jx,jA,refs,eu,mj,refs_pu,cw];done)) rfl rfl rfl rfl rfl fun w2 tm2 hd2=>?_
   refine ai<|s1 (aa rfl) rfl ?_
   refine ah ?_
   refine rz hd2 fun w3 hd3=>?_
   refine aM<|ai<|s1 (au ia rfl rfl rfl) rfl<|s1 (aa rfl) rfl ?_
   refine ak rfl (dG 10 rfl Tryz.underlying30 an rfl rfl rfl rfl rfl ?_)
   refine ak rfl (cT 111 rfl Tryz.underlying30 an rfl (.sl rfl (by simp)) rfl (cE rfl (by first|rfl|omega|(simp<;>omega)|(simp [*]<;>omega))) (by first|rfl|omega|(simp<;>omega)|(simp [*]<;>omega)) (by first|omega|(simp only [maxLen];omega)|(simp [maxLen];done)|(simp [maxLen];omega)|(simp [maxLen, *];omega)) (by first|omega|(simp only [maxLen];omega)|(simp [maxLen];done)|(simp [maxLen];omega)|(simp [maxLen, *];omega)) rfl rfl rfl ?_)
   refine ak rfl (bZ ia rfl rfl rfl rfl (by first|rfl|omega|(simp<;>omega)|(simp [*]<;>omega)) rfl ?_)
   refine ah<|bh ?_
   refine rB hR1 hd3 rfl ?_
   refine s1 (aa rfl) rfl ?_
   refine ah<|ae ?_
   refine cF rfl ?_
   refine aL<|bh<|ae<|ai<|s1 (bc _ 1 rfl rfl rfl rfl (by omega)) rfl<|s1 (aa rfl) rfl ?_
   refine ah ?_
   exact br (i+1) (by omega) (by omega) [(2,some 2),(11,some 111),(1005,some 1005)] hR1.sub.ids rfl rfl ⟨⟨_,rfl,.pure trivial⟩,⟨_,rfl,.pure pu⟩,⟨_,rfl,.pure pu⟩,⟨_,rfl,.pure pu⟩,⟨_,rfl,.p rfl⟩,⟨_,rfl,.pure pu⟩,trivial⟩ ⟨.inr ⟨_,_,rfl,rfl,.cons (.sl rfl (by first|rfl|omega|(simp<;>omega)|(simp [*]<;>omega))) .nil⟩,.inr ⟨_,_,rfl,rfl,.of (by rw [Fj];simp) (.pure aq)⟩,.inr ⟨_,_,rfl,rfl,.pure aq⟩,trivial⟩
 ·have h23 : i = 2 := by have := of_decide_eq_false hc23; omega
  subst h23
  refine bC<|aP<|aP<|bD ?_
  refine uY rfl hR1 hS ?_
  refine bh<|ae<|af<|ai<|s1 (au ia rfl rfl rfl) rfl<|s1 (aa rfl) rfl ?_
  refine ah<|ae<|aE ?_
  refine px (rs:= [.tmp 4]) rfl rfl rfl hS (dn:= [D1]) rfl rfl (by simp) rfl (aD rfl aB) ⟨11,rfl,rfl⟩
theorem F5 (x:List UInt8) (lv nb id:Nat) (D:List UInt8) (hx:x.length=32) (hnb:0<nb):aA Tryz.prog 112 [.fn (.func 207) [] [.fp (x.map u8),.fp [nJ lv,nJ nb,dz D],.fp [nJ id]]] (aN (.fz 2 ((gR x lv nb id 2).map nJ))):=by
 refine enter Tryz.func112 rfl Tryz.ntmps112 (by kernel_rfl) (Nat.le_of_ble_eq_true rfl) fun w0 X0 hI=>?_
 refine af<|ai<|s1 (aa rfl) rfl ?_
 refine ah<|ae<|af<|ai<|s1 (aa rfl) rfl ?_
 refine ak rfl (iP 4 rfl false rfl (.cons (.pure pu) (.cons (.pure pu) .nil)) (ER x lv nb id D hx hnb) aq (.inl rfl) rfl ?_)
 refine s1 (aa rfl) rfl ?_
 refine ah<|ae<|aE ?_
 refine gp 2 rfl rfl aq (cm (by simp) rfl) ?_
 refine aF (rs:= [.tmp 2]) rfl (aD rfl aB) rfl
theorem tR (a b:Int):aA Tryz.prog 118 [.i .i64 a,.i .i64 b] (aN (.b (decide (fb a b)))):=by
 refine enter Tryz.func118 rfl Tryz.ntmps118 (by kernel_rfl) (Nat.le_of_ble_eq_true rfl) fun w0 X0 hI=>?_
 refine af<|ai<|s1 (aa rfl) rfl ?_
 refine ah<|ae<|af<|ai<|s1 (aa rfl) rfl<|s1 (aa rfl) rfl<|s1 (aa rfl) rfl ?_
 refine dC 2 rfl rfl rfl rfl (fun hb7=> .step (aa rfl) rfl rfl<| .step (aa rfl) rfl rfl<| .done) rfl rfl ?_
 refine s1 (aa rfl) rfl ?_
 refine dC 2 rfl rfl rfl rfl (fun hb11=> .step (aa rfl) rfl rfl<| .step (aa rfl) rfl rfl<| .done) rfl rfl ?_
 refine s1 (aa rfl) rfl ?_
 refine dC 2 rfl rfl rfl rfl (fun hb15=> .step (aa rfl) rfl rfl<| .step (aa rfl) rfl rfl<| .done) rfl rfl ?_
 refine s1 (aa rfl) rfl ?_
 refine ah<|ae<|aE ?_
 refine aF (rs:= [.tmp 4]) rfl (aD rfl aB) ?_
 exact congrArg A.b (by rw [Bool.eq_iff_iff,decide_eq_true_eq];simp [fb,and_assoc])
end Go.Abs.D2
-- F3D
namespace Go.Abs.D2
open Go Go.Eng Go.Abs Go.Proofs
theorem Hk (lv nb:Int):aA Tryz.prog 74 [.i .i64 lv,.i .i64 nb] (aN (newA lv nb)):=by
 refine enter Tryz.func74 rfl Tryz.ntmps74 (by kernel_rfl) (Nat.le_of_ble_eq_true rfl) fun w0 X0 hI=>?_
 refine af<|ai ?_
 refine ak rfl (bp 4 rfl cJ rfl rfl ?_)
 refine s1 ((aa rfl).v (v':= .i .i64 0) rfl) rfl ?_
 refine ah<|ae<|af<|af ?_
 rcases Decidable.em (fb lv nb)with hcs|hcs
 ·obtain ⟨l, n, rfl, rfl, h1, h2, h3⟩ := xD hcs
  refine ai<|s1 (aa rfl) rfl<|s1 (aa rfl) rfl ?_
  refine ak rfl (aI false rfl (.cons (.pure pu) (.cons (.pure pu) (.nil))) (aA.cast (tR _ _) (congrArg A.b (decide_eq_true hcs))) pu (.inl rfl) rfl ?_)
  refine s1 (aa rfl) rfl ?_
  refine ah<|ae ?_
  refine cF rfl ?_
  refine aL<|ae<|af<|ai<|s1 (aa rfl) rfl<|s1 (aa rfl) rfl<|s1 (aa rfl) rfl<|s1 (bc n 7 rfl rfl rfl rfl (by omega)) rfl<|s1 (iS (n+7) 8 rfl rfl rfl rfl (by omega) (by omega)) rfl ?_
  refine ak rfl (qi 16 rfl _ _ Tryz.underlying68 aQ rfl rfl rfl rfl rfl (by first|omega|(simp only [maxLen];omega)|(simp [maxLen];done)|(simp [maxLen];omega)|(simp [maxLen, *];omega)) (by first|omega|(simp only [maxLen];omega)|(simp [maxLen];done)|(simp [maxLen];omega)|(simp [maxLen, *];omega)) (by first|omega|(simp only [maxLen];omega)|(simp [maxLen];done)|(simp [maxLen];omega)|(simp [maxLen, *];omega)) rfl ?_)
  refine s1 (ey (out:= [_,_,_]) [[a6 (.int .i64 0)], [a6 (.int .i64 0)], [a6 (.slice none 0 0)]] cJ rfl Tryz.underlying120 (by kernel_rfl) rfl rfl ⟨⟨by(first|rfl|omega|(simp;done)|(simp [*];done)|(simp [aY, *];done)),rfl⟩,⟨⟨by(first|rfl|omega|(simp;done)|(simp [*];done)|(simp [aY, *];done)),rfl⟩,⟨⟨by(first|rfl|omega|(simp;done)|(simp [*];done)|(simp [aY, *];done)),rfl⟩,trivial⟩⟩⟩ rfl) rfl ?_
  refine ak rfl (bb cJ rfl rfl rfl (by first|rfl|omega|(simp<;>omega)|(simp [*]<;>omega)) (by first|rfl|omega|(simp<;>omega)|(simp [*]<;>omega)) ?_)
  refine s1 ((aa rfl).v (v':= .i .i64 0) rfl) rfl ?_
  refine ah<|ae<|aE ?_
  refine jL 4 2 rfl rfl rfl rfl aq (cm (by simp) (MX _)) rfl ?_
  refine aF (rs:= [.cell 4 120,.tmp 5]) rfl (bW cJ rfl rfl rfl rfl (aD rfl aB)) ?_
  show A.tu _=_
  rw [B3 hcs,jo,dz,List.length_replicate];rfl
 ·skip
  refine ai<|s1 (aa rfl) rfl<|s1 (aa rfl) rfl ?_
  refine ak rfl (aI false rfl (.cons (.pure pu) (.cons (.pure pu) (.nil))) (aA.cast (tR _ _) (congrArg A.b (decide_eq_false hcs))) pu (.inl rfl) rfl ?_)
  refine s1 (aa rfl) rfl ?_
  refine ah<|ae ?_
  refine bR rfl ?_
  refine af<|ai<|s1 (aV cJ rfl rfl (by first|rfl|omega|(simp<;>omega)|(simp [*]<;>omega))) rfl ?_
  refine ak rfl (bb cJ rfl rfl rfl (by first|rfl|omega|(simp<;>omega)|(simp [*]<;>omega)) (by first|rfl|omega|(simp<;>omega)|(simp [*]<;>omega)) ?_)
  refine s1 ((aa rfl).v (v':= .i .i64 330) rfl) rfl ?_
  refine ah<|ae<|aE<|aH ?_
  refine iK 4 rfl (.cons (.eq rfl) (.cons (.eq rfl) (.cons .nl .nil))) ?_
  refine aF (rs:= [.cell 4 120,.tmp 5]) rfl (bW cJ rfl rfl rfl rfl (aD rfl aB)) ?_
  show A.tu _=_
  rw [IZ hcs];rfl
theorem vT (lv nb:Int) (D:List UInt8):aA Tryz.prog 123 [.ag [.i .i64 lv,.i .i64 nb,dz D]] (aN (.i .i64 (oa (cM lv nb D)))):=by
 refine enter Tryz.func123 rfl Tryz.ntmps123 (by kernel_rfl) (Nat.le_of_ble_eq_true rfl) fun w0 X0 hI=>?_
 refine af<|ai ?_
 refine ak rfl (bK 1 rfl rfl rfl ?_)
 refine s1 ((aa rfl).v (v':= .i .i64 0) rfl) rfl ?_
 refine ah<|ae<|af<|af ?_
 rcases Decidable.em (fb lv nb)with hcs|hcs
 ·obtain ⟨l, n, rfl, rfl, h1, h2, h3⟩ := xD hcs
  refine ai<|s1 (aC Tryz.underlying120 rfl an (by decide) rfl rfl) rfl<|s1 (au an rfl rfl rfl) rfl<|s1 (aC Tryz.underlying120 rfl an (by decide) rfl rfl) rfl<|s1 (au an rfl rfl rfl) rfl ?_
  refine ak rfl (aI false rfl (.cons (.pure pu) (.cons (.pure pu) (.nil))) (aA.cast (tR _ _) (congrArg A.b (decide_eq_true hcs))) pu (.inl rfl) rfl ?_)
  refine s1 (aa rfl) rfl<|s1 (aa rfl) rfl<|g1 rfl rfl (aC Tryz.underlying120 rfl ef (by decide) rfl rfl) rfl<|g1 rfl rfl (au ef rfl rfl rfl) rfl<|g1 rfl rfl (bu Tryz.underlying68 rfl rfl rfl) rfl<|g1 rfl rfl (aC Tryz.underlying120 rfl an (by decide) rfl rfl) rfl<|g1 rfl rfl (au an rfl rfl rfl) rfl<|g1 rfl rfl (bc n 7 rfl rfl rfl rfl (by omega)) rfl<|g1 rfl rfl (iS (n+7) 8 rfl rfl rfl rfl (by omega) (by omega)) rfl<|g1 rfl rfl (aa rfl) rfl ?_
  refine s1 (aa rfl) rfl ?_
  refine ah<|ae ?_
  refine aO rfl (fun hc19=>?_) (fun hc19=>?_)
  ·have hl : D.length ≠ (n + 7) / 8 := by intro h; rw [h] at hc19; simp at hc19
   refine af<|ai<|s1 ((aa rfl).v (v':= .i .i64 330) rfl) rfl ?_
   refine ah<|ae<|aE<|aH ?_
   refine aF (rs:= [.tmp 2]) rfl (aD rfl aB) ?_
   show A.i _ _=_
   rw [zA hl];rfl
  ·have hl : D.length = (n + 7) / 8 := by simp at hc19; omega
   have hct:=zC h1 h2 h3 hl
   refine aL<|ae<|af<|af<|ai<|s1 (aC Tryz.underlying120 rfl an (by decide) rfl rfl) rfl<|s1 (au an rfl rfl rfl) rfl<|s1 (iF n 8 rfl rfl rfl rfl (by omega)) rfl<|s1 (aa rfl) rfl ?_
   refine ah<|ae<|af<|ai<|s1 (aa rfl) rfl<|s1 (aa rfl) rfl<|s1 (aa rfl) rfl ?_
   refine dC 11 rfl rfl rfl rfl (fun hb25=> .step (aC Tryz.underlying120 rfl ef (by decide) rfl rfl) rfl rfl<| .step (au ef rfl rfl rfl) rfl rfl<| .step (aC Tryz.underlying120 rfl ef (by decide) rfl rfl) rfl rfl<| .step (au ef rfl rfl rfl) rfl rfl<| .step (bu Tryz.underlying68 rfl rfl rfl) rfl rfl<| .step (cQ D.length 1 rfl rfl rfl rfl (by omega) (by omega)) rfl rfl<| .step (aT (D.length - 1) Tryz.underlying68 aQ rfl rfl rfl (by omega) rfl) rfl rfl<| .step (au aQ rfl rfl (A1 (by omega))) rfl rfl<| .step (aa rfl) rfl rfl<| .step (qF (D.getD (D.length - 1) 0) (n % 8) rfl rfl rfl (by omega)) rfl rfl<| .step ((aa rfl).v (v':= .b (!((D.getD (D.length - 1) 0).toNat / 2 ^ (n % 8)==0))) (congrArg A.b (LD _ _))) rfl rfl<| .done) rfl rfl ?_
   refine ah<|ae ?_
   refine aO rfl (fun hc37=>?_) (fun hc37=>?_)
   ·have hf : cM l n D = false := by rw [hct]; simp at hc37 ⊢; omega
    refine af<|ai<|s1 ((aa rfl).v (v':= .i .i64 330) rfl) rfl ?_
    refine ah<|ae<|aE<|aH ?_
    refine aF (rs:= [.tmp 2]) rfl (aD rfl aB) ?_
    show A.i _ _=_
    rw [hf];rfl
   ·have hf : cM l n D = true := by rw [hct]; simp at hc37 ⊢; omega
    refine aL<|ae<|af<|ai<|s1 ((aa rfl).v (v':= .i .i64 0) rfl) rfl ?_
    refine ah<|ae<|aE ?_
    refine aF (rs:= [.tmp 2]) rfl (aD rfl aB) ?_
    show A.i _ _=_
    rw [hf];rfl
 ·skip
  refine ai<|s1 (aC Tryz.underlying120 rfl an (by decide) rfl rfl) rfl<|s1 (au an rfl rfl rfl) rfl<|s1 (aC Tryz.underlying120 rfl an (by decide) rfl rfl) rfl<|s1 (au an rfl rfl rfl) rfl ?_
  refine ak rfl (aI false rfl (.cons (.pure pu) (.cons (.pure pu) (.nil))) (aA.cast (tR _ _) (congrArg A.b (decide_eq_false hcs))) pu (.inl rfl) rfl ?_)
  refine s1 (aa rfl) rfl<|s1 (aa rfl) rfl<|g0 rfl rfl rfl rfl<|g0 rfl rfl rfl rfl<|g0 rfl rfl rfl rfl<|g0 rfl rfl rfl rfl<|g0 rfl rfl rfl rfl<|g0 rfl rfl rfl rfl<|g0 rfl rfl rfl rfl<|g0 rfl rfl rfl rfl ?_
  refine s1 (aa rfl) rfl ?_
  refine ah<|ae ?_
  refine bR rfl ?_
  refine af<|ai<|s1 ((aa rfl).v (v':= .i .i64 330) rfl) rfl ?_
  refine ah<|ae<|aE<|aH ?_
  refine aF (rs:= [.tmp 2]) rfl (aD rfl aB) ?_
  show A.i _ _=_
  rw [zB hcs];rfl
theorem sn (x:List UInt8) (lv nb id:Int) (D:List UInt8) (hx:x.length=32):aA Tryz.prog 119 [.ag (x.map u8),.ag [.i .i64 lv,.i .i64 nb,dz D],.i .i64 id] (aN (bitsA x lv nb D id)):=by
 refine enter Tryz.func119 rfl Tryz.ntmps119 (by kernel_rfl) (Nat.le_of_ble_eq_true rfl) fun w0 X0 hI=>?_
 refine af<|ai ?_
 refine ak rfl (bK 3 rfl rfl rfl ?_)
 refine ak rfl (bK 4 rfl rfl rfl ?_)
 refine s1 (aa rfl) rfl<|s1 ((aa rfl).v (v':= .i .i64 0) rfl) rfl ?_
 refine ah<|ae<|af<|af ?_
 rcases tf (cM lv nb D)with hcs|hcs
 ·skip
  refine ai<|s1 (aV cJ rfl rfl (by first|rfl|omega|(simp<;>omega)|(simp [*]<;>omega))) rfl ?_
  refine ak rfl (aI false rfl (.cons (.pure pu) (.nil)) (aA.cast (vT _ _ _) (congrArg (A.i .i64) (by rw [hcs];rfl:oa (cM lv nb D)=330))) pu (.inl rfl) rfl ?_)
  refine s1 (aa rfl) rfl ?_
  refine ah<|ae<|af<|ai<|s1 (aa rfl) rfl<|s1 ((aa rfl).v (v':= .b true) (rfl)) rfl ?_
  refine ah<|ae ?_
  refine bR rfl ?_
  refine af<|ai<|s1 (aa rfl) rfl<|s1 (aa rfl) rfl<|s1 (aa rfl) rfl ?_
  refine ah<|ae<|aE<|aH ?_
  refine aF (rs:= [.tmp 6,.tmp 7]) rfl (aD rfl (aD rfl aB)) ?_
  show A.tu _=_
  rw [rH (Jq hcs)];rfl
 ·skip
  refine ai<|s1 (aV cJ rfl rfl (by first|rfl|omega|(simp<;>omega)|(simp [*]<;>omega))) rfl ?_
  refine ak rfl (aI false rfl (.cons (.pure pu) (.nil)) (aA.cast (vT _ _ _) (congrArg (A.i .i64) (by rw [hcs];rfl:oa (cM lv nb D)=0))) pu (.inl rfl) rfl ?_)
  refine s1 (aa rfl) rfl ?_
  refine ah<|ae<|af<|ai<|s1 (aa rfl) rfl<|s1 ((aa rfl).v (v':= .b false) (rfl)) rfl ?_
  refine ah<|ae ?_
  refine cF rfl ?_
  refine aL<|ae<|af<|af<|ai<|s1 (aa rfl) rfl<|s1 (aa rfl) rfl<|s1 (aa rfl) rfl ?_
  refine fJ 2 rfl rfl rfl rfl (fun hb16=> .step (aa rfl) rfl rfl<| .step (aa rfl) rfl rfl<| .done) rfl rfl ?_
  refine ah<|ae ?_
  refine aO rfl (fun hc19=>?_) (fun hc19=>?_)
  ·have h19 : ¬ (0 ≤ id ∧ id < 1024) := by simp at hc19; omega
   refine af<|ai<|s1 (aa rfl) rfl<|s1 ((aa rfl).v (v':= .i .i64 330) rfl) rfl ?_
   refine ah<|ae<|aE<|aH ?_
   refine aF (rs:= [.tmp 6,.tmp 7]) rfl (aD rfl (aD rfl aB)) ?_
   show A.tu _=_
   rw [rH (Jr h19)];rfl
  ·have h19 : 0 ≤ id ∧ id < 1024 := by simp at hc19; omega
   have hk:=Cx hcs h19
   obtain⟨l,n,j,rfl,rfl,rfl,h1,h2,h3,h4,h5,h6⟩:=s9 hk
   refine aL<|ae<|af<|ai<|s1 (aV az rfl rfl (by first|rfl|omega|(simp<;>omega)|(simp [*]<;>omega))) rfl<|s1 (aV cJ rfl rfl (by first|rfl|omega|(simp<;>omega)|(simp [*]<;>omega))) rfl<|s1 (aa rfl) rfl ?_
   refine ak rfl (aI false rfl (.cons (.pure pu) (.cons (.pure pu) (.cons (.pure pu) (.nil)))) (Fp x _ _ _ D) pu (.inl rfl) rfl ?_)
   refine ak rfl (aI false rfl (.cons (.pure pu) (.nil)) (F5 x l n j D hx (by omega)) pu (.inl rfl) rfl ?_)
   refine s1 (aa rfl) rfl<|s1 ((aa rfl).v (v':= .i .i64 0) rfl) rfl ?_
   refine ah<|ae<|aE ?_
   refine aF (rs:= [.tmp 6,.tmp 7]) rfl (aD rfl (aD rfl aB)) ?_
   show A.tu _=_
   exact(u4 hk).symm
theorem G6 (x:List UInt8) (lv nb id:Int) (D:List UInt8) (hx:x.length=32):aA Tryz.prog 78 [.ag (x.map u8),.ag [.i .i64 lv,.i .i64 nb,dz D],.i .i64 id] (aN (hasA x lv nb D id)):=by
 refine enter Tryz.func78 rfl Tryz.ntmps78 (by kernel_rfl) (Nat.le_of_ble_eq_true rfl) fun w0 X0 hI=>?_
 refine af<|ai ?_
 refine ak rfl (bK 3 rfl rfl rfl ?_)
 refine ak rfl (bK 4 rfl rfl rfl ?_)
 refine s1 (aa rfl) rfl<|s1 ((aa rfl).v (v':= .i .i64 0) rfl) rfl ?_
 refine ah<|ae<|af ?_
 rcases tf (okB lv nb D id)with hcs|hcs
 ·skip
  refine ai<|s1 (aV az rfl rfl (by first|rfl|omega|(simp<;>omega)|(simp [*]<;>omega))) rfl<|s1 (aV cJ rfl rfl (by first|rfl|omega|(simp<;>omega)|(simp [*]<;>omega))) rfl<|s1 (aa rfl) rfl ?_
  refine ak rfl (aI false rfl (.cons (.pure pu) (.cons (.pure pu) (.cons (.pure pu) (.nil)))) (aA.cast (sn x _ _ _ D hx) (rH hcs)) pu (.inl rfl) rfl ?_)
  refine s1 (aa rfl) rfl<|s1 (aa rfl) rfl<|s1 (aa rfl) rfl<|s1 (aa rfl) rfl<|s1 (aa rfl) rfl ?_
  refine ah<|ae<|af<|af<|ai<|s1 (aa rfl) rfl<|s1 ((aa rfl).v (v':= .b true) (rfl)) rfl ?_
  refine ah<|ae ?_
  refine bR rfl ?_
  refine af<|ai<|s1 (aa rfl) rfl<|s1 (aa rfl) rfl<|s1 (aa rfl) rfl ?_
  refine ah<|ae<|aE<|aH ?_
  refine aF (rs:= [.tmp 6,.tmp 7]) rfl (aD rfl (aD rfl aB)) ?_
  show A.tu _=_
  rw [HN hcs];rfl
 ·obtain ⟨l, n, j, rfl, rfl, rfl, h1, h2, h3, h4, h5, h6⟩ := s9 hcs
  refine ai<|s1 (aV az rfl rfl (by first|rfl|omega|(simp<;>omega)|(simp [*]<;>omega))) rfl<|s1 (aV cJ rfl rfl (by first|rfl|omega|(simp<;>omega)|(simp [*]<;>omega))) rfl<|s1 (aa rfl) rfl ?_
  refine ak rfl (aI false rfl (.cons (.pure pu) (.cons (.pure pu) (.cons (.pure pu) (.nil)))) (aA.cast (sn x _ _ _ D hx) (u4 hcs)) pu (.inl rfl) rfl ?_)
  refine s1 (aa rfl) rfl<|s1 (aa rfl) rfl<|s1 (aa rfl) rfl<|s1 (aa rfl) rfl<|s1 (aa rfl) rfl ?_
  refine ah<|ae<|af<|af<|ai<|s1 (aa rfl) rfl<|s1 ((aa rfl).v (v':= .b false) (rfl)) rfl ?_
  refine ah<|ae ?_
  refine cF rfl ?_
  refine aL<|ae<|af<|af<|ai<|s1 (aa rfl) rfl<|s1 (bu Tryz.underlying30 rfl rfl rfl) rfl<|s1 ((aa rfl).v (v':= .i .i64 0) rfl) rfl ?_
  refine ah<|ae<|aM ?_
  refine bF (ι:=Nat) (fun i=> [(4,.p 4 0),(21,.fz 2 ((gR x l n j 2).map nJ)),(22,nJ 2),(23,nJ i)]) (fun i=>⟨[(4,some ([nJ l,nJ n,dz D]))]⟩) (fun i=>i≤2∧∀t,t<i→fR D (bN x l n j t)=true) (fun i=>2 - i) ?_ ?_
  ·exact bE (0) (⟨by omega,fun t ht=>absurd ht (by omega)⟩) [(4,some 4)] hI rfl rfl ⟨⟨_,rfl,.p rfl⟩,⟨_,rfl,.pure pu⟩,⟨_,rfl,.pure pu⟩,⟨_,rfl,.pure pu⟩,trivial⟩ ⟨.inr ⟨_,_,rfl,rfl,.pure aq⟩,trivial⟩
  rintro i ⟨hi,hall⟩
  have hbi:bN x l n j i<n:=nU (by omega) i
  refine af<|ai<|s1 (aa rfl) rfl ?_
  refine ah<|ae<|af ?_
  refine aO rfl (fun hc24=>?_) (fun hc24=>?_)
  ·have h24 : i < 2 := by have := of_decide_eq_true hc24; omega
   refine aL<|ae<|af<|aM<|af<|ai<|s1 (aT i Tryz.underlying30 an rfl rfl rfl (by omega) rfl) rfl<|s1 (au an rfl rfl (yR x l n j i h24)) rfl<|s1 (aa rfl) rfl ?_
   refine ah<|ae<|af<|ai<|s1 (aC Tryz.underlying120 rfl ef (by decide) rfl rfl) rfl<|s1 (au ef rfl rfl rfl) rfl<|s1 (aa rfl) rfl<|s1 (iS _ 8 rfl rfl rfl rfl (by omega) (by omega)) rfl<|s1 (aT (bN x l n j i / 8) Tryz.underlying68 aQ rfl rfl rfl (by omega) rfl) rfl<|s1 (au aQ rfl rfl (A1 (by omega))) rfl<|s1 (aa rfl) rfl<|s1 (iF _ 8 rfl rfl rfl rfl (by omega)) rfl<|s1 (qF (D.getD (bN x l n j i / 8) 0) (bN x l n j i % 8) rfl rfl rfl (by omega)) rfl<|s1 (uR _ (1:UInt8) rfl rfl) rfl ?_
   refine s1 ((aa rfl).v (v':= .b (!fR D (bN x l n j i))) (congrArg A.b (HL _ _))) rfl ?_
   refine ah<|ae ?_
   refine aO rfl (fun hc37=>?_) (fun hc37=>?_)
   ·have hb : fR D (bN x l n j i) = false := by simpa using hc37
    refine af<|ai<|s1 (aa rfl) rfl<|s1 ((aa rfl).v (v':= .i .i64 0) rfl) rfl ?_
    refine ah<|ae<|aE<|bg<|aH<|aH<|bg<|aH ?_
    refine aF (rs:= [.tmp 6,.tmp 7]) rfl (aD rfl (aD rfl aB)) ?_
    show A.tu _=_
    rw [Ba hcs,HJ h24 hb];rfl
   ·have hb : fR D (bN x l n j i) = true := by simpa using hc37
    refine aL<|bh<|ae<|ai<|s1 (bc _ 1 rfl rfl rfl rfl (by omega)) rfl<|s1 (aa rfl) rfl ?_
    refine ah ?_
    exact br (i+1) (⟨by omega,uP hall hb⟩) (by omega) [(4,some 4)] hI rfl rfl ⟨⟨_,rfl,.p rfl⟩,⟨_,rfl,.pure pu⟩,⟨_,rfl,.pure pu⟩,⟨_,rfl,.pure pu⟩,trivial⟩ ⟨.inr ⟨_,_,rfl,rfl,.pure aq⟩,trivial⟩
  ·have h24 : i = 2 := by have := of_decide_eq_false hc24; omega
   subst h24
   refine bC<|aP<|aP<|bD<|ae<|af<|ai<|s1 (aa rfl) rfl<|s1 ((aa rfl).v (v':= .i .i64 0) rfl) rfl ?_
   refine ah<|ae<|aE ?_
   refine aF (rs:= [.tmp 6,.tmp 7]) rfl (aD rfl (aD rfl aB)) ?_
   show A.tu _=_
   rw [Ba hcs,HK hall];rfl
theorem vU (D:List UInt8) (h:0<D.length) (hD:D.length≤1000000):aA Tryz.prog 51 [dz D] (dq 1 D.length (D.map u8)):=by
 refine enter Tryz.func51 rfl Tryz.ntmps51 (by kernel_rfl) (Nat.le_of_ble_eq_true rfl) fun w0 X0 hI=>?_
 refine af<|ai<|s1 (aa rfl) rfl ?_
 refine ah<|ae<|af<|af<|ai<|s1 (aa rfl) rfl<|s1 (xY Tryz.underlying68 rfl rfl h) rfl ?_
 refine ah<|ae ?_
 refine cF rfl ?_
 refine aL<|ae<|af<|ai ?_
 refine ak rfl (dG 5 rfl Tryz.underlying68 aQ rfl rfl rfl rfl rfl ?_)
 refine s1 (aa rfl) rfl ?_
 refine ak rfl (cT 7 rfl Tryz.underlying68 aQ rfl (.sl rfl (by first|rfl|omega|(simp<;>omega)|(simp [*]<;>omega))) rfl rfl (by first|rfl|omega|(simp<;>omega)|(simp [*]<;>omega)) (by first|omega|(simp only [maxLen];omega)|(simp [maxLen];done)|(simp [maxLen];omega)|(simp [maxLen, *];omega)) (by first|omega|(simp only [maxLen];omega)|(simp [maxLen];done)|(simp [maxLen];omega)|(simp [maxLen, *];omega)) rfl rfl rfl ?_)
 refine s1 (aa rfl) rfl ?_
 refine ah<|ae<|aE ?_
 refine aF (rs:= [.tmp 2]) rfl (aD rfl aB) ⟨7,congrArg (A.sl 7 1 0) (Nat.zero_add _),rfl⟩
theorem G4 (x:List UInt8) (lv nb id:Int) (D:List UInt8) (hx:x.length=32):aA Tryz.prog 75 [.ag (x.map u8),.ag [.i .i64 lv,.i .i64 nb,dz D],.i .i64 id] (aN (addA x lv nb D id)):=by
 refine enter Tryz.func75 rfl Tryz.ntmps75 (by kernel_rfl) (Nat.le_of_ble_eq_true rfl) fun w0 X0 hI=>?_
 refine af<|ai ?_
 refine ak rfl (bK 3 rfl rfl rfl ?_)
 refine ak rfl (bK 4 rfl rfl rfl ?_)
 refine ak rfl (bp 6 rfl cJ rfl rfl ?_)
 refine s1 ((aa rfl).v (v':= .i .i64 0) rfl) rfl ?_
 refine ah<|ae<|af ?_
 rcases tf (okB lv nb D id)with hcs|hcs
 ·skip
  refine ai<|s1 (aV az rfl rfl (by first|rfl|omega|(simp<;>omega)|(simp [*]<;>omega))) rfl<|s1 (aV cJ rfl rfl (by first|rfl|omega|(simp<;>omega)|(simp [*]<;>omega))) rfl<|s1 (aa rfl) rfl ?_
  refine ak rfl (aI false rfl (.cons (.pure pu) (.cons (.pure pu) (.cons (.pure pu) (.nil)))) (aA.cast (sn x _ _ _ D hx) (rH hcs)) pu (.inl rfl) rfl ?_)
  refine s1 (aa rfl) rfl<|s1 (aa rfl) rfl<|s1 (aa rfl) rfl<|s1 (aa rfl) rfl<|s1 (aa rfl) rfl ?_
  refine ah<|ae<|af<|af<|ai<|s1 (aa rfl) rfl<|s1 ((aa rfl).v (v':= .b true) (rfl)) rfl ?_
  refine ah<|ae ?_
  refine bR rfl ?_
  refine af<|ai<|s1 (aV cJ rfl rfl (by first|rfl|omega|(simp<;>omega)|(simp [*]<;>omega))) rfl<|s1 (aa rfl) rfl ?_
  refine ak rfl (bb cJ rfl rfl rfl (by first|rfl|omega|(simp<;>omega)|(simp [*]<;>omega)) (by first|rfl|omega|(simp<;>omega)|(simp [*]<;>omega)) ?_)
  refine s1 (aa rfl) rfl ?_
  refine ah<|ae<|aE<|aH ?_
  refine iK 6 rfl (.cons (.eq rfl) (.cons (.eq rfl) (.cons .nl .nil))) ?_
  refine aF (rs:= [.cell 6 120,.tmp 7]) rfl (bW cJ rfl rfl rfl rfl (aD rfl aB)) ?_
  show A.tu _=_
  rw [EG hcs];rfl
 ·obtain ⟨l, n, j, rfl, rfl, rfl, h1, h2, h3, h4, h5, h6⟩ := s9 hcs
  refine ai<|s1 (aV az rfl rfl (by first|rfl|omega|(simp<;>omega)|(simp [*]<;>omega))) rfl<|s1 (aV cJ rfl rfl (by first|rfl|omega|(simp<;>omega)|(simp [*]<;>omega))) rfl<|s1 (aa rfl) rfl ?_
  refine ak rfl (aI false rfl (.cons (.pure pu) (.cons (.pure pu) (.cons (.pure pu) (.nil)))) (aA.cast (sn x _ _ _ D hx) (u4 hcs)) pu (.inl rfl) rfl ?_)
  refine s1 (aa rfl) rfl<|s1 (aa rfl) rfl<|s1 (aa rfl) rfl<|s1 (aa rfl) rfl<|s1 (aa rfl) rfl ?_
  refine ah<|ae<|af<|af<|ai<|s1 (aa rfl) rfl<|s1 ((aa rfl).v (v':= .b false) (rfl)) rfl ?_
  refine ah<|ae ?_
  refine cF rfl ?_
  refine aL<|ae<|af<|ai<|s1 (aV cJ rfl rfl (by first|rfl|omega|(simp<;>omega)|(simp [*]<;>omega))) rfl ?_
  refine ak rfl (bb cJ rfl rfl rfl (by first|rfl|omega|(simp<;>omega)|(simp [*]<;>omega)) (by first|rfl|omega|(simp<;>omega)|(simp [*]<;>omega)) ?_)
  refine ah<|ae<|af<|ai<|s1 (aC Tryz.underlying120 rfl ef (by decide) rfl rfl) rfl<|s1 (au ef rfl rfl rfl) rfl ?_
  refine ak rfl (iP 25 rfl false rfl (.cons (.pure pu) (.nil)) (vU D (by omega) (by omega)) aq (.inl rfl) rfl ?_)
  refine s1 (aC Tryz.underlying120 rfl ef (by decide) rfl rfl) rfl ?_
  refine ak rfl (bZ ef rfl rfl rfl rfl (by first|rfl|omega|(simp<;>omega)|(simp [*]<;>omega)) rfl ?_)
  refine ah<|ae<|af<|af<|ai<|s1 (aa rfl) rfl<|s1 (bu Tryz.underlying30 rfl rfl rfl) rfl<|s1 ((aa rfl).v (v':= .i .i64 0) rfl) rfl ?_
  refine ah<|ae<|aM ?_
  refine bF (ι:=Nat) (fun i=> [(6,.p 6 0),(27,.fz 2 ((gR x l n j 2).map nJ)),(28,nJ 2),(29,nJ i)]) (fun i=>⟨[(6,some ([nJ l,nJ n,.sl 25 1 0 D.length])),(25,some ((oS x l n j D i).map u8))]⟩) (fun i=>i≤2) (fun i=>2 - i) ?_ ?_
  ·exact bE (0) (Nat.zero_le _) [(6,some 6),(25,some 25)] hI rfl rfl ⟨⟨_,rfl,.p rfl⟩,⟨_,rfl,.pure pu⟩,⟨_,rfl,.pure pu⟩,⟨_,rfl,.pure pu⟩,trivial⟩ ⟨.inr ⟨_,_,rfl,rfl,.cons (.pure pu) (.cons (.pure pu) (.cons (.sl rfl rfl) .nil))⟩,.inr ⟨_,_,rfl,rfl,.of (by rfl) (.pure aq)⟩,trivial⟩
  rintro i hi
  have hbi:bN x l n j i<n:=nU (by omega) i
  have hsl:=wK x l n j D i
  refine af<|ai<|s1 (aa rfl) rfl ?_
  refine ah<|ae<|af ?_
  refine aO rfl (fun hc30=>?_) (fun hc30=>?_)
  ·have h30 : i < 2 := by have := of_decide_eq_true hc30; omega
   refine aL<|ae<|af<|aM<|af<|ai<|s1 (aT i Tryz.underlying30 an rfl rfl rfl (by omega) rfl) rfl<|s1 (au an rfl rfl (yR x l n j i h30)) rfl<|s1 (aa rfl) rfl ?_
   refine ah<|ae ?_
   refine dN 11 bx (by kernel_rfl) ?_
   refine t1 (aC Tryz.underlying120 rfl ef (by decide) rfl rfl) rfl<|t1 (au ef rfl rfl rfl) rfl<|t1 (aa rfl) rfl<|t1 (iS _ 8 rfl rfl rfl rfl (by omega) (by omega)) rfl<|t1 (lN (bN x l n j i / 8) Tryz.underlying68 aQ rfl rfl rfl rfl (by omega) rfl) rfl<|t1 (au aQ rfl rfl (Hy (by omega))) rfl<|t1 (aa rfl) rfl<|t1 (iF _ 8 rfl rfl rfl rfl (by omega)) rfl<|t1 (xz (bN x l n j i % 8) rfl rfl rfl (by omega)) rfl<|t1 (tt _ _ rfl rfl) rfl ?_
   refine t1 (lN (bN x l n j i / 8) Tryz.underlying68 aQ rfl rfl rfl rfl (by omega) rfl) rfl ?_
   refine dO ?_
   refine ak rfl (bZ aQ rfl rfl rfl rfl (by simp [hsl];omega) (Lh _ _) ?_)
   refine ah<|bh<|ae<|ai<|s1 (bc _ 1 rfl rfl rfl rfl (by omega)) rfl<|s1 (aa rfl) rfl ?_
   refine ah ?_
   exact br (i+1) (by omega) (by omega) [(6,some 6),(25,some 25)] hI rfl rfl ⟨⟨_,rfl,.p rfl⟩,⟨_,rfl,.pure pu⟩,⟨_,rfl,.pure pu⟩,⟨_,rfl,.pure pu⟩,trivial⟩ ⟨.inr ⟨_,_,rfl,rfl,.cons (.pure pu) (.cons (.pure pu) (.cons (.sl rfl rfl) .nil))⟩,.inr ⟨_,_,rfl,rfl,.of (by rfl) (.pure aq)⟩,trivial⟩
  ·have h30 : i = 2 := by have := of_decide_eq_false hc30; omega
   subst h30
   refine bC<|aP<|aP<|bD<|ae<|af<|ai<|s1 (aV cJ rfl rfl (by first|rfl|omega|(simp<;>omega)|(simp [*]<;>omega))) rfl ?_
   refine ak rfl (bb cJ rfl rfl rfl (by first|rfl|omega|(simp<;>omega)|(simp [*]<;>omega)) (by first|rfl|omega|(simp<;>omega)|(simp [*]<;>omega)) ?_)
   refine s1 ((aa rfl).v (v':= .i .i64 0) rfl) rfl ?_
   refine ah<|ae<|aE ?_
   refine jL 6 2 rfl rfl rfl rfl aq (cm (by simp) rfl) rfl ?_
   refine aF (rs:= [.cell 6 120,.tmp 7]) rfl (bW cJ rfl rfl rfl rfl (aD rfl aB)) ?_
   show A.tu _=_
   rw [EH hcs,jo,dz,wK];rfl
end Go.Abs.D2
-- F3E
namespace Go.Abs.D2
open Go Go.Eng Go.Abs Go.Proofs
end Go.Abs.D2
