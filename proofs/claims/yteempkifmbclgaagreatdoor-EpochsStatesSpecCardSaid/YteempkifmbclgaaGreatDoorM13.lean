/-
  The engine, the plain laws and the walks that the rows need, part 13. Conditions: none.
-/
import Derived.Test.YteempkifmbclgaaGreatDoorM12
import Derived.Lib.BufferWrite
set_option linter.unusedVariables false
set_option linter.unusedSimpArgs false
set_option maxHeartbeats 1000000
set_option maxRecDepth 10000
-- AbsX
namespace Go.Abs
open Go Go.Eng
theorem yA:∀ {l:List A} {i:Nat} {c:A},bL l→l[i]? =some c→Pure c
  | [],_,_,_,h=>by simp at h
  |_::_,0,_,hp,h=>by simp at h;subst h;exact hp.1
  |_::l,i+1,_,hp,h=>yA (l:=l) (i:=i) hp.2 (by simpa using h)
section
variable {P:Program} {w0:Bw} {X0:Xs} {n:Nat} {E:Ev} {st:St} {K:Act→World→Prop} {Q:Exit→Act→World→Prop}
theorem kP {d:Nat} {t e:TypeId} {size by' zero agg} {len:Nat} {parts:List (Nat×Operand)} {vs cs:List A} {ty:TypeId} {pos az g} (ht:P.underlying t=some (.slice e)) (he:TI P e size by' zero agg)
    (hp:fm E parts 0=some vs) (hlen:len=vs.length) (hce:vs.all ji=true) (hcl:∀v∈vs,(aX v).length=size) (hfl:gU vs=cs) (hpu:bL cs) (hs:Nat.ble (len*size) 16777216=true) (hs2:Nat.ble len 16777216=true) (hd:Nat.ble (d+1) n=true)
    (h:At w0 X0 n ((d,.fz len cs)::E) st K):
    At w0 X0 n E st (fun a w=>(⟨some d,.buildSlice t len parts.toArray,ty,pos,az,g⟩:Oper).wp P a w K Q):=by
  rintro a w ⟨β,X,hr⟩
  subst hfl
  obtain⟨us,g1,g2,g3,g4,g5⟩:=xB hr hp (fun v hv=>⟨qo v (List.all_eq_true.1 hce v hv),hcl v hv⟩)
  refine Eng.fX (S:= [w]) (H:= []) (E:=full a) (n:=a.tmps.size) us ht he g1 rfl (by omega) g3 hs (by rw [hr.size];exact hd) (fun b hS hH a1 w1 hR hG=>?_) a w (dQ a hr.defers) (Eng.Good.start w)
  have hb:w.heap.size≤b:=hS.1
  have hbel:=qn hG (by simp [hb])
  have hw:=hG.own _ (.head _)
  simp only at hw
  have hbl:b<w1.heap.size:=(Array.getElem?_eq_some_iff.1 hw).1
  obtain⟨m1,m2,m3⟩:=hr.mem.Dy (b:=b) (gU vs).length hbel hb hbl
  have hm2:=Nat.le_of_ble_eq_true hs2
  have hll:=cJ g4
  refine h a1 w1 ⟨β,_,hr.next hR m2 m3 (bK.refl β) m1 ?_⟩
  simp only [V]
  refine⟨_,_,rfl,Nat.le_refl _,by simp only [maxLen];omega,(fun h=>by cases h),(fun _ x hx=>by cases hx;rfl),kD fun j c hj=>?_⟩
  have hjl:=(List.getElem?_eq_some_iff.1 hj).1
  obtain⟨u,q1,q2⟩:=fx g4 hj
  refine⟨.inr ⟨rfl,by simpa [ao]using hjl⟩,u,?_,dO m2 _ _ _ _ (bK.refl _) (kE _ _ (yA hpu hj) q2),g5 u (List.mem_of_getElem? q1)⟩
  simp only [ab,ao,Nat.zero_add,World.cell?,hw]
  simp [q1]
variable {r:Option Nat} {ds0:List Deferred} {N g:Nat} {E0:EV} {st0:St} {ops:Array Oper} {nn:Nat} {plan:List bR} {rest:List Oper} {d:Nat} {ty:TypeId} {pos:String} {aft':Array Edge} {gd:Option (Nat×Bool)}
theorem sO {t e:TypeId} {size by' zero agg} {len:Nat} {parts:List (Nat×Operand)} {vs cs:List A} (k0:Nat) (deps:List Nat) (hg:fO ops (cr (E0.at k0) deps k0 E) gd) (ht:P.underlying t=some (.slice e)) (he:TI P e size by' zero agg)
    (hp:fm (cr (E0.at k0) deps k0 E) parts 0=some vs) (hlen:len=vs.length) (hce:vs.all ji=true) (hcl:∀v∈vs,(aX v).length=size) (hfl:gU vs=cs) (hpu:bL cs) (hs:Nat.ble (len*size) 16777216=true) (hs2:Nat.ble len 16777216=true) (hb:Nat.ble (d+1) N=true) (hd:eX k0 deps []=true)
    (h:FS r ds0 P w0 X0 N Q ops nn g E0 st0 (plan++ [⟨d,.fz len cs,deps, [], [], [], []⟩]) (k0+1) ((d,.fz len cs)::E) st rest):FS r ds0 P w0 X0 N Q ops nn g E0 st0 plan k0 E st (⟨some d,.buildSlice t len parts.toArray,ty,pos,aft',gd⟩::rest):=
  gW ⟨d,.fz len cs,deps, [], [], [], []⟩ (fun hk hE _ _ _ hD _ _ hK=>have he':=hD.fin hE hk;jx hg he' (kP ht he (xA he' hp) hlen hce hcl hfl hpu hs hs2 hb hK)) hd h
end
end Go.Abs
-- C4S
namespace Go.Abs.D2
open Go Go.Eng Go.Abs
abbrev bM (n:Int):CV:= .mk 1 n [] []
abbrev c9 (s:List UInt8):CV:= .mk 2 0 s []
abbrev cX (l:List CV):CV:= .mk 3 0 [] l
abbrev fH (f:cT):CV:=cX [bM f.nb,c9 f.D]
def fR (c:bX):CV:=cX [c9 c.x,cX (c.F.map fH),cX (c.E.map bM)]
def CV.kd:CV→Int| .mk k _ _ _=>k
def CV.nm:CV→Int| .mk _ n _ _=>n
def CV.st:CV→List UInt8| .mk _ _ s _=>s
def CV.ls:CV→List CV| .mk _ _ _ l=>l
theorem nw (n:Int):(bM n).okB=true:=by rw [CV.okB,if_pos rfl];rfl
theorem tF (s:List UInt8):(c9 s).okB=true:=by rw [CV.okB,if_neg (by decide),if_pos rfl];rfl
theorem ny {l:List CV} (h:∀v∈l,v.okB=true):(cX l).okB=true:=by
  rw [CV.okB,if_neg (by decide),if_neg (by decide),if_pos rfl,CV.mv,List.all_eq_true.2 h];rfl
theorem JT (f:cT):(fH f).okB=true:=ny fun v hv=>by
  simp only [List.mem_cons,List.not_mem_nil,or_false]at hv
  rcases hv with rfl|rfl
  · exact nw _
  · exact tF _
theorem CF (c:bX):(fR c).okB=true:=ny fun v hv=>by
  simp only [List.mem_cons,List.not_mem_nil,or_false]at hv
  rcases hv with rfl|rfl|rfl
  · exact tF _
  · exact ny fun v hv=>by obtain⟨f,_,rfl⟩:=List.mem_map.1 hv;exact JT f
  · exact ny fun v hv=>by obtain⟨f,_,rfl⟩:=List.mem_map.1 hv;exact nw f
theorem m0 {l:List CV} {d:Nat} (h:∀v∈l,v.depth≤d):(cX l).depth≤d+1:=by
  rw [CV.depth,if_pos rfl];have:=Af h;omega
theorem mZ (n:Int):(bM n).depth=0:=by rw [CV.depth,if_neg (by decide)]
theorem sr (s:List UInt8):(c9 s).depth=0:=by rw [CV.depth,if_neg (by decide)]
theorem GV (c : bX) : (fR c).depth ≤ 16 := by
  refine Nat.le_trans (m0 (d:=2) fun v hv=>?_) (by omega)
  simp only [List.mem_cons,List.not_mem_nil,or_false]at hv
  rcases hv with rfl|rfl|rfl
  · rw [sr];omega
  · exact m0 (d:=1) fun v hv=>by
      obtain⟨f,_,rfl⟩:=List.mem_map.1 hv
      exact m0 (d:=0) fun v hv=>by
        simp only [List.mem_cons,List.not_mem_nil,or_false]at hv
        rcases hv with rfl|rfl
        · rw [mZ];exact Nat.le_refl _
        · rw [sr];exact Nat.le_refl _
  · exact m0 (d:=1) fun v hv=>by obtain⟨f,_,rfl⟩:=List.mem_map.1 hv;rw [mZ];omega
theorem nE {n:Int} (h0: -9223372036854775808≤n) (h1:n≤9223372036854775807):(bM n).eT=true:=by simp [CV.eT,CV.kV,h0,h1]
theorem ua (s:List UInt8):(c9 s).eT=true:=by simp [CV.eT,CV.kV]
theorem nF {l:List CV} (h:∀v∈l,v.eT=true):(cX l).eT=true:=by
  simp only [CV.eT,CV.tZ,List.all_eq_true.2 h];rfl
theorem zN {c:bX} (h:dP c=true):∀f∈c.F,0≤f.nb∧f.nb≤4096∧f.D.length≤512:=fun f hf=>by
  obtain⟨i,hi⟩:=List.mem_iff_getElem?.1 hf
  obtain⟨_,n,h1,h2,h3,h4,_⟩:=Gd h hi
  omega
theorem Dh {c : bX} (h : dP c = true) : (fR c).eT = true := nF fun v hv => by
  simp only [List.mem_cons,List.not_mem_nil,or_false]at hv
  rcases hv with rfl|rfl|rfl
  · exact ua _
  · exact nF fun v hv=>by
      obtain⟨f,hf,rfl⟩:=List.mem_map.1 hv
      obtain⟨h1,h2,_⟩:=zN h f hf
      exact nF fun v hv=>by
        simp only [List.mem_cons,List.not_mem_nil,or_false]at hv
        rcases hv with rfl|rfl
        · exact nE (by omega) (by omega)
        · exact ua _
  · exact nF fun v hv=>by
      obtain⟨n,hn,rfl⟩:=List.mem_map.1 hv
      obtain⟨_,he,_⟩:=sa h
      have:=s6 he n hn
      exact nE (by omega) (by omega)
theorem wu {l:List CV} {k:Nat} (h:∀v∈l,v.enc.length≤k):(CV.b5 l).length≤l.length*k:=by
  induction l with
  |nil=>simp [CV.b5]
  | cons v l ih =>
    have h1:=h v (.head _)
    have h2:=ih fun u hu=>h u (.tail _ hu)
    rw [CV.b5,List.length_append,List.length_cons,Nat.succ_mul];omega
theorem m7 {n:Int} (h0: -9223372036854775808≤n) (h1:n≤9223372036854775807):(bM n).enc.length≤12:=by
  have:=qv (nL h0 h1)
  rw [CV.enc,if_pos rfl,List.length_cons];omega
theorem sx {s:List UInt8} (h:s.length<2 ^ 64):(c9 s).enc.length≤s.length+12:=by
  have:=qv h
  rw [CV.enc,if_neg (by decide),if_pos rfl,List.length_cons,List.length_append];omega
theorem m8 {l:List CV} (h:l.length<2 ^ 64):(cX l).enc.length≤(CV.b5 l).length+12:=by
  have:=qv h
  rw [CV.enc,if_neg (by decide),if_neg (by decide),List.length_cons,List.length_append];omega
theorem yY:∀ {l:List Int} {last:Int},dU last l=true→last<1024→last+l.length<1024
  | [],last,_,h=>by simpa using h
  | n :: l, last, h, _ => by
    simp only [dU,Bool.and_eq_true,decide_eq_true_eq]at h
    have:=yY h.2 h.1.2
    simp only [List.length_cons];omega
theorem B1 {l:List Int} (h:cN l=true):l.length≤1024:=by
  have:=yY h (by omega)
  omega
theorem wv {c:bX} (h:dP c=true) (hx:c.x.length=32):(fR c).enc.length≤30000:=by
  obtain⟨h1,h2,_⟩:=sa h
  have he:=B1 h2
  have e1:(c9 c.x).enc.length≤44:=by have:=sx (s:=c.x) (by omega);omega
  have e2:(cX (c.F.map fH)).enc.length≤10000:=by
    have q1:=m8 (l:=c.F.map fH) (by rw [List.length_map];omega)
    have q2:=wu (l:=c.F.map fH) (k:=600) fun v hv=>by
      obtain⟨f,hf,rfl⟩:=List.mem_map.1 hv
      obtain⟨k1,k2,k3⟩:=zN h f hf
      have q3:(fH f).enc.length≤_:=m8 (l:= [bM f.nb,c9 f.D]) (by simp)
      have q4:=m7 (n:=f.nb) (by omega) (by omega)
      have q5:=sx (s:=f.D) (by omega)
      simp only [CV.b5,List.length_append,List.length_nil]at q3
      omega
    rw [List.length_map]at q2
    omega
  have e3:(cX (c.E.map bM)).enc.length≤12300:=by
    have q1:=m8 (l:=c.E.map bM) (by rw [List.length_map];omega)
    have q2:=wu (l:=c.E.map bM) (k:=12) fun v hv=>by
      obtain⟨n,hn,rfl⟩:=List.mem_map.1 hv
      have:=s6 h2 n hn
      exact m7 (by omega) (by omega)
    rw [List.length_map]at q2
    omega
  have q:=m8 (l:= [c9 c.x,cX (c.F.map fH),cX (c.E.map bM)]) (by simp)
  simp only [CV.b5,List.length_append,List.length_nil]at q
  show(cX _).enc.length≤_
  omega
theorem KM {c:bX} (h:dP c=true):Rd 16 (fR c):=⟨CF c,GV c,Dh h⟩
def CQ (v:CV) (ks:List Int):Bool:=decide (v.kd=3)&&(v.ls.map CV.kd==ks)
def iL (v:CV) (i:Nat):CV:=v.ls.getD i zV
def AW (i:Nat) (v:CV):cT:=⟨i,(iL v 0).nm,(iL v 1).st⟩
def sH (l:List CV):List cT:=l.mapIdx AW
@[simp] theorem len_filsR (l:List CV):(sH l).length=l.length:=by simp [sH]
def NO (v:CV):Bool:=CQ v [2,3,3]&&decide ((iL v 0).st.length=32)&&(iL v 1).ls.all (fun e=>CQ e [1,2])&&(iL v 2).ls.all (fun e=>decide (e.kd=1))
def xC (v:CV):bX:=⟨(iL v 0).st,sH (iL v 1).ls,(iL v 2).ls.map CV.nm⟩
@[irreducible] def encCA (c:bX):A:=if dP c then .tu [.fz (fR c).enc.length ((fR c).enc.map u8),.i .i64 0]else .tu [.nl,.i .i64 340]
theorem AD {c:bX} (h:dP c=true):encCA c= .tu [.fz (fR c).enc.length ((fR c).enc.map u8),.i .i64 0]:=by unfold encCA;rw [h];rfl
theorem AB {c:bX} (h:dP c=false):encCA c= .tu [.nl,.i .i64 340]:=by unfold encCA;rw [h];rfl
theorem uA {l:List CV} {m:Nat} (h:m=l.length):((CV.bI l).drop 0).take (m*4)=CV.bI l:=by subst h;exact CV.pU l
theorem tI (v:CV):aX (A.ag (CV.cells v))++ []=CV.cells v:=List.append_nil _
theorem HB {F:List cT} {i:Nat} {f:cT} (h:F[i]? =some f):CV.bI ((F.take i).map fH)++CV.cells (fH f)=CV.bI ((F.take (i+1)).map fH):=by
  rw [CV.zr,List.take_add_one,h];simp
theorem Ip {E:List Int} {i:Nat} {q:Int} (h:E[i]? =some q):CV.bI ((E.take i).map bM)++CV.cells (bM q)=CV.bI ((E.take (i+1)).map bM):=by
  rw [CV.zr,List.take_add_one,h];simp
theorem FV {c:bX} (hx:c.x.length=32):A.fz 32 (((eL c).drop (0*1)).take (32*1))= .fz c.x.length (c.x.map u8):=by
  rw [Nat.zero_mul,List.drop_zero,FX hx,hx]
theorem Hf {c:bX} (h:dP c=true):encA (fR c)= .tu [.fz (fR c).enc.length ((fR c).enc.map u8),.i .i64 0]:=ou (KM h).zL
abbrev x6:List UInt8:= [99,97,115,99,97,100,101]
@[irreducible] def lE (c:bX):List UInt8:=tagged x6 (fR c).enc
theorem Ak (c:bX):lE c=tagged x6 (fR c).enc:=by unfold lE;rfl
@[simp] theorem BQ (c:bX):(lE c).length=32:=by rw [Ak];simp
@[irreducible] def digCA (c:bX):A:=if dP c then .tu [.ag ((lE c).map u8),.i .i64 0]else .tu [.ag (jO.map u8),.i .i64 340]
theorem v7 {c:bX} (h:dP c=true):digCA c= .tu [.ag ((lE c).map u8),.i .i64 0]:=by unfold digCA;rw [h];rfl
theorem GZ {c:bX} (h:dP c=false):digCA c= .tu [.ag (jO.map u8),.i .i64 340]:=by unfold digCA;rw [h];rfl
theorem L6 {c:bX} (h:dP c=true) (hx:c.x.length=32):(fR c).size≤1000000:=by
  have h1:=CV.xV (fR c).size (fR c) (Nat.le_refl _) (CF c)
  have h2:=wv h hx
  omega
theorem Ca:∀ {l:List CV} {v:CV},v∈l→v.enc.length≤(CV.b5 l).length
  | [],_,h=>by cases h
  | u :: l, v, h => by
    rw [CV.b5,List.length_append]
    rcases List.mem_cons.1 h with rfl|h
    · omega
    · have:=Ca h;omega
theorem Hh (n:Int) (s:List UInt8) (l:List CV):(CV.b5 l).length≤(CV.mk 3 n s l).enc.length:=by
  rw [CV.enc,if_neg (by decide),if_neg (by decide),List.length_cons,List.length_append];omega
theorem Hg (n:Int) (s:List UInt8) (l:List CV):s.length≤(CV.mk 2 n s l).enc.length:=by
  rw [CV.enc,if_neg (by decide),if_pos rfl,List.length_cons,List.length_append];omega
end Go.Abs.D2
-- Abs1
namespace Go.Eng
open Go Go.MapKept
def lD (f:Int→Option Value) (k:Int):Int→Option Value:=fun j=>if j=k then none else f j
theorem de.erase {es:Array MapEntry} {clk:Nat} {f:Int→Option Value} (h:de es clk f) {k:Int} {j:Nat} {e:MapEntry} (hj:es[j]? =some e) (he:e.key= .int .i64 k):de (es.eraseIdxIfInBounds j) clk (lD f k):=by
  have hlt:=(Array.getElem?_eq_some_iff.1 hj).1
  have hmem:∀x,x∈(es.eraseIdxIfInBounds j).toList↔∃i,i≠j∧es.toList[i]? =some x:=fun x=>by
    unfold Array.eraseIdxIfInBounds
    rw [dif_pos hlt,Array.toList_eraseIdx]
    exact List.mem_eraseIdx_iff_getElem?
  have hnd:=h.st.2.2
  have hkey:∀i x,i≠j→es.toList[i]? =some x→x.key≠ .int .i64 k:=fun i x hij hx hk=>by
    have g1:(es.toList.map (·.key))[j]? =some (.int .i64 k):=by rw [List.getElem?_map,Array.getElem?_toList,hj];simp [he]
    have g2:(es.toList.map (·.key))[i]? =some (.int .i64 k):=by rw [List.getElem?_map,hx];simp [hk]
    have hl:=(List.getElem?_eq_some_iff.1 g1).1
    exact hij ((List.getElem?_inj hl hnd).1 (g1.trans g2.symm)).symm
  refine⟨stamped_erase h.st _,fun x hx=>?_,fun i v hi=>?_⟩
  · obtain ⟨i, hij, hx⟩ := (hmem x).1 hx
    obtain⟨q,e1,e2⟩:=h.ent x (List.mem_of_getElem? hx)
    refine⟨q,e1,?_⟩
    unfold lD
    rw [if_neg (fun e=>hkey i x hij hx (by rw [e1,e])),e2]
  · unfold lD at hi
    split at hi
    · cases hi
    · rename_i hne
      obtain⟨x,hx,e1⟩:=h.has i v hi
      obtain⟨q,hq⟩:=List.mem_iff_getElem?.1 hx
      refine⟨x,(hmem x).2 ⟨q,fun e2=>?_,hq⟩,e1⟩
      subst e2
      rw [Array.getElem?_toList,hj]at hq
      simp only [Option.some.injEq]at hq
      subst hq
      rw [he]at e1
      simp only [Value.int.injEq,true_and]at e1
      exact hne e1.symm
def fV (x:MapEntry):Int:=match x.key with
  | .int _ k=>k
  |_=>0
theorem de.size {es:Array MapEntry} {clk:Nat} {f:Int→Option Value} (h:de es clk f) {L:List Int} (hn:L.Nodup) (hL:∀k,(f k).isSome=true↔k∈L):es.size=L.length:=by
  have hk:∀x∈es.toList,x.key= .int .i64 (fV x)∧f (fV x)=some x.val:=fun x hx=>by
    obtain⟨k,e1,e2⟩:=h.ent x hx
    have:fV x=k:=by unfold fV;rw [e1]
    rw [this];exact⟨e1,e2⟩
  have hnd:(es.toList.map fV).Nodup:=by
    have h3:=h.st.2.2
    rw [List.nodup_iff_pairwise_ne]at h3 ⊢
    rw [List.pairwise_map]at h3 ⊢
    refine h3.imp_of_mem fun {a b} ha hb hne e=>hne ?_
    rw [(hk a ha).1,(hk b hb).1,e]
  have hp:(es.toList.map fV).Perm L:=(List.perm_ext_iff_of_nodup hnd hn).2 fun k=>by
    rw [←hL k,List.mem_map]
    constructor
    · rintro ⟨x, hx, rfl⟩
      rw [(hk x hx).2];rfl
    · intro hs
      obtain⟨v,hv⟩:=Option.isSome_iff_exists.1 hs
      obtain⟨x,hx,e⟩:=h.has k v hv
      exact⟨x,hx,by unfold fV;rw [e]⟩
  have:=hp.length_eq
  rw [List.length_map]at this
  simpa using this
end Go.Eng
namespace Go.Abs
open Go Go.Eng Go.MapKept
section
variable {w0:Bw} {β:Bm} {X:Xs} {st:St} {w:World}
theorem Mem.KF (hm : Mem w0 β X st w) (hf : st.free cf = true) :
    Mem w0 (b6 β cf (.mp w.heap.size)) X (st.put cf [.mc w.heap.size (fun _=>none)]) {w with heap:=w.heap.push (.map #[] 0)}∧cc X X w {w with heap:=w.heap.push (.map #[] 0)}:=by
  have hbel:RowKit.Below w.heap.size w {w with heap:=w.heap.push (.map #[] 0)}:=⟨rfl,rfl,rfl,by simp,fun k hk=>by simp [Array.getElem?_push,Nat.ne_of_lt hk]⟩
  have hx:cc X X w {w with heap:=w.heap.push (.map #[] 0)}:=fun q o h=>⟨h,World.cell?_of_block (w:=w) (hbel.block q (hm.xlt q o h))⟩
  have hnx:=hm.dom cf hf
  refine⟨.of (hm.below.trans hbel) (fun k y h=>(cl hnx) k y (hm.b0 k y h)) (fun q o h=>Nat.lt_of_lt_of_le (hm.xlt q o h) hbel.size) (fun k h=>?_) (fun k ds hg=>?_) (fun i j ci cj q M N' hij hi hj hbi hbj=>?_),hx⟩
  · rw [St.en] at h
    split at h
    · cases h
    · rename_i hne
      rw [b9 (fun e=>hne e.symm)]
      exact hm.dom k h
  · rw [St.cg] at hg
    split at hg
    · rename_i e; subst e
      simp only [Option.some.injEq]at hg
      subst hg
      unfold OB
      rw [bC]
      exact⟨rfl,Bw.j7 hm.below (Nat.le_refl _),fun o h=>absurd (hm.xlt _ o h) (Nat.lt_irrefl _),_, #[],0,rfl,by simp,de.empty 0⟩
    · refine (hm.obj k ds hg).later hx (cl hnx) (fun q M hq => ?_) fun q hq => ⟨hbel.block q ((hm.obj k ds hg).nq hq), ((hm.obj k ds hg).dY hq).2.2.1⟩
      have h:=(hm.obj k ds hg).kQ hq rfl
      exact⟨hbel.block q h.1,h.2.2⟩
  · rw [St.cg] at hi hj
    by_cases ei:cf=i
    · subst ei;rw [bC]at hbi;cases hbi
    · rw [if_neg ei] at hi
      rw [b9 (fun e=>ei e.symm)]at hbi
      by_cases ej:cf=j
      · subst ej;rw [bC]at hbj;cases hbj
      · rw [if_neg ej] at hj
        rw [b9 (fun e=>ej e.symm)]at hbj
        exact hm.inj i j ci cj q M N' hij hi hj hbi hbj
theorem Mem.DB (hm : Mem w0 β X st w) {b : Nat} {f f' : Int → Option Value} {es : Array MapEntry} {clk : Nat} {w1 : World} (hg : st.get cf = some [.mc b f]) (hF : de es clk f') (hG : Eng.Good [w] [(b, .map es clk)] w1) :
    Mem w0 β X (st.put cf [.mc b f']) w1∧cc X X w w1:=by
  have ho:=hm.obj cf _ hg
  obtain⟨y,hβ,hy⟩:∃y,β cf=some y∧y= .mp b:=by
    have ho2:=ho
    unfold OB at ho2
    cases hb:β cf with
    |none=>rw [hb]at ho2;exact ho2.elim
    | some y =>
      rw [hb]at ho2
      cases y with
      |ph=>cases ho2
      | bk q N =>
        obtain⟨_,_,us,rest,ty,_,_,h5,_⟩:=ho2
        simp only [VS,V]at h5
        obtain⟨_,_,_,h,_⟩:=h5
        exact h.elim
      | mp q =>
        obtain⟨_,_,_,g,_,_,e,_⟩:=ho2
        simp only [List.cons.injEq,A.mc.injEq,and_true]at e
        exact⟨_,rfl,by rw [e.1]⟩
  subst hy
  obtain⟨_,hown,hnX,g,es0,clk0,_,hb0,_⟩:=ho.dY hβ
  have hlt:=(Array.getElem?_eq_some_iff.1 hb0).1
  have hsn:=hG.snap w (.head _)
  have hblk:∀k,k<w.heap.size→k≠b→w1.heap[k]? =w.heap[k]? :=fun k hk hne=>hsn.blk k hk (fun p hp=>by simp only [List.mem_singleton]at hp;subst hp;exact fun e=>hne e.symm)
  have hw1:=hG.own _ (.head _)
  simp only at hw1
  have hx:cc X X w w1:=fun q o h=>⟨h,World.cell?_of_block (w:=w) (hblk q (hm.xlt q o h) fun e=>by subst e;exact hnX o h)⟩
  refine⟨.of ⟨hsn.os.trans hm.below.os,hsn.tape.trans hm.below.tape,hsn.output.trans hm.below.output,Nat.le_trans hm.below.size hsn.size,fun k hk hM=>?_,fun s hs=>?_⟩ hm.b0 (fun q o h=>Nat.lt_of_lt_of_le (hm.xlt q o h) hsn.size) (fun k h=>?_) (fun k ds hk=>?_) (fun i j ci cj q M N' hij hi hj hbi hbj=>?_),hx⟩
  · rw [hblk k (Nat.lt_of_lt_of_le hk hm.below.size) (fun e => by
      subst e
      rcases hown with h|h
      · omega
      · exact hM h)]
    exact hm.below.block k hk hM
  · refine cu.oH (hm.below.sus s hs) fun q hq => hblk q (by rcases hq with hq | ⟨r, hq⟩ <;> exact (Array.getElem?_eq_some_iff.1 hq).1) fun e => ?_
    subst e
    rw [hb0]at hq
    rcases hq with h|⟨_,h⟩<;>cases h
  · rw [St.en] at h
    split at h
    · cases h
    · exact hm.dom k h
  · rw [St.cg] at hk
    split at hk
    · rename_i e; subst e
      simp only [Option.some.injEq]at hk
      subst hk
      unfold OB
      rw [hβ]
      exact⟨rfl,hown,hnX,f',es,clk,rfl,hw1,hF⟩
    · rename_i hne
      have key:∀(y:BL) (q:Nat),β k=some y→y.on q→w1.heap[q]? =w.heap[q]? ∧∀o,¬X q o:=fun y q hq hyq=>
        ⟨hblk q ((hm.obj k ds hk).kQ hq hyq).1 fun e=>by subst e;exact hm.apart hne hg hk hβ hq rfl hyq,((hm.obj k ds hk).kQ hq hyq).2.2⟩
      exact(hm.obj k ds hk).later hx (bK.refl β) (fun q M hq=>key _ q hq rfl) fun q hq=>key _ q hq rfl
  · have g : ∀ (k : Nat) (c : List A), (st.put cf [.mc b f']).get k = some c → ∃ c', st.get k = some c' := fun k c hk => by
      rw [St.cg]at hk
      split at hk
      · rename_i e;subst e;exact⟨_,hg⟩
      · exact⟨_,hk⟩
    obtain⟨c1,h1⟩:=g i ci hi
    obtain⟨c2,h2⟩:=g j cj hj
    exact hm.inj i j c1 c2 q M N' hij h1 h2 hbi hbj
theorem Mem.s8 (hm:Mem w0 β X st w) {b:Nat} {f:Int→Option Value} (hg:st.get cf=some [.mc b f]):∃es clk,w.heap[b]? =some (.map es clk)∧de es clk f:=by
  have ho:=hm.obj cf _ hg
  unfold OB at ho
  cases hb:β cf with
  |none=>rw [hb]at ho;exact ho.elim
  | some y =>
    rw [hb]at ho
    cases y with
    |ph=>cases ho
    | bk q N =>
      obtain⟨_,_,us,rest,ty,_,_,h5,_⟩:=ho
      simp only [VS,V]at h5
      obtain⟨_,_,_,h,_⟩:=h5
      exact h.elim
    | mp q =>
      obtain⟨_,_,_,g,es,clk,e,h4,h5⟩:=ho
      simp only [List.cons.injEq,A.mc.injEq,and_true]at e
      obtain⟨e1,e2⟩:=e
      subst e1;subst e2
      exact⟨es,clk,h4,h5⟩
end
section
variable {P:Program} {w0:Bw} {X0:Xs} {n:Nat} {E:Ev} {st:St} {K:Act→World→Prop} {Q:Exit→Act→World→Prop}
theorem xe {d:Nat} {t ty:TypeId} {pos az g} (hf:st.free cf=true) (hd:Nat.ble (d+1) n=true)
    (h:∀b,At w0 X0 n ((d,.raw (.map (some b)))::E) (st.put cf [.mc b (fun _=>none)]) K):At w0 X0 n E st (fun a w=>(⟨some d,.makeMap t none,ty,pos,az,g⟩:Oper).wp P a w K Q):=by
  rintro a w ⟨β,X,hr⟩
  obtain⟨hm,hx⟩:=hr.mem.KF hf
  have hrun:(execOp a.eval ⟨some d,.makeMap t none,ty,pos,az,g⟩).run P w= .ok (.value (.map (some w.heap.size))) {w with heap:=w.heap.push (.map #[] 0)}:=by
    simp [execOp,Instr.makeMap]
  unfold Oper.wp
  rw [hrun]
  exact h w.heap.size _ _ ⟨_,X,hr.gF hd hx (fun _ _ h=> .inl h) (cl (hr.mem.dom cf hf)) hm (by simp only [V])⟩
theorem tr {t kt et ty:TypeId} {pos az g} {x y z:Operand} {b:Nat} {f:Int→Option Value} {k v:Int} {kv:IntKind} (hm:P.underlying t=some (.map kt et)) (hk:P.underlying kt=some (.int .i64))
    (hx:ev E x=some (.raw (.map (some b)))) (hy:ev E y=some (.i .i64 k)) (hz:ev E z=some (.i kv v)) (hg:st.get cf=some [.mc b f])
    (h:At w0 X0 n E (st.put cf [.mc b (gL f k (.int kv v))]) K):At w0 X0 n E st (fun a w=>(⟨none,.mapUpdate t x y z,ty,pos,az,g⟩:Oper).wp P a w K Q):=by
  rintro a w ⟨β,X,hr⟩
  obtain⟨e1,e2⟩:=hr.bq hx
  obtain⟨e3,e4⟩:=hr.bq hy
  obtain⟨e5,e6⟩:=hr.bq hz
  simp only [V]at e2 e4 e6
  rw [e2]at e1;rw [e4]at e3;rw [e6]at e5
  obtain⟨es,clk,hb,hF⟩:=hr.mem.s8 hg
  refine Eng.tr (S:= [w]) (H:= [(b,.map es clk)]) (E:=full a) (n:=a.tmps.size) 0 hm hk e1 e3 e5 rfl hF (fun es' clk' hF' a1 w1 hR hG=>?_) a w (dQ a hr.defers) (lL hb)
  obtain⟨m1,m2⟩:=hr.mem.DB (w1:=w1) hg hF' hG
  exact h a1 w1 ⟨β,X,hr.eP hR m2 (fun _ _ h=> .inl h) (bK.refl β) m1⟩
theorem nQ {t kt et ty : TypeId} {x y : Operand} {b : Nat} {f : Int → Option Value} {k m : Int} {kv : IntKind} (hm : P.underlying t = some (.map kt et)) (hk : P.underlying kt = some (.int .i64)) (hz0 : ∀ w, (zeroValue et).run P w = .ok (.int kv 0) w)
    (hx:ev E x=some (.raw (.map (some b)))) (hy:ev E y=some (.i .i64 k)) (hg:st.get cf=some [.mc b f]) (hf:(f k).getD (.int kv 0)= .int kv m):YO P E st (.lookup t x y false) ty (.i kv m):=by
  intro w0 X0 n β X a w hr
  obtain⟨e1,e2⟩:=hr.bq hx
  obtain⟨e3,e4⟩:=hr.bq hy
  simp only [V]at e2 e4
  rw [e2]at e1;rw [e4]at e3
  have ho:=hr.memq.obj cf _ hg
  obtain⟨hβ,es,clk,hb,hF⟩:β cf=some (.mp b)∧∃es clk,w.heap[b]? =some (.map es clk)∧de es clk f:=by
    unfold OB at ho
    cases hb:β cf with
    |none=>rw [hb]at ho;exact ho.elim
    | some y =>
      rw [hb]at ho
      cases y with
      |ph=>cases ho
      | bk q N =>
        obtain⟨_,_,us,rest,ty,_,_,h5,_⟩:=ho
        simp only [VS,V]at h5
        obtain⟨_,_,_,h,_⟩:=h5
        exact h.elim
      | mp q =>
        obtain⟨_,_,_,g,es,clk,e,h4,h5⟩:=ho
        simp only [List.cons.injEq,A.mc.injEq,and_true]at e
        obtain⟨e1,e2⟩:=e
        subst e1;subst e2
        exact⟨rfl,es,clk,h4,h5⟩
  refine⟨.int kv m,by simp only [V],fun d pos az g w' hs=>?_⟩
  have hb':w'.heap[b]? =some (.map es clk):=(hs.map _ _ _ hg hβ).trans hb
  have hy:=Eng.nQ (P:=P) (S:= [w']) (H:= [(b,.map es clk)]) (E:=full a) (n:=a.tmps.size) (ty:=ty) 0 hm hk hz0 e1 e3 rfl hF
  rw [hf]at hy
  exact hy d pos az g a w' (dQ a hr.defers) (lL hb')
theorem Jy {t kt et ty : TypeId} {ats : Array TypeId} {pos az g} {x y : Operand} {b : Nat} {f : Int → Option Value} {k : Int} (hm : P.underlying t = some (.map kt et)) (hk : P.underlying kt = some (.int .i64)) (hat : ats = #[t, kt])
    (hx:ev E x=some (.raw (.map (some b)))) (hy:ev E y=some (.i .i64 k)) (hg:st.get cf=some [.mc b f])
    (h:At w0 X0 n E (st.put cf [.mc b (lD f k)]) K):At w0 X0 n E st (fun a w=>(⟨none,.call {callee:= .builtin .delete,args:= #[x,y],argTypes:=ats},ty,pos,az,g⟩:Oper).wp P a w K Q):=by
  subst hat
  rintro a w ⟨β,X,hr⟩
  obtain⟨e1,e2⟩:=hr.bq hx
  obtain⟨e3,e4⟩:=hr.bq hy
  simp only [V]at e2 e4
  rw [e2]at e1;rw [e4]at e3
  have f1:=(dQ a hr.defers).ev e1
  have f3:=(dQ a hr.defers).ev e3
  obtain⟨es,clk,hb,hF⟩:=hr.mem.s8 hg
  have hkk:IsKey (.int .i64) (Value.int .i64 k):=rfl
  obtain ⟨es', hF', hrun⟩ : ∃ es', de es' clk (lD f k) ∧ (execOp a.eval ⟨none, .call { callee := .builtin .delete, args := #[x, y], argTypes := #[t, kt] }, ty, pos, az, g⟩).run P w = .ok (.value (.tuple #[])) { w with heap := w.heap.setIfInBounds b (.map es' clk) } := by
    rcases findNow_spec hkk es.toList 0 hF.keys with ⟨h1,h2⟩|⟨j,e,h1,h2,h3⟩
    · refine ⟨es, ?_, ?_⟩
      · have : lD f k = f := by
          funext i
          unfold lD
          split
          · rename_i e; subst e
            cases hf:f i with
            |none=>rfl
            |some v=>obtain⟨q,hq,e⟩:=hF.has i v hf;exact absurd e (h2 q hq)
          · rfl
        rw [this];exact hF
      · simp [execOp,resolve,invoke,builtin,f1,f3,Builtin.delete_,run_underlying hm,MapKept.run_getObj_map hb,MapKept.run_checkKey hk hkk,MapKept.run_findKey hk h1,MapKept.run_setObj_map _ hb,Result.andThen]
    · have hj : es[j]? = some e := by simpa using h2
      refine⟨_,hF.erase hj h3,?_⟩
      simp [execOp,resolve,invoke,builtin,f1,f3,Builtin.delete_,run_underlying hm,MapKept.run_getObj_map hb,MapKept.run_checkKey hk hkk,MapKept.run_findKey hk h1,MapKept.run_setObj_map _ hb,Result.andThen]
  obtain⟨m1,m2⟩:=hr.mem.DB (w1:= {w with heap:=w.heap.setIfInBounds b (.map es' clk)}) hg hF' ((lL hb).set 0 rfl rfl rfl rfl (by simp) (heap_set hb).1 (fun q hq=>(heap_set hb).2 q hq))
  unfold Oper.wp
  rw [hrun]
  exact h a _ ⟨β,X,hr.eP (dQ a hr.defers) m2 (fun _ _ h=> .inl h) (bK.refl β) m1⟩
theorem MemQ.s8 {β:Bm} {X:Xs} {w:World} (hm:MemQ w0 β X st w) {b:Nat} {f:Int→Option Value} (hg:st.get cf=some [.mc b f]):β cf=some (.mp b)∧∃es clk,w.heap[b]? =some (.map es clk)∧de es clk f:=by
  have ho:=hm.obj cf _ hg
  unfold OB at ho
  cases hb:β cf with
  |none=>rw [hb]at ho;exact ho.elim
  | some y =>
    rw [hb]at ho
    cases y with
    |ph=>cases ho
    | bk q N =>
      obtain⟨_,_,us,rest,ty,_,_,h5,_⟩:=ho
      simp only [VS,V]at h5
      obtain⟨_,_,_,h,_⟩:=h5
      exact h.elim
    | mp q =>
      obtain⟨_,_,_,g,es,clk,e,h4,h5⟩:=ho
      simp only [List.cons.injEq,A.mc.injEq,and_true]at e
      obtain⟨e1,e2⟩:=e
      subst e1;subst e2
      exact⟨rfl,es,clk,h4,h5⟩
theorem Na {t kt et ty:TypeId} {x:Operand} {b:Nat} {f:Int→Option Value} (L:List Int) (hm:P.underlying t=some (.map kt et)) (hx:ev E x=some (.raw (.map (some b)))) (hg:st.get cf=some [.mc b f]) (hn:L.Nodup) (hL:∀k,(f k).isSome=true↔k∈L):
    YO P E st (.call {callee:= .builtin .len,args:= #[x],argTypes:= #[t]}) ty (.i .i64 (L.length:Nat)):=by
  intro w0 X0 n β X a w hr
  obtain⟨e1,e2⟩:=hr.bq hx
  simp only [V]at e2
  rw [e2]at e1
  have f1:=(dQ a hr.defers).ev e1
  obtain⟨hβ,es,clk,hb,hF⟩:=hr.memq.s8 hg
  have hs:=hF.size hn hL
  refine⟨.int .i64 (L.length:Nat),by simp only [V],fun d pos az g w' hsm=>?_⟩
  have hb':w'.heap[b]? =some (.map es clk):=(hsm.map _ _ _ hg hβ).trans hb
  simp [execOp,resolve,invoke,builtin,f1,Builtin.len_,run_underlying hm,MapKept.run_getObj_map hb',Result.andThen,hs]
  rfl
end
end Go.Abs
-- Abs2
namespace Go.Abs
open Go Go.Eng
section
variable {P:Program} {w0 w1 w2:Bw} {X0:Xs} {n:Nat} {E:Ev} {st:St} {Q:Exit→Act→World→Prop} {r:Option Nat} {ds:List Deferred}
theorem pS {l D n1 nO:Nat} {rc:Loop} {Ek Eit:Ev} {ps:List Tmp} {assign body:Code} {ids idsR:List Nat} {tm:Array Value} {d:Nat} {N:Act→World→Prop} {ch:List PanicEntry} {fo:Func} (hf:P.funcs[rc.fn]? =some fo)
    (hR:Rg w0 w1 idsR l D rc nO Ek ps assign body .ready none) (hd:Rd w0 w1 w2 ids l D rc Ek .busy none tm n1 Eit)
    (h:∀wj,Rg w0 wj idsR l D rc nO Ek ps assign body .busy none→At wj X0 n1 Eit st (Pw ds (Q (.panic ch)))):At w2 X0 n E st (Pw [] (o9 P l rc.fn (oW ds tm (some d) N Q) (.panic ch))):=by
  rintro a w ⟨β,X,hr⟩
  obtain⟨wj,hβ,hS⟩:=hR.stop .busy none
  have hss:w2.sus= .fr tm Eit w2.β:: .lp l {rc with state:= .busy,pending:=none} Ek w1.β:: .df D::w0.sus:=hd.sub.sus
  have hs1:wj.sus= .lp l {rc with state:= .busy,pending:=none} Ek wj.β:: .df D::w0.sus:=hS.sub.sus
  have hfr:=hr.sslot (.fr tm Eit w2.β) (by rw [hss];exact .head _)
  refine⟨by rw [lV];exact hr.defers,⟨_,hf⟩,h _ hS ⟨tm, []⟩ w ⟨β,X,hr.gG (hS.sub.w.trans hd.sub.w.symm) (hS.sub.M.trans hd.sub.M.symm) .refl (fun id y h=>hr.mem.b0 id y (hd.ext id y (hβ ▸ h))) (fun s hs=>?_) (fun s hs=>?_) hd.size rfl (fun t v ht=>?_)⟩⟩
  · refine sV (B := w2) (hr.mem.below.sus s ?_) (fun b h => (nB (hS.sub.w.trans hd.sub.w.symm) (hS.sub.M.trans hd.sub.M.symm) b).2 h) (fun _ _ _ _ => rfl)
    rw [hs1,hβ]at hs
    rw [hss];exact .tail _ hs
  · refine hr.sslot s ?_
    rw [hs1,hβ]at hs
    rw [hss];exact .tail _ hs
  · obtain ⟨u, g1, g2⟩ := hfr t v ht
    exact⟨u,g1,dO (fun b o h=>⟨h,rfl⟩) _ _ _ _ hr.mem.b0 g2⟩
theorem od {l D nO:Nat} {rc:Loop} {Ek:Ev} {ps:List Tmp} {assign body:Code} {idsR:List Nat} {s:LoopState} {pe:Option Code} {fn:Func} {ss:List cu} {ch:List PanicEntry} (hR:Rg w0 w1 idsR l D rc nO Ek ps assign body s pe) (hs0:w0.sus=ss)
    (h:At (w0.re (.df D::ss)) X0 nO Ek st (Pw (dW D::ds) (Q (.panic ch)))):At w1 X0 n E st (Pw [] (bodyPostM (rF none) 0 P fn (rangePost (rF r) 0 P l Q (Act.wd (dW D::ds) ⟨rc.tmps, []⟩)) (.panic ch))):=by
  rintro a w ⟨β,X,hr⟩
  subst hs0
  have hss:w1.sus= .lp l {rc with state:=s,pending:=pe} Ek w1.β:: .df D::w0.sus:=hR.sub.sus
  have hlp:=hr.sslot (.lp l {rc with state:=s,pending:=pe} Ek w1.β) (by rw [hss];exact .head _)
  show LeavesInM (rF none) 0 P fn (a.wd []).tmps _ (a.wd []).defers (.panicking ch) w
  rw [lV,hr.defers]
  show Q (.panic ch) (Act.wd (dW D::ds) ⟨rc.tmps, []⟩) w
  refine h ⟨rc.tmps, []⟩ w ⟨β,X,hr.gG hR.sub.w.symm hR.sub.M.symm .refl (fun id y h=>hr.mem.b0 id y (hR.sub.ext id y h)) (fun s hs=>?_) (fun s hs=>?_) hR.size rfl (fun t v ht=>?_)⟩
  · exact sV (B:=w1) (hr.mem.below.sus s (by rw [hss];exact .tail _ hs)) (fun b h=>(nB hR.sub.w hR.sub.M b).1 h) (fun _ _ _ _=>rfl)
  · exact hr.sslot s (by rw [hss];exact .tail _ hs)
  · obtain ⟨u, g1, g2⟩ := hlp t v ht
    exact⟨u,g1,dO (fun b o h=>⟨h,rfl⟩) _ _ _ _ hr.mem.b0 g2⟩
theorem B8 {fn:Func} {Rr:Ending→World→Prop} {ch:List PanicEntry}:∀(ds:List Nat) {wB:Bw} {a:Act} {w:World},ds.Nodup→wB.sus=ds.map .df→Rel wB X0 n E st a w→(∀w',Rel (wB.re []) X0 n E st a w'→Rr (.panicked ch) w')→
    LeavesInM (rF none) 0 P fn a.tmps Rr (ds.map dW) (.panicking ch) w
  | [],wB,a,w,_,hs,⟨β,X,hr⟩,h=>h w ⟨β,X,hr.gG rfl rfl .refl hr.mem.b0 (fun s hs=>by cases hs) (fun s hs=>by cases hs) hr.size hr.defers hr.slot⟩
  | D :: ds, wB, a, w, hnd, hs, ⟨β, X, hr⟩, h => by
    have hs':wB.sus= .df D::ds.map .df:=by simpa using hs
    have hk:=hr.mem.below.sus (.df D) (by rw [hs'];exact .head _)
    refine⟨by simp,.inl ⟨D,_,rfl,run_takeDeferred hk.2,?_⟩⟩
    refine B8 ds (wB:=wB.re (ds.map .df)) (List.nodup_cons.1 hnd).2 rfl ⟨β,X,hr.gG rfl rfl (Qt.put hk.1 hk.2 rfl rfl) hr.mem.b0 (fun s hs=>?_) (fun s hs=>?_) hr.size hr.defers hr.slot⟩ h
    · obtain ⟨D', hD, rfl⟩ := List.mem_map.1 hs
      have hk':=hr.mem.below.sus (.df D') (by rw [hs'];exact .tail _ hs)
      exact⟨hk'.1,(World.putObj_heap_other (fun e:D'=D=>(List.nodup_cons.1 hnd).1 (e ▸ hD))).trans hk'.2⟩
    · obtain ⟨D', hD, rfl⟩ := List.mem_map.1 hs
      trivial
theorem oe {wB:Bw} {fn:Func} {R:A→St→Prop} {pn:Value→Prop} {u:Value} (hw:wB.w=w0.w) (hM:wB.M=w0.M) (hβ:wB.β=w0.β) (hs0:w0.sus= []) {dn:List Nat} (hdn:ds=dn.map dW) (hsB:wB.sus=dn.map .df) (hnd:dn.Nodup) (hp:pn u):
    At wB X0 n E st (Pw ds (bodyPostM (rF none) 0 P fn (lY w0 X0 R pn) (.panic (iN u)))):=fun a w hr=>by
  have hd:a.defers= []:=by obtain⟨_,_,hr⟩:=hr;exact hr.defers
  show LeavesInM (rF none) 0 P fn a.tmps _ (a.wd ds).defers (.panicking (iN u)) w
  have e:(a.wd ds).defers=dn.map dW:=by simp [Act.wd,hd,hdn]
  rw [e]
  refine B8 dn hnd hsB hr fun w' ⟨β,X,hr'⟩=>?_
  have hr0:cd w0 X0 n E st β X a w':=hr'.gG hw.symm hM.symm .refl (by rw [←hβ];exact hr'.mem.b0) (fun s hs=>by rw [hs0]at hs;cases hs) (fun s hs=>by rw [hs0]at hs;cases hs) hr'.size hr'.defers hr'.slot
  exact .inr ⟨u,rfl,hp,.raw undef,β,X,st,trivial,hr0.x0,hr0.xn,hr0.mem,by simp only [V]⟩
theorem BJ {F:Fence} {m:Nat} {fn:Func} {tm:Array Value} {R R':Ending→World→Prop} (hr:∀e w,R e w→R' e w):∀(ds:List Nat) {w:World},LeavesInM F m P fn tm R (ds.map dW) .returning w→LeavesInM F m P fn tm R' (ds.map dW) .returning w
  | [],w,⟨v,h1,h2⟩=>⟨v,h1,hr _ _ h2⟩
  | D :: ds, w, ⟨h0, h⟩ => ⟨h0, by
    rcases h with ⟨r,w',h1,h2,h3⟩|⟨_,fv,cap,f,args,h1,_⟩
    · exact .inl ⟨r,w',h1,h2,BJ hr ds h3⟩
    · cases h1⟩
theorem Fu {wB:Bw} {fn:Func} {R:A→St→Prop} {pn:Value→Prop} {rs:List ResultVar} {vs:List A} (hw:wB.w=w0.w) (hM:wB.M=w0.M) (hβ:wB.β=w0.β) (hs0:w0.sus= []) {dn:List Nat} (hdn:ds=dn.map dW) (hsB:wB.sus=dn.map .df) (hnd:dn.Nodup) (hrs:fn.results=rs.toArray) (hv:ew P E st rs vs) (h:R (ki vs) st):
    At wB X0 n E st (Pw ds (bodyPostM (rF none) 0 P fn (lY w0 X0 R pn) .ret)):=fun a w hr=>by
  have hd:a.defers= []:=by obtain⟨_,_,hr⟩:=hr;exact hr.defers
  have h1:=pR hw hM hβ hs0 hdn hsB hnd hrs hv h a w hr
  show LeavesInM (rF none) 0 P fn a.tmps _ (a.wd ds).defers .returning w
  have e:(a.wd ds).defers=dn.map dW:=by simp [Act.wd,hd,hdn]
  have h2:LeavesInM (rF none) 0 P fn a.tmps _ (a.wd ds).defers .returning w:=h1
  rw [e]at h2 ⊢
  exact BJ (fun e w h=> .inl h) dn h2
def gw (P:Program) (f0:FuncId) (c:Code) (Q:Exit→Act→World→Prop) (a:Act) (w:World):Prop:=
  ∀(b:Frame) (k:List Item) (cs:List Frame),b.roundOf=none→b.fn=f0→∃e a' w',Q e a' w'∧ArrivesIn (Machine.fenced P (rF none)) P (lone (b.atR a (.code c::k)) cs w) b k cs e a' w'
theorem kW {m:Nat}:(rF none).room m:=fun d h=>by cases h
theorem MU {f0:FuncId} {c:Code} {a:Act} {w:World} (h:c.wpIn (rF none) 0 P Q a w):gw P f0 c Q a w:=fun b k cs hro _=>h b k cs hro trivial kW
theorem MW {f0:FuncId} {x y:Code} {a:Act} {w:World} (h:gw P f0 x (Exit.then (gw P f0 y Q) Q) a w):gw P f0 (.seq x y) Q a w:=by
  intro b k cs hro hb
  have h0:(lone (b.atR a (.code (.seq x y)::k)) cs w).fenced P (rF none):=fenced_calm (n:=0) trivial kW rfl
  obtain⟨e,a₁,w₁,hq,harr⟩:=h b (.code y::k) cs hro hb
  cases e with
  | normal =>
    obtain⟨e₂,a₂,w₂,hq₂,harr₂⟩:=hq b k cs hro hb
    exact⟨e₂,a₂,w₂,hq₂,.of_steps (.head h0 stepR_seq harr) harr₂⟩
  |exit id=>exact⟨_,a₁,w₁,hq,.of_steps (.one h0 stepR_seq) (.pass (x:= .code y) rfl (fun _ _=> .inl (by simp)) harr)⟩
  |goto l=>exact⟨_,a₁,w₁,hq,.of_steps (.one h0 stepR_seq) (.pass (x:= .code y) rfl (fun _ _=> .inl (by simp)) harr)⟩
  |ret=>exact⟨_,a₁,w₁,hq,.of_steps (.one h0 stepR_seq) (.pass (x:= .code y) rfl (fun _ _=> .inl (by simp)) harr)⟩
  |panic ch=>exact⟨_,a₁,w₁,hq,.of_steps (.one h0 stepR_seq) (.pass (x:= .code y) rfl (fun _ _=> .inl (by simp)) harr)⟩
  |outgrown=>exact⟨_,a₁,w₁,hq,.of_steps (.one h0 stepR_seq) (.pass (x:= .code y) rfl (fun _ _=> .inl (by simp)) harr)⟩
theorem MT {f0 id : Nat} {c : Code} {a : Act} {w : World} (h : gw P f0 c (Exit.inBlock id Q) a w) : gw P f0 (.block id c) Q a w := by
  intro b k cs hro hb
  have h0:(lone (b.atR a (.code (.block id c)::k)) cs w).fenced P (rF none):=fenced_calm (n:=0) trivial kW rfl
  obtain⟨e,a₁,w₁,hq,harr⟩:=h b (.inBlock id::k) cs hro hb
  cases e with
  |normal=>exact⟨.normal,a₁,w₁,hq,.head h0 stepR_block (StepsIn.trans harr (.one (fenced_calm (n:=0) trivial kW rfl) stepR_inBlock))⟩
  | exit id' =>
    by_cases hid:id'=id
    · simp only [Exit.inBlock, hid, if_true] at hq
      exact⟨.normal,a₁,w₁,hq,.head h0 stepR_block (harr.1 k (by simp [exitTo,hid]))⟩
    · simp only [Exit.inBlock, hid, if_false] at hq
      have this:(id==id')=false:=by simp;exact fun h=>hid h.symm
      have hx:exitTo id' (.inBlock id::k)=exitTo id' k:=by simp [exitTo,this]
      exact⟨.exit id',a₁,w₁,hq,fun k' hk=> .head h0 stepR_block (harr.1 k' (by rw [hx];exact hk)),
        fun hr' hk=>let ⟨k₁,h1,h2⟩:=harr.2 hr' (by rw [hx];exact hk);⟨k₁,h1,.head h0 stepR_block h2⟩⟩
  | goto l =>
    have hx:gotoIn l (.inBlock id::k)=gotoIn l k:=by simp [gotoIn]
    exact⟨_,a₁,w₁,hq,fun k' hk=> .head h0 stepR_block (harr.1 k' (by rw [hx];exact hk)),
      fun hr' hk=>let ⟨k₁,h1,h2⟩:=harr.2 hr' (by rw [hx];exact hk);⟨k₁,h1,.head h0 stepR_block h2⟩⟩
  |ret=>exact⟨_,a₁,w₁,hq,.of_steps (.one h0 stepR_block) harr⟩
  |panic ch=>exact⟨_,a₁,w₁,hq,.of_steps (.one h0 stepR_block) harr⟩
  |outgrown=>exact⟨_,a₁,w₁,hq,.of_steps (.one h0 stepR_block) harr⟩
theorem FR {f:FuncId} {fn:Func} {c:Code} {args:Array Value} {w:World} {R:Ending→World→Prop} (hf:P.funcs[f]? =some fn) (hb:fn.body=some c)
    (h:gw P f c (bodyPostM (rF none) 0 P fn R) {tmps:=args++Array.replicate (fn.ntmps - args.size) undef,defers:= []} w):CallsIn (rF none) 0 P f args w R:=by
  refine⟨trivial,fun cs hr=>?_⟩
  let b:Frame:= {(default:Frame)with fn:=f,kind:= .normal,roundOf:=none}
  have henter:Frame.enter P f args .normal=b.atR {tmps:=args++Array.replicate (fn.ntmps - args.size) undef,defers:= []} [.code c]:=by simp [Frame.enter,Frame.atR,hf,hb,b]
  obtain⟨e,a',w',hq,harr⟩:=h b [] cs rfl rfl
  rw [←henter]at harr
  cases e with
  | normal =>
    obtain⟨e',w'',fr',hR,hs,hfn,hl⟩:=leaves_stepsInM a'.defers .returning w' {b.atR a' []with mode:= .returning} cs rfl rfl rfl hf rfl trivial hr hq
    exact⟨e',w'',fr',hR,ComesIn.of_steps (StepsIn.trans harr (.one (fenced_calm (fr:=b.atR a' []) (n:=0) trivial hr rfl) (stepR_end rfl))) hs,hfn,hl⟩
  | ret =>
    obtain⟨todo,hs₀⟩:=harr.1 rfl
    obtain⟨e',w'',fr',hR,hs,hfn,hl⟩:=leaves_stepsInM a'.defers .returning w' {b.atR a' todo with mode:= .returning} cs rfl rfl rfl hf rfl trivial hr hq
    exact⟨e',w'',fr',hR,ComesIn.of_steps hs₀ hs,hfn,hl⟩
  | panic chain =>
    obtain⟨todo,hs₀⟩:=harr
    obtain⟨e',w'',fr',hR,hs,hfn,hl⟩:=leaves_stepsInM a'.defers (.panicking chain) w' {b.atR a' todo with mode:= .panicking chain} cs rfl rfl rfl hf rfl trivial hr hq
    exact⟨e',w'',fr',hR,ComesIn.of_steps hs₀ hs,hfn,hl⟩
  |exit id=>exact hq.elim
  |goto l=>exact hq.elim
  |outgrown=>exact⟨.outgrown,w',b,hq,harr.resolve_left (by simp [b]),rfl,trivial⟩
theorem MV {f0:FuncId} {g:Operand} {ps:Array Tmp} {assign body:Code} {a:Act} {w:World}
    (h:∃(l:Nat) (mark:List Deferred) (w₁:World) (d:Deferred) (w₁':World) (f:FuncId) (args:Array Value) (w₂:World),
      (Instr.enterLoop f0 a.tmps ps assign body none).run P w= .ok (l,mark) w₁∧(resolve a.eval (rangeCall g l) 0).run P w₁= .ok d w₁'∧(invoke d.target d.args).run P w₁'= .ok (.enter f args) w₂∧
      CallsIn (rF none) 0 P f args w₂ (rangePost (rF none) 0 P l Q {a with defers:=mark++a.defers})):gw P f0 (Code.rangeFunc g ps assign body) Q a w:=by
  intro b k cs hro hb
  obtain⟨l,mark,w₁,d,w₁',f,args,w₂,he,hres,hinv,hF,hcall⟩:=h
  rw [←hro, ←hb]at he
  have h0:(lone (b.atR a (.code (.rangeFunc g ps assign body)::k)) cs w).fenced P (rF none):=fenced_lone (.inl trivial) (fun f' _=>trivial) kW
  have henter:=stepR_rangeFunc (P:=P) (b:=b) (a:=a) (k:=k) (cs:=cs) (w:=w) he hres hinv
  obtain⟨e,w₃,fr,hR,hsteps,hfn,hleave⟩:=hcall (b.atR {a with defers:=mark++a.defers} (.inRangeFunc l::k)::cs) kW
  cases e with
  | outgrown =>
    obtain⟨a₀,w₀,hq⟩:=hR
    exact⟨.outgrown,a₀,w₀,hq,.inr (Outgrown.of_steps (.one henter) hsteps)⟩
  | returned v =>
    have hl:(lone fr (b.atR {a with defers:=mark++a.defers} (.inRangeFunc l::k)::cs) w₃).fenced P (rF none):=fenced_leaving (n:=0) trivial kW hleave
    obtain⟨jump,w₄,hend,hj⟩:=hR
    have sback:StepsIn (Machine.fenced P (rF none)) P (lone (b.atR a (.code (.rangeFunc g ps assign body)::k)) cs w) (lone (b.atR {a with defers:=mark++a.defers} ((jump.map Item.code).toList++k)) cs w₄):=by
      refine .head h0 henter (StepsIn.trans hsteps (.head hl ?_ (.one (fenced_calm (fr:=b.atR {a with defers:=mark++a.defers} (.endRangeFunc l::k)) (n:=0) trivial kW rfl) (stepR_endRangeFunc hend))))
      rw [←finish_atR_inRangeFunc l v];exact step_leave_returned hleave
    cases jump with
    |none=>exact⟨.normal,_,w₄,hj,sback⟩
    | some c =>
      obtain⟨e',a'',w₅,hq,harr⟩:=hj b k cs hro trivial kW
      exact⟨e',a'',w₅,hq,.of_steps sback harr⟩
  | panicked chain =>
    have hl:(lone fr (b.atR {a with defers:=mark++a.defers} (.inRangeFunc l::k)::cs) w₃).fenced P (rF none):=fenced_leaving (n:=0) trivial kW hleave
    refine⟨.panic chain,_,w₃,hR,.inRangeFunc l::k,.head h0 henter (StepsIn.trans hsteps (.one hl ?_))⟩
    rw [←Frame.raise_atR];exact step_leave_panicked hleave
theorem oc {f0:FuncId} {x y:Code} (h:At w0 X0 n E st (Pw ds (gw P f0 x (Exit.then (gw P f0 y Q) Q)))):At w0 X0 n E st (Pw ds (gw P f0 (.seq x y) Q)):=fun a w hr=>MW (h a w hr)
theorem Fl {f0 id:Nat} {c:Code} (h:At w0 X0 n E st (Pw ds (gw P f0 c (Exit.inBlock id Q)))):At w0 X0 n E st (Pw ds (gw P f0 (.block id c) Q)):=fun a w hr=>MT (h a w hr)
theorem ob {f0:FuncId} {c:Code} (h:At w0 X0 n E st (Pw ds (c.wpIn (rF none) 0 P Q))):At w0 X0 n E st (Pw ds (gw P f0 c Q)):=fun a w hr=>MU (h a w hr)
theorem Fs {f0:FuncId} {g:Operand} {ps:List Tmp} {assign body c:Code} {f:FuncId} {fn:Func} {cs:List A} {idsB:List Nat} {n':Nat} (ids:List Nat) (Ek:Ev) (hI:w0.ids=idsB) (hs:(idsB.all (cw ids))=true) (hE:le E Ek) (hids:jA ids Ek=true)
    (hg:ev E g=some (.fn (.func f) [] cs)) (hf:P.funcs[f]? =some fn) (hb:fn.body=some c) (hn:fn.ntmps=n') (hname:(fn.name== "runtime.NumGoroutine")=false) (ha:cs.length+1≤n')
    (h:∀w1 l D rc,Rg w0 w1 ids l D rc n Ek ps assign body .ready none→rc.fn=f0→At w1 X0 n' (gj (yv l::cs) 0) st (Pw [] (c.wpIn (rF none) 0 P (bodyPostM (rF none) 0 P fn (rangePost (rF none) 0 P l Q (Act.wd (dW D::ds) ⟨rc.tmps, []⟩)))))):
    At w0 X0 n E st (Pw ds (gw P f0 (Code.rangeFunc g ps.toArray assign body) Q)):=by
  rintro a w ⟨β,X,hr⟩
  show gw P f0 (Code.rangeFunc g ps.toArray assign body) Q (a.wd ds) w
  refine MV ?_
  obtain⟨vs,rc,W1,g2,g3,hrt,hrf,w1,hrg,hrel⟩:=C4 (P:=P) (fn:=fn) (n':=n') f0 ids Ek ps assign body hI hs hE hids hg ha hn hr
  refine⟨w.heap.size+1, [{target:= .collected w.heap.size,args:= #[]}],W1, {target:= .fn (.func f) vs.toArray,args:= #[.func (.yield (w.heap.size+1)) #[] #[]]},W1,f,
    #[.func (.yield (w.heap.size+1)) #[] #[]]++vs.toArray,W1,g2,?_,?_,?_⟩
  · simp only [resolve, sD, g3]
    simp [go_sem]
  · simp [invoke,go_sem,xM hf hb hname]
  · rw [Ei hr.defers, ← hrt]
    exact callsIn_of_wp_marks hf hb trivial (kz (h _ _ _ rc hrg hrf _ W1 hrel))
theorem Hl {f:FuncId} {fn:Func} {c:Code} {args:List A} {s0:St} {R:A→St→Prop} {pn:Value→Prop} (hf:P.funcs[f]? =some fn) (hb:fn.body=some c)
    (hn:fn.ntmps=n) (hname:(fn.name== "runtime.NumGoroutine")=false) (ha:args.length≤n)
    (h:∀w0 X0,w0.ids=s0.os.map Prod.fst→w0.sus= []→At w0 X0 n (gj args 0) s0 (Pw [] (gw P f c (bodyPostM (rF none) 0 P fn (lY w0 X0 R pn))))):iX P f args s0 R pn:=by
  intro w X β us hd hX hgl ho hi hv
  have hl:=cJ hv
  refine⟨⟨fn,hf,by simp [hb],hname⟩,(callsIn_wide (n:=0)).1 (FR hf hb (kz (h (bw w β s0 hd) X rfl rfl _ w ⟨β,X,.of (fun _ _ h=>h) (fun _ _ h=> .inl h) (.of ⟨rfl,rfl,rfl,Nat.le_refl _,fun _ _ _=>rfl,fun s hs=>by cases hs⟩ (bK.refl β) hX hd ho hi) hgl ?_ rfl (fun s hs=>by cases hs) (fun t v ht=>?_)⟩)))⟩
  · simp [hn];omega
  · obtain ⟨_, h2⟩ := lj _ _ _ _ ht
    simp only [Nat.sub_zero]at h2
    obtain⟨u,g1,g2⟩:=fx hv h2
    have hlt:=(List.getElem?_eq_some_iff.1 g1).1
    refine⟨u,?_,g2⟩
    rw [Array.getElem?_append,if_pos (by simpa using hlt)]
    simpa using g1
end
end Go.Abs
-- Abs3
namespace Go.Abs
open Go Go.Eng Go.MapKept
instance {b:Nat} {f:Int→Option Value}:IsPure (.mc b f):=⟨by simp only [Pure]⟩
def nX (F:Int→Option Value):A→St→Prop:=fun r st=>∃b,r= .raw (.map (some b))∧st.get cf=some [.mc b F]
theorem OB.Cc {β:Bm} {X:Xs} {w:World} {w0:Bw} {b:Nat} {F:Int→Option Value} (h:OB β X w w0 cf [.mc b F]):β cf=some (.mp b)∧w0.own b∧(∀o,¬X b o)∧∃es clk,w.heap[b]? =some (.map es clk)∧de es clk F:=by
  unfold OB at h
  cases hb:β cf with
  |none=>rw [hb]at h;exact h.elim
  | some y =>
    rw [hb]at h
    cases y with
    |ph=>cases h
    | bk q N =>
      obtain⟨_,_,us,rest,ty,_,_,h5,_⟩:=h
      simp only [VS,V]at h5
      obtain⟨_,_,_,h,_⟩:=h5
      exact h.elim
    | mp q =>
      obtain⟨_,h1,h2,g,es,clk,e,h4,h5⟩:=h
      simp only [List.cons.injEq,A.mc.injEq,and_true]at e
      obtain⟨e1,e2⟩:=e
      subst e1;subst e2
      exact⟨rfl,h1,h2,es,clk,h4,h5⟩
section
variable {P:Program} {w0:Bw} {X0:Xs} {n:Nat} {E:Ev} {st:St} {K:Act→World→Prop} {Q:Exit→Act→World→Prop}
theorem Ju {F : Int → Option Value} {d : Nat} {f : FuncId} {x : Operand} {xs : List Operand} {fs cs vs vs' : List A} {ats : Array TypeId} {ty : TypeId} {pos aft' g} (hx : ev E x = some (.fn (.func f) fs cs)) (hxs : c5 E xs = some vs) (hv : a7 st ⟨[]⟩ false (fs ++ vs ++ cs) vs')
    (hc:aB P f vs' (nX F)) (hfr:st.free cf=true) (hd:Nat.ble (d+1) n=true) (h:∀b,At w0 X0 n ((d,.raw (.map (some b)))::E) (st.put cf [.mc b F]) K):
    At w0 X0 n E st (fun a w=>(⟨some d,.call {callee:= .value x,args:=xs.toArray,argTypes:=ats},ty,pos,aft',g⟩:Oper).wp P a w K Q):=by
  rintro a w ⟨β,X,hr⟩
  refine l6 hr hx hxs (s0:=⟨[]⟩) trivial hv hc fun v w' ⟨r,β',X',st',hR,hsup,hsub,hm,hvv⟩=>?_
  obtain⟨b,rfl,hg⟩:=hR
  obtain⟨m1,m2,m3,m4,m6⟩:=hm.after hr (fun id cs h=>by cases h) hsub hsup (upds:= []) (fun p hp=>by cases hp)
  rw [pO]at m1
  have hnx:=hr.mem.dom cf hfr
  obtain⟨hβ,o1,o2,es,clk,hb,hF⟩:=(hm.obj cf _ hg).Cc
  have o1:w.heap.size≤b:=by
    rcases o1 with h|⟨id',cs',h,_⟩
    · exact h
    · cases h
  have hnX:∀o,¬(X b o∨(X' b o∧(bw w (cn ⟨[]⟩ β) ⟨[]⟩ c8).own b)):=fun o h=>by
    rcases h with h|⟨h,_⟩
    · exact o2 o (hsup b o (.inl h))
    · exact o2 o h
  have m5 : Mem w0 (b6 β cf (.mp b)) (fun b o => X b o ∨ (X' b o ∧ (bw w (cn ⟨[]⟩ β) ⟨[]⟩ c8).own b)) (st.put cf [.mc b F]) w' := by
    refine .of (m1.below) (fun k y h=>(cl hnx) k y (m1.b0 k y h)) (m1.xlt) (fun k h=>?_) (fun k es hk=>?_) (fun i j ci cj q M N' hij hi hj hbi hbj=>?_)
    · rw [St.en] at h
      split at h
      · cases h
      · rename_i hne
        rw [b9 (fun e=>hne e.symm)]
        exact hr.mem.dom k h
    · rw [St.cg] at hk
      split at hk
      · rename_i e; subst e
        simp only [Option.some.injEq]at hk
        subst hk
        unfold OB
        rw [bC]
        exact⟨rfl,Bw.j7 hr.mem.below o1,hnX,F,_,clk,rfl,hb,hF⟩
      · refine (m1.obj k es hk).later (fun _ _ h => ⟨h, rfl⟩) (cl hnx) (fun q M hq => ⟨rfl, ?_⟩) fun q hq => ⟨rfl, ((m1.obj k es hk).dY hq).2.2.1⟩
        have hk':=m1.obj k es hk
        unfold OB at hk'
        rw [hq]at hk'
        exact hk'.2.1
    · rw [St.cg] at hi hj
      by_cases ei:cf=i
      · subst ei;rw [bC]at hbi;cases hbi
      · rw [if_neg ei] at hi
        rw [b9 (fun e=>ei e.symm)]at hbi
        by_cases ej:cf=j
        · subst ej;rw [bC]at hbj;cases hbj
        · rw [if_neg ej] at hj
          rw [b9 (fun e=>ej e.symm)]at hbj
          exact hr.mem.inj i j ci cj q M N' hij hi hj hbi hbj
  have hv':v= .map (some b):=by simpa only [V]using hvv
  exact h b _ _ ⟨_,_,hr.gF hd m2 m3 (cl hnx) m5 (by simp only [V];exact hv')⟩
theorem tq {F:Int→Option Value} {d:Nat} {f:FuncId} {xs:List Operand} {vs vs':List A} {ats:Array TypeId} {ty:TypeId} {pos aft' g} (hxs:c5 E xs=some vs) (hv:a7 st ⟨[]⟩ false vs vs')
    (hc:aB P f vs' (nX F)) (hfr:st.free cf=true) (hd:Nat.ble (d+1) n=true) (h:∀b,At w0 X0 n ((d,.raw (.map (some b)))::E) (st.put cf [.mc b F]) K):
    At w0 X0 n E st (fun a w=>(⟨some d,.call {callee:= .value (.func f),args:=xs.toArray,argTypes:=ats},ty,pos,aft',g⟩:Oper).wp P a w K Q):=
  Ju (fs:= []) (cs:= []) rfl hxs (by simpa using hv) hc hfr hd h
end
section
variable {P:Program} {w0:Bw} {X0:Xs} {n:Nat} {E:Ev} {st:St} {K:Act→World→Prop} {Q:Exit→Act→World→Prop}
theorem Ci {d:Nat} {t e t' ty:TypeId} {x y:Operand} {m:Nat} {cs:List A} {pos az g} (ht:P.underlying t=some (.slice e)) (hx:ev E x=some (.fz m cs)) (hy:ev E y=some .nl) (hd:Nat.ble (d+1) n=true)
    (h:∀q,At w0 X0 n ((d,.b q)::E) st K):At w0 X0 n E st (fun a w=>(⟨some d,.binOp .eql t x y t',ty,pos,az,g⟩:Oper).wp P a w K Q):=by
  rintro a w ⟨β,X,hr⟩
  obtain⟨h1,h2⟩:=hr.bq hx
  obtain⟨h3,h4⟩:=hr.bq hy
  simp only [V]at h2 h4
  obtain⟨ad,cap,g1,_⟩:=h2
  rw [g1]at h1;rw [h4]at h3
  have hrun:=(Eng.uI (P:=P) (n:=a.tmps.size) (S:= [w]) (H:= []) (t':=t') (ty:=ty) ht h1 h3) (some d) pos az g a w (dQ a hr.defers) (Eng.Good.start w)
  unfold Oper.wp
  rw [hrun]
  exact h ad.isNone _ _ ⟨β,X,hr.gF hd (fun b o h=>⟨h,rfl⟩) (fun _ _ h=> .inl h) (bK.refl β) hr.mem (by simp only [V])⟩
end
def mapOf (σ:Int→Int):Int→Option Value:=fun k=>if σ k=0 then none else some (.int .i64 (σ k))
def ig (σ:Int→Int) (k v:Int):Int→Int:=fun j=>if j=k then v else σ j
theorem Jj:(fun _=>none:Int→Option Value)=mapOf (fun _=>0):=by funext k;simp [mapOf]
theorem s9 (σ:Int→Int) (k:Int):(mapOf σ k).getD (.int .i64 0)= .int .i64 (σ k):=by
  unfold mapOf
  split
  · rename_i h;rw [h];rfl
  · rfl
theorem Jk {σ:Int→Int} {k v:Int} (h:v≠0):gL (mapOf σ) k (.int .i64 v)=mapOf (ig σ k v):=by
  funext j
  unfold gL mapOf ig
  by_cases e:j=k
  · simp [e,h]
  · simp [e]
theorem Ji {σ:Int→Int} {k v:Int} (h:v=0):lD (gL (mapOf σ) k (.int .i64 v)) k=mapOf (ig σ k v):=by
  funext j
  unfold lD gL mapOf ig
  by_cases e:j=k
  · simp [e,h]
  · simp [e]
end Go.Abs
-- E5P
namespace Go.Abs.D2
open Go Go.Eng Go.Abs
structure Ch where
  id:Int
  st:Int
def Ch.cells (c:Ch):List A:= [.i .i64 c.id,.i .i64 c.st]
def eD (l:List Ch):List A:=l.flatMap Ch.cells
abbrev cz (l:List Ch):A:= .fz l.length (eD l)
structure Ep where
  iss:Int
  no:Int
  day:Int
  ch:List Ch
  bO:List UInt8
  prev:List UInt8
  sg:Lf
def Ep.cells (e:Ep):List A:= .i .i64 e.iss:: .i .i64 e.no:: .i .i64 e.day::cz e.ch::(e.bO.map u8++(e.prev.map u8++ [.i .i64 e.sg.a,bD e.sg.S,bD e.sg.P]))
def c4 (l:List Ep):List A:=l.flatMap Ep.cells
abbrev cW (l:List Ep):A:= .fz l.length (c4 l)
instance {c:Ch}:dE c.cells:=by unfold Ch.cells;infer_instance
instance {l:List Ch}:dE (eD l):=by unfold eD;infer_instance
instance {e:Ep}:dE e.cells:=by unfold Ep.cells;infer_instance
instance {l:List Ep}:dE (c4 l):=by unfold c4;infer_instance
def rg (n:Int):Prop:= -9223372036854775808≤n∧n≤9223372036854775807
structure Ep.ok (e:Ep):Prop where
  iss:rg e.iss
  no:rg e.no
  day:rg e.day
  ch:∀c∈e.ch,rg c.id∧rg c.st
  gT:e.ch.length≤1000
  bO:e.bO.length=32
  prev:e.prev.length=32
  S:aL e.sg.S
  P:aL e.sg.P
def dN (l:List Ep):Prop:=∀e∈l,e.ok
@[simp] theorem Ch.len (c:Ch):c.cells.length=2:=rfl
theorem Ep.ok.len {e:Ep} (h:e.ok):e.cells.length=71:=by simp [Ep.cells,h.bO,h.prev]
theorem Ep.ok.all {e:Ep} (h:e.ok):e.cells.take 71=e.cells:=List.take_of_length_le (by rw [h.len];omega)
@[simp] theorem IV (l : List Ch) : (eD l).length = l.length * 2 := by
  unfold eD
  induction l with
  |nil=>rfl
  |cons c l ih=>rw [List.flatMap_cons,List.length_append,ih,List.length_cons,Ch.len];omega
theorem kN {l:List Ep} (h:dN l):(c4 l).length=l.length*71:=by
  unfold c4
  induction l with
  |nil=>rfl
  |cons e l ih=>rw [List.flatMap_cons,List.length_append,ih (fun x hx=>h x (.tail _ hx)),List.length_cons,(h e (.head _)).len];omega
theorem pV {l:List Ch} {i:Nat} {c:Ch} (h:l[i]? =some c):((eD l).drop (i*2)).take 2=c.cells:=by
  unfold eD
  induction l generalizing i with
  |nil=>simp at h
  | cons d l ih =>
    rw [List.flatMap_cons]
    cases i with
    |zero=>simp at h;subst h;rfl
    |succ i=>rw [show(i+1)*2=d.cells.length+i*2 by rw [Ch.len];omega, ←List.drop_drop,List.drop_left];exact ih (by simpa using h)
theorem kJ {l:List Ep} {i:Nat} {e:Ep} (hl:dN l) (h:l[i]? =some e):((c4 l).drop (i*71)).take 71=e.cells:=by
  unfold c4
  induction l generalizing i with
  |nil=>simp at h
  | cons d l ih =>
    rw [List.flatMap_cons]
    have hd:=(hl d (.head _)).len
    cases i with
    |zero=>simp at h;subst h;rw [Nat.zero_mul,List.drop_zero,List.take_left' hd]
    |succ i=>rw [show(i+1)*71=d.cells.length+i*71 by rw [hd];omega, ←List.drop_drop,List.drop_left];exact ih (fun x hx=>hl x (.tail _ hx)) (by simpa using h)
theorem dK {l:List Ep} {i:Nat} {e:Ep} (hl:dN l) (h:l[i]? =some e) {k:Nat} {v:A} (hv:e.cells[k]? =some v) (hk:k<71):(((c4 l).drop (i*71)).drop k)[0]? =some v:=by
  have e1:(((c4 l).drop (i*71)).take 71)[k]? =some v:=by rw [kJ hl h];exact hv
  rw [List.getElem?_take,if_pos hk]at e1
  rw [List.getElem?_drop,Nat.add_zero];exact e1
theorem AH {e:Ep} (h:e.ok):(e.cells.drop 4).take 32=e.bO.map u8:=by
  show(e.bO.map u8++_).take 32=_
  rw [List.take_left' (by rw [List.length_map,h.bO])]
theorem AK {e:Ep} (h:e.ok):e.cells.drop 36=e.prev.map u8++ [.i .i64 e.sg.a,bD e.sg.S,bD e.sg.P]:=by
  show(e.bO.map u8++_).drop 32=_
  rw [List.drop_left' (by rw [List.length_map,h.bO])]
theorem jo {e:Ep} (h:e.ok):(e.cells.drop 36).take 32=e.prev.map u8:=by
  rw [AK h,List.take_left' (by rw [List.length_map,h.prev])]
theorem AI {e:Ep} (h:e.ok):e.cells.drop 68= [.i .i64 e.sg.a,bD e.sg.S,bD e.sg.P]:=by
  rw [show 68=36+32 from rfl, ←List.drop_drop,AK h,List.drop_left' (by rw [List.length_map,h.prev])]
theorem qh {e:Ep} (h:e.ok):(e.cells.drop 68)[0]? =some (.i .i64 e.sg.a):=by rw [AI h];rfl
def dJ (c:Ch):CV:=cX [bM c.id,bM c.st]
def fT (e:Ep):CV:=cX [bM e.iss,bM e.no,bM e.day,cX (e.ch.map dJ),c9 e.bO,c9 e.prev]
theorem JR (c:Ch):(dJ c).okB=true:=ny fun v hv=>by
  simp only [List.mem_cons,List.not_mem_nil,or_false]at hv
  rcases hv with rfl|rfl
  · exact nw _
  · exact nw _
theorem CG (e:Ep):(fT e).okB=true:=ny fun v hv=>by
  simp only [List.mem_cons,List.not_mem_nil,or_false]at hv
  rcases hv with rfl|rfl|rfl|rfl|rfl|rfl
  · exact nw _
  · exact nw _
  · exact nw _
  · exact ny fun v hv=>by obtain⟨c,_,rfl⟩:=List.mem_map.1 hv;exact JR c
  · exact tF _
  · exact tF _
theorem GW (e : Ep) : (fT e).depth ≤ 16 := by
  refine Nat.le_trans (m0 (d:=2) fun v hv=>?_) (by omega)
  simp only [List.mem_cons,List.not_mem_nil,or_false]at hv
  rcases hv with rfl|rfl|rfl|rfl|rfl|rfl
  · rw [mZ];omega
  · rw [mZ];omega
  · rw [mZ];omega
  · exact m0 (d:=1) fun v hv=>by
      obtain⟨c,_,rfl⟩:=List.mem_map.1 hv
      exact m0 (d:=0) fun v hv=>by
        simp only [List.mem_cons,List.not_mem_nil,or_false]at hv
        rcases hv with rfl|rfl
        · rw [mZ];exact Nat.le_refl _
        · rw [mZ];exact Nat.le_refl _
  · rw [sr];omega
  · rw [sr];omega
theorem K5 {c:Ch} (h:rg c.id∧rg c.st):(dJ c).eT=true:=nF fun v hv=>by
  simp only [List.mem_cons,List.not_mem_nil,or_false]at hv
  rcases hv with rfl|rfl
  · exact nE h.1.1 h.1.2
  · exact nE h.2.1 h.2.2
theorem Di {e:Ep} (h:e.ok):(fT e).eT=true:=nF fun v hv=>by
  simp only [List.mem_cons,List.not_mem_nil,or_false]at hv
  rcases hv with rfl|rfl|rfl|rfl|rfl|rfl
  · exact nE h.iss.1 h.iss.2
  · exact nE h.no.1 h.no.2
  · exact nE h.day.1 h.day.2
  · exact nF fun v hv=>by obtain⟨c,hc,rfl⟩:=List.mem_map.1 hv;exact K5 (h.ch c hc)
  · exact ua _
  · exact ua _
theorem Hi {c:Ch} (h:rg c.id∧rg c.st):(dJ c).enc.length≤36:=by
  have q:=m8 (l:= [bM c.id,bM c.st]) (by simp)
  have q1:=m7 h.1.1 h.1.2
  have q2:=m7 h.2.1 h.2.2
  simp only [CV.b5,List.length_append,List.length_nil]at q
  show(cX _).enc.length≤_
  omega
theorem qd {e:Ep} (h:e.ok):(fT e).enc.length≤40000:=by
  have hf:=h.gT
  have q:=m8 (l:= [bM e.iss,bM e.no,bM e.day,cX (e.ch.map dJ),c9 e.bO,c9 e.prev]) (by simp)
  have q1:=m7 h.iss.1 h.iss.2
  have q2:=m7 h.no.1 h.no.2
  have q3:=m7 h.day.1 h.day.2
  have q4:=m8 (l:=e.ch.map dJ) (by rw [List.length_map];omega)
  have q5:=wu (l:=e.ch.map dJ) (k:=36) fun v hv=>by obtain⟨c,hc,rfl⟩:=List.mem_map.1 hv;exact Hi (h.ch c hc)
  have q6:=sx (s:=e.bO) (by rw [h.bO];omega)
  have q7:=sx (s:=e.prev) (by rw [h.prev];omega)
  rw [List.length_map]at q5
  have:=h.bO
  have:=h.prev
  simp only [CV.b5,List.length_append,List.length_nil]at q
  show(cX _).enc.length≤_
  omega
theorem DK {e:Ep} (h:e.ok):(fT e).size≤1000000:=by
  have h1:=CV.xV (fT e).size (fT e) (Nat.le_refl _) (CG e)
  have h2:=qd h
  omega
theorem Az (e:Ep):encA (fT e)= .tu [.fz (fT e).enc.length ((fT e).enc.map u8),.i .i64 0]:=ou (vI (CG e) (by have:=GW e;omega))
abbrev um:List UInt8:= [101,112,111,99,104]
@[irreducible] def cM (e:Ep):List UInt8:=tagged um (fT e).enc
theorem p7 (e:Ep):cM e=tagged um (fT e).enc:=by unfold cM;rfl
@[simp] theorem IX (e:Ep):(cM e).length=32:=by rw [p7];simp
theorem zG {l:List Ch} {i:Nat} {c:Ch} (h:l[i]? =some c):CV.bI ((l.take i).map dJ)++CV.cells (dJ c)=CV.bI ((l.take (i+1)).map dJ):=by
  rw [CV.oq,CV.oq,List.take_add_one,h];simp
theorem vP {x:List UInt8} (hx:x.length=32):A.fz 32 (((x.map u8).drop (0*1)).take (32*1))= .fz x.length (x.map u8):=by
  rw [Nat.zero_mul,List.drop_zero,List.take_of_length_le (by rw [List.length_map,hx];omega),hx]
def da (σ:Int→Int) (last:Int) (c:Ch):Bool:=(((decide (last<c.id)&&decide (c.id<1024))&&decide (0≤c.st))&&decide (c.st≤4))&&((c.st !=σ c.id)&&(σ c.id !=2))
def cP (σ:Int→Int) (last:Int):List Ch→Bool
  | []=>true
  |c::r=>da σ last c&&cP (ig σ c.id c.st) c.id r
theorem F7 {σ:Int→Int} {la:Int} {c:Ch} (h:(((decide (c.id>la)&&decide (c.id<1024))&&decide (c.st≥0))&&decide (c.st≤4))=false):da σ la c=false:=by
  unfold da
  rw [show(((decide (la<c.id)&&decide (c.id<1024))&&decide (0≤c.st))&&decide (c.st≤4))=false from h];rfl
theorem F8 {σ:Int→Int} {la:Int} {c:Ch} (h:((c.st !=σ c.id)&&(σ c.id !=2))=false):da σ la c=false:=by
  unfold da;rw [h,Bool.and_false]
theorem zx {σ:Int→Int} {la:Int} {c:Ch} (h1:(((decide (c.id>la)&&decide (c.id<1024))&&decide (c.st≥0))&&decide (c.st≤4))=true) (h2:((c.st !=σ c.id)&&(σ c.id !=2))=true):da σ la c=true:=by
  unfold da
  rw [show(((decide (la<c.id)&&decide (c.id<1024))&&decide (0≤c.st))&&decide (c.st≤4))=true from h1,h2];rfl
def aV (σ:Int→Int):List Ch→Int→Int
  | []=>σ
  |c::r=>aV (ig σ c.id c.st) r
theorem zE {σ:Int→Int} {last:Int} {l:List Ch} {i:Nat} {c:Ch} (h:l[i]? =some c) (hb:da σ last c=false):cP σ last (l.drop i)=false:=by
  rw [List.drop_eq_getElem_cons (List.getElem?_eq_some_iff.1 h).1,(List.getElem?_eq_some_iff.1 h).2,cP,hb];rfl
theorem zF {σ:Int→Int} {last:Int} {l:List Ch} {i:Nat} {c:Ch} (h:l[i]? =some c) (hb:da σ last c=true):cP σ last (l.drop i)=cP (ig σ c.id c.st) c.id (l.drop (i+1)):=by
  rw [List.drop_eq_getElem_cons (List.getElem?_eq_some_iff.1 h).1,(List.getElem?_eq_some_iff.1 h).2,cP,hb];rfl
theorem zK {σ:Int→Int} {l:List Ch} {i:Nat} {c:Ch} (h:l[i]? =some c):aV σ (l.drop i)=aV (ig σ c.id c.st) (l.drop (i+1)):=by
  rw [List.drop_eq_getElem_cons (List.getElem?_eq_some_iff.1 h).1,(List.getElem?_eq_some_iff.1 h).2,aV]
def cF (iss:Int) (no:Nat) (day:Int) (prev:List UInt8) (e:Ep):Bool:=((e.iss==iss&&decide (0≤e.iss))&&decide (e.iss<8))&&(((e.no==(no:Int))&&(e.sg.a==(no:Int)))&&(e.prev==prev))&&(decide (day<e.day)&&decide (e.day<1024))
theorem Ir (a q:Int):a≠q∨(a=q∧a<0)∨(a=q∧0≤a∧8≤a)∨(a=q∧0≤a∧a<8):=by omega
theorem wz {iss:Int} {no:Nat} {day:Int} {prev:List UInt8} {e:Ep} (h:¬(e.iss=iss∧0≤e.iss∧e.iss<8)):cF iss no day prev e=false:=by
  cases hb:cF iss no day prev e with
  |false=>rfl
  |true=>unfold cF at hb;simp only [Bool.and_eq_true,decide_eq_true_eq,beq_iff_eq]at hb;omega
theorem Ho {iss:Int} {no:Nat} {day:Int} {prev:List UInt8} {e:Ep} (h:e.no=(no:Int)→e.sg.a=(no:Int)→¬e.prev=prev):cF iss no day prev e=false:=by
  cases hb:cF iss no day prev e with
  |false=>rfl
  |true=>unfold cF at hb;simp only [Bool.and_eq_true,decide_eq_true_eq,beq_iff_eq]at hb;exact absurd hb.1.2.2 (h hb.1.2.1.1 hb.1.2.1.2)
theorem Hp {iss:Int} {no:Nat} {day:Int} {prev:List UInt8} {e:Ep} (h:day<e.day→1024≤e.day):cF iss no day prev e=false:=by
  cases hb:cF iss no day prev e with
  |false=>rfl
  |true=>unfold cF at hb;simp only [Bool.and_eq_true,decide_eq_true_eq,beq_iff_eq]at hb;omega
theorem Hq {iss e0:Int} {no:Nat} {day:Int} {prev:List UInt8} {e:Ep} (h0:iss=e0) (h:e.iss=e0∧0≤e.iss∧e.iss<8) (h2:(e.no=(no:Int)∧e.sg.a=(no:Int))∧e.prev=prev) (h3:day<e.day∧e.day<1024):cF iss no day prev e=true:=by
  unfold cF;simp only [Bool.and_eq_true,decide_eq_true_eq,beq_iff_eq]
  exact⟨⟨⟨⟨by omega,h.2.1⟩,h.2.2⟩,h2⟩,h3⟩
def dL (iss:Int):Nat→Int→List UInt8→(Int→Int)→List Ep→Option (Int→Int)
  |_,_,_,σ, []=>some σ
  |no,day,prev,σ,e::r=>if cF iss no day prev e&&cP σ (-1) e.ch then dL iss (no+1) e.day (cM e) (aV σ e.ch) r else none
def j0:List Ep→Int
  | []=>0
  |e::_=>e.iss
abbrev σ0:Int→Int:=fun _=>0
@[irreducible] def cC (l:List Ep):Option (Int→Int):=dL (j0 l) 0 (-1) zD σ0 l
theorem oC (l:List Ep):cC l=dL (j0 l) 0 (-1) zD σ0 l:=by unfold cC;rfl
theorem BA {l:List Ep} {e:Ep} (h:l[0]? =some e):j0 l=e.iss:=by
  cases l with
  |nil=>cases h
  |cons a l=>simp at h;subst h;rfl
theorem eo {iss:Int} {no:Nat} {day:Int} {prev:List UInt8} {σ:Int→Int} {l:List Ep} {i:Nat} {e:Ep} (h:l[i]? =some e) (hb:cF iss no day prev e=false∨cP σ (-1) e.ch=false):dL iss no day prev σ (l.drop i)=none:=by
  rw [List.drop_eq_getElem_cons (List.getElem?_eq_some_iff.1 h).1,(List.getElem?_eq_some_iff.1 h).2,dL]
  rcases hb with hb|hb
  · rw [hb,if_neg (by simp)]
  · rw [hb,if_neg (by simp)]
theorem wL {iss:Int} {no:Nat} {day:Int} {prev:List UInt8} {σ:Int→Int} {l:List Ep} {i:Nat} {e:Ep} (h:l[i]? =some e) (hb:cF iss no day prev e=true) (hc:cP σ (-1) e.ch=true):
    dL iss no day prev σ (l.drop i)=dL iss (no+1) e.day (cM e) (aV σ e.ch) (l.drop (i+1)):=by
  rw [List.drop_eq_getElem_cons (List.getElem?_eq_some_iff.1 h).1,(List.getElem?_eq_some_iff.1 h).2,dL,hb,hc,if_pos (by simp)]
@[irreducible] def cQ (r:List UInt8) (n:Int) (l:List Ep):Int:=if(cC l).isSome then (if l.all (fun e=>fc r n (cM e) e.sg.a e.sg.S e.sg.P)then 0 else 60)else 351
theorem sj {r:List UInt8} {n:Int} {l:List Ep} (h:cC l=none):cQ r n l=351:=by unfold cQ;rw [h];rfl
theorem vG {r:List UInt8} {n:Int} {l:List Ep} {σ:Int→Int} (h:cC l=some σ) {e:Ep} (he:e∈l) (hv:fc r n (cM e) e.sg.a e.sg.S e.sg.P=false):cQ r n l=60:=by
  unfold cQ
  rw [h,if_pos (show(some σ).isSome=true from rfl),if_neg]
  intro hall
  rw [List.all_eq_true.1 hall e he]at hv;cases hv
theorem vH {r:List UInt8} {n:Int} {l:List Ep} {σ:Int→Int} (h:cC l=some σ) (hv:∀e∈l,fc r n (cM e) e.sg.a e.sg.S e.sg.P=true):cQ r n l=0:=by
  unfold cQ
  rw [h,if_pos (show(some σ).isSome=true from rfl),if_pos (List.all_eq_true.2 hv)]
abbrev gZ (T:Nat) (e:Int):Value:= .iface T (.agg #[.int .i64 e])
theorem uX {X:Xs} {w:World} {β:Bm} (T:Nat) (e:Int):V X w β (.ic T (.ag [.i .i64 e])) (gZ T e):=by
  simp only [V,VS]
  exact⟨_,rfl, [.int .i64 e],rfl,⟨_,_,rfl,rfl,rfl⟩,fun x hx=>by rw [List.mem_singleton.1 hx];rfl⟩
theorem tO {α:Type} (o:Option α):o=none∨∃a,o=some a:=by cases o<;>simp
theorem z2 (r:List UInt8) (n:Int) (l:List Ep):cQ r n l≠0∨∃σ,cC l=some σ∧cQ r n l=0:=by
  rcases tO (cC l)with h|⟨σ,h⟩
  · exact .inl (by rw [sj h];decide)
  · by_cases h0 : cQ r n l = 0
    · exact .inr ⟨σ,h,h0⟩
    · exact .inl h0
theorem yR {l:List Ep} {i:Nat} {e:Ep} {p:Ep→Bool} (h:l[i]? =some e) (ha:∀x∈l.take i,p x=true) (he:p e=true):∀x∈l.take (i+1),p x=true:=fun x hx=>by
  rw [List.take_add_one,h]at hx
  rcases List.mem_append.1 hx with hx|hx
  · exact ha x hx
  · rw [List.mem_singleton.1 hx];exact he
theorem AJ {e:Ep} (h:e.ok):(e.cells.drop 68).take 3= [.i .i64 e.sg.a,bD e.sg.S,bD e.sg.P]:=by rw [AI h];rfl
end Go.Abs.D2
-- E5B
namespace Go.Abs.D2
open Go Go.Eng Go.Abs Go.Proofs
theorem uM (w:World):(zeroValue 3).run Tryz.prog w= .ok (.int .i64 0) w:=by kernel_rfl
theorem fS (e:Int):aB Tryz.prog 45 [.b true,.i .i64 e] (aU (.tu [])):=by
 refine enter Tryz.func45 rfl Tryz.ntmps45 (by kernel_rfl) (Nat.le_of_ble_eq_true rfl) fun w0 X0 hI=>?_
 refine af<|ai<|s1 (aa rfl) rfl<|s1 ((aa rfl).v (v':= .b false) (rfl)) rfl ?_
 refine ah<|ae ?_
 refine cK rfl ?_
 refine aK ?_
 refine lq (rs:= []) rfl aC rfl
theorem ir (e:Int):iX Tryz.prog 45 [.b false,.i .i64 e] ⟨[]⟩ (fun _ _=>False) (fun u=>u=gZ 136 e):=by
 refine sy Tryz.func45 rfl Tryz.ntmps45 (by kernel_rfl) (Nat.le_of_ble_eq_true rfl) fun w0 X0 hI=>?_
 refine af<|ai<|s1 (aa rfl) rfl<|s1 ((aa rfl).v (v':= .b true) (rfl)) rfl ?_
 refine ah<|ae ?_
 refine bT rfl ?_
 refine ai<|s1 (aa rfl) rfl<|s1 (eu (out:= [_]) [[aW (.int .i64 0)]] x9 rfl Tryz.underlying136 (by kernel_rfl) rfl rfl ⟨⟨by(first|rfl|omega|(simp;done)|(simp [*];done)|(simp [aX, *];done)),rfl⟩,trivial⟩ rfl) rfl<|s1 (uH (by kernel_rfl) rfl) rfl ?_
 refine Ki rfl rfl ?_
 exact mX rfl
theorem wq (e:Int):aB Tryz.prog 39 [.ic 136 (.ag [.i .i64 e])] (aU (.i .i64 e)):=by
 refine enter Tryz.func39 rfl Tryz.ntmps39 (by kernel_rfl) (Nat.le_of_ble_eq_true rfl) fun w0 X0 hI=>?_
 refine af<|ai<|s1 ((aa rfl).v (v':= .i .i64 0) rfl) rfl ?_
 refine ah<|ae<|af<|ai<|s1 (aa rfl) rfl<|s1 (uL Tryz.underlying136 rfl rfl) rfl<|s1 (aa rfl) rfl<|s1 (aa rfl) rfl<|s1 (aa rfl) rfl ?_
 refine ak rfl (bt 3 rfl x9 rfl rfl ?_)
 refine ak rfl (bo x9 rfl rfl rfl (by first|rfl|omega|(simp<;>omega)|(simp [*]<;>omega)) (by first|rfl|omega|(simp<;>omega)|(simp [*]<;>omega)) ?_)
 refine s1 (aa rfl) rfl ?_
 refine ah<|ae<|af<|af<|ai<|s1 (aa rfl) rfl<|s1 (aa rfl) rfl ?_
 refine ah<|ae ?_
 refine cK rfl ?_
 refine aK<|ae<|af<|ai<|s1 (aA Tryz.underlying136 rfl b7 (by decide) rfl rfl) rfl<|s1 (au b7 rfl rfl rfl) rfl<|s1 (aa rfl) rfl ?_
 refine ah<|ae<|aF ?_
 refine aG (rs:= [.tmp 2]) rfl (aD rfl aC) ?_
 rfl
theorem Ap (b:Nat) (σ:Int→Int) (l:List Ch) (hn:l.length≤maxLen):iX Tryz.prog 48 [.raw (.map (some b)),cz l] ⟨[(700,some [.mc b (mapOf σ)])]⟩ (fun r st=>cP σ (-1) l=true∧gP (.tu []) [(700, [.mc b (mapOf (aV σ l))])] r st) (fun u=>cP σ (-1) l=false∧u=gZ 136 351):=by
 refine sy Tryz.func48 rfl Tryz.ntmps48 (by kernel_rfl) (Nat.le_of_ble_eq_true rfl) fun w0 X0 hI=>?_
 refine af<|ai<|s1 ((aa rfl).v (v':= .i .i64 (-1)) rfl) rfl ?_
 refine ah<|ae<|af ?_
 simp only [maxLen]at hn
 refine ai<|s1 (aa rfl) rfl<|s1 (bx Tryz.underlying31 rfl rfl rfl) rfl<|s1 ((aa rfl).v (v':= .i .i64 0) rfl) rfl ?_
 refine ah<|ae<|aM ?_
 refine bH (ι:=Nat×(Int→Int)×Int) (fun⟨i,τ,la⟩=> [(0,.raw (.map (some b))),(4,.i .i64 la),(7,cz l),(8,nJ l.length),(9,nJ i)]) (fun⟨i,τ,la⟩=>⟨[(700,some ([.mc b (mapOf τ)]))]⟩) (fun⟨i,τ,la⟩=>i≤l.length∧cP σ (-1) l=cP τ la (l.drop i)∧aV σ l=aV τ (l.drop i)) (fun⟨i,τ,la⟩=>l.length - i) ?_ ?_
 ·exact bG ((0,σ, -1)) (⟨Nat.zero_le _,rfl,rfl⟩) [(700,some 700)] hI rfl rfl ⟨⟨_,rfl,.pure pu⟩,⟨_,rfl,.pure pu⟩,⟨_,rfl,.pure pu⟩,⟨_,rfl,.pure pu⟩,⟨_,rfl,.pure pu⟩,trivial⟩ ⟨.inr ⟨_,_,rfl,rfl,.pure ar⟩,trivial⟩
 rintro⟨i,τ,la⟩ ⟨hi,hk,hg⟩
 dsimp only
 refine af<|ai<|s1 (aa rfl) rfl ?_
 refine ah<|ae<|af ?_
 refine aP rfl (fun hc10=>?_) (fun hc10=>?_)
 ·have h10 : i < l.length := by have := of_decide_eq_true hc10; omega
  obtain⟨c,hc⟩:∃c,l[i]? =some c:=⟨_,List.getElem?_eq_getElem h10⟩
  refine aK<|ae<|af<|aM<|af<|ai<|s1 (aT i Tryz.underlying31 bp rfl rfl rfl (by omega) rfl) rfl<|s1 (cm bp rfl rfl (pV hc) rfl) rfl ?_
  refine ak rfl (bt 6 rfl bp rfl rfl ?_)
  refine ak rfl (bo bp rfl rfl rfl (by first|rfl|omega|(simp<;>omega)|(simp [*]<;>omega)) (by first|rfl|omega|(simp<;>omega)|(simp [*]<;>omega)) ?_)
  refine ah<|ae<|af<|ai<|s1 (aA Tryz.underlying55 rfl an (by decide) rfl rfl) rfl<|s1 (au an rfl rfl rfl) rfl<|s1 (aa rfl) rfl<|s1 (aa rfl) rfl<|s1 (aa rfl) rfl ?_
  refine dG 3 rfl rfl rfl rfl (fun hb17=> .step (aA Tryz.underlying55 rfl an (by decide) rfl rfl) rfl rfl<| .step (au an rfl rfl rfl) rfl rfl<| .step (aa rfl) rfl rfl<| .done) rfl rfl ?_
  refine s1 (aa rfl) rfl ?_
  refine dG 3 rfl rfl rfl rfl (fun hb22=> .step (aA Tryz.underlying55 rfl an (by decide) rfl rfl) rfl rfl<| .step (au an rfl rfl rfl) rfl rfl<| .step (aa rfl) rfl rfl<| .done) rfl rfl ?_
  refine s1 (aa rfl) rfl ?_
  refine dG 3 rfl rfl rfl rfl (fun hb27=> .step (aA Tryz.underlying55 rfl an (by decide) rfl rfl) rfl rfl<| .step (au an rfl rfl rfl) rfl rfl<| .step (aa rfl) rfl rfl<| .done) rfl rfl ?_
  refine ik 31 rfl (fun hc31=>?_) (fun hc31=>?_)
  ·skip
   refine ak rfl (aJ false rfl (.cons (.pure pu) (.cons (.pure pu) .nil)) (fS 351) pu (.inl rfl) rfl ?_)
   refine ah<|ae<|af<|ai<|s1 (aA Tryz.underlying55 rfl an (by decide) rfl rfl) rfl<|s1 (au an rfl rfl rfl) rfl<|s1 (aa rfl) rfl<|s1 (aA Tryz.underlying55 rfl an (by decide) rfl rfl) rfl<|s1 (au an rfl rfl rfl) rfl<|s1 (nQ Tryz.underlying80 Tryz.underlying3 uM rfl rfl rfl (s9 _ _)) rfl<|s1 (aa rfl) rfl<|s1 (aa rfl) rfl ?_
   refine dG 5 rfl rfl rfl rfl (fun hb40=> .step (aa rfl) rfl rfl<| .step (aA Tryz.underlying55 rfl an (by decide) rfl rfl) rfl rfl<| .step (au an rfl rfl rfl) rfl rfl<| .step (nQ Tryz.underlying80 Tryz.underlying3 uM rfl rfl rfl (s9 _ _)) rfl rfl<| .step (aa rfl) rfl rfl<| .done) rfl rfl ?_
   refine ik 46 rfl (fun hc46=>?_) (fun hc46=>?_)
   ·skip
    refine ak rfl (aJ false rfl (.cons (.pure pu) (.cons (.pure pu) .nil)) (fS 351) pu (.inl rfl) rfl ?_)
    refine ah<|ae<|af<|ai<|s1 (aA Tryz.underlying55 rfl an (by decide) rfl rfl) rfl<|s1 (au an rfl rfl rfl) rfl<|s1 (aa rfl) rfl ?_
    refine ah<|ae<|af<|ai<|s1 (aa rfl) rfl<|s1 (aA Tryz.underlying55 rfl an (by decide) rfl rfl) rfl<|s1 (au an rfl rfl rfl) rfl<|s1 (aA Tryz.underlying55 rfl an (by decide) rfl rfl) rfl<|s1 (au an rfl rfl rfl) rfl ?_
    refine ak rfl (tr Tryz.underlying80 Tryz.underlying3 rfl rfl rfl rfl ?_)
    refine ah<|ae<|af<|ai<|s1 (aA Tryz.underlying55 rfl an (by decide) rfl rfl) rfl<|s1 (au an rfl rfl rfl) rfl<|s1 (aa rfl) rfl ?_
    refine ah<|ae ?_
    refine aP rfl (fun hc57=>?_) (fun hc57=>?_)
    ·have h57 : c.st = 0 := by simpa using hc57
     refine ai<|s1 (aa rfl) rfl<|s1 (aA Tryz.underlying55 rfl an (by decide) rfl rfl) rfl<|s1 (au an rfl rfl rfl) rfl ?_
     refine ak rfl (Jy Tryz.underlying80 Tryz.underlying3 rfl rfl rfl rfl ?_)
     refine ah<|bj<|ae<|ai<|s1 (bg _ 1 rfl rfl rfl rfl (by omega)) rfl<|s1 (aa rfl) rfl ?_
     refine ah ?_
     exact bu (x:=(i,τ,la)) ((i+1,ig τ c.id c.st,c.id)) (⟨show i+1≤l.length by omega,hk.trans (zF hc (zx hc31 hc46)),hg.trans (zK hc)⟩) (show l.length - (i+1)<l.length - i by omega) [(700,some 700)] hI rfl rfl ⟨⟨_,rfl,.pure pu⟩,⟨_,rfl,.pure pu⟩,⟨_,rfl,.pure pu⟩,⟨_,rfl,.pure pu⟩,⟨_,rfl,.pure pu⟩,trivial⟩ ⟨.inr ⟨_,_,rfl,rfl,.of (congrArg (fun f=> [A.mc b f]) (Ji h57)) (.pure ar)⟩,trivial⟩
    ·have h57 : c.st ≠ 0 := by simpa using hc57
     refine aK<|bj<|ae<|ai<|s1 (bg _ 1 rfl rfl rfl rfl (by omega)) rfl<|s1 (aa rfl) rfl ?_
     refine ah ?_
     exact bu (x:=(i,τ,la)) ((i+1,ig τ c.id c.st,c.id)) (⟨show i+1≤l.length by omega,hk.trans (zF hc (zx hc31 hc46)),hg.trans (zK hc)⟩) (show l.length - (i+1)<l.length - i by omega) [(700,some 700)] hI rfl rfl ⟨⟨_,rfl,.pure pu⟩,⟨_,rfl,.pure pu⟩,⟨_,rfl,.pure pu⟩,⟨_,rfl,.pure pu⟩,⟨_,rfl,.pure pu⟩,trivial⟩ ⟨.inr ⟨_,_,rfl,rfl,.of (congrArg (fun f=> [A.mc b f]) (Jk h57)) (.pure ar)⟩,trivial⟩
   ·skip
    refine eS ⟨[]⟩ false rfl trivial (.cons (.pure pu) (.cons (.pure pu) .nil)) (ir 351) (fun u hu=>?_)
    refine bP ?_
    refine dA ?_
    refine bP ?_
    refine bP ?_
    refine dA ?_
    exact mX ⟨hk.trans (zE hc (F8 hc46)),hu⟩
  ·skip
   refine eS ⟨[]⟩ false rfl trivial (.cons (.pure pu) (.cons (.pure pu) .nil)) (ir 351) (fun u hu=>?_)
   refine bP ?_
   refine dA ?_
   refine bP ?_
   refine bP ?_
   refine dA ?_
   exact mX ⟨hk.trans (zE hc (F7 hc31)),hu⟩
 ·obtain rfl : i = l.length := by have := of_decide_eq_false hc10; omega
  rw [List.drop_length]at hk hg
  refine bE<|aO<|aO<|bF ?_
  refine cV 700 (cs':= [.mc b (mapOf (aV σ l))]) rfl (by rw [hg];rfl) ?_
  refine Ft (rs:= []) rfl aC ⟨hk,nD rfl⟩
theorem wm {b:Nat} {σ:Int→Int} {l:List Ch} (hn:l.length≤maxLen) (h:cP σ (-1) l=true):cE Tryz.prog 48 [.raw (.map (some b)),cz l] ⟨[(700,some [.mc b (mapOf σ)])]⟩ (gP (.tu []) [(700, [.mc b (mapOf (aV σ l))])]):=(Ap b σ l hn).ret (fun _ _ h=>h.2) fun u hu=>by rw [h]at hu;cases hu.1
theorem wo {b:Nat} {σ:Int→Int} {l:List Ch} (hn:l.length≤maxLen) (h:cP σ (-1) l=false):iY Tryz.prog 48 [.raw (.map (some b)),cz l] ⟨[(700,some [.mc b (mapOf σ)])]⟩ (fun u=>cP σ (-1) l=false∧u=gZ 136 351):=(Ap b σ l hn).tQ fun r st hu=>by rw [h]at hu;cases hu.1
theorem G8 (l:List Ep) (b:Nat):aB Tryz.prog 111 [cW l,.raw (.map (some b))] (aU (.fn (.func 163) [] [.fp [cW l],.fp [.raw (.map (some b))]])):=by
 refine enter Tryz.func111 rfl Tryz.ntmps111 (by kernel_rfl) (Nat.le_of_ble_eq_true rfl) fun w0 X0 hI=>?_
 refine af<|ai ?_
 refine ak rfl (kO 2 rfl rfl rfl rfl ?_)
 refine ak rfl (kO 3 rfl rfl rfl rfl ?_)
 refine s1 (aa rfl) rfl ?_
 refine ah<|ae<|af ?_
 refine fh 2 rfl rfl ar ?_
 refine fh 3 rfl rfl ar ?_
 refine ai<|s1 (gx (us:= []) (vs:= [.fp [cW l],.fp [.raw (.map (some b))]]) rfl rfl) rfl<|s1 (aa rfl) rfl ?_
 refine ah<|ae<|aF ?_
 refine aG (rs:= [.tmp 4]) rfl (aD rfl aC) ?_
 rfl
end Go.Abs.D2
-- C1B
namespace Go.Abs.D2
open Go Go.Eng Go.Abs Go.Proofs
theorem Gt (B:List UInt8) (u:BitVec 64) (hB:B.length≤100000000):cE Tryz.prog 169 [.sl 128 1 0 B.length,aY u] ⟨[(128,some (B.map u8))]⟩ (dh 1 (B++bB u.toNat).length ((B++bB u.toNat).map u8)):=by
 refine Hm ar Tryz.func169 rfl Tryz.ntmps169 (by kernel_rfl) (Nat.le_of_ble_eq_true rfl) fun w0 X0 hI=>?_
 refine af<|ai<|s1 (aa rfl) rfl ?_
 refine ah<|ae<|af<|aM ?_
 refine bH (ι:=Nat) (fun k=> [(0,.sl 130 1 0 (B.length+k)),(1,aY (u>>>(7*k)))]) (fun k=>⟨[(130,some ((B++iz u.toNat (k)).map u8))]⟩) (fun k=>k≤10∧∀i,i<k→128≤u.toNat / 128 ^ i) (fun k=>10 - k) ?_ ?_
 ·exact bG (0) (⟨by omega,fun t ht=>absurd ht (by omega)⟩) [(130,some 128)] hI rfl rfl ⟨⟨_,rfl,.sl rfl (by first|rfl|omega|(simp<;>omega)|(simp [*]<;>omega))⟩,⟨_,rfl,.pure pu⟩,trivial⟩ ⟨.inr ⟨_,_,rfl,rfl,.of (by simp [iz]) (.pure ar)⟩,trivial⟩
 rintro k ⟨hk,hk2⟩
 have hsh:=xT u k
 have hpl:(B++iz u.toNat (k)).length=B.length+k:=by simp
 refine af<|af<|ai<|s1 (aa rfl) rfl<|s1 ((aa rfl).v (v':= .b (decide (128≤u.toNat / 128 ^ k))) (congrArg A.b (JH u k))) rfl ?_
 refine ah<|ae ?_
 refine aP rfl (fun hc6=>?_) (fun hc6=>?_)
 ·have h6 : 128 ≤ u.toNat / 128 ^ k := of_decide_eq_true hc6
  have hk9:k<10:=Nat.lt_of_not_le fun h=>by rw [Ku u.isLt h]at h6;omega
  refine aK<|ae<|aM<|af<|ai<|s1 (aa rfl) rfl<|s1 (aa rfl) rfl<|s1 (jP _ (a6 127) rfl rfl) rfl<|s1 (ie _ Tryz.underlying198 Tryz.underlying5 rfl) rfl<|s1 ((tP _ (128:UInt8) rfl rfl).v (v':=u8 (UInt8.ofNat (u.toNat / 128 ^ k % 128+128))) (congrArg u8 (JG u k))) rfl ?_
  refine ak rfl (dZ 12 rfl Tryz.underlying68 aQ rfl rfl rfl rfl rfl ?_)
  refine ak rfl (cY 13 rfl Tryz.underlying68 aQ rfl (.sl rfl (by simp)) rfl (cO rfl (by first|rfl|omega|(simp<;>omega)|(simp [*]<;>omega))) (by simp) (by simp only [maxLen];omega) (by omega) rfl (JF B u k) rfl ?_)
  refine s1 (aa rfl) rfl ?_
  refine ah<|ae<|ai<|s1 (aa rfl) rfl<|s1 ((ku _ 7 rfl rfl rfl (by decide)).v (v':=aY (u>>>(7*(k+1)))) (congrArg aY (LZ u k))) rfl<|s1 (aa rfl) rfl ?_
  refine ah<|bj ?_
  exact bu (k+1) (⟨by omega,vb hk2 h6⟩) (by omega) [(130,some 13)] hI rfl rfl ⟨⟨_,rfl,.sl rfl (by first|rfl|omega|(simp<;>omega)|(simp [*]<;>omega))⟩,⟨_,rfl,.pure pu⟩,trivial⟩ ⟨.inr ⟨_,_,rfl,rfl,.pure ar⟩,trivial⟩
 ·have h6 : ¬ 128 ≤ u.toNat / 128 ^ k := of_decide_eq_false hc6
  refine bE<|aO<|aO<|bF<|ae<|af<|ai<|s1 (aa rfl) rfl<|s1 (aa rfl) rfl<|s1 ((ie _ Tryz.underlying198 Tryz.underlying5 rfl).v (v':=u8 (UInt8.ofNat (u.toNat / 128 ^ k))) (by rw [hsh])) rfl ?_
  refine ak rfl (dZ 19 rfl Tryz.underlying68 aQ rfl rfl rfl rfl rfl ?_)
  refine ak rfl (cY 20 rfl Tryz.underlying68 aQ rfl (.sl rfl (by simp)) rfl (cO rfl (by first|rfl|omega|(simp<;>omega)|(simp [*]<;>omega))) (by simp) (by simp only [maxLen];omega) (by omega) rfl (JI B hk2 (Nat.lt_of_not_le h6)) rfl ?_)
  refine s1 (aa rfl) rfl ?_
  refine ah<|ae<|aF ?_
  have hll:=JJ B hk2 (Nat.lt_of_not_le h6)
  refine aG (rs:= [.tmp 4]) rfl (aD rfl aC) ⟨20,?_,rfl⟩
  rw [←hll];rfl
theorem vL (B R:List UInt8) (u:BitVec 64) (m:Nat) (hB:B.length≤100000000) (hm:m=B.length) (hR:B++bB u.toNat=R):cE Tryz.prog 169 [.sl 128 1 0 m,aY u] ⟨[(128,some (B.map u8))]⟩ (dh 1 R.length (R.map u8)):=by
  subst hm;subst hR
  exact Gt B u hB
theorem GA (n:Int) (h0: -9223372036854775808≤n) (h1:n≤9223372036854775807):aB Tryz.prog 170 [.i .i64 n] (aU (aY (a6 (eV n)))):=by
 refine enter Tryz.func170 rfl Tryz.ntmps170 (by kernel_rfl) (Nat.le_of_ble_eq_true rfl) fun w0 X0 hI=>?_
 refine af<|ai<|s1 ((aa rfl).v (v':= .i .u64 0) rfl) rfl ?_
 refine ah<|ae<|af<|ai<|s1 (aa rfl) rfl<|s1 ((cU Tryz.underlying3 Tryz.underlying198 rfl).v (v':=aY (BitVec.ofInt 64 n)) (congrArg (A.i .u64) (yf n))) rfl<|s1 (LW _ 1 rfl rfl rfl (by decide)) rfl<|s1 (aa rfl) rfl<|s1 ((lf rfl rfl (by decide)).v (v':= .i .i64 (if 0≤n then 0 else -1)) (congrArg (A.i .i64) (MB h0 h1))) rfl<|s1 ((cU Tryz.underlying3 Tryz.underlying198 rfl).v (v':=aY (if 0≤n then 0 else BitVec.allOnes 64)) (congrArg (A.i .u64) (My n))) rfl<|s1 ((M5 _ _ rfl rfl).v (v':=aY (a6 (eV n))) (congrArg aY (MC h0 h1))) rfl<|s1 (aa rfl) rfl ?_
 refine ah<|ae<|aF ?_
 refine aG (rs:= [.tmp 2]) rfl (aD rfl aC) ?_
 rfl
theorem F6 (k n:Int) (s:List UInt8) (l:List CV) (hl:CV.er l<1000000) (ih:∀v∈l,aB Tryz.prog 166 [.ag v.cells] (aU (.b v.okB))):aB Tryz.prog 166 [.ag [.i .i64 k,.i .i64 n,.s s,.fz l.length (CV.bI l)]] (aU (.b (CV.okB (.mk k n s l)))):=by
 refine enter Tryz.func166 rfl Tryz.ntmps166 (by kernel_rfl) (Nat.le_of_ble_eq_true rfl) fun w0 X0 hI=>?_
 refine af<|ai ?_
 refine ak rfl (bY 1 rfl rfl rfl ?_)
 refine s1 (aa rfl) rfl ?_
 refine ah<|ae<|af<|af ?_
 have hll:=CV.qw l
 refine ai<|s1 (aA Tryz.underlying109 rfl an (by decide) rfl rfl) rfl<|s1 (au an rfl rfl rfl) rfl ?_
 refine ah<|ae<|aM<|af<|ai<|s1 (aa rfl) rfl<|s1 (aa rfl) rfl ?_
 refine ah<|ae ?_
 refine aP rfl (fun hc7=>?_) (fun hc7=>?_)
 ·have hk1 : k = 1 := by simpa using hc7
  refine af<|ai<|s1 (aA Tryz.underlying109 rfl gI (by decide) rfl rfl) rfl<|s1 (au gI rfl rfl rfl) rfl<|s1 ((aa rfl).v (v':= .b s.isEmpty) (congrArg A.b (by cases s<;>rfl))) rfl<|s1 (aa rfl) rfl ?_
  refine dG 4 rfl rfl rfl rfl (fun hb12=> .step (aA Tryz.underlying109 rfl cR (by decide) rfl rfl) rfl rfl<| .step (au cR rfl rfl rfl) rfl rfl<| .step (bx Tryz.underlying107 rfl rfl rfl) rfl rfl<| .step (aa rfl) rfl rfl<| .done) rfl rfl ?_
  refine s1 (aa rfl) rfl ?_
  refine ah<|ae<|aF<|bc<|aH ?_
  refine aG (rs:= [.tmp 2]) rfl (aD rfl aC) ?_
  exact congrArg A.b (CJ hk1)
 ·have hk1 : ¬ k = 1 := by simpa using hc7
  refine af<|ai<|s1 (aa rfl) rfl<|s1 (aa rfl) rfl ?_
  refine ah<|ae ?_
  refine aP rfl (fun hc18=>?_) (fun hc18=>?_)
  ·have hk2 : k = 2 := by simpa using hc18
   refine af<|ai<|s1 (aA Tryz.underlying109 rfl an (by decide) rfl rfl) rfl<|s1 (au an rfl rfl rfl) rfl<|s1 (aa rfl) rfl<|s1 (aa rfl) rfl ?_
   refine dG 4 rfl rfl rfl rfl (fun hb23=> .step (aA Tryz.underlying109 rfl cR (by decide) rfl rfl) rfl rfl<| .step (au cR rfl rfl rfl) rfl rfl<| .step (bx Tryz.underlying107 rfl rfl rfl) rfl rfl<| .step (aa rfl) rfl rfl<| .done) rfl rfl ?_
   refine s1 (aa rfl) rfl ?_
   refine ah<|ae<|aF<|bc<|aH ?_
   refine aG (rs:= [.tmp 2]) rfl (aD rfl aC) ?_
   exact congrArg A.b (CK hk2)
  ·have hk2 : ¬ k = 2 := by simpa using hc18
   refine af<|ai<|s1 (aa rfl) rfl<|s1 (aa rfl) rfl ?_
   refine ah<|ae ?_
   refine aP rfl (fun hc29=>?_) (fun hc29=>?_)
   ·have hk3 : k = 3 := by simpa using hc29
    refine af<|af<|ai<|s1 (aA Tryz.underlying109 rfl an (by decide) rfl rfl) rfl<|s1 (au an rfl rfl rfl) rfl<|s1 (aa rfl) rfl<|s1 (aa rfl) rfl ?_
    refine jW 3 rfl rfl rfl rfl (fun hb34=> .step (aA Tryz.underlying109 rfl gI (by decide) rfl rfl) rfl rfl<| .step (au gI rfl rfl rfl) rfl rfl<| .step ((aa rfl).v (v':= .b (!s.isEmpty)) (congrArg A.b (by cases s<;>rfl))) rfl rfl<| .done) rfl rfl ?_
    refine ah<|ae ?_
    refine aP rfl (fun hc38=>?_) (fun hc38=>?_)
    ·skip
     refine af<|ai<|s1 (aa rfl) rfl ?_
     refine ah<|ae<|aF<|aH<|bc<|aH ?_
     refine aG (rs:= [.tmp 2]) rfl (aD rfl aC) ?_
     exact congrArg A.b (JV hk3 hc38)
    ·skip
     refine aK<|ae<|af<|af<|ai<|s1 (aA Tryz.underlying109 rfl cR (by decide) rfl rfl) rfl<|s1 (au cR rfl rfl rfl) rfl<|s1 (bx Tryz.underlying107 rfl rfl rfl) rfl<|s1 ((aa rfl).v (v':= .i .i64 0) rfl) rfl ?_
     refine ah<|ae<|aM ?_
     refine bH (ι:=Nat) (fun i=> [(40,.fz l.length (CV.bI l)),(41,nJ l.length),(42,nJ i)]) (fun i=>⟨[]⟩) (fun i=>i≤l.length∧(l.take i).all CV.okB=true) (fun i=>l.length - i) ?_ ?_
     ·exact bG (0) (⟨Nat.zero_le _,rfl⟩) [] hI rfl rfl ⟨⟨_,rfl,.pure pu⟩,⟨_,rfl,.pure pu⟩,⟨_,rfl,.pure pu⟩,trivial⟩ trivial
     rintro i ⟨hi,hi2⟩
     refine af<|ai<|s1 (aa rfl) rfl ?_
     refine ah<|ae<|af ?_
     refine aP rfl (fun hc43=>?_) (fun hc43=>?_)
     ·have h43 : i < l.length := by have := of_decide_eq_true hc43; omega
      obtain⟨v,hv⟩:∃v,l[i]? =some v:=⟨_,List.getElem?_eq_getElem h43⟩
      have hvm:=List.mem_of_getElem? hv
      refine aK<|ae<|af<|aM<|af<|ai<|s1 (aT i Tryz.underlying107 br rfl rfl rfl (by omega) rfl) rfl<|s1 (cm br rfl rfl (CV.get hv) (CV.len_cells v)) rfl ?_
      refine ak rfl (bt 4 rfl br rfl rfl ?_)
      refine ak rfl (bo br rfl rfl rfl (CV.len_cells v) (by first|rfl|omega|(simp<;>omega)|(simp [*]<;>omega)) ?_)
      refine ah<|ae<|af<|ai<|s1 (aZ br rfl rfl (CV.len_cells v)) rfl ?_
      refine ak rfl (aJ false rfl (.cons (.pure pu) (.nil)) (ih v hvm) pu (.inl rfl) rfl ?_)
      refine s1 (aa rfl) rfl ?_
      refine ah<|ae ?_
      refine aP rfl (fun hc48=>?_) (fun hc48=>?_)
      ·have h48 : v.okB = false := by simpa using hc48
       refine af<|ai<|s1 (aa rfl) rfl ?_
       refine ah<|ae<|aF<|bc<|aH<|aH<|bc<|aH<|bc<|aH ?_
       refine aG (rs:= [.tmp 2]) rfl (aD rfl aC) ?_
       exact congrArg A.b (CL hk3 hv h48)
      ·have h48 : v.okB = true := by simpa using hc48
       refine aK<|bj<|ae<|ai<|s1 (bg _ 1 rfl rfl rfl rfl (by omega)) rfl<|s1 (aa rfl) rfl ?_
       refine ah ?_
       exact bu (i+1) (⟨by omega,yP hv hi2 h48⟩) (by omega) [] hI rfl rfl ⟨⟨_,rfl,.pure pu⟩,⟨_,rfl,.pure pu⟩,⟨_,rfl,.pure pu⟩,trivial⟩ trivial
     ·obtain rfl : i = l.length := by have := of_decide_eq_false hc43; omega
      refine bE<|aO<|aO<|bF<|ae<|af<|ai<|s1 (aa rfl) rfl ?_
      refine ah<|ae<|aF<|bc<|aH ?_
      refine aG (rs:= [.tmp 2]) rfl (aD rfl aC) ?_
      exact congrArg A.b (JU hk3 hc38 hi2)
   ·have hk3 : ¬ k = 3 := by simpa using hc29
    refine aK<|bj<|ae<|af<|ai<|s1 (aa rfl) rfl ?_
    refine ah<|ae<|aF ?_
    refine aG (rs:= [.tmp 2]) rfl (aD rfl aC) ?_
    exact congrArg A.b (CI hk1 hk2 hk3)
theorem F5 (v:CV) (h:v.size≤1000000):aB Tryz.prog 166 [.ag v.cells] (aU (.b v.okB)):=CV.oX (p:=fun v=>aB Tryz.prog 166 [.ag v.cells] (aU (.b v.okB))) 1000000 (fun k n s l hl ih=>F6 k n s l hl ih) v h
theorem F3 (k n:Int) (s:List UInt8) (l:List CV) (hl:CV.er l<1000000) (ih:∀v∈l,aB Tryz.prog 167 [.ag v.cells] (aU (nJ v.depth))):aB Tryz.prog 167 [.ag [.i .i64 k,.i .i64 n,.s s,.fz l.length (CV.bI l)]] (aU (nJ (CV.depth (.mk k n s l)))):=by
 refine enter Tryz.func167 rfl Tryz.ntmps167 (by kernel_rfl) (Nat.le_of_ble_eq_true rfl) fun w0 X0 hI=>?_
 refine af<|ai ?_
 refine ak rfl (bY 1 rfl rfl rfl ?_)
 refine s1 ((aa rfl).v (v':= .i .i64 0) rfl) rfl ?_
 refine ah<|ae<|af<|af ?_
 have hll:=CV.qw l
 have hdl:=CV.vX l
 refine ai<|s1 (aA Tryz.underlying109 rfl an (by decide) rfl rfl) rfl<|s1 (au an rfl rfl rfl) rfl<|s1 (aa rfl) rfl ?_
 refine ah<|ae ?_
 refine aP rfl (fun hc8=>?_) (fun hc8=>?_)
 ·have hk3 : ¬ k = 3 := by simpa using hc8
  refine af<|ai<|s1 ((aa rfl).v (v':= .i .i64 0) rfl) rfl ?_
  refine ah<|ae<|aF<|aH ?_
  refine aG (rs:= [.tmp 2]) rfl (aD rfl aC) ?_
  exact congrArg nJ (show 0=CV.depth (.mk k n s l) by rw [CV.depth,if_neg hk3])
 ·have hk3 : k = 3 := by simpa using hc8
  refine aK<|ae<|af<|ai<|s1 ((aa rfl).v (v':= .i .i64 0) rfl) rfl ?_
  refine ah<|ae<|af<|af<|ai<|s1 (aA Tryz.underlying109 rfl cR (by decide) rfl rfl) rfl<|s1 (au cR rfl rfl rfl) rfl<|s1 (bx Tryz.underlying107 rfl rfl rfl) rfl<|s1 ((aa rfl).v (v':= .i .i64 0) rfl) rfl ?_
  refine ah<|ae<|aM ?_
  refine bH (ι:=Nat) (fun i=> [(3,nJ (CV.ek (l.take i))),(10,.fz l.length (CV.bI l)),(11,nJ l.length),(12,nJ i)]) (fun i=>⟨[]⟩) (fun i=>i≤l.length) (fun i=>l.length - i) ?_ ?_
  ·exact bG (0) (Nat.zero_le _) [] hI rfl rfl ⟨⟨_,rfl,.pure pu⟩,⟨_,rfl,.pure pu⟩,⟨_,rfl,.pure pu⟩,⟨_,rfl,.pure pu⟩,trivial⟩ trivial
  rintro i hi
  refine af<|ai<|s1 (aa rfl) rfl ?_
  refine ah<|ae<|af ?_
  refine aP rfl (fun hc13=>?_) (fun hc13=>?_)
  ·have h43 : i < l.length := by have := of_decide_eq_true hc13; omega
   obtain⟨v,hv⟩:∃v,l[i]? =some v:=⟨_,List.getElem?_eq_getElem h43⟩
   have hvm:=List.mem_of_getElem? hv
   refine aK<|ae<|af<|aM<|af<|ai<|s1 (aT i Tryz.underlying107 br rfl rfl rfl (by omega) rfl) rfl<|s1 (cm br rfl rfl (CV.get hv) (CV.len_cells v)) rfl ?_
   refine ak rfl (bt 5 rfl br rfl rfl ?_)
   refine ak rfl (bo br rfl rfl rfl (CV.len_cells v) (by first|rfl|omega|(simp<;>omega)|(simp [*]<;>omega)) ?_)
   refine ah<|ae<|ai<|s1 (aa rfl) rfl<|s1 (aZ br rfl rfl (CV.len_cells v)) rfl ?_
   refine ak rfl (aJ false rfl (.cons (.pure pu) (.nil)) (ih v hvm) pu (.inl rfl) rfl ?_)
   refine s1 ((yo (a:=CV.ek (l.take i)) (b:=v.depth) rfl rfl rfl).v (v':=nJ (CV.ek (l.take (i+1)))) (congrArg nJ (CV.Ag hv))) rfl<|s1 (aa rfl) rfl ?_
   refine ah<|bj<|ae<|ai<|s1 (bg _ 1 rfl rfl rfl rfl (by omega)) rfl<|s1 (aa rfl) rfl ?_
   refine ah ?_
   exact bu (i+1) (by omega) (by omega) [] hI rfl rfl ⟨⟨_,rfl,.pure pu⟩,⟨_,rfl,.pure pu⟩,⟨_,rfl,.pure pu⟩,⟨_,rfl,.pure pu⟩,trivial⟩ trivial
  ·obtain rfl : i = l.length := by have := of_decide_eq_false hc13; omega
   refine bE<|aO<|aO<|bF<|ae<|af<|ai<|s1 ((aa rfl).v (v':=nJ (CV.ek l)) (by rw [List.take_length])) rfl<|s1 (bg _ 1 rfl rfl rfl rfl (by omega)) rfl<|s1 (aa rfl) rfl ?_
   refine ah<|ae<|aF ?_
   refine aG (rs:= [.tmp 2]) rfl (aD rfl aC) ?_
   exact congrArg nJ (show CV.ek l+1=CV.depth (.mk k n s l) by rw [CV.depth,if_pos hk3])
theorem F2 (v:CV) (h:v.size≤1000000):aB Tryz.prog 167 [.ag v.cells] (aU (nJ v.depth)):=CV.oX (p:=fun v=>aB Tryz.prog 167 [.ag v.cells] (aU (nJ v.depth))) 1000000 (fun k n s l hl ih=>F3 k n s l hl ih) v h
theorem F0 (v:CV) (h:v.size≤1000000):aB Tryz.prog 115 [.ag v.cells] (aU (.i .i64 (fk v))):=by
 refine enter Tryz.func115 rfl Tryz.ntmps115 (by kernel_rfl) (Nat.le_of_ble_eq_true rfl) fun w0 X0 hI=>?_
 refine af<|ai ?_
 refine ak rfl (bY 1 rfl rfl rfl ?_)
 refine s1 ((aa rfl).v (v':= .i .i64 0) rfl) rfl ?_
 refine ah<|ae<|af<|af<|ai<|s1 (aZ br rfl rfl (CV.len_cells v)) rfl ?_
 refine ak rfl (aJ false rfl (.cons (.pure pu) (.nil)) (F5 v h) pu (.inl rfl) rfl ?_)
 refine s1 (aa rfl) rfl ?_
 refine ah<|ae ?_
 refine aP rfl (fun hc5=>?_) (fun hc5=>?_)
 ·have h5 : v.okB = false := by simpa using hc5
  refine af<|ai<|s1 ((aa rfl).v (v':= .i .i64 1) rfl) rfl ?_
  refine ah<|ae<|aF<|aH ?_
  refine aG (rs:= [.tmp 2]) rfl (aD rfl aC) ?_
  exact congrArg (A.i .i64) (zR h5).symm
 ·have h5 : v.okB = true := by simpa using hc5
  refine aK<|ae<|af<|af<|ai<|s1 (aZ br rfl rfl (CV.len_cells v)) rfl ?_
  refine ak rfl (aJ false rfl (.cons (.pure pu) (.nil)) (F2 v h) pu (.inl rfl) rfl ?_)
  refine s1 (aa rfl) rfl ?_
  refine ah<|ae ?_
  refine aP rfl (fun hc8=>?_) (fun hc8=>?_)
  ·have h8 : 16 < v.depth := by have := of_decide_eq_true hc8; omega
   refine af<|ai<|s1 ((aa rfl).v (v':= .i .i64 2) rfl) rfl ?_
   refine ah<|ae<|aF<|aH ?_
   refine aG (rs:= [.tmp 2]) rfl (aD rfl aC) ?_
   exact congrArg (A.i .i64) (zS h5 h8).symm
  ·have h8 : ¬ 16 < v.depth := by have := of_decide_eq_false hc8; omega
   refine aK<|ae<|af<|ai<|s1 ((aa rfl).v (v':= .i .i64 0) rfl) rfl ?_
   refine ah<|ae<|aF ?_
   refine aG (rs:= [.tmp 2]) rfl (aD rfl aC) ?_
   exact congrArg (A.i .i64) (vI h5 h8).symm
end Go.Abs.D2
-- C1C
namespace Go.Abs.D2
open Go Go.Eng Go.Abs Go.Proofs
def fN (i:Nat):List A:= [.raw .nilFunc,.fn (.func 168) [] [],.fn (.func 171) [] [],.fn (.func 172) [] [.p i 0]]
theorem vW:lg fN:=sq (vV trivial) (sq (vV ⟨trivial,trivial⟩) (sq (vV ⟨trivial,trivial⟩) (sq GX GS)))
theorem Ab (B R:List UInt8) (n:Int) (s:List UInt8) (l:List CV) (h0: -9223372036854775808≤n) (h1:n≤9223372036854775807) (hR:B++1::bB (eV n)=R) (hl:R.length≤100000000):cE Tryz.prog 168 [.sl 131 1 0 B.length,.ag [.i .i64 1,.i .i64 n,.s s,.fz l.length (CV.bI l)]] ⟨[(131,some (B.map u8))]⟩ (gf 1 R.length (R.map u8) []):=by
 refine wy [] ar Co Cn CN Tryz.func168 rfl Tryz.ntmps168 (by kernel_rfl) (Nat.le_of_ble_eq_true rfl) fun w0 X0 hI=>?_
 refine af<|ai ?_
 refine ak rfl (bY 3 rfl rfl rfl ?_)
 refine s1 (aa rfl) rfl ?_
 refine ah<|ae<|af ?_
 have hlen:B.length+1≤100000000:=by rw [←hR]at hl;simp at hl;omega
 refine bU ⟨_, [], []⟩ 7 4 bz (le_refl rfl) ?_
 refine aj 0 [] [(131,none)] (aa rfl) rfl rfl<|sN 6 1 [] bb Tryz.underlying68 aQ rfl rfl rfl rfl rfl rfl<|gV 128 2 [0,1] [(6,some 1),(131,none)] bb Tryz.underlying68 aQ rfl (.sl rfl (by simp)) rfl (cO rfl (by first|rfl|omega|(simp<;>omega)|(simp [*]<;>omega))) (by simp) (by simp only [maxLen];omega) (by omega) rfl (ve B 1) rfl rfl<|aj 3 [] [(3,none)] (aA Tryz.underlying109 rfl an (by decide) rfl rfl) rfl rfl<|aj 4 [3] [(3,none)] (au an rfl rfl rfl) rfl rfl<|bV false 5 [4] [] bb rfl (.cons (.pure pu) (.nil)) (GA n h0 h1) pu (.inl rfl) rfl rfl<|wO 11 ⟨[(128,some ((B++ [1]).map u8))]⟩ true 6 [2,5] [(128,some 2)] bb rfl ⟨⟨rfl,a7.pure ar⟩,trivial⟩ (.cons (.ksl rfl) (.cons (.pure pu) .nil)) (vL (B++ [1]) (R) (a6 (eV n)) (B.length+1) (by simp;omega) (by simp) (by rw [iH (nL h0 h1), ←hR];simp)) ar (.inr fI) rfl rfl<|bW (by kernel_rfl) ?_
 refine s1 (aa rfl) rfl ?_
 refine ah<|ae<|aF ?_
 refine aG (rs:= [.tmp 4]) rfl (aD rfl aC) (Db rfl)
theorem Ac (B R:List UInt8) (n:Int) (s:List UInt8) (l:List CV) (hR:B++2::(bB s.length++s)=R) (hl:R.length≤100000000):cE Tryz.prog 171 [.sl 131 1 0 B.length,.ag [.i .i64 2,.i .i64 n,.s s,.fz l.length (CV.bI l)]] ⟨[(131,some (B.map u8))]⟩ (gf 1 R.length (R.map u8) []):=by
 refine wy [] ar Co Cn CN Tryz.func171 rfl Tryz.ntmps171 (by kernel_rfl) (Nat.le_of_ble_eq_true rfl) fun w0 X0 hI=>?_
 refine af<|ai ?_
 refine ak rfl (bY 3 rfl rfl rfl ?_)
 refine s1 (aa rfl) rfl ?_
 refine ah<|ae<|af ?_
 have hlen:B.length+1+s.length≤100000000:=by rw [←hR]at hl;simp at hl;omega
 have hlen2:(B++2::bB s.length).length+s.length=R.length:=by rw [←hR];simp;omega
 refine bU ⟨_, [], []⟩ 11 4 bz (le_refl rfl) ?_
 refine aj 0 [] [(131,none)] (aa rfl) rfl rfl<|sN 6 1 [] bb Tryz.underlying68 aQ rfl rfl rfl rfl rfl rfl<|gV 128 2 [0,1] [(6,some 1),(131,none)] bb Tryz.underlying68 aQ rfl (.sl rfl (by simp)) rfl (cO rfl (by first|rfl|omega|(simp<;>omega)|(simp [*]<;>omega))) (by simp) (by simp only [maxLen];omega) (by omega) rfl (ve B 2) rfl rfl<|aj 3 [] [(3,none)] (aA Tryz.underlying109 rfl gI (by decide) rfl rfl) rfl rfl<|aj 4 [3] [(3,none)] (au gI rfl rfl rfl) rfl rfl<|aj 5 [4] [] (uG Tryz.underlying9 rfl rfl) rfl rfl<|aj 6 [5] [] (nu _ Tryz.underlying3 Tryz.underlying198 rfl rfl) rfl rfl<|wO 12 ⟨[(128,some ((B++ [2]).map u8))]⟩ true 7 [2,6] [(128,some 2)] bb rfl ⟨⟨rfl,a7.pure ar⟩,trivial⟩ (.cons (.ksl rfl) (.cons (.pure pu) .nil)) (vL (B++ [2]) (B++2::bB s.length) (a6 s.length) (B.length+1) (by simp;omega) (by simp) (by rw [iH (by omega)];simp)) ar (.inr fI) rfl rfl<|aj 8 [] [(3,none)] (aA Tryz.underlying109 rfl gI (by decide) rfl rfl) rfl rfl<|aj 9 [8] [(3,none)] (au gI rfl rfl rfl) rfl rfl ?_
 refine Bg 15 10 [7,9] [(12,some 7)] bb Tryz.underlying68 Tryz.underlying9 aQ rfl rfl (by simp) (by simp;omega) rfl (by simp only [maxLen];omega) (by omega) (Fc _ _ R (by rw [←hR];simp)) rfl rfl<|bW (by kernel_rfl) ?_
 refine s1 (aa rfl) rfl ?_
 refine ah<|ae<|aF ?_
 refine aG (rs:= [.tmp 4]) rfl (aD rfl aC) ?_
 rw [←hlen2]
 exact Db rfl
theorem Eh {s0:St} {ow:Bool} {T:Nat} {cs:List A} (h:s0.get T=some cs):∀p∈ [(T,fN T)],(∃cs,s0.get p.1=some cs)∧l3 s0 ow p.2:=fun p hp=>by
  rw [List.mem_singleton.1 hp]
  exact⟨⟨_,h⟩,.inl ⟨trivial,.inr trivial⟩,.inl ⟨⟨trivial,trivial⟩,.inr ⟨trivial,trivial⟩⟩,.inl ⟨⟨trivial,trivial⟩,.inr ⟨trivial,trivial⟩⟩,EI h,trivial⟩
theorem GI (n:Int) (s:List UInt8) (l:List CV) (ih:∀v∈l,∀(n:Int) (s:List UInt8) (q:List CV),v= .mk 3 n s q→CV.jy q=true→CV.kV q=true→∀B R:List UInt8,B++3::(bB q.length++CV.b5 q)=R→R.length≤100000000→cE Tryz.prog 172 [.sl 131 1 0 B.length,.ag [.i .i64 3,.i .i64 n,.s s,.fz q.length (CV.bI q)],.p 11 0] ⟨[(131,some (B.map u8)),(11,some (fN 11))]⟩ (gf 1 R.length (R.map u8) [(11,fN 11)])) (hok:CV.jy l=true) (hrg:CV.kV l=true) (B R:List UInt8) (hR:B++3::(bB l.length++CV.b5 l)=R) (hl:R.length≤100000000):cE Tryz.prog 172 [.sl 131 1 0 B.length,.ag [.i .i64 3,.i .i64 n,.s s,.fz l.length (CV.bI l)],.p 11 0] ⟨[(131,some (B.map u8)),(11,some (fN 11))]⟩ (gf 1 R.length (R.map u8) [(11,fN 11)]):=by
 refine wy [11] ar J3 (J2 rfl) (J6 vW) Tryz.func172 rfl Tryz.ntmps172 (by kernel_rfl) (Nat.le_of_ble_eq_true rfl) fun w0 X0 hI=>?_
 refine af<|ai ?_
 refine ak rfl (bY 4 rfl rfl rfl ?_)
 refine s1 (aa rfl) rfl ?_
 refine ah<|ae<|af ?_
 have hnl:=CV.sY l
 have hRl:R.length=B.length+1+(bB l.length).length+(CV.b5 l).length:=by rw [←hR];simp;omega
 rw [CV.mv]at hok
 rw [CV.tZ]at hrg
 refine bU ⟨_, [], []⟩ 8 4 bz (le_refl rfl) ?_
 refine aj 0 [] [(131,none)] (aa rfl) rfl rfl<|sN 9 1 [] bb Tryz.underlying68 aQ rfl rfl rfl rfl rfl rfl<|gV 128 2 [0,1] [(9,some 1),(131,none)] bb Tryz.underlying68 aQ rfl (.sl rfl (by simp)) rfl (cO rfl (by first|rfl|omega|(simp<;>omega)|(simp [*]<;>omega))) (by simp) (by simp only [maxLen];omega) (by omega) rfl (ve B 3) rfl rfl<|aj 3 [] [(4,none)] (aA Tryz.underlying109 rfl cR (by decide) rfl rfl) rfl rfl<|aj 4 [3] [(4,none)] (au cR rfl rfl rfl) rfl rfl<|aj 5 [4] [] (bx Tryz.underlying107 rfl rfl rfl) rfl rfl<|aj 6 [5] [] (nu _ Tryz.underlying3 Tryz.underlying198 rfl rfl) rfl rfl<|wO 15 ⟨[(128,some ((B++ [3]).map u8))]⟩ true 7 [2,6] [(128,some 2)] bb rfl ⟨⟨rfl,a7.pure ar⟩,trivial⟩ (.cons (.ksl rfl) (.cons (.pure pu) .nil)) (vL (B++ [3]) (B++3::(bB l.length++CV.b5 (l.take 0))) (a6 l.length) (B.length+1) (by simp;omega) (by simp) (by rw [iH (by omega)];simp [CV.b5])) ar (.inr fI) rfl rfl<|bW (by kernel_rfl) ?_
 refine s1 (aa rfl) rfl ?_
 refine ah<|ae<|af<|af<|ai<|s1 (aA Tryz.underlying109 rfl cR (by decide) rfl rfl) rfl<|s1 (au cR rfl rfl rfl) rfl<|s1 (bx Tryz.underlying107 rfl rfl rfl) rfl<|s1 ((aa rfl).v (v':= .i .i64 0) rfl) rfl ?_
 refine ah<|ae<|aM ?_
 refine bH (ι:=Nat) (fun i=> [(0,.sl 131 1 0 (B++3::(bB l.length++CV.b5 (l.take i))).length),(2,.p 11 0),(17,.fz l.length (CV.bI l)),(18,nJ l.length),(19,nJ i)]) (fun i=>⟨[(131,some ((B++3::(bB l.length++CV.b5 (l.take i))).map u8)),(11,some (fN 11))]⟩) (fun i=>i≤l.length) (fun i=>l.length - i) ?_ ?_
 ·exact bG (0) (Nat.zero_le _) [(11,some 11),(131,some 15)] hI rfl rfl ⟨⟨_,rfl,.sl rfl (by first|rfl|omega|(simp<;>omega)|(simp [*]<;>omega))⟩,⟨_,rfl,.p rfl⟩,⟨_,rfl,.pure pu⟩,⟨_,rfl,.pure pu⟩,⟨_,rfl,.pure pu⟩,trivial⟩ ⟨.inr ⟨_,_,rfl,rfl,.pure ar⟩,.inr ⟨_,_,rfl,rfl,.cons (.pure trivial) (.cons (.pure pu) (.cons (.pure pu) (.cons (.fn .nil (.cons (.p rfl) .nil)) .nil)))⟩,trivial⟩
 rintro i hi
 have hli:=CV.sw l i
 have hli2:=CV.sw l (i+1)
 have hCl:(B++3::(bB l.length++CV.b5 (l.take i))).length=B.length+1+(bB l.length).length+(CV.b5 (l.take i)).length:=by simp;omega
 have hCl2:(B++3::(bB l.length++CV.b5 (l.take (i+1)))).length=B.length+1+(bB l.length).length+(CV.b5 (l.take (i+1))).length:=by simp;omega
 refine af<|ai<|s1 (aa rfl) rfl ?_
 refine ah<|ae<|af ?_
 refine aP rfl (fun hc20=>?_) (fun hc20=>?_)
 ·have h20 : i < l.length := by have := of_decide_eq_true hc20; omega
  obtain⟨⟨k2,n2,s2,q2⟩,hv⟩:∃v,l[i]? =some v:=⟨_,List.getElem?_eq_getElem h20⟩
  have hvm:=List.mem_of_getElem? hv
  have hvo:=List.all_eq_true.1 hok _ hvm
  have hvr:=List.all_eq_true.1 hrg _ hvm
  simp only [CV.eT,Bool.and_eq_true,decide_eq_true_eq]at hvr
  refine aK<|ae<|af<|aM<|af<|ai<|s1 (aT i Tryz.underlying107 br rfl rfl rfl (by omega) rfl) rfl<|s1 (cm br rfl rfl (CV.H2 hv) rfl) rfl ?_
  refine ak rfl (bt 7 rfl br rfl rfl ?_)
  refine ak rfl (bo br rfl rfl rfl (by first|rfl|omega|(simp<;>omega)|(simp [*]<;>omega)) (by first|rfl|omega|(simp<;>omega)|(simp [*]<;>omega)) ?_)
  refine ah<|ae ?_
  rcases qI hvo with hcs|hcs|hcs
  ·subst hcs
   refine bU ⟨_, [], []⟩ 7 4 bz (le_refl rfl) ?_
   refine aj 0 [] [(7,none)] (aA Tryz.underlying109 rfl an (by decide) rfl rfl) rfl rfl<|aj 1 [0] [(7,none)] (au an rfl rfl rfl) rfl rfl<|aj 2 [1] [(11,none)] (bJ 1 Tryz.underlying158 fZ rfl rfl rfl (by decide) rfl) rfl rfl<|aj 3 [2] [(11,none)] (au fZ rfl rfl rfl) rfl rfl<|aj 4 [] [(131,none)] (aa rfl) rfl rfl<|aj 5 [] [(7,none)] (aZ br rfl rfl (by first|rfl|omega|(simp<;>omega)|(simp [*]<;>omega))) rfl rfl<|oE 29 ⟨[(131,some ((B++3::(bB l.length++CV.b5 (l.take i))).map u8))]⟩ [] true 6 [3,4,5] [(131,none)] bb rfl rfl rfl ⟨⟨rfl,a7.pure ar⟩,trivial⟩ (.cons (.ksl rfl) (.cons (.pure pu) .nil)) (Ab _ (B++3::(bB l.length++CV.b5 (l.take (i+1)))) n2 s2 q2 hvr.1.1 hvr.1.2 (by rw [←CV.qc hv];simp [CV.enc]) (by omega)) ar (.inr fI) tz rfl rfl<|bW (by kernel_rfl) ?_
   refine s1 (aa rfl) rfl ?_
   refine ah<|bj<|ae<|ai<|s1 (bg _ 1 rfl rfl rfl rfl (by omega)) rfl<|s1 (aa rfl) rfl ?_
   refine ah ?_
   exact bu (i+1) (by omega) (by omega) [(11,some 11),(131,some 29)] hI rfl rfl ⟨⟨_,rfl,.sl rfl (by first|rfl|omega|(simp<;>omega)|(simp [*]<;>omega))⟩,⟨_,rfl,.p rfl⟩,⟨_,rfl,.pure pu⟩,⟨_,rfl,.pure pu⟩,⟨_,rfl,.pure pu⟩,trivial⟩ ⟨.inr ⟨_,_,rfl,rfl,.pure ar⟩,.inr ⟨_,_,rfl,rfl,.cons (.pure trivial) (.cons (.pure pu) (.cons (.pure pu) (.cons (.fn .nil (.cons (.p rfl) .nil)) .nil)))⟩,trivial⟩
  ·subst hcs
   refine bU ⟨_, [], []⟩ 7 4 bz (le_refl rfl) ?_
   refine aj 0 [] [(7,none)] (aA Tryz.underlying109 rfl an (by decide) rfl rfl) rfl rfl<|aj 1 [0] [(7,none)] (au an rfl rfl rfl) rfl rfl<|aj 2 [1] [(11,none)] (bJ 2 Tryz.underlying158 fZ rfl rfl rfl (by decide) rfl) rfl rfl<|aj 3 [2] [(11,none)] (au fZ rfl rfl rfl) rfl rfl<|aj 4 [] [(131,none)] (aa rfl) rfl rfl<|aj 5 [] [(7,none)] (aZ br rfl rfl (by first|rfl|omega|(simp<;>omega)|(simp [*]<;>omega))) rfl rfl<|oE 29 ⟨[(131,some ((B++3::(bB l.length++CV.b5 (l.take i))).map u8))]⟩ [] true 6 [3,4,5] [(131,none)] bb rfl rfl rfl ⟨⟨rfl,a7.pure ar⟩,trivial⟩ (.cons (.ksl rfl) (.cons (.pure pu) .nil)) (Ac _ (B++3::(bB l.length++CV.b5 (l.take (i+1)))) n2 s2 q2 (by rw [←CV.qc hv];simp [CV.enc]) (by omega)) ar (.inr fI) tz rfl rfl<|bW (by kernel_rfl) ?_
   refine s1 (aa rfl) rfl ?_
   refine ah<|bj<|ae<|ai<|s1 (bg _ 1 rfl rfl rfl rfl (by omega)) rfl<|s1 (aa rfl) rfl ?_
   refine ah ?_
   exact bu (i+1) (by omega) (by omega) [(11,some 11),(131,some 29)] hI rfl rfl ⟨⟨_,rfl,.sl rfl (by first|rfl|omega|(simp<;>omega)|(simp [*]<;>omega))⟩,⟨_,rfl,.p rfl⟩,⟨_,rfl,.pure pu⟩,⟨_,rfl,.pure pu⟩,⟨_,rfl,.pure pu⟩,trivial⟩ ⟨.inr ⟨_,_,rfl,rfl,.pure ar⟩,.inr ⟨_,_,rfl,rfl,.cons (.pure trivial) (.cons (.pure pu) (.cons (.pure pu) (.cons (.fn .nil (.cons (.p rfl) .nil)) .nil)))⟩,trivial⟩
  ·obtain ⟨rfl, hq2⟩ := hcs
   refine bU ⟨_, [], []⟩ 7 4 bz (le_refl rfl) ?_
   refine aj 0 [] [(7,none)] (aA Tryz.underlying109 rfl an (by decide) rfl rfl) rfl rfl<|aj 1 [0] [(7,none)] (au an rfl rfl rfl) rfl rfl<|aj 2 [1] [(11,none)] (bJ 3 Tryz.underlying158 fZ rfl rfl rfl (by decide) rfl) rfl rfl<|aj 3 [2] [(11,none)] (au fZ rfl rfl rfl) rfl rfl<|aj 4 [] [(131,none)] (aa rfl) rfl rfl<|aj 5 [] [(7,none)] (aZ br rfl rfl (by first|rfl|omega|(simp<;>omega)|(simp [*]<;>omega))) rfl rfl<|oE 29 ⟨[(131,some ((B++3::(bB l.length++CV.b5 (l.take i))).map u8)),(11,some (fN 11))]⟩ [(11,fN 11)] true 6 [3,4,5] [(11,none),(131,none)] bb rfl rfl rfl ⟨⟨rfl,a7.pure ar⟩,⟨rfl,(.cons (.pure trivial) (.cons (.pure pu) (.cons (.pure pu) (.cons (.fn .nil (.cons (.kp rfl) .nil)) .nil))))⟩,trivial⟩ (.cons (.ksl rfl) (.cons (.pure pu) (.cons (.kp rfl) .nil))) (ih _ hvm n2 s2 q2 rfl hq2 hvr.2 _ (B++3::(bB l.length++CV.b5 (l.take (i+1)))) (by rw [←CV.qc hv];simp [CV.enc]) (by omega)) ar (.inr fI) (Eh rfl) rfl rfl<|bW (by kernel_rfl) ?_
   refine s1 (aa rfl) rfl ?_
   refine ah<|bj<|ae<|ai<|s1 (bg _ 1 rfl rfl rfl rfl (by omega)) rfl<|s1 (aa rfl) rfl ?_
   refine ah ?_
   exact bu (i+1) (by omega) (by omega) [(11,some 11),(131,some 29)] hI rfl rfl ⟨⟨_,rfl,.sl rfl (by first|rfl|omega|(simp<;>omega)|(simp [*]<;>omega))⟩,⟨_,rfl,.p rfl⟩,⟨_,rfl,.pure pu⟩,⟨_,rfl,.pure pu⟩,⟨_,rfl,.pure pu⟩,trivial⟩ ⟨.inr ⟨_,_,rfl,rfl,.pure ar⟩,.inr ⟨_,_,rfl,rfl,.cons (.pure trivial) (.cons (.pure pu) (.cons (.pure pu) (.cons (.fn .nil (.cons (.p rfl) .nil)) .nil)))⟩,trivial⟩
 ·obtain rfl : i = l.length := by have := of_decide_eq_false hc20; omega
  refine bE<|aO<|aO<|bF<|ae<|af<|ai<|s1 (aa rfl) rfl<|s1 (aa rfl) rfl ?_
  refine ah<|ae<|aF ?_
  refine aG (rs:= [.tmp 5]) rfl (aD rfl aC) ?_
  rw [←hR]
  exact K0 (by rw [List.take_length]) rfl rfl (by decide)
theorem GH (n:Int) (s:List UInt8) (l:List CV) (hok:CV.jy l=true) (hrg:CV.kV l=true) (B R:List UInt8) (hR:B++3::(bB l.length++CV.b5 l)=R) (hl:R.length≤100000000):cE Tryz.prog 172 [.sl 131 1 0 B.length,.ag [.i .i64 3,.i .i64 n,.s s,.fz l.length (CV.bI l)],.p 11 0] ⟨[(131,some (B.map u8)),(11,some (fN 11))]⟩ (gf 1 R.length (R.map u8) [(11,fN 11)]):=by
 have key:∀v:CV,v.size≤(CV.mk 3 n s l).size→∀(n:Int) (s:List UInt8) (q:List CV),v= .mk 3 n s q→CV.jy q=true→CV.kV q=true→∀B R:List UInt8,B++3::(bB q.length++CV.b5 q)=R→R.length≤100000000→cE Tryz.prog 172 [.sl 131 1 0 B.length,.ag [.i .i64 3,.i .i64 n,.s s,.fz q.length (CV.bI q)],.p 11 0] ⟨[(131,some (B.map u8)),(11,some (fN 11))]⟩ (gf 1 R.length (R.map u8) [(11,fN 11)]):=by
  refine CV.oX _ fun k n s l hl ih=>?_
  rintro n' s' q e
  cases e
  exact GI n s l ih
 exact key _ (Nat.le_refl _) n s l rfl hok hrg B R hR hl
theorem GJ:aB Tryz.prog 116 [] (uT (fun i=> .ag (fN i)) fN):=by
 refine enter Tryz.func116 rfl Tryz.ntmps116 (by kernel_rfl) (Nat.le_of_ble_eq_true rfl) fun w0 X0 hI=>?_
 refine af<|ai ?_
 refine ak rfl (bt 0 rfl pq rfl rfl ?_)
 refine ah<|ae<|af<|ai<|s1 (bJ 1 Tryz.underlying158 fZ rfl rfl rfl (by omega) rfl) rfl ?_
 refine ak rfl (bZ fZ rfl rfl rfl rfl (by first|rfl|omega|(simp<;>omega)|(simp [*]<;>omega)) rfl ?_)
 refine ah<|ae<|af<|ai<|s1 (bJ 2 Tryz.underlying158 fZ rfl rfl rfl (by omega) rfl) rfl ?_
 refine ak rfl (bZ fZ rfl rfl rfl rfl (by first|rfl|omega|(simp<;>omega)|(simp [*]<;>omega)) rfl ?_)
 refine ah<|ae<|af<|ai<|s1 (gx (us:= []) (vs:= [.p 0 0]) rfl rfl) rfl<|s1 (bJ 3 Tryz.underlying158 fZ rfl rfl rfl (by omega) rfl) rfl ?_
 refine ak rfl (bZ fZ rfl rfl rfl rfl (by first|rfl|omega|(simp<;>omega)|(simp [*]<;>omega)) rfl ?_)
 refine ah<|ae<|af<|ai<|s1 (aZ pq rfl rfl rfl) rfl ?_
 refine ak rfl (bo pq rfl rfl rfl rfl rfl ?_)
 refine ah<|ae<|aF ?_
 refine aG (rs:= [.cell 0 158]) rfl (ct pq rfl rfl rfl rfl aC) ⟨0,rfl,rfl⟩
end Go.Abs.D2
-- C1D
namespace Go.Abs.D2
open Go Go.Eng Go.Abs Go.Proofs
theorem zw (k n:Int) (s:List UInt8) (l:List CV) (hs:(CV.mk k n s l).size≤1000000) (hrg:(CV.mk k n s l).eT=true) (hl:(CV.mk k n s l).enc.length≤100000000):aB Tryz.prog 69 [.ag [.i .i64 k,.i .i64 n,.s s,.fz l.length (CV.bI l)]] (aU (encA (.mk k n s l))):=by
 refine enter Tryz.func69 rfl Tryz.ntmps69 (by kernel_rfl) (Nat.le_of_ble_eq_true rfl) fun w0 X0 hI=>?_
 refine af<|ai ?_
 refine ak rfl (bY 1 rfl rfl rfl ?_)
 refine s1 (aa rfl) rfl<|s1 ((aa rfl).v (v':= .i .i64 0) rfl) rfl ?_
 refine ah<|ae<|af<|af ?_
 simp only [CV.eT,Bool.and_eq_true,decide_eq_true_eq]at hrg
 refine ai<|s1 (aZ br rfl rfl rfl) rfl ?_
 refine ak rfl (aJ false rfl (.cons (.pure pu) (.nil)) (F0 (.mk k n s l) hs) pu (.inl rfl) rfl ?_)
 refine s1 (aa rfl) rfl ?_
 refine ah<|ae<|af<|ai<|s1 (aa rfl) rfl<|s1 (aa rfl) rfl ?_
 refine ah<|ae ?_
 refine aP rfl (fun hc9=>?_) (fun hc9=>?_)
 ·have h9 : fk (.mk k n s l) ≠ 0 := by simpa using hc9
  refine af<|ai<|s1 (aa rfl) rfl<|s1 (aa rfl) rfl<|s1 (aa rfl) rfl ?_
  refine ah<|ae<|aF<|aH ?_
  refine aG (rs:= [.tmp 2,.tmp 3]) rfl (aD rfl (aD rfl aC)) ?_
  exact(AA h9).symm
 ·have h9 : fk (.mk k n s l) = 0 := by simpa using hc9
  have hok:=zT h9
  refine aK<|ae<|af<|ai ?_
  refine ak rfl (Jq (mk:=fun i=> .ag (fN i)) (mkc:=fN) (J0 (f:= .func 172) 3 vW (fun _=>rfl)) vW 11 rfl true rfl .nil GJ rfl ?_)
  refine ak rfl (bt 5 rfl pq rfl rfl ?_)
  refine ak rfl (bo pq rfl rfl rfl rfl rfl ?_)
  refine ah<|ae<|af ?_
  rcases qI hok with hcs|hcs|hcs
  ·subst hcs
   refine bU ⟨_, [], []⟩ 6 4 bz (le_refl rfl) ?_
   refine aj 0 [] [(1,none)] (aA Tryz.underlying109 rfl an (by decide) rfl rfl) rfl rfl<|aj 1 [0] [(1,none)] (au an rfl rfl rfl) rfl rfl<|aj 2 [1] [(5,none)] (bJ 1 Tryz.underlying158 fZ rfl rfl rfl (by decide) rfl) rfl rfl<|aj 3 [2] [(5,none)] (au fZ rfl rfl rfl) rfl rfl<|aj 4 [] [(1,none)] (aZ br rfl rfl rfl) rfl rfl<|oE 17 ⟨[]⟩ [] true 5 [3,4] [] bb rfl rfl rfl trivial (.cons (.pure pu) (.cons (.pure pu) .nil)) (cE.nl (i:=131) rfl (Ab [] (CV.enc (.mk 1 n s l)) n s l hrg.1.1 hrg.1.2 rfl hl)) ar (.inr fI) tz rfl rfl<|bW (by kernel_rfl) ?_
   refine s1 (aa rfl) rfl<|s1 ((aa rfl).v (v':= .i .i64 0) rfl) rfl ?_
   refine ah<|ae<|aF ?_
   refine gz 2 rfl rfl ar (cD (by simp) rfl) ?_
   refine aG (rs:= [.tmp 2,.tmp 3]) rfl (aD rfl (aD rfl aC)) ?_
   exact(ou h9).symm
  ·subst hcs
   refine bU ⟨_, [], []⟩ 6 4 bz (le_refl rfl) ?_
   refine aj 0 [] [(1,none)] (aA Tryz.underlying109 rfl an (by decide) rfl rfl) rfl rfl<|aj 1 [0] [(1,none)] (au an rfl rfl rfl) rfl rfl<|aj 2 [1] [(5,none)] (bJ 2 Tryz.underlying158 fZ rfl rfl rfl (by decide) rfl) rfl rfl<|aj 3 [2] [(5,none)] (au fZ rfl rfl rfl) rfl rfl<|aj 4 [] [(1,none)] (aZ br rfl rfl rfl) rfl rfl<|oE 17 ⟨[]⟩ [] true 5 [3,4] [] bb rfl rfl rfl trivial (.cons (.pure pu) (.cons (.pure pu) .nil)) (cE.nl (i:=131) rfl (Ac [] (CV.enc (.mk 2 n s l)) n s l rfl hl)) ar (.inr fI) tz rfl rfl<|bW (by kernel_rfl) ?_
   refine s1 (aa rfl) rfl<|s1 ((aa rfl).v (v':= .i .i64 0) rfl) rfl ?_
   refine ah<|ae<|aF ?_
   refine gz 2 rfl rfl ar (cD (by simp) rfl) ?_
   refine aG (rs:= [.tmp 2,.tmp 3]) rfl (aD rfl (aD rfl aC)) ?_
   exact(ou h9).symm
  ·obtain ⟨rfl, hq2⟩ := hcs
   refine bU ⟨_, [], []⟩ 6 4 bz (le_refl rfl) ?_
   refine aj 0 [] [(1,none)] (aA Tryz.underlying109 rfl an (by decide) rfl rfl) rfl rfl<|aj 1 [0] [(1,none)] (au an rfl rfl rfl) rfl rfl<|aj 2 [1] [(5,none)] (bJ 3 Tryz.underlying158 fZ rfl rfl rfl (by decide) rfl) rfl rfl<|aj 3 [2] [(5,none)] (au fZ rfl rfl rfl) rfl rfl<|aj 4 [] [(1,none)] (aZ br rfl rfl rfl) rfl rfl<|oE 17 ⟨[(11,some (fN 11))]⟩ [(11,fN 11)] true 5 [3,4] [(11,none)] bb rfl rfl rfl ⟨⟨rfl,(.cons (.pure trivial) (.cons (.pure pu) (.cons (.pure pu) (.cons (.fn .nil (.cons (.kp rfl) .nil)) .nil))))⟩,trivial⟩ (.cons (.pure pu) (.cons (.pure pu) (.cons (.kp rfl) .nil))) (cE.nl (i:=131) rfl (GH n s l hq2 hrg.2 [] (CV.enc (.mk 3 n s l)) rfl hl)) ar (.inr fI) (Eh rfl) rfl rfl<|bW (by kernel_rfl) ?_
   refine s1 (aa rfl) rfl<|s1 ((aa rfl).v (v':= .i .i64 0) rfl) rfl ?_
   refine ah<|ae<|aF ?_
   refine gz 2 rfl rfl ar (cD (by simp) rfl) ?_
   refine aG (rs:= [.tmp 2,.tmp 3]) rfl (aD rfl (aD rfl aC)) ?_
   exact(ou h9).symm
end Go.Abs.D2
-- D2A
namespace Go.Abs.D2
open Go Go.Eng Go.Abs Go.Proofs
theorem xh (htag:∀(t b:List UInt8),t.length≤1048576→b.length≤1048576→aB Tryz.prog 50 [.s t,.fz b.length (b.map u8)] (aU (.ag ((tagged t b).map u8)))) (a b:List UInt8) (ha:a.length=32) (hb:b.length=32):aB Tryz.prog 96 [.ag (a.map u8),.ag (b.map u8)] (aU (.ag ((tagged [110,111,100,101] (a++b)).map u8))):=by
 refine enter Tryz.func96 rfl Tryz.ntmps96 (by kernel_rfl) (Nat.le_of_ble_eq_true rfl) fun w0 X0 hI=>?_
 refine af<|ai ?_
 refine ak rfl (bY 2 rfl rfl rfl ?_)
 refine ak rfl (bY 3 rfl rfl rfl ?_)
 refine ak rfl (bt 4 rfl aE rfl rfl ?_)
 refine ah<|ae<|af ?_
 refine bU ⟨_, [], []⟩ 6 4 bz (le_refl rfl) ?_
 refine HX 5 0 [] 0 64 bb Tryz.underlying68 aQ rfl rfl rfl rfl rfl (by first|omega|(simp only [maxLen];omega)|(simp [maxLen];done)|(simp [maxLen];omega)|(simp [maxLen, *];omega)) (by first|omega|(simp only [maxLen];omega)|(simp [maxLen];done)|(simp [maxLen];omega)|(simp [maxLen, *];omega)) (by first|omega|(simp only [maxLen];omega)|(simp [maxLen];done)|(simp [maxLen];omega)|(simp [maxLen, *];omega)) rfl rfl<|aj 1 [] [(2,none)] (gM Tryz.underlying23 aQ rfl rfl (by first|rfl|omega|(simp<;>omega)|(simp [*]<;>omega)|(simp [aL.len, -List.length_flatten, *]<;>omega)) (by simp [maxLen])) rfl rfl<|gV 7 2 [0,1] [(2,none),(5,some 0)] bb Tryz.underlying68 aQ rfl (.sl rfl (by first|rfl|omega|(simp<;>omega)|(simp [*]<;>omega)|(simp [aL.len, -List.length_flatten, *]<;>omega))) rfl (cO rfl (by first|rfl|omega|(simp<;>omega)|(simp [*]<;>omega)|(simp [aL.len, -List.length_flatten, *]<;>omega))) (by first|rfl|omega|(simp<;>omega)|(simp [*]<;>omega)|(simp [aL.len, -List.length_flatten, *]<;>omega)) (by first|omega|(simp only [maxLen];omega)|(simp [maxLen];done)|(simp [maxLen];omega)|(simp [maxLen, *];omega)) (by first|omega|(simp only [maxLen];omega)|(simp [maxLen];done)|(simp [maxLen];omega)|(simp [maxLen, *];omega)) rfl rfl rfl rfl<|aj 3 [] [(3,none)] (gM Tryz.underlying23 aQ rfl rfl (by first|rfl|omega|(simp<;>omega)|(simp [*]<;>omega)|(simp [aL.len, -List.length_flatten, *]<;>omega)) (by simp [maxLen])) rfl rfl<|gV 9 4 [2,3] [(3,none),(7,some 2)] bb Tryz.underlying68 aQ rfl (.sl rfl (by first|rfl|omega|(simp<;>omega)|(simp [*]<;>omega)|(simp [aL.len, -List.length_flatten, *]<;>omega))) rfl (cO rfl (by first|rfl|omega|(simp<;>omega)|(simp [*]<;>omega)|(simp [aL.len, -List.length_flatten, *]<;>omega))) (by first|rfl|omega|(simp<;>omega)|(simp [*]<;>omega)|(simp [aL.len, -List.length_flatten, *]<;>omega)) (by first|omega|(simp only [maxLen];omega)|(simp [maxLen];done)|(simp [maxLen];omega)|(simp [maxLen, *];omega)) (by first|omega|(simp only [maxLen];omega)|(simp [maxLen];done)|(simp [maxLen];omega)|(simp [maxLen, *];omega)) rfl rfl rfl rfl<|bV true 5 [4] [(9,some 4)] bb rfl (.cons (.pure pu) (.cons (.sl rfl rfl (by first|rfl|omega|(simp<;>omega)|(simp [*]<;>omega)|(simp [aL.len, -List.length_flatten, *]<;>omega)) (cD (by first|rfl|omega|(simp<;>omega)|(simp [*]<;>omega)|(simp [aL.len, -List.length_flatten, *]<;>omega)) (by first|rfl|(simp;done)|(simp [*];done))) (a7.pure ar) ar) (.nil))) (htag _ (a++b) (by simp) (by simp;omega)) pu (.inr fu) rfl rfl<|bW (by kernel_rfl) ?_
 refine ak rfl (bo aE rfl rfl rfl (by first|rfl|omega|(simp<;>omega)|(simp [*]<;>omega)|(simp [aL.len, -List.length_flatten, *]<;>omega)) (by first|rfl|omega|(simp<;>omega)|(simp [*]<;>omega)|(simp [aL.len, -List.length_flatten, *]<;>omega)) ?_)
 refine ah<|ae<|aF ?_
 refine aG (rs:= [.cell 4 23]) rfl (ct aE rfl rfl (List.take_of_length_le (by simp)) (by simp) aC) rfl
end Go.Abs.D2
-- D2B
namespace Go.Abs.D2
open Go Go.Eng Go.Abs Go.Proofs
theorem Lh (x:BitVec 32):aB Tryz.prog 188 [aI x,.i .i64 (-2)] (aU (aI (fa x 2))):=by
 refine enter Tryz.func188 rfl Tryz.ntmps188 (by kernel_rfl) (Nat.le_of_ble_eq_true rfl) fun w0 X0 hI=>?_
 refine af<|ai<|s1 ((aa rfl).v (v':= .i .u32 0) rfl) rfl ?_
 refine ah<|ae<|af<|ai<|s1 (aa rfl) rfl<|s1 ((cU Tryz.underlying3 Tryz.underlying74 rfl).v (v':=aY (a6 18446744073709551614)) (congrArg (A.i .u64) (by decide))) rfl<|s1 ((jP _ (a6 31) rfl rfl).v (v':=aY (a6 30)) (congrArg aY (by decide))) rfl<|s1 (aa rfl) rfl ?_
 refine ah<|ae<|af<|ai<|s1 (aa rfl) rfl<|s1 (aa rfl) rfl<|s1 (g9 _ 30 rfl rfl rfl (by decide)) rfl<|s1 (aa rfl) rfl<|s1 (aa rfl) rfl<|s1 ((k7 (a6 32) (a6 30) rfl rfl (by decide)).v (v':=aY (a6 2)) (congrArg aY (by decide))) rfl<|s1 (fF _ 2 rfl rfl rfl (by decide)) rfl<|s1 ((g8 _ _ rfl rfl).v (congrArg aI (kY x 2))) rfl<|s1 (aa rfl) rfl ?_
 refine ah<|ae<|aF ?_
 refine aG (rs:= [.tmp 4]) rfl (aD rfl (aC)) rfl
theorem Ll (x:BitVec 32):aB Tryz.prog 188 [aI x,.i .i64 (-6)] (aU (aI (fa x 6))):=by
 refine enter Tryz.func188 rfl Tryz.ntmps188 (by kernel_rfl) (Nat.le_of_ble_eq_true rfl) fun w0 X0 hI=>?_
 refine af<|ai<|s1 ((aa rfl).v (v':= .i .u32 0) rfl) rfl ?_
 refine ah<|ae<|af<|ai<|s1 (aa rfl) rfl<|s1 ((cU Tryz.underlying3 Tryz.underlying74 rfl).v (v':=aY (a6 18446744073709551610)) (congrArg (A.i .u64) (by decide))) rfl<|s1 ((jP _ (a6 31) rfl rfl).v (v':=aY (a6 26)) (congrArg aY (by decide))) rfl<|s1 (aa rfl) rfl ?_
 refine ah<|ae<|af<|ai<|s1 (aa rfl) rfl<|s1 (aa rfl) rfl<|s1 (g9 _ 26 rfl rfl rfl (by decide)) rfl<|s1 (aa rfl) rfl<|s1 (aa rfl) rfl<|s1 ((k7 (a6 32) (a6 26) rfl rfl (by decide)).v (v':=aY (a6 6)) (congrArg aY (by decide))) rfl<|s1 (fF _ 6 rfl rfl rfl (by decide)) rfl<|s1 ((g8 _ _ rfl rfl).v (congrArg aI (kY x 6))) rfl<|s1 (aa rfl) rfl ?_
 refine ah<|ae<|aF ?_
 refine aG (rs:= [.tmp 4]) rfl (aD rfl (aC)) rfl
theorem Lm (x:BitVec 32):aB Tryz.prog 188 [aI x,.i .i64 (-7)] (aU (aI (fa x 7))):=by
 refine enter Tryz.func188 rfl Tryz.ntmps188 (by kernel_rfl) (Nat.le_of_ble_eq_true rfl) fun w0 X0 hI=>?_
 refine af<|ai<|s1 ((aa rfl).v (v':= .i .u32 0) rfl) rfl ?_
 refine ah<|ae<|af<|ai<|s1 (aa rfl) rfl<|s1 ((cU Tryz.underlying3 Tryz.underlying74 rfl).v (v':=aY (a6 18446744073709551609)) (congrArg (A.i .u64) (by decide))) rfl<|s1 ((jP _ (a6 31) rfl rfl).v (v':=aY (a6 25)) (congrArg aY (by decide))) rfl<|s1 (aa rfl) rfl ?_
 refine ah<|ae<|af<|ai<|s1 (aa rfl) rfl<|s1 (aa rfl) rfl<|s1 (g9 _ 25 rfl rfl rfl (by decide)) rfl<|s1 (aa rfl) rfl<|s1 (aa rfl) rfl<|s1 ((k7 (a6 32) (a6 25) rfl rfl (by decide)).v (v':=aY (a6 7)) (congrArg aY (by decide))) rfl<|s1 (fF _ 7 rfl rfl rfl (by decide)) rfl<|s1 ((g8 _ _ rfl rfl).v (congrArg aI (kY x 7))) rfl<|s1 (aa rfl) rfl ?_
 refine ah<|ae<|aF ?_
 refine aG (rs:= [.tmp 4]) rfl (aD rfl (aC)) rfl
theorem Lb (x:BitVec 32):aB Tryz.prog 188 [aI x,.i .i64 (-11)] (aU (aI (fa x 11))):=by
 refine enter Tryz.func188 rfl Tryz.ntmps188 (by kernel_rfl) (Nat.le_of_ble_eq_true rfl) fun w0 X0 hI=>?_
 refine af<|ai<|s1 ((aa rfl).v (v':= .i .u32 0) rfl) rfl ?_
 refine ah<|ae<|af<|ai<|s1 (aa rfl) rfl<|s1 ((cU Tryz.underlying3 Tryz.underlying74 rfl).v (v':=aY (a6 18446744073709551605)) (congrArg (A.i .u64) (by decide))) rfl<|s1 ((jP _ (a6 31) rfl rfl).v (v':=aY (a6 21)) (congrArg aY (by decide))) rfl<|s1 (aa rfl) rfl ?_
 refine ah<|ae<|af<|ai<|s1 (aa rfl) rfl<|s1 (aa rfl) rfl<|s1 (g9 _ 21 rfl rfl rfl (by decide)) rfl<|s1 (aa rfl) rfl<|s1 (aa rfl) rfl<|s1 ((k7 (a6 32) (a6 21) rfl rfl (by decide)).v (v':=aY (a6 11)) (congrArg aY (by decide))) rfl<|s1 (fF _ 11 rfl rfl rfl (by decide)) rfl<|s1 ((g8 _ _ rfl rfl).v (congrArg aI (kY x 11))) rfl<|s1 (aa rfl) rfl ?_
 refine ah<|ae<|aF ?_
 refine aG (rs:= [.tmp 4]) rfl (aD rfl (aC)) rfl
theorem Lc (x:BitVec 32):aB Tryz.prog 188 [aI x,.i .i64 (-13)] (aU (aI (fa x 13))):=by
 refine enter Tryz.func188 rfl Tryz.ntmps188 (by kernel_rfl) (Nat.le_of_ble_eq_true rfl) fun w0 X0 hI=>?_
 refine af<|ai<|s1 ((aa rfl).v (v':= .i .u32 0) rfl) rfl ?_
 refine ah<|ae<|af<|ai<|s1 (aa rfl) rfl<|s1 ((cU Tryz.underlying3 Tryz.underlying74 rfl).v (v':=aY (a6 18446744073709551603)) (congrArg (A.i .u64) (by decide))) rfl<|s1 ((jP _ (a6 31) rfl rfl).v (v':=aY (a6 19)) (congrArg aY (by decide))) rfl<|s1 (aa rfl) rfl ?_
 refine ah<|ae<|af<|ai<|s1 (aa rfl) rfl<|s1 (aa rfl) rfl<|s1 (g9 _ 19 rfl rfl rfl (by decide)) rfl<|s1 (aa rfl) rfl<|s1 (aa rfl) rfl<|s1 ((k7 (a6 32) (a6 19) rfl rfl (by decide)).v (v':=aY (a6 13)) (congrArg aY (by decide))) rfl<|s1 (fF _ 13 rfl rfl rfl (by decide)) rfl<|s1 ((g8 _ _ rfl rfl).v (congrArg aI (kY x 13))) rfl<|s1 (aa rfl) rfl ?_
 refine ah<|ae<|aF ?_
 refine aG (rs:= [.tmp 4]) rfl (aD rfl (aC)) rfl
theorem Ld (x:BitVec 32):aB Tryz.prog 188 [aI x,.i .i64 (-17)] (aU (aI (fa x 17))):=by
 refine enter Tryz.func188 rfl Tryz.ntmps188 (by kernel_rfl) (Nat.le_of_ble_eq_true rfl) fun w0 X0 hI=>?_
 refine af<|ai<|s1 ((aa rfl).v (v':= .i .u32 0) rfl) rfl ?_
 refine ah<|ae<|af<|ai<|s1 (aa rfl) rfl<|s1 ((cU Tryz.underlying3 Tryz.underlying74 rfl).v (v':=aY (a6 18446744073709551599)) (congrArg (A.i .u64) (by decide))) rfl<|s1 ((jP _ (a6 31) rfl rfl).v (v':=aY (a6 15)) (congrArg aY (by decide))) rfl<|s1 (aa rfl) rfl ?_
 refine ah<|ae<|af<|ai<|s1 (aa rfl) rfl<|s1 (aa rfl) rfl<|s1 (g9 _ 15 rfl rfl rfl (by decide)) rfl<|s1 (aa rfl) rfl<|s1 (aa rfl) rfl<|s1 ((k7 (a6 32) (a6 15) rfl rfl (by decide)).v (v':=aY (a6 17)) (congrArg aY (by decide))) rfl<|s1 (fF _ 17 rfl rfl rfl (by decide)) rfl<|s1 ((g8 _ _ rfl rfl).v (congrArg aI (kY x 17))) rfl<|s1 (aa rfl) rfl ?_
 refine ah<|ae<|aF ?_
 refine aG (rs:= [.tmp 4]) rfl (aD rfl (aC)) rfl
theorem Le (x:BitVec 32):aB Tryz.prog 188 [aI x,.i .i64 (-18)] (aU (aI (fa x 18))):=by
 refine enter Tryz.func188 rfl Tryz.ntmps188 (by kernel_rfl) (Nat.le_of_ble_eq_true rfl) fun w0 X0 hI=>?_
 refine af<|ai<|s1 ((aa rfl).v (v':= .i .u32 0) rfl) rfl ?_
 refine ah<|ae<|af<|ai<|s1 (aa rfl) rfl<|s1 ((cU Tryz.underlying3 Tryz.underlying74 rfl).v (v':=aY (a6 18446744073709551598)) (congrArg (A.i .u64) (by decide))) rfl<|s1 ((jP _ (a6 31) rfl rfl).v (v':=aY (a6 14)) (congrArg aY (by decide))) rfl<|s1 (aa rfl) rfl ?_
 refine ah<|ae<|af<|ai<|s1 (aa rfl) rfl<|s1 (aa rfl) rfl<|s1 (g9 _ 14 rfl rfl rfl (by decide)) rfl<|s1 (aa rfl) rfl<|s1 (aa rfl) rfl<|s1 ((k7 (a6 32) (a6 14) rfl rfl (by decide)).v (v':=aY (a6 18)) (congrArg aY (by decide))) rfl<|s1 (fF _ 18 rfl rfl rfl (by decide)) rfl<|s1 ((g8 _ _ rfl rfl).v (congrArg aI (kY x 18))) rfl<|s1 (aa rfl) rfl ?_
 refine ah<|ae<|aF ?_
 refine aG (rs:= [.tmp 4]) rfl (aD rfl (aC)) rfl
theorem Lg (x:BitVec 32):aB Tryz.prog 188 [aI x,.i .i64 (-19)] (aU (aI (fa x 19))):=by
 refine enter Tryz.func188 rfl Tryz.ntmps188 (by kernel_rfl) (Nat.le_of_ble_eq_true rfl) fun w0 X0 hI=>?_
 refine af<|ai<|s1 ((aa rfl).v (v':= .i .u32 0) rfl) rfl ?_
 refine ah<|ae<|af<|ai<|s1 (aa rfl) rfl<|s1 ((cU Tryz.underlying3 Tryz.underlying74 rfl).v (v':=aY (a6 18446744073709551597)) (congrArg (A.i .u64) (by decide))) rfl<|s1 ((jP _ (a6 31) rfl rfl).v (v':=aY (a6 13)) (congrArg aY (by decide))) rfl<|s1 (aa rfl) rfl ?_
 refine ah<|ae<|af<|ai<|s1 (aa rfl) rfl<|s1 (aa rfl) rfl<|s1 (g9 _ 13 rfl rfl rfl (by decide)) rfl<|s1 (aa rfl) rfl<|s1 (aa rfl) rfl<|s1 ((k7 (a6 32) (a6 13) rfl rfl (by decide)).v (v':=aY (a6 19)) (congrArg aY (by decide))) rfl<|s1 (fF _ 19 rfl rfl rfl (by decide)) rfl<|s1 ((g8 _ _ rfl rfl).v (congrArg aI (kY x 19))) rfl<|s1 (aa rfl) rfl ?_
 refine ah<|ae<|aF ?_
 refine aG (rs:= [.tmp 4]) rfl (aD rfl (aC)) rfl
theorem Li (x:BitVec 32):aB Tryz.prog 188 [aI x,.i .i64 (-22)] (aU (aI (fa x 22))):=by
 refine enter Tryz.func188 rfl Tryz.ntmps188 (by kernel_rfl) (Nat.le_of_ble_eq_true rfl) fun w0 X0 hI=>?_
 refine af<|ai<|s1 ((aa rfl).v (v':= .i .u32 0) rfl) rfl ?_
 refine ah<|ae<|af<|ai<|s1 (aa rfl) rfl<|s1 ((cU Tryz.underlying3 Tryz.underlying74 rfl).v (v':=aY (a6 18446744073709551594)) (congrArg (A.i .u64) (by decide))) rfl<|s1 ((jP _ (a6 31) rfl rfl).v (v':=aY (a6 10)) (congrArg aY (by decide))) rfl<|s1 (aa rfl) rfl ?_
 refine ah<|ae<|af<|ai<|s1 (aa rfl) rfl<|s1 (aa rfl) rfl<|s1 (g9 _ 10 rfl rfl rfl (by decide)) rfl<|s1 (aa rfl) rfl<|s1 (aa rfl) rfl<|s1 ((k7 (a6 32) (a6 10) rfl rfl (by decide)).v (v':=aY (a6 22)) (congrArg aY (by decide))) rfl<|s1 (fF _ 22 rfl rfl rfl (by decide)) rfl<|s1 ((g8 _ _ rfl rfl).v (congrArg aI (kY x 22))) rfl<|s1 (aa rfl) rfl ?_
 refine ah<|ae<|aF ?_
 refine aG (rs:= [.tmp 4]) rfl (aD rfl (aC)) rfl
theorem Lj (x:BitVec 32):aB Tryz.prog 188 [aI x,.i .i64 (-25)] (aU (aI (fa x 25))):=by
 refine enter Tryz.func188 rfl Tryz.ntmps188 (by kernel_rfl) (Nat.le_of_ble_eq_true rfl) fun w0 X0 hI=>?_
 refine af<|ai<|s1 ((aa rfl).v (v':= .i .u32 0) rfl) rfl ?_
 refine ah<|ae<|af<|ai<|s1 (aa rfl) rfl<|s1 ((cU Tryz.underlying3 Tryz.underlying74 rfl).v (v':=aY (a6 18446744073709551591)) (congrArg (A.i .u64) (by decide))) rfl<|s1 ((jP _ (a6 31) rfl rfl).v (v':=aY (a6 7)) (congrArg aY (by decide))) rfl<|s1 (aa rfl) rfl ?_
 refine ah<|ae<|af<|ai<|s1 (aa rfl) rfl<|s1 (aa rfl) rfl<|s1 (g9 _ 7 rfl rfl rfl (by decide)) rfl<|s1 (aa rfl) rfl<|s1 (aa rfl) rfl<|s1 ((k7 (a6 32) (a6 7) rfl rfl (by decide)).v (v':=aY (a6 25)) (congrArg aY (by decide))) rfl<|s1 (fF _ 25 rfl rfl rfl (by decide)) rfl<|s1 ((g8 _ _ rfl rfl).v (congrArg aI (kY x 25))) rfl<|s1 (aa rfl) rfl ?_
 refine ah<|ae<|aF ?_
 refine aG (rs:= [.tmp 4]) rfl (aD rfl (aC)) rfl
theorem kX (x:BitVec 32) (n:Nat) (h:n≤32):aB Tryz.prog 205 [aI x,.i .i64 (n:Int)] (aU (aI (fa x n))):=by
 refine enter Tryz.func205 rfl Tryz.ntmps205 (by kernel_rfl) (Nat.le_of_ble_eq_true rfl) fun w0 X0 hI=>?_
 refine af<|ai<|s1 ((aa rfl).v (v':= .i .u32 0) rfl) rfl ?_
 refine ah<|ae<|af ?_
 refine dH 8 bz (by kernel_rfl) ?_
 refine t1 (aa rfl) rfl<|t1 (aa rfl) rfl<|t1 (fF _ n rfl rfl rfl h) rfl<|t1 (aa rfl) rfl<|t1 (aa rfl) rfl<|t1 (dD 32 n rfl rfl rfl rfl h (by omega)) rfl<|t1 (g9 _ (32 - n) rfl rfl rfl (by omega)) rfl<|t1 ((g8 _ _ rfl rfl).v rfl) rfl ?_
 refine dI ?_
 refine s1 (aa rfl) rfl ?_
 refine ah<|ae<|aF ?_
 refine aG (rs:= [.tmp 4]) rfl (aD rfl (aC)) rfl
theorem MR (b:List UInt8) (i:Nat) (h:i+4≤b.length):aB Tryz.prog 204 [.fz 4 (((b.map u8).drop (i*1)).take (4*1))] (aU (aI (word b i))):=by
 refine enter Tryz.func204 rfl Tryz.ntmps204 (by kernel_rfl) (Nat.le_of_ble_eq_true rfl) fun w0 X0 hI=>?_
 refine af<|ai<|s1 ((aa rfl).v (v':= .i .u32 0) rfl) rfl ?_
 refine ah<|ae<|af ?_
 refine dH 22 bz (by kernel_rfl) ?_
 refine t1 (aa rfl) rfl<|t1 (aT 0 Tryz.underlying68 aQ rfl rfl rfl (by omega) rfl) rfl<|t1 (au aQ rfl rfl (sQ b (i+0) (by omega) (k:=0) rfl (by omega) rfl)) rfl<|t1 (qG _ Tryz.underlying5 Tryz.underlying183 rfl) rfl<|t1 (g9 _ 24 rfl rfl rfl (by decide)) rfl<|t1 (aa rfl) rfl<|t1 (aT 1 Tryz.underlying68 aQ rfl rfl rfl (by omega) rfl) rfl<|t1 (au aQ rfl rfl (sQ b (i+1) (by omega) (k:=1) rfl (by omega) rfl)) rfl<|t1 (qG _ Tryz.underlying5 Tryz.underlying183 rfl) rfl<|t1 (g9 _ 16 rfl rfl rfl (by decide)) rfl ?_
 refine t1 (g8 _ _ rfl rfl) rfl<|t1 (aa rfl) rfl<|t1 (aT 2 Tryz.underlying68 aQ rfl rfl rfl (by omega) rfl) rfl<|t1 (au aQ rfl rfl (sQ b (i+2) (by omega) (k:=2) rfl (by omega) rfl)) rfl<|t1 (qG _ Tryz.underlying5 Tryz.underlying183 rfl) rfl<|t1 (g9 _ 8 rfl rfl rfl (by decide)) rfl<|t1 (g8 _ _ rfl rfl) rfl<|t1 (aa rfl) rfl<|t1 (aT 3 Tryz.underlying68 aQ rfl rfl rfl (by omega) rfl) rfl<|t1 (au aQ rfl rfl (sQ b (i+3) (by omega) (k:=3) rfl (by omega) rfl)) rfl ?_
 refine t1 (qG _ Tryz.underlying5 Tryz.underlying183 rfl) rfl<|t1 (g8 _ _ rfl rfl) rfl ?_
 refine dI ?_
 refine s1 (aa rfl) rfl ?_
 refine ah<|ae<|aF ?_
 refine aG (rs:= [.tmp 2]) rfl (aD rfl (aC)) rfl
end Go.Abs.D2
-- D2C
namespace Go.Abs.D2
open Go Go.Eng Go.Abs Go.Proofs
theorem JL:aB Tryz.prog 206 [] (aU (.ag (mj.map aI))):=by
 refine enter Tryz.func206 rfl Tryz.ntmps206 (by kernel_rfl) (Nat.le_of_ble_eq_true rfl) fun w0 X0 hI=>?_
 refine af<|ai ?_
 refine ak rfl (bt 0 rfl k8 rfl rfl ?_)
 refine ah<|ae<|af<|ai<|s1 ((ri (vs:= [_,_,_,_,_,_,_,_,_,_,_,_,_,_,_,_,_,_,_,_,_,_,_,_,_,_,_,_,_,_,_,_,_,_,_,_,_,_,_,_,_,_,_,_,_,_,_,_,_,_,_,_,_,_,_,_,_,_,_,_,_,_,_,_]) k8 rfl Tryz.underlying216 bh rfl rfl rfl rfl).v (v':= .ag (mj.map aI)) (by kernel_rfl)) rfl ?_
 refine ak rfl (bo k8 rfl rfl rfl (by first|rfl|omega|(simp<;>omega)|(simp [*]<;>omega)|(simp [aL.len, -List.length_flatten, *]<;>omega)) (by first|rfl|omega|(simp<;>omega)|(simp [*]<;>omega)|(simp [aL.len, -List.length_flatten, *]<;>omega)) ?_)
 refine ah<|ae<|aF ?_
 refine aG (rs:= [.cell 0 216]) rfl (ct k8 rfl rfl (List.take_of_length_le (by simp [qu])) (by simp [qu]) aC) rfl
theorem FM (s:S8) (b:List UInt8) (hb:b.length=64):aB Tryz.prog 174 [.ag (s.l.map aI),.fz 64 (b.map u8)] (aU (.ag ((comp s b).l.map aI))):=by
 refine enter Tryz.func174 rfl Tryz.ntmps174 (by kernel_rfl) (Nat.le_of_ble_eq_true rfl) fun w0 X0 hI=>?_
 refine af<|ai ?_
 refine ak rfl (bY 2 rfl rfl rfl ?_)
 refine ak rfl (bt 4 rfl lT rfl rfl ?_)
 refine ah<|ae<|af<|ai<|s1 ((uF k8 rfl Tryz.underlying216 bh rfl).v (v':= .ag ((words b 0).map aI++List.replicate (64 - 0) (aI 0))) (by kernel_rfl)) rfl ?_
 refine ak rfl (bt 5 rfl k8 rfl rfl ?_)
 refine ak rfl (bo k8 rfl rfl rfl (by simp) (by simp) ?_)
 refine ah<|ae<|af<|af<|ai<|s1 ((aa rfl).v (v':= .i .i64 0) rfl) rfl ?_
 refine ah<|ae<|aM ?_
 refine bH (ι:=Nat) (fun i=> [(1,.fz 64 (b.map u8)),(2,.p 2 0),(4,.p 4 0),(5,.p 5 0),(6,.i .i64 (i:Nat))]) (fun i=>⟨[(2,some (s.l.map aI)),(4,some (List.replicate 8 (aI 0))),(5,some ((words b i).map aI++List.replicate (64 - i) (aI 0)))]⟩) (fun i=>i≤16) (fun i=>16 - i) ?_ ?_
 ·exact bG (0) (Nat.zero_le _) [(2,some 2),(4,some 4),(5,some 5)] hI rfl rfl ⟨⟨_,rfl,.pure pu⟩,⟨_,rfl,.p rfl⟩,⟨_,rfl,.p rfl⟩,⟨_,rfl,.p rfl⟩,⟨_,rfl,.pure pu⟩,trivial⟩ ⟨.inr ⟨_,_,rfl,rfl,.pure ar⟩,.inr ⟨_,_,rfl,rfl,.pure ar⟩,.inr ⟨_,_,rfl,rfl,.pure ar⟩,trivial⟩
 rintro i hi
 refine af<|af<|ai<|s1 (aa rfl) rfl<|s1 (aa rfl) rfl ?_
 refine ah<|ae ?_
 refine aP rfl (fun hc24=>?_) (fun hc24=>?_)
 ·have hi16 : i < 16 := by have := of_decide_eq_true hc24; omega
  refine aK<|ae<|af<|aM<|ai<|s1 (aa rfl) rfl<|s1 (aa rfl) rfl<|s1 (aa rfl) rfl<|s1 (iy 4 _ rfl rfl rfl rfl (by omega)) rfl<|s1 (aa rfl) rfl<|s1 (iy 4 _ rfl rfl rfl rfl (by omega)) rfl<|s1 (bg _ 4 rfl rfl rfl rfl (by omega)) rfl<|s1 (iW 4 Tryz.underlying68 aQ rfl (by simp [hb]) (bs rfl rfl) (bs rfl rfl) (by omega) (by omega) (by omega) rfl) rfl ?_
  refine ak rfl (aJ false rfl (.cons (.pure pu) (.nil)) (MR b (4*i) (by omega)) pu (.inl rfl) rfl ?_)
  refine s1 (bJ i Tryz.underlying216 bh rfl rfl rfl (by omega) rfl) rfl ?_
  refine ak rfl (bZ bh rfl rfl rfl rfl (by first|rfl|omega|(simp<;>omega)|(simp [*]<;>omega)|(simp [aL.len, -List.length_flatten, *]<;>omega)) (LR b i (by omega)) ?_)
  refine ah<|bj<|ae<|ai<|s1 (aa rfl) rfl<|s1 (bg _ 1 rfl rfl rfl rfl (by omega)) rfl<|s1 (aa rfl) rfl ?_
  refine ah ?_
  exact bu (i+1) (by omega) (by omega) [(2,some 2),(4,some 4),(5,some 5)] hI rfl rfl ⟨⟨_,rfl,.pure pu⟩,⟨_,rfl,.p rfl⟩,⟨_,rfl,.p rfl⟩,⟨_,rfl,.p rfl⟩,⟨_,rfl,.pure pu⟩,trivial⟩ ⟨.inr ⟨_,_,rfl,rfl,.pure ar⟩,.inr ⟨_,_,rfl,rfl,.pure ar⟩,.inr ⟨_,_,rfl,rfl,.pure ar⟩,trivial⟩
 ·have hi16 : i = 16 := by have := of_decide_eq_false hc24; omega
  subst hi16
  refine bE<|aO<|aO<|bF<|ae<|af<|af<|ai<|s1 ((aa rfl).v (v':= .i .i64 16) rfl) rfl ?_
  refine ah<|ae<|aM ?_
  refine bH (ι:=Nat) (fun k=> [(2,.p 2 0),(4,.p 4 0),(5,.p 5 0),(7,.i .i64 ((16+k:Nat):Int))]) (fun k=>⟨[(2,some (s.l.map aI)),(4,some (List.replicate 8 (aI 0))),(5,some ((sched b k).map aI++List.replicate (48 - k) (aI 0)))]⟩) (fun k=>k≤48) (fun k=>48 - k) ?_ ?_
  ·skip
   refine cV 5 rfl (cs':=(sched b 0).map aI++List.replicate (48 - 0) (aI 0)) (by rw [xR]) ?_
   exact bG (0) (Nat.zero_le _) [(2,some 2),(4,some 4),(5,some 5)] hI rfl rfl ⟨⟨_,rfl,.p rfl⟩,⟨_,rfl,.p rfl⟩,⟨_,rfl,.p rfl⟩,⟨_,rfl,.pure pu⟩,trivial⟩ ⟨.inr ⟨_,_,rfl,rfl,.pure ar⟩,.inr ⟨_,_,rfl,rfl,.pure ar⟩,.inr ⟨_,_,rfl,rfl,.pure ar⟩,trivial⟩
  rintro k hk
  refine af<|af<|ai<|s1 (aa rfl) rfl<|s1 (aa rfl) rfl ?_
  refine ah<|ae ?_
  refine aP rfl (fun hc38=>?_) (fun hc38=>?_)
  ·have hk48 : k < 48 := by have := of_decide_eq_true hc38; omega
   refine aK<|ae<|af<|aM<|af<|ai<|s1 (aa rfl) rfl<|s1 (dD (16+k) 15 rfl rfl rfl rfl (by omega) (by omega)) rfl<|s1 (bJ (16+k - 15) Tryz.underlying216 bh rfl rfl rfl (by omega) rfl) rfl<|s1 (au bh rfl rfl (jX (16+k - 15) (by first|rfl|omega|(simp<;>omega)|(simp [*]<;>omega)|(simp [aL.len, -List.length_flatten, *]<;>omega)) rfl)) rfl<|s1 (aa rfl) rfl ?_
   refine ah<|ae<|af<|ai<|s1 (aa rfl) rfl<|s1 (dD (16+k) 2 rfl rfl rfl rfl (by omega) (by omega)) rfl<|s1 (bJ (16+k - 2) Tryz.underlying216 bh rfl rfl rfl (by omega) rfl) rfl<|s1 (au bh rfl rfl (jX (16+k - 2) (by first|rfl|omega|(simp<;>omega)|(simp [*]<;>omega)|(simp [aL.len, -List.length_flatten, *]<;>omega)) rfl)) rfl<|s1 (aa rfl) rfl ?_
   refine ah<|ae ?_
   refine bU ⟨_, [], []⟩ 29 4 bz (le_refl rfl) ?_
   refine aj 0 [] [] (aa rfl) rfl rfl<|aj 1 [] [] (aa rfl) rfl rfl<|aj 2 [1] [] (dD (16+k) 16 rfl rfl rfl rfl (by omega) (by omega)) rfl rfl<|aj 3 [2] [(5,none)] (bJ (16+k - 16) Tryz.underlying216 bh rfl rfl rfl (by omega) rfl) rfl rfl<|aj 4 [3] [(5,none)] (au bh rfl rfl (jX (16+k - 16) (by first|rfl|omega|(simp<;>omega)|(simp [*]<;>omega)|(simp [aL.len, -List.length_flatten, *]<;>omega)) rfl)) rfl rfl<|aj 5 [] [] (aa rfl) rfl rfl<|bV false 6 [5] [] bb rfl (.cons (.pure pu) (.cons (.pure pu) (.nil))) (kX _ 7 (by decide)) pu (.inl rfl) rfl rfl<|aj 7 [] [] (aa rfl) rfl rfl<|bV false 8 [7] [] bb rfl (.cons (.pure pu) (.cons (.pure pu) (.nil))) (kX _ 18 (by decide)) pu (.inl rfl) rfl rfl<|aj 9 [6,8] [] (fe _ _ rfl rfl) rfl rfl ?_
   refine aj 10 [] [] (aa rfl) rfl rfl<|aj 11 [10] [] (fF _ 3 rfl rfl rfl (by decide)) rfl rfl<|aj 12 [9,11] [] (fe _ _ rfl rfl) rfl rfl<|aj 13 [4,12] [] (dF _ _ rfl rfl) rfl rfl<|aj 14 [] [] (aa rfl) rfl rfl<|aj 15 [14] [] (dD (16+k) 7 rfl rfl rfl rfl (by omega) (by omega)) rfl rfl<|aj 16 [15] [(5,none)] (bJ (16+k - 7) Tryz.underlying216 bh rfl rfl rfl (by omega) rfl) rfl rfl<|aj 17 [16] [(5,none)] (au bh rfl rfl (jX (16+k - 7) (by first|rfl|omega|(simp<;>omega)|(simp [*]<;>omega)|(simp [aL.len, -List.length_flatten, *]<;>omega)) rfl)) rfl rfl<|aj 18 [13,17] [] (dF _ _ rfl rfl) rfl rfl<|aj 19 [] [] (aa rfl) rfl rfl ?_
   refine bV false 20 [19] [] bb rfl (.cons (.pure pu) (.cons (.pure pu) (.nil))) (kX _ 17 (by decide)) pu (.inl rfl) rfl rfl<|aj 21 [] [] (aa rfl) rfl rfl<|bV false 22 [21] [] bb rfl (.cons (.pure pu) (.cons (.pure pu) (.nil))) (kX _ 19 (by decide)) pu (.inl rfl) rfl rfl<|aj 23 [20,22] [] (fe _ _ rfl rfl) rfl rfl<|aj 24 [] [] (aa rfl) rfl rfl<|aj 25 [24] [] (fF _ 10 rfl rfl rfl (by decide)) rfl rfl<|aj 26 [23,25] [] (fe _ _ rfl rfl) rfl rfl<|aj 27 [18,26] [] (dF _ _ rfl rfl) rfl rfl<|aj 28 [0] [(5,none)] (bJ (16+k) Tryz.underlying216 bh rfl rfl rfl (by omega) rfl) rfl rfl<|bW (by kernel_rfl) ?_
   refine ak rfl (bZ bh rfl rfl rfl rfl (by first|rfl|omega|(simp<;>omega)|(simp [*]<;>omega)|(simp [aL.len, -List.length_flatten, *]<;>omega)) (DG b k _ (by omega) rfl) ?_)
   refine ah<|bj<|ae<|ai<|s1 (aa rfl) rfl<|s1 (bg _ 1 rfl rfl rfl rfl (by omega)) rfl<|s1 (aa rfl) rfl ?_
   refine ah ?_
   exact bu (k+1) (by omega) (by omega) [(2,some 2),(4,some 4),(5,some 5)] hI rfl rfl ⟨⟨_,rfl,.p rfl⟩,⟨_,rfl,.p rfl⟩,⟨_,rfl,.p rfl⟩,⟨_,rfl,.pure pu⟩,trivial⟩ ⟨.inr ⟨_,_,rfl,rfl,.pure ar⟩,.inr ⟨_,_,rfl,rfl,.pure ar⟩,.inr ⟨_,_,rfl,rfl,.pure ar⟩,trivial⟩
  ·have hk48 : k = 48 := by have := of_decide_eq_false hc38; omega
   subst hk48
   refine bE<|aO<|aO<|bF<|ae<|af<|ai ?_
   refine ak rfl (aJ false rfl (.nil) (JL) pu (.inl rfl) rfl ?_)
   refine ak rfl (bt 10 rfl k8 rfl rfl ?_)
   refine ak rfl (bo k8 rfl rfl rfl (by simp [qu]) (by simp) ?_)
   refine ah<|ae<|af ?_
   refine dH 23 bz (by kernel_rfl) ?_
   refine t1 (bJ 0 Tryz.underlying184 bh rfl rfl rfl (by omega) rfl) rfl<|t1 (au bh rfl rfl rfl) rfl<|t1 (bJ 1 Tryz.underlying184 bh rfl rfl rfl (by omega) rfl) rfl<|t1 (au bh rfl rfl rfl) rfl<|t1 (bJ 2 Tryz.underlying184 bh rfl rfl rfl (by omega) rfl) rfl<|t1 (au bh rfl rfl rfl) rfl<|t1 (bJ 3 Tryz.underlying184 bh rfl rfl rfl (by omega) rfl) rfl<|t1 (au bh rfl rfl rfl) rfl<|t1 (bJ 4 Tryz.underlying184 bh rfl rfl rfl (by omega) rfl) rfl<|t1 (au bh rfl rfl rfl) rfl ?_
   refine t1 (bJ 5 Tryz.underlying184 bh rfl rfl rfl (by omega) rfl) rfl<|t1 (au bh rfl rfl rfl) rfl<|t1 (bJ 6 Tryz.underlying184 bh rfl rfl rfl (by omega) rfl) rfl<|t1 (au bh rfl rfl rfl) rfl<|t1 (bJ 7 Tryz.underlying184 bh rfl rfl rfl (by omega) rfl) rfl<|t1 (au bh rfl rfl rfl) rfl<|t1 (aa rfl) rfl<|t1 (aa rfl) rfl<|t1 (aa rfl) rfl<|t1 (aa rfl) rfl ?_
   refine t1 (aa rfl) rfl<|t1 (aa rfl) rfl<|t1 (aa rfl) rfl ?_
   refine dI ?_
   refine s1 (aa rfl) rfl ?_
   refine ah<|ae<|af<|af<|ai<|s1 ((aa rfl).v (v':= .i .i64 0) rfl) rfl ?_
   refine ah<|ae<|aM ?_
   refine bH (ι:=Nat) (fun t=> [(2,.p 2 0),(4,.p 4 0),(5,.p 5 0),(10,.p 10 0),(19,.i .i64 (t:Nat)),(11,aI (rounds (sched b 48) s t).a),(12,aI (rounds (sched b 48) s t).b),(13,aI (rounds (sched b 48) s t).c),(14,aI (rounds (sched b 48) s t).d),(15,aI (rounds (sched b 48) s t).e),(16,aI (rounds (sched b 48) s t).f),(17,aI (rounds (sched b 48) s t).g),(18,aI (rounds (sched b 48) s t).h)]) (fun t=>⟨[(2,some (s.l.map aI)),(4,some (List.replicate 8 (aI 0))),(5,some ((sched b 48).map aI++List.replicate (48 - 48) (aI 0))),(10,some (mj.map aI))]⟩) (fun t=>t≤64) (fun t=>64 - t) ?_ ?_
   ·exact bG (0) (Nat.zero_le _) [(2,some 2),(4,some 4),(5,some 5),(10,some 10)] hI rfl rfl ⟨⟨_,rfl,.p rfl⟩,⟨_,rfl,.p rfl⟩,⟨_,rfl,.p rfl⟩,⟨_,rfl,.p rfl⟩,⟨_,rfl,.pure pu⟩,⟨_,rfl,.pure pu⟩,⟨_,rfl,.pure pu⟩,⟨_,rfl,.pure pu⟩,⟨_,rfl,.pure pu⟩,⟨_,rfl,.pure pu⟩,⟨_,rfl,.pure pu⟩,⟨_,rfl,.pure pu⟩,⟨_,rfl,.pure pu⟩,trivial⟩ ⟨.inr ⟨_,_,rfl,rfl,.pure ar⟩,.inr ⟨_,_,rfl,rfl,.pure ar⟩,.inr ⟨_,_,rfl,rfl,.pure ar⟩,.inr ⟨_,_,rfl,rfl,.pure ar⟩,trivial⟩
   rintro t ht
   refine af<|af<|ai<|s1 (aa rfl) rfl<|s1 (aa rfl) rfl ?_
   refine ah<|ae ?_
   refine aP rfl (fun hc96=>?_) (fun hc96=>?_)
   ·have ht64 : t < 64 := by have := of_decide_eq_true hc96; omega
    refine aK<|ae<|af<|aM<|af ?_
    refine bU ⟨_, [], []⟩ 27 4 bz (le_refl rfl) ?_
    refine aj 0 [] [] (aa rfl) rfl rfl<|aj 1 [] [] (aa rfl) rfl rfl<|bV false 2 [1] [] bb rfl (.cons (.pure pu) (.cons (.pure pu) (.nil))) (kX _ 6 (by decide)) pu (.inl rfl) rfl rfl<|aj 3 [] [] (aa rfl) rfl rfl<|bV false 4 [3] [] bb rfl (.cons (.pure pu) (.cons (.pure pu) (.nil))) (kX _ 11 (by decide)) pu (.inl rfl) rfl rfl<|aj 5 [2,4] [] (fe _ _ rfl rfl) rfl rfl<|aj 6 [] [] (aa rfl) rfl rfl<|bV false 7 [6] [] bb rfl (.cons (.pure pu) (.cons (.pure pu) (.nil))) (kX _ 25 (by decide)) pu (.inl rfl) rfl rfl<|aj 8 [5,7] [] (fe _ _ rfl rfl) rfl rfl<|aj 9 [0,8] [] (dF _ _ rfl rfl) rfl rfl ?_
    refine aj 10 [] [] (aa rfl) rfl rfl<|aj 11 [] [] (aa rfl) rfl rfl<|aj 12 [10,11] [] (kG _ _ rfl rfl) rfl rfl<|aj 13 [] [] (aa rfl) rfl rfl<|aj 14 [13] [] (Cp _ rfl) rfl rfl<|aj 15 [] [] (aa rfl) rfl rfl<|aj 16 [14,15] [] (kG _ _ rfl rfl) rfl rfl<|aj 17 [12,16] [] (fe _ _ rfl rfl) rfl rfl<|aj 18 [9,17] [] (dF _ _ rfl rfl) rfl rfl<|aj 19 [] [] (aa rfl) rfl rfl ?_
    refine aj 20 [19] [(10,none)] (bJ t Tryz.underlying216 bh rfl rfl rfl (by omega) rfl) rfl rfl<|aj 21 [20] [(10,none)] (au bh rfl rfl (oG t (by first|(simp [qu];done)|(simp [qu];omega)) rfl)) rfl rfl<|aj 22 [18,21] [] (dF _ _ rfl rfl) rfl rfl<|aj 23 [] [] (aa rfl) rfl rfl<|aj 24 [23] [(5,none)] (bJ t Tryz.underlying216 bh rfl rfl rfl (by omega) rfl) rfl rfl<|aj 25 [24] [(5,none)] (au bh rfl rfl (jX t (by first|rfl|omega|(simp<;>omega)|(simp [*]<;>omega)|(simp [aL.len, -List.length_flatten, *]<;>omega)) rfl)) rfl rfl<|aj 26 [22,25] [] (dF _ _ rfl rfl) rfl rfl<|bW (by kernel_rfl) ?_
    refine s1 (aa rfl) rfl ?_
    refine ah<|ae<|af<|ai<|s1 (aa rfl) rfl ?_
    refine ak rfl (aJ false rfl (.cons (.pure pu) (.cons (.pure pu) (.nil))) (kX _ 2 (by decide)) pu (.inl rfl) rfl ?_)
    refine s1 (aa rfl) rfl ?_
    refine ak rfl (aJ false rfl (.cons (.pure pu) (.cons (.pure pu) (.nil))) (kX _ 13 (by decide)) pu (.inl rfl) rfl ?_)
    refine s1 (fe _ _ rfl rfl) rfl<|s1 (aa rfl) rfl ?_
    refine ak rfl (aJ false rfl (.cons (.pure pu) (.cons (.pure pu) (.nil))) (kX _ 22 (by decide)) pu (.inl rfl) rfl ?_)
    refine s1 (fe _ _ rfl rfl) rfl<|s1 (aa rfl) rfl<|s1 (aa rfl) rfl<|s1 (kG _ _ rfl rfl) rfl<|s1 (aa rfl) rfl<|s1 (aa rfl) rfl<|s1 (kG _ _ rfl rfl) rfl<|s1 (fe _ _ rfl rfl) rfl<|s1 (aa rfl) rfl<|s1 (aa rfl) rfl ?_
    refine s1 (kG _ _ rfl rfl) rfl<|s1 (fe _ _ rfl rfl) rfl<|s1 (dF _ _ rfl rfl) rfl<|s1 (aa rfl) rfl ?_
    refine ah<|ae<|ai<|s1 (aa rfl) rfl<|s1 (aa rfl) rfl<|s1 (aa rfl) rfl<|s1 (aa rfl) rfl<|s1 (aa rfl) rfl<|s1 (dF _ _ rfl rfl) rfl<|s1 (aa rfl) rfl<|s1 (aa rfl) rfl<|s1 (aa rfl) rfl<|s1 (aa rfl) rfl ?_
    refine s1 (aa rfl) rfl<|s1 (dF _ _ rfl rfl) rfl<|s1 (aa rfl) rfl<|s1 (aa rfl) rfl<|s1 (aa rfl) rfl<|s1 (aa rfl) rfl<|s1 (aa rfl) rfl<|s1 (aa rfl) rfl<|s1 (aa rfl) rfl<|s1 (aa rfl) rfl ?_
    refine ah<|bj<|ae<|ai<|s1 (aa rfl) rfl<|s1 (bg _ 1 rfl rfl rfl rfl (by omega)) rfl<|s1 (aa rfl) rfl ?_
    refine ah ?_
    exact bu (t+1) (by omega) (by omega) [(2,some 2),(4,some 4),(5,some 5),(10,some 10)] hI rfl rfl ⟨⟨_,rfl,.p rfl⟩,⟨_,rfl,.p rfl⟩,⟨_,rfl,.p rfl⟩,⟨_,rfl,.p rfl⟩,⟨_,rfl,.pure pu⟩,⟨_,rfl,.pure pu⟩,⟨_,rfl,.pure pu⟩,⟨_,rfl,.pure pu⟩,⟨_,rfl,.pure pu⟩,⟨_,rfl,.pure pu⟩,⟨_,rfl,.pure pu⟩,⟨_,rfl,.pure pu⟩,⟨_,rfl,.pure pu⟩,trivial⟩ ⟨.inr ⟨_,_,rfl,rfl,.pure ar⟩,.inr ⟨_,_,rfl,rfl,.pure ar⟩,.inr ⟨_,_,rfl,rfl,.pure ar⟩,.inr ⟨_,_,rfl,rfl,.pure ar⟩,trivial⟩
   ·have ht64 : t = 64 := by have := of_decide_eq_false hc96; omega
    subst ht64
    refine bE<|aO<|aO<|bF<|ae<|af<|ai<|s1 (bJ 0 Tryz.underlying184 bh rfl rfl rfl (by omega) rfl) rfl<|s1 (au bh rfl rfl rfl) rfl<|s1 (aa rfl) rfl<|s1 (dF _ _ rfl rfl) rfl<|s1 (bJ 1 Tryz.underlying184 bh rfl rfl rfl (by omega) rfl) rfl<|s1 (au bh rfl rfl rfl) rfl<|s1 (aa rfl) rfl<|s1 (dF _ _ rfl rfl) rfl<|s1 (bJ 2 Tryz.underlying184 bh rfl rfl rfl (by omega) rfl) rfl<|s1 (au bh rfl rfl rfl) rfl ?_
    refine s1 (aa rfl) rfl<|s1 (dF _ _ rfl rfl) rfl<|s1 (bJ 3 Tryz.underlying184 bh rfl rfl rfl (by omega) rfl) rfl<|s1 (au bh rfl rfl rfl) rfl<|s1 (aa rfl) rfl<|s1 (dF _ _ rfl rfl) rfl<|s1 (bJ 4 Tryz.underlying184 bh rfl rfl rfl (by omega) rfl) rfl<|s1 (au bh rfl rfl rfl) rfl<|s1 (aa rfl) rfl<|s1 (dF _ _ rfl rfl) rfl ?_
    refine s1 (bJ 5 Tryz.underlying184 bh rfl rfl rfl (by omega) rfl) rfl<|s1 (au bh rfl rfl rfl) rfl<|s1 (aa rfl) rfl<|s1 (dF _ _ rfl rfl) rfl<|s1 (bJ 6 Tryz.underlying184 bh rfl rfl rfl (by omega) rfl) rfl<|s1 (au bh rfl rfl rfl) rfl<|s1 (aa rfl) rfl<|s1 (dF _ _ rfl rfl) rfl<|s1 (bJ 7 Tryz.underlying184 bh rfl rfl rfl (by omega) rfl) rfl<|s1 (au bh rfl rfl rfl) rfl ?_
    refine s1 (aa rfl) rfl<|s1 (dF _ _ rfl rfl) rfl<|s1 (ri (vs:= [_,_,_,_,_,_,_,_]) lT rfl Tryz.underlying184 bh rfl rfl rfl rfl) rfl ?_
    refine ak rfl (bo lT rfl rfl rfl (by simp) (by simp) ?_)
    refine ah<|ae<|aF ?_
    refine aG (rs:= [.cell 4 184]) rfl (ct lT rfl rfl rfl (by simp) aC) rfl
end Go.Abs.D2
-- D2E
namespace Go.Abs.D2
open Go Go.Eng Go.Abs Go.Proofs
theorem rM (s:S8) (b:List UInt8) (hb:b.length=64):cE Tryz.prog 148 [.p 3 0,.fz 64 (b.map u8)] ⟨[(3,some (s.l.map aI))]⟩ (gP (.tu []) [(3,(comp s b).l.map aI)]):=by
 refine qf Tryz.func148 rfl Tryz.ntmps148 (by kernel_rfl) (Nat.le_of_ble_eq_true rfl) fun w0 X0 hI=>?_
 refine af<|ai ?_
 refine ak rfl (bt 4 rfl k8 rfl rfl ?_)
 refine ah<|ae<|af<|af<|ai<|s1 ((aa rfl).v (v':= .i .i64 0) rfl) rfl ?_
 refine ah<|ae<|aM ?_
 refine bH (ι:=Nat) (fun i=> [(0,.p 3 0),(1,.fz 64 (b.map u8)),(4,.p 4 0),(23,.i .i64 (i:Nat))]) (fun i=>⟨[(3,some (s.l.map aI)),(4,some ((words b i).map aI++List.replicate (64 - i) (aI 0)))]⟩) (fun i=>i≤16) (fun i=>16 - i) ?_ ?_
 ·exact bG (0) (Nat.zero_le _) [(3,some 3),(4,some 4)] hI rfl rfl ⟨⟨_,rfl,.p rfl⟩,⟨_,rfl,.pure pu⟩,⟨_,rfl,.p rfl⟩,⟨_,rfl,.pure pu⟩,trivial⟩ ⟨.inr ⟨_,_,rfl,rfl,.pure ar⟩,.inr ⟨_,_,rfl,rfl,.of (by rfl) (.pure ar)⟩,trivial⟩
 rintro i hi
 refine af<|ai<|s1 (aa rfl) rfl ?_
 refine ah<|ae<|af ?_
 refine aP rfl (fun hc24=>?_) (fun hc24=>?_)
 ·have hi16 : i < 16 := by have := of_decide_eq_true hc24; omega
  refine aK<|ae<|af<|aM<|af<|ai<|s1 (aa rfl) rfl<|s1 (aa rfl) rfl ?_
  refine ah<|ae<|af<|ai<|s1 ((aa rfl).v (v':= .i .i64 0) rfl) rfl ?_
  refine ah<|ae<|aM ?_
  refine bH (ι:=Nat) (fun j=> [(0,.p 3 0),(1,.fz 64 (b.map u8)),(4,.p 4 0),(5,.i .i64 (i:Nat)),(23,.i .i64 (i:Nat)),(26,.i .i64 (j:Nat))]) (fun j=>⟨[(3,some (s.l.map aI)),(4,some ((words b i).map aI++ [aI (iV b (4*i) j)]++List.replicate (63 - i) (aI 0)))]⟩) (fun j=>j≤4) (fun j=>4 - j) ?_ ?_
  ·skip
   refine cV 4 rfl (Kk b i (by omega)) ?_
   exact bG (0) (Nat.zero_le _) [(3,some 3),(4,some 4)] hI rfl rfl ⟨⟨_,rfl,.p rfl⟩,⟨_,rfl,.pure pu⟩,⟨_,rfl,.p rfl⟩,⟨_,rfl,.pure pu⟩,⟨_,rfl,.pure pu⟩,⟨_,rfl,.pure pu⟩,trivial⟩ ⟨.inr ⟨_,_,rfl,rfl,.pure ar⟩,.inr ⟨_,_,rfl,rfl,.pure ar⟩,trivial⟩
  rintro j hj
  refine af<|ai<|s1 (aa rfl) rfl ?_
  refine ah<|ae<|af ?_
  refine aP rfl (fun hc27=>?_) (fun hc27=>?_)
  ·have hj4 : j < 4 := by have := of_decide_eq_true hc27; omega
   refine aK<|ae<|af<|aM<|af<|ai<|s1 (aa rfl) rfl<|s1 (aa rfl) rfl ?_
   refine ah<|ae ?_
   refine dH 15 bz (by kernel_rfl) ?_
   refine t1 (aa rfl) rfl<|t1 (aa rfl) rfl<|t1 (bJ i Tryz.underlying216 bh rfl rfl rfl (by omega) rfl) rfl<|t1 (au bh rfl rfl (Ic b i j)) rfl<|t1 (g9 _ 8 rfl rfl rfl (by decide)) rfl<|t1 (aa rfl) rfl<|t1 (aa rfl) rfl<|t1 (iy 4 i rfl rfl rfl rfl (by omega)) rfl<|t1 (aa rfl) rfl<|t1 (bg (4*i) j rfl rfl rfl rfl (by omega)) rfl ?_
   refine t1 (aT (4*i+j) Tryz.underlying68 aQ rfl rfl rfl (by omega) rfl) rfl<|t1 (au aQ rfl rfl (Bi (4*i+j) (by omega) rfl)) rfl<|t1 (qG _ Tryz.underlying5 Tryz.underlying183 rfl) rfl<|t1 ((g8 _ _ rfl rfl).v (v':=aI (iV b (4*i) (j+1))) rfl) rfl<|t1 (bJ i Tryz.underlying216 bh rfl rfl rfl (by omega) rfl) rfl ?_
   refine dI ?_
   refine ak rfl (bZ bh rfl rfl rfl rfl (by simp only [List.length_append,List.length_map,List.length_replicate,List.length_cons,List.length_nil,len_words];omega) (LM b i j) ?_)
   refine ah<|bj<|ae<|ai<|s1 (bg _ 1 rfl rfl rfl rfl (by omega)) rfl<|s1 (aa rfl) rfl ?_
   refine ah ?_
   exact bu (j+1) (by omega) (by omega) [(3,some 3),(4,some 4)] hI rfl rfl ⟨⟨_,rfl,.p rfl⟩,⟨_,rfl,.pure pu⟩,⟨_,rfl,.p rfl⟩,⟨_,rfl,.pure pu⟩,⟨_,rfl,.pure pu⟩,⟨_,rfl,.pure pu⟩,trivial⟩ ⟨.inr ⟨_,_,rfl,rfl,.pure ar⟩,.inr ⟨_,_,rfl,rfl,.pure ar⟩,trivial⟩
  ·have hj4 : j = 4 := by have := of_decide_eq_false hc27; omega
   subst hj4
   refine bE<|aO<|aO<|bF<|bj<|ae<|ai<|s1 (bg _ 1 rfl rfl rfl rfl (by omega)) rfl<|s1 (aa rfl) rfl ?_
   refine ah ?_
   exact bu (i+1) (by omega) (by omega) [(3,some 3),(4,some 4)] hI rfl rfl ⟨⟨_,rfl,.p rfl⟩,⟨_,rfl,.pure pu⟩,⟨_,rfl,.p rfl⟩,⟨_,rfl,.pure pu⟩,trivial⟩ ⟨.inr ⟨_,_,rfl,rfl,.pure ar⟩,.inr ⟨_,_,rfl,rfl,.of (Kl b i (by omega)) (.pure ar)⟩,trivial⟩
 ·have hi16 : i = 16 := by have := of_decide_eq_false hc24; omega
  subst hi16
  refine bE<|aO<|aO<|bF<|ae<|af<|af<|ai<|s1 ((aa rfl).v (v':= .i .i64 16) rfl) rfl ?_
  refine ah<|ae<|aM ?_
  refine bH (ι:=Nat) (fun k=> [(0,.p 3 0),(1,.fz 64 (b.map u8)),(4,.p 4 0),(7,.i .i64 ((16+k:Nat):Int))]) (fun k=>⟨[(3,some (s.l.map aI)),(4,some ((sched b k).map aI++List.replicate (48 - k) (aI 0)))]⟩) (fun k=>k≤48) (fun k=>48 - k) ?_ ?_
  ·skip
   refine cV 4 rfl (cs':=(sched b 0).map aI++List.replicate (48 - 0) (aI 0)) (by rw [xR]) ?_
   exact bG (0) (Nat.zero_le _) [(3,some 3),(4,some 4)] hI rfl rfl ⟨⟨_,rfl,.p rfl⟩,⟨_,rfl,.pure pu⟩,⟨_,rfl,.p rfl⟩,⟨_,rfl,.pure pu⟩,trivial⟩ ⟨.inr ⟨_,_,rfl,rfl,.pure ar⟩,.inr ⟨_,_,rfl,rfl,.pure ar⟩,trivial⟩
  rintro k hk
  refine af<|af<|ai<|s1 (aa rfl) rfl<|s1 (aa rfl) rfl ?_
  refine ah<|ae ?_
  refine aP rfl (fun hc47=>?_) (fun hc47=>?_)
  ·have hk48 : k < 48 := by have := of_decide_eq_true hc47; omega
   refine aK<|ae<|af<|aM<|af ?_
   refine dH 9 bz (by kernel_rfl) ?_
   refine t1 (aa rfl) rfl<|t1 (dD (16+k) 15 rfl rfl rfl rfl (by omega) (by omega)) rfl<|t1 (bJ (16+k - 15) Tryz.underlying216 bh rfl rfl rfl (by omega) rfl) rfl<|t1 (au bh rfl rfl (jX (16+k - 15) (by first|rfl|omega|(simp<;>omega)|(simp [*]<;>omega)|(simp [aL.len, -List.length_flatten, *]<;>omega)) rfl)) rfl<|t1 (aa rfl) rfl<|t1 (dD (16+k) 2 rfl rfl rfl rfl (by omega) (by omega)) rfl<|t1 (bJ (16+k - 2) Tryz.underlying216 bh rfl rfl rfl (by omega) rfl) rfl<|t1 (au bh rfl rfl (jX (16+k - 2) (by first|rfl|omega|(simp<;>omega)|(simp [*]<;>omega)|(simp [aL.len, -List.length_flatten, *]<;>omega)) rfl)) rfl<|t1 (aa rfl) rfl ?_
   refine dI ?_
   refine s1 (aa rfl) rfl ?_
   refine ah<|ae<|af<|ai<|s1 (aa rfl) rfl ?_
   refine ak rfl (aJ false rfl (.cons (.pure pu) (.cons (.pure pu) (.nil))) (Lm _) pu (.inl rfl) rfl ?_)
   refine s1 (aa rfl) rfl ?_
   refine ak rfl (aJ false rfl (.cons (.pure pu) (.cons (.pure pu) (.nil))) (Le _) pu (.inl rfl) rfl ?_)
   refine s1 (fe _ _ rfl rfl) rfl<|s1 (aa rfl) rfl<|s1 (fF _ 3 rfl rfl rfl (by decide)) rfl<|s1 (fe _ _ rfl rfl) rfl<|s1 (aa rfl) rfl ?_
   refine ah<|ae<|af<|ai<|s1 (aa rfl) rfl ?_
   refine ak rfl (aJ false rfl (.cons (.pure pu) (.cons (.pure pu) (.nil))) (Ld _) pu (.inl rfl) rfl ?_)
   refine s1 (aa rfl) rfl ?_
   refine ak rfl (aJ false rfl (.cons (.pure pu) (.cons (.pure pu) (.nil))) (Lg _) pu (.inl rfl) rfl ?_)
   refine s1 (fe _ _ rfl rfl) rfl<|s1 (aa rfl) rfl<|s1 (fF _ 10 rfl rfl rfl (by decide)) rfl<|s1 (fe _ _ rfl rfl) rfl<|s1 (aa rfl) rfl ?_
   refine ah<|ae ?_
   refine dH 15 bz (by kernel_rfl) ?_
   refine t1 (aa rfl) rfl<|t1 (aa rfl) rfl<|t1 (dD (16+k) 16 rfl rfl rfl rfl (by omega) (by omega)) rfl<|t1 (bJ (16+k - 16) Tryz.underlying216 bh rfl rfl rfl (by omega) rfl) rfl<|t1 (au bh rfl rfl (jX (16+k - 16) (by first|rfl|omega|(simp<;>omega)|(simp [*]<;>omega)|(simp [aL.len, -List.length_flatten, *]<;>omega)) rfl)) rfl<|t1 (aa rfl) rfl<|t1 (dF _ _ rfl rfl) rfl<|t1 (aa rfl) rfl<|t1 (dD (16+k) 7 rfl rfl rfl rfl (by omega) (by omega)) rfl<|t1 (bJ (16+k - 7) Tryz.underlying216 bh rfl rfl rfl (by omega) rfl) rfl ?_
   refine t1 (au bh rfl rfl (jX (16+k - 7) (by first|rfl|omega|(simp<;>omega)|(simp [*]<;>omega)|(simp [aL.len, -List.length_flatten, *]<;>omega)) rfl)) rfl<|t1 (dF _ _ rfl rfl) rfl<|t1 (aa rfl) rfl<|t1 (dF _ _ rfl rfl) rfl<|t1 (bJ (16+k) Tryz.underlying216 bh rfl rfl rfl (by omega) rfl) rfl ?_
   refine dI ?_
   refine ak rfl (bZ bh rfl rfl rfl rfl (by first|rfl|omega|(simp<;>omega)|(simp [*]<;>omega)|(simp [aL.len, -List.length_flatten, *]<;>omega)) (DG b k _ (by omega) rfl) ?_)
   refine ah<|bj<|ae<|ai<|s1 (aa rfl) rfl<|s1 (bg _ 1 rfl rfl rfl rfl (by omega)) rfl<|s1 (aa rfl) rfl ?_
   refine ah ?_
   exact bu (k+1) (by omega) (by omega) [(3,some 3),(4,some 4)] hI rfl rfl ⟨⟨_,rfl,.p rfl⟩,⟨_,rfl,.pure pu⟩,⟨_,rfl,.p rfl⟩,⟨_,rfl,.pure pu⟩,trivial⟩ ⟨.inr ⟨_,_,rfl,rfl,.pure ar⟩,.inr ⟨_,_,rfl,rfl,.pure ar⟩,trivial⟩
  ·have hk48 : k = 48 := by have := of_decide_eq_false hc47; omega
   subst hk48
   refine bE<|aO<|aO<|bF<|ae<|af<|ai<|s1 (aa rfl) rfl<|s1 (rk rfl rfl) rfl<|s1 (aZ mH rfl rfl (by first|rfl|omega|(simp<;>omega)|(simp [*]<;>omega)|(simp [aL.len, -List.length_flatten, *]<;>omega))) rfl ?_
   refine ak rfl (bt 12 rfl mH rfl rfl ?_)
   refine ak rfl (bo mH rfl rfl rfl (by simp) (by simp) ?_)
   refine ah<|ae<|af<|af<|ai<|s1 ((aa rfl).v (v':= .i .i64 0) rfl) rfl ?_
   refine ah<|ae<|aM ?_
   refine bH (ι:=Nat) (fun t=> [(0,.p 3 0),(4,.p 4 0),(12,.p 12 0),(92,.i .i64 (t:Nat))]) (fun t=>⟨[(3,some (s.l.map aI)),(4,some ((sched b 48).map aI)),(12,some ((rounds (sched b 48) s t).l.map aI))]⟩) (fun t=>t≤64) (fun t=>64 - t) ?_ ?_
   ·skip
    refine cV 4 rfl (cs':=(sched b 48).map aI) (by simp) ?_
    exact bG (0) (Nat.zero_le _) [(3,some 3),(4,some 4),(12,some 12)] hI rfl rfl ⟨⟨_,rfl,.p rfl⟩,⟨_,rfl,.p rfl⟩,⟨_,rfl,.p rfl⟩,⟨_,rfl,.pure pu⟩,trivial⟩ ⟨.inr ⟨_,_,rfl,rfl,.pure ar⟩,.inr ⟨_,_,rfl,rfl,.pure ar⟩,.inr ⟨_,_,rfl,rfl,.pure ar⟩,trivial⟩
   rintro t ht
   refine af<|ai<|s1 (aa rfl) rfl ?_
   refine ah<|ae<|af ?_
   refine aP rfl (fun hc93=>?_) (fun hc93=>?_)
   ·have ht64 : t < 64 := by have := of_decide_eq_true hc93; omega
    refine aK<|ae<|af<|aM<|af<|ai<|s1 (aa rfl) rfl<|s1 (aa rfl) rfl ?_
    refine ah<|ae<|af ?_
    refine dH 11 bz (by kernel_rfl) ?_
    refine t1 (bJ 0 Tryz.underlying185 bh rfl rfl rfl (by omega) rfl) rfl<|t1 (au bh rfl rfl rfl) rfl<|t1 (bJ 1 Tryz.underlying185 bh rfl rfl rfl (by omega) rfl) rfl<|t1 (au bh rfl rfl rfl) rfl<|t1 (bJ 2 Tryz.underlying185 bh rfl rfl rfl (by omega) rfl) rfl<|t1 (au bh rfl rfl rfl) rfl<|t1 (bJ 4 Tryz.underlying185 bh rfl rfl rfl (by omega) rfl) rfl<|t1 (au bh rfl rfl rfl) rfl<|t1 (aa rfl) rfl<|t1 (aa rfl) rfl ?_
    refine t1 (aa rfl) rfl ?_
    refine dI ?_
    refine s1 (aa rfl) rfl ?_
    refine ah<|ae<|af<|ai<|s1 (aa rfl) rfl ?_
    refine ak rfl (aJ false rfl (.cons (.pure pu) (.cons (.pure pu) (.nil))) (Ll _) pu (.inl rfl) rfl ?_)
    refine s1 (aa rfl) rfl ?_
    refine ak rfl (aJ false rfl (.cons (.pure pu) (.cons (.pure pu) (.nil))) (Lb _) pu (.inl rfl) rfl ?_)
    refine s1 (fe _ _ rfl rfl) rfl<|s1 (aa rfl) rfl ?_
    refine ak rfl (aJ false rfl (.cons (.pure pu) (.cons (.pure pu) (.nil))) (Lj _) pu (.inl rfl) rfl ?_)
    refine s1 (fe _ _ rfl rfl) rfl<|s1 (aa rfl) rfl ?_
    refine ah<|ae<|af ?_
    refine dH 23 bz (by kernel_rfl) ?_
    refine t1 (bJ 7 Tryz.underlying185 bh rfl rfl rfl (by omega) rfl) rfl<|t1 (au bh rfl rfl rfl) rfl<|t1 (aa rfl) rfl<|t1 (dF _ _ rfl rfl) rfl<|t1 (aa rfl) rfl<|t1 (bJ 5 Tryz.underlying185 bh rfl rfl rfl (by omega) rfl) rfl<|t1 (au bh rfl rfl rfl) rfl<|t1 (kG _ _ rfl rfl) rfl<|t1 (aa rfl) rfl<|t1 (Cp _ rfl) rfl ?_
    refine t1 (bJ 6 Tryz.underlying185 bh rfl rfl rfl (by omega) rfl) rfl<|t1 (au bh rfl rfl rfl) rfl<|t1 (kG _ _ rfl rfl) rfl<|t1 (fe _ _ rfl rfl) rfl<|t1 (dF _ _ rfl rfl) rfl<|t1 (aa rfl) rfl<|t1 (M9 t Tryz.underlying216 bh rfl rfl rfl (by omega) rfl) rfl<|t1 (au bh rfl rfl (H3 t ht64)) rfl<|t1 (dF _ _ rfl rfl) rfl<|t1 (aa rfl) rfl ?_
    refine t1 (bJ t Tryz.underlying216 bh rfl rfl rfl (by omega) rfl) rfl<|t1 (au bh rfl rfl (oG t (by first|rfl|omega|(simp<;>omega)|(simp [*]<;>omega)|(simp [aL.len, -List.length_flatten, *]<;>omega)) rfl)) rfl<|t1 (dF _ _ rfl rfl) rfl ?_
    refine dI ?_
    refine s1 (aa rfl) rfl ?_
    refine ah<|ae<|af<|ai<|s1 (aa rfl) rfl ?_
    refine ak rfl (aJ false rfl (.cons (.pure pu) (.cons (.pure pu) (.nil))) (Lh _) pu (.inl rfl) rfl ?_)
    refine s1 (aa rfl) rfl ?_
    refine ak rfl (aJ false rfl (.cons (.pure pu) (.cons (.pure pu) (.nil))) (Lc _) pu (.inl rfl) rfl ?_)
    refine s1 (fe _ _ rfl rfl) rfl<|s1 (aa rfl) rfl ?_
    refine ak rfl (aJ false rfl (.cons (.pure pu) (.cons (.pure pu) (.nil))) (Li _) pu (.inl rfl) rfl ?_)
    refine s1 (fe _ _ rfl rfl) rfl<|s1 (aa rfl) rfl ?_
    refine ah<|ae<|af<|ai<|s1 (aa rfl) rfl<|s1 (aa rfl) rfl<|s1 (aa rfl) rfl<|s1 (kG _ _ rfl rfl) rfl<|s1 (aa rfl) rfl<|s1 (aa rfl) rfl<|s1 (kG _ _ rfl rfl) rfl<|s1 (fe _ _ rfl rfl) rfl<|s1 (aa rfl) rfl<|s1 (aa rfl) rfl ?_
    refine s1 (kG _ _ rfl rfl) rfl<|s1 (fe _ _ rfl rfl) rfl<|s1 (dF _ _ rfl rfl) rfl<|s1 (aa rfl) rfl ?_
    refine ah<|ae<|ai<|s1 (aa rfl) rfl<|s1 (aa rfl) rfl<|s1 (dF _ _ rfl rfl) rfl<|s1 (aa rfl) rfl<|s1 (aa rfl) rfl<|s1 (aa rfl) rfl<|s1 (bJ 3 Tryz.underlying185 bh rfl rfl rfl (by omega) rfl) rfl<|s1 (au bh rfl rfl rfl) rfl<|s1 (aa rfl) rfl<|s1 (dF _ _ rfl rfl) rfl ?_
    refine s1 (aa rfl) rfl<|s1 (bJ 5 Tryz.underlying185 bh rfl rfl rfl (by omega) rfl) rfl<|s1 (au bh rfl rfl rfl) rfl<|s1 (bJ 6 Tryz.underlying185 bh rfl rfl rfl (by omega) rfl) rfl<|s1 (au bh rfl rfl rfl) rfl<|s1 (ri (vs:= [_,_,_,_,_,_,_,_]) mH rfl Tryz.underlying185 bh rfl rfl rfl rfl) rfl ?_
    refine ak rfl (bo mH rfl rfl rfl (by simp) (by simp) ?_)
    refine ah<|bj<|ae<|ai<|s1 (bg _ 1 rfl rfl rfl rfl (by omega)) rfl<|s1 (aa rfl) rfl ?_
    refine ah ?_
    exact bu (t+1) (by omega) (by omega) [(3,some 3),(4,some 4),(12,some 12)] hI rfl rfl ⟨⟨_,rfl,.p rfl⟩,⟨_,rfl,.p rfl⟩,⟨_,rfl,.p rfl⟩,⟨_,rfl,.pure pu⟩,trivial⟩ ⟨.inr ⟨_,_,rfl,rfl,.pure ar⟩,.inr ⟨_,_,rfl,rfl,.pure ar⟩,.inr ⟨_,_,rfl,rfl,.pure ar⟩,trivial⟩
   ·have ht64 : t = 64 := by have := of_decide_eq_false hc93; omega
    subst ht64
    refine bE<|aO<|aO<|bF<|ae<|af<|ai<|s1 ((aa rfl).v (v':= .i .i64 0) rfl) rfl ?_
    refine ah<|ae<|aM ?_
    refine bH (ι:=Nat) (fun i=> [(0,.p 3 0),(12,.p 12 0),(172,.i .i64 (i:Nat))]) (fun i=>⟨[(3,some ((nK s (rounds (sched b 48) s 64) i).map aI)),(12,some ((rounds (sched b 48) s 64).l.map aI))]⟩) (fun i=>i≤8) (fun i=>8 - i) ?_ ?_
    ·exact bG (0) (Nat.zero_le _) [(3,some 3),(12,some 12)] hI rfl rfl ⟨⟨_,rfl,.p rfl⟩,⟨_,rfl,.p rfl⟩,⟨_,rfl,.pure pu⟩,trivial⟩ ⟨.inr ⟨_,_,rfl,rfl,.pure ar⟩,.inr ⟨_,_,rfl,rfl,.pure ar⟩,trivial⟩
    rintro i hi
    refine af<|ai<|s1 (aa rfl) rfl ?_
    refine ah<|ae<|af ?_
    refine aP rfl (fun hc173=>?_) (fun hc173=>?_)
    ·have hi8 : i < 8 := by have := of_decide_eq_true hc173; omega
     refine aK<|ae<|af<|aM<|af<|ai<|s1 (aa rfl) rfl<|s1 (aa rfl) rfl ?_
     refine ah<|ae ?_
     refine dH 11 bz (by kernel_rfl) ?_
     refine t1 (aa rfl) rfl<|t1 (aa rfl) rfl<|t1 (rk rfl rfl) rfl<|t1 (bJ i Tryz.underlying185 bh rfl rfl rfl (by omega) rfl) rfl<|t1 (au bh rfl rfl (oG i (by rw [BU];omega) rfl)) rfl<|t1 (aa rfl) rfl<|t1 (bJ i Tryz.underlying185 bh rfl rfl rfl (by omega) rfl) rfl<|t1 (au bh rfl rfl (oG i (by rw [I2];omega) rfl)) rfl<|t1 (dF _ _ rfl rfl) rfl<|t1 (rk rfl rfl) rfl ?_
     refine t1 (bJ i Tryz.underlying185 bh rfl rfl rfl (by omega) rfl) rfl ?_
     refine dI ?_
     refine ak rfl (bZ bh rfl rfl rfl rfl (by rw [List.length_map,BU];omega) (LP s _ i (by omega)) ?_)
     refine ah<|bj<|ae<|ai<|s1 (bg _ 1 rfl rfl rfl rfl (by omega)) rfl<|s1 (aa rfl) rfl ?_
     refine ah ?_
     exact bu (i+1) (by omega) (by omega) [(3,some 3),(12,some 12)] hI rfl rfl ⟨⟨_,rfl,.p rfl⟩,⟨_,rfl,.p rfl⟩,⟨_,rfl,.pure pu⟩,trivial⟩ ⟨.inr ⟨_,_,rfl,rfl,.pure ar⟩,.inr ⟨_,_,rfl,rfl,.pure ar⟩,trivial⟩
    ·have hi8 : i = 8 := by have := of_decide_eq_false hc173; omega
     subst hi8
     refine bE<|aO<|aO<|bF ?_
     refine lq (rs:= []) rfl aC (nD (congrArg (fun l=>some (List.map aI l)) (Ml _ _)))
end Go.Abs.D2
-- D2D
namespace Go.Abs.D2
open Go Go.Eng Go.Abs Go.Proofs
theorem Kj (b:List UInt8) (hb:b.length≤140737488300000):aB Tryz.prog 173 [.fz b.length (b.map u8)] (aU (.fz (pad b).length ((pad b).map u8))):=by
 refine enter Tryz.func173 rfl Tryz.ntmps173 (by kernel_rfl) (Nat.le_of_ble_eq_true rfl) fun w0 X0 hI=>?_
 refine af<|ai<|s1 (aa rfl) rfl ?_
 refine ah<|ae<|af<|ai ?_
 refine ak rfl (dZ 6 rfl Tryz.underlying68 aQ rfl rfl rfl rfl rfl ?_)
 refine s1 (aa rfl) rfl ?_
 refine ak rfl (cY 8 rfl Tryz.underlying68 aQ rfl (.sl rfl (by first|rfl|omega|(simp<;>omega)|(simp [*]<;>omega)|(simp [aL.len, -List.length_flatten, *]<;>omega))) rfl rfl (by first|rfl|omega|(simp<;>omega)|(simp [*]<;>omega)|(simp [aL.len, -List.length_flatten, *]<;>omega)) (by first|omega|(simp only [maxLen];omega)|(simp [maxLen];done)|(simp [maxLen];omega)|(simp [maxLen, *];omega)) (by first|omega|(simp only [maxLen];omega)|(simp [maxLen];done)|(simp [maxLen];omega)|(simp [maxLen, *];omega)) rfl rfl rfl ?_)
 refine ak rfl (dZ 9 rfl Tryz.underlying68 aQ rfl rfl rfl rfl rfl ?_)
 refine ak rfl (cY 10 rfl Tryz.underlying68 aQ rfl (.sl rfl (by first|rfl|omega|(simp<;>omega)|(simp [*]<;>omega)|(simp [aL.len, -List.length_flatten, *]<;>omega))) rfl (cO rfl (by first|rfl|omega|(simp<;>omega)|(simp [*]<;>omega)|(simp [aL.len, -List.length_flatten, *]<;>omega))) (by first|rfl|omega|(simp<;>omega)|(simp [*]<;>omega)|(simp [aL.len, -List.length_flatten, *]<;>omega)) (by first|omega|(simp only [maxLen];omega)|(simp [maxLen];done)|(simp [maxLen];omega)|(simp [maxLen, *];omega)) (by first|omega|(simp only [maxLen];omega)|(simp [maxLen];done)|(simp [maxLen];omega)|(simp [maxLen, *];omega)) rfl rfl rfl ?_)
 refine s1 (aa rfl) rfl ?_
 refine ah<|ae<|af<|aM ?_
 refine bH (ι:=Nat) (fun i=> [(0,.fz b.length (b.map u8)),(3,.sl 3 1 0 (b.length+1+i))]) (fun i=>⟨[(3,some ((b++ [128]++List.replicate i 0).map u8))]⟩) (fun i=>i≤gO b.length) (fun i=>gO b.length - i) ?_ ?_
 ·exact bG (0) (Nat.zero_le _) [(3,some 10)] hI rfl rfl ⟨⟨_,rfl,.pure pu⟩,⟨_,rfl,.sl rfl (by first|rfl|omega|(simp<;>omega)|(simp [*]<;>omega)|(simp [aL.len, -List.length_flatten, *]<;>omega))⟩,trivial⟩ ⟨.inr ⟨_,_,rfl,rfl,.of (by simp) (.pure ar)⟩,trivial⟩
 rintro i hi
 refine af<|af<|ai<|s1 (aa rfl) rfl<|s1 (bx Tryz.underlying68 rfl (cO rfl (by simp;omega)) rfl) rfl<|s1 (kg (b.length+1+i) 64 rfl rfl rfl rfl (by decide)) rfl<|s1 (aa rfl) rfl ?_
 refine ah<|ae ?_
 refine aP rfl (fun hc14=>?_) (fun hc14=>?_)
 ·have hz := rl b.length
  have hi2:i<gO b.length:=by
   have:=bne_iff_ne.1 hc14
   rcases Nat.lt_or_ge i (gO b.length)with h|h
   ·exact h
   ·exfalso; have : i = gO b.length := by omega
    subst this;omega
  refine aK<|ae<|aM<|ai<|s1 (aa rfl) rfl ?_
  refine ak rfl (dZ 16 rfl Tryz.underlying68 aQ rfl rfl rfl rfl rfl ?_)
  refine ak rfl (cY 17 rfl Tryz.underlying68 aQ rfl (.sl rfl (by first|rfl|omega|(simp<;>omega)|(simp [*]<;>omega)|(simp [aL.len, -List.length_flatten, *]<;>omega))) rfl (cO rfl (by first|rfl|omega|(simp<;>omega)|(simp [*]<;>omega)|(simp [aL.len, -List.length_flatten, *]<;>omega))) (by first|rfl|omega|(simp<;>omega)|(simp [*]<;>omega)|(simp [aL.len, -List.length_flatten, *]<;>omega)) (by first|omega|(simp only [maxLen];omega)|(simp [maxLen];done)|(simp [maxLen];omega)|(simp [maxLen, *];omega)) (by first|omega|(simp only [maxLen];omega)|(simp [maxLen];done)|(simp [maxLen];omega)|(simp [maxLen, *];omega)) rfl rfl rfl ?_)
  refine s1 (aa rfl) rfl ?_
  refine ah<|bj ?_
  exact bu (i+1) (by omega) (by omega) [(3,some 17)] hI rfl rfl ⟨⟨_,rfl,.pure pu⟩,⟨_,rfl,.sl rfl (by first|rfl|omega|(simp<;>omega)|(simp [*]<;>omega)|(simp [aL.len, -List.length_flatten, *]<;>omega))⟩,trivial⟩ ⟨.inr ⟨_,_,rfl,rfl,.of (by simp [List.replicate_succ', ←List.append_assoc]) (.pure ar)⟩,trivial⟩
 ·have hz := rl b.length
  have hi2:i=gO b.length:=by
   have:=bne_eq_false_iff_eq.1 hc14
   omega
  subst hi2
  refine bE<|aO<|aO<|bF<|ae<|af<|ai<|s1 (aa rfl) rfl<|s1 (bx Tryz.underlying68 rfl rfl rfl) rfl<|s1 (nu _ Tryz.underlying3 Tryz.underlying198 rfl rfl) rfl<|s1 ((qA _ (a6 8) rfl rfl).v (v':=aY (a6 (8*b.length))) (congrArg aY (by rw [←BitVec.ofNat_mul,Nat.mul_comm]))) rfl<|s1 (aa rfl) rfl ?_
  refine ah<|ae<|af<|af<|ai<|s1 ((aa rfl).v (v':= .i .i64 7) rfl) rfl ?_
  refine ah<|ae<|aM ?_
  refine bH (ι:=Nat) (fun k=> [(3,.sl 3 1 0 (b.length+1+gO b.length+k)),(4,aY (a6 (8*b.length))),(5,.i .i64 (7 - (k:Int)))]) (fun k=>⟨[(3,some ((b++ [128]++List.replicate (gO b.length) 0++(eC (8*b.length)).take k).map u8))]⟩) (fun k=>k≤8) (fun k=>8 - k) ?_ ?_
  ·exact bG (0) (Nat.zero_le _) [(3,some 3)] hI rfl rfl ⟨⟨_,rfl,.sl rfl (by first|rfl|omega|(simp<;>omega)|(simp [*]<;>omega)|(simp [aL.len, -List.length_flatten, *]<;>omega))⟩,⟨_,rfl,.pure pu⟩,⟨_,rfl,.pure pu⟩,trivial⟩ ⟨.inr ⟨_,_,rfl,rfl,.of (by simp) (.pure ar)⟩,trivial⟩
  rintro k hk
  refine af<|af<|ai<|s1 (aa rfl) rfl<|s1 (aa rfl) rfl ?_
  refine ah<|ae ?_
  refine aP rfl (fun hc23=>?_) (fun hc23=>?_)
  ·have hk8 : k < 8 := by have := of_decide_eq_true hc23; omega
   refine aK<|ae<|af<|aM<|ai<|s1 (aa rfl) rfl<|s1 (aa rfl) rfl<|s1 (aa rfl) rfl<|s1 ((aa rfl).v (v':= .i .i64 ((8*(7 - k):Nat):Int)) (by rw [mJ _ (by omega) (by omega)];congr 1;omega)) rfl<|s1 (ku _ (8*(7 - k)) rfl rfl rfl (by omega)) rfl<|s1 ((ie _ Tryz.underlying198 Tryz.underlying5 rfl).v (v':=u8 (UInt8.ofNat (8*b.length / 2 ^ (8*(7 - k))))) (congrArg u8 (vm _ _ (by omega)))) rfl ?_
   refine ak rfl (dZ 32 rfl Tryz.underlying68 aQ rfl rfl rfl rfl rfl ?_)
   refine ak rfl (cY 33 rfl Tryz.underlying68 aQ rfl (.sl rfl (by first|rfl|omega|(simp<;>omega)|(simp [*]<;>omega)|(simp [aL.len, -List.length_flatten, *]<;>omega))) rfl (cO rfl (by first|rfl|omega|(simp<;>omega)|(simp [*]<;>omega)|(simp [aL.len, -List.length_flatten, *]<;>omega))) (by first|rfl|omega|(simp<;>omega)|(simp [*]<;>omega)|(simp [aL.len, -List.length_flatten, *]<;>omega)) (by first|omega|(simp only [maxLen];omega)|(simp [maxLen];done)|(simp [maxLen];omega)|(simp [maxLen, *];omega)) (by first|omega|(simp only [maxLen];omega)|(simp [maxLen];done)|(simp [maxLen];omega)|(simp [maxLen, *];omega)) rfl rfl rfl ?_)
   refine s1 (aa rfl) rfl ?_
   refine ah<|bj<|ae<|ai<|s1 (aa rfl) rfl<|s1 ((gu rfl rfl (by omega) (by omega)).v (v':= .i .i64 (7 - ((k+1:Nat):Int))) (congrArg (A.i .i64) (by omega))) rfl<|s1 (aa rfl) rfl ?_
   refine ah ?_
   exact bu (k+1) (by omega) (by omega) [(3,some 33)] hI rfl rfl ⟨⟨_,rfl,.sl rfl (by first|rfl|omega|(simp<;>omega)|(simp [*]<;>omega)|(simp [aL.len, -List.length_flatten, *]<;>omega))⟩,⟨_,rfl,.pure pu⟩,⟨_,rfl,.pure pu⟩,trivial⟩ ⟨.inr ⟨_,_,rfl,rfl,.of (by rw [Mu _ k (by omega)];simp) (.pure ar)⟩,trivial⟩
  ·have hk8 : k = 8 := by have := of_decide_eq_false hc23; omega
   subst hk8
   refine bE<|aO<|aO<|bF<|ae<|af<|ai<|s1 (aa rfl) rfl<|s1 (aa rfl) rfl ?_
   refine ah<|ae<|aF ?_
   refine gz 2 rfl rfl ar (cD (by simp [len_be64];omega) (by rw [Mt (len_be64 _)])) ?_
   refine aG (rs:= [.tmp 2]) rfl (aD rfl aC) ?_
   show A.fz _ _=_
   rw [s4]
   rfl
theorem Dm (b:List UInt8) (hb:b.length≤140737488300000):aB Tryz.prog 117 [.fz b.length (b.map u8)] (aU (.ag ((k5 b).map u8))):=by
 refine enter Tryz.func117 rfl Tryz.ntmps117 (by kernel_rfl) (Nat.le_of_ble_eq_true rfl) fun w0 X0 hI=>?_
 refine af<|ai ?_
 refine ak rfl (bt 2 rfl aE rfl rfl ?_)
 refine ah<|ae<|af<|ai<|s1 ((ri (vs:= [_,_,_,_,_,_,_,_]) lT rfl Tryz.underlying184 bh rfl rfl rfl rfl).v (v':= .ag (h0.l.map aI)) (by kernel_rfl)) rfl ?_
 refine ak rfl (bt 3 rfl lT rfl rfl ?_)
 refine ak rfl (bo lT rfl rfl rfl (by first|rfl|omega|(simp<;>omega)|(simp [*]<;>omega)|(simp [aL.len, -List.length_flatten, *]<;>omega)) (by first|rfl|omega|(simp<;>omega)|(simp [*]<;>omega)|(simp [aL.len, -List.length_flatten, *]<;>omega)) ?_)
 refine ah<|ae<|af<|ai<|s1 (aa rfl) rfl ?_
 refine ak rfl (aJ false rfl (.cons (.pure pu) (.nil)) (Kj b hb) pu (.inl rfl) rfl ?_)
 refine s1 (aa rfl) rfl ?_
 refine ah<|ae<|af<|af<|ai<|s1 ((aa rfl).v (v':= .i .i64 0) rfl) rfl ?_
 refine ah<|ae<|aM ?_
 refine bH (ι:=Nat) (fun k=> [(2,.p 2 0),(3,.p 3 0),(4,.fz (pad b).length ((pad b).map u8)),(5,.i .i64 ((64*k:Nat):Int))]) (fun k=>⟨[(2,some (List.replicate 32 (u8 0))),(3,some ((fg k h0 (pad b)).l.map aI))]⟩) (fun k=>k≤(pad b).length / 64) (fun k=>(pad b).length / 64 - k) ?_ ?_
 ·exact bG (0) (Nat.zero_le _) [(2,some 2),(3,some 3)] hI rfl rfl ⟨⟨_,rfl,.p rfl⟩,⟨_,rfl,.p rfl⟩,⟨_,rfl,.pure pu⟩,⟨_,rfl,.pure pu⟩,trivial⟩ ⟨.inr ⟨_,_,rfl,rfl,.of (by simp) (.pure ar)⟩,.inr ⟨_,_,rfl,rfl,.pure ar⟩,trivial⟩
 rintro k hk
 have hp:=I5 b
 have hpl:=s4 b
 have hz:=rl b.length
 refine af<|af<|ai<|s1 (aa rfl) rfl<|s1 (aa rfl) rfl<|s1 (bx Tryz.underlying68 rfl rfl rfl) rfl<|s1 (aa rfl) rfl ?_
 refine ah<|ae ?_
 refine aP rfl (fun hc14=>?_) (fun hc14=>?_)
 ·have hk2 : k < (pad b).length / 64 := by have := of_decide_eq_true hc14; omega
  refine aK<|ae<|af<|aM ?_
  refine bU ⟨_, [], []⟩ 7 4 bz (le_refl rfl) ?_
  refine aj 0 [] [(3,none)] (aZ lT rfl rfl (by first|rfl|omega|(simp<;>omega)|(simp [*]<;>omega)|(simp [aL.len, -List.length_flatten, *]<;>omega))) rfl rfl<|aj 1 [] [] (aa rfl) rfl rfl<|aj 2 [] [] (aa rfl) rfl rfl<|aj 3 [] [] (aa rfl) rfl rfl<|aj 4 [3] [] (bg _ 64 rfl rfl rfl rfl (by omega)) rfl rfl<|aj 5 [1,2,4] [] ((iW 64 Tryz.underlying68 aQ rfl (by simp) (bs rfl rfl) (bs rfl rfl) (by omega) (by omega) (by omega) rfl).v (congrArg (A.fz 64) (GC (pad b) (64*k)))) rfl rfl<|bV false 6 [0,5] [] bb rfl (.cons (.pure pu) (.cons (.pure pu) (.nil))) (FM _ _ (by simp;omega)) pu (.inl rfl) rfl rfl<|bW (by kernel_rfl) ?_
  refine ak rfl (bo lT rfl rfl rfl (by first|rfl|omega|(simp<;>omega)|(simp [*]<;>omega)|(simp [aL.len, -List.length_flatten, *]<;>omega)) (by first|rfl|omega|(simp<;>omega)|(simp [*]<;>omega)|(simp [aL.len, -List.length_flatten, *]<;>omega)) ?_)
  refine ah<|bj<|ae<|ai<|s1 (aa rfl) rfl<|s1 (bg _ 64 rfl rfl rfl rfl (by omega)) rfl<|s1 (aa rfl) rfl ?_
  refine ah ?_
  exact bu (k+1) (by omega) (by omega) [(2,some 2),(3,some 3)] hI rfl rfl ⟨⟨_,rfl,.p rfl⟩,⟨_,rfl,.p rfl⟩,⟨_,rfl,.pure pu⟩,⟨_,rfl,.pure pu⟩,trivial⟩ ⟨.inr ⟨_,_,rfl,rfl,.of (by simp) (.pure ar)⟩,.inr ⟨_,_,rfl,rfl,.of (by rw [u6]) (.pure ar)⟩,trivial⟩
 ·have hk2 : k = (pad b).length / 64 := by have := of_decide_eq_false hc14; omega
  subst hk2
  refine bE<|aO<|aO<|bF<|ae<|af<|ai<|s1 ((uF aE rfl Tryz.underlying23 aQ rfl).v (v':= .ag ((jB h0 0).map u8++List.replicate (32 - 0) (u8 0))) (by kernel_rfl)) rfl ?_
  refine ak rfl (bt 6 rfl aE rfl rfl ?_)
  refine ak rfl (bo aE rfl rfl rfl (by first|rfl|omega|(simp<;>omega)|(simp [*]<;>omega)|(simp [aL.len, -List.length_flatten, *]<;>omega)) (by first|rfl|omega|(simp<;>omega)|(simp [*]<;>omega)|(simp [aL.len, -List.length_flatten, *]<;>omega)) ?_)
  refine ah<|ae<|af<|af<|ai<|s1 ((aa rfl).v (v':= .i .i64 0) rfl) rfl ?_
  refine ah<|ae<|aM ?_
  refine bH (ι:=Nat) (fun i=> [(2,.p 2 0),(3,.p 3 0),(6,.p 6 0),(7,.i .i64 (i:Nat))]) (fun i=>⟨[(2,some (List.replicate 32 (u8 0))),(3,some ((fg ((pad b).length / 64) h0 (pad b)).l.map aI)),(6,some ((jB (fg ((pad b).length / 64) h0 (pad b)) i).map u8++List.replicate (32 - i) (u8 0)))]⟩) (fun i=>i≤32) (fun i=>32 - i) ?_ ?_
  ·exact bG (0) (Nat.zero_le _) [(2,some 2),(3,some 3),(6,some 6)] hI rfl rfl ⟨⟨_,rfl,.p rfl⟩,⟨_,rfl,.p rfl⟩,⟨_,rfl,.p rfl⟩,⟨_,rfl,.pure pu⟩,trivial⟩ ⟨.inr ⟨_,_,rfl,rfl,.pure ar⟩,.inr ⟨_,_,rfl,rfl,.pure ar⟩,.inr ⟨_,_,rfl,rfl,.pure ar⟩,trivial⟩
  rintro i hi
  refine af<|af<|ai<|s1 (aa rfl) rfl<|s1 (aa rfl) rfl ?_
  refine ah<|ae ?_
  refine aP rfl (fun hc26=>?_) (fun hc26=>?_)
  ·have hi2 : i < 32 := by have := of_decide_eq_true hc26; omega
   refine aK<|ae<|af<|aM<|ai<|s1 (aa rfl) rfl<|s1 (aa rfl) rfl<|s1 (kT i 4 rfl rfl rfl rfl (by decide) (by omega)) rfl<|s1 (bJ (i / 4) Tryz.underlying184 bh rfl rfl rfl (by omega) rfl) rfl<|s1 (au bh rfl rfl (oG (i / 4) (by simp;omega) rfl)) rfl<|s1 (aa rfl) rfl<|s1 (kg i 4 rfl rfl rfl rfl (by decide)) rfl<|s1 (iy 8 (i % 4) rfl rfl rfl rfl (by omega)) rfl<|s1 (dD 24 (8*(i % 4)) rfl rfl rfl rfl (by omega) (by omega)) rfl<|s1 (fF _ (24 - 8*(i % 4)) rfl rfl rfl (by omega)) rfl ?_
   refine s1 (px _ Tryz.underlying183 Tryz.underlying5 rfl) rfl<|s1 (bJ i Tryz.underlying23 aQ rfl rfl rfl (by omega) rfl) rfl ?_
   refine ak rfl (bZ aQ rfl rfl rfl rfl (by simp only [List.length_append,List.length_map,List.length_replicate,len_outS];omega) (DF _ i _ (by omega) rfl) ?_)
   refine ah<|bj<|ae<|ai<|s1 (aa rfl) rfl<|s1 (bg _ 1 rfl rfl rfl rfl (by omega)) rfl<|s1 (aa rfl) rfl ?_
   refine ah ?_
   exact bu (i+1) (by omega) (by omega) [(2,some 2),(3,some 3),(6,some 6)] hI rfl rfl ⟨⟨_,rfl,.p rfl⟩,⟨_,rfl,.p rfl⟩,⟨_,rfl,.p rfl⟩,⟨_,rfl,.pure pu⟩,trivial⟩ ⟨.inr ⟨_,_,rfl,rfl,.pure ar⟩,.inr ⟨_,_,rfl,rfl,.pure ar⟩,.inr ⟨_,_,rfl,rfl,.pure ar⟩,trivial⟩
  ·have hi2 : i = 32 := by have := of_decide_eq_false hc26; omega
   subst hi2
   refine bE<|aO<|aO<|bF<|ae<|af<|ai<|s1 (aZ aE rfl rfl (by first|rfl|omega|(simp<;>omega)|(simp [*]<;>omega)|(simp [aL.len, -List.length_flatten, *]<;>omega))) rfl ?_
   refine ak rfl (bo aE rfl rfl rfl (by first|rfl|omega|(simp<;>omega)|(simp [*]<;>omega)|(simp [aL.len, -List.length_flatten, *]<;>omega)) (by first|rfl|omega|(simp<;>omega)|(simp [*]<;>omega)|(simp [aL.len, -List.length_flatten, *]<;>omega)) ?_)
   refine ah<|ae<|aF ?_
   refine aG (rs:= [.cell 2 23]) rfl (ct aE rfl rfl (List.take_of_length_le (by simp)) (by simp) aC) rfl
end Go.Abs.D2
-- D2F
namespace Go.Abs.D2
open Go Go.Eng Go.Abs Go.Proofs
theorem FN (parts:List (List UInt8)) (hk:parts.length≤1048576) (ht:parts.flatten.length≤140737488300000):cE Tryz.prog 147 [.fn (.func 148) [.p 3 0] [],.fz parts.length (parts.map dz)] ⟨[(3,some (h0.l.map aI))]⟩ (gP (.tu []) [(3,(fin parts.flatten).l.map aI)]):=by
 refine qf Tryz.func147 rfl Tryz.ntmps147 (by kernel_rfl) (Nat.le_of_ble_eq_true rfl) fun w0 X0 hI=>?_
 refine af<|ai ?_
 refine ak rfl (bt 4 rfl Mw rfl rfl ?_)
 refine ah<|ae<|af<|ai<|s1 ((aa rfl).v (v':= .i .i64 0) rfl) rfl<|s1 ((aa rfl).v (v':= .i .u64 0) rfl) rfl ?_
 refine ah<|ae<|af<|af<|ai<|s1 (aa rfl) rfl<|s1 (bx Tryz.underlying182 rfl rfl rfl) rfl<|s1 ((aa rfl).v (v':= .i .i64 0) rfl) rfl ?_
 refine ah<|ae<|aM ?_
 refine bH (ι:=List UInt8×List UInt8×Nat) (fun⟨s,tl,i⟩=> [(0,.fn (.func 148) [.p 3 0] []),(4,.p 4 0),(5,.i .i64 ((s.length % 64):Nat)),(6,aY (a6 s.length)),(11,.fz parts.length (parts.map dz)),(12,.i .i64 (parts.length:Nat)),(13,.i .i64 (i:Nat))]) (fun⟨s,tl,i⟩=>⟨[(3,some ((hs s).l.map aI)),(4,some ((rem s++tl).map u8))]⟩) (fun⟨s,tl,i⟩=>s=(parts.take i).flatten∧i≤parts.length∧tl.length=64 - (s.length % 64)) (fun⟨s,tl,i⟩=>parts.length - i) ?_ ?_
 ·exact bG (([],List.replicate 64 0,0)) (⟨by simp,Nat.zero_le _,by simp⟩) [(3,some 3),(4,some 4)] hI rfl rfl ⟨⟨_,rfl,.fn (.cons (.p rfl) .nil) .nil⟩,⟨_,rfl,.p rfl⟩,⟨_,rfl,.of rfl (.pure pu)⟩,⟨_,rfl,.of rfl (.pure pu)⟩,⟨_,rfl,.pure pu⟩,⟨_,rfl,.pure pu⟩,⟨_,rfl,.pure pu⟩,trivial⟩ ⟨.inr ⟨_,_,rfl,rfl,.of rfl (.pure ar)⟩,.inr ⟨_,_,rfl,rfl,.of Nm (.pure ar)⟩,trivial⟩
 rintro⟨s,tl,i⟩ ⟨hs0,hi,htl⟩
 dsimp only
 have hmod:=Nat.mod_lt s.length (show 0<64 by decide)
 refine af<|ai<|s1 (aa rfl) rfl ?_
 refine ah<|ae<|af ?_
 refine aP rfl (fun hc14=>?_) (fun hc14=>?_)
 ·have hi2 : i < parts.length := by have := of_decide_eq_true hc14; omega
  obtain⟨p,hp⟩:∃p,parts[i]? =some p:=⟨_,List.getElem?_eq_getElem hi2⟩
  have hpl:=I6 (List.mem_of_getElem? hp)
  refine aK<|ae<|af<|aM<|af<|ai<|s1 (aT i Tryz.underlying182 ef rfl rfl rfl (by omega) rfl) rfl<|s1 (au ef rfl rfl (Bl hp)) rfl<|s1 (aa rfl) rfl ?_
  refine ah<|ae<|af<|ai<|s1 (aa rfl) rfl<|s1 (aa rfl) rfl<|s1 (bx Tryz.underlying68 rfl rfl rfl) rfl<|s1 (nu p.length Tryz.underlying3 Tryz.underlying198 rfl rfl) rfl<|s1 (u7 (a6 s.length) (a6 p.length) rfl rfl) rfl<|s1 (aa rfl) rfl ?_
  refine ah<|ae<|aM ?_
  refine bH (ι:=Nat×List UInt8) (fun⟨j,tl2⟩=> [(0,.fn (.func 148) [.p 3 0] []),(4,.p 4 0),(5,.i .i64 (((s++p.take j).length % 64):Nat)),(6,aY (a6 s.length+a6 p.length)),(8,.fz (p.length - j) ((p.drop j).map u8)),(11,.fz parts.length (parts.map dz)),(12,.i .i64 (parts.length:Nat)),(13,.i .i64 (i:Nat))]) (fun⟨j,tl2⟩=>⟨[(3,some ((hs (s++p.take j)).l.map aI)),(4,some ((rem (s++p.take j)++tl2).map u8))]⟩) (fun⟨j,tl2⟩=>j≤p.length∧tl2.length=64 - ((s++p.take j).length % 64)) (fun⟨j,tl2⟩=>p.length - j) ?_ ?_
  ·exact bG ((0,tl)) (⟨Nat.zero_le _,by rw [rP];exact htl⟩) [(3,some 3),(4,some 4)] hI rfl rfl ⟨⟨_,rfl,.fn (.cons (.p rfl) .nil) .nil⟩,⟨_,rfl,.p rfl⟩,⟨_,rfl,.of (by rw [rP]) (.pure pu)⟩,⟨_,rfl,.pure pu⟩,⟨_,rfl,.pure pu⟩,⟨_,rfl,.pure pu⟩,⟨_,rfl,.pure pu⟩,⟨_,rfl,.pure pu⟩,trivial⟩ ⟨.inr ⟨_,_,rfl,rfl,.of (by rw [rP]) (.pure ar)⟩,.inr ⟨_,_,rfl,rfl,.of (by rw [rP]) (.pure ar)⟩,trivial⟩
  rintro⟨j,tl2⟩ ⟨hj,htl2⟩
  dsimp only
  have hSL:(s++p.take j).length=s.length+min j p.length:=by rw [List.length_append,List.length_take]
  have hmod1:=Nat.mod_lt (s++p.take j).length (show 0<64 by decide)
  refine af<|af<|ai<|s1 (aa rfl) rfl<|s1 (bx Tryz.underlying68 rfl rfl rfl) rfl<|s1 (aa rfl) rfl ?_
  refine ah<|ae ?_
  refine aP rfl (fun hc24=>?_) (fun hc24=>?_)
  ·have hj2 : j < p.length := by have := of_decide_eq_true hc24; omega
   have hc1:sI p (s++p.take j) j≤p.length - j:=Nat.min_le_left _ _
   have hc2:sI p (s++p.take j) j≤64 - ((s++p.take j).length % 64):=Nat.min_le_right _ _
   have hc0:0<sI p (s++p.take j) j:=Nat.lt_min.2 ⟨by omega,by omega⟩
   obtain⟨c,hcd⟩:∃c,c=sI p (s++p.take j) j:=⟨_,rfl⟩
   rw [←hcd]at hc0 hc1 hc2
   refine aK<|ae<|aM<|af<|ai<|s1 (aa rfl) rfl<|s1 (rj (o':=((s++p.take j).length % 64)) (64 - ((s++p.take j).length % 64)) Tryz.underlying214 aQ rfl rfl (by simp only [List.length_map,List.length_append,List.length_cons,List.length_nil,List.length_replicate,List.length_drop,List.length_take,dR,eN,len_be64]<;>omega) (by simp [maxLen]) (bs rfl rfl) bn (by omega) (by omega) rfl (by rw [if_neg (by omega)];omega)) rfl<|s1 (aa rfl) rfl ?_
   refine ak rfl (Jx (c) Tryz.underlying68 aQ rfl rfl rfl rfl (by first|rfl|omega|(simp<;>omega)|(simp [*]<;>omega)|(simp [aL.len, -List.length_flatten, *]<;>omega)) hcd hc0 (by simp only [List.length_map,List.length_append,List.length_cons,List.length_nil,List.length_replicate,List.length_drop,List.length_take,dR,eN,len_be64]<;>omega) (FP _ _ _ _ _) rfl ?_)
   refine s1 (aa rfl) rfl ?_
   refine ah<|ae<|af ?_
   refine bU ⟨_, [5], [(0, [5])]⟩ 7 4 bz (le_refl rfl) ?_
   refine aj 0 [] [] (aa rfl) rfl rfl<|aj 1 [] [] (aa rfl) rfl rfl<|aj 2 [0,1] [] (bg _ _ rfl rfl rfl rfl (by omega)) rfl rfl<|aj 3 [] [] (aa rfl) rfl rfl<|aj 4 [] [] (aa rfl) rfl rfl<|aj 5 [3,4] [] ((iW (p.length - (j+c)) Tryz.underlying68 aQ rfl (by simp) (bs rfl rfl) bn (by omega) (by omega) (by omega) rfl).v (congrArg (A.fz _) (GF p j c))) rfl rfl<|aj 6 [2] [] (aa rfl) rfl rfl<|bW (by kernel_rfl) ?_
   refine s1 (aa rfl) rfl ?_
   refine ah<|ae<|af<|ai<|s1 (aa rfl) rfl<|s1 (aa rfl) rfl ?_
   refine ah<|ae ?_
   refine aP rfl (fun hc36=>?_) (fun hc36=>?_)
   ·obtain ⟨r1, r2, r3⟩ := JB (s := s) hc1 htl2 (by have := of_decide_eq_true hc36; omega)
    refine af<|ai<|s1 (aa rfl) rfl<|s1 (gM Tryz.underlying214 aQ rfl rfl (by simp only [List.length_map,List.length_append,List.length_cons,List.length_nil,List.length_replicate,List.length_drop,List.length_take,dR,eN,len_be64]<;>omega) (by simp [maxLen])) rfl ?_
    refine ak rfl (mq ⟨[(3,some ((hs (s++p.take j)).l.map aI))]⟩ [(3,(comp (hs (s++p.take j)) (rem (s++p.take j)++(p.drop j).take c++tl2.drop c)).l.map aI)] true rfl rfl ⟨⟨rfl,a7.pure ar⟩,trivial⟩ (.cons (.kp rfl) (.cons (.sl rfl rfl rfl (cD (by simp only [List.length_map,List.length_append,List.length_cons,List.length_nil,List.length_replicate,List.length_drop,List.length_take,dR,eN,len_be64]<;>omega) rfl) (a7.pure ar) ar) .nil)) (rM _ (rem (s++p.take j)++(p.drop j).take c++tl2.drop c) (by simp only [List.length_map,List.length_append,List.length_cons,List.length_nil,List.length_replicate,List.length_drop,List.length_take,dR,eN,len_be64]<;>omega)) trivial (.inr trivial) (nM (c0:=(hs (s++p.take j)).l.map aI) rfl ar fI) rfl ?_)
    refine ah<|ae<|ai<|s1 ((aa rfl).v (v':= .i .i64 0) rfl) rfl ?_
    refine ah<|bj ?_
    exact bu (x:=(j,tl2)) ((j+c,rem (s++p.take j)++(p.drop j).take c++tl2.drop c)) (⟨by dsimp only;omega,by dsimp only;rw [r3];simp only [List.length_append,dR,List.length_take,List.length_drop];omega⟩) (by dsimp only;omega) [(3,some 3),(4,some 4)] hI rfl rfl ⟨⟨_,rfl,.fn (.cons (.p rfl) .nil) .nil⟩,⟨_,rfl,.p rfl⟩,⟨_,rfl,.of (congrArg (fun k:Nat=>A.i .i64 (k:Int)) r3.symm) (.pure pu)⟩,⟨_,rfl,.pure pu⟩,⟨_,rfl,.pure pu⟩,⟨_,rfl,.pure pu⟩,⟨_,rfl,.pure pu⟩,⟨_,rfl,.pure pu⟩,trivial⟩ ⟨.inr ⟨_,_,rfl,rfl,.of (by rw [r2]) (.pure ar)⟩,.inr ⟨_,_,rfl,rfl,.of (by rw [r1,List.nil_append]) (.pure ar)⟩,trivial⟩
   ·obtain ⟨r1, r2, r3⟩ := JC (s := s) hc1 (by have := of_decide_eq_false hc36; omega)
    refine aK<|bj ?_
    exact bu (x:=(j,tl2)) ((j+c,tl2.drop c)) (⟨by dsimp only;omega,by dsimp only;rw [r3,List.length_drop];omega⟩) (by dsimp only;omega) [(3,some 3),(4,some 4)] hI rfl rfl ⟨⟨_,rfl,.fn (.cons (.p rfl) .nil) .nil⟩,⟨_,rfl,.p rfl⟩,⟨_,rfl,.of (congrArg (fun k:Nat=>A.i .i64 (k:Int)) r3.symm) (.pure pu)⟩,⟨_,rfl,.pure pu⟩,⟨_,rfl,.pure pu⟩,⟨_,rfl,.pure pu⟩,⟨_,rfl,.pure pu⟩,⟨_,rfl,.pure pu⟩,trivial⟩ ⟨.inr ⟨_,_,rfl,rfl,.of (by rw [r2]) (.pure ar)⟩,.inr ⟨_,_,rfl,rfl,.of (by rw [r1]) (.pure ar)⟩,trivial⟩
  ·have hj2 : j = p.length := by have := of_decide_eq_false hc24; omega
   subst hj2
   refine bE<|aO<|aO<|bF<|bj<|ae<|ai<|s1 (bg _ 1 rfl rfl rfl rfl (by omega)) rfl<|s1 (aa rfl) rfl ?_
   refine ah ?_
   exact bu (x:=(s,tl,i)) ((s++p.take p.length,tl2,i+1)) (⟨by rw [hs0];exact FY hp,by dsimp only;omega,htl2⟩) (by dsimp only;omega) [(3,some 3),(4,some 4)] hI rfl rfl ⟨⟨_,rfl,.fn (.cons (.p rfl) .nil) .nil⟩,⟨_,rfl,.p rfl⟩,⟨_,rfl,.pure pu⟩,⟨_,rfl,.of (EZ s p) (.pure pu)⟩,⟨_,rfl,.pure pu⟩,⟨_,rfl,.pure pu⟩,⟨_,rfl,.pure pu⟩,trivial⟩ ⟨.inr ⟨_,_,rfl,rfl,.pure ar⟩,.inr ⟨_,_,rfl,rfl,.pure ar⟩,trivial⟩
 ·have hi2 : i = parts.length := by have := of_decide_eq_false hc14; omega
  subst hi2
  rw [List.take_length]at hs0
  have hsl:s.length≤140737488300000:=by rw [hs0];exact ht
  refine bE<|aO<|aO<|bF<|ae<|af<|ai<|s1 (aa rfl) rfl<|s1 (bJ (s.length % 64) Tryz.underlying214 aQ rfl rfl rfl (by omega) rfl) rfl ?_
  refine ak rfl (bZ aQ rfl rfl rfl rfl (by simp only [List.length_map,List.length_append,List.length_cons,List.length_nil,List.length_replicate,List.length_drop,List.length_take,dR,eN,len_be64]<;>omega) (LJ s tl htl) ?_)
  refine ah<|ae<|af<|ai<|s1 (aa rfl) rfl<|s1 (bg _ 1 rfl rfl rfl rfl (by omega)) rfl<|s1 (rj (64 - ((s.length % 64)+1)) Tryz.underlying214 aQ rfl rfl (by simp only [List.length_map,List.length_append,List.length_cons,List.length_nil,List.length_replicate,List.length_drop,List.length_take,dR,eN,len_be64]<;>omega) (by simp [maxLen]) (bs rfl rfl) bn (by omega) (by omega) rfl rfl) rfl ?_
  refine ak rfl (Cg Tryz.underlying68 aQ rfl rfl rfl (by simp only [List.length_map,List.length_append,List.length_cons,List.length_nil,List.length_replicate,List.length_drop,List.length_take,dR,eN,len_be64];split<;>omega) (HC s tl htl _ rfl) rfl ?_)
  refine ah<|ae<|af<|af<|ai<|s1 (aa rfl) rfl<|s1 (bg _ 1 rfl rfl rfl rfl (by omega)) rfl<|s1 (aa rfl) rfl ?_
  refine ah<|ae ?_
  refine aP rfl (fun hc48=>?_) (fun hc48=>?_)
  ·have hfar : s.length % 64 + 1 > 56 := by have := of_decide_eq_true hc48; omega
   refine af<|ai<|s1 (aa rfl) rfl<|s1 (gM Tryz.underlying214 aQ rfl rfl (by simp only [List.length_map,List.length_append,List.length_cons,List.length_nil,List.length_replicate,List.length_drop,List.length_take,dR,eN,len_be64]<;>omega) (by simp [maxLen])) rfl ?_
   refine ak rfl (mq ⟨[(3,some ((hs s).l.map aI))]⟩ [(3,(comp (hs s) (rem s++ [128]++List.replicate (63 - s.length % 64) 0)).l.map aI)] true rfl rfl ⟨⟨rfl,a7.pure ar⟩,trivial⟩ (.cons (.kp rfl) (.cons (.sl rfl rfl rfl (cD (by simp only [List.length_map,List.length_append,List.length_cons,List.length_nil,List.length_replicate,List.length_drop,List.length_take,dR,eN,len_be64]<;>omega) rfl) (a7.pure ar) ar) .nil)) (rM _ (rem s++ [128]++List.replicate (63 - s.length % 64) 0) (by simp only [List.length_map,List.length_append,List.length_cons,List.length_nil,List.length_replicate,List.length_drop,List.length_take,dR,eN,len_be64]<;>omega)) trivial (.inr trivial) (nM (c0:=(hs s).l.map aI) rfl ar fI) rfl ?_)
   refine ah<|ae<|ai<|s1 (gM Tryz.underlying214 aQ rfl rfl (by simp only [List.length_map,List.length_append,List.length_cons,List.length_nil,List.length_replicate,List.length_drop,List.length_take,dR,eN,len_be64]<;>omega) (by simp [maxLen])) rfl ?_
   refine ak rfl (Cg Tryz.underlying68 aQ rfl rfl rfl (by simp only [List.length_map,List.length_append,List.length_cons,List.length_nil,List.length_replicate,List.length_drop,List.length_take,dR,eN,len_be64]<;>omega) (Gl (by simp only [List.length_map,List.length_append,List.length_cons,List.length_nil,List.length_replicate,List.length_drop,List.length_take,dR,eN,len_be64]<;>omega)) rfl ?_)
   refine ah<|ae<|af<|af ?_
   refine cV 4 rfl (IE hfar) ?_
   refine cV 3 rfl (cs':=(gY s).l.map aI) (by rw [gY,if_pos hfar]) ?_
   refine ai<|s1 ((aa rfl).v (v':= .i .i64 0) rfl) rfl ?_
   refine ah<|ae<|aM ?_
   refine bH (ι:=Nat) (fun i=> [(0,.fn (.func 148) [.p 3 0] []),(4,.p 4 0),(6,aY (a6 s.length)),(53,.i .i64 (i:Nat))]) (fun i=>⟨[(3,some ((gY s).l.map aI)),(4,some ((fJ s++List.replicate (8 - i) 0++(eC (8*s.length)).drop (8 - i)).map u8))]⟩) (fun i=>i≤8) (fun i=>8 - i) ?_ ?_
   ·exact bG (0) (Nat.zero_le _) [(3,some 3),(4,some 4)] hI rfl rfl ⟨⟨_,rfl,.fn (.cons (.p rfl) .nil) .nil⟩,⟨_,rfl,.p rfl⟩,⟨_,rfl,.pure pu⟩,⟨_,rfl,.pure pu⟩,trivial⟩ ⟨.inr ⟨_,_,rfl,rfl,.pure ar⟩,.inr ⟨_,_,rfl,rfl,.pure ar⟩,trivial⟩
   rintro i hi
   refine af<|ai<|s1 (aa rfl) rfl ?_
   refine ah<|ae<|af ?_
   refine aP rfl (fun hc54=>?_) (fun hc54=>?_)
   ·have hi8 : i < 8 := by have := of_decide_eq_true hc54; omega
    refine aK<|ae<|af<|aM<|af<|ai<|s1 (aa rfl) rfl<|s1 (aa rfl) rfl ?_
    refine ah<|ae<|ai<|s1 (aa rfl) rfl<|s1 (dD 63 i rfl rfl rfl rfl (by omega) (by omega)) rfl<|s1 (aa rfl) rfl<|s1 ((qA _ (a6 8) rfl rfl).v (v':=aY (a6 (8*s.length))) (congrArg aY (by rw [←BitVec.ofNat_mul,Nat.mul_comm]))) rfl<|s1 (aa rfl) rfl<|s1 (iy 8 i rfl rfl rfl rfl (by omega)) rfl<|s1 (ku _ (8*i) rfl rfl rfl (by omega)) rfl<|s1 ((ie _ Tryz.underlying198 Tryz.underlying5 rfl).v (v':=u8 (UInt8.ofNat (8*s.length / 2 ^ (8*i)))) (congrArg u8 (vm _ _ (by omega)))) rfl<|s1 (bJ (63 - i) Tryz.underlying214 aQ rfl rfl rfl (by omega) rfl) rfl ?_
    refine ak rfl (bZ aQ rfl rfl rfl rfl (by simp only [List.length_map,List.length_append,List.length_cons,List.length_nil,List.length_replicate,List.length_drop,List.length_take,dR,eN,len_be64]<;>omega) (DE s i _ (by omega) rfl) ?_)
    refine ah<|bj<|ae<|ai<|s1 (bg _ 1 rfl rfl rfl rfl (by omega)) rfl<|s1 (aa rfl) rfl ?_
    refine ah ?_
    exact bu (i+1) (by omega) (by omega) [(3,some 3),(4,some 4)] hI rfl rfl ⟨⟨_,rfl,.fn (.cons (.p rfl) .nil) .nil⟩,⟨_,rfl,.p rfl⟩,⟨_,rfl,.pure pu⟩,⟨_,rfl,.pure pu⟩,trivial⟩ ⟨.inr ⟨_,_,rfl,rfl,.pure ar⟩,.inr ⟨_,_,rfl,rfl,.pure ar⟩,trivial⟩
   ·have hi8 : i = 8 := by have := of_decide_eq_false hc54; omega
    subst hi8
    refine bE<|aO<|aO<|bF<|ae<|ai<|s1 (aa rfl) rfl<|s1 (gM Tryz.underlying214 aQ rfl rfl (by simp only [List.length_map,List.length_append,List.length_cons,List.length_nil,List.length_replicate,List.length_drop,List.length_take,dR,eN,len_be64]<;>omega) (by simp [maxLen])) rfl ?_
    refine ak rfl (mq ⟨[(3,some ((gY s).l.map aI))]⟩ [(3,(comp (gY s) (fJ s++eC (8*s.length))).l.map aI)] true rfl rfl ⟨⟨rfl,a7.pure ar⟩,trivial⟩ (.cons (.kp rfl) (.cons (.sl rfl rfl rfl (cD (by simp only [List.length_map,List.length_append,List.length_cons,List.length_nil,List.length_replicate,List.length_drop,List.length_take,dR,eN,len_be64]<;>omega) (by simp)) (a7.pure ar) ar) .nil)) (rM _ (fJ s++eC (8*s.length)) (by simp only [List.length_map,List.length_append,List.length_cons,List.length_nil,List.length_replicate,List.length_drop,List.length_take,dR,eN,len_be64]<;>omega)) trivial (.inr trivial) (nM (c0:=(gY s).l.map aI) rfl ar fI) rfl ?_)
    refine ah ?_
    refine lq (rs:= []) rfl aC (nD (c:=(fin parts.flatten).l.map aI) ?_)
    exact congrArg (fun q:S8=>some (q.l.map aI)) ((A2 s).trans (by rw [hs0]))
  ·have hfar : ¬ s.length % 64 + 1 > 56 := by have := of_decide_eq_false hc48; omega
   refine aK<|ae<|af<|af ?_
   refine cV 4 rfl (IF hfar) ?_
   refine cV 3 rfl (cs':=(gY s).l.map aI) (by rw [gY,if_neg hfar]) ?_
   refine ai<|s1 ((aa rfl).v (v':= .i .i64 0) rfl) rfl ?_
   refine ah<|ae<|aM ?_
   refine bH (ι:=Nat) (fun i=> [(0,.fn (.func 148) [.p 3 0] []),(4,.p 4 0),(6,aY (a6 s.length)),(53,.i .i64 (i:Nat))]) (fun i=>⟨[(3,some ((gY s).l.map aI)),(4,some ((fJ s++List.replicate (8 - i) 0++(eC (8*s.length)).drop (8 - i)).map u8))]⟩) (fun i=>i≤8) (fun i=>8 - i) ?_ ?_
   ·exact bG (0) (Nat.zero_le _) [(3,some 3),(4,some 4)] hI rfl rfl ⟨⟨_,rfl,.fn (.cons (.p rfl) .nil) .nil⟩,⟨_,rfl,.p rfl⟩,⟨_,rfl,.pure pu⟩,⟨_,rfl,.pure pu⟩,trivial⟩ ⟨.inr ⟨_,_,rfl,rfl,.pure ar⟩,.inr ⟨_,_,rfl,rfl,.pure ar⟩,trivial⟩
   rintro i hi
   refine af<|ai<|s1 (aa rfl) rfl ?_
   refine ah<|ae<|af ?_
   refine aP rfl (fun hc54=>?_) (fun hc54=>?_)
   ·have hi8 : i < 8 := by have := of_decide_eq_true hc54; omega
    refine aK<|ae<|af<|aM<|af<|ai<|s1 (aa rfl) rfl<|s1 (aa rfl) rfl ?_
    refine ah<|ae<|ai<|s1 (aa rfl) rfl<|s1 (dD 63 i rfl rfl rfl rfl (by omega) (by omega)) rfl<|s1 (aa rfl) rfl<|s1 ((qA _ (a6 8) rfl rfl).v (v':=aY (a6 (8*s.length))) (congrArg aY (by rw [←BitVec.ofNat_mul,Nat.mul_comm]))) rfl<|s1 (aa rfl) rfl<|s1 (iy 8 i rfl rfl rfl rfl (by omega)) rfl<|s1 (ku _ (8*i) rfl rfl rfl (by omega)) rfl<|s1 ((ie _ Tryz.underlying198 Tryz.underlying5 rfl).v (v':=u8 (UInt8.ofNat (8*s.length / 2 ^ (8*i)))) (congrArg u8 (vm _ _ (by omega)))) rfl<|s1 (bJ (63 - i) Tryz.underlying214 aQ rfl rfl rfl (by omega) rfl) rfl ?_
    refine ak rfl (bZ aQ rfl rfl rfl rfl (by simp only [List.length_map,List.length_append,List.length_cons,List.length_nil,List.length_replicate,List.length_drop,List.length_take,dR,eN,len_be64]<;>omega) (DE s i _ (by omega) rfl) ?_)
    refine ah<|bj<|ae<|ai<|s1 (bg _ 1 rfl rfl rfl rfl (by omega)) rfl<|s1 (aa rfl) rfl ?_
    refine ah ?_
    exact bu (i+1) (by omega) (by omega) [(3,some 3),(4,some 4)] hI rfl rfl ⟨⟨_,rfl,.fn (.cons (.p rfl) .nil) .nil⟩,⟨_,rfl,.p rfl⟩,⟨_,rfl,.pure pu⟩,⟨_,rfl,.pure pu⟩,trivial⟩ ⟨.inr ⟨_,_,rfl,rfl,.pure ar⟩,.inr ⟨_,_,rfl,rfl,.pure ar⟩,trivial⟩
   ·have hi8 : i = 8 := by have := of_decide_eq_false hc54; omega
    subst hi8
    refine bE<|aO<|aO<|bF<|ae<|ai<|s1 (aa rfl) rfl<|s1 (gM Tryz.underlying214 aQ rfl rfl (by simp only [List.length_map,List.length_append,List.length_cons,List.length_nil,List.length_replicate,List.length_drop,List.length_take,dR,eN,len_be64]<;>omega) (by simp [maxLen])) rfl ?_
    refine ak rfl (mq ⟨[(3,some ((gY s).l.map aI))]⟩ [(3,(comp (gY s) (fJ s++eC (8*s.length))).l.map aI)] true rfl rfl ⟨⟨rfl,a7.pure ar⟩,trivial⟩ (.cons (.kp rfl) (.cons (.sl rfl rfl rfl (cD (by simp only [List.length_map,List.length_append,List.length_cons,List.length_nil,List.length_replicate,List.length_drop,List.length_take,dR,eN,len_be64]<;>omega) (by simp)) (a7.pure ar) ar) .nil)) (rM _ (fJ s++eC (8*s.length)) (by simp only [List.length_map,List.length_append,List.length_cons,List.length_nil,List.length_replicate,List.length_drop,List.length_take,dR,eN,len_be64]<;>omega)) trivial (.inr trivial) (nM (c0:=(gY s).l.map aI) rfl ar fI) rfl ?_)
    refine ah ?_
    refine lq (rs:= []) rfl aC (nD (c:=(fin parts.flatten).l.map aI) ?_)
    exact congrArg (fun q:S8=>some (q.l.map aI)) ((A2 s).trans (by rw [hs0]))
end Go.Abs.D2
-- D2G
namespace Go.Abs.D2
open Go Go.Eng Go.Abs Go.Proofs
theorem Bu (parts:List (List UInt8)) (hk:parts.length≤1048576) (ht:parts.flatten.length≤140737488300000):aB Tryz.prog 97 [.fz parts.length (parts.map dz)] (aU (.ag ((k5 parts.flatten).map u8))):=by
 refine enter Tryz.func97 rfl Tryz.ntmps97 (by kernel_rfl) (Nat.le_of_ble_eq_true rfl) fun w0 X0 hI=>?_
 refine af<|ai ?_
 refine ak rfl (bt 2 rfl aE rfl rfl ?_)
 refine ah<|ae<|af<|ai<|s1 ((ri (vs:= [_,_,_,_,_,_,_,_]) mH rfl Tryz.underlying185 bh rfl rfl rfl rfl).v (v':= .ag (h0.l.map aI)) (by kernel_rfl)) rfl ?_
 refine ak rfl (bt 3 rfl mH rfl rfl ?_)
 refine ak rfl (bo mH rfl rfl rfl (by first|rfl|omega|(simp<;>omega)|(simp [*]<;>omega)|(simp [aL.len, -List.length_flatten, *]<;>omega)) (by first|rfl|omega|(simp<;>omega)|(simp [*]<;>omega)|(simp [aL.len, -List.length_flatten, *]<;>omega)) ?_)
 refine ah<|ae<|af<|ai<|s1 (gx (us:= [.p 3 0]) (vs:= []) rfl rfl) rfl<|s1 (aa rfl) rfl ?_
 refine ak rfl (oN ⟨[(3,some (h0.l.map aI))]⟩ [(3,(fin parts.flatten).l.map aI)] false rfl ⟨⟨rfl,a7.pure ar⟩,trivial⟩ (.cons (.fn (.cons (.kp rfl) .nil) .nil) (.cons (.pure pu) .nil)) (FN parts hk ht) trivial (.inl rfl) (nM (c0:=h0.l.map aI) rfl ar fI) rfl ?_)
 refine ah<|ae<|af<|af<|ai<|s1 ((aa rfl).v (v':= .i .i64 0) rfl) rfl ?_
 refine ah<|ae<|aM ?_
 refine bH (ι:=Nat) (fun i=> [(2,.p 2 0),(3,.p 3 0),(9,.i .i64 (i:Nat))]) (fun i=>⟨[(2,some ((jB (fin parts.flatten) i).map u8++List.replicate (32 - i) (u8 0))),(3,some ((fin parts.flatten).l.map aI))]⟩) (fun i=>i≤32) (fun i=>32 - i) ?_ ?_
 ·exact bG (0) (Nat.zero_le _) [(2,some 2),(3,some 3)] hI rfl rfl ⟨⟨_,rfl,.p rfl⟩,⟨_,rfl,.p rfl⟩,⟨_,rfl,.pure pu⟩,trivial⟩ ⟨.inr ⟨_,_,rfl,rfl,.pure ar⟩,.inr ⟨_,_,rfl,rfl,.pure ar⟩,trivial⟩
 rintro i hi
 refine af<|ai<|s1 (aa rfl) rfl ?_
 refine ah<|ae<|af ?_
 refine aP rfl (fun hc10=>?_) (fun hc10=>?_)
 ·have hi2 : i < 32 := by have := of_decide_eq_true hc10; omega
  refine aK<|ae<|af<|aM<|af<|ai<|s1 (aa rfl) rfl<|s1 (aa rfl) rfl ?_
  refine ah<|ae<|ai<|s1 (aa rfl) rfl<|s1 (aa rfl) rfl<|s1 (kT i 4 rfl rfl rfl rfl (by decide) (by omega)) rfl<|s1 (bJ (i / 4) Tryz.underlying185 bh rfl rfl rfl (by omega) rfl) rfl<|s1 (au bh rfl rfl (oG (i / 4) (by simp;omega) rfl)) rfl<|s1 (aa rfl) rfl<|s1 (kg i 4 rfl rfl rfl rfl (by decide)) rfl<|s1 (iy 8 (i % 4) rfl rfl rfl rfl (by omega)) rfl<|s1 (dD 24 (8*(i % 4)) rfl rfl rfl rfl (by omega) (by omega)) rfl<|s1 (fF _ (24 - 8*(i % 4)) rfl rfl rfl (by omega)) rfl ?_
  refine s1 (px _ Tryz.underlying183 Tryz.underlying5 rfl) rfl<|s1 (bJ i Tryz.underlying23 aQ rfl rfl rfl (by omega) rfl) rfl ?_
  refine ak rfl (bZ aQ rfl rfl rfl rfl (by simp only [List.length_append,List.length_map,List.length_replicate,len_outS];omega) (DF _ i _ (by omega) rfl) ?_)
  refine ah<|bj<|ae<|ai<|s1 (bg _ 1 rfl rfl rfl rfl (by omega)) rfl<|s1 (aa rfl) rfl ?_
  refine ah ?_
  exact bu (i+1) (by omega) (by omega) [(2,some 2),(3,some 3)] hI rfl rfl ⟨⟨_,rfl,.p rfl⟩,⟨_,rfl,.p rfl⟩,⟨_,rfl,.pure pu⟩,trivial⟩ ⟨.inr ⟨_,_,rfl,rfl,.pure ar⟩,.inr ⟨_,_,rfl,rfl,.pure ar⟩,trivial⟩
 ·have hi2 : i = 32 := by have := of_decide_eq_false hc10; omega
  subst hi2
  refine bE<|aO<|aO<|bF<|ae<|af ?_
  refine cV 2 rfl (cs':=(k5 parts.flatten).map u8) (by simp [k5,fin]) ?_
  refine ai<|s1 (aZ aE rfl rfl (by first|rfl|omega|(simp<;>omega)|(simp [*]<;>omega)|(simp [aL.len, -List.length_flatten, *]<;>omega))) rfl ?_
  refine ak rfl (bo aE rfl rfl rfl (by first|rfl|omega|(simp<;>omega)|(simp [*]<;>omega)|(simp [aL.len, -List.length_flatten, *]<;>omega)) (by first|rfl|omega|(simp<;>omega)|(simp [*]<;>omega)|(simp [aL.len, -List.length_flatten, *]<;>omega)) ?_)
  refine ah<|ae<|aF ?_
  refine aG (rs:= [.cell 2 23]) rfl (ct aE rfl rfl (List.take_of_length_le (by simp)) (by simp) aC) rfl
theorem ia (t b:List UInt8) (hb:b.length≤140737488000000) (hl:t.length≤140737488000000):aB Tryz.prog 50 [.s t,.fz b.length (b.map u8)] (aU (.ag ((tagged t b).map u8))):=by
 refine enter Tryz.func50 rfl Tryz.ntmps50 (by kernel_rfl) (Nat.le_of_ble_eq_true rfl) fun w0 X0 hI=>?_
 refine af<|ai ?_
 refine ak rfl (bt 4 rfl aE rfl rfl ?_)
 refine ah<|ae<|af<|ai<|s1 (aa rfl) rfl ?_
 refine ak rfl (Cj Tryz.underlying9 Tryz.underlying68 Tryz.underlying5 rfl (by first|omega|(simp only [maxLen];omega)|(simp [maxLen];done)|(simp [maxLen];omega)|(simp [maxLen, *];omega)) rfl ?_)
 refine ak rfl (dZ 8 rfl Tryz.underlying182 ef rfl rfl rfl rfl rfl ?_)
 refine ak rfl (aJ true rfl (.cons (.sl rfl rfl (by first|rfl|omega|(simp<;>omega)|(simp [*]<;>omega)|(simp [aL.len, -List.length_flatten, *]<;>omega)) (cD (by first|rfl|omega|(simp<;>omega)|(simp [*]<;>omega)|(simp [aL.len, -List.length_flatten, *]<;>omega)) (by first|rfl|(simp;done)|(simp [*];done))) (a7.pure ar) ar) (.nil)) (by simpa using Bu [t] (by simp) (by simp;omega)) pu (.inr fu) rfl ?_)
 refine ak rfl (bt 5 rfl aE rfl rfl ?_)
 refine ak rfl (bo aE rfl rfl rfl (by first|rfl|omega|(simp<;>omega)|(simp [*]<;>omega)|(simp [aL.len, -List.length_flatten, *]<;>omega)) (by first|rfl|omega|(simp<;>omega)|(simp [*]<;>omega)|(simp [aL.len, -List.length_flatten, *]<;>omega)) ?_)
 refine ah<|ae<|af<|ai<|s1 (gM Tryz.underlying23 aQ rfl rfl (by first|rfl|omega|(simp<;>omega)|(simp [*]<;>omega)|(simp [aL.len, -List.length_flatten, *]<;>omega)) (by simp [maxLen])) rfl<|s1 (aa rfl) rfl ?_
 refine ak rfl (dZ 12 rfl Tryz.underlying182 ef rfl rfl rfl rfl rfl ?_)
 refine ak rfl (aJ true rfl (.cons (.sl rfl rfl rfl rfl (.cons (.sl rfl rfl rfl (cD (by simp) rfl) (a7.pure ar) ar) (.cons (.pure pu) .nil)) ar) .nil) (by simpa [dz]using Bu [k5 t,b] (by simp) (by simp;omega)) pu (.inr fu) rfl ?_)
 refine ak rfl (bo aE rfl rfl rfl (by first|rfl|omega|(simp<;>omega)|(simp [*]<;>omega)|(simp [aL.len, -List.length_flatten, *]<;>omega)) (by first|rfl|omega|(simp<;>omega)|(simp [*]<;>omega)|(simp [aL.len, -List.length_flatten, *]<;>omega)) ?_)
 refine ah<|ae<|aF ?_
 refine aG (rs:= [.cell 4 23]) rfl (ct aE rfl rfl (List.take_of_length_le (by simp)) (by simp) aC) rfl
theorem Lp (t b:List UInt8) (hb:b.length≤140737488000000) (hl:t.length≤140737488000000):aB Tryz.prog 71 [.s t,.fz b.length (b.map u8)] (aU (.ag ((tagged t b).map u8))):=by
 refine enter Tryz.func71 rfl Tryz.ntmps71 (by kernel_rfl) (Nat.le_of_ble_eq_true rfl) fun w0 X0 hI=>?_
 refine af<|ai ?_
 refine ak rfl (bt 4 rfl aE rfl rfl ?_)
 refine ah<|ae<|af<|ai<|s1 (aa rfl) rfl ?_
 refine ak rfl (Cj Tryz.underlying9 Tryz.underlying68 Tryz.underlying5 rfl (by first|omega|(simp only [maxLen];omega)|(simp [maxLen];done)|(simp [maxLen];omega)|(simp [maxLen, *];omega)) rfl ?_)
 refine ak rfl (aJ false rfl (.cons (.pure pu) (.nil)) (Dm t (by omega)) pu (.inl rfl) rfl ?_)
 refine ak rfl (bt 5 rfl aE rfl rfl ?_)
 refine ak rfl (bo aE rfl rfl rfl (by first|rfl|omega|(simp<;>omega)|(simp [*]<;>omega)|(simp [aL.len, -List.length_flatten, *]<;>omega)) (by first|rfl|omega|(simp<;>omega)|(simp [*]<;>omega)|(simp [aL.len, -List.length_flatten, *]<;>omega)) ?_)
 refine ah<|ae<|af<|ai ?_
 refine ak rfl (dZ 9 rfl Tryz.underlying68 aQ rfl rfl rfl rfl rfl ?_)
 refine s1 (gM Tryz.underlying23 aQ rfl rfl (by first|rfl|omega|(simp<;>omega)|(simp [*]<;>omega)|(simp [aL.len, -List.length_flatten, *]<;>omega)) (by simp [maxLen])) rfl ?_
 refine ak rfl (cY 11 rfl Tryz.underlying68 aQ rfl (.sl rfl (by first|rfl|omega|(simp<;>omega)|(simp [*]<;>omega)|(simp [aL.len, -List.length_flatten, *]<;>omega))) rfl (cO rfl (by first|rfl|omega|(simp<;>omega)|(simp [*]<;>omega)|(simp [aL.len, -List.length_flatten, *]<;>omega))) (by first|rfl|omega|(simp<;>omega)|(simp [*]<;>omega)|(simp [aL.len, -List.length_flatten, *]<;>omega)) (by first|omega|(simp only [maxLen];omega)|(simp [maxLen];done)|(simp [maxLen];omega)|(simp [maxLen, *];omega)) (by first|omega|(simp only [maxLen];omega)|(simp [maxLen];done)|(simp [maxLen];omega)|(simp [maxLen, *];omega)) rfl rfl rfl ?_)
 refine s1 (aa rfl) rfl ?_
 refine ak rfl (cY 13 rfl Tryz.underlying68 aQ rfl (.sl rfl (by first|rfl|omega|(simp<;>omega)|(simp [*]<;>omega)|(simp [aL.len, -List.length_flatten, *]<;>omega))) rfl rfl (by first|rfl|omega|(simp<;>omega)|(simp [*]<;>omega)|(simp [aL.len, -List.length_flatten, *]<;>omega)) (by first|omega|(simp only [maxLen];omega)|(simp [maxLen];done)|(simp [maxLen];omega)|(simp [maxLen, *];omega)) (by first|omega|(simp only [maxLen];omega)|(simp [maxLen];done)|(simp [maxLen];omega)|(simp [maxLen, *];omega)) rfl rfl rfl ?_)
 refine ak rfl (aJ true rfl (.cons (.sl rfl rfl (by first|rfl|omega|(simp<;>omega)|(simp [*]<;>omega)|(simp [aL.len, -List.length_flatten, *]<;>omega)) (cD (by first|rfl|omega|(simp<;>omega)|(simp [*]<;>omega)|(simp [aL.len, -List.length_flatten, *]<;>omega)) (by first|rfl|(simp;done)|(simp [*];done))) (a7.pure ar) ar) (.nil)) (by simpa [tagged]using Dm (k5 t++b) (by simp;omega)) pu (.inr fu) rfl ?_)
 refine ak rfl (bo aE rfl rfl rfl (by first|rfl|omega|(simp<;>omega)|(simp [*]<;>omega)|(simp [aL.len, -List.length_flatten, *]<;>omega)) (by first|rfl|omega|(simp<;>omega)|(simp [*]<;>omega)|(simp [aL.len, -List.length_flatten, *]<;>omega)) ?_)
 refine ah<|ae<|aF ?_
 refine aG (rs:= [.cell 4 23]) rfl (ct aE rfl rfl (List.take_of_length_le (by simp)) (by simp) aC) rfl
end Go.Abs.D2
-- F3B
namespace Go.Abs.D2
open Go Go.Eng Go.Abs Go.Proofs
theorem HK (ps:List Part) (hk:ps.length≤1000) (hok:∀p∈ps,p.ok):aB Tryz.prog 208 [.fz ps.length (ps.map (Part.a 23 5 183))] (dh 1 (il ps).length ((il ps).map u8)):=by
 refine enter Tryz.func208 rfl Tryz.ntmps208 (by kernel_rfl) (Nat.le_of_ble_eq_true rfl) fun w0 X0 hI=>?_
 refine af<|ai<|s1 (aa rfl) rfl ?_
 refine ah<|ae<|af<|af<|ai<|s1 (aa rfl) rfl<|s1 (bx Tryz.underlying237 rfl rfl rfl) rfl<|s1 ((aa rfl).v (v':= .i .i64 0) rfl) rfl ?_
 refine ah<|ae<|aM ?_
 refine bH (ι:=Nat) (fun i=> [(2,.sl 2 1 0 (il (ps.take i)).length),(8,.fz ps.length (ps.map (Part.a 23 5 183))),(9,.i .i64 (ps.length:Nat)),(10,.i .i64 (i:Nat))]) (fun i=>⟨[(2,some ((il (ps.take i)).map u8))]⟩) (fun i=>i≤ps.length) (fun i=>ps.length - i) ?_ ?_
 ·exact bG (0) (Nat.zero_le _) [(2,none)] hI rfl rfl ⟨⟨_,rfl,.nl rfl⟩,⟨_,rfl,.pure pu⟩,⟨_,rfl,.pure pu⟩,⟨_,rfl,.pure pu⟩,trivial⟩ ⟨.inl ⟨rfl,rfl⟩,trivial⟩
 rintro i hi
 have hbl:=BO (ps:=ps.take i) fun q hq=>hok q (List.mem_of_mem_take hq)
 rw [List.length_take]at hbl
 refine af<|ai<|s1 (aa rfl) rfl ?_
 refine ah<|ae<|af ?_
 refine aP rfl (fun hc11=>?_) (fun hc11=>?_)
 ·have h11 : i < ps.length := by have := of_decide_eq_true hc11; omega
  obtain⟨p,hp⟩:∃p,ps[i]? =some p:=⟨_,List.getElem?_eq_getElem h11⟩
  have hpok:=hok p (List.mem_of_getElem? hp)
  refine aK<|ae<|af<|aM<|af<|ai<|s1 (aT i Tryz.underlying237 ya rfl rfl rfl (by omega) rfl) rfl<|s1 (au ya rfl rfl (H6 hp)) rfl<|s1 (aa rfl) rfl ?_
  refine ah<|ae<|af ?_
  rcases p with hcs|hcs|hcs
  ·have hl32 : hcs.length = 32 := hpok
   have hnl:=congrArg List.length (r7 hp)
   simp only [List.length_append,Part.bs,gR,List.length_cons,List.length_nil]at hnl
   refine ai<|s1 (aa rfl) rfl ?_
   refine ah<|ae<|aM<|af<|ai<|s1 (uL Tryz.underlying23 rfl rfl) rfl<|s1 (aa rfl) rfl<|s1 (aa rfl) rfl ?_
   refine ah<|ae ?_
   refine bT rfl ?_
   refine af<|ai ?_
   refine ak rfl (bt 5 rfl aE rfl rfl ?_)
   refine ak rfl (bo aE rfl rfl rfl (by simp [hl32]) (by simp) ?_)
   refine ah<|ae<|ai<|s1 (aa rfl) rfl<|s1 (gM Tryz.underlying23 aQ rfl rfl (by first|rfl|omega|(simp<;>omega)|(simp [*]<;>omega)) (by simp [maxLen])) rfl ?_
   refine ak rfl (cY 20 rfl Tryz.underlying68 aQ rfl (.sl rfl (by rw [List.length_map,Nat.mul_one])) rfl (cO rfl (by first|rfl|omega|(simp<;>omega)|(simp [*]<;>omega))) (by simp [hl32]) (by simp only [maxLen];omega) (by omega) rfl rfl rfl ?_)
   refine s1 (aa rfl) rfl ?_
   refine ah<|bj<|bj<|ae<|ai<|s1 (bg _ 1 rfl rfl rfl rfl (by omega)) rfl<|s1 (aa rfl) rfl ?_
   refine ah ?_
   exact bu (i+1) (by omega) (by omega) [(2,some 20)] hI rfl rfl ⟨⟨_,rfl,.sl rfl (by first|rfl|omega|(simp<;>omega)|(simp [*]<;>omega))⟩,⟨_,rfl,.pure pu⟩,⟨_,rfl,.pure pu⟩,⟨_,rfl,.pure pu⟩,trivial⟩ ⟨.inr ⟨_,_,rfl,rfl,.of (vz hp rfl) (.pure ar)⟩,trivial⟩
  ·have hnl := congrArg List.length (r7 hp)
   simp only [List.length_append,Part.bs,gR,List.length_cons,List.length_nil]at hnl
   refine ai<|s1 (aa rfl) rfl ?_
   refine ah<|ae<|aM<|af<|ai<|s1 (yp (z:= .agg (List.replicate 32 (.int .u8 0):List Value).toArray) Tryz.underlying23 rfl (by kernel_rfl) rfl rfl) rfl<|s1 (aa rfl) rfl<|s1 (aa rfl) rfl ?_
   refine ah<|ae ?_
   refine cK rfl ?_
   refine af<|ai<|s1 (uL Tryz.underlying5 rfl rfl) rfl<|s1 (aa rfl) rfl<|s1 (aa rfl) rfl ?_
   refine ah<|ae ?_
   refine bT rfl ?_
   refine af<|ai<|s1 (aa rfl) rfl ?_
   refine ah<|ae<|ai<|s1 (aa rfl) rfl<|s1 (aa rfl) rfl ?_
   refine ak rfl (dZ 26 rfl Tryz.underlying68 aQ rfl rfl rfl rfl rfl ?_)
   refine ak rfl (cY 27 rfl Tryz.underlying68 aQ rfl (.sl rfl (by rw [List.length_map,Nat.mul_one])) rfl (cO rfl (by first|rfl|omega|(simp<;>omega)|(simp [*]<;>omega))) (by first|rfl|omega|(simp<;>omega)|(simp [*]<;>omega)) (by simp only [maxLen];omega) (by omega) rfl rfl rfl ?_)
   refine s1 (aa rfl) rfl ?_
   refine ah<|bj<|bj<|ae<|ai<|s1 (bg _ 1 rfl rfl rfl rfl (by omega)) rfl<|s1 (aa rfl) rfl ?_
   refine ah ?_
   exact bu (i+1) (by omega) (by omega) [(2,some 27)] hI rfl rfl ⟨⟨_,rfl,.sl rfl (by first|rfl|omega|(simp<;>omega)|(simp [*]<;>omega))⟩,⟨_,rfl,.pure pu⟩,⟨_,rfl,.pure pu⟩,⟨_,rfl,.pure pu⟩,trivial⟩ ⟨.inr ⟨_,_,rfl,rfl,.of (vz hp rfl) (.pure ar)⟩,trivial⟩
  ·have hnl := congrArg List.length (r7 hp)
   simp only [List.length_append,Part.bs,gR,List.length_cons,List.length_nil]at hnl
   refine ai<|s1 (aa rfl) rfl ?_
   refine ah<|ae<|aM<|af<|ai<|s1 (yp (z:= .agg (List.replicate 32 (.int .u8 0):List Value).toArray) Tryz.underlying23 rfl (by kernel_rfl) rfl rfl) rfl<|s1 (aa rfl) rfl<|s1 (aa rfl) rfl ?_
   refine ah<|ae ?_
   refine cK rfl ?_
   refine af<|ai<|s1 (yp (z:= .int .u8 0) Tryz.underlying5 rfl (by kernel_rfl) rfl rfl) rfl<|s1 (aa rfl) rfl<|s1 (aa rfl) rfl ?_
   refine ah<|ae ?_
   refine cK rfl ?_
   refine af<|ai<|s1 (uL Tryz.underlying183 rfl rfl) rfl<|s1 (aa rfl) rfl<|s1 (aa rfl) rfl ?_
   refine ah<|ae ?_
   refine bT rfl ?_
   refine af<|ai<|s1 (aa rfl) rfl ?_
   refine ah<|ae<|ai<|s1 (aa rfl) rfl<|s1 (aa rfl) rfl<|s1 (fF _ 24 rfl rfl rfl (by decide)) rfl<|s1 (px _ Tryz.underlying183 Tryz.underlying5 rfl) rfl<|s1 (aa rfl) rfl<|s1 (fF _ 16 rfl rfl rfl (by decide)) rfl<|s1 (px _ Tryz.underlying183 Tryz.underlying5 rfl) rfl<|s1 (aa rfl) rfl<|s1 (fF _ 8 rfl rfl rfl (by decide)) rfl<|s1 (px _ Tryz.underlying183 Tryz.underlying5 rfl) rfl ?_
   refine s1 (aa rfl) rfl<|s1 (px _ Tryz.underlying183 Tryz.underlying5 rfl) rfl ?_
   refine ak rfl (dZ 43 rfl Tryz.underlying68 aQ rfl rfl rfl rfl rfl ?_)
   refine ak rfl (cY 44 rfl Tryz.underlying68 aQ rfl (.sl rfl (by rw [List.length_map,Nat.mul_one])) rfl (cO rfl (by first|rfl|omega|(simp<;>omega)|(simp [*]<;>omega))) (by first|rfl|omega|(simp<;>omega)|(simp [*]<;>omega)) (by simp only [maxLen];omega) (by omega) rfl rfl rfl ?_)
   refine s1 (aa rfl) rfl ?_
   refine ah<|bj<|bj<|ae<|ai<|s1 (bg _ 1 rfl rfl rfl rfl (by omega)) rfl<|s1 (aa rfl) rfl ?_
   refine ah ?_
   exact bu (i+1) (by omega) (by omega) [(2,some 44)] hI rfl rfl ⟨⟨_,rfl,.sl rfl (by first|rfl|omega|(simp<;>omega)|(simp [*]<;>omega))⟩,⟨_,rfl,.pure pu⟩,⟨_,rfl,.pure pu⟩,⟨_,rfl,.pure pu⟩,trivial⟩ ⟨.inr ⟨_,_,rfl,rfl,.of (vz hp rfl) (.pure ar)⟩,trivial⟩
 ·have h11 : i = ps.length := by have := of_decide_eq_false hc11; omega
  subst h11
  refine bE<|aO<|aO<|bF<|ae<|af<|ai<|s1 (aa rfl) rfl<|s1 (aa rfl) rfl ?_
  refine ah<|ae<|aF ?_
  refine aG (rs:= [.tmp 2]) rfl (aD rfl aC) ⟨2,?_,?_⟩
  ·rw [List.take_length];rfl
  ·rw [List.take_length];rfl
theorem FL (x:List UInt8) (lv nb id:Int) (D:List UInt8):aB Tryz.prog 175 [.ag (x.map u8),.ag [.i .i64 lv,.i .i64 nb,dz D],.i .i64 id] (aU (.fn (.func 207) [] [.fp (x.map u8),.fp [.i .i64 lv,.i .i64 nb,dz D],.fp [.i .i64 id]])):=by
 refine enter Tryz.func175 rfl Tryz.ntmps175 (by kernel_rfl) (Nat.le_of_ble_eq_true rfl) fun w0 X0 hI=>?_
 refine af<|ai ?_
 refine ak rfl (bY 3 rfl rfl rfl ?_)
 refine ak rfl (bY 4 rfl rfl rfl ?_)
 refine ak rfl (kO 5 rfl rfl rfl rfl ?_)
 refine s1 (aa rfl) rfl ?_
 refine ah<|ae<|af ?_
 refine fh 3 rfl rfl ar ?_
 refine fh 4 rfl rfl ar ?_
 refine fh 5 rfl rfl ar ?_
 refine ai<|s1 (gx (us:= []) (vs:= [.fp (x.map u8),.fp [.i .i64 lv,.i .i64 nb,dz D],.fp [.i .i64 id]]) rfl rfl) rfl<|s1 (aa rfl) rfl ?_
 refine ah<|ae<|aF ?_
 refine aG (rs:= [.tmp 6]) rfl (aD rfl aC) rfl
end Go.Abs.D2
-- F3C
namespace Go.Abs.D2
open Go Go.Eng Go.Abs Go.Proofs
theorem HJ (x:List UInt8) (lv id:Nat) (hx:x.length=32):aB Tryz.prog 208 [.fz 3 [.ic 23 (.ag (x.map u8)),.ic 5 (u8 (UInt8.ofNat lv)),.ic 183 (aI (BitVec.ofNat 32 id))]] (dh 1 37 ((x++UInt8.ofNat lv::gR (BitVec.ofNat 32 id)).map u8)):=by
  have:=HK [.d x,.b (UInt8.ofNat lv),.w (BitVec.ofNat 32 id)] (by simp) (by simp [Part.ok,hx])
  have e:il [.d x,.b (UInt8.ofNat lv),.w (BitVec.ofNat 32 id)]=(x++UInt8.ofNat lv::gR (BitVec.ofNat 32 id)):=by simp [il,Part.bs]
  rw [e]at this
  have e2:(x++UInt8.ofNat lv::gR (BitVec.ofNat 32 id)).length=37:=by simp [gR,hx]
  rw [e2]at this
  exact this
theorem Mm (x:List UInt8) (lv id:Nat) (hx:x.length=32):aB Tryz.prog 50 [.s [102,105,108,116,101,114],.fz 37 ((x++UInt8.ofNat lv::gR (BitVec.ofNat 32 id)).map u8)] (aU (.ag ((iu x lv id).map u8))):=by
  have e2:(x++UInt8.ofNat lv::gR (BitVec.ofNat 32 id)).length=37:=by simp [gR,hx]
  rw [AV, ←e2];exact ia _ _ (by omega) (by simp)
theorem Ff (x:List UInt8) (lv nb id:Nat) (D:List UInt8) (hx:x.length=32) (hnb:0<nb):aB Tryz.prog 164 [.nl,.fn (.func 207) [] [.fp (x.map u8),.fp [nJ lv,nJ nb,dz D],.fp [nJ id]]] (dh 1 2 ((gS x lv nb id 2).map nJ)):=by
 refine ov Tryz.func164 rfl Tryz.ntmps164 (by kernel_rfl) (Nat.le_of_ble_eq_true rfl) fun w0 X0 hI hS=>?_
 refine af<|ai ?_
 refine ak rfl (kO 2 rfl rfl rfl rfl ?_)
 refine s1 (aa rfl) rfl ?_
 refine ah<|ae<|af<|af<|ai<|s1 (aa rfl) rfl ?_
 refine ah<|ae<|aM ?_
 refine vl [2] [(0,_),(1,_),(2,_),(4,_),(6,_)] hI rfl ⟨rfl,⟨rfl,⟨rfl,⟨rfl,⟨rfl,trivial⟩⟩⟩⟩⟩ (by first|rfl|(simp [jA,jE,refs,ep,mz,mA,cw];done)) rfl Tryz.func207 rfl Tryz.ntmps207 (by kernel_rfl) (Nat.le_of_ble_eq_true rfl) fun w1 l1 D1 rc1 hR1=>?_
 refine af<|ai<|s1 (cm aE rfl rfl (List.take_of_length_le (by simp [hx])) (by simp [hx])) rfl<|s1 (uH (by kernel_rfl) rfl) rfl<|s1 (bd Tryz.underlying120 rfl an (by decide) rfl rfl) rfl<|s1 (au an rfl rfl rfl) rfl<|s1 (CC lv Tryz.underlying3 Tryz.underlying5 rfl rfl) rfl<|s1 (uH (by kernel_rfl) rfl) rfl<|s1 (au an rfl rfl rfl) rfl<|s1 (JP _ Tryz.underlying3 Tryz.underlying183 rfl rfl) rfl<|s1 (uH (by kernel_rfl) rfl) rfl ?_
 refine ak rfl (dZ 1019 rfl Tryz.underlying237 ya rfl rfl rfl rfl rfl ?_)
 refine ak rfl (iK 1020 rfl true rfl (.cons (.sl rfl rfl (by first|rfl|omega|(simp<;>omega)|(simp [*]<;>omega)) (cD (by first|rfl|omega|(simp<;>omega)|(simp [*]<;>omega)) (by first|rfl|(simp;done)|(simp [*];done))) (a7.pure ar) ar) (.nil)) (HJ x lv id hx) ar (.inr fI) rfl ?_)
 refine ak rfl (aJ true rfl (.cons (.pure pu) (.cons (.sl rfl rfl (by first|rfl|omega|(simp<;>omega)|(simp [*]<;>omega)) (cD (by first|rfl|omega|(simp<;>omega)|(simp [*]<;>omega)) (by first|rfl|(simp;done)|(simp [*];done))) (a7.pure ar) ar) (.nil))) (Mm x lv id hx) pu (.inr fu) rfl ?_)
 refine ak rfl (bt 1005 rfl aE rfl rfl ?_)
 refine ak rfl (bo aE rfl rfl rfl (by first|rfl|omega|(simp<;>omega)|(simp [*]<;>omega)) (by first|rfl|omega|(simp<;>omega)|(simp [*]<;>omega)) ?_)
 refine ah<|ae<|af<|ai<|s1 ((aa rfl).v (v':= .i .i64 0) rfl) rfl ?_
 refine ah<|ae<|aM ?_
 refine bH (ι:=Nat) (fun i=> [(0,yv l1),(1,.fp (x.map u8)),(2,.fp [nJ lv,nJ nb,dz D]),(3,.fp [nJ id]),(5,.p 1005 0),(22,nJ i)]) (fun i=>⟨[(2,some ([.sl 11 1 0 i])),(11,some (((gS x lv nb id i).map nJ))),(1005,some ((iu x lv id).map u8))]⟩) (fun i=>i≤2) (fun i=>2 - i) ?_ ?_
 ·exact bG (0) (Nat.zero_le _) [(2,some 2),(11,none),(1005,some 1005)] hR1.sub.ids rfl rfl ⟨⟨_,rfl,.pure trivial⟩,⟨_,rfl,.pure pu⟩,⟨_,rfl,.pure pu⟩,⟨_,rfl,.pure pu⟩,⟨_,rfl,.p rfl⟩,⟨_,rfl,.pure pu⟩,trivial⟩ ⟨.inr ⟨_,_,rfl,rfl,.cons (.nl rfl) .nil⟩,.inl ⟨rfl,rfl⟩,.inr ⟨_,_,rfl,rfl,.pure ar⟩,trivial⟩
 rintro i hi
 refine af<|ai<|s1 (aa rfl) rfl ?_
 refine ah<|ae<|af ?_
 refine aP rfl (fun hc23=>?_) (fun hc23=>?_)
 ·have h23 : i < 2 := by have := of_decide_eq_true hc23; omega
  refine aK<|ae<|af<|aM<|af<|ai<|s1 (aa rfl) rfl<|s1 (aa rfl) rfl ?_
  refine ah<|ae<|af<|ai<|s1 ((aa rfl).v (v':= .i .i64 0) rfl) rfl ?_
  refine ah<|ae<|af<|af<|ai<|s1 (aa rfl) rfl<|s1 (iy 4 _ rfl rfl rfl rfl (by omega)) rfl<|s1 (aa rfl) rfl<|s1 (iy 4 _ rfl rfl rfl rfl (by omega)) rfl<|s1 (bg _ 4 rfl rfl rfl rfl (by omega)) rfl<|s1 (rj (o':=0+4*i*1) 4 Tryz.underlying23 aQ rfl rfl (by simp) (by simp [maxLen]) (bs rfl rfl) (bs rfl rfl) (by omega) (by omega) (by omega) (by rw [if_neg (by omega)])) rfl<|s1 (bx Tryz.underlying68 rfl rfl rfl) rfl<|s1 ((aa rfl).v (v':= .i .i64 0) rfl) rfl ?_
  refine ah<|ae<|aM ?_
  refine bH (ι:=Nat) (fun k=> [(0,yv l1),(1,.fp (x.map u8)),(2,.fp [nJ lv,nJ nb,dz D]),(3,.fp [nJ id]),(5,.p 1005 0),(6,nJ i),(7,nJ (j6 (iu x lv id) (4*i) k)),(22,nJ i),(30,.sl 1005 1 (0+4*i*1) 4),(31,nJ 4),(32,nJ k)]) (fun k=>⟨[(2,some ([.sl 11 1 0 i])),(11,some (((gS x lv nb id i).map nJ))),(1005,some ((iu x lv id).map u8))]⟩) (fun k=>k≤4) (fun k=>4 - k) ?_ ?_
  ·exact bG (0) (Nat.zero_le _) [(2,some 2),(11,some 11),(1005,some 1005)] hR1.sub.ids rfl rfl ⟨⟨_,rfl,.pure trivial⟩,⟨_,rfl,.pure pu⟩,⟨_,rfl,.pure pu⟩,⟨_,rfl,.pure pu⟩,⟨_,rfl,.p rfl⟩,⟨_,rfl,.pure pu⟩,⟨_,rfl,.of (by rfl) (.pure pu)⟩,⟨_,rfl,.pure pu⟩,⟨_,rfl,.sl rfl (by first|rfl|omega|(simp<;>omega)|(simp [*]<;>omega))⟩,⟨_,rfl,.pure pu⟩,⟨_,rfl,.pure pu⟩,trivial⟩ ⟨.inr ⟨_,_,rfl,rfl,.cons (.sl rfl rfl) .nil⟩,.inr ⟨_,_,rfl,rfl,.pure ar⟩,.inr ⟨_,_,rfl,rfl,.pure ar⟩,trivial⟩
  rintro k hk
  have hnl:=Cr (iu x lv id) (4*i) k
  have h4:256 ^ k≤256 ^ 4:=Nat.pow_le_pow_right (by omega) hk
  refine af<|ai<|s1 (aa rfl) rfl ?_
  refine ah<|ae<|af ?_
  refine aP rfl (fun hc33=>?_) (fun hc33=>?_)
  ·have h33 : k < 4 := by have := of_decide_eq_true hc33; omega
   have h3:j6 (iu x lv id) (4*i) k<16777216:=Nat.lt_of_lt_of_le hnl (Nat.pow_le_pow_right (by omega) (show k≤3 by omega))
   refine aK<|ae<|af<|aM<|af<|ai<|s1 (lX k Tryz.underlying68 aQ rfl rfl rfl rfl (by omega) rfl) rfl<|s1 (au aQ rfl rfl (H4 k (by simp;omega) rfl)) rfl<|s1 (aa rfl) rfl ?_
   refine ah<|ae<|ai<|s1 (aa rfl) rfl<|s1 ((nR rfl rfl (by decide)).v (congrArg (A.i .i64) (LX _ h3))) rfl<|s1 (aa rfl) rfl<|s1 ((cU Tryz.underlying5 Tryz.underlying3 rfl).v (Gy _)) rfl<|s1 ((kA rfl rfl (.inr (.inl rfl))).v (congrArg (A.i .i64) (Kc _ _ h3))) rfl<|s1 (aa rfl) rfl ?_
   refine ah<|bj<|ae<|ai<|s1 (bg _ 1 rfl rfl rfl rfl (by omega)) rfl<|s1 (aa rfl) rfl ?_
   refine ah ?_
   exact bu (k+1) (by omega) (by omega) [(2,some 2),(11,some 11),(1005,some 1005)] hR1.sub.ids rfl rfl ⟨⟨_,rfl,.pure trivial⟩,⟨_,rfl,.pure pu⟩,⟨_,rfl,.pure pu⟩,⟨_,rfl,.pure pu⟩,⟨_,rfl,.p rfl⟩,⟨_,rfl,.pure pu⟩,⟨_,rfl,.pure pu⟩,⟨_,rfl,.pure pu⟩,⟨_,rfl,.sl rfl (by first|rfl|omega|(simp<;>omega)|(simp [*]<;>omega))⟩,⟨_,rfl,.pure pu⟩,⟨_,rfl,.pure pu⟩,trivial⟩ ⟨.inr ⟨_,_,rfl,rfl,.cons (.sl rfl rfl) .nil⟩,.inr ⟨_,_,rfl,rfl,.pure ar⟩,.inr ⟨_,_,rfl,rfl,.pure ar⟩,trivial⟩
  ·have h33 : k = 4 := by have := of_decide_eq_false hc33; omega
   subst h33
   refine bE<|aO<|aO<|bF<|ae<|af<|ai<|s1 (aa rfl) rfl<|s1 (aa rfl) rfl<|s1 (bd Tryz.underlying120 rfl an (by decide) rfl rfl) rfl<|s1 (au an rfl rfl rfl) rfl<|s1 (kg (j6 (iu x lv id) (4*i) 4) nb rfl rfl rfl rfl hnb) rfl ?_
   refine rV [2,1005] [(0,_),(1,_),(2,_),(3,_),(5,_),(6,_),(7,_),(22,_),(30,_),(31,_),(32,_),(33,_),(42,_),(43,_),(44,_),(45,_),(46,_)] hR1 hR1.sub.ids rfl ⟨rfl,⟨rfl,⟨rfl,⟨rfl,⟨rfl,⟨rfl,⟨rfl,⟨rfl,⟨rfl,⟨rfl,⟨rfl,⟨rfl,⟨rfl,⟨rfl,⟨rfl,⟨rfl,⟨rfl,trivial⟩⟩⟩⟩⟩⟩⟩⟩⟩⟩⟩⟩⟩⟩⟩⟩⟩ (by first|rfl|(simp [jA,jE,refs,ep,mz,mA,cw];done)) rfl rfl rfl rfl rfl fun w2 tm2 hd2=>?_
   refine ai<|s1 (aa rfl) rfl ?_
   refine ah ?_
   refine rS hd2 fun w3 hd3=>?_
   refine aM<|ai<|s1 (au ib rfl rfl rfl) rfl<|s1 (aa rfl) rfl ?_
   refine ak rfl (dZ 10 rfl Tryz.underlying30 an rfl rfl rfl rfl rfl ?_)
   refine ak rfl (cY 111 rfl Tryz.underlying30 an rfl (.sl rfl (by simp)) rfl (cO rfl (by first|rfl|omega|(simp<;>omega)|(simp [*]<;>omega))) (by first|rfl|omega|(simp<;>omega)|(simp [*]<;>omega)) (by first|omega|(simp only [maxLen];omega)|(simp [maxLen];done)|(simp [maxLen];omega)|(simp [maxLen, *];omega)) (by first|omega|(simp only [maxLen];omega)|(simp [maxLen];done)|(simp [maxLen];omega)|(simp [maxLen, *];omega)) rfl rfl rfl ?_)
   refine ak rfl (bZ ib rfl rfl rfl rfl (by first|rfl|omega|(simp<;>omega)|(simp [*]<;>omega)) rfl ?_)
   refine ah<|bj ?_
   refine rU hR1 hd3 rfl ?_
   refine s1 (aa rfl) rfl ?_
   refine ah<|ae ?_
   refine cK rfl ?_
   refine aK<|bj<|ae<|ai<|s1 (bg _ 1 rfl rfl rfl rfl (by omega)) rfl<|s1 (aa rfl) rfl ?_
   refine ah ?_
   exact bu (i+1) (by omega) (by omega) [(2,some 2),(11,some 111),(1005,some 1005)] hR1.sub.ids rfl rfl ⟨⟨_,rfl,.pure trivial⟩,⟨_,rfl,.pure pu⟩,⟨_,rfl,.pure pu⟩,⟨_,rfl,.pure pu⟩,⟨_,rfl,.p rfl⟩,⟨_,rfl,.pure pu⟩,trivial⟩ ⟨.inr ⟨_,_,rfl,rfl,.cons (.sl rfl (by first|rfl|omega|(simp<;>omega)|(simp [*]<;>omega))) .nil⟩,.inr ⟨_,_,rfl,rfl,.of (by rw [FH];simp) (.pure ar)⟩,.inr ⟨_,_,rfl,rfl,.pure ar⟩,trivial⟩
 ·have h23 : i = 2 := by have := of_decide_eq_false hc23; omega
  subst h23
  refine bE<|aO<|aO<|bF ?_
  refine vj rfl hR1 hS ?_
  refine bj<|ae<|af<|ai<|s1 (au ib rfl rfl rfl) rfl<|s1 (aa rfl) rfl ?_
  refine ah<|ae<|aF ?_
  refine pR (rs:= [.tmp 4]) rfl rfl rfl hS (dn:= [D1]) rfl rfl (by simp) rfl (aD rfl aC) ⟨11,rfl,rfl⟩
theorem Gv (x:List UInt8) (lv nb id:Nat) (D:List UInt8) (hx:x.length=32) (hnb:0<nb):aB Tryz.prog 112 [.fn (.func 207) [] [.fp (x.map u8),.fp [nJ lv,nJ nb,dz D],.fp [nJ id]]] (aU (.fz 2 ((gS x lv nb id 2).map nJ))):=by
 refine enter Tryz.func112 rfl Tryz.ntmps112 (by kernel_rfl) (Nat.le_of_ble_eq_true rfl) fun w0 X0 hI=>?_
 refine af<|ai<|s1 (aa rfl) rfl ?_
 refine ah<|ae<|af<|ai<|s1 (aa rfl) rfl ?_
 refine ak rfl (iK 4 rfl false rfl (.cons (.pure pu) (.cons (.pure pu) .nil)) (Ff x lv nb id D hx hnb) ar (.inl rfl) rfl ?_)
 refine s1 (aa rfl) rfl ?_
 refine ah<|ae<|aF ?_
 refine gz 2 rfl rfl ar (cD (by simp) rfl) ?_
 refine aG (rs:= [.tmp 2]) rfl (aD rfl aC) rfl
theorem ui (a b:Int):aB Tryz.prog 118 [.i .i64 a,.i .i64 b] (aU (.b (decide (fb a b)))):=by
 refine enter Tryz.func118 rfl Tryz.ntmps118 (by kernel_rfl) (Nat.le_of_ble_eq_true rfl) fun w0 X0 hI=>?_
 refine af<|ai<|s1 (aa rfl) rfl ?_
 refine ah<|ae<|af<|ai<|s1 (aa rfl) rfl<|s1 (aa rfl) rfl<|s1 (aa rfl) rfl ?_
 refine dG 2 rfl rfl rfl rfl (fun hb7=> .step (aa rfl) rfl rfl<| .step (aa rfl) rfl rfl<| .done) rfl rfl ?_
 refine s1 (aa rfl) rfl ?_
 refine dG 2 rfl rfl rfl rfl (fun hb11=> .step (aa rfl) rfl rfl<| .step (aa rfl) rfl rfl<| .done) rfl rfl ?_
 refine s1 (aa rfl) rfl ?_
 refine dG 2 rfl rfl rfl rfl (fun hb15=> .step (aa rfl) rfl rfl<| .step (aa rfl) rfl rfl<| .done) rfl rfl ?_
 refine s1 (aa rfl) rfl ?_
 refine ah<|ae<|aF ?_
 refine aG (rs:= [.tmp 4]) rfl (aD rfl aC) ?_
 exact congrArg A.b (by rw [Bool.eq_iff_iff,decide_eq_true_eq];simp [fb,and_assoc])
end Go.Abs.D2
-- F3D
namespace Go.Abs.D2
open Go Go.Eng Go.Abs Go.Proofs
theorem HN (lv nb:Int):aB Tryz.prog 74 [.i .i64 lv,.i .i64 nb] (aU (newA lv nb)):=by
 refine enter Tryz.func74 rfl Tryz.ntmps74 (by kernel_rfl) (Nat.le_of_ble_eq_true rfl) fun w0 X0 hI=>?_
 refine af<|ai ?_
 refine ak rfl (bt 4 rfl cG rfl rfl ?_)
 refine s1 ((aa rfl).v (v':= .i .i64 0) rfl) rfl ?_
 refine ah<|ae<|af<|af ?_
 rcases Decidable.em (fb lv nb)with hcs|hcs
 ·obtain ⟨l, n, rfl, rfl, h1, h2, h3⟩ := xW hcs
  refine ai<|s1 (aa rfl) rfl<|s1 (aa rfl) rfl ?_
  refine ak rfl (aJ false rfl (.cons (.pure pu) (.cons (.pure pu) (.nil))) (aB.cast (ui _ _) (congrArg A.b (decide_eq_true hcs))) pu (.inl rfl) rfl ?_)
  refine s1 (aa rfl) rfl ?_
  refine ah<|ae ?_
  refine cK rfl ?_
  refine aK<|ae<|af<|ai<|s1 (aa rfl) rfl<|s1 (aa rfl) rfl<|s1 (aa rfl) rfl<|s1 (bg n 7 rfl rfl rfl rfl (by omega)) rfl<|s1 (kT (n+7) 8 rfl rfl rfl rfl (by omega) (by omega)) rfl ?_
  refine ak rfl (qC 16 rfl _ _ Tryz.underlying68 aQ rfl rfl rfl rfl rfl (by first|omega|(simp only [maxLen];omega)|(simp [maxLen];done)|(simp [maxLen];omega)|(simp [maxLen, *];omega)) (by first|omega|(simp only [maxLen];omega)|(simp [maxLen];done)|(simp [maxLen];omega)|(simp [maxLen, *];omega)) (by first|omega|(simp only [maxLen];omega)|(simp [maxLen];done)|(simp [maxLen];omega)|(simp [maxLen, *];omega)) rfl ?_)
  refine s1 (eu (out:= [_,_,_]) [[aW (.int .i64 0)], [aW (.int .i64 0)], [aW (.slice none 0 0)]] cG rfl Tryz.underlying120 (by kernel_rfl) rfl rfl ⟨⟨by(first|rfl|omega|(simp;done)|(simp [*];done)|(simp [aX, *];done)),rfl⟩,⟨⟨by(first|rfl|omega|(simp;done)|(simp [*];done)|(simp [aX, *];done)),rfl⟩,⟨⟨by(first|rfl|omega|(simp;done)|(simp [*];done)|(simp [aX, *];done)),rfl⟩,trivial⟩⟩⟩ rfl) rfl ?_
  refine ak rfl (bo cG rfl rfl rfl (by first|rfl|omega|(simp<;>omega)|(simp [*]<;>omega)) (by first|rfl|omega|(simp<;>omega)|(simp [*]<;>omega)) ?_)
  refine s1 ((aa rfl).v (v':= .i .i64 0) rfl) rfl ?_
  refine ah<|ae<|aF ?_
  refine jQ 4 2 rfl rfl rfl rfl ar (cD (by simp) (Nn _)) rfl ?_
  refine aG (rs:= [.cell 4 120,.tmp 5]) rfl (ct cG rfl rfl rfl rfl (aD rfl aC)) ?_
  show A.tu _=_
  rw [Ck hcs,jr,dz,List.length_replicate];rfl
 ·skip
  refine ai<|s1 (aa rfl) rfl<|s1 (aa rfl) rfl ?_
  refine ak rfl (aJ false rfl (.cons (.pure pu) (.cons (.pure pu) (.nil))) (aB.cast (ui _ _) (congrArg A.b (decide_eq_false hcs))) pu (.inl rfl) rfl ?_)
  refine s1 (aa rfl) rfl ?_
  refine ah<|ae ?_
  refine bT rfl ?_
  refine af<|ai<|s1 (aZ cG rfl rfl (by first|rfl|omega|(simp<;>omega)|(simp [*]<;>omega))) rfl ?_
  refine ak rfl (bo cG rfl rfl rfl (by first|rfl|omega|(simp<;>omega)|(simp [*]<;>omega)) (by first|rfl|omega|(simp<;>omega)|(simp [*]<;>omega)) ?_)
  refine s1 ((aa rfl).v (v':= .i .i64 330) rfl) rfl ?_
  refine ah<|ae<|aF<|aH ?_
  refine iG 4 rfl (.cons (.eq rfl) (.cons (.eq rfl) (.cons .nl .nil))) ?_
  refine aG (rs:= [.cell 4 120,.tmp 5]) rfl (ct cG rfl rfl rfl rfl (aD rfl aC)) ?_
  show A.tu _=_
  rw [JA hcs];rfl
theorem wD (lv nb:Int) (D:List UInt8):aB Tryz.prog 123 [.ag [.i .i64 lv,.i .i64 nb,dz D]] (aU (.i .i64 (ox (cL lv nb D)))):=by
 refine enter Tryz.func123 rfl Tryz.ntmps123 (by kernel_rfl) (Nat.le_of_ble_eq_true rfl) fun w0 X0 hI=>?_
 refine af<|ai ?_
 refine ak rfl (bY 1 rfl rfl rfl ?_)
 refine s1 ((aa rfl).v (v':= .i .i64 0) rfl) rfl ?_
 refine ah<|ae<|af<|af ?_
 rcases Decidable.em (fb lv nb)with hcs|hcs
 ·obtain ⟨l, n, rfl, rfl, h1, h2, h3⟩ := xW hcs
  refine ai<|s1 (aA Tryz.underlying120 rfl an (by decide) rfl rfl) rfl<|s1 (au an rfl rfl rfl) rfl<|s1 (aA Tryz.underlying120 rfl an (by decide) rfl rfl) rfl<|s1 (au an rfl rfl rfl) rfl ?_
  refine ak rfl (aJ false rfl (.cons (.pure pu) (.cons (.pure pu) (.nil))) (aB.cast (ui _ _) (congrArg A.b (decide_eq_true hcs))) pu (.inl rfl) rfl ?_)
  refine s1 (aa rfl) rfl<|s1 (aa rfl) rfl<|g1 rfl rfl (aA Tryz.underlying120 rfl ef (by decide) rfl rfl) rfl<|g1 rfl rfl (au ef rfl rfl rfl) rfl<|g1 rfl rfl (bx Tryz.underlying68 rfl rfl rfl) rfl<|g1 rfl rfl (aA Tryz.underlying120 rfl an (by decide) rfl rfl) rfl<|g1 rfl rfl (au an rfl rfl rfl) rfl<|g1 rfl rfl (bg n 7 rfl rfl rfl rfl (by omega)) rfl<|g1 rfl rfl (kT (n+7) 8 rfl rfl rfl rfl (by omega) (by omega)) rfl<|g1 rfl rfl (aa rfl) rfl ?_
  refine s1 (aa rfl) rfl ?_
  refine ah<|ae ?_
  refine aP rfl (fun hc19=>?_) (fun hc19=>?_)
  ·have hl : D.length ≠ (n + 7) / 8 := by intro h; rw [h] at hc19; simp at hc19
   refine af<|ai<|s1 ((aa rfl).v (v':= .i .i64 330) rfl) rfl ?_
   refine ah<|ae<|aF<|aH ?_
   refine aG (rs:= [.tmp 2]) rfl (aD rfl aC) ?_
   show A.i _ _=_
   rw [zX hl];rfl
  ·have hl : D.length = (n + 7) / 8 := by simp at hc19; omega
   have hct:=zZ h1 h2 h3 hl
   refine aK<|ae<|af<|af<|ai<|s1 (aA Tryz.underlying120 rfl an (by decide) rfl rfl) rfl<|s1 (au an rfl rfl rfl) rfl<|s1 (kg n 8 rfl rfl rfl rfl (by omega)) rfl<|s1 (aa rfl) rfl ?_
   refine ah<|ae<|af<|ai<|s1 (aa rfl) rfl<|s1 (aa rfl) rfl<|s1 (aa rfl) rfl ?_
   refine dG 11 rfl rfl rfl rfl (fun hb25=> .step (aA Tryz.underlying120 rfl ef (by decide) rfl rfl) rfl rfl<| .step (au ef rfl rfl rfl) rfl rfl<| .step (aA Tryz.underlying120 rfl ef (by decide) rfl rfl) rfl rfl<| .step (au ef rfl rfl rfl) rfl rfl<| .step (bx Tryz.underlying68 rfl rfl rfl) rfl rfl<| .step (dD D.length 1 rfl rfl rfl rfl (by omega) (by omega)) rfl rfl<| .step (aT (D.length - 1) Tryz.underlying68 aQ rfl rfl rfl (by omega) rfl) rfl rfl<| .step (au aQ rfl rfl (Bj (by omega))) rfl rfl<| .step (aa rfl) rfl rfl<| .step (qW (D.getD (D.length - 1) 0) (n % 8) rfl rfl rfl (by omega)) rfl rfl<| .step ((aa rfl).v (v':= .b (!((D.getD (D.length - 1) 0).toNat / 2 ^ (n % 8)==0))) (congrArg A.b (L0 _ _))) rfl rfl<| .done) rfl rfl ?_
   refine ah<|ae ?_
   refine aP rfl (fun hc37=>?_) (fun hc37=>?_)
   ·have hf : cL l n D = false := by rw [hct]; simp at hc37 ⊢; omega
    refine af<|ai<|s1 ((aa rfl).v (v':= .i .i64 330) rfl) rfl ?_
    refine ah<|ae<|aF<|aH ?_
    refine aG (rs:= [.tmp 2]) rfl (aD rfl aC) ?_
    show A.i _ _=_
    rw [hf];rfl
   ·have hf : cL l n D = true := by rw [hct]; simp at hc37 ⊢; omega
    refine aK<|ae<|af<|ai<|s1 ((aa rfl).v (v':= .i .i64 0) rfl) rfl ?_
    refine ah<|ae<|aF ?_
    refine aG (rs:= [.tmp 2]) rfl (aD rfl aC) ?_
    show A.i _ _=_
    rw [hf];rfl
 ·skip
  refine ai<|s1 (aA Tryz.underlying120 rfl an (by decide) rfl rfl) rfl<|s1 (au an rfl rfl rfl) rfl<|s1 (aA Tryz.underlying120 rfl an (by decide) rfl rfl) rfl<|s1 (au an rfl rfl rfl) rfl ?_
  refine ak rfl (aJ false rfl (.cons (.pure pu) (.cons (.pure pu) (.nil))) (aB.cast (ui _ _) (congrArg A.b (decide_eq_false hcs))) pu (.inl rfl) rfl ?_)
  refine s1 (aa rfl) rfl<|s1 (aa rfl) rfl<|g0 rfl rfl rfl rfl<|g0 rfl rfl rfl rfl<|g0 rfl rfl rfl rfl<|g0 rfl rfl rfl rfl<|g0 rfl rfl rfl rfl<|g0 rfl rfl rfl rfl<|g0 rfl rfl rfl rfl<|g0 rfl rfl rfl rfl ?_
  refine s1 (aa rfl) rfl ?_
  refine ah<|ae ?_
  refine bT rfl ?_
  refine af<|ai<|s1 ((aa rfl).v (v':= .i .i64 330) rfl) rfl ?_
  refine ah<|ae<|aF<|aH ?_
  refine aG (rs:= [.tmp 2]) rfl (aD rfl aC) ?_
  show A.i _ _=_
  rw [zY hcs];rfl
theorem sF (x:List UInt8) (lv nb id:Int) (D:List UInt8) (hx:x.length=32):aB Tryz.prog 119 [.ag (x.map u8),.ag [.i .i64 lv,.i .i64 nb,dz D],.i .i64 id] (aU (bitsA x lv nb D id)):=by
 refine enter Tryz.func119 rfl Tryz.ntmps119 (by kernel_rfl) (Nat.le_of_ble_eq_true rfl) fun w0 X0 hI=>?_
 refine af<|ai ?_
 refine ak rfl (bY 3 rfl rfl rfl ?_)
 refine ak rfl (bY 4 rfl rfl rfl ?_)
 refine s1 (aa rfl) rfl<|s1 ((aa rfl).v (v':= .i .i64 0) rfl) rfl ?_
 refine ah<|ae<|af<|af ?_
 rcases tf (cL lv nb D)with hcs|hcs
 ·skip
  refine ai<|s1 (aZ cG rfl rfl (by first|rfl|omega|(simp<;>omega)|(simp [*]<;>omega))) rfl ?_
  refine ak rfl (aJ false rfl (.cons (.pure pu) (.nil)) (aB.cast (wD _ _ _) (congrArg (A.i .i64) (by rw [hcs];rfl:ox (cL lv nb D)=330))) pu (.inl rfl) rfl ?_)
  refine s1 (aa rfl) rfl ?_
  refine ah<|ae<|af<|ai<|s1 (aa rfl) rfl<|s1 ((aa rfl).v (v':= .b true) (rfl)) rfl ?_
  refine ah<|ae ?_
  refine bT rfl ?_
  refine af<|ai<|s1 (aa rfl) rfl<|s1 (aa rfl) rfl<|s1 (aa rfl) rfl ?_
  refine ah<|ae<|aF<|aH ?_
  refine aG (rs:= [.tmp 6,.tmp 7]) rfl (aD rfl (aD rfl aC)) ?_
  show A.tu _=_
  rw [rY (JX hcs)];rfl
 ·skip
  refine ai<|s1 (aZ cG rfl rfl (by first|rfl|omega|(simp<;>omega)|(simp [*]<;>omega))) rfl ?_
  refine ak rfl (aJ false rfl (.cons (.pure pu) (.nil)) (aB.cast (wD _ _ _) (congrArg (A.i .i64) (by rw [hcs];rfl:ox (cL lv nb D)=0))) pu (.inl rfl) rfl ?_)
  refine s1 (aa rfl) rfl ?_
  refine ah<|ae<|af<|ai<|s1 (aa rfl) rfl<|s1 ((aa rfl).v (v':= .b false) (rfl)) rfl ?_
  refine ah<|ae ?_
  refine cK rfl ?_
  refine aK<|ae<|af<|af<|ai<|s1 (aa rfl) rfl<|s1 (aa rfl) rfl<|s1 (aa rfl) rfl ?_
  refine jW 2 rfl rfl rfl rfl (fun hb16=> .step (aa rfl) rfl rfl<| .step (aa rfl) rfl rfl<| .done) rfl rfl ?_
  refine ah<|ae ?_
  refine aP rfl (fun hc19=>?_) (fun hc19=>?_)
  ·have h19 : ¬ (0 ≤ id ∧ id < 1024) := by simp at hc19; omega
   refine af<|ai<|s1 (aa rfl) rfl<|s1 ((aa rfl).v (v':= .i .i64 330) rfl) rfl ?_
   refine ah<|ae<|aF<|aH ?_
   refine aG (rs:= [.tmp 6,.tmp 7]) rfl (aD rfl (aD rfl aC)) ?_
   show A.tu _=_
   rw [rY (JY h19)];rfl
  ·have h19 : 0 ≤ id ∧ id < 1024 := by simp at hc19; omega
   have hk:=CM hcs h19
   obtain⟨l,n,j,rfl,rfl,rfl,h1,h2,h3,h4,h5,h6⟩:=tG hk
   refine aK<|ae<|af<|ai<|s1 (aZ aE rfl rfl (by first|rfl|omega|(simp<;>omega)|(simp [*]<;>omega))) rfl<|s1 (aZ cG rfl rfl (by first|rfl|omega|(simp<;>omega)|(simp [*]<;>omega))) rfl<|s1 (aa rfl) rfl ?_
   refine ak rfl (aJ false rfl (.cons (.pure pu) (.cons (.pure pu) (.cons (.pure pu) (.nil)))) (FL x _ _ _ D) pu (.inl rfl) rfl ?_)
   refine ak rfl (aJ false rfl (.cons (.pure pu) (.nil)) (Gv x l n j D hx (by omega)) pu (.inl rfl) rfl ?_)
   refine s1 (aa rfl) rfl<|s1 ((aa rfl).v (v':= .i .i64 0) rfl) rfl ?_
   refine ah<|ae<|aF ?_
   refine aG (rs:= [.tmp 6,.tmp 7]) rfl (aD rfl (aD rfl aC)) ?_
   show A.tu _=_
   exact(vo hk).symm
theorem HA (x:List UInt8) (lv nb id:Int) (D:List UInt8) (hx:x.length=32):aB Tryz.prog 78 [.ag (x.map u8),.ag [.i .i64 lv,.i .i64 nb,dz D],.i .i64 id] (aU (hasA x lv nb D id)):=by
 refine enter Tryz.func78 rfl Tryz.ntmps78 (by kernel_rfl) (Nat.le_of_ble_eq_true rfl) fun w0 X0 hI=>?_
 refine af<|ai ?_
 refine ak rfl (bY 3 rfl rfl rfl ?_)
 refine ak rfl (bY 4 rfl rfl rfl ?_)
 refine s1 (aa rfl) rfl<|s1 ((aa rfl).v (v':= .i .i64 0) rfl) rfl ?_
 refine ah<|ae<|af ?_
 rcases tf (okB lv nb D id)with hcs|hcs
 ·skip
  refine ai<|s1 (aZ aE rfl rfl (by first|rfl|omega|(simp<;>omega)|(simp [*]<;>omega))) rfl<|s1 (aZ cG rfl rfl (by first|rfl|omega|(simp<;>omega)|(simp [*]<;>omega))) rfl<|s1 (aa rfl) rfl ?_
  refine ak rfl (aJ false rfl (.cons (.pure pu) (.cons (.pure pu) (.cons (.pure pu) (.nil)))) (aB.cast (sF x _ _ _ D hx) (rY hcs)) pu (.inl rfl) rfl ?_)
  refine s1 (aa rfl) rfl<|s1 (aa rfl) rfl<|s1 (aa rfl) rfl<|s1 (aa rfl) rfl<|s1 (aa rfl) rfl ?_
  refine ah<|ae<|af<|af<|ai<|s1 (aa rfl) rfl<|s1 ((aa rfl).v (v':= .b true) (rfl)) rfl ?_
  refine ah<|ae ?_
  refine bT rfl ?_
  refine af<|ai<|s1 (aa rfl) rfl<|s1 (aa rfl) rfl<|s1 (aa rfl) rfl ?_
  refine ah<|ae<|aF<|aH ?_
  refine aG (rs:= [.tmp 6,.tmp 7]) rfl (aD rfl (aD rfl aC)) ?_
  show A.tu _=_
  rw [Im hcs];rfl
 ·obtain ⟨l, n, j, rfl, rfl, rfl, h1, h2, h3, h4, h5, h6⟩ := tG hcs
  refine ai<|s1 (aZ aE rfl rfl (by first|rfl|omega|(simp<;>omega)|(simp [*]<;>omega))) rfl<|s1 (aZ cG rfl rfl (by first|rfl|omega|(simp<;>omega)|(simp [*]<;>omega))) rfl<|s1 (aa rfl) rfl ?_
  refine ak rfl (aJ false rfl (.cons (.pure pu) (.cons (.pure pu) (.cons (.pure pu) (.nil)))) (aB.cast (sF x _ _ _ D hx) (vo hcs)) pu (.inl rfl) rfl ?_)
  refine s1 (aa rfl) rfl<|s1 (aa rfl) rfl<|s1 (aa rfl) rfl<|s1 (aa rfl) rfl<|s1 (aa rfl) rfl ?_
  refine ah<|ae<|af<|af<|ai<|s1 (aa rfl) rfl<|s1 ((aa rfl).v (v':= .b false) (rfl)) rfl ?_
  refine ah<|ae ?_
  refine cK rfl ?_
  refine aK<|ae<|af<|af<|ai<|s1 (aa rfl) rfl<|s1 (bx Tryz.underlying30 rfl rfl rfl) rfl<|s1 ((aa rfl).v (v':= .i .i64 0) rfl) rfl ?_
  refine ah<|ae<|aM ?_
  refine bH (ι:=Nat) (fun i=> [(4,.p 4 0),(21,.fz 2 ((gS x l n j 2).map nJ)),(22,nJ 2),(23,nJ i)]) (fun i=>⟨[(4,some ([nJ l,nJ n,dz D]))]⟩) (fun i=>i≤2∧∀t,t<i→fG D (bN x l n j t)=true) (fun i=>2 - i) ?_ ?_
  ·exact bG (0) (⟨by omega,fun t ht=>absurd ht (by omega)⟩) [(4,some 4)] hI rfl rfl ⟨⟨_,rfl,.p rfl⟩,⟨_,rfl,.pure pu⟩,⟨_,rfl,.pure pu⟩,⟨_,rfl,.pure pu⟩,trivial⟩ ⟨.inr ⟨_,_,rfl,rfl,.pure ar⟩,trivial⟩
  rintro i ⟨hi,hall⟩
  have hbi:bN x l n j i<n:=og (by omega) i
  refine af<|ai<|s1 (aa rfl) rfl ?_
  refine ah<|ae<|af ?_
  refine aP rfl (fun hc24=>?_) (fun hc24=>?_)
  ·have h24 : i < 2 := by have := of_decide_eq_true hc24; omega
   refine aK<|ae<|af<|aM<|af<|ai<|s1 (aT i Tryz.underlying30 an rfl rfl rfl (by omega) rfl) rfl<|s1 (au an rfl rfl (zf x l n j i h24)) rfl<|s1 (aa rfl) rfl ?_
   refine ah<|ae<|af<|ai<|s1 (aA Tryz.underlying120 rfl ef (by decide) rfl rfl) rfl<|s1 (au ef rfl rfl rfl) rfl<|s1 (aa rfl) rfl<|s1 (kT _ 8 rfl rfl rfl rfl (by omega) (by omega)) rfl<|s1 (aT (bN x l n j i / 8) Tryz.underlying68 aQ rfl rfl rfl (by omega) rfl) rfl<|s1 (au aQ rfl rfl (Bj (by omega))) rfl<|s1 (aa rfl) rfl<|s1 (kg _ 8 rfl rfl rfl rfl (by omega)) rfl<|s1 (qW (D.getD (bN x l n j i / 8) 0) (bN x l n j i % 8) rfl rfl rfl (by omega)) rfl<|s1 (vc _ (1:UInt8) rfl rfl) rfl ?_
   refine s1 ((aa rfl).v (v':= .b (!fG D (bN x l n j i))) (congrArg A.b (Ik _ _))) rfl ?_
   refine ah<|ae ?_
   refine aP rfl (fun hc37=>?_) (fun hc37=>?_)
   ·have hb : fG D (bN x l n j i) = false := by simpa using hc37
    refine af<|ai<|s1 (aa rfl) rfl<|s1 ((aa rfl).v (v':= .i .i64 0) rfl) rfl ?_
    refine ah<|ae<|aF<|bc<|aH<|aH<|bc<|aH ?_
    refine aG (rs:= [.tmp 6,.tmp 7]) rfl (aD rfl (aD rfl aC)) ?_
    show A.tu _=_
    rw [Bt hcs,Ii h24 hb];rfl
   ·have hb : fG D (bN x l n j i) = true := by simpa using hc37
    refine aK<|bj<|ae<|ai<|s1 (bg _ 1 rfl rfl rfl rfl (by omega)) rfl<|s1 (aa rfl) rfl ?_
    refine ah ?_
    exact bu (i+1) (⟨by omega,vb hall hb⟩) (by omega) [(4,some 4)] hI rfl rfl ⟨⟨_,rfl,.p rfl⟩,⟨_,rfl,.pure pu⟩,⟨_,rfl,.pure pu⟩,⟨_,rfl,.pure pu⟩,trivial⟩ ⟨.inr ⟨_,_,rfl,rfl,.pure ar⟩,trivial⟩
  ·have h24 : i = 2 := by have := of_decide_eq_false hc24; omega
   subst h24
   refine bE<|aO<|aO<|bF<|ae<|af<|ai<|s1 (aa rfl) rfl<|s1 ((aa rfl).v (v':= .i .i64 0) rfl) rfl ?_
   refine ah<|ae<|aF ?_
   refine aG (rs:= [.tmp 6,.tmp 7]) rfl (aD rfl (aD rfl aC)) ?_
   show A.tu _=_
   rw [Bt hcs,Ij hall];rfl
theorem wE (D:List UInt8) (h:0<D.length) (hD:D.length≤1000000):aB Tryz.prog 51 [dz D] (dh 1 D.length (D.map u8)):=by
 refine enter Tryz.func51 rfl Tryz.ntmps51 (by kernel_rfl) (Nat.le_of_ble_eq_true rfl) fun w0 X0 hI=>?_
 refine af<|ai<|s1 (aa rfl) rfl ?_
 refine ah<|ae<|af<|af<|ai<|s1 (aa rfl) rfl<|s1 (yl Tryz.underlying68 rfl rfl h) rfl ?_
 refine ah<|ae ?_
 refine cK rfl ?_
 refine aK<|ae<|af<|ai ?_
 refine ak rfl (dZ 5 rfl Tryz.underlying68 aQ rfl rfl rfl rfl rfl ?_)
 refine s1 (aa rfl) rfl ?_
 refine ak rfl (cY 7 rfl Tryz.underlying68 aQ rfl (.sl rfl (by first|rfl|omega|(simp<;>omega)|(simp [*]<;>omega))) rfl rfl (by first|rfl|omega|(simp<;>omega)|(simp [*]<;>omega)) (by first|omega|(simp only [maxLen];omega)|(simp [maxLen];done)|(simp [maxLen];omega)|(simp [maxLen, *];omega)) (by first|omega|(simp only [maxLen];omega)|(simp [maxLen];done)|(simp [maxLen];omega)|(simp [maxLen, *];omega)) rfl rfl rfl ?_)
 refine s1 (aa rfl) rfl ?_
 refine ah<|ae<|aF ?_
 refine aG (rs:= [.tmp 2]) rfl (aD rfl aC) ⟨7,congrArg (A.sl 7 1 0) (Nat.zero_add _),rfl⟩
theorem Hx (x:List UInt8) (lv nb id:Int) (D:List UInt8) (hx:x.length=32):aB Tryz.prog 75 [.ag (x.map u8),.ag [.i .i64 lv,.i .i64 nb,dz D],.i .i64 id] (aU (addA x lv nb D id)):=by
 refine enter Tryz.func75 rfl Tryz.ntmps75 (by kernel_rfl) (Nat.le_of_ble_eq_true rfl) fun w0 X0 hI=>?_
 refine af<|ai ?_
 refine ak rfl (bY 3 rfl rfl rfl ?_)
 refine ak rfl (bY 4 rfl rfl rfl ?_)
 refine ak rfl (bt 6 rfl cG rfl rfl ?_)
 refine s1 ((aa rfl).v (v':= .i .i64 0) rfl) rfl ?_
 refine ah<|ae<|af ?_
 rcases tf (okB lv nb D id)with hcs|hcs
 ·skip
  refine ai<|s1 (aZ aE rfl rfl (by first|rfl|omega|(simp<;>omega)|(simp [*]<;>omega))) rfl<|s1 (aZ cG rfl rfl (by first|rfl|omega|(simp<;>omega)|(simp [*]<;>omega))) rfl<|s1 (aa rfl) rfl ?_
  refine ak rfl (aJ false rfl (.cons (.pure pu) (.cons (.pure pu) (.cons (.pure pu) (.nil)))) (aB.cast (sF x _ _ _ D hx) (rY hcs)) pu (.inl rfl) rfl ?_)
  refine s1 (aa rfl) rfl<|s1 (aa rfl) rfl<|s1 (aa rfl) rfl<|s1 (aa rfl) rfl<|s1 (aa rfl) rfl ?_
  refine ah<|ae<|af<|af<|ai<|s1 (aa rfl) rfl<|s1 ((aa rfl).v (v':= .b true) (rfl)) rfl ?_
  refine ah<|ae ?_
  refine bT rfl ?_
  refine af<|ai<|s1 (aZ cG rfl rfl (by first|rfl|omega|(simp<;>omega)|(simp [*]<;>omega))) rfl<|s1 (aa rfl) rfl ?_
  refine ak rfl (bo cG rfl rfl rfl (by first|rfl|omega|(simp<;>omega)|(simp [*]<;>omega)) (by first|rfl|omega|(simp<;>omega)|(simp [*]<;>omega)) ?_)
  refine s1 (aa rfl) rfl ?_
  refine ah<|ae<|aF<|aH ?_
  refine iG 6 rfl (.cons (.eq rfl) (.cons (.eq rfl) (.cons .nl .nil))) ?_
  refine aG (rs:= [.cell 6 120,.tmp 7]) rfl (ct cG rfl rfl rfl rfl (aD rfl aC)) ?_
  show A.tu _=_
  rw [E2 hcs];rfl
 ·obtain ⟨l, n, j, rfl, rfl, rfl, h1, h2, h3, h4, h5, h6⟩ := tG hcs
  refine ai<|s1 (aZ aE rfl rfl (by first|rfl|omega|(simp<;>omega)|(simp [*]<;>omega))) rfl<|s1 (aZ cG rfl rfl (by first|rfl|omega|(simp<;>omega)|(simp [*]<;>omega))) rfl<|s1 (aa rfl) rfl ?_
  refine ak rfl (aJ false rfl (.cons (.pure pu) (.cons (.pure pu) (.cons (.pure pu) (.nil)))) (aB.cast (sF x _ _ _ D hx) (vo hcs)) pu (.inl rfl) rfl ?_)
  refine s1 (aa rfl) rfl<|s1 (aa rfl) rfl<|s1 (aa rfl) rfl<|s1 (aa rfl) rfl<|s1 (aa rfl) rfl ?_
  refine ah<|ae<|af<|af<|ai<|s1 (aa rfl) rfl<|s1 ((aa rfl).v (v':= .b false) (rfl)) rfl ?_
  refine ah<|ae ?_
  refine cK rfl ?_
  refine aK<|ae<|af<|ai<|s1 (aZ cG rfl rfl (by first|rfl|omega|(simp<;>omega)|(simp [*]<;>omega))) rfl ?_
  refine ak rfl (bo cG rfl rfl rfl (by first|rfl|omega|(simp<;>omega)|(simp [*]<;>omega)) (by first|rfl|omega|(simp<;>omega)|(simp [*]<;>omega)) ?_)
  refine ah<|ae<|af<|ai<|s1 (aA Tryz.underlying120 rfl ef (by decide) rfl rfl) rfl<|s1 (au ef rfl rfl rfl) rfl ?_
  refine ak rfl (iK 25 rfl false rfl (.cons (.pure pu) (.nil)) (wE D (by omega) (by omega)) ar (.inl rfl) rfl ?_)
  refine s1 (aA Tryz.underlying120 rfl ef (by decide) rfl rfl) rfl ?_
  refine ak rfl (bZ ef rfl rfl rfl rfl (by first|rfl|omega|(simp<;>omega)|(simp [*]<;>omega)) rfl ?_)
  refine ah<|ae<|af<|af<|ai<|s1 (aa rfl) rfl<|s1 (bx Tryz.underlying30 rfl rfl rfl) rfl<|s1 ((aa rfl).v (v':= .i .i64 0) rfl) rfl ?_
  refine ah<|ae<|aM ?_
  refine bH (ι:=Nat) (fun i=> [(6,.p 6 0),(27,.fz 2 ((gS x l n j 2).map nJ)),(28,nJ 2),(29,nJ i)]) (fun i=>⟨[(6,some ([nJ l,nJ n,.sl 25 1 0 D.length])),(25,some ((pf x l n j D i).map u8))]⟩) (fun i=>i≤2) (fun i=>2 - i) ?_ ?_
  ·exact bG (0) (Nat.zero_le _) [(6,some 6),(25,some 25)] hI rfl rfl ⟨⟨_,rfl,.p rfl⟩,⟨_,rfl,.pure pu⟩,⟨_,rfl,.pure pu⟩,⟨_,rfl,.pure pu⟩,trivial⟩ ⟨.inr ⟨_,_,rfl,rfl,.cons (.pure pu) (.cons (.pure pu) (.cons (.sl rfl rfl) .nil))⟩,.inr ⟨_,_,rfl,rfl,.of (by rfl) (.pure ar)⟩,trivial⟩
  rintro i hi
  have hbi:bN x l n j i<n:=og (by omega) i
  have hsl:=xa x l n j D i
  refine af<|ai<|s1 (aa rfl) rfl ?_
  refine ah<|ae<|af ?_
  refine aP rfl (fun hc30=>?_) (fun hc30=>?_)
  ·have h30 : i < 2 := by have := of_decide_eq_true hc30; omega
   refine aK<|ae<|af<|aM<|af<|ai<|s1 (aT i Tryz.underlying30 an rfl rfl rfl (by omega) rfl) rfl<|s1 (au an rfl rfl (zf x l n j i h30)) rfl<|s1 (aa rfl) rfl ?_
   refine ah<|ae ?_
   refine dH 11 bz (by kernel_rfl) ?_
   refine t1 (aA Tryz.underlying120 rfl ef (by decide) rfl rfl) rfl<|t1 (au ef rfl rfl rfl) rfl<|t1 (aa rfl) rfl<|t1 (kT _ 8 rfl rfl rfl rfl (by omega) (by omega)) rfl<|t1 (lX (bN x l n j i / 8) Tryz.underlying68 aQ rfl rfl rfl rfl (by omega) rfl) rfl<|t1 (au aQ rfl rfl (H5 (by omega))) rfl<|t1 (aa rfl) rfl<|t1 (kg _ 8 rfl rfl rfl rfl (by omega)) rfl<|t1 (xS (bN x l n j i % 8) rfl rfl rfl (by omega)) rfl<|t1 (tP _ _ rfl rfl) rfl ?_
   refine t1 (lX (bN x l n j i / 8) Tryz.underlying68 aQ rfl rfl rfl rfl (by omega) rfl) rfl ?_
   refine dI ?_
   refine ak rfl (bZ aQ rfl rfl rfl rfl (by simp [hsl];omega) (LG _ _) ?_)
   refine ah<|bj<|ae<|ai<|s1 (bg _ 1 rfl rfl rfl rfl (by omega)) rfl<|s1 (aa rfl) rfl ?_
   refine ah ?_
   exact bu (i+1) (by omega) (by omega) [(6,some 6),(25,some 25)] hI rfl rfl ⟨⟨_,rfl,.p rfl⟩,⟨_,rfl,.pure pu⟩,⟨_,rfl,.pure pu⟩,⟨_,rfl,.pure pu⟩,trivial⟩ ⟨.inr ⟨_,_,rfl,rfl,.cons (.pure pu) (.cons (.pure pu) (.cons (.sl rfl rfl) .nil))⟩,.inr ⟨_,_,rfl,rfl,.of (by rfl) (.pure ar)⟩,trivial⟩
  ·have h30 : i = 2 := by have := of_decide_eq_false hc30; omega
   subst h30
   refine bE<|aO<|aO<|bF<|ae<|af<|ai<|s1 (aZ cG rfl rfl (by first|rfl|omega|(simp<;>omega)|(simp [*]<;>omega))) rfl ?_
   refine ak rfl (bo cG rfl rfl rfl (by first|rfl|omega|(simp<;>omega)|(simp [*]<;>omega)) (by first|rfl|omega|(simp<;>omega)|(simp [*]<;>omega)) ?_)
   refine s1 ((aa rfl).v (v':= .i .i64 0) rfl) rfl ?_
   refine ah<|ae<|aF ?_
   refine jQ 6 2 rfl rfl rfl rfl ar (cD (by simp) rfl) rfl ?_
   refine aG (rs:= [.cell 6 120,.tmp 7]) rfl (ct cG rfl rfl rfl rfl (aD rfl aC)) ?_
   show A.tu _=_
   rw [E3 hcs,jr,dz,xa];rfl
end Go.Abs.D2
-- F3E
namespace Go.Abs.D2
open Go Go.Eng Go.Abs Go.Proofs
end Go.Abs.D2
