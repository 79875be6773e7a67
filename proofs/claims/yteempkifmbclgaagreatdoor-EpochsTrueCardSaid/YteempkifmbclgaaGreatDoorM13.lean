/-
  The engine, the plain laws and the walks that the rows need, part 13. Conditions: none.
-/
import Derived.Test.YteempkifmbclgaaGreatDoorM12
import Derived.Lib.BufferWrite
set_option linter.unusedVariables false
set_option linter.unusedSimpArgs false
set_option maxHeartbeats 1000000
set_option maxRecDepth 10000
-- AbsX
namespace Go.Abs
open Go Go.Eng
theorem yV:∀ {l:List A} {i:Nat} {c:A},bG l→l[i]? =some c→Pure c
  | [],_,_,_,h=>by simp at h
  |_::_,0,_,hp,h=>by simp at h;subst h;exact hp.1
  |_::l,i+1,_,hp,h=>yV (l:=l) (i:=i) hp.2 (by simpa using h)
section
variable {P:Program} {w0:Bw} {X0:Xs} {n:Nat} {E:Ev} {st:St} {K:Act→World→Prop} {Q:Exit→Act→World→Prop}
theorem kJ {d:Nat} {t e:TypeId} {size by' zero agg} {len:Nat} {parts:List (Nat×Operand)} {vs cs:List A} {ty:TypeId} {pos av g} (ht:P.underlying t=some (.slice e)) (he:TI P e size by' zero agg)
    (hp:fk E parts 0=some vs) (hlen:len=vs.length) (hce:vs.all jh=true) (hcl:∀v∈vs,(aU v).length=size) (hfl:gU vs=cs) (hpu:bG cs) (hs:Nat.ble (len*size) 16777216=true) (hs2:Nat.ble len 16777216=true) (hd:Nat.ble (d+1) n=true)
    (h:At w0 X0 n ((d,.fz len cs)::E) st K):
    At w0 X0 n E st (fun a w=>(⟨some d,.buildSlice t len parts.toArray,ty,pos,av,g⟩:Oper).wp P a w K Q):=by
  rintro a w ⟨β,X,hr⟩
  subst hfl
  obtain⟨us,g1,g2,g3,g4,g5⟩:=xW hr hp (fun v hv=>⟨qF v (List.all_eq_true.1 hce v hv),hcl v hv⟩)
  refine Eng.gC (S:= [w]) (H:= []) (E:=full a) (n:=a.tmps.size) us ht he g1 rfl (by omega) g3 hs (by rw [hr.size];exact hd) (fun b hS hH a1 w1 hR hG=>?_) a w (dG a hr.defers) (Eng.Good.start w)
  have hb:w.heap.size≤b:=hS.1
  have hbel:=oL hG (by simp [hb])
  have hw:=hG.own _ (.head _)
  simp only at hw
  have hbl:b<w1.heap.size:=(Array.getElem?_eq_some_iff.1 hw).1
  obtain⟨m1,m2,m3⟩:=hr.mem.D7 (b:=b) (gU vs).length hbel hb hbl
  have hm2:=Nat.le_of_ble_eq_true hs2
  have hll:=cF g4
  refine h a1 w1 ⟨β,_,hr.next hR m2 m3 (bE.refl β) m1 ?_⟩
  simp only [V]
  refine⟨_,_,rfl,Nat.le_refl _,by simp only [maxLen];omega,(fun h=>by cases h),(fun _ x hx=>by cases hx;rfl),ku fun j c hj=>?_⟩
  have hjl:=(List.getElem?_eq_some_iff.1 hj).1
  obtain⟨u,q1,q2⟩:=fx g4 hj
  refine⟨.inr ⟨rfl,by simpa [ao]using hjl⟩,u,?_,dI m2 _ _ _ _ (bE.refl _) (kx _ _ (yV hpu hj) q2),g5 u (List.mem_of_getElem? q1)⟩
  simp only [ab,ao,Nat.zero_add,World.cell?,hw]
  simp [q1]
variable {r:Option Nat} {ds0:List Deferred} {N g:Nat} {E0:EV} {st0:St} {ops:Array Oper} {nn:Nat} {plan:List bM} {rest:List Oper} {d:Nat} {ty:TypeId} {pos:String} {aft':Array Edge} {gd:Option (Nat×Bool)}
theorem th {t e:TypeId} {size by' zero agg} {len:Nat} {parts:List (Nat×Operand)} {vs cs:List A} (k0:Nat) (deps:List Nat) (hg:fD ops (b9 (E0.at k0) deps k0 E) gd) (ht:P.underlying t=some (.slice e)) (he:TI P e size by' zero agg)
    (hp:fk (b9 (E0.at k0) deps k0 E) parts 0=some vs) (hlen:len=vs.length) (hce:vs.all jh=true) (hcl:∀v∈vs,(aU v).length=size) (hfl:gU vs=cs) (hpu:bG cs) (hs:Nat.ble (len*size) 16777216=true) (hs2:Nat.ble len 16777216=true) (hb:Nat.ble (d+1) N=true) (hd:eW k0 deps []=true)
    (h:FS r ds0 P w0 X0 N Q ops nn g E0 st0 (plan++ [⟨d,.fz len cs,deps, [], [], [], []⟩]) (k0+1) ((d,.fz len cs)::E) st rest):FS r ds0 P w0 X0 N Q ops nn g E0 st0 plan k0 E st (⟨some d,.buildSlice t len parts.toArray,ty,pos,aft',gd⟩::rest):=
  gW ⟨d,.fz len cs,deps, [], [], [], []⟩ (fun hk hE _ _ _ hD _ _ hK=>have he':=hD.fin hE hk;iQ hg he' (kJ ht he (xV he' hp) hlen hce hcl hfl hpu hs hs2 hb hK)) hd h
end
end Go.Abs
-- C4S
namespace Go.Abs.D2
open Go Go.Eng Go.Abs
abbrev bH (n:Int):CV:= .mk 1 n [] []
abbrev cY (s:List UInt8):CV:= .mk 2 0 s []
abbrev cR (l:List CV):CV:= .mk 3 0 [] l
abbrev fI (f:cL):CV:=cR [bH f.nb,cY f.D]
def fR (c:bQ):CV:=cR [cY c.x,cR (c.F.map fI),cR (c.E.map bH)]
def CV.kd:CV→Int| .mk k _ _ _=>k
def CV.nm:CV→Int| .mk _ n _ _=>n
def CV.st:CV→List UInt8| .mk _ _ s _=>s
def CV.ls:CV→List CV| .mk _ _ _ l=>l
theorem nv (n:Int):(bH n).okB=true:=by rw [CV.okB,if_pos rfl];rfl
theorem tZ (s:List UInt8):(cY s).okB=true:=by rw [CV.okB,if_neg (by decide),if_pos rfl];rfl
theorem nw {l:List CV} (h:∀v∈l,v.okB=true):(cR l).okB=true:=by
  rw [CV.okB,if_neg (by decide),if_neg (by decide),if_pos rfl,CV.lI,List.all_eq_true.2 h];rfl
theorem KJ (f:cL):(fI f).okB=true:=nw fun v hv=>by
  simp only [List.mem_cons,List.not_mem_nil,or_false]at hv
  rcases hv with rfl|rfl
  · exact nv _
  · exact tZ _
theorem C9 (c:bQ):(fR c).okB=true:=nw fun v hv=>by
  simp only [List.mem_cons,List.not_mem_nil,or_false]at hv
  rcases hv with rfl|rfl|rfl
  · exact tZ _
  · exact nw fun v hv=>by obtain⟨f,_,rfl⟩:=List.mem_map.1 hv;exact KJ f
  · exact nw fun v hv=>by obtain⟨f,_,rfl⟩:=List.mem_map.1 hv;exact nv f
theorem m0 {l:List CV} {d:Nat} (h:∀v∈l,v.depth≤d):(cR l).depth≤d+1:=by
  rw [CV.depth,if_pos rfl];have:=AE h;omega
theorem mZ (n:Int):(bH n).depth=0:=by rw [CV.depth,if_neg (by decide)]
theorem sL (s:List UInt8):(cY s).depth=0:=by rw [CV.depth,if_neg (by decide)]
theorem Hs (c : bQ) : (fR c).depth ≤ 16 := by
  refine Nat.le_trans (m0 (d:=2) fun v hv=>?_) (by omega)
  simp only [List.mem_cons,List.not_mem_nil,or_false]at hv
  rcases hv with rfl|rfl|rfl
  · rw [sL];omega
  · exact m0 (d:=1) fun v hv=>by
      obtain⟨f,_,rfl⟩:=List.mem_map.1 hv
      exact m0 (d:=0) fun v hv=>by
        simp only [List.mem_cons,List.not_mem_nil,or_false]at hv
        rcases hv with rfl|rfl
        · rw [mZ];exact Nat.le_refl _
        · rw [sL];exact Nat.le_refl _
  · exact m0 (d:=1) fun v hv=>by obtain⟨f,_,rfl⟩:=List.mem_map.1 hv;rw [mZ];omega
theorem nE {n:Int} (h0: -9223372036854775808≤n) (h1:n≤9223372036854775807):(bH n).dN=true:=by simp [CV.dN,CV.kP,h0,h1]
theorem uy (s:List UInt8):(cY s).dN=true:=by simp [CV.dN,CV.kP]
theorem nF {l:List CV} (h:∀v∈l,v.dN=true):(cR l).dN=true:=by
  simp only [CV.dN,CV.ri,List.all_eq_true.2 h];rfl
theorem Ad {c:bQ} (h:dK c=true):∀f∈c.F,0≤f.nb∧f.nb≤4096∧f.D.length≤512:=fun f hf=>by
  obtain⟨i,hi⟩:=List.mem_iff_getElem?.1 hf
  obtain⟨_,n,h1,h2,h3,h4,_⟩:=GH h hi
  omega
theorem DQ {c : bQ} (h : dK c = true) : (fR c).dN = true := nF fun v hv => by
  simp only [List.mem_cons,List.not_mem_nil,or_false]at hv
  rcases hv with rfl|rfl|rfl
  · exact uy _
  · exact nF fun v hv=>by
      obtain⟨f,hf,rfl⟩:=List.mem_map.1 hv
      obtain⟨h1,h2,_⟩:=Ad h f hf
      exact nF fun v hv=>by
        simp only [List.mem_cons,List.not_mem_nil,or_false]at hv
        rcases hv with rfl|rfl
        · exact nE (by omega) (by omega)
        · exact uy _
  · exact nF fun v hv=>by
      obtain⟨n,hn,rfl⟩:=List.mem_map.1 hv
      obtain⟨_,he,_⟩:=sD h
      have:=tI he n hn
      exact nE (by omega) (by omega)
theorem wE {l:List CV} {k:Nat} (h:∀v∈l,v.enc.length≤k):(CV.bK l).length≤l.length*k:=by
  induction l with
  |nil=>simp [CV.bK]
  | cons v l ih =>
    have h1:=h v (.head _)
    have h2:=ih fun u hu=>h u (.tail _ hu)
    rw [CV.bK,List.length_append,List.length_cons,Nat.succ_mul];omega
theorem m7 {n:Int} (h0: -9223372036854775808≤n) (h1:n≤9223372036854775807):(bH n).enc.length≤12:=by
  have:=qK (lR h0 h1)
  rw [CV.enc,if_pos rfl,List.length_cons];omega
theorem sR {s:List UInt8} (h:s.length<2 ^ 64):(cY s).enc.length≤s.length+12:=by
  have:=qK h
  rw [CV.enc,if_neg (by decide),if_pos rfl,List.length_cons,List.length_append];omega
theorem m8 {l:List CV} (h:l.length<2 ^ 64):(cR l).enc.length≤(CV.bK l).length+12:=by
  have:=qK h
  rw [CV.enc,if_neg (by decide),if_neg (by decide),List.length_cons,List.length_append];omega
theorem zt:∀ {l:List Int} {last:Int},dQ last l=true→last<1024→last+l.length<1024
  | [],last,_,h=>by simpa using h
  | n :: l, last, h, _ => by
    simp only [dQ,Bool.and_eq_true,decide_eq_true_eq]at h
    have:=zt h.2 h.1.2
    simp only [List.length_cons];omega
theorem Cu {l:List Int} (h:cH l=true):l.length≤1024:=by
  have:=zt h (by omega)
  omega
theorem wF {c:bQ} (h:dK c=true) (hx:c.x.length=32):(fR c).enc.length≤30000:=by
  obtain⟨h1,h2,_⟩:=sD h
  have he:=Cu h2
  have e1:(cY c.x).enc.length≤44:=by have:=sR (s:=c.x) (by omega);omega
  have e2:(cR (c.F.map fI)).enc.length≤10000:=by
    have q1:=m8 (l:=c.F.map fI) (by rw [List.length_map];omega)
    have q2:=wE (l:=c.F.map fI) (k:=600) fun v hv=>by
      obtain⟨f,hf,rfl⟩:=List.mem_map.1 hv
      obtain⟨k1,k2,k3⟩:=Ad h f hf
      have q3:(fI f).enc.length≤_:=m8 (l:= [bH f.nb,cY f.D]) (by simp)
      have q4:=m7 (n:=f.nb) (by omega) (by omega)
      have q5:=sR (s:=f.D) (by omega)
      simp only [CV.bK,List.length_append,List.length_nil]at q3
      omega
    rw [List.length_map]at q2
    omega
  have e3:(cR (c.E.map bH)).enc.length≤12300:=by
    have q1:=m8 (l:=c.E.map bH) (by rw [List.length_map];omega)
    have q2:=wE (l:=c.E.map bH) (k:=12) fun v hv=>by
      obtain⟨n,hn,rfl⟩:=List.mem_map.1 hv
      have:=tI h2 n hn
      exact m7 (by omega) (by omega)
    rw [List.length_map]at q2
    omega
  have q:=m8 (l:= [cY c.x,cR (c.F.map fI),cR (c.E.map bH)]) (by simp)
  simp only [CV.bK,List.length_append,List.length_nil]at q
  show(cR _).enc.length≤_
  omega
theorem LC {c:bQ} (h:dK c=true):Rd 16 (fR c):=⟨C9 c,Hs c,DQ h⟩
def Dk (v:CV) (ks:List Int):Bool:=decide (v.kd=3)&&(v.ls.map CV.kd==ks)
def dM (v:CV) (i:Nat):CV:=v.ls.getD i zV
def Bk (i:Nat) (v:CV):cL:=⟨i,(dM v 0).nm,(dM v 1).st⟩
def sY (l:List CV):List cL:=l.mapIdx Bk
@[simp] theorem len_filsR (l:List CV):(sY l).length=l.length:=by simp [sY]
def OM (v:CV):Bool:=Dk v [2,3,3]&&decide ((dM v 0).st.length=32)&&(dM v 1).ls.all (fun e=>Dk e [1,2])&&(dM v 2).ls.all (fun e=>decide (e.kd=1))
def xX (v:CV):bQ:=⟨(dM v 0).st,sY (dM v 1).ls,(dM v 2).ls.map CV.nm⟩
@[irreducible] def encCA (c:bQ):A:=if dK c then .tu [.fz (fR c).enc.length ((fR c).enc.map u8),.i .i64 0]else .tu [.nl,.i .i64 340]
theorem A3 {c:bQ} (h:dK c=true):encCA c= .tu [.fz (fR c).enc.length ((fR c).enc.map u8),.i .i64 0]:=by unfold encCA;rw [h];rfl
theorem A2 {c:bQ} (h:dK c=false):encCA c= .tu [.nl,.i .i64 340]:=by unfold encCA;rw [h];rfl
theorem uP {l:List CV} {m:Nat} (h:m=l.length):((CV.bz l).drop 0).take (m*4)=CV.bz l:=by subst h;exact CV.qh l
theorem ud (v:CV):aU (A.ag (CV.cells v))++ []=CV.cells v:=List.append_nil _
theorem Ij {F:List cL} {i:Nat} {f:cL} (h:F[i]? =some f):CV.bz ((F.take i).map fI)++CV.cells (fI f)=CV.bz ((F.take (i+1)).map fI):=by
  rw [CV.zW,List.take_add_one,h];simp
theorem I8 {E:List Int} {i:Nat} {q:Int} (h:E[i]? =some q):CV.bz ((E.take i).map bH)++CV.cells (bH q)=CV.bz ((E.take (i+1)).map bH):=by
  rw [CV.zW,List.take_add_one,h];simp
theorem Gr {c:bQ} (hx:c.x.length=32):A.fz 32 (((eH c).drop (0*1)).take (32*1))= .fz c.x.length (c.x.map u8):=by
  rw [Nat.zero_mul,List.drop_zero,Gt hx,hx]
theorem HK {c:bQ} (h:dK c=true):encA (fR c)= .tu [.fz (fR c).enc.length ((fR c).enc.map u8),.i .i64 0]:=oz (LC h).vS
abbrev yx:List UInt8:= [99,97,115,99,97,100,101]
@[irreducible] def lj (c:bQ):List UInt8:=tagged yx (fR c).enc
theorem AK (c:bQ):lj c=tagged yx (fR c).enc:=by unfold lj;rfl
@[simp] theorem Cj (c:bQ):(lj c).length=32:=by rw [AK];simp
@[irreducible] def digCA (c:bQ):A:=if dK c then .tu [.ag ((lj c).map u8),.i .i64 0]else .tu [.ag (jM.map u8),.i .i64 340]
theorem wx {c:bQ} (h:dK c=true):digCA c= .tu [.ag ((lj c).map u8),.i .i64 0]:=by unfold digCA;rw [h];rfl
theorem Hv {c:bQ} (h:dK c=false):digCA c= .tu [.ag (jM.map u8),.i .i64 340]:=by unfold digCA;rw [h];rfl
theorem MZ {c:bQ} (h:dK c=true) (hx:c.x.length=32):(fR c).size≤1000000:=by
  have h1:=CV.yn (fR c).size (fR c) (Nat.le_refl _) (C9 c)
  have h2:=wF h hx
  omega
theorem CF:∀ {l:List CV} {v:CV},v∈l→v.enc.length≤(CV.bK l).length
  | [],_,h=>by cases h
  | u :: l, v, h => by
    rw [CV.bK,List.length_append]
    rcases List.mem_cons.1 h with rfl|h
    · omega
    · have:=CF h;omega
theorem HM (n:Int) (s:List UInt8) (l:List CV):(CV.bK l).length≤(CV.mk 3 n s l).enc.length:=by
  rw [CV.enc,if_neg (by decide),if_neg (by decide),List.length_cons,List.length_append];omega
theorem HL (n:Int) (s:List UInt8) (l:List CV):s.length≤(CV.mk 2 n s l).enc.length:=by
  rw [CV.enc,if_neg (by decide),if_pos rfl,List.length_cons,List.length_append];omega
end Go.Abs.D2
-- Abs1
namespace Go.Eng
open Go Go.MapKept
def lh (f:Int→Option Value) (k:Int):Int→Option Value:=fun j=>if j=k then none else f j
theorem c7.erase {es:Array MapEntry} {clk:Nat} {f:Int→Option Value} (h:c7 es clk f) {k:Int} {j:Nat} {e:MapEntry} (hj:es[j]? =some e) (he:e.key= .int .i64 k):c7 (es.eraseIdxIfInBounds j) clk (lh f k):=by
  have hlt:=(Array.getElem?_eq_some_iff.1 hj).1
  have hmem:∀x,x∈(es.eraseIdxIfInBounds j).toList↔∃i,i≠j∧es.toList[i]? =some x:=fun x=>by
    unfold Array.eraseIdxIfInBounds
    rw [dif_pos hlt,Array.toList_eraseIdx]
    exact List.mem_eraseIdx_iff_getElem?
  have hnd:=h.st.2.2
  have hkey:∀i x,i≠j→es.toList[i]? =some x→x.key≠ .int .i64 k:=fun i x hij hx hk=>by
    have g1:(es.toList.map (·.key))[j]? =some (.int .i64 k):=by rw [List.getElem?_map,Array.getElem?_toList,hj];simp [he]
    have g2:(es.toList.map (·.key))[i]? =some (.int .i64 k):=by rw [List.getElem?_map,hx];simp [hk]
    have hl:=(List.getElem?_eq_some_iff.1 g1).1
    exact hij ((List.getElem?_inj hl hnd).1 (g1.trans g2.symm)).symm
  refine⟨stamped_erase h.st _,fun x hx=>?_,fun i v hi=>?_⟩
  · obtain ⟨i, hij, hx⟩ := (hmem x).1 hx
    obtain⟨q,e1,e2⟩:=h.ent x (List.mem_of_getElem? hx)
    refine⟨q,e1,?_⟩
    unfold lh
    rw [if_neg (fun e=>hkey i x hij hx (by rw [e1,e])),e2]
  · unfold lh at hi
    split at hi
    · cases hi
    · rename_i hne
      obtain⟨x,hx,e1⟩:=h.has i v hi
      obtain⟨q,hq⟩:=List.mem_iff_getElem?.1 hx
      refine⟨x,(hmem x).2 ⟨q,fun e2=>?_,hq⟩,e1⟩
      subst e2
      rw [Array.getElem?_toList,hj]at hq
      simp only [Option.some.injEq]at hq
      subst hq
      rw [he]at e1
      simp only [Value.int.injEq,true_and]at e1
      exact hne e1.symm
def fU (x:MapEntry):Int:=match x.key with
  | .int _ k=>k
  |_=>0
theorem c7.size {es:Array MapEntry} {clk:Nat} {f:Int→Option Value} (h:c7 es clk f) {L:List Int} (hn:L.Nodup) (hL:∀k,(f k).isSome=true↔k∈L):es.size=L.length:=by
  have hk:∀x∈es.toList,x.key= .int .i64 (fU x)∧f (fU x)=some x.val:=fun x hx=>by
    obtain⟨k,e1,e2⟩:=h.ent x hx
    have:fU x=k:=by unfold fU;rw [e1]
    rw [this];exact⟨e1,e2⟩
  have hnd:(es.toList.map fU).Nodup:=by
    have h3:=h.st.2.2
    rw [List.nodup_iff_pairwise_ne]at h3 ⊢
    rw [List.pairwise_map]at h3 ⊢
    refine h3.imp_of_mem fun {a b} ha hb hne e=>hne ?_
    rw [(hk a ha).1,(hk b hb).1,e]
  have hp:(es.toList.map fU).Perm L:=(List.perm_ext_iff_of_nodup hnd hn).2 fun k=>by
    rw [←hL k,List.mem_map]
    constructor
    · rintro ⟨x, hx, rfl⟩
      rw [(hk x hx).2];rfl
    · intro hs
      obtain⟨v,hv⟩:=Option.isSome_iff_exists.1 hs
      obtain⟨x,hx,e⟩:=h.has k v hv
      exact⟨x,hx,by unfold fU;rw [e]⟩
  have:=hp.length_eq
  rw [List.length_map]at this
  simpa using this
end Go.Eng
namespace Go.Abs
open Go Go.Eng Go.MapKept
section
variable {w0:Bw} {β:Bm} {X:Xs} {st:St} {w:World}
theorem Mem.Lu (hm : Mem w0 β X st w) (hf : st.free bZ = true) :
    Mem w0 (bT β bZ (.mp w.heap.size)) X (st.put bZ [.mc w.heap.size (fun _=>none)]) {w with heap:=w.heap.push (.map #[] 0)}∧bU X X w {w with heap:=w.heap.push (.map #[] 0)}:=by
  have hbel:RowKit.Below w.heap.size w {w with heap:=w.heap.push (.map #[] 0)}:=⟨rfl,rfl,rfl,by simp,fun k hk=>by simp [Array.getElem?_push,Nat.ne_of_lt hk]⟩
  have hx:bU X X w {w with heap:=w.heap.push (.map #[] 0)}:=fun q o h=>⟨h,World.cell?_of_block (w:=w) (hbel.block q (hm.xlt q o h))⟩
  have hnx:=hm.dom bZ hf
  refine⟨.of (hm.below.trans hbel) (fun k y h=>(b5 hnx) k y (hm.b0 k y h)) (fun q o h=>Nat.lt_of_lt_of_le (hm.xlt q o h) hbel.size) (fun k h=>?_) (fun k ds hg=>?_) (fun i j ci cj q M N' hij hi hj hbi hbj=>?_),hx⟩
  · rw [St.ef] at h
    split at h
    · cases h
    · rename_i hne
      rw [bW (fun e=>hne e.symm)]
      exact hm.dom k h
  · rw [St.b6] at hg
    split at hg
    · rename_i e; subst e
      simp only [Option.some.injEq]at hg
      subst hg
      unfold OB
      rw [bq]
      exact⟨rfl,Bw.j3 hm.below (Nat.le_refl _),fun o h=>absurd (hm.xlt _ o h) (Nat.lt_irrefl _),_, #[],0,rfl,by simp,c7.empty 0⟩
    · refine (hm.obj k ds hg).later hx (b5 hnx) (fun q M hq => ?_) fun q hq => ⟨hbel.block q ((hm.obj k ds hg).np hq), ((hm.obj k ds hg).dW hq).2.2.1⟩
      have h:=(hm.obj k ds hg).kK hq rfl
      exact⟨hbel.block q h.1,h.2.2⟩
  · rw [St.b6] at hi hj
    by_cases ei:bZ=i
    · subst ei;rw [bq]at hbi;cases hbi
    · rw [if_neg ei] at hi
      rw [bW (fun e=>ei e.symm)]at hbi
      by_cases ej:bZ=j
      · subst ej;rw [bq]at hbj;cases hbj
      · rw [if_neg ej] at hj
        rw [bW (fun e=>ej e.symm)]at hbj
        exact hm.inj i j ci cj q M N' hij hi hj hbi hbj
theorem Mem.D9 (hm : Mem w0 β X st w) {b : Nat} {f f' : Int → Option Value} {es : Array MapEntry} {clk : Nat} {w1 : World} (hg : st.get bZ = some [.mc b f]) (hF : c7 es clk f') (hG : Eng.Good [w] [(b, .map es clk)] w1) :
    Mem w0 β X (st.put bZ [.mc b f']) w1∧bU X X w w1:=by
  have ho:=hm.obj bZ _ hg
  obtain⟨y,hβ,hy⟩:∃y,β bZ=some y∧y= .mp b:=by
    have ho2:=ho
    unfold OB at ho2
    cases hb:β bZ with
    |none=>rw [hb]at ho2;exact ho2.elim
    | some y =>
      rw [hb]at ho2
      cases y with
      |ph=>cases ho2
      | bk q N =>
        obtain⟨_,_,us,rest,ty,_,_,h5,_⟩:=ho2
        simp only [VS,V]at h5
        obtain⟨_,_,_,h,_⟩:=h5
        exact h.elim
      | mp q =>
        obtain⟨_,_,_,g,_,_,e,_⟩:=ho2
        simp only [List.cons.injEq,A.mc.injEq,and_true]at e
        exact⟨_,rfl,by rw [e.1]⟩
  subst hy
  obtain⟨_,hown,hnX,g,es0,clk0,_,hb0,_⟩:=ho.dW hβ
  have hlt:=(Array.getElem?_eq_some_iff.1 hb0).1
  have hsn:=hG.snap w (.head _)
  have hblk:∀k,k<w.heap.size→k≠b→w1.heap[k]? =w.heap[k]? :=fun k hk hne=>hsn.blk k hk (fun p hp=>by simp only [List.mem_singleton]at hp;subst hp;exact fun e=>hne e.symm)
  have hw1:=hG.own _ (.head _)
  simp only at hw1
  have hx:bU X X w w1:=fun q o h=>⟨h,World.cell?_of_block (w:=w) (hblk q (hm.xlt q o h) fun e=>by subst e;exact hnX o h)⟩
  refine⟨.of ⟨hsn.os.trans hm.below.os,hsn.tape.trans hm.below.tape,hsn.output.trans hm.below.output,Nat.le_trans hm.below.size hsn.size,fun k hk hM=>?_,fun s hs=>?_⟩ hm.b0 (fun q o h=>Nat.lt_of_lt_of_le (hm.xlt q o h) hsn.size) (fun k h=>?_) (fun k ds hk=>?_) (fun i j ci cj q M N' hij hi hj hbi hbj=>?_),hx⟩
  · rw [hblk k (Nat.lt_of_lt_of_le hk hm.below.size) (fun e => by
      subst e
      rcases hown with h|h
      · omega
      · exact hM h)]
    exact hm.below.block k hk hM
  · refine cg.oP (hm.below.sus s hs) fun q hq => hblk q (by rcases hq with hq | ⟨r, hq⟩ <;> exact (Array.getElem?_eq_some_iff.1 hq).1) fun e => ?_
    subst e
    rw [hb0]at hq
    rcases hq with h|⟨_,h⟩<;>cases h
  · rw [St.ef] at h
    split at h
    · cases h
    · exact hm.dom k h
  · rw [St.b6] at hk
    split at hk
    · rename_i e; subst e
      simp only [Option.some.injEq]at hk
      subst hk
      unfold OB
      rw [hβ]
      exact⟨rfl,hown,hnX,f',es,clk,rfl,hw1,hF⟩
    · rename_i hne
      have key:∀(y:BL) (q:Nat),β k=some y→y.on q→w1.heap[q]? =w.heap[q]? ∧∀o,¬X q o:=fun y q hq hyq=>
        ⟨hblk q ((hm.obj k ds hk).kK hq hyq).1 fun e=>by subst e;exact hm.apart hne hg hk hβ hq rfl hyq,((hm.obj k ds hk).kK hq hyq).2.2⟩
      exact(hm.obj k ds hk).later hx (bE.refl β) (fun q M hq=>key _ q hq rfl) fun q hq=>key _ q hq rfl
  · have g : ∀ (k : Nat) (c : List A), (st.put bZ [.mc b f']).get k = some c → ∃ c', st.get k = some c' := fun k c hk => by
      rw [St.b6]at hk
      split at hk
      · rename_i e;subst e;exact⟨_,hg⟩
      · exact⟨_,hk⟩
    obtain⟨c1,h1⟩:=g i ci hi
    obtain⟨c2,h2⟩:=g j cj hj
    exact hm.inj i j c1 c2 q M N' hij h1 h2 hbi hbj
theorem Mem.tK (hm:Mem w0 β X st w) {b:Nat} {f:Int→Option Value} (hg:st.get bZ=some [.mc b f]):∃es clk,w.heap[b]? =some (.map es clk)∧c7 es clk f:=by
  have ho:=hm.obj bZ _ hg
  unfold OB at ho
  cases hb:β bZ with
  |none=>rw [hb]at ho;exact ho.elim
  | some y =>
    rw [hb]at ho
    cases y with
    |ph=>cases ho
    | bk q N =>
      obtain⟨_,_,us,rest,ty,_,_,h5,_⟩:=ho
      simp only [VS,V]at h5
      obtain⟨_,_,_,h,_⟩:=h5
      exact h.elim
    | mp q =>
      obtain⟨_,_,_,g,es,clk,e,h4,h5⟩:=ho
      simp only [List.cons.injEq,A.mc.injEq,and_true]at e
      obtain⟨e1,e2⟩:=e
      subst e1;subst e2
      exact⟨es,clk,h4,h5⟩
end
section
variable {P:Program} {w0:Bw} {X0:Xs} {n:Nat} {E:Ev} {st:St} {K:Act→World→Prop} {Q:Exit→Act→World→Prop}
theorem xz {d:Nat} {t ty:TypeId} {pos av g} (hf:st.free bZ=true) (hd:Nat.ble (d+1) n=true)
    (h:∀b,At w0 X0 n ((d,.raw (.map (some b)))::E) (st.put bZ [.mc b (fun _=>none)]) K):At w0 X0 n E st (fun a w=>(⟨some d,.makeMap t none,ty,pos,av,g⟩:Oper).wp P a w K Q):=by
  rintro a w ⟨β,X,hr⟩
  obtain⟨hm,hx⟩:=hr.mem.Lu hf
  have hrun:(execOp a.eval ⟨some d,.makeMap t none,ty,pos,av,g⟩).run P w= .ok (.value (.map (some w.heap.size))) {w with heap:=w.heap.push (.map #[] 0)}:=by
    simp [execOp,Instr.makeMap]
  unfold Oper.wp
  rw [hrun]
  exact h w.heap.size _ _ ⟨_,X,hr.gF hd hx (fun _ _ h=> .inl h) (b5 (hr.mem.dom bZ hf)) hm (by simp only [V])⟩
theorem tR {t kt et ty:TypeId} {pos av g} {x y z:Operand} {b:Nat} {f:Int→Option Value} {k v:Int} {kv:IntKind} (hm:P.underlying t=some (.map kt et)) (hk:P.underlying kt=some (.int .i64))
    (hx:ev E x=some (.raw (.map (some b)))) (hy:ev E y=some (.i .i64 k)) (hz:ev E z=some (.i kv v)) (hg:st.get bZ=some [.mc b f])
    (h:At w0 X0 n E (st.put bZ [.mc b (gM f k (.int kv v))]) K):At w0 X0 n E st (fun a w=>(⟨none,.mapUpdate t x y z,ty,pos,av,g⟩:Oper).wp P a w K Q):=by
  rintro a w ⟨β,X,hr⟩
  obtain⟨e1,e2⟩:=hr.bc hx
  obtain⟨e3,e4⟩:=hr.bc hy
  obtain⟨e5,e6⟩:=hr.bc hz
  simp only [V]at e2 e4 e6
  rw [e2]at e1;rw [e4]at e3;rw [e6]at e5
  obtain⟨es,clk,hb,hF⟩:=hr.mem.tK hg
  refine Eng.tR (S:= [w]) (H:= [(b,.map es clk)]) (E:=full a) (n:=a.tmps.size) 0 hm hk e1 e3 e5 rfl hF (fun es' clk' hF' a1 w1 hR hG=>?_) a w (dG a hr.defers) (lD hb)
  obtain⟨m1,m2⟩:=hr.mem.D9 (w1:=w1) hg hF' hG
  exact h a1 w1 ⟨β,X,hr.eP hR m2 (fun _ _ h=> .inl h) (bE.refl β) m1⟩
theorem nR {t kt et ty : TypeId} {x y : Operand} {b : Nat} {f : Int → Option Value} {k m : Int} {kv : IntKind} (hm : P.underlying t = some (.map kt et)) (hk : P.underlying kt = some (.int .i64)) (hz0 : ∀ w, (zeroValue et).run P w = .ok (.int kv 0) w)
    (hx:ev E x=some (.raw (.map (some b)))) (hy:ev E y=some (.i .i64 k)) (hg:st.get bZ=some [.mc b f]) (hf:(f k).getD (.int kv 0)= .int kv m):YO P E st (.lookup t x y false) ty (.i kv m):=by
  intro w0 X0 n β X a w hr
  obtain⟨e1,e2⟩:=hr.bc hx
  obtain⟨e3,e4⟩:=hr.bc hy
  simp only [V]at e2 e4
  rw [e2]at e1;rw [e4]at e3
  have ho:=hr.memq.obj bZ _ hg
  obtain⟨hβ,es,clk,hb,hF⟩:β bZ=some (.mp b)∧∃es clk,w.heap[b]? =some (.map es clk)∧c7 es clk f:=by
    unfold OB at ho
    cases hb:β bZ with
    |none=>rw [hb]at ho;exact ho.elim
    | some y =>
      rw [hb]at ho
      cases y with
      |ph=>cases ho
      | bk q N =>
        obtain⟨_,_,us,rest,ty,_,_,h5,_⟩:=ho
        simp only [VS,V]at h5
        obtain⟨_,_,_,h,_⟩:=h5
        exact h.elim
      | mp q =>
        obtain⟨_,_,_,g,es,clk,e,h4,h5⟩:=ho
        simp only [List.cons.injEq,A.mc.injEq,and_true]at e
        obtain⟨e1,e2⟩:=e
        subst e1;subst e2
        exact⟨rfl,es,clk,h4,h5⟩
  refine⟨.int kv m,by simp only [V],fun d pos av g w' hs=>?_⟩
  have hb':w'.heap[b]? =some (.map es clk):=(hs.map _ _ _ hg hβ).trans hb
  have hy:=Eng.nR (P:=P) (S:= [w']) (H:= [(b,.map es clk)]) (E:=full a) (n:=a.tmps.size) (ty:=ty) 0 hm hk hz0 e1 e3 rfl hF
  rw [hf]at hy
  exact hy d pos av g a w' (dG a hr.defers) (lD hb')
theorem Kj {t kt et ty : TypeId} {ats : Array TypeId} {pos av g} {x y : Operand} {b : Nat} {f : Int → Option Value} {k : Int} (hm : P.underlying t = some (.map kt et)) (hk : P.underlying kt = some (.int .i64)) (hat : ats = #[t, kt])
    (hx:ev E x=some (.raw (.map (some b)))) (hy:ev E y=some (.i .i64 k)) (hg:st.get bZ=some [.mc b f])
    (h:At w0 X0 n E (st.put bZ [.mc b (lh f k)]) K):At w0 X0 n E st (fun a w=>(⟨none,.call {callee:= .builtin .delete,args:= #[x,y],argTypes:=ats},ty,pos,av,g⟩:Oper).wp P a w K Q):=by
  subst hat
  rintro a w ⟨β,X,hr⟩
  obtain⟨e1,e2⟩:=hr.bc hx
  obtain⟨e3,e4⟩:=hr.bc hy
  simp only [V]at e2 e4
  rw [e2]at e1;rw [e4]at e3
  have f1:=(dG a hr.defers).ev e1
  have f3:=(dG a hr.defers).ev e3
  obtain⟨es,clk,hb,hF⟩:=hr.mem.tK hg
  have hkk:IsKey (.int .i64) (Value.int .i64 k):=rfl
  obtain ⟨es', hF', hrun⟩ : ∃ es', c7 es' clk (lh f k) ∧ (execOp a.eval ⟨none, .call { callee := .builtin .delete, args := #[x, y], argTypes := #[t, kt] }, ty, pos, av, g⟩).run P w = .ok (.value (.tuple #[])) { w with heap := w.heap.setIfInBounds b (.map es' clk) } := by
    rcases findNow_spec hkk es.toList 0 hF.keys with ⟨h1,h2⟩|⟨j,e,h1,h2,h3⟩
    · refine ⟨es, ?_, ?_⟩
      · have : lh f k = f := by
          funext i
          unfold lh
          split
          · rename_i e; subst e
            cases hf:f i with
            |none=>rfl
            |some v=>obtain⟨q,hq,e⟩:=hF.has i v hf;exact absurd e (h2 q hq)
          · rfl
        rw [this];exact hF
      · simp [execOp,resolve,invoke,builtin,f1,f3,Builtin.delete_,run_underlying hm,MapKept.run_getObj_map hb,MapKept.run_checkKey hk hkk,MapKept.run_findKey hk h1,MapKept.run_setObj_map _ hb,Result.andThen]
    · have hj : es[j]? = some e := by simpa using h2
      refine⟨_,hF.erase hj h3,?_⟩
      simp [execOp,resolve,invoke,builtin,f1,f3,Builtin.delete_,run_underlying hm,MapKept.run_getObj_map hb,MapKept.run_checkKey hk hkk,MapKept.run_findKey hk h1,MapKept.run_setObj_map _ hb,Result.andThen]
  obtain⟨m1,m2⟩:=hr.mem.D9 (w1:= {w with heap:=w.heap.setIfInBounds b (.map es' clk)}) hg hF' ((lD hb).set 0 rfl rfl rfl rfl (by simp) (heap_set hb).1 (fun q hq=>(heap_set hb).2 q hq))
  unfold Oper.wp
  rw [hrun]
  exact h a _ ⟨β,X,hr.eP (dG a hr.defers) m2 (fun _ _ h=> .inl h) (bE.refl β) m1⟩
theorem MemQ.tK {β:Bm} {X:Xs} {w:World} (hm:MemQ w0 β X st w) {b:Nat} {f:Int→Option Value} (hg:st.get bZ=some [.mc b f]):β bZ=some (.mp b)∧∃es clk,w.heap[b]? =some (.map es clk)∧c7 es clk f:=by
  have ho:=hm.obj bZ _ hg
  unfold OB at ho
  cases hb:β bZ with
  |none=>rw [hb]at ho;exact ho.elim
  | some y =>
    rw [hb]at ho
    cases y with
    |ph=>cases ho
    | bk q N =>
      obtain⟨_,_,us,rest,ty,_,_,h5,_⟩:=ho
      simp only [VS,V]at h5
      obtain⟨_,_,_,h,_⟩:=h5
      exact h.elim
    | mp q =>
      obtain⟨_,_,_,g,es,clk,e,h4,h5⟩:=ho
      simp only [List.cons.injEq,A.mc.injEq,and_true]at e
      obtain⟨e1,e2⟩:=e
      subst e1;subst e2
      exact⟨rfl,es,clk,h4,h5⟩
theorem N6 {t kt et ty:TypeId} {x:Operand} {b:Nat} {f:Int→Option Value} (L:List Int) (hm:P.underlying t=some (.map kt et)) (hx:ev E x=some (.raw (.map (some b)))) (hg:st.get bZ=some [.mc b f]) (hn:L.Nodup) (hL:∀k,(f k).isSome=true↔k∈L):
    YO P E st (.call {callee:= .builtin .len,args:= #[x],argTypes:= #[t]}) ty (.i .i64 (L.length:Nat)):=by
  intro w0 X0 n β X a w hr
  obtain⟨e1,e2⟩:=hr.bc hx
  simp only [V]at e2
  rw [e2]at e1
  have f1:=(dG a hr.defers).ev e1
  obtain⟨hβ,es,clk,hb,hF⟩:=hr.memq.tK hg
  have hs:=hF.size hn hL
  refine⟨.int .i64 (L.length:Nat),by simp only [V],fun d pos av g w' hsm=>?_⟩
  have hb':w'.heap[b]? =some (.map es clk):=(hsm.map _ _ _ hg hβ).trans hb
  simp [execOp,resolve,invoke,builtin,f1,Builtin.len_,run_underlying hm,MapKept.run_getObj_map hb',Result.andThen,hs]
  rfl
end
end Go.Abs
-- Abs2
namespace Go.Abs
open Go Go.Eng
section
variable {P:Program} {w0 w1 w2:Bw} {X0:Xs} {n:Nat} {E:Ev} {st:St} {Q:Exit→Act→World→Prop} {r:Option Nat} {ds:List Deferred}
theorem qf {l D n1 nO:Nat} {rc:Loop} {Ek Eit:Ev} {ps:List Tmp} {assign body:Code} {ids idsR:List Nat} {tm:Array Value} {d:Nat} {N:Act→World→Prop} {ch:List PanicEntry} {fo:Func} (hf:P.funcs[rc.fn]? =some fo)
    (hR:Rg w0 w1 idsR l D rc nO Ek ps assign body .ready none) (hd:Rd w0 w1 w2 ids l D rc Ek .busy none tm n1 Eit)
    (h:∀wj,Rg w0 wj idsR l D rc nO Ek ps assign body .busy none→At wj X0 n1 Eit st (Pw ds (Q (.panic ch)))):At w2 X0 n E st (Pw [] (py P l rc.fn (pj ds tm (some d) N Q) (.panic ch))):=by
  rintro a w ⟨β,X,hr⟩
  obtain⟨wj,hβ,hS⟩:=hR.stop .busy none
  have hss:w2.sus= .fr tm Eit w2.β:: .lp l {rc with state:= .busy,pending:=none} Ek w1.β:: .df D::w0.sus:=hd.sub.sus
  have hs1:wj.sus= .lp l {rc with state:= .busy,pending:=none} Ek wj.β:: .df D::w0.sus:=hS.sub.sus
  have hfr:=hr.sslot (.fr tm Eit w2.β) (by rw [hss];exact .head _)
  refine⟨by rw [lS];exact hr.defers,⟨_,hf⟩,h _ hS ⟨tm, []⟩ w ⟨β,X,hr.gG (hS.sub.w.trans hd.sub.w.symm) (hS.sub.M.trans hd.sub.M.symm) .refl (fun id y h=>hr.mem.b0 id y (hd.ext id y (hβ ▸ h))) (fun s hs=>?_) (fun s hs=>?_) hd.size rfl (fun t v ht=>?_)⟩⟩
  · refine tA (B := w2) (hr.mem.below.sus s ?_) (fun b h => (nB (hS.sub.w.trans hd.sub.w.symm) (hS.sub.M.trans hd.sub.M.symm) b).2 h) (fun _ _ _ _ => rfl)
    rw [hs1,hβ]at hs
    rw [hss];exact .tail _ hs
  · refine hr.sslot s ?_
    rw [hs1,hβ]at hs
    rw [hss];exact .tail _ hs
  · obtain ⟨u, g1, g2⟩ := hfr t v ht
    exact⟨u,g1,dI (fun b o h=>⟨h,rfl⟩) _ _ _ _ hr.mem.b0 g2⟩
theorem oo {l D nO:Nat} {rc:Loop} {Ek:Ev} {ps:List Tmp} {assign body:Code} {idsR:List Nat} {s:LoopState} {pe:Option Code} {fn:Func} {ss:List cg} {ch:List PanicEntry} (hR:Rg w0 w1 idsR l D rc nO Ek ps assign body s pe) (hs0:w0.sus=ss)
    (h:At (w0.re (.df D::ss)) X0 nO Ek st (Pw (dU D::ds) (Q (.panic ch)))):At w1 X0 n E st (Pw [] (bodyPostM (rF none) 0 P fn (rangePost (rF r) 0 P l Q (Act.wd (dU D::ds) ⟨rc.tmps, []⟩)) (.panic ch))):=by
  rintro a w ⟨β,X,hr⟩
  subst hs0
  have hss:w1.sus= .lp l {rc with state:=s,pending:=pe} Ek w1.β:: .df D::w0.sus:=hR.sub.sus
  have hlp:=hr.sslot (.lp l {rc with state:=s,pending:=pe} Ek w1.β) (by rw [hss];exact .head _)
  show LeavesInM (rF none) 0 P fn (a.wd []).tmps _ (a.wd []).defers (.panicking ch) w
  rw [lS,hr.defers]
  show Q (.panic ch) (Act.wd (dU D::ds) ⟨rc.tmps, []⟩) w
  refine h ⟨rc.tmps, []⟩ w ⟨β,X,hr.gG hR.sub.w.symm hR.sub.M.symm .refl (fun id y h=>hr.mem.b0 id y (hR.sub.ext id y h)) (fun s hs=>?_) (fun s hs=>?_) hR.size rfl (fun t v ht=>?_)⟩
  · exact tA (B:=w1) (hr.mem.below.sus s (by rw [hss];exact .tail _ hs)) (fun b h=>(nB hR.sub.w hR.sub.M b).1 h) (fun _ _ _ _=>rfl)
  · exact hr.sslot s (by rw [hss];exact .tail _ hs)
  · obtain ⟨u, g1, g2⟩ := hlp t v ht
    exact⟨u,g1,dI (fun b o h=>⟨h,rfl⟩) _ _ _ _ hr.mem.b0 g2⟩
theorem CD {fn:Func} {Rr:Ending→World→Prop} {ch:List PanicEntry}:∀(ds:List Nat) {wB:Bw} {a:Act} {w:World},ds.Nodup→wB.sus=ds.map .df→Rel wB X0 n E st a w→(∀w',Rel (wB.re []) X0 n E st a w'→Rr (.panicked ch) w')→
    LeavesInM (rF none) 0 P fn a.tmps Rr (ds.map dU) (.panicking ch) w
  | [],wB,a,w,_,hs,⟨β,X,hr⟩,h=>h w ⟨β,X,hr.gG rfl rfl .refl hr.mem.b0 (fun s hs=>by cases hs) (fun s hs=>by cases hs) hr.size hr.defers hr.slot⟩
  | D :: ds, wB, a, w, hnd, hs, ⟨β, X, hr⟩, h => by
    have hs':wB.sus= .df D::ds.map .df:=by simpa using hs
    have hk:=hr.mem.below.sus (.df D) (by rw [hs'];exact .head _)
    refine⟨by simp,.inl ⟨D,_,rfl,run_takeDeferred hk.2,?_⟩⟩
    refine CD ds (wB:=wB.re (ds.map .df)) (List.nodup_cons.1 hnd).2 rfl ⟨β,X,hr.gG rfl rfl (Qt.put hk.1 hk.2 rfl rfl) hr.mem.b0 (fun s hs=>?_) (fun s hs=>?_) hr.size hr.defers hr.slot⟩ h
    · obtain ⟨D', hD, rfl⟩ := List.mem_map.1 hs
      have hk':=hr.mem.below.sus (.df D') (by rw [hs'];exact .tail _ hs)
      exact⟨hk'.1,(World.putObj_heap_other (fun e:D'=D=>(List.nodup_cons.1 hnd).1 (e ▸ hD))).trans hk'.2⟩
    · obtain ⟨D', hD, rfl⟩ := List.mem_map.1 hs
      trivial
theorem oq {wB:Bw} {fn:Func} {R:A→St→Prop} {pn:Value→Prop} {u:Value} (hw:wB.w=w0.w) (hM:wB.M=w0.M) (hβ:wB.β=w0.β) (hs0:w0.sus= []) {dn:List Nat} (hdn:ds=dn.map dU) (hsB:wB.sus=dn.map .df) (hnd:dn.Nodup) (hp:pn u):
    At wB X0 n E st (Pw ds (bodyPostM (rF none) 0 P fn (lU w0 X0 R pn) (.panic (iS u)))):=fun a w hr=>by
  have hd:a.defers= []:=by obtain⟨_,_,hr⟩:=hr;exact hr.defers
  show LeavesInM (rF none) 0 P fn a.tmps _ (a.wd ds).defers (.panicking (iS u)) w
  have e:(a.wd ds).defers=dn.map dU:=by simp [Act.wd,hd,hdn]
  rw [e]
  refine CD dn hnd hsB hr fun w' ⟨β,X,hr'⟩=>?_
  have hr0:bY w0 X0 n E st β X a w':=hr'.gG hw.symm hM.symm .refl (by rw [←hβ];exact hr'.mem.b0) (fun s hs=>by rw [hs0]at hs;cases hs) (fun s hs=>by rw [hs0]at hs;cases hs) hr'.size hr'.defers hr'.slot
  exact .inr ⟨u,rfl,hp,.raw undef,β,X,st,trivial,hr0.x0,hr0.xn,hr0.mem,by simp only [V]⟩
theorem Cc {F:Fence} {m:Nat} {fn:Func} {tm:Array Value} {R R':Ending→World→Prop} (hr:∀e w,R e w→R' e w):∀(ds:List Nat) {w:World},LeavesInM F m P fn tm R (ds.map dU) .returning w→LeavesInM F m P fn tm R' (ds.map dU) .returning w
  | [],w,⟨v,h1,h2⟩=>⟨v,h1,hr _ _ h2⟩
  | D :: ds, w, ⟨h0, h⟩ => ⟨h0, by
    rcases h with ⟨r,w',h1,h2,h3⟩|⟨_,fv,cap,f,args,h1,_⟩
    · exact .inl ⟨r,w',h1,h2,Cc hr ds h3⟩
    · cases h1⟩
theorem F0 {wB:Bw} {fn:Func} {R:A→St→Prop} {pn:Value→Prop} {rs:List ResultVar} {vs:List A} (hw:wB.w=w0.w) (hM:wB.M=w0.M) (hβ:wB.β=w0.β) (hs0:w0.sus= []) {dn:List Nat} (hdn:ds=dn.map dU) (hsB:wB.sus=dn.map .df) (hnd:dn.Nodup) (hrs:fn.results=rs.toArray) (hv:er P E st rs vs) (h:R (jF vs) st):
    At wB X0 n E st (Pw ds (bodyPostM (rF none) 0 P fn (lU w0 X0 R pn) .ret)):=fun a w hr=>by
  have hd:a.defers= []:=by obtain⟨_,_,hr⟩:=hr;exact hr.defers
  have h1:=qd hw hM hβ hs0 hdn hsB hnd hrs hv h a w hr
  show LeavesInM (rF none) 0 P fn a.tmps _ (a.wd ds).defers .returning w
  have e:(a.wd ds).defers=dn.map dU:=by simp [Act.wd,hd,hdn]
  have h2:LeavesInM (rF none) 0 P fn a.tmps _ (a.wd ds).defers .returning w:=h1
  rw [e]at h2 ⊢
  exact Cc (fun e w h=> .inl h) dn h2
def gq (P:Program) (f0:FuncId) (c:Code) (Q:Exit→Act→World→Prop) (a:Act) (w:World):Prop:=
  ∀(b:Frame) (k:List Item) (cs:List Frame),b.roundOf=none→b.fn=f0→∃e a' w',Q e a' w'∧ArrivesIn (Machine.fenced P (rF none)) P (lone (b.atR a (.code c::k)) cs w) b k cs e a' w'
theorem kQ {m:Nat}:(rF none).room m:=fun d h=>by cases h
theorem NO {f0:FuncId} {c:Code} {a:Act} {w:World} (h:c.wpIn (rF none) 0 P Q a w):gq P f0 c Q a w:=fun b k cs hro _=>h b k cs hro trivial kQ
theorem NQ {f0:FuncId} {x y:Code} {a:Act} {w:World} (h:gq P f0 x (Exit.then (gq P f0 y Q) Q) a w):gq P f0 (.seq x y) Q a w:=by
  intro b k cs hro hb
  have h0:(lone (b.atR a (.code (.seq x y)::k)) cs w).fenced P (rF none):=fenced_calm (n:=0) trivial kQ rfl
  obtain⟨e,a₁,w₁,hq,harr⟩:=h b (.code y::k) cs hro hb
  cases e with
  | normal =>
    obtain⟨e₂,a₂,w₂,hq₂,harr₂⟩:=hq b k cs hro hb
    exact⟨e₂,a₂,w₂,hq₂,.of_steps (.head h0 stepR_seq harr) harr₂⟩
  |exit id=>exact⟨_,a₁,w₁,hq,.of_steps (.one h0 stepR_seq) (.pass (x:= .code y) rfl (fun _ _=> .inl (by simp)) harr)⟩
  |goto l=>exact⟨_,a₁,w₁,hq,.of_steps (.one h0 stepR_seq) (.pass (x:= .code y) rfl (fun _ _=> .inl (by simp)) harr)⟩
  |ret=>exact⟨_,a₁,w₁,hq,.of_steps (.one h0 stepR_seq) (.pass (x:= .code y) rfl (fun _ _=> .inl (by simp)) harr)⟩
  |panic ch=>exact⟨_,a₁,w₁,hq,.of_steps (.one h0 stepR_seq) (.pass (x:= .code y) rfl (fun _ _=> .inl (by simp)) harr)⟩
  |outgrown=>exact⟨_,a₁,w₁,hq,.of_steps (.one h0 stepR_seq) (.pass (x:= .code y) rfl (fun _ _=> .inl (by simp)) harr)⟩
theorem NN {f0 id : Nat} {c : Code} {a : Act} {w : World} (h : gq P f0 c (Exit.inBlock id Q) a w) : gq P f0 (.block id c) Q a w := by
  intro b k cs hro hb
  have h0:(lone (b.atR a (.code (.block id c)::k)) cs w).fenced P (rF none):=fenced_calm (n:=0) trivial kQ rfl
  obtain⟨e,a₁,w₁,hq,harr⟩:=h b (.inBlock id::k) cs hro hb
  cases e with
  |normal=>exact⟨.normal,a₁,w₁,hq,.head h0 stepR_block (StepsIn.trans harr (.one (fenced_calm (n:=0) trivial kQ rfl) stepR_inBlock))⟩
  | exit id' =>
    by_cases hid:id'=id
    · simp only [Exit.inBlock, hid, if_true] at hq
      exact⟨.normal,a₁,w₁,hq,.head h0 stepR_block (harr.1 k (by simp [exitTo,hid]))⟩
    · simp only [Exit.inBlock, hid, if_false] at hq
      have this:(id==id')=false:=by simp;exact fun h=>hid h.symm
      have hx:exitTo id' (.inBlock id::k)=exitTo id' k:=by simp [exitTo,this]
      exact⟨.exit id',a₁,w₁,hq,fun k' hk=> .head h0 stepR_block (harr.1 k' (by rw [hx];exact hk)),
        fun hr' hk=>let ⟨k₁,h1,h2⟩:=harr.2 hr' (by rw [hx];exact hk);⟨k₁,h1,.head h0 stepR_block h2⟩⟩
  | goto l =>
    have hx:gotoIn l (.inBlock id::k)=gotoIn l k:=by simp [gotoIn]
    exact⟨_,a₁,w₁,hq,fun k' hk=> .head h0 stepR_block (harr.1 k' (by rw [hx];exact hk)),
      fun hr' hk=>let ⟨k₁,h1,h2⟩:=harr.2 hr' (by rw [hx];exact hk);⟨k₁,h1,.head h0 stepR_block h2⟩⟩
  |ret=>exact⟨_,a₁,w₁,hq,.of_steps (.one h0 stepR_block) harr⟩
  |panic ch=>exact⟨_,a₁,w₁,hq,.of_steps (.one h0 stepR_block) harr⟩
  |outgrown=>exact⟨_,a₁,w₁,hq,.of_steps (.one h0 stepR_block) harr⟩
theorem Gn {f:FuncId} {fn:Func} {c:Code} {args:Array Value} {w:World} {R:Ending→World→Prop} (hf:P.funcs[f]? =some fn) (hb:fn.body=some c)
    (h:gq P f c (bodyPostM (rF none) 0 P fn R) {tmps:=args++Array.replicate (fn.ntmps - args.size) undef,defers:= []} w):CallsIn (rF none) 0 P f args w R:=by
  refine⟨trivial,fun cs hr=>?_⟩
  let b:Frame:= {(default:Frame)with fn:=f,kind:= .normal,roundOf:=none}
  have henter:Frame.enter P f args .normal=b.atR {tmps:=args++Array.replicate (fn.ntmps - args.size) undef,defers:= []} [.code c]:=by simp [Frame.enter,Frame.atR,hf,hb,b]
  obtain⟨e,a',w',hq,harr⟩:=h b [] cs rfl rfl
  rw [←henter]at harr
  cases e with
  | normal =>
    obtain⟨e',w'',fr',hR,hs,hfn,hl⟩:=leaves_stepsInM a'.defers .returning w' {b.atR a' []with mode:= .returning} cs rfl rfl rfl hf rfl trivial hr hq
    exact⟨e',w'',fr',hR,ComesIn.of_steps (StepsIn.trans harr (.one (fenced_calm (fr:=b.atR a' []) (n:=0) trivial hr rfl) (stepR_end rfl))) hs,hfn,hl⟩
  | ret =>
    obtain⟨todo,hs₀⟩:=harr.1 rfl
    obtain⟨e',w'',fr',hR,hs,hfn,hl⟩:=leaves_stepsInM a'.defers .returning w' {b.atR a' todo with mode:= .returning} cs rfl rfl rfl hf rfl trivial hr hq
    exact⟨e',w'',fr',hR,ComesIn.of_steps hs₀ hs,hfn,hl⟩
  | panic chain =>
    obtain⟨todo,hs₀⟩:=harr
    obtain⟨e',w'',fr',hR,hs,hfn,hl⟩:=leaves_stepsInM a'.defers (.panicking chain) w' {b.atR a' todo with mode:= .panicking chain} cs rfl rfl rfl hf rfl trivial hr hq
    exact⟨e',w'',fr',hR,ComesIn.of_steps hs₀ hs,hfn,hl⟩
  |exit id=>exact hq.elim
  |goto l=>exact hq.elim
  |outgrown=>exact⟨.outgrown,w',b,hq,harr.resolve_left (by simp [b]),rfl,trivial⟩
theorem NP {f0:FuncId} {g:Operand} {ps:Array Tmp} {assign body:Code} {a:Act} {w:World}
    (h:∃(l:Nat) (mark:List Deferred) (w₁:World) (d:Deferred) (w₁':World) (f:FuncId) (args:Array Value) (w₂:World),
      (Instr.enterLoop f0 a.tmps ps assign body none).run P w= .ok (l,mark) w₁∧(resolve a.eval (rangeCall g l) 0).run P w₁= .ok d w₁'∧(invoke d.target d.args).run P w₁'= .ok (.enter f args) w₂∧
      CallsIn (rF none) 0 P f args w₂ (rangePost (rF none) 0 P l Q {a with defers:=mark++a.defers})):gq P f0 (Code.rangeFunc g ps assign body) Q a w:=by
  intro b k cs hro hb
  obtain⟨l,mark,w₁,d,w₁',f,args,w₂,he,hres,hinv,hF,hcall⟩:=h
  rw [←hro, ←hb]at he
  have h0:(lone (b.atR a (.code (.rangeFunc g ps assign body)::k)) cs w).fenced P (rF none):=fenced_lone (.inl trivial) (fun f' _=>trivial) kQ
  have henter:=stepR_rangeFunc (P:=P) (b:=b) (a:=a) (k:=k) (cs:=cs) (w:=w) he hres hinv
  obtain⟨e,w₃,fr,hR,hsteps,hfn,hleave⟩:=hcall (b.atR {a with defers:=mark++a.defers} (.inRangeFunc l::k)::cs) kQ
  cases e with
  | outgrown =>
    obtain⟨a₀,w₀,hq⟩:=hR
    exact⟨.outgrown,a₀,w₀,hq,.inr (Outgrown.of_steps (.one henter) hsteps)⟩
  | returned v =>
    have hl:(lone fr (b.atR {a with defers:=mark++a.defers} (.inRangeFunc l::k)::cs) w₃).fenced P (rF none):=fenced_leaving (n:=0) trivial kQ hleave
    obtain⟨jump,w₄,hend,hj⟩:=hR
    have sback:StepsIn (Machine.fenced P (rF none)) P (lone (b.atR a (.code (.rangeFunc g ps assign body)::k)) cs w) (lone (b.atR {a with defers:=mark++a.defers} ((jump.map Item.code).toList++k)) cs w₄):=by
      refine .head h0 henter (StepsIn.trans hsteps (.head hl ?_ (.one (fenced_calm (fr:=b.atR {a with defers:=mark++a.defers} (.endRangeFunc l::k)) (n:=0) trivial kQ rfl) (stepR_endRangeFunc hend))))
      rw [←finish_atR_inRangeFunc l v];exact step_leave_returned hleave
    cases jump with
    |none=>exact⟨.normal,_,w₄,hj,sback⟩
    | some c =>
      obtain⟨e',a'',w₅,hq,harr⟩:=hj b k cs hro trivial kQ
      exact⟨e',a'',w₅,hq,.of_steps sback harr⟩
  | panicked chain =>
    have hl:(lone fr (b.atR {a with defers:=mark++a.defers} (.inRangeFunc l::k)::cs) w₃).fenced P (rF none):=fenced_leaving (n:=0) trivial kQ hleave
    refine⟨.panic chain,_,w₃,hR,.inRangeFunc l::k,.head h0 henter (StepsIn.trans hsteps (.one hl ?_))⟩
    rw [←Frame.raise_atR];exact step_leave_panicked hleave
theorem oh {f0:FuncId} {x y:Code} (h:At w0 X0 n E st (Pw ds (gq P f0 x (Exit.then (gq P f0 y Q) Q)))):At w0 X0 n E st (Pw ds (gq P f0 (.seq x y) Q)):=fun a w hr=>NQ (h a w hr)
theorem FR {f0 id:Nat} {c:Code} (h:At w0 X0 n E st (Pw ds (gq P f0 c (Exit.inBlock id Q)))):At w0 X0 n E st (Pw ds (gq P f0 (.block id c) Q)):=fun a w hr=>NN (h a w hr)
theorem og {f0:FuncId} {c:Code} (h:At w0 X0 n E st (Pw ds (c.wpIn (rF none) 0 P Q))):At w0 X0 n E st (Pw ds (gq P f0 c Q)):=fun a w hr=>NO (h a w hr)
theorem FY {f0:FuncId} {g:Operand} {ps:List Tmp} {assign body c:Code} {f:FuncId} {fn:Func} {cs:List A} {idsB:List Nat} {n':Nat} (ids:List Nat) (Ek:Ev) (hI:w0.ids=idsB) (hs:(idsB.all (cn ids))=true) (hE:le E Ek) (hids:jy ids Ek=true)
    (hg:ev E g=some (.fn (.func f) [] cs)) (hf:P.funcs[f]? =some fn) (hb:fn.body=some c) (hn:fn.ntmps=n') (hname:(fn.name== "runtime.NumGoroutine")=false) (ha:cs.length+1≤n')
    (h:∀w1 l D rc,Rg w0 w1 ids l D rc n Ek ps assign body .ready none→rc.fn=f0→At w1 X0 n' (ga (yv l::cs) 0) st (Pw [] (c.wpIn (rF none) 0 P (bodyPostM (rF none) 0 P fn (rangePost (rF none) 0 P l Q (Act.wd (dU D::ds) ⟨rc.tmps, []⟩)))))):
    At w0 X0 n E st (Pw ds (gq P f0 (Code.rangeFunc g ps.toArray assign body) Q)):=by
  rintro a w ⟨β,X,hr⟩
  show gq P f0 (Code.rangeFunc g ps.toArray assign body) Q (a.wd ds) w
  refine NP ?_
  obtain⟨vs,rc,W1,g2,g3,hrt,hrf,w1,hrg,hrel⟩:=DB (P:=P) (fn:=fn) (n':=n') f0 ids Ek ps assign body hI hs hE hids hg ha hn hr
  refine⟨w.heap.size+1, [{target:= .collected w.heap.size,args:= #[]}],W1, {target:= .fn (.func f) vs.toArray,args:= #[.func (.yield (w.heap.size+1)) #[] #[]]},W1,f,
    #[.func (.yield (w.heap.size+1)) #[] #[]]++vs.toArray,W1,g2,?_,?_,?_⟩
  · simp only [resolve, sU, g3]
    simp [go_sem]
  · simp [invoke,go_sem,yc hf hb hname]
  · rw [EP hr.defers, ← hrt]
    exact callsIn_of_wp_marks hf hb trivial (kg (h _ _ _ rc hrg hrf _ W1 hrel))
theorem HQ {f:FuncId} {fn:Func} {c:Code} {args:List A} {s0:St} {R:A→St→Prop} {pn:Value→Prop} (hf:P.funcs[f]? =some fn) (hb:fn.body=some c)
    (hn:fn.ntmps=n) (hname:(fn.name== "runtime.NumGoroutine")=false) (ha:args.length≤n)
    (h:∀w0 X0,w0.ids=s0.os.map Prod.fst→w0.sus= []→At w0 X0 n (ga args 0) s0 (Pw [] (gq P f c (bodyPostM (rF none) 0 P fn (lU w0 X0 R pn))))):iY P f args s0 R pn:=by
  intro w X β us hd hX hgl ho hi hv
  have hl:=cF hv
  refine⟨⟨fn,hf,by simp [hb],hname⟩,(callsIn_wide (n:=0)).1 (Gn hf hb (kg (h (bw w β s0 hd) X rfl rfl _ w ⟨β,X,.of (fun _ _ h=>h) (fun _ _ h=> .inl h) (.of ⟨rfl,rfl,rfl,Nat.le_refl _,fun _ _ _=>rfl,fun s hs=>by cases hs⟩ (bE.refl β) hX hd ho hi) hgl ?_ rfl (fun s hs=>by cases hs) (fun t v ht=>?_)⟩)))⟩
  · simp [hn];omega
  · obtain ⟨_, h2⟩ := k9 _ _ _ _ ht
    simp only [Nat.sub_zero]at h2
    obtain⟨u,g1,g2⟩:=fx hv h2
    have hlt:=(List.getElem?_eq_some_iff.1 g1).1
    refine⟨u,?_,g2⟩
    rw [Array.getElem?_append,if_pos (by simpa using hlt)]
    simpa using g1
end
end Go.Abs
-- Abs3
namespace Go.Abs
open Go Go.Eng Go.MapKept
instance {b:Nat} {f:Int→Option Value}:IsPure (.mc b f):=⟨by simp only [Pure]⟩
def nZ (F:Int→Option Value):A→St→Prop:=fun r st=>∃b,r= .raw (.map (some b))∧st.get bZ=some [.mc b F]
theorem OB.CH {β:Bm} {X:Xs} {w:World} {w0:Bw} {b:Nat} {F:Int→Option Value} (h:OB β X w w0 bZ [.mc b F]):β bZ=some (.mp b)∧w0.own b∧(∀o,¬X b o)∧∃es clk,w.heap[b]? =some (.map es clk)∧c7 es clk F:=by
  unfold OB at h
  cases hb:β bZ with
  |none=>rw [hb]at h;exact h.elim
  | some y =>
    rw [hb]at h
    cases y with
    |ph=>cases h
    | bk q N =>
      obtain⟨_,_,us,rest,ty,_,_,h5,_⟩:=h
      simp only [VS,V]at h5
      obtain⟨_,_,_,h,_⟩:=h5
      exact h.elim
    | mp q =>
      obtain⟨_,h1,h2,g,es,clk,e,h4,h5⟩:=h
      simp only [List.cons.injEq,A.mc.injEq,and_true]at e
      obtain⟨e1,e2⟩:=e
      subst e1;subst e2
      exact⟨rfl,h1,h2,es,clk,h4,h5⟩
section
variable {P:Program} {w0:Bw} {X0:Xs} {n:Nat} {E:Ev} {st:St} {K:Act→World→Prop} {Q:Exit→Act→World→Prop}
theorem Kg {F : Int → Option Value} {d : Nat} {f : FuncId} {x : Operand} {xs : List Operand} {fs cs vs vs' : List A} {ats : Array TypeId} {ty : TypeId} {pos aft' g} (hx : ev E x = some (.fn (.func f) fs cs)) (hxs : cV E xs = some vs) (hv : aW st ⟨[]⟩ false (fs ++ vs ++ cs) vs')
    (hc:aw P f vs' (nZ F)) (hfr:st.free bZ=true) (hd:Nat.ble (d+1) n=true) (h:∀b,At w0 X0 n ((d,.raw (.map (some b)))::E) (st.put bZ [.mc b F]) K):
    At w0 X0 n E st (fun a w=>(⟨some d,.call {callee:= .value x,args:=xs.toArray,argTypes:=ats},ty,pos,aft',g⟩:Oper).wp P a w K Q):=by
  rintro a w ⟨β,X,hr⟩
  refine l4 hr hx hxs (s0:=⟨[]⟩) trivial hv hc fun v w' ⟨r,β',X',st',hR,hsup,hsub,hm,hvv⟩=>?_
  obtain⟨b,rfl,hg⟩:=hR
  obtain⟨m1,m2,m3,m4,m6⟩:=hm.after hr (fun id cs h=>by cases h) hsub hsup (upds:= []) (fun p hp=>by cases hp)
  rw [p9]at m1
  have hnx:=hr.mem.dom bZ hfr
  obtain⟨hβ,o1,o2,es,clk,hb,hF⟩:=(hm.obj bZ _ hg).CH
  have o1:w.heap.size≤b:=by
    rcases o1 with h|⟨id',cs',h,_⟩
    · exact h
    · cases h
  have hnX:∀o,¬(X b o∨(X' b o∧(bw w (cc ⟨[]⟩ β) ⟨[]⟩ cX).own b)):=fun o h=>by
    rcases h with h|⟨h,_⟩
    · exact o2 o (hsup b o (.inl h))
    · exact o2 o h
  have m5 : Mem w0 (bT β bZ (.mp b)) (fun b o => X b o ∨ (X' b o ∧ (bw w (cc ⟨[]⟩ β) ⟨[]⟩ cX).own b)) (st.put bZ [.mc b F]) w' := by
    refine .of (m1.below) (fun k y h=>(b5 hnx) k y (m1.b0 k y h)) (m1.xlt) (fun k h=>?_) (fun k es hk=>?_) (fun i j ci cj q M N' hij hi hj hbi hbj=>?_)
    · rw [St.ef] at h
      split at h
      · cases h
      · rename_i hne
        rw [bW (fun e=>hne e.symm)]
        exact hr.mem.dom k h
    · rw [St.b6] at hk
      split at hk
      · rename_i e; subst e
        simp only [Option.some.injEq]at hk
        subst hk
        unfold OB
        rw [bq]
        exact⟨rfl,Bw.j3 hr.mem.below o1,hnX,F,_,clk,rfl,hb,hF⟩
      · refine (m1.obj k es hk).later (fun _ _ h => ⟨h, rfl⟩) (b5 hnx) (fun q M hq => ⟨rfl, ?_⟩) fun q hq => ⟨rfl, ((m1.obj k es hk).dW hq).2.2.1⟩
        have hk':=m1.obj k es hk
        unfold OB at hk'
        rw [hq]at hk'
        exact hk'.2.1
    · rw [St.b6] at hi hj
      by_cases ei:bZ=i
      · subst ei;rw [bq]at hbi;cases hbi
      · rw [if_neg ei] at hi
        rw [bW (fun e=>ei e.symm)]at hbi
        by_cases ej:bZ=j
        · subst ej;rw [bq]at hbj;cases hbj
        · rw [if_neg ej] at hj
          rw [bW (fun e=>ej e.symm)]at hbj
          exact hr.mem.inj i j ci cj q M N' hij hi hj hbi hbj
  have hv':v= .map (some b):=by simpa only [V]using hvv
  exact h b _ _ ⟨_,_,hr.gF hd m2 m3 (b5 hnx) m5 (by simp only [V];exact hv')⟩
theorem tQ {F:Int→Option Value} {d:Nat} {f:FuncId} {xs:List Operand} {vs vs':List A} {ats:Array TypeId} {ty:TypeId} {pos aft' g} (hxs:cV E xs=some vs) (hv:aW st ⟨[]⟩ false vs vs')
    (hc:aw P f vs' (nZ F)) (hfr:st.free bZ=true) (hd:Nat.ble (d+1) n=true) (h:∀b,At w0 X0 n ((d,.raw (.map (some b)))::E) (st.put bZ [.mc b F]) K):
    At w0 X0 n E st (fun a w=>(⟨some d,.call {callee:= .value (.func f),args:=xs.toArray,argTypes:=ats},ty,pos,aft',g⟩:Oper).wp P a w K Q):=
  Kg (fs:= []) (cs:= []) rfl hxs (by simpa using hv) hc hfr hd h
end
section
variable {P:Program} {w0:Bw} {X0:Xs} {n:Nat} {E:Ev} {st:St} {K:Act→World→Prop} {Q:Exit→Act→World→Prop}
theorem CM {d:Nat} {t e t' ty:TypeId} {x y:Operand} {m:Nat} {cs:List A} {pos av g} (ht:P.underlying t=some (.slice e)) (hx:ev E x=some (.fz m cs)) (hy:ev E y=some .nl) (hd:Nat.ble (d+1) n=true)
    (h:∀q,At w0 X0 n ((d,.b q)::E) st K):At w0 X0 n E st (fun a w=>(⟨some d,.binOp .eql t x y t',ty,pos,av,g⟩:Oper).wp P a w K Q):=by
  rintro a w ⟨β,X,hr⟩
  obtain⟨h1,h2⟩:=hr.bc hx
  obtain⟨h3,h4⟩:=hr.bc hy
  simp only [V]at h2 h4
  obtain⟨ad,cap,g1,_⟩:=h2
  rw [g1]at h1;rw [h4]at h3
  have hrun:=(Eng.uX (P:=P) (n:=a.tmps.size) (S:= [w]) (H:= []) (t':=t') (ty:=ty) ht h1 h3) (some d) pos av g a w (dG a hr.defers) (Eng.Good.start w)
  unfold Oper.wp
  rw [hrun]
  exact h ad.isNone _ _ ⟨β,X,hr.gF hd (fun b o h=>⟨h,rfl⟩) (fun _ _ h=> .inl h) (bE.refl β) hr.mem (by simp only [V])⟩
end
def mapOf (σ:Int→Int):Int→Option Value:=fun k=>if σ k=0 then none else some (.int .i64 (σ k))
def kf (σ:Int→Int) (k v:Int):Int→Int:=fun j=>if j=k then v else σ j
theorem J1:(fun _=>none:Int→Option Value)=mapOf (fun _=>0):=by funext k;simp [mapOf]
theorem tL (σ:Int→Int) (k:Int):(mapOf σ k).getD (.int .i64 0)= .int .i64 (σ k):=by
  unfold mapOf
  split
  · rename_i h;rw [h];rfl
  · rfl
theorem J2 {σ:Int→Int} {k v:Int} (h:v≠0):gM (mapOf σ) k (.int .i64 v)=mapOf (kf σ k v):=by
  funext j
  unfold gM mapOf kf
  by_cases e:j=k
  · simp [e,h]
  · simp [e]
theorem J0 {σ:Int→Int} {k v:Int} (h:v=0):lh (gM (mapOf σ) k (.int .i64 v)) k=mapOf (kf σ k v):=by
  funext j
  unfold lh gM mapOf kf
  by_cases e:j=k
  · simp [e,h]
  · simp [e]
end Go.Abs
-- E5P
namespace Go.Abs.D2
open Go Go.Eng Go.Abs
structure Ch where
  id:Int
  st:Int
def Ch.cells (c:Ch):List A:= [.i .i64 c.id,.i .i64 c.st]
def fA (l:List Ch):List A:=l.flatMap Ch.cells
abbrev dS (l:List Ch):A:= .fz l.length (fA l)
structure Ep where
  iss:Int
  no:Int
  day:Int
  ch:List Ch
  bh:List UInt8
  prev:List UInt8
  sg:Lf
def Ep.cells (e:Ep):List A:= .i .i64 e.iss:: .i .i64 e.no:: .i .i64 e.day::dS e.ch::(e.bh.map u8++(e.prev.map u8++ [.i .i64 e.sg.a,a6 e.sg.S,a6 e.sg.P]))
def cZ (l:List Ep):List A:=l.flatMap Ep.cells
abbrev cQ (l:List Ep):A:= .fz l.length (cZ l)
instance {c:Ch}:dE c.cells:=by unfold Ch.cells;infer_instance
instance {l:List Ch}:dE (fA l):=by unfold fA;infer_instance
instance {e:Ep}:dE e.cells:=by unfold Ep.cells;infer_instance
instance {l:List Ep}:dE (cZ l):=by unfold cZ;infer_instance
def rg (n:Int):Prop:= -9223372036854775808≤n∧n≤9223372036854775807
structure Ep.ok (e:Ep):Prop where
  iss:rg e.iss
  no:rg e.no
  day:rg e.day
  ch:∀c∈e.ch,rg c.id∧rg c.st
  gy:e.ch.length≤1000
  bh:e.bh.length=32
  prev:e.prev.length=32
  S:aT e.sg.S
  P:aT e.sg.P
def c6 (l:List Ep):Prop:=∀e∈l,e.ok
@[simp] theorem Ch.len (c:Ch):c.cells.length=2:=rfl
theorem Ep.ok.len {e:Ep} (h:e.ok):e.cells.length=71:=by simp [Ep.cells,h.bh,h.prev]
theorem Ep.ok.all {e:Ep} (h:e.ok):e.cells.take 71=e.cells:=List.take_of_length_le (by rw [h.len];omega)
@[simp] theorem Ot (l : List Ch) : (fA l).length = l.length * 2 := by
  unfold fA
  induction l with
  |nil=>rfl
  |cons c l ih=>rw [List.flatMap_cons,List.length_append,ih,List.length_cons,Ch.len];omega
theorem mn {l:List Ep} (h:c6 l):(cZ l).length=l.length*71:=by
  unfold cZ
  induction l with
  |nil=>rfl
  |cons e l ih=>rw [List.flatMap_cons,List.length_append,ih (fun x hx=>h x (.tail _ hx)),List.length_cons,(h e (.head _)).len];omega
theorem ql {l:List Ch} {i:Nat} {c:Ch} (h:l[i]? =some c):((fA l).drop (i*2)).take 2=c.cells:=by
  unfold fA
  induction l generalizing i with
  |nil=>simp at h
  | cons d l ih =>
    rw [List.flatMap_cons]
    cases i with
    |zero=>simp at h;subst h;rfl
    |succ i=>rw [show(i+1)*2=d.cells.length+i*2 by rw [Ch.len];omega, ←List.drop_drop,List.drop_left];exact ih (by simpa using h)
theorem gh {l:List Ep} {i:Nat} {e:Ep} (hl:c6 l) (h:l[i]? =some e):((cZ l).drop (i*71)).take 71=e.cells:=by
  unfold cZ
  induction l generalizing i with
  |nil=>simp at h
  | cons d l ih =>
    rw [List.flatMap_cons]
    have hd:=(hl d (.head _)).len
    cases i with
    |zero=>simp at h;subst h;rw [Nat.zero_mul,List.drop_zero,List.take_left' hd]
    |succ i=>rw [show(i+1)*71=d.cells.length+i*71 by rw [hd];omega, ←List.drop_drop,List.drop_left];exact ih (fun x hx=>hl x (.tail _ hx)) (by simpa using h)
theorem qA {l:List Ep} {i:Nat} {e:Ep} (hl:c6 l) (h:l[i]? =some e) {k:Nat} {v:A} (hv:e.cells[k]? =some v) (hk:k<71):(((cZ l).drop (i*71)).drop k)[0]? =some v:=by
  have e1:(((cZ l).drop (i*71)).take 71)[k]? =some v:=by rw [gh hl h];exact hv
  rw [List.getElem?_take,if_pos hk]at e1
  rw [List.getElem?_drop,Nat.add_zero];exact e1
theorem l6 {e:Ep} (h:e.ok):(e.cells.drop 4).take 32=e.bh.map u8:=by
  show(e.bh.map u8++_).take 32=_
  rw [List.take_left' (by rw [List.length_map,h.bh])]
theorem A6 {e:Ep} (h:e.ok):e.cells.drop 36=e.prev.map u8++ [.i .i64 e.sg.a,a6 e.sg.S,a6 e.sg.P]:=by
  show(e.bh.map u8++_).drop 32=_
  rw [List.drop_left' (by rw [List.length_map,h.bh])]
theorem l7 {e:Ep} (h:e.ok):(e.cells.drop 36).take 32=e.prev.map u8:=by
  rw [A6 h,List.take_left' (by rw [List.length_map,h.prev])]
theorem wJ {e:Ep} (h:e.ok):e.cells.drop 68= [.i .i64 e.sg.a,a6 e.sg.S,a6 e.sg.P]:=by
  rw [show 68=36+32 from rfl, ←List.drop_drop,A6 h,List.drop_left' (by rw [List.length_map,h.prev])]
theorem HY {e:Ep} (h:e.ok):(e.cells.drop 68)[0]? =some (.i .i64 e.sg.a):=by rw [wJ h];rfl
def dh (c:Ch):CV:=cR [bH c.id,bH c.st]
def cP (e:Ep):CV:=cR [bH e.iss,bH e.no,bH e.day,cR (e.ch.map dh),cY e.bh,cY e.prev]
theorem KH (c:Ch):(dh c).okB=true:=nw fun v hv=>by
  simp only [List.mem_cons,List.not_mem_nil,or_false]at hv
  rcases hv with rfl|rfl
  · exact nv _
  · exact nv _
theorem xG (e:Ep):(cP e).okB=true:=nw fun v hv=>by
  simp only [List.mem_cons,List.not_mem_nil,or_false]at hv
  rcases hv with rfl|rfl|rfl|rfl|rfl|rfl
  · exact nv _
  · exact nv _
  · exact nv _
  · exact nw fun v hv=>by obtain⟨c,_,rfl⟩:=List.mem_map.1 hv;exact KH c
  · exact tZ _
  · exact tZ _
theorem AD (e : Ep) : (cP e).depth ≤ 16 := by
  refine Nat.le_trans (m0 (d:=2) fun v hv=>?_) (by omega)
  simp only [List.mem_cons,List.not_mem_nil,or_false]at hv
  rcases hv with rfl|rfl|rfl|rfl|rfl|rfl
  · rw [mZ];omega
  · rw [mZ];omega
  · rw [mZ];omega
  · exact m0 (d:=1) fun v hv=>by
      obtain⟨c,_,rfl⟩:=List.mem_map.1 hv
      exact m0 (d:=0) fun v hv=>by
        simp only [List.mem_cons,List.not_mem_nil,or_false]at hv
        rcases hv with rfl|rfl
        · rw [mZ];exact Nat.le_refl _
        · rw [mZ];exact Nat.le_refl _
  · rw [sL];omega
  · rw [sL];omega
theorem L4 {c:Ch} (h:rg c.id∧rg c.st):(dh c).dN=true:=nF fun v hv=>by
  simp only [List.mem_cons,List.not_mem_nil,or_false]at hv
  rcases hv with rfl|rfl
  · exact nE h.1.1 h.1.2
  · exact nE h.2.1 h.2.2
theorem x9 {e:Ep} (h:e.ok):(cP e).dN=true:=nF fun v hv=>by
  simp only [List.mem_cons,List.not_mem_nil,or_false]at hv
  rcases hv with rfl|rfl|rfl|rfl|rfl|rfl
  · exact nE h.iss.1 h.iss.2
  · exact nE h.no.1 h.no.2
  · exact nE h.day.1 h.day.2
  · exact nF fun v hv=>by obtain⟨c,hc,rfl⟩:=List.mem_map.1 hv;exact L4 (h.ch c hc)
  · exact uy _
  · exact uy _
theorem HN {c:Ch} (h:rg c.id∧rg c.st):(dh c).enc.length≤36:=by
  have q:=m8 (l:= [bH c.id,bH c.st]) (by simp)
  have q1:=m7 h.1.1 h.1.2
  have q2:=m7 h.2.1 h.2.2
  simp only [CV.bK,List.length_append,List.length_nil]at q
  show(cR _).enc.length≤_
  omega
theorem oB {e:Ep} (h:e.ok):(cP e).enc.length≤40000:=by
  have hf:=h.gy
  have q:=m8 (l:= [bH e.iss,bH e.no,bH e.day,cR (e.ch.map dh),cY e.bh,cY e.prev]) (by simp)
  have q1:=m7 h.iss.1 h.iss.2
  have q2:=m7 h.no.1 h.no.2
  have q3:=m7 h.day.1 h.day.2
  have q4:=m8 (l:=e.ch.map dh) (by rw [List.length_map];omega)
  have q5:=wE (l:=e.ch.map dh) (k:=36) fun v hv=>by obtain⟨c,hc,rfl⟩:=List.mem_map.1 hv;exact HN (h.ch c hc)
  have q6:=sR (s:=e.bh) (by rw [h.bh];omega)
  have q7:=sR (s:=e.prev) (by rw [h.prev];omega)
  rw [List.length_map]at q5
  have:=h.bh
  have:=h.prev
  simp only [CV.bK,List.length_append,List.length_nil]at q
  show(cR _).enc.length≤_
  omega
theorem Eh {e:Ep} (h:e.ok):(cP e).size≤1000000:=by
  have h1:=CV.yn (cP e).size (cP e) (Nat.le_refl _) (xG e)
  have h2:=oB h
  omega
theorem AZ (e:Ep):encA (cP e)= .tu [.fz (cP e).enc.length ((cP e).enc.map u8),.i .i64 0]:=oz (vU (xG e) (by have:=AD e;omega))
abbrev yy:List UInt8:= [101,112,111,99,104]
@[irreducible] def bR (e:Ep):List UInt8:=tagged yy (cP e).enc
theorem sM (e:Ep):bR e=tagged yy (cP e).enc:=by unfold bR;rfl
@[simp] theorem JC (e:Ep):(bR e).length=32:=by rw [sM];simp
theorem z8 {l:List Ch} {i:Nat} {c:Ch} (h:l[i]? =some c):CV.bz ((l.take i).map dh)++CV.cells (dh c)=CV.bz ((l.take (i+1)).map dh):=by
  rw [CV.ox,CV.ox,List.take_add_one,h];simp
theorem v8 {x:List UInt8} (hx:x.length=32):A.fz 32 (((x.map u8).drop (0*1)).take (32*1))= .fz x.length (x.map u8):=by
  rw [Nat.zero_mul,List.drop_zero,List.take_of_length_le (by rw [List.length_map,hx];omega),hx]
def kA (σ:Int→Int) (last:Int) (c:Ch):Bool:=(((decide (last<c.id)&&decide (c.id<1024))&&decide (0≤c.st))&&decide (c.st≤4))&&((c.st !=σ c.id)&&(σ c.id !=2))
def dJ (σ:Int→Int) (last:Int):List Ch→Bool
  | []=>true
  |c::r=>kA σ last c&&dJ (kf σ c.id c.st) c.id r
theorem GD {σ:Int→Int} {la:Int} {c:Ch} (h:(((decide (c.id>la)&&decide (c.id<1024))&&decide (c.st≥0))&&decide (c.st≤4))=false):kA σ la c=false:=by
  unfold kA
  rw [show(((decide (la<c.id)&&decide (c.id<1024))&&decide (0≤c.st))&&decide (c.st≤4))=false from h];rfl
theorem GF {σ:Int→Int} {la:Int} {c:Ch} (h:((c.st !=σ c.id)&&(σ c.id !=2))=false):kA σ la c=false:=by
  unfold kA;rw [h,Bool.and_false]
theorem z1 {σ:Int→Int} {la:Int} {c:Ch} (h1:(((decide (c.id>la)&&decide (c.id<1024))&&decide (c.st≥0))&&decide (c.st≤4))=true) (h2:((c.st !=σ c.id)&&(σ c.id !=2))=true):kA σ la c=true:=by
  unfold kA
  rw [show(((decide (la<c.id)&&decide (c.id<1024))&&decide (0≤c.st))&&decide (c.st≤4))=true from h1,h2];rfl
def aX (σ:Int→Int):List Ch→Int→Int
  | []=>σ
  |c::r=>aX (kf σ c.id c.st) r
theorem z2 {σ:Int→Int} {last:Int} {l:List Ch} {i:Nat} {c:Ch} (h:l[i]? =some c) (hb:kA σ last c=false):dJ σ last (l.drop i)=false:=by
  rw [List.drop_eq_getElem_cons (List.getElem?_eq_some_iff.1 h).1,(List.getElem?_eq_some_iff.1 h).2,dJ,hb];rfl
theorem z6 {σ:Int→Int} {last:Int} {l:List Ch} {i:Nat} {c:Ch} (h:l[i]? =some c) (hb:kA σ last c=true):dJ σ last (l.drop i)=dJ (kf σ c.id c.st) c.id (l.drop (i+1)):=by
  rw [List.drop_eq_getElem_cons (List.getElem?_eq_some_iff.1 h).1,(List.getElem?_eq_some_iff.1 h).2,dJ,hb];rfl
theorem Ab {σ:Int→Int} {l:List Ch} {i:Nat} {c:Ch} (h:l[i]? =some c):aX σ (l.drop i)=aX (kf σ c.id c.st) (l.drop (i+1)):=by
  rw [List.drop_eq_getElem_cons (List.getElem?_eq_some_iff.1 h).1,(List.getElem?_eq_some_iff.1 h).2,aX]
def fH (iss:Int) (no:Nat) (day:Int) (prev:List UInt8) (e:Ep):Bool:=((e.iss==iss&&decide (0≤e.iss))&&decide (e.iss<8))&&(((e.no==(no:Int))&&(e.sg.a==(no:Int)))&&(e.prev==prev))&&(decide (day<e.day)&&decide (e.day<1024))
theorem Jb (a q:Int):a≠q∨(a=q∧a<0)∨(a=q∧0≤a∧8≤a)∨(a=q∧0≤a∧a<8):=by omega
theorem wI {iss:Int} {no:Nat} {day:Int} {prev:List UInt8} {e:Ep} (h:¬(e.iss=iss∧0≤e.iss∧e.iss<8)):fH iss no day prev e=false:=by
  cases hb:fH iss no day prev e with
  |false=>rfl
  |true=>unfold fH at hb;simp only [Bool.and_eq_true,decide_eq_true_eq,beq_iff_eq]at hb;omega
theorem HT {iss:Int} {no:Nat} {day:Int} {prev:List UInt8} {e:Ep} (h:e.no=(no:Int)→e.sg.a=(no:Int)→¬e.prev=prev):fH iss no day prev e=false:=by
  cases hb:fH iss no day prev e with
  |false=>rfl
  |true=>unfold fH at hb;simp only [Bool.and_eq_true,decide_eq_true_eq,beq_iff_eq]at hb;exact absurd hb.1.2.2 (h hb.1.2.1.1 hb.1.2.1.2)
theorem HU {iss:Int} {no:Nat} {day:Int} {prev:List UInt8} {e:Ep} (h:day<e.day→1024≤e.day):fH iss no day prev e=false:=by
  cases hb:fH iss no day prev e with
  |false=>rfl
  |true=>unfold fH at hb;simp only [Bool.and_eq_true,decide_eq_true_eq,beq_iff_eq]at hb;omega
theorem HV {iss e0:Int} {no:Nat} {day:Int} {prev:List UInt8} {e:Ep} (h0:iss=e0) (h:e.iss=e0∧0≤e.iss∧e.iss<8) (h2:(e.no=(no:Int)∧e.sg.a=(no:Int))∧e.prev=prev) (h3:day<e.day∧e.day<1024):fH iss no day prev e=true:=by
  unfold fH;simp only [Bool.and_eq_true,decide_eq_true_eq,beq_iff_eq]
  exact⟨⟨⟨⟨by omega,h.2.1⟩,h.2.2⟩,h2⟩,h3⟩
def ek (iss:Int):Nat→Int→List UInt8→(Int→Int)→List Ep→Option (Int→Int)
  |_,_,_,σ, []=>some σ
  |no,day,prev,σ,e::r=>if fH iss no day prev e&&dJ σ (-1) e.ch then ek iss (no+1) e.day (bR e) (aX σ e.ch) r else none
def ml:List Ep→Int
  | []=>0
  |e::_=>e.iss
abbrev σ0:Int→Int:=fun _=>0
@[irreducible] def cC (l:List Ep):Option (Int→Int):=ek (ml l) 0 (-1) zD σ0 l
theorem mg (l:List Ep):cC l=ek (ml l) 0 (-1) zD σ0 l:=by unfold cC;rfl
theorem Ja {l:List Ep} {e:Ep} (h:l[0]? =some e):ml l=e.iss:=by
  cases l with
  |nil=>cases h
  |cons a l=>simp at h;subst h;rfl
theorem oJ {iss:Int} {no:Nat} {day:Int} {prev:List UInt8} {σ:Int→Int} {l:List Ep} {i:Nat} {e:Ep} (h:l[i]? =some e) (hb:fH iss no day prev e=false∨dJ σ (-1) e.ch=false):ek iss no day prev σ (l.drop i)=none:=by
  rw [List.drop_eq_getElem_cons (List.getElem?_eq_some_iff.1 h).1,(List.getElem?_eq_some_iff.1 h).2,ek]
  rcases hb with hb|hb
  · rw [hb,if_neg (by simp)]
  · rw [hb,if_neg (by simp)]
theorem IE {iss:Int} {no:Nat} {day:Int} {prev:List UInt8} {σ:Int→Int} {l:List Ep} {i:Nat} {e:Ep} (h:l[i]? =some e) (hb:fH iss no day prev e=true) (hc:dJ σ (-1) e.ch=true):
    ek iss no day prev σ (l.drop i)=ek iss (no+1) e.day (bR e) (aX σ e.ch) (l.drop (i+1)):=by
  rw [List.drop_eq_getElem_cons (List.getElem?_eq_some_iff.1 h).1,(List.getElem?_eq_some_iff.1 h).2,ek,hb,hc,if_pos (by simp)]
@[irreducible] def cz (r:List UInt8) (n:Int) (l:List Ep):Int:=if(cC l).isSome then (if l.all (fun e=>c5 r n (bR e) e.sg.a e.sg.S e.sg.P)then 0 else 60)else 351
theorem qj {r:List UInt8} {n:Int} {l:List Ep} (h:cC l=none):cz r n l=351:=by unfold cz;rw [h];rfl
theorem sE {r:List UInt8} {n:Int} {l:List Ep} {σ:Int→Int} (h:cC l=some σ) {e:Ep} (he:e∈l) (hv:c5 r n (bR e) e.sg.a e.sg.S e.sg.P=false):cz r n l=60:=by
  unfold cz
  rw [h,if_pos (show(some σ).isSome=true from rfl),if_neg]
  intro hall
  rw [List.all_eq_true.1 hall e he]at hv;cases hv
theorem sF {r:List UInt8} {n:Int} {l:List Ep} {σ:Int→Int} (h:cC l=some σ) (hv:∀e∈l,c5 r n (bR e) e.sg.a e.sg.S e.sg.P=true):cz r n l=0:=by
  unfold cz
  rw [h,if_pos (show(some σ).isSome=true from rfl),if_pos (List.all_eq_true.2 hv)]
abbrev gZ (T:Nat) (e:Int):Value:= .iface T (.agg #[.int .i64 e])
theorem vk {X:Xs} {w:World} {β:Bm} (T:Nat) (e:Int):V X w β (.ic T (.ag [.i .i64 e])) (gZ T e):=by
  simp only [V,VS]
  exact⟨_,rfl, [.int .i64 e],rfl,⟨_,_,rfl,rfl,rfl⟩,fun x hx=>by rw [List.mem_singleton.1 hx];rfl⟩
theorem xL {α:Type} (o:Option α):o=none∨∃a,o=some a:=by cases o<;>simp
theorem Ap (r:List UInt8) (n:Int) (l:List Ep):cz r n l≠0∨∃σ,cC l=some σ∧cz r n l=0:=by
  rcases xL (cC l)with h|⟨σ,h⟩
  · exact .inl (by rw [qj h];decide)
  · by_cases h0 : cz r n l = 0
    · exact .inr ⟨σ,h,h0⟩
    · exact .inl h0
theorem zk {l:List Ep} {i:Nat} {e:Ep} {p:Ep→Bool} (h:l[i]? =some e) (ha:∀x∈l.take i,p x=true) (he:p e=true):∀x∈l.take (i+1),p x=true:=fun x hx=>by
  rw [List.take_add_one,h]at hx
  rcases List.mem_append.1 hx with hx|hx
  · exact ha x hx
  · rw [List.mem_singleton.1 hx];exact he
theorem qz {e:Ep} (h:e.ok):(e.cells.drop 68).take 3= [.i .i64 e.sg.a,a6 e.sg.S,a6 e.sg.P]:=by rw [wJ h];rfl
end Go.Abs.D2
-- E5B
namespace Go.Abs.D2
open Go Go.Eng Go.Abs Go.Proofs
theorem u4 (w:World):(zeroValue 3).run Tryz.prog w= .ok (.int .i64 0) w:=by kernel_rfl
theorem fS (e:Int):aw Tryz.prog 45 [.b true,.i .i64 e] (aO (.tu [])):=by
 refine enter Tryz.func45 rfl Tryz.ntmps45 (by kernel_rfl) (Nat.le_of_ble_eq_true rfl) fun w0 X0 hI=>?_
 refine af<|ai<|s1 (aa rfl) rfl<|s1 ((aa rfl).v (v':= .b false) (rfl)) rfl ?_
 refine ah<|ae ?_
 refine bO rfl ?_
 refine aE ?_
 refine ld (rs:= []) rfl az rfl
theorem iw (e:Int):iY Tryz.prog 45 [.b false,.i .i64 e] ⟨[]⟩ (fun _ _=>False) (fun u=>u=gZ 136 e):=by
 refine sS Tryz.func45 rfl Tryz.ntmps45 (by kernel_rfl) (Nat.le_of_ble_eq_true rfl) fun w0 X0 hI=>?_
 refine af<|ai<|s1 (aa rfl) rfl<|s1 ((aa rfl).v (v':= .b true) (rfl)) rfl ?_
 refine ah<|ae ?_
 refine cN rfl ?_
 refine ai<|s1 (aa rfl) rfl<|s1 (eE (out:= [_]) [[aQ (.int .i64 0)]] yB rfl Tryz.underlying136 (by kernel_rfl) rfl rfl ⟨⟨by(first|rfl|omega|(simp;done)|(simp [*];done)|(simp [aU, *];done)),rfl⟩,trivial⟩ rfl) rfl<|s1 (uW (by kernel_rfl) rfl) rfl ?_
 refine K7 rfl rfl ?_
 exact mX rfl
theorem wD (e:Int):aw Tryz.prog 39 [.ic 136 (.ag [.i .i64 e])] (aO (.i .i64 e)):=by
 refine enter Tryz.func39 rfl Tryz.ntmps39 (by kernel_rfl) (Nat.le_of_ble_eq_true rfl) fun w0 X0 hI=>?_
 refine af<|ai<|s1 ((aa rfl).v (v':= .i .i64 0) rfl) rfl ?_
 refine ah<|ae<|af<|ai<|s1 (aa rfl) rfl<|s1 (u0 Tryz.underlying136 rfl rfl) rfl<|s1 (aa rfl) rfl<|s1 (aa rfl) rfl<|s1 (aa rfl) rfl ?_
 refine aj rfl (bg 3 rfl yB rfl rfl ?_)
 refine aj rfl (ba yB rfl rfl rfl (by first|rfl|omega|(simp<;>omega)|(simp [*]<;>omega)) (by first|rfl|omega|(simp<;>omega)|(simp [*]<;>omega)) ?_)
 refine s1 (aa rfl) rfl ?_
 refine ah<|ae<|af<|af<|ai<|s1 (aa rfl) rfl<|s1 (aa rfl) rfl ?_
 refine ah<|ae ?_
 refine bO rfl ?_
 refine aE<|ae<|af<|ai<|s1 (aD Tryz.underlying136 rfl bV (by decide) rfl rfl) rfl<|s1 (au bV rfl rfl rfl) rfl<|s1 (aa rfl) rfl ?_
 refine ah<|ae<|aB ?_
 refine aC (rs:= [.tmp 2]) rfl (aA rfl az) ?_
 rfl
theorem AQ (b:Nat) (σ:Int→Int) (l:List Ch) (hn:l.length≤maxLen):iY Tryz.prog 48 [.raw (.map (some b)),dS l] ⟨[(700,some [.mc b (mapOf σ)])]⟩ (fun r st=>dJ σ (-1) l=true∧gP (.tu []) [(700, [.mc b (mapOf (aX σ l))])] r st) (fun u=>dJ σ (-1) l=false∧u=gZ 136 351):=by
 refine sS Tryz.func48 rfl Tryz.ntmps48 (by kernel_rfl) (Nat.le_of_ble_eq_true rfl) fun w0 X0 hI=>?_
 refine af<|ai<|s1 ((aa rfl).v (v':= .i .i64 (-1)) rfl) rfl ?_
 refine ah<|ae<|af ?_
 simp only [maxLen]at hn
 refine ai<|s1 (aa rfl) rfl<|s1 (a7 Tryz.underlying31 rfl rfl rfl) rfl<|s1 ((aa rfl).v (v':= .i .i64 0) rfl) rfl ?_
 refine ah<|ae<|aI ?_
 refine bD (ι:=Nat×(Int→Int)×Int) (fun⟨i,τ,la⟩=> [(0,.raw (.map (some b))),(4,.i .i64 la),(7,dS l),(8,nJ l.length),(9,nJ i)]) (fun⟨i,τ,la⟩=>⟨[(700,some ([.mc b (mapOf τ)]))]⟩) (fun⟨i,τ,la⟩=>i≤l.length∧dJ σ (-1) l=dJ τ la (l.drop i)∧aX σ l=aX τ (l.drop i)) (fun⟨i,τ,la⟩=>l.length - i) ?_ ?_
 ·exact bC ((0,σ, -1)) (⟨Nat.zero_le _,rfl,rfl⟩) [(700,some 700)] hI rfl rfl ⟨⟨_,rfl,.pure pu⟩,⟨_,rfl,.pure pu⟩,⟨_,rfl,.pure pu⟩,⟨_,rfl,.pure pu⟩,⟨_,rfl,.pure pu⟩,trivial⟩ ⟨.inr ⟨_,_,rfl,rfl,.pure ak⟩,trivial⟩
 rintro⟨i,τ,la⟩ ⟨hi,hk,hg⟩
 dsimp only
 refine af<|ai<|s1 (aa rfl) rfl ?_
 refine ah<|ae<|af ?_
 refine aK rfl (fun hc10=>?_) (fun hc10=>?_)
 ·have h10 : i < l.length := by have := of_decide_eq_true hc10; omega
  obtain⟨c,hc⟩:∃c,l[i]? =some c:=⟨_,List.getElem?_eq_getElem h10⟩
  refine aE<|ae<|af<|aI<|af<|ai<|s1 (bb i Tryz.underlying31 dD rfl rfl rfl (by omega) rfl) rfl<|s1 (bp dD rfl rfl (ql hc) rfl) rfl ?_
  refine aj rfl (bg 6 rfl dD rfl rfl ?_)
  refine aj rfl (ba dD rfl rfl rfl (by first|rfl|omega|(simp<;>omega)|(simp [*]<;>omega)) (by first|rfl|omega|(simp<;>omega)|(simp [*]<;>omega)) ?_)
  refine ah<|ae<|af<|ai<|s1 (aD Tryz.underlying55 rfl an (by decide) rfl rfl) rfl<|s1 (au an rfl rfl rfl) rfl<|s1 (aa rfl) rfl<|s1 (aa rfl) rfl<|s1 (aa rfl) rfl ?_
  refine cT 3 rfl rfl rfl rfl (fun hb17=> .step (aD Tryz.underlying55 rfl an (by decide) rfl rfl) rfl rfl<| .step (au an rfl rfl rfl) rfl rfl<| .step (aa rfl) rfl rfl<| .done) rfl rfl ?_
  refine s1 (aa rfl) rfl ?_
  refine cT 3 rfl rfl rfl rfl (fun hb22=> .step (aD Tryz.underlying55 rfl an (by decide) rfl rfl) rfl rfl<| .step (au an rfl rfl rfl) rfl rfl<| .step (aa rfl) rfl rfl<| .done) rfl rfl ?_
  refine s1 (aa rfl) rfl ?_
  refine cT 3 rfl rfl rfl rfl (fun hb27=> .step (aD Tryz.underlying55 rfl an (by decide) rfl rfl) rfl rfl<| .step (au an rfl rfl rfl) rfl rfl<| .step (aa rfl) rfl rfl<| .done) rfl rfl ?_
  refine gw 31 rfl (fun hc31=>?_) (fun hc31=>?_)
  ·skip
   refine aj rfl (aF false rfl (.cons (.pure pu) (.cons (.pure pu) .nil)) (fS 351) pu (.inl rfl) rfl ?_)
   refine ah<|ae<|af<|ai<|s1 (aD Tryz.underlying55 rfl an (by decide) rfl rfl) rfl<|s1 (au an rfl rfl rfl) rfl<|s1 (aa rfl) rfl<|s1 (aD Tryz.underlying55 rfl an (by decide) rfl rfl) rfl<|s1 (au an rfl rfl rfl) rfl<|s1 (nR Tryz.underlying80 Tryz.underlying3 u4 rfl rfl rfl (tL _ _)) rfl<|s1 (aa rfl) rfl<|s1 (aa rfl) rfl ?_
   refine cT 5 rfl rfl rfl rfl (fun hb40=> .step (aa rfl) rfl rfl<| .step (aD Tryz.underlying55 rfl an (by decide) rfl rfl) rfl rfl<| .step (au an rfl rfl rfl) rfl rfl<| .step (nR Tryz.underlying80 Tryz.underlying3 u4 rfl rfl rfl (tL _ _)) rfl rfl<| .step (aa rfl) rfl rfl<| .done) rfl rfl ?_
   refine gw 46 rfl (fun hc46=>?_) (fun hc46=>?_)
   ·skip
    refine aj rfl (aF false rfl (.cons (.pure pu) (.cons (.pure pu) .nil)) (fS 351) pu (.inl rfl) rfl ?_)
    refine ah<|ae<|af<|ai<|s1 (aD Tryz.underlying55 rfl an (by decide) rfl rfl) rfl<|s1 (au an rfl rfl rfl) rfl<|s1 (aa rfl) rfl ?_
    refine ah<|ae<|af<|ai<|s1 (aa rfl) rfl<|s1 (aD Tryz.underlying55 rfl an (by decide) rfl rfl) rfl<|s1 (au an rfl rfl rfl) rfl<|s1 (aD Tryz.underlying55 rfl an (by decide) rfl rfl) rfl<|s1 (au an rfl rfl rfl) rfl ?_
    refine aj rfl (tR Tryz.underlying80 Tryz.underlying3 rfl rfl rfl rfl ?_)
    refine ah<|ae<|af<|ai<|s1 (aD Tryz.underlying55 rfl an (by decide) rfl rfl) rfl<|s1 (au an rfl rfl rfl) rfl<|s1 (aa rfl) rfl ?_
    refine ah<|ae ?_
    refine aK rfl (fun hc57=>?_) (fun hc57=>?_)
    ·have h57 : c.st = 0 := by simpa using hc57
     refine ai<|s1 (aa rfl) rfl<|s1 (aD Tryz.underlying55 rfl an (by decide) rfl rfl) rfl<|s1 (au an rfl rfl rfl) rfl ?_
     refine aj rfl (Kj Tryz.underlying80 Tryz.underlying3 rfl rfl rfl rfl ?_)
     refine ah<|a8<|ae<|ai<|s1 (aZ _ 1 rfl rfl rfl rfl (by omega)) rfl<|s1 (aa rfl) rfl ?_
     refine ah ?_
     exact bf (x:=(i,τ,la)) ((i+1,kf τ c.id c.st,c.id)) (⟨show i+1≤l.length by omega,hk.trans (z6 hc (z1 hc31 hc46)),hg.trans (Ab hc)⟩) (show l.length - (i+1)<l.length - i by omega) [(700,some 700)] hI rfl rfl ⟨⟨_,rfl,.pure pu⟩,⟨_,rfl,.pure pu⟩,⟨_,rfl,.pure pu⟩,⟨_,rfl,.pure pu⟩,⟨_,rfl,.pure pu⟩,trivial⟩ ⟨.inr ⟨_,_,rfl,rfl,.of (congrArg (fun f=> [A.mc b f]) (J0 h57)) (.pure ak)⟩,trivial⟩
    ·have h57 : c.st ≠ 0 := by simpa using hc57
     refine aE<|a8<|ae<|ai<|s1 (aZ _ 1 rfl rfl rfl rfl (by omega)) rfl<|s1 (aa rfl) rfl ?_
     refine ah ?_
     exact bf (x:=(i,τ,la)) ((i+1,kf τ c.id c.st,c.id)) (⟨show i+1≤l.length by omega,hk.trans (z6 hc (z1 hc31 hc46)),hg.trans (Ab hc)⟩) (show l.length - (i+1)<l.length - i by omega) [(700,some 700)] hI rfl rfl ⟨⟨_,rfl,.pure pu⟩,⟨_,rfl,.pure pu⟩,⟨_,rfl,.pure pu⟩,⟨_,rfl,.pure pu⟩,⟨_,rfl,.pure pu⟩,trivial⟩ ⟨.inr ⟨_,_,rfl,rfl,.of (congrArg (fun f=> [A.mc b f]) (J2 h57)) (.pure ak)⟩,trivial⟩
   ·skip
    refine eS ⟨[]⟩ false rfl trivial (.cons (.pure pu) (.cons (.pure pu) .nil)) (iw 351) (fun u hu=>?_)
    refine bJ ?_
    refine dw ?_
    refine bJ ?_
    refine bJ ?_
    refine dw ?_
    exact mX ⟨hk.trans (z2 hc (GF hc46)),hu⟩
  ·skip
   refine eS ⟨[]⟩ false rfl trivial (.cons (.pure pu) (.cons (.pure pu) .nil)) (iw 351) (fun u hu=>?_)
   refine bJ ?_
   refine dw ?_
   refine bJ ?_
   refine bJ ?_
   refine dw ?_
   exact mX ⟨hk.trans (z2 hc (GD hc31)),hu⟩
 ·obtain rfl : i = l.length := by have := of_decide_eq_false hc10; omega
  rw [List.drop_length]at hk hg
  refine bx<|aM<|aM<|bA ?_
  refine cI 700 (cs':= [.mc b (mapOf (aX σ l))]) rfl (by rw [hg];rfl) ?_
  refine FZ (rs:= []) rfl az ⟨hk,nD rfl⟩
theorem wA {b:Nat} {σ:Int→Int} {l:List Ch} (hn:l.length≤maxLen) (h:dJ σ (-1) l=true):cv Tryz.prog 48 [.raw (.map (some b)),dS l] ⟨[(700,some [.mc b (mapOf σ)])]⟩ (gP (.tu []) [(700, [.mc b (mapOf (aX σ l))])]):=(AQ b σ l hn).ret (fun _ _ h=>h.2) fun u hu=>by rw [h]at hu;cases hu.1
theorem wC {b:Nat} {σ:Int→Int} {l:List Ch} (hn:l.length≤maxLen) (h:dJ σ (-1) l=false):iZ Tryz.prog 48 [.raw (.map (some b)),dS l] ⟨[(700,some [.mc b (mapOf σ)])]⟩ (fun u=>dJ σ (-1) l=false∧u=gZ 136 351):=(AQ b σ l hn).um fun r st hu=>by rw [h]at hu;cases hu.1
theorem HD (l:List Ep) (b:Nat):aw Tryz.prog 111 [cQ l,.raw (.map (some b))] (aO (.fn (.func 163) [] [.fp [cQ l],.fp [.raw (.map (some b))]])):=by
 refine enter Tryz.func111 rfl Tryz.ntmps111 (by kernel_rfl) (Nat.le_of_ble_eq_true rfl) fun w0 X0 hI=>?_
 refine af<|ai ?_
 refine aj rfl (kI 2 rfl rfl rfl rfl ?_)
 refine aj rfl (kI 3 rfl rfl rfl rfl ?_)
 refine s1 (aa rfl) rfl ?_
 refine ah<|ae<|af ?_
 refine fe 2 rfl rfl ak ?_
 refine fe 3 rfl rfl ak ?_
 refine ai<|s1 (gu (us:= []) (vs:= [.fp [cQ l],.fp [.raw (.map (some b))]]) rfl rfl) rfl<|s1 (aa rfl) rfl ?_
 refine ah<|ae<|aB ?_
 refine aC (rs:= [.tmp 4]) rfl (aA rfl az) ?_
 rfl
end Go.Abs.D2
-- C1B
namespace Go.Abs.D2
open Go Go.Eng Go.Abs Go.Proofs
theorem G0 (B:List UInt8) (u:BitVec 64) (hB:B.length≤100000000):cv Tryz.prog 169 [.sl 128 1 0 B.length,aH u] ⟨[(128,some (B.map u8))]⟩ (cU 1 (B++bo u.toNat).length ((B++bo u.toNat).map u8)):=by
 refine HR ak Tryz.func169 rfl Tryz.ntmps169 (by kernel_rfl) (Nat.le_of_ble_eq_true rfl) fun w0 X0 hI=>?_
 refine af<|ai<|s1 (aa rfl) rfl ?_
 refine ah<|ae<|af<|aI ?_
 refine bD (ι:=Nat) (fun k=> [(0,.sl 130 1 0 (B.length+k)),(1,aH (u>>>(7*k)))]) (fun k=>⟨[(130,some ((B++iE u.toNat (k)).map u8))]⟩) (fun k=>k≤10∧∀i,i<k→128≤u.toNat / 128 ^ i) (fun k=>10 - k) ?_ ?_
 ·exact bC (0) (⟨by omega,fun t ht=>absurd ht (by omega)⟩) [(130,some 128)] hI rfl rfl ⟨⟨_,rfl,.sl rfl (by first|rfl|omega|(simp<;>omega)|(simp [*]<;>omega))⟩,⟨_,rfl,.pure pu⟩,trivial⟩ ⟨.inr ⟨_,_,rfl,rfl,.of (by simp [iE]) (.pure ak)⟩,trivial⟩
 rintro k ⟨hk,hk2⟩
 have hsh:=yl u k
 have hpl:(B++iE u.toNat (k)).length=B.length+k:=by simp
 refine af<|af<|ai<|s1 (aa rfl) rfl<|s1 ((aa rfl).v (v':= .b (decide (128≤u.toNat / 128 ^ k))) (congrArg A.b (Kx u k))) rfl ?_
 refine ah<|ae ?_
 refine aK rfl (fun hc6=>?_) (fun hc6=>?_)
 ·have h6 : 128 ≤ u.toNat / 128 ^ k := of_decide_eq_true hc6
  have hk9:k<10:=Nat.lt_of_not_le fun h=>by rw [Lh u.isLt h]at h6;omega
  refine aE<|ae<|aI<|af<|ai<|s1 (aa rfl) rfl<|s1 (aa rfl) rfl<|s1 (ij _ (aL 127) rfl rfl) rfl<|s1 (iI _ Tryz.underlying198 Tryz.underlying5 rfl) rfl<|s1 ((uk _ (128:UInt8) rfl rfl).v (v':=u8 (UInt8.ofNat (u.toNat / 128 ^ k % 128+128))) (congrArg u8 (Kw u k))) rfl ?_
  refine aj rfl (ey 12 rfl Tryz.underlying68 aR rfl rfl rfl rfl rfl ?_)
  refine aj rfl (dB 13 rfl Tryz.underlying68 aR rfl (.sl rfl (by simp)) rfl (c8 rfl (by first|rfl|omega|(simp<;>omega)|(simp [*]<;>omega))) (by simp) (by simp only [maxLen];omega) (by omega) rfl (Kv B u k) rfl ?_)
  refine s1 (aa rfl) rfl ?_
  refine ah<|ae<|ai<|s1 (aa rfl) rfl<|s1 ((g9 _ 7 rfl rfl rfl (by decide)).v (v':=aH (u>>>(7*(k+1)))) (congrArg aH (MT u k))) rfl<|s1 (aa rfl) rfl ?_
  refine ah<|a8 ?_
  exact bf (k+1) (⟨by omega,vr hk2 h6⟩) (by omega) [(130,some 13)] hI rfl rfl ⟨⟨_,rfl,.sl rfl (by first|rfl|omega|(simp<;>omega)|(simp [*]<;>omega))⟩,⟨_,rfl,.pure pu⟩,trivial⟩ ⟨.inr ⟨_,_,rfl,rfl,.pure ak⟩,trivial⟩
 ·have h6 : ¬ 128 ≤ u.toNat / 128 ^ k := of_decide_eq_false hc6
  refine bx<|aM<|aM<|bA<|ae<|af<|ai<|s1 (aa rfl) rfl<|s1 (aa rfl) rfl<|s1 ((iI _ Tryz.underlying198 Tryz.underlying5 rfl).v (v':=u8 (UInt8.ofNat (u.toNat / 128 ^ k))) (by rw [hsh])) rfl ?_
  refine aj rfl (ey 19 rfl Tryz.underlying68 aR rfl rfl rfl rfl rfl ?_)
  refine aj rfl (dB 20 rfl Tryz.underlying68 aR rfl (.sl rfl (by simp)) rfl (c8 rfl (by first|rfl|omega|(simp<;>omega)|(simp [*]<;>omega))) (by simp) (by simp only [maxLen];omega) (by omega) rfl (Ky B hk2 (Nat.lt_of_not_le h6)) rfl ?_)
  refine s1 (aa rfl) rfl ?_
  refine ah<|ae<|aB ?_
  have hll:=Kz B hk2 (Nat.lt_of_not_le h6)
  refine aC (rs:= [.tmp 4]) rfl (aA rfl az) ⟨20,?_,rfl⟩
  rw [←hll];rfl
theorem vX (B R:List UInt8) (u:BitVec 64) (m:Nat) (hB:B.length≤100000000) (hm:m=B.length) (hR:B++bo u.toNat=R):cv Tryz.prog 169 [.sl 128 1 0 m,aH u] ⟨[(128,some (B.map u8))]⟩ (cU 1 R.length (R.map u8)):=by
  subst hm;subst hR
  exact G0 B u hB
theorem G7 (n:Int) (h0: -9223372036854775808≤n) (h1:n≤9223372036854775807):aw Tryz.prog 170 [.i .i64 n] (aO (aH (aL (ep n)))):=by
 refine enter Tryz.func170 rfl Tryz.ntmps170 (by kernel_rfl) (Nat.le_of_ble_eq_true rfl) fun w0 X0 hI=>?_
 refine af<|ai<|s1 ((aa rfl).v (v':= .i .u64 0) rfl) rfl ?_
 refine ah<|ae<|af<|ai<|s1 (aa rfl) rfl<|s1 ((cK Tryz.underlying3 Tryz.underlying198 rfl).v (v':=aH (BitVec.ofInt 64 n)) (congrArg (A.i .u64) (yH n))) rfl<|s1 (MQ _ 1 rfl rfl rfl (by decide)) rfl<|s1 (aa rfl) rfl<|s1 ((k5 rfl rfl (by decide)).v (v':= .i .i64 (if 0≤n then 0 else -1)) (congrArg (A.i .i64) (Nx h0 h1))) rfl<|s1 ((cK Tryz.underlying3 Tryz.underlying198 rfl).v (v':=aH (if 0≤n then 0 else BitVec.allOnes 64)) (congrArg (A.i .u64) (Nu n))) rfl<|s1 ((NY _ _ rfl rfl).v (v':=aH (aL (ep n))) (congrArg aH (Ny h0 h1))) rfl<|s1 (aa rfl) rfl ?_
 refine ah<|ae<|aB ?_
 refine aC (rs:= [.tmp 2]) rfl (aA rfl az) ?_
 rfl
theorem GC (k n:Int) (s:List UInt8) (l:List CV) (hl:CV.eo l<1000000) (ih:∀v∈l,aw Tryz.prog 166 [.ag v.cells] (aO (.b v.okB))):aw Tryz.prog 166 [.ag [.i .i64 k,.i .i64 n,.s s,.fz l.length (CV.bz l)]] (aO (.b (CV.okB (.mk k n s l)))):=by
 refine enter Tryz.func166 rfl Tryz.ntmps166 (by kernel_rfl) (Nat.le_of_ble_eq_true rfl) fun w0 X0 hI=>?_
 refine af<|ai ?_
 refine aj rfl (bF 1 rfl rfl rfl ?_)
 refine s1 (aa rfl) rfl ?_
 refine ah<|ae<|af<|af ?_
 have hll:=CV.qL l
 refine ai<|s1 (aD Tryz.underlying109 rfl an (by decide) rfl rfl) rfl<|s1 (au an rfl rfl rfl) rfl ?_
 refine ah<|ae<|aI<|af<|ai<|s1 (aa rfl) rfl<|s1 (aa rfl) rfl ?_
 refine ah<|ae ?_
 refine aK rfl (fun hc7=>?_) (fun hc7=>?_)
 ·have hk1 : k = 1 := by simpa using hc7
  refine af<|ai<|s1 (aD Tryz.underlying109 rfl gJ (by decide) rfl rfl) rfl<|s1 (au gJ rfl rfl rfl) rfl<|s1 ((aa rfl).v (v':= .b s.isEmpty) (congrArg A.b (by cases s<;>rfl))) rfl<|s1 (aa rfl) rfl ?_
  refine cT 4 rfl rfl rfl rfl (fun hb12=> .step (aD Tryz.underlying109 rfl cJ (by decide) rfl rfl) rfl rfl<| .step (au cJ rfl rfl rfl) rfl rfl<| .step (a7 Tryz.underlying107 rfl rfl rfl) rfl rfl<| .step (aa rfl) rfl rfl<| .done) rfl rfl ?_
  refine s1 (aa rfl) rfl ?_
  refine ah<|ae<|aB<|bI<|aN ?_
  refine aC (rs:= [.tmp 2]) rfl (aA rfl az) ?_
  exact congrArg A.b (Dc hk1)
 ·have hk1 : ¬ k = 1 := by simpa using hc7
  refine af<|ai<|s1 (aa rfl) rfl<|s1 (aa rfl) rfl ?_
  refine ah<|ae ?_
  refine aK rfl (fun hc18=>?_) (fun hc18=>?_)
  ·have hk2 : k = 2 := by simpa using hc18
   refine af<|ai<|s1 (aD Tryz.underlying109 rfl an (by decide) rfl rfl) rfl<|s1 (au an rfl rfl rfl) rfl<|s1 (aa rfl) rfl<|s1 (aa rfl) rfl ?_
   refine cT 4 rfl rfl rfl rfl (fun hb23=> .step (aD Tryz.underlying109 rfl cJ (by decide) rfl rfl) rfl rfl<| .step (au cJ rfl rfl rfl) rfl rfl<| .step (a7 Tryz.underlying107 rfl rfl rfl) rfl rfl<| .step (aa rfl) rfl rfl<| .done) rfl rfl ?_
   refine s1 (aa rfl) rfl ?_
   refine ah<|ae<|aB<|bI<|aN ?_
   refine aC (rs:= [.tmp 2]) rfl (aA rfl az) ?_
   exact congrArg A.b (Dd hk2)
  ·have hk2 : ¬ k = 2 := by simpa using hc18
   refine af<|ai<|s1 (aa rfl) rfl<|s1 (aa rfl) rfl ?_
   refine ah<|ae ?_
   refine aK rfl (fun hc29=>?_) (fun hc29=>?_)
   ·have hk3 : k = 3 := by simpa using hc29
    refine af<|af<|ai<|s1 (aD Tryz.underlying109 rfl an (by decide) rfl rfl) rfl<|s1 (au an rfl rfl rfl) rfl<|s1 (aa rfl) rfl<|s1 (aa rfl) rfl ?_
    refine kF 3 rfl rfl rfl rfl (fun hb34=> .step (aD Tryz.underlying109 rfl gJ (by decide) rfl rfl) rfl rfl<| .step (au gJ rfl rfl rfl) rfl rfl<| .step ((aa rfl).v (v':= .b (!s.isEmpty)) (congrArg A.b (by cases s<;>rfl))) rfl rfl<| .done) rfl rfl ?_
    refine ah<|ae ?_
    refine aK rfl (fun hc38=>?_) (fun hc38=>?_)
    ·skip
     refine af<|ai<|s1 (aa rfl) rfl ?_
     refine ah<|ae<|aB<|aN<|bI<|aN ?_
     refine aC (rs:= [.tmp 2]) rfl (aA rfl az) ?_
     exact congrArg A.b (KL hk3 hc38)
    ·skip
     refine aE<|ae<|af<|af<|ai<|s1 (aD Tryz.underlying109 rfl cJ (by decide) rfl rfl) rfl<|s1 (au cJ rfl rfl rfl) rfl<|s1 (a7 Tryz.underlying107 rfl rfl rfl) rfl<|s1 ((aa rfl).v (v':= .i .i64 0) rfl) rfl ?_
     refine ah<|ae<|aI ?_
     refine bD (ι:=Nat) (fun i=> [(40,.fz l.length (CV.bz l)),(41,nJ l.length),(42,nJ i)]) (fun i=>⟨[]⟩) (fun i=>i≤l.length∧(l.take i).all CV.okB=true) (fun i=>l.length - i) ?_ ?_
     ·exact bC (0) (⟨Nat.zero_le _,rfl⟩) [] hI rfl rfl ⟨⟨_,rfl,.pure pu⟩,⟨_,rfl,.pure pu⟩,⟨_,rfl,.pure pu⟩,trivial⟩ trivial
     rintro i ⟨hi,hi2⟩
     refine af<|ai<|s1 (aa rfl) rfl ?_
     refine ah<|ae<|af ?_
     refine aK rfl (fun hc43=>?_) (fun hc43=>?_)
     ·have h43 : i < l.length := by have := of_decide_eq_true hc43; omega
      obtain⟨v,hv⟩:∃v,l[i]? =some v:=⟨_,List.getElem?_eq_getElem h43⟩
      have hvm:=List.mem_of_getElem? hv
      refine aE<|ae<|af<|aI<|af<|ai<|s1 (bb i Tryz.underlying107 bd rfl rfl rfl (by omega) rfl) rfl<|s1 (bp bd rfl rfl (CV.get hv) (CV.len_cells v)) rfl ?_
      refine aj rfl (bg 4 rfl bd rfl rfl ?_)
      refine aj rfl (ba bd rfl rfl rfl (CV.len_cells v) (by first|rfl|omega|(simp<;>omega)|(simp [*]<;>omega)) ?_)
      refine ah<|ae<|af<|ai<|s1 (aG bd rfl rfl (CV.len_cells v)) rfl ?_
      refine aj rfl (aF false rfl (.cons (.pure pu) (.nil)) (ih v hvm) pu (.inl rfl) rfl ?_)
      refine s1 (aa rfl) rfl ?_
      refine ah<|ae ?_
      refine aK rfl (fun hc48=>?_) (fun hc48=>?_)
      ·have h48 : v.okB = false := by simpa using hc48
       refine af<|ai<|s1 (aa rfl) rfl ?_
       refine ah<|ae<|aB<|bI<|aN<|aN<|bI<|aN<|bI<|aN ?_
       refine aC (rs:= [.tmp 2]) rfl (aA rfl az) ?_
       exact congrArg A.b (De hk3 hv h48)
      ·have h48 : v.okB = true := by simpa using hc48
       refine aE<|a8<|ae<|ai<|s1 (aZ _ 1 rfl rfl rfl rfl (by omega)) rfl<|s1 (aa rfl) rfl ?_
       refine ah ?_
       exact bf (i+1) (⟨by omega,zi hv hi2 h48⟩) (by omega) [] hI rfl rfl ⟨⟨_,rfl,.pure pu⟩,⟨_,rfl,.pure pu⟩,⟨_,rfl,.pure pu⟩,trivial⟩ trivial
     ·obtain rfl : i = l.length := by have := of_decide_eq_false hc43; omega
      refine bx<|aM<|aM<|bA<|ae<|af<|ai<|s1 (aa rfl) rfl ?_
      refine ah<|ae<|aB<|bI<|aN ?_
      refine aC (rs:= [.tmp 2]) rfl (aA rfl az) ?_
      exact congrArg A.b (KK hk3 hc38 hi2)
   ·have hk3 : ¬ k = 3 := by simpa using hc29
    refine aE<|a8<|ae<|af<|ai<|s1 (aa rfl) rfl ?_
    refine ah<|ae<|aB ?_
    refine aC (rs:= [.tmp 2]) rfl (aA rfl az) ?_
    exact congrArg A.b (Db hk1 hk2 hk3)
theorem GB (v:CV) (h:v.size≤1000000):aw Tryz.prog 166 [.ag v.cells] (aO (.b v.okB)):=CV.pq (p:=fun v=>aw Tryz.prog 166 [.ag v.cells] (aO (.b v.okB))) 1000000 (fun k n s l hl ih=>GC k n s l hl ih) v h
theorem Gz (k n:Int) (s:List UInt8) (l:List CV) (hl:CV.eo l<1000000) (ih:∀v∈l,aw Tryz.prog 167 [.ag v.cells] (aO (nJ v.depth))):aw Tryz.prog 167 [.ag [.i .i64 k,.i .i64 n,.s s,.fz l.length (CV.bz l)]] (aO (nJ (CV.depth (.mk k n s l)))):=by
 refine enter Tryz.func167 rfl Tryz.ntmps167 (by kernel_rfl) (Nat.le_of_ble_eq_true rfl) fun w0 X0 hI=>?_
 refine af<|ai ?_
 refine aj rfl (bF 1 rfl rfl rfl ?_)
 refine s1 ((aa rfl).v (v':= .i .i64 0) rfl) rfl ?_
 refine ah<|ae<|af<|af ?_
 have hll:=CV.qL l
 have hdl:=CV.wu l
 refine ai<|s1 (aD Tryz.underlying109 rfl an (by decide) rfl rfl) rfl<|s1 (au an rfl rfl rfl) rfl<|s1 (aa rfl) rfl ?_
 refine ah<|ae ?_
 refine aK rfl (fun hc8=>?_) (fun hc8=>?_)
 ·have hk3 : ¬ k = 3 := by simpa using hc8
  refine af<|ai<|s1 ((aa rfl).v (v':= .i .i64 0) rfl) rfl ?_
  refine ah<|ae<|aB<|aN ?_
  refine aC (rs:= [.tmp 2]) rfl (aA rfl az) ?_
  exact congrArg nJ (show 0=CV.depth (.mk k n s l) by rw [CV.depth,if_neg hk3])
 ·have hk3 : k = 3 := by simpa using hc8
  refine aE<|ae<|af<|ai<|s1 ((aa rfl).v (v':= .i .i64 0) rfl) rfl ?_
  refine ah<|ae<|af<|af<|ai<|s1 (aD Tryz.underlying109 rfl cJ (by decide) rfl rfl) rfl<|s1 (au cJ rfl rfl rfl) rfl<|s1 (a7 Tryz.underlying107 rfl rfl rfl) rfl<|s1 ((aa rfl).v (v':= .i .i64 0) rfl) rfl ?_
  refine ah<|ae<|aI ?_
  refine bD (ι:=Nat) (fun i=> [(3,nJ (CV.dF (l.take i))),(10,.fz l.length (CV.bz l)),(11,nJ l.length),(12,nJ i)]) (fun i=>⟨[]⟩) (fun i=>i≤l.length) (fun i=>l.length - i) ?_ ?_
  ·exact bC (0) (Nat.zero_le _) [] hI rfl rfl ⟨⟨_,rfl,.pure pu⟩,⟨_,rfl,.pure pu⟩,⟨_,rfl,.pure pu⟩,⟨_,rfl,.pure pu⟩,trivial⟩ trivial
  rintro i hi
  refine af<|ai<|s1 (aa rfl) rfl ?_
  refine ah<|ae<|af ?_
  refine aK rfl (fun hc13=>?_) (fun hc13=>?_)
  ·have h43 : i < l.length := by have := of_decide_eq_true hc13; omega
   obtain⟨v,hv⟩:∃v,l[i]? =some v:=⟨_,List.getElem?_eq_getElem h43⟩
   have hvm:=List.mem_of_getElem? hv
   refine aE<|ae<|af<|aI<|af<|ai<|s1 (bb i Tryz.underlying107 bd rfl rfl rfl (by omega) rfl) rfl<|s1 (bp bd rfl rfl (CV.get hv) (CV.len_cells v)) rfl ?_
   refine aj rfl (bg 5 rfl bd rfl rfl ?_)
   refine aj rfl (ba bd rfl rfl rfl (CV.len_cells v) (by first|rfl|omega|(simp<;>omega)|(simp [*]<;>omega)) ?_)
   refine ah<|ae<|ai<|s1 (aa rfl) rfl<|s1 (aG bd rfl rfl (CV.len_cells v)) rfl ?_
   refine aj rfl (aF false rfl (.cons (.pure pu) (.nil)) (ih v hvm) pu (.inl rfl) rfl ?_)
   refine s1 ((uV (a:=CV.dF (l.take i)) (b:=v.depth) rfl rfl rfl).v (v':=nJ (CV.dF (l.take (i+1)))) (congrArg nJ (CV.AF hv))) rfl<|s1 (aa rfl) rfl ?_
   refine ah<|a8<|ae<|ai<|s1 (aZ _ 1 rfl rfl rfl rfl (by omega)) rfl<|s1 (aa rfl) rfl ?_
   refine ah ?_
   exact bf (i+1) (by omega) (by omega) [] hI rfl rfl ⟨⟨_,rfl,.pure pu⟩,⟨_,rfl,.pure pu⟩,⟨_,rfl,.pure pu⟩,⟨_,rfl,.pure pu⟩,trivial⟩ trivial
  ·obtain rfl : i = l.length := by have := of_decide_eq_false hc13; omega
   refine bx<|aM<|aM<|bA<|ae<|af<|ai<|s1 ((aa rfl).v (v':=nJ (CV.dF l)) (by rw [List.take_length])) rfl<|s1 (aZ _ 1 rfl rfl rfl rfl (by omega)) rfl<|s1 (aa rfl) rfl ?_
   refine ah<|ae<|aB ?_
   refine aC (rs:= [.tmp 2]) rfl (aA rfl az) ?_
   exact congrArg nJ (show CV.dF l+1=CV.depth (.mk k n s l) by rw [CV.depth,if_pos hk3])
theorem Gy (v:CV) (h:v.size≤1000000):aw Tryz.prog 167 [.ag v.cells] (aO (nJ v.depth)):=CV.pq (p:=fun v=>aw Tryz.prog 167 [.ag v.cells] (aO (nJ v.depth))) 1000000 (fun k n s l hl ih=>Gz k n s l hl ih) v h
theorem Gw (v:CV) (h:v.size≤1000000):aw Tryz.prog 115 [.ag v.cells] (aO (.i .i64 (fg v))):=by
 refine enter Tryz.func115 rfl Tryz.ntmps115 (by kernel_rfl) (Nat.le_of_ble_eq_true rfl) fun w0 X0 hI=>?_
 refine af<|ai ?_
 refine aj rfl (bF 1 rfl rfl rfl ?_)
 refine s1 ((aa rfl).v (v':= .i .i64 0) rfl) rfl ?_
 refine ah<|ae<|af<|af<|ai<|s1 (aG bd rfl rfl (CV.len_cells v)) rfl ?_
 refine aj rfl (aF false rfl (.cons (.pure pu) (.nil)) (GB v h) pu (.inl rfl) rfl ?_)
 refine s1 (aa rfl) rfl ?_
 refine ah<|ae ?_
 refine aK rfl (fun hc5=>?_) (fun hc5=>?_)
 ·have h5 : v.okB = false := by simpa using hc5
  refine af<|ai<|s1 ((aa rfl).v (v':= .i .i64 1) rfl) rfl ?_
  refine ah<|ae<|aB<|aN ?_
  refine aC (rs:= [.tmp 2]) rfl (aA rfl az) ?_
  exact congrArg (A.i .i64) (Ag h5).symm
 ·have h5 : v.okB = true := by simpa using hc5
  refine aE<|ae<|af<|af<|ai<|s1 (aG bd rfl rfl (CV.len_cells v)) rfl ?_
  refine aj rfl (aF false rfl (.cons (.pure pu) (.nil)) (Gy v h) pu (.inl rfl) rfl ?_)
  refine s1 (aa rfl) rfl ?_
  refine ah<|ae ?_
  refine aK rfl (fun hc8=>?_) (fun hc8=>?_)
  ·have h8 : 16 < v.depth := by have := of_decide_eq_true hc8; omega
   refine af<|ai<|s1 ((aa rfl).v (v':= .i .i64 2) rfl) rfl ?_
   refine ah<|ae<|aB<|aN ?_
   refine aC (rs:= [.tmp 2]) rfl (aA rfl az) ?_
   exact congrArg (A.i .i64) (Ah h5 h8).symm
  ·have h8 : ¬ 16 < v.depth := by have := of_decide_eq_false hc8; omega
   refine aE<|ae<|af<|ai<|s1 ((aa rfl).v (v':= .i .i64 0) rfl) rfl ?_
   refine ah<|ae<|aB ?_
   refine aC (rs:= [.tmp 2]) rfl (aA rfl az) ?_
   exact congrArg (A.i .i64) (vU h5 h8).symm
end Go.Abs.D2
-- C1C
namespace Go.Abs.D2
open Go Go.Eng Go.Abs Go.Proofs
def fO (i:Nat):List A:= [.raw .nilFunc,.fn (.func 168) [] [],.fn (.func 171) [] [],.fn (.func 172) [] [.p i 0]]
theorem wq:k7 fO:=sK (wo trivial) (sK (wo ⟨trivial,trivial⟩) (sK (wo ⟨trivial,trivial⟩) (sK Ht Hq)))
theorem Aw (B R:List UInt8) (n:Int) (s:List UInt8) (l:List CV) (h0: -9223372036854775808≤n) (h1:n≤9223372036854775807) (hR:B++1::bo (ep n)=R) (hl:R.length≤100000000):cv Tryz.prog 168 [.sl 131 1 0 B.length,.ag [.i .i64 1,.i .i64 n,.s s,.fz l.length (CV.bz l)]] ⟨[(131,some (B.map u8))]⟩ (fY 1 R.length (R.map u8) []):=by
 refine wH [] ak CR CQ Dh Tryz.func168 rfl Tryz.ntmps168 (by kernel_rfl) (Nat.le_of_ble_eq_true rfl) fun w0 X0 hI=>?_
 refine af<|ai ?_
 refine aj rfl (bF 3 rfl rfl rfl ?_)
 refine s1 (aa rfl) rfl ?_
 refine ah<|ae<|af ?_
 have hlen:B.length+1≤100000000:=by rw [←hR]at hl;simp at hl;omega
 refine cr ⟨_, [], []⟩ 7 4 br (le_refl rfl) ?_
 refine aq 0 [] [(131,none)] (aa rfl) rfl rfl ?_
 refine tg 6 1 [] aV Tryz.underlying68 aR rfl rfl rfl rfl rfl rfl ?_
 refine gV 128 2 [0,1] [(6,some 1),(131,none)] aV Tryz.underlying68 aR rfl (.sl rfl (by simp)) rfl (c8 rfl (by first|rfl|omega|(simp<;>omega)|(simp [*]<;>omega))) (by simp) (by simp only [maxLen];omega) (by omega) rfl (vu B 1) rfl rfl ?_
 refine aq 3 [] [(3,none)] (aD Tryz.underlying109 rfl an (by decide) rfl rfl) rfl rfl ?_
 refine aq 4 [3] [(3,none)] (au an rfl rfl rfl) rfl rfl ?_
 refine bL false 5 [4] [] aV rfl (.cons (.pure pu) (.nil)) (G7 n h0 h1) pu (.inl rfl) rfl rfl ?_
 refine wZ 11 ⟨[(128,some ((B++ [1]).map u8))]⟩ true 6 [2,5] [(128,some 2)] aV rfl ⟨⟨rfl,aW.pure ak⟩,trivial⟩ (.cons (.ksl rfl) (.cons (.pure pu) .nil)) (vX (B++ [1]) (R) (aL (ep n)) (B.length+1) (by simp;omega) (by simp) (by rw [iN (lR h0 h1), ←hR];simp)) ak (.inr eX) rfl rfl ?_
 refine ct (by kernel_rfl) ?_
 refine s1 (aa rfl) rfl ?_
 refine ah<|ae<|aB ?_
 refine aC (rs:= [.tmp 4]) rfl (aA rfl az) (DM rfl)
theorem Ax (B R:List UInt8) (n:Int) (s:List UInt8) (l:List CV) (hR:B++2::(bo s.length++s)=R) (hl:R.length≤100000000):cv Tryz.prog 171 [.sl 131 1 0 B.length,.ag [.i .i64 2,.i .i64 n,.s s,.fz l.length (CV.bz l)]] ⟨[(131,some (B.map u8))]⟩ (fY 1 R.length (R.map u8) []):=by
 refine wH [] ak CR CQ Dh Tryz.func171 rfl Tryz.ntmps171 (by kernel_rfl) (Nat.le_of_ble_eq_true rfl) fun w0 X0 hI=>?_
 refine af<|ai ?_
 refine aj rfl (bF 3 rfl rfl rfl ?_)
 refine s1 (aa rfl) rfl ?_
 refine ah<|ae<|af ?_
 have hlen:B.length+1+s.length≤100000000:=by rw [←hR]at hl;simp at hl;omega
 have hlen2:(B++2::bo s.length).length+s.length=R.length:=by rw [←hR];simp;omega
 refine cr ⟨_, [], []⟩ 11 4 br (le_refl rfl) ?_
 refine aq 0 [] [(131,none)] (aa rfl) rfl rfl ?_
 refine tg 6 1 [] aV Tryz.underlying68 aR rfl rfl rfl rfl rfl rfl ?_
 refine gV 128 2 [0,1] [(6,some 1),(131,none)] aV Tryz.underlying68 aR rfl (.sl rfl (by simp)) rfl (c8 rfl (by first|rfl|omega|(simp<;>omega)|(simp [*]<;>omega))) (by simp) (by simp only [maxLen];omega) (by omega) rfl (vu B 2) rfl rfl ?_
 refine aq 3 [] [(3,none)] (aD Tryz.underlying109 rfl gJ (by decide) rfl rfl) rfl rfl ?_
 refine aq 4 [3] [(3,none)] (au gJ rfl rfl rfl) rfl rfl ?_
 refine aq 5 [4] [] (uU Tryz.underlying9 rfl rfl) rfl rfl ?_
 refine aq 6 [5] [] (mw _ Tryz.underlying3 Tryz.underlying198 rfl rfl) rfl rfl ?_
 refine wZ 12 ⟨[(128,some ((B++ [2]).map u8))]⟩ true 7 [2,6] [(128,some 2)] aV rfl ⟨⟨rfl,aW.pure ak⟩,trivial⟩ (.cons (.ksl rfl) (.cons (.pure pu) .nil)) (vX (B++ [2]) (B++2::bo s.length) (aL s.length) (B.length+1) (by simp;omega) (by simp) (by rw [iN (by omega)];simp)) ak (.inr eX) rfl rfl ?_
 refine aq 8 [] [(3,none)] (aD Tryz.underlying109 rfl gJ (by decide) rfl rfl) rfl rfl ?_
 refine aq 9 [8] [(3,none)] (au gJ rfl rfl rfl) rfl rfl ?_
 refine BJ 15 10 [7,9] [(12,some 7)] aV Tryz.underlying68 Tryz.underlying9 aR rfl rfl (by simp) (by simp;omega) rfl (by simp only [maxLen];omega) (by omega) (FJ _ _ R (by rw [←hR];simp)) rfl rfl ?_
 refine ct (by kernel_rfl) ?_
 refine s1 (aa rfl) rfl ?_
 refine ah<|ae<|aB ?_
 refine aC (rs:= [.tmp 4]) rfl (aA rfl az) ?_
 rw [←hlen2]
 exact DM rfl
theorem EO {s0:St} {ow:Bool} {T:Nat} {cs:List A} (h:s0.get T=some cs):∀p∈ [(T,fO T)],(∃cs,s0.get p.1=some cs)∧lW s0 ow p.2:=fun p hp=>by
  rw [List.mem_singleton.1 hp]
  exact⟨⟨_,h⟩,.inl ⟨trivial,.inr trivial⟩,.inl ⟨⟨trivial,trivial⟩,.inr ⟨trivial,trivial⟩⟩,.inl ⟨⟨trivial,trivial⟩,.inr ⟨trivial,trivial⟩⟩,Fg h,trivial⟩
theorem He (n:Int) (s:List UInt8) (l:List CV) (ih:∀v∈l,∀(n:Int) (s:List UInt8) (q:List CV),v= .mk 3 n s q→CV.jw q=true→CV.kP q=true→∀B R:List UInt8,B++3::(bo q.length++CV.bK q)=R→R.length≤100000000→cv Tryz.prog 172 [.sl 131 1 0 B.length,.ag [.i .i64 3,.i .i64 n,.s s,.fz q.length (CV.bz q)],.p 11 0] ⟨[(131,some (B.map u8)),(11,some (fO 11))]⟩ (fY 1 R.length (R.map u8) [(11,fO 11)])) (hok:CV.jw l=true) (hrg:CV.kP l=true) (B R:List UInt8) (hR:B++3::(bo l.length++CV.bK l)=R) (hl:R.length≤100000000):cv Tryz.prog 172 [.sl 131 1 0 B.length,.ag [.i .i64 3,.i .i64 n,.s s,.fz l.length (CV.bz l)],.p 11 0] ⟨[(131,some (B.map u8)),(11,some (fO 11))]⟩ (fY 1 R.length (R.map u8) [(11,fO 11)]):=by
 refine wH [11] ak KT (KS rfl) (KW wq) Tryz.func172 rfl Tryz.ntmps172 (by kernel_rfl) (Nat.le_of_ble_eq_true rfl) fun w0 X0 hI=>?_
 refine af<|ai ?_
 refine aj rfl (bF 4 rfl rfl rfl ?_)
 refine s1 (aa rfl) rfl ?_
 refine ah<|ae<|af ?_
 have hnl:=CV.qJ l
 have hRl:R.length=B.length+1+(bo l.length).length+(CV.bK l).length:=by rw [←hR];simp;omega
 rw [CV.lI]at hok
 rw [CV.ri]at hrg
 refine cr ⟨_, [], []⟩ 8 4 br (le_refl rfl) ?_
 refine aq 0 [] [(131,none)] (aa rfl) rfl rfl ?_
 refine tg 9 1 [] aV Tryz.underlying68 aR rfl rfl rfl rfl rfl rfl ?_
 refine gV 128 2 [0,1] [(9,some 1),(131,none)] aV Tryz.underlying68 aR rfl (.sl rfl (by simp)) rfl (c8 rfl (by first|rfl|omega|(simp<;>omega)|(simp [*]<;>omega))) (by simp) (by simp only [maxLen];omega) (by omega) rfl (vu B 3) rfl rfl ?_
 refine aq 3 [] [(4,none)] (aD Tryz.underlying109 rfl cJ (by decide) rfl rfl) rfl rfl ?_
 refine aq 4 [3] [(4,none)] (au cJ rfl rfl rfl) rfl rfl ?_
 refine aq 5 [4] [] (a7 Tryz.underlying107 rfl rfl rfl) rfl rfl ?_
 refine aq 6 [5] [] (mw _ Tryz.underlying3 Tryz.underlying198 rfl rfl) rfl rfl ?_
 refine wZ 15 ⟨[(128,some ((B++ [3]).map u8))]⟩ true 7 [2,6] [(128,some 2)] aV rfl ⟨⟨rfl,aW.pure ak⟩,trivial⟩ (.cons (.ksl rfl) (.cons (.pure pu) .nil)) (vX (B++ [3]) (B++3::(bo l.length++CV.bK (l.take 0))) (aL l.length) (B.length+1) (by simp;omega) (by simp) (by rw [iN (by omega)];simp [CV.bK])) ak (.inr eX) rfl rfl ?_
 refine ct (by kernel_rfl) ?_
 refine s1 (aa rfl) rfl ?_
 refine ah<|ae<|af<|af<|ai<|s1 (aD Tryz.underlying109 rfl cJ (by decide) rfl rfl) rfl<|s1 (au cJ rfl rfl rfl) rfl<|s1 (a7 Tryz.underlying107 rfl rfl rfl) rfl<|s1 ((aa rfl).v (v':= .i .i64 0) rfl) rfl ?_
 refine ah<|ae<|aI ?_
 refine bD (ι:=Nat) (fun i=> [(0,.sl 131 1 0 (B++3::(bo l.length++CV.bK (l.take i))).length),(2,.p 11 0),(17,.fz l.length (CV.bz l)),(18,nJ l.length),(19,nJ i)]) (fun i=>⟨[(131,some ((B++3::(bo l.length++CV.bK (l.take i))).map u8)),(11,some (fO 11))]⟩) (fun i=>i≤l.length) (fun i=>l.length - i) ?_ ?_
 ·exact bC (0) (Nat.zero_le _) [(11,some 11),(131,some 15)] hI rfl rfl ⟨⟨_,rfl,.sl rfl (by first|rfl|omega|(simp<;>omega)|(simp [*]<;>omega))⟩,⟨_,rfl,.p rfl⟩,⟨_,rfl,.pure pu⟩,⟨_,rfl,.pure pu⟩,⟨_,rfl,.pure pu⟩,trivial⟩ ⟨.inr ⟨_,_,rfl,rfl,.pure ak⟩,.inr ⟨_,_,rfl,rfl,.cons (.pure trivial) (.cons (.pure pu) (.cons (.pure pu) (.cons (.fn .nil (.cons (.p rfl) .nil)) .nil)))⟩,trivial⟩
 rintro i hi
 have hli:=CV.qw l i
 have hli2:=CV.qw l (i+1)
 have hCl:(B++3::(bo l.length++CV.bK (l.take i))).length=B.length+1+(bo l.length).length+(CV.bK (l.take i)).length:=by simp;omega
 have hCl2:(B++3::(bo l.length++CV.bK (l.take (i+1)))).length=B.length+1+(bo l.length).length+(CV.bK (l.take (i+1))).length:=by simp;omega
 refine af<|ai<|s1 (aa rfl) rfl ?_
 refine ah<|ae<|af ?_
 refine aK rfl (fun hc20=>?_) (fun hc20=>?_)
 ·have h20 : i < l.length := by have := of_decide_eq_true hc20; omega
  obtain⟨⟨k2,n2,s2,q2⟩,hv⟩:∃v,l[i]? =some v:=⟨_,List.getElem?_eq_getElem h20⟩
  have hvm:=List.mem_of_getElem? hv
  have hvo:=List.all_eq_true.1 hok _ hvm
  have hvr:=List.all_eq_true.1 hrg _ hvm
  simp only [CV.dN,Bool.and_eq_true,decide_eq_true_eq]at hvr
  refine aE<|ae<|af<|aI<|af<|ai<|s1 (bb i Tryz.underlying107 bd rfl rfl rfl (by omega) rfl) rfl<|s1 (bp bd rfl rfl (CV.IL hv) rfl) rfl ?_
  refine aj rfl (bg 7 rfl bd rfl rfl ?_)
  refine aj rfl (ba bd rfl rfl rfl (by first|rfl|omega|(simp<;>omega)|(simp [*]<;>omega)) (by first|rfl|omega|(simp<;>omega)|(simp [*]<;>omega)) ?_)
  refine ah<|ae ?_
  rcases nA hvo with hcs|hcs|hcs
  ·subst hcs
   refine cr ⟨_, [], []⟩ 7 4 br (le_refl rfl) ?_
   refine aq 0 [] [(7,none)] (aD Tryz.underlying109 rfl an (by decide) rfl rfl) rfl rfl ?_
   refine aq 1 [0] [(7,none)] (au an rfl rfl rfl) rfl rfl ?_
   refine aq 2 [1] [(11,none)] (cu 1 Tryz.underlying158 fW rfl rfl rfl (by decide) rfl) rfl rfl ?_
   refine aq 3 [2] [(11,none)] (au fW rfl rfl rfl) rfl rfl ?_
   refine aq 4 [] [(131,none)] (aa rfl) rfl rfl ?_
   refine aq 5 [] [(7,none)] (aG bd rfl rfl (by first|rfl|omega|(simp<;>omega)|(simp [*]<;>omega))) rfl rfl ?_
   refine oK 29 ⟨[(131,some ((B++3::(bo l.length++CV.bK (l.take i))).map u8))]⟩ [] true 6 [3,4,5] [(131,none)] aV rfl rfl rfl ⟨⟨rfl,aW.pure ak⟩,trivial⟩ (.cons (.ksl rfl) (.cons (.pure pu) .nil)) (Aw _ (B++3::(bo l.length++CV.bK (l.take (i+1)))) n2 s2 q2 hvr.1.1 hvr.1.2 (by rw [←CV.oA hv];simp [CV.enc]) (by omega)) ak (.inr eX) tU rfl rfl ?_
   refine ct (by kernel_rfl) ?_
   refine s1 (aa rfl) rfl ?_
   refine ah<|a8<|ae<|ai<|s1 (aZ _ 1 rfl rfl rfl rfl (by omega)) rfl<|s1 (aa rfl) rfl ?_
   refine ah ?_
   exact bf (i+1) (by omega) (by omega) [(11,some 11),(131,some 29)] hI rfl rfl ⟨⟨_,rfl,.sl rfl (by first|rfl|omega|(simp<;>omega)|(simp [*]<;>omega))⟩,⟨_,rfl,.p rfl⟩,⟨_,rfl,.pure pu⟩,⟨_,rfl,.pure pu⟩,⟨_,rfl,.pure pu⟩,trivial⟩ ⟨.inr ⟨_,_,rfl,rfl,.pure ak⟩,.inr ⟨_,_,rfl,rfl,.cons (.pure trivial) (.cons (.pure pu) (.cons (.pure pu) (.cons (.fn .nil (.cons (.p rfl) .nil)) .nil)))⟩,trivial⟩
  ·subst hcs
   refine cr ⟨_, [], []⟩ 7 4 br (le_refl rfl) ?_
   refine aq 0 [] [(7,none)] (aD Tryz.underlying109 rfl an (by decide) rfl rfl) rfl rfl ?_
   refine aq 1 [0] [(7,none)] (au an rfl rfl rfl) rfl rfl ?_
   refine aq 2 [1] [(11,none)] (cu 2 Tryz.underlying158 fW rfl rfl rfl (by decide) rfl) rfl rfl ?_
   refine aq 3 [2] [(11,none)] (au fW rfl rfl rfl) rfl rfl ?_
   refine aq 4 [] [(131,none)] (aa rfl) rfl rfl ?_
   refine aq 5 [] [(7,none)] (aG bd rfl rfl (by first|rfl|omega|(simp<;>omega)|(simp [*]<;>omega))) rfl rfl ?_
   refine oK 29 ⟨[(131,some ((B++3::(bo l.length++CV.bK (l.take i))).map u8))]⟩ [] true 6 [3,4,5] [(131,none)] aV rfl rfl rfl ⟨⟨rfl,aW.pure ak⟩,trivial⟩ (.cons (.ksl rfl) (.cons (.pure pu) .nil)) (Ax _ (B++3::(bo l.length++CV.bK (l.take (i+1)))) n2 s2 q2 (by rw [←CV.oA hv];simp [CV.enc]) (by omega)) ak (.inr eX) tU rfl rfl ?_
   refine ct (by kernel_rfl) ?_
   refine s1 (aa rfl) rfl ?_
   refine ah<|a8<|ae<|ai<|s1 (aZ _ 1 rfl rfl rfl rfl (by omega)) rfl<|s1 (aa rfl) rfl ?_
   refine ah ?_
   exact bf (i+1) (by omega) (by omega) [(11,some 11),(131,some 29)] hI rfl rfl ⟨⟨_,rfl,.sl rfl (by first|rfl|omega|(simp<;>omega)|(simp [*]<;>omega))⟩,⟨_,rfl,.p rfl⟩,⟨_,rfl,.pure pu⟩,⟨_,rfl,.pure pu⟩,⟨_,rfl,.pure pu⟩,trivial⟩ ⟨.inr ⟨_,_,rfl,rfl,.pure ak⟩,.inr ⟨_,_,rfl,rfl,.cons (.pure trivial) (.cons (.pure pu) (.cons (.pure pu) (.cons (.fn .nil (.cons (.p rfl) .nil)) .nil)))⟩,trivial⟩
  ·obtain ⟨rfl, hq2⟩ := hcs
   refine cr ⟨_, [], []⟩ 7 4 br (le_refl rfl) ?_
   refine aq 0 [] [(7,none)] (aD Tryz.underlying109 rfl an (by decide) rfl rfl) rfl rfl ?_
   refine aq 1 [0] [(7,none)] (au an rfl rfl rfl) rfl rfl ?_
   refine aq 2 [1] [(11,none)] (cu 3 Tryz.underlying158 fW rfl rfl rfl (by decide) rfl) rfl rfl ?_
   refine aq 3 [2] [(11,none)] (au fW rfl rfl rfl) rfl rfl ?_
   refine aq 4 [] [(131,none)] (aa rfl) rfl rfl ?_
   refine aq 5 [] [(7,none)] (aG bd rfl rfl (by first|rfl|omega|(simp<;>omega)|(simp [*]<;>omega))) rfl rfl ?_
   refine oK 29 ⟨[(131,some ((B++3::(bo l.length++CV.bK (l.take i))).map u8)),(11,some (fO 11))]⟩ [(11,fO 11)] true 6 [3,4,5] [(11,none),(131,none)] aV rfl rfl rfl ⟨⟨rfl,aW.pure ak⟩,⟨rfl,(.cons (.pure trivial) (.cons (.pure pu) (.cons (.pure pu) (.cons (.fn .nil (.cons (.kp rfl) .nil)) .nil))))⟩,trivial⟩ (.cons (.ksl rfl) (.cons (.pure pu) (.cons (.kp rfl) .nil))) (ih _ hvm n2 s2 q2 rfl hq2 hvr.2 _ (B++3::(bo l.length++CV.bK (l.take (i+1)))) (by rw [←CV.oA hv];simp [CV.enc]) (by omega)) ak (.inr eX) (EO rfl) rfl rfl ?_
   refine ct (by kernel_rfl) ?_
   refine s1 (aa rfl) rfl ?_
   refine ah<|a8<|ae<|ai<|s1 (aZ _ 1 rfl rfl rfl rfl (by omega)) rfl<|s1 (aa rfl) rfl ?_
   refine ah ?_
   exact bf (i+1) (by omega) (by omega) [(11,some 11),(131,some 29)] hI rfl rfl ⟨⟨_,rfl,.sl rfl (by first|rfl|omega|(simp<;>omega)|(simp [*]<;>omega))⟩,⟨_,rfl,.p rfl⟩,⟨_,rfl,.pure pu⟩,⟨_,rfl,.pure pu⟩,⟨_,rfl,.pure pu⟩,trivial⟩ ⟨.inr ⟨_,_,rfl,rfl,.pure ak⟩,.inr ⟨_,_,rfl,rfl,.cons (.pure trivial) (.cons (.pure pu) (.cons (.pure pu) (.cons (.fn .nil (.cons (.p rfl) .nil)) .nil)))⟩,trivial⟩
 ·obtain rfl : i = l.length := by have := of_decide_eq_false hc20; omega
  refine bx<|aM<|aM<|bA<|ae<|af<|ai<|s1 (aa rfl) rfl<|s1 (aa rfl) rfl ?_
  refine ah<|ae<|aB ?_
  refine aC (rs:= [.tmp 5]) rfl (aA rfl az) ?_
  rw [←hR]
  exact LZ (by rw [List.take_length]) rfl rfl (by decide)
theorem Hd (n:Int) (s:List UInt8) (l:List CV) (hok:CV.jw l=true) (hrg:CV.kP l=true) (B R:List UInt8) (hR:B++3::(bo l.length++CV.bK l)=R) (hl:R.length≤100000000):cv Tryz.prog 172 [.sl 131 1 0 B.length,.ag [.i .i64 3,.i .i64 n,.s s,.fz l.length (CV.bz l)],.p 11 0] ⟨[(131,some (B.map u8)),(11,some (fO 11))]⟩ (fY 1 R.length (R.map u8) [(11,fO 11)]):=by
 have key:∀v:CV,v.size≤(CV.mk 3 n s l).size→∀(n:Int) (s:List UInt8) (q:List CV),v= .mk 3 n s q→CV.jw q=true→CV.kP q=true→∀B R:List UInt8,B++3::(bo q.length++CV.bK q)=R→R.length≤100000000→cv Tryz.prog 172 [.sl 131 1 0 B.length,.ag [.i .i64 3,.i .i64 n,.s s,.fz q.length (CV.bz q)],.p 11 0] ⟨[(131,some (B.map u8)),(11,some (fO 11))]⟩ (fY 1 R.length (R.map u8) [(11,fO 11)]):=by
  refine CV.pq _ fun k n s l hl ih=>?_
  rintro n' s' q e
  cases e
  exact He n s l ih
 exact key _ (Nat.le_refl _) n s l rfl hok hrg B R hR hl
theorem Hf:aw Tryz.prog 116 [] (vf (fun i=> .ag (fO i)) fO):=by
 refine enter Tryz.func116 rfl Tryz.ntmps116 (by kernel_rfl) (Nat.le_of_ble_eq_true rfl) fun w0 X0 hI=>?_
 refine af<|ai ?_
 refine aj rfl (bg 0 rfl pM rfl rfl ?_)
 refine ah<|ae<|af<|ai<|s1 (cu 1 Tryz.underlying158 fW rfl rfl rfl (by omega) rfl) rfl ?_
 refine aj rfl (bX fW rfl rfl rfl rfl (by first|rfl|omega|(simp<;>omega)|(simp [*]<;>omega)) rfl ?_)
 refine ah<|ae<|af<|ai<|s1 (cu 2 Tryz.underlying158 fW rfl rfl rfl (by omega) rfl) rfl ?_
 refine aj rfl (bX fW rfl rfl rfl rfl (by first|rfl|omega|(simp<;>omega)|(simp [*]<;>omega)) rfl ?_)
 refine ah<|ae<|af<|ai<|s1 (gu (us:= []) (vs:= [.p 0 0]) rfl rfl) rfl<|s1 (cu 3 Tryz.underlying158 fW rfl rfl rfl (by omega) rfl) rfl ?_
 refine aj rfl (bX fW rfl rfl rfl rfl (by first|rfl|omega|(simp<;>omega)|(simp [*]<;>omega)) rfl ?_)
 refine ah<|ae<|af<|ai<|s1 (aG pM rfl rfl rfl) rfl ?_
 refine aj rfl (ba pM rfl rfl rfl rfl rfl ?_)
 refine ah<|ae<|aB ?_
 refine aC (rs:= [.cell 0 158]) rfl (cw pM rfl rfl rfl rfl az) ⟨0,rfl,rfl⟩
end Go.Abs.D2
-- C1D
namespace Go.Abs.D2
open Go Go.Eng Go.Abs Go.Proofs
theorem zZ (k n:Int) (s:List UInt8) (l:List CV) (hs:(CV.mk k n s l).size≤1000000) (hrg:(CV.mk k n s l).dN=true) (hl:(CV.mk k n s l).enc.length≤100000000):aw Tryz.prog 69 [.ag [.i .i64 k,.i .i64 n,.s s,.fz l.length (CV.bz l)]] (aO (encA (.mk k n s l))):=by
 refine enter Tryz.func69 rfl Tryz.ntmps69 (by kernel_rfl) (Nat.le_of_ble_eq_true rfl) fun w0 X0 hI=>?_
 refine af<|ai ?_
 refine aj rfl (bF 1 rfl rfl rfl ?_)
 refine s1 (aa rfl) rfl<|s1 ((aa rfl).v (v':= .i .i64 0) rfl) rfl ?_
 refine ah<|ae<|af<|af ?_
 simp only [CV.dN,Bool.and_eq_true,decide_eq_true_eq]at hrg
 refine ai<|s1 (aG bd rfl rfl rfl) rfl ?_
 refine aj rfl (aF false rfl (.cons (.pure pu) (.nil)) (Gw (.mk k n s l) hs) pu (.inl rfl) rfl ?_)
 refine s1 (aa rfl) rfl ?_
 refine ah<|ae<|af<|ai<|s1 (aa rfl) rfl<|s1 (aa rfl) rfl ?_
 refine ah<|ae ?_
 refine aK rfl (fun hc9=>?_) (fun hc9=>?_)
 ·have h9 : fg (.mk k n s l) ≠ 0 := by simpa using hc9
  refine af<|ai<|s1 (aa rfl) rfl<|s1 (aa rfl) rfl<|s1 (aa rfl) rfl ?_
  refine ah<|ae<|aB<|aN ?_
  refine aC (rs:= [.tmp 2,.tmp 3]) rfl (aA rfl (aA rfl az)) ?_
  exact(A1 h9).symm
 ·have h9 : fg (.mk k n s l) = 0 := by simpa using hc9
  have hok:=Ai h9
  refine aE<|ae<|af<|ai ?_
  refine aj rfl (Kb (mk:=fun i=> .ag (fO i)) (mkc:=fO) (KQ (f:= .func 172) 3 wq (fun _=>rfl)) wq 11 rfl true rfl .nil Hf rfl ?_)
  refine aj rfl (bg 5 rfl pM rfl rfl ?_)
  refine aj rfl (ba pM rfl rfl rfl rfl rfl ?_)
  refine ah<|ae<|af ?_
  rcases nA hok with hcs|hcs|hcs
  ·subst hcs
   refine cr ⟨_, [], []⟩ 6 4 br (le_refl rfl) ?_
   refine aq 0 [] [(1,none)] (aD Tryz.underlying109 rfl an (by decide) rfl rfl) rfl rfl ?_
   refine aq 1 [0] [(1,none)] (au an rfl rfl rfl) rfl rfl ?_
   refine aq 2 [1] [(5,none)] (cu 1 Tryz.underlying158 fW rfl rfl rfl (by decide) rfl) rfl rfl ?_
   refine aq 3 [2] [(5,none)] (au fW rfl rfl rfl) rfl rfl ?_
   refine aq 4 [] [(1,none)] (aG bd rfl rfl rfl) rfl rfl ?_
   refine oK 17 ⟨[]⟩ [] true 5 [3,4] [] aV rfl rfl rfl trivial (.cons (.pure pu) (.cons (.pure pu) .nil)) (cv.nl (i:=131) rfl (Aw [] (CV.enc (.mk 1 n s l)) n s l hrg.1.1 hrg.1.2 rfl hl)) ak (.inr eX) tU rfl rfl ?_
   refine ct (by kernel_rfl) ?_
   refine s1 (aa rfl) rfl<|s1 ((aa rfl).v (v':= .i .i64 0) rfl) rfl ?_
   refine ah<|ae<|aB ?_
   refine fQ 2 rfl rfl ak (cm (by simp) rfl) ?_
   refine aC (rs:= [.tmp 2,.tmp 3]) rfl (aA rfl (aA rfl az)) ?_
   exact(oz h9).symm
  ·subst hcs
   refine cr ⟨_, [], []⟩ 6 4 br (le_refl rfl) ?_
   refine aq 0 [] [(1,none)] (aD Tryz.underlying109 rfl an (by decide) rfl rfl) rfl rfl ?_
   refine aq 1 [0] [(1,none)] (au an rfl rfl rfl) rfl rfl ?_
   refine aq 2 [1] [(5,none)] (cu 2 Tryz.underlying158 fW rfl rfl rfl (by decide) rfl) rfl rfl ?_
   refine aq 3 [2] [(5,none)] (au fW rfl rfl rfl) rfl rfl ?_
   refine aq 4 [] [(1,none)] (aG bd rfl rfl rfl) rfl rfl ?_
   refine oK 17 ⟨[]⟩ [] true 5 [3,4] [] aV rfl rfl rfl trivial (.cons (.pure pu) (.cons (.pure pu) .nil)) (cv.nl (i:=131) rfl (Ax [] (CV.enc (.mk 2 n s l)) n s l rfl hl)) ak (.inr eX) tU rfl rfl ?_
   refine ct (by kernel_rfl) ?_
   refine s1 (aa rfl) rfl<|s1 ((aa rfl).v (v':= .i .i64 0) rfl) rfl ?_
   refine ah<|ae<|aB ?_
   refine fQ 2 rfl rfl ak (cm (by simp) rfl) ?_
   refine aC (rs:= [.tmp 2,.tmp 3]) rfl (aA rfl (aA rfl az)) ?_
   exact(oz h9).symm
  ·obtain ⟨rfl, hq2⟩ := hcs
   refine cr ⟨_, [], []⟩ 6 4 br (le_refl rfl) ?_
   refine aq 0 [] [(1,none)] (aD Tryz.underlying109 rfl an (by decide) rfl rfl) rfl rfl ?_
   refine aq 1 [0] [(1,none)] (au an rfl rfl rfl) rfl rfl ?_
   refine aq 2 [1] [(5,none)] (cu 3 Tryz.underlying158 fW rfl rfl rfl (by decide) rfl) rfl rfl ?_
   refine aq 3 [2] [(5,none)] (au fW rfl rfl rfl) rfl rfl ?_
   refine aq 4 [] [(1,none)] (aG bd rfl rfl rfl) rfl rfl ?_
   refine oK 17 ⟨[(11,some (fO 11))]⟩ [(11,fO 11)] true 5 [3,4] [(11,none)] aV rfl rfl rfl ⟨⟨rfl,(.cons (.pure trivial) (.cons (.pure pu) (.cons (.pure pu) (.cons (.fn .nil (.cons (.kp rfl) .nil)) .nil))))⟩,trivial⟩ (.cons (.pure pu) (.cons (.pure pu) (.cons (.kp rfl) .nil))) (cv.nl (i:=131) rfl (Hd n s l hq2 hrg.2 [] (CV.enc (.mk 3 n s l)) rfl hl)) ak (.inr eX) (EO rfl) rfl rfl ?_
   refine ct (by kernel_rfl) ?_
   refine s1 (aa rfl) rfl<|s1 ((aa rfl).v (v':= .i .i64 0) rfl) rfl ?_
   refine ah<|ae<|aB ?_
   refine fQ 2 rfl rfl ak (cm (by simp) rfl) ?_
   refine aC (rs:= [.tmp 2,.tmp 3]) rfl (aA rfl (aA rfl az)) ?_
   exact(oz h9).symm
end Go.Abs.D2
-- D2A
namespace Go.Abs.D2
open Go Go.Eng Go.Abs Go.Proofs
theorem xD (htag:∀(t b:List UInt8),t.length≤1048576→b.length≤1048576→aw Tryz.prog 50 [.s t,.fz b.length (b.map u8)] (aO (.ag ((tagged t b).map u8)))) (a b:List UInt8) (ha:a.length=32) (hb:b.length=32):aw Tryz.prog 96 [.ag (a.map u8),.ag (b.map u8)] (aO (.ag ((tagged [110,111,100,101] (a++b)).map u8))):=by
 refine enter Tryz.func96 rfl Tryz.ntmps96 (by kernel_rfl) (Nat.le_of_ble_eq_true rfl) fun w0 X0 hI=>?_
 refine af<|ai ?_
 refine aj rfl (bF 2 rfl rfl rfl ?_)
 refine aj rfl (bF 3 rfl rfl rfl ?_)
 refine aj rfl (bg 4 rfl ar rfl rfl ?_)
 refine ah<|ae<|af ?_
 refine cr ⟨_, [], []⟩ 6 4 br (le_refl rfl) ?_
 refine II 5 0 [] 0 64 aV Tryz.underlying68 aR rfl rfl rfl rfl rfl (by first|omega|(simp only [maxLen];omega)|(simp [maxLen];done)|(simp [maxLen];omega)|(simp [maxLen, *];omega)) (by first|omega|(simp only [maxLen];omega)|(simp [maxLen];done)|(simp [maxLen];omega)|(simp [maxLen, *];omega)) (by first|omega|(simp only [maxLen];omega)|(simp [maxLen];done)|(simp [maxLen];omega)|(simp [maxLen, *];omega)) rfl rfl ?_
 refine aq 1 [] [(2,none)] (gN Tryz.underlying23 aR rfl rfl (by first|rfl|omega|(simp<;>omega)|(simp [*]<;>omega)|(simp [aT.len, -List.length_flatten, *]<;>omega)) (by simp [maxLen])) rfl rfl ?_
 refine gV 7 2 [0,1] [(2,none),(5,some 0)] aV Tryz.underlying68 aR rfl (.sl rfl (by first|rfl|omega|(simp<;>omega)|(simp [*]<;>omega)|(simp [aT.len, -List.length_flatten, *]<;>omega))) rfl (c8 rfl (by first|rfl|omega|(simp<;>omega)|(simp [*]<;>omega)|(simp [aT.len, -List.length_flatten, *]<;>omega))) (by first|rfl|omega|(simp<;>omega)|(simp [*]<;>omega)|(simp [aT.len, -List.length_flatten, *]<;>omega)) (by first|omega|(simp only [maxLen];omega)|(simp [maxLen];done)|(simp [maxLen];omega)|(simp [maxLen, *];omega)) (by first|omega|(simp only [maxLen];omega)|(simp [maxLen];done)|(simp [maxLen];omega)|(simp [maxLen, *];omega)) rfl rfl rfl rfl ?_
 refine aq 3 [] [(3,none)] (gN Tryz.underlying23 aR rfl rfl (by first|rfl|omega|(simp<;>omega)|(simp [*]<;>omega)|(simp [aT.len, -List.length_flatten, *]<;>omega)) (by simp [maxLen])) rfl rfl ?_
 refine gV 9 4 [2,3] [(3,none),(7,some 2)] aV Tryz.underlying68 aR rfl (.sl rfl (by first|rfl|omega|(simp<;>omega)|(simp [*]<;>omega)|(simp [aT.len, -List.length_flatten, *]<;>omega))) rfl (c8 rfl (by first|rfl|omega|(simp<;>omega)|(simp [*]<;>omega)|(simp [aT.len, -List.length_flatten, *]<;>omega))) (by first|rfl|omega|(simp<;>omega)|(simp [*]<;>omega)|(simp [aT.len, -List.length_flatten, *]<;>omega)) (by first|omega|(simp only [maxLen];omega)|(simp [maxLen];done)|(simp [maxLen];omega)|(simp [maxLen, *];omega)) (by first|omega|(simp only [maxLen];omega)|(simp [maxLen];done)|(simp [maxLen];omega)|(simp [maxLen, *];omega)) rfl rfl rfl rfl ?_
 refine bL true 5 [4] [(9,some 4)] aV rfl (.cons (.pure pu) (.cons (.sl rfl rfl (by first|rfl|omega|(simp<;>omega)|(simp [*]<;>omega)|(simp [aT.len, -List.length_flatten, *]<;>omega)) (cm (by first|rfl|omega|(simp<;>omega)|(simp [*]<;>omega)|(simp [aT.len, -List.length_flatten, *]<;>omega)) (by first|rfl|(simp;done)|(simp [*];done))) (aW.pure ak) ak) (.nil))) (htag _ (a++b) (by simp) (by simp;omega)) pu (.inr fu) rfl rfl ?_
 refine ct (by kernel_rfl) ?_
 refine aj rfl (ba ar rfl rfl rfl (by first|rfl|omega|(simp<;>omega)|(simp [*]<;>omega)|(simp [aT.len, -List.length_flatten, *]<;>omega)) (by first|rfl|omega|(simp<;>omega)|(simp [*]<;>omega)|(simp [aT.len, -List.length_flatten, *]<;>omega)) ?_)
 refine ah<|ae<|aB ?_
 refine aC (rs:= [.cell 4 23]) rfl (cw ar rfl rfl (List.take_of_length_le (by simp)) (by simp) az) rfl
end Go.Abs.D2
-- D2B
namespace Go.Abs.D2
open Go Go.Eng Go.Abs Go.Proofs
theorem Md (x:BitVec 32):aw Tryz.prog 188 [aJ x,.i .i64 (-2)] (aO (aJ (fm x 2))):=by
 refine enter Tryz.func188 rfl Tryz.ntmps188 (by kernel_rfl) (Nat.le_of_ble_eq_true rfl) fun w0 X0 hI=>?_
 refine af<|ai<|s1 ((aa rfl).v (v':= .i .u32 0) rfl) rfl ?_
 refine ah<|ae<|af<|ai<|s1 (aa rfl) rfl<|s1 ((cK Tryz.underlying3 Tryz.underlying74 rfl).v (v':=aH (aL 18446744073709551614)) (congrArg (A.i .u64) (by decide))) rfl<|s1 ((ij _ (aL 31) rfl rfl).v (v':=aH (aL 30)) (congrArg aH (by decide))) rfl<|s1 (aa rfl) rfl ?_
 refine ah<|ae<|af<|ai<|s1 (aa rfl) rfl<|s1 (aa rfl) rfl<|s1 (j9 _ 30 rfl rfl rfl (by decide)) rfl<|s1 (aa rfl) rfl<|s1 (aa rfl) rfl<|s1 ((kW (aL 32) (aL 30) rfl rfl (by decide)).v (v':=aH (aL 2)) (congrArg aH (by decide))) rfl<|s1 (gH _ 2 rfl rfl rfl (by decide)) rfl<|s1 ((j0 _ _ rfl rfl).v (congrArg aJ (kR x 2))) rfl<|s1 (aa rfl) rfl ?_
 refine ah<|ae<|aB ?_
 refine aC (rs:= [.tmp 4]) rfl (aA rfl (az)) rfl
theorem Mg (x:BitVec 32):aw Tryz.prog 188 [aJ x,.i .i64 (-6)] (aO (aJ (fm x 6))):=by
 refine enter Tryz.func188 rfl Tryz.ntmps188 (by kernel_rfl) (Nat.le_of_ble_eq_true rfl) fun w0 X0 hI=>?_
 refine af<|ai<|s1 ((aa rfl).v (v':= .i .u32 0) rfl) rfl ?_
 refine ah<|ae<|af<|ai<|s1 (aa rfl) rfl<|s1 ((cK Tryz.underlying3 Tryz.underlying74 rfl).v (v':=aH (aL 18446744073709551610)) (congrArg (A.i .u64) (by decide))) rfl<|s1 ((ij _ (aL 31) rfl rfl).v (v':=aH (aL 26)) (congrArg aH (by decide))) rfl<|s1 (aa rfl) rfl ?_
 refine ah<|ae<|af<|ai<|s1 (aa rfl) rfl<|s1 (aa rfl) rfl<|s1 (j9 _ 26 rfl rfl rfl (by decide)) rfl<|s1 (aa rfl) rfl<|s1 (aa rfl) rfl<|s1 ((kW (aL 32) (aL 26) rfl rfl (by decide)).v (v':=aH (aL 6)) (congrArg aH (by decide))) rfl<|s1 (gH _ 6 rfl rfl rfl (by decide)) rfl<|s1 ((j0 _ _ rfl rfl).v (congrArg aJ (kR x 6))) rfl<|s1 (aa rfl) rfl ?_
 refine ah<|ae<|aB ?_
 refine aC (rs:= [.tmp 4]) rfl (aA rfl (az)) rfl
theorem Mh (x:BitVec 32):aw Tryz.prog 188 [aJ x,.i .i64 (-7)] (aO (aJ (fm x 7))):=by
 refine enter Tryz.func188 rfl Tryz.ntmps188 (by kernel_rfl) (Nat.le_of_ble_eq_true rfl) fun w0 X0 hI=>?_
 refine af<|ai<|s1 ((aa rfl).v (v':= .i .u32 0) rfl) rfl ?_
 refine ah<|ae<|af<|ai<|s1 (aa rfl) rfl<|s1 ((cK Tryz.underlying3 Tryz.underlying74 rfl).v (v':=aH (aL 18446744073709551609)) (congrArg (A.i .u64) (by decide))) rfl<|s1 ((ij _ (aL 31) rfl rfl).v (v':=aH (aL 25)) (congrArg aH (by decide))) rfl<|s1 (aa rfl) rfl ?_
 refine ah<|ae<|af<|ai<|s1 (aa rfl) rfl<|s1 (aa rfl) rfl<|s1 (j9 _ 25 rfl rfl rfl (by decide)) rfl<|s1 (aa rfl) rfl<|s1 (aa rfl) rfl<|s1 ((kW (aL 32) (aL 25) rfl rfl (by decide)).v (v':=aH (aL 7)) (congrArg aH (by decide))) rfl<|s1 (gH _ 7 rfl rfl rfl (by decide)) rfl<|s1 ((j0 _ _ rfl rfl).v (congrArg aJ (kR x 7))) rfl<|s1 (aa rfl) rfl ?_
 refine ah<|ae<|aB ?_
 refine aC (rs:= [.tmp 4]) rfl (aA rfl (az)) rfl
theorem L8 (x:BitVec 32):aw Tryz.prog 188 [aJ x,.i .i64 (-11)] (aO (aJ (fm x 11))):=by
 refine enter Tryz.func188 rfl Tryz.ntmps188 (by kernel_rfl) (Nat.le_of_ble_eq_true rfl) fun w0 X0 hI=>?_
 refine af<|ai<|s1 ((aa rfl).v (v':= .i .u32 0) rfl) rfl ?_
 refine ah<|ae<|af<|ai<|s1 (aa rfl) rfl<|s1 ((cK Tryz.underlying3 Tryz.underlying74 rfl).v (v':=aH (aL 18446744073709551605)) (congrArg (A.i .u64) (by decide))) rfl<|s1 ((ij _ (aL 31) rfl rfl).v (v':=aH (aL 21)) (congrArg aH (by decide))) rfl<|s1 (aa rfl) rfl ?_
 refine ah<|ae<|af<|ai<|s1 (aa rfl) rfl<|s1 (aa rfl) rfl<|s1 (j9 _ 21 rfl rfl rfl (by decide)) rfl<|s1 (aa rfl) rfl<|s1 (aa rfl) rfl<|s1 ((kW (aL 32) (aL 21) rfl rfl (by decide)).v (v':=aH (aL 11)) (congrArg aH (by decide))) rfl<|s1 (gH _ 11 rfl rfl rfl (by decide)) rfl<|s1 ((j0 _ _ rfl rfl).v (congrArg aJ (kR x 11))) rfl<|s1 (aa rfl) rfl ?_
 refine ah<|ae<|aB ?_
 refine aC (rs:= [.tmp 4]) rfl (aA rfl (az)) rfl
theorem L9 (x:BitVec 32):aw Tryz.prog 188 [aJ x,.i .i64 (-13)] (aO (aJ (fm x 13))):=by
 refine enter Tryz.func188 rfl Tryz.ntmps188 (by kernel_rfl) (Nat.le_of_ble_eq_true rfl) fun w0 X0 hI=>?_
 refine af<|ai<|s1 ((aa rfl).v (v':= .i .u32 0) rfl) rfl ?_
 refine ah<|ae<|af<|ai<|s1 (aa rfl) rfl<|s1 ((cK Tryz.underlying3 Tryz.underlying74 rfl).v (v':=aH (aL 18446744073709551603)) (congrArg (A.i .u64) (by decide))) rfl<|s1 ((ij _ (aL 31) rfl rfl).v (v':=aH (aL 19)) (congrArg aH (by decide))) rfl<|s1 (aa rfl) rfl ?_
 refine ah<|ae<|af<|ai<|s1 (aa rfl) rfl<|s1 (aa rfl) rfl<|s1 (j9 _ 19 rfl rfl rfl (by decide)) rfl<|s1 (aa rfl) rfl<|s1 (aa rfl) rfl<|s1 ((kW (aL 32) (aL 19) rfl rfl (by decide)).v (v':=aH (aL 13)) (congrArg aH (by decide))) rfl<|s1 (gH _ 13 rfl rfl rfl (by decide)) rfl<|s1 ((j0 _ _ rfl rfl).v (congrArg aJ (kR x 13))) rfl<|s1 (aa rfl) rfl ?_
 refine ah<|ae<|aB ?_
 refine aC (rs:= [.tmp 4]) rfl (aA rfl (az)) rfl
theorem Ma (x:BitVec 32):aw Tryz.prog 188 [aJ x,.i .i64 (-17)] (aO (aJ (fm x 17))):=by
 refine enter Tryz.func188 rfl Tryz.ntmps188 (by kernel_rfl) (Nat.le_of_ble_eq_true rfl) fun w0 X0 hI=>?_
 refine af<|ai<|s1 ((aa rfl).v (v':= .i .u32 0) rfl) rfl ?_
 refine ah<|ae<|af<|ai<|s1 (aa rfl) rfl<|s1 ((cK Tryz.underlying3 Tryz.underlying74 rfl).v (v':=aH (aL 18446744073709551599)) (congrArg (A.i .u64) (by decide))) rfl<|s1 ((ij _ (aL 31) rfl rfl).v (v':=aH (aL 15)) (congrArg aH (by decide))) rfl<|s1 (aa rfl) rfl ?_
 refine ah<|ae<|af<|ai<|s1 (aa rfl) rfl<|s1 (aa rfl) rfl<|s1 (j9 _ 15 rfl rfl rfl (by decide)) rfl<|s1 (aa rfl) rfl<|s1 (aa rfl) rfl<|s1 ((kW (aL 32) (aL 15) rfl rfl (by decide)).v (v':=aH (aL 17)) (congrArg aH (by decide))) rfl<|s1 (gH _ 17 rfl rfl rfl (by decide)) rfl<|s1 ((j0 _ _ rfl rfl).v (congrArg aJ (kR x 17))) rfl<|s1 (aa rfl) rfl ?_
 refine ah<|ae<|aB ?_
 refine aC (rs:= [.tmp 4]) rfl (aA rfl (az)) rfl
theorem Mb (x:BitVec 32):aw Tryz.prog 188 [aJ x,.i .i64 (-18)] (aO (aJ (fm x 18))):=by
 refine enter Tryz.func188 rfl Tryz.ntmps188 (by kernel_rfl) (Nat.le_of_ble_eq_true rfl) fun w0 X0 hI=>?_
 refine af<|ai<|s1 ((aa rfl).v (v':= .i .u32 0) rfl) rfl ?_
 refine ah<|ae<|af<|ai<|s1 (aa rfl) rfl<|s1 ((cK Tryz.underlying3 Tryz.underlying74 rfl).v (v':=aH (aL 18446744073709551598)) (congrArg (A.i .u64) (by decide))) rfl<|s1 ((ij _ (aL 31) rfl rfl).v (v':=aH (aL 14)) (congrArg aH (by decide))) rfl<|s1 (aa rfl) rfl ?_
 refine ah<|ae<|af<|ai<|s1 (aa rfl) rfl<|s1 (aa rfl) rfl<|s1 (j9 _ 14 rfl rfl rfl (by decide)) rfl<|s1 (aa rfl) rfl<|s1 (aa rfl) rfl<|s1 ((kW (aL 32) (aL 14) rfl rfl (by decide)).v (v':=aH (aL 18)) (congrArg aH (by decide))) rfl<|s1 (gH _ 18 rfl rfl rfl (by decide)) rfl<|s1 ((j0 _ _ rfl rfl).v (congrArg aJ (kR x 18))) rfl<|s1 (aa rfl) rfl ?_
 refine ah<|ae<|aB ?_
 refine aC (rs:= [.tmp 4]) rfl (aA rfl (az)) rfl
theorem Mc (x:BitVec 32):aw Tryz.prog 188 [aJ x,.i .i64 (-19)] (aO (aJ (fm x 19))):=by
 refine enter Tryz.func188 rfl Tryz.ntmps188 (by kernel_rfl) (Nat.le_of_ble_eq_true rfl) fun w0 X0 hI=>?_
 refine af<|ai<|s1 ((aa rfl).v (v':= .i .u32 0) rfl) rfl ?_
 refine ah<|ae<|af<|ai<|s1 (aa rfl) rfl<|s1 ((cK Tryz.underlying3 Tryz.underlying74 rfl).v (v':=aH (aL 18446744073709551597)) (congrArg (A.i .u64) (by decide))) rfl<|s1 ((ij _ (aL 31) rfl rfl).v (v':=aH (aL 13)) (congrArg aH (by decide))) rfl<|s1 (aa rfl) rfl ?_
 refine ah<|ae<|af<|ai<|s1 (aa rfl) rfl<|s1 (aa rfl) rfl<|s1 (j9 _ 13 rfl rfl rfl (by decide)) rfl<|s1 (aa rfl) rfl<|s1 (aa rfl) rfl<|s1 ((kW (aL 32) (aL 13) rfl rfl (by decide)).v (v':=aH (aL 19)) (congrArg aH (by decide))) rfl<|s1 (gH _ 19 rfl rfl rfl (by decide)) rfl<|s1 ((j0 _ _ rfl rfl).v (congrArg aJ (kR x 19))) rfl<|s1 (aa rfl) rfl ?_
 refine ah<|ae<|aB ?_
 refine aC (rs:= [.tmp 4]) rfl (aA rfl (az)) rfl
theorem Me (x:BitVec 32):aw Tryz.prog 188 [aJ x,.i .i64 (-22)] (aO (aJ (fm x 22))):=by
 refine enter Tryz.func188 rfl Tryz.ntmps188 (by kernel_rfl) (Nat.le_of_ble_eq_true rfl) fun w0 X0 hI=>?_
 refine af<|ai<|s1 ((aa rfl).v (v':= .i .u32 0) rfl) rfl ?_
 refine ah<|ae<|af<|ai<|s1 (aa rfl) rfl<|s1 ((cK Tryz.underlying3 Tryz.underlying74 rfl).v (v':=aH (aL 18446744073709551594)) (congrArg (A.i .u64) (by decide))) rfl<|s1 ((ij _ (aL 31) rfl rfl).v (v':=aH (aL 10)) (congrArg aH (by decide))) rfl<|s1 (aa rfl) rfl ?_
 refine ah<|ae<|af<|ai<|s1 (aa rfl) rfl<|s1 (aa rfl) rfl<|s1 (j9 _ 10 rfl rfl rfl (by decide)) rfl<|s1 (aa rfl) rfl<|s1 (aa rfl) rfl<|s1 ((kW (aL 32) (aL 10) rfl rfl (by decide)).v (v':=aH (aL 22)) (congrArg aH (by decide))) rfl<|s1 (gH _ 22 rfl rfl rfl (by decide)) rfl<|s1 ((j0 _ _ rfl rfl).v (congrArg aJ (kR x 22))) rfl<|s1 (aa rfl) rfl ?_
 refine ah<|ae<|aB ?_
 refine aC (rs:= [.tmp 4]) rfl (aA rfl (az)) rfl
theorem Mf (x:BitVec 32):aw Tryz.prog 188 [aJ x,.i .i64 (-25)] (aO (aJ (fm x 25))):=by
 refine enter Tryz.func188 rfl Tryz.ntmps188 (by kernel_rfl) (Nat.le_of_ble_eq_true rfl) fun w0 X0 hI=>?_
 refine af<|ai<|s1 ((aa rfl).v (v':= .i .u32 0) rfl) rfl ?_
 refine ah<|ae<|af<|ai<|s1 (aa rfl) rfl<|s1 ((cK Tryz.underlying3 Tryz.underlying74 rfl).v (v':=aH (aL 18446744073709551591)) (congrArg (A.i .u64) (by decide))) rfl<|s1 ((ij _ (aL 31) rfl rfl).v (v':=aH (aL 7)) (congrArg aH (by decide))) rfl<|s1 (aa rfl) rfl ?_
 refine ah<|ae<|af<|ai<|s1 (aa rfl) rfl<|s1 (aa rfl) rfl<|s1 (j9 _ 7 rfl rfl rfl (by decide)) rfl<|s1 (aa rfl) rfl<|s1 (aa rfl) rfl<|s1 ((kW (aL 32) (aL 7) rfl rfl (by decide)).v (v':=aH (aL 25)) (congrArg aH (by decide))) rfl<|s1 (gH _ 25 rfl rfl rfl (by decide)) rfl<|s1 ((j0 _ _ rfl rfl).v (congrArg aJ (kR x 25))) rfl<|s1 (aa rfl) rfl ?_
 refine ah<|ae<|aB ?_
 refine aC (rs:= [.tmp 4]) rfl (aA rfl (az)) rfl
end Go.Abs.D2
-- D2C
namespace Go.Abs.D2
open Go Go.Eng Go.Abs Go.Proofs
end Go.Abs.D2
-- D2E
namespace Go.Abs.D2
open Go Go.Eng Go.Abs Go.Proofs
theorem r7 (s:S8) (b:List UInt8) (hb:b.length=64):cv Tryz.prog 148 [.p 3 0,.fz 64 (b.map u8)] ⟨[(3,some (s.l.map aJ))]⟩ (gP (.tu []) [(3,(comp s b).l.map aJ)]):=by
 refine qx Tryz.func148 rfl Tryz.ntmps148 (by kernel_rfl) (Nat.le_of_ble_eq_true rfl) fun w0 X0 hI=>?_
 refine af<|ai ?_
 refine aj rfl (bg 4 rfl Ns rfl rfl ?_)
 refine ah<|ae<|af<|af<|ai<|s1 ((aa rfl).v (v':= .i .i64 0) rfl) rfl ?_
 refine ah<|ae<|aI ?_
 refine bD (ι:=Nat) (fun i=> [(0,.p 3 0),(1,.fz 64 (b.map u8)),(4,.p 4 0),(23,.i .i64 (i:Nat))]) (fun i=>⟨[(3,some (s.l.map aJ)),(4,some ((words b i).map aJ++List.replicate (64 - i) (aJ 0)))]⟩) (fun i=>i≤16) (fun i=>16 - i) ?_ ?_
 ·exact bC (0) (Nat.zero_le _) [(3,some 3),(4,some 4)] hI rfl rfl ⟨⟨_,rfl,.p rfl⟩,⟨_,rfl,.pure pu⟩,⟨_,rfl,.p rfl⟩,⟨_,rfl,.pure pu⟩,trivial⟩ ⟨.inr ⟨_,_,rfl,rfl,.pure ak⟩,.inr ⟨_,_,rfl,rfl,.of (by rfl) (.pure ak)⟩,trivial⟩
 rintro i hi
 refine af<|ai<|s1 (aa rfl) rfl ?_
 refine ah<|ae<|af ?_
 refine aK rfl (fun hc24=>?_) (fun hc24=>?_)
 ·have hi16 : i < 16 := by have := of_decide_eq_true hc24; omega
  refine aE<|ae<|af<|aI<|af<|ai<|s1 (aa rfl) rfl<|s1 (aa rfl) rfl ?_
  refine ah<|ae<|af<|ai<|s1 ((aa rfl).v (v':= .i .i64 0) rfl) rfl ?_
  refine ah<|ae<|aI ?_
  refine bD (ι:=Nat) (fun j=> [(0,.p 3 0),(1,.fz 64 (b.map u8)),(4,.p 4 0),(5,.i .i64 (i:Nat)),(23,.i .i64 (i:Nat)),(26,.i .i64 (j:Nat))]) (fun j=>⟨[(3,some (s.l.map aJ)),(4,some ((words b i).map aJ++ [aJ (iW b (4*i) j)]++List.replicate (63 - i) (aJ 0)))]⟩) (fun j=>j≤4) (fun j=>4 - j) ?_ ?_
  ·skip
   refine cI 4 rfl (K8 b i (by omega)) ?_
   exact bC (0) (Nat.zero_le _) [(3,some 3),(4,some 4)] hI rfl rfl ⟨⟨_,rfl,.p rfl⟩,⟨_,rfl,.pure pu⟩,⟨_,rfl,.p rfl⟩,⟨_,rfl,.pure pu⟩,⟨_,rfl,.pure pu⟩,⟨_,rfl,.pure pu⟩,trivial⟩ ⟨.inr ⟨_,_,rfl,rfl,.pure ak⟩,.inr ⟨_,_,rfl,rfl,.pure ak⟩,trivial⟩
  rintro j hj
  refine af<|ai<|s1 (aa rfl) rfl ?_
  refine ah<|ae<|af ?_
  refine aK rfl (fun hc27=>?_) (fun hc27=>?_)
  ·have hj4 : j < 4 := by have := of_decide_eq_true hc27; omega
   refine aE<|ae<|af<|aI<|af<|ai<|s1 (aa rfl) rfl<|s1 (aa rfl) rfl ?_
   refine ah<|ae ?_
   refine dc 15 br (by kernel_rfl) ?_
   refine t1 (aa rfl) rfl<|t1 (aa rfl) rfl<|t1 (cu i Tryz.underlying216 cf rfl rfl rfl (by omega) rfl) rfl<|t1 (au cf rfl rfl (IW b i j)) rfl<|t1 (j9 _ 8 rfl rfl rfl (by decide)) rfl<|t1 (aa rfl) rfl<|t1 (aa rfl) rfl<|t1 (jY 4 i rfl rfl rfl rfl (by omega)) rfl<|t1 (aa rfl) rfl<|t1 (aZ (4*i) j rfl rfl rfl rfl (by omega)) rfl ?_
   refine t1 (bb (4*i+j) Tryz.underlying68 aR rfl rfl rfl (by omega) rfl) rfl<|t1 (au aR rfl rfl (BM (4*i+j) (by omega) rfl)) rfl<|t1 (KE _ Tryz.underlying5 Tryz.underlying183 rfl) rfl<|t1 ((j0 _ _ rfl rfl).v (v':=aJ (iW b (4*i) (j+1))) rfl) rfl<|t1 (cu i Tryz.underlying216 cf rfl rfl rfl (by omega) rfl) rfl ?_
   refine de ?_
   refine aj rfl (bX cf rfl rfl rfl rfl (by simp only [List.length_append,List.length_map,List.length_replicate,List.length_cons,List.length_nil,len_words];omega) (MH b i j) ?_)
   refine ah<|a8<|ae<|ai<|s1 (aZ _ 1 rfl rfl rfl rfl (by omega)) rfl<|s1 (aa rfl) rfl ?_
   refine ah ?_
   exact bf (j+1) (by omega) (by omega) [(3,some 3),(4,some 4)] hI rfl rfl ⟨⟨_,rfl,.p rfl⟩,⟨_,rfl,.pure pu⟩,⟨_,rfl,.p rfl⟩,⟨_,rfl,.pure pu⟩,⟨_,rfl,.pure pu⟩,⟨_,rfl,.pure pu⟩,trivial⟩ ⟨.inr ⟨_,_,rfl,rfl,.pure ak⟩,.inr ⟨_,_,rfl,rfl,.pure ak⟩,trivial⟩
  ·have hj4 : j = 4 := by have := of_decide_eq_false hc27; omega
   subst hj4
   refine bx<|aM<|aM<|bA<|a8<|ae<|ai<|s1 (aZ _ 1 rfl rfl rfl rfl (by omega)) rfl<|s1 (aa rfl) rfl ?_
   refine ah ?_
   exact bf (i+1) (by omega) (by omega) [(3,some 3),(4,some 4)] hI rfl rfl ⟨⟨_,rfl,.p rfl⟩,⟨_,rfl,.pure pu⟩,⟨_,rfl,.p rfl⟩,⟨_,rfl,.pure pu⟩,trivial⟩ ⟨.inr ⟨_,_,rfl,rfl,.pure ak⟩,.inr ⟨_,_,rfl,rfl,.of (K9 b i (by omega)) (.pure ak)⟩,trivial⟩
 ·have hi16 : i = 16 := by have := of_decide_eq_false hc24; omega
  subst hi16
  refine bx<|aM<|aM<|bA<|ae<|af<|af<|ai<|s1 ((aa rfl).v (v':= .i .i64 16) rfl) rfl ?_
  refine ah<|ae<|aI ?_
  refine bD (ι:=Nat) (fun k=> [(0,.p 3 0),(1,.fz 64 (b.map u8)),(4,.p 4 0),(7,.i .i64 ((16+k:Nat):Int))]) (fun k=>⟨[(3,some (s.l.map aJ)),(4,some ((sched b k).map aJ++List.replicate (48 - k) (aJ 0)))]⟩) (fun k=>k≤48) (fun k=>48 - k) ?_ ?_
  ·skip
   refine cI 4 rfl (cs':=(sched b 0).map aJ++List.replicate (48 - 0) (aJ 0)) (by rw [D5]) ?_
   exact bC (0) (Nat.zero_le _) [(3,some 3),(4,some 4)] hI rfl rfl ⟨⟨_,rfl,.p rfl⟩,⟨_,rfl,.pure pu⟩,⟨_,rfl,.p rfl⟩,⟨_,rfl,.pure pu⟩,trivial⟩ ⟨.inr ⟨_,_,rfl,rfl,.pure ak⟩,.inr ⟨_,_,rfl,rfl,.pure ak⟩,trivial⟩
  rintro k hk
  refine af<|af<|ai<|s1 (aa rfl) rfl<|s1 (aa rfl) rfl ?_
  refine ah<|ae ?_
  refine aK rfl (fun hc47=>?_) (fun hc47=>?_)
  ·have hk48 : k < 48 := by have := of_decide_eq_true hc47; omega
   refine aE<|ae<|af<|aI<|af ?_
   refine dc 9 br (by kernel_rfl) ?_
   refine t1 (aa rfl) rfl<|t1 (eD (16+k) 15 rfl rfl rfl rfl (by omega) (by omega)) rfl<|t1 (cu (16+k - 15) Tryz.underlying216 cf rfl rfl rfl (by omega) rfl) rfl<|t1 (au cf rfl rfl (oN (16+k - 15) (by first|rfl|omega|(simp<;>omega)|(simp [*]<;>omega)|(simp [aT.len, -List.length_flatten, *]<;>omega)) rfl)) rfl<|t1 (aa rfl) rfl<|t1 (eD (16+k) 2 rfl rfl rfl rfl (by omega) (by omega)) rfl<|t1 (cu (16+k - 2) Tryz.underlying216 cf rfl rfl rfl (by omega) rfl) rfl<|t1 (au cf rfl rfl (oN (16+k - 2) (by first|rfl|omega|(simp<;>omega)|(simp [*]<;>omega)|(simp [aT.len, -List.length_flatten, *]<;>omega)) rfl)) rfl<|t1 (aa rfl) rfl ?_
   refine de ?_
   refine s1 (aa rfl) rfl ?_
   refine ah<|ae<|af<|ai<|s1 (aa rfl) rfl ?_
   refine aj rfl (aF false rfl (.cons (.pure pu) (.cons (.pure pu) (.nil))) (Mh _) pu (.inl rfl) rfl ?_)
   refine s1 (aa rfl) rfl ?_
   refine aj rfl (aF false rfl (.cons (.pure pu) (.cons (.pure pu) (.nil))) (Mb _) pu (.inl rfl) rfl ?_)
   refine s1 (ki _ _ rfl rfl) rfl<|s1 (aa rfl) rfl<|s1 (gH _ 3 rfl rfl rfl (by decide)) rfl<|s1 (ki _ _ rfl rfl) rfl<|s1 (aa rfl) rfl ?_
   refine ah<|ae<|af<|ai<|s1 (aa rfl) rfl ?_
   refine aj rfl (aF false rfl (.cons (.pure pu) (.cons (.pure pu) (.nil))) (Ma _) pu (.inl rfl) rfl ?_)
   refine s1 (aa rfl) rfl ?_
   refine aj rfl (aF false rfl (.cons (.pure pu) (.cons (.pure pu) (.nil))) (Mc _) pu (.inl rfl) rfl ?_)
   refine s1 (ki _ _ rfl rfl) rfl<|s1 (aa rfl) rfl<|s1 (gH _ 10 rfl rfl rfl (by decide)) rfl<|s1 (ki _ _ rfl rfl) rfl<|s1 (aa rfl) rfl ?_
   refine ah<|ae ?_
   refine dc 15 br (by kernel_rfl) ?_
   refine t1 (aa rfl) rfl<|t1 (aa rfl) rfl<|t1 (eD (16+k) 16 rfl rfl rfl rfl (by omega) (by omega)) rfl<|t1 (cu (16+k - 16) Tryz.underlying216 cf rfl rfl rfl (by omega) rfl) rfl<|t1 (au cf rfl rfl (oN (16+k - 16) (by first|rfl|omega|(simp<;>omega)|(simp [*]<;>omega)|(simp [aT.len, -List.length_flatten, *]<;>omega)) rfl)) rfl<|t1 (aa rfl) rfl<|t1 (jN _ _ rfl rfl) rfl<|t1 (aa rfl) rfl<|t1 (eD (16+k) 7 rfl rfl rfl rfl (by omega) (by omega)) rfl<|t1 (cu (16+k - 7) Tryz.underlying216 cf rfl rfl rfl (by omega) rfl) rfl ?_
   refine t1 (au cf rfl rfl (oN (16+k - 7) (by first|rfl|omega|(simp<;>omega)|(simp [*]<;>omega)|(simp [aT.len, -List.length_flatten, *]<;>omega)) rfl)) rfl<|t1 (jN _ _ rfl rfl) rfl<|t1 (aa rfl) rfl<|t1 (jN _ _ rfl rfl) rfl<|t1 (cu (16+k) Tryz.underlying216 cf rfl rfl rfl (by omega) rfl) rfl ?_
   refine de ?_
   refine aj rfl (bX cf rfl rfl rfl rfl (by first|rfl|omega|(simp<;>omega)|(simp [*]<;>omega)|(simp [aT.len, -List.length_flatten, *]<;>omega)) (MI b k _ (by omega) rfl) ?_)
   refine ah<|a8<|ae<|ai<|s1 (aa rfl) rfl<|s1 (aZ _ 1 rfl rfl rfl rfl (by omega)) rfl<|s1 (aa rfl) rfl ?_
   refine ah ?_
   exact bf (k+1) (by omega) (by omega) [(3,some 3),(4,some 4)] hI rfl rfl ⟨⟨_,rfl,.p rfl⟩,⟨_,rfl,.pure pu⟩,⟨_,rfl,.p rfl⟩,⟨_,rfl,.pure pu⟩,trivial⟩ ⟨.inr ⟨_,_,rfl,rfl,.pure ak⟩,.inr ⟨_,_,rfl,rfl,.pure ak⟩,trivial⟩
  ·have hk48 : k = 48 := by have := of_decide_eq_false hc47; omega
   subst hk48
   refine bx<|aM<|aM<|bA<|ae<|af<|ai<|s1 (aa rfl) rfl<|s1 (rI rfl rfl) rfl<|s1 (aG mJ rfl rfl (by first|rfl|omega|(simp<;>omega)|(simp [*]<;>omega)|(simp [aT.len, -List.length_flatten, *]<;>omega))) rfl ?_
   refine aj rfl (bg 12 rfl mJ rfl rfl ?_)
   refine aj rfl (ba mJ rfl rfl rfl (by simp) (by simp) ?_)
   refine ah<|ae<|af<|af<|ai<|s1 ((aa rfl).v (v':= .i .i64 0) rfl) rfl ?_
   refine ah<|ae<|aI ?_
   refine bD (ι:=Nat) (fun t=> [(0,.p 3 0),(4,.p 4 0),(12,.p 12 0),(92,.i .i64 (t:Nat))]) (fun t=>⟨[(3,some (s.l.map aJ)),(4,some ((sched b 48).map aJ)),(12,some ((rounds (sched b 48) s t).l.map aJ))]⟩) (fun t=>t≤64) (fun t=>64 - t) ?_ ?_
   ·skip
    refine cI 4 rfl (cs':=(sched b 48).map aJ) (by simp) ?_
    exact bC (0) (Nat.zero_le _) [(3,some 3),(4,some 4),(12,some 12)] hI rfl rfl ⟨⟨_,rfl,.p rfl⟩,⟨_,rfl,.p rfl⟩,⟨_,rfl,.p rfl⟩,⟨_,rfl,.pure pu⟩,trivial⟩ ⟨.inr ⟨_,_,rfl,rfl,.pure ak⟩,.inr ⟨_,_,rfl,rfl,.pure ak⟩,.inr ⟨_,_,rfl,rfl,.pure ak⟩,trivial⟩
   rintro t ht
   refine af<|ai<|s1 (aa rfl) rfl ?_
   refine ah<|ae<|af ?_
   refine aK rfl (fun hc93=>?_) (fun hc93=>?_)
   ·have ht64 : t < 64 := by have := of_decide_eq_true hc93; omega
    refine aE<|ae<|af<|aI<|af<|ai<|s1 (aa rfl) rfl<|s1 (aa rfl) rfl ?_
    refine ah<|ae<|af ?_
    refine dc 11 br (by kernel_rfl) ?_
    refine t1 (cu 0 Tryz.underlying185 cf rfl rfl rfl (by omega) rfl) rfl<|t1 (au cf rfl rfl rfl) rfl<|t1 (cu 1 Tryz.underlying185 cf rfl rfl rfl (by omega) rfl) rfl<|t1 (au cf rfl rfl rfl) rfl<|t1 (cu 2 Tryz.underlying185 cf rfl rfl rfl (by omega) rfl) rfl<|t1 (au cf rfl rfl rfl) rfl<|t1 (cu 4 Tryz.underlying185 cf rfl rfl rfl (by omega) rfl) rfl<|t1 (au cf rfl rfl rfl) rfl<|t1 (aa rfl) rfl<|t1 (aa rfl) rfl ?_
    refine t1 (aa rfl) rfl ?_
    refine de ?_
    refine s1 (aa rfl) rfl ?_
    refine ah<|ae<|af<|ai<|s1 (aa rfl) rfl ?_
    refine aj rfl (aF false rfl (.cons (.pure pu) (.cons (.pure pu) (.nil))) (Mg _) pu (.inl rfl) rfl ?_)
    refine s1 (aa rfl) rfl ?_
    refine aj rfl (aF false rfl (.cons (.pure pu) (.cons (.pure pu) (.nil))) (L8 _) pu (.inl rfl) rfl ?_)
    refine s1 (ki _ _ rfl rfl) rfl<|s1 (aa rfl) rfl ?_
    refine aj rfl (aF false rfl (.cons (.pure pu) (.cons (.pure pu) (.nil))) (Mf _) pu (.inl rfl) rfl ?_)
    refine s1 (ki _ _ rfl rfl) rfl<|s1 (aa rfl) rfl ?_
    refine ah<|ae<|af ?_
    refine dc 23 br (by kernel_rfl) ?_
    refine t1 (cu 7 Tryz.underlying185 cf rfl rfl rfl (by omega) rfl) rfl<|t1 (au cf rfl rfl rfl) rfl<|t1 (aa rfl) rfl<|t1 (jN _ _ rfl rfl) rfl<|t1 (aa rfl) rfl<|t1 (cu 5 Tryz.underlying185 cf rfl rfl rfl (by omega) rfl) rfl<|t1 (au cf rfl rfl rfl) rfl<|t1 (qb _ _ rfl rfl) rfl<|t1 (aa rfl) rfl<|t1 (Kr _ rfl) rfl ?_
    refine t1 (cu 6 Tryz.underlying185 cf rfl rfl rfl (by omega) rfl) rfl<|t1 (au cf rfl rfl rfl) rfl<|t1 (qb _ _ rfl rfl) rfl<|t1 (ki _ _ rfl rfl) rfl<|t1 (jN _ _ rfl rfl) rfl<|t1 (aa rfl) rfl<|t1 (N5 t Tryz.underlying216 cf rfl rfl rfl (by omega) rfl) rfl<|t1 (au cf rfl rfl (IM t ht64)) rfl<|t1 (jN _ _ rfl rfl) rfl<|t1 (aa rfl) rfl ?_
    refine t1 (cu t Tryz.underlying216 cf rfl rfl rfl (by omega) rfl) rfl<|t1 (au cf rfl rfl (tq t (by first|rfl|omega|(simp<;>omega)|(simp [*]<;>omega)|(simp [aT.len, -List.length_flatten, *]<;>omega)) rfl)) rfl<|t1 (jN _ _ rfl rfl) rfl ?_
    refine de ?_
    refine s1 (aa rfl) rfl ?_
    refine ah<|ae<|af<|ai<|s1 (aa rfl) rfl ?_
    refine aj rfl (aF false rfl (.cons (.pure pu) (.cons (.pure pu) (.nil))) (Md _) pu (.inl rfl) rfl ?_)
    refine s1 (aa rfl) rfl ?_
    refine aj rfl (aF false rfl (.cons (.pure pu) (.cons (.pure pu) (.nil))) (L9 _) pu (.inl rfl) rfl ?_)
    refine s1 (ki _ _ rfl rfl) rfl<|s1 (aa rfl) rfl ?_
    refine aj rfl (aF false rfl (.cons (.pure pu) (.cons (.pure pu) (.nil))) (Me _) pu (.inl rfl) rfl ?_)
    refine s1 (ki _ _ rfl rfl) rfl<|s1 (aa rfl) rfl ?_
    refine ah<|ae<|af<|ai<|s1 (aa rfl) rfl<|s1 (aa rfl) rfl<|s1 (aa rfl) rfl<|s1 (qb _ _ rfl rfl) rfl<|s1 (aa rfl) rfl<|s1 (aa rfl) rfl<|s1 (qb _ _ rfl rfl) rfl<|s1 (ki _ _ rfl rfl) rfl<|s1 (aa rfl) rfl<|s1 (aa rfl) rfl ?_
    refine s1 (qb _ _ rfl rfl) rfl<|s1 (ki _ _ rfl rfl) rfl<|s1 (jN _ _ rfl rfl) rfl<|s1 (aa rfl) rfl ?_
    refine ah<|ae<|ai<|s1 (aa rfl) rfl<|s1 (aa rfl) rfl<|s1 (jN _ _ rfl rfl) rfl<|s1 (aa rfl) rfl<|s1 (aa rfl) rfl<|s1 (aa rfl) rfl<|s1 (cu 3 Tryz.underlying185 cf rfl rfl rfl (by omega) rfl) rfl<|s1 (au cf rfl rfl rfl) rfl<|s1 (aa rfl) rfl<|s1 (jN _ _ rfl rfl) rfl ?_
    refine s1 (aa rfl) rfl<|s1 (cu 5 Tryz.underlying185 cf rfl rfl rfl (by omega) rfl) rfl<|s1 (au cf rfl rfl rfl) rfl<|s1 (cu 6 Tryz.underlying185 cf rfl rfl rfl (by omega) rfl) rfl<|s1 (au cf rfl rfl rfl) rfl<|s1 (E3 (vs:= [_,_,_,_,_,_,_,_]) mJ rfl Tryz.underlying185 cf rfl rfl rfl rfl) rfl ?_
    refine aj rfl (ba mJ rfl rfl rfl (by simp) (by simp) ?_)
    refine ah<|a8<|ae<|ai<|s1 (aZ _ 1 rfl rfl rfl rfl (by omega)) rfl<|s1 (aa rfl) rfl ?_
    refine ah ?_
    exact bf (t+1) (by omega) (by omega) [(3,some 3),(4,some 4),(12,some 12)] hI rfl rfl ⟨⟨_,rfl,.p rfl⟩,⟨_,rfl,.p rfl⟩,⟨_,rfl,.p rfl⟩,⟨_,rfl,.pure pu⟩,trivial⟩ ⟨.inr ⟨_,_,rfl,rfl,.pure ak⟩,.inr ⟨_,_,rfl,rfl,.pure ak⟩,.inr ⟨_,_,rfl,rfl,.pure ak⟩,trivial⟩
   ·have ht64 : t = 64 := by have := of_decide_eq_false hc93; omega
    subst ht64
    refine bx<|aM<|aM<|bA<|ae<|af<|ai<|s1 ((aa rfl).v (v':= .i .i64 0) rfl) rfl ?_
    refine ah<|ae<|aI ?_
    refine bD (ι:=Nat) (fun i=> [(0,.p 3 0),(12,.p 12 0),(172,.i .i64 (i:Nat))]) (fun i=>⟨[(3,some ((nK s (rounds (sched b 48) s 64) i).map aJ)),(12,some ((rounds (sched b 48) s 64).l.map aJ))]⟩) (fun i=>i≤8) (fun i=>8 - i) ?_ ?_
    ·exact bC (0) (Nat.zero_le _) [(3,some 3),(12,some 12)] hI rfl rfl ⟨⟨_,rfl,.p rfl⟩,⟨_,rfl,.p rfl⟩,⟨_,rfl,.pure pu⟩,trivial⟩ ⟨.inr ⟨_,_,rfl,rfl,.pure ak⟩,.inr ⟨_,_,rfl,rfl,.pure ak⟩,trivial⟩
    rintro i hi
    refine af<|ai<|s1 (aa rfl) rfl ?_
    refine ah<|ae<|af ?_
    refine aK rfl (fun hc173=>?_) (fun hc173=>?_)
    ·have hi8 : i < 8 := by have := of_decide_eq_true hc173; omega
     refine aE<|ae<|af<|aI<|af<|ai<|s1 (aa rfl) rfl<|s1 (aa rfl) rfl ?_
     refine ah<|ae ?_
     refine dc 11 br (by kernel_rfl) ?_
     refine t1 (aa rfl) rfl<|t1 (aa rfl) rfl<|t1 (rI rfl rfl) rfl<|t1 (cu i Tryz.underlying185 cf rfl rfl rfl (by omega) rfl) rfl<|t1 (au cf rfl rfl (tq i (by rw [Cn];omega) rfl)) rfl<|t1 (aa rfl) rfl<|t1 (cu i Tryz.underlying185 cf rfl rfl rfl (by omega) rfl) rfl<|t1 (au cf rfl rfl (tq i (by rw [JH];omega) rfl)) rfl<|t1 (jN _ _ rfl rfl) rfl<|t1 (rI rfl rfl) rfl ?_
     refine t1 (cu i Tryz.underlying185 cf rfl rfl rfl (by omega) rfl) rfl ?_
     refine de ?_
     refine aj rfl (bX cf rfl rfl rfl rfl (by rw [List.length_map,Cn];omega) (ML s _ i (by omega)) ?_)
     refine ah<|a8<|ae<|ai<|s1 (aZ _ 1 rfl rfl rfl rfl (by omega)) rfl<|s1 (aa rfl) rfl ?_
     refine ah ?_
     exact bf (i+1) (by omega) (by omega) [(3,some 3),(12,some 12)] hI rfl rfl ⟨⟨_,rfl,.p rfl⟩,⟨_,rfl,.p rfl⟩,⟨_,rfl,.pure pu⟩,trivial⟩ ⟨.inr ⟨_,_,rfl,rfl,.pure ak⟩,.inr ⟨_,_,rfl,rfl,.pure ak⟩,trivial⟩
    ·have hi8 : i = 8 := by have := of_decide_eq_false hc173; omega
     subst hi8
     refine bx<|aM<|aM<|bA ?_
     refine ld (rs:= []) rfl az (nD (congrArg (fun l=>some (List.map aJ l)) (Nf _ _)))
end Go.Abs.D2
-- D2D
namespace Go.Abs.D2
open Go Go.Eng Go.Abs Go.Proofs
end Go.Abs.D2
-- D2F
namespace Go.Abs.D2
open Go Go.Eng Go.Abs Go.Proofs
theorem Gj (parts:List (List UInt8)) (hk:parts.length≤1048576) (ht:parts.flatten.length≤140737488300000):cv Tryz.prog 147 [.fn (.func 148) [.p 3 0] [],.fz parts.length (parts.map dt)] ⟨[(3,some (h0.l.map aJ))]⟩ (gP (.tu []) [(3,(fin parts.flatten).l.map aJ)]):=by
 refine qx Tryz.func147 rfl Tryz.ntmps147 (by kernel_rfl) (Nat.le_of_ble_eq_true rfl) fun w0 X0 hI=>?_
 refine af<|ai ?_
 refine aj rfl (bg 4 rfl Nr rfl rfl ?_)
 refine ah<|ae<|af<|ai<|s1 ((aa rfl).v (v':= .i .i64 0) rfl) rfl<|s1 ((aa rfl).v (v':= .i .u64 0) rfl) rfl ?_
 refine ah<|ae<|af<|af<|ai<|s1 (aa rfl) rfl<|s1 (a7 Tryz.underlying182 rfl rfl rfl) rfl<|s1 ((aa rfl).v (v':= .i .i64 0) rfl) rfl ?_
 refine ah<|ae<|aI ?_
 refine bD (ι:=List UInt8×List UInt8×Nat) (fun⟨s,tl,i⟩=> [(0,.fn (.func 148) [.p 3 0] []),(4,.p 4 0),(5,.i .i64 ((s.length % 64):Nat)),(6,aH (aL s.length)),(11,.fz parts.length (parts.map dt)),(12,.i .i64 (parts.length:Nat)),(13,.i .i64 (i:Nat))]) (fun⟨s,tl,i⟩=>⟨[(3,some ((hs s).l.map aJ)),(4,some ((rem s++tl).map u8))]⟩) (fun⟨s,tl,i⟩=>s=(parts.take i).flatten∧i≤parts.length∧tl.length=64 - (s.length % 64)) (fun⟨s,tl,i⟩=>parts.length - i) ?_ ?_
 ·exact bC (([],List.replicate 64 0,0)) (⟨by simp,Nat.zero_le _,by simp⟩) [(3,some 3),(4,some 4)] hI rfl rfl ⟨⟨_,rfl,.fn (.cons (.p rfl) .nil) .nil⟩,⟨_,rfl,.p rfl⟩,⟨_,rfl,.of rfl (.pure pu)⟩,⟨_,rfl,.of rfl (.pure pu)⟩,⟨_,rfl,.pure pu⟩,⟨_,rfl,.pure pu⟩,⟨_,rfl,.pure pu⟩,trivial⟩ ⟨.inr ⟨_,_,rfl,rfl,.of rfl (.pure ak)⟩,.inr ⟨_,_,rfl,rfl,.of Of (.pure ak)⟩,trivial⟩
 rintro⟨s,tl,i⟩ ⟨hs0,hi,htl⟩
 dsimp only
 have hmod:=Nat.mod_lt s.length (show 0<64 by decide)
 refine af<|ai<|s1 (aa rfl) rfl ?_
 refine ah<|ae<|af ?_
 refine aK rfl (fun hc14=>?_) (fun hc14=>?_)
 ·have hi2 : i < parts.length := by have := of_decide_eq_true hc14; omega
  obtain⟨p,hp⟩:∃p,parts[i]? =some p:=⟨_,List.getElem?_eq_getElem hi2⟩
  have hpl:=JL (List.mem_of_getElem? hp)
  refine aE<|ae<|af<|aI<|af<|ai<|s1 (bb i Tryz.underlying182 ec rfl rfl rfl (by omega) rfl) rfl<|s1 (au ec rfl rfl (BP hp)) rfl<|s1 (aa rfl) rfl ?_
  refine ah<|ae<|af<|ai<|s1 (aa rfl) rfl<|s1 (aa rfl) rfl<|s1 (a7 Tryz.underlying68 rfl rfl rfl) rfl<|s1 (mw p.length Tryz.underlying3 Tryz.underlying198 rfl rfl) rfl<|s1 (mV (aL s.length) (aL p.length) rfl rfl) rfl<|s1 (aa rfl) rfl ?_
  refine ah<|ae<|aI ?_
  refine bD (ι:=Nat×List UInt8) (fun⟨j,tl2⟩=> [(0,.fn (.func 148) [.p 3 0] []),(4,.p 4 0),(5,.i .i64 (((s++p.take j).length % 64):Nat)),(6,aH (aL s.length+aL p.length)),(8,.fz (p.length - j) ((p.drop j).map u8)),(11,.fz parts.length (parts.map dt)),(12,.i .i64 (parts.length:Nat)),(13,.i .i64 (i:Nat))]) (fun⟨j,tl2⟩=>⟨[(3,some ((hs (s++p.take j)).l.map aJ)),(4,some ((rem (s++p.take j)++tl2).map u8))]⟩) (fun⟨j,tl2⟩=>j≤p.length∧tl2.length=64 - ((s++p.take j).length % 64)) (fun⟨j,tl2⟩=>p.length - j) ?_ ?_
  ·exact bC ((0,tl)) (⟨Nat.zero_le _,by rw [sa];exact htl⟩) [(3,some 3),(4,some 4)] hI rfl rfl ⟨⟨_,rfl,.fn (.cons (.p rfl) .nil) .nil⟩,⟨_,rfl,.p rfl⟩,⟨_,rfl,.of (by rw [sa]) (.pure pu)⟩,⟨_,rfl,.pure pu⟩,⟨_,rfl,.pure pu⟩,⟨_,rfl,.pure pu⟩,⟨_,rfl,.pure pu⟩,⟨_,rfl,.pure pu⟩,trivial⟩ ⟨.inr ⟨_,_,rfl,rfl,.of (by rw [sa]) (.pure ak)⟩,.inr ⟨_,_,rfl,rfl,.of (by rw [sa]) (.pure ak)⟩,trivial⟩
  rintro⟨j,tl2⟩ ⟨hj,htl2⟩
  dsimp only
  have hSL:(s++p.take j).length=s.length+min j p.length:=by rw [List.length_append,List.length_take]
  have hmod1:=Nat.mod_lt (s++p.take j).length (show 0<64 by decide)
  refine af<|af<|ai<|s1 (aa rfl) rfl<|s1 (a7 Tryz.underlying68 rfl rfl rfl) rfl<|s1 (aa rfl) rfl ?_
  refine ah<|ae ?_
  refine aK rfl (fun hc24=>?_) (fun hc24=>?_)
  ·have hj2 : j < p.length := by have := of_decide_eq_true hc24; omega
   have hc1:sZ p (s++p.take j) j≤p.length - j:=Nat.min_le_left _ _
   have hc2:sZ p (s++p.take j) j≤64 - ((s++p.take j).length % 64):=Nat.min_le_right _ _
   have hc0:0<sZ p (s++p.take j) j:=Nat.lt_min.2 ⟨by omega,by omega⟩
   obtain⟨c,hcd⟩:∃c,c=sZ p (s++p.take j) j:=⟨_,rfl⟩
   rw [←hcd]at hc0 hc1 hc2
   refine aE<|ae<|aI<|af<|ai<|s1 (aa rfl) rfl<|s1 (rH (o':=((s++p.take j).length % 64)) (64 - ((s++p.take j).length % 64)) Tryz.underlying214 aR rfl rfl (by simp only [List.length_map,List.length_append,List.length_cons,List.length_nil,List.length_replicate,List.length_drop,List.length_take,dL,eN,len_be64]<;>omega) (by simp [maxLen]) (bs rfl rfl) bn (by omega) (by omega) rfl (by rw [if_neg (by omega)];omega)) rfl<|s1 (aa rfl) rfl ?_
   refine aj rfl (xy (c) Tryz.underlying68 aR rfl rfl rfl rfl (by first|rfl|omega|(simp<;>omega)|(simp [*]<;>omega)|(simp [aT.len, -List.length_flatten, *]<;>omega)) hcd hc0 (by simp only [List.length_map,List.length_append,List.length_cons,List.length_nil,List.length_replicate,List.length_drop,List.length_take,dL,eN,len_be64]<;>omega) (Gl _ _ _ _ _) rfl ?_)
   refine s1 (aa rfl) rfl ?_
   refine ah<|ae<|af ?_
   refine cr ⟨_, [5], [(0, [5])]⟩ 7 4 br (le_refl rfl) ?_
   refine aq 0 [] [] (aa rfl) rfl rfl ?_
   refine aq 1 [] [] (aa rfl) rfl rfl ?_
   refine aq 2 [0,1] [] (aZ _ _ rfl rfl rfl rfl (by omega)) rfl rfl ?_
   refine aq 3 [] [] (aa rfl) rfl rfl ?_
   refine aq 4 [] [] (aa rfl) rfl rfl ?_
   refine aq 5 [3,4] [] ((lT (p.length - (j+c)) Tryz.underlying68 aR rfl (by simp) (bs rfl rfl) bn (by omega) (by omega) (by omega) rfl).v (congrArg (A.fz _) (Ha p j c))) rfl rfl ?_
   refine aq 6 [2] [] (aa rfl) rfl rfl ?_
   refine ct (by kernel_rfl) ?_
   refine s1 (aa rfl) rfl ?_
   refine ah<|ae<|af<|ai<|s1 (aa rfl) rfl<|s1 (aa rfl) rfl ?_
   refine ah<|ae ?_
   refine aK rfl (fun hc36=>?_) (fun hc36=>?_)
   ·obtain ⟨r1, r2, r3⟩ := Ko (s := s) hc1 htl2 (by have := of_decide_eq_true hc36; omega)
    refine af<|ai<|s1 (aa rfl) rfl<|s1 (gN Tryz.underlying214 aR rfl rfl (by simp only [List.length_map,List.length_append,List.length_cons,List.length_nil,List.length_replicate,List.length_drop,List.length_take,dL,eN,len_be64]<;>omega) (by simp [maxLen])) rfl ?_
    refine aj rfl (mr ⟨[(3,some ((hs (s++p.take j)).l.map aJ))]⟩ [(3,(comp (hs (s++p.take j)) (rem (s++p.take j)++(p.drop j).take c++tl2.drop c)).l.map aJ)] true rfl rfl ⟨⟨rfl,aW.pure ak⟩,trivial⟩ (.cons (.kp rfl) (.cons (.sl rfl rfl rfl (cm (by simp only [List.length_map,List.length_append,List.length_cons,List.length_nil,List.length_replicate,List.length_drop,List.length_take,dL,eN,len_be64]<;>omega) rfl) (aW.pure ak) ak) .nil)) (r7 _ (rem (s++p.take j)++(p.drop j).take c++tl2.drop c) (by simp only [List.length_map,List.length_append,List.length_cons,List.length_nil,List.length_replicate,List.length_drop,List.length_take,dL,eN,len_be64]<;>omega)) trivial (.inr trivial) (nL (c0:=(hs (s++p.take j)).l.map aJ) rfl ak eX) rfl ?_)
    refine ah<|ae<|ai<|s1 ((aa rfl).v (v':= .i .i64 0) rfl) rfl ?_
    refine ah<|a8 ?_
    exact bf (x:=(j,tl2)) ((j+c,rem (s++p.take j)++(p.drop j).take c++tl2.drop c)) (⟨by dsimp only;omega,by dsimp only;rw [r3];simp only [List.length_append,dL,List.length_take,List.length_drop];omega⟩) (by dsimp only;omega) [(3,some 3),(4,some 4)] hI rfl rfl ⟨⟨_,rfl,.fn (.cons (.p rfl) .nil) .nil⟩,⟨_,rfl,.p rfl⟩,⟨_,rfl,.of (congrArg (fun k:Nat=>A.i .i64 (k:Int)) r3.symm) (.pure pu)⟩,⟨_,rfl,.pure pu⟩,⟨_,rfl,.pure pu⟩,⟨_,rfl,.pure pu⟩,⟨_,rfl,.pure pu⟩,⟨_,rfl,.pure pu⟩,trivial⟩ ⟨.inr ⟨_,_,rfl,rfl,.of (by rw [r2]) (.pure ak)⟩,.inr ⟨_,_,rfl,rfl,.of (by rw [r1,List.nil_append]) (.pure ak)⟩,trivial⟩
   ·obtain ⟨r1, r2, r3⟩ := Kq (s := s) hc1 (by have := of_decide_eq_false hc36; omega)
    refine aE<|a8 ?_
    exact bf (x:=(j,tl2)) ((j+c,tl2.drop c)) (⟨by dsimp only;omega,by dsimp only;rw [r3,List.length_drop];omega⟩) (by dsimp only;omega) [(3,some 3),(4,some 4)] hI rfl rfl ⟨⟨_,rfl,.fn (.cons (.p rfl) .nil) .nil⟩,⟨_,rfl,.p rfl⟩,⟨_,rfl,.of (congrArg (fun k:Nat=>A.i .i64 (k:Int)) r3.symm) (.pure pu)⟩,⟨_,rfl,.pure pu⟩,⟨_,rfl,.pure pu⟩,⟨_,rfl,.pure pu⟩,⟨_,rfl,.pure pu⟩,⟨_,rfl,.pure pu⟩,trivial⟩ ⟨.inr ⟨_,_,rfl,rfl,.of (by rw [r2]) (.pure ak)⟩,.inr ⟨_,_,rfl,rfl,.of (by rw [r1]) (.pure ak)⟩,trivial⟩
  ·have hj2 : j = p.length := by have := of_decide_eq_false hc24; omega
   subst hj2
   refine bx<|aM<|aM<|bA<|a8<|ae<|ai<|s1 (aZ _ 1 rfl rfl rfl rfl (by omega)) rfl<|s1 (aa rfl) rfl ?_
   refine ah ?_
   exact bf (x:=(s,tl,i)) ((s++p.take p.length,tl2,i+1)) (⟨by rw [hs0];exact Gu hp,by dsimp only;omega,htl2⟩) (by dsimp only;omega) [(3,some 3),(4,some 4)] hI rfl rfl ⟨⟨_,rfl,.fn (.cons (.p rfl) .nil) .nil⟩,⟨_,rfl,.p rfl⟩,⟨_,rfl,.pure pu⟩,⟨_,rfl,.of (Fw s p) (.pure pu)⟩,⟨_,rfl,.pure pu⟩,⟨_,rfl,.pure pu⟩,⟨_,rfl,.pure pu⟩,trivial⟩ ⟨.inr ⟨_,_,rfl,rfl,.pure ak⟩,.inr ⟨_,_,rfl,rfl,.pure ak⟩,trivial⟩
 ·have hi2 : i = parts.length := by have := of_decide_eq_false hc14; omega
  subst hi2
  rw [List.take_length]at hs0
  have hsl:s.length≤140737488300000:=by rw [hs0];exact ht
  refine bx<|aM<|aM<|bA<|ae<|af<|ai<|s1 (aa rfl) rfl<|s1 (cu (s.length % 64) Tryz.underlying214 aR rfl rfl rfl (by omega) rfl) rfl ?_
  refine aj rfl (bX aR rfl rfl rfl rfl (by simp only [List.length_map,List.length_append,List.length_cons,List.length_nil,List.length_replicate,List.length_drop,List.length_take,dL,eN,len_be64]<;>omega) (MD s tl htl) ?_)
  refine ah<|ae<|af<|ai<|s1 (aa rfl) rfl<|s1 (aZ _ 1 rfl rfl rfl rfl (by omega)) rfl<|s1 (rH (64 - ((s.length % 64)+1)) Tryz.underlying214 aR rfl rfl (by simp only [List.length_map,List.length_append,List.length_cons,List.length_nil,List.length_replicate,List.length_drop,List.length_take,dL,eN,len_be64]<;>omega) (by simp [maxLen]) (bs rfl rfl) bn (by omega) (by omega) rfl rfl) rfl ?_
  refine aj rfl (CL Tryz.underlying68 aR rfl rfl rfl (by simp only [List.length_map,List.length_append,List.length_cons,List.length_nil,List.length_replicate,List.length_drop,List.length_take,dL,eN,len_be64];split<;>omega) (Ik s tl htl _ rfl) rfl ?_)
  refine ah<|ae<|af<|af<|ai<|s1 (aa rfl) rfl<|s1 (aZ _ 1 rfl rfl rfl rfl (by omega)) rfl<|s1 (aa rfl) rfl ?_
  refine ah<|ae ?_
  refine aK rfl (fun hc48=>?_) (fun hc48=>?_)
  ·have hfar : s.length % 64 + 1 > 56 := by have := of_decide_eq_true hc48; omega
   refine af<|ai<|s1 (aa rfl) rfl<|s1 (gN Tryz.underlying214 aR rfl rfl (by simp only [List.length_map,List.length_append,List.length_cons,List.length_nil,List.length_replicate,List.length_drop,List.length_take,dL,eN,len_be64]<;>omega) (by simp [maxLen])) rfl ?_
   refine aj rfl (mr ⟨[(3,some ((hs s).l.map aJ))]⟩ [(3,(comp (hs s) (rem s++ [128]++List.replicate (63 - s.length % 64) 0)).l.map aJ)] true rfl rfl ⟨⟨rfl,aW.pure ak⟩,trivial⟩ (.cons (.kp rfl) (.cons (.sl rfl rfl rfl (cm (by simp only [List.length_map,List.length_append,List.length_cons,List.length_nil,List.length_replicate,List.length_drop,List.length_take,dL,eN,len_be64]<;>omega) rfl) (aW.pure ak) ak) .nil)) (r7 _ (rem s++ [128]++List.replicate (63 - s.length % 64) 0) (by simp only [List.length_map,List.length_append,List.length_cons,List.length_nil,List.length_replicate,List.length_drop,List.length_take,dL,eN,len_be64]<;>omega)) trivial (.inr trivial) (nL (c0:=(hs s).l.map aJ) rfl ak eX) rfl ?_)
   refine ah<|ae<|ai<|s1 (gN Tryz.underlying214 aR rfl rfl (by simp only [List.length_map,List.length_append,List.length_cons,List.length_nil,List.length_replicate,List.length_drop,List.length_take,dL,eN,len_be64]<;>omega) (by simp [maxLen])) rfl ?_
   refine aj rfl (CL Tryz.underlying68 aR rfl rfl rfl (by simp only [List.length_map,List.length_append,List.length_cons,List.length_nil,List.length_replicate,List.length_drop,List.length_take,dL,eN,len_be64]<;>omega) (GR (by simp only [List.length_map,List.length_append,List.length_cons,List.length_nil,List.length_replicate,List.length_drop,List.length_take,dL,eN,len_be64]<;>omega)) rfl ?_)
   refine ah<|ae<|af<|af ?_
   refine cI 4 rfl (Jn hfar) ?_
   refine cI 3 rfl (cs':=(gY s).l.map aJ) (by rw [gY,if_pos hfar]) ?_
   refine ai<|s1 ((aa rfl).v (v':= .i .i64 0) rfl) rfl ?_
   refine ah<|ae<|aI ?_
   refine bD (ι:=Nat) (fun i=> [(0,.fn (.func 148) [.p 3 0] []),(4,.p 4 0),(6,aH (aL s.length)),(53,.i .i64 (i:Nat))]) (fun i=>⟨[(3,some ((gY s).l.map aJ)),(4,some ((fK s++List.replicate (8 - i) 0++(ff (8*s.length)).drop (8 - i)).map u8))]⟩) (fun i=>i≤8) (fun i=>8 - i) ?_ ?_
   ·exact bC (0) (Nat.zero_le _) [(3,some 3),(4,some 4)] hI rfl rfl ⟨⟨_,rfl,.fn (.cons (.p rfl) .nil) .nil⟩,⟨_,rfl,.p rfl⟩,⟨_,rfl,.pure pu⟩,⟨_,rfl,.pure pu⟩,trivial⟩ ⟨.inr ⟨_,_,rfl,rfl,.pure ak⟩,.inr ⟨_,_,rfl,rfl,.pure ak⟩,trivial⟩
   rintro i hi
   refine af<|ai<|s1 (aa rfl) rfl ?_
   refine ah<|ae<|af ?_
   refine aK rfl (fun hc54=>?_) (fun hc54=>?_)
   ·have hi8 : i < 8 := by have := of_decide_eq_true hc54; omega
    refine aE<|ae<|af<|aI<|af<|ai<|s1 (aa rfl) rfl<|s1 (aa rfl) rfl ?_
    refine ah<|ae<|ai<|s1 (aa rfl) rfl<|s1 (eD 63 i rfl rfl rfl rfl (by omega) (by omega)) rfl<|s1 (aa rfl) rfl<|s1 ((lG _ (aL 8) rfl rfl).v (v':=aH (aL (8*s.length))) (congrArg aH (by rw [←BitVec.ofNat_mul,Nat.mul_comm]))) rfl<|s1 (aa rfl) rfl<|s1 (jY 8 i rfl rfl rfl rfl (by omega)) rfl<|s1 (g9 _ (8*i) rfl rfl rfl (by omega)) rfl<|s1 ((iI _ Tryz.underlying198 Tryz.underlying5 rfl).v (v':=u8 (UInt8.ofNat (8*s.length / 2 ^ (8*i)))) (congrArg u8 (zH _ _ (by omega)))) rfl<|s1 (cu (63 - i) Tryz.underlying214 aR rfl rfl rfl (by omega) rfl) rfl ?_
    refine aj rfl (bX aR rfl rfl rfl rfl (by simp only [List.length_map,List.length_append,List.length_cons,List.length_nil,List.length_replicate,List.length_drop,List.length_take,dL,eN,len_be64]<;>omega) (Ec s i _ (by omega) rfl) ?_)
    refine ah<|a8<|ae<|ai<|s1 (aZ _ 1 rfl rfl rfl rfl (by omega)) rfl<|s1 (aa rfl) rfl ?_
    refine ah ?_
    exact bf (i+1) (by omega) (by omega) [(3,some 3),(4,some 4)] hI rfl rfl ⟨⟨_,rfl,.fn (.cons (.p rfl) .nil) .nil⟩,⟨_,rfl,.p rfl⟩,⟨_,rfl,.pure pu⟩,⟨_,rfl,.pure pu⟩,trivial⟩ ⟨.inr ⟨_,_,rfl,rfl,.pure ak⟩,.inr ⟨_,_,rfl,rfl,.pure ak⟩,trivial⟩
   ·have hi8 : i = 8 := by have := of_decide_eq_false hc54; omega
    subst hi8
    refine bx<|aM<|aM<|bA<|ae<|ai<|s1 (aa rfl) rfl<|s1 (gN Tryz.underlying214 aR rfl rfl (by simp only [List.length_map,List.length_append,List.length_cons,List.length_nil,List.length_replicate,List.length_drop,List.length_take,dL,eN,len_be64]<;>omega) (by simp [maxLen])) rfl ?_
    refine aj rfl (mr ⟨[(3,some ((gY s).l.map aJ))]⟩ [(3,(comp (gY s) (fK s++ff (8*s.length))).l.map aJ)] true rfl rfl ⟨⟨rfl,aW.pure ak⟩,trivial⟩ (.cons (.kp rfl) (.cons (.sl rfl rfl rfl (cm (by simp only [List.length_map,List.length_append,List.length_cons,List.length_nil,List.length_replicate,List.length_drop,List.length_take,dL,eN,len_be64]<;>omega) (by simp)) (aW.pure ak) ak) .nil)) (r7 _ (fK s++ff (8*s.length)) (by simp only [List.length_map,List.length_append,List.length_cons,List.length_nil,List.length_replicate,List.length_drop,List.length_take,dL,eN,len_be64]<;>omega)) trivial (.inr trivial) (nL (c0:=(gY s).l.map aJ) rfl ak eX) rfl ?_)
    refine ah ?_
    refine ld (rs:= []) rfl az (nD (c:=(fin parts.flatten).l.map aJ) ?_)
    exact congrArg (fun q:S8=>some (q.l.map aJ)) ((Bq s).trans (by rw [hs0]))
  ·have hfar : ¬ s.length % 64 + 1 > 56 := by have := of_decide_eq_false hc48; omega
   refine aE<|ae<|af<|af ?_
   refine cI 4 rfl (Jo hfar) ?_
   refine cI 3 rfl (cs':=(gY s).l.map aJ) (by rw [gY,if_neg hfar]) ?_
   refine ai<|s1 ((aa rfl).v (v':= .i .i64 0) rfl) rfl ?_
   refine ah<|ae<|aI ?_
   refine bD (ι:=Nat) (fun i=> [(0,.fn (.func 148) [.p 3 0] []),(4,.p 4 0),(6,aH (aL s.length)),(53,.i .i64 (i:Nat))]) (fun i=>⟨[(3,some ((gY s).l.map aJ)),(4,some ((fK s++List.replicate (8 - i) 0++(ff (8*s.length)).drop (8 - i)).map u8))]⟩) (fun i=>i≤8) (fun i=>8 - i) ?_ ?_
   ·exact bC (0) (Nat.zero_le _) [(3,some 3),(4,some 4)] hI rfl rfl ⟨⟨_,rfl,.fn (.cons (.p rfl) .nil) .nil⟩,⟨_,rfl,.p rfl⟩,⟨_,rfl,.pure pu⟩,⟨_,rfl,.pure pu⟩,trivial⟩ ⟨.inr ⟨_,_,rfl,rfl,.pure ak⟩,.inr ⟨_,_,rfl,rfl,.pure ak⟩,trivial⟩
   rintro i hi
   refine af<|ai<|s1 (aa rfl) rfl ?_
   refine ah<|ae<|af ?_
   refine aK rfl (fun hc54=>?_) (fun hc54=>?_)
   ·have hi8 : i < 8 := by have := of_decide_eq_true hc54; omega
    refine aE<|ae<|af<|aI<|af<|ai<|s1 (aa rfl) rfl<|s1 (aa rfl) rfl ?_
    refine ah<|ae<|ai<|s1 (aa rfl) rfl<|s1 (eD 63 i rfl rfl rfl rfl (by omega) (by omega)) rfl<|s1 (aa rfl) rfl<|s1 ((lG _ (aL 8) rfl rfl).v (v':=aH (aL (8*s.length))) (congrArg aH (by rw [←BitVec.ofNat_mul,Nat.mul_comm]))) rfl<|s1 (aa rfl) rfl<|s1 (jY 8 i rfl rfl rfl rfl (by omega)) rfl<|s1 (g9 _ (8*i) rfl rfl rfl (by omega)) rfl<|s1 ((iI _ Tryz.underlying198 Tryz.underlying5 rfl).v (v':=u8 (UInt8.ofNat (8*s.length / 2 ^ (8*i)))) (congrArg u8 (zH _ _ (by omega)))) rfl<|s1 (cu (63 - i) Tryz.underlying214 aR rfl rfl rfl (by omega) rfl) rfl ?_
    refine aj rfl (bX aR rfl rfl rfl rfl (by simp only [List.length_map,List.length_append,List.length_cons,List.length_nil,List.length_replicate,List.length_drop,List.length_take,dL,eN,len_be64]<;>omega) (Ec s i _ (by omega) rfl) ?_)
    refine ah<|a8<|ae<|ai<|s1 (aZ _ 1 rfl rfl rfl rfl (by omega)) rfl<|s1 (aa rfl) rfl ?_
    refine ah ?_
    exact bf (i+1) (by omega) (by omega) [(3,some 3),(4,some 4)] hI rfl rfl ⟨⟨_,rfl,.fn (.cons (.p rfl) .nil) .nil⟩,⟨_,rfl,.p rfl⟩,⟨_,rfl,.pure pu⟩,⟨_,rfl,.pure pu⟩,trivial⟩ ⟨.inr ⟨_,_,rfl,rfl,.pure ak⟩,.inr ⟨_,_,rfl,rfl,.pure ak⟩,trivial⟩
   ·have hi8 : i = 8 := by have := of_decide_eq_false hc54; omega
    subst hi8
    refine bx<|aM<|aM<|bA<|ae<|ai<|s1 (aa rfl) rfl<|s1 (gN Tryz.underlying214 aR rfl rfl (by simp only [List.length_map,List.length_append,List.length_cons,List.length_nil,List.length_replicate,List.length_drop,List.length_take,dL,eN,len_be64]<;>omega) (by simp [maxLen])) rfl ?_
    refine aj rfl (mr ⟨[(3,some ((gY s).l.map aJ))]⟩ [(3,(comp (gY s) (fK s++ff (8*s.length))).l.map aJ)] true rfl rfl ⟨⟨rfl,aW.pure ak⟩,trivial⟩ (.cons (.kp rfl) (.cons (.sl rfl rfl rfl (cm (by simp only [List.length_map,List.length_append,List.length_cons,List.length_nil,List.length_replicate,List.length_drop,List.length_take,dL,eN,len_be64]<;>omega) (by simp)) (aW.pure ak) ak) .nil)) (r7 _ (fK s++ff (8*s.length)) (by simp only [List.length_map,List.length_append,List.length_cons,List.length_nil,List.length_replicate,List.length_drop,List.length_take,dL,eN,len_be64]<;>omega)) trivial (.inr trivial) (nL (c0:=(gY s).l.map aJ) rfl ak eX) rfl ?_)
    refine ah ?_
    refine ld (rs:= []) rfl az (nD (c:=(fin parts.flatten).l.map aJ) ?_)
    exact congrArg (fun q:S8=>some (q.l.map aJ)) ((Bq s).trans (by rw [hs0]))
end Go.Abs.D2
-- D2G
namespace Go.Abs.D2
open Go Go.Eng Go.Abs Go.Proofs
theorem BW (parts:List (List UInt8)) (hk:parts.length≤1048576) (ht:parts.flatten.length≤140737488300000):aw Tryz.prog 97 [.fz parts.length (parts.map dt)] (aO (.ag ((mD parts.flatten).map u8))):=by
 refine enter Tryz.func97 rfl Tryz.ntmps97 (by kernel_rfl) (Nat.le_of_ble_eq_true rfl) fun w0 X0 hI=>?_
 refine af<|ai ?_
 refine aj rfl (bg 2 rfl ar rfl rfl ?_)
 refine ah<|ae<|af<|ai<|s1 ((E3 (vs:= [_,_,_,_,_,_,_,_]) mJ rfl Tryz.underlying185 cf rfl rfl rfl rfl).v (v':= .ag (h0.l.map aJ)) (by kernel_rfl)) rfl ?_
 refine aj rfl (bg 3 rfl mJ rfl rfl ?_)
 refine aj rfl (ba mJ rfl rfl rfl (by first|rfl|omega|(simp<;>omega)|(simp [*]<;>omega)|(simp [aT.len, -List.length_flatten, *]<;>omega)) (by first|rfl|omega|(simp<;>omega)|(simp [*]<;>omega)|(simp [aT.len, -List.length_flatten, *]<;>omega)) ?_)
 refine ah<|ae<|af<|ai<|s1 (gu (us:= [.p 3 0]) (vs:= []) rfl rfl) rfl<|s1 (aa rfl) rfl ?_
 refine aj rfl (oV ⟨[(3,some (h0.l.map aJ))]⟩ [(3,(fin parts.flatten).l.map aJ)] false rfl ⟨⟨rfl,aW.pure ak⟩,trivial⟩ (.cons (.fn (.cons (.kp rfl) .nil) .nil) (.cons (.pure pu) .nil)) (Gj parts hk ht) trivial (.inl rfl) (nL (c0:=h0.l.map aJ) rfl ak eX) rfl ?_)
 refine ah<|ae<|af<|af<|ai<|s1 ((aa rfl).v (v':= .i .i64 0) rfl) rfl ?_
 refine ah<|ae<|aI ?_
 refine bD (ι:=Nat) (fun i=> [(2,.p 2 0),(3,.p 3 0),(9,.i .i64 (i:Nat))]) (fun i=>⟨[(2,some ((kL (fin parts.flatten) i).map u8++List.replicate (32 - i) (u8 0))),(3,some ((fin parts.flatten).l.map aJ))]⟩) (fun i=>i≤32) (fun i=>32 - i) ?_ ?_
 ·exact bC (0) (Nat.zero_le _) [(2,some 2),(3,some 3)] hI rfl rfl ⟨⟨_,rfl,.p rfl⟩,⟨_,rfl,.p rfl⟩,⟨_,rfl,.pure pu⟩,trivial⟩ ⟨.inr ⟨_,_,rfl,rfl,.pure ak⟩,.inr ⟨_,_,rfl,rfl,.pure ak⟩,trivial⟩
 rintro i hi
 refine af<|ai<|s1 (aa rfl) rfl ?_
 refine ah<|ae<|af ?_
 refine aK rfl (fun hc10=>?_) (fun hc10=>?_)
 ·have hi2 : i < 32 := by have := of_decide_eq_true hc10; omega
  refine aE<|ae<|af<|aI<|af<|ai<|s1 (aa rfl) rfl<|s1 (aa rfl) rfl ?_
  refine ah<|ae<|ai<|s1 (aa rfl) rfl<|s1 (aa rfl) rfl<|s1 (lJ i 4 rfl rfl rfl rfl (by decide) (by omega)) rfl<|s1 (cu (i / 4) Tryz.underlying185 cf rfl rfl rfl (by omega) rfl) rfl<|s1 (au cf rfl rfl (tq (i / 4) (by simp;omega) rfl)) rfl<|s1 (aa rfl) rfl<|s1 (lL i 4 rfl rfl rfl rfl (by decide)) rfl<|s1 (jY 8 (i % 4) rfl rfl rfl rfl (by omega)) rfl<|s1 (eD 24 (8*(i % 4)) rfl rfl rfl rfl (by omega) (by omega)) rfl<|s1 (gH _ (24 - 8*(i % 4)) rfl rfl rfl (by omega)) rfl ?_
  refine s1 (rC _ Tryz.underlying183 Tryz.underlying5 rfl) rfl<|s1 (cu i Tryz.underlying23 aR rfl rfl rfl (by omega) rfl) rfl ?_
  refine aj rfl (bX aR rfl rfl rfl rfl (by simp only [List.length_append,List.length_map,List.length_replicate,len_outS];omega) (MG _ i _ (by omega) rfl) ?_)
  refine ah<|a8<|ae<|ai<|s1 (aZ _ 1 rfl rfl rfl rfl (by omega)) rfl<|s1 (aa rfl) rfl ?_
  refine ah ?_
  exact bf (i+1) (by omega) (by omega) [(2,some 2),(3,some 3)] hI rfl rfl ⟨⟨_,rfl,.p rfl⟩,⟨_,rfl,.p rfl⟩,⟨_,rfl,.pure pu⟩,trivial⟩ ⟨.inr ⟨_,_,rfl,rfl,.pure ak⟩,.inr ⟨_,_,rfl,rfl,.pure ak⟩,trivial⟩
 ·have hi2 : i = 32 := by have := of_decide_eq_false hc10; omega
  subst hi2
  refine bx<|aM<|aM<|bA<|ae<|af ?_
  refine cI 2 rfl (cs':=(mD parts.flatten).map u8) (by simp [mD,fin]) ?_
  refine ai<|s1 (aG ar rfl rfl (by first|rfl|omega|(simp<;>omega)|(simp [*]<;>omega)|(simp [aT.len, -List.length_flatten, *]<;>omega))) rfl ?_
  refine aj rfl (ba ar rfl rfl rfl (by first|rfl|omega|(simp<;>omega)|(simp [*]<;>omega)|(simp [aT.len, -List.length_flatten, *]<;>omega)) (by first|rfl|omega|(simp<;>omega)|(simp [*]<;>omega)|(simp [aT.len, -List.length_flatten, *]<;>omega)) ?_)
  refine ah<|ae<|aB ?_
  refine aC (rs:= [.cell 2 23]) rfl (cw ar rfl rfl (List.take_of_length_le (by simp)) (by simp) az) rfl
theorem ib (t b:List UInt8) (hb:b.length≤140737488000000) (hl:t.length≤140737488000000):aw Tryz.prog 50 [.s t,.fz b.length (b.map u8)] (aO (.ag ((tagged t b).map u8))):=by
 refine enter Tryz.func50 rfl Tryz.ntmps50 (by kernel_rfl) (Nat.le_of_ble_eq_true rfl) fun w0 X0 hI=>?_
 refine af<|ai ?_
 refine aj rfl (bg 4 rfl ar rfl rfl ?_)
 refine ah<|ae<|af<|ai<|s1 (aa rfl) rfl ?_
 refine aj rfl (Kk Tryz.underlying9 Tryz.underlying68 Tryz.underlying5 rfl (by first|omega|(simp only [maxLen];omega)|(simp [maxLen];done)|(simp [maxLen];omega)|(simp [maxLen, *];omega)) rfl ?_)
 refine aj rfl (ey 8 rfl Tryz.underlying182 ec rfl rfl rfl rfl rfl ?_)
 refine aj rfl (aF true rfl (.cons (.sl rfl rfl (by first|rfl|omega|(simp<;>omega)|(simp [*]<;>omega)|(simp [aT.len, -List.length_flatten, *]<;>omega)) (cm (by first|rfl|omega|(simp<;>omega)|(simp [*]<;>omega)|(simp [aT.len, -List.length_flatten, *]<;>omega)) (by first|rfl|(simp;done)|(simp [*];done))) (aW.pure ak) ak) (.nil)) (by simpa using BW [t] (by simp) (by simp;omega)) pu (.inr fu) rfl ?_)
 refine aj rfl (bg 5 rfl ar rfl rfl ?_)
 refine aj rfl (ba ar rfl rfl rfl (by first|rfl|omega|(simp<;>omega)|(simp [*]<;>omega)|(simp [aT.len, -List.length_flatten, *]<;>omega)) (by first|rfl|omega|(simp<;>omega)|(simp [*]<;>omega)|(simp [aT.len, -List.length_flatten, *]<;>omega)) ?_)
 refine ah<|ae<|af<|ai<|s1 (gN Tryz.underlying23 aR rfl rfl (by first|rfl|omega|(simp<;>omega)|(simp [*]<;>omega)|(simp [aT.len, -List.length_flatten, *]<;>omega)) (by simp [maxLen])) rfl<|s1 (aa rfl) rfl ?_
 refine aj rfl (ey 12 rfl Tryz.underlying182 ec rfl rfl rfl rfl rfl ?_)
 refine aj rfl (aF true rfl (.cons (.sl rfl rfl rfl rfl (.cons (.sl rfl rfl rfl (cm (by simp) rfl) (aW.pure ak) ak) (.cons (.pure pu) .nil)) ak) .nil) (by simpa [dt]using BW [mD t,b] (by simp) (by simp;omega)) pu (.inr fu) rfl ?_)
 refine aj rfl (ba ar rfl rfl rfl (by first|rfl|omega|(simp<;>omega)|(simp [*]<;>omega)|(simp [aT.len, -List.length_flatten, *]<;>omega)) (by first|rfl|omega|(simp<;>omega)|(simp [*]<;>omega)|(simp [aT.len, -List.length_flatten, *]<;>omega)) ?_)
 refine ah<|ae<|aB ?_
 refine aC (rs:= [.cell 4 23]) rfl (cw ar rfl rfl (List.take_of_length_le (by simp)) (by simp) az) rfl
end Go.Abs.D2
-- F3B
namespace Go.Abs.D2
open Go Go.Eng Go.Abs Go.Proofs
theorem Is (ps:List Part) (hk:ps.length≤1000) (hok:∀p∈ps,p.ok):aw Tryz.prog 208 [.fz ps.length (ps.map (Part.a 23 5 183))] (cU 1 (il ps).length ((il ps).map u8)):=by
 refine enter Tryz.func208 rfl Tryz.ntmps208 (by kernel_rfl) (Nat.le_of_ble_eq_true rfl) fun w0 X0 hI=>?_
 refine af<|ai<|s1 (aa rfl) rfl ?_
 refine ah<|ae<|af<|af<|ai<|s1 (aa rfl) rfl<|s1 (a7 Tryz.underlying237 rfl rfl rfl) rfl<|s1 ((aa rfl).v (v':= .i .i64 0) rfl) rfl ?_
 refine ah<|ae<|aI ?_
 refine bD (ι:=Nat) (fun i=> [(2,.sl 2 1 0 (il (ps.take i)).length),(8,.fz ps.length (ps.map (Part.a 23 5 183))),(9,.i .i64 (ps.length:Nat)),(10,.i .i64 (i:Nat))]) (fun i=>⟨[(2,some ((il (ps.take i)).map u8))]⟩) (fun i=>i≤ps.length) (fun i=>ps.length - i) ?_ ?_
 ·exact bC (0) (Nat.zero_le _) [(2,none)] hI rfl rfl ⟨⟨_,rfl,.nl rfl⟩,⟨_,rfl,.pure pu⟩,⟨_,rfl,.pure pu⟩,⟨_,rfl,.pure pu⟩,trivial⟩ ⟨.inl ⟨rfl,rfl⟩,trivial⟩
 rintro i hi
 have hbl:=Cg (ps:=ps.take i) fun q hq=>hok q (List.mem_of_mem_take hq)
 rw [List.length_take]at hbl
 refine af<|ai<|s1 (aa rfl) rfl ?_
 refine ah<|ae<|af ?_
 refine aK rfl (fun hc11=>?_) (fun hc11=>?_)
 ·have h11 : i < ps.length := by have := of_decide_eq_true hc11; omega
  obtain⟨p,hp⟩:∃p,ps[i]? =some p:=⟨_,List.getElem?_eq_getElem h11⟩
  have hpok:=hok p (List.mem_of_getElem? hp)
  refine aE<|ae<|af<|aI<|af<|ai<|s1 (bb i Tryz.underlying237 yC rfl rfl rfl (by omega) rfl) rfl<|s1 (au yC rfl rfl (IQ hp)) rfl<|s1 (aa rfl) rfl ?_
  refine ah<|ae<|af ?_
  rcases p with hcs|hcs|hcs
  ·have hl32 : hcs.length = 32 := hpok
   have hnl:=congrArg List.length (sA hp)
   simp only [List.length_append,Part.bs,gR,List.length_cons,List.length_nil]at hnl
   refine ai<|s1 (aa rfl) rfl ?_
   refine ah<|ae<|aI<|af<|ai<|s1 (u0 Tryz.underlying23 rfl rfl) rfl<|s1 (aa rfl) rfl<|s1 (aa rfl) rfl ?_
   refine ah<|ae ?_
   refine cN rfl ?_
   refine af<|ai ?_
   refine aj rfl (bg 5 rfl ar rfl rfl ?_)
   refine aj rfl (ba ar rfl rfl rfl (by simp [hl32]) (by simp) ?_)
   refine ah<|ae<|ai<|s1 (aa rfl) rfl<|s1 (gN Tryz.underlying23 aR rfl rfl (by first|rfl|omega|(simp<;>omega)|(simp [*]<;>omega)) (by simp [maxLen])) rfl ?_
   refine aj rfl (dB 20 rfl Tryz.underlying68 aR rfl (.sl rfl (by rw [List.length_map,Nat.mul_one])) rfl (c8 rfl (by first|rfl|omega|(simp<;>omega)|(simp [*]<;>omega))) (by simp [hl32]) (by simp only [maxLen];omega) (by omega) rfl rfl rfl ?_)
   refine s1 (aa rfl) rfl ?_
   refine ah<|a8<|a8<|ae<|ai<|s1 (aZ _ 1 rfl rfl rfl rfl (by omega)) rfl<|s1 (aa rfl) rfl ?_
   refine ah ?_
   exact bf (i+1) (by omega) (by omega) [(2,some 20)] hI rfl rfl ⟨⟨_,rfl,.sl rfl (by first|rfl|omega|(simp<;>omega)|(simp [*]<;>omega))⟩,⟨_,rfl,.pure pu⟩,⟨_,rfl,.pure pu⟩,⟨_,rfl,.pure pu⟩,trivial⟩ ⟨.inr ⟨_,_,rfl,rfl,.of (vO hp rfl) (.pure ak)⟩,trivial⟩
  ·have hnl := congrArg List.length (sA hp)
   simp only [List.length_append,Part.bs,gR,List.length_cons,List.length_nil]at hnl
   refine ai<|s1 (aa rfl) rfl ?_
   refine ah<|ae<|aI<|af<|ai<|s1 (yM (z:= .agg (List.replicate 32 (.int .u8 0):List Value).toArray) Tryz.underlying23 rfl (by kernel_rfl) rfl rfl) rfl<|s1 (aa rfl) rfl<|s1 (aa rfl) rfl ?_
   refine ah<|ae ?_
   refine bO rfl ?_
   refine af<|ai<|s1 (u0 Tryz.underlying5 rfl rfl) rfl<|s1 (aa rfl) rfl<|s1 (aa rfl) rfl ?_
   refine ah<|ae ?_
   refine cN rfl ?_
   refine af<|ai<|s1 (aa rfl) rfl ?_
   refine ah<|ae<|ai<|s1 (aa rfl) rfl<|s1 (aa rfl) rfl ?_
   refine aj rfl (ey 26 rfl Tryz.underlying68 aR rfl rfl rfl rfl rfl ?_)
   refine aj rfl (dB 27 rfl Tryz.underlying68 aR rfl (.sl rfl (by rw [List.length_map,Nat.mul_one])) rfl (c8 rfl (by first|rfl|omega|(simp<;>omega)|(simp [*]<;>omega))) (by first|rfl|omega|(simp<;>omega)|(simp [*]<;>omega)) (by simp only [maxLen];omega) (by omega) rfl rfl rfl ?_)
   refine s1 (aa rfl) rfl ?_
   refine ah<|a8<|a8<|ae<|ai<|s1 (aZ _ 1 rfl rfl rfl rfl (by omega)) rfl<|s1 (aa rfl) rfl ?_
   refine ah ?_
   exact bf (i+1) (by omega) (by omega) [(2,some 27)] hI rfl rfl ⟨⟨_,rfl,.sl rfl (by first|rfl|omega|(simp<;>omega)|(simp [*]<;>omega))⟩,⟨_,rfl,.pure pu⟩,⟨_,rfl,.pure pu⟩,⟨_,rfl,.pure pu⟩,trivial⟩ ⟨.inr ⟨_,_,rfl,rfl,.of (vO hp rfl) (.pure ak)⟩,trivial⟩
  ·have hnl := congrArg List.length (sA hp)
   simp only [List.length_append,Part.bs,gR,List.length_cons,List.length_nil]at hnl
   refine ai<|s1 (aa rfl) rfl ?_
   refine ah<|ae<|aI<|af<|ai<|s1 (yM (z:= .agg (List.replicate 32 (.int .u8 0):List Value).toArray) Tryz.underlying23 rfl (by kernel_rfl) rfl rfl) rfl<|s1 (aa rfl) rfl<|s1 (aa rfl) rfl ?_
   refine ah<|ae ?_
   refine bO rfl ?_
   refine af<|ai<|s1 (yM (z:= .int .u8 0) Tryz.underlying5 rfl (by kernel_rfl) rfl rfl) rfl<|s1 (aa rfl) rfl<|s1 (aa rfl) rfl ?_
   refine ah<|ae ?_
   refine bO rfl ?_
   refine af<|ai<|s1 (u0 Tryz.underlying183 rfl rfl) rfl<|s1 (aa rfl) rfl<|s1 (aa rfl) rfl ?_
   refine ah<|ae ?_
   refine cN rfl ?_
   refine af<|ai<|s1 (aa rfl) rfl ?_
   refine ah<|ae<|ai<|s1 (aa rfl) rfl<|s1 (aa rfl) rfl<|s1 (gH _ 24 rfl rfl rfl (by decide)) rfl<|s1 (rC _ Tryz.underlying183 Tryz.underlying5 rfl) rfl<|s1 (aa rfl) rfl<|s1 (gH _ 16 rfl rfl rfl (by decide)) rfl<|s1 (rC _ Tryz.underlying183 Tryz.underlying5 rfl) rfl<|s1 (aa rfl) rfl<|s1 (gH _ 8 rfl rfl rfl (by decide)) rfl<|s1 (rC _ Tryz.underlying183 Tryz.underlying5 rfl) rfl ?_
   refine s1 (aa rfl) rfl<|s1 (rC _ Tryz.underlying183 Tryz.underlying5 rfl) rfl ?_
   refine aj rfl (ey 43 rfl Tryz.underlying68 aR rfl rfl rfl rfl rfl ?_)
   refine aj rfl (dB 44 rfl Tryz.underlying68 aR rfl (.sl rfl (by rw [List.length_map,Nat.mul_one])) rfl (c8 rfl (by first|rfl|omega|(simp<;>omega)|(simp [*]<;>omega))) (by first|rfl|omega|(simp<;>omega)|(simp [*]<;>omega)) (by simp only [maxLen];omega) (by omega) rfl rfl rfl ?_)
   refine s1 (aa rfl) rfl ?_
   refine ah<|a8<|a8<|ae<|ai<|s1 (aZ _ 1 rfl rfl rfl rfl (by omega)) rfl<|s1 (aa rfl) rfl ?_
   refine ah ?_
   exact bf (i+1) (by omega) (by omega) [(2,some 44)] hI rfl rfl ⟨⟨_,rfl,.sl rfl (by first|rfl|omega|(simp<;>omega)|(simp [*]<;>omega))⟩,⟨_,rfl,.pure pu⟩,⟨_,rfl,.pure pu⟩,⟨_,rfl,.pure pu⟩,trivial⟩ ⟨.inr ⟨_,_,rfl,rfl,.of (vO hp rfl) (.pure ak)⟩,trivial⟩
 ·have h11 : i = ps.length := by have := of_decide_eq_false hc11; omega
  subst h11
  refine bx<|aM<|aM<|bA<|ae<|af<|ai<|s1 (aa rfl) rfl<|s1 (aa rfl) rfl ?_
  refine ah<|ae<|aB ?_
  refine aC (rs:= [.tmp 2]) rfl (aA rfl az) ⟨2,?_,?_⟩
  ·rw [List.take_length];rfl
  ·rw [List.take_length];rfl
theorem Gi (x:List UInt8) (lv nb id:Int) (D:List UInt8):aw Tryz.prog 175 [.ag (x.map u8),.ag [.i .i64 lv,.i .i64 nb,dt D],.i .i64 id] (aO (.fn (.func 207) [] [.fp (x.map u8),.fp [.i .i64 lv,.i .i64 nb,dt D],.fp [.i .i64 id]])):=by
 refine enter Tryz.func175 rfl Tryz.ntmps175 (by kernel_rfl) (Nat.le_of_ble_eq_true rfl) fun w0 X0 hI=>?_
 refine af<|ai ?_
 refine aj rfl (bF 3 rfl rfl rfl ?_)
 refine aj rfl (bF 4 rfl rfl rfl ?_)
 refine aj rfl (kI 5 rfl rfl rfl rfl ?_)
 refine s1 (aa rfl) rfl ?_
 refine ah<|ae<|af ?_
 refine fe 3 rfl rfl ak ?_
 refine fe 4 rfl rfl ak ?_
 refine fe 5 rfl rfl ak ?_
 refine ai<|s1 (gu (us:= []) (vs:= [.fp (x.map u8),.fp [.i .i64 lv,.i .i64 nb,dt D],.fp [.i .i64 id]]) rfl rfl) rfl<|s1 (aa rfl) rfl ?_
 refine ah<|ae<|aB ?_
 refine aC (rs:= [.tmp 6]) rfl (aA rfl az) rfl
end Go.Abs.D2
-- F3C
namespace Go.Abs.D2
open Go Go.Eng Go.Abs Go.Proofs
theorem Ir (x:List UInt8) (lv id:Nat) (hx:x.length=32):aw Tryz.prog 208 [.fz 3 [.ic 23 (.ag (x.map u8)),.ic 5 (u8 (UInt8.ofNat lv)),.ic 183 (aJ (BitVec.ofNat 32 id))]] (cU 1 37 ((x++UInt8.ofNat lv::gR (BitVec.ofNat 32 id)).map u8)):=by
  have:=Is [.d x,.b (UInt8.ofNat lv),.w (BitVec.ofNat 32 id)] (by simp) (by simp [Part.ok,hx])
  have e:il [.d x,.b (UInt8.ofNat lv),.w (BitVec.ofNat 32 id)]=(x++UInt8.ofNat lv::gR (BitVec.ofNat 32 id)):=by simp [il,Part.bs]
  rw [e]at this
  have e2:(x++UInt8.ofNat lv::gR (BitVec.ofNat 32 id)).length=37:=by simp [gR,hx]
  rw [e2]at this
  exact this
theorem Ni (x:List UInt8) (lv id:Nat) (hx:x.length=32):aw Tryz.prog 50 [.s [102,105,108,116,101,114],.fz 37 ((x++UInt8.ofNat lv::gR (BitVec.ofNat 32 id)).map u8)] (aO (.ag ((iy x lv id).map u8))):=by
  have e2:(x++UInt8.ofNat lv::gR (BitVec.ofNat 32 id)).length=37:=by simp [gR,hx]
  rw [Bj, ←e2];exact ib _ _ (by omega) (by simp)
theorem FL (x:List UInt8) (lv nb id:Nat) (D:List UInt8) (hx:x.length=32) (hnb:0<nb):aw Tryz.prog 164 [.nl,.fn (.func 207) [] [.fp (x.map u8),.fp [nJ lv,nJ nb,dt D],.fp [nJ id]]] (cU 1 2 ((gS x lv nb id 2).map nJ)):=by
 refine oC Tryz.func164 rfl Tryz.ntmps164 (by kernel_rfl) (Nat.le_of_ble_eq_true rfl) fun w0 X0 hI hS=>?_
 refine af<|ai ?_
 refine aj rfl (kI 2 rfl rfl rfl rfl ?_)
 refine s1 (aa rfl) rfl ?_
 refine ah<|ae<|af<|af<|ai<|s1 (aa rfl) rfl ?_
 refine ah<|ae<|aI ?_
 refine vF [2] [(0,_),(1,_),(2,_),(4,_),(6,_)] hI rfl ⟨rfl,⟨rfl,⟨rfl,⟨rfl,⟨rfl,trivial⟩⟩⟩⟩⟩ (by first|rfl|(simp [jy,jE,refs,en,mA,mB,cn];done)) rfl Tryz.func207 rfl Tryz.ntmps207 (by kernel_rfl) (Nat.le_of_ble_eq_true rfl) fun w1 l1 D1 rc1 hR1=>?_
 refine af<|ai<|s1 (bp ar rfl rfl (List.take_of_length_le (by simp [hx])) (by simp [hx])) rfl<|s1 (uW (by kernel_rfl) rfl) rfl<|s1 (dz Tryz.underlying120 rfl an (by decide) rfl rfl) rfl<|s1 (au an rfl rfl rfl) rfl<|s1 (C5 lv Tryz.underlying3 Tryz.underlying5 rfl rfl) rfl<|s1 (uW (by kernel_rfl) rfl) rfl<|s1 (au an rfl rfl rfl) rfl<|s1 (KF _ Tryz.underlying3 Tryz.underlying183 rfl rfl) rfl<|s1 (uW (by kernel_rfl) rfl) rfl ?_
 refine aj rfl (ey 1019 rfl Tryz.underlying237 yC rfl rfl rfl rfl rfl ?_)
 refine aj rfl (gD 1020 rfl true rfl (.cons (.sl rfl rfl (by first|rfl|omega|(simp<;>omega)|(simp [*]<;>omega)) (cm (by first|rfl|omega|(simp<;>omega)|(simp [*]<;>omega)) (by first|rfl|(simp;done)|(simp [*];done))) (aW.pure ak) ak) (.nil)) (Ir x lv id hx) ak (.inr eX) rfl ?_)
 refine aj rfl (aF true rfl (.cons (.pure pu) (.cons (.sl rfl rfl (by first|rfl|omega|(simp<;>omega)|(simp [*]<;>omega)) (cm (by first|rfl|omega|(simp<;>omega)|(simp [*]<;>omega)) (by first|rfl|(simp;done)|(simp [*];done))) (aW.pure ak) ak) (.nil))) (Ni x lv id hx) pu (.inr fu) rfl ?_)
 refine aj rfl (bg 1005 rfl ar rfl rfl ?_)
 refine aj rfl (ba ar rfl rfl rfl (by first|rfl|omega|(simp<;>omega)|(simp [*]<;>omega)) (by first|rfl|omega|(simp<;>omega)|(simp [*]<;>omega)) ?_)
 refine ah<|ae<|af<|ai<|s1 ((aa rfl).v (v':= .i .i64 0) rfl) rfl ?_
 refine ah<|ae<|aI ?_
 refine bD (ι:=Nat) (fun i=> [(0,yv l1),(1,.fp (x.map u8)),(2,.fp [nJ lv,nJ nb,dt D]),(3,.fp [nJ id]),(5,.p 1005 0),(22,nJ i)]) (fun i=>⟨[(2,some ([.sl 11 1 0 i])),(11,some (((gS x lv nb id i).map nJ))),(1005,some ((iy x lv id).map u8))]⟩) (fun i=>i≤2) (fun i=>2 - i) ?_ ?_
 ·exact bC (0) (Nat.zero_le _) [(2,some 2),(11,none),(1005,some 1005)] hR1.sub.ids rfl rfl ⟨⟨_,rfl,.pure trivial⟩,⟨_,rfl,.pure pu⟩,⟨_,rfl,.pure pu⟩,⟨_,rfl,.pure pu⟩,⟨_,rfl,.p rfl⟩,⟨_,rfl,.pure pu⟩,trivial⟩ ⟨.inr ⟨_,_,rfl,rfl,.cons (.nl rfl) .nil⟩,.inl ⟨rfl,rfl⟩,.inr ⟨_,_,rfl,rfl,.pure ak⟩,trivial⟩
 rintro i hi
 refine af<|ai<|s1 (aa rfl) rfl ?_
 refine ah<|ae<|af ?_
 refine aK rfl (fun hc23=>?_) (fun hc23=>?_)
 ·have h23 : i < 2 := by have := of_decide_eq_true hc23; omega
  refine aE<|ae<|af<|aI<|af<|ai<|s1 (aa rfl) rfl<|s1 (aa rfl) rfl ?_
  refine ah<|ae<|af<|ai<|s1 ((aa rfl).v (v':= .i .i64 0) rfl) rfl ?_
  refine ah<|ae<|af<|af<|ai<|s1 (aa rfl) rfl<|s1 (jY 4 _ rfl rfl rfl rfl (by omega)) rfl<|s1 (aa rfl) rfl<|s1 (jY 4 _ rfl rfl rfl rfl (by omega)) rfl<|s1 (aZ _ 4 rfl rfl rfl rfl (by omega)) rfl<|s1 (rH (o':=0+4*i*1) 4 Tryz.underlying23 aR rfl rfl (by simp) (by simp [maxLen]) (bs rfl rfl) (bs rfl rfl) (by omega) (by omega) (by omega) (by rw [if_neg (by omega)])) rfl<|s1 (a7 Tryz.underlying68 rfl rfl rfl) rfl<|s1 ((aa rfl).v (v':= .i .i64 0) rfl) rfl ?_
  refine ah<|ae<|aI ?_
  refine bD (ι:=Nat) (fun k=> [(0,yv l1),(1,.fp (x.map u8)),(2,.fp [nJ lv,nJ nb,dt D]),(3,.fp [nJ id]),(5,.p 1005 0),(6,nJ i),(7,nJ (jZ (iy x lv id) (4*i) k)),(22,nJ i),(30,.sl 1005 1 (0+4*i*1) 4),(31,nJ 4),(32,nJ k)]) (fun k=>⟨[(2,some ([.sl 11 1 0 i])),(11,some (((gS x lv nb id i).map nJ))),(1005,some ((iy x lv id).map u8))]⟩) (fun k=>k≤4) (fun k=>4 - k) ?_ ?_
  ·exact bC (0) (Nat.zero_le _) [(2,some 2),(11,some 11),(1005,some 1005)] hR1.sub.ids rfl rfl ⟨⟨_,rfl,.pure trivial⟩,⟨_,rfl,.pure pu⟩,⟨_,rfl,.pure pu⟩,⟨_,rfl,.pure pu⟩,⟨_,rfl,.p rfl⟩,⟨_,rfl,.pure pu⟩,⟨_,rfl,.of (by rfl) (.pure pu)⟩,⟨_,rfl,.pure pu⟩,⟨_,rfl,.sl rfl (by first|rfl|omega|(simp<;>omega)|(simp [*]<;>omega))⟩,⟨_,rfl,.pure pu⟩,⟨_,rfl,.pure pu⟩,trivial⟩ ⟨.inr ⟨_,_,rfl,rfl,.cons (.sl rfl rfl) .nil⟩,.inr ⟨_,_,rfl,rfl,.pure ak⟩,.inr ⟨_,_,rfl,rfl,.pure ak⟩,trivial⟩
  rintro k hk
  have hnl:=CT (iy x lv id) (4*i) k
  have h4:256 ^ k≤256 ^ 4:=Nat.pow_le_pow_right (by omega) hk
  refine af<|ai<|s1 (aa rfl) rfl ?_
  refine ah<|ae<|af ?_
  refine aK rfl (fun hc33=>?_) (fun hc33=>?_)
  ·have h33 : k < 4 := by have := of_decide_eq_true hc33; omega
   have h3:jZ (iy x lv id) (4*i) k<16777216:=Nat.lt_of_lt_of_le hnl (Nat.pow_le_pow_right (by omega) (show k≤3 by omega))
   refine aE<|ae<|af<|aI<|af<|ai<|s1 (kZ k Tryz.underlying68 aR rfl rfl rfl rfl (by omega) rfl) rfl<|s1 (au aR rfl rfl (IN k (by simp;omega) rfl)) rfl<|s1 (aa rfl) rfl ?_
   refine ah<|ae<|ai<|s1 (aa rfl) rfl<|s1 ((nS rfl rfl (by decide)).v (congrArg (A.i .i64) (MR _ h3))) rfl<|s1 (aa rfl) rfl<|s1 ((cK Tryz.underlying5 Tryz.underlying3 rfl).v (G5 _)) rfl<|s1 ((kj rfl rfl (.inr (.inl rfl))).v (congrArg (A.i .i64) (K2 _ _ h3))) rfl<|s1 (aa rfl) rfl ?_
   refine ah<|a8<|ae<|ai<|s1 (aZ _ 1 rfl rfl rfl rfl (by omega)) rfl<|s1 (aa rfl) rfl ?_
   refine ah ?_
   exact bf (k+1) (by omega) (by omega) [(2,some 2),(11,some 11),(1005,some 1005)] hR1.sub.ids rfl rfl ⟨⟨_,rfl,.pure trivial⟩,⟨_,rfl,.pure pu⟩,⟨_,rfl,.pure pu⟩,⟨_,rfl,.pure pu⟩,⟨_,rfl,.p rfl⟩,⟨_,rfl,.pure pu⟩,⟨_,rfl,.pure pu⟩,⟨_,rfl,.pure pu⟩,⟨_,rfl,.sl rfl (by first|rfl|omega|(simp<;>omega)|(simp [*]<;>omega))⟩,⟨_,rfl,.pure pu⟩,⟨_,rfl,.pure pu⟩,trivial⟩ ⟨.inr ⟨_,_,rfl,rfl,.cons (.sl rfl rfl) .nil⟩,.inr ⟨_,_,rfl,rfl,.pure ak⟩,.inr ⟨_,_,rfl,rfl,.pure ak⟩,trivial⟩
  ·have h33 : k = 4 := by have := of_decide_eq_false hc33; omega
   subst h33
   refine bx<|aM<|aM<|bA<|ae<|af<|ai<|s1 (aa rfl) rfl<|s1 (aa rfl) rfl<|s1 (dz Tryz.underlying120 rfl an (by decide) rfl rfl) rfl<|s1 (au an rfl rfl rfl) rfl<|s1 (lL (jZ (iy x lv id) (4*i) 4) nb rfl rfl rfl rfl hnb) rfl ?_
   refine sq [2,1005] [(0,_),(1,_),(2,_),(3,_),(5,_),(6,_),(7,_),(22,_),(30,_),(31,_),(32,_),(33,_),(42,_),(43,_),(44,_),(45,_),(46,_)] hR1 hR1.sub.ids rfl ⟨rfl,⟨rfl,⟨rfl,⟨rfl,⟨rfl,⟨rfl,⟨rfl,⟨rfl,⟨rfl,⟨rfl,⟨rfl,⟨rfl,⟨rfl,⟨rfl,⟨rfl,⟨rfl,⟨rfl,trivial⟩⟩⟩⟩⟩⟩⟩⟩⟩⟩⟩⟩⟩⟩⟩⟩⟩ (by first|rfl|(simp [jy,jE,refs,en,mA,mB,cn];done)) rfl rfl rfl rfl rfl fun w2 tm2 hd2=>?_
   refine ai<|s1 (aa rfl) rfl ?_
   refine ah ?_
   refine sk hd2 fun w3 hd3=>?_
   refine aI<|ai<|s1 (au ie rfl rfl rfl) rfl<|s1 (aa rfl) rfl ?_
   refine aj rfl (ey 10 rfl Tryz.underlying30 an rfl rfl rfl rfl rfl ?_)
   refine aj rfl (dB 111 rfl Tryz.underlying30 an rfl (.sl rfl (by simp)) rfl (c8 rfl (by first|rfl|omega|(simp<;>omega)|(simp [*]<;>omega))) (by first|rfl|omega|(simp<;>omega)|(simp [*]<;>omega)) (by first|omega|(simp only [maxLen];omega)|(simp [maxLen];done)|(simp [maxLen];omega)|(simp [maxLen, *];omega)) (by first|omega|(simp only [maxLen];omega)|(simp [maxLen];done)|(simp [maxLen];omega)|(simp [maxLen, *];omega)) rfl rfl rfl ?_)
   refine aj rfl (bX ie rfl rfl rfl rfl (by first|rfl|omega|(simp<;>omega)|(simp [*]<;>omega)) rfl ?_)
   refine ah<|a8 ?_
   refine sn hR1 hd3 rfl ?_
   refine s1 (aa rfl) rfl ?_
   refine ah<|ae ?_
   refine bO rfl ?_
   refine aE<|a8<|ae<|ai<|s1 (aZ _ 1 rfl rfl rfl rfl (by omega)) rfl<|s1 (aa rfl) rfl ?_
   refine ah ?_
   exact bf (i+1) (by omega) (by omega) [(2,some 2),(11,some 111),(1005,some 1005)] hR1.sub.ids rfl rfl ⟨⟨_,rfl,.pure trivial⟩,⟨_,rfl,.pure pu⟩,⟨_,rfl,.pure pu⟩,⟨_,rfl,.pure pu⟩,⟨_,rfl,.p rfl⟩,⟨_,rfl,.pure pu⟩,trivial⟩ ⟨.inr ⟨_,_,rfl,rfl,.cons (.sl rfl (by first|rfl|omega|(simp<;>omega)|(simp [*]<;>omega))) .nil⟩,.inr ⟨_,_,rfl,rfl,.of (by rw [Ge];simp) (.pure ak)⟩,.inr ⟨_,_,rfl,rfl,.pure ak⟩,trivial⟩
 ·have h23 : i = 2 := by have := of_decide_eq_false hc23; omega
  subst h23
  refine bx<|aM<|aM<|bA ?_
  refine vD rfl hR1 hS ?_
  refine a8<|ae<|af<|ai<|s1 (au ie rfl rfl rfl) rfl<|s1 (aa rfl) rfl ?_
  refine ah<|ae<|aB ?_
  refine qd (rs:= [.tmp 4]) rfl rfl rfl hS (dn:= [D1]) rfl rfl (by simp) rfl (aA rfl az) ⟨11,rfl,rfl⟩
theorem G2 (x:List UInt8) (lv nb id:Nat) (D:List UInt8) (hx:x.length=32) (hnb:0<nb):aw Tryz.prog 112 [.fn (.func 207) [] [.fp (x.map u8),.fp [nJ lv,nJ nb,dt D],.fp [nJ id]]] (aO (.fz 2 ((gS x lv nb id 2).map nJ))):=by
 refine enter Tryz.func112 rfl Tryz.ntmps112 (by kernel_rfl) (Nat.le_of_ble_eq_true rfl) fun w0 X0 hI=>?_
 refine af<|ai<|s1 (aa rfl) rfl ?_
 refine ah<|ae<|af<|ai<|s1 (aa rfl) rfl ?_
 refine aj rfl (gD 4 rfl false rfl (.cons (.pure pu) (.cons (.pure pu) .nil)) (FL x lv nb id D hx hnb) ak (.inl rfl) rfl ?_)
 refine s1 (aa rfl) rfl ?_
 refine ah<|ae<|aB ?_
 refine fQ 2 rfl rfl ak (cm (by simp) rfl) ?_
 refine aC (rs:= [.tmp 2]) rfl (aA rfl az) rfl
theorem uE (a b:Int):aw Tryz.prog 118 [.i .i64 a,.i .i64 b] (aO (.b (decide (fc a b)))):=by
 refine enter Tryz.func118 rfl Tryz.ntmps118 (by kernel_rfl) (Nat.le_of_ble_eq_true rfl) fun w0 X0 hI=>?_
 refine af<|ai<|s1 (aa rfl) rfl ?_
 refine ah<|ae<|af<|ai<|s1 (aa rfl) rfl<|s1 (aa rfl) rfl<|s1 (aa rfl) rfl ?_
 refine cT 2 rfl rfl rfl rfl (fun hb7=> .step (aa rfl) rfl rfl<| .step (aa rfl) rfl rfl<| .done) rfl rfl ?_
 refine s1 (aa rfl) rfl ?_
 refine cT 2 rfl rfl rfl rfl (fun hb11=> .step (aa rfl) rfl rfl<| .step (aa rfl) rfl rfl<| .done) rfl rfl ?_
 refine s1 (aa rfl) rfl ?_
 refine cT 2 rfl rfl rfl rfl (fun hb15=> .step (aa rfl) rfl rfl<| .step (aa rfl) rfl rfl<| .done) rfl rfl ?_
 refine s1 (aa rfl) rfl ?_
 refine ah<|ae<|aB ?_
 refine aC (rs:= [.tmp 4]) rfl (aA rfl az) ?_
 exact congrArg A.b (by rw [Bool.eq_iff_iff,decide_eq_true_eq];simp [fc,and_assoc])
end Go.Abs.D2
-- F3D
namespace Go.Abs.D2
open Go Go.Eng Go.Abs Go.Proofs
theorem Iu (lv nb:Int):aw Tryz.prog 74 [.i .i64 lv,.i .i64 nb] (aO (newA lv nb)):=by
 refine enter Tryz.func74 rfl Tryz.ntmps74 (by kernel_rfl) (Nat.le_of_ble_eq_true rfl) fun w0 X0 hI=>?_
 refine af<|ai ?_
 refine aj rfl (bg 4 rfl cD rfl rfl ?_)
 refine s1 ((aa rfl).v (v':= .i .i64 0) rfl) rfl ?_
 refine ah<|ae<|af<|af ?_
 rcases Decidable.em (fc lv nb)with hcs|hcs
 ·obtain ⟨l, n, rfl, rfl, h1, h2, h3⟩ := yo hcs
  refine ai<|s1 (aa rfl) rfl<|s1 (aa rfl) rfl ?_
  refine aj rfl (aF false rfl (.cons (.pure pu) (.cons (.pure pu) (.nil))) (aw.cast (uE _ _) (congrArg A.b (decide_eq_true hcs))) pu (.inl rfl) rfl ?_)
  refine s1 (aa rfl) rfl ?_
  refine ah<|ae ?_
  refine bO rfl ?_
  refine aE<|ae<|af<|ai<|s1 (aa rfl) rfl<|s1 (aa rfl) rfl<|s1 (aa rfl) rfl<|s1 (aZ n 7 rfl rfl rfl rfl (by omega)) rfl<|s1 (lJ (n+7) 8 rfl rfl rfl rfl (by omega) (by omega)) rfl ?_
  refine aj rfl (oW 16 rfl _ _ Tryz.underlying68 aR rfl rfl rfl rfl rfl (by first|omega|(simp only [maxLen];omega)|(simp [maxLen];done)|(simp [maxLen];omega)|(simp [maxLen, *];omega)) (by first|omega|(simp only [maxLen];omega)|(simp [maxLen];done)|(simp [maxLen];omega)|(simp [maxLen, *];omega)) (by first|omega|(simp only [maxLen];omega)|(simp [maxLen];done)|(simp [maxLen];omega)|(simp [maxLen, *];omega)) rfl ?_)
  refine s1 (eE (out:= [_,_,_]) [[aQ (.int .i64 0)], [aQ (.int .i64 0)], [aQ (.slice none 0 0)]] cD rfl Tryz.underlying120 (by kernel_rfl) rfl rfl ⟨⟨by(first|rfl|omega|(simp;done)|(simp [*];done)|(simp [aU, *];done)),rfl⟩,⟨⟨by(first|rfl|omega|(simp;done)|(simp [*];done)|(simp [aU, *];done)),rfl⟩,⟨⟨by(first|rfl|omega|(simp;done)|(simp [*];done)|(simp [aU, *];done)),rfl⟩,trivial⟩⟩⟩ rfl) rfl ?_
  refine aj rfl (ba cD rfl rfl rfl (by first|rfl|omega|(simp<;>omega)|(simp [*]<;>omega)) (by first|rfl|omega|(simp<;>omega)|(simp [*]<;>omega)) ?_)
  refine s1 ((aa rfl).v (v':= .i .i64 0) rfl) rfl ?_
  refine ah<|ae<|aB ?_
  refine jP 4 2 rfl rfl rfl rfl ak (cm (by simp) (Oh _)) rfl ?_
  refine aC (rs:= [.cell 4 120,.tmp 5]) rfl (cw cD rfl rfl rfl rfl (aA rfl az)) ?_
  show A.tu _=_
  rw [CN hcs,jm,dt,List.length_replicate];rfl
 ·skip
  refine ai<|s1 (aa rfl) rfl<|s1 (aa rfl) rfl ?_
  refine aj rfl (aF false rfl (.cons (.pure pu) (.cons (.pure pu) (.nil))) (aw.cast (uE _ _) (congrArg A.b (decide_eq_false hcs))) pu (.inl rfl) rfl ?_)
  refine s1 (aa rfl) rfl ?_
  refine ah<|ae ?_
  refine cN rfl ?_
  refine af<|ai<|s1 (aG cD rfl rfl (by first|rfl|omega|(simp<;>omega)|(simp [*]<;>omega))) rfl ?_
  refine aj rfl (ba cD rfl rfl rfl (by first|rfl|omega|(simp<;>omega)|(simp [*]<;>omega)) (by first|rfl|omega|(simp<;>omega)|(simp [*]<;>omega)) ?_)
  refine s1 ((aa rfl).v (v':= .i .i64 330) rfl) rfl ?_
  refine ah<|ae<|aB<|aN ?_
  refine iM 4 rfl (.cons (.eq rfl) (.cons (.eq rfl) (.cons .nl .nil))) ?_
  refine aC (rs:= [.cell 4 120,.tmp 5]) rfl (cw cD rfl rfl rfl rfl (aA rfl az)) ?_
  show A.tu _=_
  rw [Kn hcs];rfl
theorem wN (lv nb:Int) (D:List UInt8):aw Tryz.prog 123 [.ag [.i .i64 lv,.i .i64 nb,dt D]] (aO (.i .i64 (oE (cG lv nb D)))):=by
 refine enter Tryz.func123 rfl Tryz.ntmps123 (by kernel_rfl) (Nat.le_of_ble_eq_true rfl) fun w0 X0 hI=>?_
 refine af<|ai ?_
 refine aj rfl (bF 1 rfl rfl rfl ?_)
 refine s1 ((aa rfl).v (v':= .i .i64 0) rfl) rfl ?_
 refine ah<|ae<|af<|af ?_
 rcases Decidable.em (fc lv nb)with hcs|hcs
 ·obtain ⟨l, n, rfl, rfl, h1, h2, h3⟩ := yo hcs
  refine ai<|s1 (aD Tryz.underlying120 rfl an (by decide) rfl rfl) rfl<|s1 (au an rfl rfl rfl) rfl<|s1 (aD Tryz.underlying120 rfl an (by decide) rfl rfl) rfl<|s1 (au an rfl rfl rfl) rfl ?_
  refine aj rfl (aF false rfl (.cons (.pure pu) (.cons (.pure pu) (.nil))) (aw.cast (uE _ _) (congrArg A.b (decide_eq_true hcs))) pu (.inl rfl) rfl ?_)
  refine s1 (aa rfl) rfl<|s1 (aa rfl) rfl<|g1 rfl rfl (aD Tryz.underlying120 rfl ec (by decide) rfl rfl) rfl<|g1 rfl rfl (au ec rfl rfl rfl) rfl<|g1 rfl rfl (a7 Tryz.underlying68 rfl rfl rfl) rfl<|g1 rfl rfl (aD Tryz.underlying120 rfl an (by decide) rfl rfl) rfl<|g1 rfl rfl (au an rfl rfl rfl) rfl<|g1 rfl rfl (aZ n 7 rfl rfl rfl rfl (by omega)) rfl<|g1 rfl rfl (lJ (n+7) 8 rfl rfl rfl rfl (by omega) (by omega)) rfl<|g1 rfl rfl (aa rfl) rfl ?_
  refine s1 (aa rfl) rfl ?_
  refine ah<|ae ?_
  refine aK rfl (fun hc19=>?_) (fun hc19=>?_)
  ·have hl : D.length ≠ (n + 7) / 8 := by intro h; rw [h] at hc19; simp at hc19
   refine af<|ai<|s1 ((aa rfl).v (v':= .i .i64 330) rfl) rfl ?_
   refine ah<|ae<|aB<|aN ?_
   refine aC (rs:= [.tmp 2]) rfl (aA rfl az) ?_
   show A.i _ _=_
   rw [Al hl];rfl
  ·have hl : D.length = (n + 7) / 8 := by simp at hc19; omega
   have hct:=An h1 h2 h3 hl
   refine aE<|ae<|af<|af<|ai<|s1 (aD Tryz.underlying120 rfl an (by decide) rfl rfl) rfl<|s1 (au an rfl rfl rfl) rfl<|s1 (lL n 8 rfl rfl rfl rfl (by omega)) rfl<|s1 (aa rfl) rfl ?_
   refine ah<|ae<|af<|ai<|s1 (aa rfl) rfl<|s1 (aa rfl) rfl<|s1 (aa rfl) rfl ?_
   refine cT 11 rfl rfl rfl rfl (fun hb25=> .step (aD Tryz.underlying120 rfl ec (by decide) rfl rfl) rfl rfl<| .step (au ec rfl rfl rfl) rfl rfl<| .step (aD Tryz.underlying120 rfl ec (by decide) rfl rfl) rfl rfl<| .step (au ec rfl rfl rfl) rfl rfl<| .step (a7 Tryz.underlying68 rfl rfl rfl) rfl rfl<| .step (eD D.length 1 rfl rfl rfl rfl (by omega) (by omega)) rfl rfl<| .step (bb (D.length - 1) Tryz.underlying68 aR rfl rfl rfl (by omega) rfl) rfl rfl<| .step (au aR rfl rfl (BN (by omega))) rfl rfl<| .step (aa rfl) rfl rfl<| .step (rp (D.getD (D.length - 1) 0) (n % 8) rfl rfl rfl (by omega)) rfl rfl<| .step ((aa rfl).v (v':= .b (!((D.getD (D.length - 1) 0).toNat / 2 ^ (n % 8)==0))) (congrArg A.b (MU _ _))) rfl rfl<| .done) rfl rfl ?_
   refine ah<|ae ?_
   refine aK rfl (fun hc37=>?_) (fun hc37=>?_)
   ·have hf : cG l n D = false := by rw [hct]; simp at hc37 ⊢; omega
    refine af<|ai<|s1 ((aa rfl).v (v':= .i .i64 330) rfl) rfl ?_
    refine ah<|ae<|aB<|aN ?_
    refine aC (rs:= [.tmp 2]) rfl (aA rfl az) ?_
    show A.i _ _=_
    rw [hf];rfl
   ·have hf : cG l n D = true := by rw [hct]; simp at hc37 ⊢; omega
    refine aE<|ae<|af<|ai<|s1 ((aa rfl).v (v':= .i .i64 0) rfl) rfl ?_
    refine ah<|ae<|aB ?_
    refine aC (rs:= [.tmp 2]) rfl (aA rfl az) ?_
    show A.i _ _=_
    rw [hf];rfl
 ·skip
  refine ai<|s1 (aD Tryz.underlying120 rfl an (by decide) rfl rfl) rfl<|s1 (au an rfl rfl rfl) rfl<|s1 (aD Tryz.underlying120 rfl an (by decide) rfl rfl) rfl<|s1 (au an rfl rfl rfl) rfl ?_
  refine aj rfl (aF false rfl (.cons (.pure pu) (.cons (.pure pu) (.nil))) (aw.cast (uE _ _) (congrArg A.b (decide_eq_false hcs))) pu (.inl rfl) rfl ?_)
  refine s1 (aa rfl) rfl<|s1 (aa rfl) rfl<|g0 rfl rfl rfl rfl<|g0 rfl rfl rfl rfl<|g0 rfl rfl rfl rfl<|g0 rfl rfl rfl rfl<|g0 rfl rfl rfl rfl<|g0 rfl rfl rfl rfl<|g0 rfl rfl rfl rfl<|g0 rfl rfl rfl rfl ?_
  refine s1 (aa rfl) rfl ?_
  refine ah<|ae ?_
  refine cN rfl ?_
  refine af<|ai<|s1 ((aa rfl).v (v':= .i .i64 330) rfl) rfl ?_
  refine ah<|ae<|aB<|aN ?_
  refine aC (rs:= [.tmp 2]) rfl (aA rfl az) ?_
  show A.i _ _=_
  rw [Am hcs];rfl
theorem sW (x:List UInt8) (lv nb id:Int) (D:List UInt8) (hx:x.length=32):aw Tryz.prog 119 [.ag (x.map u8),.ag [.i .i64 lv,.i .i64 nb,dt D],.i .i64 id] (aO (bitsA x lv nb D id)):=by
 refine enter Tryz.func119 rfl Tryz.ntmps119 (by kernel_rfl) (Nat.le_of_ble_eq_true rfl) fun w0 X0 hI=>?_
 refine af<|ai ?_
 refine aj rfl (bF 3 rfl rfl rfl ?_)
 refine aj rfl (bF 4 rfl rfl rfl ?_)
 refine s1 (aa rfl) rfl<|s1 ((aa rfl).v (v':= .i .i64 0) rfl) rfl ?_
 refine ah<|ae<|af<|af ?_
 rcases tf (cG lv nb D)with hcs|hcs
 ·skip
  refine ai<|s1 (aG cD rfl rfl (by first|rfl|omega|(simp<;>omega)|(simp [*]<;>omega))) rfl ?_
  refine aj rfl (aF false rfl (.cons (.pure pu) (.nil)) (aw.cast (wN _ _ _) (congrArg (A.i .i64) (by rw [hcs];rfl:oE (cG lv nb D)=330))) pu (.inl rfl) rfl ?_)
  refine s1 (aa rfl) rfl ?_
  refine ah<|ae<|af<|ai<|s1 (aa rfl) rfl<|s1 ((aa rfl).v (v':= .b true) (rfl)) rfl ?_
  refine ah<|ae ?_
  refine cN rfl ?_
  refine af<|ai<|s1 (aa rfl) rfl<|s1 (aa rfl) rfl<|s1 (aa rfl) rfl ?_
  refine ah<|ae<|aB<|aN ?_
  refine aC (rs:= [.tmp 6,.tmp 7]) rfl (aA rfl (aA rfl az)) ?_
  show A.tu _=_
  rw [sx (KN hcs)];rfl
 ·skip
  refine ai<|s1 (aG cD rfl rfl (by first|rfl|omega|(simp<;>omega)|(simp [*]<;>omega))) rfl ?_
  refine aj rfl (aF false rfl (.cons (.pure pu) (.nil)) (aw.cast (wN _ _ _) (congrArg (A.i .i64) (by rw [hcs];rfl:oE (cG lv nb D)=0))) pu (.inl rfl) rfl ?_)
  refine s1 (aa rfl) rfl ?_
  refine ah<|ae<|af<|ai<|s1 (aa rfl) rfl<|s1 ((aa rfl).v (v':= .b false) (rfl)) rfl ?_
  refine ah<|ae ?_
  refine bO rfl ?_
  refine aE<|ae<|af<|af<|ai<|s1 (aa rfl) rfl<|s1 (aa rfl) rfl<|s1 (aa rfl) rfl ?_
  refine kF 2 rfl rfl rfl rfl (fun hb16=> .step (aa rfl) rfl rfl<| .step (aa rfl) rfl rfl<| .done) rfl rfl ?_
  refine ah<|ae ?_
  refine aK rfl (fun hc19=>?_) (fun hc19=>?_)
  ·have h19 : ¬ (0 ≤ id ∧ id < 1024) := by simp at hc19; omega
   refine af<|ai<|s1 (aa rfl) rfl<|s1 ((aa rfl).v (v':= .i .i64 330) rfl) rfl ?_
   refine ah<|ae<|aB<|aN ?_
   refine aC (rs:= [.tmp 6,.tmp 7]) rfl (aA rfl (aA rfl az)) ?_
   show A.tu _=_
   rw [sx (KO h19)];rfl
  ·have h19 : 0 ≤ id ∧ id < 1024 := by simp at hc19; omega
   have hk:=Dg hcs h19
   obtain⟨l,n,j,rfl,rfl,rfl,h1,h2,h3,h4,h5,h6⟩:=ua hk
   refine aE<|ae<|af<|ai<|s1 (aG ar rfl rfl (by first|rfl|omega|(simp<;>omega)|(simp [*]<;>omega))) rfl<|s1 (aG cD rfl rfl (by first|rfl|omega|(simp<;>omega)|(simp [*]<;>omega))) rfl<|s1 (aa rfl) rfl ?_
   refine aj rfl (aF false rfl (.cons (.pure pu) (.cons (.pure pu) (.cons (.pure pu) (.nil)))) (Gi x _ _ _ D) pu (.inl rfl) rfl ?_)
   refine aj rfl (aF false rfl (.cons (.pure pu) (.nil)) (G2 x l n j D hx (by omega)) pu (.inl rfl) rfl ?_)
   refine s1 (aa rfl) rfl<|s1 ((aa rfl).v (v':= .i .i64 0) rfl) rfl ?_
   refine ah<|ae<|aB ?_
   refine aC (rs:= [.tmp 6,.tmp 7]) rfl (aA rfl (aA rfl az)) ?_
   show A.tu _=_
   exact(vH hk).symm
theorem Ii (x:List UInt8) (lv nb id:Int) (D:List UInt8) (hx:x.length=32):aw Tryz.prog 78 [.ag (x.map u8),.ag [.i .i64 lv,.i .i64 nb,dt D],.i .i64 id] (aO (hasA x lv nb D id)):=by
 refine enter Tryz.func78 rfl Tryz.ntmps78 (by kernel_rfl) (Nat.le_of_ble_eq_true rfl) fun w0 X0 hI=>?_
 refine af<|ai ?_
 refine aj rfl (bF 3 rfl rfl rfl ?_)
 refine aj rfl (bF 4 rfl rfl rfl ?_)
 refine s1 (aa rfl) rfl<|s1 ((aa rfl).v (v':= .i .i64 0) rfl) rfl ?_
 refine ah<|ae<|af ?_
 rcases tf (okB lv nb D id)with hcs|hcs
 ·skip
  refine ai<|s1 (aG ar rfl rfl (by first|rfl|omega|(simp<;>omega)|(simp [*]<;>omega))) rfl<|s1 (aG cD rfl rfl (by first|rfl|omega|(simp<;>omega)|(simp [*]<;>omega))) rfl<|s1 (aa rfl) rfl ?_
  refine aj rfl (aF false rfl (.cons (.pure pu) (.cons (.pure pu) (.cons (.pure pu) (.nil)))) (aw.cast (sW x _ _ _ D hx) (sx hcs)) pu (.inl rfl) rfl ?_)
  refine s1 (aa rfl) rfl<|s1 (aa rfl) rfl<|s1 (aa rfl) rfl<|s1 (aa rfl) rfl<|s1 (aa rfl) rfl ?_
  refine ah<|ae<|af<|af<|ai<|s1 (aa rfl) rfl<|s1 ((aa rfl).v (v':= .b true) (rfl)) rfl ?_
  refine ah<|ae ?_
  refine cN rfl ?_
  refine af<|ai<|s1 (aa rfl) rfl<|s1 (aa rfl) rfl<|s1 (aa rfl) rfl ?_
  refine ah<|ae<|aB<|aN ?_
  refine aC (rs:= [.tmp 6,.tmp 7]) rfl (aA rfl (aA rfl az)) ?_
  show A.tu _=_
  rw [I5 hcs];rfl
 ·obtain ⟨l, n, j, rfl, rfl, rfl, h1, h2, h3, h4, h5, h6⟩ := ua hcs
  refine ai<|s1 (aG ar rfl rfl (by first|rfl|omega|(simp<;>omega)|(simp [*]<;>omega))) rfl<|s1 (aG cD rfl rfl (by first|rfl|omega|(simp<;>omega)|(simp [*]<;>omega))) rfl<|s1 (aa rfl) rfl ?_
  refine aj rfl (aF false rfl (.cons (.pure pu) (.cons (.pure pu) (.cons (.pure pu) (.nil)))) (aw.cast (sW x _ _ _ D hx) (vH hcs)) pu (.inl rfl) rfl ?_)
  refine s1 (aa rfl) rfl<|s1 (aa rfl) rfl<|s1 (aa rfl) rfl<|s1 (aa rfl) rfl<|s1 (aa rfl) rfl ?_
  refine ah<|ae<|af<|af<|ai<|s1 (aa rfl) rfl<|s1 ((aa rfl).v (v':= .b false) (rfl)) rfl ?_
  refine ah<|ae ?_
  refine bO rfl ?_
  refine aE<|ae<|af<|af<|ai<|s1 (aa rfl) rfl<|s1 (a7 Tryz.underlying30 rfl rfl rfl) rfl<|s1 ((aa rfl).v (v':= .i .i64 0) rfl) rfl ?_
  refine ah<|ae<|aI ?_
  refine bD (ι:=Nat) (fun i=> [(4,.p 4 0),(21,.fz 2 ((gS x l n j 2).map nJ)),(22,nJ 2),(23,nJ i)]) (fun i=>⟨[(4,some ([nJ l,nJ n,dt D]))]⟩) (fun i=>i≤2∧∀t,t<i→fG D (bN x l n j t)=true) (fun i=>2 - i) ?_ ?_
  ·exact bC (0) (⟨by omega,fun t ht=>absurd ht (by omega)⟩) [(4,some 4)] hI rfl rfl ⟨⟨_,rfl,.p rfl⟩,⟨_,rfl,.pure pu⟩,⟨_,rfl,.pure pu⟩,⟨_,rfl,.pure pu⟩,trivial⟩ ⟨.inr ⟨_,_,rfl,rfl,.pure ak⟩,trivial⟩
  rintro i ⟨hi,hall⟩
  have hbi:bN x l n j i<n:=ot (by omega) i
  refine af<|ai<|s1 (aa rfl) rfl ?_
  refine ah<|ae<|af ?_
  refine aK rfl (fun hc24=>?_) (fun hc24=>?_)
  ·have h24 : i < 2 := by have := of_decide_eq_true hc24; omega
   refine aE<|ae<|af<|aI<|af<|ai<|s1 (bb i Tryz.underlying30 an rfl rfl rfl (by omega) rfl) rfl<|s1 (au an rfl rfl (zK x l n j i h24)) rfl<|s1 (aa rfl) rfl ?_
   refine ah<|ae<|af<|ai<|s1 (aD Tryz.underlying120 rfl ec (by decide) rfl rfl) rfl<|s1 (au ec rfl rfl rfl) rfl<|s1 (aa rfl) rfl<|s1 (lJ _ 8 rfl rfl rfl rfl (by omega) (by omega)) rfl<|s1 (bb (bN x l n j i / 8) Tryz.underlying68 aR rfl rfl rfl (by omega) rfl) rfl<|s1 (au aR rfl rfl (BN (by omega))) rfl<|s1 (aa rfl) rfl<|s1 (lL _ 8 rfl rfl rfl rfl (by omega)) rfl<|s1 (rp (D.getD (bN x l n j i / 8) 0) (bN x l n j i % 8) rfl rfl rfl (by omega)) rfl<|s1 (vt _ (1:UInt8) rfl rfl) rfl ?_
   refine s1 ((aa rfl).v (v':= .b (!fG D (bN x l n j i))) (congrArg A.b (I3 _ _))) rfl ?_
   refine ah<|ae ?_
   refine aK rfl (fun hc37=>?_) (fun hc37=>?_)
   ·have hb : fG D (bN x l n j i) = false := by simpa using hc37
    refine af<|ai<|s1 (aa rfl) rfl<|s1 ((aa rfl).v (v':= .i .i64 0) rfl) rfl ?_
    refine ah<|ae<|aB<|bI<|aN<|aN<|bI<|aN ?_
    refine aC (rs:= [.tmp 6,.tmp 7]) rfl (aA rfl (aA rfl az)) ?_
    show A.tu _=_
    rw [BV hcs,I1 h24 hb];rfl
   ·have hb : fG D (bN x l n j i) = true := by simpa using hc37
    refine aE<|a8<|ae<|ai<|s1 (aZ _ 1 rfl rfl rfl rfl (by omega)) rfl<|s1 (aa rfl) rfl ?_
    refine ah ?_
    exact bf (i+1) (⟨by omega,vr hall hb⟩) (by omega) [(4,some 4)] hI rfl rfl ⟨⟨_,rfl,.p rfl⟩,⟨_,rfl,.pure pu⟩,⟨_,rfl,.pure pu⟩,⟨_,rfl,.pure pu⟩,trivial⟩ ⟨.inr ⟨_,_,rfl,rfl,.pure ak⟩,trivial⟩
  ·have h24 : i = 2 := by have := of_decide_eq_false hc24; omega
   subst h24
   refine bx<|aM<|aM<|bA<|ae<|af<|ai<|s1 (aa rfl) rfl<|s1 ((aa rfl).v (v':= .i .i64 0) rfl) rfl ?_
   refine ah<|ae<|aB ?_
   refine aC (rs:= [.tmp 6,.tmp 7]) rfl (aA rfl (aA rfl az)) ?_
   show A.tu _=_
   rw [BV hcs,I2 hall];rfl
theorem wO (D:List UInt8) (h:0<D.length) (hD:D.length≤1000000):aw Tryz.prog 51 [dt D] (cU 1 D.length (D.map u8)):=by
 refine enter Tryz.func51 rfl Tryz.ntmps51 (by kernel_rfl) (Nat.le_of_ble_eq_true rfl) fun w0 X0 hI=>?_
 refine af<|ai<|s1 (aa rfl) rfl ?_
 refine ah<|ae<|af<|af<|ai<|s1 (aa rfl) rfl<|s1 (uT Tryz.underlying68 rfl rfl h) rfl ?_
 refine ah<|ae ?_
 refine bO rfl ?_
 refine aE<|ae<|af<|ai ?_
 refine aj rfl (ey 5 rfl Tryz.underlying68 aR rfl rfl rfl rfl rfl ?_)
 refine s1 (aa rfl) rfl ?_
 refine aj rfl (dB 7 rfl Tryz.underlying68 aR rfl (.sl rfl (by first|rfl|omega|(simp<;>omega)|(simp [*]<;>omega))) rfl rfl (by first|rfl|omega|(simp<;>omega)|(simp [*]<;>omega)) (by first|omega|(simp only [maxLen];omega)|(simp [maxLen];done)|(simp [maxLen];omega)|(simp [maxLen, *];omega)) (by first|omega|(simp only [maxLen];omega)|(simp [maxLen];done)|(simp [maxLen];omega)|(simp [maxLen, *];omega)) rfl rfl rfl ?_)
 refine s1 (aa rfl) rfl ?_
 refine ah<|ae<|aB ?_
 refine aC (rs:= [.tmp 2]) rfl (aA rfl az) ⟨7,congrArg (A.sl 7 1 0) (Nat.zero_add _),rfl⟩
theorem H9 (x:List UInt8) (lv nb id:Int) (D:List UInt8) (hx:x.length=32):aw Tryz.prog 75 [.ag (x.map u8),.ag [.i .i64 lv,.i .i64 nb,dt D],.i .i64 id] (aO (addA x lv nb D id)):=by
 refine enter Tryz.func75 rfl Tryz.ntmps75 (by kernel_rfl) (Nat.le_of_ble_eq_true rfl) fun w0 X0 hI=>?_
 refine af<|ai ?_
 refine aj rfl (bF 3 rfl rfl rfl ?_)
 refine aj rfl (bF 4 rfl rfl rfl ?_)
 refine aj rfl (bg 6 rfl cD rfl rfl ?_)
 refine s1 ((aa rfl).v (v':= .i .i64 0) rfl) rfl ?_
 refine ah<|ae<|af ?_
 rcases tf (okB lv nb D id)with hcs|hcs
 ·skip
  refine ai<|s1 (aG ar rfl rfl (by first|rfl|omega|(simp<;>omega)|(simp [*]<;>omega))) rfl<|s1 (aG cD rfl rfl (by first|rfl|omega|(simp<;>omega)|(simp [*]<;>omega))) rfl<|s1 (aa rfl) rfl ?_
  refine aj rfl (aF false rfl (.cons (.pure pu) (.cons (.pure pu) (.cons (.pure pu) (.nil)))) (aw.cast (sW x _ _ _ D hx) (sx hcs)) pu (.inl rfl) rfl ?_)
  refine s1 (aa rfl) rfl<|s1 (aa rfl) rfl<|s1 (aa rfl) rfl<|s1 (aa rfl) rfl<|s1 (aa rfl) rfl ?_
  refine ah<|ae<|af<|af<|ai<|s1 (aa rfl) rfl<|s1 ((aa rfl).v (v':= .b true) (rfl)) rfl ?_
  refine ah<|ae ?_
  refine cN rfl ?_
  refine af<|ai<|s1 (aG cD rfl rfl (by first|rfl|omega|(simp<;>omega)|(simp [*]<;>omega))) rfl<|s1 (aa rfl) rfl ?_
  refine aj rfl (ba cD rfl rfl rfl (by first|rfl|omega|(simp<;>omega)|(simp [*]<;>omega)) (by first|rfl|omega|(simp<;>omega)|(simp [*]<;>omega)) ?_)
  refine s1 (aa rfl) rfl ?_
  refine ah<|ae<|aB<|aN ?_
  refine iM 6 rfl (.cons (.eq rfl) (.cons (.eq rfl) (.cons .nl .nil))) ?_
  refine aC (rs:= [.cell 6 120,.tmp 7]) rfl (cw cD rfl rfl rfl rfl (aA rfl az)) ?_
  show A.tu _=_
  rw [Fx hcs];rfl
 ·obtain ⟨l, n, j, rfl, rfl, rfl, h1, h2, h3, h4, h5, h6⟩ := ua hcs
  refine ai<|s1 (aG ar rfl rfl (by first|rfl|omega|(simp<;>omega)|(simp [*]<;>omega))) rfl<|s1 (aG cD rfl rfl (by first|rfl|omega|(simp<;>omega)|(simp [*]<;>omega))) rfl<|s1 (aa rfl) rfl ?_
  refine aj rfl (aF false rfl (.cons (.pure pu) (.cons (.pure pu) (.cons (.pure pu) (.nil)))) (aw.cast (sW x _ _ _ D hx) (vH hcs)) pu (.inl rfl) rfl ?_)
  refine s1 (aa rfl) rfl<|s1 (aa rfl) rfl<|s1 (aa rfl) rfl<|s1 (aa rfl) rfl<|s1 (aa rfl) rfl ?_
  refine ah<|ae<|af<|af<|ai<|s1 (aa rfl) rfl<|s1 ((aa rfl).v (v':= .b false) (rfl)) rfl ?_
  refine ah<|ae ?_
  refine bO rfl ?_
  refine aE<|ae<|af<|ai<|s1 (aG cD rfl rfl (by first|rfl|omega|(simp<;>omega)|(simp [*]<;>omega))) rfl ?_
  refine aj rfl (ba cD rfl rfl rfl (by first|rfl|omega|(simp<;>omega)|(simp [*]<;>omega)) (by first|rfl|omega|(simp<;>omega)|(simp [*]<;>omega)) ?_)
  refine ah<|ae<|af<|ai<|s1 (aD Tryz.underlying120 rfl ec (by decide) rfl rfl) rfl<|s1 (au ec rfl rfl rfl) rfl ?_
  refine aj rfl (gD 25 rfl false rfl (.cons (.pure pu) (.nil)) (wO D (by omega) (by omega)) ak (.inl rfl) rfl ?_)
  refine s1 (aD Tryz.underlying120 rfl ec (by decide) rfl rfl) rfl ?_
  refine aj rfl (bX ec rfl rfl rfl rfl (by first|rfl|omega|(simp<;>omega)|(simp [*]<;>omega)) rfl ?_)
  refine ah<|ae<|af<|af<|ai<|s1 (aa rfl) rfl<|s1 (a7 Tryz.underlying30 rfl rfl rfl) rfl<|s1 ((aa rfl).v (v':= .i .i64 0) rfl) rfl ?_
  refine ah<|ae<|aI ?_
  refine bD (ι:=Nat) (fun i=> [(6,.p 6 0),(27,.fz 2 ((gS x l n j 2).map nJ)),(28,nJ 2),(29,nJ i)]) (fun i=>⟨[(6,some ([nJ l,nJ n,.sl 25 1 0 D.length])),(25,some ((pH x l n j D i).map u8))]⟩) (fun i=>i≤2) (fun i=>2 - i) ?_ ?_
  ·exact bC (0) (Nat.zero_le _) [(6,some 6),(25,some 25)] hI rfl rfl ⟨⟨_,rfl,.p rfl⟩,⟨_,rfl,.pure pu⟩,⟨_,rfl,.pure pu⟩,⟨_,rfl,.pure pu⟩,trivial⟩ ⟨.inr ⟨_,_,rfl,rfl,.cons (.pure pu) (.cons (.pure pu) (.cons (.sl rfl rfl) .nil))⟩,.inr ⟨_,_,rfl,rfl,.of (by rfl) (.pure ak)⟩,trivial⟩
  rintro i hi
  have hbi:bN x l n j i<n:=ot (by omega) i
  have hsl:=xq x l n j D i
  refine af<|ai<|s1 (aa rfl) rfl ?_
  refine ah<|ae<|af ?_
  refine aK rfl (fun hc30=>?_) (fun hc30=>?_)
  ·have h30 : i < 2 := by have := of_decide_eq_true hc30; omega
   refine aE<|ae<|af<|aI<|af<|ai<|s1 (bb i Tryz.underlying30 an rfl rfl rfl (by omega) rfl) rfl<|s1 (au an rfl rfl (zK x l n j i h30)) rfl<|s1 (aa rfl) rfl ?_
   refine ah<|ae ?_
   refine dc 11 br (by kernel_rfl) ?_
   refine t1 (aD Tryz.underlying120 rfl ec (by decide) rfl rfl) rfl<|t1 (au ec rfl rfl rfl) rfl<|t1 (aa rfl) rfl<|t1 (lJ _ 8 rfl rfl rfl rfl (by omega) (by omega)) rfl<|t1 (kZ (bN x l n j i / 8) Tryz.underlying68 aR rfl rfl rfl rfl (by omega) rfl) rfl<|t1 (au aR rfl rfl (IP (by omega))) rfl<|t1 (aa rfl) rfl<|t1 (lL _ 8 rfl rfl rfl rfl (by omega)) rfl<|t1 (yj (bN x l n j i % 8) rfl rfl rfl (by omega)) rfl<|t1 (uk _ _ rfl rfl) rfl ?_
   refine t1 (kZ (bN x l n j i / 8) Tryz.underlying68 aR rfl rfl rfl rfl (by omega) rfl) rfl ?_
   refine de ?_
   refine aj rfl (bX aR rfl rfl rfl rfl (by simp [hsl];omega) (MA _ _) ?_)
   refine ah<|a8<|ae<|ai<|s1 (aZ _ 1 rfl rfl rfl rfl (by omega)) rfl<|s1 (aa rfl) rfl ?_
   refine ah ?_
   exact bf (i+1) (by omega) (by omega) [(6,some 6),(25,some 25)] hI rfl rfl ⟨⟨_,rfl,.p rfl⟩,⟨_,rfl,.pure pu⟩,⟨_,rfl,.pure pu⟩,⟨_,rfl,.pure pu⟩,trivial⟩ ⟨.inr ⟨_,_,rfl,rfl,.cons (.pure pu) (.cons (.pure pu) (.cons (.sl rfl rfl) .nil))⟩,.inr ⟨_,_,rfl,rfl,.of (by rfl) (.pure ak)⟩,trivial⟩
  ·have h30 : i = 2 := by have := of_decide_eq_false hc30; omega
   subst h30
   refine bx<|aM<|aM<|bA<|ae<|af<|ai<|s1 (aG cD rfl rfl (by first|rfl|omega|(simp<;>omega)|(simp [*]<;>omega))) rfl ?_
   refine aj rfl (ba cD rfl rfl rfl (by first|rfl|omega|(simp<;>omega)|(simp [*]<;>omega)) (by first|rfl|omega|(simp<;>omega)|(simp [*]<;>omega)) ?_)
   refine s1 ((aa rfl).v (v':= .i .i64 0) rfl) rfl ?_
   refine ah<|ae<|aB ?_
   refine jP 6 2 rfl rfl rfl rfl ak (cm (by simp) rfl) rfl ?_
   refine aC (rs:= [.cell 6 120,.tmp 7]) rfl (cw cD rfl rfl rfl rfl (aA rfl az)) ?_
   show A.tu _=_
   rw [Fy hcs,jm,dt,xq];rfl
end Go.Abs.D2
-- F3E
namespace Go.Abs.D2
open Go Go.Eng Go.Abs Go.Proofs
end Go.Abs.D2
-- C4B
namespace Go.Abs.D2
open Go Go.Eng Go.Abs Go.Proofs
theorem mq (l:List Int) (hn:l.length≤maxLen):aw Tryz.prog 72 [.fz l.length (l.map (A.i .i64))] (aO (.b (cH l))):=by
 refine enter Tryz.func72 rfl Tryz.ntmps72 (by kernel_rfl) (Nat.le_of_ble_eq_true rfl) fun w0 X0 hI=>?_
 refine af<|ai<|s1 (aa rfl) rfl ?_
 refine ah<|ae<|af ?_
 simp only [maxLen]at hn
 refine ai<|s1 ((aa rfl).v (v':= .i .i64 (-1)) rfl) rfl ?_
 refine ah<|ae<|af<|af<|ai<|s1 (aa rfl) rfl<|s1 (a7 Tryz.underlying30 rfl rfl rfl) rfl<|s1 ((aa rfl).v (v':= .i .i64 0) rfl) rfl ?_
 refine ah<|ae<|aI ?_
 refine bD (ι:=Nat) (fun i=> [(3,.i .i64 (fL l i)),(6,.fz l.length (l.map (A.i .i64))),(7,nJ l.length),(8,nJ i)]) (fun i=>⟨[]⟩) (fun i=>i≤l.length∧cH l=dQ (fL l i) (l.drop i)) (fun i=>l.length - i) ?_ ?_
 ·exact bC (0) (⟨Nat.zero_le _,zx l⟩) [] hI rfl rfl ⟨⟨_,rfl,.pure pu⟩,⟨_,rfl,.pure pu⟩,⟨_,rfl,.pure pu⟩,⟨_,rfl,.pure pu⟩,trivial⟩ trivial
 rintro i ⟨hi,hl⟩
 refine af<|ai<|s1 (aa rfl) rfl ?_
 refine ah<|ae<|af ?_
 refine aK rfl (fun hc9=>?_) (fun hc9=>?_)
 ·have h9 : i < l.length := by have := of_decide_eq_true hc9; omega
  obtain⟨q,hq⟩:∃q,l[i]? =some q:=⟨_,List.getElem?_eq_getElem h9⟩
  refine aE<|ae<|af<|aI<|af<|ai<|s1 (bb i Tryz.underlying30 an rfl rfl rfl (by omega) rfl) rfl<|s1 (au an rfl rfl (oM hq)) rfl<|s1 (aa rfl) rfl ?_
  refine ah<|ae<|af<|af<|ai<|s1 (aa rfl) rfl<|s1 (aa rfl) rfl<|s1 (aa rfl) rfl<|s1 (aa rfl) rfl ?_
  refine kF 2 rfl rfl rfl rfl (fun hb15=> .step (aa rfl) rfl rfl<| .step (aa rfl) rfl rfl<| .done) rfl rfl ?_
  refine ah<|ae ?_
  refine aK rfl (fun hc18=>?_) (fun hc18=>?_)
  ·have h18 : ¬ (fL l i < q ∧ q < 1024) := by simp at hc18; omega
   refine af<|ai<|s1 (aa rfl) rfl ?_
   refine ah<|ae<|aB<|aN<|bI<|aN<|aN<|bI<|aN ?_
   refine aC (rs:= [.tmp 2]) rfl (aA rfl az) ?_
   exact congrArg A.b (zw hl hq h18).symm
  ·have h18 : fL l i < q ∧ q < 1024 := by simp at hc18; omega
   refine aE<|ae<|ai<|s1 ((aa rfl).v (v':= .i .i64 (fL l (i+1))) (congrArg (A.i .i64) (xk hq).symm)) rfl<|s1 (aa rfl) rfl ?_
   refine ah<|a8<|ae<|ai<|s1 (aZ _ 1 rfl rfl rfl rfl (by omega)) rfl<|s1 (aa rfl) rfl ?_
   refine ah ?_
   exact bf (i+1) (⟨by omega,vw hl hq h18⟩) (by omega) [] hI rfl rfl ⟨⟨_,rfl,.pure pu⟩,⟨_,rfl,.pure pu⟩,⟨_,rfl,.pure pu⟩,⟨_,rfl,.pure pu⟩,trivial⟩ trivial
 ·have h9 : i = l.length := by have := of_decide_eq_false hc9; omega
  subst h9
  refine bx<|aM<|aM<|bA<|ae<|af<|ai<|s1 (aa rfl) rfl ?_
  refine ah<|ae<|aB ?_
  refine aC (rs:= [.tmp 2]) rfl (aA rfl az) ?_
  exact congrArg A.b (zr hl).symm
theorem zT (c:bQ) (hx:c.x.length=32) (hn:c.E.length≤maxLen):aw Tryz.prog 80 [.ag (eH c)] (aO (.i .i64 (wL (dK c)))):=by
 refine enter Tryz.func80 rfl Tryz.ntmps80 (by kernel_rfl) (Nat.le_of_ble_eq_true rfl) fun w0 X0 hI=>?_
 refine af<|ai ?_
 refine aj rfl (bF 1 rfl rfl rfl ?_)
 refine s1 ((aa rfl).v (v':= .i .i64 0) rfl) rfl ?_
 refine ah<|ae<|af<|af<|ai<|s1 (aD Tryz.underlying60 rfl iH (by decide) rfl rfl) rfl<|s1 (au iH rfl rfl (vQ hx)) rfl<|s1 (a7 Tryz.underlying58 rfl rfl rfl) rfl<|s1 (aa rfl) rfl<|s1 (aa rfl) rfl ?_
 refine gw 9 rfl (fun hc9=>?_) (fun hc9=>?_)
 ·have h4 : ¬ c.F.length ≤ 16 := by simp at hc9; omega
  refine g0 rfl rfl rfl rfl<|g0 rfl rfl rfl rfl<|g0 rfl rfl rfl rfl<|g0 rfl rfl rfl rfl<|s1 (aa rfl) rfl ?_
  refine ah<|ae ?_
  refine cN rfl ?_
  refine af<|ai<|s1 ((aa rfl).v (v':= .i .i64 340) rfl) rfl ?_
  refine ah<|ae<|aB<|aN ?_
  refine aC (rs:= [.tmp 2]) rfl (aA rfl az) ?_
  exact congrArg (A.i .i64) (by rw [GI h4];rfl)
 ·have h4 : c.F.length ≤ 16 := by simp at hc9; omega
  refine g1 rfl rfl (aD Tryz.underlying60 rfl ie (by decide) rfl rfl) rfl<|g1 rfl rfl (au ie rfl rfl (zP hx)) rfl ?_
  refine ee rfl rfl rfl (aF false rfl (.cons (.pure pu) (.nil)) (mq c.E hn) pu (.inl rfl) rfl ?_)
  refine g1 rfl rfl (aa rfl) rfl<|s1 (aa rfl) rfl ?_
  refine ah<|ae ?_
  refine aK rfl (fun hc14=>?_) (fun hc14=>?_)
  ·have h14 : cH c.E = false := by simpa using hc14
   refine af<|ai<|s1 ((aa rfl).v (v':= .i .i64 340) rfl) rfl ?_
   refine ah<|ae<|aB<|aN ?_
   refine aC (rs:= [.tmp 2]) rfl (aA rfl az) ?_
   exact congrArg (A.i .i64) (by rw [GJ h14];rfl)
  ·have h14 : cH c.E = true := by simpa using hc14
   refine aE<|ae<|af<|af<|ai<|s1 (aD Tryz.underlying60 rfl iH (by decide) rfl rfl) rfl<|s1 (au iH rfl rfl (vQ hx)) rfl<|s1 (a7 Tryz.underlying58 rfl rfl rfl) rfl<|s1 ((aa rfl).v (v':= .i .i64 0) rfl) rfl ?_
   refine ah<|ae<|aI ?_
   refine bD (ι:=Nat) (fun i=> [(16,qD c.F),(17,nJ c.F.length),(18,nJ i)]) (fun i=>⟨[]⟩) (fun i=>i≤c.F.length∧eO 0 c.F=eO i (c.F.drop i)) (fun i=>c.F.length - i) ?_ ?_
   ·exact bC (0) (⟨Nat.zero_le _,rfl⟩) [] hI rfl rfl ⟨⟨_,rfl,.pure pu⟩,⟨_,rfl,.pure pu⟩,⟨_,rfl,.pure pu⟩,trivial⟩ trivial
   rintro i ⟨hi,hl⟩
   refine af<|ai<|s1 (aa rfl) rfl ?_
   refine ah<|ae<|af ?_
   refine aK rfl (fun hc19=>?_) (fun hc19=>?_)
   ·have h19 : i < c.F.length := by have := of_decide_eq_true hc19; omega
    obtain⟨f,hf⟩:∃f,c.F[i]? =some f:=⟨_,List.getElem?_eq_getElem h19⟩
    refine aE<|ae<|af<|aI<|af<|ai<|s1 (aa rfl) rfl<|s1 (bb i Tryz.underlying58 cD rfl rfl rfl (by omega) rfl) rfl<|s1 (bp cD rfl rfl (Bu hf) rfl) rfl ?_
    refine aj rfl (bg 4 rfl cD rfl rfl ?_)
    refine s1 (aa rfl) rfl ?_
    refine aj rfl (ba cD rfl rfl rfl (by first|rfl|omega|(simp<;>omega)|(simp [*]<;>omega)) (by first|rfl|omega|(simp<;>omega)|(simp [*]<;>omega)) ?_)
    refine ah<|ae<|af<|ai<|s1 (aD Tryz.underlying120 rfl an (by decide) rfl rfl) rfl<|s1 (au an rfl rfl rfl) rfl<|s1 (aa rfl) rfl<|s1 (aa rfl) rfl<|s1 (aa rfl) rfl ?_
    refine gw 27 rfl (fun hc27=>?_) (fun hc27=>?_)
    ·have h27 : ¬ f.lv = i := by simpa using hc27
     refine g0 rfl rfl rfl rfl<|g0 rfl rfl rfl rfl<|g0 rfl rfl rfl rfl<|s1 (aa rfl) rfl ?_
     refine ah<|ae ?_
     refine cN rfl ?_
     refine af<|ai<|s1 ((aa rfl).v (v':= .i .i64 340) rfl) rfl ?_
     refine ah<|ae<|aB<|bI<|aN<|aN<|bI<|aN ?_
     refine aC (rs:= [.tmp 2]) rfl (aA rfl az) ?_
     exact congrArg (A.i .i64) (by rw [Ae (Cs hl hf (fun h=>h27 h.1))];rfl)
    ·have h27 : f.lv = i := by simpa using hc27
     refine g1 rfl rfl (aG cD rfl rfl rfl) rfl ?_
     refine ee rfl rfl rfl (aF false rfl (.cons (.pure pu) (.nil)) (wN f.lv f.nb f.D) pu (.inl rfl) rfl ?_)
     refine g1 rfl rfl (aa rfl) rfl<|s1 (aa rfl) rfl ?_
     refine ah<|ae ?_
     refine aK rfl (fun hc31=>?_) (fun hc31=>?_)
     ·have h31 : ¬ (f.lv = i ∧ cG f.lv f.nb f.D = true) := by intro h; simp [h.2, oE] at hc31
      refine af<|ai<|s1 ((aa rfl).v (v':= .i .i64 340) rfl) rfl ?_
      refine ah<|ae<|aB<|bI<|aN<|aN<|bI<|aN ?_
      refine aC (rs:= [.tmp 2]) rfl (aA rfl az) ?_
      exact congrArg (A.i .i64) (by rw [Ae (Cs hl hf h31)];rfl)
     ·have h31 : f.lv = i ∧ cG f.lv f.nb f.D = true := ⟨h27, by cases hk : cG f.lv f.nb f.D with | true => rfl | false => simp [hk, oE] at hc31⟩
      refine aE<|a8<|ae<|ai<|s1 (aZ _ 1 rfl rfl rfl rfl (by omega)) rfl<|s1 (aa rfl) rfl ?_
      refine ah ?_
      exact bf (i+1) (⟨by omega,JT hl hf h31.1 h31.2⟩) (by omega) [] hI rfl rfl ⟨⟨_,rfl,.pure pu⟩,⟨_,rfl,.pure pu⟩,⟨_,rfl,.pure pu⟩,trivial⟩ trivial
   ·have h19 : i = c.F.length := by have := of_decide_eq_false hc19; omega
    subst h19
    refine bx<|aM<|aM<|bA<|ae<|af<|ai<|s1 ((aa rfl).v (v':= .i .i64 0) rfl) rfl ?_
    refine ah<|ae<|aB ?_
    refine aC (rs:= [.tmp 2]) rfl (aA rfl az) ?_
    exact congrArg (A.i .i64) (by rw [Af h4 h14 (JS hl)];rfl)
end Go.Abs.D2
-- C4C
namespace Go.Abs.D2
open Go Go.Eng Go.Abs Go.Proofs
end Go.Abs.D2
-- C4D
namespace Go.Abs.D2
open Go Go.Eng Go.Abs Go.Proofs
end Go.Abs.D2
namespace Go.Eng
open Go Go.Eng Go.Proofs Go.Abs
theorem Oe (w:World):(zeroValue 4).run Tryz.prog w= .ok (.bool false) w:=by kernel_rfl
theorem C7 {w:World} {b blk clk:Nat} {es:Array MapEntry} (h:w.heap.size≤b):nu [(b,.map es clk)] w blk:=⟨.inr h,trivial⟩
theorem Hz (w:World) (a1 a2:Option Addr) (c1 c2:Nat) (l1 l2:List Int) (h1:RI w a1 l1) (h2:RI w a2 l2) (hn1:l1.length≤maxLen) (hn2:l2.length≤maxLen):Fn Tryz.prog 73 #[.slice a1 l1.length c1,.slice a2 l2.length c2] w (fun v w2=>v= .bool (jR l1 l2)∧RowKit.Below w.heap.size w w2):=by
 simp only [maxLen]at hn1 hn2
 have hlt0:True:=trivial
 refine enter Tryz.func73 rfl Tryz.ntmps73 (by kernel_rfl) rfl ?_
 refine af<|ai<|s1 (aa rfl) rfl ?_
 refine ah<|ae<|af<|ai ?_
 refine aj rfl (xz rfl fun b hbS hbH=>?_)
 have hlb:w.heap.size≤b:=hbS.1
 refine s1 (aa rfl) rfl ?_
 refine ah<|ae<|af<|af<|ai<|s1 (aa rfl) rfl<|s1 (a7 Tryz.underlying30 rfl rfl) rfl<|s1 (aa rfl) rfl ?_
 refine ah<|ae<|aI ?_
 refine bD (ι:=Nat×Array MapEntry×Nat) (fun⟨i,es,clk⟩=> [(1,.slice a2 l2.length c2),(5,.map (some b)),(11,.slice a1 l1.length c1),(12,.int .i64 (l1.length:Nat)),(13,.int .i64 (i:Nat))]) (fun⟨i,es,clk⟩=> [w]) (fun⟨i,es,clk⟩=> [(b,.map es clk)]) (fun⟨i,es,clk⟩=>i≤l1.length∧c7 es clk (pG (l1.take i))) (fun⟨i,es,clk⟩=>l1.length - i) ?_ ?_
 ·exact bC (0, #[],0) ⟨Nat.zero_le _,c7.empty 0⟩ ⟨rfl,rfl,rfl,rfl,rfl,trivial⟩ (fun _ h=>h)
 rintro⟨i,es,clk⟩ ⟨hi,hF⟩
 dsimp only
 refine af<|ai<|s1 (aa rfl) rfl ?_
 refine ah<|ae<|af ?_
 refine aK rfl (fun hc14=>?_) (fun hc14=>?_)
 ·have h14 : i < l1.length := by have := of_decide_eq_true hc14; omega
  obtain⟨q,hq⟩:∃q,l1[i]? =some q:=⟨_,List.getElem?_eq_getElem h14⟩
  have hr:=h1 i q hq
  refine aE<|ae<|af<|aI<|af<|ai<|s1 (E5 i Tryz.underlying30 an rfl rfl rfl (by omega) hr.1) rfl<|s1 (au an rfl (fun w2 hG2=>hG2.cell' (.head _) hr.2 (C7 hlb))) rfl<|s1 (aa rfl) rfl ?_
  refine ah<|ae<|ai<|s1 (aa rfl) rfl<|s1 (aa rfl) rfl ?_
  refine aj rfl (tR 0 Tryz.underlying161 Tryz.underlying3 rfl rfl rfl rfl hF fun es2 clk2 hF2=>?_)
  refine ah<|a8<|ae<|ai<|s1 (aZ i 1 rfl rfl rfl rfl (by omega)) rfl<|s1 (aa rfl) rfl ?_
  refine ah ?_
  exact bf (x:=(i,es,clk)) (i+1,es2,clk2) ⟨(show i+1≤l1.length from by omega),by rw [←MC hq];exact hF2⟩ (show l1.length - (i+1)<l1.length - i from by omega) ⟨rfl,rfl,rfl,rfl,rfl,trivial⟩ (fun _ h=>h)
 ·have h14 : i = l1.length := by have := of_decide_eq_false hc14; omega
  subst h14
  rw [List.take_length]at hF
  refine bx<|aM<|aM<|bA<|ae<|af<|af<|ai<|s1 (aa rfl) rfl<|s1 (a7 Tryz.underlying30 rfl rfl) rfl<|s1 (aa rfl) rfl ?_
  refine ah<|ae<|aI ?_
  refine bD (ι:=Nat) (fun j=> [(5,.map (some b)),(20,.slice a2 l2.length c2),(21,.int .i64 (l2.length:Nat)),(22,.int .i64 (j:Nat))]) (fun j=> [w]) (fun j=> [(b,.map es clk)]) (fun j=>j≤l2.length∧(l2.take j).all (fun n=>!decide (n∈l1))=true) (fun j=>l2.length - j) ?_ ?_
  ·exact bC 0 ⟨Nat.zero_le _,rfl⟩ ⟨rfl,rfl,rfl,rfl,trivial⟩ (fun _ h=>h)
  rintro j ⟨hj,hall⟩
  refine af<|ai<|s1 (aa rfl) rfl ?_
  refine ah<|ae<|af ?_
  refine aK rfl (fun hc23=>?_) (fun hc23=>?_)
  ·have h23 : j < l2.length := by have := of_decide_eq_true hc23; omega
   obtain⟨q,hq⟩:∃q,l2[j]? =some q:=⟨_,List.getElem?_eq_getElem h23⟩
   have hr:=h2 j q hq
   refine aE<|ae<|af<|aI<|af<|ai<|s1 (E5 j Tryz.underlying30 an rfl rfl rfl (by omega) hr.1) rfl<|s1 (au an rfl (fun w2 hG2=>hG2.cell' (.head _) hr.2 (C7 hlb))) rfl<|s1 (aa rfl) rfl ?_
   refine ah<|ae<|af<|ai<|s1 (aa rfl) rfl<|s1 (aa rfl) rfl<|s1 ((nR 0 Tryz.underlying161 Tryz.underlying3 Oe rfl rfl rfl hF).v (MB l1 q)) rfl ?_
   refine ah<|ae ?_
   refine aK rfl (fun hc28=>?_) (fun hc28=>?_)
   ·skip
    refine af<|ai<|s1 (aa rfl) rfl ?_
    refine ah<|ae<|aB<|bI<|aN<|aN<|bI<|aN ?_
    refine aC (rs:= [.tmp 4]) rfl (aA rfl az) fun w1 hG1=>⟨congrArg Value.bool (Hy hq (of_decide_eq_true hc28)).symm,hG1.below (.head _) (by intro p hp;rw [List.mem_singleton.1 hp];exact hlb)⟩
   ·skip
    refine aE<|a8<|ae<|ai<|s1 (aZ j 1 rfl rfl rfl rfl (by omega)) rfl<|s1 (aa rfl) rfl ?_
    refine ah ?_
    exact bf (x:=j) (j+1) ⟨(show j+1≤l2.length from by omega),FD hq hall (by rw [hc28];rfl)⟩ (show l2.length - (j+1)<l2.length - j from by omega) ⟨rfl,rfl,rfl,rfl,trivial⟩ (fun _ h=>h)
  ·have h23 : j = l2.length := by have := of_decide_eq_false hc23; omega
   subst h23
   rw [List.take_length]at hall
   refine bx<|aM<|aM<|bA<|ae<|af<|ai<|s1 (aa rfl) rfl ?_
   refine ah<|ae<|aB ?_
   refine aC (rs:= [.tmp 4]) rfl (aA rfl az) fun w1 hG1=>⟨congrArg Value.bool hall.symm,hG1.below (.head _) (by intro p hp;rw [List.mem_singleton.1 hp];exact hlb)⟩
end Go.Eng
namespace Go.Abs.D2
open Go Go.Eng Go.Abs Go.Proofs
theorem DP {X:Xs} {w:World} {a:Option Addr} {cap:Nat} {l:List Int} (h2:l.length≤cap) (h4:a=none→cap=0) (h5:0<cap→∀x,a=some x→x.spot=none) (h6:VM X w (l.map (A.i .i64)) (ab a) (ao a)):Go.Eng.RI w a l:=fun i v hi=>by
 have hlt:=(List.getElem?_eq_some_iff.1 hi).1
 obtain⟨_,u,e1,e2,_⟩:=mT h6 (j:=i) (c:= .i .i64 v) (by rw [List.getElem?_map,hi];rfl)
 rw [eV]at e2
 subst e2
 refine⟨?_,e1⟩
 cases a with
 |none=>exact absurd (h4 rfl) (by omega)
 |some x=>
  have:=h5 (by omega) x rfl
  obtain⟨b,o,s⟩:=x
  simp only at this
  subst this;rfl
theorem AN (a b:List Int) (hn1:a.length≤maxLen) (hn2:b.length≤maxLen):aw Tryz.prog 73 [.fz a.length (a.map (A.i .i64)),.fz b.length (b.map (A.i .i64))] (aO (.b (Go.Eng.jR a b))):=by
 intro w X β us hd hX hgl ho hi hv
 simp only [VS]at hv
 obtain⟨u1,r1,rfl,v1,u2,r2,rfl,v2,rfl⟩:=hv
 simp only [V]at v1 v2
 obtain⟨a1,c1,rfl,e2,e3,e4,e5,e6⟩:=v1
 obtain⟨a2,c2,rfl,g2,g3,g4,g5,g6⟩:=v2
 refine Eng.Fn.mono (Go.Eng.Hz w a1 a2 c1 c2 a b (DP e2 e4 e5 e6) (DP g2 g4 g5 g6) hn1 hn2) fun v w' ⟨hv,hb⟩=>?_
 subst hv
 refine⟨.b (Go.Eng.jR a b),β,X,⟨[]⟩,rfl,fun _ _ h=>h,fun _ _ h=> .inl h,.of ⟨hb.os,hb.tape,hb.output,hb.size,fun k hk _=>hb.block k hk,fun s hs=>by cases hs⟩ (bE.refl β) (fun q o h=>Nat.lt_of_lt_of_le (hX q o h) hb.size) hd (fun id cs h=>by cases h) (fun i j ci cj q M N _ h _ _ _=>by cases h),by simp only [V]⟩
end Go.Abs.D2
-- C4E
namespace Go.Abs.D2
open Go Go.Eng Go.Abs Go.Proofs
theorem Gv (x:List UInt8) (hx:x.length=32) (f:cL) (q:Int):aw Tryz.prog 77 [.i .i64 q,.fp (x.map u8),.fp (gz f)] (aO (.b (ng x f.lv f.nb f.D q))):=by
 refine enter Tryz.func77 rfl Tryz.ntmps77 (by kernel_rfl) (Nat.le_of_ble_eq_true rfl) fun w0 X0 hI=>?_
 refine af<|ai<|s1 (aa rfl) rfl ?_
 refine ah<|ae<|af<|ai<|s1 (bp ar rfl rfl (List.take_of_length_le (by simp [hx])) (by simp [hx])) rfl<|s1 (bp cD rfl rfl rfl rfl) rfl<|s1 (aa rfl) rfl ?_
 refine aj rfl (aF false rfl (.cons (.pure pu) (.cons (.pure pu) (.cons (.pure pu) (.nil)))) (aw.cast (Ii x f.lv f.nb q f.D hx) (I4 ..)) pu (.inl rfl) rfl ?_)
 refine s1 (aa rfl) rfl<|s1 (aa rfl) rfl<|s1 (aa rfl) rfl<|s1 (aa rfl) rfl<|s1 (aa rfl) rfl ?_
 refine ah<|ae<|af<|ai<|s1 (aa rfl) rfl<|s1 (aa rfl) rfl ?_
 refine ah<|ae<|aB ?_
 refine aC (rs:= [.tmp 4]) rfl (aA rfl az) ?_
 rfl
theorem Gx (x:List UInt8) (hx:x.length=32) (f:cL) (l:List Int) (hn:l.length≤100):aw Tryz.prog 76 [.fz l.length (l.map (A.i .i64)),.fn (.func 77) [] [.fp (x.map u8),.fp (gz f)]] (aO (jV (iJ x f l))):=by
 refine enter Tryz.func76 rfl Tryz.ntmps76 (by kernel_rfl) (Nat.le_of_ble_eq_true rfl) fun w0 X0 hI=>?_
 refine af<|ai<|s1 (aa rfl) rfl ?_
 refine ah<|ae<|af<|af<|ai<|s1 (aa rfl) rfl<|s1 (a7 Tryz.underlying30 rfl rfl rfl) rfl<|s1 ((aa rfl).v (v':= .i .i64 0) rfl) rfl ?_
 refine ah<|ae<|aI ?_
 refine bD (ι:=Nat) (fun i=> [(1,.fn (.func 77) [] [.fp (x.map u8),.fp (gz f)]),(4,.sl 119 1 0 (iJ x f (l.take i)).length),(7,.fz l.length (l.map (A.i .i64))),(8,nJ l.length),(9,nJ i)]) (fun i=>⟨[(119,some ((iJ x f (l.take i)).map iA))]⟩) (fun i=>i≤l.length) (fun i=>l.length - i) ?_ ?_
 ·exact bC (0) (Nat.zero_le _) [(119,none)] hI rfl rfl ⟨⟨_,rfl,.pure pu⟩,⟨_,rfl,.nl rfl⟩,⟨_,rfl,.pure pu⟩,⟨_,rfl,.pure pu⟩,⟨_,rfl,.pure pu⟩,trivial⟩ ⟨.inl ⟨rfl,rfl⟩,trivial⟩
 rintro i hi
 have hwl:=JR x f (l.take i)
 rw [List.length_take]at hwl
 refine af<|ai<|s1 (aa rfl) rfl ?_
 refine ah<|ae<|af ?_
 refine aK rfl (fun hc10=>?_) (fun hc10=>?_)
 ·have h10 : i < l.length := by have := of_decide_eq_true hc10; omega
  obtain⟨q,hq⟩:∃q,l[i]? =some q:=⟨_,List.getElem?_eq_getElem h10⟩
  refine aE<|ae<|af<|aI<|af<|ai<|s1 (bb i Tryz.underlying30 an rfl rfl rfl (by omega) rfl) rfl<|s1 (au an rfl rfl (oM hq)) rfl<|s1 (aa rfl) rfl ?_
  refine ah<|ae<|af<|ai<|s1 (aa rfl) rfl<|s1 (aa rfl) rfl ?_
  refine aj rfl (nq false rfl rfl (.cons (.pure pu) (.cons (.pure pu) (.cons (.pure pu) .nil))) (Gv x hx f q) pu (.inl rfl) rfl ?_)
  refine ah<|ae ?_
  refine aK rfl (fun hc15=>?_) (fun hc15=>?_)
  ·have hwn := NW hq hc15
   refine ai<|s1 (aa rfl) rfl<|s1 (aa rfl) rfl ?_
   refine aj rfl (ey 18 rfl Tryz.underlying30 an rfl rfl rfl rfl rfl ?_)
   refine aj rfl (dB 19 rfl Tryz.underlying30 an rfl (.sl rfl (by simp)) rfl (c8 rfl (by first|rfl|omega|(simp<;>omega)|(simp [*]<;>omega))) (by simp) (by simp only [maxLen];omega) (by omega) rfl (EZ hq hc15) rfl ?_)
   refine s1 (aa rfl) rfl ?_
   refine ah<|a8<|ae<|ai<|s1 (aZ _ 1 rfl rfl rfl rfl (by omega)) rfl<|s1 (aa rfl) rfl ?_
   refine ah ?_
   exact bf (i+1) (by omega) (by omega) [(119,some 19)] hI rfl rfl ⟨⟨_,rfl,.pure pu⟩,⟨_,rfl,.sl rfl (by first|rfl|omega|(simp<;>omega)|(simp [*]<;>omega))⟩,⟨_,rfl,.pure pu⟩,⟨_,rfl,.pure pu⟩,⟨_,rfl,.pure pu⟩,trivial⟩ ⟨.inr ⟨_,_,rfl,rfl,.pure ak⟩,trivial⟩
  ·have hfm := NX hq hc15
   have hwn:(iJ x f (l.take i)).length=(iJ x f (l.take (i+1))).length:=by rw [hfm]
   refine aE<|a8<|ae<|ai<|s1 (aZ _ 1 rfl rfl rfl rfl (by omega)) rfl<|s1 (aa rfl) rfl ?_
   refine ah ?_
   exact bf (i+1) (by omega) (by omega) [(119,some 119)] hI rfl rfl ⟨⟨_,rfl,.pure pu⟩,⟨_,rfl,.sl rfl (by first|rfl|omega|(simp<;>omega)|(simp [*]<;>omega))⟩,⟨_,rfl,.pure pu⟩,⟨_,rfl,.pure pu⟩,⟨_,rfl,.pure pu⟩,trivial⟩ ⟨.inr ⟨_,_,rfl,rfl,.of (by rw [hfm]) (.pure ak)⟩,trivial⟩
 ·obtain rfl : i = l.length := by have := of_decide_eq_false hc10; omega
  refine bx<|aM<|aM<|bA<|ae<|af ?_
  refine fQ 4 rfl rfl ak (cm (by simp) rfl) ?_
  refine kz 4 rfl (v':=jV (iJ x f l)) (by rw [List.take_length]) ?_
  refine ai<|s1 (aa rfl) rfl<|s1 (aa rfl) rfl ?_
  refine ah<|ae<|aB ?_
  refine aC (rs:= [.tmp 4]) rfl (aA rfl az) ?_
  rfl
theorem zS (x:List UInt8) (hx:x.length=32) (p q:List Int) (hp:p.length≤100) (hq100:q.length≤100):aw Tryz.prog 29 [.ag (x.map u8),.fz p.length (p.map (A.i .i64)),.fz q.length (q.map (A.i .i64))] (aO (buildA x p q)):=by
 refine enter Tryz.func29 rfl Tryz.ntmps29 (by kernel_rfl) (Nat.le_of_ble_eq_true rfl) fun w0 X0 hI=>?_
 refine af<|ai ?_
 refine aj rfl (bF 3 rfl rfl rfl ?_)
 refine aj rfl (bg 6 rfl dZ rfl rfl ?_)
 refine s1 ((aa rfl).v (v':= .i .i64 0) rfl) rfl ?_
 refine ah<|ae<|af<|af ?_
 rcases KG p q with hcs|hcs|hcs|hcs
 ·obtain ⟨h1, hb⟩ := hcs
  refine fe 3 rfl rfl ak ?_
  refine ai<|s1 (aa rfl) rfl ?_
  refine aj rfl (aF false rfl (.cons (.pure pu) (.nil)) (aw.cast (mq p (by simp only [maxLen];omega)) (congrArg A.b h1)) pu (.inl rfl) rfl ?_)
  refine s1 ((aa rfl).v (v':= .b true) (rfl)) rfl<|s1 (aa rfl) rfl<|g0 rfl rfl rfl rfl<|g0 rfl rfl rfl rfl<|g0 rfl rfl rfl rfl<|s1 (aa rfl) rfl<|s1 (aa rfl) rfl<|g0 rfl rfl rfl rfl<|g0 rfl rfl rfl rfl<|g0 rfl rfl rfl rfl ?_
  refine g0 rfl rfl rfl rfl<|s1 (aa rfl) rfl ?_
  refine ah<|ae ?_
  refine cN rfl ?_
  refine af<|ai<|s1 (aG dZ rfl rfl rfl) rfl ?_
  refine aj rfl (ba dZ rfl rfl rfl (by first|rfl|omega|(simp<;>omega)|(simp [*]<;>omega)) (by first|rfl|omega|(simp<;>omega)|(simp [*]<;>omega)) ?_)
  refine s1 ((aa rfl).v (v':= .i .i64 340) rfl) rfl ?_
  refine ah<|ae<|aB<|aN ?_
  refine cI 6 (cs':=jM.map u8++ [.nl,.nl]) rfl rfl ?_
  refine iM 6 rfl yI ?_
  refine aC (rs:= [.cell 6 60,.tmp 7]) rfl (cw dZ rfl rfl rfl rfl (aA rfl az)) ?_
  show A.tu _=_;rw [vK hb];rfl
 ·obtain ⟨h1, h2, hb⟩ := hcs
  refine fe 3 rfl rfl ak ?_
  refine ai<|s1 (aa rfl) rfl ?_
  refine aj rfl (aF false rfl (.cons (.pure pu) (.nil)) (aw.cast (mq p (by simp only [maxLen];omega)) (congrArg A.b h1)) pu (.inl rfl) rfl ?_)
  refine s1 ((aa rfl).v (v':= .b false) (rfl)) rfl<|s1 (aa rfl) rfl<|g1 rfl rfl (aa rfl) rfl ?_
  refine ee rfl rfl rfl (aF false rfl (.cons (.pure pu) (.nil)) (aw.cast (mq q (by simp only [maxLen];omega)) (congrArg A.b h2)) pu (.inl rfl) rfl ?_)
  refine g1 rfl rfl ((aa rfl).v (v':= .b true) (rfl)) rfl<|s1 (aa rfl) rfl<|s1 (aa rfl) rfl<|g0 rfl rfl rfl rfl<|g0 rfl rfl rfl rfl<|g0 rfl rfl rfl rfl<|g0 rfl rfl rfl rfl<|s1 (aa rfl) rfl ?_
  refine ah<|ae ?_
  refine cN rfl ?_
  refine af<|ai<|s1 (aG dZ rfl rfl rfl) rfl ?_
  refine aj rfl (ba dZ rfl rfl rfl (by first|rfl|omega|(simp<;>omega)|(simp [*]<;>omega)) (by first|rfl|omega|(simp<;>omega)|(simp [*]<;>omega)) ?_)
  refine s1 ((aa rfl).v (v':= .i .i64 340) rfl) rfl ?_
  refine ah<|ae<|aB<|aN ?_
  refine cI 6 (cs':=jM.map u8++ [.nl,.nl]) rfl rfl ?_
  refine iM 6 rfl yI ?_
  refine aC (rs:= [.cell 6 60,.tmp 7]) rfl (cw dZ rfl rfl rfl rfl (aA rfl az)) ?_
  show A.tu _=_;rw [vK hb];rfl
 ·obtain ⟨h1, h2, h3, hb⟩ := hcs
  refine fe 3 rfl rfl ak ?_
  refine ai<|s1 (aa rfl) rfl ?_
  refine aj rfl (aF false rfl (.cons (.pure pu) (.nil)) (aw.cast (mq p (by simp only [maxLen];omega)) (congrArg A.b h1)) pu (.inl rfl) rfl ?_)
  refine s1 ((aa rfl).v (v':= .b false) (rfl)) rfl<|s1 (aa rfl) rfl<|g1 rfl rfl (aa rfl) rfl ?_
  refine ee rfl rfl rfl (aF false rfl (.cons (.pure pu) (.nil)) (aw.cast (mq q (by simp only [maxLen];omega)) (congrArg A.b h2)) pu (.inl rfl) rfl ?_)
  refine g1 rfl rfl ((aa rfl).v (v':= .b false) (rfl)) rfl<|s1 (aa rfl) rfl<|s1 (aa rfl) rfl<|g1 rfl rfl (aa rfl) rfl<|g1 rfl rfl (aa rfl) rfl ?_
  refine ee rfl rfl rfl (aF false rfl (.cons (.pure pu) (.cons (.pure pu) (.nil))) (aw.cast (AN p q (by simp only [maxLen];omega) (by simp only [maxLen];omega)) (congrArg A.b h3)) pu (.inl rfl) rfl ?_)
  refine g1 rfl rfl ((aa rfl).v (v':= .b true) (rfl)) rfl<|s1 (aa rfl) rfl ?_
  refine ah<|ae ?_
  refine cN rfl ?_
  refine af<|ai<|s1 (aG dZ rfl rfl rfl) rfl ?_
  refine aj rfl (ba dZ rfl rfl rfl (by first|rfl|omega|(simp<;>omega)|(simp [*]<;>omega)) (by first|rfl|omega|(simp<;>omega)|(simp [*]<;>omega)) ?_)
  refine s1 ((aa rfl).v (v':= .i .i64 340) rfl) rfl ?_
  refine ah<|ae<|aB<|aN ?_
  refine cI 6 (cs':=jM.map u8++ [.nl,.nl]) rfl rfl ?_
  refine iM 6 rfl yI ?_
  refine aC (rs:= [.cell 6 60,.tmp 7]) rfl (cw dZ rfl rfl rfl rfl (aA rfl az)) ?_
  show A.tu _=_;rw [vK hb];rfl
 ·obtain ⟨h1, h2, h3, hb⟩ := hcs
  refine fe 3 rfl rfl ak ?_
  refine ai<|s1 (aa rfl) rfl ?_
  refine aj rfl (aF false rfl (.cons (.pure pu) (.nil)) (aw.cast (mq p (by simp only [maxLen];omega)) (congrArg A.b h1)) pu (.inl rfl) rfl ?_)
  refine s1 ((aa rfl).v (v':= .b false) (rfl)) rfl<|s1 (aa rfl) rfl<|g1 rfl rfl (aa rfl) rfl ?_
  refine ee rfl rfl rfl (aF false rfl (.cons (.pure pu) (.nil)) (aw.cast (mq q (by simp only [maxLen];omega)) (congrArg A.b h2)) pu (.inl rfl) rfl ?_)
  refine g1 rfl rfl ((aa rfl).v (v':= .b false) (rfl)) rfl<|s1 (aa rfl) rfl<|s1 (aa rfl) rfl<|g1 rfl rfl (aa rfl) rfl<|g1 rfl rfl (aa rfl) rfl ?_
  refine ee rfl rfl rfl (aF false rfl (.cons (.pure pu) (.cons (.pure pu) (.nil))) (aw.cast (AN p q (by simp only [maxLen];omega) (by simp only [maxLen];omega)) (congrArg A.b h3)) pu (.inl rfl) rfl ?_)
  refine g1 rfl rfl ((aa rfl).v (v':= .b false) (rfl)) rfl<|s1 (aa rfl) rfl ?_
  refine ah<|ae ?_
  refine bO rfl ?_
  refine aE<|ae<|af ?_
  refine cI 6 (cs':=jM.map u8++ [.nl,.nl]) rfl rfl ?_
  refine ai<|s1 (bp ar rfl rfl (List.take_of_length_le (by simp [hx])) (by simp [hx])) rfl<|s1 (aD Tryz.underlying60 rfl ar (by decide) rfl rfl) rfl ?_
  refine kz 30 rfl (v':= .p 6 0) rfl ?_
  refine aj rfl (iD ar rfl rfl rfl rfl rfl (by rw [show aU (A.ag (x.map u8))=x.map u8 from rfl,List.length_map,hx]) (Nat.le_of_ble_eq_true rfl) M7 ?_)
  refine ah<|ae<|af<|ai<|s1 (aa rfl) rfl<|s1 (aa rfl) rfl<|s1 (aa rfl) rfl<|s1 (aa rfl) rfl ?_
  refine ah<|ae<|af<|aI ?_
  refine bD (ι:=Nat) (fun n=> [(3,.fp (x.map u8)),(6,.p 6 0),(8,jV (bS x p q n).2.1),(9,jV (bS x p q n).2.2)]) (fun n=>⟨[(6,some (x.map u8++ [.sl 180 3 0 n,.nl])),(180,some ((bS x p q n).1.flatMap gz))]⟩) (fun n=>n≤16∧∀t,t<n→jU x p q t=true) (fun n=>16 - n) ?_ ?_
  ·exact bC (0) (⟨by omega,fun t ht=>absurd ht (by omega)⟩) [(6,some 6),(180,none)] hI rfl rfl ⟨⟨_,rfl,.pure pu⟩,⟨_,rfl,.p rfl⟩,⟨_,rfl,.pure pu⟩,⟨_,rfl,.pure pu⟩,trivial⟩ ⟨.inr ⟨_,_,rfl,rfl,.app (.pure ak) (.cons (.nl rfl) (.cons (.pure pu) .nil))⟩,.inl ⟨rfl,rfl⟩,trivial⟩
  rintro n ⟨hn,hgo⟩
  obtain⟨hal,hbl⟩:=sr (x:=x) hp hq100 n
  have hfl:((bS x p q n).1.flatMap gz).length=n*3:=by rw [wR,jq]
  have hnb:=qR (bS x p q n).2.1
  have hnum:=(F8 (x:=x) hb n).1
  refine af<|af<|ai<|s1 (aa rfl) rfl<|s1 (a7 Tryz.underlying30 rfl rfl rfl) rfl<|s1 (aa rfl) rfl<|s1 (aa rfl) rfl ?_
  refine gw 36 rfl (fun hc36=>?_) (fun hc36=>?_)
  ·have h36 : 0 < (bS x p q n).2.1.length := by have := of_decide_eq_true hc36; omega
   refine g1 rfl rfl (aD Tryz.underlying60 rfl iH (by decide) rfl rfl) rfl<|g1 rfl rfl (au iH rfl rfl (congrArg (fun l=>l[0]?) (uI hx _))) rfl<|g1 rfl rfl (a7 Tryz.underlying58 rfl rfl rfl) rfl<|g1 rfl rfl (aa rfl) rfl<|s1 (aa rfl) rfl ?_
   refine ah<|ae ?_
   refine aK rfl (fun hc41=>?_) (fun hc41=>?_)
   ·have h41 : n < 16 := by have := of_decide_eq_true hc41; omega
    refine aE<|ae<|aI<|af<|ai<|s1 (aD Tryz.underlying60 rfl iH (by decide) rfl rfl) rfl<|s1 (au iH rfl rfl (congrArg (fun l=>l[0]?) (uI hx _))) rfl<|s1 (a7 Tryz.underlying58 rfl rfl rfl) rfl<|s1 (aa rfl) rfl<|s1 (a7 Tryz.underlying30 rfl rfl rfl) rfl<|s1 (jY 4 _ rfl rfl rfl rfl (by omega)) rfl<|s1 (uV (a:=4*(bS x p q n).2.1.length) (b:=8) rfl rfl rfl) rfl<|s1 (E8 (a:=max (4*(bS x p q n).2.1.length) 8) (b:=4096) (c:=dX (bS x p q n).2.1) rfl rfl rfl) rfl ?_
    refine aj rfl (aF false rfl (.cons (.pure pu) (.cons (.pure pu) (.nil))) (aw.cast (Iu n (dX (bS x p q n).2.1)) (CN (tS h41 hnb.1 hnb.2))) pu (.inl rfl) rfl ?_)
    refine s1 (aa rfl) rfl<|s1 (aa rfl) rfl<|s1 (aa rfl) rfl ?_
    refine aj rfl (bg 10 rfl cD rfl rfl ?_)
    refine aj rfl (ba cD rfl rfl rfl (by first|rfl|omega|(simp<;>omega)|(simp [*]<;>omega)) (by first|rfl|omega|(simp<;>omega)|(simp [*]<;>omega)) ?_)
    refine s1 (aa rfl) rfl ?_
    refine ah<|ae<|af<|af<|ai<|s1 (aa rfl) rfl<|s1 ((aa rfl).v (v':= .b false) (rfl)) rfl ?_
    refine ah<|ae ?_
    refine bO rfl ?_
    refine aE<|ae<|af<|af<|ai<|s1 (aa rfl) rfl<|s1 (a7 Tryz.underlying30 rfl rfl rfl) rfl<|s1 ((aa rfl).v (v':= .i .i64 0) rfl) rfl ?_
    refine ah<|ae<|aI ?_
    refine bD (ι:=Nat) (fun k=> [(3,.fp (x.map u8)),(6,.p 6 0),(8,jV (bS x p q n).2.1),(9,jV (bS x p q n).2.2),(10,.p 10 0),(58,jV (bS x p q n).2.1),(59,nJ (bS x p q n).2.1.length),(60,nJ k)]) (fun k=>⟨[(6,some (x.map u8++ [.sl 180 3 0 n,.nl])),(180,some ((bS x p q n).1.flatMap gz)),(10,some ([nJ n,nJ (dX (bS x p q n).2.1),dt (jd x (n:Nat) (dX (bS x p q n).2.1:Nat) (nU (dX (bS x p q n).2.1)) ((bS x p q n).2.1.take k))]))]⟩) (fun k=>k≤(bS x p q n).2.1.length) (fun k=>(bS x p q n).2.1.length - k) ?_ ?_
    ·exact bC (0) (Nat.zero_le _) [(6,some 6),(10,some 10),(180,some 180)] hI rfl rfl ⟨⟨_,rfl,.pure pu⟩,⟨_,rfl,.p rfl⟩,⟨_,rfl,.pure pu⟩,⟨_,rfl,.pure pu⟩,⟨_,rfl,.p rfl⟩,⟨_,rfl,.pure pu⟩,⟨_,rfl,.pure pu⟩,⟨_,rfl,.pure pu⟩,trivial⟩ ⟨.inr ⟨_,_,rfl,rfl,.app (.pure ak) (.cons (.sl rfl rfl) (.cons (.pure pu) .nil))⟩,.inr ⟨_,_,rfl,rfl,.pure ak⟩,.inr ⟨_,_,rfl,rfl,.of (by rfl) (.pure ak)⟩,trivial⟩
    rintro k hk
    refine af<|ai<|s1 (aa rfl) rfl ?_
    refine ah<|ae<|af ?_
    refine aK rfl (fun hc61=>?_) (fun hc61=>?_)
    ·have h61 : k < (bS x p q n).2.1.length := by have := of_decide_eq_true hc61; omega
     obtain⟨v,hv⟩:∃v,(bS x p q n).2.1[k]? =some v:=⟨_,List.getElem?_eq_getElem h61⟩
     have hv0:=hnum v (List.mem_of_getElem? hv)
     refine aE<|ae<|af<|aI<|af<|ai<|s1 (bb k Tryz.underlying30 an rfl rfl rfl (by omega) rfl) rfl<|s1 (au an rfl rfl (oM hv)) rfl<|s1 (aa rfl) rfl ?_
     refine ah<|ae<|af<|ai<|s1 (bp ar rfl rfl (List.take_of_length_le (by simp [hx])) (by simp [hx])) rfl<|s1 (aG cD rfl rfl rfl) rfl<|s1 (aa rfl) rfl ?_
     refine aj rfl (aF false rfl (.cons (.pure pu) (.cons (.pure pu) (.cons (.pure pu) (.nil)))) (aw.cast (H9 x (n:Nat) (dX (bS x p q n).2.1:Nat) v (jd x (n:Nat) (dX (bS x p q n).2.1:Nat) (nU (dX (bS x p q n).2.1)) ((bS x p q n).2.1.take k)) hx) (Fv h41 hv hv0)) pu (.inl rfl) rfl ?_)
     refine s1 (aa rfl) rfl<|s1 (aa rfl) rfl<|s1 (aa rfl) rfl ?_
     refine aj rfl (ba cD rfl rfl rfl (by first|rfl|omega|(simp<;>omega)|(simp [*]<;>omega)) (by first|rfl|omega|(simp<;>omega)|(simp [*]<;>omega)) ?_)
     refine s1 (aa rfl) rfl ?_
     refine ah<|ae<|af<|ai<|s1 (aa rfl) rfl<|s1 ((aa rfl).v (v':= .b false) (rfl)) rfl ?_
     refine ah<|ae ?_
     refine bO rfl ?_
     refine aE<|a8<|ae<|ai<|s1 (aZ _ 1 rfl rfl rfl rfl (by omega)) rfl<|s1 (aa rfl) rfl ?_
     refine ah ?_
     exact bf (k+1) (by omega) (by omega) [(6,some 6),(10,some 10),(180,some 180)] hI rfl rfl ⟨⟨_,rfl,.pure pu⟩,⟨_,rfl,.p rfl⟩,⟨_,rfl,.pure pu⟩,⟨_,rfl,.pure pu⟩,⟨_,rfl,.p rfl⟩,⟨_,rfl,.pure pu⟩,⟨_,rfl,.pure pu⟩,⟨_,rfl,.pure pu⟩,trivial⟩ ⟨.inr ⟨_,_,rfl,rfl,.app (.pure ak) (.cons (.sl rfl rfl) (.cons (.pure pu) .nil))⟩,.inr ⟨_,_,rfl,rfl,.pure ak⟩,.inr ⟨_,_,rfl,rfl,.pure ak⟩,trivial⟩
    ·have h61 : k = (bS x p q n).2.1.length := by have := of_decide_eq_false hc61; omega
     subst h61
     refine bx<|aM<|aM<|bA<|ae<|af ?_
     refine cI 10 (cs':=gz (l9 x n (bS x p q n).2.1)) rfl (by rw [List.take_length];rfl) ?_
     refine ai<|s1 (aD Tryz.underlying60 rfl iH (by decide) rfl rfl) rfl<|s1 (au iH rfl rfl (congrArg (fun l=>l[0]?) (uI hx _))) rfl<|s1 (aG cD rfl rfl rfl) rfl ?_
     refine aj rfl (gC 79 rfl Tryz.underlying58 cD rfl rfl rfl (by first|(simp [aU];done)|(simp [aU, *];done)) rfl rfl rfl rfl ?_)
     refine aj rfl (dB 80 rfl Tryz.underlying58 cD rfl (.sl rfl (by rw [hfl])) rfl (c8 rfl (by first|rfl|omega|(simp<;>omega)|(simp [*]<;>omega))) rfl (by simp only [maxLen];omega) (by omega) rfl (F7 x p q n) rfl ?_)
     refine s1 (aD Tryz.underlying60 rfl iH (by decide) rfl rfl) rfl ?_
     refine aj rfl (bX iH rfl rfl rfl rfl (by simp [hx]) (yz hx _ _ _) ?_)
     refine ah<|ae ?_
     refine fe 10 rfl rfl ak ?_
     refine ai<|s1 (aa rfl) rfl<|s1 (gu (us:= []) (vs:= [.fp (x.map u8),.fp (gz (l9 x n (bS x p q n).2.1))]) rfl rfl) rfl ?_
     refine aj rfl (aF false rfl (.cons (.pure pu) (.cons (.pure pu) .nil)) (Gx x hx (l9 x n (bS x p q n).2.1) (bS x p q n).2.2 hbl) pu (.inl rfl) rfl ?_)
     refine s1 (aa rfl) rfl<|s1 (aa rfl) rfl<|s1 (aa rfl) rfl ?_
     refine ah<|a8 ?_
     exact bf (n+1) (⟨by omega,vr hgo (IZ h36)⟩) (by omega) [(6,some 6),(180,some 80)] hI rfl rfl ⟨⟨_,rfl,.pure pu⟩,⟨_,rfl,.p rfl⟩,⟨_,rfl,.pure pu⟩,⟨_,rfl,.pure pu⟩,trivial⟩ ⟨.inr ⟨_,_,rfl,rfl,.app (.pure ak) (.cons (.sl rfl (by first|rfl|omega|(simp<;>omega)|(simp [*]<;>omega))) (.cons (.pure pu) .nil))⟩,.inr ⟨_,_,rfl,rfl,.pure ak⟩,trivial⟩
   ·have h41 : n = 16 := by have := of_decide_eq_false hc41; omega
    subst h41
    have hend:=A4 hgo
    refine bx<|aM<|aM<|bA<|ae<|af<|ai<|s1 (aD Tryz.underlying60 rfl ie (by decide) rfl rfl) rfl<|s1 (au ie rfl rfl (congrArg (fun l=>l[0]?) (ED hx _ _))) rfl<|s1 (aa rfl) rfl ?_
    refine aj rfl (dB 89 rfl Tryz.underlying30 an rfl .nl rfl rfl (by simp) (by simp only [maxLen];omega) (by omega) rfl rfl rfl ?_)
    refine s1 (aD Tryz.underlying60 rfl ie (by decide) rfl rfl) rfl ?_
    refine aj rfl (bX ie rfl rfl rfl rfl (by simp [hx]) (uJ hx _ _ _) ?_)
    refine ah<|ae<|af ?_
    refine jP 6 32 rfl (by rw [List.getElem?_append_right (by simp [hx]),List.length_map,hx];rfl) rfl rfl ak (cm (by rw [wR,jq]) rfl) (yz hx _ _ _) ?_
    refine jP 6 33 rfl (by rw [List.getElem?_append_right (by simp [hx]),List.length_map,hx];rfl) rfl rfl ak (cm (by simp) rfl) (uJ hx _ _ _) ?_
    refine cI 6 (cs':=eH (fy x p q)) rfl (by rw [Nat.zero_add,List.nil_append];exact zR hend) ?_
    refine ai<|s1 (aG dZ rfl rfl (gf (c:=fy x p q) hx)) rfl ?_
    refine aj rfl (ba dZ rfl rfl rfl (gf (c:=fy x p q) hx) (gf (c:=fy x p q) hx) ?_)
    refine s1 ((aa rfl).v (v':= .i .i64 0) rfl) rfl ?_
    refine ah<|ae<|aB ?_
    refine aC (rs:= [.cell 6 60,.tmp 7]) rfl (cw dZ rfl rfl (zQ (c:=fy x p q) hx) (gf (c:=fy x p q) hx) (aA rfl az)) ?_
    show A.tu _=_;rw [sy hb]
  ·have h36 : ¬ 0 < (bS x p q n).2.1.length := by have := of_decide_eq_false hc36; omega
   have hend:=HO hn hgo h36
   refine g0 rfl rfl rfl rfl<|g0 rfl rfl rfl rfl<|g0 rfl rfl rfl rfl<|g0 rfl rfl rfl rfl<|s1 (aa rfl) rfl ?_
   refine ah<|ae ?_
   refine bO rfl ?_
   refine bx<|aM<|aM<|bA<|ae<|af<|ai<|s1 (aD Tryz.underlying60 rfl ie (by decide) rfl rfl) rfl<|s1 (au ie rfl rfl (congrArg (fun l=>l[0]?) (ED hx _ _))) rfl<|s1 (aa rfl) rfl ?_
   refine aj rfl (dB 89 rfl Tryz.underlying30 an rfl .nl rfl rfl (by simp) (by simp only [maxLen];omega) (by omega) rfl rfl rfl ?_)
   refine s1 (aD Tryz.underlying60 rfl ie (by decide) rfl rfl) rfl ?_
   refine aj rfl (bX ie rfl rfl rfl rfl (by simp [hx]) (uJ hx _ _ _) ?_)
   refine ah<|ae<|af ?_
   refine jP 6 32 rfl (by rw [List.getElem?_append_right (by simp [hx]),List.length_map,hx];rfl) rfl rfl ak (cm (by rw [wR,jq]) rfl) (yz hx _ _ _) ?_
   refine jP 6 33 rfl (by rw [List.getElem?_append_right (by simp [hx]),List.length_map,hx];rfl) rfl rfl ak (cm (by simp) rfl) (uJ hx _ _ _) ?_
   refine cI 6 (cs':=eH (fy x p q)) rfl (by rw [Nat.zero_add,List.nil_append];exact zR hend) ?_
   refine ai<|s1 (aG dZ rfl rfl (gf (c:=fy x p q) hx)) rfl ?_
   refine aj rfl (ba dZ rfl rfl rfl (gf (c:=fy x p q) hx) (gf (c:=fy x p q) hx) ?_)
   refine s1 ((aa rfl).v (v':= .i .i64 0) rfl) rfl ?_
   refine ah<|ae<|aB ?_
   refine aC (rs:= [.cell 6 60,.tmp 7]) rfl (cw dZ rfl rfl (zQ (c:=fy x p q) hx) (gf (c:=fy x p q) hx) (aA rfl az)) ?_
   show A.tu _=_;rw [sy hb]
end Go.Abs.D2
-- C4F
namespace Go.Abs.D2
open Go Go.Eng Go.Abs Go.Proofs
end Go.Abs.D2
