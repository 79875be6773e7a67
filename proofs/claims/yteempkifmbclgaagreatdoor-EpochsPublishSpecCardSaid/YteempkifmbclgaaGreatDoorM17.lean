/-
  The engine, the plain laws and the walks that the rows need, part 17. Conditions: none.
-/
import Derived.Test.YteempkifmbclgaaGreatDoorM16
import Derived.Lib.BufferWrite
set_option linter.unusedVariables false
set_option linter.unusedSimpArgs false
set_option maxHeartbeats 1000000
set_option maxRecDepth 10000
-- AbsX
namespace Go.Abs
open Go Go.Eng
theorem BD:∀ {l:List A} {i:Nat} {c:A},dF l→l[i]? =some c→Pure c
  | [],_,_,_,h=>by simp at h
  |_::_,0,_,hp,h=>by simp at h;subst h;exact hp.1
  |_::l,i+1,_,hp,h=>BD (l:=l) (i:=i) hp.2 aO
section
variable {P:Program} {w0:Bw} {X0:Xs} {n:Nat} {E:Ev} {st:St} {K:Act→World→Prop} {Q:Exit→Act→World→Prop}
theorem mQ {d:Nat} {t e:TypeId} {size by' zero agg} {len:Nat} {parts:List (Nat×Operand)} {vs cs:List A} {ty:TypeId} {pos b6 g} (ht:P.underlying t=some (.slice e)) (he:TI P e size by' zero agg)
    (hp:iM E parts 0=some vs) (hlen:len=vs.length) (hce:vs.all lz=true) (hcl:∀v∈vs,(cw v).length=size) (hfl:jD vs=cs) (hpu:dF cs) (hs:Nat.ble (len*size) 16777216=true) (hs2:Nat.ble len 16777216=true) (hd:Nat.ble (d+1) n=true)
    (h:At w0 X0 n ((d,.fz len cs)::E) st K):
    At w0 X0 n E st (fun a w=>(⟨some d,.buildSlice t len parts.toArray,ty,pos,b6,g⟩:Oper).wp P a w K Q):=by
  rintro a w ⟨β,X,hr⟩
  subst hfl
  obtain⟨us,g1,g2,g3,g4,g5⟩:=AI hr hp (fun v hv=>⟨tP v (List.all_eq_true.1 hce v hv),hcl v hv⟩)
  refine Eng.gC (S:= [w]) (H:= []) (E:=full a) (n:=a.tmps.size) us ht he g1 rfl aq g3 hs aT (fun b hS hH a1 w1 hR hG=>?_) a w (gq a hr.defers) (Eng.Good.start w)
  have hb:w.heap.size≤b:=hS.1
  have hbel:=tO hG (by simp [hb])
  have hw:=hG.own _ (.head _)
  simp only at hw
  have hbl:b<w1.heap.size:=(Array.getElem?_eq_some_iff.1 hw).1
  obtain⟨m1,m2,m3⟩:=hr.mem.Ha (b:=b) (jD vs).length hbel hb hbl
  have hm2:=Nat.le_of_ble_eq_true hs2
  have hll:=fb g4
  refine h a1 w1 ⟨β,_,hr.next hR m2 m3 (dE.refl β) m1 ?_⟩
  simp only [V]
  refine⟨_,_,rfl,Nat.le_refl _,by simp only [maxLen];omega,(fun h=>by cases h),(fun _ x hx=>by cases hx;rfl),mG fun j c hj=>?_⟩
  have hjl:=(List.getElem?_eq_some_iff.1 hj).1
  obtain⟨u,q1,q2⟩:=iO g4 hj
  refine⟨.inr ⟨rfl,by simpa [ao]using hjl⟩,u,?_,gj m2 _ _ _ _ (dE.refl _) (mH _ _ (BD hpu hj) q2),g5 u (List.mem_of_getElem? q1)⟩
  simp only [ab,ao,Nat.zero_add,World.cell?,hw]
  simp [q1]
variable {r:Option Nat} {ds0:List Deferred} {N g:Nat} {E0:EV} {st0:St} {ops:Array Oper} {nn:Nat} {plan:List dM} {rest:List Oper} {d:Nat} {ty:TypeId} {pos:String} {aft':Array Edge} {gd:Option (Nat×Bool)}
theorem oH {t e:TypeId} {size by' zero agg} {len:Nat} {parts:List (Nat×Operand)} {vs cs:List A} (k0:Nat) (deps:List Nat) (hg:iV ops (ek (E0.at k0) deps k0 E) gd) (ht:P.underlying t=some (.slice e)) (he:TI P e size by' zero agg)
    (hp:iM (ek (E0.at k0) deps k0 E) parts 0=some vs) (hlen:len=vs.length) (hce:vs.all lz=true) (hcl:∀v∈vs,(cw v).length=size) (hfl:jD vs=cs) (hpu:dF cs) (hs:Nat.ble (len*size) 16777216=true) (hs2:Nat.ble len 16777216=true) (hb:Nat.ble (d+1) N=true) (hd:g8 k0 deps []=true)
    (h:FS r ds0 P w0 X0 N Q ops nn g E0 st0 (plan++ [⟨d,.fz len cs,deps, [], [], [], []⟩]) (k0+1) ((d,.fz len cs)::E) st rest):FS r ds0 P w0 X0 N Q ops nn g E0 st0 plan k0 E st (⟨some d,.buildSlice t len parts.toArray,ty,pos,aft',gd⟩::rest):=
  kf ⟨d,.fz len cs,deps, [], [], [], []⟩ (fun hk hE _ _ _ hD _ _ hK=>have he':=hD.fin hE hk;lK hg he' (mQ ht he (AH he' hp) hlen hce hcl hfl hpu hs hs2 hb hK)) hd h
end
end Go.Abs
-- C4S
namespace Go.Abs.D2
open Go Go.Eng Go.Abs
abbrev dB (n:Int):CV:= .mk 1 n [] []
abbrev fh (s:List UInt8):CV:= .mk 2 0 s []
abbrev eT (l:List CV):CV:= .mk 3 0 [] l
abbrev gf (f:eX):CV:=eT [dB f.nb,fh f.D]
def iH (c:dL):CV:=eT [fh c.x,eT (c.F.map gf),eT (c.E.map dB)]
def CV.kd:CV→Int| .mk k _ _ _=>k
def CV.nm:CV→Int| .mk _ n _ _=>n
def CV.st:CV→List UInt8| .mk _ _ s _=>s
def CV.ls:CV→List CV| .mk _ _ _ l=>l
theorem qf (n:Int):(dB n).okB=true:=by rw [CV.okB,if_pos rfl];rfl
theorem wX (s:List UInt8):(fh s).okB=true:=by rw [CV.okB,if_neg az,if_pos rfl];rfl
theorem qg {l:List CV} (h:∀v∈l,v.okB=true):(eT l).okB=true:=by
  rw [CV.okB,if_neg az,if_neg az,if_pos rfl,CV.oR,List.all_eq_true.2 h];rfl
theorem M7 (f:eX):(gf f).okB=true:=qg fun v hv=>by
  simp only [List.mem_cons,List.not_mem_nil,or_false]at hv
  rcases hv with rfl|rfl
  · exact qf _
  · exact wX _
theorem FW (c:dL):(iH c).okB=true:=qg fun v hv=>by
  simp only [List.mem_cons,List.not_mem_nil,or_false]at hv
  rcases hv with rfl|rfl|rfl
  · exact wX _
  · exact qg fun v hv=>by obtain⟨f,_,rfl⟩:=List.mem_map.1 hv;exact M7 f
  · exact qg fun v hv=>by obtain⟨f,_,rfl⟩:=List.mem_map.1 hv;exact qf f
theorem pN {l:List CV} {d:Nat} (h:∀v∈l,v.depth≤d):(eT l).depth≤d+1:=by
  rw [CV.depth,if_pos rfl];have:=Da h;omega
theorem pM (n:Int):(dB n).depth=0:=by rw [CV.depth,if_neg az]
theorem vE (s:List UInt8):(fh s).depth=0:=by rw [CV.depth,if_neg az]
theorem Kg (c : dL) : (iH c).depth ≤ 16 := by
  refine Nat.le_trans (pN (d:=2) fun v hv=>?_) aq
  simp only [List.mem_cons,List.not_mem_nil,or_false]at hv
  rcases hv with rfl|rfl|rfl
  · rw [vE];omega
  · exact pN (d:=1) fun v hv=>by
      obtain⟨f,_,rfl⟩:=List.mem_map.1 hv
      exact pN (d:=0) fun v hv=>by
        simp only [List.mem_cons,List.not_mem_nil,or_false]at hv
        rcases hv with rfl|rfl
        · rw [pM];exact Nat.le_refl _
        · rw [vE];exact Nat.le_refl _
  · exact pN (d:=1) fun v hv=>by obtain⟨f,_,rfl⟩:=List.mem_map.1 hv;rw [pM];omega
theorem qq {n:Int} (h0: -9223372036854775808≤n) (h1:n≤9223372036854775807):(dB n).il=true:=by simp [CV.il,CV.m7,h0,h1]
theorem xE (s:List UInt8):(fh s).il=true:=by simp [CV.il,CV.m7]
theorem qt {l:List CV} (h:∀v∈l,v.il=true):(eT l).il=true:=by
  simp only [CV.il,CV.xD,List.all_eq_true.2 h];rfl
theorem y3 {c:dL} (h:fO c=true):∀f∈c.F,0≤f.nb∧f.nb≤4096∧f.D.length≤512:=fun f hf=>by
  obtain⟨i,hi⟩:=List.mem_iff_getElem?.1 hf
  obtain⟨_,n,h1,h2,h3,h4,_⟩:=JF h hi
  omega
theorem AP {c : dL} (h : fO c = true) : (iH c).il = true := qt fun v hv => by
  simp only [List.mem_cons,List.not_mem_nil,or_false]at hv
  rcases hv with rfl|rfl|rfl
  · exact xE _
  · exact qt fun v hv=>by
      obtain⟨f,hf,rfl⟩:=List.mem_map.1 hv
      obtain⟨h1,h2,_⟩:=y3 h f hf
      exact qt fun v hv=>by
        simp only [List.mem_cons,List.not_mem_nil,or_false]at hv
        rcases hv with rfl|rfl
        · exact qq aq aq
        · exact xE _
  · exact qt fun v hv=>by
      obtain⟨n,hn,rfl⟩:=List.mem_map.1 hv
      obtain⟨_,he,_⟩:=q9 h
      have:=wD he n hn
      exact qq aq aq
theorem zG {l:List CV} {k:Nat} (h:∀v∈l,v.enc.length≤k):(CV.dQ l).length≤l.length*k:=by
  induction l with
  |nil=>simp [CV.dQ]
  | cons v l ih =>
    have h1:=h v (.head _)
    have h2:=ih fun u hu=>h u (.tail _ hu)
    rw [CV.dQ,List.length_append,List.length_cons,Nat.succ_mul];omega
theorem pP {n:Int} (h0: -9223372036854775808≤n) (h1:n≤9223372036854775807):(dB n).enc.length≤12:=by
  have:=tT (qA h0 h1)
  rw [CV.enc,if_pos rfl,List.length_cons];omega
theorem vL {s:List UInt8} (h:s.length<2 ^ 64):(fh s).enc.length≤s.length+12:=by
  have:=tT h
  rw [CV.enc,if_neg az,if_pos rfl,List.length_cons,List.length_append];omega
theorem pQ {l:List CV} (h:l.length<2 ^ 64):(eT l).enc.length≤(CV.dQ l).length+12:=by
  have:=tT h
  rw [CV.enc,if_neg az,if_neg az,List.length_cons,List.length_append];omega
theorem B2:∀ {l:List Int} {last:Int},fZ last l=true→last<1024→last+l.length<1024
  | [],last,_,h=>by simpa using h
  | n :: l, last, h, _ => by
    simp only [fZ,Bool.and_eq_true,decide_eq_true_eq]at h
    have:=B2 h.2 h.1.2
    simp only [List.length_cons];omega
theorem wC {l:List Int} (h:eD l=true):l.length≤1024:=by
  have:=B2 h aq
  omega
theorem tC {c:dL} (h:fO c=true) (hx:c.x.length=32):(iH c).enc.length≤30000:=by
  obtain⟨h1,h2,_⟩:=q9 h
  have he:=wC h2
  have e1:(fh c.x).enc.length≤44:=by have:=vL (s:=c.x) aq;omega
  have e2:(eT (c.F.map gf)).enc.length≤10000:=by
    have q1:=pQ (l:=c.F.map gf) (by rw [List.length_map];omega)
    have q2:=zG (l:=c.F.map gf) (k:=600) fun v hv=>by
      obtain⟨f,hf,rfl⟩:=List.mem_map.1 hv
      obtain⟨k1,k2,k3⟩:=y3 h f hf
      have q3:(gf f).enc.length≤_:=pQ (l:= [dB f.nb,fh f.D]) aA
      have q4:=pP (n:=f.nb) aq aq
      have q5:=vL (s:=f.D) aq
      simp only [CV.dQ,List.length_append,List.length_nil]at q3
      omega
    rw [List.length_map]at q2
    omega
  have e3:(eT (c.E.map dB)).enc.length≤12300:=by
    have q1:=pQ (l:=c.E.map dB) (by rw [List.length_map];omega)
    have q2:=zG (l:=c.E.map dB) (k:=12) fun v hv=>by
      obtain⟨n,hn,rfl⟩:=List.mem_map.1 hv
      have:=wD h2 n hn
      exact pP aq aq
    rw [List.length_map]at q2
    omega
  have q:=pQ (l:= [fh c.x,eT (c.F.map gf),eT (c.E.map dB)]) aA
  simp only [CV.dQ,List.length_append,List.length_nil]at q
  show(eT _).enc.length≤_
  omega
theorem N3 {c:dL} (h:fO c=true):Rd 16 (iH c):=⟨FW c,Kg c,AP h⟩
def mR (v:CV) (i:Nat):CV:=v.ls.getD i zV
def DP (i:Nat) (v:CV):eX:=⟨i,(mR v 0).nm,(mR v 1).st⟩
def vT (l:List CV):List eX:=l.mapIdx DP
@[simp] theorem Md (l:List CV):(vT l).length=l.length:=by simp [vT]
def AL (v:CV):dL:=⟨(mR v 0).st,vT (mR v 1).ls,(mR v 2).ls.map CV.nm⟩
abbrev Jn:List A:=j9.map u8++ [.nl,.nl]
@[irreducible] def rp (c:dL):A:=if fO c then .tu [.fz (iH c).enc.length ((iH c).enc.map u8),.i .i64 0]else .tu [.nl,.i .i64 340]
theorem vJ {c:dL} (h:fO c=true):rp c= .tu [.fz (iH c).enc.length ((iH c).enc.map u8),.i .i64 0]:=by unfold rp;rw [h];rfl
theorem vI {c:dL} (h:fO c=false):rp c= .tu [.nl,.i .i64 340]:=by unfold rp;rw [h];rfl
theorem sE {l:List CV} {m:Nat} (h:m=l.length):((CV.dt l).drop 0).take (m*4)=CV.dt l:=by subst h;exact CV.s7 l
theorem rX (v:CV):cw (A.ag (CV.cells v))++ []=CV.cells v:=List.append_nil _
theorem DQ {F:List eX} {i:Nat} {f:eX} (h:F[i]? =some f):CV.dt ((F.take i).map gf)++CV.cells (gf f)=CV.dt ((F.take (i+1)).map gf):=by
  rw [CV.Cp,List.take_add_one,h];simp
theorem EA {E:List Int} {i:Nat} {q:Int} (h:E[i]? =some q):CV.dt ((E.take i).map dB)++CV.cells (dB q)=CV.dt ((E.take (i+1)).map dB):=by
  rw [CV.Cp,List.take_add_one,h];simp
theorem Cl {c:dL} (hx:c.x.length=32):A.fz 32 (((fE c).drop (0*1)).take (32*1))= .fz c.x.length (c.x.map u8):=by
  rw [Nat.zero_mul,List.drop_zero,Jp hx,hx]
theorem Dx {c:dL} (h:fO c=true):oC (iH c)= .tu [.fz (iH c).enc.length ((iH c).enc.map u8),.i .i64 0]:=rn (N3 h).CF
abbrev xO:List UInt8:= [99,97,115,99,97,100,101]
@[irreducible] def kU (c:dL):List UInt8:=tagged xO (iH c).enc
theorem zx (c:dL):kU c=tagged xO (iH c).enc:=by unfold kU;rfl
@[simp] theorem E2 (c:dL):(kU c).length=32:=by rw [zx];simp
@[irreducible] def rk (c:dL):A:=if fO c then .tu [.ag ((kU c).map u8),.i .i64 0]else .tu [.ag (j9.map u8),.i .i64 340]
theorem rl {c:dL} (h:fO c=true):rk c= .tu [.ag ((kU c).map u8),.i .i64 0]:=by unfold rk;rw [h];rfl
theorem Dd {c:dL} (h:fO c=false):rk c= .tu [.ag (j9.map u8),.i .i64 340]:=by unfold rk;rw [h];rfl
theorem Hm {c:dL} (h:fO c=true) (hx:c.x.length=32):(iH c).size≤1000000:=by
  have h1:=CV.A6 (iH c).size (iH c) (Nat.le_refl _) (FW c)
  have h2:=tC h hx
  omega
theorem Fv:∀ {l:List CV} {v:CV},v∈l→v.enc.length≤(CV.dQ l).length
  | [],_,h=>by cases h
  | u :: l, v, h => by
    rw [CV.dQ,List.length_append]
    rcases List.mem_cons.1 h with rfl|h
    · omega
    · have:=Fv h;omega
theorem KC (n:Int) (s:List UInt8) (l:List CV):(CV.dQ l).length≤(CV.mk 3 n s l).enc.length:=by
  rw [CV.enc,if_neg az,if_neg az,List.length_cons,List.length_append];omega
theorem KA (n:Int) (s:List UInt8) (l:List CV):s.length≤(CV.mk 2 n s l).enc.length:=by
  rw [CV.enc,if_neg az,if_pos rfl,List.length_cons,List.length_append];omega
end Go.Abs.D2
-- Abs1
namespace Go.Eng
open Go Go.MapKept
def nM (f:Int→Option Value) (k:Int):Int→Option Value:=fun j=>if j=k then none else f j
theorem fG.erase {es:Array MapEntry} {clk:Nat} {f:Int→Option Value} (h:fG es clk f) {k:Int} {j:Nat} {e:MapEntry} (hj:es[j]? =some e) (he:e.key= .int .i64 k):fG (es.eraseIdxIfInBounds j) clk (nM f k):=by
  have hlt:=(Array.getElem?_eq_some_iff.1 hj).1
  have hmem:∀x,x∈(es.eraseIdxIfInBounds j).toList↔∃i,i≠j∧es.toList[i]? =some x:=fun x=>by
    unfold Array.eraseIdxIfInBounds
    rw [dif_pos hlt,Array.toList_eraseIdx]
    exact List.mem_eraseIdx_iff_getElem?
  have hnd:=h.st.2.2
  have hkey:∀i x,i≠j→es.toList[i]? =some x→x.key≠ .int .i64 k:=fun i x hij hx hk=>by
    have g1:(es.toList.map (·.key))[j]? =some (.int .i64 k):=by rw [List.getElem?_map,Array.getElem?_toList,hj];simp [he]
    have g2:(es.toList.map (·.key))[i]? =some (.int .i64 k):=by rw [List.getElem?_map,hx];simp [hk]
    have hl:=(List.getElem?_eq_some_iff.1 g1).1
    exact hij ((List.getElem?_inj hl hnd).1 (g1.trans g2.symm)).symm
  refine⟨stamped_erase h.st _,fun x hx=>?_,fun i v hi=>?_⟩
  · obtain ⟨i, hij, hx⟩ := (hmem x).1 hx
    obtain⟨q,e1,e2⟩:=h.ent x (List.mem_of_getElem? hx)
    refine⟨q,e1,?_⟩
    unfold nM
    rw [if_neg (fun e=>hkey i x hij hx (by rw [e1,e])),e2]
  · unfold nM at hi
    split at hi
    · cases hi
    · rename_i hne
      obtain⟨x,hx,e1⟩:=h.has i v hi
      obtain⟨q,hq⟩:=List.mem_iff_getElem?.1 hx
      refine⟨x,(hmem x).2 ⟨q,fun e2=>?_,hq⟩,e1⟩
      subst e2
      rw [Array.getElem?_toList,hj]at hq
      simp only [Option.some.injEq]at hq
      subst hq
      rw [he]at e1
      simp only [Value.int.injEq,true_and]at e1
      exact hne e1.symm
def jm (x:MapEntry):Int:=match x.key with
  | .int _ k=>k
  |_=>0
theorem fG.size {es:Array MapEntry} {clk:Nat} {f:Int→Option Value} (h:fG es clk f) {L:List Int} (hn:L.Nodup) (hL:∀k,(f k).isSome=true↔k∈L):es.size=L.length:=by
  have hk:∀x∈es.toList,x.key= .int .i64 (jm x)∧f (jm x)=some x.val:=fun x hx=>by
    obtain⟨k,e1,e2⟩:=h.ent x hx
    have:jm x=k:=by unfold jm;rw [e1]
    rw [this];exact⟨e1,e2⟩
  have hnd:(es.toList.map jm).Nodup:=by
    have h3:=h.st.2.2
    rw [List.nodup_iff_pairwise_ne]at h3 ⊢
    rw [List.pairwise_map]at h3 ⊢
    refine h3.imp_of_mem fun {a b} ha hb hne e=>hne ?_
    rw [(hk a ha).1,(hk b hb).1,e]
  have hp:(es.toList.map jm).Perm L:=(List.perm_ext_iff_of_nodup hnd hn).2 fun k=>by
    rw [←hL k,List.mem_map]
    constructor
    · rintro ⟨x, hx, rfl⟩
      rw [(hk x hx).2];rfl
    · intro hs
      obtain⟨v,hv⟩:=Option.isSome_iff_exists.1 hs
      obtain⟨x,hx,e⟩:=h.has k v hv
      exact⟨x,hx,by unfold jm;rw [e]⟩
  have:=hp.length_eq
  rw [List.length_map]at this
  simpa using this
end Go.Eng
namespace Go.Abs
open Go Go.Eng Go.MapKept
section
variable {w0:Bw} {β:Bm} {X:Xs} {st:St} {w:World}
theorem Mem.NP (hm : Mem w0 β X st w) (hf : st.free ec = true) :
    Mem w0 (dS β ec (.mp w.heap.size)) X (st.put ec [.mc w.heap.size (fun _=>none)]) {w with heap:=w.heap.push (.map #[] 0)}∧dW X X w {w with heap:=w.heap.push (.map #[] 0)}:=by
  have hbel:RowKit.Below w.heap.size w {w with heap:=w.heap.push (.map #[] 0)}:=⟨rfl,rfl,rfl,by simp,fun k hk=>by simp [Array.getElem?_push,Nat.ne_of_lt hk]⟩
  have hx:dW X X w {w with heap:=w.heap.push (.map #[] 0)}:=fun q o h=>⟨h,World.cell?_of_block (w:=w) (hbel.block q (hm.xlt q o h))⟩
  have hnx:=hm.dom ec hf
  refine⟨.of (hm.below.trans hbel) (fun k y h=>(en hnx) k y (hm.b0 k y h)) (fun q o h=>Nat.lt_of_lt_of_le (hm.xlt q o h) hbel.size) (fun k h=>?_) (fun k ds hg=>?_) (fun i j ci cj q M N' hij hi hj hbi hbj=>?_),hx⟩
  · rw [St.gF] at h
    split at h
    · cases h
    · rename_i hne
      rw [dV (fun e=>hne e.symm)]
      exact hm.dom k h
  · rw [St.ef] at hg
    split at hg
    · rename_i e; subst e
      simp only [Option.some.injEq]at hg
      subst hg
      unfold OB
      rw [dA]
      exact⟨rfl,Bw.mr hm.below (Nat.le_refl _),fun o h=>absurd (hm.xlt _ o h) (Nat.lt_irrefl _),_, #[],0,rfl,by simp,fG.empty 0⟩
    · refine (hm.obj k ds hg).later hx (en hnx) (fun q M hq => ?_) fun q hq => ⟨hbel.block q ((hm.obj k ds hg).pZ hq), ((hm.obj k ds hg).gB hq).2.2.1⟩
      have h:=(hm.obj k ds hg).mT hq rfl
      exact⟨hbel.block q h.1,h.2.2⟩
  · rw [St.ef] at hi hj
    by_cases ei:ec=i
    · subst ei;rw [dA]at hbi;cases hbi
    · rw [if_neg ei] at hi
      rw [dV (fun e=>ei e.symm)]at hbi
      by_cases ej:ec=j
      · subst ej;rw [dA]at hbj;cases hbj
      · rw [if_neg ej] at hj
        rw [dV (fun e=>ej e.symm)]at hbj
        exact hm.inj i j ci cj q M N' hij hi hj hbi hbj
theorem Mem.He (hm : Mem w0 β X st w) {b : Nat} {f f' : Int → Option Value} {es : Array MapEntry} {clk : Nat} {w1 : World} (hg : st.get ec = some [.mc b f]) (hF : fG es clk f') (hG : Eng.Good [w] [(b, .map es clk)] w1) :
    Mem w0 β X (st.put ec [.mc b f']) w1∧dW X X w w1:=by
  have ho:=hm.obj ec _ hg
  obtain⟨y,hβ,hy⟩:∃y,β ec=some y∧y= .mp b:=by
    have ho2:=ho
    unfold OB at ho2
    cases hb:β ec with
    |none=>rw [hb]at ho2;exact ho2.elim
    | some y =>
      rw [hb]at ho2
      cases y with
      |ph=>cases ho2
      | bk q N =>
        obtain⟨_,_,us,rest,ty,_,_,h5,_⟩:=ho2
        simp only [VS,V]at h5
        obtain⟨_,_,_,h,_⟩:=h5
        exact h.elim
      | mp q =>
        obtain⟨_,_,_,g,_,_,e,_⟩:=ho2
        simp only [List.cons.injEq,A.mc.injEq,and_true]at e
        exact⟨_,rfl,by rw [e.1]⟩
  subst hy
  obtain⟨_,hown,hnX,g,es0,clk0,_,hb0,_⟩:=ho.gB hβ
  have hlt:=(Array.getElem?_eq_some_iff.1 hb0).1
  have hsn:=hG.snap w (.head _)
  have hblk:∀k,k<w.heap.size→k≠b→w1.heap[k]? =w.heap[k]? :=fun k hk hne=>hsn.blk k hk (fun p hp=>by simp only [List.mem_singleton]at hp;subst hp;exact fun e=>hne e.symm)
  have hw1:=hG.own _ (.head _)
  simp only at hw1
  have hx:dW X X w w1:=fun q o h=>⟨h,World.cell?_of_block (w:=w) (hblk q (hm.xlt q o h) fun e=>by subst e;exact hnX o h)⟩
  refine⟨.of ⟨hsn.os.trans hm.below.os,hsn.tape.trans hm.below.tape,hsn.output.trans hm.below.output,Nat.le_trans hm.below.size hsn.size,fun k hk hM=>?_,fun s hs=>?_⟩ hm.b0 (fun q o h=>Nat.lt_of_lt_of_le (hm.xlt q o h) hsn.size) (fun k h=>?_) (fun k ds hk=>?_) (fun i j ci cj q M N' hij hi hj hbi hbj=>?_),hx⟩
  · rw [hblk k (Nat.lt_of_lt_of_le hk hm.below.size) (fun e => by
      subst e
      rcases hown with h|h
      · omega
      · exact hM h)]
    exact hm.below.block k hk hM
  · refine ew.rJ (hm.below.sus s hs) fun q hq => hblk q (by rcases hq with hq | ⟨r, hq⟩ <;> exact (Array.getElem?_eq_some_iff.1 hq).1) fun e => ?_
    subst e
    rw [hb0]at hq
    rcases hq with h|⟨_,h⟩<;>cases h
  · rw [St.gF] at h
    split at h
    · cases h
    · exact hm.dom k h
  · rw [St.ef] at hk
    split at hk
    · rename_i e; subst e
      simp only [Option.some.injEq]at hk
      subst hk
      unfold OB
      rw [hβ]
      exact⟨rfl,hown,hnX,f',es,clk,rfl,hw1,hF⟩
    · rename_i hne
      have key:∀(y:BL) (q:Nat),β k=some y→y.on q→w1.heap[q]? =w.heap[q]? ∧∀o,¬X q o:=fun y q hq hyq=>
        ⟨hblk q ((hm.obj k ds hk).mT hq hyq).1 fun e=>by subst e;exact hm.apart hne hg hk hβ hq rfl hyq,((hm.obj k ds hk).mT hq hyq).2.2⟩
      exact(hm.obj k ds hk).later hx (dE.refl β) (fun q M hq=>key _ q hq rfl) fun q hq=>key _ q hq rfl
  · have g : ∀ (k : Nat) (c : List A), (st.put ec [.mc b f']).get k = some c → ∃ c', st.get k = some c' := fun k c hk => by
      rw [St.ef]at hk
      split at hk
      · rename_i e;subst e;exact⟨_,hg⟩
      · exact⟨_,hk⟩
    obtain⟨c1,h1⟩:=g i ci hi
    obtain⟨c2,h2⟩:=g j cj hj
    exact hm.inj i j c1 c2 q M N' hij h1 h2 hbi hbj
theorem Mem.wF (hm:Mem w0 β X st w) {b:Nat} {f:Int→Option Value} (hg:st.get ec=some [.mc b f]):∃es clk,w.heap[b]? =some (.map es clk)∧fG es clk f:=by
  have ho:=hm.obj ec _ hg
  unfold OB at ho
  cases hb:β ec with
  |none=>rw [hb]at ho;exact ho.elim
  | some y =>
    rw [hb]at ho
    cases y with
    |ph=>cases ho
    | bk q N =>
      obtain⟨_,_,us,rest,ty,_,_,h5,_⟩:=ho
      simp only [VS,V]at h5
      obtain⟨_,_,_,h,_⟩:=h5
      exact h.elim
    | mp q =>
      obtain⟨_,_,_,g,es,clk,e,h4,h5⟩:=ho
      simp only [List.cons.injEq,A.mc.injEq,and_true]at e
      obtain⟨e1,e2⟩:=e
      subst e1;subst e2
      exact⟨es,clk,h4,h5⟩
end
section
variable {P:Program} {w0:Bw} {X0:Xs} {n:Nat} {E:Ev} {st:St} {K:Act→World→Prop} {Q:Exit→Act→World→Prop}
theorem Ap {d:Nat} {t ty:TypeId} {pos b6 g} (hf:st.free ec=true) (hd:Nat.ble (d+1) n=true)
    (h:∀b,At w0 X0 n ((d,.raw (.map (some b)))::E) (st.put ec [.mc b (fun _=>none)]) K):At w0 X0 n E st (fun a w=>(⟨some d,.makeMap t none,ty,pos,b6,g⟩:Oper).wp P a w K Q):=by
  rintro a w ⟨β,X,hr⟩
  obtain⟨hm,hx⟩:=hr.mem.NP hf
  have hrun:(execOp a.eval ⟨some d,.makeMap t none,ty,pos,b6,g⟩).run P w= .ok (.value (.map (some w.heap.size))) {w with heap:=w.heap.push (.map #[] 0)}:=by
    simp [execOp,Instr.makeMap]
  unfold Oper.wp
  rw [hrun]
  exact h w.heap.size _ _ ⟨_,X,hr.jT hd hx (fun _ _ h=> .inl h) (en (hr.mem.dom ec hf)) hm (by simp only [V])⟩
theorem wM {t kt et ty:TypeId} {pos b6 g} {x y z:Operand} {b:Nat} {f:Int→Option Value} {k v:Int} {kv:IntKind} (hm:P.underlying t=some (.map kt et)) (hk:P.underlying kt=some (.int .i64))
    (hx:ev E x=some (.raw (.map (some b)))) (hy:ev E y=some (.i .i64 k)) (hz:ev E z=some (.i kv v)) (hg:st.get ec=some [.mc b f])
    (h:At w0 X0 n E (st.put ec [.mc b (j3 f k (.int kv v))]) K):At w0 X0 n E st (fun a w=>(⟨none,.mapUpdate t x y z,ty,pos,b6,g⟩:Oper).wp P a w K Q):=by
  rintro a w ⟨β,X,hr⟩
  obtain⟨e1,e2⟩:=hr.c9 hx
  obtain⟨e3,e4⟩:=hr.c9 hy
  obtain⟨e5,e6⟩:=hr.c9 hz
  simp only [V]at e2 e4 e6
  rw [e2]at e1;rw [e4]at e3;rw [e6]at e5
  obtain⟨es,clk,hb,hF⟩:=hr.mem.wF hg
  refine Eng.wM (S:= [w]) (H:= [(b,.map es clk)]) (E:=full a) (n:=a.tmps.size) 0 hm hk e1 e3 e5 rfl hF (fun es' clk' hF' a1 w1 hR hG=>?_) a w (gq a hr.defers) (nU hb)
  obtain⟨m1,m2⟩:=hr.mem.He (w1:=w1) hg hF' hG
  exact h a1 w1 ⟨β,X,hr.fQ hR m2 (fun _ _ h=> .inl h) (dE.refl β) m1⟩
theorem qG {t kt et ty : TypeId} {x y : Operand} {b : Nat} {f : Int → Option Value} {k m : Int} {kv : IntKind} (hm : P.underlying t = some (.map kt et)) (hk : P.underlying kt = some (.int .i64)) (hz0 : ∀ w, (zeroValue et).run P w = .ok (.int kv 0) w)
    (hx:ev E x=some (.raw (.map (some b)))) (hy:ev E y=some (.i .i64 k)) (hg:st.get ec=some [.mc b f]) (hf:(f k).getD (.int kv 0)= .int kv m):YO P E st (.lookup t x y false) ty (.i kv m):=by
  intro w0 X0 n β X a w hr
  obtain⟨e1,e2⟩:=hr.c9 hx
  obtain⟨e3,e4⟩:=hr.c9 hy
  simp only [V]at e2 e4
  rw [e2]at e1;rw [e4]at e3
  have ho:=hr.memq.obj ec _ hg
  obtain⟨hβ,es,clk,hb,hF⟩:β ec=some (.mp b)∧∃es clk,w.heap[b]? =some (.map es clk)∧fG es clk f:=by
    unfold OB at ho
    cases hb:β ec with
    |none=>rw [hb]at ho;exact ho.elim
    | some y =>
      rw [hb]at ho
      cases y with
      |ph=>cases ho
      | bk q N =>
        obtain⟨_,_,us,rest,ty,_,_,h5,_⟩:=ho
        simp only [VS,V]at h5
        obtain⟨_,_,_,h,_⟩:=h5
        exact h.elim
      | mp q =>
        obtain⟨_,_,_,g,es,clk,e,h4,h5⟩:=ho
        simp only [List.cons.injEq,A.mc.injEq,and_true]at e
        obtain⟨e1,e2⟩:=e
        subst e1;subst e2
        exact⟨rfl,es,clk,h4,h5⟩
  refine⟨.int kv m,by simp only [V],fun d pos b6 g w' hs=>?_⟩
  have hb':w'.heap[b]? =some (.map es clk):=(hs.map _ _ _ hg hβ).trans hb
  have hy:=Eng.qG (P:=P) (S:= [w']) (H:= [(b,.map es clk)]) (E:=full a) (n:=a.tmps.size) (ty:=ty) 0 hm hk hz0 e1 e3 rfl hF
  rw [hf]at hy
  exact hy d pos b6 g a w' (gq a hr.defers) (nU hb')
theorem MJ {t kt et ty : TypeId} {ats : Array TypeId} {pos b6 g} {x y : Operand} {b : Nat} {f : Int → Option Value} {k : Int} (hm : P.underlying t = some (.map kt et)) (hk : P.underlying kt = some (.int .i64)) (hat : ats = #[t, kt])
    (hx:ev E x=some (.raw (.map (some b)))) (hy:ev E y=some (.i .i64 k)) (hg:st.get ec=some [.mc b f])
    (h:At w0 X0 n E (st.put ec [.mc b (nM f k)]) K):At w0 X0 n E st (fun a w=>(⟨none,.call {callee:= .builtin .delete,args:= #[x,y],argTypes:=ats},ty,pos,b6,g⟩:Oper).wp P a w K Q):=by
  subst hat
  rintro a w ⟨β,X,hr⟩
  obtain⟨e1,e2⟩:=hr.c9 hx
  obtain⟨e3,e4⟩:=hr.c9 hy
  simp only [V]at e2 e4
  rw [e2]at e1;rw [e4]at e3
  have f1:=(gq a hr.defers).ev e1
  have f3:=(gq a hr.defers).ev e3
  obtain⟨es,clk,hb,hF⟩:=hr.mem.wF hg
  have hkk:IsKey (.int .i64) (Value.int .i64 k):=rfl
  obtain ⟨es', hF', hrun⟩ : ∃ es', fG es' clk (nM f k) ∧ (execOp a.eval ⟨none, .call { callee := .builtin .delete, args := #[x, y], argTypes := #[t, kt] }, ty, pos, b6, g⟩).run P w = .ok (.value (.tuple #[])) { w with heap := w.heap.setIfInBounds b (.map es' clk) } := by
    rcases findNow_spec hkk es.toList 0 hF.keys with ⟨h1,h2⟩|⟨j,e,h1,h2,h3⟩
    · refine ⟨es, ?_, ?_⟩
      · have : nM f k = f := by
          funext i
          unfold nM
          split
          · rename_i e; subst e
            cases hf:f i with
            |none=>rfl
            |some v=>obtain⟨q,hq,e⟩:=hF.has i v hf;exact absurd e (h2 q hq)
          · rfl
        rw [this];exact hF
      · simp [execOp,resolve,invoke,builtin,f1,f3,Builtin.delete_,run_underlying hm,MapKept.run_getObj_map hb,MapKept.run_checkKey hk hkk,MapKept.run_findKey hk h1,MapKept.run_setObj_map _ hb,Result.andThen]
    · have hj : es[j]? = some e := by simpa using h2
      refine⟨_,hF.erase hj h3,?_⟩
      simp [execOp,resolve,invoke,builtin,f1,f3,Builtin.delete_,run_underlying hm,MapKept.run_getObj_map hb,MapKept.run_checkKey hk hkk,MapKept.run_findKey hk h1,MapKept.run_setObj_map _ hb,Result.andThen]
  obtain⟨m1,m2⟩:=hr.mem.He (w1:= {w with heap:=w.heap.setIfInBounds b (.map es' clk)}) hg hF' ((nU hb).set 0 rfl rfl rfl rfl aA (heap_set hb).1 (fun q hq=>(heap_set hb).2 q hq))
  unfold Oper.wp
  rw [hrun]
  exact h a _ ⟨β,X,hr.fQ (gq a hr.defers) m2 (fun _ _ h=> .inl h) (dE.refl β) m1⟩
theorem MemQ.wF {β:Bm} {X:Xs} {w:World} (hm:MemQ w0 β X st w) {b:Nat} {f:Int→Option Value} (hg:st.get ec=some [.mc b f]):β ec=some (.mp b)∧∃es clk,w.heap[b]? =some (.map es clk)∧fG es clk f:=by
  have ho:=hm.obj ec _ hg
  unfold OB at ho
  cases hb:β ec with
  |none=>rw [hb]at ho;exact ho.elim
  | some y =>
    rw [hb]at ho
    cases y with
    |ph=>cases ho
    | bk q N =>
      obtain⟨_,_,us,rest,ty,_,_,h5,_⟩:=ho
      simp only [VS,V]at h5
      obtain⟨_,_,_,h,_⟩:=h5
      exact h.elim
    | mp q =>
      obtain⟨_,_,_,g,es,clk,e,h4,h5⟩:=ho
      simp only [List.cons.injEq,A.mc.injEq,and_true]at e
      obtain⟨e1,e2⟩:=e
      subst e1;subst e2
      exact⟨rfl,es,clk,h4,h5⟩
theorem QT {t kt et ty:TypeId} {x:Operand} {b:Nat} {f:Int→Option Value} (L:List Int) (hm:P.underlying t=some (.map kt et)) (hx:ev E x=some (.raw (.map (some b)))) (hg:st.get ec=some [.mc b f]) (hn:L.Nodup) (hL:∀k,(f k).isSome=true↔k∈L):
    YO P E st (.call {callee:= .builtin .len,args:= #[x],argTypes:= #[t]}) ty (.i .i64 (L.length:Nat)):=by
  intro w0 X0 n β X a w hr
  obtain⟨e1,e2⟩:=hr.c9 hx
  simp only [V]at e2
  rw [e2]at e1
  have f1:=(gq a hr.defers).ev e1
  obtain⟨hβ,es,clk,hb,hF⟩:=hr.memq.wF hg
  have hs:=hF.size hn hL
  refine⟨.int .i64 (L.length:Nat),by simp only [V],fun d pos b6 g w' hsm=>?_⟩
  have hb':w'.heap[b]? =some (.map es clk):=(hsm.map _ _ _ hg hβ).trans hb
  simp [execOp,resolve,invoke,builtin,f1,Builtin.len_,run_underlying hm,MapKept.run_getObj_map hb',Result.andThen,hs]
  rfl
end
end Go.Abs
-- Abs2
namespace Go.Abs
open Go Go.Eng
section
variable {P:Program} {w0 w1 w2:Bw} {X0:Xs} {n:Nat} {E:Ev} {st:St} {Q:Exit→Act→World→Prop} {r:Option Nat} {ds:List Deferred}
theorem sY {l D n1 nO:Nat} {rc:Loop} {Ek Eit:Ev} {ps:List Tmp} {assign body:Code} {ids idsR:List Nat} {tm:Array Value} {d:Nat} {N:Act→World→Prop} {ch:List PanicEntry} {fo:Func} (hf:P.funcs[rc.fn]? =some fo)
    (hR:Rg w0 w1 idsR l D rc nO Ek ps assign body .ready none) (hd:Rd w0 w1 w2 ids l D rc Ek .busy none tm n1 Eit)
    (h:∀wj,Rg w0 wj idsR l D rc nO Ek ps assign body .busy none→At wj X0 n1 Eit st (Pw ds (Q (.panic ch)))):At w2 X0 n E st (Pw [] (sk P l rc.fn (r8 ds tm (some d) N Q) (.panic ch))):=by
  rintro a w ⟨β,X,hr⟩
  obtain⟨wj,hβ,hS⟩:=hR.stop .busy none
  have hss:w2.sus= .fr tm Eit w2.β:: .lp l {rc with state:= .busy,pending:=none} Ek w1.β:: .df D::w0.sus:=hd.sub.sus
  have hs1:wj.sus= .lp l {rc with state:= .busy,pending:=none} Ek wj.β:: .df D::w0.sus:=hS.sub.sus
  have hfr:=hr.sslot (.fr tm Eit w2.β) (by rw [hss];exact .head _)
  refine⟨by rw [og];exact hr.defers,⟨_,hf⟩,h _ hS ⟨tm, []⟩ w ⟨β,X,hr.jU (hS.sub.w.trans hd.sub.w.symm) (hS.sub.M.trans hd.sub.M.symm) .refl (fun id y h=>hr.mem.b0 id y (hd.ext id y (hβ ▸ h))) (fun s hs=>?_) (fun s hs=>?_) hd.size rfl (fun t v ht=>?_)⟩⟩
  · refine wo (B := w2) (hr.mem.below.sus s ?_) (fun b h => (qj (hS.sub.w.trans hd.sub.w.symm) (hS.sub.M.trans hd.sub.M.symm) b).2 h) (fun _ _ _ _ => rfl)
    rw [hs1,hβ]at hs
    rw [hss];exact .tail _ hs
  · refine hr.sslot s ?_
    rw [hs1,hβ]at hs
    rw [hss];exact .tail _ hs
  · obtain ⟨u, g1, g2⟩ := hfr t v ht
    exact⟨u,g1,gj (fun b o h=>⟨h,rfl⟩) _ _ _ _ hr.mem.b0 g2⟩
theorem qS {l D nO:Nat} {rc:Loop} {Ek:Ev} {ps:List Tmp} {assign body:Code} {idsR:List Nat} {s:LoopState} {pe:Option Code} {fn:Func} {ss:List ew} {ch:List PanicEntry} (hR:Rg w0 w1 idsR l D rc nO Ek ps assign body s pe) (hs0:w0.sus=ss)
    (h:At (w0.re (.df D::ss)) X0 nO Ek st (Pw (gz D::ds) (Q (.panic ch)))):At w1 X0 n E st (Pw [] (bodyPostM (rF none) 0 P fn (rangePost (rF r) 0 P l Q (Act.wd (gz D::ds) ⟨rc.tmps, []⟩)) (.panic ch))):=by
  rintro a w ⟨β,X,hr⟩
  subst hs0
  have hss:w1.sus= .lp l {rc with state:=s,pending:=pe} Ek w1.β:: .df D::w0.sus:=hR.sub.sus
  have hlp:=hr.sslot (.lp l {rc with state:=s,pending:=pe} Ek w1.β) (by rw [hss];exact .head _)
  show LeavesInM (rF none) 0 P fn (a.wd []).tmps _ (a.wd []).defers (.panicking ch) w
  rw [og,hr.defers]
  show Q (.panic ch) (Act.wd (gz D::ds) ⟨rc.tmps, []⟩) w
  refine h ⟨rc.tmps, []⟩ w ⟨β,X,hr.jU hR.sub.w.symm hR.sub.M.symm .refl (fun id y h=>hr.mem.b0 id y (hR.sub.ext id y h)) (fun s hs=>?_) (fun s hs=>?_) hR.size rfl (fun t v ht=>?_)⟩
  · exact wo (B:=w1) (hr.mem.below.sus s (by rw [hss];exact .tail _ hs)) (fun b h=>(qj hR.sub.w hR.sub.M b).1 h) (fun _ _ _ _=>rfl)
  · exact hr.sslot s (by rw [hss];exact .tail _ hs)
  · obtain ⟨u, g1, g2⟩ := hlp t v ht
    exact⟨u,g1,gj (fun b o h=>⟨h,rfl⟩) _ _ _ _ hr.mem.b0 g2⟩
theorem Ft {fn:Func} {Rr:Ending→World→Prop} {ch:List PanicEntry}:∀(ds:List Nat) {wB:Bw} {a:Act} {w:World},ds.Nodup→wB.sus=ds.map .df→Rel wB X0 n E st a w→(∀w',Rel (wB.re []) X0 n E st a w'→Rr (.panicked ch) w')→
    LeavesInM (rF none) 0 P fn a.tmps Rr (ds.map gz) (.panicking ch) w
  | [],wB,a,w,_,hs,⟨β,X,hr⟩,h=>h w ⟨β,X,hr.jU rfl rfl .refl hr.mem.b0 (fun s hs=>by cases hs) (fun s hs=>by cases hs) hr.size hr.defers hr.slot⟩
  | D :: ds, wB, a, w, hnd, hs, ⟨β, X, hr⟩, h => by
    have hs':wB.sus= .df D::ds.map .df:=by simpa using hs
    have hk:=hr.mem.below.sus (.df D) (by rw [hs'];exact .head _)
    refine⟨by simp,.inl ⟨D,_,rfl,run_takeDeferred hk.2,?_⟩⟩
    refine Ft ds (wB:=wB.re (ds.map .df)) (List.nodup_cons.1 hnd).2 rfl ⟨β,X,hr.jU rfl rfl (Qt.put hk.1 hk.2 rfl rfl) hr.mem.b0 (fun s hs=>?_) (fun s hs=>?_) hr.size hr.defers hr.slot⟩ h
    · obtain ⟨D', hD, rfl⟩ := List.mem_map.1 hs
      have hk':=hr.mem.below.sus (.df D') (by rw [hs'];exact .tail _ hs)
      exact⟨hk'.1,(World.putObj_heap_other (fun e:D'=D=>(List.nodup_cons.1 hnd).1 (e ▸ hD))).trans hk'.2⟩
    · obtain ⟨D', hD, rfl⟩ := List.mem_map.1 hs
      trivial
theorem qT {wB:Bw} {fn:Func} {R:A→St→Prop} {pn:Value→Prop} {u:Value} (hw:wB.w=w0.w) (hM:wB.M=w0.M) (hβ:wB.β=w0.β) (hs0:w0.sus= []) {dn:List Nat} (hdn:ds=dn.map gz) (hsB:wB.sus=dn.map .df) (hnd:dn.Nodup) (hp:pn u):
    At wB X0 n E st (Pw ds (bodyPostM (rF none) 0 P fn (ot w0 X0 R pn) (.panic (kZ u)))):=fun a w hr=>by
  have hd:a.defers= []:=by obtain⟨_,_,hr⟩:=hr;exact hr.defers
  show LeavesInM (rF none) 0 P fn a.tmps _ (a.wd ds).defers (.panicking (kZ u)) w
  have e:(a.wd ds).defers=dn.map gz:=by simp [Act.wd,hd,hdn]
  rw [e]
  refine Ft dn hnd hsB hr fun w' ⟨β,X,hr'⟩=>?_
  have hr0:dZ w0 X0 n E st β X a w':=hr'.jU hw.symm hM.symm .refl (by rw [←hβ];exact hr'.mem.b0) (fun s hs=>by rw [hs0]at hs;cases hs) (fun s hs=>by rw [hs0]at hs;cases hs) hr'.size hr'.defers hr'.slot
  exact .inr ⟨u,rfl,hp,.raw undef,β,X,st,trivial,hr0.x0,hr0.xn,hr0.mem,by simp only [V]⟩
theorem ER {F:Fence} {m:Nat} {fn:Func} {tm:Array Value} {R R':Ending→World→Prop} (hr:∀e w,R e w→R' e w):∀(ds:List Nat) {w:World},LeavesInM F m P fn tm R (ds.map gz) .returning w→LeavesInM F m P fn tm R' (ds.map gz) .returning w
  | [],w,⟨v,h1,h2⟩=>⟨v,h1,hr _ _ h2⟩
  | D :: ds, w, ⟨h0, h⟩ => ⟨h0, by
    rcases h with ⟨r,w',h1,h2,h3⟩|⟨_,fv,cap,f,args,h1,_⟩
    · exact .inl ⟨r,w',h1,h2,ER hr ds h3⟩
    · cases h1⟩
theorem I0 {wB:Bw} {fn:Func} {R:A→St→Prop} {pn:Value→Prop} {rs:List ResultVar} {vs:List A} (hw:wB.w=w0.w) (hM:wB.M=w0.M) (hβ:wB.β=w0.β) (hs0:w0.sus= []) {dn:List Nat} (hdn:ds=dn.map gz) (hsB:wB.sus=dn.map .df) (hnd:dn.Nodup) (hrs:fn.results=rs.toArray) (hv:gO P E st rs vs) (h:R (mv vs) st):
    At wB X0 n E st (Pw ds (bodyPostM (rF none) 0 P fn (ot w0 X0 R pn) .ret)):=fun a w hr=>by
  have hd:a.defers= []:=by obtain⟨_,_,hr⟩:=hr;exact hr.defers
  have h1:=sX hw hM hβ hs0 hdn hsB hnd hrs hv h a w hr
  show LeavesInM (rF none) 0 P fn a.tmps _ (a.wd ds).defers .returning w
  have e:(a.wd ds).defers=dn.map gz:=by simp [Act.wd,hd,hdn]
  have h2:LeavesInM (rF none) 0 P fn a.tmps _ (a.wd ds).defers .returning w:=h1
  rw [e]at h2 ⊢
  exact ER (fun e w h=> .inl h) dn h2
def jI (P:Program) (f0:FuncId) (c:Code) (Q:Exit→Act→World→Prop) (a:Act) (w:World):Prop:=
  ∀(b:Frame) (k:List Item) (cs:List Frame),b.roundOf=none→b.fn=f0→∃e a' w',Q e a' w'∧ArrivesIn (Machine.fenced P (rF none)) P (lone (b.atR a (.code c::k)) cs w) b k cs e a' w'
theorem m8 {m:Nat}:(rF none).room m:=fun d h=>by cases h
theorem QG {f0:FuncId} {c:Code} {a:Act} {w:World} (h:c.wpIn (rF none) 0 P Q a w):jI P f0 c Q a w:=fun b k cs hro _=>h b k cs hro trivial m8
theorem QI {f0:FuncId} {x y:Code} {a:Act} {w:World} (h:jI P f0 x (Exit.then (jI P f0 y Q) Q) a w):jI P f0 (.seq x y) Q a w:=by
  intro b k cs hro hb
  have h0:(lone (b.atR a (.code (.seq x y)::k)) cs w).fenced P (rF none):=fenced_calm (n:=0) trivial m8 rfl
  obtain⟨e,a₁,w₁,hq,harr⟩:=h b (.code y::k) cs hro hb
  cases e with
  | normal =>
    obtain⟨e₂,a₂,w₂,hq₂,harr₂⟩:=hq b k cs hro hb
    exact⟨e₂,a₂,w₂,hq₂,.of_steps (.head h0 stepR_seq harr) harr₂⟩
  |exit id=>exact⟨_,a₁,w₁,hq,.of_steps (.one h0 stepR_seq) (.pass (x:= .code y) rfl (fun _ _=> .inl aA) harr)⟩
  |goto l=>exact⟨_,a₁,w₁,hq,.of_steps (.one h0 stepR_seq) (.pass (x:= .code y) rfl (fun _ _=> .inl aA) harr)⟩
  |ret=>exact⟨_,a₁,w₁,hq,.of_steps (.one h0 stepR_seq) (.pass (x:= .code y) rfl (fun _ _=> .inl aA) harr)⟩
  |panic ch=>exact⟨_,a₁,w₁,hq,.of_steps (.one h0 stepR_seq) (.pass (x:= .code y) rfl (fun _ _=> .inl aA) harr)⟩
  |outgrown=>exact⟨_,a₁,w₁,hq,.of_steps (.one h0 stepR_seq) (.pass (x:= .code y) rfl (fun _ _=> .inl aA) harr)⟩
theorem QF {f0 id : Nat} {c : Code} {a : Act} {w : World} (h : jI P f0 c (Exit.inBlock id Q) a w) : jI P f0 (.block id c) Q a w := by
  intro b k cs hro hb
  have h0:(lone (b.atR a (.code (.block id c)::k)) cs w).fenced P (rF none):=fenced_calm (n:=0) trivial m8 rfl
  obtain⟨e,a₁,w₁,hq,harr⟩:=h b (.inBlock id::k) cs hro hb
  cases e with
  |normal=>exact⟨.normal,a₁,w₁,hq,.head h0 stepR_block (StepsIn.trans harr (.one (fenced_calm (n:=0) trivial m8 rfl) stepR_inBlock))⟩
  | exit id' =>
    by_cases hid:id'=id
    · simp only [Exit.inBlock, hid, if_true] at hq
      exact⟨.normal,a₁,w₁,hq,.head h0 stepR_block (harr.1 k (by simp [exitTo,hid]))⟩
    · simp only [Exit.inBlock, hid, if_false] at hq
      have this:(id==id')=false:=by simp;exact fun h=>hid h.symm
      have hx:exitTo id' (.inBlock id::k)=exitTo id' k:=by simp [exitTo,this]
      exact⟨.exit id',a₁,w₁,hq,fun k' hk=> .head h0 stepR_block (harr.1 k' (by rw [hx];exact hk)),
        fun hr' hk=>let ⟨k₁,h1,h2⟩:=harr.2 hr' (by rw [hx];exact hk);⟨k₁,h1,.head h0 stepR_block h2⟩⟩
  | goto l =>
    have hx:gotoIn l (.inBlock id::k)=gotoIn l k:=by simp [gotoIn]
    exact⟨_,a₁,w₁,hq,fun k' hk=> .head h0 stepR_block (harr.1 k' (by rw [hx];exact hk)),
      fun hr' hk=>let ⟨k₁,h1,h2⟩:=harr.2 hr' (by rw [hx];exact hk);⟨k₁,h1,.head h0 stepR_block h2⟩⟩
  |ret=>exact⟨_,a₁,w₁,hq,.of_steps (.one h0 stepR_block) harr⟩
  |panic ch=>exact⟨_,a₁,w₁,hq,.of_steps (.one h0 stepR_block) harr⟩
  |outgrown=>exact⟨_,a₁,w₁,hq,.of_steps (.one h0 stepR_block) harr⟩
theorem Jk {f:FuncId} {fn:Func} {c:Code} {args:Array Value} {w:World} {R:Ending→World→Prop} (hf:P.funcs[f]? =some fn) (hb:fn.body=some c)
    (h:jI P f c (bodyPostM (rF none) 0 P fn R) {tmps:=args++Array.replicate (fn.ntmps - args.size) undef,defers:= []} w):CallsIn (rF none) 0 P f args w R:=by
  refine⟨trivial,fun cs hr=>?_⟩
  let b:Frame:= {(default:Frame)with fn:=f,kind:= .normal,roundOf:=none}
  have henter:Frame.enter P f args .normal=b.atR {tmps:=args++Array.replicate (fn.ntmps - args.size) undef,defers:= []} [.code c]:=by simp [Frame.enter,Frame.atR,hf,hb,b]
  obtain⟨e,a',w',hq,harr⟩:=h b [] cs rfl rfl
  rw [←henter]at harr
  cases e with
  | normal =>
    obtain⟨e',w'',fr',hR,hs,hfn,hl⟩:=leaves_stepsInM a'.defers .returning w' {b.atR a' []with mode:= .returning} cs rfl rfl rfl hf rfl trivial hr hq
    exact⟨e',w'',fr',hR,ComesIn.of_steps (StepsIn.trans harr (.one (fenced_calm (fr:=b.atR a' []) (n:=0) trivial hr rfl) (stepR_end rfl))) hs,hfn,hl⟩
  | ret =>
    obtain⟨todo,hs₀⟩:=harr.1 rfl
    obtain⟨e',w'',fr',hR,hs,hfn,hl⟩:=leaves_stepsInM a'.defers .returning w' {b.atR a' todo with mode:= .returning} cs rfl rfl rfl hf rfl trivial hr hq
    exact⟨e',w'',fr',hR,ComesIn.of_steps hs₀ hs,hfn,hl⟩
  | panic chain =>
    obtain⟨todo,hs₀⟩:=harr
    obtain⟨e',w'',fr',hR,hs,hfn,hl⟩:=leaves_stepsInM a'.defers (.panicking chain) w' {b.atR a' todo with mode:= .panicking chain} cs rfl rfl rfl hf rfl trivial hr hq
    exact⟨e',w'',fr',hR,ComesIn.of_steps hs₀ hs,hfn,hl⟩
  |exit id=>exact hq.elim
  |goto l=>exact hq.elim
  |outgrown=>exact⟨.outgrown,w',b,hq,harr.resolve_left (by simp [b]),rfl,trivial⟩
theorem QH {f0:FuncId} {g:Operand} {ps:Array Tmp} {assign body:Code} {a:Act} {w:World}
    (h:∃(l:Nat) (mark:List Deferred) (w₁:World) (d:Deferred) (w₁':World) (f:FuncId) (args:Array Value) (w₂:World),
      (Instr.enterLoop f0 a.tmps ps assign body none).run P w= .ok (l,mark) w₁∧(resolve a.eval (rangeCall g l) 0).run P w₁= .ok d w₁'∧(invoke d.target d.args).run P w₁'= .ok (.enter f args) w₂∧
      CallsIn (rF none) 0 P f args w₂ (rangePost (rF none) 0 P l Q {a with defers:=mark++a.defers})):jI P f0 (Code.rangeFunc g ps assign body) Q a w:=by
  intro b k cs hro hb
  obtain⟨l,mark,w₁,d,w₁',f,args,w₂,he,hres,hinv,hF,hcall⟩:=h
  rw [←hro, ←hb]at he
  have h0:(lone (b.atR a (.code (.rangeFunc g ps assign body)::k)) cs w).fenced P (rF none):=fenced_lone (.inl trivial) (fun f' _=>trivial) m8
  have henter:=stepR_rangeFunc (P:=P) (b:=b) (a:=a) (k:=k) (cs:=cs) (w:=w) he hres hinv
  obtain⟨e,w₃,fr,hR,hsteps,hfn,hleave⟩:=hcall (b.atR {a with defers:=mark++a.defers} (.inRangeFunc l::k)::cs) m8
  cases e with
  | outgrown =>
    obtain⟨a₀,w₀,hq⟩:=hR
    exact⟨.outgrown,a₀,w₀,hq,.inr (Outgrown.of_steps (.one henter) hsteps)⟩
  | returned v =>
    have hl:(lone fr (b.atR {a with defers:=mark++a.defers} (.inRangeFunc l::k)::cs) w₃).fenced P (rF none):=fenced_leaving (n:=0) trivial m8 hleave
    obtain⟨jump,w₄,hend,hj⟩:=hR
    have sback:StepsIn (Machine.fenced P (rF none)) P (lone (b.atR a (.code (.rangeFunc g ps assign body)::k)) cs w) (lone (b.atR {a with defers:=mark++a.defers} ((jump.map Item.code).toList++k)) cs w₄):=by
      refine .head h0 henter (StepsIn.trans hsteps (.head hl ?_ (.one (fenced_calm (fr:=b.atR {a with defers:=mark++a.defers} (.endRangeFunc l::k)) (n:=0) trivial m8 rfl) (stepR_endRangeFunc hend))))
      rw [←finish_atR_inRangeFunc l v];exact step_leave_returned hleave
    cases jump with
    |none=>exact⟨.normal,_,w₄,hj,sback⟩
    | some c =>
      obtain⟨e',a'',w₅,hq,harr⟩:=hj b k cs hro trivial m8
      exact⟨e',a'',w₅,hq,.of_steps sback harr⟩
  | panicked chain =>
    have hl:(lone fr (b.atR {a with defers:=mark++a.defers} (.inRangeFunc l::k)::cs) w₃).fenced P (rF none):=fenced_leaving (n:=0) trivial m8 hleave
    refine⟨.panic chain,_,w₃,hR,.inRangeFunc l::k,.head h0 henter (StepsIn.trans hsteps (.one hl ?_))⟩
    rw [←Frame.raise_atR];exact step_leave_panicked hleave
theorem qR {f0:FuncId} {x y:Code} (h:At w0 X0 n E st (Pw ds (jI P f0 x (Exit.then (jI P f0 y Q) Q)))):At w0 X0 n E st (Pw ds (jI P f0 (.seq x y) Q)):=fun a w hr=>QI (h a w hr)
theorem IS {f0 id:Nat} {c:Code} (h:At w0 X0 n E st (Pw ds (jI P f0 c (Exit.inBlock id Q)))):At w0 X0 n E st (Pw ds (jI P f0 (.block id c) Q)):=fun a w hr=>QF (h a w hr)
theorem qQ {f0:FuncId} {c:Code} (h:At w0 X0 n E st (Pw ds (c.wpIn (rF none) 0 P Q))):At w0 X0 n E st (Pw ds (jI P f0 c Q)):=fun a w hr=>QG (h a w hr)
theorem IY {f0:FuncId} {g:Operand} {ps:List Tmp} {assign body c:Code} {f:FuncId} {fn:Func} {cs:List A} {idsB:List Nat} {n':Nat} (ids:List Nat) (Ek:Ev) (hI:w0.ids=idsB) (hs:(idsB.all (eE ids))=true) (hE:le E Ek) (hids:lN ids Ek=true)
    (hg:ev E g=some (.fn (.func f) [] cs)) (hf:P.funcs[f]? =some fn) (hb:fn.body=some c) (hn:fn.ntmps=n') (hname:(fn.name== "runtime.NumGoroutine")=false) (ha:cs.length+1≤n')
    (h:∀w1 l D rc,Rg w0 w1 ids l D rc n Ek ps assign body .ready none→rc.fn=f0→At w1 X0 n' (jA (yv l::cs) 0) st (Pw [] (c.wpIn (rF none) 0 P (bodyPostM (rF none) 0 P fn (rangePost (rF none) 0 P l Q (Act.wd (gz D::ds) ⟨rc.tmps, []⟩)))))):
    At w0 X0 n E st (Pw ds (jI P f0 (Code.rangeFunc g ps.toArray assign body) Q)):=by
  rintro a w ⟨β,X,hr⟩
  show jI P f0 (Code.rangeFunc g ps.toArray assign body) Q (a.wd ds) w
  refine QH ?_
  obtain⟨vs,rc,W1,g2,g3,hrt,hrf,w1,hrg,hrel⟩:=Gl (P:=P) (fn:=fn) (n':=n') f0 ids Ek ps assign body hI hs hE hids hg ha hn hr
  refine⟨w.heap.size+1, [{target:= .collected w.heap.size,args:= #[]}],W1, {target:= .fn (.func f) vs.toArray,args:= #[.func (.yield (w.heap.size+1)) #[] #[]]},W1,f,
    #[.func (.yield (w.heap.size+1)) #[] #[]]++vs.toArray,W1,g2,?_,?_,?_⟩
  · simp only [resolve, vP, g3]
    simp [go_sem]
  · simp [invoke,go_sem,AW hf hb hname]
  · rw [HP hr.defers, ← hrt]
    exact callsIn_of_wp_marks hf hb trivial (mA (h _ _ _ rc hrg hrf _ W1 hrel))
theorem KF {f:FuncId} {fn:Func} {c:Code} {args:List A} {s0:St} {R:A→St→Prop} {pn:Value→Prop} (hf:P.funcs[f]? =some fn) (hb:fn.body=some c)
    (hn:fn.ntmps=n) (hname:(fn.name== "runtime.NumGoroutine")=false) (ha:args.length≤n)
    (h:∀w0 X0,w0.ids=s0.os.map Prod.fst→w0.sus= []→At w0 X0 n (jA args 0) s0 (Pw [] (jI P f c (bodyPostM (rF none) 0 P fn (ot w0 X0 R pn))))):lf P f args s0 R pn:=by
  intro w X β us hd hX hgl ho hi hv
  have hl:=fb hv
  refine⟨⟨fn,hf,by simp [hb],hname⟩,(callsIn_wide (n:=0)).1 (Jk hf hb (mA (h (bw w β s0 hd) X rfl rfl _ w ⟨β,X,.of (fun _ _ h=>h) (fun _ _ h=> .inl h) (.of ⟨rfl,rfl,rfl,Nat.le_refl _,fun _ _ _=>rfl,fun s hs=>by cases hs⟩ (dE.refl β) hX hd ho hi) hgl ?_ rfl (fun s hs=>by cases hs) (fun t v ht=>?_)⟩)))⟩
  · simp [hn];omega
  · obtain ⟨_, h2⟩ := nC _ _ _ _ ht
    simp only [Nat.sub_zero]at h2
    obtain⟨u,g1,g2⟩:=iO hv h2
    have hlt:=(List.getElem?_eq_some_iff.1 g1).1
    refine⟨u,?_,g2⟩
    rw [Array.getElem?_append,if_pos aZ]
    simpa using g1
end
end Go.Abs
-- Abs3
namespace Go.Abs
open Go Go.Eng Go.MapKept
instance {b:Nat} {f:Int→Option Value}:IsPure (.mc b f):=⟨by simp only [Pure]⟩
def qM (F:Int→Option Value):A→St→Prop:=fun r st=>∃b,r= .raw (.map (some b))∧st.get ec=some [.mc b F]
theorem OB.Fx {β:Bm} {X:Xs} {w:World} {w0:Bw} {b:Nat} {F:Int→Option Value} (h:OB β X w w0 ec [.mc b F]):β ec=some (.mp b)∧w0.own b∧(∀o,¬X b o)∧∃es clk,w.heap[b]? =some (.map es clk)∧fG es clk F:=by
  unfold OB at h
  cases hb:β ec with
  |none=>rw [hb]at h;exact h.elim
  | some y =>
    rw [hb]at h
    cases y with
    |ph=>cases h
    | bk q N =>
      obtain⟨_,_,us,rest,ty,_,_,h5,_⟩:=h
      simp only [VS,V]at h5
      obtain⟨_,_,_,h,_⟩:=h5
      exact h.elim
    | mp q =>
      obtain⟨_,h1,h2,g,es,clk,e,h4,h5⟩:=h
      simp only [List.cons.injEq,A.mc.injEq,and_true]at e
      obtain⟨e1,e2⟩:=e
      subst e1;subst e2
      exact⟨rfl,h1,h2,es,clk,h4,h5⟩
section
variable {P:Program} {w0:Bw} {X0:Xs} {n:Nat} {E:Ev} {st:St} {K:Act→World→Prop} {Q:Exit→Act→World→Prop}
theorem MF {F : Int → Option Value} {d : Nat} {f : FuncId} {x : Operand} {xs : List Operand} {fs cs vs vs' : List A} {ats : Array TypeId} {ty : TypeId} {pos aft' g} (hx : ev E x = some (.fn (.func f) fs cs)) (hxs : fx E xs = some vs) (hv : cK st ⟨[]⟩ false (fs ++ vs ++ cs) vs')
    (hc:bU P f vs' (qM F)) (hfr:st.free ec=true) (hd:Nat.ble (d+1) n=true) (h:∀b,At w0 X0 n ((d,.raw (.map (some b)))::E) (st.put ec [.mc b F]) K):
    At w0 X0 n E st (fun a w=>(⟨some d,.call {callee:= .value x,args:=xs.toArray,argTypes:=ats},ty,pos,aft',g⟩:Oper).wp P a w K Q):=by
  rintro a w ⟨β,X,hr⟩
  refine oB hr hx hxs (s0:=⟨[]⟩) trivial hv hc fun v w' ⟨r,β',X',st',hR,hsup,hsub,hm,hvv⟩=>?_
  obtain⟨b,rfl,hg⟩:=hR
  obtain⟨m1,m2,m3,m4,m6⟩:=hm.after hr (fun id cs h=>by cases h) hsub hsup (upds:= []) (fun p hp=>by cases hp)
  rw [sR]at m1
  have hnx:=hr.mem.dom ec hfr
  obtain⟨hβ,o1,o2,es,clk,hb,hF⟩:=(hm.obj ec _ hg).Fx
  have o1:w.heap.size≤b:=by
    rcases o1 with h|⟨id',cs',h,_⟩
    · exact h
    · cases h
  have hnX:∀o,¬(X b o∨(X' b o∧(bw w (er ⟨[]⟩ β) ⟨[]⟩ fC).own b)):=fun o h=>by
    rcases h with h|⟨h,_⟩
    · exact o2 o (hsup b o (.inl h))
    · exact o2 o h
  have m5 : Mem w0 (dS β ec (.mp b)) (fun b o => X b o ∨ (X' b o ∧ (bw w (er ⟨[]⟩ β) ⟨[]⟩ fC).own b)) (st.put ec [.mc b F]) w' := by
    refine .of (m1.below) (fun k y h=>(en hnx) k y (m1.b0 k y h)) (m1.xlt) (fun k h=>?_) (fun k es hk=>?_) (fun i j ci cj q M N' hij hi hj hbi hbj=>?_)
    · rw [St.gF] at h
      split at h
      · cases h
      · rename_i hne
        rw [dV (fun e=>hne e.symm)]
        exact hr.mem.dom k h
    · rw [St.ef] at hk
      split at hk
      · rename_i e; subst e
        simp only [Option.some.injEq]at hk
        subst hk
        unfold OB
        rw [dA]
        exact⟨rfl,Bw.mr hr.mem.below o1,hnX,F,_,clk,rfl,hb,hF⟩
      · refine (m1.obj k es hk).later (fun _ _ h => ⟨h, rfl⟩) (en hnx) (fun q M hq => ⟨rfl, ?_⟩) fun q hq => ⟨rfl, ((m1.obj k es hk).gB hq).2.2.1⟩
        have hk':=m1.obj k es hk
        unfold OB at hk'
        rw [hq]at hk'
        exact hk'.2.1
    · rw [St.ef] at hi hj
      by_cases ei:ec=i
      · subst ei;rw [dA]at hbi;cases hbi
      · rw [if_neg ei] at hi
        rw [dV (fun e=>ei e.symm)]at hbi
        by_cases ej:ec=j
        · subst ej;rw [dA]at hbj;cases hbj
        · rw [if_neg ej] at hj
          rw [dV (fun e=>ej e.symm)]at hbj
          exact hr.mem.inj i j ci cj q M N' hij hi hj hbi hbj
  have hv':v= .map (some b):=by simpa only [V]using hvv
  exact h b _ _ ⟨_,_,hr.jT hd m2 m3 (en hnx) m5 (by simp only [V];exact hv')⟩
theorem wL {F:Int→Option Value} {d:Nat} {f:FuncId} {xs:List Operand} {vs vs':List A} {ats:Array TypeId} {ty:TypeId} {pos aft' g} (hxs:fx E xs=some vs) (hv:cK st ⟨[]⟩ false vs vs')
    (hc:bU P f vs' (qM F)) (hfr:st.free ec=true) (hd:Nat.ble (d+1) n=true) (h:∀b,At w0 X0 n ((d,.raw (.map (some b)))::E) (st.put ec [.mc b F]) K):
    At w0 X0 n E st (fun a w=>(⟨some d,.call {callee:= .value (.func f),args:=xs.toArray,argTypes:=ats},ty,pos,aft',g⟩:Oper).wp P a w K Q):=
  MF (fs:= []) (cs:= []) rfl hxs aU hc hfr hd h
end
section
variable {P:Program} {w0:Bw} {X0:Xs} {n:Nat} {E:Ev} {st:St} {K:Act→World→Prop} {Q:Exit→Act→World→Prop}
theorem FC {d:Nat} {t e t' ty:TypeId} {x y:Operand} {m:Nat} {cs:List A} {pos b6 g} (ht:P.underlying t=some (.slice e)) (hx:ev E x=some (.fz m cs)) (hy:ev E y=some .nl) (hd:Nat.ble (d+1) n=true)
    (h:∀q,At w0 X0 n ((d,.b q)::E) st K):At w0 X0 n E st (fun a w=>(⟨some d,.binOp .eql t x y t',ty,pos,b6,g⟩:Oper).wp P a w K Q):=by
  rintro a w ⟨β,X,hr⟩
  obtain⟨h1,h2⟩:=hr.c9 hx
  obtain⟨h3,h4⟩:=hr.c9 hy
  simp only [V]at h2 h4
  obtain⟨ad,cap,g1,_⟩:=h2
  rw [g1]at h1;rw [h4]at h3
  have hrun:=(Eng.ya (P:=P) (n:=a.tmps.size) (S:= [w]) (H:= []) (t':=t') (ty:=ty) ht h1 h3) (some d) pos b6 g a w (gq a hr.defers) (Eng.Good.start w)
  unfold Oper.wp
  rw [hrun]
  exact h ad.isNone _ _ ⟨β,X,hr.jT hd (fun b o h=>⟨h,rfl⟩) (fun _ _ h=> .inl h) (dE.refl β) hr.mem (by simp only [V])⟩
end
def mapOf (σ:Int→Int):Int→Option Value:=fun k=>if σ k=0 then none else some (.int .i64 (σ k))
def kD (σ:Int→Int) (k v:Int):Int→Int:=fun j=>if j=k then v else σ j
theorem Mu:(fun _=>none:Int→Option Value)=mapOf (fun _=>0):=by funext k;simp [mapOf]
theorem wG (σ:Int→Int) (k:Int):(mapOf σ k).getD (.int .i64 0)= .int .i64 (σ k):=by
  unfold mapOf
  split
  · rename_i h;rw [h];rfl
  · rfl
theorem Mv {σ:Int→Int} {k v:Int} (h:v≠0):j3 (mapOf σ) k (.int .i64 v)=mapOf (kD σ k v):=by
  funext j
  unfold j3 mapOf kD
  by_cases e:j=k
  · simp [e,h]
  · simp [e]
theorem Mt {σ:Int→Int} {k v:Int} (h:v=0):nM (j3 (mapOf σ) k (.int .i64 v)) k=mapOf (kD σ k v):=by
  funext j
  unfold nM j3 mapOf kD
  by_cases e:j=k
  · simp [e,h]
  · simp [e]
end Go.Abs
-- E5P
namespace Go.Abs.D2
open Go Go.Eng Go.Abs
structure Ch where
  id:Int
  st:Int
def Ch.cells (c:Ch):List A:= [.i .i64 c.id,.i .i64 c.st]
def gU (l:List Ch):List A:=l.flatMap Ch.cells
abbrev eo (l:List Ch):A:= .fz l.length (gU l)
structure Ep where
  iss:Int
  no:Int
  day:Int
  ch:List Ch
  dc:List UInt8
  prev:List UInt8
  sg:Lf
def Ep.cells (e:Ep):List A:= .i .i64 e.iss:: .i .i64 e.no:: .i .i64 e.day::eo e.ch::(e.dc.map u8++(e.prev.map u8++ [.i .i64 e.sg.a,cM e.sg.S,cM e.sg.P]))
def fm (l:List Ep):List A:=l.flatMap Ep.cells
abbrev eS (l:List Ep):A:= .fz l.length (fm l)
instance {c:Ch}:fX c.cells:=by unfold Ch.cells;infer_instance
instance {l:List Ch}:fX (gU l):=by unfold gU;infer_instance
instance {e:Ep}:fX e.cells:=by unfold Ep.cells;infer_instance
instance {l:List Ep}:fX (fm l):=by unfold fm;infer_instance
def rg (n:Int):Prop:= -9223372036854775808≤n∧n≤9223372036854775807
structure Ep.ok (e:Ep):Prop where
  iss:rg e.iss
  no:rg e.no
  day:rg e.day
  ch:∀c∈e.ch,rg c.id∧rg c.st
  g9:e.ch.length≤1000
  dc:e.dc.length=32
  prev:e.prev.length=32
  S:cg e.sg.S
  P:cg e.sg.P
def fK (l:List Ep):Prop:=∀e∈l,e.ok
@[simp] theorem Ch.len (c:Ch):c.cells.length=2:=rfl
theorem Ep.ok.len {e:Ep} (h:e.ok):e.cells.length=71:=by simp [Ep.cells,h.dc,h.prev]
theorem Ep.ok.all {e:Ep} (h:e.ok):e.cells.take 71=e.cells:=List.take_of_length_le (by rw [h.len];omega)
@[simp] theorem L7 (l : List Ch) : (gU l).length = l.length * 2 := by
  unfold gU
  induction l with
  |nil=>rfl
  |cons c l ih=>rw [List.flatMap_cons,List.length_append,ih,List.length_cons,Ch.len];omega
theorem kK {l:List Ep} (h:fK l):(fm l).length=l.length*71:=by
  unfold fm
  induction l with
  |nil=>rfl
  |cons e l ih=>rw [List.flatMap_cons,List.length_append,ih (fun x hx=>h x (.tail _ hx)),List.length_cons,(h e (.head _)).len];omega
theorem s9 {l:List Ch} {i:Nat} {c:Ch} (h:l[i]? =some c):((gU l).drop (i*2)).take 2=c.cells:=by
  unfold gU
  induction l generalizing i with
  |nil=>simp at h
  | cons d l ih =>
    rw [List.flatMap_cons]
    cases i with
    |zero=>simp at h;subst h;rfl
    |succ i=>rw [show(i+1)*2=d.cells.length+i*2 by rw [Ch.len];omega, ←List.drop_drop,List.drop_left];exact ih aO
theorem kI {l:List Ep} {i:Nat} {e:Ep} (hl:fK l) (h:l[i]? =some e):((fm l).drop (i*71)).take 71=e.cells:=by
  unfold fm
  induction l generalizing i with
  |nil=>simp at h
  | cons d l ih =>
    rw [List.flatMap_cons]
    have hd:=(hl d (.head _)).len
    cases i with
    |zero=>simp at h;subst h;rw [Nat.zero_mul,List.drop_zero,List.take_left' hd]
    |succ i=>rw [show(i+1)*71=d.cells.length+i*71 by rw [hd];omega, ←List.drop_drop,List.drop_left];exact ih (fun x hx=>hl x (.tail _ hx)) aO
theorem fw {l:List Ep} {i:Nat} {e:Ep} (hl:fK l) (h:l[i]? =some e) {k:Nat} {v:A} (hv:e.cells[k]? =some v) (hk:k<71):(((fm l).drop (i*71)).drop k)[0]? =some v:=by
  have e1:(((fm l).drop (i*71)).take 71)[k]? =some v:=by rw [kI hl h];exact hv
  rw [List.getElem?_take,if_pos hk]at e1
  rw [List.getElem?_drop,Nat.add_zero];exact e1
theorem oD {e:Ep} (h:e.ok):(e.cells.drop 4).take 32=e.dc.map u8:=by
  show(e.dc.map u8++_).take 32=_
  rw [List.take_left' (by rw [List.length_map,h.dc])]
theorem DE {e:Ep} (h:e.ok):e.cells.drop 36=e.prev.map u8++ [.i .i64 e.sg.a,cM e.sg.S,cM e.sg.P]:=by
  show(e.dc.map u8++_).drop 32=_
  rw [List.drop_left' (by rw [List.length_map,h.dc])]
theorem jP {e:Ep} (h:e.ok):(e.cells.drop 36).take 32=e.prev.map u8:=by
  rw [DE h,List.take_left' (by rw [List.length_map,h.prev])]
theorem zL {e:Ep} (h:e.ok):e.cells.drop 68= [.i .i64 e.sg.a,cM e.sg.S,cM e.sg.P]:=by
  rw [show 68=36+32 from rfl, ←List.drop_drop,DE h,List.drop_left' (by rw [List.length_map,h.prev])]
theorem tH {e:Ep} (h:e.ok):(e.cells.drop 68)[0]? =some (.i .i64 e.sg.a):=by rw [zL h];rfl
def ga (c:Ch):CV:=eT [dB c.id,dB c.st]
def jk (e:Ep):CV:=eT [dB e.iss,dB e.no,dB e.day,eT (e.ch.map ga),fh e.dc,fh e.prev]
theorem M5 (c:Ch):(ga c).okB=true:=qg fun v hv=>by
  simp only [List.mem_cons,List.not_mem_nil,or_false]at hv
  rcases hv with rfl|rfl
  · exact qf _
  · exact qf _
theorem FX (e:Ep):(jk e).okB=true:=qg fun v hv=>by
  simp only [List.mem_cons,List.not_mem_nil,or_false]at hv
  rcases hv with rfl|rfl|rfl|rfl|rfl|rfl
  · exact qf _
  · exact qf _
  · exact qf _
  · exact qg fun v hv=>by obtain⟨c,_,rfl⟩:=List.mem_map.1 hv;exact M5 c
  · exact wX _
  · exact wX _
theorem Kh (e : Ep) : (jk e).depth ≤ 16 := by
  refine Nat.le_trans (pN (d:=2) fun v hv=>?_) aq
  simp only [List.mem_cons,List.not_mem_nil,or_false]at hv
  rcases hv with rfl|rfl|rfl|rfl|rfl|rfl
  · rw [pM];omega
  · rw [pM];omega
  · rw [pM];omega
  · exact pN (d:=1) fun v hv=>by
      obtain⟨c,_,rfl⟩:=List.mem_map.1 hv
      exact pN (d:=0) fun v hv=>by
        simp only [List.mem_cons,List.not_mem_nil,or_false]at hv
        rcases hv with rfl|rfl
        · rw [pM];exact Nat.le_refl _
        · rw [pM];exact Nat.le_refl _
  · rw [vE];omega
  · rw [vE];omega
theorem OC {c:Ch} (h:rg c.id∧rg c.st):(ga c).il=true:=qt fun v hv=>by
  simp only [List.mem_cons,List.not_mem_nil,or_false]at hv
  rcases hv with rfl|rfl
  · exact qq h.1.1 h.1.2
  · exact qq h.2.1 h.2.2
theorem GI {e:Ep} (h:e.ok):(jk e).il=true:=qt fun v hv=>by
  simp only [List.mem_cons,List.not_mem_nil,or_false]at hv
  rcases hv with rfl|rfl|rfl|rfl|rfl|rfl
  · exact qq h.iss.1 h.iss.2
  · exact qq h.no.1 h.no.2
  · exact qq h.day.1 h.day.2
  · exact qt fun v hv=>by obtain⟨c,hc,rfl⟩:=List.mem_map.1 hv;exact OC (h.ch c hc)
  · exact xE _
  · exact xE _
theorem KD {c:Ch} (h:rg c.id∧rg c.st):(ga c).enc.length≤36:=by
  have q:=pQ (l:= [dB c.id,dB c.st]) aA
  have q1:=pP h.1.1 h.1.2
  have q2:=pP h.2.1 h.2.2
  simp only [CV.dQ,List.length_append,List.length_nil]at q
  show(eT _).enc.length≤_
  omega
theorem tE {e:Ep} (h:e.ok):(jk e).enc.length≤40000:=by
  have hf:=h.g9
  have q:=pQ (l:= [dB e.iss,dB e.no,dB e.day,eT (e.ch.map ga),fh e.dc,fh e.prev]) aA
  have q1:=pP h.iss.1 h.iss.2
  have q2:=pP h.no.1 h.no.2
  have q3:=pP h.day.1 h.day.2
  have q4:=pQ (l:=e.ch.map ga) (by rw [List.length_map];omega)
  have q5:=zG (l:=e.ch.map ga) (k:=36) fun v hv=>by obtain⟨c,hc,rfl⟩:=List.mem_map.1 hv;exact KD (h.ch c hc)
  have q6:=vL (s:=e.dc) (by rw [h.dc];omega)
  have q7:=vL (s:=e.prev) (by rw [h.prev];omega)
  rw [List.length_map]at q5
  have:=h.dc
  have:=h.prev
  simp only [CV.dQ,List.length_append,List.length_nil]at q
  show(eT _).enc.length≤_
  omega
theorem Hn {e:Ep} (h:e.ok):(jk e).size≤1000000:=by
  have h1:=CV.A6 (jk e).size (jk e) (Nat.le_refl _) (FX e)
  have h2:=tE h
  omega
theorem Dy (e:Ep):oC (jk e)= .tu [.fz (jk e).enc.length ((jk e).enc.map u8),.i .i64 0]:=rn (y7 (FX e) (by have:=Kh e;omega))
abbrev xP:List UInt8:= [101,112,111,99,104]
@[irreducible] def dX (e:Ep):List UInt8:=tagged xP (jk e).enc
theorem tr (e:Ep):dX e=tagged xP (jk e).enc:=by unfold dX;rfl
@[simp] theorem L8 (e:Ep):(dX e).length=32:=by rw [tr];simp
theorem CA {l:List Ch} {i:Nat} {c:Ch} (h:l[i]? =some c):CV.dt ((l.take i).map ga)++CV.cells (ga c)=CV.dt ((l.take (i+1)).map ga):=by
  rw [CV.q8,CV.q8,List.take_add_one,h];simp
theorem zl {x:List UInt8} (hx:x.length=32):A.fz 32 (((x.map u8).drop (0*1)).take (32*1))= .fz x.length (x.map u8):=by
  rw [Nat.zero_mul,List.drop_zero,List.take_of_length_le (by rw [List.length_map,hx];omega),hx]
def fF (σ:Int→Int) (last:Int) (c:Ch):Bool:=(((decide (last<c.id)&&decide (c.id<1024))&&decide (0≤c.st))&&decide (c.st≤4))&&((c.st !=σ c.id)&&(σ c.id !=2))
def eH (σ:Int→Int) (last:Int):List Ch→Bool
  | []=>true
  |c::r=>fF σ last c&&eH (kD σ c.id c.st) c.id r
theorem Jz {σ:Int→Int} {la:Int} {c:Ch} (h:(((decide (c.id>la)&&decide (c.id<1024))&&decide (c.st≥0))&&decide (c.st≤4))=false):fF σ la c=false:=by
  unfold fF
  rw [show(((decide (la<c.id)&&decide (c.id<1024))&&decide (0≤c.st))&&decide (c.st≤4))=false from h];rfl
theorem JA {σ:Int→Int} {la:Int} {c:Ch} (h:((c.st !=σ c.id)&&(σ c.id !=2))=false):fF σ la c=false:=by
  unfold fF;rw [h,Bool.and_false]
theorem Ct {σ:Int→Int} {la:Int} {c:Ch} (h1:(((decide (c.id>la)&&decide (c.id<1024))&&decide (c.st≥0))&&decide (c.st≤4))=true) (h2:((c.st !=σ c.id)&&(σ c.id !=2))=true):fF σ la c=true:=by
  unfold fF
  rw [show(((decide (la<c.id)&&decide (c.id<1024))&&decide (0≤c.st))&&decide (c.st≤4))=true from h1,h2];rfl
def cv (σ:Int→Int):List Ch→Int→Int
  | []=>σ
  |c::r=>cv (kD σ c.id c.st) r
theorem Cy {σ:Int→Int} {last:Int} {l:List Ch} {i:Nat} {c:Ch} (h:l[i]? =some c) (hb:fF σ last c=false):eH σ last (l.drop i)=false:=by
  rw [List.drop_eq_getElem_cons (List.getElem?_eq_some_iff.1 h).1,(List.getElem?_eq_some_iff.1 h).2,eH,hb];rfl
theorem Cz {σ:Int→Int} {last:Int} {l:List Ch} {i:Nat} {c:Ch} (h:l[i]? =some c) (hb:fF σ last c=true):eH σ last (l.drop i)=eH (kD σ c.id c.st) c.id (l.drop (i+1)):=by
  rw [List.drop_eq_getElem_cons (List.getElem?_eq_some_iff.1 h).1,(List.getElem?_eq_some_iff.1 h).2,eH,hb];rfl
theorem CE {σ:Int→Int} {l:List Ch} {i:Nat} {c:Ch} (h:l[i]? =some c):cv σ (l.drop i)=cv (kD σ c.id c.st) (l.drop (i+1)):=by
  rw [List.drop_eq_getElem_cons (List.getElem?_eq_some_iff.1 h).1,(List.getElem?_eq_some_iff.1 h).2,cv]
def eR (iss:Int) (no:Nat) (day:Int) (prev:List UInt8) (e:Ep):Bool:=((e.iss==iss&&decide (0≤e.iss))&&decide (e.iss<8))&&(((e.no==(no:Int))&&(e.sg.a==(no:Int)))&&(e.prev==prev))&&(decide (day<e.day)&&decide (e.day<1024))
theorem LC (a q:Int):a≠q∨(a=q∧a<0)∨(a=q∧0≤a∧8≤a)∨(a=q∧0≤a∧a<8):=by omega
theorem zK {iss:Int} {no:Nat} {day:Int} {prev:List UInt8} {e:Ep} (h:¬(e.iss=iss∧0≤e.iss∧e.iss<8)):eR iss no day prev e=false:=by
  cases hb:eR iss no day prev e with
  |false=>rfl
  |true=>unfold eR at hb;simp only [Bool.and_eq_true,decide_eq_true_eq,beq_iff_eq]at hb;omega
theorem KI {iss:Int} {no:Nat} {day:Int} {prev:List UInt8} {e:Ep} (h:e.no=(no:Int)→e.sg.a=(no:Int)→¬e.prev=prev):eR iss no day prev e=false:=by
  cases hb:eR iss no day prev e with
  |false=>rfl
  |true=>unfold eR at hb;simp only [Bool.and_eq_true,decide_eq_true_eq,beq_iff_eq]at hb;exact absurd hb.1.2.2 (h hb.1.2.1.1 hb.1.2.1.2)
theorem KJ {iss:Int} {no:Nat} {day:Int} {prev:List UInt8} {e:Ep} (h:day<e.day→1024≤e.day):eR iss no day prev e=false:=by
  cases hb:eR iss no day prev e with
  |false=>rfl
  |true=>unfold eR at hb;simp only [Bool.and_eq_true,decide_eq_true_eq,beq_iff_eq]at hb;omega
theorem KK {iss e0:Int} {no:Nat} {day:Int} {prev:List UInt8} {e:Ep} (h0:iss=e0) (h:e.iss=e0∧0≤e.iss∧e.iss<8) (h2:(e.no=(no:Int)∧e.sg.a=(no:Int))∧e.prev=prev) (h3:day<e.day∧e.day<1024):eR iss no day prev e=true:=by
  unfold eR;simp only [Bool.and_eq_true,decide_eq_true_eq,beq_iff_eq]
  exact⟨⟨⟨⟨by omega,h.2.1⟩,h.2.2⟩,h2⟩,h3⟩
def gh (iss:Int):Nat→Int→List UInt8→(Int→Int)→List Ep→Option (Int→Int)
  |_,_,_,σ, []=>some σ
  |no,day,prev,σ,e::r=>if eR iss no day prev e&&eH σ (-1) e.ch then gh iss (no+1) e.day (dX e) (cv σ e.ch) r else none
def mj:List Ep→Int
  | []=>0
  |e::_=>e.iss
abbrev σ0:Int→Int:=fun _=>0
@[irreducible] def eC (l:List Ep):Option (Int→Int):=gh (mj l) 0 (-1) zD σ0 l
theorem pS (l:List Ep):eC l=gh (mj l) 0 (-1) zD σ0 l:=by unfold eC;rfl
theorem EE {l:List Ep} {e:Ep} (h:l[0]? =some e):mj l=e.iss:=by
  cases l with
  |nil=>cases h
  |cons a l=>simp at h;subst h;rfl
theorem gG {iss:Int} {no:Nat} {day:Int} {prev:List UInt8} {σ:Int→Int} {l:List Ep} {i:Nat} {e:Ep} (h:l[i]? =some e) (hb:eR iss no day prev e=false∨eH σ (-1) e.ch=false):gh iss no day prev σ (l.drop i)=none:=by
  rw [List.drop_eq_getElem_cons (List.getElem?_eq_some_iff.1 h).1,(List.getElem?_eq_some_iff.1 h).2,gh]
  rcases hb with hb|hb
  · rw [hb,if_neg aA]
  · rw [hb,if_neg aA]
theorem zZ {iss:Int} {no:Nat} {day:Int} {prev:List UInt8} {σ:Int→Int} {l:List Ep} {i:Nat} {e:Ep} (h:l[i]? =some e) (hb:eR iss no day prev e=true) (hc:eH σ (-1) e.ch=true):
    gh iss no day prev σ (l.drop i)=gh iss (no+1) e.day (dX e) (cv σ e.ch) (l.drop (i+1)):=by
  rw [List.drop_eq_getElem_cons (List.getElem?_eq_some_iff.1 h).1,(List.getElem?_eq_some_iff.1 h).2,gh,hb,hc,if_pos aA]
@[irreducible] def fc (r:List UInt8) (n:Int) (l:List Ep):Int:=if(eC l).isSome then (if l.all (fun e=>gx r n (dX e) e.sg.a e.sg.S e.sg.P)then 0 else 60)else 351
theorem s8 {r:List UInt8} {n:Int} {l:List Ep} (h:eC l=none):fc r n l=351:=by unfold fc;rw [h];rfl
theorem vz {r:List UInt8} {n:Int} {l:List Ep} {σ:Int→Int} (h:eC l=some σ) {e:Ep} (he:e∈l) (hv:gx r n (dX e) e.sg.a e.sg.S e.sg.P=false):fc r n l=60:=by
  unfold fc
  rw [h,if_pos (show(some σ).isSome=true from rfl),if_neg]
  intro hall
  rw [List.all_eq_true.1 hall e he]at hv;cases hv
theorem vB {r:List UInt8} {n:Int} {l:List Ep} {σ:Int→Int} (h:eC l=some σ) (hv:∀e∈l,gx r n (dX e) e.sg.a e.sg.S e.sg.P=true):fc r n l=0:=by
  unfold fc
  rw [h,if_pos (show(some σ).isSome=true from rfl),if_pos (List.all_eq_true.2 hv)]
abbrev ku (T:Nat) (e:Int):Value:= .iface T (.agg #[.int .i64 e])
theorem yx {X:Xs} {w:World} {β:Bm} (T:Nat) (e:Int):V X w β (.ic T (.ag [.i .i64 e])) (ku T e):=by
  simp only [V,VS]
  exact⟨_,rfl, [.int .i64 e],rfl,⟨_,_,rfl,rfl,rfl⟩,fun x hx=>by rw [List.mem_singleton.1 hx];rfl⟩
theorem xd {α:Type} (o:Option α):o=none∨∃a,o=some a:=by cases o<;>simp
theorem ze (r:List UInt8) (n:Int) (l:List Ep):fc r n l≠0∨∃σ,eC l=some σ∧fc r n l=0:=by
  rcases xd (eC l)with h|⟨σ,h⟩
  · exact .inl (by rw [s8 h];decide)
  · by_cases h0 : fc r n l = 0
    · exact .inr ⟨σ,h,h0⟩
    · exact .inl h0
theorem yG {l:List Ep} {i:Nat} {e:Ep} {p:Ep→Bool} (h:l[i]? =some e) (ha:∀x∈l.take i,p x=true) (he:p e=true):∀x∈l.take (i+1),p x=true:=fun x hx=>by
  rw [List.take_add_one,h]at hx
  rcases List.mem_append.1 hx with hx|hx
  · exact ha x hx
  · rw [List.mem_singleton.1 hx];exact he
theorem vN {e:Ep} (h:e.ok):(e.cells.drop 68).take 3= [.i .i64 e.sg.a,cM e.sg.S,cM e.sg.P]:=by rw [zL h];rfl
end Go.Abs.D2
-- E5B
namespace Go.Abs
structure ae (l : List Nat) (P Q : Prop) : Prop where
 h : P → Q
structure aj (n : Nat) (P Q : Prop) : Prop where
 h : P → Q
theorem af {P : Prop} : ae [] P P := ⟨id⟩
theorem ak {P Q : Prop} (k : Nat) (h : P → Q) : aj k P Q := ⟨h⟩
def an : List (Nat × Nat) := [(3,1),(0,656),(0,0),(645,0),(1,0),(646,251),(645,652),(646,3),(656,645),(656,3),(675,9),(26,167),(749,251),(1,647),(749,3),(646,661),(645,647),(646,645),(647,647),(646,648),(648,646),(6,6),(749,9),(724,21),(681,645),(645,555),(647,0),(655,645),(646,168),(3,661),(681,3),(52,801),(12,732),(165,777),(706,645),(661,0),(52,167),(0,26),(687,645),(687,3),(26,776),(682,801),(792,167),(725,725),(645,68),(652,697),(643,8),(652,648),(788,788),(43,779),(3,665),(7,7),(645,667),(650,4),(3,648),(724,790),(332,21),(650,15),(659,3),(682,776),(647,725),(646,326),(645,650),(663,692),(668,4),(694,675),(681,648),(5,724),(645,559),(37,782),(650,21),(0,7),(52,776),(556,8),(687,778),(654,697),(655,665),(687,648),(92,777),(656,251),(12,12),(0,657),(654,648),(1,13),(289,10),(828,468),(821,821),(647,688),(557,558),(687,707),(100,724),(814,750),(26,801),(102,22),(646,9),(57,0),(893,791),(894,796),(565,830),(666,797),(713,70),(898,815),(825,825),(786,832),(65,656),(656,648),(707,790),(579,580),(601,602),(11,706),(803,783),(645,55),(661,715),(658,0),(270,816),(26,54),(1,667),(561,8),(7,646),(708,714),(19,646),(900,10),(901,750),(754,799),(833,755),(49,646),(681,661),(147,668),(903,642),(904,716),(392,392),(836,818),(647,7),(648,650),(656,168),(666,788),(54,167),(656,326),(820,572),(577,578),(607,608),(648,460),(803,10),(14,14),(10,10),(701,800),(775,775),(835,554),(781,649),(576,149),(614,615),(866,288),(693,788),(820,571),(751,15),(21,701),(793,818),(867,391),(289,666),(564,6),(838,575),(841,35),(844,623),(849,806),(856,630),(861,808),(865,634),(666,567),(874,637),(645,560),(887,827),(0,173),(892,640),(129,682),(524,524),(837,144),(644,176),(581,582),(586,587),(800,800),(819,819),(562,666),(871,810),(63,63),(780,14),(99,724),(889,569),(668,42),(895,798),(553,328),(834,328),(781,1),(789,570),(573,574),(2,706),(839,778),(840,824),(805,621),(842,307),(843,622),(795,616),(845,617),(846,618),(847,619),(848,620),(807,624),(850,794),(851,625),(852,626),(853,627),(854,628),(855,629),(785,609),(857,610),(858,611),(859,612),(860,613),(809,631),(862,784),(863,632),(864,633),(789,393),(826,563),(753,603),(868,604),(869,605),(870,606),(811,635),(872,752),(873,636),(823,588),(875,589),(876,590),(877,591),(878,592),(879,593),(880,594),(881,595),(882,596),(883,597),(884,598),(885,599),(886,600),(566,812),(888,568),(813,638),(890,822),(891,639),(829,791),(802,804),(831,804),(822,583),(896,584),(897,585),(787,32),(899,789),(645,293),(817,641),(902,823),(649,525)]
theorem ai {n a b : Nat} {l : List Nat} {P R : Prop} (hn : Nat.ble 645 n = true) (_hr : an[n - 645]? = some (a, b)) (r : ae (a :: b :: l) P R) : ae (n :: l) P R := ⟨r.h⟩
theorem ae.c {n : Nat} {l : List Nat} {P Q R : Prop} (c : Nat) (_hn : n / 24 = c) (s : aj n Q R) (r : ae l P Q) : ae (n :: l) P R := ⟨fun x => s.h (r.h x)⟩
theorem ae.g0 {n : Nat} {Q R : Prop} (s : aj n Q R := by first
 | apply ak 0;exact fun y9=>s1 (bE rfl) rfl y9
 | apply ak 1;exact fun y9=>bI y9
 | apply ak 2;exact fun y9=>dq aw y9
 | apply ak 3;exact fun y9=>bG y9
 | apply ak 4;exact fun y9=>bZ (rs:= [.tmp 2]) rfl (bV rfl bW) y9
 | apply ak 5;exact fun y9=>bJ rfl (cD bR rfl rfl rfl ar ar y9)
 | apply ak 6;exact fun y9=>t1 (bE rfl) rfl y9
 | apply ak 7;exact fun y9=>g1 rfl rfl (bE rfl) rfl y9
 | apply ak 8;exact fun y9=>s1 (bM bL rfl rfl rfl) rfl y9
 | apply ak 9;exact fun y9=>cd y9
 | apply ak 10;exact fun y9=>bQ rfl rfl (bE rfl) rfl y9
 | apply ak 11;exact fun y9=>eO y9
 | apply ak 12;exact fun y9=>g0 rfl rfl rfl rfl y9
 | apply ak 13;exact fun y9=>s1 (cu bR rfl rfl ar) rfl y9
 | apply ak 14;exact fun y9=>cc rfl rfl rfl rfl y9
 | apply ak 15;exact fun y9=>bZ (rs:= [.tmp 4]) rfl (bV rfl bW) y9
 | apply ak 16;exact fun y9=>s1 (bM dU rfl rfl rfl) rfl y9
 | apply ak 17;exact fun y9=>bK 2 [] [] (bE rfl) rfl rfl y9
 | apply ak 18;exact fun y9=>bJ rfl (cD de rfl rfl rfl ar ar y9)
 | apply ak 19;exact fun y9=>s1 (cJ Tryz.underlying30 rfl rfl rfl) rfl y9
 | apply ak 20;exact fun y9=>bJ rfl (dI dU rfl rfl rfl rfl ar rfl y9)
 | apply ak 21;exact fun y9=>b5 y9
 | apply ak 22;exact fun y9=>bK 1 [] [] (bE rfl) rfl rfl y9
 | apply ak 23;exact fun y9=>t1 (bM cW rfl rfl rfl) rfl y9) : aj n Q R := s
theorem ae.g1 {n : Nat} {Q R : Prop} (s : aj n Q R := by first
 | apply ak 24;exact fun y9=>s1 ((bE rfl).v (v':= .i .i64 340) rfl) rfl y9
 | apply ak 25;exact fun y9=>s1 (cJ Tryz.underlying24 rfl rfl rfl) rfl y9
 | apply ak 26;exact fun y9=>bH y9
 | apply ak 27;exact fun y9=>s1 (iD _ _ rfl rfl) rfl y9
 | apply ak 28;exact fun y9=>bJ rfl (cI 2 rfl bR rfl rfl y9)
 | apply ak 29;exact fun y9=>s1 (bX Tryz.underlying60 rfl fD az rfl rfl) rfl y9
 | apply ak 30;exact fun y9=>dh ⟨_, [], []⟩ 11 4 cL (le_refl rfl) y9
 | apply ak 31;exact fun y9=>bK 3 [] [] (bE rfl) rfl rfl y9
 | apply ak 32;exact fun y9=>bQ rfl rfl ((bE rfl).v (v':= .b true) (congrArg A.b (decide_eq_true aq))) rfl y9
 | apply ak 33;exact fun y9=>bZ (rs:= [.tmp 8]) rfl (bV rfl bW) y9
 | apply ak 34;exact fun y9=>s1 (cJ Tryz.underlying31 rfl rfl rfl) rfl y9
 | apply ak 35;exact fun y9=>bZ (rs:= [.tmp 2,.tmp 3]) rfl (bV rfl (bV rfl bW)) y9
 | apply ak 36;exact fun y9=>bZ (rs:= [.tmp 6,.tmp 7]) rfl (bV rfl (bV rfl bW)) y9
 | apply ak 37;exact fun y9=>s1 ((bE rfl).v (v':= .b true) (rfl)) rfl y9
 | apply ak 38;exact fun y9=>dh ⟨_, [], []⟩ 7 4 cL (le_refl rfl) y9
 | apply ak 39;exact fun y9=>s1 (bM bL rfl rfl (ee hq)) rfl y9
 | apply ak 40;exact fun y9=>bZ (rs:= [.cell 2 109]) rfl (da cP rfl rfl rfl rfl bW) y9
 | apply ak 41;exact fun y9=>bJ rfl (cD bR rfl rfl rfl aA aA y9)
 | apply ak 42;exact fun y9=>bZ (rs:= [.tmp 14,.tmp 15]) rfl (bV rfl (bV rfl bW)) y9
 | apply ak 43;exact fun y9=>s1 ((bE rfl).v (v':= .b false) (rfl)) rfl y9
 | apply ak 44;exact fun y9=>s1 (kC _ Tryz.underlying198 Tryz.underlying5 rfl) rfl y9
 | apply ak 45;exact fun y9=>s1 ((bE rfl).v (v':= .i .i64 1) rfl) rfl y9
 | apply ak 46;exact fun y9=>bK 5 [] [] (bE rfl) rfl rfl y9
 | apply ak 47;exact fun y9=>bK 4 [] [] (bE rfl) rfl rfl y9) : aj n Q R := s
theorem ae.g2 {n : Nat} {Q R : Prop} (s : aj n Q R := by first
 | apply ak 48;exact fun y9=>s1 ((bE rfl).v (v':= .i .i64 330) rfl) rfl y9
 | apply ak 49;exact fun y9=>s1 (cJ Tryz.underlying41 rfl rfl rfl) rfl y9
 | apply ak 50;exact fun y9=>s1 (cu bR rfl rfl aY) rfl y9
 | apply ak 51;exact fun y9=>g1 rfl rfl (bX Tryz.underlying45 rfl bR az rfl rfl) rfl y9
 | apply ak 52;exact fun y9=>b9 y9
 | apply ak 53;exact fun y9=>bJ rfl (b7 false rfl (.cons (.pure pu) (.cons (.pure pu) .nil)) (jj 351) pu (.inl rfl) rfl y9)
 | apply ak 54;exact fun y9=>cH y9
 | apply ak 55;exact fun y9=>bJ rfl (cX 4 rfl rfl rfl y9)
 | apply ak 56;exact fun y9=>bK 6 [] [] (bE rfl) rfl rfl y9
 | apply ak 57;exact fun y9=>s1 (cu de rfl rfl ar) rfl y9
 | apply ak 58;exact fun y9=>s1 (cf i Tryz.underlying30 bL rfl rfl rfl aq rfl) rfl y9
 | apply ak 59;exact fun y9=>s1 (cu dO rfl rfl (fI hx)) rfl y9
 | apply ak 60;exact fun y9=>bZ (rs:= [.tmp 4,.tmp 5]) rfl (bV rfl (bV rfl bW)) y9
 | apply ak 61;exact fun y9=>bP 36 [33,35] [] rfl rfl (bE rfl) rfl rfl y9
 | apply ak 62;exact fun y9=>bP 46 [33,36,45] [] rfl rfl (bE rfl) rfl rfl y9
 | apply ak 63;exact fun y9=>dJ y9
 | apply ak 64;exact fun y9=>s1 (j5 rfl rfl az) rfl y9
 | apply ak 65;exact fun y9=>s1 ((bE rfl).v (v':= .i .i64 0) rfl) rfl y9
 | apply ak 66;exact fun y9=>s1 (bX Tryz.underlying55 rfl bL az rfl rfl) rfl y9
 | apply ak 67;exact fun y9=>s1 (cu cP rfl rfl (CV.jq v)) rfl y9
 | apply ak 68;exact fun y9=>bJ rfl (cX 3 rfl rfl rfl y9)
 | apply ak 69;exact fun y9=>gm 2 rfl rfl bO (dD aA rfl) y9
 | apply ak 70;exact fun y9=>bJ rfl (cI 4 rfl bR rfl rfl y9)
 | apply ak 71;exact fun y9=>s1 (dw bR rfl rfl (List.take_of_length_le aH) aH) rfl y9) : aj n Q R := s
theorem ae.g3 {n : Nat} {Q R : Prop} (s : aj n Q R := by first
 | apply ak 72;exact fun y9=>s1 (bM fD rfl rfl (nH hx)) rfl y9
 | apply ak 73;exact fun y9=>s1 (cJ Tryz.underlying58 rfl rfl rfl) rfl y9
 | apply ak 74;exact fun y9=>s1 (bX Tryz.underlying60 rfl gN az rfl rfl) rfl y9
 | apply ak 75;exact fun y9=>s1 (bM dN rfl rfl rfl) rfl y9
 | apply ak 76;exact fun y9=>bQ rfl rfl ((iq rfl rfl aq aq).v (v':=nJ (i - 1)) (congrArg (A.i .i64) aq)) rfl y9
 | apply ak 77;exact fun y9=>bZ (rs:= [.cell 4 23,.tmp 5]) rfl (da bR rfl rfl (List.take_of_length_le aA) aA (bV rfl bW)) y9
 | apply ak 78;exact fun y9=>bT 24 [23] rfl rfl rfl rfl rfl y9
 | apply ak 79;exact fun y9=>bT 25 [23,24] rfl rfl rfl rfl rfl y9
 | apply ak 80;exact fun y9=>bT 26 [23,25] rfl rfl rfl rfl rfl y9
 | apply ak 81;exact fun y9=>bP 49 [48] [(6,none)] rfl rfl (bX Tryz.underlying45 rfl bR az rfl rfl) rfl rfl y9
 | apply ak 82;exact fun y9=>bP 50 [48,49] [(6,none)] rfl rfl (dw bR rfl rfl (jP hok) (by rw [List.length_map,hok.prev])) rfl rfl y9
 | apply ak 83;exact fun y9=>bP 51 [48] [(7,none)] rfl rfl (cu bR rfl rfl aA) rfl rfl y9
 | apply ak 84;exact fun y9=>bJ rfl (b7 false rfl (.cons (.pure pu) (.cons (.pure pu) .nil)) (jj 0) pu (.inl rfl) rfl y9)
 | apply ak 85;exact fun y9=>g1 rfl rfl (bX Tryz.underlying45 rfl dN az rfl rfl) rfl y9
 | apply ak 86;exact fun y9=>g1 rfl rfl (bM dN rfl rfl rfl) rfl y9
 | apply ak 87;exact fun y9=>g1 rfl rfl ((bE rfl).v (v':= .b true) (congrArg A.b (decide_eq_true aq))) rfl y9
 | apply ak 88;exact fun y9=>s1 (cJ Tryz.underlying107 rfl rfl rfl) rfl y9
 | apply ak 89;exact fun y9=>t1 (fY _ _ rfl rfl) rfl y9
 | apply ak 90;exact fun y9=>bJ rfl (cD dO rfl rfl rfl ar ar y9)
 | apply ak 91;exact fun y9=>dP 6 (cs':=j9.map u8++ [.nl,.nl]) rfl rfl y9
 | apply ak 92;exact fun y9=>g1 rfl rfl ((bE rfl).v (v':= .b false) (rfl)) rfl y9
 | apply ak 93;exact fun y9=>gR 2 rfl qC y9
 | apply ak 94;exact fun y9=>dh ⟨_, [], []⟩ 13 4 cL (le_refl rfl) y9
 | apply ak 95;exact fun y9=>s1 (cu bR rfl rfl aA) rfl y9) : aj n Q R := s
theorem ae.g4 {n : Nat} {Q R : Prop} (s : aj n Q R := by first
 | apply ak 96;exact fun y9=>bJ rfl (cX 7 rfl rfl rfl y9)
 | apply ak 97;exact fun y9=>g1 rfl rfl (cR Tryz.underlying45 rfl bL az rfl rfl) rfl y9
 | apply ak 98;exact fun y9=>s1 (cf i Tryz.underlying107 cP rfl rfl rfl aq rfl) rfl y9
 | apply ak 99;exact fun y9=>bJ rfl (cD cP rfl rfl rfl ar ar y9)
 | apply ak 100;exact fun y9=>bJ rfl (cD bR rfl rfl rfl au au y9)
 | apply ak 101;exact fun y9=>s1 (iK 4 _ rfl rfl rfl rfl aq) rfl y9
 | apply ak 102;exact fun y9=>bK 0 [] [] (bE rfl) rfl rfl y9
 | apply ak 103;exact fun y9=>s1 (mJ _ _ rfl rfl) rfl y9
 | apply ak 104;exact fun y9=>s1 (cJ Tryz.underlying68 rfl rfl rfl) rfl y9
 | apply ak 105;exact fun y9=>s1 (sC _ Tryz.underlying183 Tryz.underlying5 rfl) rfl y9
 | apply ak 106;exact fun y9=>bJ rfl (cI 5 rfl bR rfl rfl y9)
 | apply ak 107;exact fun y9=>gR 6 rfl sF y9
 | apply ak 108;exact fun y9=>bZ (rs:= [.cell 6 60,.tmp 7]) rfl (da dO rfl rfl rfl rfl (bV rfl bW)) y9
 | apply ak 109;exact fun y9=>s1 (bX Tryz.underlying45 rfl dN az rfl rfl) rfl y9
 | apply ak 110;exact fun y9=>bQ rfl rfl ((bE rfl).v (v':= .b false) (congrArg A.b (beq_eq_false_iff_ne.2 aq))) rfl y9
 | apply ak 111;exact fun y9=>s1 (cE _ _ rfl rfl rfl rfl (by have:=nW y14;omega)) rfl y9
 | apply ak 112;exact fun y9=>bZ (rs:= [.cell 2 23]) rfl (da bR rfl rfl (List.take_of_length_le (by simp [iz])) (by simp [iz]) bW) y9
 | apply ak 113;exact fun y9=>bZ (rs:= [.cell 8 23,.tmp 9]) rfl (da bR rfl rfl (List.take_of_length_le aA) aA (bV rfl bW)) y9
 | apply ak 114;exact fun y9=>s1 (bM ir rfl rfl rfl) rfl y9
 | apply ak 115;exact fun y9=>bT 18 [17] rfl rfl rfl rfl rfl y9
 | apply ak 116;exact fun y9=>bT 19 [17,18] rfl rfl rfl rfl rfl y9
 | apply ak 117;exact fun y9=>bT 20 [17] rfl rfl rfl rfl rfl y9
 | apply ak 118;exact fun y9=>bT 21 [17,19,20] rfl rfl rfl rfl rfl y9
 | apply ak 119;exact fun y9=>bP 52 [48,50,51] [] rfl rfl (((nu Tryz.underlying23 Tryz.underlying5 cr aw rfl rfl hok.prev aA)).v (v':= .b false) (congrArg A.b (by rw [beq_iff_eq.2 h8];rfl))) rfl rfl y9) : aj n Q R := s
theorem ae.g5 {n : Nat} {Q R : Prop} (s : aj n Q R := by first
 | apply ak 120;exact fun y9=>bP 55 [54] [] rfl rfl (bE rfl) rfl rfl y9
 | apply ak 121;exact fun y9=>bP 56 [54] [(6,none)] rfl rfl (bX Tryz.underlying45 rfl dN az rfl rfl) rfl rfl y9
 | apply ak 122;exact fun y9=>bP 57 [54,56] [(6,none)] rfl rfl (bM dN rfl rfl rfl) rfl rfl y9
 | apply ak 123;exact fun y9=>c7 false 58 [54,55,57] [] (oJ rfl rfl) rfl (.cons (.pure pu) (.cons (.pure pu) (.nil))) (bU.cast (nf τ bf hbf hsu e.ch (by have:=hok.g9;simp only [maxLen];omega)) (congrArg A.b hk)) pu (.inl rfl) rfl rfl y9
 | apply ak 124;exact fun y9=>bZ (rs:= [.tmp 6]) rfl (bV rfl bW) y9
 | apply ak 125;exact fun y9=>s1 (bX Tryz.underlying45 rfl bR az rfl rfl) rfl y9
 | apply ak 126;exact fun y9=>bK 7 [6] [] (bE rfl) rfl rfl y9
 | apply ak 127;exact fun y9=>s1 ((bE rfl).v (v':= .b true) (congrArg A.b (beq_iff_eq.2 h1))) rfl y9
 | apply ak 128;exact fun y9=>s1 (cf i Tryz.underlying31 c8 rfl rfl rfl aq rfl) rfl y9
 | apply ak 129;exact fun y9=>s1 (cE _ 1 rfl rfl rfl rfl aq) rfl y9
 | apply ak 130;exact fun y9=>s1 (dw cP rfl rfl (CV.get hv) (CV.jq v)) rfl y9
 | apply ak 131;exact fun y9=>dh ⟨_, [], []⟩ 8 4 cL (le_refl rfl) y9
 | apply ak 132;exact fun y9=>dh ⟨_, [], []⟩ 6 4 cL (le_refl rfl) y9
 | apply ak 133;exact fun y9=>t1 (ug _ Tryz.underlying5 Tryz.underlying183 rfl) rfl y9
 | apply ak 134;exact fun y9=>bK 7 [] [] (bE rfl) rfl rfl y9
 | apply ak 135;exact fun y9=>s1 (gX Tryz.underlying214 cr rfl rfl aB aI) rfl y9
 | apply ak 136;exact fun y9=>s1 (gX Tryz.underlying23 cr rfl rfl ar aI) rfl y9
 | apply ak 137;exact fun y9=>iy 3 rfl rfl bO y9
 | apply ak 138;exact fun y9=>gr 2 rfl rfl rfl rfl (fun hb16=> .step (bE rfl) rfl rfl<| .step (bE rfl) rfl rfl<| .done) rfl rfl y9
 | apply ak 139;exact fun y9=>s1 (bX Tryz.underlying120 rfl eM az rfl rfl) rfl y9
 | apply ak 140;exact fun y9=>g1 rfl rfl ((bE rfl).v (v':= .b true) (rfl)) rfl y9
 | apply ak 141;exact fun y9=>s1 (cf k Tryz.underlying30 bL rfl rfl rfl aq rfl) rfl y9
 | apply ak 142;exact fun y9=>s1 (cu de rfl rfl rfl) rfl y9
 | apply ak 143;exact fun y9=>s1 (cR Tryz.underlying55 rfl bL az rfl rfl) rfl y9) : aj n Q R := s
theorem ae.g6 {n : Nat} {Q R : Prop} (s : aj n Q R := by first
 | apply ak 144;exact fun y9=>bQ rfl rfl (cR Tryz.underlying55 rfl bL az rfl rfl) rfl y9
 | apply ak 145;exact fun y9=>s1 (eP (out:= [_,_]) [[cn (.int .i64 0)], [cn (.int .i64 0)]] c8 rfl Tryz.underlying55 aw rfl rfl ⟨⟨by(first|rfl|omega|(simp;done)|(simp [*];done)|(simp [cw, *];done)),rfl⟩,⟨⟨by(first|rfl|omega|(simp;done)|(simp [*];done)|(simp [cw, *];done)),rfl⟩,trivial⟩⟩ rfl) rfl y9
 | apply ak 146;exact fun y9=>bK 8 [] [] (bE rfl) rfl rfl y9
 | apply ak 147;exact fun y9=>s1 ((bE rfl).v (v':= .i .i64 60) rfl) rfl y9
 | apply ak 148;exact fun y9=>bJ rfl (cD cT rfl rfl rfl hok.len aA y9)
 | apply ak 149;exact fun y9=>bK 8 [7] [] (bE rfl) rfl rfl y9
 | apply ak 150;exact fun y9=>bP 35 [33,34] [] rfl rfl ((bE rfl).v (v':= .b true) (congrArg A.b (decide_eq_true aq))) rfl rfl y9
 | apply ak 151;exact fun y9=>bP 37 [36] [] rfl rfl (bE rfl) rfl rfl y9
 | apply ak 152;exact fun y9=>bP 38 [36] [] rfl rfl (bE rfl) rfl rfl y9
 | apply ak 153;exact fun y9=>bP 39 [36,38] [] rfl rfl ((iq rfl rfl aq aq).v (v':=nJ (i - 1)) (congrArg (A.i .i64) aq)) rfl rfl y9
 | apply ak 154;exact fun y9=>bP 40 [36,37,39] [] rfl rfl (cf (i - 1) Tryz.underlying24 cT rfl rfl rfl aq rfl) rfl rfl y9
 | apply ak 155;exact fun y9=>bP 41 [36,40] [] rfl rfl (cR Tryz.underlying45 rfl bL az rfl rfl) rfl rfl y9
 | apply ak 156;exact fun y9=>bP 42 [36,41] [] rfl rfl (bM bL rfl rfl (fw hl hp (k:=2) rfl az)) rfl rfl y9
 | apply ak 157;exact fun y9=>bP 43 [36] [(6,none)] rfl rfl (bX Tryz.underlying45 rfl bL az rfl rfl) rfl rfl y9
 | apply ak 158;exact fun y9=>bP 44 [36,43] [(6,none)] rfl rfl (bM bL rfl rfl rfl) rfl rfl y9
 | apply ak 159;exact fun y9=>bK 0 [] [(3,none)] (cu bR rfl rfl (by rw [List.length_map,hr])) rfl rfl y9
 | apply ak 160;exact fun y9=>bQ rfl rfl (bX Tryz.underlying45 rfl bL az rfl rfl) rfl y9
 | apply ak 161;exact fun y9=>bQ rfl rfl (bM bL rfl rfl rfl) rfl y9
 | apply ak 162;exact fun y9=>bJ rfl (cD eG rfl rfl rfl ar ar y9)
 | apply ak 163;exact fun y9=>bZ (rs:= [.cell 8 43,.tmp 9]) rfl (da eG rfl rfl rfl rfl (bV rfl bW)) y9
 | apply ak 164;exact fun y9=>g1 rfl rfl ((bE rfl).v (v':= .b true) (congrArg A.b (beq_iff_eq.2 h2))) rfl y9
 | apply ak 165;exact fun y9=>g1 rfl rfl ((bE rfl).v (v':= .b false) (congrArg A.b (decide_eq_false aq))) rfl y9
 | apply ak 166;exact fun y9=>s1 (cu bR rfl rfl az) rfl y9
 | apply ak 167;exact fun y9=>bF y9) : aj n Q R := s
theorem ae.g7 {n : Nat} {Q R : Prop} (s : aj n Q R := by first
 | apply ak 168;exact fun y9=>dG rfl y9
 | apply ak 169;exact fun y9=>s1 (x9 aw rfl) rfl y9
 | apply ak 170;exact fun y9=>bJ rfl (eF 12 rfl Tryz.underlying68 cr rfl rfl rfl rfl rfl y9)
 | apply ak 171;exact fun y9=>bJ rfl (b7 false rfl (.cons (.pure pu) (.nil)) (ih v hvm) pu (.inl rfl) rfl y9)
 | apply ak 172;exact fun y9=>bK 1 [0] [(1,none)] (bM bL rfl rfl rfl) rfl rfl y9
 | apply ak 173;exact fun y9=>s1 (fY _ _ rfl rfl) rfl y9
 | apply ak 174;exact fun y9=>vi hR1 hd3 rfl y9
 | apply ak 175;exact fun y9=>bZ (rs:= [.cell 4 120,.tmp 5]) rfl (da de rfl rfl rfl rfl (bV rfl bW)) y9
 | apply ak 176;exact fun y9=>g1 rfl rfl (bM bL rfl rfl rfl) rfl y9
 | apply ak 177;exact fun y9=>s1 (bM eM rfl rfl rfl) rfl y9
 | apply ak 178;exact fun y9=>bJ rfl (eF 5 rfl Tryz.underlying68 cr rfl rfl rfl rfl rfl y9)
 | apply ak 179;exact fun y9=>bZ (rs:= [.cell 6 120,.tmp 7]) rfl (da de rfl rfl rfl rfl (bV rfl bW)) y9
 | apply ak 180;exact fun y9=>gm 4 rfl rfl bO (dD aA rfl) y9
 | apply ak 181;exact fun y9=>bK 6 [5] [] (bE rfl) rfl rfl y9
 | apply ak 182;exact fun y9=>s1 (cf i Tryz.underlying58 de rfl rfl rfl aq rfl) rfl y9
 | apply ak 183;exact fun y9=>bJ rfl (b7 false rfl (.cons (.pure pu) (.nil)) (bU.cast (oN p aC) (congrArg A.b h1)) pu (.inl rfl) rfl y9)
 | apply ak 184;exact fun y9=>s1 (bM fD rfl rfl (congrArg (fun l=>l[0]?) (qy hx _))) rfl y9
 | apply ak 185;exact fun y9=>bJ rfl (dI gN rfl rfl rfl rfl aH (sA hx _ _ _) y9)
 | apply ak 186;exact fun y9=>s1 (cu dO rfl rfl (fI (c:=fT x p q) hx)) rfl y9
 | apply ak 187;exact fun y9=>bZ (rs:= [.cell 6 60,.tmp 7]) rfl (da dO rfl rfl (vo (c:=fT x p q) hx) (fI (c:=fT x p q) hx) (bV rfl bW)) y9
 | apply ak 188;exact fun y9=>iy 1 rfl rfl bO y9
 | apply ak 189;exact fun y9=>bJ rfl (dI ey rfl rfl rfl rfl ar rfl y9)
 | apply ak 190;exact fun y9=>bQ rfl rfl (cf (i - 1) Tryz.underlying31 c8 rfl rfl rfl aq rfl) rfl y9
 | apply ak 191;exact fun y9=>bQ rfl rfl (bM bL rfl rfl (dK hp (k:=0) rfl az)) rfl y9) : aj n Q R := s
theorem ae.g8 {n : Nat} {Q R : Prop} (s : aj n Q R := by first
 | apply ak 192;exact fun y9=>bQ rfl rfl ((bE rfl).v (v':= .b true) (congrArg A.b (beq_iff_eq.2 aq))) rfl y9
 | apply ak 193;exact fun y9=>bJ rfl (dI bL rfl rfl rfl rfl ar rfl y9)
 | apply ak 194;exact fun y9=>s1 ((bE rfl).v (v':= .i .i64 32) rfl) rfl y9
 | apply ak 195;exact fun y9=>s1 (mz _ 8 rfl rfl rfl az) rfl y9
 | apply ak 196;exact fun y9=>dh ⟨_, [], []⟩ 9 4 cL (le_refl rfl) y9
 | apply ak 197;exact fun y9=>bK 2 [0,1] [] ((jf (cC L.length) Tryz.underlying41 bR rfl aP bn (bs rfl rfl) aq aq rfl rfl).v (v':=cM (L.take (cC L.length))) (pL hD aq)) rfl rfl y9
 | apply ak 198;exact fun y9=>bJ rfl (cI 8 rfl bR rfl rfl y9)
 | apply ak 199;exact fun y9=>s1 (bM od rfl rfl rfl) rfl y9
 | apply ak 200;exact fun y9=>s1 (cf i Tryz.underlying24 cT rfl rfl rfl aq rfl) rfl y9
 | apply ak 201;exact fun y9=>s1 (dw cT rfl rfl (kI hl he) hok.len) rfl y9
 | apply ak 202;exact fun y9=>bT 9 [8] rfl rfl rfl rfl rfl y9
 | apply ak 203;exact fun y9=>bT 10 [8,9] rfl rfl rfl rfl rfl y9
 | apply ak 204;exact fun y9=>bT 11 [8] rfl rfl rfl rfl rfl y9
 | apply ak 205;exact fun y9=>bT 12 [8,11] rfl rfl rfl rfl rfl y9
 | apply ak 206;exact fun y9=>bT 13 [8,12] rfl rfl rfl rfl rfl y9
 | apply ak 207;exact fun y9=>bT 14 [8,13] rfl rfl rfl rfl rfl y9
 | apply ak 208;exact fun y9=>bT 15 [8,10,14] rfl rfl rfl rfl rfl y9
 | apply ak 209;exact fun y9=>bP 45 [36,42,44] [] rfl rfl ((bE rfl).v (v':= .b false) (congrArg A.b (decide_eq_false aq))) rfl rfl y9
 | apply ak 210;exact fun y9=>bP 59 [54,58] [] rfl rfl ((bE rfl).v (v':= .b false) (rfl)) rfl rfl y9
 | apply ak 211;exact fun y9=>bP 62 [61] [(6,none)] rfl rfl (bX Tryz.underlying45 rfl eG az rfl rfl) rfl rfl y9
 | apply ak 212;exact fun y9=>bP 63 [61,62] [(6,none)] rfl rfl (bX Tryz.underlying43 rfl bL az rfl rfl) rfl rfl y9
 | apply ak 213;exact fun y9=>bP 64 [61,63] [(6,none)] rfl rfl (bM bL rfl rfl (tH hok)) rfl rfl y9
 | apply ak 214;exact fun y9=>bP 65 [61] [] rfl rfl (bE rfl) rfl rfl y9
 | apply ak 215;exact fun y9=>bP 35 [33,34] [] rfl rfl ((bE rfl).v (v':= .b false) (congrArg A.b (decide_eq_false aq))) rfl rfl y9) : aj n Q R := s
theorem ae.g9 {n : Nat} {Q R : Prop} (s : aj n Q R := by first
 | apply ak 216;exact fun y9=>bT 37 [36] rfl rfl rfl rfl rfl y9
 | apply ak 217;exact fun y9=>bT 38 [36] rfl rfl rfl rfl rfl y9
 | apply ak 218;exact fun y9=>bT 39 [36,38] rfl rfl rfl rfl rfl y9
 | apply ak 219;exact fun y9=>bT 40 [36,37,39] rfl rfl rfl rfl rfl y9
 | apply ak 220;exact fun y9=>bT 41 [36,40] rfl rfl rfl rfl rfl y9
 | apply ak 221;exact fun y9=>bT 42 [36,41] rfl rfl rfl rfl rfl y9
 | apply ak 222;exact fun y9=>bT 43 [36] rfl rfl rfl rfl rfl y9
 | apply ak 223;exact fun y9=>bT 44 [36,43] rfl rfl rfl rfl rfl y9
 | apply ak 224;exact fun y9=>bT 45 [36,42,44] rfl rfl rfl rfl rfl y9
 | apply ak 225;exact fun y9=>eN 17 cL aw y9
 | apply ak 226;exact fun y9=>t1 (bX Tryz.underlying45 rfl bL az rfl rfl) rfl y9
 | apply ak 227;exact fun y9=>t1 (bM bL rfl rfl rfl) rfl y9
 | apply ak 228;exact fun y9=>t1 (bM iN rfl rfl rfl) rfl y9
 | apply ak 229;exact fun y9=>t1 (cf 0 Tryz.underlying24 cT rfl rfl rfl aq rfl) rfl y9
 | apply ak 230;exact fun y9=>t1 (cR Tryz.underlying45 rfl bL az rfl rfl) rfl y9
 | apply ak 231;exact fun y9=>t1 (bM bL rfl rfl (fw hl he0 (k:=0) rfl az)) rfl y9
 | apply ak 232;exact fun y9=>dP 18 (cs':=gD iss (l.length:Nat) day c zD (iZ l)) rfl (by rw [hld]) y9
 | apply ak 233;exact fun y9=>l8 ⟨[(14,some [.nl]),(15,some [.i .i64 0])]⟩ hdf hS mf ⟨⟨rfl,cK.pure bO⟩,⟨rfl,cK.pure bO⟩,trivial⟩ (.cons (.kp rfl) (.cons (.kp rfl) .nil)) (nQ _ _ 351) (hu.2) (nt rfl rfl bO bO) rfl (fR iN rfl rfl rfl (fR dU rfl rfl rfl bW)) y9
 | apply ak 234;exact fun y9=>bK 2 [] [(18,none)] (bX Tryz.underlying45 rfl bL az rfl rfl) rfl rfl y9
 | apply ak 235;exact fun y9=>bK 3 [2] [(18,none)] (bM bL rfl rfl rfl) rfl rfl y9
 | apply ak 236;exact fun y9=>bJ rfl (cD dO rfl rfl rfl (fI (c:=(gT x l.length (cv σ c) ids)) (lI _ _)) rfl y9)
 | apply ak 237;exact fun y9=>s1 (cu dO rfl rfl (fI (c:=(gT x l.length (cv σ c) ids)) (lI _ _))) rfl y9
 | apply ak 238;exact fun y9=>bK 9 [7] [] (bE rfl) rfl rfl y9
 | apply ak 239;exact fun y9=>g1 rfl rfl (bX Tryz.underlying43 rfl ir az rfl rfl) rfl y9) : aj n Q R := s
theorem ae.g10 {n : Nat} {Q R : Prop} (s : aj n Q R := by first
 | apply ak 240;exact fun y9=>g1 rfl rfl (bM ir rfl rfl rfl) rfl y9
 | apply ak 241;exact fun y9=>g1 rfl rfl ((bE rfl).v (v':= .b true) (congrArg A.b (beq_iff_eq.2 h3))) rfl y9
 | apply ak 242;exact fun y9=>fN rfl rfl rfl (b7 false rfl (.cons (.pure pu) (.cons (.pure pu) (.nil))) (bU.cast (ux a.ch b.ch (by have:=ha.g9;simp only [maxLen];omega) (by have:=hb.g9;simp only [maxLen];omega)) (congrArg A.b h4)) pu (.inl rfl) rfl y9)
 | apply ak 243;exact fun y9=>bJ rfl (b7 false rfl (.cons (.pure pu) (.nil)) (bU.cast (oY p aC) (congrArg A.b h1)) pu (.inl rfl) rfl y9)
 | apply ak 244;exact fun y9=>fN rfl rfl rfl (b7 false rfl (.cons (.pure pu) (.cons (.pure pu) (.nil))) (bU.cast (nf σ (eL σ) rfl hsup c aC) (congrArg A.b hk)) pu (.inl rfl) rfl y9)
 | apply ak 245;exact fun y9=>bQ rfl rfl (cf (i - 1) Tryz.underlying30 bL rfl rfl rfl aq rfl) rfl y9
 | apply ak 246;exact fun y9=>bQ rfl rfl (bM bL rfl rfl (ee hp)) rfl y9
 | apply ak 247;exact fun y9=>g1 rfl rfl (cf 0 Tryz.underlying24 cT rfl rfl rfl aq rfl) rfl y9
 | apply ak 248;exact fun y9=>g1 rfl rfl (bM bL rfl rfl (fw hl he0 (k:=0) rfl az)) rfl y9
 | apply ak 249;exact fun y9=>bJ rfl (dI dN rfl rfl rfl rfl ar rfl y9)
 | apply ak 250;exact fun y9=>bJ rfl (mQ Tryz.underlying30 bL rfl rfl rfl (pY rfl) (oF rfl) bO rfl rfl rfl y9)
 | apply ak 251;exact fun y9=>bY y9
 | apply ak 252;exact fun y9=>s1 ((bE rfl).v (v':= .i .i64 (-1)) rfl) rfl y9
 | apply ak 253;exact fun y9=>s1 (qG Tryz.underlying80 Tryz.underlying3 ye rfl rfl rfl (wG _ _)) rfl y9
 | apply ak 254;exact fun y9=>bJ rfl (mP 2 rfl rfl rfl rfl y9)
 | apply ak 255;exact fun y9=>bJ rfl (mP 3 rfl rfl rfl rfl y9)
 | apply ak 256;exact fun y9=>s1 ((bE rfl).v (v':= .i .u64 0) rfl) rfl y9
 | apply ak 257;exact fun y9=>s1 ((bE rfl).v (v':= .i .i64 2) rfl) rfl y9
 | apply ak 258;exact fun y9=>bK 0 [] [(131,none)] (bE rfl) rfl rfl y9
 | apply ak 259;exact fun y9=>bK 0 [] [(7,none)] (bX Tryz.underlying109 rfl bL az rfl rfl) rfl rfl y9
 | apply ak 260;exact fun y9=>bK 1 [0] [(7,none)] (bM bL rfl rfl rfl) rfl rfl y9
 | apply ak 261;exact fun y9=>bK 3 [2] [(11,none)] (bM ju rfl rfl rfl) rfl rfl y9
 | apply ak 262;exact fun y9=>bK 4 [] [(131,none)] (bE rfl) rfl rfl y9
 | apply ak 263;exact fun y9=>bK 5 [] [(7,none)] (cu cP rfl rfl ar) rfl rfl y9) : aj n Q R := s
theorem ae.g11 {n : Nat} {Q R : Prop} (s : aj n Q R := by first
 | apply ak 264;exact fun y9=>bJ rfl (dI ju rfl rfl rfl rfl ar rfl y9)
 | apply ak 265;exact fun y9=>bK 0 [] [(1,none)] (bX Tryz.underlying109 rfl bL az rfl rfl) rfl rfl y9
 | apply ak 266;exact fun y9=>bK 3 [2] [(5,none)] (bM ju rfl rfl rfl) rfl rfl y9
 | apply ak 267;exact fun y9=>bK 4 [] [(1,none)] (cu cP rfl rfl rfl) rfl rfl y9
 | apply ak 268;exact fun y9=>eN 8 cL aw y9
 | apply ak 269;exact fun y9=>t1 (kz _ _ rfl rfl) rfl y9
 | apply ak 270;exact fun y9=>s1 (bM cW rfl rfl rfl) rfl y9
 | apply ak 271;exact fun y9=>eN 11 cL aw y9
 | apply ak 272;exact fun y9=>t1 (dC i Tryz.underlying185 cW rfl rfl rfl aq rfl) rfl y9
 | apply ak 273;exact fun y9=>bJ rfl (eF 9 rfl Tryz.underlying68 cr rfl rfl rfl rfl rfl y9)
 | apply ak 274;exact fun y9=>s1 (dC i Tryz.underlying23 cr rfl rfl rfl aq rfl) rfl y9
 | apply ak 275;exact fun y9=>s1 (iK 8 i rfl rfl rfl rfl aq) rfl y9
 | apply ak 276;exact fun y9=>s1 (cR Tryz.underlying120 rfl bL az rfl rfl) rfl y9
 | apply ak 277;exact fun y9=>s1 ((ep Tryz.underlying5 Tryz.underlying3 rfl).v (zj _)) rfl y9
 | apply ak 278;exact fun y9=>bJ rfl (cI 4 rfl de rfl rfl y9)
 | apply ak 279;exact fun y9=>bJ rfl (cI 6 rfl de rfl rfl y9)
 | apply ak 280;exact fun y9=>s1 (iR k 8 rfl rfl rfl rfl aq aq) rfl y9
 | apply ak 281;exact fun y9=>gr 2 rfl rfl rfl rfl (fun hb12=> .step (bE rfl) rfl rfl<| .step (bE rfl) rfl rfl<| .done) rfl rfl y9
 | apply ak 282;exact fun y9=>s1 (gX Tryz.underlying23 cr rfl rfl aH aI) rfl y9
 | apply ak 283;exact fun y9=>bK 0 [] [(4,none)] (bX Tryz.underlying120 rfl eM az rfl rfl) rfl rfl y9
 | apply ak 284;exact fun y9=>bK 1 [0] [(4,none)] (bM eM rfl rfl rfl) rfl rfl y9
 | apply ak 285;exact fun y9=>bK 3 [2] [] (cf 0 Tryz.underlying30 bL rfl rfl rfl aq rfl) rfl rfl y9
 | apply ak 286;exact fun y9=>bK 4 [3] [] (bM bL rfl rfl (pK x l n j 0 aq)) rfl rfl y9
 | apply ak 287;exact fun y9=>s1 (dw de rfl rfl (tL hf) rfl) rfl y9) : aj n Q R := s
theorem ae.g12 {n : Nat} {Q R : Prop} (s : aj n Q R := by first
 | apply ak 288;exact fun y9=>bQ rfl rfl (bM bL rfl rfl (ee hq)) rfl y9
 | apply ak 289;exact fun y9=>bQ rfl rfl ((bE rfl).v (v':= .b false) (congrArg A.b (decide_eq_false aq))) rfl y9
 | apply ak 290;exact fun y9=>g1 rfl rfl (bX Tryz.underlying60 rfl fD az rfl rfl) rfl y9
 | apply ak 291;exact fun y9=>s1 (cu dO rfl rfl rfl) rfl y9
 | apply ak 292;exact fun y9=>fN rfl rfl rfl (b7 false rfl (.cons (.pure pu) (.nil)) (bU.cast (oN q aC) (congrArg A.b h2)) pu (.inl rfl) rfl y9)
 | apply ak 293;exact fun y9=>bJ rfl (cI 2 rfl cP rfl rfl y9)
 | apply ak 294;exact fun y9=>bJ rfl (cI 3 rfl cP rfl rfl y9)
 | apply ak 295;exact fun y9=>bK 0 [] [(3,none)] (bX Tryz.underlying109 rfl ey az rfl rfl) rfl rfl y9
 | apply ak 296;exact fun y9=>bK 1 [0] [(3,none)] (bM ey rfl rfl rfl) rfl rfl y9
 | apply ak 297;exact fun y9=>jL 3 3 rfl rfl rfl rfl bO (sE aA) rfl y9
 | apply ak 298;exact fun y9=>s1 (eP (out:= [_,_,_,_]) [[cn (.int .i64 0)], [cn (.int .i64 0)], [cn (.string ByteArray.empty)], [cn (.slice none 0 0)]] cP rfl Tryz.underlying109 aw rfl rfl ⟨⟨by(first|rfl|omega|(simp;done)|(simp [*];done)|(simp [cw, *];done)),rfl⟩,trivial⟩ rfl) rfl y9
 | apply ak 299;exact fun y9=>s1 (bM bL rfl rfl (dK hc (k:=0) rfl az)) rfl y9
 | apply ak 300;exact fun y9=>t1 ((bE rfl).v (v':= .b true) (congrArg A.b (decide_eq_true aq))) rfl y9
 | apply ak 301;exact fun y9=>s1 (dC i Tryz.underlying203 bR rfl rfl rfl aq rfl) rfl y9
 | apply ak 302;exact fun y9=>bZ (rs:= [.cell 8 23]) rfl (da bR rfl rfl (List.take_of_length_le (by simp [kL])) (by simp [kL]) bW) y9
 | apply ak 303;exact fun y9=>s1 (oq bR rfl Tryz.underlying23 cr rfl) rfl y9
 | apply ak 304;exact fun y9=>bJ rfl (b7 false rfl (.cons (.pure pu) (.nil)) (bU.cast (sn n) (congrArg A.b (decide_eq_false hcs))) pu (.inl rfl) rfl y9)
 | apply ak 305;exact fun y9=>bJ rfl (b7 false rfl (.cons (.pure pu) (.nil)) (bU.cast (sn _) (congrArg A.b (decide_eq_true hcs))) pu (.inl rfl) rfl y9)
 | apply ak 306;exact fun y9=>s1 (bX Tryz.underlying43 rfl bL az rfl rfl) rfl y9
 | apply ak 307;exact fun y9=>bK 3 [2] [] (bE rfl) rfl rfl y9
 | apply ak 308;exact fun y9=>s1 (bM Bh rfl rfl rfl) rfl y9
 | apply ak 309;exact fun y9=>t1 ((bE rfl).v (v':= .b true) (congrArg A.b (beq_iff_eq.2 aq))) rfl y9
 | apply ak 310;exact fun y9=>s1 (Br Tryz.underlying20 rfl) rfl y9
 | apply ak 311;exact fun y9=>bJ rfl (b7 false rfl (.cons (.pure pu) (.nil)) (zF e) pu (.inl rfl) rfl y9)) : aj n Q R := s
theorem ae.g13 {n : Nat} {Q R : Prop} (s : aj n Q R := by first
 | apply ak 312;exact fun y9=>gR 8 rfl (.cons (.eq rfl) (.cons .nl (.cons .nl .nil))) y9
 | apply ak 313;exact fun y9=>s1 (eP (out:= [_,_,_]) [[cn (.int .i64 0)], [cn (.slice none 0 0)], [cn (.slice none 0 0)]] eG rfl Tryz.underlying43 aw rfl rfl trivial rfl) rfl y9
 | apply ak 314;exact fun y9=>bJ rfl (dI iN rfl rfl rfl rfl ar rfl y9)
 | apply ak 315;exact fun y9=>s1 (eP (out:=_) [[cn (.int .i64 0)], [cn (.int .i64 0)], [cn (.int .i64 0)], [cn (.slice none 0 0)],(List.replicate 32 (.int .u8 0)).map cn,(List.replicate 32 (.int .u8 0)).map cn, [cn (.int .i64 0),cn (.slice none 0 0),cn (.slice none 0 0)]] cT rfl Tryz.underlying45 aw rfl rfl ⟨⟨by(first|rfl|omega|(simp;done)|(simp [*];done)|(simp [cw, *];done)),rfl⟩,⟨⟨by(first|rfl|omega|(simp;done)|(simp [*];done)|(simp [cw, *];done)),rfl⟩,⟨⟨by(first|rfl|omega|(simp;done)|(simp [*];done)|(simp [cw, *];done)),rfl⟩,⟨⟨by(first|rfl|omega|(simp;done)|(simp [*];done)|(simp [cw, *];done)),rfl⟩,trivial⟩⟩⟩⟩ rfl) rfl y9
 | apply ak 316;exact fun y9=>bJ rfl (cD cT rfl rfl rfl rfl rfl y9)
 | apply ak 317;exact fun y9=>g1 rfl rfl (dw bR rfl rfl (oD ha) (by rw [List.length_map,ha.dc])) rfl y9
 | apply ak 318;exact fun y9=>g1 rfl rfl (dw bR rfl rfl (oD hb) (by rw [List.length_map,hb.dc])) rfl y9
 | apply ak 319;exact fun y9=>s1 (eP (out:=_) [(List.replicate 32 (.int .u8 0)).map cn, [cn (.slice none 0 0)], [cn (.slice none 0 0)]] dO rfl Tryz.underlying60 aw rfl rfl trivial rfl) rfl y9
 | apply ak 320;exact fun y9=>fN rfl rfl rfl (b7 false rfl (.cons (.pure pu) (.nil)) (bU.cast (oY q aC) (congrArg A.b h2)) pu (.inl rfl) rfl y9)
 | apply ak 321;exact fun y9=>g1 rfl rfl ((bE rfl).v (v':= .b false) (congrArg A.b (bne_eq_false_iff_eq.2 aq))) rfl y9
 | apply ak 322;exact fun y9=>g1 rfl rfl ((iq rfl rfl aq aq).v (v':=nJ (l.length - 1)) (congrArg (A.i .i64) aq)) rfl y9
 | apply ak 323;exact fun y9=>g1 rfl rfl (cf (l.length - 1) Tryz.underlying24 cT rfl rfl rfl aq rfl) rfl y9
 | apply ak 324;exact fun y9=>g1 rfl rfl (bM bL rfl rfl (fw hl he (k:=2) rfl az)) rfl y9
 | apply ak 325;exact fun y9=>bZ (rs:= [.tmp 14]) rfl (bV rfl bW) y9
 | apply ak 326;exact fun y9=>c6 rfl y9
 | apply ak 327;exact fun y9=>bJ rfl (cD c8 rfl rfl rfl ar ar y9)
 | apply ak 328;exact fun y9=>cq y9
 | apply ak 329;exact fun y9=>bJ rfl (eF 19 rfl Tryz.underlying68 cr rfl rfl rfl rfl rfl y9)
 | apply ak 330;exact fun y9=>s1 (bX Tryz.underlying109 rfl jZ az rfl rfl) rfl y9
 | apply ak 331;exact fun y9=>s1 ((bE rfl).v (v':= .b s.isEmpty) (congrArg A.b (by cases s<;>rfl))) rfl y9
 | apply ak 332;exact fun y9=>cG y9
 | apply ak 333;exact fun y9=>bJ rfl (cD cP rfl rfl rfl (CV.jq v) ar y9)
 | apply ak 334;exact fun y9=>s1 ((x8 (a:=CV.gE (l.take i)) (b:=v.depth) rfl rfl rfl).v (v':=nJ (CV.gE (l.take (i+1)))) (congrArg nJ (CV.Db hv))) rfl y9
 | apply ak 335;exact fun y9=>s1 ((bE rfl).v (v':=nJ (CV.gE l)) aN) rfl y9) : aj n Q R := s
theorem ae.g14 {n : Nat} {Q R : Prop} (s : aj n Q R := by first
 | apply ak 336;exact fun y9=>rE 6 1 [] cz Tryz.underlying68 cr rfl rfl rfl rfl rfl rfl y9
 | apply ak 337;exact fun y9=>bK 6 [5] [] (qb _ Tryz.underlying3 Tryz.underlying198 rfl rfl) rfl rfl y9
 | apply ak 338;exact fun y9=>bK 1 [] [(2,none)] (gX Tryz.underlying23 cr rfl rfl au aI) rfl rfl y9
 | apply ak 339;exact fun y9=>gp 7 2 [0,1] [(2,none),(5,some 0)] cz Tryz.underlying68 cr rfl (.sl rfl au) rfl (dH rfl au) au av av rfl rfl rfl rfl y9
 | apply ak 340;exact fun y9=>bK 3 [] [(3,none)] (gX Tryz.underlying23 cr rfl rfl au aI) rfl rfl y9
 | apply ak 341;exact fun y9=>gp 9 4 [2,3] [(3,none),(7,some 2)] cz Tryz.underlying68 cr rfl (.sl rfl au) rfl (dH rfl au) au av av rfl rfl rfl rfl y9
 | apply ak 342;exact fun y9=>c7 true 5 [4] [(9,some 4)] cz rfl (.cons (.pure pu) (.cons (.sl rfl rfl au (dD au aJ) (cK.pure bO) bO) (.nil))) (htag _ (a++b) aA aE) pu (.inr fu) rfl rfl y9
 | apply ak 343;exact fun y9=>bJ rfl (dI cW rfl rfl rfl rfl au (Hi b k _ aq rfl) y9)
 | apply ak 344;exact fun y9=>t1 (dC i Tryz.underlying216 cW rfl rfl rfl aq rfl) rfl y9
 | apply ak 345;exact fun y9=>bJ rfl (cD pg rfl rfl rfl aA aA y9)
 | apply ak 346;exact fun y9=>bJ rfl (eF 6 rfl Tryz.underlying68 cr rfl rfl rfl rfl rfl y9)
 | apply ak 347;exact fun y9=>s1 (qb _ Tryz.underlying3 Tryz.underlying198 rfl rfl) rfl y9
 | apply ak 348;exact fun y9=>bJ rfl (cD oc rfl rfl rfl au au y9)
 | apply ak 349;exact fun y9=>s1 (iR i 4 rfl rfl rfl rfl az aq) rfl y9
 | apply ak 350;exact fun y9=>s1 (bM cW rfl rfl (rI (i / 4) aE rfl)) rfl y9
 | apply ak 351;exact fun y9=>s1 (iK 8 (i % 4) rfl rfl rfl rfl aq) rfl y9
 | apply ak 352;exact fun y9=>s1 (eW 24 (8*(i % 4)) rfl rfl rfl rfl aq aq) rfl y9
 | apply ak 353;exact fun y9=>s1 (iT _ (24 - 8*(i % 4)) rfl rfl rfl aq) rfl y9
 | apply ak 354;exact fun y9=>bJ rfl (dI cr rfl rfl rfl rfl (by simp only [List.length_append,List.length_map,List.length_replicate,E5];omega) (Hh _ i _ aq rfl) y9)
 | apply ak 355;exact fun y9=>s1 (cu bR rfl rfl au) rfl y9
 | apply ak 356;exact fun y9=>s1 (cf i Tryz.underlying182 eM rfl rfl rfl aq rfl) rfl y9
 | apply ak 357;exact fun y9=>s1 (eW 63 i rfl rfl rfl rfl aq aq) rfl y9
 | apply ak 358;exact fun y9=>s1 ((tZ _ (cQ 8) rfl rfl).v (v':=cN (cQ (8*s.length))) (congrArg cN (by rw [←BitVec.ofNat_mul,Nat.mul_comm]))) rfl y9
 | apply ak 359;exact fun y9=>s1 ((kC _ Tryz.underlying198 Tryz.underlying5 rfl).v (v':=u8 (UInt8.ofNat (8*s.length / 2 ^ (8*i)))) (congrArg u8 (yQ _ _ aq))) rfl y9) : aj n Q R := s
theorem ae.g15 {n : Nat} {Q R : Prop} (s : aj n Q R := by first
 | apply ak 360;exact fun y9=>s1 (dC (63 - i) Tryz.underlying214 cr rfl rfl rfl aq rfl) rfl y9
 | apply ak 361;exact fun y9=>bJ rfl (dI cr rfl rfl rfl rfl aB (Hg s i _ aq rfl) y9)
 | apply ak 362;exact fun y9=>bJ rfl (oO ⟨[(3,some ((kj s).l.map ct))]⟩ [(3,(comp (kj s) (iY s++gS (8*s.length))).l.map ct)] true rfl rfl ⟨⟨rfl,cK.pure bO⟩,trivial⟩ (.cons (.kp rfl) (.cons (.sl rfl rfl rfl (dD aB aA) (cK.pure bO) bO) .nil)) (u6 _ (iY s++gS (8*s.length)) aB) trivial (.inr trivial) (qB (c0:=(kj s).l.map ct) rfl bO iX) rfl y9)
 | apply ak 363;exact fun y9=>nE (rs:= []) rfl bW (qm (c:=(fin parts.flatten).l.map ct) y9)
 | apply ak 364;exact fun y9=>bJ rfl (FD Tryz.underlying9 Tryz.underlying68 Tryz.underlying5 rfl av rfl y9)
 | apply ak 365;exact fun y9=>s1 (gX Tryz.underlying23 cr rfl rfl au aI) rfl y9
 | apply ak 366;exact fun y9=>s1 (Bu (z:= .agg (List.replicate 32 (.int .u8 0):List Value).toArray) Tryz.underlying23 rfl aw rfl rfl) rfl y9
 | apply ak 367;exact fun y9=>bJ rfl (eF 10 rfl Tryz.underlying30 bL rfl rfl rfl rfl rfl y9)
 | apply ak 368;exact fun y9=>bJ rfl (b7 false rfl (.cons (.pure pu) (.cons (.pure pu) (.nil))) (bU.cast (xM _ _) (congrArg A.b (decide_eq_true hcs))) pu (.inl rfl) rfl y9)
 | apply ak 369;exact fun y9=>s1 (iR (n+7) 8 rfl rfl rfl rfl aq aq) rfl y9
 | apply ak 370;exact fun y9=>s1 (eP (out:= [_,_,_]) [[cn (.int .i64 0)], [cn (.int .i64 0)], [cn (.slice none 0 0)]] de rfl Tryz.underlying120 aw rfl rfl ⟨⟨by(first|rfl|omega|(simp;done)|(simp [*];done)|(simp [cw, *];done)),rfl⟩,⟨⟨by(first|rfl|omega|(simp;done)|(simp [*];done)|(simp [cw, *];done)),rfl⟩,⟨⟨by(first|rfl|omega|(simp;done)|(simp [*];done)|(simp [cw, *];done)),rfl⟩,trivial⟩⟩⟩ rfl) rfl y9
 | apply ak 371;exact fun y9=>jL 4 2 rfl rfl rfl rfl bO (dD aA (Ia _)) rfl y9
 | apply ak 372;exact fun y9=>bJ rfl (b7 false rfl (.cons (.pure pu) (.cons (.pure pu) (.nil))) (bU.cast (xM _ _) (congrArg A.b (decide_eq_false hcs))) pu (.inl rfl) rfl y9)
 | apply ak 373;exact fun y9=>gR 4 rfl (.cons (.eq rfl) (.cons (.eq rfl) (.cons .nl .nil))) y9
 | apply ak 374;exact fun y9=>g1 rfl rfl (bX Tryz.underlying120 rfl eM az rfl rfl) rfl y9
 | apply ak 375;exact fun y9=>g1 rfl rfl (cJ Tryz.underlying68 rfl rfl rfl) rfl y9
 | apply ak 376;exact fun y9=>g1 rfl rfl (bX Tryz.underlying120 rfl bL az rfl rfl) rfl y9
 | apply ak 377;exact fun y9=>g1 rfl rfl (cE n 7 rfl rfl rfl rfl aq) rfl y9
 | apply ak 378;exact fun y9=>g1 rfl rfl (iR (n+7) 8 rfl rfl rfl rfl aq aq) rfl y9
 | apply ak 379;exact fun y9=>bJ rfl (b7 false rfl (.cons (.pure pu) (.cons (.pure pu) (.cons (.pure pu) (.nil)))) (bU.cast (vR x _ _ _ D hx) (oz hcs)) pu (.inl rfl) rfl y9)
 | apply ak 380;exact fun y9=>bJ rfl (b7 false rfl (.cons (.pure pu) (.cons (.pure pu) (.cons (.pure pu) (.nil)))) (bU.cast (vR x _ _ _ D hx) (qV hcs)) pu (.inl rfl) rfl y9)
 | apply ak 381;exact fun y9=>gR 6 rfl (.cons (.eq rfl) (.cons (.eq rfl) (.cons .nl .nil))) y9
 | apply ak 382;exact fun y9=>bJ rfl (dI eM rfl rfl rfl rfl ar rfl y9)
 | apply ak 383;exact fun y9=>t1 (mC (bN x l n j i / 8) Tryz.underlying68 cr rfl rfl rfl rfl aq rfl) rfl y9) : aj n Q R := s
theorem ae.g16 {n : Nat} {Q R : Prop} (s : aj n Q R := by first
 | apply ak 384;exact fun y9=>gr 2 rfl rfl rfl rfl (fun hb8=> .step (bE rfl) rfl rfl<| .step (bE rfl) rfl rfl<| .done) rfl rfl y9
 | apply ak 385;exact fun y9=>s1 (eP (out:= [_,_,_]) [[cn (.int .i64 0)], [cn (.int .i64 0)], [cn (.slice none 0 0)]] de rfl Tryz.underlying120 aw rfl rfl trivial rfl) rfl y9
 | apply ak 386;exact fun y9=>s1 (mC (k / 8) Tryz.underlying68 cr rfl rfl rfl rfl hk rfl) rfl y9
 | apply ak 387;exact fun y9=>bJ rfl (b7 false rfl (.cons (.pure pu) (.cons (.pure pu) (.cons (.pure pu) (.nil)))) (bU.cast (xq x _ _ _ D hx hD) (oz hcs)) pu (.inl rfl) rfl y9)
 | apply ak 388;exact fun y9=>bJ rfl (b7 false rfl (.cons (.pure pu) (.cons (.pure pu) (.cons (.pure pu) (.nil)))) (bU.cast (xq x _ _ _ D hx hD) (qV hcs)) pu (.inl rfl) rfl y9)
 | apply ak 389;exact fun y9=>c7 false 5 [1,4] [] cz rfl (.cons (.pure pu) (.cons (.pure pu) (.nil))) (bU.cast (uo D (bN x l n j 0) aq hD) (congrArg A.b hcs)) pu (.inl rfl) rfl rfl y9
 | apply ak 390;exact fun y9=>g1 rfl rfl (bX Tryz.underlying60 rfl gN az rfl rfl) rfl y9
 | apply ak 391;exact fun y9=>t1 (bM bL rfl rfl (ee hq)) rfl y9
 | apply ak 392;exact fun y9=>cV rfl rfl rfl y9
 | apply ak 393;exact fun y9=>bQ rfl rfl (cf i Tryz.underlying30 bL rfl rfl rfl aq rfl) rfl y9
 | apply ak 394;exact fun y9=>bQ rfl rfl (cf (i+1) Tryz.underlying30 bL rfl rfl rfl aq rfl) rfl y9
 | apply ak 395;exact fun y9=>s1 (bM bL rfl (fun w2 hG2=>hG2.cell' (.head _) hr.2 (FT hlb))) rfl y9
 | apply ak 396;exact fun y9=>fN rfl rfl rfl (b7 false rfl (.cons (.pure pu) (.cons (.pure pu) (.nil))) (bU.cast (Dh p q aC aC) (congrArg A.b h3)) pu (.inl rfl) rfl y9)
 | apply ak 397;exact fun y9=>g1 rfl rfl (bM fD rfl rfl (congrArg (fun l=>l[0]?) (qy hx _))) rfl y9
 | apply ak 398;exact fun y9=>g1 rfl rfl (cJ Tryz.underlying58 rfl rfl rfl) rfl y9
 | apply ak 399;exact fun y9=>bJ rfl (dI fD rfl rfl rfl rfl aH (sy hx _ _ _) y9)
 | apply ak 400;exact fun y9=>s1 (bM gN rfl rfl (congrArg (fun l=>l[0]?) (HC hx _ _))) rfl y9
 | apply ak 401;exact fun y9=>bJ rfl (dR 89 rfl Tryz.underlying30 bL rfl .nl rfl rfl aA aC aq rfl rfl rfl y9)
 | apply ak 402;exact fun y9=>dP 6 (cs':=fE (fT x p q)) rfl (by rw [Nat.zero_add,List.nil_append];exact vp hend) y9
 | apply ak 403;exact fun y9=>bJ rfl (cD dO rfl rfl rfl (fI (c:=fT x p q) hx) (fI (c:=fT x p q) hx) y9)
 | apply ak 404;exact fun y9=>s1 (qI Tryz.underlying68 Tryz.underlying5 Tryz.underlying9 rfl rfl aA) rfl y9
 | apply ak 405;exact fun y9=>bJ rfl (b7 false rfl (.cons (.pure pu) (.nil)) (bU.cast (Cn c hx hn) (congrArg (fun b=>A.i .i64 (ru b)) hcs)) pu (.inl rfl) rfl y9)
 | apply ak 406;exact fun y9=>dP 146 (cs':=CV.dt (c.E.map dB)) rfl aN y9
 | apply ak 407;exact fun y9=>bZ (rs:= [.cell 2 23,.tmp 3]) rfl (da bR rfl rfl rfl rfl (bV rfl bW)) y9) : aj n Q R := s
theorem ae.g17 {n : Nat} {Q R : Prop} (s : aj n Q R := by first
 | apply ak 408;exact fun y9=>bZ (rs:= [.cell 2 23,.tmp 3]) rfl (da bR rfl rfl (List.take_of_length_le aA) aA (bV rfl bW)) y9
 | apply ak 409;exact fun y9=>bK 3 [2] [(5,none)] (bM bL rfl rfl rfl) rfl rfl y9
 | apply ak 410;exact fun y9=>bK 12 [] [(3,none)] (bX Tryz.underlying109 rfl ey az rfl rfl) rfl rfl y9
 | apply ak 411;exact fun y9=>bK 9 [] [(3,none)] ((cu cP rfl rfl rfl).v (v':= .ag (CV.cells (eT (e.ch.map ga)))) (congrArg (fun n:Nat=>A.ag [.i .i64 3,.i .i64 0,.s [],.fz n (CV.dt (e.ch.map ga))]) (show e.ch.length=(e.ch.map ga).length by rw [List.length_map]))) rfl rfl y9
 | apply ak 412;exact fun y9=>bZ (rs:= [.cell 2 23]) rfl (da bR rfl rfl (List.take_of_length_le aA) aA bW) y9
 | apply ak 413;exact fun y9=>s1 (bM bL rfl rfl (dK hc (k:=1) rfl az)) rfl y9
 | apply ak 414;exact fun y9=>s1 (cf j Tryz.underlying31 c8 rfl rfl rfl aq rfl) rfl y9
 | apply ak 415;exact fun y9=>s1 (jJ (us:= []) (vs:= [.p 1 0]) rfl rfl) rfl y9
 | apply ak 416;exact fun y9=>s1 (dC k Tryz.underlying170 bL rfl rfl rfl aq rfl) rfl y9
 | apply ak 417;exact fun y9=>s1 (qc i Tryz.underlying3 Tryz.underlying5 rfl rfl) rfl y9
 | apply ak 418;exact fun y9=>bJ rfl (b7 false rfl (.cons (.pure pu) (.cons (.pure pu) (.nil))) (Cg x i hx) pu (.inl rfl) rfl y9)
 | apply ak 419;exact fun y9=>bJ rfl (b7 false rfl (.cons (.pure pu) (.nil)) (Hw m hm) pu (.inl rfl) rfl y9)
 | apply ak 420;exact fun y9=>gm 4 rfl rfl bO (dD (by rw [List.length_map,(qK x m _).len,rP]) rfl) y9
 | apply ak 421;exact fun y9=>s1 (cf i Tryz.underlying41 bR rfl rfl rfl aq rfl) rfl y9
 | apply ak 422;exact fun y9=>s1 (iK 2 (2 ^ e) rfl rfl rfl rfl aq) rfl y9
 | apply ak 423;exact fun y9=>s1 (cf 0 Tryz.underlying41 bR rfl rfl rfl aA rfl) rfl y9
 | apply ak 424;exact fun y9=>s1 ((nv 32 Tryz.underlying23 cr rfl aI bn bn (Nat.zero_le _) (Nat.le_refl _) aA rfl rfl).v (C2 hx)) rfl y9
 | apply ak 425;exact fun y9=>bJ rfl (b7 false rfl (.cons (.pure pu) (.nil)) (Ac L.length aq aq) pu (.inl rfl) rfl y9)
 | apply ak 426;exact fun y9=>c7 false 3 [2] [] cz rfl (.cons (.pure pu) (.nil)) (ih (L.take (cC L.length)) aG (hD.take _)) pu (.inl rfl) rfl rfl y9
 | apply ak 427;exact fun y9=>bK 6 [4,5] [] ((jf (L.length - cC L.length) Tryz.underlying41 bR rfl aP (bs rfl rfl) bn aq aq rfl rfl).v (v':=cM (L.drop (cC L.length))) (rh hD rfl)) rfl rfl y9
 | apply ak 428;exact fun y9=>c7 false 7 [6] [] cz rfl (.cons (.pure pu) (.nil)) (ih (L.drop (cC L.length)) aF (hD.drop _)) pu (.inl rfl) rfl rfl y9
 | apply ak 429;exact fun y9=>bJ rfl (b7 false rfl (.cons (.pure pu) (.nil)) (xA L.length aq aq) pu (.inl rfl) rfl y9)
 | apply ak 430;exact fun y9=>bK 7 [5,6] [] ((jf (L.length - (cC L.length)) Tryz.underlying41 bR rfl aP (bs rfl rfl) bn aq aq rfl rfl).v (v':=cM (L.drop (cC L.length))) (rh hD rfl)) rfl rfl y9
 | apply ak 431;exact fun y9=>bK 2 [0,1] [] ((jf (L.length - (cC L.length)) Tryz.underlying41 bR rfl aP (bs rfl rfl) bn aq aq rfl rfl).v (v':=cM (L.drop (cC L.length))) (rh hD rfl)) rfl rfl y9) : aj n Q R := s
theorem ae.g18 {n : Nat} {Q R : Prop} (s : aj n Q R := by first
 | apply ak 432;exact fun y9=>bK 5 [3,4] [] (eW i (cC L.length) rfl rfl rfl rfl aq aq) rfl rfl y9
 | apply ak 433;exact fun y9=>bK 9 [7,8] [] ((jf (cC L.length) Tryz.underlying41 bR rfl aP bn (bs rfl rfl) aq aq rfl rfl).v (v':=cM (L.take (cC L.length))) (pL hD aq)) rfl rfl y9
 | apply ak 434;exact fun y9=>gr 4 rfl rfl rfl rfl (fun hb8=> .step (bE rfl) rfl rfl<| .step (bE rfl) rfl rfl<| .step (cJ Tryz.underlying41 rfl rfl rfl) rfl rfl<| .step (bE rfl) rfl rfl<| .done) rfl rfl y9
 | apply ak 435;exact fun y9=>gm 4 rfl rfl bO (dD (by rw [List.length_map,(nw _ L i (Nat.le_refl _)).len]) rfl) y9
 | apply ak 436;exact fun y9=>bJ rfl (b7 false rfl (.cons (.pure pu) (.nil)) (xA n aq hn) pu (.inl rfl) rfl y9)
 | apply ak 437;exact fun y9=>s1 (gX Tryz.underlying23 cr rfl rfl (by simp [hd]) aI) rfl y9
 | apply ak 438;exact fun y9=>gr 3 rfl rfl rfl rfl (fun hb20=> .step (bE rfl) rfl rfl<| .step (bE rfl) rfl rfl<| .step (bE rfl) rfl rfl<| .done) rfl rfl y9
 | apply ak 439;exact fun y9=>s1 ((oq bR rfl Tryz.underlying23 cr rfl).v (v':= .ag ((List.replicate 32 (0:UInt8)).map u8)) aw) rfl y9
 | apply ak 440;exact fun y9=>bJ rfl (cD bR rfl rfl rfl aA (by simp [hlf]) y9)
 | apply ak 441;exact fun y9=>bJ rfl (b7 false rfl (.cons (.pure pu) (.cons (.pure pu) (.nil))) (bU.cast (xm x n hx) (if_neg hcs)) pu (.inl rfl) rfl y9)
 | apply ak 442;exact fun y9=>bJ rfl (b7 false rfl (.cons (.pure pu) (.cons (.pure pu) (.nil))) (bU.cast (xm x k hx) (if_pos hsz)) pu (.inl rfl) rfl y9)
 | apply ak 443;exact fun y9=>bJ rfl (eF 9 rfl Tryz.underlying30 bL rfl rfl rfl rfl rfl y9)
 | apply ak 444;exact fun y9=>bJ rfl (eF 29 rfl Tryz.underlying30 bL rfl rfl rfl rfl rfl y9)
 | apply ak 445;exact fun y9=>bJ rfl (b7 false rfl (.cons (.pure pu) (.nil)) (Gr m hm) pu (.inl rfl) rfl y9)
 | apply ak 446;exact fun y9=>s1 (cR Tryz.underlying43 rfl bL az rfl rfl) rfl y9
 | apply ak 447;exact fun y9=>s1 (cR Tryz.underlying43 rfl ir az rfl rfl) rfl y9
 | apply ak 448;exact fun y9=>s1 (bX Tryz.underlying43 rfl ir az rfl rfl) rfl y9
 | apply ak 449;exact fun y9=>bK 2 [1] [] ((bE rfl).v (v':= .b true) (congrArg A.b (decide_eq_true aq))) rfl rfl y9
 | apply ak 450;exact fun y9=>bP 6 [3,5] [] rfl rfl ((bE rfl).v (v':= .b true) (congrArg A.b (decide_eq_true aq))) rfl rfl y9
 | apply ak 451;exact fun y9=>bP 15 [8,10,14] [] rfl rfl ((bE rfl).v (v':= .b true) (congrArg A.b (bne_iff_ne.2 aq))) rfl rfl y9
 | apply ak 452;exact fun y9=>bP 21 [17,19,20] [] rfl rfl ((bE rfl).v (v':= .b true) (congrArg A.b (bne_iff_ne.2 aq))) rfl rfl y9
 | apply ak 453;exact fun y9=>bP 26 [23,25] [] rfl rfl ((bE rfl).v (v':= .b true) (congrArg A.b (decide_eq_true aq))) rfl rfl y9
 | apply ak 454;exact fun y9=>bP 31 [28,30] [] rfl rfl ((bE rfl).v (v':= .b true) (congrArg A.b (decide_eq_true aq))) rfl rfl y9
 | apply ak 455;exact fun y9=>bP 52 [48,50,51] [] rfl rfl (((nu Tryz.underlying23 Tryz.underlying5 cr aw rfl rfl hok.prev aA)).v (v':= .b true) (congrArg A.b (by rw [beq_eq_false_iff_ne.2 h8];rfl))) rfl rfl y9) : aj n Q R := s
theorem ae.g19 {n : Nat} {Q R : Prop} (s : aj n Q R := by first
 | apply ak 456;exact fun y9=>bP 59 [54,58] [] rfl rfl ((bE rfl).v (v':= .b true) (rfl)) rfl rfl y9
 | apply ak 457;exact fun y9=>bP 66 [61,64,65] [] rfl rfl ((bE rfl).v (v':= .b true) (congrArg A.b (bne_iff_ne.2 aq))) rfl rfl y9
 | apply ak 458;exact fun y9=>bP 66 [61,64,65] [] rfl rfl ((bE rfl).v (v':= .b false) (congrArg A.b (bne_eq_false_iff_eq.2 aq))) rfl rfl y9
 | apply ak 459;exact fun y9=>bJ rfl (b7 false rfl (.cons (.pure pu) (.cons (.pure pu) (.nil))) (xp τ bf hbf hsu e.ch (by have:=hok.g9;simp only [maxLen];omega)) pu (.inl rfl) rfl y9)
 | apply ak 460;exact fun y9=>s1 ((bE rfl).v (v':= .i .i64 351) rfl) rfl y9
 | apply ak 461;exact fun y9=>bJ rfl (b7 false rfl (.cons (.pure pu) (.nil)) (bU.cast (AO l hl hn) (zW hf)) pu (.inl rfl) rfl y9)
 | apply ak 462;exact fun y9=>bK 4 [2,3] [] (cf i Tryz.underlying24 cT rfl rfl rfl aq rfl) rfl rfl y9
 | apply ak 463;exact fun y9=>bK 5 [4] [] (dw cT rfl rfl (kI hl he) hok.len) rfl rfl y9
 | apply ak 464;exact fun y9=>c7 false 6 [5] [] cz rfl (.cons (.pure pu) (.nil)) (r9 e hok) pu (.inl rfl) rfl rfl y9
 | apply ak 465;exact fun y9=>bK 9 [7,8] [] (cf i Tryz.underlying24 cT rfl rfl rfl aq rfl) rfl rfl y9
 | apply ak 466;exact fun y9=>bK 10 [9] [] (cR Tryz.underlying45 rfl eG az rfl rfl) rfl rfl y9
 | apply ak 467;exact fun y9=>bK 11 [10] [] (dw eG rfl rfl (DH hl he) rfl) rfl rfl y9
 | apply ak 468;exact fun y9=>fS y9
 | apply ak 469;exact fun y9=>bK 2 [] [(9,none)] (cu cT rfl rfl hok.len) rfl rfl y9
 | apply ak 470;exact fun y9=>c7 false 3 [2] [] cz rfl (.cons (.pure pu) (.nil)) (pO e hok) pu (.inl rfl) rfl rfl y9
 | apply ak 471;exact fun y9=>bK 4 [] [(9,none)] (bX Tryz.underlying45 rfl eG az rfl rfl) rfl rfl y9
 | apply ak 472;exact fun y9=>bK 5 [4] [(9,none)] (dw eG rfl rfl (vN hok) rfl) rfl rfl y9
 | apply ak 473;exact fun y9=>s1 (cu bR rfl rfl (by rw [List.length_map,hr])) rfl y9
 | apply ak 474;exact fun y9=>bJ rfl (gC 5 rfl Tryz.underlying31 c8 rfl rfl rfl aD (show jD []= []from rfl) rfl rfl rfl y9)
 | apply ak 475;exact fun y9=>bJ rfl (dR 7 rfl Tryz.underlying31 c8 rfl (.sl rfl aA) rfl rfl aA aC aq rfl rfl rfl y9)
 | apply ak 476;exact fun y9=>bJ rfl (gC 5 rfl Tryz.underlying24 cT rfl rfl rfl aD (show jD []= []from rfl) rfl rfl rfl y9)
 | apply ak 477;exact fun y9=>bJ rfl (dR 7 rfl Tryz.underlying24 cT rfl (.sl rfl aA) rfl rfl (by first|rfl|omega) aC aq rfl rfl rfl y9)
 | apply ak 478;exact fun y9=>s1 ((ep Tryz.underlying3 Tryz.underlying5 rfl).v (D3 a)) rfl y9
 | apply ak 479;exact fun y9=>s1 ((ep Tryz.underlying3 Tryz.underlying5 rfl).v (D4 a)) rfl y9) : aj n Q R := s
theorem ae.g20 {n : Nat} {Q R : Prop} (s : aj n Q R := by first
 | apply ak 480;exact fun y9=>s1 ((ep Tryz.underlying3 Tryz.underlying5 rfl).v (D5 a)) rfl y9
 | apply ak 481;exact fun y9=>s1 ((ep Tryz.underlying3 Tryz.underlying5 rfl).v (D6 a)) rfl y9
 | apply ak 482;exact fun y9=>bJ rfl (eF 34 rfl Tryz.underlying30 bL rfl rfl rfl rfl rfl y9)
 | apply ak 483;exact fun y9=>bJ rfl (dR 7 rfl Tryz.underlying68 cr rfl (.sl rfl ar) rfl (dH rfl aH) aH aI aA rfl rfl rfl y9)
 | apply ak 484;exact fun y9=>bJ rfl (b7 false rfl (.cons (.pure pu) (.cons (.pure pu) (.nil))) (GP x k hx h2) pu (.inl rfl) rfl y9)
 | apply ak 485;exact fun y9=>bK 1 [] [(4,none)] (cu bR rfl rfl ar) rfl rfl y9
 | apply ak 486;exact fun y9=>bK 4 [] [(7,none)] (cu bR rfl rfl ar) rfl rfl y9
 | apply ak 487;exact fun y9=>bK 7 [0,5,6] [] (eP (out:= [_,_,_]) [[cn (.int .i64 0)], [cn (.slice none 0 0)], [cn (.slice none 0 0)]] eG rfl Tryz.underlying43 aw rfl rfl ⟨⟨by(first|rfl|omega|(simp;done)|(simp [*];done)|(simp [cw, *];done)),rfl⟩,⟨⟨by(first|rfl|omega|(simp;done)|(simp [*];done)|(simp [cw, *];done)),rfl⟩,⟨⟨by(first|rfl|omega|(simp;done)|(simp [*];done)|(simp [cw, *];done)),rfl⟩,trivial⟩⟩⟩ rfl) rfl rfl y9
 | apply ak 488;exact fun y9=>bJ rfl (b7 false rfl (.cons (.pure pu) (.nil)) (bU.cast (sD _ (fg x k) (Nat.le_refl _) (lY x k) aE) (congrArg (fun l:List UInt8=>A.ag (l.map u8)) (xG hsz).symm)) pu (.inl rfl) rfl y9)
 | apply ak 489;exact fun y9=>s1 (cf (l.length - 1) Tryz.underlying24 cT rfl rfl rfl aq rfl) rfl y9
 | apply ak 490;exact fun y9=>bJ rfl (rR ⟨[(700,some [.mc b39 (mapOf σ)])]⟩ [(700, [.mc b39 (mapOf (cv σ c))])] false rfl ⟨⟨rfl,cK.pure bO⟩,trivial⟩ (.cons (.pure pu) (.cons (.pure pu) .nil)) (zC aC hk) pu (.inl rfl) (fun p hp=>by rw [List.mem_singleton.1 hp];exact⟨⟨_,rfl⟩,bO,.inl rfl⟩) rfl y9)
 | apply ak 491;exact fun y9=>bJ rfl (rR ⟨[(700,some [.mc b39 (mapOf (cv σ c))])]⟩ [] false rfl ⟨⟨rfl,cK.pure bO⟩,trivial⟩ (.cons (.pure pu) (.cons (.pure pu) .nil)) (Hu (np hsup aq hk) aq hs) pu (.inl rfl) (fun p hp=>by cases hp) rfl y9)
 | apply ak 492;exact fun y9=>bK 0 [] [] ((nv (ds:=((x.map u8).drop (0*1)).take (32*1)) 32 Tryz.underlying23 cr rfl aI bn bn (Nat.zero_le _) (Nat.le_refl _) aH rfl rfl).v (zl hx)) rfl rfl y9
 | apply ak 493;exact fun y9=>nT 100 false 1 [0] [] cz rfl (.cons (.pure pu) (.nil)) (zO x aq aq) bO (.inl rfl) rfl rfl y9
 | apply ak 494;exact fun y9=>c7 false 4 [3] [] cz rfl (.cons (.pure pu) (.nil)) (D7 (l.length:Nat)) pu (.inl rfl) rfl rfl y9
 | apply ak 495;exact fun y9=>gp 104 5 [1,4] [(100,some 1)] cz Tryz.underlying68 cr rfl (.sl rfl aA) rfl rfl aA aC aq rfl (List.map_append (l₁:=x) (l₂:=fV (l.length:Nat) 4)).symm rfl rfl y9
 | apply ak 496;exact fun y9=>c7 true 6 [5] [(104,some 5)] cz rfl (.cons (.pure pu) (.cons (.sl rfl rfl aH (dD aH rfl) (cK.pure bO) bO) .nil)) (bU.cast (kB uG (x++fV (l.length:Nat) 4) aH az) (congrArg (fun l:List UInt8=>A.ag (l.map u8)) (xJ x l.length).symm)) pu (.inr fu) rfl rfl y9
 | apply ak 497;exact fun y9=>bJ rfl (b7 false rfl (.cons (.pure pu) (.cons (.pure pu) (.cons (.pure pu) (.nil)))) (bU.cast (Cm (kR x l.length) aA (eY (cv σ c) ids) (fP (cv σ c) ids) aq aq) (oA (mS hlis))) pu (.inl rfl) rfl y9)
 | apply ak 498;exact fun y9=>bJ rfl (b7 false rfl (.cons (.pure pu) (.nil)) (bU.cast (Co (gT x l.length (cv σ c) ids) (lI _ _) (show(gT x l.length (cv σ c) ids).E.length≤maxLen by simp only [maxLen];exact Nat.le_trans hbE az)) (rl (ra (mS hlis)))) pu (.inl rfl) rfl y9)
 | apply ak 499;exact fun y9=>bJ rfl (ky bR rfl rfl rfl rfl rfl (show((kU (gT x l.length (cv σ c) ids)).map u8).length=32 by simp) (by rw [rV rfl (wy _)];decide) (wT rfl) y9)
 | apply ak 500;exact fun y9=>bK 0 [] [] (dw bR rfl rfl (List.take_of_length_le aH) aH) rfl rfl y9
 | apply ak 501;exact fun y9=>bK 4 [] [(18,none)] (cu cT rfl rfl hok0.len) rfl rfl y9
 | apply ak 502;exact fun y9=>c7 false 5 [4] [] cz rfl (.cons (.pure pu) (.nil)) (pO (fQ x l iss day ids c (cv σ c)) hok0) pu (.inl rfl) rfl rfl y9
 | apply ak 503;exact fun y9=>c7 false 6 [0,1,3,5] [] cz rfl (.cons (.pure pu) (.cons (.pure pu) (.cons (.pure pu) (.cons (.pure pu) (.nil))))) (bU.cast (Hk x k (l.length:Nat) (dX (fQ x l iss day ids c (cv σ c))) hx aA hsz) (sx hsz hlt)) pu (.inl rfl) rfl rfl y9) : aj n Q R := s
theorem ae.g21 {n : Nat} {Q R : Prop} (s : aj n Q R := by first
 | apply ak 504;exact fun y9=>bK 10 [] [(18,none)] (bX Tryz.underlying45 rfl eG az rfl rfl) rfl rfl y9
 | apply ak 505;exact fun y9=>rH 0 11 [8,10] [(18,none)] rfl cz eG rfl rfl rfl rfl rfl rfl (by rw [hok0.len];decide) (show _=(fl x k l iss day ids c (cv σ c)).cells from wU (s:=⟨(l.length:Nat),jX (gw x (l.length:Nat)) (dX (fQ x l iss day ids c (cv σ c))),path (fg x k) l.length⟩) hok0) rfl y9
 | apply ak 506;exact fun y9=>nT 143 false 1 [0] [] cz rfl (.cons (.pure pu) (.nil)) (CQ l hl aq) bO (.inl rfl) rfl rfl y9
 | apply ak 507;exact fun y9=>bK 2 [] [(18,none)] (cu cT rfl rfl hokN.len) rfl rfl y9
 | apply ak 508;exact fun y9=>jl 145 3 [2] cz Tryz.underlying24 cT rfl rfl rfl (by simp [cw,hokN.len]) (show cw (A.ag (fl x k l iss day ids c (cv σ c)).cells)++ []=(fl x k l iss day ids c (cv σ c)).cells from List.append_nil _) rfl rfl rfl rfl y9
 | apply ak 509;exact fun y9=>gp 146 4 [1,3] [(143,some 1),(145,some 3)] cz Tryz.underlying24 cT rfl (.sl rfl (by rw [kK hl])) rfl (dH rfl ar) (by rw [hokN.len]) aC aq rfl (vO l (fl x k l iss day ids c (cv σ c))) rfl rfl y9
 | apply ak 510;exact fun y9=>jL 14 0 rfl rfl rfl rfl bO (dD (by rw [kK (tI hl hokN),List.length_append];rfl) rfl) rfl y9
 | apply ak 511;exact fun y9=>vh hdf hS mf DJ rfl (fR iN rfl rfl rfl (fR dU rfl rfl rfl bW)) y9
 | apply ak 512;exact fun y9=>l8 ⟨[(14,some [.nl]),(15,some [.i .i64 0])]⟩ hdf hS mf ⟨⟨rfl,cK.pure bO⟩,⟨rfl,cK.pure bO⟩,trivial⟩ (.cons (.kp rfl) (.cons (.kp rfl) .nil)) (nQ _ _ 351) (hu) (nt rfl rfl bO bO) rfl (fR iN rfl rfl rfl (fR dU rfl rfl rfl bW)) y9
 | apply ak 513;exact fun y9=>t1 (cf _ Tryz.underlying41 bR rfl rfl rfl aq rfl) rfl y9
 | apply ak 514;exact fun y9=>g1 rfl rfl (((oo Tryz.underlying23 Tryz.underlying5 cr aw rfl rfl ha.dc hb.dc)).v (v':= .b true) (congrArg A.b (beq_iff_eq.2 h5))) rfl y9
 | apply ak 515;exact fun y9=>g1 rfl rfl (dw bR rfl rfl (jP ha) (by rw [List.length_map,ha.prev])) rfl y9
 | apply ak 516;exact fun y9=>g1 rfl rfl (dw bR rfl rfl (jP hb) (by rw [List.length_map,hb.prev])) rfl y9
 | apply ak 517;exact fun y9=>g1 rfl rfl (bX Tryz.underlying45 rfl eG az rfl rfl) rfl y9
 | apply ak 518;exact fun y9=>bJ rfl (b7 false rfl (.cons (.pure pu) (.nil)) (bU.cast (Gn c hx hn hD) (congrArg (fun b=>A.i .i64 (ru b)) hcs)) pu (.inl rfl) rfl y9)
 | apply ak 519;exact fun y9=>bK 0 [] [(3,none)] (dw bR rfl rfl (List.take_of_length_le aH) aH) rfl rfl y9
 | apply ak 520;exact fun y9=>fN rfl rfl rfl (b7 false rfl (.cons (.pure pu) (.cons (.pure pu) (.nil))) (bU.cast (Gp p q aC aC) (congrArg A.b ((CY p q).trans (congrArg not h3)))) pu (.inl rfl) rfl y9)
 | apply ak 521;exact fun y9=>bJ rfl (cD dO rfl rfl rfl (fI (c:=fT x p q) hx) aA y9)
 | apply ak 522;exact fun y9=>bJ rfl (b7 false rfl (.cons (.pure pu) (.cons (.pure pu) (.cons (.pure pu) (.nil)))) (AJ (fJ x (k:Int)) k l aA hl hn) pu (.inl rfl) rfl y9)
 | apply ak 523;exact fun y9=>s1 ((bE rfl).v (v':= .b true) (congrArg A.b (decide_eq_true aq))) rfl y9
 | apply ak 524;exact fun y9=>dr rfl rfl rfl y9
 | apply ak 525;exact fun y9=>s1 ((bE rfl).v (v':= .b false) (congrArg A.b (decide_eq_false aq))) rfl y9
 | apply ak 526;exact fun y9=>bJ rfl (b7 false rfl (.cons (.pure pu) (.cons (.pure pu) (.nil))) (xp σ (eL σ) rfl hsup c aC) pu (.inl rfl) rfl y9)
 | apply ak 527;exact fun y9=>bJ rfl (b7 false rfl (.cons (.pure pu) (.cons (.pure pu) (.nil))) (GW (cv σ c) hsup1 ids aq) pu (.inl rfl) rfl y9)) : aj n Q R := s
theorem ae.g22 {n : Nat} {Q R : Prop} (s : aj n Q R := by first
 | apply ak 528;exact fun y9=>bJ rfl (b7 false rfl (.cons (.pure pu) (.cons (.pure pu) (.nil))) (GR x l.length hx) pu (.inl rfl) rfl y9)
 | apply ak 529;exact fun y9=>bJ rfl (b7 false rfl (.cons (.pure pu) (.cons (.pure pu) (.cons (.pure pu) (.nil)))) (bU.cast (Gm (kR x l.length) aA (eY (cv σ c) ids) (fP (cv σ c) ids) aq aq) (oA (mS hlis))) pu (.inl rfl) rfl y9)
 | apply ak 530;exact fun y9=>dP 27 (cs':=gD iss (l.length:Nat) day c zD zD) rfl rfl y9
 | apply ak 531;exact fun y9=>bJ rfl (b7 false rfl (.cons (.pure pu) (.nil)) (bU.cast (Gq (gT x l.length (cv σ c) ids) (lI _ _) (show(gT x l.length (cv σ c) ids).E.length≤maxLen by simp only [maxLen];exact Nat.le_trans hbE az) (CN (ra (mS hlis))).2.2) (rl (ra (mS hlis)))) pu (.inl rfl) rfl y9)
 | apply ak 532;exact fun y9=>bJ rfl (ky bR rfl rfl rfl rfl rfl (show((kU (gT x l.length (cv σ c) ids)).map u8).length=32 by simp) (by rw [rV rfl rfl];decide) (wT rfl) y9)
 | apply ak 533;exact fun y9=>dP 27 (cs':=gD iss (l.length:Nat) day c (kU (gT x l.length (cv σ c) ids)) (iZ l)) rfl (by rw [hld]) y9
 | apply ak 534;exact fun y9=>bK 0 [] [(7,none)] (cu bR rfl rfl aY) rfl rfl y9
 | apply ak 535;exact fun y9=>bK 3 [] [(27,none)] (cu cT rfl rfl hok0.len) rfl rfl y9
 | apply ak 536;exact fun y9=>c7 false 4 [3] [] cz rfl (.cons (.pure pu) (.nil)) (r9 (fQ x l iss day ids c (cv σ c)) hok0) pu (.inl rfl) rfl rfl y9
 | apply ak 537;exact fun y9=>c7 false 5 [0,1,2,4] [] cz rfl (.cons (.pure pu) (.cons (.pure pu) (.cons (.pure pu) (.cons (.pure pu) (.nil))))) (bU.cast (GG x k (l.length:Nat) (dX (fQ x l iss day ids c (cv σ c))) hx aA) (sx hsz hlt)) pu (.inl rfl) rfl rfl y9
 | apply ak 538;exact fun y9=>bK 9 [] [(27,none)] (bX Tryz.underlying45 rfl eG az rfl rfl) rfl rfl y9
 | apply ak 539;exact fun y9=>rH 1 10 [7,9] [(27,none)] rfl cz eG rfl rfl rfl rfl rfl rfl (by rw [hok0.len];decide) (show _=(fl x k l iss day ids c (cv σ c)).cells from wU (s:=⟨(l.length:Nat),jX (gw x (l.length:Nat)) (dX (fQ x l iss day ids c (cv σ c))),path (fg x k) l.length⟩) hok0) rfl y9
 | apply ak 540;exact fun y9=>jl 187 0 [] cz Tryz.underlying24 cT rfl rfl rfl aD (show jD []= []from rfl) rfl rfl rfl rfl y9
 | apply ak 541;exact fun y9=>gp 189 2 [0,1] [(187,some 0)] cz Tryz.underlying24 cT rfl (.sl rfl aA) rfl rfl (by rw [kK hl]) aC aq rfl (List.nil_append _) rfl rfl y9
 | apply ak 542;exact fun y9=>bK 3 [] [(27,none)] (cu cT rfl rfl hokN.len) rfl rfl y9
 | apply ak 543;exact fun y9=>jl 191 4 [3] cz Tryz.underlying24 cT rfl rfl rfl (by simp [cw,hokN.len]) (show cw (A.ag (fl x k l iss day ids c (cv σ c)).cells)++ []=(fl x k l iss day ids c (cv σ c)).cells from List.append_nil _) rfl rfl rfl rfl y9
 | apply ak 544;exact fun y9=>gp 192 5 [2,4] [(189,some 2),(191,some 4)] cz Tryz.underlying24 cT rfl (.sl rfl (by rw [kK hl,Nat.zero_add])) rfl (dH rfl ar) (by rw [hokN.len]) aC aq rfl (vO l (fl x k l iss day ids c (cv σ c))) rfl rfl y9
 | apply ak 545;exact fun y9=>lu 14 rfl (v':= .sl 192 71 0 (l.length+1)) (congrArg (A.sl 192 71 0) aq) y9
 | apply ak 546;exact fun y9=>gm 14 rfl rfl bO (dD (by rw [kK (tI hl hokN),List.length_append];rfl) rfl) y9
 | apply ak 547;exact fun y9=>s1 ((sQ rfl rfl aq aq).v (v':=nJ k) (congrArg (A.i .i64) hk)) rfl y9
 | apply ak 548;exact fun y9=>s1 ((jf (ds:=fm (l.take k)) k Tryz.underlying24 cT rfl (by rw [kK hl]) bn (bs rfl rfl) aq aq rfl (DI hl k)).v (v':=eS (l.take k)) (congrArg (fun n=>A.fz n (fm (l.take k))) hlen.symm)) rfl y9
 | apply ak 549;exact fun y9=>bJ rfl (b7 false rfl (.nil) (Fp) pu (.inl rfl) rfl y9)
 | apply ak 550;exact fun y9=>bJ rfl (b7 false rfl (.cons (.pure pu) (.cons (.pure pu) (.cons (.pure pu) (.cons (.pure pu) (.nil))))) (bU.cast (xz n l ids c hT hn) (congrArg A.b hcs)) pu (.inl rfl) rfl y9)
 | apply ak 551;exact fun y9=>g1 rfl rfl ((bE rfl).v (v':= .b true) (congrArg A.b aA)) rfl y9) : aj n Q R := s
theorem ae.g23 {n : Nat} {Q R : Prop} (s : aj n Q R := by first
 | apply ak 552;exact fun y9=>bJ rfl (b7 false rfl (.cons (.pure pu) (.cons (.pure pu) (.cons .nl (.cons .nl .nil)))) (bU.cast (xz n l [] [] hT hn) (congrArg A.b hcs)) pu (.inl rfl) rfl y9)
 | apply ak 553;exact fun y9=>cY y9
 | apply ak 554;exact fun y9=>cZ y9
 | apply ak 555;exact fun y9=>bJ rfl (cX 1 rfl rfl rfl y9)
 | apply ak 556;exact fun y9=>s1 (bX Tryz.underlying109 rfl bL az rfl rfl) rfl y9
 | apply ak 557;exact fun y9=>s1 (bX Tryz.underlying109 rfl ey az rfl rfl) rfl y9
 | apply ak 558;exact fun y9=>s1 (bM ey rfl rfl rfl) rfl y9
 | apply ak 559;exact fun y9=>bJ rfl (cX 2 rfl rfl rfl y9)
 | apply ak 560;exact fun y9=>s1 ((bE rfl).v (v':= .i .u32 0) rfl) rfl y9
 | apply ak 561;exact fun y9=>s1 (bX Tryz.underlying120 rfl bL az rfl rfl) rfl y9
 | apply ak 562;exact fun y9=>eN 27 cL aw y9
 | apply ak 563;exact fun y9=>t1 (cf i Tryz.underlying30 bL rfl rfl rfl aq rfl) rfl y9
 | apply ak 564;exact fun y9=>t1 ((bE rfl).v (v':= .b false) (congrArg A.b (decide_eq_false aq))) rfl y9
 | apply ak 565;exact fun y9=>s1 (eP (out:= [_,_,_,_]) [[cn (.int .i64 0)], [cn (.int .i64 0)], [cn (.string ByteArray.empty)], [cn (.slice none 0 0)]] cP rfl Tryz.underlying109 aw rfl rfl ⟨⟨by(first|rfl|omega|(simp;done)|(simp [*];done)|(simp [cw, *];done)),rfl⟩,⟨⟨by(first|rfl|omega|(simp;done)|(simp [*];done)|(simp [cw, *];done)),rfl⟩,trivial⟩⟩ rfl) rfl y9
 | apply ak 566;exact fun y9=>eN 60 cL aw y9
 | apply ak 567;exact fun y9=>t1 (cf i Tryz.underlying31 c8 rfl rfl rfl aq rfl) rfl y9
 | apply ak 568;exact fun y9=>t1 (cR Tryz.underlying55 rfl bL az rfl rfl) rfl y9
 | apply ak 569;exact fun y9=>t1 (bM bL rfl rfl (dK hc (k:=0) rfl az)) rfl y9
 | apply ak 570;exact fun y9=>bQ rfl rfl (cf i Tryz.underlying31 c8 rfl rfl rfl aq rfl) rfl y9
 | apply ak 571;exact fun y9=>bQ rfl rfl (bM bL rfl rfl (dK hc (k:=0) rfl az)) rfl y9
 | apply ak 572;exact fun y9=>bQ rfl rfl (bM bL rfl rfl (dK hc (k:=1) rfl az)) rfl y9
 | apply ak 573;exact fun y9=>dh ⟨_, [], []⟩ 67 4 cL (le_refl rfl) y9
 | apply ak 574;exact fun y9=>bK 0 [] [(6,none)] (bX Tryz.underlying45 rfl bL az rfl rfl) rfl rfl y9
 | apply ak 575;exact fun y9=>bK 1 [0] [(6,none)] (bM bL rfl rfl rfl) rfl rfl y9) : aj n Q R := s
theorem ae.g24 {n : Nat} {Q R : Prop} (s : aj n Q R := by first
 | apply ak 576;exact fun y9=>bK 7 [3,6] [] (bE rfl) rfl rfl y9
 | apply ak 577;exact fun y9=>bK 16 [8,15] [] (bE rfl) rfl rfl y9
 | apply ak 578;exact fun y9=>bK 17 [16] [] (bE rfl) rfl rfl y9
 | apply ak 579;exact fun y9=>bK 22 [17,21] [] (bE rfl) rfl rfl y9
 | apply ak 580;exact fun y9=>bK 23 [22] [] (bE rfl) rfl rfl y9
 | apply ak 581;exact fun y9=>bK 27 [23,26] [] (bE rfl) rfl rfl y9
 | apply ak 582;exact fun y9=>bK 28 [27] [] (bE rfl) rfl rfl y9
 | apply ak 583;exact fun y9=>bT 29 [28] rfl rfl rfl rfl rfl y9
 | apply ak 584;exact fun y9=>bT 30 [28,29] rfl rfl rfl rfl rfl y9
 | apply ak 585;exact fun y9=>bT 31 [28,30] rfl rfl rfl rfl rfl y9
 | apply ak 586;exact fun y9=>bK 32 [28,31] [] (bE rfl) rfl rfl y9
 | apply ak 587;exact fun y9=>bK 33 [32] [] (bE rfl) rfl rfl y9
 | apply ak 588;exact fun y9=>bT 34 [33] rfl rfl rfl rfl rfl y9
 | apply ak 589;exact fun y9=>bT 35 [33,34] rfl rfl rfl rfl rfl y9
 | apply ak 590;exact fun y9=>bT 36 [33,35] rfl rfl rfl rfl rfl y9
 | apply ak 591;exact fun y9=>cU 37 [36] rfl rfl rfl rfl y9
 | apply ak 592;exact fun y9=>cU 38 [36] rfl rfl rfl rfl y9
 | apply ak 593;exact fun y9=>cU 39 [36,38] rfl rfl rfl rfl y9
 | apply ak 594;exact fun y9=>cU 40 [36,37,39] rfl rfl rfl rfl y9
 | apply ak 595;exact fun y9=>cU 41 [36,40] rfl rfl rfl rfl y9
 | apply ak 596;exact fun y9=>cU 42 [36,41] rfl rfl rfl rfl y9
 | apply ak 597;exact fun y9=>cU 43 [36] rfl rfl rfl rfl y9
 | apply ak 598;exact fun y9=>cU 44 [36,43] rfl rfl rfl rfl y9
 | apply ak 599;exact fun y9=>cU 45 [36,42,44] rfl rfl rfl rfl y9) : aj n Q R := s
theorem ae.g25 {n : Nat} {Q R : Prop} (s : aj n Q R := by first
 | apply ak 600;exact fun y9=>bT 46 [33,36,45] rfl rfl rfl rfl rfl y9
 | apply ak 601;exact fun y9=>bK 47 [33,46] [] (bE rfl) rfl rfl y9
 | apply ak 602;exact fun y9=>bK 48 [47] [] (bE rfl) rfl rfl y9
 | apply ak 603;exact fun y9=>bT 49 [48] rfl rfl rfl rfl rfl y9
 | apply ak 604;exact fun y9=>bT 50 [48,49] rfl rfl rfl rfl rfl y9
 | apply ak 605;exact fun y9=>bT 51 [48] rfl rfl rfl rfl rfl y9
 | apply ak 606;exact fun y9=>bT 52 [48,50,51] rfl rfl rfl rfl rfl y9
 | apply ak 607;exact fun y9=>bK 53 [48,52] [] (bE rfl) rfl rfl y9
 | apply ak 608;exact fun y9=>bK 54 [53] [] (bE rfl) rfl rfl y9
 | apply ak 609;exact fun y9=>bT 55 [54] rfl rfl rfl rfl rfl y9
 | apply ak 610;exact fun y9=>bT 56 [54] rfl rfl rfl rfl rfl y9
 | apply ak 611;exact fun y9=>bT 57 [54,56] rfl rfl rfl rfl rfl y9
 | apply ak 612;exact fun y9=>bT 58 [54,55,57] rfl rfl rfl rfl rfl y9
 | apply ak 613;exact fun y9=>bT 59 [54,58] rfl rfl rfl rfl rfl y9
 | apply ak 614;exact fun y9=>bK 60 [54,59] [] (bE rfl) rfl rfl y9
 | apply ak 615;exact fun y9=>bK 61 [60] [] (bE rfl) rfl rfl y9
 | apply ak 616;exact fun y9=>bT 62 [61] rfl rfl rfl rfl rfl y9
 | apply ak 617;exact fun y9=>bT 63 [61,62] rfl rfl rfl rfl rfl y9
 | apply ak 618;exact fun y9=>bT 64 [61,63] rfl rfl rfl rfl rfl y9
 | apply ak 619;exact fun y9=>bT 65 [61] rfl rfl rfl rfl rfl y9
 | apply ak 620;exact fun y9=>bT 66 [61,64,65] rfl rfl rfl rfl rfl y9
 | apply ak 621;exact fun y9=>bK 2 [1] [] ((bE rfl).v (v':= .b false) (congrArg A.b (decide_eq_false aq))) rfl rfl y9
 | apply ak 622;exact fun y9=>bP 4 [3] [(6,none)] rfl rfl (bX Tryz.underlying45 rfl bL az rfl rfl) rfl rfl y9
 | apply ak 623;exact fun y9=>bP 5 [3,4] [(6,none)] rfl rfl (bM bL rfl rfl rfl) rfl rfl y9) : aj n Q R := s
theorem ae.g26 {n : Nat} {Q R : Prop} (s : aj n Q R := by first
 | apply ak 624;exact fun y9=>bP 6 [3,5] [] rfl rfl ((bE rfl).v (v':= .b false) (congrArg A.b (decide_eq_false aq))) rfl rfl y9
 | apply ak 625;exact fun y9=>bP 9 [8] [(6,none)] rfl rfl (bX Tryz.underlying45 rfl bL az rfl rfl) rfl rfl y9
 | apply ak 626;exact fun y9=>bP 10 [8,9] [(6,none)] rfl rfl (bM bL rfl rfl rfl) rfl rfl y9
 | apply ak 627;exact fun y9=>bP 11 [8] [] rfl rfl (bE rfl) rfl rfl y9
 | apply ak 628;exact fun y9=>bP 12 [8,11] [] rfl rfl (cf 0 Tryz.underlying24 cT rfl rfl rfl aq rfl) rfl rfl y9
 | apply ak 629;exact fun y9=>bP 13 [8,12] [] rfl rfl (cR Tryz.underlying45 rfl bL az rfl rfl) rfl rfl y9
 | apply ak 630;exact fun y9=>bP 14 [8,13] [] rfl rfl (bM bL rfl rfl (fw hl he0 (k:=0) rfl az)) rfl rfl y9
 | apply ak 631;exact fun y9=>bP 15 [8,10,14] [] rfl rfl ((bE rfl).v (v':= .b false) (congrArg A.b (bne_eq_false_iff_eq.2 aq))) rfl rfl y9
 | apply ak 632;exact fun y9=>bP 18 [17] [(6,none)] rfl rfl (bX Tryz.underlying45 rfl bL az rfl rfl) rfl rfl y9
 | apply ak 633;exact fun y9=>bP 19 [17,18] [(6,none)] rfl rfl (bM bL rfl rfl rfl) rfl rfl y9
 | apply ak 634;exact fun y9=>bP 20 [17] [] rfl rfl (bE rfl) rfl rfl y9
 | apply ak 635;exact fun y9=>bP 21 [17,19,20] [] rfl rfl ((bE rfl).v (v':= .b false) (congrArg A.b (bne_eq_false_iff_eq.2 aq))) rfl rfl y9
 | apply ak 636;exact fun y9=>bP 24 [23] [(6,none)] rfl rfl (bX Tryz.underlying45 rfl bL az rfl rfl) rfl rfl y9
 | apply ak 637;exact fun y9=>bP 25 [23,24] [(6,none)] rfl rfl (bM bL rfl rfl rfl) rfl rfl y9
 | apply ak 638;exact fun y9=>bP 26 [23,25] [] rfl rfl ((bE rfl).v (v':= .b false) (congrArg A.b (decide_eq_false aq))) rfl rfl y9
 | apply ak 639;exact fun y9=>bP 29 [28] [(6,none)] rfl rfl (bX Tryz.underlying45 rfl bL az rfl rfl) rfl rfl y9
 | apply ak 640;exact fun y9=>bP 30 [28,29] [(6,none)] rfl rfl (bM bL rfl rfl rfl) rfl rfl y9
 | apply ak 641;exact fun y9=>bP 31 [28,30] [] rfl rfl ((bE rfl).v (v':= .b false) (congrArg A.b (decide_eq_false aq))) rfl rfl y9
 | apply ak 642;exact fun y9=>bP 34 [33] [] rfl rfl (bE rfl) rfl rfl y9
 | apply ak 643;exact fun y9=>s1 (bX Tryz.underlying45 rfl bL az rfl rfl) rfl y9
 | apply ak 644;exact fun y9=>g1 rfl rfl (bX Tryz.underlying45 rfl bL az rfl rfl) rfl y9) : aj n Q R := s
theorem aa (l : List Nat) {P Q : Prop} (p : P) (r : ae l P Q := by
 repeat first
  | exact af
  | apply ai;exact rfl;exact rfl
  | apply ae.c 0;exact rfl;exact ae.g0
  | apply ae.c 1;exact rfl;exact ae.g1
  | apply ae.c 2;exact rfl;exact ae.g2
  | apply ae.c 3;exact rfl;exact ae.g3
  | apply ae.c 4;exact rfl;exact ae.g4
  | apply ae.c 5;exact rfl;exact ae.g5
  | apply ae.c 6;exact rfl;exact ae.g6
  | apply ae.c 7;exact rfl;exact ae.g7
  | apply ae.c 8;exact rfl;exact ae.g8
  | apply ae.c 9;exact rfl;exact ae.g9
  | apply ae.c 10;exact rfl;exact ae.g10
  | apply ae.c 11;exact rfl;exact ae.g11
  | apply ae.c 12;exact rfl;exact ae.g12
  | apply ae.c 13;exact rfl;exact ae.g13
  | apply ae.c 14;exact rfl;exact ae.g14
  | apply ae.c 15;exact rfl;exact ae.g15
  | apply ae.c 16;exact rfl;exact ae.g16
  | apply ae.c 17;exact rfl;exact ae.g17
  | apply ae.c 18;exact rfl;exact ae.g18
  | apply ae.c 19;exact rfl;exact ae.g19
  | apply ae.c 20;exact rfl;exact ae.g20
  | apply ae.c 21;exact rfl;exact ae.g21
  | apply ae.c 22;exact rfl;exact ae.g22
  | apply ae.c 23;exact rfl;exact ae.g23
  | apply ae.c 24;exact rfl;exact ae.g24
  | apply ae.c 25;exact rfl;exact ae.g25
  | apply ae.c 26;exact rfl;exact ae.g26) : Q := r.h p
end Go.Abs
namespace Go.Abs.D2
open Go Go.Eng Go.Abs Go.Proofs
theorem ye (w:World):(zeroValue 3).run Tryz.prog w= .ok (.int .i64 0) w:=by kernel_rfl
theorem jj (e:Int):bU Tryz.prog 45 [.b true,.i .i64 e] (cl (.tu [])):=by
 refine enter Tryz.func45 rfl Tryz.ntmps45 aw (Nat.le_of_ble_eq_true rfl) fun w0 X0 hI=>?_
 refine aa [648,694,52] ?_
 refine nE (rs:= []) rfl bW rfl
theorem kH (e:Int):lf Tryz.prog 45 [.b false,.i .i64 e] ⟨[]⟩ (fun _ _=>False) (fun u=>u=ku 136 e):=by
 refine vM Tryz.func45 rfl Tryz.ntmps45 aw (Nat.le_of_ble_eq_true rfl) fun w0 X0 hI=>?_
 refine aa [648,714,649] ?_
 refine s1 (eP (out:= [_]) [[cn (.int .i64 0)]] Bf rfl Tryz.underlying136 aw rfl rfl ⟨⟨by(first|rfl|omega|(simp;done)|(simp [*];done)|(simp [cw, *];done)),rfl⟩,trivial⟩ rfl) rfl ?_
 refine aa [169] ?_
 refine Nt rfl rfl ?_
 exact pJ rfl
theorem zF (e:Int):bU Tryz.prog 39 [.ic 136 (.ag [.i .i64 e])] (cl (.i .i64 e)):=by
 refine enter Tryz.func39 rfl Tryz.ntmps39 aw (Nat.le_of_ble_eq_true rfl) fun w0 X0 hI=>?_
 refine aa [645,749,648] ?_
 refine s1 (yd Tryz.underlying136 rfl rfl) rfl ?_
 refine aa [671] ?_
 refine bJ rfl (cI 3 rfl Bf rfl rfl ?_)
 refine bJ rfl (cD Bf rfl rfl rfl ar ar ?_)
 refine aa [652,665,168,669] ?_
 refine s1 (bX Tryz.underlying136 rfl dU az rfl rfl) rfl ?_
 refine aa [16,698] ?_
 rfl
theorem Dm (b:Nat) (σ:Int→Int) (l:List Ch) (hn:l.length≤maxLen):lf Tryz.prog 48 [.raw (.map (some b)),eo l] ⟨[(700,some [.mc b (mapOf σ)])]⟩ (fun r st=>eH σ (-1) l=true∧j7 (.tu []) [(700, [.mc b (mapOf (cv σ l))])] r st) (fun u=>eH σ (-1) l=false∧u=ku 136 351):=by
 refine vM Tryz.func48 rfl Tryz.ntmps48 aw (Nat.le_of_ble_eq_true rfl) fun w0 X0 hI=>?_
 refine aa [645,252,654] ?_
 simp only [maxLen]at hn
 refine aa [649,34,667] ?_
 refine c5 (ι:=Nat×(Int→Int)×Int) (fun⟨i,τ,la⟩=> [(0,.raw (.map (some b))),(4,.i .i64 la),(7,eo l),(8,nJ l.length),(9,nJ i)]) (fun⟨i,τ,la⟩=>⟨[(700,some ([.mc b (mapOf τ)]))]⟩) (fun⟨i,τ,la⟩=>i≤l.length∧eH σ (-1) l=eH τ la (l.drop i)∧cv σ l=cv τ (l.drop i)) (fun⟨i,τ,la⟩=>l.length - i) ?_ ?_
 ·exact c4 ((0,σ, -1)) (⟨Nat.zero_le _,rfl,rfl⟩) [(700,some 700)] hI rfl rfl ⟨⟨_,rfl,.pure pu⟩,⟨_,rfl,.pure pu⟩,⟨_,rfl,.pure pu⟩,⟨_,rfl,.pure pu⟩,⟨_,rfl,.pure pu⟩,trivial⟩ ⟨.inr ⟨_,_,rfl,rfl,.pure bO⟩,trivial⟩
 rintro⟨i,τ,la⟩ ⟨hi,hk,hg⟩
 dsimp only
 refine aa [651] ?_
 refine cm rfl (fun hc10=>?_) (fun hc10=>?_)
 ·have h10 : i < l.length := by have := of_decide_eq_true hc10; omega
  obtain⟨c,hc⟩:∃c,l[i]? =some c:=⟨_,List.getElem?_eq_getElem h10⟩
  refine aa [672,128] ?_
  refine s1 (dw c8 rfl rfl (s9 hc) rfl) rfl <| bJ rfl (cI 6 rfl c8 rfl rfl ?_)
  refine aa [327,653,66,8,671] ?_
  refine fU 3 rfl rfl rfl rfl (fun hb17=> .step (bX Tryz.underlying55 rfl bL az rfl rfl) rfl rfl<| .step (bM bL rfl rfl rfl) rfl rfl<| .step (bE rfl) rfl rfl<| .done) rfl rfl <| s1 (bE rfl) rfl <| fU 3 rfl rfl rfl rfl (fun hb22=> .step (bX Tryz.underlying55 rfl bL az rfl rfl) rfl rfl<| .step (bM bL rfl rfl rfl) rfl rfl<| .step (bE rfl) rfl rfl<| .done) rfl rfl <| s1 (bE rfl) rfl <| fU 3 rfl rfl rfl rfl (fun hb27=> .step (bX Tryz.underlying55 rfl bL az rfl rfl) rfl rfl<| .step (bM bL rfl rfl rfl) rfl rfl<| .step (bE rfl) rfl rfl<| .done) rfl rfl ?_
  refine ji 31 rfl (fun hc31=>?_) (fun hc31=>?_)
  ·skip
   refine aa [53,653,66,8,0,66,8,253,647] ?_
   refine fU 5 rfl rfl rfl rfl (fun hb40=> .step (bE rfl) rfl rfl<| .step (bX Tryz.underlying55 rfl bL az rfl rfl) rfl rfl<| .step (bM bL rfl rfl rfl) rfl rfl<| .step (qG Tryz.underlying80 Tryz.underlying3 ye rfl rfl rfl (wG _ _)) rfl rfl<| .step (bE rfl) rfl rfl<| .done) rfl rfl ?_
   refine ji 46 rfl (fun hc46=>?_) (fun hc46=>?_)
   ·skip
    refine aa [53,653,66,8,664,66,8,66,8] ?_
    refine bJ rfl (wM Tryz.underlying80 Tryz.underlying3 rfl rfl rfl rfl ?_)
    refine aa [653,66,8,646] ?_
    refine cm rfl (fun hc57=>?_) (fun hc57=>?_)
    ·have h57 : c.st = 0 := by simpa using hc57
     refine aa [649,66,8] ?_
     refine bJ rfl (MJ Tryz.underlying80 Tryz.underlying3 rfl rfl rfl rfl ?_)
     refine aa [685] ?_
     exact cO (x:=(i,τ,la)) ((i+1,kD τ c.id c.st,c.id)) (⟨show i+1≤l.length by omega,hk.trans (Cz hc (Ct hc31 hc46)),hg.trans (CE hc)⟩) (show l.length - (i+1)<l.length - i by omega) [(700,some 700)] hI rfl rfl ⟨⟨_,rfl,.pure pu⟩,⟨_,rfl,.pure pu⟩,⟨_,rfl,.pure pu⟩,⟨_,rfl,.pure pu⟩,⟨_,rfl,.pure pu⟩,trivial⟩ ⟨.inr ⟨_,_,rfl,rfl,.of (congrArg (fun f=> [A.mc b f]) (Mt h57)) (.pure bO)⟩,trivial⟩
    ·have h57 : c.st ≠ 0 := by simpa using hc57
     refine aa [717] ?_
     exact cO (x:=(i,τ,la)) ((i+1,kD τ c.id c.st,c.id)) (⟨show i+1≤l.length by omega,hk.trans (Cz hc (Ct hc31 hc46)),hg.trans (CE hc)⟩) (show l.length - (i+1)<l.length - i by omega) [(700,some 700)] hI rfl rfl ⟨⟨_,rfl,.pure pu⟩,⟨_,rfl,.pure pu⟩,⟨_,rfl,.pure pu⟩,⟨_,rfl,.pure pu⟩,⟨_,rfl,.pure pu⟩,trivial⟩ ⟨.inr ⟨_,_,rfl,rfl,.of (congrArg (fun f=> [A.mc b f]) (Mv h57)) (.pure bO)⟩,trivial⟩
   ·skip
    refine ik ⟨[]⟩ false rfl trivial (.cons (.pure pu) (.cons (.pure pu) .nil)) (kH 351) (fun u hu=>?_)
    refine dJ <| fS <| dJ <| dJ <| fS ?_
    exact pJ ⟨hk.trans (Cy hc (JA hc46)),hu⟩
  ·skip
   refine ik ⟨[]⟩ false rfl trivial (.cons (.pure pu) (.cons (.pure pu) .nil)) (kH 351) (fun u hu=>?_)
   refine dJ <| fS <| dJ <| dJ <| fS ?_
   exact pJ ⟨hk.trans (Cy hc (Jz hc31)),hu⟩
 ·obtain rfl : i = l.length := by have := of_decide_eq_false hc10; omega
  rw [List.drop_length]at hk hg
  refine cY <| cq <| cq <| cZ <| dP 700 (cs':= [.mc b (mapOf (cv σ l))]) rfl (by rw [hg];rfl) ?_
  refine IZ (rs:= []) rfl bW ⟨hk,qm rfl⟩
theorem zC {b:Nat} {σ:Int→Int} {l:List Ch} (hn:l.length≤maxLen) (h:eH σ (-1) l=true):eQ Tryz.prog 48 [.raw (.map (some b)),eo l] ⟨[(700,some [.mc b (mapOf σ)])]⟩ (j7 (.tu []) [(700, [.mc b (mapOf (cv σ l))])]):=(Dm b σ l hn).ret (fun _ _ h=>h.2) fun u hu=>by rw [h]at hu;cases hu.1
theorem zE {b:Nat} {σ:Int→Int} {l:List Ch} (hn:l.length≤maxLen) (h:eH σ (-1) l=false):lg Tryz.prog 48 [.raw (.map (some b)),eo l] ⟨[(700,some [.mc b (mapOf σ)])]⟩ (fun u=>eH σ (-1) l=false∧u=ku 136 351):=(Dm b σ l hn).xf fun r st hu=>by rw [h]at hu;cases hu.1
theorem Ku (l:List Ep) (b:Nat):bU Tryz.prog 111 [eS l,.raw (.map (some b))] (cl (.fn (.func 163) [] [.fp [eS l],.fp [.raw (.map (some b))]])):=by
 refine enter Tryz.func111 rfl Tryz.ntmps111 aw (Nat.le_of_ble_eq_true rfl) fun w0 X0 hI=>?_
 refine aa [645,254,255,652] ?_
 refine iy 2 rfl rfl bO <| iy 3 rfl rfl bO <| bI <| s1 (jJ (us:= []) (vs:= [.fp [eS l],.fp [.raw (.map (some b))]]) rfl rfl) rfl ?_
 refine aa [702] ?_
 rfl
-- C1B
theorem JQ (B:List UInt8) (u:BitVec 64) (hB:B.length≤100000000):eQ Tryz.prog 169 [.sl 128 1 0 B.length,cN u] ⟨[(128,some (B.map u8))]⟩ (fk 1 (B++dz u.toNat).length ((B++dz u.toNat).map u8)):=by
 refine KG bO Tryz.func169 rfl Tryz.ntmps169 aw (Nat.le_of_ble_eq_true rfl) fun w0 X0 hI=>?_
 refine aa [651,9] ?_
 refine c5 (ι:=Nat) (fun k=> [(0,.sl 130 1 0 (B.length+k)),(1,cN (u>>>(7*k)))]) (fun k=>⟨[(130,some ((B++kM u.toNat (k)).map u8))]⟩) (fun k=>k≤10∧∀i,i<k→128≤u.toNat / 128 ^ i) (fun k=>10 - k) ?_ ?_
 ·exact c4 (0) (⟨by omega,fun t ht=>absurd ht aq⟩) [(130,some 128)] hI rfl rfl ⟨⟨_,rfl,.sl rfl ar⟩,⟨_,rfl,.pure pu⟩,trivial⟩ ⟨.inr ⟨_,_,rfl,rfl,.of (by simp [kM]) (.pure bO)⟩,trivial⟩
 rintro k ⟨hk,hk2⟩
 have hsh:=A4 u k
 have hpl:(B++kM u.toNat (k)).length=B.length+k:=by simp
 refine aa [699] ?_
 refine s1 ((bE rfl).v (v':= .b (decide (128≤u.toNat / 128 ^ k))) (congrArg A.b (MV u k))) rfl <| bH <| bF ?_
 refine cm rfl (fun hc6=>?_) (fun hc6=>?_)
 ·have h6 : 128 ≤ u.toNat / 128 ^ k := of_decide_eq_true hc6
  have hk9:k<10:=Nat.lt_of_not_le fun h=>by rw [NC u.isLt h]at h6;omega
  refine aa [681,9,661] ?_
  refine s1 (l5 _ (cQ 127) rfl rfl) rfl ?_
  refine aa [44] ?_
  refine s1 ((xe _ (128:UInt8) rfl rfl).v (v':=u8 (UInt8.ofNat (u.toNat / 128 ^ k % 128+128))) (congrArg u8 (MU u k))) rfl ?_
  refine aa [170] ?_
  refine bJ rfl (dR 13 rfl Tryz.underlying68 cr rfl (.sl rfl aA) rfl (dH rfl ar) aA aC aq rfl (MT B u k) rfl ?_)
  refine aa [646,649] ?_
  refine s1 ((mz _ 7 rfl rfl rfl az).v (v':=cN (u>>>(7*(k+1)))) (congrArg cN (PI u k))) rfl ?_
  refine aa [682,54] ?_
  exact cO (k+1) (⟨by omega,u9 hk2 h6⟩) aq [(130,some 13)] hI rfl rfl ⟨⟨_,rfl,.sl rfl ar⟩,⟨_,rfl,.pure pu⟩,trivial⟩ ⟨.inr ⟨_,_,rfl,rfl,.pure bO⟩,trivial⟩
 ·have h6 : ¬ 128 ≤ u.toNat / 128 ^ k := of_decide_eq_false hc6
  refine aa [687,661] ?_
  refine s1 ((kC _ Tryz.underlying198 Tryz.underlying5 rfl).v (v':=u8 (UInt8.ofNat (u.toNat / 128 ^ k))) (by rw [hsh])) rfl ?_
  refine aa [329] ?_
  refine bJ rfl (dR 20 rfl Tryz.underlying68 cr rfl (.sl rfl aA) rfl (dH rfl ar) aA aC aq rfl (MW B hk2 (Nat.lt_of_not_le h6)) rfl ?_)
  refine aa [650] ?_
  have hll:=MX B hk2 (Nat.lt_of_not_le h6)
  refine bZ (rs:= [.tmp 4]) rfl (bV rfl bW) ⟨20,?_,rfl⟩
  rw [←hll];rfl
theorem zg (B R:List UInt8) (u:BitVec 64) (m:Nat) (hB:B.length≤100000000) (hm:m=B.length) (hR:B++dz u.toNat=R):eQ Tryz.prog 169 [.sl 128 1 0 m,cN u] ⟨[(128,some (B.map u8))]⟩ (fk 1 R.length (R.map u8)):=by
  subst hm;subst hR
  exact JQ B u hB
theorem JY (n:Int) (h0: -9223372036854775808≤n) (h1:n≤9223372036854775807):bU Tryz.prog 170 [.i .i64 n] (cl (cN (cQ (iu n)))):=by
 refine enter Tryz.func170 rfl Tryz.ntmps170 aw (Nat.le_of_ble_eq_true rfl) fun w0 X0 hI=>?_
 refine aa [645,256,750] ?_
 refine s1 ((ep Tryz.underlying3 Tryz.underlying198 rfl).v (v':=cN (BitVec.ofInt 64 n)) (congrArg (A.i .u64) (Bl n))) rfl <| s1 (PF _ 1 rfl rfl rfl az) rfl <| s1 (bE rfl) rfl <| s1 ((j5 rfl rfl az).v (v':= .i .i64 (if 0≤n then 0 else -1)) (congrArg (A.i .i64) (Qp h0 h1))) rfl <| s1 ((ep Tryz.underlying3 Tryz.underlying198 rfl).v (v':=cN (if 0≤n then 0 else BitVec.allOnes 64)) (congrArg (A.i .u64) (Qm n))) rfl <| s1 ((QO _ _ rfl rfl).v (v':=cN (cQ (iu n))) (congrArg cN (Qq h0 h1))) rfl ?_
 refine aa [698] ?_
 rfl
theorem Jy (k n:Int) (s:List UInt8) (l:List CV) (hl:CV.gM l<1000000) (ih:∀v∈l,bU Tryz.prog 166 [.ag v.cells] (cl (.b v.okB))):bU Tryz.prog 166 [.ag [.i .i64 k,.i .i64 n,.s s,.fz l.length (CV.dt l)]] (cl (.b (CV.okB (.mk k n s l)))):=by
 refine enter Tryz.func166 rfl Tryz.ntmps166 aw (Nat.le_of_ble_eq_true rfl) fun w0 X0 hI=>?_
 refine aa [670,652,3] ?_
 have hll:=CV.tU l
 refine aa [1,718,656,9,665] ?_
 refine cm rfl (fun hc7=>?_) (fun hc7=>?_)
 ·have hk1 : k = 1 := by simpa using hc7
  refine aa [645,330] ?_
  refine s1 (bM jZ rfl rfl rfl) rfl ?_
  refine aa [331,0] ?_
  refine fU 4 rfl rfl rfl rfl (fun hb12=> .step (bX Tryz.underlying109 rfl ey az rfl rfl) rfl rfl<| .step (bM ey rfl rfl rfl) rfl rfl<| .step (cJ Tryz.underlying107 rfl rfl rfl) rfl rfl<| .step (bE rfl) rfl rfl<| .done) rfl rfl ?_
  refine aa [650,701,4] ?_
  exact congrArg A.b (F0 hk1)
 ·have hk1 : ¬ k = 1 := by simpa using hc7
  refine aa [665] ?_
  refine cm rfl (fun hc18=>?_) (fun hc18=>?_)
  ·have hk2 : k = 2 := by simpa using hc18
   refine aa [645,718,647] ?_
   refine fU 4 rfl rfl rfl rfl (fun hb23=> .step (bX Tryz.underlying109 rfl ey az rfl rfl) rfl rfl<| .step (bM ey rfl rfl rfl) rfl rfl<| .step (cJ Tryz.underlying107 rfl rfl rfl) rfl rfl<| .step (bE rfl) rfl rfl<| .done) rfl rfl ?_
   refine aa [650,701,4] ?_
   exact congrArg A.b (F1 hk2)
  ·have hk2 : ¬ k = 2 := by simpa using hc18
   refine aa [665] ?_
   refine cm rfl (fun hc29=>?_) (fun hc29=>?_)
   ·have hk3 : k = 3 := by simpa using hc29
    refine aa [3,645,718,647] ?_
    refine gr 3 rfl rfl rfl rfl (fun hb34=> .step (bX Tryz.underlying109 rfl jZ az rfl rfl) rfl rfl<| .step (bM jZ rfl rfl rfl) rfl rfl<| .step ((bE rfl).v (v':= .b (!s.isEmpty)) (congrArg A.b (by cases s<;>rfl))) rfl rfl<| .done) rfl rfl <| bH <| bF ?_
    refine cm rfl (fun hc38=>?_) (fun hc38=>?_)
    ·skip
     refine aa [707,800,4] ?_
     exact congrArg A.b (M9 hk3 hc38)
    ·skip
     refine aa [675,645,733,88,667] ?_
     refine c5 (ι:=Nat) (fun i=> [(40,.fz l.length (CV.dt l)),(41,nJ l.length),(42,nJ i)]) (fun i=>⟨[]⟩) (fun i=>i≤l.length∧(l.take i).all CV.okB=true) (fun i=>l.length - i) ?_ ?_
     ·exact c4 (0) (⟨Nat.zero_le _,rfl⟩) [] hI rfl rfl ⟨⟨_,rfl,.pure pu⟩,⟨_,rfl,.pure pu⟩,⟨_,rfl,.pure pu⟩,trivial⟩ trivial
     rintro i ⟨hi,hi2⟩
     refine aa [651] ?_
     refine cm rfl (fun hc43=>?_) (fun hc43=>?_)
     ·have h43 : i < l.length := by have := of_decide_eq_true hc43; omega
      obtain⟨v,hv⟩:∃v,l[i]? =some v:=⟨_,List.getElem?_eq_getElem h43⟩
      have hvm:=List.mem_of_getElem? hv
      refine aa [672,98,130] ?_
      refine bJ rfl (cI 4 rfl cP rfl rfl ?_)
      refine aa [333,653,67,171,646] ?_
      refine cm rfl (fun hc48=>?_) (fun hc48=>?_)
      ·have h48 : v.okB = false := by simpa using hc48
       refine aa [751,701,4] ?_
       exact congrArg A.b (F2 hk3 hv h48)
      ·have h48 : v.okB = true := by simpa using hc48
       refine aa [717] ?_
       exact cO (i+1) (⟨by omega,BW hv hi2 h48⟩) aq [] hI rfl rfl ⟨⟨_,rfl,.pure pu⟩,⟨_,rfl,.pure pu⟩,⟨_,rfl,.pure pu⟩,trivial⟩ trivial
     ·obtain rfl : i = l.length := by have := of_decide_eq_false hc43; omega
      refine aa [734,701,4] ?_
      exact congrArg A.b (M8 hk3 hc38 hi2)
   ·have hk3 : ¬ k = 3 := by simpa using hc29
    refine aa [52,781,707,4] ?_
    exact congrArg A.b (FZ hk1 hk2 hk3)
theorem Jx (v:CV) (h:v.size≤1000000):bU Tryz.prog 166 [.ag v.cells] (cl (.b v.okB)):=CV.sa (p:=fun v=>bU Tryz.prog 166 [.ag v.cells] (cl (.b v.okB))) 1000000 (fun k n s l hl ih=>Jy k n s l hl ih) v h
theorem Jv (k n:Int) (s:List UInt8) (l:List CV) (hl:CV.gM l<1000000) (ih:∀v∈l,bU Tryz.prog 167 [.ag v.cells] (cl (nJ v.depth))):bU Tryz.prog 167 [.ag [.i .i64 k,.i .i64 n,.s s,.fz l.length (CV.dt l)]] (cl (nJ (CV.depth (.mk k n s l)))):=by
 refine enter Tryz.func167 rfl Tryz.ntmps167 aw (Nat.le_of_ble_eq_true rfl) fun w0 X0 hI=>?_
 refine aa [670,703] ?_
 have hll:=CV.tU l
 have hdl:=CV.zr l
 refine aa [1,718,646] ?_
 refine cm rfl (fun hc8=>?_) (fun hc8=>?_)
 ·have hk3 : ¬ k = 3 := by simpa using hc8
  refine aa [645,657,21,4] ?_
  exact congrArg nJ (show 0=CV.depth (.mk k n s l) by rw [CV.depth,if_neg hk3])
 ·have hk3 : k = 3 := by simpa using hc8
  refine aa [669,659,645,733,88,667] ?_
  refine c5 (ι:=Nat) (fun i=> [(3,nJ (CV.gE (l.take i))),(10,.fz l.length (CV.dt l)),(11,nJ l.length),(12,nJ i)]) (fun i=>⟨[]⟩) (fun i=>i≤l.length) (fun i=>l.length - i) ?_ ?_
  ·exact c4 (0) (Nat.zero_le _) [] hI rfl rfl ⟨⟨_,rfl,.pure pu⟩,⟨_,rfl,.pure pu⟩,⟨_,rfl,.pure pu⟩,⟨_,rfl,.pure pu⟩,trivial⟩ trivial
  rintro i hi
  refine aa [651] ?_
  refine cm rfl (fun hc13=>?_) (fun hc13=>?_)
  ·have h43 : i < l.length := by have := of_decide_eq_true hc13; omega
   obtain⟨v,hv⟩:∃v,l[i]? =some v:=⟨_,List.getElem?_eq_getElem h43⟩
   have hvm:=List.mem_of_getElem? hv
   refine aa [672,98,130] ?_
   refine bJ rfl (cI 5 rfl cP rfl rfl ?_)
   refine aa [333,656,649,67,171,334,704] ?_
   exact cO (i+1) aq aq [] hI rfl rfl ⟨⟨_,rfl,.pure pu⟩,⟨_,rfl,.pure pu⟩,⟨_,rfl,.pure pu⟩,⟨_,rfl,.pure pu⟩,trivial⟩ trivial
  ·obtain rfl : i = l.length := by have := of_decide_eq_false hc13; omega
   refine aa [683,335,129,698] ?_
   exact congrArg nJ (show CV.gE l+1=CV.depth (.mk k n s l) by rw [CV.depth,if_pos hk3])
theorem Ju (v:CV) (h:v.size≤1000000):bU Tryz.prog 167 [.ag v.cells] (cl (nJ v.depth)):=CV.sa (p:=fun v=>bU Tryz.prog 167 [.ag v.cells] (cl (nJ v.depth))) 1000000 (fun k n s l hl ih=>Jv k n s l hl ih) v h
theorem Js (v:CV) (h:v.size≤1000000):bU Tryz.prog 115 [.ag v.cells] (cl (.i .i64 (iI v))):=by
 refine enter Tryz.func115 rfl Tryz.ntmps115 aw (Nat.le_of_ble_eq_true rfl) fun w0 X0 hI=>?_
 refine aa [670,659,645,67] ?_
 refine bJ rfl (b7 false rfl (.cons (.pure pu) (.nil)) (Jx v h) pu (.inl rfl) rfl ?_)
 refine aa [646] ?_
 refine cm rfl (fun hc5=>?_) (fun hc5=>?_)
 ·have h5 : v.okB = false := by simpa using hc5
  refine aa [645,45,709] ?_
  exact congrArg (A.i .i64) (CI h5).symm
 ·have h5 : v.okB = true := by simpa using hc5
  refine aa [675,645,67] ?_
  refine bJ rfl (b7 false rfl (.cons (.pure pu) (.nil)) (Ju v h) pu (.inl rfl) rfl ?_)
  refine aa [646] ?_
  refine cm rfl (fun hc8=>?_) (fun hc8=>?_)
  ·have h8 : 16 < v.depth := by have := of_decide_eq_true hc8; omega
   refine aa [645,257,709] ?_
   exact congrArg (A.i .i64) (CJ h5 h8).symm
  ·have h8 : ¬ 16 < v.depth := by have := of_decide_eq_false hc8; omega
   refine aa [669,657,4] ?_
   exact congrArg (A.i .i64) (y7 h5 h8).symm
end Go.Abs.D2
