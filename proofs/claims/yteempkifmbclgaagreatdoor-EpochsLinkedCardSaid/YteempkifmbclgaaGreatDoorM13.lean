/-
  The engine, the plain laws and the walks that the rows need, part 13. Conditions: none.
-/
import Derived.Test.YteempkifmbclgaaGreatDoorM12
import Derived.Lib.BufferWrite
set_option linter.unusedVariables false
set_option linter.unusedSimpArgs false
set_option maxHeartbeats 1000000
set_option maxRecDepth 10000
-- AbsX
namespace Go.Abs
open Go Go.Eng
theorem PureL_get:∀ {l:List A} {i:Nat} {c:A},PureL l→l[i]? =some c→Pure c
  | [],_,_,_,h=>by simp at h
  |_::_,0,_,hp,h=>by simp at h;subst h;exact hp.1
  |_::l,i+1,_,hp,h=>PureL_get (l:=l) (i:=i) hp.2 (by simpa using h)
section
variable {P:Program} {w0:Bw} {X0:Xs} {n:Nat} {E:Ev} {st:St} {K:Act→World→Prop} {Q:Exit→Act→World→Prop}
theorem n_bsZ {d:Nat} {t e:TypeId} {size by' zero agg} {len:Nat} {parts:List (Nat×Operand)} {vs cs:List A} {ty:TypeId} {pos aft g} (ht:P.underlying t=some (.slice e)) (he:TI P e size by' zero agg)
    (hp:pvA E parts 0=some vs) (hlen:len=vs.length) (hce:vs.all cel=true) (hcl:∀v∈vs,(cellsA v).length=size) (hfl:flatA vs=cs) (hpu:PureL cs) (hs:Nat.ble (len*size) 16777216=true) (hs2:Nat.ble len 16777216=true) (hd:Nat.ble (d+1) n=true)
    (h:At w0 X0 n ((d,.fz len cs)::E) st K):
    At w0 X0 n E st (fun a w=>(⟨some d,.buildSlice t len parts.toArray,ty,pos,aft,g⟩:Oper).wp P a w K Q):=by
  rintro a w ⟨β,X,hr⟩
  subst hfl
  obtain⟨us,g1,g2,g3,g4,g5⟩:=pvA_old hr hp (fun v hv=>⟨isAgOr v (List.all_eq_true.1 hce v hv),hcl v hv⟩)
  refine Eng.n_bs (S:= [w]) (H:= []) (E:=full a) (n:=a.tmps.size) us ht he g1 rfl (by omega) g3 hs (by rw [hr.size];exact hd) (fun b hS hH a1 w1 hR hG=>?_) a w (full_rep a hr.defers) (Eng.Good.start w)
  have hb:w.heap.size≤b:=hS.1
  have hbel:=gd_below hG (by simp [hb])
  have hw:=hG.own _ (.head _)
  simp only at hw
  have hbl:b<w1.heap.size:=(Array.getElem?_eq_some_iff.1 hw).1
  obtain⟨m1,m2,m3⟩:=hr.mem.see (b:=b) (flatA vs).length hbel hb hbl
  have hm2:=Nat.le_of_ble_eq_true hs2
  have hll:=VS_len g4
  refine h a1 w1 ⟨β,_,hr.next hR m2 m3 (ExtB.refl β) m1 ?_⟩
  simp only [V]
  refine⟨_,_,rfl,Nat.le_refl _,by simp only [maxLen];omega,(fun h=>by cases h),(fun _ x hx=>by cases hx;rfl),VM_of fun j c hj=>?_⟩
  have hjl:=(List.getElem?_eq_some_iff.1 hj).1
  obtain⟨u,q1,q2⟩:=VS_get g4 hj
  refine⟨.inr ⟨rfl,by simpa [ao]using hjl⟩,u,?_,V_mono m2 _ _ _ _ (ExtB.refl _) (V_pure _ _ (PureL_get hpu hj) q2),g5 u (List.mem_of_getElem? q1)⟩
  simp only [ab,ao,Nat.zero_add,World.cell?,hw]
  simp [q1]
variable {r:Option Nat} {ds0:List Deferred} {N g:Nat} {E0:EV} {st0:St} {ops:Array Oper} {nn:Nat} {plan:List Stp} {rest:List Oper} {d:Nat} {ty:TypeId} {pos:String} {aft':Array Edge} {gd:Option (Nat×Bool)}
theorem fs_bsZ {t e:TypeId} {size by' zero agg} {len:Nat} {parts:List (Nat×Operand)} {vs cs:List A} (k0:Nat) (deps:List Nat) (hg:GuardYes ops (keepI (E0.at k0) deps k0 E) gd) (ht:P.underlying t=some (.slice e)) (he:TI P e size by' zero agg)
    (hp:pvA (keepI (E0.at k0) deps k0 E) parts 0=some vs) (hlen:len=vs.length) (hce:vs.all cel=true) (hcl:∀v∈vs,(cellsA v).length=size) (hfl:flatA vs=cs) (hpu:PureL cs) (hs:Nat.ble (len*size) 16777216=true) (hs2:Nat.ble len 16777216=true) (hb:Nat.ble (d+1) N=true) (hd:depB k0 deps []=true)
    (h:FS r ds0 P w0 X0 N Q ops nn g E0 st0 (plan++ [⟨d,.fz len cs,deps, [], [], [], []⟩]) (k0+1) ((d,.fz len cs)::E) st rest):FS r ds0 P w0 X0 N Q ops nn g E0 st0 plan k0 E st (⟨some d,.buildSlice t len parts.toArray,ty,pos,aft',gd⟩::rest):=
  fs_gen ⟨d,.fz len cs,deps, [], [], [], []⟩ (fun hk hE _ _ _ hD _ _ hK=>have he':=hD.fin hE hk;ob_gy hg he' (n_bsZ ht he (pvA_le he' hp) hlen hce hcl hfl hpu hs hs2 hb hK)) hd h
end
end Go.Abs
-- C4S
namespace Go.Abs.D2
open Go Go.Eng Go.Abs
abbrev intV (n:Int):CV:= .mk 1 n [] []
abbrev txtV (s:List UInt8):CV:= .mk 2 0 s []
abbrev lstV (l:List CV):CV:= .mk 3 0 [] l
abbrev filV (f:Fil):CV:=lstV [intV f.nb,txtV f.D]
def casV (c:Cas):CV:=lstV [txtV c.x,lstV (c.F.map filV),lstV (c.E.map intV)]
def CV.kd:CV→Int| .mk k _ _ _=>k
def CV.nm:CV→Int| .mk _ n _ _=>n
def CV.st:CV→List UInt8| .mk _ _ s _=>s
def CV.ls:CV→List CV| .mk _ _ _ l=>l
theorem okB_int (n:Int):(intV n).okB=true:=by rw [CV.okB,if_pos rfl];rfl
theorem okB_txt (s:List UInt8):(txtV s).okB=true:=by rw [CV.okB,if_neg (by decide),if_pos rfl];rfl
theorem okB_lst {l:List CV} (h:∀v∈l,v.okB=true):(lstV l).okB=true:=by
  rw [CV.okB,if_neg (by decide),if_neg (by decide),if_pos rfl,CV.okBL_all,List.all_eq_true.2 h];rfl
theorem okB_fil (f:Fil):(filV f).okB=true:=okB_lst fun v hv=>by
  simp only [List.mem_cons,List.not_mem_nil,or_false]at hv
  rcases hv with rfl|rfl
  · exact okB_int _
  · exact okB_txt _
theorem okB_cas (c:Cas):(casV c).okB=true:=okB_lst fun v hv=>by
  simp only [List.mem_cons,List.not_mem_nil,or_false]at hv
  rcases hv with rfl|rfl|rfl
  · exact okB_txt _
  · exact okB_lst fun v hv=>by obtain⟨f,_,rfl⟩:=List.mem_map.1 hv;exact okB_fil f
  · exact okB_lst fun v hv=>by obtain⟨f,_,rfl⟩:=List.mem_map.1 hv;exact okB_int f
theorem dep_lst {l:List CV} {d:Nat} (h:∀v∈l,v.depth≤d):(lstV l).depth≤d+1:=by
  rw [CV.depth,if_pos rfl];have:=depthL_le h;omega
theorem dep_int (n:Int):(intV n).depth=0:=by rw [CV.depth,if_neg (by decide)]
theorem dep_txt (s:List UInt8):(txtV s).depth=0:=by rw [CV.depth,if_neg (by decide)]
theorem dep_cas (c : Cas) : (casV c).depth ≤ 16 := by
  refine Nat.le_trans (dep_lst (d:=2) fun v hv=>?_) (by omega)
  simp only [List.mem_cons,List.not_mem_nil,or_false]at hv
  rcases hv with rfl|rfl|rfl
  · rw [dep_txt];omega
  · exact dep_lst (d:=1) fun v hv=>by
      obtain⟨f,_,rfl⟩:=List.mem_map.1 hv
      exact dep_lst (d:=0) fun v hv=>by
        simp only [List.mem_cons,List.not_mem_nil,or_false]at hv
        rcases hv with rfl|rfl
        · rw [dep_int];exact Nat.le_refl _
        · rw [dep_txt];exact Nat.le_refl _
  · exact dep_lst (d:=1) fun v hv=>by obtain⟨f,_,rfl⟩:=List.mem_map.1 hv;rw [dep_int];omega
theorem rng_int {n:Int} (h0: -9223372036854775808≤n) (h1:n≤9223372036854775807):(intV n).rng=true:=by simp [CV.rng,CV.rngL,h0,h1]
theorem rng_txt (s:List UInt8):(txtV s).rng=true:=by simp [CV.rng,CV.rngL]
theorem rng_lst {l:List CV} (h:∀v∈l,v.rng=true):(lstV l).rng=true:=by
  simp only [CV.rng,CV.rngL_all,List.all_eq_true.2 h];rfl
theorem chkC_nb {c:Cas} (h:chkC c=true):∀f∈c.F,0≤f.nb∧f.nb≤4096∧f.D.length≤512:=fun f hf=>by
  obtain⟨i,hi⟩:=List.mem_iff_getElem?.1 hf
  obtain⟨_,n,h1,h2,h3,h4,_⟩:=chkC_get h hi
  omega
theorem rng_cas {c : Cas} (h : chkC c = true) : (casV c).rng = true := rng_lst fun v hv => by
  simp only [List.mem_cons,List.not_mem_nil,or_false]at hv
  rcases hv with rfl|rfl|rfl
  · exact rng_txt _
  · exact rng_lst fun v hv=>by
      obtain⟨f,hf,rfl⟩:=List.mem_map.1 hv
      obtain⟨h1,h2,_⟩:=chkC_nb h f hf
      exact rng_lst fun v hv=>by
        simp only [List.mem_cons,List.not_mem_nil,or_false]at hv
        rcases hv with rfl|rfl
        · exact rng_int (by omega) (by omega)
        · exact rng_txt _
  · exact rng_lst fun v hv=>by
      obtain⟨n,hn,rfl⟩:=List.mem_map.1 hv
      obtain⟨_,he,_⟩:=chkC_all h
      have:=listed_mem he n hn
      exact rng_int (by omega) (by omega)
theorem encL_le {l:List CV} {k:Nat} (h:∀v∈l,v.enc.length≤k):(CV.encL l).length≤l.length*k:=by
  induction l with
  |nil=>simp [CV.encL]
  | cons v l ih =>
    have h1:=h v (.head _)
    have h2:=ih fun u hu=>h u (.tail _ hu)
    rw [CV.encL,List.length_append,List.length_cons,Nat.succ_mul];omega
theorem enc_int {n:Int} (h0: -9223372036854775808≤n) (h1:n≤9223372036854775807):(intV n).enc.length≤12:=by
  have:=len_numL (uns_nat h0 h1)
  rw [CV.enc,if_pos rfl,List.length_cons];omega
theorem enc_txt {s:List UInt8} (h:s.length<2 ^ 64):(txtV s).enc.length≤s.length+12:=by
  have:=len_numL h
  rw [CV.enc,if_neg (by decide),if_pos rfl,List.length_cons,List.length_append];omega
theorem enc_lst {l:List CV} (h:l.length<2 ^ 64):(lstV l).enc.length≤(CV.encL l).length+12:=by
  have:=len_numL h
  rw [CV.enc,if_neg (by decide),if_neg (by decide),List.length_cons,List.length_append];omega
theorem asc_len:∀ {l:List Int} {last:Int},ascB last l=true→last<1024→last+l.length<1024
  | [],last,_,h=>by simpa using h
  | n :: l, last, h, _ => by
    simp only [ascB,Bool.and_eq_true,decide_eq_true_eq]at h
    have:=asc_len h.2 h.1.2
    simp only [List.length_cons];omega
theorem listed_len {l:List Int} (h:listedB l=true):l.length≤1024:=by
  have:=asc_len h (by omega)
  omega
theorem enc_cas {c:Cas} (h:chkC c=true) (hx:c.x.length=32):(casV c).enc.length≤30000:=by
  obtain⟨h1,h2,_⟩:=chkC_all h
  have he:=listed_len h2
  have e1:(txtV c.x).enc.length≤44:=by have:=enc_txt (s:=c.x) (by omega);omega
  have e2:(lstV (c.F.map filV)).enc.length≤10000:=by
    have q1:=enc_lst (l:=c.F.map filV) (by rw [List.length_map];omega)
    have q2:=encL_le (l:=c.F.map filV) (k:=600) fun v hv=>by
      obtain⟨f,hf,rfl⟩:=List.mem_map.1 hv
      obtain⟨k1,k2,k3⟩:=chkC_nb h f hf
      have q3:(filV f).enc.length≤_:=enc_lst (l:= [intV f.nb,txtV f.D]) (by simp)
      have q4:=enc_int (n:=f.nb) (by omega) (by omega)
      have q5:=enc_txt (s:=f.D) (by omega)
      simp only [CV.encL,List.length_append,List.length_nil]at q3
      omega
    rw [List.length_map]at q2
    omega
  have e3:(lstV (c.E.map intV)).enc.length≤12300:=by
    have q1:=enc_lst (l:=c.E.map intV) (by rw [List.length_map];omega)
    have q2:=encL_le (l:=c.E.map intV) (k:=12) fun v hv=>by
      obtain⟨n,hn,rfl⟩:=List.mem_map.1 hv
      have:=listed_mem h2 n hn
      exact enc_int (by omega) (by omega)
    rw [List.length_map]at q2
    omega
  have q:=enc_lst (l:= [txtV c.x,lstV (c.F.map filV),lstV (c.E.map intV)]) (by simp)
  simp only [CV.encL,List.length_append,List.length_nil]at q
  show(lstV _).enc.length≤_
  omega
theorem rd_cas {c:Cas} (h:chkC c=true):Rd 16 (casV c):=⟨okB_cas c,dep_cas c,rng_cas h⟩
def partsB (v:CV) (ks:List Int):Bool:=decide (v.kd=3)&&(v.ls.map CV.kd==ks)
def nthV (v:CV) (i:Nat):CV:=v.ls.getD i zV
def filR (i:Nat) (v:CV):Fil:=⟨i,(nthV v 0).nm,(nthV v 1).st⟩
def filsR (l:List CV):List Fil:=l.mapIdx filR
@[simp] theorem len_filsR (l:List CV):(filsR l).length=l.length:=by simp [filsR]
def readB (v:CV):Bool:=partsB v [2,3,3]&&decide ((nthV v 0).st.length=32)&&(nthV v 1).ls.all (fun e=>partsB e [1,2])&&(nthV v 2).ls.all (fun e=>decide (e.kd=1))
def readC (v:CV):Cas:=⟨(nthV v 0).st,filsR (nthV v 1).ls,(nthV v 2).ls.map CV.nm⟩
@[irreducible] def encCA (c:Cas):A:=if chkC c then .tu [.fz (casV c).enc.length ((casV c).enc.map u8),.i .i64 0]else .tu [.nl,.i .i64 340]
theorem encCA_y {c:Cas} (h:chkC c=true):encCA c= .tu [.fz (casV c).enc.length ((casV c).enc.map u8),.i .i64 0]:=by unfold encCA;rw [h];rfl
theorem encCA_n {c:Cas} (h:chkC c=false):encCA c= .tu [.nl,.i .i64 340]:=by unfold encCA;rw [h];rfl
theorem view_cv {l:List CV} {m:Nat} (h:m=l.length):((CV.cellsL l).drop 0).take (m*4)=CV.cellsL l:=by subst h;exact CV.cellsL_all l
theorem one_cv (v:CV):cellsA (A.ag (CV.cells v))++ []=CV.cells v:=List.append_nil _
theorem fil_nextV {F:List Fil} {i:Nat} {f:Fil} (h:F[i]? =some f):CV.cellsL ((F.take i).map filV)++CV.cells (filV f)=CV.cellsL ((F.take (i+1)).map filV):=by
  rw [CV.cellsL_snoc,List.take_add_one,h];simp
theorem int_nextV {E:List Int} {i:Nat} {q:Int} (h:E[i]? =some q):CV.cellsL ((E.take i).map intV)++CV.cells (intV q)=CV.cellsL ((E.take (i+1)).map intV):=by
  rw [CV.cellsL_snoc,List.take_add_one,h];simp
theorem cas_cut {c:Cas} (hx:c.x.length=32):A.fz 32 (((casL c).drop (0*1)).take (32*1))= .fz c.x.length (c.x.map u8):=by
  rw [Nat.zero_mul,List.drop_zero,cas_x hx,hx]
theorem encA_cas {c:Cas} (h:chkC c=true):encA (casV c)= .tu [.fz (casV c).enc.length ((casV c).enc.map u8),.i .i64 0]:=encA_yes (rd_cas h).chk
abbrev tagC:List UInt8:= [99,97,115,99,97,100,101]
@[irreducible] def digC (c:Cas):List UInt8:=tagged tagC (casV c).enc
theorem digC_eq (c:Cas):digC c=tagged tagC (casV c).enc:=by unfold digC;rfl
@[simp] theorem len_digC (c:Cas):(digC c).length=32:=by rw [digC_eq];simp
@[irreducible] def digCA (c:Cas):A:=if chkC c then .tu [.ag ((digC c).map u8),.i .i64 0]else .tu [.ag (Z32.map u8),.i .i64 340]
theorem digCA_y {c:Cas} (h:chkC c=true):digCA c= .tu [.ag ((digC c).map u8),.i .i64 0]:=by unfold digCA;rw [h];rfl
theorem digCA_n {c:Cas} (h:chkC c=false):digCA c= .tu [.ag (Z32.map u8),.i .i64 340]:=by unfold digCA;rw [h];rfl
theorem size_cas {c:Cas} (h:chkC c=true) (hx:c.x.length=32):(casV c).size≤1000000:=by
  have h1:=CV.size_enc (casV c).size (casV c) (Nat.le_refl _) (okB_cas c)
  have h2:=enc_cas h hx
  omega
theorem mem_enc:∀ {l:List CV} {v:CV},v∈l→v.enc.length≤(CV.encL l).length
  | [],_,h=>by cases h
  | u :: l, v, h => by
    rw [CV.encL,List.length_append]
    rcases List.mem_cons.1 h with rfl|h
    · omega
    · have:=mem_enc h;omega
theorem enc_3 (n:Int) (s:List UInt8) (l:List CV):(CV.encL l).length≤(CV.mk 3 n s l).enc.length:=by
  rw [CV.enc,if_neg (by decide),if_neg (by decide),List.length_cons,List.length_append];omega
theorem enc_2 (n:Int) (s:List UInt8) (l:List CV):s.length≤(CV.mk 2 n s l).enc.length:=by
  rw [CV.enc,if_neg (by decide),if_pos rfl,List.length_cons,List.length_append];omega
end Go.Abs.D2
-- Abs1
namespace Go.Eng
open Go Go.MapKept
def delF (f:Int→Option Value) (k:Int):Int→Option Value:=fun j=>if j=k then none else f j
theorem MapF.erase {es:Array MapEntry} {clk:Nat} {f:Int→Option Value} (h:MapF es clk f) {k:Int} {j:Nat} {e:MapEntry} (hj:es[j]? =some e) (he:e.key= .int .i64 k):MapF (es.eraseIdxIfInBounds j) clk (delF f k):=by
  have hlt:=(Array.getElem?_eq_some_iff.1 hj).1
  have hmem:∀x,x∈(es.eraseIdxIfInBounds j).toList↔∃i,i≠j∧es.toList[i]? =some x:=fun x=>by
    unfold Array.eraseIdxIfInBounds
    rw [dif_pos hlt,Array.toList_eraseIdx]
    exact List.mem_eraseIdx_iff_getElem?
  have hnd:=h.st.2.2
  have hkey:∀i x,i≠j→es.toList[i]? =some x→x.key≠ .int .i64 k:=fun i x hij hx hk=>by
    have g1:(es.toList.map (·.key))[j]? =some (.int .i64 k):=by rw [List.getElem?_map,Array.getElem?_toList,hj];simp [he]
    have g2:(es.toList.map (·.key))[i]? =some (.int .i64 k):=by rw [List.getElem?_map,hx];simp [hk]
    have hl:=(List.getElem?_eq_some_iff.1 g1).1
    exact hij ((List.getElem?_inj hl hnd).1 (g1.trans g2.symm)).symm
  refine⟨stamped_erase h.st _,fun x hx=>?_,fun i v hi=>?_⟩
  · obtain ⟨i, hij, hx⟩ := (hmem x).1 hx
    obtain⟨q,e1,e2⟩:=h.ent x (List.mem_of_getElem? hx)
    refine⟨q,e1,?_⟩
    unfold delF
    rw [if_neg (fun e=>hkey i x hij hx (by rw [e1,e])),e2]
  · unfold delF at hi
    split at hi
    · cases hi
    · rename_i hne
      obtain⟨x,hx,e1⟩:=h.has i v hi
      obtain⟨q,hq⟩:=List.mem_iff_getElem?.1 hx
      refine⟨x,(hmem x).2 ⟨q,fun e2=>?_,hq⟩,e1⟩
      subst e2
      rw [Array.getElem?_toList,hj]at hq
      simp only [Option.some.injEq]at hq
      subst hq
      rw [he]at e1
      simp only [Value.int.injEq,true_and]at e1
      exact hne e1.symm
def keyI (x:MapEntry):Int:=match x.key with
  | .int _ k=>k
  |_=>0
theorem MapF.size {es:Array MapEntry} {clk:Nat} {f:Int→Option Value} (h:MapF es clk f) {L:List Int} (hn:L.Nodup) (hL:∀k,(f k).isSome=true↔k∈L):es.size=L.length:=by
  have hk:∀x∈es.toList,x.key= .int .i64 (keyI x)∧f (keyI x)=some x.val:=fun x hx=>by
    obtain⟨k,e1,e2⟩:=h.ent x hx
    have:keyI x=k:=by unfold keyI;rw [e1]
    rw [this];exact⟨e1,e2⟩
  have hnd:(es.toList.map keyI).Nodup:=by
    have h3:=h.st.2.2
    rw [List.nodup_iff_pairwise_ne]at h3 ⊢
    rw [List.pairwise_map]at h3 ⊢
    refine h3.imp_of_mem fun {a b} ha hb hne e=>hne ?_
    rw [(hk a ha).1,(hk b hb).1,e]
  have hp:(es.toList.map keyI).Perm L:=(List.perm_ext_iff_of_nodup hnd hn).2 fun k=>by
    rw [←hL k,List.mem_map]
    constructor
    · rintro ⟨x, hx, rfl⟩
      rw [(hk x hx).2];rfl
    · intro hs
      obtain⟨v,hv⟩:=Option.isSome_iff_exists.1 hs
      obtain⟨x,hx,e⟩:=h.has k v hv
      exact⟨x,hx,by unfold keyI;rw [e]⟩
  have:=hp.length_eq
  rw [List.length_map]at this
  simpa using this
end Go.Eng
namespace Go.Abs
open Go Go.Eng Go.MapKept
section
variable {w0:Bw} {β:Bm} {X:Xs} {st:St} {w:World}
theorem Mem.pushMap (hm : Mem w0 β X st w) (hf : st.free mapId = true) :
    Mem w0 (upd β mapId (.mp w.heap.size)) X (st.put mapId [.mc w.heap.size (fun _=>none)]) {w with heap:=w.heap.push (.map #[] 0)}∧ExtX X X w {w with heap:=w.heap.push (.map #[] 0)}:=by
  have hbel:RowKit.Below w.heap.size w {w with heap:=w.heap.push (.map #[] 0)}:=⟨rfl,rfl,rfl,by simp,fun k hk=>by simp [Array.getElem?_push,Nat.ne_of_lt hk]⟩
  have hx:ExtX X X w {w with heap:=w.heap.push (.map #[] 0)}:=fun q o h=>⟨h,World.cell?_of_block (w:=w) (hbel.block q (hm.xlt q o h))⟩
  have hnx:=hm.dom mapId hf
  refine⟨.of (hm.below.trans hbel) (fun k y h=>(upd_ext hnx) k y (hm.b0 k y h)) (fun q o h=>Nat.lt_of_lt_of_le (hm.xlt q o h) hbel.size) (fun k h=>?_) (fun k ds hg=>?_) (fun i j ci cj q M N' hij hi hj hbi hbj=>?_),hx⟩
  · rw [St.free_put] at h
    split at h
    · cases h
    · rename_i hne
      rw [upd_ne (fun e=>hne e.symm)]
      exact hm.dom k h
  · rw [St.get_put] at hg
    split at hg
    · rename_i e; subst e
      simp only [Option.some.injEq]at hg
      subst hg
      unfold OB
      rw [upd_at]
      exact⟨rfl,Bw.own_new hm.below (Nat.le_refl _),fun o h=>absurd (hm.xlt _ o h) (Nat.lt_irrefl _),_, #[],0,rfl,by simp,MapF.empty 0⟩
    · refine (hm.obj k ds hg).later hx (upd_ext hnx) (fun q M hq => ?_) fun q hq => ⟨hbel.block q ((hm.obj k ds hg).mpLt hq), ((hm.obj k ds hg).mpB hq).2.2.1⟩
      have h:=(hm.obj k ds hg).onB hq rfl
      exact⟨hbel.block q h.1,h.2.2⟩
  · rw [St.get_put] at hi hj
    by_cases ei:mapId=i
    · subst ei;rw [upd_at]at hbi;cases hbi
    · rw [if_neg ei] at hi
      rw [upd_ne (fun e=>ei e.symm)]at hbi
      by_cases ej:mapId=j
      · subst ej;rw [upd_at]at hbj;cases hbj
      · rw [if_neg ej] at hj
        rw [upd_ne (fun e=>ej e.symm)]at hbj
        exact hm.inj i j ci cj q M N' hij hi hj hbi hbj
theorem Mem.setMap (hm : Mem w0 β X st w) {b : Nat} {f f' : Int → Option Value} {es : Array MapEntry} {clk : Nat} {w1 : World} (hg : st.get mapId = some [.mc b f]) (hF : MapF es clk f') (hG : Eng.Good [w] [(b, .map es clk)] w1) :
    Mem w0 β X (st.put mapId [.mc b f']) w1∧ExtX X X w w1:=by
  have ho:=hm.obj mapId _ hg
  obtain⟨y,hβ,hy⟩:∃y,β mapId=some y∧y= .mp b:=by
    have ho2:=ho
    unfold OB at ho2
    cases hb:β mapId with
    |none=>rw [hb]at ho2;exact ho2.elim
    | some y =>
      rw [hb]at ho2
      cases y with
      |ph=>cases ho2
      | bk q N =>
        obtain⟨_,_,us,rest,ty,_,_,h5,_⟩:=ho2
        simp only [VS,V]at h5
        obtain⟨_,_,_,h,_⟩:=h5
        exact h.elim
      | mp q =>
        obtain⟨_,_,_,g,_,_,e,_⟩:=ho2
        simp only [List.cons.injEq,A.mc.injEq,and_true]at e
        exact⟨_,rfl,by rw [e.1]⟩
  subst hy
  obtain⟨_,hown,hnX,g,es0,clk0,_,hb0,_⟩:=ho.mpB hβ
  have hlt:=(Array.getElem?_eq_some_iff.1 hb0).1
  have hsn:=hG.snap w (.head _)
  have hblk:∀k,k<w.heap.size→k≠b→w1.heap[k]? =w.heap[k]? :=fun k hk hne=>hsn.blk k hk (fun p hp=>by simp only [List.mem_singleton]at hp;subst hp;exact fun e=>hne e.symm)
  have hw1:=hG.own _ (.head _)
  simp only at hw1
  have hx:ExtX X X w w1:=fun q o h=>⟨h,World.cell?_of_block (w:=w) (hblk q (hm.xlt q o h) fun e=>by subst e;exact hnX o h)⟩
  refine⟨.of ⟨hsn.os.trans hm.below.os,hsn.tape.trans hm.below.tape,hsn.output.trans hm.below.output,Nat.le_trans hm.below.size hsn.size,fun k hk hM=>?_,fun s hs=>?_⟩ hm.b0 (fun q o h=>Nat.lt_of_lt_of_le (hm.xlt q o h) hsn.size) (fun k h=>?_) (fun k ds hk=>?_) (fun i j ci cj q M N' hij hi hj hbi hbj=>?_),hx⟩
  · rw [hblk k (Nat.lt_of_lt_of_le hk hm.below.size) (fun e => by
      subst e
      rcases hown with h|h
      · omega
      · exact hM h)]
    exact hm.below.block k hk hM
  · refine Sus.kept_mono (hm.below.sus s hs) fun q hq => hblk q (by rcases hq with hq | ⟨r, hq⟩ <;> exact (Array.getElem?_eq_some_iff.1 hq).1) fun e => ?_
    subst e
    rw [hb0]at hq
    rcases hq with h|⟨_,h⟩<;>cases h
  · rw [St.free_put] at h
    split at h
    · cases h
    · exact hm.dom k h
  · rw [St.get_put] at hk
    split at hk
    · rename_i e; subst e
      simp only [Option.some.injEq]at hk
      subst hk
      unfold OB
      rw [hβ]
      exact⟨rfl,hown,hnX,f',es,clk,rfl,hw1,hF⟩
    · rename_i hne
      have key:∀(y:BL) (q:Nat),β k=some y→y.on q→w1.heap[q]? =w.heap[q]? ∧∀o,¬X q o:=fun y q hq hyq=>
        ⟨hblk q ((hm.obj k ds hk).onB hq hyq).1 fun e=>by subst e;exact hm.apart hne hg hk hβ hq rfl hyq,((hm.obj k ds hk).onB hq hyq).2.2⟩
      exact(hm.obj k ds hk).later hx (ExtB.refl β) (fun q M hq=>key _ q hq rfl) fun q hq=>key _ q hq rfl
  · have g : ∀ (k : Nat) (c : List A), (st.put mapId [.mc b f']).get k = some c → ∃ c', st.get k = some c' := fun k c hk => by
      rw [St.get_put]at hk
      split at hk
      · rename_i e;subst e;exact⟨_,hg⟩
      · exact⟨_,hk⟩
    obtain⟨c1,h1⟩:=g i ci hi
    obtain⟨c2,h2⟩:=g j cj hj
    exact hm.inj i j c1 c2 q M N' hij h1 h2 hbi hbj
theorem Mem.mapAt (hm:Mem w0 β X st w) {b:Nat} {f:Int→Option Value} (hg:st.get mapId=some [.mc b f]):∃es clk,w.heap[b]? =some (.map es clk)∧MapF es clk f:=by
  have ho:=hm.obj mapId _ hg
  unfold OB at ho
  cases hb:β mapId with
  |none=>rw [hb]at ho;exact ho.elim
  | some y =>
    rw [hb]at ho
    cases y with
    |ph=>cases ho
    | bk q N =>
      obtain⟨_,_,us,rest,ty,_,_,h5,_⟩:=ho
      simp only [VS,V]at h5
      obtain⟨_,_,_,h,_⟩:=h5
      exact h.elim
    | mp q =>
      obtain⟨_,_,_,g,es,clk,e,h4,h5⟩:=ho
      simp only [List.cons.injEq,A.mc.injEq,and_true]at e
      obtain⟨e1,e2⟩:=e
      subst e1;subst e2
      exact⟨es,clk,h4,h5⟩
end
section
variable {P:Program} {w0:Bw} {X0:Xs} {n:Nat} {E:Ev} {st:St} {K:Act→World→Prop} {Q:Exit→Act→World→Prop}
theorem n_makeMap {d:Nat} {t ty:TypeId} {pos aft g} (hf:st.free mapId=true) (hd:Nat.ble (d+1) n=true)
    (h:∀b,At w0 X0 n ((d,.raw (.map (some b)))::E) (st.put mapId [.mc b (fun _=>none)]) K):At w0 X0 n E st (fun a w=>(⟨some d,.makeMap t none,ty,pos,aft,g⟩:Oper).wp P a w K Q):=by
  rintro a w ⟨β,X,hr⟩
  obtain⟨hm,hx⟩:=hr.mem.pushMap hf
  have hrun:(execOp a.eval ⟨some d,.makeMap t none,ty,pos,aft,g⟩).run P w= .ok (.value (.map (some w.heap.size))) {w with heap:=w.heap.push (.map #[] 0)}:=by
    simp [execOp,Instr.makeMap]
  unfold Oper.wp
  rw [hrun]
  exact h w.heap.size _ _ ⟨_,X,hr.putv hd hx (fun _ _ h=> .inl h) (upd_ext (hr.mem.dom mapId hf)) hm (by simp only [V])⟩
theorem n_mapUpdate {t kt et ty:TypeId} {pos aft g} {x y z:Operand} {b:Nat} {f:Int→Option Value} {k v:Int} {kv:IntKind} (hm:P.underlying t=some (.map kt et)) (hk:P.underlying kt=some (.int .i64))
    (hx:ev E x=some (.raw (.map (some b)))) (hy:ev E y=some (.i .i64 k)) (hz:ev E z=some (.i kv v)) (hg:st.get mapId=some [.mc b f])
    (h:At w0 X0 n E (st.put mapId [.mc b (updF f k (.int kv v))]) K):At w0 X0 n E st (fun a w=>(⟨none,.mapUpdate t x y z,ty,pos,aft,g⟩:Oper).wp P a w K Q):=by
  rintro a w ⟨β,X,hr⟩
  obtain⟨e1,e2⟩:=hr.evo hx
  obtain⟨e3,e4⟩:=hr.evo hy
  obtain⟨e5,e6⟩:=hr.evo hz
  simp only [V]at e2 e4 e6
  rw [e2]at e1;rw [e4]at e3;rw [e6]at e5
  obtain⟨es,clk,hb,hF⟩:=hr.mem.mapAt hg
  refine Eng.n_mapUpdate (S:= [w]) (H:= [(b,.map es clk)]) (E:=full a) (n:=a.tmps.size) 0 hm hk e1 e3 e5 rfl hF (fun es' clk' hF' a1 w1 hR hG=>?_) a w (full_rep a hr.defers) (gd_one hb)
  obtain⟨m1,m2⟩:=hr.mem.setMap (w1:=w1) hg hF' hG
  exact h a1 w1 ⟨β,X,hr.next0 hR m2 (fun _ _ h=> .inl h) (ExtB.refl β) m1⟩
theorem y_lookup {t kt et ty : TypeId} {x y : Operand} {b : Nat} {f : Int → Option Value} {k m : Int} {kv : IntKind} (hm : P.underlying t = some (.map kt et)) (hk : P.underlying kt = some (.int .i64)) (hz0 : ∀ w, (zeroValue et).run P w = .ok (.int kv 0) w)
    (hx:ev E x=some (.raw (.map (some b)))) (hy:ev E y=some (.i .i64 k)) (hg:st.get mapId=some [.mc b f]) (hf:(f k).getD (.int kv 0)= .int kv m):YO P E st (.lookup t x y false) ty (.i kv m):=by
  intro w0 X0 n β X a w hr
  obtain⟨e1,e2⟩:=hr.evo hx
  obtain⟨e3,e4⟩:=hr.evo hy
  simp only [V]at e2 e4
  rw [e2]at e1;rw [e4]at e3
  have ho:=hr.memq.obj mapId _ hg
  obtain⟨hβ,es,clk,hb,hF⟩:β mapId=some (.mp b)∧∃es clk,w.heap[b]? =some (.map es clk)∧MapF es clk f:=by
    unfold OB at ho
    cases hb:β mapId with
    |none=>rw [hb]at ho;exact ho.elim
    | some y =>
      rw [hb]at ho
      cases y with
      |ph=>cases ho
      | bk q N =>
        obtain⟨_,_,us,rest,ty,_,_,h5,_⟩:=ho
        simp only [VS,V]at h5
        obtain⟨_,_,_,h,_⟩:=h5
        exact h.elim
      | mp q =>
        obtain⟨_,_,_,g,es,clk,e,h4,h5⟩:=ho
        simp only [List.cons.injEq,A.mc.injEq,and_true]at e
        obtain⟨e1,e2⟩:=e
        subst e1;subst e2
        exact⟨rfl,es,clk,h4,h5⟩
  refine⟨.int kv m,by simp only [V],fun d pos aft g w' hs=>?_⟩
  have hb':w'.heap[b]? =some (.map es clk):=(hs.map _ _ _ hg hβ).trans hb
  have hy:=Eng.y_lookup (P:=P) (S:= [w']) (H:= [(b,.map es clk)]) (E:=full a) (n:=a.tmps.size) (ty:=ty) 0 hm hk hz0 e1 e3 rfl hF
  rw [hf]at hy
  exact hy d pos aft g a w' (full_rep a hr.defers) (gd_one hb')
theorem n_mapDelete {t kt et ty : TypeId} {ats : Array TypeId} {pos aft g} {x y : Operand} {b : Nat} {f : Int → Option Value} {k : Int} (hm : P.underlying t = some (.map kt et)) (hk : P.underlying kt = some (.int .i64)) (hat : ats = #[t, kt])
    (hx:ev E x=some (.raw (.map (some b)))) (hy:ev E y=some (.i .i64 k)) (hg:st.get mapId=some [.mc b f])
    (h:At w0 X0 n E (st.put mapId [.mc b (delF f k)]) K):At w0 X0 n E st (fun a w=>(⟨none,.call {callee:= .builtin .delete,args:= #[x,y],argTypes:=ats},ty,pos,aft,g⟩:Oper).wp P a w K Q):=by
  subst hat
  rintro a w ⟨β,X,hr⟩
  obtain⟨e1,e2⟩:=hr.evo hx
  obtain⟨e3,e4⟩:=hr.evo hy
  simp only [V]at e2 e4
  rw [e2]at e1;rw [e4]at e3
  have f1:=(full_rep a hr.defers).ev e1
  have f3:=(full_rep a hr.defers).ev e3
  obtain⟨es,clk,hb,hF⟩:=hr.mem.mapAt hg
  have hkk:IsKey (.int .i64) (Value.int .i64 k):=rfl
  obtain ⟨es', hF', hrun⟩ : ∃ es', MapF es' clk (delF f k) ∧ (execOp a.eval ⟨none, .call { callee := .builtin .delete, args := #[x, y], argTypes := #[t, kt] }, ty, pos, aft, g⟩).run P w = .ok (.value (.tuple #[])) { w with heap := w.heap.setIfInBounds b (.map es' clk) } := by
    rcases findNow_spec hkk es.toList 0 hF.keys with ⟨h1,h2⟩|⟨j,e,h1,h2,h3⟩
    · refine ⟨es, ?_, ?_⟩
      · have : delF f k = f := by
          funext i
          unfold delF
          split
          · rename_i e; subst e
            cases hf:f i with
            |none=>rfl
            |some v=>obtain⟨q,hq,e⟩:=hF.has i v hf;exact absurd e (h2 q hq)
          · rfl
        rw [this];exact hF
      · simp [execOp,resolve,invoke,builtin,f1,f3,Builtin.delete_,run_underlying hm,MapKept.run_getObj_map hb,MapKept.run_checkKey hk hkk,MapKept.run_findKey hk h1,MapKept.run_setObj_map _ hb,Result.andThen]
    · have hj : es[j]? = some e := by simpa using h2
      refine⟨_,hF.erase hj h3,?_⟩
      simp [execOp,resolve,invoke,builtin,f1,f3,Builtin.delete_,run_underlying hm,MapKept.run_getObj_map hb,MapKept.run_checkKey hk hkk,MapKept.run_findKey hk h1,MapKept.run_setObj_map _ hb,Result.andThen]
  obtain⟨m1,m2⟩:=hr.mem.setMap (w1:= {w with heap:=w.heap.setIfInBounds b (.map es' clk)}) hg hF' ((gd_one hb).set 0 rfl rfl rfl rfl (by simp) (heap_set hb).1 (fun q hq=>(heap_set hb).2 q hq))
  unfold Oper.wp
  rw [hrun]
  exact h a _ ⟨β,X,hr.next0 (full_rep a hr.defers) m2 (fun _ _ h=> .inl h) (ExtB.refl β) m1⟩
theorem MemQ.mapAt {β:Bm} {X:Xs} {w:World} (hm:MemQ w0 β X st w) {b:Nat} {f:Int→Option Value} (hg:st.get mapId=some [.mc b f]):β mapId=some (.mp b)∧∃es clk,w.heap[b]? =some (.map es clk)∧MapF es clk f:=by
  have ho:=hm.obj mapId _ hg
  unfold OB at ho
  cases hb:β mapId with
  |none=>rw [hb]at ho;exact ho.elim
  | some y =>
    rw [hb]at ho
    cases y with
    |ph=>cases ho
    | bk q N =>
      obtain⟨_,_,us,rest,ty,_,_,h5,_⟩:=ho
      simp only [VS,V]at h5
      obtain⟨_,_,_,h,_⟩:=h5
      exact h.elim
    | mp q =>
      obtain⟨_,_,_,g,es,clk,e,h4,h5⟩:=ho
      simp only [List.cons.injEq,A.mc.injEq,and_true]at e
      obtain⟨e1,e2⟩:=e
      subst e1;subst e2
      exact⟨rfl,es,clk,h4,h5⟩
theorem y_lenM {t kt et ty:TypeId} {x:Operand} {b:Nat} {f:Int→Option Value} (L:List Int) (hm:P.underlying t=some (.map kt et)) (hx:ev E x=some (.raw (.map (some b)))) (hg:st.get mapId=some [.mc b f]) (hn:L.Nodup) (hL:∀k,(f k).isSome=true↔k∈L):
    YO P E st (.call {callee:= .builtin .len,args:= #[x],argTypes:= #[t]}) ty (.i .i64 (L.length:Nat)):=by
  intro w0 X0 n β X a w hr
  obtain⟨e1,e2⟩:=hr.evo hx
  simp only [V]at e2
  rw [e2]at e1
  have f1:=(full_rep a hr.defers).ev e1
  obtain⟨hβ,es,clk,hb,hF⟩:=hr.memq.mapAt hg
  have hs:=hF.size hn hL
  refine⟨.int .i64 (L.length:Nat),by simp only [V],fun d pos aft g w' hsm=>?_⟩
  have hb':w'.heap[b]? =some (.map es clk):=(hsm.map _ _ _ hg hβ).trans hb
  simp [execOp,resolve,invoke,builtin,f1,Builtin.len_,run_underlying hm,MapKept.run_getObj_map hb',Result.andThen,hs]
  rfl
end
end Go.Abs
-- Abs2
namespace Go.Abs
open Go Go.Eng
section
variable {P:Program} {w0 w1 w2:Bw} {X0:Xs} {n:Nat} {E:Ev} {st:St} {Q:Exit→Act→World→Prop} {r:Option Nat} {ds:List Deferred}
theorem at_rpanic {l D n1 nO:Nat} {rc:Loop} {Ek Eit:Ev} {ps:List Tmp} {assign body:Code} {ids idsR:List Nat} {tm:Array Value} {d:Nat} {N:Act→World→Prop} {ch:List PanicEntry} {fo:Func} (hf:P.funcs[rc.fn]? =some fo)
    (hR:Rg w0 w1 idsR l D rc nO Ek ps assign body .ready none) (hd:Rd w0 w1 w2 ids l D rc Ek .busy none tm n1 Eit)
    (h:∀wj,Rg w0 wj idsR l D rc nO Ek ps assign body .busy none→At wj X0 n1 Eit st (Pw ds (Q (.panic ch)))):At w2 X0 n E st (Pw [] (rndP P l rc.fn (rdR ds tm (some d) N Q) (.panic ch))):=by
  rintro a w ⟨β,X,hr⟩
  obtain⟨wj,hβ,hS⟩:=hR.stop .busy none
  have hss:w2.sus= .fr tm Eit w2.β:: .lp l {rc with state:= .busy,pending:=none} Ek w1.β:: .df D::w0.sus:=hd.sub.sus
  have hs1:wj.sus= .lp l {rc with state:= .busy,pending:=none} Ek wj.β:: .df D::w0.sus:=hS.sub.sus
  have hfr:=hr.sslot (.fr tm Eit w2.β) (by rw [hss];exact .head _)
  refine⟨by rw [wd_nil];exact hr.defers,⟨_,hf⟩,h _ hS ⟨tm, []⟩ w ⟨β,X,hr.rebase (hS.sub.w.trans hd.sub.w.symm) (hS.sub.M.trans hd.sub.M.symm) .refl (fun id y h=>hr.mem.b0 id y (hd.ext id y (hβ ▸ h))) (fun s hs=>?_) (fun s hs=>?_) hd.size rfl (fun t v ht=>?_)⟩⟩
  · refine kept_qt (B := w2) (hr.mem.below.sus s ?_) (fun b h => (own_eq (hS.sub.w.trans hd.sub.w.symm) (hS.sub.M.trans hd.sub.M.symm) b).2 h) (fun _ _ _ _ => rfl)
    rw [hs1,hβ]at hs
    rw [hss];exact .tail _ hs
  · refine hr.sslot s ?_
    rw [hs1,hβ]at hs
    rw [hss];exact .tail _ hs
  · obtain ⟨u, g1, g2⟩ := hfr t v ht
    exact⟨u,g1,V_mono (fun b o h=>⟨h,rfl⟩) _ _ _ _ hr.mem.b0 g2⟩
theorem at_itpanic {l D nO:Nat} {rc:Loop} {Ek:Ev} {ps:List Tmp} {assign body:Code} {idsR:List Nat} {s:LoopState} {pe:Option Code} {fn:Func} {ss:List Sus} {ch:List PanicEntry} (hR:Rg w0 w1 idsR l D rc nO Ek ps assign body s pe) (hs0:w0.sus=ss)
    (h:At (w0.re (.df D::ss)) X0 nO Ek st (Pw (col D::ds) (Q (.panic ch)))):At w1 X0 n E st (Pw [] (bodyPostM (rF none) 0 P fn (rangePost (rF r) 0 P l Q (Act.wd (col D::ds) ⟨rc.tmps, []⟩)) (.panic ch))):=by
  rintro a w ⟨β,X,hr⟩
  subst hs0
  have hss:w1.sus= .lp l {rc with state:=s,pending:=pe} Ek w1.β:: .df D::w0.sus:=hR.sub.sus
  have hlp:=hr.sslot (.lp l {rc with state:=s,pending:=pe} Ek w1.β) (by rw [hss];exact .head _)
  show LeavesInM (rF none) 0 P fn (a.wd []).tmps _ (a.wd []).defers (.panicking ch) w
  rw [wd_nil,hr.defers]
  show Q (.panic ch) (Act.wd (col D::ds) ⟨rc.tmps, []⟩) w
  refine h ⟨rc.tmps, []⟩ w ⟨β,X,hr.rebase hR.sub.w.symm hR.sub.M.symm .refl (fun id y h=>hr.mem.b0 id y (hR.sub.ext id y h)) (fun s hs=>?_) (fun s hs=>?_) hR.size rfl (fun t v ht=>?_)⟩
  · exact kept_qt (B:=w1) (hr.mem.below.sus s (by rw [hss];exact .tail _ hs)) (fun b h=>(own_eq hR.sub.w hR.sub.M b).1 h) (fun _ _ _ _=>rfl)
  · exact hr.sslot s (by rw [hss];exact .tail _ hs)
  · obtain ⟨u, g1, g2⟩ := hlp t v ht
    exact⟨u,g1,V_mono (fun b o h=>⟨h,rfl⟩) _ _ _ _ hr.mem.b0 g2⟩
theorem marksX_core {fn:Func} {Rr:Ending→World→Prop} {ch:List PanicEntry}:∀(ds:List Nat) {wB:Bw} {a:Act} {w:World},ds.Nodup→wB.sus=ds.map .df→Rel wB X0 n E st a w→(∀w',Rel (wB.re []) X0 n E st a w'→Rr (.panicked ch) w')→
    LeavesInM (rF none) 0 P fn a.tmps Rr (ds.map col) (.panicking ch) w
  | [],wB,a,w,_,hs,⟨β,X,hr⟩,h=>h w ⟨β,X,hr.rebase rfl rfl .refl hr.mem.b0 (fun s hs=>by cases hs) (fun s hs=>by cases hs) hr.size hr.defers hr.slot⟩
  | D :: ds, wB, a, w, hnd, hs, ⟨β, X, hr⟩, h => by
    have hs':wB.sus= .df D::ds.map .df:=by simpa using hs
    have hk:=hr.mem.below.sus (.df D) (by rw [hs'];exact .head _)
    refine⟨by simp,.inl ⟨D,_,rfl,run_takeDeferred hk.2,?_⟩⟩
    refine marksX_core ds (wB:=wB.re (ds.map .df)) (List.nodup_cons.1 hnd).2 rfl ⟨β,X,hr.rebase rfl rfl (Qt.put hk.1 hk.2 rfl rfl) hr.mem.b0 (fun s hs=>?_) (fun s hs=>?_) hr.size hr.defers hr.slot⟩ h
    · obtain ⟨D', hD, rfl⟩ := List.mem_map.1 hs
      have hk':=hr.mem.below.sus (.df D') (by rw [hs'];exact .tail _ hs)
      exact⟨hk'.1,(World.putObj_heap_other (fun e:D'=D=>(List.nodup_cons.1 hnd).1 (e ▸ hD))).trans hk'.2⟩
    · obtain ⟨D', hD, rfl⟩ := List.mem_map.1 hs
      trivial
theorem at_panickedM {wB:Bw} {fn:Func} {R:A→St→Prop} {pn:Value→Prop} {u:Value} (hw:wB.w=w0.w) (hM:wB.M=w0.M) (hβ:wB.β=w0.β) (hs0:w0.sus= []) {dn:List Nat} (hdn:ds=dn.map col) (hsB:wB.sus=dn.map .df) (hnd:dn.Nodup) (hp:pn u):
    At wB X0 n E st (Pw ds (bodyPostM (rF none) 0 P fn (EndX w0 X0 R pn) (.panic (pch u)))):=fun a w hr=>by
  have hd:a.defers= []:=by obtain⟨_,_,hr⟩:=hr;exact hr.defers
  show LeavesInM (rF none) 0 P fn a.tmps _ (a.wd ds).defers (.panicking (pch u)) w
  have e:(a.wd ds).defers=dn.map col:=by simp [Act.wd,hd,hdn]
  rw [e]
  refine marksX_core dn hnd hsB hr fun w' ⟨β,X,hr'⟩=>?_
  have hr0:RelX w0 X0 n E st β X a w':=hr'.rebase hw.symm hM.symm .refl (by rw [←hβ];exact hr'.mem.b0) (fun s hs=>by rw [hs0]at hs;cases hs) (fun s hs=>by rw [hs0]at hs;cases hs) hr'.size hr'.defers hr'.slot
  exact .inr ⟨u,rfl,hp,.raw undef,β,X,st,trivial,hr0.x0,hr0.xn,hr0.mem,by simp only [V]⟩
theorem leavesM_mono {F:Fence} {m:Nat} {fn:Func} {tm:Array Value} {R R':Ending→World→Prop} (hr:∀e w,R e w→R' e w):∀(ds:List Nat) {w:World},LeavesInM F m P fn tm R (ds.map col) .returning w→LeavesInM F m P fn tm R' (ds.map col) .returning w
  | [],w,⟨v,h1,h2⟩=>⟨v,h1,hr _ _ h2⟩
  | D :: ds, w, ⟨h0, h⟩ => ⟨h0, by
    rcases h with ⟨r,w',h1,h2,h3⟩|⟨_,fv,cap,f,args,h1,_⟩
    · exact .inl ⟨r,w',h1,h2,leavesM_mono hr ds h3⟩
    · cases h1⟩
theorem at_resultME {wB:Bw} {fn:Func} {R:A→St→Prop} {pn:Value→Prop} {rs:List ResultVar} {vs:List A} (hw:wB.w=w0.w) (hM:wB.M=w0.M) (hβ:wB.β=w0.β) (hs0:w0.sus= []) {dn:List Nat} (hdn:ds=dn.map col) (hsB:wB.sus=dn.map .df) (hnd:dn.Nodup) (hrs:fn.results=rs.toArray) (hv:Rets P E st rs vs) (h:R (retA vs) st):
    At wB X0 n E st (Pw ds (bodyPostM (rF none) 0 P fn (EndX w0 X0 R pn) .ret)):=fun a w hr=>by
  have hd:a.defers= []:=by obtain⟨_,_,hr⟩:=hr;exact hr.defers
  have h1:=at_resultM hw hM hβ hs0 hdn hsB hnd hrs hv h a w hr
  show LeavesInM (rF none) 0 P fn a.tmps _ (a.wd ds).defers .returning w
  have e:(a.wd ds).defers=dn.map col:=by simp [Act.wd,hd,hdn]
  have h2:LeavesInM (rF none) 0 P fn a.tmps _ (a.wd ds).defers .returning w:=h1
  rw [e]at h2 ⊢
  exact leavesM_mono (fun e w h=> .inl h) dn h2
def wpF (P:Program) (f0:FuncId) (c:Code) (Q:Exit→Act→World→Prop) (a:Act) (w:World):Prop:=
  ∀(b:Frame) (k:List Item) (cs:List Frame),b.roundOf=none→b.fn=f0→∃e a' w',Q e a' w'∧ArrivesIn (Machine.fenced P (rF none)) P (lone (b.atR a (.code c::k)) cs w) b k cs e a' w'
theorem roomF {m:Nat}:(rF none).room m:=fun d h=>by cases h
theorem wpF_of {f0:FuncId} {c:Code} {a:Act} {w:World} (h:c.wpIn (rF none) 0 P Q a w):wpF P f0 c Q a w:=fun b k cs hro _=>h b k cs hro trivial roomF
theorem wpF_seq {f0:FuncId} {x y:Code} {a:Act} {w:World} (h:wpF P f0 x (Exit.then (wpF P f0 y Q) Q) a w):wpF P f0 (.seq x y) Q a w:=by
  intro b k cs hro hb
  have h0:(lone (b.atR a (.code (.seq x y)::k)) cs w).fenced P (rF none):=fenced_calm (n:=0) trivial roomF rfl
  obtain⟨e,a₁,w₁,hq,harr⟩:=h b (.code y::k) cs hro hb
  cases e with
  | normal =>
    obtain⟨e₂,a₂,w₂,hq₂,harr₂⟩:=hq b k cs hro hb
    exact⟨e₂,a₂,w₂,hq₂,.of_steps (.head h0 stepR_seq harr) harr₂⟩
  |exit id=>exact⟨_,a₁,w₁,hq,.of_steps (.one h0 stepR_seq) (.pass (x:= .code y) rfl (fun _ _=> .inl (by simp)) harr)⟩
  |goto l=>exact⟨_,a₁,w₁,hq,.of_steps (.one h0 stepR_seq) (.pass (x:= .code y) rfl (fun _ _=> .inl (by simp)) harr)⟩
  |ret=>exact⟨_,a₁,w₁,hq,.of_steps (.one h0 stepR_seq) (.pass (x:= .code y) rfl (fun _ _=> .inl (by simp)) harr)⟩
  |panic ch=>exact⟨_,a₁,w₁,hq,.of_steps (.one h0 stepR_seq) (.pass (x:= .code y) rfl (fun _ _=> .inl (by simp)) harr)⟩
  |outgrown=>exact⟨_,a₁,w₁,hq,.of_steps (.one h0 stepR_seq) (.pass (x:= .code y) rfl (fun _ _=> .inl (by simp)) harr)⟩
theorem wpF_block {f0 id : Nat} {c : Code} {a : Act} {w : World} (h : wpF P f0 c (Exit.inBlock id Q) a w) : wpF P f0 (.block id c) Q a w := by
  intro b k cs hro hb
  have h0:(lone (b.atR a (.code (.block id c)::k)) cs w).fenced P (rF none):=fenced_calm (n:=0) trivial roomF rfl
  obtain⟨e,a₁,w₁,hq,harr⟩:=h b (.inBlock id::k) cs hro hb
  cases e with
  |normal=>exact⟨.normal,a₁,w₁,hq,.head h0 stepR_block (StepsIn.trans harr (.one (fenced_calm (n:=0) trivial roomF rfl) stepR_inBlock))⟩
  | exit id' =>
    by_cases hid:id'=id
    · simp only [Exit.inBlock, hid, if_true] at hq
      exact⟨.normal,a₁,w₁,hq,.head h0 stepR_block (harr.1 k (by simp [exitTo,hid]))⟩
    · simp only [Exit.inBlock, hid, if_false] at hq
      have this:(id==id')=false:=by simp;exact fun h=>hid h.symm
      have hx:exitTo id' (.inBlock id::k)=exitTo id' k:=by simp [exitTo,this]
      exact⟨.exit id',a₁,w₁,hq,fun k' hk=> .head h0 stepR_block (harr.1 k' (by rw [hx];exact hk)),
        fun hr' hk=>let ⟨k₁,h1,h2⟩:=harr.2 hr' (by rw [hx];exact hk);⟨k₁,h1,.head h0 stepR_block h2⟩⟩
  | goto l =>
    have hx:gotoIn l (.inBlock id::k)=gotoIn l k:=by simp [gotoIn]
    exact⟨_,a₁,w₁,hq,fun k' hk=> .head h0 stepR_block (harr.1 k' (by rw [hx];exact hk)),
      fun hr' hk=>let ⟨k₁,h1,h2⟩:=harr.2 hr' (by rw [hx];exact hk);⟨k₁,h1,.head h0 stepR_block h2⟩⟩
  |ret=>exact⟨_,a₁,w₁,hq,.of_steps (.one h0 stepR_block) harr⟩
  |panic ch=>exact⟨_,a₁,w₁,hq,.of_steps (.one h0 stepR_block) harr⟩
  |outgrown=>exact⟨_,a₁,w₁,hq,.of_steps (.one h0 stepR_block) harr⟩
theorem callsF_marks {f:FuncId} {fn:Func} {c:Code} {args:Array Value} {w:World} {R:Ending→World→Prop} (hf:P.funcs[f]? =some fn) (hb:fn.body=some c)
    (h:wpF P f c (bodyPostM (rF none) 0 P fn R) {tmps:=args++Array.replicate (fn.ntmps - args.size) undef,defers:= []} w):CallsIn (rF none) 0 P f args w R:=by
  refine⟨trivial,fun cs hr=>?_⟩
  let b:Frame:= {(default:Frame)with fn:=f,kind:= .normal,roundOf:=none}
  have henter:Frame.enter P f args .normal=b.atR {tmps:=args++Array.replicate (fn.ntmps - args.size) undef,defers:= []} [.code c]:=by simp [Frame.enter,Frame.atR,hf,hb,b]
  obtain⟨e,a',w',hq,harr⟩:=h b [] cs rfl rfl
  rw [←henter]at harr
  cases e with
  | normal =>
    obtain⟨e',w'',fr',hR,hs,hfn,hl⟩:=leaves_stepsInM a'.defers .returning w' {b.atR a' []with mode:= .returning} cs rfl rfl rfl hf rfl trivial hr hq
    exact⟨e',w'',fr',hR,ComesIn.of_steps (StepsIn.trans harr (.one (fenced_calm (fr:=b.atR a' []) (n:=0) trivial hr rfl) (stepR_end rfl))) hs,hfn,hl⟩
  | ret =>
    obtain⟨todo,hs₀⟩:=harr.1 rfl
    obtain⟨e',w'',fr',hR,hs,hfn,hl⟩:=leaves_stepsInM a'.defers .returning w' {b.atR a' todo with mode:= .returning} cs rfl rfl rfl hf rfl trivial hr hq
    exact⟨e',w'',fr',hR,ComesIn.of_steps hs₀ hs,hfn,hl⟩
  | panic chain =>
    obtain⟨todo,hs₀⟩:=harr
    obtain⟨e',w'',fr',hR,hs,hfn,hl⟩:=leaves_stepsInM a'.defers (.panicking chain) w' {b.atR a' todo with mode:= .panicking chain} cs rfl rfl rfl hf rfl trivial hr hq
    exact⟨e',w'',fr',hR,ComesIn.of_steps hs₀ hs,hfn,hl⟩
  |exit id=>exact hq.elim
  |goto l=>exact hq.elim
  |outgrown=>exact⟨.outgrown,w',b,hq,harr.resolve_left (by simp [b]),rfl,trivial⟩
theorem wpF_rangeFunc {f0:FuncId} {g:Operand} {ps:Array Tmp} {assign body:Code} {a:Act} {w:World}
    (h:∃(l:Nat) (mark:List Deferred) (w₁:World) (d:Deferred) (w₁':World) (f:FuncId) (args:Array Value) (w₂:World),
      (Instr.enterLoop f0 a.tmps ps assign body none).run P w= .ok (l,mark) w₁∧(resolve a.eval (rangeCall g l) 0).run P w₁= .ok d w₁'∧(invoke d.target d.args).run P w₁'= .ok (.enter f args) w₂∧
      CallsIn (rF none) 0 P f args w₂ (rangePost (rF none) 0 P l Q {a with defers:=mark++a.defers})):wpF P f0 (Code.rangeFunc g ps assign body) Q a w:=by
  intro b k cs hro hb
  obtain⟨l,mark,w₁,d,w₁',f,args,w₂,he,hres,hinv,hF,hcall⟩:=h
  rw [←hro, ←hb]at he
  have h0:(lone (b.atR a (.code (.rangeFunc g ps assign body)::k)) cs w).fenced P (rF none):=fenced_lone (.inl trivial) (fun f' _=>trivial) roomF
  have henter:=stepR_rangeFunc (P:=P) (b:=b) (a:=a) (k:=k) (cs:=cs) (w:=w) he hres hinv
  obtain⟨e,w₃,fr,hR,hsteps,hfn,hleave⟩:=hcall (b.atR {a with defers:=mark++a.defers} (.inRangeFunc l::k)::cs) roomF
  cases e with
  | outgrown =>
    obtain⟨a₀,w₀,hq⟩:=hR
    exact⟨.outgrown,a₀,w₀,hq,.inr (Outgrown.of_steps (.one henter) hsteps)⟩
  | returned v =>
    have hl:(lone fr (b.atR {a with defers:=mark++a.defers} (.inRangeFunc l::k)::cs) w₃).fenced P (rF none):=fenced_leaving (n:=0) trivial roomF hleave
    obtain⟨jump,w₄,hend,hj⟩:=hR
    have sback:StepsIn (Machine.fenced P (rF none)) P (lone (b.atR a (.code (.rangeFunc g ps assign body)::k)) cs w) (lone (b.atR {a with defers:=mark++a.defers} ((jump.map Item.code).toList++k)) cs w₄):=by
      refine .head h0 henter (StepsIn.trans hsteps (.head hl ?_ (.one (fenced_calm (fr:=b.atR {a with defers:=mark++a.defers} (.endRangeFunc l::k)) (n:=0) trivial roomF rfl) (stepR_endRangeFunc hend))))
      rw [←finish_atR_inRangeFunc l v];exact step_leave_returned hleave
    cases jump with
    |none=>exact⟨.normal,_,w₄,hj,sback⟩
    | some c =>
      obtain⟨e',a'',w₅,hq,harr⟩:=hj b k cs hro trivial roomF
      exact⟨e',a'',w₅,hq,.of_steps sback harr⟩
  | panicked chain =>
    have hl:(lone fr (b.atR {a with defers:=mark++a.defers} (.inRangeFunc l::k)::cs) w₃).fenced P (rF none):=fenced_leaving (n:=0) trivial roomF hleave
    refine⟨.panic chain,_,w₃,hR,.inRangeFunc l::k,.head h0 henter (StepsIn.trans hsteps (.one hl ?_))⟩
    rw [←Frame.raise_atR];exact step_leave_panicked hleave
theorem at_fseq {f0:FuncId} {x y:Code} (h:At w0 X0 n E st (Pw ds (wpF P f0 x (Exit.then (wpF P f0 y Q) Q)))):At w0 X0 n E st (Pw ds (wpF P f0 (.seq x y) Q)):=fun a w hr=>wpF_seq (h a w hr)
theorem at_fblock {f0 id:Nat} {c:Code} (h:At w0 X0 n E st (Pw ds (wpF P f0 c (Exit.inBlock id Q)))):At w0 X0 n E st (Pw ds (wpF P f0 (.block id c) Q)):=fun a w hr=>wpF_block (h a w hr)
theorem at_fin {f0:FuncId} {c:Code} (h:At w0 X0 n E st (Pw ds (c.wpIn (rF none) 0 P Q))):At w0 X0 n E st (Pw ds (wpF P f0 c Q)):=fun a w hr=>wpF_of (h a w hr)
theorem at_rangeF {f0:FuncId} {g:Operand} {ps:List Tmp} {assign body c:Code} {f:FuncId} {fn:Func} {cs:List A} {idsB:List Nat} {n':Nat} (ids:List Nat) (Ek:Ev) (hI:w0.ids=idsB) (hs:(idsB.all (memN ids))=true) (hE:le E Ek) (hids:onlyE ids Ek=true)
    (hg:ev E g=some (.fn (.func f) [] cs)) (hf:P.funcs[f]? =some fn) (hb:fn.body=some c) (hn:fn.ntmps=n') (hname:(fn.name== "runtime.NumGoroutine")=false) (ha:cs.length+1≤n')
    (h:∀w1 l D rc,Rg w0 w1 ids l D rc n Ek ps assign body .ready none→rc.fn=f0→At w1 X0 n' (argsE (yv l::cs) 0) st (Pw [] (c.wpIn (rF none) 0 P (bodyPostM (rF none) 0 P fn (rangePost (rF none) 0 P l Q (Act.wd (col D::ds) ⟨rc.tmps, []⟩)))))):
    At w0 X0 n E st (Pw ds (wpF P f0 (Code.rangeFunc g ps.toArray assign body) Q)):=by
  rintro a w ⟨β,X,hr⟩
  show wpF P f0 (Code.rangeFunc g ps.toArray assign body) Q (a.wd ds) w
  refine wpF_rangeFunc ?_
  obtain⟨vs,rc,W1,g2,g3,hrt,hrf,w1,hrg,hrel⟩:=range_pre (P:=P) (fn:=fn) (n':=n') f0 ids Ek ps assign body hI hs hE hids hg ha hn hr
  refine⟨w.heap.size+1, [{target:= .collected w.heap.size,args:= #[]}],W1, {target:= .fn (.func f) vs.toArray,args:= #[.func (.yield (w.heap.size+1)) #[] #[]]},W1,f,
    #[.func (.yield (w.heap.size+1)) #[] #[]]++vs.toArray,W1,g2,?_,?_,?_⟩
  · simp only [resolve, eval_wd, g3]
    simp [go_sem]
  · simp [invoke,go_sem,run_callFn hf hb hname]
  · rw [wd_mark hr.defers, ← hrt]
    exact callsIn_of_wp_marks hf hb trivial (wp_nil (h _ _ _ rc hrg hrf _ W1 hrel))
theorem enterEM {f:FuncId} {fn:Func} {c:Code} {args:List A} {s0:St} {R:A→St→Prop} {pn:Value→Prop} (hf:P.funcs[f]? =some fn) (hb:fn.body=some c)
    (hn:fn.ntmps=n) (hname:(fn.name== "runtime.NumGoroutine")=false) (ha:args.length≤n)
    (h:∀w0 X0,w0.ids=s0.os.map Prod.fst→w0.sus= []→At w0 X0 n (argsE args 0) s0 (Pw [] (wpF P f c (bodyPostM (rF none) 0 P fn (EndX w0 X0 R pn))))):ConE P f args s0 R pn:=by
  intro w X β us hd hX hgl ho hi hv
  have hl:=VS_len hv
  refine⟨⟨fn,hf,by simp [hb],hname⟩,(callsIn_wide (n:=0)).1 (callsF_marks hf hb (wp_nil (h (bw w β s0 hd) X rfl rfl _ w ⟨β,X,.of (fun _ _ h=>h) (fun _ _ h=> .inl h) (.of ⟨rfl,rfl,rfl,Nat.le_refl _,fun _ _ _=>rfl,fun s hs=>by cases hs⟩ (ExtB.refl β) hX hd ho hi) hgl ?_ rfl (fun s hs=>by cases hs) (fun t v ht=>?_)⟩)))⟩
  · simp [hn];omega
  · obtain ⟨_, h2⟩ := argsE_at _ _ _ _ ht
    simp only [Nat.sub_zero]at h2
    obtain⟨u,g1,g2⟩:=VS_get hv h2
    have hlt:=(List.getElem?_eq_some_iff.1 g1).1
    refine⟨u,?_,g2⟩
    rw [Array.getElem?_append,if_pos (by simpa using hlt)]
    simpa using g1
end
end Go.Abs
-- Abs3
namespace Go.Abs
open Go Go.Eng Go.MapKept
instance {b:Nat} {f:Int→Option Value}:IsPure (.mc b f):=⟨by simp only [Pure]⟩
def RetMp (F:Int→Option Value):A→St→Prop:=fun r st=>∃b,r= .raw (.map (some b))∧st.get mapId=some [.mc b F]
theorem OB.mpAt {β:Bm} {X:Xs} {w:World} {w0:Bw} {b:Nat} {F:Int→Option Value} (h:OB β X w w0 mapId [.mc b F]):β mapId=some (.mp b)∧w0.own b∧(∀o,¬X b o)∧∃es clk,w.heap[b]? =some (.map es clk)∧MapF es clk F:=by
  unfold OB at h
  cases hb:β mapId with
  |none=>rw [hb]at h;exact h.elim
  | some y =>
    rw [hb]at h
    cases y with
    |ph=>cases h
    | bk q N =>
      obtain⟨_,_,us,rest,ty,_,_,h5,_⟩:=h
      simp only [VS,V]at h5
      obtain⟨_,_,_,h,_⟩:=h5
      exact h.elim
    | mp q =>
      obtain⟨_,h1,h2,g,es,clk,e,h4,h5⟩:=h
      simp only [List.cons.injEq,A.mc.injEq,and_true]at e
      obtain⟨e1,e2⟩:=e
      subst e1;subst e2
      exact⟨rfl,h1,h2,es,clk,h4,h5⟩
section
variable {P:Program} {w0:Bw} {X0:Xs} {n:Nat} {E:Ev} {st:St} {K:Act→World→Prop} {Q:Exit→Act→World→Prop}
theorem n_callvMp {F : Int → Option Value} {d : Nat} {f : FuncId} {x : Operand} {xs : List Operand} {fs cs vs vs' : List A} {ats : Array TypeId} {ty : TypeId} {pos aft' g} (hx : ev E x = some (.fn (.func f) fs cs)) (hxs : evsA E xs = some vs) (hv : VwL st ⟨[]⟩ false (fs ++ vs ++ cs) vs')
    (hc:Con P f vs' (RetMp F)) (hfr:st.free mapId=true) (hd:Nat.ble (d+1) n=true) (h:∀b,At w0 X0 n ((d,.raw (.map (some b)))::E) (st.put mapId [.mc b F]) K):
    At w0 X0 n E st (fun a w=>(⟨some d,.call {callee:= .value x,args:=xs.toArray,argTypes:=ats},ty,pos,aft',g⟩:Oper).wp P a w K Q):=by
  rintro a w ⟨β,X,hr⟩
  refine call_core hr hx hxs (s0:=⟨[]⟩) trivial hv hc fun v w' ⟨r,β',X',st',hR,hsup,hsub,hm,hvv⟩=>?_
  obtain⟨b,rfl,hg⟩:=hR
  obtain⟨m1,m2,m3,m4,m6⟩:=hm.after hr (fun id cs h=>by cases h) hsub hsup (upds:= []) (fun p hp=>by cases hp)
  rw [aft_nil]at m1
  have hnx:=hr.mem.dom mapId hfr
  obtain⟨hβ,o1,o2,es,clk,hb,hF⟩:=(hm.obj mapId _ hg).mpAt
  have o1:w.heap.size≤b:=by
    rcases o1 with h|⟨id',cs',h,_⟩
    · exact h
    · cases h
  have hnX:∀o,¬(X b o∨(X' b o∧(bw w (rst ⟨[]⟩ β) ⟨[]⟩ rst_none).own b)):=fun o h=>by
    rcases h with h|⟨h,_⟩
    · exact o2 o (hsup b o (.inl h))
    · exact o2 o h
  have m5 : Mem w0 (upd β mapId (.mp b)) (fun b o => X b o ∨ (X' b o ∧ (bw w (rst ⟨[]⟩ β) ⟨[]⟩ rst_none).own b)) (st.put mapId [.mc b F]) w' := by
    refine .of (m1.below) (fun k y h=>(upd_ext hnx) k y (m1.b0 k y h)) (m1.xlt) (fun k h=>?_) (fun k es hk=>?_) (fun i j ci cj q M N' hij hi hj hbi hbj=>?_)
    · rw [St.free_put] at h
      split at h
      · cases h
      · rename_i hne
        rw [upd_ne (fun e=>hne e.symm)]
        exact hr.mem.dom k h
    · rw [St.get_put] at hk
      split at hk
      · rename_i e; subst e
        simp only [Option.some.injEq]at hk
        subst hk
        unfold OB
        rw [upd_at]
        exact⟨rfl,Bw.own_new hr.mem.below o1,hnX,F,_,clk,rfl,hb,hF⟩
      · refine (m1.obj k es hk).later (fun _ _ h => ⟨h, rfl⟩) (upd_ext hnx) (fun q M hq => ⟨rfl, ?_⟩) fun q hq => ⟨rfl, ((m1.obj k es hk).mpB hq).2.2.1⟩
        have hk':=m1.obj k es hk
        unfold OB at hk'
        rw [hq]at hk'
        exact hk'.2.1
    · rw [St.get_put] at hi hj
      by_cases ei:mapId=i
      · subst ei;rw [upd_at]at hbi;cases hbi
      · rw [if_neg ei] at hi
        rw [upd_ne (fun e=>ei e.symm)]at hbi
        by_cases ej:mapId=j
        · subst ej;rw [upd_at]at hbj;cases hbj
        · rw [if_neg ej] at hj
          rw [upd_ne (fun e=>ej e.symm)]at hbj
          exact hr.mem.inj i j ci cj q M N' hij hi hj hbi hbj
  have hv':v= .map (some b):=by simpa only [V]using hvv
  exact h b _ _ ⟨_,_,hr.putv hd m2 m3 (upd_ext hnx) m5 (by simp only [V];exact hv')⟩
theorem n_callMp {F:Int→Option Value} {d:Nat} {f:FuncId} {xs:List Operand} {vs vs':List A} {ats:Array TypeId} {ty:TypeId} {pos aft' g} (hxs:evsA E xs=some vs) (hv:VwL st ⟨[]⟩ false vs vs')
    (hc:Con P f vs' (RetMp F)) (hfr:st.free mapId=true) (hd:Nat.ble (d+1) n=true) (h:∀b,At w0 X0 n ((d,.raw (.map (some b)))::E) (st.put mapId [.mc b F]) K):
    At w0 X0 n E st (fun a w=>(⟨some d,.call {callee:= .value (.func f),args:=xs.toArray,argTypes:=ats},ty,pos,aft',g⟩:Oper).wp P a w K Q):=
  n_callvMp (fs:= []) (cs:= []) rfl hxs (by simpa using hv) hc hfr hd h
end
section
variable {P:Program} {w0:Bw} {X0:Xs} {n:Nat} {E:Ev} {st:St} {K:Act→World→Prop} {Q:Exit→Act→World→Prop}
theorem n_nil0 {d:Nat} {t e t' ty:TypeId} {x y:Operand} {m:Nat} {cs:List A} {pos aft g} (ht:P.underlying t=some (.slice e)) (hx:ev E x=some (.fz m cs)) (hy:ev E y=some .nl) (hd:Nat.ble (d+1) n=true)
    (h:∀q,At w0 X0 n ((d,.b q)::E) st K):At w0 X0 n E st (fun a w=>(⟨some d,.binOp .eql t x y t',ty,pos,aft,g⟩:Oper).wp P a w K Q):=by
  rintro a w ⟨β,X,hr⟩
  obtain⟨h1,h2⟩:=hr.evo hx
  obtain⟨h3,h4⟩:=hr.evo hy
  simp only [V]at h2 h4
  obtain⟨ad,cap,g1,_⟩:=h2
  rw [g1]at h1;rw [h4]at h3
  have hrun:=(Eng.y_nil (P:=P) (n:=a.tmps.size) (S:= [w]) (H:= []) (t':=t') (ty:=ty) ht h1 h3) (some d) pos aft g a w (full_rep a hr.defers) (Eng.Good.start w)
  unfold Oper.wp
  rw [hrun]
  exact h ad.isNone _ _ ⟨β,X,hr.putv hd (fun b o h=>⟨h,rfl⟩) (fun _ _ h=> .inl h) (ExtB.refl β) hr.mem (by simp only [V])⟩
end
def mapOf (σ:Int→Int):Int→Option Value:=fun k=>if σ k=0 then none else some (.int .i64 (σ k))
def updσ (σ:Int→Int) (k v:Int):Int→Int:=fun j=>if j=k then v else σ j
theorem mapOf_nil:(fun _=>none:Int→Option Value)=mapOf (fun _=>0):=by funext k;simp [mapOf]
theorem mapOf_get (σ:Int→Int) (k:Int):(mapOf σ k).getD (.int .i64 0)= .int .i64 (σ k):=by
  unfold mapOf
  split
  · rename_i h;rw [h];rfl
  · rfl
theorem mapOf_set {σ:Int→Int} {k v:Int} (h:v≠0):updF (mapOf σ) k (.int .i64 v)=mapOf (updσ σ k v):=by
  funext j
  unfold updF mapOf updσ
  by_cases e:j=k
  · simp [e,h]
  · simp [e]
theorem mapOf_del {σ:Int→Int} {k v:Int} (h:v=0):delF (updF (mapOf σ) k (.int .i64 v)) k=mapOf (updσ σ k v):=by
  funext j
  unfold delF updF mapOf updσ
  by_cases e:j=k
  · simp [e,h]
  · simp [e]
end Go.Abs
-- E5P
namespace Go.Abs.D2
open Go Go.Eng Go.Abs
structure Ch where
  id:Int
  st:Int
def Ch.cells (c:Ch):List A:= [.i .i64 c.id,.i .i64 c.st]
def chsC (l:List Ch):List A:=l.flatMap Ch.cells
abbrev chsA (l:List Ch):A:= .fz l.length (chsC l)
structure Ep where
  iss:Int
  no:Int
  day:Int
  ch:List Ch
  cas:List UInt8
  prev:List UInt8
  sg:Lf
def Ep.cells (e:Ep):List A:= .i .i64 e.iss:: .i .i64 e.no:: .i .i64 e.day::chsA e.ch::(e.cas.map u8++(e.prev.map u8++ [.i .i64 e.sg.a,dgs e.sg.S,dgs e.sg.P]))
def epsC (l:List Ep):List A:=l.flatMap Ep.cells
abbrev epsA (l:List Ep):A:= .fz l.length (epsC l)
instance {c:Ch}:IsPureL c.cells:=by unfold Ch.cells;infer_instance
instance {l:List Ch}:IsPureL (chsC l):=by unfold chsC;infer_instance
instance {e:Ep}:IsPureL e.cells:=by unfold Ep.cells;infer_instance
instance {l:List Ep}:IsPureL (epsC l):=by unfold epsC;infer_instance
def rg (n:Int):Prop:= -9223372036854775808≤n∧n≤9223372036854775807
structure Ep.ok (e:Ep):Prop where
  iss:rg e.iss
  no:rg e.no
  day:rg e.day
  ch:∀c∈e.ch,rg c.id∧rg c.st
  few:e.ch.length≤1000
  cas:e.cas.length=32
  prev:e.prev.length=32
  S:D32 e.sg.S
  P:D32 e.sg.P
def EpsOk (l:List Ep):Prop:=∀e∈l,e.ok
@[simp] theorem Ch.len (c:Ch):c.cells.length=2:=rfl
theorem Ep.ok.len {e:Ep} (h:e.ok):e.cells.length=71:=by simp [Ep.cells,h.cas,h.prev]
theorem Ep.ok.all {e:Ep} (h:e.ok):e.cells.take 71=e.cells:=List.take_of_length_le (by rw [h.len];omega)
@[simp] theorem len_chsC (l : List Ch) : (chsC l).length = l.length * 2 := by
  unfold chsC
  induction l with
  |nil=>rfl
  |cons c l ih=>rw [List.flatMap_cons,List.length_append,ih,List.length_cons,Ch.len];omega
theorem len_epsC {l:List Ep} (h:EpsOk l):(epsC l).length=l.length*71:=by
  unfold epsC
  induction l with
  |nil=>rfl
  |cons e l ih=>rw [List.flatMap_cons,List.length_append,ih (fun x hx=>h x (.tail _ hx)),List.length_cons,(h e (.head _)).len];omega
theorem chs_get {l:List Ch} {i:Nat} {c:Ch} (h:l[i]? =some c):((chsC l).drop (i*2)).take 2=c.cells:=by
  unfold chsC
  induction l generalizing i with
  |nil=>simp at h
  | cons d l ih =>
    rw [List.flatMap_cons]
    cases i with
    |zero=>simp at h;subst h;rfl
    |succ i=>rw [show(i+1)*2=d.cells.length+i*2 by rw [Ch.len];omega, ←List.drop_drop,List.drop_left];exact ih (by simpa using h)
theorem eps_get {l:List Ep} {i:Nat} {e:Ep} (hl:EpsOk l) (h:l[i]? =some e):((epsC l).drop (i*71)).take 71=e.cells:=by
  unfold epsC
  induction l generalizing i with
  |nil=>simp at h
  | cons d l ih =>
    rw [List.flatMap_cons]
    have hd:=(hl d (.head _)).len
    cases i with
    |zero=>simp at h;subst h;rw [Nat.zero_mul,List.drop_zero,List.take_left' hd]
    |succ i=>rw [show(i+1)*71=d.cells.length+i*71 by rw [hd];omega, ←List.drop_drop,List.drop_left];exact ih (fun x hx=>hl x (.tail _ hx)) (by simpa using h)
theorem eps_fld {l:List Ep} {i:Nat} {e:Ep} (hl:EpsOk l) (h:l[i]? =some e) {k:Nat} {v:A} (hv:e.cells[k]? =some v) (hk:k<71):(((epsC l).drop (i*71)).drop k)[0]? =some v:=by
  have e1:(((epsC l).drop (i*71)).take 71)[k]? =some v:=by rw [eps_get hl h];exact hv
  rw [List.getElem?_take,if_pos hk]at e1
  rw [List.getElem?_drop,Nat.add_zero];exact e1
theorem ep_cas {e:Ep} (h:e.ok):(e.cells.drop 4).take 32=e.cas.map u8:=by
  show(e.cas.map u8++_).take 32=_
  rw [List.take_left' (by rw [List.length_map,h.cas])]
theorem ep_tail {e:Ep} (h:e.ok):e.cells.drop 36=e.prev.map u8++ [.i .i64 e.sg.a,dgs e.sg.S,dgs e.sg.P]:=by
  show(e.cas.map u8++_).drop 32=_
  rw [List.drop_left' (by rw [List.length_map,h.cas])]
theorem ep_prev {e:Ep} (h:e.ok):(e.cells.drop 36).take 32=e.prev.map u8:=by
  rw [ep_tail h,List.take_left' (by rw [List.length_map,h.prev])]
theorem ep_sg {e:Ep} (h:e.ok):e.cells.drop 68= [.i .i64 e.sg.a,dgs e.sg.S,dgs e.sg.P]:=by
  rw [show 68=36+32 from rfl, ←List.drop_drop,ep_tail h,List.drop_left' (by rw [List.length_map,h.prev])]
theorem ep_sga {e:Ep} (h:e.ok):(e.cells.drop 68)[0]? =some (.i .i64 e.sg.a):=by rw [ep_sg h];rfl
def chV (c:Ch):CV:=lstV [intV c.id,intV c.st]
def epV (e:Ep):CV:=lstV [intV e.iss,intV e.no,intV e.day,lstV (e.ch.map chV),txtV e.cas,txtV e.prev]
theorem okB_ch (c:Ch):(chV c).okB=true:=okB_lst fun v hv=>by
  simp only [List.mem_cons,List.not_mem_nil,or_false]at hv
  rcases hv with rfl|rfl
  · exact okB_int _
  · exact okB_int _
theorem okB_ep (e:Ep):(epV e).okB=true:=okB_lst fun v hv=>by
  simp only [List.mem_cons,List.not_mem_nil,or_false]at hv
  rcases hv with rfl|rfl|rfl|rfl|rfl|rfl
  · exact okB_int _
  · exact okB_int _
  · exact okB_int _
  · exact okB_lst fun v hv=>by obtain⟨c,_,rfl⟩:=List.mem_map.1 hv;exact okB_ch c
  · exact okB_txt _
  · exact okB_txt _
theorem dep_ep (e : Ep) : (epV e).depth ≤ 16 := by
  refine Nat.le_trans (dep_lst (d:=2) fun v hv=>?_) (by omega)
  simp only [List.mem_cons,List.not_mem_nil,or_false]at hv
  rcases hv with rfl|rfl|rfl|rfl|rfl|rfl
  · rw [dep_int];omega
  · rw [dep_int];omega
  · rw [dep_int];omega
  · exact dep_lst (d:=1) fun v hv=>by
      obtain⟨c,_,rfl⟩:=List.mem_map.1 hv
      exact dep_lst (d:=0) fun v hv=>by
        simp only [List.mem_cons,List.not_mem_nil,or_false]at hv
        rcases hv with rfl|rfl
        · rw [dep_int];exact Nat.le_refl _
        · rw [dep_int];exact Nat.le_refl _
  · rw [dep_txt];omega
  · rw [dep_txt];omega
theorem rng_ch {c:Ch} (h:rg c.id∧rg c.st):(chV c).rng=true:=rng_lst fun v hv=>by
  simp only [List.mem_cons,List.not_mem_nil,or_false]at hv
  rcases hv with rfl|rfl
  · exact rng_int h.1.1 h.1.2
  · exact rng_int h.2.1 h.2.2
theorem rng_ep {e:Ep} (h:e.ok):(epV e).rng=true:=rng_lst fun v hv=>by
  simp only [List.mem_cons,List.not_mem_nil,or_false]at hv
  rcases hv with rfl|rfl|rfl|rfl|rfl|rfl
  · exact rng_int h.iss.1 h.iss.2
  · exact rng_int h.no.1 h.no.2
  · exact rng_int h.day.1 h.day.2
  · exact rng_lst fun v hv=>by obtain⟨c,hc,rfl⟩:=List.mem_map.1 hv;exact rng_ch (h.ch c hc)
  · exact rng_txt _
  · exact rng_txt _
theorem enc_ch {c:Ch} (h:rg c.id∧rg c.st):(chV c).enc.length≤36:=by
  have q:=enc_lst (l:= [intV c.id,intV c.st]) (by simp)
  have q1:=enc_int h.1.1 h.1.2
  have q2:=enc_int h.2.1 h.2.2
  simp only [CV.encL,List.length_append,List.length_nil]at q
  show(lstV _).enc.length≤_
  omega
theorem enc_ep {e:Ep} (h:e.ok):(epV e).enc.length≤40000:=by
  have hf:=h.few
  have q:=enc_lst (l:= [intV e.iss,intV e.no,intV e.day,lstV (e.ch.map chV),txtV e.cas,txtV e.prev]) (by simp)
  have q1:=enc_int h.iss.1 h.iss.2
  have q2:=enc_int h.no.1 h.no.2
  have q3:=enc_int h.day.1 h.day.2
  have q4:=enc_lst (l:=e.ch.map chV) (by rw [List.length_map];omega)
  have q5:=encL_le (l:=e.ch.map chV) (k:=36) fun v hv=>by obtain⟨c,hc,rfl⟩:=List.mem_map.1 hv;exact enc_ch (h.ch c hc)
  have q6:=enc_txt (s:=e.cas) (by rw [h.cas];omega)
  have q7:=enc_txt (s:=e.prev) (by rw [h.prev];omega)
  rw [List.length_map]at q5
  have:=h.cas
  have:=h.prev
  simp only [CV.encL,List.length_append,List.length_nil]at q
  show(lstV _).enc.length≤_
  omega
theorem size_ep {e:Ep} (h:e.ok):(epV e).size≤1000000:=by
  have h1:=CV.size_enc (epV e).size (epV e) (Nat.le_refl _) (okB_ep e)
  have h2:=enc_ep h
  omega
theorem encA_ep (e:Ep):encA (epV e)= .tu [.fz (epV e).enc.length ((epV e).enc.map u8),.i .i64 0]:=encA_yes (chkV_0 (okB_ep e) (by have:=dep_ep e;omega))
abbrev tagE:List UInt8:= [101,112,111,99,104]
@[irreducible] def digE (e:Ep):List UInt8:=tagged tagE (epV e).enc
theorem digE_eq (e:Ep):digE e=tagged tagE (epV e).enc:=by unfold digE;rfl
@[simp] theorem len_digE (e:Ep):(digE e).length=32:=by rw [digE_eq];simp
theorem ch_nextV {l:List Ch} {i:Nat} {c:Ch} (h:l[i]? =some c):CV.cellsL ((l.take i).map chV)++CV.cells (chV c)=CV.cellsL ((l.take (i+1)).map chV):=by
  rw [CV.cellsL_flat,CV.cellsL_flat,List.take_add_one,h];simp
theorem cut_all {x:List UInt8} (hx:x.length=32):A.fz 32 (((x.map u8).drop (0*1)).take (32*1))= .fz x.length (x.map u8):=by
  rw [Nat.zero_mul,List.drop_zero,List.take_of_length_le (by rw [List.length_map,hx];omega),hx]
def chB (σ:Int→Int) (last:Int) (c:Ch):Bool:=(((decide (last<c.id)&&decide (c.id<1024))&&decide (0≤c.st))&&decide (c.st≤4))&&((c.st !=σ c.id)&&(σ c.id !=2))
def chOk (σ:Int→Int) (last:Int):List Ch→Bool
  | []=>true
  |c::r=>chB σ last c&&chOk (updσ σ c.id c.st) c.id r
theorem chB_f1 {σ:Int→Int} {la:Int} {c:Ch} (h:(((decide (c.id>la)&&decide (c.id<1024))&&decide (c.st≥0))&&decide (c.st≤4))=false):chB σ la c=false:=by
  unfold chB
  rw [show(((decide (la<c.id)&&decide (c.id<1024))&&decide (0≤c.st))&&decide (c.st≤4))=false from h];rfl
theorem chB_f2 {σ:Int→Int} {la:Int} {c:Ch} (h:((c.st !=σ c.id)&&(σ c.id !=2))=false):chB σ la c=false:=by
  unfold chB;rw [h,Bool.and_false]
theorem chB_t {σ:Int→Int} {la:Int} {c:Ch} (h1:(((decide (c.id>la)&&decide (c.id<1024))&&decide (c.st≥0))&&decide (c.st≤4))=true) (h2:((c.st !=σ c.id)&&(σ c.id !=2))=true):chB σ la c=true:=by
  unfold chB
  rw [show(((decide (la<c.id)&&decide (c.id<1024))&&decide (0≤c.st))&&decide (c.st≤4))=true from h1,h2];rfl
def chg (σ:Int→Int):List Ch→Int→Int
  | []=>σ
  |c::r=>chg (updσ σ c.id c.st) r
theorem chOk_no {σ:Int→Int} {last:Int} {l:List Ch} {i:Nat} {c:Ch} (h:l[i]? =some c) (hb:chB σ last c=false):chOk σ last (l.drop i)=false:=by
  rw [List.drop_eq_getElem_cons (List.getElem?_eq_some_iff.1 h).1,(List.getElem?_eq_some_iff.1 h).2,chOk,hb];rfl
theorem chOk_yes {σ:Int→Int} {last:Int} {l:List Ch} {i:Nat} {c:Ch} (h:l[i]? =some c) (hb:chB σ last c=true):chOk σ last (l.drop i)=chOk (updσ σ c.id c.st) c.id (l.drop (i+1)):=by
  rw [List.drop_eq_getElem_cons (List.getElem?_eq_some_iff.1 h).1,(List.getElem?_eq_some_iff.1 h).2,chOk,hb];rfl
theorem chg_next {σ:Int→Int} {l:List Ch} {i:Nat} {c:Ch} (h:l[i]? =some c):chg σ (l.drop i)=chg (updσ σ c.id c.st) (l.drop (i+1)):=by
  rw [List.drop_eq_getElem_cons (List.getElem?_eq_some_iff.1 h).1,(List.getElem?_eq_some_iff.1 h).2,chg]
def epB (iss:Int) (no:Nat) (day:Int) (prev:List UInt8) (e:Ep):Bool:=((e.iss==iss&&decide (0≤e.iss))&&decide (e.iss<8))&&(((e.no==(no:Int))&&(e.sg.a==(no:Int)))&&(e.prev==prev))&&(decide (day<e.day)&&decide (e.day<1024))
theorem iss_ways (a q:Int):a≠q∨(a=q∧a<0)∨(a=q∧0≤a∧8≤a)∨(a=q∧0≤a∧a<8):=by omega
theorem epB_f1 {iss:Int} {no:Nat} {day:Int} {prev:List UInt8} {e:Ep} (h:¬(e.iss=iss∧0≤e.iss∧e.iss<8)):epB iss no day prev e=false:=by
  cases hb:epB iss no day prev e with
  |false=>rfl
  |true=>unfold epB at hb;simp only [Bool.and_eq_true,decide_eq_true_eq,beq_iff_eq]at hb;omega
theorem epB_f2 {iss:Int} {no:Nat} {day:Int} {prev:List UInt8} {e:Ep} (h:e.no=(no:Int)→e.sg.a=(no:Int)→¬e.prev=prev):epB iss no day prev e=false:=by
  cases hb:epB iss no day prev e with
  |false=>rfl
  |true=>unfold epB at hb;simp only [Bool.and_eq_true,decide_eq_true_eq,beq_iff_eq]at hb;exact absurd hb.1.2.2 (h hb.1.2.1.1 hb.1.2.1.2)
theorem epB_f3 {iss:Int} {no:Nat} {day:Int} {prev:List UInt8} {e:Ep} (h:day<e.day→1024≤e.day):epB iss no day prev e=false:=by
  cases hb:epB iss no day prev e with
  |false=>rfl
  |true=>unfold epB at hb;simp only [Bool.and_eq_true,decide_eq_true_eq,beq_iff_eq]at hb;omega
theorem epB_t {iss e0:Int} {no:Nat} {day:Int} {prev:List UInt8} {e:Ep} (h0:iss=e0) (h:e.iss=e0∧0≤e.iss∧e.iss<8) (h2:(e.no=(no:Int)∧e.sg.a=(no:Int))∧e.prev=prev) (h3:day<e.day∧e.day<1024):epB iss no day prev e=true:=by
  unfold epB;simp only [Bool.and_eq_true,decide_eq_true_eq,beq_iff_eq]
  exact⟨⟨⟨⟨by omega,h.2.1⟩,h.2.2⟩,h2⟩,h3⟩
def frm (iss:Int):Nat→Int→List UInt8→(Int→Int)→List Ep→Option (Int→Int)
  |_,_,_,σ, []=>some σ
  |no,day,prev,σ,e::r=>if epB iss no day prev e&&chOk σ (-1) e.ch then frm iss (no+1) e.day (digE e) (chg σ e.ch) r else none
def issL:List Ep→Int
  | []=>0
  |e::_=>e.iss
abbrev σ0:Int→Int:=fun _=>0
@[irreducible] def formS (l:List Ep):Option (Int→Int):=frm (issL l) 0 (-1) zD σ0 l
theorem formS_eq (l:List Ep):formS l=frm (issL l) 0 (-1) zD σ0 l:=by unfold formS;rfl
theorem issL_get {l:List Ep} {e:Ep} (h:l[0]? =some e):issL l=e.iss:=by
  cases l with
  |nil=>cases h
  |cons a l=>simp at h;subst h;rfl
theorem frm_no {iss:Int} {no:Nat} {day:Int} {prev:List UInt8} {σ:Int→Int} {l:List Ep} {i:Nat} {e:Ep} (h:l[i]? =some e) (hb:epB iss no day prev e=false∨chOk σ (-1) e.ch=false):frm iss no day prev σ (l.drop i)=none:=by
  rw [List.drop_eq_getElem_cons (List.getElem?_eq_some_iff.1 h).1,(List.getElem?_eq_some_iff.1 h).2,frm]
  rcases hb with hb|hb
  · rw [hb,if_neg (by simp)]
  · rw [hb,if_neg (by simp)]
theorem frm_yes {iss:Int} {no:Nat} {day:Int} {prev:List UInt8} {σ:Int→Int} {l:List Ep} {i:Nat} {e:Ep} (h:l[i]? =some e) (hb:epB iss no day prev e=true) (hc:chOk σ (-1) e.ch=true):
    frm iss no day prev σ (l.drop i)=frm iss (no+1) e.day (digE e) (chg σ e.ch) (l.drop (i+1)):=by
  rw [List.drop_eq_getElem_cons (List.getElem?_eq_some_iff.1 h).1,(List.getElem?_eq_some_iff.1 h).2,frm,hb,hc,if_pos (by simp)]
@[irreducible] def chkE (r:List UInt8) (n:Int) (l:List Ep):Int:=if(formS l).isSome then (if l.all (fun e=>verK r n (digE e) e.sg.a e.sg.S e.sg.P)then 0 else 60)else 351
theorem chkE_no {r:List UInt8} {n:Int} {l:List Ep} (h:formS l=none):chkE r n l=351:=by unfold chkE;rw [h];rfl
theorem chkE_bad {r:List UInt8} {n:Int} {l:List Ep} {σ:Int→Int} (h:formS l=some σ) {e:Ep} (he:e∈l) (hv:verK r n (digE e) e.sg.a e.sg.S e.sg.P=false):chkE r n l=60:=by
  unfold chkE
  rw [h,if_pos (show(some σ).isSome=true from rfl),if_neg]
  intro hall
  rw [List.all_eq_true.1 hall e he]at hv;cases hv
theorem chkE_yes {r:List UInt8} {n:Int} {l:List Ep} {σ:Int→Int} (h:formS l=some σ) (hv:∀e∈l,verK r n (digE e) e.sg.a e.sg.S e.sg.P=true):chkE r n l=0:=by
  unfold chkE
  rw [h,if_pos (show(some σ).isSome=true from rfl),if_pos (List.all_eq_true.2 hv)]
abbrev misV (T:Nat) (e:Int):Value:= .iface T (.agg #[.int .i64 e])
theorem V_mis {X:Xs} {w:World} {β:Bm} (T:Nat) (e:Int):V X w β (.ic T (.ag [.i .i64 e])) (misV T e):=by
  simp only [V,VS]
  exact⟨_,rfl, [.int .i64 e],rfl,⟨_,_,rfl,rfl,rfl⟩,fun x hx=>by rw [List.mem_singleton.1 hx];rfl⟩
theorem opt_ways {α:Type} (o:Option α):o=none∨∃a,o=some a:=by cases o<;>simp
theorem chk_ways (r:List UInt8) (n:Int) (l:List Ep):chkE r n l≠0∨∃σ,formS l=some σ∧chkE r n l=0:=by
  rcases opt_ways (formS l)with h|⟨σ,h⟩
  · exact .inl (by rw [chkE_no h];decide)
  · by_cases h0 : chkE r n l = 0
    · exact .inr ⟨σ,h,h0⟩
    · exact .inl h0
theorem all_takeE {l:List Ep} {i:Nat} {e:Ep} {p:Ep→Bool} (h:l[i]? =some e) (ha:∀x∈l.take i,p x=true) (he:p e=true):∀x∈l.take (i+1),p x=true:=fun x hx=>by
  rw [List.take_add_one,h]at hx
  rcases List.mem_append.1 hx with hx|hx
  · exact ha x hx
  · rw [List.mem_singleton.1 hx];exact he
theorem ep_sg3 {e:Ep} (h:e.ok):(e.cells.drop 68).take 3= [.i .i64 e.sg.a,dgs e.sg.S,dgs e.sg.P]:=by rw [ep_sg h];rfl
end Go.Abs.D2
-- E5B
namespace Go.Abs.D2
open Go Go.Eng Go.Abs Go.Proofs
theorem zero_int (w:World):(zeroValue 3).run Tryz.prog w= .ok (.int .i64 0) w:=by kernel_rfl
theorem eneed_ok (e:Int):Con Tryz.prog 45 [.b true,.i .i64 e] (Ret (.tu [])):=by
 refine enter Tryz.func45 rfl Tryz.ntmps45 (by kernel_rfl) (Nat.le_of_ble_eq_true rfl) fun w0 X0 hI=>?_
 refine at_seq<|at_region<|s1 (y_p rfl) rfl<|s1 ((y_p rfl).v (v':= .b false) (rfl)) rfl ?_
 refine at_nil<|x_tn ?_
 refine at_else rfl ?_
 refine at_skip ?_
 refine at_result' (rs:= []) rfl r_nil rfl
theorem eneed_px (e:Int):ConE Tryz.prog 45 [.b false,.i .i64 e] ⟨[]⟩ (fun _ _=>False) (fun u=>u=misV 136 e):=by
 refine enterE Tryz.func45 rfl Tryz.ntmps45 (by kernel_rfl) (Nat.le_of_ble_eq_true rfl) fun w0 X0 hI=>?_
 refine at_seq<|at_region<|s1 (y_p rfl) rfl<|s1 ((y_p rfl).v (v':= .b true) (rfl)) rfl ?_
 refine at_nil<|x_tn ?_
 refine at_then rfl ?_
 refine at_region<|s1 (y_p rfl) rfl<|s1 (y_bld (out:= [_]) [[evC (.int .i64 0)]] ti136 rfl Tryz.underlying136 (by kernel_rfl) rfl rfl ⟨⟨by(first|rfl|omega|(simp;done)|(simp [*];done)|(simp [cellsA, *];done)),rfl⟩,trivial⟩ rfl) rfl<|s1 (y_mkic (by kernel_rfl) rfl) rfl ?_
 refine p_panic rfl rfl ?_
 exact at_panicked rfl
theorem efail_ok (e:Int):Con Tryz.prog 39 [.ic 136 (.ag [.i .i64 e])] (Ret (.i .i64 e)):=by
 refine enter Tryz.func39 rfl Tryz.ntmps39 (by kernel_rfl) (Nat.le_of_ble_eq_true rfl) fun w0 X0 hI=>?_
 refine at_seq<|at_region<|s1 ((y_p rfl).v (v':= .i .i64 0) rfl) rfl ?_
 refine at_nil<|x_tn<|at_seq<|at_region<|s1 (y_p rfl) rfl<|s1 (y_tayes Tryz.underlying136 rfl rfl) rfl<|s1 (y_p rfl) rfl<|s1 (y_p rfl) rfl<|s1 (y_p rfl) rfl ?_
 refine at_op rfl (n_alloc 3 rfl ti136 rfl rfl ?_)
 refine at_op rfl (n_storeA ti136 rfl rfl rfl (by first|rfl|omega|(simp<;>omega)|(simp [*]<;>omega)) (by first|rfl|omega|(simp<;>omega)|(simp [*]<;>omega)) ?_)
 refine s1 (y_p rfl) rfl ?_
 refine at_nil<|x_tn<|at_seq<|at_seq<|at_region<|s1 (y_p rfl) rfl<|s1 (y_p rfl) rfl ?_
 refine at_nil<|x_tn ?_
 refine at_else rfl ?_
 refine at_skip<|x_tn<|at_seq<|at_region<|s1 (y_fld Tryz.underlying136 rfl ti27 (by decide) rfl rfl) rfl<|s1 (y_load ti27 rfl rfl rfl) rfl<|s1 (y_p rfl) rfl ?_
 refine at_nil<|x_tn<|at_ret ?_
 refine at_result (rs:= [.tmp 2]) rfl (r_tmp rfl r_nil) ?_
 rfl
theorem echange_E (b:Nat) (σ:Int→Int) (l:List Ch) (hn:l.length≤maxLen):ConE Tryz.prog 48 [.raw (.map (some b)),chsA l] ⟨[(700,some [.mc b (mapOf σ)])]⟩ (fun r st=>chOk σ (-1) l=true∧RetS (.tu []) [(700, [.mc b (mapOf (chg σ l))])] r st) (fun u=>chOk σ (-1) l=false∧u=misV 136 351):=by
 refine enterE Tryz.func48 rfl Tryz.ntmps48 (by kernel_rfl) (Nat.le_of_ble_eq_true rfl) fun w0 X0 hI=>?_
 refine at_seq<|at_region<|s1 ((y_p rfl).v (v':= .i .i64 (-1)) rfl) rfl ?_
 refine at_nil<|x_tn<|at_seq ?_
 simp only [maxLen]at hn
 refine at_region<|s1 (y_p rfl) rfl<|s1 (y_len Tryz.underlying31 rfl rfl rfl) rfl<|s1 ((y_p rfl).v (v':= .i .i64 0) rfl) rfl ?_
 refine at_nil<|x_tn<|at_block ?_
 refine at_loop (ι:=Nat×(Int→Int)×Int) (fun⟨i,τ,la⟩=> [(0,.raw (.map (some b))),(4,.i .i64 la),(7,chsA l),(8,nJ l.length),(9,nJ i)]) (fun⟨i,τ,la⟩=>⟨[(700,some ([.mc b (mapOf τ)]))]⟩) (fun⟨i,τ,la⟩=>i≤l.length∧chOk σ (-1) l=chOk τ la (l.drop i)∧chg σ l=chg τ (l.drop i)) (fun⟨i,τ,la⟩=>l.length - i) ?_ ?_
 ·exact at_ex ((0,σ, -1)) (⟨Nat.zero_le _,rfl,rfl⟩) [(700,some 700)] hI rfl rfl ⟨⟨_,rfl,.pure pu⟩,⟨_,rfl,.pure pu⟩,⟨_,rfl,.pure pu⟩,⟨_,rfl,.pure pu⟩,⟨_,rfl,.pure pu⟩,trivial⟩ ⟨.inr ⟨_,_,rfl,rfl,.pure pul⟩,trivial⟩
 rintro⟨i,τ,la⟩ ⟨hi,hk,hg⟩
 dsimp only
 refine at_seq<|at_region<|s1 (y_p rfl) rfl ?_
 refine at_nil<|x_tn<|at_seq ?_
 refine at_cond rfl (fun hc10=>?_) (fun hc10=>?_)
 ·have h10 : i < l.length := by have := of_decide_eq_true hc10; omega
  obtain⟨c,hc⟩:∃c,l[i]? =some c:=⟨_,List.getElem?_eq_getElem h10⟩
  refine at_skip<|x_tn<|at_seq<|at_block<|at_seq<|at_region<|s1 (y_ixf i Tryz.underlying31 ti55 rfl rfl rfl (by omega) rfl) rfl<|s1 (y_loadA ti55 rfl rfl (chs_get hc) rfl) rfl ?_
  refine at_op rfl (n_alloc 6 rfl ti55 rfl rfl ?_)
  refine at_op rfl (n_storeA ti55 rfl rfl rfl (by first|rfl|omega|(simp<;>omega)|(simp [*]<;>omega)) (by first|rfl|omega|(simp<;>omega)|(simp [*]<;>omega)) ?_)
  refine at_nil<|x_tn<|at_seq<|at_region<|s1 (y_fld Tryz.underlying55 rfl ti3 (by decide) rfl rfl) rfl<|s1 (y_load ti3 rfl rfl rfl) rfl<|s1 (y_p rfl) rfl<|s1 (y_p rfl) rfl<|s1 (y_p rfl) rfl ?_
  refine g_and 3 rfl rfl rfl rfl (fun hb17=> .step (y_fld Tryz.underlying55 rfl ti3 (by decide) rfl rfl) rfl rfl<| .step (y_load ti3 rfl rfl rfl) rfl rfl<| .step (y_p rfl) rfl rfl<| .done) rfl rfl ?_
  refine s1 (y_p rfl) rfl ?_
  refine g_and 3 rfl rfl rfl rfl (fun hb22=> .step (y_fld Tryz.underlying55 rfl ti3 (by decide) rfl rfl) rfl rfl<| .step (y_load ti3 rfl rfl rfl) rfl rfl<| .step (y_p rfl) rfl rfl<| .done) rfl rfl ?_
  refine s1 (y_p rfl) rfl ?_
  refine g_and 3 rfl rfl rfl rfl (fun hb27=> .step (y_fld Tryz.underlying55 rfl ti3 (by decide) rfl rfl) rfl rfl<| .step (y_load ti3 rfl rfl rfl) rfl rfl<| .step (y_p rfl) rfl rfl<| .done) rfl rfl ?_
  refine at_bc 31 rfl (fun hc31=>?_) (fun hc31=>?_)
  ·skip
   refine at_op rfl (n_call false rfl (.cons (.pure pu) (.cons (.pure pu) .nil)) (eneed_ok 351) pu (.inl rfl) rfl ?_)
   refine at_nil<|x_tn<|at_seq<|at_region<|s1 (y_fld Tryz.underlying55 rfl ti3 (by decide) rfl rfl) rfl<|s1 (y_load ti3 rfl rfl rfl) rfl<|s1 (y_p rfl) rfl<|s1 (y_fld Tryz.underlying55 rfl ti3 (by decide) rfl rfl) rfl<|s1 (y_load ti3 rfl rfl rfl) rfl<|s1 (y_lookup Tryz.underlying80 Tryz.underlying3 zero_int rfl rfl rfl (mapOf_get _ _)) rfl<|s1 (y_p rfl) rfl<|s1 (y_p rfl) rfl ?_
   refine g_and 5 rfl rfl rfl rfl (fun hb40=> .step (y_p rfl) rfl rfl<| .step (y_fld Tryz.underlying55 rfl ti3 (by decide) rfl rfl) rfl rfl<| .step (y_load ti3 rfl rfl rfl) rfl rfl<| .step (y_lookup Tryz.underlying80 Tryz.underlying3 zero_int rfl rfl rfl (mapOf_get _ _)) rfl rfl<| .step (y_p rfl) rfl rfl<| .done) rfl rfl ?_
   refine at_bc 46 rfl (fun hc46=>?_) (fun hc46=>?_)
   ·skip
    refine at_op rfl (n_call false rfl (.cons (.pure pu) (.cons (.pure pu) .nil)) (eneed_ok 351) pu (.inl rfl) rfl ?_)
    refine at_nil<|x_tn<|at_seq<|at_region<|s1 (y_fld Tryz.underlying55 rfl ti3 (by decide) rfl rfl) rfl<|s1 (y_load ti3 rfl rfl rfl) rfl<|s1 (y_p rfl) rfl ?_
    refine at_nil<|x_tn<|at_seq<|at_region<|s1 (y_p rfl) rfl<|s1 (y_fld Tryz.underlying55 rfl ti3 (by decide) rfl rfl) rfl<|s1 (y_load ti3 rfl rfl rfl) rfl<|s1 (y_fld Tryz.underlying55 rfl ti3 (by decide) rfl rfl) rfl<|s1 (y_load ti3 rfl rfl rfl) rfl ?_
    refine at_op rfl (n_mapUpdate Tryz.underlying80 Tryz.underlying3 rfl rfl rfl rfl ?_)
    refine at_nil<|x_tn<|at_seq<|at_region<|s1 (y_fld Tryz.underlying55 rfl ti3 (by decide) rfl rfl) rfl<|s1 (y_load ti3 rfl rfl rfl) rfl<|s1 (y_p rfl) rfl ?_
    refine at_nil<|x_tn ?_
    refine at_cond rfl (fun hc57=>?_) (fun hc57=>?_)
    ·have h57 : c.st = 0 := by simpa using hc57
     refine at_region<|s1 (y_p rfl) rfl<|s1 (y_fld Tryz.underlying55 rfl ti3 (by decide) rfl rfl) rfl<|s1 (y_load ti3 rfl rfl rfl) rfl ?_
     refine at_op rfl (n_mapDelete Tryz.underlying80 Tryz.underlying3 rfl rfl rfl rfl ?_)
     refine at_nil<|x_bn<|x_tn<|at_region<|s1 (addN _ 1 rfl rfl rfl rfl (by omega)) rfl<|s1 (y_p rfl) rfl ?_
     refine at_nil ?_
     exact at_end (x:=(i,τ,la)) ((i+1,updσ τ c.id c.st,c.id)) (⟨show i+1≤l.length by omega,hk.trans (chOk_yes hc (chB_t hc31 hc46)),hg.trans (chg_next hc)⟩) (show l.length - (i+1)<l.length - i by omega) [(700,some 700)] hI rfl rfl ⟨⟨_,rfl,.pure pu⟩,⟨_,rfl,.pure pu⟩,⟨_,rfl,.pure pu⟩,⟨_,rfl,.pure pu⟩,⟨_,rfl,.pure pu⟩,trivial⟩ ⟨.inr ⟨_,_,rfl,rfl,.of (congrArg (fun f=> [A.mc b f]) (mapOf_del h57)) (.pure pul)⟩,trivial⟩
    ·have h57 : c.st ≠ 0 := by simpa using hc57
     refine at_skip<|x_bn<|x_tn<|at_region<|s1 (addN _ 1 rfl rfl rfl rfl (by omega)) rfl<|s1 (y_p rfl) rfl ?_
     refine at_nil ?_
     exact at_end (x:=(i,τ,la)) ((i+1,updσ τ c.id c.st,c.id)) (⟨show i+1≤l.length by omega,hk.trans (chOk_yes hc (chB_t hc31 hc46)),hg.trans (chg_next hc)⟩) (show l.length - (i+1)<l.length - i by omega) [(700,some 700)] hI rfl rfl ⟨⟨_,rfl,.pure pu⟩,⟨_,rfl,.pure pu⟩,⟨_,rfl,.pure pu⟩,⟨_,rfl,.pure pu⟩,⟨_,rfl,.pure pu⟩,trivial⟩ ⟨.inr ⟨_,_,rfl,rfl,.of (congrArg (fun f=> [A.mc b f]) (mapOf_set h57)) (.pure pul)⟩,trivial⟩
   ·skip
    refine p_call ⟨[]⟩ false rfl trivial (.cons (.pure pu) (.cons (.pure pu) .nil)) (eneed_px 351) (fun u hu=>?_)
    refine x_tp ?_
    refine x_bp ?_
    refine x_tp ?_
    refine x_tp ?_
    refine x_bp ?_
    exact at_panicked ⟨hk.trans (chOk_no hc (chB_f2 hc46)),hu⟩
  ·skip
   refine p_call ⟨[]⟩ false rfl trivial (.cons (.pure pu) (.cons (.pure pu) .nil)) (eneed_px 351) (fun u hu=>?_)
   refine x_tp ?_
   refine x_bp ?_
   refine x_tp ?_
   refine x_tp ?_
   refine x_bp ?_
   exact at_panicked ⟨hk.trans (chOk_no hc (chB_f1 hc31)),hu⟩
 ·obtain rfl : i = l.length := by have := of_decide_eq_false hc10; omega
  rw [List.drop_length]at hk hg
  refine at_exit<|x_te<|x_te<|x_be ?_
  refine at_sayO 700 (cs':= [.mc b (mapOf (chg σ l))]) rfl (by rw [hg];rfl) ?_
  refine at_resultE' (rs:= []) rfl r_nil ⟨hk,retS_1 rfl⟩
theorem echange_ok {b:Nat} {σ:Int→Int} {l:List Ch} (hn:l.length≤maxLen) (h:chOk σ (-1) l=true):ConS Tryz.prog 48 [.raw (.map (some b)),chsA l] ⟨[(700,some [.mc b (mapOf σ)])]⟩ (RetS (.tu []) [(700, [.mc b (mapOf (chg σ l))])]):=(echange_E b σ l hn).ret (fun _ _ h=>h.2) fun u hu=>by rw [h]at hu;cases hu.1
theorem echange_px {b:Nat} {σ:Int→Int} {l:List Ch} (hn:l.length≤maxLen) (h:chOk σ (-1) l=false):ConX Tryz.prog 48 [.raw (.map (some b)),chsA l] ⟨[(700,some [.mc b (mapOf σ)])]⟩ (fun u=>chOk σ (-1) l=false∧u=misV 136 351):=(echange_E b σ l hn).pan fun r st hu=>by rw [h]at hu;cases hu.1
theorem eafter_ok (l:List Ep) (b:Nat):Con Tryz.prog 111 [epsA l,.raw (.map (some b))] (Ret (.fn (.func 163) [] [.fp [epsA l],.fp [.raw (.map (some b))]])):=by
 refine enter Tryz.func111 rfl Tryz.ntmps111 (by kernel_rfl) (Nat.le_of_ble_eq_true rfl) fun w0 X0 hI=>?_
 refine at_seq<|at_region ?_
 refine at_op rfl (n_box1 2 rfl rfl rfl rfl ?_)
 refine at_op rfl (n_box1 3 rfl rfl rfl rfl ?_)
 refine s1 (y_p rfl) rfl ?_
 refine at_nil<|x_tn<|at_seq ?_
 refine at_frzP 2 rfl rfl pul ?_
 refine at_frzP 3 rfl rfl pul ?_
 refine at_region<|s1 (y_func (us:= []) (vs:= [.fp [epsA l],.fp [.raw (.map (some b))]]) rfl rfl) rfl<|s1 (y_p rfl) rfl ?_
 refine at_nil<|x_tn<|at_ret ?_
 refine at_result (rs:= [.tmp 4]) rfl (r_tmp rfl r_nil) ?_
 rfl
end Go.Abs.D2
-- C1B
namespace Go.Abs.D2
open Go Go.Eng Go.Abs Go.Proofs
theorem cnumeral_ok (B:List UInt8) (u:BitVec 64) (hB:B.length≤100000000):ConS Tryz.prog 169 [.sl 128 1 0 B.length,w64 u] ⟨[(128,some (B.map u8))]⟩ (RetO 1 (B++numL u.toNat).length ((B++numL u.toNat).map u8)):=by
 refine enterH pul Tryz.func169 rfl Tryz.ntmps169 (by kernel_rfl) (Nat.le_of_ble_eq_true rfl) fun w0 X0 hI=>?_
 refine at_seq<|at_region<|s1 (y_p rfl) rfl ?_
 refine at_nil<|x_tn<|at_seq<|at_block ?_
 refine at_loop (ι:=Nat) (fun k=> [(0,.sl 130 1 0 (B.length+k)),(1,w64 (u>>>(7*k)))]) (fun k=>⟨[(130,some ((B++numP u.toNat (k)).map u8))]⟩) (fun k=>k≤10∧∀i,i<k→128≤u.toNat / 128 ^ i) (fun k=>10 - k) ?_ ?_
 ·exact at_ex (0) (⟨by omega,fun t ht=>absurd ht (by omega)⟩) [(130,some 128)] hI rfl rfl ⟨⟨_,rfl,.sl rfl (by first|rfl|omega|(simp<;>omega)|(simp [*]<;>omega))⟩,⟨_,rfl,.pure pu⟩,trivial⟩ ⟨.inr ⟨_,_,rfl,rfl,.of (by simp [numP]) (.pure pul)⟩,trivial⟩
 rintro k ⟨hk,hk2⟩
 have hsh:=shr_num u k
 have hpl:(B++numP u.toNat (k)).length=B.length+k:=by simp
 refine at_seq<|at_seq<|at_region<|s1 (y_p rfl) rfl<|s1 ((y_p rfl).v (v':= .b (decide (128≤u.toNat / 128 ^ k))) (congrArg A.b (num_ge u k))) rfl ?_
 refine at_nil<|x_tn ?_
 refine at_cond rfl (fun hc6=>?_) (fun hc6=>?_)
 ·have h6 : 128 ≤ u.toNat / 128 ^ k := of_decide_eq_true hc6
  have hk9:k<10:=Nat.lt_of_not_le fun h=>by rw [pow_lim u.isLt h]at h6;omega
  refine at_skip<|x_tn<|at_block<|at_seq<|at_region<|s1 (y_p rfl) rfl<|s1 (y_p rfl) rfl<|s1 (and64 _ (c64 127) rfl rfl) rfl<|s1 (to8_64 _ Tryz.underlying198 Tryz.underlying5 rfl) rfl<|s1 ((orB _ (128:UInt8) rfl rfl).v (v':=u8 (UInt8.ofNat (u.toNat / 128 ^ k % 128+128))) (congrArg u8 (num_byte u k))) rfl ?_
  refine at_op rfl (n_bs1 12 rfl Tryz.underlying68 ti5 rfl rfl rfl rfl rfl ?_)
  refine at_op rfl (n_app 13 rfl Tryz.underlying68 ti5 rfl (.sl rfl (by simp)) rfl (SM_full rfl (by first|rfl|omega|(simp<;>omega)|(simp [*]<;>omega))) (by simp) (by simp only [maxLen];omega) (by omega) rfl (num_app B u k) rfl ?_)
  refine s1 (y_p rfl) rfl ?_
  refine at_nil<|x_tn<|at_region<|s1 (y_p rfl) rfl<|s1 ((shr64 _ 7 rfl rfl rfl (by decide)).v (v':=w64 (u>>>(7*(k+1)))) (congrArg w64 (shr_next u k))) rfl<|s1 (y_p rfl) rfl ?_
  refine at_nil<|x_bn ?_
  exact at_end (k+1) (⟨by omega,all_next hk2 h6⟩) (by omega) [(130,some 13)] hI rfl rfl ⟨⟨_,rfl,.sl rfl (by first|rfl|omega|(simp<;>omega)|(simp [*]<;>omega))⟩,⟨_,rfl,.pure pu⟩,trivial⟩ ⟨.inr ⟨_,_,rfl,rfl,.pure pul⟩,trivial⟩
 ·have h6 : ¬ 128 ≤ u.toNat / 128 ^ k := of_decide_eq_false hc6
  refine at_exit<|x_te<|x_te<|x_be<|x_tn<|at_seq<|at_region<|s1 (y_p rfl) rfl<|s1 (y_p rfl) rfl<|s1 ((to8_64 _ Tryz.underlying198 Tryz.underlying5 rfl).v (v':=u8 (UInt8.ofNat (u.toNat / 128 ^ k))) (by rw [hsh])) rfl ?_
  refine at_op rfl (n_bs1 19 rfl Tryz.underlying68 ti5 rfl rfl rfl rfl rfl ?_)
  refine at_op rfl (n_app 20 rfl Tryz.underlying68 ti5 rfl (.sl rfl (by simp)) rfl (SM_full rfl (by first|rfl|omega|(simp<;>omega)|(simp [*]<;>omega))) (by simp) (by simp only [maxLen];omega) (by omega) rfl (num_last B hk2 (Nat.lt_of_not_le h6)) rfl ?_)
  refine s1 (y_p rfl) rfl ?_
  refine at_nil<|x_tn<|at_ret ?_
  have hll:=num_len B hk2 (Nat.lt_of_not_le h6)
  refine at_result (rs:= [.tmp 4]) rfl (r_tmp rfl r_nil) ⟨20,?_,rfl⟩
  rw [←hll];rfl
theorem cnumeral_at (B R:List UInt8) (u:BitVec 64) (m:Nat) (hB:B.length≤100000000) (hm:m=B.length) (hR:B++numL u.toNat=R):ConS Tryz.prog 169 [.sl 128 1 0 m,w64 u] ⟨[(128,some (B.map u8))]⟩ (RetO 1 R.length (R.map u8)):=by
  subst hm;subst hR
  exact cnumeral_ok B u hB
theorem cunsigned_ok (n:Int) (h0: -9223372036854775808≤n) (h1:n≤9223372036854775807):Con Tryz.prog 170 [.i .i64 n] (Ret (w64 (c64 (unsI n)))):=by
 refine enter Tryz.func170 rfl Tryz.ntmps170 (by kernel_rfl) (Nat.le_of_ble_eq_true rfl) fun w0 X0 hI=>?_
 refine at_seq<|at_region<|s1 ((y_p rfl).v (v':= .i .u64 0) rfl) rfl ?_
 refine at_nil<|x_tn<|at_seq<|at_region<|s1 (y_p rfl) rfl<|s1 ((y_conv Tryz.underlying3 Tryz.underlying198 rfl).v (v':=w64 (BitVec.ofInt 64 n)) (congrArg (A.i .u64) (uns_conv n))) rfl<|s1 (shl64 _ 1 rfl rfl rfl (by decide)) rfl<|s1 (y_p rfl) rfl<|s1 ((y_shr rfl rfl (by decide)).v (v':= .i .i64 (if 0≤n then 0 else -1)) (congrArg (A.i .i64) (uns_shr h0 h1))) rfl<|s1 ((y_conv Tryz.underlying3 Tryz.underlying198 rfl).v (v':=w64 (if 0≤n then 0 else BitVec.allOnes 64)) (congrArg (A.i .u64) (uns_conv2 n))) rfl<|s1 ((xor64 _ _ rfl rfl).v (v':=w64 (c64 (unsI n))) (congrArg w64 (uns_xor h0 h1))) rfl<|s1 (y_p rfl) rfl ?_
 refine at_nil<|x_tn<|at_ret ?_
 refine at_result (rs:= [.tmp 2]) rfl (r_tmp rfl r_nil) ?_
 rfl
theorem cformed_step (k n:Int) (s:List UInt8) (l:List CV) (hl:CV.sizeL l<1000000) (ih:∀v∈l,Con Tryz.prog 166 [.ag v.cells] (Ret (.b v.okB))):Con Tryz.prog 166 [.ag [.i .i64 k,.i .i64 n,.s s,.fz l.length (CV.cellsL l)]] (Ret (.b (CV.okB (.mk k n s l)))):=by
 refine enter Tryz.func166 rfl Tryz.ntmps166 (by kernel_rfl) (Nat.le_of_ble_eq_true rfl) fun w0 X0 hI=>?_
 refine at_seq<|at_region ?_
 refine at_op rfl (n_boxA 1 rfl rfl rfl ?_)
 refine s1 (y_p rfl) rfl ?_
 refine at_nil<|x_tn<|at_seq<|at_seq ?_
 have hll:=CV.len_sizeL l
 refine at_region<|s1 (y_fld Tryz.underlying109 rfl ti3 (by decide) rfl rfl) rfl<|s1 (y_load ti3 rfl rfl rfl) rfl ?_
 refine at_nil<|x_tn<|at_block<|at_seq<|at_region<|s1 (y_p rfl) rfl<|s1 (y_p rfl) rfl ?_
 refine at_nil<|x_tn ?_
 refine at_cond rfl (fun hc7=>?_) (fun hc7=>?_)
 ·have hk1 : k = 1 := by simpa using hc7
  refine at_seq<|at_region<|s1 (y_fld Tryz.underlying109 rfl ti9 (by decide) rfl rfl) rfl<|s1 (y_load ti9 rfl rfl rfl) rfl<|s1 ((y_p rfl).v (v':= .b s.isEmpty) (congrArg A.b (by cases s<;>rfl))) rfl<|s1 (y_p rfl) rfl ?_
  refine g_and 4 rfl rfl rfl rfl (fun hb12=> .step (y_fld Tryz.underlying109 rfl ti107 (by decide) rfl rfl) rfl rfl<| .step (y_load ti107 rfl rfl rfl) rfl rfl<| .step (y_len Tryz.underlying107 rfl rfl rfl) rfl rfl<| .step (y_p rfl) rfl rfl<| .done) rfl rfl ?_
  refine s1 (y_p rfl) rfl ?_
  refine at_nil<|x_tn<|at_ret<|x_br<|x_tr ?_
  refine at_result (rs:= [.tmp 2]) rfl (r_tmp rfl r_nil) ?_
  exact congrArg A.b (okV_1 hk1)
 ·have hk1 : ¬ k = 1 := by simpa using hc7
  refine at_seq<|at_region<|s1 (y_p rfl) rfl<|s1 (y_p rfl) rfl ?_
  refine at_nil<|x_tn ?_
  refine at_cond rfl (fun hc18=>?_) (fun hc18=>?_)
  ·have hk2 : k = 2 := by simpa using hc18
   refine at_seq<|at_region<|s1 (y_fld Tryz.underlying109 rfl ti3 (by decide) rfl rfl) rfl<|s1 (y_load ti3 rfl rfl rfl) rfl<|s1 (y_p rfl) rfl<|s1 (y_p rfl) rfl ?_
   refine g_and 4 rfl rfl rfl rfl (fun hb23=> .step (y_fld Tryz.underlying109 rfl ti107 (by decide) rfl rfl) rfl rfl<| .step (y_load ti107 rfl rfl rfl) rfl rfl<| .step (y_len Tryz.underlying107 rfl rfl rfl) rfl rfl<| .step (y_p rfl) rfl rfl<| .done) rfl rfl ?_
   refine s1 (y_p rfl) rfl ?_
   refine at_nil<|x_tn<|at_ret<|x_br<|x_tr ?_
   refine at_result (rs:= [.tmp 2]) rfl (r_tmp rfl r_nil) ?_
   exact congrArg A.b (okV_2 hk2)
  ·have hk2 : ¬ k = 2 := by simpa using hc18
   refine at_seq<|at_region<|s1 (y_p rfl) rfl<|s1 (y_p rfl) rfl ?_
   refine at_nil<|x_tn ?_
   refine at_cond rfl (fun hc29=>?_) (fun hc29=>?_)
   ·have hk3 : k = 3 := by simpa using hc29
    refine at_seq<|at_seq<|at_region<|s1 (y_fld Tryz.underlying109 rfl ti3 (by decide) rfl rfl) rfl<|s1 (y_load ti3 rfl rfl rfl) rfl<|s1 (y_p rfl) rfl<|s1 (y_p rfl) rfl ?_
    refine g_or 3 rfl rfl rfl rfl (fun hb34=> .step (y_fld Tryz.underlying109 rfl ti9 (by decide) rfl rfl) rfl rfl<| .step (y_load ti9 rfl rfl rfl) rfl rfl<| .step ((y_p rfl).v (v':= .b (!s.isEmpty)) (congrArg A.b (by cases s<;>rfl))) rfl rfl<| .done) rfl rfl ?_
    refine at_nil<|x_tn ?_
    refine at_cond rfl (fun hc38=>?_) (fun hc38=>?_)
    ·skip
     refine at_seq<|at_region<|s1 (y_p rfl) rfl ?_
     refine at_nil<|x_tn<|at_ret<|x_tr<|x_br<|x_tr ?_
     refine at_result (rs:= [.tmp 2]) rfl (r_tmp rfl r_nil) ?_
     exact congrArg A.b (okV_3n hk3 hc38)
    ·skip
     refine at_skip<|x_tn<|at_seq<|at_seq<|at_region<|s1 (y_fld Tryz.underlying109 rfl ti107 (by decide) rfl rfl) rfl<|s1 (y_load ti107 rfl rfl rfl) rfl<|s1 (y_len Tryz.underlying107 rfl rfl rfl) rfl<|s1 ((y_p rfl).v (v':= .i .i64 0) rfl) rfl ?_
     refine at_nil<|x_tn<|at_block ?_
     refine at_loop (ι:=Nat) (fun i=> [(40,.fz l.length (CV.cellsL l)),(41,nJ l.length),(42,nJ i)]) (fun i=>⟨[]⟩) (fun i=>i≤l.length∧(l.take i).all CV.okB=true) (fun i=>l.length - i) ?_ ?_
     ·exact at_ex (0) (⟨Nat.zero_le _,rfl⟩) [] hI rfl rfl ⟨⟨_,rfl,.pure pu⟩,⟨_,rfl,.pure pu⟩,⟨_,rfl,.pure pu⟩,trivial⟩ trivial
     rintro i ⟨hi,hi2⟩
     refine at_seq<|at_region<|s1 (y_p rfl) rfl ?_
     refine at_nil<|x_tn<|at_seq ?_
     refine at_cond rfl (fun hc43=>?_) (fun hc43=>?_)
     ·have h43 : i < l.length := by have := of_decide_eq_true hc43; omega
      obtain⟨v,hv⟩:∃v,l[i]? =some v:=⟨_,List.getElem?_eq_getElem h43⟩
      have hvm:=List.mem_of_getElem? hv
      refine at_skip<|x_tn<|at_seq<|at_block<|at_seq<|at_region<|s1 (y_ixf i Tryz.underlying107 ti109 rfl rfl rfl (by omega) rfl) rfl<|s1 (y_loadA ti109 rfl rfl (CV.get hv) (CV.len_cells v)) rfl ?_
      refine at_op rfl (n_alloc 4 rfl ti109 rfl rfl ?_)
      refine at_op rfl (n_storeA ti109 rfl rfl rfl (CV.len_cells v) (by first|rfl|omega|(simp<;>omega)|(simp [*]<;>omega)) ?_)
      refine at_nil<|x_tn<|at_seq<|at_region<|s1 (y_loadA0 ti109 rfl rfl (CV.len_cells v)) rfl ?_
      refine at_op rfl (n_call false rfl (.cons (.pure pu) (.nil)) (ih v hvm) pu (.inl rfl) rfl ?_)
      refine s1 (y_p rfl) rfl ?_
      refine at_nil<|x_tn ?_
      refine at_cond rfl (fun hc48=>?_) (fun hc48=>?_)
      ·have h48 : v.okB = false := by simpa using hc48
       refine at_seq<|at_region<|s1 (y_p rfl) rfl ?_
       refine at_nil<|x_tn<|at_ret<|x_br<|x_tr<|x_tr<|x_br<|x_tr<|x_br<|x_tr ?_
       refine at_result (rs:= [.tmp 2]) rfl (r_tmp rfl r_nil) ?_
       exact congrArg A.b (okV_3f hk3 hv h48)
      ·have h48 : v.okB = true := by simpa using hc48
       refine at_skip<|x_bn<|x_tn<|at_region<|s1 (addN _ 1 rfl rfl rfl rfl (by omega)) rfl<|s1 (y_p rfl) rfl ?_
       refine at_nil ?_
       exact at_end (i+1) (⟨by omega,all_nextV hv hi2 h48⟩) (by omega) [] hI rfl rfl ⟨⟨_,rfl,.pure pu⟩,⟨_,rfl,.pure pu⟩,⟨_,rfl,.pure pu⟩,trivial⟩ trivial
     ·obtain rfl : i = l.length := by have := of_decide_eq_false hc43; omega
      refine at_exit<|x_te<|x_te<|x_be<|x_tn<|at_seq<|at_region<|s1 (y_p rfl) rfl ?_
      refine at_nil<|x_tn<|at_ret<|x_br<|x_tr ?_
      refine at_result (rs:= [.tmp 2]) rfl (r_tmp rfl r_nil) ?_
      exact congrArg A.b (okV_3 hk3 hc38 hi2)
   ·have hk3 : ¬ k = 3 := by simpa using hc29
    refine at_skip<|x_bn<|x_tn<|at_seq<|at_region<|s1 (y_p rfl) rfl ?_
    refine at_nil<|x_tn<|at_ret ?_
    refine at_result (rs:= [.tmp 2]) rfl (r_tmp rfl r_nil) ?_
    exact congrArg A.b (okV_0 hk1 hk2 hk3)
theorem cformed_ok (v:CV) (h:v.size≤1000000):Con Tryz.prog 166 [.ag v.cells] (Ret (.b v.okB)):=CV.rec_size (p:=fun v=>Con Tryz.prog 166 [.ag v.cells] (Ret (.b v.okB))) 1000000 (fun k n s l hl ih=>cformed_step k n s l hl ih) v h
theorem cdepth_step (k n:Int) (s:List UInt8) (l:List CV) (hl:CV.sizeL l<1000000) (ih:∀v∈l,Con Tryz.prog 167 [.ag v.cells] (Ret (nJ v.depth))):Con Tryz.prog 167 [.ag [.i .i64 k,.i .i64 n,.s s,.fz l.length (CV.cellsL l)]] (Ret (nJ (CV.depth (.mk k n s l)))):=by
 refine enter Tryz.func167 rfl Tryz.ntmps167 (by kernel_rfl) (Nat.le_of_ble_eq_true rfl) fun w0 X0 hI=>?_
 refine at_seq<|at_region ?_
 refine at_op rfl (n_boxA 1 rfl rfl rfl ?_)
 refine s1 ((y_p rfl).v (v':= .i .i64 0) rfl) rfl ?_
 refine at_nil<|x_tn<|at_seq<|at_seq ?_
 have hll:=CV.len_sizeL l
 have hdl:=CV.depthL_size l
 refine at_region<|s1 (y_fld Tryz.underlying109 rfl ti3 (by decide) rfl rfl) rfl<|s1 (y_load ti3 rfl rfl rfl) rfl<|s1 (y_p rfl) rfl ?_
 refine at_nil<|x_tn ?_
 refine at_cond rfl (fun hc8=>?_) (fun hc8=>?_)
 ·have hk3 : ¬ k = 3 := by simpa using hc8
  refine at_seq<|at_region<|s1 ((y_p rfl).v (v':= .i .i64 0) rfl) rfl ?_
  refine at_nil<|x_tn<|at_ret<|x_tr ?_
  refine at_result (rs:= [.tmp 2]) rfl (r_tmp rfl r_nil) ?_
  exact congrArg nJ (show 0=CV.depth (.mk k n s l) by rw [CV.depth,if_neg hk3])
 ·have hk3 : k = 3 := by simpa using hc8
  refine at_skip<|x_tn<|at_seq<|at_region<|s1 ((y_p rfl).v (v':= .i .i64 0) rfl) rfl ?_
  refine at_nil<|x_tn<|at_seq<|at_seq<|at_region<|s1 (y_fld Tryz.underlying109 rfl ti107 (by decide) rfl rfl) rfl<|s1 (y_load ti107 rfl rfl rfl) rfl<|s1 (y_len Tryz.underlying107 rfl rfl rfl) rfl<|s1 ((y_p rfl).v (v':= .i .i64 0) rfl) rfl ?_
  refine at_nil<|x_tn<|at_block ?_
  refine at_loop (ι:=Nat) (fun i=> [(3,nJ (CV.depthL (l.take i))),(10,.fz l.length (CV.cellsL l)),(11,nJ l.length),(12,nJ i)]) (fun i=>⟨[]⟩) (fun i=>i≤l.length) (fun i=>l.length - i) ?_ ?_
  ·exact at_ex (0) (Nat.zero_le _) [] hI rfl rfl ⟨⟨_,rfl,.pure pu⟩,⟨_,rfl,.pure pu⟩,⟨_,rfl,.pure pu⟩,⟨_,rfl,.pure pu⟩,trivial⟩ trivial
  rintro i hi
  refine at_seq<|at_region<|s1 (y_p rfl) rfl ?_
  refine at_nil<|x_tn<|at_seq ?_
  refine at_cond rfl (fun hc13=>?_) (fun hc13=>?_)
  ·have h43 : i < l.length := by have := of_decide_eq_true hc13; omega
   obtain⟨v,hv⟩:∃v,l[i]? =some v:=⟨_,List.getElem?_eq_getElem h43⟩
   have hvm:=List.mem_of_getElem? hv
   refine at_skip<|x_tn<|at_seq<|at_block<|at_seq<|at_region<|s1 (y_ixf i Tryz.underlying107 ti109 rfl rfl rfl (by omega) rfl) rfl<|s1 (y_loadA ti109 rfl rfl (CV.get hv) (CV.len_cells v)) rfl ?_
   refine at_op rfl (n_alloc 5 rfl ti109 rfl rfl ?_)
   refine at_op rfl (n_storeA ti109 rfl rfl rfl (CV.len_cells v) (by first|rfl|omega|(simp<;>omega)|(simp [*]<;>omega)) ?_)
   refine at_nil<|x_tn<|at_region<|s1 (y_p rfl) rfl<|s1 (y_loadA0 ti109 rfl rfl (CV.len_cells v)) rfl ?_
   refine at_op rfl (n_call false rfl (.cons (.pure pu) (.nil)) (ih v hvm) pu (.inl rfl) rfl ?_)
   refine s1 ((y_maxN (a:=CV.depthL (l.take i)) (b:=v.depth) rfl rfl rfl).v (v':=nJ (CV.depthL (l.take (i+1)))) (congrArg nJ (CV.depthL_next hv))) rfl<|s1 (y_p rfl) rfl ?_
   refine at_nil<|x_bn<|x_tn<|at_region<|s1 (addN _ 1 rfl rfl rfl rfl (by omega)) rfl<|s1 (y_p rfl) rfl ?_
   refine at_nil ?_
   exact at_end (i+1) (by omega) (by omega) [] hI rfl rfl ⟨⟨_,rfl,.pure pu⟩,⟨_,rfl,.pure pu⟩,⟨_,rfl,.pure pu⟩,⟨_,rfl,.pure pu⟩,trivial⟩ trivial
  ·obtain rfl : i = l.length := by have := of_decide_eq_false hc13; omega
   refine at_exit<|x_te<|x_te<|x_be<|x_tn<|at_seq<|at_region<|s1 ((y_p rfl).v (v':=nJ (CV.depthL l)) (by rw [List.take_length])) rfl<|s1 (addN _ 1 rfl rfl rfl rfl (by omega)) rfl<|s1 (y_p rfl) rfl ?_
   refine at_nil<|x_tn<|at_ret ?_
   refine at_result (rs:= [.tmp 2]) rfl (r_tmp rfl r_nil) ?_
   exact congrArg nJ (show CV.depthL l+1=CV.depth (.mk k n s l) by rw [CV.depth,if_pos hk3])
theorem cdepth_ok (v:CV) (h:v.size≤1000000):Con Tryz.prog 167 [.ag v.cells] (Ret (nJ v.depth)):=CV.rec_size (p:=fun v=>Con Tryz.prog 167 [.ag v.cells] (Ret (nJ v.depth))) 1000000 (fun k n s l hl ih=>cdepth_step k n s l hl ih) v h
theorem ccheckV_ok (v:CV) (h:v.size≤1000000):Con Tryz.prog 115 [.ag v.cells] (Ret (.i .i64 (chkV v))):=by
 refine enter Tryz.func115 rfl Tryz.ntmps115 (by kernel_rfl) (Nat.le_of_ble_eq_true rfl) fun w0 X0 hI=>?_
 refine at_seq<|at_region ?_
 refine at_op rfl (n_boxA 1 rfl rfl rfl ?_)
 refine s1 ((y_p rfl).v (v':= .i .i64 0) rfl) rfl ?_
 refine at_nil<|x_tn<|at_seq<|at_seq<|at_region<|s1 (y_loadA0 ti109 rfl rfl (CV.len_cells v)) rfl ?_
 refine at_op rfl (n_call false rfl (.cons (.pure pu) (.nil)) (cformed_ok v h) pu (.inl rfl) rfl ?_)
 refine s1 (y_p rfl) rfl ?_
 refine at_nil<|x_tn ?_
 refine at_cond rfl (fun hc5=>?_) (fun hc5=>?_)
 ·have h5 : v.okB = false := by simpa using hc5
  refine at_seq<|at_region<|s1 ((y_p rfl).v (v':= .i .i64 1) rfl) rfl ?_
  refine at_nil<|x_tn<|at_ret<|x_tr ?_
  refine at_result (rs:= [.tmp 2]) rfl (r_tmp rfl r_nil) ?_
  exact congrArg (A.i .i64) (chkV_1 h5).symm
 ·have h5 : v.okB = true := by simpa using hc5
  refine at_skip<|x_tn<|at_seq<|at_seq<|at_region<|s1 (y_loadA0 ti109 rfl rfl (CV.len_cells v)) rfl ?_
  refine at_op rfl (n_call false rfl (.cons (.pure pu) (.nil)) (cdepth_ok v h) pu (.inl rfl) rfl ?_)
  refine s1 (y_p rfl) rfl ?_
  refine at_nil<|x_tn ?_
  refine at_cond rfl (fun hc8=>?_) (fun hc8=>?_)
  ·have h8 : 16 < v.depth := by have := of_decide_eq_true hc8; omega
   refine at_seq<|at_region<|s1 ((y_p rfl).v (v':= .i .i64 2) rfl) rfl ?_
   refine at_nil<|x_tn<|at_ret<|x_tr ?_
   refine at_result (rs:= [.tmp 2]) rfl (r_tmp rfl r_nil) ?_
   exact congrArg (A.i .i64) (chkV_2 h5 h8).symm
  ·have h8 : ¬ 16 < v.depth := by have := of_decide_eq_false hc8; omega
   refine at_skip<|x_tn<|at_seq<|at_region<|s1 ((y_p rfl).v (v':= .i .i64 0) rfl) rfl ?_
   refine at_nil<|x_tn<|at_ret ?_
   refine at_result (rs:= [.tmp 2]) rfl (r_tmp rfl r_nil) ?_
   exact congrArg (A.i .i64) (chkV_0 h5 h8).symm
end Go.Abs.D2
-- C1C
namespace Go.Abs.D2
open Go Go.Eng Go.Abs Go.Proofs
def wTab (i:Nat):List A:= [.raw .nilFunc,.fn (.func 168) [] [],.fn (.func 171) [] [],.fn (.func 172) [] [.p i 0]]
theorem dep_wTab:DepL wTab:=depL_cons (dep_flat trivial) (depL_cons (dep_flat ⟨trivial,trivial⟩) (depL_cons (dep_flat ⟨trivial,trivial⟩) (depL_cons dep_fn depL_nil)))
theorem cw1_ok (B R:List UInt8) (n:Int) (s:List UInt8) (l:List CV) (h0: -9223372036854775808≤n) (h1:n≤9223372036854775807) (hR:B++1::numL (unsI n)=R) (hl:R.length≤100000000):ConS Tryz.prog 168 [.sl 131 1 0 B.length,.ag [.i .i64 1,.i .i64 n,.s s,.fz l.length (CV.cellsL l)]] ⟨[(131,some (B.map u8))]⟩ (RetOS 1 R.length (R.map u8) []):=by
 refine enterK [] pul no_in no_get onlyT_nil Tryz.func168 rfl Tryz.ntmps168 (by kernel_rfl) (Nat.le_of_ble_eq_true rfl) fun w0 X0 hI=>?_
 refine at_seq<|at_region ?_
 refine at_op rfl (n_boxA 3 rfl rfl rfl ?_)
 refine s1 (y_p rfl) rfl ?_
 refine at_nil<|x_tn<|at_seq ?_
 have hlen:B.length+1≤100000000:=by rw [←hR]at hl;simp at hl;omega
 refine at_fs ⟨_, [], []⟩ 7 4 hmix (le_refl rfl) ?_
 refine fs_q 0 [] [(131,none)] (y_p rfl) rfl rfl ?_
 refine fs_bs1 6 1 [] gy0 Tryz.underlying68 ti5 rfl rfl rfl rfl rfl rfl ?_
 refine fs_app 128 2 [0,1] [(6,some 1),(131,none)] gy0 Tryz.underlying68 ti5 rfl (.sl rfl (by simp)) rfl (SM_full rfl (by first|rfl|omega|(simp<;>omega)|(simp [*]<;>omega))) (by simp) (by simp only [maxLen];omega) (by omega) rfl (app_one B 1) rfl rfl ?_
 refine fs_q 3 [] [(3,none)] (y_fld Tryz.underlying109 rfl ti3 (by decide) rfl rfl) rfl rfl ?_
 refine fs_q 4 [3] [(3,none)] (y_load ti3 rfl rfl rfl) rfl rfl ?_
 refine fs_call false 5 [4] [] gy0 rfl (.cons (.pure pu) (.nil)) (cunsigned_ok n h0 h1) pu (.inl rfl) rfl rfl ?_
 refine fs_callHO 11 ⟨[(128,some ((B++ [1]).map u8))]⟩ true 6 [2,5] [(128,some 2)] gy0 rfl ⟨⟨rfl,VwL.pure pul⟩,trivial⟩ (.cons (.ksl rfl) (.cons (.pure pu) .nil)) (cnumeral_at (B++ [1]) (R) (c64 (unsI n)) (B.length+1) (by simp;omega) (by simp) (by rw [c64_nat (uns_nat h0 h1), ←hR];simp)) pul (.inr ful) rfl rfl ?_
 refine fs_end (by kernel_rfl) ?_
 refine s1 (y_p rfl) rfl ?_
 refine at_nil<|x_tn<|at_ret ?_
 refine at_result (rs:= [.tmp 4]) rfl (r_tmp rfl r_nil) (retOS_nil rfl)
theorem cw2_ok (B R:List UInt8) (n:Int) (s:List UInt8) (l:List CV) (hR:B++2::(numL s.length++s)=R) (hl:R.length≤100000000):ConS Tryz.prog 171 [.sl 131 1 0 B.length,.ag [.i .i64 2,.i .i64 n,.s s,.fz l.length (CV.cellsL l)]] ⟨[(131,some (B.map u8))]⟩ (RetOS 1 R.length (R.map u8) []):=by
 refine enterK [] pul no_in no_get onlyT_nil Tryz.func171 rfl Tryz.ntmps171 (by kernel_rfl) (Nat.le_of_ble_eq_true rfl) fun w0 X0 hI=>?_
 refine at_seq<|at_region ?_
 refine at_op rfl (n_boxA 3 rfl rfl rfl ?_)
 refine s1 (y_p rfl) rfl ?_
 refine at_nil<|x_tn<|at_seq ?_
 have hlen:B.length+1+s.length≤100000000:=by rw [←hR]at hl;simp at hl;omega
 have hlen2:(B++2::numL s.length).length+s.length=R.length:=by rw [←hR];simp;omega
 refine at_fs ⟨_, [], []⟩ 11 4 hmix (le_refl rfl) ?_
 refine fs_q 0 [] [(131,none)] (y_p rfl) rfl rfl ?_
 refine fs_bs1 6 1 [] gy0 Tryz.underlying68 ti5 rfl rfl rfl rfl rfl rfl ?_
 refine fs_app 128 2 [0,1] [(6,some 1),(131,none)] gy0 Tryz.underlying68 ti5 rfl (.sl rfl (by simp)) rfl (SM_full rfl (by first|rfl|omega|(simp<;>omega)|(simp [*]<;>omega))) (by simp) (by simp only [maxLen];omega) (by omega) rfl (app_one B 2) rfl rfl ?_
 refine fs_q 3 [] [(3,none)] (y_fld Tryz.underlying109 rfl ti9 (by decide) rfl rfl) rfl rfl ?_
 refine fs_q 4 [3] [(3,none)] (y_load ti9 rfl rfl rfl) rfl rfl ?_
 refine fs_q 5 [4] [] (y_lens Tryz.underlying9 rfl rfl) rfl rfl ?_
 refine fs_q 6 [5] [] (ofN_64 _ Tryz.underlying3 Tryz.underlying198 rfl rfl) rfl rfl ?_
 refine fs_callHO 12 ⟨[(128,some ((B++ [2]).map u8))]⟩ true 7 [2,6] [(128,some 2)] gy0 rfl ⟨⟨rfl,VwL.pure pul⟩,trivial⟩ (.cons (.ksl rfl) (.cons (.pure pu) .nil)) (cnumeral_at (B++ [2]) (B++2::numL s.length) (c64 s.length) (B.length+1) (by simp;omega) (by simp) (by rw [c64_nat (by omega)];simp)) pul (.inr ful) rfl rfl ?_
 refine fs_q 8 [] [(3,none)] (y_fld Tryz.underlying109 rfl ti9 (by decide) rfl rfl) rfl rfl ?_
 refine fs_q 9 [8] [(3,none)] (y_load ti9 rfl rfl rfl) rfl rfl ?_
 refine fs_apps 15 10 [7,9] [(12,some 7)] gy0 Tryz.underlying68 Tryz.underlying9 ti5 rfl rfl (by simp) (by simp;omega) rfl (by simp only [maxLen];omega) (by omega) (app_str _ _ R (by rw [←hR];simp)) rfl rfl ?_
 refine fs_end (by kernel_rfl) ?_
 refine s1 (y_p rfl) rfl ?_
 refine at_nil<|x_tn<|at_ret ?_
 refine at_result (rs:= [.tmp 4]) rfl (r_tmp rfl r_nil) ?_
 rw [←hlen2]
 exact retOS_nil rfl
theorem wTab_upd {s0:St} {ow:Bool} {T:Nat} {cs:List A} (h:s0.get T=some cs):∀p∈ [(T,wTab T)],(∃cs,s0.get p.1=some cs)∧KpL s0 ow p.2:=fun p hp=>by
  rw [List.mem_singleton.1 hp]
  exact⟨⟨_,h⟩,.inl ⟨trivial,.inr trivial⟩,.inl ⟨⟨trivial,trivial⟩,.inr ⟨trivial,trivial⟩⟩,.inl ⟨⟨trivial,trivial⟩,.inr ⟨trivial,trivial⟩⟩,Kp_fn h,trivial⟩
theorem cw3_step (n:Int) (s:List UInt8) (l:List CV) (ih:∀v∈l,∀(n:Int) (s:List UInt8) (q:List CV),v= .mk 3 n s q→CV.okBL q=true→CV.rngL q=true→∀B R:List UInt8,B++3::(numL q.length++CV.encL q)=R→R.length≤100000000→ConS Tryz.prog 172 [.sl 131 1 0 B.length,.ag [.i .i64 3,.i .i64 n,.s s,.fz q.length (CV.cellsL q)],.p 11 0] ⟨[(131,some (B.map u8)),(11,some (wTab 11))]⟩ (RetOS 1 R.length (R.map u8) [(11,wTab 11)])) (hok:CV.okBL l=true) (hrg:CV.rngL l=true) (B R:List UInt8) (hR:B++3::(numL l.length++CV.encL l)=R) (hl:R.length≤100000000):ConS Tryz.prog 172 [.sl 131 1 0 B.length,.ag [.i .i64 3,.i .i64 n,.s s,.fz l.length (CV.cellsL l)],.p 11 0] ⟨[(131,some (B.map u8)),(11,some (wTab 11))]⟩ (RetOS 1 R.length (R.map u8) [(11,wTab 11)]):=by
 refine enterK [11] pul one_in (one_get rfl) (onlyT_of dep_wTab) Tryz.func172 rfl Tryz.ntmps172 (by kernel_rfl) (Nat.le_of_ble_eq_true rfl) fun w0 X0 hI=>?_
 refine at_seq<|at_region ?_
 refine at_op rfl (n_boxA 4 rfl rfl rfl ?_)
 refine s1 (y_p rfl) rfl ?_
 refine at_nil<|x_tn<|at_seq ?_
 have hnl:=CV.len_encL l
 have hRl:R.length=B.length+1+(numL l.length).length+(CV.encL l).length:=by rw [←hR];simp;omega
 rw [CV.okBL_all]at hok
 rw [CV.rngL_all]at hrg
 refine at_fs ⟨_, [], []⟩ 8 4 hmix (le_refl rfl) ?_
 refine fs_q 0 [] [(131,none)] (y_p rfl) rfl rfl ?_
 refine fs_bs1 9 1 [] gy0 Tryz.underlying68 ti5 rfl rfl rfl rfl rfl rfl ?_
 refine fs_app 128 2 [0,1] [(9,some 1),(131,none)] gy0 Tryz.underlying68 ti5 rfl (.sl rfl (by simp)) rfl (SM_full rfl (by first|rfl|omega|(simp<;>omega)|(simp [*]<;>omega))) (by simp) (by simp only [maxLen];omega) (by omega) rfl (app_one B 3) rfl rfl ?_
 refine fs_q 3 [] [(4,none)] (y_fld Tryz.underlying109 rfl ti107 (by decide) rfl rfl) rfl rfl ?_
 refine fs_q 4 [3] [(4,none)] (y_load ti107 rfl rfl rfl) rfl rfl ?_
 refine fs_q 5 [4] [] (y_len Tryz.underlying107 rfl rfl rfl) rfl rfl ?_
 refine fs_q 6 [5] [] (ofN_64 _ Tryz.underlying3 Tryz.underlying198 rfl rfl) rfl rfl ?_
 refine fs_callHO 15 ⟨[(128,some ((B++ [3]).map u8))]⟩ true 7 [2,6] [(128,some 2)] gy0 rfl ⟨⟨rfl,VwL.pure pul⟩,trivial⟩ (.cons (.ksl rfl) (.cons (.pure pu) .nil)) (cnumeral_at (B++ [3]) (B++3::(numL l.length++CV.encL (l.take 0))) (c64 l.length) (B.length+1) (by simp;omega) (by simp) (by rw [c64_nat (by omega)];simp [CV.encL])) pul (.inr ful) rfl rfl ?_
 refine fs_end (by kernel_rfl) ?_
 refine s1 (y_p rfl) rfl ?_
 refine at_nil<|x_tn<|at_seq<|at_seq<|at_region<|s1 (y_fld Tryz.underlying109 rfl ti107 (by decide) rfl rfl) rfl<|s1 (y_load ti107 rfl rfl rfl) rfl<|s1 (y_len Tryz.underlying107 rfl rfl rfl) rfl<|s1 ((y_p rfl).v (v':= .i .i64 0) rfl) rfl ?_
 refine at_nil<|x_tn<|at_block ?_
 refine at_loop (ι:=Nat) (fun i=> [(0,.sl 131 1 0 (B++3::(numL l.length++CV.encL (l.take i))).length),(2,.p 11 0),(17,.fz l.length (CV.cellsL l)),(18,nJ l.length),(19,nJ i)]) (fun i=>⟨[(131,some ((B++3::(numL l.length++CV.encL (l.take i))).map u8)),(11,some (wTab 11))]⟩) (fun i=>i≤l.length) (fun i=>l.length - i) ?_ ?_
 ·exact at_ex (0) (Nat.zero_le _) [(11,some 11),(131,some 15)] hI rfl rfl ⟨⟨_,rfl,.sl rfl (by first|rfl|omega|(simp<;>omega)|(simp [*]<;>omega))⟩,⟨_,rfl,.p rfl⟩,⟨_,rfl,.pure pu⟩,⟨_,rfl,.pure pu⟩,⟨_,rfl,.pure pu⟩,trivial⟩ ⟨.inr ⟨_,_,rfl,rfl,.pure pul⟩,.inr ⟨_,_,rfl,rfl,.cons (.pure trivial) (.cons (.pure pu) (.cons (.pure pu) (.cons (.fn .nil (.cons (.p rfl) .nil)) .nil)))⟩,trivial⟩
 rintro i hi
 have hli:=CV.encL_take l i
 have hli2:=CV.encL_take l (i+1)
 have hCl:(B++3::(numL l.length++CV.encL (l.take i))).length=B.length+1+(numL l.length).length+(CV.encL (l.take i)).length:=by simp;omega
 have hCl2:(B++3::(numL l.length++CV.encL (l.take (i+1)))).length=B.length+1+(numL l.length).length+(CV.encL (l.take (i+1))).length:=by simp;omega
 refine at_seq<|at_region<|s1 (y_p rfl) rfl ?_
 refine at_nil<|x_tn<|at_seq ?_
 refine at_cond rfl (fun hc20=>?_) (fun hc20=>?_)
 ·have h20 : i < l.length := by have := of_decide_eq_true hc20; omega
  obtain⟨⟨k2,n2,s2,q2⟩,hv⟩:∃v,l[i]? =some v:=⟨_,List.getElem?_eq_getElem h20⟩
  have hvm:=List.mem_of_getElem? hv
  have hvo:=List.all_eq_true.1 hok _ hvm
  have hvr:=List.all_eq_true.1 hrg _ hvm
  simp only [CV.rng,Bool.and_eq_true,decide_eq_true_eq]at hvr
  refine at_skip<|x_tn<|at_seq<|at_block<|at_seq<|at_region<|s1 (y_ixf i Tryz.underlying107 ti109 rfl rfl rfl (by omega) rfl) rfl<|s1 (y_loadA ti109 rfl rfl (CV.get4 hv) rfl) rfl ?_
  refine at_op rfl (n_alloc 7 rfl ti109 rfl rfl ?_)
  refine at_op rfl (n_storeA ti109 rfl rfl rfl (by first|rfl|omega|(simp<;>omega)|(simp [*]<;>omega)) (by first|rfl|omega|(simp<;>omega)|(simp [*]<;>omega)) ?_)
  refine at_nil<|x_tn ?_
  rcases okV_kind hvo with hcs|hcs|hcs
  ·subst hcs
   refine at_fs ⟨_, [], []⟩ 7 4 hmix (le_refl rfl) ?_
   refine fs_q 0 [] [(7,none)] (y_fld Tryz.underlying109 rfl ti3 (by decide) rfl rfl) rfl rfl ?_
   refine fs_q 1 [0] [(7,none)] (y_load ti3 rfl rfl rfl) rfl rfl ?_
   refine fs_q 2 [1] [(11,none)] (y_ixa 1 Tryz.underlying158 ti157 rfl rfl rfl (by decide) rfl) rfl rfl ?_
   refine fs_q 3 [2] [(11,none)] (y_load ti157 rfl rfl rfl) rfl rfl ?_
   refine fs_q 4 [] [(131,none)] (y_p rfl) rfl rfl ?_
   refine fs_q 5 [] [(7,none)] (y_loadA0 ti109 rfl rfl (by first|rfl|omega|(simp<;>omega)|(simp [*]<;>omega))) rfl rfl ?_
   refine fs_callHK 29 ⟨[(131,some ((B++3::(numL l.length++CV.encL (l.take i))).map u8))]⟩ [] true 6 [3,4,5] [(131,none)] gy0 rfl rfl rfl ⟨⟨rfl,VwL.pure pul⟩,trivial⟩ (.cons (.ksl rfl) (.cons (.pure pu) .nil)) (cw1_ok _ (B++3::(numL l.length++CV.encL (l.take (i+1)))) n2 s2 q2 hvr.1.1 hvr.1.2 (by rw [←CV.encL_next hv];simp [CV.enc]) (by omega)) pul (.inr ful) no_upd rfl rfl ?_
   refine fs_end (by kernel_rfl) ?_
   refine s1 (y_p rfl) rfl ?_
   refine at_nil<|x_bn<|x_tn<|at_region<|s1 (addN _ 1 rfl rfl rfl rfl (by omega)) rfl<|s1 (y_p rfl) rfl ?_
   refine at_nil ?_
   exact at_end (i+1) (by omega) (by omega) [(11,some 11),(131,some 29)] hI rfl rfl ⟨⟨_,rfl,.sl rfl (by first|rfl|omega|(simp<;>omega)|(simp [*]<;>omega))⟩,⟨_,rfl,.p rfl⟩,⟨_,rfl,.pure pu⟩,⟨_,rfl,.pure pu⟩,⟨_,rfl,.pure pu⟩,trivial⟩ ⟨.inr ⟨_,_,rfl,rfl,.pure pul⟩,.inr ⟨_,_,rfl,rfl,.cons (.pure trivial) (.cons (.pure pu) (.cons (.pure pu) (.cons (.fn .nil (.cons (.p rfl) .nil)) .nil)))⟩,trivial⟩
  ·subst hcs
   refine at_fs ⟨_, [], []⟩ 7 4 hmix (le_refl rfl) ?_
   refine fs_q 0 [] [(7,none)] (y_fld Tryz.underlying109 rfl ti3 (by decide) rfl rfl) rfl rfl ?_
   refine fs_q 1 [0] [(7,none)] (y_load ti3 rfl rfl rfl) rfl rfl ?_
   refine fs_q 2 [1] [(11,none)] (y_ixa 2 Tryz.underlying158 ti157 rfl rfl rfl (by decide) rfl) rfl rfl ?_
   refine fs_q 3 [2] [(11,none)] (y_load ti157 rfl rfl rfl) rfl rfl ?_
   refine fs_q 4 [] [(131,none)] (y_p rfl) rfl rfl ?_
   refine fs_q 5 [] [(7,none)] (y_loadA0 ti109 rfl rfl (by first|rfl|omega|(simp<;>omega)|(simp [*]<;>omega))) rfl rfl ?_
   refine fs_callHK 29 ⟨[(131,some ((B++3::(numL l.length++CV.encL (l.take i))).map u8))]⟩ [] true 6 [3,4,5] [(131,none)] gy0 rfl rfl rfl ⟨⟨rfl,VwL.pure pul⟩,trivial⟩ (.cons (.ksl rfl) (.cons (.pure pu) .nil)) (cw2_ok _ (B++3::(numL l.length++CV.encL (l.take (i+1)))) n2 s2 q2 (by rw [←CV.encL_next hv];simp [CV.enc]) (by omega)) pul (.inr ful) no_upd rfl rfl ?_
   refine fs_end (by kernel_rfl) ?_
   refine s1 (y_p rfl) rfl ?_
   refine at_nil<|x_bn<|x_tn<|at_region<|s1 (addN _ 1 rfl rfl rfl rfl (by omega)) rfl<|s1 (y_p rfl) rfl ?_
   refine at_nil ?_
   exact at_end (i+1) (by omega) (by omega) [(11,some 11),(131,some 29)] hI rfl rfl ⟨⟨_,rfl,.sl rfl (by first|rfl|omega|(simp<;>omega)|(simp [*]<;>omega))⟩,⟨_,rfl,.p rfl⟩,⟨_,rfl,.pure pu⟩,⟨_,rfl,.pure pu⟩,⟨_,rfl,.pure pu⟩,trivial⟩ ⟨.inr ⟨_,_,rfl,rfl,.pure pul⟩,.inr ⟨_,_,rfl,rfl,.cons (.pure trivial) (.cons (.pure pu) (.cons (.pure pu) (.cons (.fn .nil (.cons (.p rfl) .nil)) .nil)))⟩,trivial⟩
  ·obtain ⟨rfl, hq2⟩ := hcs
   refine at_fs ⟨_, [], []⟩ 7 4 hmix (le_refl rfl) ?_
   refine fs_q 0 [] [(7,none)] (y_fld Tryz.underlying109 rfl ti3 (by decide) rfl rfl) rfl rfl ?_
   refine fs_q 1 [0] [(7,none)] (y_load ti3 rfl rfl rfl) rfl rfl ?_
   refine fs_q 2 [1] [(11,none)] (y_ixa 3 Tryz.underlying158 ti157 rfl rfl rfl (by decide) rfl) rfl rfl ?_
   refine fs_q 3 [2] [(11,none)] (y_load ti157 rfl rfl rfl) rfl rfl ?_
   refine fs_q 4 [] [(131,none)] (y_p rfl) rfl rfl ?_
   refine fs_q 5 [] [(7,none)] (y_loadA0 ti109 rfl rfl (by first|rfl|omega|(simp<;>omega)|(simp [*]<;>omega))) rfl rfl ?_
   refine fs_callHK 29 ⟨[(131,some ((B++3::(numL l.length++CV.encL (l.take i))).map u8)),(11,some (wTab 11))]⟩ [(11,wTab 11)] true 6 [3,4,5] [(11,none),(131,none)] gy0 rfl rfl rfl ⟨⟨rfl,VwL.pure pul⟩,⟨rfl,(.cons (.pure trivial) (.cons (.pure pu) (.cons (.pure pu) (.cons (.fn .nil (.cons (.kp rfl) .nil)) .nil))))⟩,trivial⟩ (.cons (.ksl rfl) (.cons (.pure pu) (.cons (.kp rfl) .nil))) (ih _ hvm n2 s2 q2 rfl hq2 hvr.2 _ (B++3::(numL l.length++CV.encL (l.take (i+1)))) (by rw [←CV.encL_next hv];simp [CV.enc]) (by omega)) pul (.inr ful) (wTab_upd rfl) rfl rfl ?_
   refine fs_end (by kernel_rfl) ?_
   refine s1 (y_p rfl) rfl ?_
   refine at_nil<|x_bn<|x_tn<|at_region<|s1 (addN _ 1 rfl rfl rfl rfl (by omega)) rfl<|s1 (y_p rfl) rfl ?_
   refine at_nil ?_
   exact at_end (i+1) (by omega) (by omega) [(11,some 11),(131,some 29)] hI rfl rfl ⟨⟨_,rfl,.sl rfl (by first|rfl|omega|(simp<;>omega)|(simp [*]<;>omega))⟩,⟨_,rfl,.p rfl⟩,⟨_,rfl,.pure pu⟩,⟨_,rfl,.pure pu⟩,⟨_,rfl,.pure pu⟩,trivial⟩ ⟨.inr ⟨_,_,rfl,rfl,.pure pul⟩,.inr ⟨_,_,rfl,rfl,.cons (.pure trivial) (.cons (.pure pu) (.cons (.pure pu) (.cons (.fn .nil (.cons (.p rfl) .nil)) .nil)))⟩,trivial⟩
 ·obtain rfl : i = l.length := by have := of_decide_eq_false hc20; omega
  refine at_exit<|x_te<|x_te<|x_be<|x_tn<|at_seq<|at_region<|s1 (y_p rfl) rfl<|s1 (y_p rfl) rfl ?_
  refine at_nil<|x_tn<|at_ret ?_
  refine at_result (rs:= [.tmp 5]) rfl (r_tmp rfl r_nil) ?_
  rw [←hR]
  exact retOS_cast (by rw [List.take_length]) rfl rfl (by decide)
theorem cw3_ok (n:Int) (s:List UInt8) (l:List CV) (hok:CV.okBL l=true) (hrg:CV.rngL l=true) (B R:List UInt8) (hR:B++3::(numL l.length++CV.encL l)=R) (hl:R.length≤100000000):ConS Tryz.prog 172 [.sl 131 1 0 B.length,.ag [.i .i64 3,.i .i64 n,.s s,.fz l.length (CV.cellsL l)],.p 11 0] ⟨[(131,some (B.map u8)),(11,some (wTab 11))]⟩ (RetOS 1 R.length (R.map u8) [(11,wTab 11)]):=by
 have key:∀v:CV,v.size≤(CV.mk 3 n s l).size→∀(n:Int) (s:List UInt8) (q:List CV),v= .mk 3 n s q→CV.okBL q=true→CV.rngL q=true→∀B R:List UInt8,B++3::(numL q.length++CV.encL q)=R→R.length≤100000000→ConS Tryz.prog 172 [.sl 131 1 0 B.length,.ag [.i .i64 3,.i .i64 n,.s s,.fz q.length (CV.cellsL q)],.p 11 0] ⟨[(131,some (B.map u8)),(11,some (wTab 11))]⟩ (RetOS 1 R.length (R.map u8) [(11,wTab 11)]):=by
  refine CV.rec_size _ fun k n s l hl ih=>?_
  rintro n' s' q e
  cases e
  exact cw3_step n s l ih
 exact key _ (Nat.le_refl _) n s l rfl hok hrg B R hR hl
theorem cwriters_ok:Con Tryz.prog 116 [] (RetMM (fun i=> .ag (wTab i)) wTab):=by
 refine enter Tryz.func116 rfl Tryz.ntmps116 (by kernel_rfl) (Nat.le_of_ble_eq_true rfl) fun w0 X0 hI=>?_
 refine at_seq<|at_region ?_
 refine at_op rfl (n_alloc 0 rfl ti158 rfl rfl ?_)
 refine at_nil<|x_tn<|at_seq<|at_region<|s1 (y_ixa 1 Tryz.underlying158 ti157 rfl rfl rfl (by omega) rfl) rfl ?_
 refine at_op rfl (n_store1 ti157 rfl rfl rfl rfl (by first|rfl|omega|(simp<;>omega)|(simp [*]<;>omega)) rfl ?_)
 refine at_nil<|x_tn<|at_seq<|at_region<|s1 (y_ixa 2 Tryz.underlying158 ti157 rfl rfl rfl (by omega) rfl) rfl ?_
 refine at_op rfl (n_store1 ti157 rfl rfl rfl rfl (by first|rfl|omega|(simp<;>omega)|(simp [*]<;>omega)) rfl ?_)
 refine at_nil<|x_tn<|at_seq<|at_region<|s1 (y_func (us:= []) (vs:= [.p 0 0]) rfl rfl) rfl<|s1 (y_ixa 3 Tryz.underlying158 ti157 rfl rfl rfl (by omega) rfl) rfl ?_
 refine at_op rfl (n_store1 ti157 rfl rfl rfl rfl (by first|rfl|omega|(simp<;>omega)|(simp [*]<;>omega)) rfl ?_)
 refine at_nil<|x_tn<|at_seq<|at_region<|s1 (y_loadA0 ti158 rfl rfl rfl) rfl ?_
 refine at_op rfl (n_storeA ti158 rfl rfl rfl rfl rfl ?_)
 refine at_nil<|x_tn<|at_ret ?_
 refine at_result (rs:= [.cell 0 158]) rfl (r_cellA ti158 rfl rfl rfl rfl r_nil) ⟨0,rfl,rfl⟩
end Go.Abs.D2
-- C1D
namespace Go.Abs.D2
open Go Go.Eng Go.Abs Go.Proofs
theorem cencode_ok (k n:Int) (s:List UInt8) (l:List CV) (hs:(CV.mk k n s l).size≤1000000) (hrg:(CV.mk k n s l).rng=true) (hl:(CV.mk k n s l).enc.length≤100000000):Con Tryz.prog 69 [.ag [.i .i64 k,.i .i64 n,.s s,.fz l.length (CV.cellsL l)]] (Ret (encA (.mk k n s l))):=by
 refine enter Tryz.func69 rfl Tryz.ntmps69 (by kernel_rfl) (Nat.le_of_ble_eq_true rfl) fun w0 X0 hI=>?_
 refine at_seq<|at_region ?_
 refine at_op rfl (n_boxA 1 rfl rfl rfl ?_)
 refine s1 (y_p rfl) rfl<|s1 ((y_p rfl).v (v':= .i .i64 0) rfl) rfl ?_
 refine at_nil<|x_tn<|at_seq<|at_seq ?_
 simp only [CV.rng,Bool.and_eq_true,decide_eq_true_eq]at hrg
 refine at_region<|s1 (y_loadA0 ti109 rfl rfl rfl) rfl ?_
 refine at_op rfl (n_call false rfl (.cons (.pure pu) (.nil)) (ccheckV_ok (.mk k n s l) hs) pu (.inl rfl) rfl ?_)
 refine s1 (y_p rfl) rfl ?_
 refine at_nil<|x_tn<|at_seq<|at_region<|s1 (y_p rfl) rfl<|s1 (y_p rfl) rfl ?_
 refine at_nil<|x_tn ?_
 refine at_cond rfl (fun hc9=>?_) (fun hc9=>?_)
 ·have h9 : chkV (.mk k n s l) ≠ 0 := by simpa using hc9
  refine at_seq<|at_region<|s1 (y_p rfl) rfl<|s1 (y_p rfl) rfl<|s1 (y_p rfl) rfl ?_
  refine at_nil<|x_tn<|at_ret<|x_tr ?_
  refine at_result (rs:= [.tmp 2,.tmp 3]) rfl (r_tmp rfl (r_tmp rfl r_nil)) ?_
  exact(encA_no h9).symm
 ·have h9 : chkV (.mk k n s l) = 0 := by simpa using hc9
  have hok:=chkV_ok h9
  refine at_skip<|x_tn<|at_seq<|at_region ?_
  refine at_op rfl (n_callMM (mk:=fun i=> .ag (wTab i)) (mkc:=wTab) (oneB_ag (f:= .func 172) 3 dep_wTab (fun _=>rfl)) dep_wTab 11 rfl true rfl .nil cwriters_ok rfl ?_)
  refine at_op rfl (n_alloc 5 rfl ti158 rfl rfl ?_)
  refine at_op rfl (n_storeA ti158 rfl rfl rfl rfl rfl ?_)
  refine at_nil<|x_tn<|at_seq ?_
  rcases okV_kind hok with hcs|hcs|hcs
  ·subst hcs
   refine at_fs ⟨_, [], []⟩ 6 4 hmix (le_refl rfl) ?_
   refine fs_q 0 [] [(1,none)] (y_fld Tryz.underlying109 rfl ti3 (by decide) rfl rfl) rfl rfl ?_
   refine fs_q 1 [0] [(1,none)] (y_load ti3 rfl rfl rfl) rfl rfl ?_
   refine fs_q 2 [1] [(5,none)] (y_ixa 1 Tryz.underlying158 ti157 rfl rfl rfl (by decide) rfl) rfl rfl ?_
   refine fs_q 3 [2] [(5,none)] (y_load ti157 rfl rfl rfl) rfl rfl ?_
   refine fs_q 4 [] [(1,none)] (y_loadA0 ti109 rfl rfl rfl) rfl rfl ?_
   refine fs_callHK 17 ⟨[]⟩ [] true 5 [3,4] [] gy0 rfl rfl rfl trivial (.cons (.pure pu) (.cons (.pure pu) .nil)) (ConS.nl (i:=131) rfl (cw1_ok [] (CV.enc (.mk 1 n s l)) n s l hrg.1.1 hrg.1.2 rfl hl)) pul (.inr ful) no_upd rfl rfl ?_
   refine fs_end (by kernel_rfl) ?_
   refine s1 (y_p rfl) rfl<|s1 ((y_p rfl).v (v':= .i .i64 0) rfl) rfl ?_
   refine at_nil<|x_tn<|at_ret ?_
   refine at_frz 2 rfl rfl pul (view_eq (by simp) rfl) ?_
   refine at_result (rs:= [.tmp 2,.tmp 3]) rfl (r_tmp rfl (r_tmp rfl r_nil)) ?_
   exact(encA_yes h9).symm
  ·subst hcs
   refine at_fs ⟨_, [], []⟩ 6 4 hmix (le_refl rfl) ?_
   refine fs_q 0 [] [(1,none)] (y_fld Tryz.underlying109 rfl ti3 (by decide) rfl rfl) rfl rfl ?_
   refine fs_q 1 [0] [(1,none)] (y_load ti3 rfl rfl rfl) rfl rfl ?_
   refine fs_q 2 [1] [(5,none)] (y_ixa 2 Tryz.underlying158 ti157 rfl rfl rfl (by decide) rfl) rfl rfl ?_
   refine fs_q 3 [2] [(5,none)] (y_load ti157 rfl rfl rfl) rfl rfl ?_
   refine fs_q 4 [] [(1,none)] (y_loadA0 ti109 rfl rfl rfl) rfl rfl ?_
   refine fs_callHK 17 ⟨[]⟩ [] true 5 [3,4] [] gy0 rfl rfl rfl trivial (.cons (.pure pu) (.cons (.pure pu) .nil)) (ConS.nl (i:=131) rfl (cw2_ok [] (CV.enc (.mk 2 n s l)) n s l rfl hl)) pul (.inr ful) no_upd rfl rfl ?_
   refine fs_end (by kernel_rfl) ?_
   refine s1 (y_p rfl) rfl<|s1 ((y_p rfl).v (v':= .i .i64 0) rfl) rfl ?_
   refine at_nil<|x_tn<|at_ret ?_
   refine at_frz 2 rfl rfl pul (view_eq (by simp) rfl) ?_
   refine at_result (rs:= [.tmp 2,.tmp 3]) rfl (r_tmp rfl (r_tmp rfl r_nil)) ?_
   exact(encA_yes h9).symm
  ·obtain ⟨rfl, hq2⟩ := hcs
   refine at_fs ⟨_, [], []⟩ 6 4 hmix (le_refl rfl) ?_
   refine fs_q 0 [] [(1,none)] (y_fld Tryz.underlying109 rfl ti3 (by decide) rfl rfl) rfl rfl ?_
   refine fs_q 1 [0] [(1,none)] (y_load ti3 rfl rfl rfl) rfl rfl ?_
   refine fs_q 2 [1] [(5,none)] (y_ixa 3 Tryz.underlying158 ti157 rfl rfl rfl (by decide) rfl) rfl rfl ?_
   refine fs_q 3 [2] [(5,none)] (y_load ti157 rfl rfl rfl) rfl rfl ?_
   refine fs_q 4 [] [(1,none)] (y_loadA0 ti109 rfl rfl rfl) rfl rfl ?_
   refine fs_callHK 17 ⟨[(11,some (wTab 11))]⟩ [(11,wTab 11)] true 5 [3,4] [(11,none)] gy0 rfl rfl rfl ⟨⟨rfl,(.cons (.pure trivial) (.cons (.pure pu) (.cons (.pure pu) (.cons (.fn .nil (.cons (.kp rfl) .nil)) .nil))))⟩,trivial⟩ (.cons (.pure pu) (.cons (.pure pu) (.cons (.kp rfl) .nil))) (ConS.nl (i:=131) rfl (cw3_ok n s l hq2 hrg.2 [] (CV.enc (.mk 3 n s l)) rfl hl)) pul (.inr ful) (wTab_upd rfl) rfl rfl ?_
   refine fs_end (by kernel_rfl) ?_
   refine s1 (y_p rfl) rfl<|s1 ((y_p rfl).v (v':= .i .i64 0) rfl) rfl ?_
   refine at_nil<|x_tn<|at_ret ?_
   refine at_frz 2 rfl rfl pul (view_eq (by simp) rfl) ?_
   refine at_result (rs:= [.tmp 2,.tmp 3]) rfl (r_tmp rfl (r_tmp rfl r_nil)) ?_
   exact(encA_yes h9).symm
end Go.Abs.D2
-- D2A
namespace Go.Abs.D2
open Go Go.Eng Go.Abs Go.Proofs
theorem node_ok (htag:∀(t b:List UInt8),t.length≤1048576→b.length≤1048576→Con Tryz.prog 50 [.s t,.fz b.length (b.map u8)] (Ret (.ag ((tagged t b).map u8)))) (a b:List UInt8) (ha:a.length=32) (hb:b.length=32):Con Tryz.prog 96 [.ag (a.map u8),.ag (b.map u8)] (Ret (.ag ((tagged [110,111,100,101] (a++b)).map u8))):=by
 refine enter Tryz.func96 rfl Tryz.ntmps96 (by kernel_rfl) (Nat.le_of_ble_eq_true rfl) fun w0 X0 hI=>?_
 refine at_seq<|at_region ?_
 refine at_op rfl (n_boxA 2 rfl rfl rfl ?_)
 refine at_op rfl (n_boxA 3 rfl rfl rfl ?_)
 refine at_op rfl (n_alloc 4 rfl ti23 rfl rfl ?_)
 refine at_nil<|x_tn<|at_seq ?_
 refine at_fs ⟨_, [], []⟩ 6 4 hmix (le_refl rfl) ?_
 refine fs_make 5 0 [] 0 64 gy0 Tryz.underlying68 ti5 rfl rfl rfl rfl rfl (by first|omega|(simp only [maxLen];omega)|(simp [maxLen];done)|(simp [maxLen];omega)|(simp [maxLen, *];omega)) (by first|omega|(simp only [maxLen];omega)|(simp [maxLen];done)|(simp [maxLen];omega)|(simp [maxLen, *];omega)) (by first|omega|(simp only [maxLen];omega)|(simp [maxLen];done)|(simp [maxLen];omega)|(simp [maxLen, *];omega)) rfl rfl ?_
 refine fs_q 1 [] [(2,none)] (y_cuta0 Tryz.underlying23 ti5 rfl rfl (by first|rfl|omega|(simp<;>omega)|(simp [*]<;>omega)|(simp [D32.len, -List.length_flatten, *]<;>omega)) (by simp [maxLen])) rfl rfl ?_
 refine fs_app 7 2 [0,1] [(2,none),(5,some 0)] gy0 Tryz.underlying68 ti5 rfl (.sl rfl (by first|rfl|omega|(simp<;>omega)|(simp [*]<;>omega)|(simp [D32.len, -List.length_flatten, *]<;>omega))) rfl (SM_full rfl (by first|rfl|omega|(simp<;>omega)|(simp [*]<;>omega)|(simp [D32.len, -List.length_flatten, *]<;>omega))) (by first|rfl|omega|(simp<;>omega)|(simp [*]<;>omega)|(simp [D32.len, -List.length_flatten, *]<;>omega)) (by first|omega|(simp only [maxLen];omega)|(simp [maxLen];done)|(simp [maxLen];omega)|(simp [maxLen, *];omega)) (by first|omega|(simp only [maxLen];omega)|(simp [maxLen];done)|(simp [maxLen];omega)|(simp [maxLen, *];omega)) rfl rfl rfl rfl ?_
 refine fs_q 3 [] [(3,none)] (y_cuta0 Tryz.underlying23 ti5 rfl rfl (by first|rfl|omega|(simp<;>omega)|(simp [*]<;>omega)|(simp [D32.len, -List.length_flatten, *]<;>omega)) (by simp [maxLen])) rfl rfl ?_
 refine fs_app 9 4 [2,3] [(3,none),(7,some 2)] gy0 Tryz.underlying68 ti5 rfl (.sl rfl (by first|rfl|omega|(simp<;>omega)|(simp [*]<;>omega)|(simp [D32.len, -List.length_flatten, *]<;>omega))) rfl (SM_full rfl (by first|rfl|omega|(simp<;>omega)|(simp [*]<;>omega)|(simp [D32.len, -List.length_flatten, *]<;>omega))) (by first|rfl|omega|(simp<;>omega)|(simp [*]<;>omega)|(simp [D32.len, -List.length_flatten, *]<;>omega)) (by first|omega|(simp only [maxLen];omega)|(simp [maxLen];done)|(simp [maxLen];omega)|(simp [maxLen, *];omega)) (by first|omega|(simp only [maxLen];omega)|(simp [maxLen];done)|(simp [maxLen];omega)|(simp [maxLen, *];omega)) rfl rfl rfl rfl ?_
 refine fs_call true 5 [4] [(9,some 4)] gy0 rfl (.cons (.pure pu) (.cons (.sl rfl rfl (by first|rfl|omega|(simp<;>omega)|(simp [*]<;>omega)|(simp [D32.len, -List.length_flatten, *]<;>omega)) (view_eq (by first|rfl|omega|(simp<;>omega)|(simp [*]<;>omega)|(simp [D32.len, -List.length_flatten, *]<;>omega)) (by first|rfl|(simp;done)|(simp [*];done))) (VwL.pure pul) pul) (.nil))) (htag _ (a++b) (by simp) (by simp;omega)) pu (.inr fu) rfl rfl ?_
 refine fs_end (by kernel_rfl) ?_
 refine at_op rfl (n_storeA ti23 rfl rfl rfl (by first|rfl|omega|(simp<;>omega)|(simp [*]<;>omega)|(simp [D32.len, -List.length_flatten, *]<;>omega)) (by first|rfl|omega|(simp<;>omega)|(simp [*]<;>omega)|(simp [D32.len, -List.length_flatten, *]<;>omega)) ?_)
 refine at_nil<|x_tn<|at_ret ?_
 refine at_result (rs:= [.cell 4 23]) rfl (r_cellA ti23 rfl rfl (List.take_of_length_le (by simp)) (by simp) r_nil) rfl
end Go.Abs.D2
-- D2B
namespace Go.Abs.D2
open Go Go.Eng Go.Abs Go.Proofs
theorem rot2 (x:BitVec 32):Con Tryz.prog 188 [w32 x,.i .i64 (-2)] (Ret (w32 (rotr x 2))):=by
 refine enter Tryz.func188 rfl Tryz.ntmps188 (by kernel_rfl) (Nat.le_of_ble_eq_true rfl) fun w0 X0 hI=>?_
 refine at_seq<|at_region<|s1 ((y_p rfl).v (v':= .i .u32 0) rfl) rfl ?_
 refine at_nil<|x_tn<|at_seq<|at_region<|s1 (y_p rfl) rfl<|s1 ((y_conv Tryz.underlying3 Tryz.underlying74 rfl).v (v':=w64 (c64 18446744073709551614)) (congrArg (A.i .u64) (by decide))) rfl<|s1 ((and64 _ (c64 31) rfl rfl).v (v':=w64 (c64 30)) (congrArg w64 (by decide))) rfl<|s1 (y_p rfl) rfl ?_
 refine at_nil<|x_tn<|at_seq<|at_region<|s1 (y_p rfl) rfl<|s1 (y_p rfl) rfl<|s1 (shl32 _ 30 rfl rfl rfl (by decide)) rfl<|s1 (y_p rfl) rfl<|s1 (y_p rfl) rfl<|s1 ((sub64 (c64 32) (c64 30) rfl rfl (by decide)).v (v':=w64 (c64 2)) (congrArg w64 (by decide))) rfl<|s1 (shr32 _ 2 rfl rfl rfl (by decide)) rfl<|s1 ((or32 _ _ rfl rfl).v (congrArg w32 (rotl_rotr x 2))) rfl<|s1 (y_p rfl) rfl ?_
 refine at_nil<|x_tn<|at_ret ?_
 refine at_result (rs:= [.tmp 4]) rfl (r_tmp rfl (r_nil)) rfl
theorem rot6 (x:BitVec 32):Con Tryz.prog 188 [w32 x,.i .i64 (-6)] (Ret (w32 (rotr x 6))):=by
 refine enter Tryz.func188 rfl Tryz.ntmps188 (by kernel_rfl) (Nat.le_of_ble_eq_true rfl) fun w0 X0 hI=>?_
 refine at_seq<|at_region<|s1 ((y_p rfl).v (v':= .i .u32 0) rfl) rfl ?_
 refine at_nil<|x_tn<|at_seq<|at_region<|s1 (y_p rfl) rfl<|s1 ((y_conv Tryz.underlying3 Tryz.underlying74 rfl).v (v':=w64 (c64 18446744073709551610)) (congrArg (A.i .u64) (by decide))) rfl<|s1 ((and64 _ (c64 31) rfl rfl).v (v':=w64 (c64 26)) (congrArg w64 (by decide))) rfl<|s1 (y_p rfl) rfl ?_
 refine at_nil<|x_tn<|at_seq<|at_region<|s1 (y_p rfl) rfl<|s1 (y_p rfl) rfl<|s1 (shl32 _ 26 rfl rfl rfl (by decide)) rfl<|s1 (y_p rfl) rfl<|s1 (y_p rfl) rfl<|s1 ((sub64 (c64 32) (c64 26) rfl rfl (by decide)).v (v':=w64 (c64 6)) (congrArg w64 (by decide))) rfl<|s1 (shr32 _ 6 rfl rfl rfl (by decide)) rfl<|s1 ((or32 _ _ rfl rfl).v (congrArg w32 (rotl_rotr x 6))) rfl<|s1 (y_p rfl) rfl ?_
 refine at_nil<|x_tn<|at_ret ?_
 refine at_result (rs:= [.tmp 4]) rfl (r_tmp rfl (r_nil)) rfl
theorem rot7 (x:BitVec 32):Con Tryz.prog 188 [w32 x,.i .i64 (-7)] (Ret (w32 (rotr x 7))):=by
 refine enter Tryz.func188 rfl Tryz.ntmps188 (by kernel_rfl) (Nat.le_of_ble_eq_true rfl) fun w0 X0 hI=>?_
 refine at_seq<|at_region<|s1 ((y_p rfl).v (v':= .i .u32 0) rfl) rfl ?_
 refine at_nil<|x_tn<|at_seq<|at_region<|s1 (y_p rfl) rfl<|s1 ((y_conv Tryz.underlying3 Tryz.underlying74 rfl).v (v':=w64 (c64 18446744073709551609)) (congrArg (A.i .u64) (by decide))) rfl<|s1 ((and64 _ (c64 31) rfl rfl).v (v':=w64 (c64 25)) (congrArg w64 (by decide))) rfl<|s1 (y_p rfl) rfl ?_
 refine at_nil<|x_tn<|at_seq<|at_region<|s1 (y_p rfl) rfl<|s1 (y_p rfl) rfl<|s1 (shl32 _ 25 rfl rfl rfl (by decide)) rfl<|s1 (y_p rfl) rfl<|s1 (y_p rfl) rfl<|s1 ((sub64 (c64 32) (c64 25) rfl rfl (by decide)).v (v':=w64 (c64 7)) (congrArg w64 (by decide))) rfl<|s1 (shr32 _ 7 rfl rfl rfl (by decide)) rfl<|s1 ((or32 _ _ rfl rfl).v (congrArg w32 (rotl_rotr x 7))) rfl<|s1 (y_p rfl) rfl ?_
 refine at_nil<|x_tn<|at_ret ?_
 refine at_result (rs:= [.tmp 4]) rfl (r_tmp rfl (r_nil)) rfl
theorem rot11 (x:BitVec 32):Con Tryz.prog 188 [w32 x,.i .i64 (-11)] (Ret (w32 (rotr x 11))):=by
 refine enter Tryz.func188 rfl Tryz.ntmps188 (by kernel_rfl) (Nat.le_of_ble_eq_true rfl) fun w0 X0 hI=>?_
 refine at_seq<|at_region<|s1 ((y_p rfl).v (v':= .i .u32 0) rfl) rfl ?_
 refine at_nil<|x_tn<|at_seq<|at_region<|s1 (y_p rfl) rfl<|s1 ((y_conv Tryz.underlying3 Tryz.underlying74 rfl).v (v':=w64 (c64 18446744073709551605)) (congrArg (A.i .u64) (by decide))) rfl<|s1 ((and64 _ (c64 31) rfl rfl).v (v':=w64 (c64 21)) (congrArg w64 (by decide))) rfl<|s1 (y_p rfl) rfl ?_
 refine at_nil<|x_tn<|at_seq<|at_region<|s1 (y_p rfl) rfl<|s1 (y_p rfl) rfl<|s1 (shl32 _ 21 rfl rfl rfl (by decide)) rfl<|s1 (y_p rfl) rfl<|s1 (y_p rfl) rfl<|s1 ((sub64 (c64 32) (c64 21) rfl rfl (by decide)).v (v':=w64 (c64 11)) (congrArg w64 (by decide))) rfl<|s1 (shr32 _ 11 rfl rfl rfl (by decide)) rfl<|s1 ((or32 _ _ rfl rfl).v (congrArg w32 (rotl_rotr x 11))) rfl<|s1 (y_p rfl) rfl ?_
 refine at_nil<|x_tn<|at_ret ?_
 refine at_result (rs:= [.tmp 4]) rfl (r_tmp rfl (r_nil)) rfl
theorem rot13 (x:BitVec 32):Con Tryz.prog 188 [w32 x,.i .i64 (-13)] (Ret (w32 (rotr x 13))):=by
 refine enter Tryz.func188 rfl Tryz.ntmps188 (by kernel_rfl) (Nat.le_of_ble_eq_true rfl) fun w0 X0 hI=>?_
 refine at_seq<|at_region<|s1 ((y_p rfl).v (v':= .i .u32 0) rfl) rfl ?_
 refine at_nil<|x_tn<|at_seq<|at_region<|s1 (y_p rfl) rfl<|s1 ((y_conv Tryz.underlying3 Tryz.underlying74 rfl).v (v':=w64 (c64 18446744073709551603)) (congrArg (A.i .u64) (by decide))) rfl<|s1 ((and64 _ (c64 31) rfl rfl).v (v':=w64 (c64 19)) (congrArg w64 (by decide))) rfl<|s1 (y_p rfl) rfl ?_
 refine at_nil<|x_tn<|at_seq<|at_region<|s1 (y_p rfl) rfl<|s1 (y_p rfl) rfl<|s1 (shl32 _ 19 rfl rfl rfl (by decide)) rfl<|s1 (y_p rfl) rfl<|s1 (y_p rfl) rfl<|s1 ((sub64 (c64 32) (c64 19) rfl rfl (by decide)).v (v':=w64 (c64 13)) (congrArg w64 (by decide))) rfl<|s1 (shr32 _ 13 rfl rfl rfl (by decide)) rfl<|s1 ((or32 _ _ rfl rfl).v (congrArg w32 (rotl_rotr x 13))) rfl<|s1 (y_p rfl) rfl ?_
 refine at_nil<|x_tn<|at_ret ?_
 refine at_result (rs:= [.tmp 4]) rfl (r_tmp rfl (r_nil)) rfl
theorem rot17 (x:BitVec 32):Con Tryz.prog 188 [w32 x,.i .i64 (-17)] (Ret (w32 (rotr x 17))):=by
 refine enter Tryz.func188 rfl Tryz.ntmps188 (by kernel_rfl) (Nat.le_of_ble_eq_true rfl) fun w0 X0 hI=>?_
 refine at_seq<|at_region<|s1 ((y_p rfl).v (v':= .i .u32 0) rfl) rfl ?_
 refine at_nil<|x_tn<|at_seq<|at_region<|s1 (y_p rfl) rfl<|s1 ((y_conv Tryz.underlying3 Tryz.underlying74 rfl).v (v':=w64 (c64 18446744073709551599)) (congrArg (A.i .u64) (by decide))) rfl<|s1 ((and64 _ (c64 31) rfl rfl).v (v':=w64 (c64 15)) (congrArg w64 (by decide))) rfl<|s1 (y_p rfl) rfl ?_
 refine at_nil<|x_tn<|at_seq<|at_region<|s1 (y_p rfl) rfl<|s1 (y_p rfl) rfl<|s1 (shl32 _ 15 rfl rfl rfl (by decide)) rfl<|s1 (y_p rfl) rfl<|s1 (y_p rfl) rfl<|s1 ((sub64 (c64 32) (c64 15) rfl rfl (by decide)).v (v':=w64 (c64 17)) (congrArg w64 (by decide))) rfl<|s1 (shr32 _ 17 rfl rfl rfl (by decide)) rfl<|s1 ((or32 _ _ rfl rfl).v (congrArg w32 (rotl_rotr x 17))) rfl<|s1 (y_p rfl) rfl ?_
 refine at_nil<|x_tn<|at_ret ?_
 refine at_result (rs:= [.tmp 4]) rfl (r_tmp rfl (r_nil)) rfl
theorem rot18 (x:BitVec 32):Con Tryz.prog 188 [w32 x,.i .i64 (-18)] (Ret (w32 (rotr x 18))):=by
 refine enter Tryz.func188 rfl Tryz.ntmps188 (by kernel_rfl) (Nat.le_of_ble_eq_true rfl) fun w0 X0 hI=>?_
 refine at_seq<|at_region<|s1 ((y_p rfl).v (v':= .i .u32 0) rfl) rfl ?_
 refine at_nil<|x_tn<|at_seq<|at_region<|s1 (y_p rfl) rfl<|s1 ((y_conv Tryz.underlying3 Tryz.underlying74 rfl).v (v':=w64 (c64 18446744073709551598)) (congrArg (A.i .u64) (by decide))) rfl<|s1 ((and64 _ (c64 31) rfl rfl).v (v':=w64 (c64 14)) (congrArg w64 (by decide))) rfl<|s1 (y_p rfl) rfl ?_
 refine at_nil<|x_tn<|at_seq<|at_region<|s1 (y_p rfl) rfl<|s1 (y_p rfl) rfl<|s1 (shl32 _ 14 rfl rfl rfl (by decide)) rfl<|s1 (y_p rfl) rfl<|s1 (y_p rfl) rfl<|s1 ((sub64 (c64 32) (c64 14) rfl rfl (by decide)).v (v':=w64 (c64 18)) (congrArg w64 (by decide))) rfl<|s1 (shr32 _ 18 rfl rfl rfl (by decide)) rfl<|s1 ((or32 _ _ rfl rfl).v (congrArg w32 (rotl_rotr x 18))) rfl<|s1 (y_p rfl) rfl ?_
 refine at_nil<|x_tn<|at_ret ?_
 refine at_result (rs:= [.tmp 4]) rfl (r_tmp rfl (r_nil)) rfl
theorem rot19 (x:BitVec 32):Con Tryz.prog 188 [w32 x,.i .i64 (-19)] (Ret (w32 (rotr x 19))):=by
 refine enter Tryz.func188 rfl Tryz.ntmps188 (by kernel_rfl) (Nat.le_of_ble_eq_true rfl) fun w0 X0 hI=>?_
 refine at_seq<|at_region<|s1 ((y_p rfl).v (v':= .i .u32 0) rfl) rfl ?_
 refine at_nil<|x_tn<|at_seq<|at_region<|s1 (y_p rfl) rfl<|s1 ((y_conv Tryz.underlying3 Tryz.underlying74 rfl).v (v':=w64 (c64 18446744073709551597)) (congrArg (A.i .u64) (by decide))) rfl<|s1 ((and64 _ (c64 31) rfl rfl).v (v':=w64 (c64 13)) (congrArg w64 (by decide))) rfl<|s1 (y_p rfl) rfl ?_
 refine at_nil<|x_tn<|at_seq<|at_region<|s1 (y_p rfl) rfl<|s1 (y_p rfl) rfl<|s1 (shl32 _ 13 rfl rfl rfl (by decide)) rfl<|s1 (y_p rfl) rfl<|s1 (y_p rfl) rfl<|s1 ((sub64 (c64 32) (c64 13) rfl rfl (by decide)).v (v':=w64 (c64 19)) (congrArg w64 (by decide))) rfl<|s1 (shr32 _ 19 rfl rfl rfl (by decide)) rfl<|s1 ((or32 _ _ rfl rfl).v (congrArg w32 (rotl_rotr x 19))) rfl<|s1 (y_p rfl) rfl ?_
 refine at_nil<|x_tn<|at_ret ?_
 refine at_result (rs:= [.tmp 4]) rfl (r_tmp rfl (r_nil)) rfl
theorem rot22 (x:BitVec 32):Con Tryz.prog 188 [w32 x,.i .i64 (-22)] (Ret (w32 (rotr x 22))):=by
 refine enter Tryz.func188 rfl Tryz.ntmps188 (by kernel_rfl) (Nat.le_of_ble_eq_true rfl) fun w0 X0 hI=>?_
 refine at_seq<|at_region<|s1 ((y_p rfl).v (v':= .i .u32 0) rfl) rfl ?_
 refine at_nil<|x_tn<|at_seq<|at_region<|s1 (y_p rfl) rfl<|s1 ((y_conv Tryz.underlying3 Tryz.underlying74 rfl).v (v':=w64 (c64 18446744073709551594)) (congrArg (A.i .u64) (by decide))) rfl<|s1 ((and64 _ (c64 31) rfl rfl).v (v':=w64 (c64 10)) (congrArg w64 (by decide))) rfl<|s1 (y_p rfl) rfl ?_
 refine at_nil<|x_tn<|at_seq<|at_region<|s1 (y_p rfl) rfl<|s1 (y_p rfl) rfl<|s1 (shl32 _ 10 rfl rfl rfl (by decide)) rfl<|s1 (y_p rfl) rfl<|s1 (y_p rfl) rfl<|s1 ((sub64 (c64 32) (c64 10) rfl rfl (by decide)).v (v':=w64 (c64 22)) (congrArg w64 (by decide))) rfl<|s1 (shr32 _ 22 rfl rfl rfl (by decide)) rfl<|s1 ((or32 _ _ rfl rfl).v (congrArg w32 (rotl_rotr x 22))) rfl<|s1 (y_p rfl) rfl ?_
 refine at_nil<|x_tn<|at_ret ?_
 refine at_result (rs:= [.tmp 4]) rfl (r_tmp rfl (r_nil)) rfl
theorem rot25 (x:BitVec 32):Con Tryz.prog 188 [w32 x,.i .i64 (-25)] (Ret (w32 (rotr x 25))):=by
 refine enter Tryz.func188 rfl Tryz.ntmps188 (by kernel_rfl) (Nat.le_of_ble_eq_true rfl) fun w0 X0 hI=>?_
 refine at_seq<|at_region<|s1 ((y_p rfl).v (v':= .i .u32 0) rfl) rfl ?_
 refine at_nil<|x_tn<|at_seq<|at_region<|s1 (y_p rfl) rfl<|s1 ((y_conv Tryz.underlying3 Tryz.underlying74 rfl).v (v':=w64 (c64 18446744073709551591)) (congrArg (A.i .u64) (by decide))) rfl<|s1 ((and64 _ (c64 31) rfl rfl).v (v':=w64 (c64 7)) (congrArg w64 (by decide))) rfl<|s1 (y_p rfl) rfl ?_
 refine at_nil<|x_tn<|at_seq<|at_region<|s1 (y_p rfl) rfl<|s1 (y_p rfl) rfl<|s1 (shl32 _ 7 rfl rfl rfl (by decide)) rfl<|s1 (y_p rfl) rfl<|s1 (y_p rfl) rfl<|s1 ((sub64 (c64 32) (c64 7) rfl rfl (by decide)).v (v':=w64 (c64 25)) (congrArg w64 (by decide))) rfl<|s1 (shr32 _ 25 rfl rfl rfl (by decide)) rfl<|s1 ((or32 _ _ rfl rfl).v (congrArg w32 (rotl_rotr x 25))) rfl<|s1 (y_p rfl) rfl ?_
 refine at_nil<|x_tn<|at_ret ?_
 refine at_result (rs:= [.tmp 4]) rfl (r_tmp rfl (r_nil)) rfl
end Go.Abs.D2
-- D2C
namespace Go.Abs.D2
open Go Go.Eng Go.Abs Go.Proofs
end Go.Abs.D2
-- D2E
namespace Go.Abs.D2
open Go Go.Eng Go.Abs Go.Proofs
theorem absorb_ok (s:S8) (b:List UInt8) (hb:b.length=64):ConS Tryz.prog 148 [.p 3 0,.fz 64 (b.map u8)] ⟨[(3,some (s.l.map w32))]⟩ (RetS (.tu []) [(3,(comp s b).l.map w32)]):=by
 refine enterS Tryz.func148 rfl Tryz.ntmps148 (by kernel_rfl) (Nat.le_of_ble_eq_true rfl) fun w0 X0 hI=>?_
 refine at_seq<|at_region ?_
 refine at_op rfl (n_alloc 4 rfl ti216 rfl rfl ?_)
 refine at_nil<|x_tn<|at_seq<|at_seq<|at_region<|s1 ((y_p rfl).v (v':= .i .i64 0) rfl) rfl ?_
 refine at_nil<|x_tn<|at_block ?_
 refine at_loop (ι:=Nat) (fun i=> [(0,.p 3 0),(1,.fz 64 (b.map u8)),(4,.p 4 0),(23,.i .i64 (i:Nat))]) (fun i=>⟨[(3,some (s.l.map w32)),(4,some ((words b i).map w32++List.replicate (64 - i) (w32 0)))]⟩) (fun i=>i≤16) (fun i=>16 - i) ?_ ?_
 ·exact at_ex (0) (Nat.zero_le _) [(3,some 3),(4,some 4)] hI rfl rfl ⟨⟨_,rfl,.p rfl⟩,⟨_,rfl,.pure pu⟩,⟨_,rfl,.p rfl⟩,⟨_,rfl,.pure pu⟩,trivial⟩ ⟨.inr ⟨_,_,rfl,rfl,.pure pul⟩,.inr ⟨_,_,rfl,rfl,.of (by rfl) (.pure pul)⟩,trivial⟩
 rintro i hi
 refine at_seq<|at_region<|s1 (y_p rfl) rfl ?_
 refine at_nil<|x_tn<|at_seq ?_
 refine at_cond rfl (fun hc24=>?_) (fun hc24=>?_)
 ·have hi16 : i < 16 := by have := of_decide_eq_true hc24; omega
  refine at_skip<|x_tn<|at_seq<|at_block<|at_seq<|at_region<|s1 (y_p rfl) rfl<|s1 (y_p rfl) rfl ?_
  refine at_nil<|x_tn<|at_seq<|at_region<|s1 ((y_p rfl).v (v':= .i .i64 0) rfl) rfl ?_
  refine at_nil<|x_tn<|at_block ?_
  refine at_loop (ι:=Nat) (fun j=> [(0,.p 3 0),(1,.fz 64 (b.map u8)),(4,.p 4 0),(5,.i .i64 (i:Nat)),(23,.i .i64 (i:Nat)),(26,.i .i64 (j:Nat))]) (fun j=>⟨[(3,some (s.l.map w32)),(4,some ((words b i).map w32++ [w32 (wpart b (4*i) j)]++List.replicate (63 - i) (w32 0)))]⟩) (fun j=>j≤4) (fun j=>4 - j) ?_ ?_
  ·skip
   refine at_sayO 4 rfl (part_0 b i (by omega)) ?_
   exact at_ex (0) (Nat.zero_le _) [(3,some 3),(4,some 4)] hI rfl rfl ⟨⟨_,rfl,.p rfl⟩,⟨_,rfl,.pure pu⟩,⟨_,rfl,.p rfl⟩,⟨_,rfl,.pure pu⟩,⟨_,rfl,.pure pu⟩,⟨_,rfl,.pure pu⟩,trivial⟩ ⟨.inr ⟨_,_,rfl,rfl,.pure pul⟩,.inr ⟨_,_,rfl,rfl,.pure pul⟩,trivial⟩
  rintro j hj
  refine at_seq<|at_region<|s1 (y_p rfl) rfl ?_
  refine at_nil<|x_tn<|at_seq ?_
  refine at_cond rfl (fun hc27=>?_) (fun hc27=>?_)
  ·have hj4 : j < 4 := by have := of_decide_eq_true hc27; omega
   refine at_skip<|x_tn<|at_seq<|at_block<|at_seq<|at_region<|s1 (y_p rfl) rfl<|s1 (y_p rfl) rfl ?_
   refine at_nil<|x_tn ?_
   refine at_draw_tail 15 hmix (by kernel_rfl) ?_
   refine t1 (y_p rfl) rfl<|t1 (y_p rfl) rfl<|t1 (y_ixa i Tryz.underlying216 ti183 rfl rfl rfl (by omega) rfl) rfl<|t1 (y_load ti183 rfl rfl (get_part b i j)) rfl<|t1 (shl32 _ 8 rfl rfl rfl (by decide)) rfl<|t1 (y_p rfl) rfl<|t1 (y_p rfl) rfl<|t1 (mulN 4 i rfl rfl rfl rfl (by omega)) rfl<|t1 (y_p rfl) rfl<|t1 (addN (4*i) j rfl rfl rfl rfl (by omega)) rfl ?_
   refine t1 (y_ixf (4*i+j) Tryz.underlying68 ti5 rfl rfl rfl (by omega) rfl) rfl<|t1 (y_load ti5 rfl rfl (getB (4*i+j) (by omega) rfl)) rfl<|t1 (of8_32 _ Tryz.underlying5 Tryz.underlying183 rfl) rfl<|t1 ((or32 _ _ rfl rfl).v (v':=w32 (wpart b (4*i) (j+1))) rfl) rfl<|t1 (y_ixa i Tryz.underlying216 ti183 rfl rfl rfl (by omega) rfl) rfl ?_
   refine at_snil ?_
   refine at_op rfl (n_store1 ti183 rfl rfl rfl rfl (by simp only [List.length_append,List.length_map,List.length_replicate,List.length_cons,List.length_nil,len_words];omega) (set_part b i j) ?_)
   refine at_nil<|x_bn<|x_tn<|at_region<|s1 (addN _ 1 rfl rfl rfl rfl (by omega)) rfl<|s1 (y_p rfl) rfl ?_
   refine at_nil ?_
   exact at_end (j+1) (by omega) (by omega) [(3,some 3),(4,some 4)] hI rfl rfl ⟨⟨_,rfl,.p rfl⟩,⟨_,rfl,.pure pu⟩,⟨_,rfl,.p rfl⟩,⟨_,rfl,.pure pu⟩,⟨_,rfl,.pure pu⟩,⟨_,rfl,.pure pu⟩,trivial⟩ ⟨.inr ⟨_,_,rfl,rfl,.pure pul⟩,.inr ⟨_,_,rfl,rfl,.pure pul⟩,trivial⟩
  ·have hj4 : j = 4 := by have := of_decide_eq_false hc27; omega
   subst hj4
   refine at_exit<|x_te<|x_te<|x_be<|x_bn<|x_tn<|at_region<|s1 (addN _ 1 rfl rfl rfl rfl (by omega)) rfl<|s1 (y_p rfl) rfl ?_
   refine at_nil ?_
   exact at_end (i+1) (by omega) (by omega) [(3,some 3),(4,some 4)] hI rfl rfl ⟨⟨_,rfl,.p rfl⟩,⟨_,rfl,.pure pu⟩,⟨_,rfl,.p rfl⟩,⟨_,rfl,.pure pu⟩,trivial⟩ ⟨.inr ⟨_,_,rfl,rfl,.pure pul⟩,.inr ⟨_,_,rfl,rfl,.of (part_end b i (by omega)) (.pure pul)⟩,trivial⟩
 ·have hi16 : i = 16 := by have := of_decide_eq_false hc24; omega
  subst hi16
  refine at_exit<|x_te<|x_te<|x_be<|x_tn<|at_seq<|at_seq<|at_region<|s1 ((y_p rfl).v (v':= .i .i64 16) rfl) rfl ?_
  refine at_nil<|x_tn<|at_block ?_
  refine at_loop (ι:=Nat) (fun k=> [(0,.p 3 0),(1,.fz 64 (b.map u8)),(4,.p 4 0),(7,.i .i64 ((16+k:Nat):Int))]) (fun k=>⟨[(3,some (s.l.map w32)),(4,some ((sched b k).map w32++List.replicate (48 - k) (w32 0)))]⟩) (fun k=>k≤48) (fun k=>48 - k) ?_ ?_
  ·skip
   refine at_sayO 4 rfl (cs':=(sched b 0).map w32++List.replicate (48 - 0) (w32 0)) (by rw [sched_0]) ?_
   exact at_ex (0) (Nat.zero_le _) [(3,some 3),(4,some 4)] hI rfl rfl ⟨⟨_,rfl,.p rfl⟩,⟨_,rfl,.pure pu⟩,⟨_,rfl,.p rfl⟩,⟨_,rfl,.pure pu⟩,trivial⟩ ⟨.inr ⟨_,_,rfl,rfl,.pure pul⟩,.inr ⟨_,_,rfl,rfl,.pure pul⟩,trivial⟩
  rintro k hk
  refine at_seq<|at_seq<|at_region<|s1 (y_p rfl) rfl<|s1 (y_p rfl) rfl ?_
  refine at_nil<|x_tn ?_
  refine at_cond rfl (fun hc47=>?_) (fun hc47=>?_)
  ·have hk48 : k < 48 := by have := of_decide_eq_true hc47; omega
   refine at_skip<|x_tn<|at_seq<|at_block<|at_seq ?_
   refine at_draw_tail 9 hmix (by kernel_rfl) ?_
   refine t1 (y_p rfl) rfl<|t1 (subN (16+k) 15 rfl rfl rfl rfl (by omega) (by omega)) rfl<|t1 (y_ixa (16+k - 15) Tryz.underlying216 ti183 rfl rfl rfl (by omega) rfl) rfl<|t1 (y_load ti183 rfl rfl (getW (16+k - 15) (by first|rfl|omega|(simp<;>omega)|(simp [*]<;>omega)|(simp [D32.len, -List.length_flatten, *]<;>omega)) rfl)) rfl<|t1 (y_p rfl) rfl<|t1 (subN (16+k) 2 rfl rfl rfl rfl (by omega) (by omega)) rfl<|t1 (y_ixa (16+k - 2) Tryz.underlying216 ti183 rfl rfl rfl (by omega) rfl) rfl<|t1 (y_load ti183 rfl rfl (getW (16+k - 2) (by first|rfl|omega|(simp<;>omega)|(simp [*]<;>omega)|(simp [D32.len, -List.length_flatten, *]<;>omega)) rfl)) rfl<|t1 (y_p rfl) rfl ?_
   refine at_snil ?_
   refine s1 (y_p rfl) rfl ?_
   refine at_nil<|x_tn<|at_seq<|at_region<|s1 (y_p rfl) rfl ?_
   refine at_op rfl (n_call false rfl (.cons (.pure pu) (.cons (.pure pu) (.nil))) (rot7 _) pu (.inl rfl) rfl ?_)
   refine s1 (y_p rfl) rfl ?_
   refine at_op rfl (n_call false rfl (.cons (.pure pu) (.cons (.pure pu) (.nil))) (rot18 _) pu (.inl rfl) rfl ?_)
   refine s1 (xor32 _ _ rfl rfl) rfl<|s1 (y_p rfl) rfl<|s1 (shr32 _ 3 rfl rfl rfl (by decide)) rfl<|s1 (xor32 _ _ rfl rfl) rfl<|s1 (y_p rfl) rfl ?_
   refine at_nil<|x_tn<|at_seq<|at_region<|s1 (y_p rfl) rfl ?_
   refine at_op rfl (n_call false rfl (.cons (.pure pu) (.cons (.pure pu) (.nil))) (rot17 _) pu (.inl rfl) rfl ?_)
   refine s1 (y_p rfl) rfl ?_
   refine at_op rfl (n_call false rfl (.cons (.pure pu) (.cons (.pure pu) (.nil))) (rot19 _) pu (.inl rfl) rfl ?_)
   refine s1 (xor32 _ _ rfl rfl) rfl<|s1 (y_p rfl) rfl<|s1 (shr32 _ 10 rfl rfl rfl (by decide)) rfl<|s1 (xor32 _ _ rfl rfl) rfl<|s1 (y_p rfl) rfl ?_
   refine at_nil<|x_tn ?_
   refine at_draw_tail 15 hmix (by kernel_rfl) ?_
   refine t1 (y_p rfl) rfl<|t1 (y_p rfl) rfl<|t1 (subN (16+k) 16 rfl rfl rfl rfl (by omega) (by omega)) rfl<|t1 (y_ixa (16+k - 16) Tryz.underlying216 ti183 rfl rfl rfl (by omega) rfl) rfl<|t1 (y_load ti183 rfl rfl (getW (16+k - 16) (by first|rfl|omega|(simp<;>omega)|(simp [*]<;>omega)|(simp [D32.len, -List.length_flatten, *]<;>omega)) rfl)) rfl<|t1 (y_p rfl) rfl<|t1 (add32 _ _ rfl rfl) rfl<|t1 (y_p rfl) rfl<|t1 (subN (16+k) 7 rfl rfl rfl rfl (by omega) (by omega)) rfl<|t1 (y_ixa (16+k - 7) Tryz.underlying216 ti183 rfl rfl rfl (by omega) rfl) rfl ?_
   refine t1 (y_load ti183 rfl rfl (getW (16+k - 7) (by first|rfl|omega|(simp<;>omega)|(simp [*]<;>omega)|(simp [D32.len, -List.length_flatten, *]<;>omega)) rfl)) rfl<|t1 (add32 _ _ rfl rfl) rfl<|t1 (y_p rfl) rfl<|t1 (add32 _ _ rfl rfl) rfl<|t1 (y_ixa (16+k) Tryz.underlying216 ti183 rfl rfl rfl (by omega) rfl) rfl ?_
   refine at_snil ?_
   refine at_op rfl (n_store1 ti183 rfl rfl rfl rfl (by first|rfl|omega|(simp<;>omega)|(simp [*]<;>omega)|(simp [D32.len, -List.length_flatten, *]<;>omega)) (set_sched b k _ (by omega) rfl) ?_)
   refine at_nil<|x_bn<|x_tn<|at_region<|s1 (y_p rfl) rfl<|s1 (addN _ 1 rfl rfl rfl rfl (by omega)) rfl<|s1 (y_p rfl) rfl ?_
   refine at_nil ?_
   exact at_end (k+1) (by omega) (by omega) [(3,some 3),(4,some 4)] hI rfl rfl ⟨⟨_,rfl,.p rfl⟩,⟨_,rfl,.pure pu⟩,⟨_,rfl,.p rfl⟩,⟨_,rfl,.pure pu⟩,trivial⟩ ⟨.inr ⟨_,_,rfl,rfl,.pure pul⟩,.inr ⟨_,_,rfl,rfl,.pure pul⟩,trivial⟩
  ·have hk48 : k = 48 := by have := of_decide_eq_false hc47; omega
   subst hk48
   refine at_exit<|x_te<|x_te<|x_be<|x_tn<|at_seq<|at_region<|s1 (y_p rfl) rfl<|s1 (y_nilc rfl rfl) rfl<|s1 (y_loadA0 ti185 rfl rfl (by first|rfl|omega|(simp<;>omega)|(simp [*]<;>omega)|(simp [D32.len, -List.length_flatten, *]<;>omega))) rfl ?_
   refine at_op rfl (n_alloc 12 rfl ti185 rfl rfl ?_)
   refine at_op rfl (n_storeA ti185 rfl rfl rfl (by simp) (by simp) ?_)
   refine at_nil<|x_tn<|at_seq<|at_seq<|at_region<|s1 ((y_p rfl).v (v':= .i .i64 0) rfl) rfl ?_
   refine at_nil<|x_tn<|at_block ?_
   refine at_loop (ι:=Nat) (fun t=> [(0,.p 3 0),(4,.p 4 0),(12,.p 12 0),(92,.i .i64 (t:Nat))]) (fun t=>⟨[(3,some (s.l.map w32)),(4,some ((sched b 48).map w32)),(12,some ((rounds (sched b 48) s t).l.map w32))]⟩) (fun t=>t≤64) (fun t=>64 - t) ?_ ?_
   ·skip
    refine at_sayO 4 rfl (cs':=(sched b 48).map w32) (by simp) ?_
    exact at_ex (0) (Nat.zero_le _) [(3,some 3),(4,some 4),(12,some 12)] hI rfl rfl ⟨⟨_,rfl,.p rfl⟩,⟨_,rfl,.p rfl⟩,⟨_,rfl,.p rfl⟩,⟨_,rfl,.pure pu⟩,trivial⟩ ⟨.inr ⟨_,_,rfl,rfl,.pure pul⟩,.inr ⟨_,_,rfl,rfl,.pure pul⟩,.inr ⟨_,_,rfl,rfl,.pure pul⟩,trivial⟩
   rintro t ht
   refine at_seq<|at_region<|s1 (y_p rfl) rfl ?_
   refine at_nil<|x_tn<|at_seq ?_
   refine at_cond rfl (fun hc93=>?_) (fun hc93=>?_)
   ·have ht64 : t < 64 := by have := of_decide_eq_true hc93; omega
    refine at_skip<|x_tn<|at_seq<|at_block<|at_seq<|at_region<|s1 (y_p rfl) rfl<|s1 (y_p rfl) rfl ?_
    refine at_nil<|x_tn<|at_seq ?_
    refine at_draw_tail 11 hmix (by kernel_rfl) ?_
    refine t1 (y_ixa 0 Tryz.underlying185 ti183 rfl rfl rfl (by omega) rfl) rfl<|t1 (y_load ti183 rfl rfl rfl) rfl<|t1 (y_ixa 1 Tryz.underlying185 ti183 rfl rfl rfl (by omega) rfl) rfl<|t1 (y_load ti183 rfl rfl rfl) rfl<|t1 (y_ixa 2 Tryz.underlying185 ti183 rfl rfl rfl (by omega) rfl) rfl<|t1 (y_load ti183 rfl rfl rfl) rfl<|t1 (y_ixa 4 Tryz.underlying185 ti183 rfl rfl rfl (by omega) rfl) rfl<|t1 (y_load ti183 rfl rfl rfl) rfl<|t1 (y_p rfl) rfl<|t1 (y_p rfl) rfl ?_
    refine t1 (y_p rfl) rfl ?_
    refine at_snil ?_
    refine s1 (y_p rfl) rfl ?_
    refine at_nil<|x_tn<|at_seq<|at_region<|s1 (y_p rfl) rfl ?_
    refine at_op rfl (n_call false rfl (.cons (.pure pu) (.cons (.pure pu) (.nil))) (rot6 _) pu (.inl rfl) rfl ?_)
    refine s1 (y_p rfl) rfl ?_
    refine at_op rfl (n_call false rfl (.cons (.pure pu) (.cons (.pure pu) (.nil))) (rot11 _) pu (.inl rfl) rfl ?_)
    refine s1 (xor32 _ _ rfl rfl) rfl<|s1 (y_p rfl) rfl ?_
    refine at_op rfl (n_call false rfl (.cons (.pure pu) (.cons (.pure pu) (.nil))) (rot25 _) pu (.inl rfl) rfl ?_)
    refine s1 (xor32 _ _ rfl rfl) rfl<|s1 (y_p rfl) rfl ?_
    refine at_nil<|x_tn<|at_seq ?_
    refine at_draw_tail 23 hmix (by kernel_rfl) ?_
    refine t1 (y_ixa 7 Tryz.underlying185 ti183 rfl rfl rfl (by omega) rfl) rfl<|t1 (y_load ti183 rfl rfl rfl) rfl<|t1 (y_p rfl) rfl<|t1 (add32 _ _ rfl rfl) rfl<|t1 (y_p rfl) rfl<|t1 (y_ixa 5 Tryz.underlying185 ti183 rfl rfl rfl (by omega) rfl) rfl<|t1 (y_load ti183 rfl rfl rfl) rfl<|t1 (and32 _ _ rfl rfl) rfl<|t1 (y_p rfl) rfl<|t1 (not32 _ rfl) rfl ?_
    refine t1 (y_ixa 6 Tryz.underlying185 ti183 rfl rfl rfl (by omega) rfl) rfl<|t1 (y_load ti183 rfl rfl rfl) rfl<|t1 (and32 _ _ rfl rfl) rfl<|t1 (xor32 _ _ rfl rfl) rfl<|t1 (add32 _ _ rfl rfl) rfl<|t1 (y_p rfl) rfl<|t1 (y_ixfa t Tryz.underlying216 ti183 rfl rfl rfl (by omega) rfl) rfl<|t1 (y_load ti183 rfl rfl (getK t ht64)) rfl<|t1 (add32 _ _ rfl rfl) rfl<|t1 (y_p rfl) rfl ?_
    refine t1 (y_ixa t Tryz.underlying216 ti183 rfl rfl rfl (by omega) rfl) rfl<|t1 (y_load ti183 rfl rfl (getW2 t (by first|rfl|omega|(simp<;>omega)|(simp [*]<;>omega)|(simp [D32.len, -List.length_flatten, *]<;>omega)) rfl)) rfl<|t1 (add32 _ _ rfl rfl) rfl ?_
    refine at_snil ?_
    refine s1 (y_p rfl) rfl ?_
    refine at_nil<|x_tn<|at_seq<|at_region<|s1 (y_p rfl) rfl ?_
    refine at_op rfl (n_call false rfl (.cons (.pure pu) (.cons (.pure pu) (.nil))) (rot2 _) pu (.inl rfl) rfl ?_)
    refine s1 (y_p rfl) rfl ?_
    refine at_op rfl (n_call false rfl (.cons (.pure pu) (.cons (.pure pu) (.nil))) (rot13 _) pu (.inl rfl) rfl ?_)
    refine s1 (xor32 _ _ rfl rfl) rfl<|s1 (y_p rfl) rfl ?_
    refine at_op rfl (n_call false rfl (.cons (.pure pu) (.cons (.pure pu) (.nil))) (rot22 _) pu (.inl rfl) rfl ?_)
    refine s1 (xor32 _ _ rfl rfl) rfl<|s1 (y_p rfl) rfl ?_
    refine at_nil<|x_tn<|at_seq<|at_region<|s1 (y_p rfl) rfl<|s1 (y_p rfl) rfl<|s1 (y_p rfl) rfl<|s1 (and32 _ _ rfl rfl) rfl<|s1 (y_p rfl) rfl<|s1 (y_p rfl) rfl<|s1 (and32 _ _ rfl rfl) rfl<|s1 (xor32 _ _ rfl rfl) rfl<|s1 (y_p rfl) rfl<|s1 (y_p rfl) rfl ?_
    refine s1 (and32 _ _ rfl rfl) rfl<|s1 (xor32 _ _ rfl rfl) rfl<|s1 (add32 _ _ rfl rfl) rfl<|s1 (y_p rfl) rfl ?_
    refine at_nil<|x_tn<|at_region<|s1 (y_p rfl) rfl<|s1 (y_p rfl) rfl<|s1 (add32 _ _ rfl rfl) rfl<|s1 (y_p rfl) rfl<|s1 (y_p rfl) rfl<|s1 (y_p rfl) rfl<|s1 (y_ixa 3 Tryz.underlying185 ti183 rfl rfl rfl (by omega) rfl) rfl<|s1 (y_load ti183 rfl rfl rfl) rfl<|s1 (y_p rfl) rfl<|s1 (add32 _ _ rfl rfl) rfl ?_
    refine s1 (y_p rfl) rfl<|s1 (y_ixa 5 Tryz.underlying185 ti183 rfl rfl rfl (by omega) rfl) rfl<|s1 (y_load ti183 rfl rfl rfl) rfl<|s1 (y_ixa 6 Tryz.underlying185 ti183 rfl rfl rfl (by omega) rfl) rfl<|s1 (y_load ti183 rfl rfl rfl) rfl<|s1 (y_bldA (vs:= [_,_,_,_,_,_,_,_]) ti185 rfl Tryz.underlying185 ti183 rfl rfl rfl rfl) rfl ?_
    refine at_op rfl (n_storeA ti185 rfl rfl rfl (by simp) (by simp) ?_)
    refine at_nil<|x_bn<|x_tn<|at_region<|s1 (addN _ 1 rfl rfl rfl rfl (by omega)) rfl<|s1 (y_p rfl) rfl ?_
    refine at_nil ?_
    exact at_end (t+1) (by omega) (by omega) [(3,some 3),(4,some 4),(12,some 12)] hI rfl rfl ⟨⟨_,rfl,.p rfl⟩,⟨_,rfl,.p rfl⟩,⟨_,rfl,.p rfl⟩,⟨_,rfl,.pure pu⟩,trivial⟩ ⟨.inr ⟨_,_,rfl,rfl,.pure pul⟩,.inr ⟨_,_,rfl,rfl,.pure pul⟩,.inr ⟨_,_,rfl,rfl,.pure pul⟩,trivial⟩
   ·have ht64 : t = 64 := by have := of_decide_eq_false hc93; omega
    subst ht64
    refine at_exit<|x_te<|x_te<|x_be<|x_tn<|at_seq<|at_region<|s1 ((y_p rfl).v (v':= .i .i64 0) rfl) rfl ?_
    refine at_nil<|x_tn<|at_block ?_
    refine at_loop (ι:=Nat) (fun i=> [(0,.p 3 0),(12,.p 12 0),(172,.i .i64 (i:Nat))]) (fun i=>⟨[(3,some ((sumS s (rounds (sched b 48) s 64) i).map w32)),(12,some ((rounds (sched b 48) s 64).l.map w32))]⟩) (fun i=>i≤8) (fun i=>8 - i) ?_ ?_
    ·exact at_ex (0) (Nat.zero_le _) [(3,some 3),(12,some 12)] hI rfl rfl ⟨⟨_,rfl,.p rfl⟩,⟨_,rfl,.p rfl⟩,⟨_,rfl,.pure pu⟩,trivial⟩ ⟨.inr ⟨_,_,rfl,rfl,.pure pul⟩,.inr ⟨_,_,rfl,rfl,.pure pul⟩,trivial⟩
    rintro i hi
    refine at_seq<|at_region<|s1 (y_p rfl) rfl ?_
    refine at_nil<|x_tn<|at_seq ?_
    refine at_cond rfl (fun hc173=>?_) (fun hc173=>?_)
    ·have hi8 : i < 8 := by have := of_decide_eq_true hc173; omega
     refine at_skip<|x_tn<|at_seq<|at_block<|at_seq<|at_region<|s1 (y_p rfl) rfl<|s1 (y_p rfl) rfl ?_
     refine at_nil<|x_tn ?_
     refine at_draw_tail 11 hmix (by kernel_rfl) ?_
     refine t1 (y_p rfl) rfl<|t1 (y_p rfl) rfl<|t1 (y_nilc rfl rfl) rfl<|t1 (y_ixa i Tryz.underlying185 ti183 rfl rfl rfl (by omega) rfl) rfl<|t1 (y_load ti183 rfl rfl (getW2 i (by rw [len_sumS];omega) rfl)) rfl<|t1 (y_p rfl) rfl<|t1 (y_ixa i Tryz.underlying185 ti183 rfl rfl rfl (by omega) rfl) rfl<|t1 (y_load ti183 rfl rfl (getW2 i (by rw [len_l];omega) rfl)) rfl<|t1 (add32 _ _ rfl rfl) rfl<|t1 (y_nilc rfl rfl) rfl ?_
     refine t1 (y_ixa i Tryz.underlying185 ti183 rfl rfl rfl (by omega) rfl) rfl ?_
     refine at_snil ?_
     refine at_op rfl (n_store1 ti183 rfl rfl rfl rfl (by rw [List.length_map,len_sumS];omega) (set_sum s _ i (by omega)) ?_)
     refine at_nil<|x_bn<|x_tn<|at_region<|s1 (addN _ 1 rfl rfl rfl rfl (by omega)) rfl<|s1 (y_p rfl) rfl ?_
     refine at_nil ?_
     exact at_end (i+1) (by omega) (by omega) [(3,some 3),(12,some 12)] hI rfl rfl ⟨⟨_,rfl,.p rfl⟩,⟨_,rfl,.p rfl⟩,⟨_,rfl,.pure pu⟩,trivial⟩ ⟨.inr ⟨_,_,rfl,rfl,.pure pul⟩,.inr ⟨_,_,rfl,rfl,.pure pul⟩,trivial⟩
    ·have hi8 : i = 8 := by have := of_decide_eq_false hc173; omega
     subst hi8
     refine at_exit<|x_te<|x_te<|x_be ?_
     refine at_result' (rs:= []) rfl r_nil (retS_1 (congrArg (fun l=>some (List.map w32 l)) (sum_8 _ _)))
end Go.Abs.D2
-- D2D
namespace Go.Abs.D2
open Go Go.Eng Go.Abs Go.Proofs
end Go.Abs.D2
-- D2F
namespace Go.Abs.D2
open Go Go.Eng Go.Abs Go.Proofs
theorem blocks_ok (parts:List (List UInt8)) (hk:parts.length≤1048576) (ht:parts.flatten.length≤140737488300000):ConS Tryz.prog 147 [.fn (.func 148) [.p 3 0] [],.fz parts.length (parts.map slA)] ⟨[(3,some (h0.l.map w32))]⟩ (RetS (.tu []) [(3,(fin parts.flatten).l.map w32)]):=by
 refine enterS Tryz.func147 rfl Tryz.ntmps147 (by kernel_rfl) (Nat.le_of_ble_eq_true rfl) fun w0 X0 hI=>?_
 refine at_seq<|at_region ?_
 refine at_op rfl (n_alloc 4 rfl ti214 rfl rfl ?_)
 refine at_nil<|x_tn<|at_seq<|at_region<|s1 ((y_p rfl).v (v':= .i .i64 0) rfl) rfl<|s1 ((y_p rfl).v (v':= .i .u64 0) rfl) rfl ?_
 refine at_nil<|x_tn<|at_seq<|at_seq<|at_region<|s1 (y_p rfl) rfl<|s1 (y_len Tryz.underlying182 rfl rfl rfl) rfl<|s1 ((y_p rfl).v (v':= .i .i64 0) rfl) rfl ?_
 refine at_nil<|x_tn<|at_block ?_
 refine at_loop (ι:=List UInt8×List UInt8×Nat) (fun⟨s,tl,i⟩=> [(0,.fn (.func 148) [.p 3 0] []),(4,.p 4 0),(5,.i .i64 ((s.length % 64):Nat)),(6,w64 (c64 s.length)),(11,.fz parts.length (parts.map slA)),(12,.i .i64 (parts.length:Nat)),(13,.i .i64 (i:Nat))]) (fun⟨s,tl,i⟩=>⟨[(3,some ((hs s).l.map w32)),(4,some ((rem s++tl).map u8))]⟩) (fun⟨s,tl,i⟩=>s=(parts.take i).flatten∧i≤parts.length∧tl.length=64 - (s.length % 64)) (fun⟨s,tl,i⟩=>parts.length - i) ?_ ?_
 ·exact at_ex (([],List.replicate 64 0,0)) (⟨by simp,Nat.zero_le _,by simp⟩) [(3,some 3),(4,some 4)] hI rfl rfl ⟨⟨_,rfl,.fn (.cons (.p rfl) .nil) .nil⟩,⟨_,rfl,.p rfl⟩,⟨_,rfl,.of rfl (.pure pu)⟩,⟨_,rfl,.of rfl (.pure pu)⟩,⟨_,rfl,.pure pu⟩,⟨_,rfl,.pure pu⟩,⟨_,rfl,.pure pu⟩,trivial⟩ ⟨.inr ⟨_,_,rfl,rfl,.of rfl (.pure pul)⟩,.inr ⟨_,_,rfl,rfl,.of zeros_64 (.pure pul)⟩,trivial⟩
 rintro⟨s,tl,i⟩ ⟨hs0,hi,htl⟩
 dsimp only
 have hmod:=Nat.mod_lt s.length (show 0<64 by decide)
 refine at_seq<|at_region<|s1 (y_p rfl) rfl ?_
 refine at_nil<|x_tn<|at_seq ?_
 refine at_cond rfl (fun hc14=>?_) (fun hc14=>?_)
 ·have hi2 : i < parts.length := by have := of_decide_eq_true hc14; omega
  obtain⟨p,hp⟩:∃p,parts[i]? =some p:=⟨_,List.getElem?_eq_getElem hi2⟩
  have hpl:=len_part (List.mem_of_getElem? hp)
  refine at_skip<|x_tn<|at_seq<|at_block<|at_seq<|at_region<|s1 (y_ixf i Tryz.underlying182 ti68 rfl rfl rfl (by omega) rfl) rfl<|s1 (y_load ti68 rfl rfl (getP hp)) rfl<|s1 (y_p rfl) rfl ?_
  refine at_nil<|x_tn<|at_seq<|at_region<|s1 (y_p rfl) rfl<|s1 (y_p rfl) rfl<|s1 (y_len Tryz.underlying68 rfl rfl rfl) rfl<|s1 (ofN_64 p.length Tryz.underlying3 Tryz.underlying198 rfl rfl) rfl<|s1 (add64 (c64 s.length) (c64 p.length) rfl rfl) rfl<|s1 (y_p rfl) rfl ?_
  refine at_nil<|x_tn<|at_block ?_
  refine at_loop (ι:=Nat×List UInt8) (fun⟨j,tl2⟩=> [(0,.fn (.func 148) [.p 3 0] []),(4,.p 4 0),(5,.i .i64 (((s++p.take j).length % 64):Nat)),(6,w64 (c64 s.length+c64 p.length)),(8,.fz (p.length - j) ((p.drop j).map u8)),(11,.fz parts.length (parts.map slA)),(12,.i .i64 (parts.length:Nat)),(13,.i .i64 (i:Nat))]) (fun⟨j,tl2⟩=>⟨[(3,some ((hs (s++p.take j)).l.map w32)),(4,some ((rem (s++p.take j)++tl2).map u8))]⟩) (fun⟨j,tl2⟩=>j≤p.length∧tl2.length=64 - ((s++p.take j).length % 64)) (fun⟨j,tl2⟩=>p.length - j) ?_ ?_
  ·exact at_ex ((0,tl)) (⟨Nat.zero_le _,by rw [at0];exact htl⟩) [(3,some 3),(4,some 4)] hI rfl rfl ⟨⟨_,rfl,.fn (.cons (.p rfl) .nil) .nil⟩,⟨_,rfl,.p rfl⟩,⟨_,rfl,.of (by rw [at0]) (.pure pu)⟩,⟨_,rfl,.pure pu⟩,⟨_,rfl,.pure pu⟩,⟨_,rfl,.pure pu⟩,⟨_,rfl,.pure pu⟩,⟨_,rfl,.pure pu⟩,trivial⟩ ⟨.inr ⟨_,_,rfl,rfl,.of (by rw [at0]) (.pure pul)⟩,.inr ⟨_,_,rfl,rfl,.of (by rw [at0]) (.pure pul)⟩,trivial⟩
  rintro⟨j,tl2⟩ ⟨hj,htl2⟩
  dsimp only
  have hSL:(s++p.take j).length=s.length+min j p.length:=by rw [List.length_append,List.length_take]
  have hmod1:=Nat.mod_lt (s++p.take j).length (show 0<64 by decide)
  refine at_seq<|at_seq<|at_region<|s1 (y_p rfl) rfl<|s1 (y_len Tryz.underlying68 rfl rfl rfl) rfl<|s1 (y_p rfl) rfl ?_
  refine at_nil<|x_tn ?_
  refine at_cond rfl (fun hc24=>?_) (fun hc24=>?_)
  ·have hj2 : j < p.length := by have := of_decide_eq_true hc24; omega
   have hc1:fitN p (s++p.take j) j≤p.length - j:=Nat.min_le_left _ _
   have hc2:fitN p (s++p.take j) j≤64 - ((s++p.take j).length % 64):=Nat.min_le_right _ _
   have hc0:0<fitN p (s++p.take j) j:=Nat.lt_min.2 ⟨by omega,by omega⟩
   obtain⟨c,hcd⟩:∃c,c=fitN p (s++p.take j) j:=⟨_,rfl⟩
   rw [←hcd]at hc0 hc1 hc2
   refine at_skip<|x_tn<|at_block<|at_seq<|at_region<|s1 (y_p rfl) rfl<|s1 (y_cuta (o':=((s++p.take j).length % 64)) (64 - ((s++p.take j).length % 64)) Tryz.underlying214 ti5 rfl rfl (by simp only [List.length_map,List.length_append,List.length_cons,List.length_nil,List.length_replicate,List.length_drop,List.length_take,len_rem,len_lastB,len_be64]<;>omega) (by simp [maxLen]) (bs rfl rfl) bn (by omega) (by omega) rfl (by rw [if_neg (by omega)];omega)) rfl<|s1 (y_p rfl) rfl ?_
   refine at_op rfl (n_copyC (c) Tryz.underlying68 ti5 rfl rfl rfl rfl (by first|rfl|omega|(simp<;>omega)|(simp [*]<;>omega)|(simp [D32.len, -List.length_flatten, *]<;>omega)) hcd hc0 (by simp only [List.length_map,List.length_append,List.length_cons,List.length_nil,List.length_replicate,List.length_drop,List.length_take,len_rem,len_lastB,len_be64]<;>omega) (buf_copy _ _ _ _ _) rfl ?_)
   refine s1 (y_p rfl) rfl ?_
   refine at_nil<|x_tn<|at_seq ?_
   refine at_fs ⟨_, [5], [(0, [5])]⟩ 7 4 hmix (le_refl rfl) ?_
   refine fs_q 0 [] [] (y_p rfl) rfl rfl ?_
   refine fs_q 1 [] [] (y_p rfl) rfl rfl ?_
   refine fs_q 2 [0,1] [] (addN _ _ rfl rfl rfl rfl (by omega)) rfl rfl ?_
   refine fs_q 3 [] [] (y_p rfl) rfl rfl ?_
   refine fs_q 4 [] [] (y_p rfl) rfl rfl ?_
   refine fs_q 5 [3,4] [] ((y_cutf (p.length - (j+c)) Tryz.underlying68 ti5 rfl (by simp) (bs rfl rfl) bn (by omega) (by omega) (by omega) rfl).v (congrArg (A.fz _) (cut_p p j c))) rfl rfl ?_
   refine fs_q 6 [2] [] (y_p rfl) rfl rfl ?_
   refine fs_end (by kernel_rfl) ?_
   refine s1 (y_p rfl) rfl ?_
   refine at_nil<|x_tn<|at_seq<|at_region<|s1 (y_p rfl) rfl<|s1 (y_p rfl) rfl ?_
   refine at_nil<|x_tn ?_
   refine at_cond rfl (fun hc36=>?_) (fun hc36=>?_)
   ·obtain ⟨r1, r2, r3⟩ := next_full (s := s) hc1 htl2 (by have := of_decide_eq_true hc36; omega)
    refine at_seq<|at_region<|s1 (y_p rfl) rfl<|s1 (y_cuta0 Tryz.underlying214 ti5 rfl rfl (by simp only [List.length_map,List.length_append,List.length_cons,List.length_nil,List.length_replicate,List.length_drop,List.length_take,len_rem,len_lastB,len_be64]<;>omega) (by simp [maxLen])) rfl ?_
    refine at_op rfl (n_callG ⟨[(3,some ((hs (s++p.take j)).l.map w32))]⟩ [(3,(comp (hs (s++p.take j)) (rem (s++p.take j)++(p.drop j).take c++tl2.drop c)).l.map w32)] true rfl rfl ⟨⟨rfl,VwL.pure pul⟩,trivial⟩ (.cons (.kp rfl) (.cons (.sl rfl rfl rfl (view_eq (by simp only [List.length_map,List.length_append,List.length_cons,List.length_nil,List.length_replicate,List.length_drop,List.length_take,len_rem,len_lastB,len_be64]<;>omega) rfl) (VwL.pure pul) pul) .nil)) (absorb_ok _ (rem (s++p.take j)++(p.drop j).take c++tl2.drop c) (by simp only [List.length_map,List.length_append,List.length_cons,List.length_nil,List.length_replicate,List.length_drop,List.length_take,len_rem,len_lastB,len_be64]<;>omega)) trivial (.inr trivial) (upd_1 (c0:=(hs (s++p.take j)).l.map w32) rfl pul ful) rfl ?_)
    refine at_nil<|x_tn<|at_region<|s1 ((y_p rfl).v (v':= .i .i64 0) rfl) rfl ?_
    refine at_nil<|x_bn ?_
    exact at_end (x:=(j,tl2)) ((j+c,rem (s++p.take j)++(p.drop j).take c++tl2.drop c)) (⟨by dsimp only;omega,by dsimp only;rw [r3];simp only [List.length_append,len_rem,List.length_take,List.length_drop];omega⟩) (by dsimp only;omega) [(3,some 3),(4,some 4)] hI rfl rfl ⟨⟨_,rfl,.fn (.cons (.p rfl) .nil) .nil⟩,⟨_,rfl,.p rfl⟩,⟨_,rfl,.of (congrArg (fun k:Nat=>A.i .i64 (k:Int)) r3.symm) (.pure pu)⟩,⟨_,rfl,.pure pu⟩,⟨_,rfl,.pure pu⟩,⟨_,rfl,.pure pu⟩,⟨_,rfl,.pure pu⟩,⟨_,rfl,.pure pu⟩,trivial⟩ ⟨.inr ⟨_,_,rfl,rfl,.of (by rw [r2]) (.pure pul)⟩,.inr ⟨_,_,rfl,rfl,.of (by rw [r1,List.nil_append]) (.pure pul)⟩,trivial⟩
   ·obtain ⟨r1, r2, r3⟩ := next_part (s := s) hc1 (by have := of_decide_eq_false hc36; omega)
    refine at_skip<|x_bn ?_
    exact at_end (x:=(j,tl2)) ((j+c,tl2.drop c)) (⟨by dsimp only;omega,by dsimp only;rw [r3,List.length_drop];omega⟩) (by dsimp only;omega) [(3,some 3),(4,some 4)] hI rfl rfl ⟨⟨_,rfl,.fn (.cons (.p rfl) .nil) .nil⟩,⟨_,rfl,.p rfl⟩,⟨_,rfl,.of (congrArg (fun k:Nat=>A.i .i64 (k:Int)) r3.symm) (.pure pu)⟩,⟨_,rfl,.pure pu⟩,⟨_,rfl,.pure pu⟩,⟨_,rfl,.pure pu⟩,⟨_,rfl,.pure pu⟩,⟨_,rfl,.pure pu⟩,trivial⟩ ⟨.inr ⟨_,_,rfl,rfl,.of (by rw [r2]) (.pure pul)⟩,.inr ⟨_,_,rfl,rfl,.of (by rw [r1]) (.pure pul)⟩,trivial⟩
  ·have hj2 : j = p.length := by have := of_decide_eq_false hc24; omega
   subst hj2
   refine at_exit<|x_te<|x_te<|x_be<|x_bn<|x_tn<|at_region<|s1 (addN _ 1 rfl rfl rfl rfl (by omega)) rfl<|s1 (y_p rfl) rfl ?_
   refine at_nil ?_
   exact at_end (x:=(s,tl,i)) ((s++p.take p.length,tl2,i+1)) (⟨by rw [hs0];exact cat_p hp,by dsimp only;omega,htl2⟩) (by dsimp only;omega) [(3,some 3),(4,some 4)] hI rfl rfl ⟨⟨_,rfl,.fn (.cons (.p rfl) .nil) .nil⟩,⟨_,rfl,.p rfl⟩,⟨_,rfl,.pure pu⟩,⟨_,rfl,.of (add_len s p) (.pure pu)⟩,⟨_,rfl,.pure pu⟩,⟨_,rfl,.pure pu⟩,⟨_,rfl,.pure pu⟩,trivial⟩ ⟨.inr ⟨_,_,rfl,rfl,.pure pul⟩,.inr ⟨_,_,rfl,rfl,.pure pul⟩,trivial⟩
 ·have hi2 : i = parts.length := by have := of_decide_eq_false hc14; omega
  subst hi2
  rw [List.take_length]at hs0
  have hsl:s.length≤140737488300000:=by rw [hs0];exact ht
  refine at_exit<|x_te<|x_te<|x_be<|x_tn<|at_seq<|at_region<|s1 (y_p rfl) rfl<|s1 (y_ixa (s.length % 64) Tryz.underlying214 ti5 rfl rfl rfl (by omega) rfl) rfl ?_
  refine at_op rfl (n_store1 ti5 rfl rfl rfl rfl (by simp only [List.length_map,List.length_append,List.length_cons,List.length_nil,List.length_replicate,List.length_drop,List.length_take,len_rem,len_lastB,len_be64]<;>omega) (set_128 s tl htl) ?_)
  refine at_nil<|x_tn<|at_seq<|at_region<|s1 (y_p rfl) rfl<|s1 (addN _ 1 rfl rfl rfl rfl (by omega)) rfl<|s1 (y_cuta (64 - ((s.length % 64)+1)) Tryz.underlying214 ti5 rfl rfl (by simp only [List.length_map,List.length_append,List.length_cons,List.length_nil,List.length_replicate,List.length_drop,List.length_take,len_rem,len_lastB,len_be64]<;>omega) (by simp [maxLen]) (bs rfl rfl) bn (by omega) (by omega) rfl rfl) rfl ?_
  refine at_op rfl (n_clear Tryz.underlying68 ti5 rfl rfl rfl (by simp only [List.length_map,List.length_append,List.length_cons,List.length_nil,List.length_replicate,List.length_drop,List.length_take,len_rem,len_lastB,len_be64];split<;>omega) (fill_0 s tl htl _ rfl) rfl ?_)
  refine at_nil<|x_tn<|at_seq<|at_seq<|at_region<|s1 (y_p rfl) rfl<|s1 (addN _ 1 rfl rfl rfl rfl (by omega)) rfl<|s1 (y_p rfl) rfl ?_
  refine at_nil<|x_tn ?_
  refine at_cond rfl (fun hc48=>?_) (fun hc48=>?_)
  ·have hfar : s.length % 64 + 1 > 56 := by have := of_decide_eq_true hc48; omega
   refine at_seq<|at_region<|s1 (y_p rfl) rfl<|s1 (y_cuta0 Tryz.underlying214 ti5 rfl rfl (by simp only [List.length_map,List.length_append,List.length_cons,List.length_nil,List.length_replicate,List.length_drop,List.length_take,len_rem,len_lastB,len_be64]<;>omega) (by simp [maxLen])) rfl ?_
   refine at_op rfl (n_callG ⟨[(3,some ((hs s).l.map w32))]⟩ [(3,(comp (hs s) (rem s++ [128]++List.replicate (63 - s.length % 64) 0)).l.map w32)] true rfl rfl ⟨⟨rfl,VwL.pure pul⟩,trivial⟩ (.cons (.kp rfl) (.cons (.sl rfl rfl rfl (view_eq (by simp only [List.length_map,List.length_append,List.length_cons,List.length_nil,List.length_replicate,List.length_drop,List.length_take,len_rem,len_lastB,len_be64]<;>omega) rfl) (VwL.pure pul) pul) .nil)) (absorb_ok _ (rem s++ [128]++List.replicate (63 - s.length % 64) 0) (by simp only [List.length_map,List.length_append,List.length_cons,List.length_nil,List.length_replicate,List.length_drop,List.length_take,len_rem,len_lastB,len_be64]<;>omega)) trivial (.inr trivial) (upd_1 (c0:=(hs s).l.map w32) rfl pul ful) rfl ?_)
   refine at_nil<|x_tn<|at_region<|s1 (y_cuta0 Tryz.underlying214 ti5 rfl rfl (by simp only [List.length_map,List.length_append,List.length_cons,List.length_nil,List.length_replicate,List.length_drop,List.length_take,len_rem,len_lastB,len_be64]<;>omega) (by simp [maxLen])) rfl ?_
   refine at_op rfl (n_clear Tryz.underlying68 ti5 rfl rfl rfl (by simp only [List.length_map,List.length_append,List.length_cons,List.length_nil,List.length_replicate,List.length_drop,List.length_take,len_rem,len_lastB,len_be64]<;>omega) (clear_64 (by simp only [List.length_map,List.length_append,List.length_cons,List.length_nil,List.length_replicate,List.length_drop,List.length_take,len_rem,len_lastB,len_be64]<;>omega)) rfl ?_)
   refine at_nil<|x_tn<|at_seq<|at_seq ?_
   refine at_sayO 4 rfl (lastB_far hfar) ?_
   refine at_sayO 3 rfl (cs':=(lastS s).l.map w32) (by rw [lastS,if_pos hfar]) ?_
   refine at_region<|s1 ((y_p rfl).v (v':= .i .i64 0) rfl) rfl ?_
   refine at_nil<|x_tn<|at_block ?_
   refine at_loop (ι:=Nat) (fun i=> [(0,.fn (.func 148) [.p 3 0] []),(4,.p 4 0),(6,w64 (c64 s.length)),(53,.i .i64 (i:Nat))]) (fun i=>⟨[(3,some ((lastS s).l.map w32)),(4,some ((lastB s++List.replicate (8 - i) 0++(be64 (8*s.length)).drop (8 - i)).map u8))]⟩) (fun i=>i≤8) (fun i=>8 - i) ?_ ?_
   ·exact at_ex (0) (Nat.zero_le _) [(3,some 3),(4,some 4)] hI rfl rfl ⟨⟨_,rfl,.fn (.cons (.p rfl) .nil) .nil⟩,⟨_,rfl,.p rfl⟩,⟨_,rfl,.pure pu⟩,⟨_,rfl,.pure pu⟩,trivial⟩ ⟨.inr ⟨_,_,rfl,rfl,.pure pul⟩,.inr ⟨_,_,rfl,rfl,.pure pul⟩,trivial⟩
   rintro i hi
   refine at_seq<|at_region<|s1 (y_p rfl) rfl ?_
   refine at_nil<|x_tn<|at_seq ?_
   refine at_cond rfl (fun hc54=>?_) (fun hc54=>?_)
   ·have hi8 : i < 8 := by have := of_decide_eq_true hc54; omega
    refine at_skip<|x_tn<|at_seq<|at_block<|at_seq<|at_region<|s1 (y_p rfl) rfl<|s1 (y_p rfl) rfl ?_
    refine at_nil<|x_tn<|at_region<|s1 (y_p rfl) rfl<|s1 (subN 63 i rfl rfl rfl rfl (by omega) (by omega)) rfl<|s1 (y_p rfl) rfl<|s1 ((mul64 _ (c64 8) rfl rfl).v (v':=w64 (c64 (8*s.length))) (congrArg w64 (by rw [←BitVec.ofNat_mul,Nat.mul_comm]))) rfl<|s1 (y_p rfl) rfl<|s1 (mulN 8 i rfl rfl rfl rfl (by omega)) rfl<|s1 (shr64 _ (8*i) rfl rfl rfl (by omega)) rfl<|s1 ((to8_64 _ Tryz.underlying198 Tryz.underlying5 rfl).v (v':=u8 (UInt8.ofNat (8*s.length / 2 ^ (8*i)))) (congrArg u8 (be_byte _ _ (by omega)))) rfl<|s1 (y_ixa (63 - i) Tryz.underlying214 ti5 rfl rfl rfl (by omega) rfl) rfl ?_
    refine at_op rfl (n_store1 ti5 rfl rfl rfl rfl (by simp only [List.length_map,List.length_append,List.length_cons,List.length_nil,List.length_replicate,List.length_drop,List.length_take,len_rem,len_lastB,len_be64]<;>omega) (set_be s i _ (by omega) rfl) ?_)
    refine at_nil<|x_bn<|x_tn<|at_region<|s1 (addN _ 1 rfl rfl rfl rfl (by omega)) rfl<|s1 (y_p rfl) rfl ?_
    refine at_nil ?_
    exact at_end (i+1) (by omega) (by omega) [(3,some 3),(4,some 4)] hI rfl rfl ⟨⟨_,rfl,.fn (.cons (.p rfl) .nil) .nil⟩,⟨_,rfl,.p rfl⟩,⟨_,rfl,.pure pu⟩,⟨_,rfl,.pure pu⟩,trivial⟩ ⟨.inr ⟨_,_,rfl,rfl,.pure pul⟩,.inr ⟨_,_,rfl,rfl,.pure pul⟩,trivial⟩
   ·have hi8 : i = 8 := by have := of_decide_eq_false hc54; omega
    subst hi8
    refine at_exit<|x_te<|x_te<|x_be<|x_tn<|at_region<|s1 (y_p rfl) rfl<|s1 (y_cuta0 Tryz.underlying214 ti5 rfl rfl (by simp only [List.length_map,List.length_append,List.length_cons,List.length_nil,List.length_replicate,List.length_drop,List.length_take,len_rem,len_lastB,len_be64]<;>omega) (by simp [maxLen])) rfl ?_
    refine at_op rfl (n_callG ⟨[(3,some ((lastS s).l.map w32))]⟩ [(3,(comp (lastS s) (lastB s++be64 (8*s.length))).l.map w32)] true rfl rfl ⟨⟨rfl,VwL.pure pul⟩,trivial⟩ (.cons (.kp rfl) (.cons (.sl rfl rfl rfl (view_eq (by simp only [List.length_map,List.length_append,List.length_cons,List.length_nil,List.length_replicate,List.length_drop,List.length_take,len_rem,len_lastB,len_be64]<;>omega) (by simp)) (VwL.pure pul) pul) .nil)) (absorb_ok _ (lastB s++be64 (8*s.length)) (by simp only [List.length_map,List.length_append,List.length_cons,List.length_nil,List.length_replicate,List.length_drop,List.length_take,len_rem,len_lastB,len_be64]<;>omega)) trivial (.inr trivial) (upd_1 (c0:=(lastS s).l.map w32) rfl pul ful) rfl ?_)
    refine at_nil ?_
    refine at_result' (rs:= []) rfl r_nil (retS_1 (c:=(fin parts.flatten).l.map w32) ?_)
    exact congrArg (fun q:S8=>some (q.l.map w32)) ((fin_last s).trans (by rw [hs0]))
  ·have hfar : ¬ s.length % 64 + 1 > 56 := by have := of_decide_eq_false hc48; omega
   refine at_skip<|x_tn<|at_seq<|at_seq ?_
   refine at_sayO 4 rfl (lastB_near hfar) ?_
   refine at_sayO 3 rfl (cs':=(lastS s).l.map w32) (by rw [lastS,if_neg hfar]) ?_
   refine at_region<|s1 ((y_p rfl).v (v':= .i .i64 0) rfl) rfl ?_
   refine at_nil<|x_tn<|at_block ?_
   refine at_loop (ι:=Nat) (fun i=> [(0,.fn (.func 148) [.p 3 0] []),(4,.p 4 0),(6,w64 (c64 s.length)),(53,.i .i64 (i:Nat))]) (fun i=>⟨[(3,some ((lastS s).l.map w32)),(4,some ((lastB s++List.replicate (8 - i) 0++(be64 (8*s.length)).drop (8 - i)).map u8))]⟩) (fun i=>i≤8) (fun i=>8 - i) ?_ ?_
   ·exact at_ex (0) (Nat.zero_le _) [(3,some 3),(4,some 4)] hI rfl rfl ⟨⟨_,rfl,.fn (.cons (.p rfl) .nil) .nil⟩,⟨_,rfl,.p rfl⟩,⟨_,rfl,.pure pu⟩,⟨_,rfl,.pure pu⟩,trivial⟩ ⟨.inr ⟨_,_,rfl,rfl,.pure pul⟩,.inr ⟨_,_,rfl,rfl,.pure pul⟩,trivial⟩
   rintro i hi
   refine at_seq<|at_region<|s1 (y_p rfl) rfl ?_
   refine at_nil<|x_tn<|at_seq ?_
   refine at_cond rfl (fun hc54=>?_) (fun hc54=>?_)
   ·have hi8 : i < 8 := by have := of_decide_eq_true hc54; omega
    refine at_skip<|x_tn<|at_seq<|at_block<|at_seq<|at_region<|s1 (y_p rfl) rfl<|s1 (y_p rfl) rfl ?_
    refine at_nil<|x_tn<|at_region<|s1 (y_p rfl) rfl<|s1 (subN 63 i rfl rfl rfl rfl (by omega) (by omega)) rfl<|s1 (y_p rfl) rfl<|s1 ((mul64 _ (c64 8) rfl rfl).v (v':=w64 (c64 (8*s.length))) (congrArg w64 (by rw [←BitVec.ofNat_mul,Nat.mul_comm]))) rfl<|s1 (y_p rfl) rfl<|s1 (mulN 8 i rfl rfl rfl rfl (by omega)) rfl<|s1 (shr64 _ (8*i) rfl rfl rfl (by omega)) rfl<|s1 ((to8_64 _ Tryz.underlying198 Tryz.underlying5 rfl).v (v':=u8 (UInt8.ofNat (8*s.length / 2 ^ (8*i)))) (congrArg u8 (be_byte _ _ (by omega)))) rfl<|s1 (y_ixa (63 - i) Tryz.underlying214 ti5 rfl rfl rfl (by omega) rfl) rfl ?_
    refine at_op rfl (n_store1 ti5 rfl rfl rfl rfl (by simp only [List.length_map,List.length_append,List.length_cons,List.length_nil,List.length_replicate,List.length_drop,List.length_take,len_rem,len_lastB,len_be64]<;>omega) (set_be s i _ (by omega) rfl) ?_)
    refine at_nil<|x_bn<|x_tn<|at_region<|s1 (addN _ 1 rfl rfl rfl rfl (by omega)) rfl<|s1 (y_p rfl) rfl ?_
    refine at_nil ?_
    exact at_end (i+1) (by omega) (by omega) [(3,some 3),(4,some 4)] hI rfl rfl ⟨⟨_,rfl,.fn (.cons (.p rfl) .nil) .nil⟩,⟨_,rfl,.p rfl⟩,⟨_,rfl,.pure pu⟩,⟨_,rfl,.pure pu⟩,trivial⟩ ⟨.inr ⟨_,_,rfl,rfl,.pure pul⟩,.inr ⟨_,_,rfl,rfl,.pure pul⟩,trivial⟩
   ·have hi8 : i = 8 := by have := of_decide_eq_false hc54; omega
    subst hi8
    refine at_exit<|x_te<|x_te<|x_be<|x_tn<|at_region<|s1 (y_p rfl) rfl<|s1 (y_cuta0 Tryz.underlying214 ti5 rfl rfl (by simp only [List.length_map,List.length_append,List.length_cons,List.length_nil,List.length_replicate,List.length_drop,List.length_take,len_rem,len_lastB,len_be64]<;>omega) (by simp [maxLen])) rfl ?_
    refine at_op rfl (n_callG ⟨[(3,some ((lastS s).l.map w32))]⟩ [(3,(comp (lastS s) (lastB s++be64 (8*s.length))).l.map w32)] true rfl rfl ⟨⟨rfl,VwL.pure pul⟩,trivial⟩ (.cons (.kp rfl) (.cons (.sl rfl rfl rfl (view_eq (by simp only [List.length_map,List.length_append,List.length_cons,List.length_nil,List.length_replicate,List.length_drop,List.length_take,len_rem,len_lastB,len_be64]<;>omega) (by simp)) (VwL.pure pul) pul) .nil)) (absorb_ok _ (lastB s++be64 (8*s.length)) (by simp only [List.length_map,List.length_append,List.length_cons,List.length_nil,List.length_replicate,List.length_drop,List.length_take,len_rem,len_lastB,len_be64]<;>omega)) trivial (.inr trivial) (upd_1 (c0:=(lastS s).l.map w32) rfl pul ful) rfl ?_)
    refine at_nil ?_
    refine at_result' (rs:= []) rfl r_nil (retS_1 (c:=(fin parts.flatten).l.map w32) ?_)
    exact congrArg (fun q:S8=>some (q.l.map w32)) ((fin_last s).trans (by rw [hs0]))
end Go.Abs.D2
-- D2G
namespace Go.Abs.D2
open Go Go.Eng Go.Abs Go.Proofs
theorem hash_ok (parts:List (List UInt8)) (hk:parts.length≤1048576) (ht:parts.flatten.length≤140737488300000):Con Tryz.prog 97 [.fz parts.length (parts.map slA)] (Ret (.ag ((sha parts.flatten).map u8))):=by
 refine enter Tryz.func97 rfl Tryz.ntmps97 (by kernel_rfl) (Nat.le_of_ble_eq_true rfl) fun w0 X0 hI=>?_
 refine at_seq<|at_region ?_
 refine at_op rfl (n_alloc 2 rfl ti23 rfl rfl ?_)
 refine at_nil<|x_tn<|at_seq<|at_region<|s1 ((y_bldA (vs:= [_,_,_,_,_,_,_,_]) ti185 rfl Tryz.underlying185 ti183 rfl rfl rfl rfl).v (v':= .ag (h0.l.map w32)) (by kernel_rfl)) rfl ?_
 refine at_op rfl (n_alloc 3 rfl ti185 rfl rfl ?_)
 refine at_op rfl (n_storeA ti185 rfl rfl rfl (by first|rfl|omega|(simp<;>omega)|(simp [*]<;>omega)|(simp [D32.len, -List.length_flatten, *]<;>omega)) (by first|rfl|omega|(simp<;>omega)|(simp [*]<;>omega)|(simp [D32.len, -List.length_flatten, *]<;>omega)) ?_)
 refine at_nil<|x_tn<|at_seq<|at_region<|s1 (y_func (us:= [.p 3 0]) (vs:= []) rfl rfl) rfl<|s1 (y_p rfl) rfl ?_
 refine at_op rfl (n_callGd ⟨[(3,some (h0.l.map w32))]⟩ [(3,(fin parts.flatten).l.map w32)] false rfl ⟨⟨rfl,VwL.pure pul⟩,trivial⟩ (.cons (.fn (.cons (.kp rfl) .nil) .nil) (.cons (.pure pu) .nil)) (blocks_ok parts hk ht) trivial (.inl rfl) (upd_1 (c0:=h0.l.map w32) rfl pul ful) rfl ?_)
 refine at_nil<|x_tn<|at_seq<|at_seq<|at_region<|s1 ((y_p rfl).v (v':= .i .i64 0) rfl) rfl ?_
 refine at_nil<|x_tn<|at_block ?_
 refine at_loop (ι:=Nat) (fun i=> [(2,.p 2 0),(3,.p 3 0),(9,.i .i64 (i:Nat))]) (fun i=>⟨[(2,some ((outS (fin parts.flatten) i).map u8++List.replicate (32 - i) (u8 0))),(3,some ((fin parts.flatten).l.map w32))]⟩) (fun i=>i≤32) (fun i=>32 - i) ?_ ?_
 ·exact at_ex (0) (Nat.zero_le _) [(2,some 2),(3,some 3)] hI rfl rfl ⟨⟨_,rfl,.p rfl⟩,⟨_,rfl,.p rfl⟩,⟨_,rfl,.pure pu⟩,trivial⟩ ⟨.inr ⟨_,_,rfl,rfl,.pure pul⟩,.inr ⟨_,_,rfl,rfl,.pure pul⟩,trivial⟩
 rintro i hi
 refine at_seq<|at_region<|s1 (y_p rfl) rfl ?_
 refine at_nil<|x_tn<|at_seq ?_
 refine at_cond rfl (fun hc10=>?_) (fun hc10=>?_)
 ·have hi2 : i < 32 := by have := of_decide_eq_true hc10; omega
  refine at_skip<|x_tn<|at_seq<|at_block<|at_seq<|at_region<|s1 (y_p rfl) rfl<|s1 (y_p rfl) rfl ?_
  refine at_nil<|x_tn<|at_region<|s1 (y_p rfl) rfl<|s1 (y_p rfl) rfl<|s1 (quoN i 4 rfl rfl rfl rfl (by decide) (by omega)) rfl<|s1 (y_ixa (i / 4) Tryz.underlying185 ti183 rfl rfl rfl (by omega) rfl) rfl<|s1 (y_load ti183 rfl rfl (getW2 (i / 4) (by simp;omega) rfl)) rfl<|s1 (y_p rfl) rfl<|s1 (remN i 4 rfl rfl rfl rfl (by decide)) rfl<|s1 (mulN 8 (i % 4) rfl rfl rfl rfl (by omega)) rfl<|s1 (subN 24 (8*(i % 4)) rfl rfl rfl rfl (by omega) (by omega)) rfl<|s1 (shr32 _ (24 - 8*(i % 4)) rfl rfl rfl (by omega)) rfl ?_
  refine s1 (to8_32 _ Tryz.underlying183 Tryz.underlying5 rfl) rfl<|s1 (y_ixa i Tryz.underlying23 ti5 rfl rfl rfl (by omega) rfl) rfl ?_
  refine at_op rfl (n_store1 ti5 rfl rfl rfl rfl (by simp only [List.length_append,List.length_map,List.length_replicate,len_outS];omega) (set_out _ i _ (by omega) rfl) ?_)
  refine at_nil<|x_bn<|x_tn<|at_region<|s1 (addN _ 1 rfl rfl rfl rfl (by omega)) rfl<|s1 (y_p rfl) rfl ?_
  refine at_nil ?_
  exact at_end (i+1) (by omega) (by omega) [(2,some 2),(3,some 3)] hI rfl rfl ⟨⟨_,rfl,.p rfl⟩,⟨_,rfl,.p rfl⟩,⟨_,rfl,.pure pu⟩,trivial⟩ ⟨.inr ⟨_,_,rfl,rfl,.pure pul⟩,.inr ⟨_,_,rfl,rfl,.pure pul⟩,trivial⟩
 ·have hi2 : i = 32 := by have := of_decide_eq_false hc10; omega
  subst hi2
  refine at_exit<|x_te<|x_te<|x_be<|x_tn<|at_seq ?_
  refine at_sayO 2 rfl (cs':=(sha parts.flatten).map u8) (by simp [sha,fin]) ?_
  refine at_region<|s1 (y_loadA0 ti23 rfl rfl (by first|rfl|omega|(simp<;>omega)|(simp [*]<;>omega)|(simp [D32.len, -List.length_flatten, *]<;>omega))) rfl ?_
  refine at_op rfl (n_storeA ti23 rfl rfl rfl (by first|rfl|omega|(simp<;>omega)|(simp [*]<;>omega)|(simp [D32.len, -List.length_flatten, *]<;>omega)) (by first|rfl|omega|(simp<;>omega)|(simp [*]<;>omega)|(simp [D32.len, -List.length_flatten, *]<;>omega)) ?_)
  refine at_nil<|x_tn<|at_ret ?_
  refine at_result (rs:= [.cell 2 23]) rfl (r_cellA ti23 rfl rfl (List.take_of_length_le (by simp)) (by simp) r_nil) rfl
theorem tagged_ok (t b:List UInt8) (hb:b.length≤140737488000000) (hl:t.length≤140737488000000):Con Tryz.prog 50 [.s t,.fz b.length (b.map u8)] (Ret (.ag ((tagged t b).map u8))):=by
 refine enter Tryz.func50 rfl Tryz.ntmps50 (by kernel_rfl) (Nat.le_of_ble_eq_true rfl) fun w0 X0 hI=>?_
 refine at_seq<|at_region ?_
 refine at_op rfl (n_alloc 4 rfl ti23 rfl rfl ?_)
 refine at_nil<|x_tn<|at_seq<|at_region<|s1 (y_p rfl) rfl ?_
 refine at_op rfl (n_s2b Tryz.underlying9 Tryz.underlying68 Tryz.underlying5 rfl (by first|omega|(simp only [maxLen];omega)|(simp [maxLen];done)|(simp [maxLen];omega)|(simp [maxLen, *];omega)) rfl ?_)
 refine at_op rfl (n_bs1 8 rfl Tryz.underlying182 ti68 rfl rfl rfl rfl rfl ?_)
 refine at_op rfl (n_call true rfl (.cons (.sl rfl rfl (by first|rfl|omega|(simp<;>omega)|(simp [*]<;>omega)|(simp [D32.len, -List.length_flatten, *]<;>omega)) (view_eq (by first|rfl|omega|(simp<;>omega)|(simp [*]<;>omega)|(simp [D32.len, -List.length_flatten, *]<;>omega)) (by first|rfl|(simp;done)|(simp [*];done))) (VwL.pure pul) pul) (.nil)) (by simpa using hash_ok [t] (by simp) (by simp;omega)) pu (.inr fu) rfl ?_)
 refine at_op rfl (n_alloc 5 rfl ti23 rfl rfl ?_)
 refine at_op rfl (n_storeA ti23 rfl rfl rfl (by first|rfl|omega|(simp<;>omega)|(simp [*]<;>omega)|(simp [D32.len, -List.length_flatten, *]<;>omega)) (by first|rfl|omega|(simp<;>omega)|(simp [*]<;>omega)|(simp [D32.len, -List.length_flatten, *]<;>omega)) ?_)
 refine at_nil<|x_tn<|at_seq<|at_region<|s1 (y_cuta0 Tryz.underlying23 ti5 rfl rfl (by first|rfl|omega|(simp<;>omega)|(simp [*]<;>omega)|(simp [D32.len, -List.length_flatten, *]<;>omega)) (by simp [maxLen])) rfl<|s1 (y_p rfl) rfl ?_
 refine at_op rfl (n_bs1 12 rfl Tryz.underlying182 ti68 rfl rfl rfl rfl rfl ?_)
 refine at_op rfl (n_call true rfl (.cons (.sl rfl rfl rfl rfl (.cons (.sl rfl rfl rfl (view_eq (by simp) rfl) (VwL.pure pul) pul) (.cons (.pure pu) .nil)) pul) .nil) (by simpa [slA]using hash_ok [sha t,b] (by simp) (by simp;omega)) pu (.inr fu) rfl ?_)
 refine at_op rfl (n_storeA ti23 rfl rfl rfl (by first|rfl|omega|(simp<;>omega)|(simp [*]<;>omega)|(simp [D32.len, -List.length_flatten, *]<;>omega)) (by first|rfl|omega|(simp<;>omega)|(simp [*]<;>omega)|(simp [D32.len, -List.length_flatten, *]<;>omega)) ?_)
 refine at_nil<|x_tn<|at_ret ?_
 refine at_result (rs:= [.cell 4 23]) rfl (r_cellA ti23 rfl rfl (List.take_of_length_le (by simp)) (by simp) r_nil) rfl
end Go.Abs.D2
-- F3B
namespace Go.Abs.D2
open Go Go.Eng Go.Abs Go.Proofs
theorem fjoin_ok (ps:List Part) (hk:ps.length≤1000) (hok:∀p∈ps,p.ok):Con Tryz.prog 208 [.fz ps.length (ps.map (Part.a 23 5 183))] (RetO 1 (bytesP ps).length ((bytesP ps).map u8)):=by
 refine enter Tryz.func208 rfl Tryz.ntmps208 (by kernel_rfl) (Nat.le_of_ble_eq_true rfl) fun w0 X0 hI=>?_
 refine at_seq<|at_region<|s1 (y_p rfl) rfl ?_
 refine at_nil<|x_tn<|at_seq<|at_seq<|at_region<|s1 (y_p rfl) rfl<|s1 (y_len Tryz.underlying237 rfl rfl rfl) rfl<|s1 ((y_p rfl).v (v':= .i .i64 0) rfl) rfl ?_
 refine at_nil<|x_tn<|at_block ?_
 refine at_loop (ι:=Nat) (fun i=> [(2,.sl 2 1 0 (bytesP (ps.take i)).length),(8,.fz ps.length (ps.map (Part.a 23 5 183))),(9,.i .i64 (ps.length:Nat)),(10,.i .i64 (i:Nat))]) (fun i=>⟨[(2,some ((bytesP (ps.take i)).map u8))]⟩) (fun i=>i≤ps.length) (fun i=>ps.length - i) ?_ ?_
 ·exact at_ex (0) (Nat.zero_le _) [(2,none)] hI rfl rfl ⟨⟨_,rfl,.nl rfl⟩,⟨_,rfl,.pure pu⟩,⟨_,rfl,.pure pu⟩,⟨_,rfl,.pure pu⟩,trivial⟩ ⟨.inl ⟨rfl,rfl⟩,trivial⟩
 rintro i hi
 have hbl:=len_bytesP (ps:=ps.take i) fun q hq=>hok q (List.mem_of_mem_take hq)
 rw [List.length_take]at hbl
 refine at_seq<|at_region<|s1 (y_p rfl) rfl ?_
 refine at_nil<|x_tn<|at_seq ?_
 refine at_cond rfl (fun hc11=>?_) (fun hc11=>?_)
 ·have h11 : i < ps.length := by have := of_decide_eq_true hc11; omega
  obtain⟨p,hp⟩:∃p,ps[i]? =some p:=⟨_,List.getElem?_eq_getElem h11⟩
  have hpok:=hok p (List.mem_of_getElem? hp)
  refine at_skip<|x_tn<|at_seq<|at_block<|at_seq<|at_region<|s1 (y_ixf i Tryz.underlying237 ti20 rfl rfl rfl (by omega) rfl) rfl<|s1 (y_load ti20 rfl rfl (getPa hp)) rfl<|s1 (y_p rfl) rfl ?_
  refine at_nil<|x_tn<|at_seq ?_
  rcases p with hcs|hcs|hcs
  ·have hl32 : hcs.length = 32 := hpok
   have hnl:=congrArg List.length (bytesP_next hp)
   simp only [List.length_append,Part.bs,be32,List.length_cons,List.length_nil]at hnl
   refine at_region<|s1 (y_p rfl) rfl ?_
   refine at_nil<|x_tn<|at_block<|at_seq<|at_region<|s1 (y_tayes Tryz.underlying23 rfl rfl) rfl<|s1 (y_p rfl) rfl<|s1 (y_p rfl) rfl ?_
   refine at_nil<|x_tn ?_
   refine at_then rfl ?_
   refine at_seq<|at_region ?_
   refine at_op rfl (n_alloc 5 rfl ti23 rfl rfl ?_)
   refine at_op rfl (n_storeA ti23 rfl rfl rfl (by simp [hl32]) (by simp) ?_)
   refine at_nil<|x_tn<|at_region<|s1 (y_p rfl) rfl<|s1 (y_cuta0 Tryz.underlying23 ti5 rfl rfl (by first|rfl|omega|(simp<;>omega)|(simp [*]<;>omega)) (by simp [maxLen])) rfl ?_
   refine at_op rfl (n_app 20 rfl Tryz.underlying68 ti5 rfl (.sl rfl (by rw [List.length_map,Nat.mul_one])) rfl (SM_full rfl (by first|rfl|omega|(simp<;>omega)|(simp [*]<;>omega))) (by simp [hl32]) (by simp only [maxLen];omega) (by omega) rfl rfl rfl ?_)
   refine s1 (y_p rfl) rfl ?_
   refine at_nil<|x_bn<|x_bn<|x_tn<|at_region<|s1 (addN _ 1 rfl rfl rfl rfl (by omega)) rfl<|s1 (y_p rfl) rfl ?_
   refine at_nil ?_
   exact at_end (i+1) (by omega) (by omega) [(2,some 20)] hI rfl rfl ⟨⟨_,rfl,.sl rfl (by first|rfl|omega|(simp<;>omega)|(simp [*]<;>omega))⟩,⟨_,rfl,.pure pu⟩,⟨_,rfl,.pure pu⟩,⟨_,rfl,.pure pu⟩,trivial⟩ ⟨.inr ⟨_,_,rfl,rfl,.of (bytesP_step hp rfl) (.pure pul)⟩,trivial⟩
  ·have hnl := congrArg List.length (bytesP_next hp)
   simp only [List.length_append,Part.bs,be32,List.length_cons,List.length_nil]at hnl
   refine at_region<|s1 (y_p rfl) rfl ?_
   refine at_nil<|x_tn<|at_block<|at_seq<|at_region<|s1 (y_tano (z:= .agg (List.replicate 32 (.int .u8 0):List Value).toArray) Tryz.underlying23 rfl (by kernel_rfl) rfl rfl) rfl<|s1 (y_p rfl) rfl<|s1 (y_p rfl) rfl ?_
   refine at_nil<|x_tn ?_
   refine at_else rfl ?_
   refine at_seq<|at_region<|s1 (y_tayes Tryz.underlying5 rfl rfl) rfl<|s1 (y_p rfl) rfl<|s1 (y_p rfl) rfl ?_
   refine at_nil<|x_tn ?_
   refine at_then rfl ?_
   refine at_seq<|at_region<|s1 (y_p rfl) rfl ?_
   refine at_nil<|x_tn<|at_region<|s1 (y_p rfl) rfl<|s1 (y_p rfl) rfl ?_
   refine at_op rfl (n_bs1 26 rfl Tryz.underlying68 ti5 rfl rfl rfl rfl rfl ?_)
   refine at_op rfl (n_app 27 rfl Tryz.underlying68 ti5 rfl (.sl rfl (by rw [List.length_map,Nat.mul_one])) rfl (SM_full rfl (by first|rfl|omega|(simp<;>omega)|(simp [*]<;>omega))) (by first|rfl|omega|(simp<;>omega)|(simp [*]<;>omega)) (by simp only [maxLen];omega) (by omega) rfl rfl rfl ?_)
   refine s1 (y_p rfl) rfl ?_
   refine at_nil<|x_bn<|x_bn<|x_tn<|at_region<|s1 (addN _ 1 rfl rfl rfl rfl (by omega)) rfl<|s1 (y_p rfl) rfl ?_
   refine at_nil ?_
   exact at_end (i+1) (by omega) (by omega) [(2,some 27)] hI rfl rfl ⟨⟨_,rfl,.sl rfl (by first|rfl|omega|(simp<;>omega)|(simp [*]<;>omega))⟩,⟨_,rfl,.pure pu⟩,⟨_,rfl,.pure pu⟩,⟨_,rfl,.pure pu⟩,trivial⟩ ⟨.inr ⟨_,_,rfl,rfl,.of (bytesP_step hp rfl) (.pure pul)⟩,trivial⟩
  ·have hnl := congrArg List.length (bytesP_next hp)
   simp only [List.length_append,Part.bs,be32,List.length_cons,List.length_nil]at hnl
   refine at_region<|s1 (y_p rfl) rfl ?_
   refine at_nil<|x_tn<|at_block<|at_seq<|at_region<|s1 (y_tano (z:= .agg (List.replicate 32 (.int .u8 0):List Value).toArray) Tryz.underlying23 rfl (by kernel_rfl) rfl rfl) rfl<|s1 (y_p rfl) rfl<|s1 (y_p rfl) rfl ?_
   refine at_nil<|x_tn ?_
   refine at_else rfl ?_
   refine at_seq<|at_region<|s1 (y_tano (z:= .int .u8 0) Tryz.underlying5 rfl (by kernel_rfl) rfl rfl) rfl<|s1 (y_p rfl) rfl<|s1 (y_p rfl) rfl ?_
   refine at_nil<|x_tn ?_
   refine at_else rfl ?_
   refine at_seq<|at_region<|s1 (y_tayes Tryz.underlying183 rfl rfl) rfl<|s1 (y_p rfl) rfl<|s1 (y_p rfl) rfl ?_
   refine at_nil<|x_tn ?_
   refine at_then rfl ?_
   refine at_seq<|at_region<|s1 (y_p rfl) rfl ?_
   refine at_nil<|x_tn<|at_region<|s1 (y_p rfl) rfl<|s1 (y_p rfl) rfl<|s1 (shr32 _ 24 rfl rfl rfl (by decide)) rfl<|s1 (to8_32 _ Tryz.underlying183 Tryz.underlying5 rfl) rfl<|s1 (y_p rfl) rfl<|s1 (shr32 _ 16 rfl rfl rfl (by decide)) rfl<|s1 (to8_32 _ Tryz.underlying183 Tryz.underlying5 rfl) rfl<|s1 (y_p rfl) rfl<|s1 (shr32 _ 8 rfl rfl rfl (by decide)) rfl<|s1 (to8_32 _ Tryz.underlying183 Tryz.underlying5 rfl) rfl ?_
   refine s1 (y_p rfl) rfl<|s1 (to8_32 _ Tryz.underlying183 Tryz.underlying5 rfl) rfl ?_
   refine at_op rfl (n_bs1 43 rfl Tryz.underlying68 ti5 rfl rfl rfl rfl rfl ?_)
   refine at_op rfl (n_app 44 rfl Tryz.underlying68 ti5 rfl (.sl rfl (by rw [List.length_map,Nat.mul_one])) rfl (SM_full rfl (by first|rfl|omega|(simp<;>omega)|(simp [*]<;>omega))) (by first|rfl|omega|(simp<;>omega)|(simp [*]<;>omega)) (by simp only [maxLen];omega) (by omega) rfl rfl rfl ?_)
   refine s1 (y_p rfl) rfl ?_
   refine at_nil<|x_bn<|x_bn<|x_tn<|at_region<|s1 (addN _ 1 rfl rfl rfl rfl (by omega)) rfl<|s1 (y_p rfl) rfl ?_
   refine at_nil ?_
   exact at_end (i+1) (by omega) (by omega) [(2,some 44)] hI rfl rfl ⟨⟨_,rfl,.sl rfl (by first|rfl|omega|(simp<;>omega)|(simp [*]<;>omega))⟩,⟨_,rfl,.pure pu⟩,⟨_,rfl,.pure pu⟩,⟨_,rfl,.pure pu⟩,trivial⟩ ⟨.inr ⟨_,_,rfl,rfl,.of (bytesP_step hp rfl) (.pure pul)⟩,trivial⟩
 ·have h11 : i = ps.length := by have := of_decide_eq_false hc11; omega
  subst h11
  refine at_exit<|x_te<|x_te<|x_be<|x_tn<|at_seq<|at_region<|s1 (y_p rfl) rfl<|s1 (y_p rfl) rfl ?_
  refine at_nil<|x_tn<|at_ret ?_
  refine at_result (rs:= [.tmp 2]) rfl (r_tmp rfl r_nil) ⟨2,?_,?_⟩
  ·rw [List.take_length];rfl
  ·rw [List.take_length];rfl
theorem bitsOf_ok (x:List UInt8) (lv nb id:Int) (D:List UInt8):Con Tryz.prog 175 [.ag (x.map u8),.ag [.i .i64 lv,.i .i64 nb,slA D],.i .i64 id] (Ret (.fn (.func 207) [] [.fp (x.map u8),.fp [.i .i64 lv,.i .i64 nb,slA D],.fp [.i .i64 id]])):=by
 refine enter Tryz.func175 rfl Tryz.ntmps175 (by kernel_rfl) (Nat.le_of_ble_eq_true rfl) fun w0 X0 hI=>?_
 refine at_seq<|at_region ?_
 refine at_op rfl (n_boxA 3 rfl rfl rfl ?_)
 refine at_op rfl (n_boxA 4 rfl rfl rfl ?_)
 refine at_op rfl (n_box1 5 rfl rfl rfl rfl ?_)
 refine s1 (y_p rfl) rfl ?_
 refine at_nil<|x_tn<|at_seq ?_
 refine at_frzP 3 rfl rfl pul ?_
 refine at_frzP 4 rfl rfl pul ?_
 refine at_frzP 5 rfl rfl pul ?_
 refine at_region<|s1 (y_func (us:= []) (vs:= [.fp (x.map u8),.fp [.i .i64 lv,.i .i64 nb,slA D],.fp [.i .i64 id]]) rfl rfl) rfl<|s1 (y_p rfl) rfl ?_
 refine at_nil<|x_tn<|at_ret ?_
 refine at_result (rs:= [.tmp 6]) rfl (r_tmp rfl r_nil) rfl
end Go.Abs.D2
-- F3C
namespace Go.Abs.D2
open Go Go.Eng Go.Abs Go.Proofs
theorem fjoin3 (x:List UInt8) (lv id:Nat) (hx:x.length=32):Con Tryz.prog 208 [.fz 3 [.ic 23 (.ag (x.map u8)),.ic 5 (u8 (UInt8.ofNat lv)),.ic 183 (w32 (BitVec.ofNat 32 id))]] (RetO 1 37 ((x++UInt8.ofNat lv::be32 (BitVec.ofNat 32 id)).map u8)):=by
  have:=fjoin_ok [.d x,.b (UInt8.ofNat lv),.w (BitVec.ofNat 32 id)] (by simp) (by simp [Part.ok,hx])
  have e:bytesP [.d x,.b (UInt8.ofNat lv),.w (BitVec.ofNat 32 id)]=(x++UInt8.ofNat lv::be32 (BitVec.ofNat 32 id)):=by simp [bytesP,Part.bs]
  rw [e]at this
  have e2:(x++UInt8.ofNat lv::be32 (BitVec.ofNat 32 id)).length=37:=by simp [be32,hx]
  rw [e2]at this
  exact this
theorem tag_filter (x:List UInt8) (lv id:Nat) (hx:x.length=32):Con Tryz.prog 50 [.s [102,105,108,116,101,114],.fz 37 ((x++UInt8.ofNat lv::be32 (BitVec.ofNat 32 id)).map u8)] (Ret (.ag ((filD x lv id).map u8))):=by
  have e2:(x++UInt8.ofNat lv::be32 (BitVec.ofNat 32 id)).length=37:=by simp [be32,hx]
  rw [filD_eq, ←e2];exact tagged_ok _ _ (by omega) (by simp)
theorem appendSeq_ok (x:List UInt8) (lv nb id:Nat) (D:List UInt8) (hx:x.length=32) (hnb:0<nb):Con Tryz.prog 164 [.nl,.fn (.func 207) [] [.fp (x.map u8),.fp [nJ lv,nJ nb,slA D],.fp [nJ id]]] (RetO 1 2 ((bitL x lv nb id 2).map nJ)):=by
 refine enterM Tryz.func164 rfl Tryz.ntmps164 (by kernel_rfl) (Nat.le_of_ble_eq_true rfl) fun w0 X0 hI hS=>?_
 refine at_seq<|at_region ?_
 refine at_op rfl (n_box1 2 rfl rfl rfl rfl ?_)
 refine s1 (y_p rfl) rfl ?_
 refine at_nil<|x_tn<|at_seq<|at_seq<|at_region<|s1 (y_p rfl) rfl ?_
 refine at_nil<|x_tn<|at_block ?_
 refine at_range [2] [(0,_),(1,_),(2,_),(4,_),(6,_)] hI rfl ⟨rfl,⟨rfl,⟨rfl,⟨rfl,⟨rfl,trivial⟩⟩⟩⟩⟩ (by first|rfl|(simp [onlyE,refsE,refs,refsL,refsL_pul,refs_pu,memN];done)) rfl Tryz.func207 rfl Tryz.ntmps207 (by kernel_rfl) (Nat.le_of_ble_eq_true rfl) fun w1 l1 D1 rc1 hR1=>?_
 refine at_seq<|at_region<|s1 (y_loadA ti23 rfl rfl (List.take_of_length_le (by simp [hx])) (by simp [hx])) rfl<|s1 (y_mkic (by kernel_rfl) rfl) rfl<|s1 (y_fldf Tryz.underlying120 rfl ti3 (by decide) rfl rfl) rfl<|s1 (y_load ti3 rfl rfl rfl) rfl<|s1 (ofN_u8 lv Tryz.underlying3 Tryz.underlying5 rfl rfl) rfl<|s1 (y_mkic (by kernel_rfl) rfl) rfl<|s1 (y_load ti3 rfl rfl rfl) rfl<|s1 (ofN_32 _ Tryz.underlying3 Tryz.underlying183 rfl rfl) rfl<|s1 (y_mkic (by kernel_rfl) rfl) rfl ?_
 refine at_op rfl (n_bs1 1019 rfl Tryz.underlying237 ti20 rfl rfl rfl rfl rfl ?_)
 refine at_op rfl (n_callO 1020 rfl true rfl (.cons (.sl rfl rfl (by first|rfl|omega|(simp<;>omega)|(simp [*]<;>omega)) (view_eq (by first|rfl|omega|(simp<;>omega)|(simp [*]<;>omega)) (by first|rfl|(simp;done)|(simp [*];done))) (VwL.pure pul) pul) (.nil)) (fjoin3 x lv id hx) pul (.inr ful) rfl ?_)
 refine at_op rfl (n_call true rfl (.cons (.pure pu) (.cons (.sl rfl rfl (by first|rfl|omega|(simp<;>omega)|(simp [*]<;>omega)) (view_eq (by first|rfl|omega|(simp<;>omega)|(simp [*]<;>omega)) (by first|rfl|(simp;done)|(simp [*];done))) (VwL.pure pul) pul) (.nil))) (tag_filter x lv id hx) pu (.inr fu) rfl ?_)
 refine at_op rfl (n_alloc 1005 rfl ti23 rfl rfl ?_)
 refine at_op rfl (n_storeA ti23 rfl rfl rfl (by first|rfl|omega|(simp<;>omega)|(simp [*]<;>omega)) (by first|rfl|omega|(simp<;>omega)|(simp [*]<;>omega)) ?_)
 refine at_nil<|x_tn<|at_seq<|at_region<|s1 ((y_p rfl).v (v':= .i .i64 0) rfl) rfl ?_
 refine at_nil<|x_tn<|at_block ?_
 refine at_loop (ι:=Nat) (fun i=> [(0,yv l1),(1,.fp (x.map u8)),(2,.fp [nJ lv,nJ nb,slA D]),(3,.fp [nJ id]),(5,.p 1005 0),(22,nJ i)]) (fun i=>⟨[(2,some ([.sl 11 1 0 i])),(11,some (((bitL x lv nb id i).map nJ))),(1005,some ((filD x lv id).map u8))]⟩) (fun i=>i≤2) (fun i=>2 - i) ?_ ?_
 ·exact at_ex (0) (Nat.zero_le _) [(2,some 2),(11,none),(1005,some 1005)] hR1.sub.ids rfl rfl ⟨⟨_,rfl,.pure trivial⟩,⟨_,rfl,.pure pu⟩,⟨_,rfl,.pure pu⟩,⟨_,rfl,.pure pu⟩,⟨_,rfl,.p rfl⟩,⟨_,rfl,.pure pu⟩,trivial⟩ ⟨.inr ⟨_,_,rfl,rfl,.cons (.nl rfl) .nil⟩,.inl ⟨rfl,rfl⟩,.inr ⟨_,_,rfl,rfl,.pure pul⟩,trivial⟩
 rintro i hi
 refine at_seq<|at_region<|s1 (y_p rfl) rfl ?_
 refine at_nil<|x_tn<|at_seq ?_
 refine at_cond rfl (fun hc23=>?_) (fun hc23=>?_)
 ·have h23 : i < 2 := by have := of_decide_eq_true hc23; omega
  refine at_skip<|x_tn<|at_seq<|at_block<|at_seq<|at_region<|s1 (y_p rfl) rfl<|s1 (y_p rfl) rfl ?_
  refine at_nil<|x_tn<|at_seq<|at_region<|s1 ((y_p rfl).v (v':= .i .i64 0) rfl) rfl ?_
  refine at_nil<|x_tn<|at_seq<|at_seq<|at_region<|s1 (y_p rfl) rfl<|s1 (mulN 4 _ rfl rfl rfl rfl (by omega)) rfl<|s1 (y_p rfl) rfl<|s1 (mulN 4 _ rfl rfl rfl rfl (by omega)) rfl<|s1 (addN _ 4 rfl rfl rfl rfl (by omega)) rfl<|s1 (y_cuta (o':=0+4*i*1) 4 Tryz.underlying23 ti5 rfl rfl (by simp) (by simp [maxLen]) (bs rfl rfl) (bs rfl rfl) (by omega) (by omega) (by omega) (by rw [if_neg (by omega)])) rfl<|s1 (y_len Tryz.underlying68 rfl rfl rfl) rfl<|s1 ((y_p rfl).v (v':= .i .i64 0) rfl) rfl ?_
  refine at_nil<|x_tn<|at_block ?_
  refine at_loop (ι:=Nat) (fun k=> [(0,yv l1),(1,.fp (x.map u8)),(2,.fp [nJ lv,nJ nb,slA D]),(3,.fp [nJ id]),(5,.p 1005 0),(6,nJ i),(7,nJ (numD (filD x lv id) (4*i) k)),(22,nJ i),(30,.sl 1005 1 (0+4*i*1) 4),(31,nJ 4),(32,nJ k)]) (fun k=>⟨[(2,some ([.sl 11 1 0 i])),(11,some (((bitL x lv nb id i).map nJ))),(1005,some ((filD x lv id).map u8))]⟩) (fun k=>k≤4) (fun k=>4 - k) ?_ ?_
  ·exact at_ex (0) (Nat.zero_le _) [(2,some 2),(11,some 11),(1005,some 1005)] hR1.sub.ids rfl rfl ⟨⟨_,rfl,.pure trivial⟩,⟨_,rfl,.pure pu⟩,⟨_,rfl,.pure pu⟩,⟨_,rfl,.pure pu⟩,⟨_,rfl,.p rfl⟩,⟨_,rfl,.pure pu⟩,⟨_,rfl,.of (by rfl) (.pure pu)⟩,⟨_,rfl,.pure pu⟩,⟨_,rfl,.sl rfl (by first|rfl|omega|(simp<;>omega)|(simp [*]<;>omega))⟩,⟨_,rfl,.pure pu⟩,⟨_,rfl,.pure pu⟩,trivial⟩ ⟨.inr ⟨_,_,rfl,rfl,.cons (.sl rfl rfl) .nil⟩,.inr ⟨_,_,rfl,rfl,.pure pul⟩,.inr ⟨_,_,rfl,rfl,.pure pul⟩,trivial⟩
  rintro k hk
  have hnl:=numD_lt (filD x lv id) (4*i) k
  have h4:256 ^ k≤256 ^ 4:=Nat.pow_le_pow_right (by omega) hk
  refine at_seq<|at_region<|s1 (y_p rfl) rfl ?_
  refine at_nil<|x_tn<|at_seq ?_
  refine at_cond rfl (fun hc33=>?_) (fun hc33=>?_)
  ·have h33 : k < 4 := by have := of_decide_eq_true hc33; omega
   have h3:numD (filD x lv id) (4*i) k<16777216:=Nat.lt_of_lt_of_le hnl (Nat.pow_le_pow_right (by omega) (show k≤3 by omega))
   refine at_skip<|x_tn<|at_seq<|at_block<|at_seq<|at_region<|s1 (y_ixs k Tryz.underlying68 ti5 rfl rfl rfl rfl (by omega) rfl) rfl<|s1 (y_load ti5 rfl rfl (getO3 k (by simp;omega) rfl)) rfl<|s1 (y_p rfl) rfl ?_
   refine at_nil<|x_tn<|at_region<|s1 (y_p rfl) rfl<|s1 ((y_shl rfl rfl (by decide)).v (congrArg (A.i .i64) (shl_byte _ h3))) rfl<|s1 (y_p rfl) rfl<|s1 ((y_conv Tryz.underlying5 Tryz.underlying3 rfl).v (conv8J _)) rfl<|s1 ((y_bits rfl rfl (.inr (.inl rfl))).v (congrArg (A.i .i64) (or_byte _ _ h3))) rfl<|s1 (y_p rfl) rfl ?_
   refine at_nil<|x_bn<|x_tn<|at_region<|s1 (addN _ 1 rfl rfl rfl rfl (by omega)) rfl<|s1 (y_p rfl) rfl ?_
   refine at_nil ?_
   exact at_end (k+1) (by omega) (by omega) [(2,some 2),(11,some 11),(1005,some 1005)] hR1.sub.ids rfl rfl ⟨⟨_,rfl,.pure trivial⟩,⟨_,rfl,.pure pu⟩,⟨_,rfl,.pure pu⟩,⟨_,rfl,.pure pu⟩,⟨_,rfl,.p rfl⟩,⟨_,rfl,.pure pu⟩,⟨_,rfl,.pure pu⟩,⟨_,rfl,.pure pu⟩,⟨_,rfl,.sl rfl (by first|rfl|omega|(simp<;>omega)|(simp [*]<;>omega))⟩,⟨_,rfl,.pure pu⟩,⟨_,rfl,.pure pu⟩,trivial⟩ ⟨.inr ⟨_,_,rfl,rfl,.cons (.sl rfl rfl) .nil⟩,.inr ⟨_,_,rfl,rfl,.pure pul⟩,.inr ⟨_,_,rfl,rfl,.pure pul⟩,trivial⟩
  ·have h33 : k = 4 := by have := of_decide_eq_false hc33; omega
   subst h33
   refine at_exit<|x_te<|x_te<|x_be<|x_tn<|at_seq<|at_region<|s1 (y_p rfl) rfl<|s1 (y_p rfl) rfl<|s1 (y_fldf Tryz.underlying120 rfl ti3 (by decide) rfl rfl) rfl<|s1 (y_load ti3 rfl rfl rfl) rfl<|s1 (remN (numD (filD x lv id) (4*i) 4) nb rfl rfl rfl rfl hnb) rfl ?_
   refine at_yield [2,1005] [(0,_),(1,_),(2,_),(3,_),(5,_),(6,_),(7,_),(22,_),(30,_),(31,_),(32,_),(33,_),(42,_),(43,_),(44,_),(45,_),(46,_)] hR1 hR1.sub.ids rfl ⟨rfl,⟨rfl,⟨rfl,⟨rfl,⟨rfl,⟨rfl,⟨rfl,⟨rfl,⟨rfl,⟨rfl,⟨rfl,⟨rfl,⟨rfl,⟨rfl,⟨rfl,⟨rfl,⟨rfl,trivial⟩⟩⟩⟩⟩⟩⟩⟩⟩⟩⟩⟩⟩⟩⟩⟩⟩ (by first|rfl|(simp [onlyE,refsE,refs,refsL,refsL_pul,refs_pu,memN];done)) rfl rfl rfl rfl rfl fun w2 tm2 hd2=>?_
   refine at_region<|s1 (y_p rfl) rfl ?_
   refine at_nil ?_
   refine at_begin hd2 fun w3 hd3=>?_
   refine at_block<|at_region<|s1 (y_load ti30 rfl rfl rfl) rfl<|s1 (y_p rfl) rfl ?_
   refine at_op rfl (n_bs1 10 rfl Tryz.underlying30 ti3 rfl rfl rfl rfl rfl ?_)
   refine at_op rfl (n_app 111 rfl Tryz.underlying30 ti3 rfl (.sl rfl (by simp)) rfl (SM_full rfl (by first|rfl|omega|(simp<;>omega)|(simp [*]<;>omega))) (by first|rfl|omega|(simp<;>omega)|(simp [*]<;>omega)) (by first|omega|(simp only [maxLen];omega)|(simp [maxLen];done)|(simp [maxLen];omega)|(simp [maxLen, *];omega)) (by first|omega|(simp only [maxLen];omega)|(simp [maxLen];done)|(simp [maxLen];omega)|(simp [maxLen, *];omega)) rfl rfl rfl ?_)
   refine at_op rfl (n_store1 ti30 rfl rfl rfl rfl (by first|rfl|omega|(simp<;>omega)|(simp [*]<;>omega)) rfl ?_)
   refine at_nil<|x_bn ?_
   refine at_rend hR1 hd3 rfl ?_
   refine s1 (y_p rfl) rfl ?_
   refine at_nil<|x_tn ?_
   refine at_else rfl ?_
   refine at_skip<|x_bn<|x_tn<|at_region<|s1 (addN _ 1 rfl rfl rfl rfl (by omega)) rfl<|s1 (y_p rfl) rfl ?_
   refine at_nil ?_
   exact at_end (i+1) (by omega) (by omega) [(2,some 2),(11,some 111),(1005,some 1005)] hR1.sub.ids rfl rfl ⟨⟨_,rfl,.pure trivial⟩,⟨_,rfl,.pure pu⟩,⟨_,rfl,.pure pu⟩,⟨_,rfl,.pure pu⟩,⟨_,rfl,.p rfl⟩,⟨_,rfl,.pure pu⟩,trivial⟩ ⟨.inr ⟨_,_,rfl,rfl,.cons (.sl rfl (by first|rfl|omega|(simp<;>omega)|(simp [*]<;>omega))) .nil⟩,.inr ⟨_,_,rfl,rfl,.of (by rw [bitL_succ];simp) (.pure pul)⟩,.inr ⟨_,_,rfl,rfl,.pure pul⟩,trivial⟩
 ·have h23 : i = 2 := by have := of_decide_eq_false hc23; omega
  subst h23
  refine at_exit<|x_te<|x_te<|x_be ?_
  refine at_itnil rfl hR1 hS ?_
  refine x_bn<|x_tn<|at_seq<|at_region<|s1 (y_load ti30 rfl rfl rfl) rfl<|s1 (y_p rfl) rfl ?_
  refine at_nil<|x_tn<|at_ret ?_
  refine at_resultM (rs:= [.tmp 4]) rfl rfl rfl hS (dn:= [D1]) rfl rfl (by simp) rfl (r_tmp rfl r_nil) ⟨11,rfl,rfl⟩
theorem collect_ok (x:List UInt8) (lv nb id:Nat) (D:List UInt8) (hx:x.length=32) (hnb:0<nb):Con Tryz.prog 112 [.fn (.func 207) [] [.fp (x.map u8),.fp [nJ lv,nJ nb,slA D],.fp [nJ id]]] (Ret (.fz 2 ((bitL x lv nb id 2).map nJ))):=by
 refine enter Tryz.func112 rfl Tryz.ntmps112 (by kernel_rfl) (Nat.le_of_ble_eq_true rfl) fun w0 X0 hI=>?_
 refine at_seq<|at_region<|s1 (y_p rfl) rfl ?_
 refine at_nil<|x_tn<|at_seq<|at_region<|s1 (y_p rfl) rfl ?_
 refine at_op rfl (n_callO 4 rfl false rfl (.cons (.pure pu) (.cons (.pure pu) .nil)) (appendSeq_ok x lv nb id D hx hnb) pul (.inl rfl) rfl ?_)
 refine s1 (y_p rfl) rfl ?_
 refine at_nil<|x_tn<|at_ret ?_
 refine at_frz 2 rfl rfl pul (view_eq (by simp) rfl) ?_
 refine at_result (rs:= [.tmp 2]) rfl (r_tmp rfl r_nil) rfl
theorem sized_ok (a b:Int):Con Tryz.prog 118 [.i .i64 a,.i .i64 b] (Ret (.b (decide (sizedP a b)))):=by
 refine enter Tryz.func118 rfl Tryz.ntmps118 (by kernel_rfl) (Nat.le_of_ble_eq_true rfl) fun w0 X0 hI=>?_
 refine at_seq<|at_region<|s1 (y_p rfl) rfl ?_
 refine at_nil<|x_tn<|at_seq<|at_region<|s1 (y_p rfl) rfl<|s1 (y_p rfl) rfl<|s1 (y_p rfl) rfl ?_
 refine g_and 2 rfl rfl rfl rfl (fun hb7=> .step (y_p rfl) rfl rfl<| .step (y_p rfl) rfl rfl<| .done) rfl rfl ?_
 refine s1 (y_p rfl) rfl ?_
 refine g_and 2 rfl rfl rfl rfl (fun hb11=> .step (y_p rfl) rfl rfl<| .step (y_p rfl) rfl rfl<| .done) rfl rfl ?_
 refine s1 (y_p rfl) rfl ?_
 refine g_and 2 rfl rfl rfl rfl (fun hb15=> .step (y_p rfl) rfl rfl<| .step (y_p rfl) rfl rfl<| .done) rfl rfl ?_
 refine s1 (y_p rfl) rfl ?_
 refine at_nil<|x_tn<|at_ret ?_
 refine at_result (rs:= [.tmp 4]) rfl (r_tmp rfl r_nil) ?_
 exact congrArg A.b (by rw [Bool.eq_iff_iff,decide_eq_true_eq];simp [sizedP,and_assoc])
end Go.Abs.D2
-- F3D
namespace Go.Abs.D2
open Go Go.Eng Go.Abs Go.Proofs
theorem fnew_ok (lv nb:Int):Con Tryz.prog 74 [.i .i64 lv,.i .i64 nb] (Ret (newA lv nb)):=by
 refine enter Tryz.func74 rfl Tryz.ntmps74 (by kernel_rfl) (Nat.le_of_ble_eq_true rfl) fun w0 X0 hI=>?_
 refine at_seq<|at_region ?_
 refine at_op rfl (n_alloc 4 rfl ti120 rfl rfl ?_)
 refine s1 ((y_p rfl).v (v':= .i .i64 0) rfl) rfl ?_
 refine at_nil<|x_tn<|at_seq<|at_seq ?_
 rcases Decidable.em (sizedP lv nb)with hcs|hcs
 ·obtain ⟨l, n, rfl, rfl, h1, h2, h3⟩ := sized_nat hcs
  refine at_region<|s1 (y_p rfl) rfl<|s1 (y_p rfl) rfl ?_
  refine at_op rfl (n_call false rfl (.cons (.pure pu) (.cons (.pure pu) (.nil))) (Con.cast (sized_ok _ _) (congrArg A.b (decide_eq_true hcs))) pu (.inl rfl) rfl ?_)
  refine s1 (y_p rfl) rfl ?_
  refine at_nil<|x_tn ?_
  refine at_else rfl ?_
  refine at_skip<|x_tn<|at_seq<|at_region<|s1 (y_p rfl) rfl<|s1 (y_p rfl) rfl<|s1 (y_p rfl) rfl<|s1 (addN n 7 rfl rfl rfl rfl (by omega)) rfl<|s1 (quoN (n+7) 8 rfl rfl rfl rfl (by omega) (by omega)) rfl ?_
  refine at_op rfl (n_make 16 rfl _ _ Tryz.underlying68 ti5 rfl rfl rfl rfl rfl (by first|omega|(simp only [maxLen];omega)|(simp [maxLen];done)|(simp [maxLen];omega)|(simp [maxLen, *];omega)) (by first|omega|(simp only [maxLen];omega)|(simp [maxLen];done)|(simp [maxLen];omega)|(simp [maxLen, *];omega)) (by first|omega|(simp only [maxLen];omega)|(simp [maxLen];done)|(simp [maxLen];omega)|(simp [maxLen, *];omega)) rfl ?_)
  refine s1 (y_bld (out:= [_,_,_]) [[evC (.int .i64 0)], [evC (.int .i64 0)], [evC (.slice none 0 0)]] ti120 rfl Tryz.underlying120 (by kernel_rfl) rfl rfl ⟨⟨by(first|rfl|omega|(simp;done)|(simp [*];done)|(simp [cellsA, *];done)),rfl⟩,⟨⟨by(first|rfl|omega|(simp;done)|(simp [*];done)|(simp [cellsA, *];done)),rfl⟩,⟨⟨by(first|rfl|omega|(simp;done)|(simp [*];done)|(simp [cellsA, *];done)),rfl⟩,trivial⟩⟩⟩ rfl) rfl ?_
  refine at_op rfl (n_storeA ti120 rfl rfl rfl (by first|rfl|omega|(simp<;>omega)|(simp [*]<;>omega)) (by first|rfl|omega|(simp<;>omega)|(simp [*]<;>omega)) ?_)
  refine s1 ((y_p rfl).v (v':= .i .i64 0) rfl) rfl ?_
  refine at_nil<|x_tn<|at_ret ?_
  refine at_frzO 4 2 rfl rfl rfl rfl pul (view_eq (by simp) (zmap _)) rfl ?_
  refine at_result (rs:= [.cell 4 120,.tmp 5]) rfl (r_cellA ti120 rfl rfl rfl rfl (r_tmp rfl r_nil)) ?_
  show A.tu _=_
  rw [new_yes hcs,filA,slA,List.length_replicate];rfl
 ·skip
  refine at_region<|s1 (y_p rfl) rfl<|s1 (y_p rfl) rfl ?_
  refine at_op rfl (n_call false rfl (.cons (.pure pu) (.cons (.pure pu) (.nil))) (Con.cast (sized_ok _ _) (congrArg A.b (decide_eq_false hcs))) pu (.inl rfl) rfl ?_)
  refine s1 (y_p rfl) rfl ?_
  refine at_nil<|x_tn ?_
  refine at_then rfl ?_
  refine at_seq<|at_region<|s1 (y_loadA0 ti120 rfl rfl (by first|rfl|omega|(simp<;>omega)|(simp [*]<;>omega))) rfl ?_
  refine at_op rfl (n_storeA ti120 rfl rfl rfl (by first|rfl|omega|(simp<;>omega)|(simp [*]<;>omega)) (by first|rfl|omega|(simp<;>omega)|(simp [*]<;>omega)) ?_)
  refine s1 ((y_p rfl).v (v':= .i .i64 330) rfl) rfl ?_
  refine at_nil<|x_tn<|at_ret<|x_tr ?_
  refine at_wkO 4 rfl (.cons (.eq rfl) (.cons (.eq rfl) (.cons .nl .nil))) ?_
  refine at_result (rs:= [.cell 4 120,.tmp 5]) rfl (r_cellA ti120 rfl rfl rfl rfl (r_tmp rfl r_nil)) ?_
  show A.tu _=_
  rw [new_no hcs];rfl
theorem fchk_ok (lv nb:Int) (D:List UInt8):Con Tryz.prog 123 [.ag [.i .i64 lv,.i .i64 nb,slA D]] (Ret (.i .i64 (errF (chkB lv nb D)))):=by
 refine enter Tryz.func123 rfl Tryz.ntmps123 (by kernel_rfl) (Nat.le_of_ble_eq_true rfl) fun w0 X0 hI=>?_
 refine at_seq<|at_region ?_
 refine at_op rfl (n_boxA 1 rfl rfl rfl ?_)
 refine s1 ((y_p rfl).v (v':= .i .i64 0) rfl) rfl ?_
 refine at_nil<|x_tn<|at_seq<|at_seq ?_
 rcases Decidable.em (sizedP lv nb)with hcs|hcs
 ·obtain ⟨l, n, rfl, rfl, h1, h2, h3⟩ := sized_nat hcs
  refine at_region<|s1 (y_fld Tryz.underlying120 rfl ti3 (by decide) rfl rfl) rfl<|s1 (y_load ti3 rfl rfl rfl) rfl<|s1 (y_fld Tryz.underlying120 rfl ti3 (by decide) rfl rfl) rfl<|s1 (y_load ti3 rfl rfl rfl) rfl ?_
  refine at_op rfl (n_call false rfl (.cons (.pure pu) (.cons (.pure pu) (.nil))) (Con.cast (sized_ok _ _) (congrArg A.b (decide_eq_true hcs))) pu (.inl rfl) rfl ?_)
  refine s1 (y_p rfl) rfl<|s1 (y_p rfl) rfl<|g1 rfl rfl (y_fld Tryz.underlying120 rfl ti68 (by decide) rfl rfl) rfl<|g1 rfl rfl (y_load ti68 rfl rfl rfl) rfl<|g1 rfl rfl (y_len Tryz.underlying68 rfl rfl rfl) rfl<|g1 rfl rfl (y_fld Tryz.underlying120 rfl ti3 (by decide) rfl rfl) rfl<|g1 rfl rfl (y_load ti3 rfl rfl rfl) rfl<|g1 rfl rfl (addN n 7 rfl rfl rfl rfl (by omega)) rfl<|g1 rfl rfl (quoN (n+7) 8 rfl rfl rfl rfl (by omega) (by omega)) rfl<|g1 rfl rfl (y_p rfl) rfl ?_
  refine s1 (y_p rfl) rfl ?_
  refine at_nil<|x_tn ?_
  refine at_cond rfl (fun hc19=>?_) (fun hc19=>?_)
  ·have hl : D.length ≠ (n + 7) / 8 := by intro h; rw [h] at hc19; simp at hc19
   refine at_seq<|at_region<|s1 ((y_p rfl).v (v':= .i .i64 330) rfl) rfl ?_
   refine at_nil<|x_tn<|at_ret<|x_tr ?_
   refine at_result (rs:= [.tmp 2]) rfl (r_tmp rfl r_nil) ?_
   show A.i _ _=_
   rw [chk_len hl];rfl
  ·have hl : D.length = (n + 7) / 8 := by simp at hc19; omega
   have hct:=chk_tail h1 h2 h3 hl
   refine at_skip<|x_tn<|at_seq<|at_seq<|at_region<|s1 (y_fld Tryz.underlying120 rfl ti3 (by decide) rfl rfl) rfl<|s1 (y_load ti3 rfl rfl rfl) rfl<|s1 (remN n 8 rfl rfl rfl rfl (by omega)) rfl<|s1 (y_p rfl) rfl ?_
   refine at_nil<|x_tn<|at_seq<|at_region<|s1 (y_p rfl) rfl<|s1 (y_p rfl) rfl<|s1 (y_p rfl) rfl ?_
   refine g_and 11 rfl rfl rfl rfl (fun hb25=> .step (y_fld Tryz.underlying120 rfl ti68 (by decide) rfl rfl) rfl rfl<| .step (y_load ti68 rfl rfl rfl) rfl rfl<| .step (y_fld Tryz.underlying120 rfl ti68 (by decide) rfl rfl) rfl rfl<| .step (y_load ti68 rfl rfl rfl) rfl rfl<| .step (y_len Tryz.underlying68 rfl rfl rfl) rfl rfl<| .step (subN D.length 1 rfl rfl rfl rfl (by omega) (by omega)) rfl rfl<| .step (y_ixf (D.length - 1) Tryz.underlying68 ti5 rfl rfl rfl (by omega) rfl) rfl rfl<| .step (y_load ti5 rfl rfl (getD8 (by omega))) rfl rfl<| .step (y_p rfl) rfl rfl<| .step (shrB (D.getD (D.length - 1) 0) (n % 8) rfl rfl rfl (by omega)) rfl rfl<| .step ((y_p rfl).v (v':= .b (!((D.getD (D.length - 1) 0).toNat / 2 ^ (n % 8)==0))) (congrArg A.b (shr_zero _ _))) rfl rfl<| .done) rfl rfl ?_
   refine at_nil<|x_tn ?_
   refine at_cond rfl (fun hc37=>?_) (fun hc37=>?_)
   ·have hf : chkB l n D = false := by rw [hct]; simp at hc37 ⊢; omega
    refine at_seq<|at_region<|s1 ((y_p rfl).v (v':= .i .i64 330) rfl) rfl ?_
    refine at_nil<|x_tn<|at_ret<|x_tr ?_
    refine at_result (rs:= [.tmp 2]) rfl (r_tmp rfl r_nil) ?_
    show A.i _ _=_
    rw [hf];rfl
   ·have hf : chkB l n D = true := by rw [hct]; simp at hc37 ⊢; omega
    refine at_skip<|x_tn<|at_seq<|at_region<|s1 ((y_p rfl).v (v':= .i .i64 0) rfl) rfl ?_
    refine at_nil<|x_tn<|at_ret ?_
    refine at_result (rs:= [.tmp 2]) rfl (r_tmp rfl r_nil) ?_
    show A.i _ _=_
    rw [hf];rfl
 ·skip
  refine at_region<|s1 (y_fld Tryz.underlying120 rfl ti3 (by decide) rfl rfl) rfl<|s1 (y_load ti3 rfl rfl rfl) rfl<|s1 (y_fld Tryz.underlying120 rfl ti3 (by decide) rfl rfl) rfl<|s1 (y_load ti3 rfl rfl rfl) rfl ?_
  refine at_op rfl (n_call false rfl (.cons (.pure pu) (.cons (.pure pu) (.nil))) (Con.cast (sized_ok _ _) (congrArg A.b (decide_eq_false hcs))) pu (.inl rfl) rfl ?_)
  refine s1 (y_p rfl) rfl<|s1 (y_p rfl) rfl<|g0 rfl rfl rfl rfl<|g0 rfl rfl rfl rfl<|g0 rfl rfl rfl rfl<|g0 rfl rfl rfl rfl<|g0 rfl rfl rfl rfl<|g0 rfl rfl rfl rfl<|g0 rfl rfl rfl rfl<|g0 rfl rfl rfl rfl ?_
  refine s1 (y_p rfl) rfl ?_
  refine at_nil<|x_tn ?_
  refine at_then rfl ?_
  refine at_seq<|at_region<|s1 ((y_p rfl).v (v':= .i .i64 330) rfl) rfl ?_
  refine at_nil<|x_tn<|at_ret<|x_tr ?_
  refine at_result (rs:= [.tmp 2]) rfl (r_tmp rfl r_nil) ?_
  show A.i _ _=_
  rw [chk_size hcs];rfl
theorem fbits_ok (x:List UInt8) (lv nb id:Int) (D:List UInt8) (hx:x.length=32):Con Tryz.prog 119 [.ag (x.map u8),.ag [.i .i64 lv,.i .i64 nb,slA D],.i .i64 id] (Ret (bitsA x lv nb D id)):=by
 refine enter Tryz.func119 rfl Tryz.ntmps119 (by kernel_rfl) (Nat.le_of_ble_eq_true rfl) fun w0 X0 hI=>?_
 refine at_seq<|at_region ?_
 refine at_op rfl (n_boxA 3 rfl rfl rfl ?_)
 refine at_op rfl (n_boxA 4 rfl rfl rfl ?_)
 refine s1 (y_p rfl) rfl<|s1 ((y_p rfl).v (v':= .i .i64 0) rfl) rfl ?_
 refine at_nil<|x_tn<|at_seq<|at_seq ?_
 rcases tf (chkB lv nb D)with hcs|hcs
 ·skip
  refine at_region<|s1 (y_loadA0 ti120 rfl rfl (by first|rfl|omega|(simp<;>omega)|(simp [*]<;>omega))) rfl ?_
  refine at_op rfl (n_call false rfl (.cons (.pure pu) (.nil)) (Con.cast (fchk_ok _ _ _) (congrArg (A.i .i64) (by rw [hcs];rfl:errF (chkB lv nb D)=330))) pu (.inl rfl) rfl ?_)
  refine s1 (y_p rfl) rfl ?_
  refine at_nil<|x_tn<|at_seq<|at_region<|s1 (y_p rfl) rfl<|s1 ((y_p rfl).v (v':= .b true) (rfl)) rfl ?_
  refine at_nil<|x_tn ?_
  refine at_then rfl ?_
  refine at_seq<|at_region<|s1 (y_p rfl) rfl<|s1 (y_p rfl) rfl<|s1 (y_p rfl) rfl ?_
  refine at_nil<|x_tn<|at_ret<|x_tr ?_
  refine at_result (rs:= [.tmp 6,.tmp 7]) rfl (r_tmp rfl (r_tmp rfl r_nil)) ?_
  show A.tu _=_
  rw [bits_no (ok_chk hcs)];rfl
 ·skip
  refine at_region<|s1 (y_loadA0 ti120 rfl rfl (by first|rfl|omega|(simp<;>omega)|(simp [*]<;>omega))) rfl ?_
  refine at_op rfl (n_call false rfl (.cons (.pure pu) (.nil)) (Con.cast (fchk_ok _ _ _) (congrArg (A.i .i64) (by rw [hcs];rfl:errF (chkB lv nb D)=0))) pu (.inl rfl) rfl ?_)
  refine s1 (y_p rfl) rfl ?_
  refine at_nil<|x_tn<|at_seq<|at_region<|s1 (y_p rfl) rfl<|s1 ((y_p rfl).v (v':= .b false) (rfl)) rfl ?_
  refine at_nil<|x_tn ?_
  refine at_else rfl ?_
  refine at_skip<|x_tn<|at_seq<|at_seq<|at_region<|s1 (y_p rfl) rfl<|s1 (y_p rfl) rfl<|s1 (y_p rfl) rfl ?_
  refine g_or 2 rfl rfl rfl rfl (fun hb16=> .step (y_p rfl) rfl rfl<| .step (y_p rfl) rfl rfl<| .done) rfl rfl ?_
  refine at_nil<|x_tn ?_
  refine at_cond rfl (fun hc19=>?_) (fun hc19=>?_)
  ·have h19 : ¬ (0 ≤ id ∧ id < 1024) := by simp at hc19; omega
   refine at_seq<|at_region<|s1 (y_p rfl) rfl<|s1 ((y_p rfl).v (v':= .i .i64 330) rfl) rfl ?_
   refine at_nil<|x_tn<|at_ret<|x_tr ?_
   refine at_result (rs:= [.tmp 6,.tmp 7]) rfl (r_tmp rfl (r_tmp rfl r_nil)) ?_
   show A.tu _=_
   rw [bits_no (ok_id h19)];rfl
  ·have h19 : 0 ≤ id ∧ id < 1024 := by simp at hc19; omega
   have hk:=ok_yes hcs h19
   obtain⟨l,n,j,rfl,rfl,rfl,h1,h2,h3,h4,h5,h6⟩:=ok_nat hk
   refine at_skip<|x_tn<|at_seq<|at_region<|s1 (y_loadA0 ti23 rfl rfl (by first|rfl|omega|(simp<;>omega)|(simp [*]<;>omega))) rfl<|s1 (y_loadA0 ti120 rfl rfl (by first|rfl|omega|(simp<;>omega)|(simp [*]<;>omega))) rfl<|s1 (y_p rfl) rfl ?_
   refine at_op rfl (n_call false rfl (.cons (.pure pu) (.cons (.pure pu) (.cons (.pure pu) (.nil)))) (bitsOf_ok x _ _ _ D) pu (.inl rfl) rfl ?_)
   refine at_op rfl (n_call false rfl (.cons (.pure pu) (.nil)) (collect_ok x l n j D hx (by omega)) pu (.inl rfl) rfl ?_)
   refine s1 (y_p rfl) rfl<|s1 ((y_p rfl).v (v':= .i .i64 0) rfl) rfl ?_
   refine at_nil<|x_tn<|at_ret ?_
   refine at_result (rs:= [.tmp 6,.tmp 7]) rfl (r_tmp rfl (r_tmp rfl r_nil)) ?_
   show A.tu _=_
   exact(bits_yes hk).symm
theorem fhas_ok (x:List UInt8) (lv nb id:Int) (D:List UInt8) (hx:x.length=32):Con Tryz.prog 78 [.ag (x.map u8),.ag [.i .i64 lv,.i .i64 nb,slA D],.i .i64 id] (Ret (hasA x lv nb D id)):=by
 refine enter Tryz.func78 rfl Tryz.ntmps78 (by kernel_rfl) (Nat.le_of_ble_eq_true rfl) fun w0 X0 hI=>?_
 refine at_seq<|at_region ?_
 refine at_op rfl (n_boxA 3 rfl rfl rfl ?_)
 refine at_op rfl (n_boxA 4 rfl rfl rfl ?_)
 refine s1 (y_p rfl) rfl<|s1 ((y_p rfl).v (v':= .i .i64 0) rfl) rfl ?_
 refine at_nil<|x_tn<|at_seq ?_
 rcases tf (okB lv nb D id)with hcs|hcs
 ·skip
  refine at_region<|s1 (y_loadA0 ti23 rfl rfl (by first|rfl|omega|(simp<;>omega)|(simp [*]<;>omega))) rfl<|s1 (y_loadA0 ti120 rfl rfl (by first|rfl|omega|(simp<;>omega)|(simp [*]<;>omega))) rfl<|s1 (y_p rfl) rfl ?_
  refine at_op rfl (n_call false rfl (.cons (.pure pu) (.cons (.pure pu) (.cons (.pure pu) (.nil)))) (Con.cast (fbits_ok x _ _ _ D hx) (bits_no hcs)) pu (.inl rfl) rfl ?_)
  refine s1 (y_p rfl) rfl<|s1 (y_p rfl) rfl<|s1 (y_p rfl) rfl<|s1 (y_p rfl) rfl<|s1 (y_p rfl) rfl ?_
  refine at_nil<|x_tn<|at_seq<|at_seq<|at_region<|s1 (y_p rfl) rfl<|s1 ((y_p rfl).v (v':= .b true) (rfl)) rfl ?_
  refine at_nil<|x_tn ?_
  refine at_then rfl ?_
  refine at_seq<|at_region<|s1 (y_p rfl) rfl<|s1 (y_p rfl) rfl<|s1 (y_p rfl) rfl ?_
  refine at_nil<|x_tn<|at_ret<|x_tr ?_
  refine at_result (rs:= [.tmp 6,.tmp 7]) rfl (r_tmp rfl (r_tmp rfl r_nil)) ?_
  show A.tu _=_
  rw [has_no hcs];rfl
 ·obtain ⟨l, n, j, rfl, rfl, rfl, h1, h2, h3, h4, h5, h6⟩ := ok_nat hcs
  refine at_region<|s1 (y_loadA0 ti23 rfl rfl (by first|rfl|omega|(simp<;>omega)|(simp [*]<;>omega))) rfl<|s1 (y_loadA0 ti120 rfl rfl (by first|rfl|omega|(simp<;>omega)|(simp [*]<;>omega))) rfl<|s1 (y_p rfl) rfl ?_
  refine at_op rfl (n_call false rfl (.cons (.pure pu) (.cons (.pure pu) (.cons (.pure pu) (.nil)))) (Con.cast (fbits_ok x _ _ _ D hx) (bits_yes hcs)) pu (.inl rfl) rfl ?_)
  refine s1 (y_p rfl) rfl<|s1 (y_p rfl) rfl<|s1 (y_p rfl) rfl<|s1 (y_p rfl) rfl<|s1 (y_p rfl) rfl ?_
  refine at_nil<|x_tn<|at_seq<|at_seq<|at_region<|s1 (y_p rfl) rfl<|s1 ((y_p rfl).v (v':= .b false) (rfl)) rfl ?_
  refine at_nil<|x_tn ?_
  refine at_else rfl ?_
  refine at_skip<|x_tn<|at_seq<|at_seq<|at_region<|s1 (y_p rfl) rfl<|s1 (y_len Tryz.underlying30 rfl rfl rfl) rfl<|s1 ((y_p rfl).v (v':= .i .i64 0) rfl) rfl ?_
  refine at_nil<|x_tn<|at_block ?_
  refine at_loop (ι:=Nat) (fun i=> [(4,.p 4 0),(21,.fz 2 ((bitL x l n j 2).map nJ)),(22,nJ 2),(23,nJ i)]) (fun i=>⟨[(4,some ([nJ l,nJ n,slA D]))]⟩) (fun i=>i≤2∧∀t,t<i→bitA D (bN x l n j t)=true) (fun i=>2 - i) ?_ ?_
  ·exact at_ex (0) (⟨by omega,fun t ht=>absurd ht (by omega)⟩) [(4,some 4)] hI rfl rfl ⟨⟨_,rfl,.p rfl⟩,⟨_,rfl,.pure pu⟩,⟨_,rfl,.pure pu⟩,⟨_,rfl,.pure pu⟩,trivial⟩ ⟨.inr ⟨_,_,rfl,rfl,.pure pul⟩,trivial⟩
  rintro i ⟨hi,hall⟩
  have hbi:bN x l n j i<n:=bN_lt (by omega) i
  refine at_seq<|at_region<|s1 (y_p rfl) rfl ?_
  refine at_nil<|x_tn<|at_seq ?_
  refine at_cond rfl (fun hc24=>?_) (fun hc24=>?_)
  ·have h24 : i < 2 := by have := of_decide_eq_true hc24; omega
   refine at_skip<|x_tn<|at_seq<|at_block<|at_seq<|at_region<|s1 (y_ixf i Tryz.underlying30 ti3 rfl rfl rfl (by omega) rfl) rfl<|s1 (y_load ti3 rfl rfl (bitL_get x l n j i h24)) rfl<|s1 (y_p rfl) rfl ?_
   refine at_nil<|x_tn<|at_seq<|at_region<|s1 (y_fld Tryz.underlying120 rfl ti68 (by decide) rfl rfl) rfl<|s1 (y_load ti68 rfl rfl rfl) rfl<|s1 (y_p rfl) rfl<|s1 (quoN _ 8 rfl rfl rfl rfl (by omega) (by omega)) rfl<|s1 (y_ixf (bN x l n j i / 8) Tryz.underlying68 ti5 rfl rfl rfl (by omega) rfl) rfl<|s1 (y_load ti5 rfl rfl (getD8 (by omega))) rfl<|s1 (y_p rfl) rfl<|s1 (remN _ 8 rfl rfl rfl rfl (by omega)) rfl<|s1 (shrB (D.getD (bN x l n j i / 8) 0) (bN x l n j i % 8) rfl rfl rfl (by omega)) rfl<|s1 (andB _ (1:UInt8) rfl rfl) rfl ?_
   refine s1 ((y_p rfl).v (v':= .b (!bitA D (bN x l n j i))) (congrArg A.b (has_byte _ _))) rfl ?_
   refine at_nil<|x_tn ?_
   refine at_cond rfl (fun hc37=>?_) (fun hc37=>?_)
   ·have hb : bitA D (bN x l n j i) = false := by simpa using hc37
    refine at_seq<|at_region<|s1 (y_p rfl) rfl<|s1 ((y_p rfl).v (v':= .i .i64 0) rfl) rfl ?_
    refine at_nil<|x_tn<|at_ret<|x_br<|x_tr<|x_tr<|x_br<|x_tr ?_
    refine at_result (rs:= [.tmp 6,.tmp 7]) rfl (r_tmp rfl (r_tmp rfl r_nil)) ?_
    show A.tu _=_
    rw [has_yes hcs,hasD_no h24 hb];rfl
   ·have hb : bitA D (bN x l n j i) = true := by simpa using hc37
    refine at_skip<|x_bn<|x_tn<|at_region<|s1 (addN _ 1 rfl rfl rfl rfl (by omega)) rfl<|s1 (y_p rfl) rfl ?_
    refine at_nil ?_
    exact at_end (i+1) (⟨by omega,all_next hall hb⟩) (by omega) [(4,some 4)] hI rfl rfl ⟨⟨_,rfl,.p rfl⟩,⟨_,rfl,.pure pu⟩,⟨_,rfl,.pure pu⟩,⟨_,rfl,.pure pu⟩,trivial⟩ ⟨.inr ⟨_,_,rfl,rfl,.pure pul⟩,trivial⟩
  ·have h24 : i = 2 := by have := of_decide_eq_false hc24; omega
   subst h24
   refine at_exit<|x_te<|x_te<|x_be<|x_tn<|at_seq<|at_region<|s1 (y_p rfl) rfl<|s1 ((y_p rfl).v (v':= .i .i64 0) rfl) rfl ?_
   refine at_nil<|x_tn<|at_ret ?_
   refine at_result (rs:= [.tmp 6,.tmp 7]) rfl (r_tmp rfl (r_tmp rfl r_nil)) ?_
   show A.tu _=_
   rw [has_yes hcs,hasD_yes hall];rfl
theorem fclone_ok (D:List UInt8) (h:0<D.length) (hD:D.length≤1000000):Con Tryz.prog 51 [slA D] (RetO 1 D.length (D.map u8)):=by
 refine enter Tryz.func51 rfl Tryz.ntmps51 (by kernel_rfl) (Nat.le_of_ble_eq_true rfl) fun w0 X0 hI=>?_
 refine at_seq<|at_region<|s1 (y_p rfl) rfl ?_
 refine at_nil<|x_tn<|at_seq<|at_seq<|at_region<|s1 (y_p rfl) rfl<|s1 (y_fznil Tryz.underlying68 rfl rfl h) rfl ?_
 refine at_nil<|x_tn ?_
 refine at_else rfl ?_
 refine at_skip<|x_tn<|at_seq<|at_region ?_
 refine at_op rfl (n_bs1 5 rfl Tryz.underlying68 ti5 rfl rfl rfl rfl rfl ?_)
 refine s1 (y_p rfl) rfl ?_
 refine at_op rfl (n_app 7 rfl Tryz.underlying68 ti5 rfl (.sl rfl (by first|rfl|omega|(simp<;>omega)|(simp [*]<;>omega))) rfl rfl (by first|rfl|omega|(simp<;>omega)|(simp [*]<;>omega)) (by first|omega|(simp only [maxLen];omega)|(simp [maxLen];done)|(simp [maxLen];omega)|(simp [maxLen, *];omega)) (by first|omega|(simp only [maxLen];omega)|(simp [maxLen];done)|(simp [maxLen];omega)|(simp [maxLen, *];omega)) rfl rfl rfl ?_)
 refine s1 (y_p rfl) rfl ?_
 refine at_nil<|x_tn<|at_ret ?_
 refine at_result (rs:= [.tmp 2]) rfl (r_tmp rfl r_nil) ⟨7,congrArg (A.sl 7 1 0) (Nat.zero_add _),rfl⟩
theorem fadd_ok (x:List UInt8) (lv nb id:Int) (D:List UInt8) (hx:x.length=32):Con Tryz.prog 75 [.ag (x.map u8),.ag [.i .i64 lv,.i .i64 nb,slA D],.i .i64 id] (Ret (addA x lv nb D id)):=by
 refine enter Tryz.func75 rfl Tryz.ntmps75 (by kernel_rfl) (Nat.le_of_ble_eq_true rfl) fun w0 X0 hI=>?_
 refine at_seq<|at_region ?_
 refine at_op rfl (n_boxA 3 rfl rfl rfl ?_)
 refine at_op rfl (n_boxA 4 rfl rfl rfl ?_)
 refine at_op rfl (n_alloc 6 rfl ti120 rfl rfl ?_)
 refine s1 ((y_p rfl).v (v':= .i .i64 0) rfl) rfl ?_
 refine at_nil<|x_tn<|at_seq ?_
 rcases tf (okB lv nb D id)with hcs|hcs
 ·skip
  refine at_region<|s1 (y_loadA0 ti23 rfl rfl (by first|rfl|omega|(simp<;>omega)|(simp [*]<;>omega))) rfl<|s1 (y_loadA0 ti120 rfl rfl (by first|rfl|omega|(simp<;>omega)|(simp [*]<;>omega))) rfl<|s1 (y_p rfl) rfl ?_
  refine at_op rfl (n_call false rfl (.cons (.pure pu) (.cons (.pure pu) (.cons (.pure pu) (.nil)))) (Con.cast (fbits_ok x _ _ _ D hx) (bits_no hcs)) pu (.inl rfl) rfl ?_)
  refine s1 (y_p rfl) rfl<|s1 (y_p rfl) rfl<|s1 (y_p rfl) rfl<|s1 (y_p rfl) rfl<|s1 (y_p rfl) rfl ?_
  refine at_nil<|x_tn<|at_seq<|at_seq<|at_region<|s1 (y_p rfl) rfl<|s1 ((y_p rfl).v (v':= .b true) (rfl)) rfl ?_
  refine at_nil<|x_tn ?_
  refine at_then rfl ?_
  refine at_seq<|at_region<|s1 (y_loadA0 ti120 rfl rfl (by first|rfl|omega|(simp<;>omega)|(simp [*]<;>omega))) rfl<|s1 (y_p rfl) rfl ?_
  refine at_op rfl (n_storeA ti120 rfl rfl rfl (by first|rfl|omega|(simp<;>omega)|(simp [*]<;>omega)) (by first|rfl|omega|(simp<;>omega)|(simp [*]<;>omega)) ?_)
  refine s1 (y_p rfl) rfl ?_
  refine at_nil<|x_tn<|at_ret<|x_tr ?_
  refine at_wkO 6 rfl (.cons (.eq rfl) (.cons (.eq rfl) (.cons .nl .nil))) ?_
  refine at_result (rs:= [.cell 6 120,.tmp 7]) rfl (r_cellA ti120 rfl rfl rfl rfl (r_tmp rfl r_nil)) ?_
  show A.tu _=_
  rw [add_no hcs];rfl
 ·obtain ⟨l, n, j, rfl, rfl, rfl, h1, h2, h3, h4, h5, h6⟩ := ok_nat hcs
  refine at_region<|s1 (y_loadA0 ti23 rfl rfl (by first|rfl|omega|(simp<;>omega)|(simp [*]<;>omega))) rfl<|s1 (y_loadA0 ti120 rfl rfl (by first|rfl|omega|(simp<;>omega)|(simp [*]<;>omega))) rfl<|s1 (y_p rfl) rfl ?_
  refine at_op rfl (n_call false rfl (.cons (.pure pu) (.cons (.pure pu) (.cons (.pure pu) (.nil)))) (Con.cast (fbits_ok x _ _ _ D hx) (bits_yes hcs)) pu (.inl rfl) rfl ?_)
  refine s1 (y_p rfl) rfl<|s1 (y_p rfl) rfl<|s1 (y_p rfl) rfl<|s1 (y_p rfl) rfl<|s1 (y_p rfl) rfl ?_
  refine at_nil<|x_tn<|at_seq<|at_seq<|at_region<|s1 (y_p rfl) rfl<|s1 ((y_p rfl).v (v':= .b false) (rfl)) rfl ?_
  refine at_nil<|x_tn ?_
  refine at_else rfl ?_
  refine at_skip<|x_tn<|at_seq<|at_region<|s1 (y_loadA0 ti120 rfl rfl (by first|rfl|omega|(simp<;>omega)|(simp [*]<;>omega))) rfl ?_
  refine at_op rfl (n_storeA ti120 rfl rfl rfl (by first|rfl|omega|(simp<;>omega)|(simp [*]<;>omega)) (by first|rfl|omega|(simp<;>omega)|(simp [*]<;>omega)) ?_)
  refine at_nil<|x_tn<|at_seq<|at_region<|s1 (y_fld Tryz.underlying120 rfl ti68 (by decide) rfl rfl) rfl<|s1 (y_load ti68 rfl rfl rfl) rfl ?_
  refine at_op rfl (n_callO 25 rfl false rfl (.cons (.pure pu) (.nil)) (fclone_ok D (by omega) (by omega)) pul (.inl rfl) rfl ?_)
  refine s1 (y_fld Tryz.underlying120 rfl ti68 (by decide) rfl rfl) rfl ?_
  refine at_op rfl (n_store1 ti68 rfl rfl rfl rfl (by first|rfl|omega|(simp<;>omega)|(simp [*]<;>omega)) rfl ?_)
  refine at_nil<|x_tn<|at_seq<|at_seq<|at_region<|s1 (y_p rfl) rfl<|s1 (y_len Tryz.underlying30 rfl rfl rfl) rfl<|s1 ((y_p rfl).v (v':= .i .i64 0) rfl) rfl ?_
  refine at_nil<|x_tn<|at_block ?_
  refine at_loop (ι:=Nat) (fun i=> [(6,.p 6 0),(27,.fz 2 ((bitL x l n j 2).map nJ)),(28,nJ 2),(29,nJ i)]) (fun i=>⟨[(6,some ([nJ l,nJ n,.sl 25 1 0 D.length])),(25,some ((setsB x l n j D i).map u8))]⟩) (fun i=>i≤2) (fun i=>2 - i) ?_ ?_
  ·exact at_ex (0) (Nat.zero_le _) [(6,some 6),(25,some 25)] hI rfl rfl ⟨⟨_,rfl,.p rfl⟩,⟨_,rfl,.pure pu⟩,⟨_,rfl,.pure pu⟩,⟨_,rfl,.pure pu⟩,trivial⟩ ⟨.inr ⟨_,_,rfl,rfl,.cons (.pure pu) (.cons (.pure pu) (.cons (.sl rfl rfl) .nil))⟩,.inr ⟨_,_,rfl,rfl,.of (by rfl) (.pure pul)⟩,trivial⟩
  rintro i hi
  have hbi:bN x l n j i<n:=bN_lt (by omega) i
  have hsl:=len_setsB x l n j D i
  refine at_seq<|at_region<|s1 (y_p rfl) rfl ?_
  refine at_nil<|x_tn<|at_seq ?_
  refine at_cond rfl (fun hc30=>?_) (fun hc30=>?_)
  ·have h30 : i < 2 := by have := of_decide_eq_true hc30; omega
   refine at_skip<|x_tn<|at_seq<|at_block<|at_seq<|at_region<|s1 (y_ixf i Tryz.underlying30 ti3 rfl rfl rfl (by omega) rfl) rfl<|s1 (y_load ti3 rfl rfl (bitL_get x l n j i h30)) rfl<|s1 (y_p rfl) rfl ?_
   refine at_nil<|x_tn ?_
   refine at_draw_tail 11 hmix (by kernel_rfl) ?_
   refine t1 (y_fld Tryz.underlying120 rfl ti68 (by decide) rfl rfl) rfl<|t1 (y_load ti68 rfl rfl rfl) rfl<|t1 (y_p rfl) rfl<|t1 (quoN _ 8 rfl rfl rfl rfl (by omega) (by omega)) rfl<|t1 (y_ixs (bN x l n j i / 8) Tryz.underlying68 ti5 rfl rfl rfl rfl (by omega) rfl) rfl<|t1 (y_load ti5 rfl rfl (getO8 (by omega))) rfl<|t1 (y_p rfl) rfl<|t1 (remN _ 8 rfl rfl rfl rfl (by omega)) rfl<|t1 (shl1B (bN x l n j i % 8) rfl rfl rfl (by omega)) rfl<|t1 (orB _ _ rfl rfl) rfl ?_
   refine t1 (y_ixs (bN x l n j i / 8) Tryz.underlying68 ti5 rfl rfl rfl rfl (by omega) rfl) rfl ?_
   refine at_snil ?_
   refine at_op rfl (n_store1 ti5 rfl rfl rfl rfl (by simp [hsl];omega) (setD9 _ _) ?_)
   refine at_nil<|x_bn<|x_tn<|at_region<|s1 (addN _ 1 rfl rfl rfl rfl (by omega)) rfl<|s1 (y_p rfl) rfl ?_
   refine at_nil ?_
   exact at_end (i+1) (by omega) (by omega) [(6,some 6),(25,some 25)] hI rfl rfl ⟨⟨_,rfl,.p rfl⟩,⟨_,rfl,.pure pu⟩,⟨_,rfl,.pure pu⟩,⟨_,rfl,.pure pu⟩,trivial⟩ ⟨.inr ⟨_,_,rfl,rfl,.cons (.pure pu) (.cons (.pure pu) (.cons (.sl rfl rfl) .nil))⟩,.inr ⟨_,_,rfl,rfl,.of (by rfl) (.pure pul)⟩,trivial⟩
  ·have h30 : i = 2 := by have := of_decide_eq_false hc30; omega
   subst h30
   refine at_exit<|x_te<|x_te<|x_be<|x_tn<|at_seq<|at_region<|s1 (y_loadA0 ti120 rfl rfl (by first|rfl|omega|(simp<;>omega)|(simp [*]<;>omega))) rfl ?_
   refine at_op rfl (n_storeA ti120 rfl rfl rfl (by first|rfl|omega|(simp<;>omega)|(simp [*]<;>omega)) (by first|rfl|omega|(simp<;>omega)|(simp [*]<;>omega)) ?_)
   refine s1 ((y_p rfl).v (v':= .i .i64 0) rfl) rfl ?_
   refine at_nil<|x_tn<|at_ret ?_
   refine at_frzO 6 2 rfl rfl rfl rfl pul (view_eq (by simp) rfl) rfl ?_
   refine at_result (rs:= [.cell 6 120,.tmp 7]) rfl (r_cellA ti120 rfl rfl rfl rfl (r_tmp rfl r_nil)) ?_
   show A.tu _=_
   rw [add_yes hcs,filA,slA,len_setsB];rfl
end Go.Abs.D2
-- F3E
namespace Go.Abs.D2
open Go Go.Eng Go.Abs Go.Proofs
end Go.Abs.D2
-- C4B
namespace Go.Abs.D2
open Go Go.Eng Go.Abs Go.Proofs
theorem listed_ok (l:List Int) (hn:l.length≤maxLen):Con Tryz.prog 72 [.fz l.length (l.map (A.i .i64))] (Ret (.b (listedB l))):=by
 refine enter Tryz.func72 rfl Tryz.ntmps72 (by kernel_rfl) (Nat.le_of_ble_eq_true rfl) fun w0 X0 hI=>?_
 refine at_seq<|at_region<|s1 (y_p rfl) rfl ?_
 refine at_nil<|x_tn<|at_seq ?_
 simp only [maxLen]at hn
 refine at_region<|s1 ((y_p rfl).v (v':= .i .i64 (-1)) rfl) rfl ?_
 refine at_nil<|x_tn<|at_seq<|at_seq<|at_region<|s1 (y_p rfl) rfl<|s1 (y_len Tryz.underlying30 rfl rfl rfl) rfl<|s1 ((y_p rfl).v (v':= .i .i64 0) rfl) rfl ?_
 refine at_nil<|x_tn<|at_block ?_
 refine at_loop (ι:=Nat) (fun i=> [(3,.i .i64 (lastI l i)),(6,.fz l.length (l.map (A.i .i64))),(7,nJ l.length),(8,nJ i)]) (fun i=>⟨[]⟩) (fun i=>i≤l.length∧listedB l=ascB (lastI l i) (l.drop i)) (fun i=>l.length - i) ?_ ?_
 ·exact at_ex (0) (⟨Nat.zero_le _,asc_start l⟩) [] hI rfl rfl ⟨⟨_,rfl,.pure pu⟩,⟨_,rfl,.pure pu⟩,⟨_,rfl,.pure pu⟩,⟨_,rfl,.pure pu⟩,trivial⟩ trivial
 rintro i ⟨hi,hl⟩
 refine at_seq<|at_region<|s1 (y_p rfl) rfl ?_
 refine at_nil<|x_tn<|at_seq ?_
 refine at_cond rfl (fun hc9=>?_) (fun hc9=>?_)
 ·have h9 : i < l.length := by have := of_decide_eq_true hc9; omega
  obtain⟨q,hq⟩:∃q,l[i]? =some q:=⟨_,List.getElem?_eq_getElem h9⟩
  refine at_skip<|x_tn<|at_seq<|at_block<|at_seq<|at_region<|s1 (y_ixf i Tryz.underlying30 ti3 rfl rfl rfl (by omega) rfl) rfl<|s1 (y_load ti3 rfl rfl (getI4 hq)) rfl<|s1 (y_p rfl) rfl ?_
  refine at_nil<|x_tn<|at_seq<|at_seq<|at_region<|s1 (y_p rfl) rfl<|s1 (y_p rfl) rfl<|s1 (y_p rfl) rfl<|s1 (y_p rfl) rfl ?_
  refine g_or 2 rfl rfl rfl rfl (fun hb15=> .step (y_p rfl) rfl rfl<| .step (y_p rfl) rfl rfl<| .done) rfl rfl ?_
  refine at_nil<|x_tn ?_
  refine at_cond rfl (fun hc18=>?_) (fun hc18=>?_)
  ·have h18 : ¬ (lastI l i < q ∧ q < 1024) := by simp at hc18; omega
   refine at_seq<|at_region<|s1 (y_p rfl) rfl ?_
   refine at_nil<|x_tn<|at_ret<|x_tr<|x_br<|x_tr<|x_tr<|x_br<|x_tr ?_
   refine at_result (rs:= [.tmp 2]) rfl (r_tmp rfl r_nil) ?_
   exact congrArg A.b (asc_no hl hq h18).symm
  ·have h18 : lastI l i < q ∧ q < 1024 := by simp at hc18; omega
   refine at_skip<|x_tn<|at_region<|s1 ((y_p rfl).v (v':= .i .i64 (lastI l (i+1))) (congrArg (A.i .i64) (lastI_next hq).symm)) rfl<|s1 (y_p rfl) rfl ?_
   refine at_nil<|x_bn<|x_tn<|at_region<|s1 (addN _ 1 rfl rfl rfl rfl (by omega)) rfl<|s1 (y_p rfl) rfl ?_
   refine at_nil ?_
   exact at_end (i+1) (⟨by omega,asc_next hl hq h18⟩) (by omega) [] hI rfl rfl ⟨⟨_,rfl,.pure pu⟩,⟨_,rfl,.pure pu⟩,⟨_,rfl,.pure pu⟩,⟨_,rfl,.pure pu⟩,trivial⟩ trivial
 ·have h9 : i = l.length := by have := of_decide_eq_false hc9; omega
  subst h9
  refine at_exit<|x_te<|x_te<|x_be<|x_tn<|at_seq<|at_region<|s1 (y_p rfl) rfl ?_
  refine at_nil<|x_tn<|at_ret ?_
  refine at_result (rs:= [.tmp 2]) rfl (r_tmp rfl r_nil) ?_
  exact congrArg A.b (asc_end hl).symm
theorem cchk_ok (c:Cas) (hx:c.x.length=32) (hn:c.E.length≤maxLen):Con Tryz.prog 80 [.ag (casL c)] (Ret (.i .i64 (errC (chkC c)))):=by
 refine enter Tryz.func80 rfl Tryz.ntmps80 (by kernel_rfl) (Nat.le_of_ble_eq_true rfl) fun w0 X0 hI=>?_
 refine at_seq<|at_region ?_
 refine at_op rfl (n_boxA 1 rfl rfl rfl ?_)
 refine s1 ((y_p rfl).v (v':= .i .i64 0) rfl) rfl ?_
 refine at_nil<|x_tn<|at_seq<|at_seq<|at_region<|s1 (y_fld Tryz.underlying60 rfl ti58 (by decide) rfl rfl) rfl<|s1 (y_load ti58 rfl rfl (cas_F hx)) rfl<|s1 (y_len Tryz.underlying58 rfl rfl rfl) rfl<|s1 (y_p rfl) rfl<|s1 (y_p rfl) rfl ?_
 refine at_bc 9 rfl (fun hc9=>?_) (fun hc9=>?_)
 ·have h4 : ¬ c.F.length ≤ 16 := by simp at hc9; omega
  refine g0 rfl rfl rfl rfl<|g0 rfl rfl rfl rfl<|g0 rfl rfl rfl rfl<|g0 rfl rfl rfl rfl<|s1 (y_p rfl) rfl ?_
  refine at_nil<|x_tn ?_
  refine at_then rfl ?_
  refine at_seq<|at_region<|s1 ((y_p rfl).v (v':= .i .i64 340) rfl) rfl ?_
  refine at_nil<|x_tn<|at_ret<|x_tr ?_
  refine at_result (rs:= [.tmp 2]) rfl (r_tmp rfl r_nil) ?_
  exact congrArg (A.i .i64) (by rw [chkC_no1 h4];rfl)
 ·have h4 : c.F.length ≤ 16 := by simp at hc9; omega
  refine g1 rfl rfl (y_fld Tryz.underlying60 rfl ti30 (by decide) rfl rfl) rfl<|g1 rfl rfl (y_load ti30 rfl rfl (cas_E hx)) rfl ?_
  refine at_opg rfl rfl rfl (n_call false rfl (.cons (.pure pu) (.nil)) (listed_ok c.E hn) pu (.inl rfl) rfl ?_)
  refine g1 rfl rfl (y_p rfl) rfl<|s1 (y_p rfl) rfl ?_
  refine at_nil<|x_tn ?_
  refine at_cond rfl (fun hc14=>?_) (fun hc14=>?_)
  ·have h14 : listedB c.E = false := by simpa using hc14
   refine at_seq<|at_region<|s1 ((y_p rfl).v (v':= .i .i64 340) rfl) rfl ?_
   refine at_nil<|x_tn<|at_ret<|x_tr ?_
   refine at_result (rs:= [.tmp 2]) rfl (r_tmp rfl r_nil) ?_
   exact congrArg (A.i .i64) (by rw [chkC_no2 h14];rfl)
  ·have h14 : listedB c.E = true := by simpa using hc14
   refine at_skip<|x_tn<|at_seq<|at_seq<|at_region<|s1 (y_fld Tryz.underlying60 rfl ti58 (by decide) rfl rfl) rfl<|s1 (y_load ti58 rfl rfl (cas_F hx)) rfl<|s1 (y_len Tryz.underlying58 rfl rfl rfl) rfl<|s1 ((y_p rfl).v (v':= .i .i64 0) rfl) rfl ?_
   refine at_nil<|x_tn<|at_block ?_
   refine at_loop (ι:=Nat) (fun i=> [(16,filsA c.F),(17,nJ c.F.length),(18,nJ i)]) (fun i=>⟨[]⟩) (fun i=>i≤c.F.length∧levB 0 c.F=levB i (c.F.drop i)) (fun i=>c.F.length - i) ?_ ?_
   ·exact at_ex (0) (⟨Nat.zero_le _,rfl⟩) [] hI rfl rfl ⟨⟨_,rfl,.pure pu⟩,⟨_,rfl,.pure pu⟩,⟨_,rfl,.pure pu⟩,trivial⟩ trivial
   rintro i ⟨hi,hl⟩
   refine at_seq<|at_region<|s1 (y_p rfl) rfl ?_
   refine at_nil<|x_tn<|at_seq ?_
   refine at_cond rfl (fun hc19=>?_) (fun hc19=>?_)
   ·have h19 : i < c.F.length := by have := of_decide_eq_true hc19; omega
    obtain⟨f,hf⟩:∃f,c.F[i]? =some f:=⟨_,List.getElem?_eq_getElem h19⟩
    refine at_skip<|x_tn<|at_seq<|at_block<|at_seq<|at_region<|s1 (y_p rfl) rfl<|s1 (y_ixf i Tryz.underlying58 ti120 rfl rfl rfl (by omega) rfl) rfl<|s1 (y_loadA ti120 rfl rfl (flat_get hf) rfl) rfl ?_
    refine at_op rfl (n_alloc 4 rfl ti120 rfl rfl ?_)
    refine s1 (y_p rfl) rfl ?_
    refine at_op rfl (n_storeA ti120 rfl rfl rfl (by first|rfl|omega|(simp<;>omega)|(simp [*]<;>omega)) (by first|rfl|omega|(simp<;>omega)|(simp [*]<;>omega)) ?_)
    refine at_nil<|x_tn<|at_seq<|at_region<|s1 (y_fld Tryz.underlying120 rfl ti3 (by decide) rfl rfl) rfl<|s1 (y_load ti3 rfl rfl rfl) rfl<|s1 (y_p rfl) rfl<|s1 (y_p rfl) rfl<|s1 (y_p rfl) rfl ?_
    refine at_bc 27 rfl (fun hc27=>?_) (fun hc27=>?_)
    ·have h27 : ¬ f.lv = i := by simpa using hc27
     refine g0 rfl rfl rfl rfl<|g0 rfl rfl rfl rfl<|g0 rfl rfl rfl rfl<|s1 (y_p rfl) rfl ?_
     refine at_nil<|x_tn ?_
     refine at_then rfl ?_
     refine at_seq<|at_region<|s1 ((y_p rfl).v (v':= .i .i64 340) rfl) rfl ?_
     refine at_nil<|x_tn<|at_ret<|x_br<|x_tr<|x_tr<|x_br<|x_tr ?_
     refine at_result (rs:= [.tmp 2]) rfl (r_tmp rfl r_nil) ?_
     exact congrArg (A.i .i64) (by rw [chkC_no3 (lev_no hl hf (fun h=>h27 h.1))];rfl)
    ·have h27 : f.lv = i := by simpa using hc27
     refine g1 rfl rfl (y_loadA0 ti120 rfl rfl rfl) rfl ?_
     refine at_opg rfl rfl rfl (n_call false rfl (.cons (.pure pu) (.nil)) (fchk_ok f.lv f.nb f.D) pu (.inl rfl) rfl ?_)
     refine g1 rfl rfl (y_p rfl) rfl<|s1 (y_p rfl) rfl ?_
     refine at_nil<|x_tn ?_
     refine at_cond rfl (fun hc31=>?_) (fun hc31=>?_)
     ·have h31 : ¬ (f.lv = i ∧ chkB f.lv f.nb f.D = true) := by intro h; simp [h.2, errF] at hc31
      refine at_seq<|at_region<|s1 ((y_p rfl).v (v':= .i .i64 340) rfl) rfl ?_
      refine at_nil<|x_tn<|at_ret<|x_br<|x_tr<|x_tr<|x_br<|x_tr ?_
      refine at_result (rs:= [.tmp 2]) rfl (r_tmp rfl r_nil) ?_
      exact congrArg (A.i .i64) (by rw [chkC_no3 (lev_no hl hf h31)];rfl)
     ·have h31 : f.lv = i ∧ chkB f.lv f.nb f.D = true := ⟨h27, by cases hk : chkB f.lv f.nb f.D with | true => rfl | false => simp [hk, errF] at hc31⟩
      refine at_skip<|x_bn<|x_tn<|at_region<|s1 (addN _ 1 rfl rfl rfl rfl (by omega)) rfl<|s1 (y_p rfl) rfl ?_
      refine at_nil ?_
      exact at_end (i+1) (⟨by omega,lev_next hl hf h31.1 h31.2⟩) (by omega) [] hI rfl rfl ⟨⟨_,rfl,.pure pu⟩,⟨_,rfl,.pure pu⟩,⟨_,rfl,.pure pu⟩,trivial⟩ trivial
   ·have h19 : i = c.F.length := by have := of_decide_eq_false hc19; omega
    subst h19
    refine at_exit<|x_te<|x_te<|x_be<|x_tn<|at_seq<|at_region<|s1 ((y_p rfl).v (v':= .i .i64 0) rfl) rfl ?_
    refine at_nil<|x_tn<|at_ret ?_
    refine at_result (rs:= [.tmp 2]) rfl (r_tmp rfl r_nil) ?_
    exact congrArg (A.i .i64) (by rw [chkC_yes h4 h14 (lev_end hl)];rfl)
end Go.Abs.D2
-- C4C
namespace Go.Abs.D2
open Go Go.Eng Go.Abs Go.Proofs
end Go.Abs.D2
-- C4D
namespace Go.Abs.D2
open Go Go.Eng Go.Abs Go.Proofs
end Go.Abs.D2
namespace Go.Eng
open Go Go.Eng Go.Proofs Go.Abs
theorem zero_bool (w:World):(zeroValue 4).run Tryz.prog w= .ok (.bool false) w:=by kernel_rfl
theorem offAll_of {w:World} {b blk clk:Nat} {es:Array MapEntry} (h:w.heap.size≤b):offAll [(b,.map es clk)] w blk:=⟨.inr h,trivial⟩
theorem disj_raw (w:World) (a1 a2:Option Addr) (c1 c2:Nat) (l1 l2:List Int) (h1:RI w a1 l1) (h2:RI w a2 l2) (hn1:l1.length≤maxLen) (hn2:l2.length≤maxLen):Fn Tryz.prog 73 #[.slice a1 l1.length c1,.slice a2 l2.length c2] w (fun v w2=>v= .bool (disjB l1 l2)∧RowKit.Below w.heap.size w w2):=by
 simp only [maxLen]at hn1 hn2
 have hlt0:True:=trivial
 refine enter Tryz.func73 rfl Tryz.ntmps73 (by kernel_rfl) rfl ?_
 refine at_seq<|at_region<|s1 (y_p rfl) rfl ?_
 refine at_nil<|x_tn<|at_seq<|at_region ?_
 refine at_op rfl (n_makeMap rfl fun b hbS hbH=>?_)
 have hlb:w.heap.size≤b:=hbS.1
 refine s1 (y_p rfl) rfl ?_
 refine at_nil<|x_tn<|at_seq<|at_seq<|at_region<|s1 (y_p rfl) rfl<|s1 (y_len Tryz.underlying30 rfl rfl) rfl<|s1 (y_p rfl) rfl ?_
 refine at_nil<|x_tn<|at_block ?_
 refine at_loop (ι:=Nat×Array MapEntry×Nat) (fun⟨i,es,clk⟩=> [(1,.slice a2 l2.length c2),(5,.map (some b)),(11,.slice a1 l1.length c1),(12,.int .i64 (l1.length:Nat)),(13,.int .i64 (i:Nat))]) (fun⟨i,es,clk⟩=> [w]) (fun⟨i,es,clk⟩=> [(b,.map es clk)]) (fun⟨i,es,clk⟩=>i≤l1.length∧MapF es clk (setF (l1.take i))) (fun⟨i,es,clk⟩=>l1.length - i) ?_ ?_
 ·exact at_ex (0, #[],0) ⟨Nat.zero_le _,MapF.empty 0⟩ ⟨rfl,rfl,rfl,rfl,rfl,trivial⟩ (fun _ h=>h)
 rintro⟨i,es,clk⟩ ⟨hi,hF⟩
 dsimp only
 refine at_seq<|at_region<|s1 (y_p rfl) rfl ?_
 refine at_nil<|x_tn<|at_seq ?_
 refine at_cond rfl (fun hc14=>?_) (fun hc14=>?_)
 ·have h14 : i < l1.length := by have := of_decide_eq_true hc14; omega
  obtain⟨q,hq⟩:∃q,l1[i]? =some q:=⟨_,List.getElem?_eq_getElem h14⟩
  have hr:=h1 i q hq
  refine at_skip<|x_tn<|at_seq<|at_block<|at_seq<|at_region<|s1 (y_idx1 i Tryz.underlying30 ti3 rfl rfl rfl (by omega) hr.1) rfl<|s1 (y_load ti3 rfl (fun w2 hG2=>hG2.cell' (.head _) hr.2 (offAll_of hlb))) rfl<|s1 (y_p rfl) rfl ?_
  refine at_nil<|x_tn<|at_region<|s1 (y_p rfl) rfl<|s1 (y_p rfl) rfl ?_
  refine at_op rfl (n_mapUpdate 0 Tryz.underlying161 Tryz.underlying3 rfl rfl rfl rfl hF fun es2 clk2 hF2=>?_)
  refine at_nil<|x_bn<|x_tn<|at_region<|s1 (addN i 1 rfl rfl rfl rfl (by omega)) rfl<|s1 (y_p rfl) rfl ?_
  refine at_nil ?_
  exact at_end (x:=(i,es,clk)) (i+1,es2,clk2) ⟨(show i+1≤l1.length from by omega),by rw [←setF_next hq];exact hF2⟩ (show l1.length - (i+1)<l1.length - i from by omega) ⟨rfl,rfl,rfl,rfl,rfl,trivial⟩ (fun _ h=>h)
 ·have h14 : i = l1.length := by have := of_decide_eq_false hc14; omega
  subst h14
  rw [List.take_length]at hF
  refine at_exit<|x_te<|x_te<|x_be<|x_tn<|at_seq<|at_seq<|at_region<|s1 (y_p rfl) rfl<|s1 (y_len Tryz.underlying30 rfl rfl) rfl<|s1 (y_p rfl) rfl ?_
  refine at_nil<|x_tn<|at_block ?_
  refine at_loop (ι:=Nat) (fun j=> [(5,.map (some b)),(20,.slice a2 l2.length c2),(21,.int .i64 (l2.length:Nat)),(22,.int .i64 (j:Nat))]) (fun j=> [w]) (fun j=> [(b,.map es clk)]) (fun j=>j≤l2.length∧(l2.take j).all (fun n=>!decide (n∈l1))=true) (fun j=>l2.length - j) ?_ ?_
  ·exact at_ex 0 ⟨Nat.zero_le _,rfl⟩ ⟨rfl,rfl,rfl,rfl,trivial⟩ (fun _ h=>h)
  rintro j ⟨hj,hall⟩
  refine at_seq<|at_region<|s1 (y_p rfl) rfl ?_
  refine at_nil<|x_tn<|at_seq ?_
  refine at_cond rfl (fun hc23=>?_) (fun hc23=>?_)
  ·have h23 : j < l2.length := by have := of_decide_eq_true hc23; omega
   obtain⟨q,hq⟩:∃q,l2[j]? =some q:=⟨_,List.getElem?_eq_getElem h23⟩
   have hr:=h2 j q hq
   refine at_skip<|x_tn<|at_seq<|at_block<|at_seq<|at_region<|s1 (y_idx1 j Tryz.underlying30 ti3 rfl rfl rfl (by omega) hr.1) rfl<|s1 (y_load ti3 rfl (fun w2 hG2=>hG2.cell' (.head _) hr.2 (offAll_of hlb))) rfl<|s1 (y_p rfl) rfl ?_
   refine at_nil<|x_tn<|at_seq<|at_region<|s1 (y_p rfl) rfl<|s1 (y_p rfl) rfl<|s1 ((y_lookup 0 Tryz.underlying161 Tryz.underlying3 zero_bool rfl rfl rfl hF).v (setF_look l1 q)) rfl ?_
   refine at_nil<|x_tn ?_
   refine at_cond rfl (fun hc28=>?_) (fun hc28=>?_)
   ·skip
    refine at_seq<|at_region<|s1 (y_p rfl) rfl ?_
    refine at_nil<|x_tn<|at_ret<|x_br<|x_tr<|x_tr<|x_br<|x_tr ?_
    refine at_result (rs:= [.tmp 4]) rfl (r_tmp rfl r_nil) fun w1 hG1=>⟨congrArg Value.bool (disj_no hq (of_decide_eq_true hc28)).symm,hG1.below (.head _) (by intro p hp;rw [List.mem_singleton.1 hp];exact hlb)⟩
   ·skip
    refine at_skip<|x_bn<|x_tn<|at_region<|s1 (addN j 1 rfl rfl rfl rfl (by omega)) rfl<|s1 (y_p rfl) rfl ?_
    refine at_nil ?_
    exact at_end (x:=j) (j+1) ⟨(show j+1≤l2.length from by omega),all_next2 hq hall (by rw [hc28];rfl)⟩ (show l2.length - (j+1)<l2.length - j from by omega) ⟨rfl,rfl,rfl,rfl,trivial⟩ (fun _ h=>h)
  ·have h23 : j = l2.length := by have := of_decide_eq_false hc23; omega
   subst h23
   rw [List.take_length]at hall
   refine at_exit<|x_te<|x_te<|x_be<|x_tn<|at_seq<|at_region<|s1 (y_p rfl) rfl ?_
   refine at_nil<|x_tn<|at_ret ?_
   refine at_result (rs:= [.tmp 4]) rfl (r_tmp rfl r_nil) fun w1 hG1=>⟨congrArg Value.bool hall.symm,hG1.below (.head _) (by intro p hp;rw [List.mem_singleton.1 hp];exact hlb)⟩
end Go.Eng
namespace Go.Abs.D2
open Go Go.Eng Go.Abs Go.Proofs
theorem ri_of {X:Xs} {w:World} {a:Option Addr} {cap:Nat} {l:List Int} (h2:l.length≤cap) (h4:a=none→cap=0) (h5:0<cap→∀x,a=some x→x.spot=none) (h6:VM X w (l.map (A.i .i64)) (ab a) (ao a)):Go.Eng.RI w a l:=fun i v hi=>by
 have hlt:=(List.getElem?_eq_some_iff.1 hi).1
 obtain⟨_,u,e1,e2,_⟩:=VM_get h6 (j:=i) (c:= .i .i64 v) (by rw [List.getElem?_map,hi];rfl)
 rw [V_i]at e2
 subst e2
 refine⟨?_,e1⟩
 cases a with
 |none=>exact absurd (h4 rfl) (by omega)
 |some x=>
  have:=h5 (by omega) x rfl
  obtain⟨b,o,s⟩:=x
  simp only at this
  subst this;rfl
theorem disjoint_ok (a b:List Int) (hn1:a.length≤maxLen) (hn2:b.length≤maxLen):Con Tryz.prog 73 [.fz a.length (a.map (A.i .i64)),.fz b.length (b.map (A.i .i64))] (Ret (.b (Go.Eng.disjB a b))):=by
 intro w X β us hd hX hgl ho hi hv
 simp only [VS]at hv
 obtain⟨u1,r1,rfl,v1,u2,r2,rfl,v2,rfl⟩:=hv
 simp only [V]at v1 v2
 obtain⟨a1,c1,rfl,e2,e3,e4,e5,e6⟩:=v1
 obtain⟨a2,c2,rfl,g2,g3,g4,g5,g6⟩:=v2
 refine Eng.Fn.mono (Go.Eng.disj_raw w a1 a2 c1 c2 a b (ri_of e2 e4 e5 e6) (ri_of g2 g4 g5 g6) hn1 hn2) fun v w' ⟨hv,hb⟩=>?_
 subst hv
 refine⟨.b (Go.Eng.disjB a b),β,X,⟨[]⟩,rfl,fun _ _ h=>h,fun _ _ h=> .inl h,.of ⟨hb.os,hb.tape,hb.output,hb.size,fun k hk _=>hb.block k hk,fun s hs=>by cases hs⟩ (ExtB.refl β) (fun q o h=>Nat.lt_of_lt_of_le (hX q o h) hb.size) hd (fun id cs h=>by cases h) (fun i j ci cj q M N _ h _ _ _=>by cases h),by simp only [V]⟩
end Go.Abs.D2
-- C4E
namespace Go.Abs.D2
open Go Go.Eng Go.Abs Go.Proofs
theorem cbuild1_ok (x:List UInt8) (hx:x.length=32) (f:Fil) (q:Int):Con Tryz.prog 77 [.i .i64 q,.fp (x.map u8),.fp (filC f)] (Ret (.b (hasV x f.lv f.nb f.D q))):=by
 refine enter Tryz.func77 rfl Tryz.ntmps77 (by kernel_rfl) (Nat.le_of_ble_eq_true rfl) fun w0 X0 hI=>?_
 refine at_seq<|at_region<|s1 (y_p rfl) rfl ?_
 refine at_nil<|x_tn<|at_seq<|at_region<|s1 (y_loadA ti23 rfl rfl (List.take_of_length_le (by simp [hx])) (by simp [hx])) rfl<|s1 (y_loadA ti120 rfl rfl rfl rfl) rfl<|s1 (y_p rfl) rfl ?_
 refine at_op rfl (n_call false rfl (.cons (.pure pu) (.cons (.pure pu) (.cons (.pure pu) (.nil)))) (Con.cast (fhas_ok x f.lv f.nb q f.D hx) (has_form ..)) pu (.inl rfl) rfl ?_)
 refine s1 (y_p rfl) rfl<|s1 (y_p rfl) rfl<|s1 (y_p rfl) rfl<|s1 (y_p rfl) rfl<|s1 (y_p rfl) rfl ?_
 refine at_nil<|x_tn<|at_seq<|at_region<|s1 (y_p rfl) rfl<|s1 (y_p rfl) rfl ?_
 refine at_nil<|x_tn<|at_ret ?_
 refine at_result (rs:= [.tmp 4]) rfl (r_tmp rfl r_nil) ?_
 rfl
theorem cchoose_ok (x:List UInt8) (hx:x.length=32) (f:Fil) (l:List Int) (hn:l.length≤100):Con Tryz.prog 76 [.fz l.length (l.map (A.i .i64)),.fn (.func 77) [] [.fp (x.map u8),.fp (filC f)]] (Ret (intsA (wrongL x f l))):=by
 refine enter Tryz.func76 rfl Tryz.ntmps76 (by kernel_rfl) (Nat.le_of_ble_eq_true rfl) fun w0 X0 hI=>?_
 refine at_seq<|at_region<|s1 (y_p rfl) rfl ?_
 refine at_nil<|x_tn<|at_seq<|at_seq<|at_region<|s1 (y_p rfl) rfl<|s1 (y_len Tryz.underlying30 rfl rfl rfl) rfl<|s1 ((y_p rfl).v (v':= .i .i64 0) rfl) rfl ?_
 refine at_nil<|x_tn<|at_block ?_
 refine at_loop (ι:=Nat) (fun i=> [(1,.fn (.func 77) [] [.fp (x.map u8),.fp (filC f)]),(4,.sl 119 1 0 (wrongL x f (l.take i)).length),(7,.fz l.length (l.map (A.i .i64))),(8,nJ l.length),(9,nJ i)]) (fun i=>⟨[(119,some ((wrongL x f (l.take i)).map iA))]⟩) (fun i=>i≤l.length) (fun i=>l.length - i) ?_ ?_
 ·exact at_ex (0) (Nat.zero_le _) [(119,none)] hI rfl rfl ⟨⟨_,rfl,.pure pu⟩,⟨_,rfl,.nl rfl⟩,⟨_,rfl,.pure pu⟩,⟨_,rfl,.pure pu⟩,⟨_,rfl,.pure pu⟩,trivial⟩ ⟨.inl ⟨rfl,rfl⟩,trivial⟩
 rintro i hi
 have hwl:=len_wrong x f (l.take i)
 rw [List.length_take]at hwl
 refine at_seq<|at_region<|s1 (y_p rfl) rfl ?_
 refine at_nil<|x_tn<|at_seq ?_
 refine at_cond rfl (fun hc10=>?_) (fun hc10=>?_)
 ·have h10 : i < l.length := by have := of_decide_eq_true hc10; omega
  obtain⟨q,hq⟩:∃q,l[i]? =some q:=⟨_,List.getElem?_eq_getElem h10⟩
  refine at_skip<|x_tn<|at_seq<|at_block<|at_seq<|at_region<|s1 (y_ixf i Tryz.underlying30 ti3 rfl rfl rfl (by omega) rfl) rfl<|s1 (y_load ti3 rfl rfl (getI4 hq)) rfl<|s1 (y_p rfl) rfl ?_
  refine at_nil<|x_tn<|at_seq<|at_region<|s1 (y_p rfl) rfl<|s1 (y_p rfl) rfl ?_
  refine at_op rfl (n_callv false rfl rfl (.cons (.pure pu) (.cons (.pure pu) (.cons (.pure pu) .nil))) (cbuild1_ok x hx f q) pu (.inl rfl) rfl ?_)
  refine at_nil<|x_tn ?_
  refine at_cond rfl (fun hc15=>?_) (fun hc15=>?_)
  ·have hwn := wrong_len hq hc15
   refine at_region<|s1 (y_p rfl) rfl<|s1 (y_p rfl) rfl ?_
   refine at_op rfl (n_bs1 18 rfl Tryz.underlying30 ti3 rfl rfl rfl rfl rfl ?_)
   refine at_op rfl (n_app 19 rfl Tryz.underlying30 ti3 rfl (.sl rfl (by simp)) rfl (SM_full rfl (by first|rfl|omega|(simp<;>omega)|(simp [*]<;>omega))) (by simp) (by simp only [maxLen];omega) (by omega) rfl (wrong_next hq hc15) rfl ?_)
   refine s1 (y_p rfl) rfl ?_
   refine at_nil<|x_bn<|x_tn<|at_region<|s1 (addN _ 1 rfl rfl rfl rfl (by omega)) rfl<|s1 (y_p rfl) rfl ?_
   refine at_nil ?_
   exact at_end (i+1) (by omega) (by omega) [(119,some 19)] hI rfl rfl ⟨⟨_,rfl,.pure pu⟩,⟨_,rfl,.sl rfl (by first|rfl|omega|(simp<;>omega)|(simp [*]<;>omega))⟩,⟨_,rfl,.pure pu⟩,⟨_,rfl,.pure pu⟩,⟨_,rfl,.pure pu⟩,trivial⟩ ⟨.inr ⟨_,_,rfl,rfl,.pure pul⟩,trivial⟩
  ·have hfm := wrong_miss hq hc15
   have hwn:(wrongL x f (l.take i)).length=(wrongL x f (l.take (i+1))).length:=by rw [hfm]
   refine at_skip<|x_bn<|x_tn<|at_region<|s1 (addN _ 1 rfl rfl rfl rfl (by omega)) rfl<|s1 (y_p rfl) rfl ?_
   refine at_nil ?_
   exact at_end (i+1) (by omega) (by omega) [(119,some 119)] hI rfl rfl ⟨⟨_,rfl,.pure pu⟩,⟨_,rfl,.sl rfl (by first|rfl|omega|(simp<;>omega)|(simp [*]<;>omega))⟩,⟨_,rfl,.pure pu⟩,⟨_,rfl,.pure pu⟩,⟨_,rfl,.pure pu⟩,trivial⟩ ⟨.inr ⟨_,_,rfl,rfl,.of (by rw [hfm]) (.pure pul)⟩,trivial⟩
 ·obtain rfl : i = l.length := by have := of_decide_eq_false hc10; omega
  refine at_exit<|x_te<|x_te<|x_be<|x_tn<|at_seq ?_
  refine at_frz 4 rfl rfl pul (view_eq (by simp) rfl) ?_
  refine at_say 4 rfl (v':=intsA (wrongL x f l)) (by rw [List.take_length]) ?_
  refine at_region<|s1 (y_p rfl) rfl<|s1 (y_p rfl) rfl ?_
  refine at_nil<|x_tn<|at_ret ?_
  refine at_result (rs:= [.tmp 4]) rfl (r_tmp rfl r_nil) ?_
  rfl
theorem cbuild_ok (x:List UInt8) (hx:x.length=32) (p q:List Int) (hp:p.length≤100) (hq100:q.length≤100):Con Tryz.prog 29 [.ag (x.map u8),.fz p.length (p.map (A.i .i64)),.fz q.length (q.map (A.i .i64))] (Ret (buildA x p q)):=by
 refine enter Tryz.func29 rfl Tryz.ntmps29 (by kernel_rfl) (Nat.le_of_ble_eq_true rfl) fun w0 X0 hI=>?_
 refine at_seq<|at_region ?_
 refine at_op rfl (n_boxA 3 rfl rfl rfl ?_)
 refine at_op rfl (n_alloc 6 rfl ti60 rfl rfl ?_)
 refine s1 ((y_p rfl).v (v':= .i .i64 0) rfl) rfl ?_
 refine at_nil<|x_tn<|at_seq<|at_seq ?_
 rcases ok2_cases p q with hcs|hcs|hcs|hcs
 ·obtain ⟨h1, hb⟩ := hcs
  refine at_frzP 3 rfl rfl pul ?_
  refine at_region<|s1 (y_p rfl) rfl ?_
  refine at_op rfl (n_call false rfl (.cons (.pure pu) (.nil)) (Con.cast (listed_ok p (by simp only [maxLen];omega)) (congrArg A.b h1)) pu (.inl rfl) rfl ?_)
  refine s1 ((y_p rfl).v (v':= .b true) (rfl)) rfl<|s1 (y_p rfl) rfl<|g0 rfl rfl rfl rfl<|g0 rfl rfl rfl rfl<|g0 rfl rfl rfl rfl<|s1 (y_p rfl) rfl<|s1 (y_p rfl) rfl<|g0 rfl rfl rfl rfl<|g0 rfl rfl rfl rfl<|g0 rfl rfl rfl rfl ?_
  refine g0 rfl rfl rfl rfl<|s1 (y_p rfl) rfl ?_
  refine at_nil<|x_tn ?_
  refine at_then rfl ?_
  refine at_seq<|at_region<|s1 (y_loadA0 ti60 rfl rfl rfl) rfl ?_
  refine at_op rfl (n_storeA ti60 rfl rfl rfl (by first|rfl|omega|(simp<;>omega)|(simp [*]<;>omega)) (by first|rfl|omega|(simp<;>omega)|(simp [*]<;>omega)) ?_)
  refine s1 ((y_p rfl).v (v':= .i .i64 340) rfl) rfl ?_
  refine at_nil<|x_tn<|at_ret<|x_tr ?_
  refine at_sayO 6 (cs':=Z32.map u8++ [.nl,.nl]) rfl rfl ?_
  refine at_wkO 6 rfl wk_cas0 ?_
  refine at_result (rs:= [.cell 6 60,.tmp 7]) rfl (r_cellA ti60 rfl rfl rfl rfl (r_tmp rfl r_nil)) ?_
  show A.tu _=_;rw [build_no hb];rfl
 ·obtain ⟨h1, h2, hb⟩ := hcs
  refine at_frzP 3 rfl rfl pul ?_
  refine at_region<|s1 (y_p rfl) rfl ?_
  refine at_op rfl (n_call false rfl (.cons (.pure pu) (.nil)) (Con.cast (listed_ok p (by simp only [maxLen];omega)) (congrArg A.b h1)) pu (.inl rfl) rfl ?_)
  refine s1 ((y_p rfl).v (v':= .b false) (rfl)) rfl<|s1 (y_p rfl) rfl<|g1 rfl rfl (y_p rfl) rfl ?_
  refine at_opg rfl rfl rfl (n_call false rfl (.cons (.pure pu) (.nil)) (Con.cast (listed_ok q (by simp only [maxLen];omega)) (congrArg A.b h2)) pu (.inl rfl) rfl ?_)
  refine g1 rfl rfl ((y_p rfl).v (v':= .b true) (rfl)) rfl<|s1 (y_p rfl) rfl<|s1 (y_p rfl) rfl<|g0 rfl rfl rfl rfl<|g0 rfl rfl rfl rfl<|g0 rfl rfl rfl rfl<|g0 rfl rfl rfl rfl<|s1 (y_p rfl) rfl ?_
  refine at_nil<|x_tn ?_
  refine at_then rfl ?_
  refine at_seq<|at_region<|s1 (y_loadA0 ti60 rfl rfl rfl) rfl ?_
  refine at_op rfl (n_storeA ti60 rfl rfl rfl (by first|rfl|omega|(simp<;>omega)|(simp [*]<;>omega)) (by first|rfl|omega|(simp<;>omega)|(simp [*]<;>omega)) ?_)
  refine s1 ((y_p rfl).v (v':= .i .i64 340) rfl) rfl ?_
  refine at_nil<|x_tn<|at_ret<|x_tr ?_
  refine at_sayO 6 (cs':=Z32.map u8++ [.nl,.nl]) rfl rfl ?_
  refine at_wkO 6 rfl wk_cas0 ?_
  refine at_result (rs:= [.cell 6 60,.tmp 7]) rfl (r_cellA ti60 rfl rfl rfl rfl (r_tmp rfl r_nil)) ?_
  show A.tu _=_;rw [build_no hb];rfl
 ·obtain ⟨h1, h2, h3, hb⟩ := hcs
  refine at_frzP 3 rfl rfl pul ?_
  refine at_region<|s1 (y_p rfl) rfl ?_
  refine at_op rfl (n_call false rfl (.cons (.pure pu) (.nil)) (Con.cast (listed_ok p (by simp only [maxLen];omega)) (congrArg A.b h1)) pu (.inl rfl) rfl ?_)
  refine s1 ((y_p rfl).v (v':= .b false) (rfl)) rfl<|s1 (y_p rfl) rfl<|g1 rfl rfl (y_p rfl) rfl ?_
  refine at_opg rfl rfl rfl (n_call false rfl (.cons (.pure pu) (.nil)) (Con.cast (listed_ok q (by simp only [maxLen];omega)) (congrArg A.b h2)) pu (.inl rfl) rfl ?_)
  refine g1 rfl rfl ((y_p rfl).v (v':= .b false) (rfl)) rfl<|s1 (y_p rfl) rfl<|s1 (y_p rfl) rfl<|g1 rfl rfl (y_p rfl) rfl<|g1 rfl rfl (y_p rfl) rfl ?_
  refine at_opg rfl rfl rfl (n_call false rfl (.cons (.pure pu) (.cons (.pure pu) (.nil))) (Con.cast (disjoint_ok p q (by simp only [maxLen];omega) (by simp only [maxLen];omega)) (congrArg A.b h3)) pu (.inl rfl) rfl ?_)
  refine g1 rfl rfl ((y_p rfl).v (v':= .b true) (rfl)) rfl<|s1 (y_p rfl) rfl ?_
  refine at_nil<|x_tn ?_
  refine at_then rfl ?_
  refine at_seq<|at_region<|s1 (y_loadA0 ti60 rfl rfl rfl) rfl ?_
  refine at_op rfl (n_storeA ti60 rfl rfl rfl (by first|rfl|omega|(simp<;>omega)|(simp [*]<;>omega)) (by first|rfl|omega|(simp<;>omega)|(simp [*]<;>omega)) ?_)
  refine s1 ((y_p rfl).v (v':= .i .i64 340) rfl) rfl ?_
  refine at_nil<|x_tn<|at_ret<|x_tr ?_
  refine at_sayO 6 (cs':=Z32.map u8++ [.nl,.nl]) rfl rfl ?_
  refine at_wkO 6 rfl wk_cas0 ?_
  refine at_result (rs:= [.cell 6 60,.tmp 7]) rfl (r_cellA ti60 rfl rfl rfl rfl (r_tmp rfl r_nil)) ?_
  show A.tu _=_;rw [build_no hb];rfl
 ·obtain ⟨h1, h2, h3, hb⟩ := hcs
  refine at_frzP 3 rfl rfl pul ?_
  refine at_region<|s1 (y_p rfl) rfl ?_
  refine at_op rfl (n_call false rfl (.cons (.pure pu) (.nil)) (Con.cast (listed_ok p (by simp only [maxLen];omega)) (congrArg A.b h1)) pu (.inl rfl) rfl ?_)
  refine s1 ((y_p rfl).v (v':= .b false) (rfl)) rfl<|s1 (y_p rfl) rfl<|g1 rfl rfl (y_p rfl) rfl ?_
  refine at_opg rfl rfl rfl (n_call false rfl (.cons (.pure pu) (.nil)) (Con.cast (listed_ok q (by simp only [maxLen];omega)) (congrArg A.b h2)) pu (.inl rfl) rfl ?_)
  refine g1 rfl rfl ((y_p rfl).v (v':= .b false) (rfl)) rfl<|s1 (y_p rfl) rfl<|s1 (y_p rfl) rfl<|g1 rfl rfl (y_p rfl) rfl<|g1 rfl rfl (y_p rfl) rfl ?_
  refine at_opg rfl rfl rfl (n_call false rfl (.cons (.pure pu) (.cons (.pure pu) (.nil))) (Con.cast (disjoint_ok p q (by simp only [maxLen];omega) (by simp only [maxLen];omega)) (congrArg A.b h3)) pu (.inl rfl) rfl ?_)
  refine g1 rfl rfl ((y_p rfl).v (v':= .b false) (rfl)) rfl<|s1 (y_p rfl) rfl ?_
  refine at_nil<|x_tn ?_
  refine at_else rfl ?_
  refine at_skip<|x_tn<|at_seq ?_
  refine at_sayO 6 (cs':=Z32.map u8++ [.nl,.nl]) rfl rfl ?_
  refine at_region<|s1 (y_loadA ti23 rfl rfl (List.take_of_length_le (by simp [hx])) (by simp [hx])) rfl<|s1 (y_fld Tryz.underlying60 rfl ti23 (by decide) rfl rfl) rfl ?_
  refine at_say 30 rfl (v':= .p 6 0) rfl ?_
  refine at_op rfl (n_store ti23 rfl rfl rfl rfl rfl (by rw [show cellsA (A.ag (x.map u8))=x.map u8 from rfl,List.length_map,hx]) (Nat.le_of_ble_eq_true rfl) st_salt ?_)
  refine at_nil<|x_tn<|at_seq<|at_region<|s1 (y_p rfl) rfl<|s1 (y_p rfl) rfl<|s1 (y_p rfl) rfl<|s1 (y_p rfl) rfl ?_
  refine at_nil<|x_tn<|at_seq<|at_block ?_
  refine at_loop (ι:=Nat) (fun n=> [(3,.fp (x.map u8)),(6,.p 6 0),(8,intsA (bS x p q n).2.1),(9,intsA (bS x p q n).2.2)]) (fun n=>⟨[(6,some (x.map u8++ [.sl 180 3 0 n,.nl])),(180,some ((bS x p q n).1.flatMap filC))]⟩) (fun n=>n≤16∧∀t,t<n→goB x p q t=true) (fun n=>16 - n) ?_ ?_
  ·exact at_ex (0) (⟨by omega,fun t ht=>absurd ht (by omega)⟩) [(6,some 6),(180,none)] hI rfl rfl ⟨⟨_,rfl,.pure pu⟩,⟨_,rfl,.p rfl⟩,⟨_,rfl,.pure pu⟩,⟨_,rfl,.pure pu⟩,trivial⟩ ⟨.inr ⟨_,_,rfl,rfl,.app (.pure pul) (.cons (.nl rfl) (.cons (.pure pu) .nil))⟩,.inl ⟨rfl,rfl⟩,trivial⟩
  rintro n ⟨hn,hgo⟩
  obtain⟨hal,hbl⟩:=bS_len (x:=x) hp hq100 n
  have hfl:((bS x p q n).1.flatMap filC).length=n*3:=by rw [flat_len,len_bS]
  have hnb:=nbOf_ok (bS x p q n).2.1
  have hnum:=(bS_num (x:=x) hb n).1
  refine at_seq<|at_seq<|at_region<|s1 (y_p rfl) rfl<|s1 (y_len Tryz.underlying30 rfl rfl rfl) rfl<|s1 (y_p rfl) rfl<|s1 (y_p rfl) rfl ?_
  refine at_bc 36 rfl (fun hc36=>?_) (fun hc36=>?_)
  ·have h36 : 0 < (bS x p q n).2.1.length := by have := of_decide_eq_true hc36; omega
   refine g1 rfl rfl (y_fld Tryz.underlying60 rfl ti58 (by decide) rfl rfl) rfl<|g1 rfl rfl (y_load ti58 rfl rfl (congrArg (fun l=>l[0]?) (tail_get hx _))) rfl<|g1 rfl rfl (y_len Tryz.underlying58 rfl rfl rfl) rfl<|g1 rfl rfl (y_p rfl) rfl<|s1 (y_p rfl) rfl ?_
   refine at_nil<|x_tn ?_
   refine at_cond rfl (fun hc41=>?_) (fun hc41=>?_)
   ·have h41 : n < 16 := by have := of_decide_eq_true hc41; omega
    refine at_skip<|x_tn<|at_block<|at_seq<|at_region<|s1 (y_fld Tryz.underlying60 rfl ti58 (by decide) rfl rfl) rfl<|s1 (y_load ti58 rfl rfl (congrArg (fun l=>l[0]?) (tail_get hx _))) rfl<|s1 (y_len Tryz.underlying58 rfl rfl rfl) rfl<|s1 (y_p rfl) rfl<|s1 (y_len Tryz.underlying30 rfl rfl rfl) rfl<|s1 (mulN 4 _ rfl rfl rfl rfl (by omega)) rfl<|s1 (y_maxN (a:=4*(bS x p q n).2.1.length) (b:=8) rfl rfl rfl) rfl<|s1 (y_minN (a:=max (4*(bS x p q n).2.1.length) 8) (b:=4096) (c:=nbOf (bS x p q n).2.1) rfl rfl rfl) rfl ?_
    refine at_op rfl (n_call false rfl (.cons (.pure pu) (.cons (.pure pu) (.nil))) (Con.cast (fnew_ok n (nbOf (bS x p q n).2.1)) (new_yes (nat_sized h41 hnb.1 hnb.2))) pu (.inl rfl) rfl ?_)
    refine s1 (y_p rfl) rfl<|s1 (y_p rfl) rfl<|s1 (y_p rfl) rfl ?_
    refine at_op rfl (n_alloc 10 rfl ti120 rfl rfl ?_)
    refine at_op rfl (n_storeA ti120 rfl rfl rfl (by first|rfl|omega|(simp<;>omega)|(simp [*]<;>omega)) (by first|rfl|omega|(simp<;>omega)|(simp [*]<;>omega)) ?_)
    refine s1 (y_p rfl) rfl ?_
    refine at_nil<|x_tn<|at_seq<|at_seq<|at_region<|s1 (y_p rfl) rfl<|s1 ((y_p rfl).v (v':= .b false) (rfl)) rfl ?_
    refine at_nil<|x_tn ?_
    refine at_else rfl ?_
    refine at_skip<|x_tn<|at_seq<|at_seq<|at_region<|s1 (y_p rfl) rfl<|s1 (y_len Tryz.underlying30 rfl rfl rfl) rfl<|s1 ((y_p rfl).v (v':= .i .i64 0) rfl) rfl ?_
    refine at_nil<|x_tn<|at_block ?_
    refine at_loop (ι:=Nat) (fun k=> [(3,.fp (x.map u8)),(6,.p 6 0),(8,intsA (bS x p q n).2.1),(9,intsA (bS x p q n).2.2),(10,.p 10 0),(58,intsA (bS x p q n).2.1),(59,nJ (bS x p q n).2.1.length),(60,nJ k)]) (fun k=>⟨[(6,some (x.map u8++ [.sl 180 3 0 n,.nl])),(180,some ((bS x p q n).1.flatMap filC)),(10,some ([nJ n,nJ (nbOf (bS x p q n).2.1),slA (addsI x (n:Nat) (nbOf (bS x p q n).2.1:Nat) (zeroD (nbOf (bS x p q n).2.1)) ((bS x p q n).2.1.take k))]))]⟩) (fun k=>k≤(bS x p q n).2.1.length) (fun k=>(bS x p q n).2.1.length - k) ?_ ?_
    ·exact at_ex (0) (Nat.zero_le _) [(6,some 6),(10,some 10),(180,some 180)] hI rfl rfl ⟨⟨_,rfl,.pure pu⟩,⟨_,rfl,.p rfl⟩,⟨_,rfl,.pure pu⟩,⟨_,rfl,.pure pu⟩,⟨_,rfl,.p rfl⟩,⟨_,rfl,.pure pu⟩,⟨_,rfl,.pure pu⟩,⟨_,rfl,.pure pu⟩,trivial⟩ ⟨.inr ⟨_,_,rfl,rfl,.app (.pure pul) (.cons (.sl rfl rfl) (.cons (.pure pu) .nil))⟩,.inr ⟨_,_,rfl,rfl,.pure pul⟩,.inr ⟨_,_,rfl,rfl,.of (by rfl) (.pure pul)⟩,trivial⟩
    rintro k hk
    refine at_seq<|at_region<|s1 (y_p rfl) rfl ?_
    refine at_nil<|x_tn<|at_seq ?_
    refine at_cond rfl (fun hc61=>?_) (fun hc61=>?_)
    ·have h61 : k < (bS x p q n).2.1.length := by have := of_decide_eq_true hc61; omega
     obtain⟨v,hv⟩:∃v,(bS x p q n).2.1[k]? =some v:=⟨_,List.getElem?_eq_getElem h61⟩
     have hv0:=hnum v (List.mem_of_getElem? hv)
     refine at_skip<|x_tn<|at_seq<|at_block<|at_seq<|at_region<|s1 (y_ixf k Tryz.underlying30 ti3 rfl rfl rfl (by omega) rfl) rfl<|s1 (y_load ti3 rfl rfl (getI4 hv)) rfl<|s1 (y_p rfl) rfl ?_
     refine at_nil<|x_tn<|at_seq<|at_region<|s1 (y_loadA ti23 rfl rfl (List.take_of_length_le (by simp [hx])) (by simp [hx])) rfl<|s1 (y_loadA0 ti120 rfl rfl rfl) rfl<|s1 (y_p rfl) rfl ?_
     refine at_op rfl (n_call false rfl (.cons (.pure pu) (.cons (.pure pu) (.cons (.pure pu) (.nil)))) (Con.cast (fadd_ok x (n:Nat) (nbOf (bS x p q n).2.1:Nat) v (addsI x (n:Nat) (nbOf (bS x p q n).2.1:Nat) (zeroD (nbOf (bS x p q n).2.1)) ((bS x p q n).2.1.take k)) hx) (add_fil h41 hv hv0)) pu (.inl rfl) rfl ?_)
     refine s1 (y_p rfl) rfl<|s1 (y_p rfl) rfl<|s1 (y_p rfl) rfl ?_
     refine at_op rfl (n_storeA ti120 rfl rfl rfl (by first|rfl|omega|(simp<;>omega)|(simp [*]<;>omega)) (by first|rfl|omega|(simp<;>omega)|(simp [*]<;>omega)) ?_)
     refine s1 (y_p rfl) rfl ?_
     refine at_nil<|x_tn<|at_seq<|at_region<|s1 (y_p rfl) rfl<|s1 ((y_p rfl).v (v':= .b false) (rfl)) rfl ?_
     refine at_nil<|x_tn ?_
     refine at_else rfl ?_
     refine at_skip<|x_bn<|x_tn<|at_region<|s1 (addN _ 1 rfl rfl rfl rfl (by omega)) rfl<|s1 (y_p rfl) rfl ?_
     refine at_nil ?_
     exact at_end (k+1) (by omega) (by omega) [(6,some 6),(10,some 10),(180,some 180)] hI rfl rfl ⟨⟨_,rfl,.pure pu⟩,⟨_,rfl,.p rfl⟩,⟨_,rfl,.pure pu⟩,⟨_,rfl,.pure pu⟩,⟨_,rfl,.p rfl⟩,⟨_,rfl,.pure pu⟩,⟨_,rfl,.pure pu⟩,⟨_,rfl,.pure pu⟩,trivial⟩ ⟨.inr ⟨_,_,rfl,rfl,.app (.pure pul) (.cons (.sl rfl rfl) (.cons (.pure pu) .nil))⟩,.inr ⟨_,_,rfl,rfl,.pure pul⟩,.inr ⟨_,_,rfl,rfl,.pure pul⟩,trivial⟩
    ·have h61 : k = (bS x p q n).2.1.length := by have := of_decide_eq_false hc61; omega
     subst h61
     refine at_exit<|x_te<|x_te<|x_be<|x_tn<|at_seq ?_
     refine at_sayO 10 (cs':=filC (filO x n (bS x p q n).2.1)) rfl (by rw [List.take_length];rfl) ?_
     refine at_region<|s1 (y_fld Tryz.underlying60 rfl ti58 (by decide) rfl rfl) rfl<|s1 (y_load ti58 rfl rfl (congrArg (fun l=>l[0]?) (tail_get hx _))) rfl<|s1 (y_loadA0 ti120 rfl rfl rfl) rfl ?_
     refine at_op rfl (n_bs 79 rfl Tryz.underlying58 ti120 rfl rfl rfl (by first|(simp [cellsA];done)|(simp [cellsA, *];done)) rfl rfl rfl rfl ?_)
     refine at_op rfl (n_app 80 rfl Tryz.underlying58 ti120 rfl (.sl rfl (by rw [hfl])) rfl (SM_full rfl (by first|rfl|omega|(simp<;>omega)|(simp [*]<;>omega))) rfl (by simp only [maxLen];omega) (by omega) rfl (bS_flat x p q n) rfl ?_)
     refine s1 (y_fld Tryz.underlying60 rfl ti58 (by decide) rfl rfl) rfl ?_
     refine at_op rfl (n_store1 ti58 rfl rfl rfl rfl (by simp [hx]) (tail_set hx _ _ _) ?_)
     refine at_nil<|x_tn ?_
     refine at_frzP 10 rfl rfl pul ?_
     refine at_region<|s1 (y_p rfl) rfl<|s1 (y_func (us:= []) (vs:= [.fp (x.map u8),.fp (filC (filO x n (bS x p q n).2.1))]) rfl rfl) rfl ?_
     refine at_op rfl (n_call false rfl (.cons (.pure pu) (.cons (.pure pu) .nil)) (cchoose_ok x hx (filO x n (bS x p q n).2.1) (bS x p q n).2.2 hbl) pu (.inl rfl) rfl ?_)
     refine s1 (y_p rfl) rfl<|s1 (y_p rfl) rfl<|s1 (y_p rfl) rfl ?_
     refine at_nil<|x_bn ?_
     exact at_end (n+1) (⟨by omega,all_next hgo (goB_yes h36)⟩) (by omega) [(6,some 6),(180,some 80)] hI rfl rfl ⟨⟨_,rfl,.pure pu⟩,⟨_,rfl,.p rfl⟩,⟨_,rfl,.pure pu⟩,⟨_,rfl,.pure pu⟩,trivial⟩ ⟨.inr ⟨_,_,rfl,rfl,.app (.pure pul) (.cons (.sl rfl (by first|rfl|omega|(simp<;>omega)|(simp [*]<;>omega))) (.cons (.pure pu) .nil))⟩,.inr ⟨_,_,rfl,rfl,.pure pul⟩,trivial⟩
   ·have h41 : n = 16 := by have := of_decide_eq_false hc41; omega
    subst h41
    have hend:=end_all hgo
    refine at_exit<|x_te<|x_te<|x_be<|x_tn<|at_seq<|at_region<|s1 (y_fld Tryz.underlying60 rfl ti30 (by decide) rfl rfl) rfl<|s1 (y_load ti30 rfl rfl (congrArg (fun l=>l[0]?) (tail_get1 hx _ _))) rfl<|s1 (y_p rfl) rfl ?_
    refine at_op rfl (n_app 89 rfl Tryz.underlying30 ti3 rfl .nl rfl rfl (by simp) (by simp only [maxLen];omega) (by omega) rfl rfl rfl ?_)
    refine s1 (y_fld Tryz.underlying60 rfl ti30 (by decide) rfl rfl) rfl ?_
    refine at_op rfl (n_store1 ti30 rfl rfl rfl rfl (by simp [hx]) (tail_set1 hx _ _ _) ?_)
    refine at_nil<|x_tn<|at_seq ?_
    refine at_frzO 6 32 rfl (by rw [List.getElem?_append_right (by simp [hx]),List.length_map,hx];rfl) rfl rfl pul (view_eq (by rw [flat_len,len_bS]) rfl) (tail_set hx _ _ _) ?_
    refine at_frzO 6 33 rfl (by rw [List.getElem?_append_right (by simp [hx]),List.length_map,hx];rfl) rfl rfl pul (view_eq (by simp) rfl) (tail_set1 hx _ _ _) ?_
    refine at_sayO 6 (cs':=casL (casB x p q)) rfl (by rw [Nat.zero_add,List.nil_append];exact cas_end hend) ?_
    refine at_region<|s1 (y_loadA0 ti60 rfl rfl (cas_len (c:=casB x p q) hx)) rfl ?_
    refine at_op rfl (n_storeA ti60 rfl rfl rfl (cas_len (c:=casB x p q) hx) (cas_len (c:=casB x p q) hx) ?_)
    refine s1 ((y_p rfl).v (v':= .i .i64 0) rfl) rfl ?_
    refine at_nil<|x_tn<|at_ret ?_
    refine at_result (rs:= [.cell 6 60,.tmp 7]) rfl (r_cellA ti60 rfl rfl (cas_all (c:=casB x p q) hx) (cas_len (c:=casB x p q) hx) (r_tmp rfl r_nil)) ?_
    show A.tu _=_;rw [build_yes hb]
  ·have h36 : ¬ 0 < (bS x p q n).2.1.length := by have := of_decide_eq_false hc36; omega
   have hend:=end_any hn hgo h36
   refine g0 rfl rfl rfl rfl<|g0 rfl rfl rfl rfl<|g0 rfl rfl rfl rfl<|g0 rfl rfl rfl rfl<|s1 (y_p rfl) rfl ?_
   refine at_nil<|x_tn ?_
   refine at_else rfl ?_
   refine at_exit<|x_te<|x_te<|x_be<|x_tn<|at_seq<|at_region<|s1 (y_fld Tryz.underlying60 rfl ti30 (by decide) rfl rfl) rfl<|s1 (y_load ti30 rfl rfl (congrArg (fun l=>l[0]?) (tail_get1 hx _ _))) rfl<|s1 (y_p rfl) rfl ?_
   refine at_op rfl (n_app 89 rfl Tryz.underlying30 ti3 rfl .nl rfl rfl (by simp) (by simp only [maxLen];omega) (by omega) rfl rfl rfl ?_)
   refine s1 (y_fld Tryz.underlying60 rfl ti30 (by decide) rfl rfl) rfl ?_
   refine at_op rfl (n_store1 ti30 rfl rfl rfl rfl (by simp [hx]) (tail_set1 hx _ _ _) ?_)
   refine at_nil<|x_tn<|at_seq ?_
   refine at_frzO 6 32 rfl (by rw [List.getElem?_append_right (by simp [hx]),List.length_map,hx];rfl) rfl rfl pul (view_eq (by rw [flat_len,len_bS]) rfl) (tail_set hx _ _ _) ?_
   refine at_frzO 6 33 rfl (by rw [List.getElem?_append_right (by simp [hx]),List.length_map,hx];rfl) rfl rfl pul (view_eq (by simp) rfl) (tail_set1 hx _ _ _) ?_
   refine at_sayO 6 (cs':=casL (casB x p q)) rfl (by rw [Nat.zero_add,List.nil_append];exact cas_end hend) ?_
   refine at_region<|s1 (y_loadA0 ti60 rfl rfl (cas_len (c:=casB x p q) hx)) rfl ?_
   refine at_op rfl (n_storeA ti60 rfl rfl rfl (cas_len (c:=casB x p q) hx) (cas_len (c:=casB x p q) hx) ?_)
   refine s1 ((y_p rfl).v (v':= .i .i64 0) rfl) rfl ?_
   refine at_nil<|x_tn<|at_ret ?_
   refine at_result (rs:= [.cell 6 60,.tmp 7]) rfl (r_cellA ti60 rfl rfl (cas_all (c:=casB x p q) hx) (cas_len (c:=casB x p q) hx) (r_tmp rfl r_nil)) ?_
   show A.tu _=_;rw [build_yes hb]
end Go.Abs.D2
-- C4F
namespace Go.Abs.D2
open Go Go.Eng Go.Abs Go.Proofs
end Go.Abs.D2
