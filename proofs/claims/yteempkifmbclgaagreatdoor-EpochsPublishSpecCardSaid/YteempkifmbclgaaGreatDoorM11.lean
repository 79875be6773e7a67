/-
  The engine, the plain laws and the walks that the rows need, part 11. Conditions: none.
-/
import Derived.Test.YteempkifmbclgaaGreatDoorM10
import Derived.Lib.ConvBytes
import Derived.Laws.Strings
import Derived.KernelRfl
set_option linter.unusedVariables false
set_option linter.unusedSimpArgs false
set_option maxHeartbeats 1000000
set_option maxRecDepth 10000
-- AbsJ
namespace Go.Abs
open Go Go.Eng
section
variable {P:Program} {w0:Bw} {X0 X:Xs} {n:Nat} {E:Ev} {st:St} {β:Bm} {a:Act} {w:World} {Q:Exit→Act→World→Prop} {K:Act→World→Prop}
theorem Mem.Ha (hm:Mem w0 β X st w) {w1:World} {b:Nat} (L:Nat) (hbel:RowKit.Below w.heap.size w w1) (hb:w.heap.size≤b) (hb1:b<w1.heap.size):
    let X1:Xs:=fun q o=>X q o∨(q=b∧o<L)
    Mem w0 β X1 st w1∧dW X X1 w w1∧(∀q o,X1 q o→X q o∨w0.own q):=by
  intro X1
  have hx:dW X X1 w w1:=fun q o h=>⟨.inl h,World.cell?_of_block (w:=w) (hbel.block q (hm.xlt q o h))⟩
  refine⟨.of (hm.below.trans hbel) hm.b0 (fun q o h=>?_) hm.dom (fun k ds hg=>?_) (fun i j ci cj q M N' hij hi hj hbi hbj=>hm.inj i j ci cj q M N' hij hi hj hbi hbj),hx,fun q o h=>?_⟩
  · rcases h with h | ⟨rfl, _⟩
    · exact Nat.lt_of_lt_of_le (hm.xlt q o h) hbel.size
    · exact hb1
  · refine (hm.obj k ds hg).later hx (dE.refl β) (fun q M hq => ?_) fun q hq => ⟨hbel.block q ((hm.obj k ds hg).pZ hq), fun o h => h.elim (((hm.obj k ds hg).gB hq).2.2.1 o) fun h => by have := (hm.obj k ds hg).pZ hq; omega⟩
    have ho:=hm.obj k ds hg
    unfold OB at ho
    rw [hq]at ho
    obtain⟨_,h2,us',rest',ty',h3,_⟩:=ho
    have hlt:=(Array.getElem?_eq_some_iff.1 h3).1
    refine⟨hbel.block q hlt,fun o h=>?_⟩
    rcases h with h|⟨rfl,_⟩
    · exact h2 o h
    · omega
  · rcases h with h | ⟨rfl, _⟩
    · exact .inl h
    · exact .inr (Bw.mr hm.below hb)
theorem FD {d:Nat} {src dst e ty:TypeId} {pos b6 g} {x:Operand} {l:List UInt8} (hs:P.underlying src=some .string) (hdt:P.underlying dst=some (.slice e)) (he:P.underlying e=some (.int .u8)) (hx:ev E x=some (.s l)) (hl:l.length≤maxLen) (hd:Nat.ble (d+1) n=true)
    (h:At w0 X0 n ((d,.fz l.length (l.map u8))::E) st K):At w0 X0 n E st (fun a w=>(⟨some d,.convert src dst x,ty,pos,b6,g⟩:Oper).wp P a w K Q):=by
  rintro a w ⟨β,X,hr⟩
  obtain⟨e1,e2⟩:=hr.c9 hx
  rw [yz]at e2
  rw [e2]at e1
  have hrun:=Go.Lib.run_convert_string_bytes (P:=P) w src dst e ⟨l.toArray⟩ hs hdt he
  have hsz:(⟨l.toArray⟩:ByteArray).size=l.length:=by simp [ByteArray.size]
  have hbel:RowKit.Below w.heap.size w (Go.Lib.bytesWorld w e ⟨l.toArray⟩):=⟨rfl,rfl,rfl,by rw [Go.Lib.bytesWorld_size];omega,fun k hk=>Go.Lib.bytesWorld_at_old w e _ k hk⟩
  obtain⟨m1,m2,m3⟩:=hr.mem.Ha (b:=w.heap.size) l.length hbel (Nat.le_refl _) (by rw [Go.Lib.bytesWorld_size];omega)
  have hexec:(execOp a.eval ⟨some d,.convert src dst x,ty,pos,b6,g⟩).run P w= .ok (.value (.slice (some ⟨w.heap.size,0,none⟩) l.length (grownCap w l.length 0 e))) (Go.Lib.bytesWorld w e ⟨l.toArray⟩):=by
    simp only [hsz]at hrun
    simp [execOp,e2,hrun]
  unfold Oper.wp
  rw [hexec]
  refine h _ _ ⟨β,_,hr.jT hd m2 m3 (dE.refl β) m1 ?_⟩
  simp only [V]
  refine⟨_,_,rfl,grownCap_ge w l.length 0 e,grownCap_le_maxLen w l.length 0 e hl,(fun h=>by cases h),(fun _ x hx=>by cases hx;rfl),mG fun j c hj=>?_⟩
  have hjl:j<l.length:=by simpa using (List.getElem?_eq_some_iff.1 hj).1
  rw [List.getElem?_map,List.getElem?_eq_getElem hjl]at hj
  simp only [Option.map_some,Option.some.injEq]at hj
  subst hj
  have hc:=Go.Lib.bytesWorld_cell w e ⟨l.toArray⟩ j (by rw [hsz];exact hjl)
  refine⟨.inr ⟨rfl,by simpa [ao]using hjl⟩,.int .u8 (l[j].toNat:Int),?_,by rw [iE],rfl⟩
  simp only [ab,ao,Nat.zero_add]
  rw [hc]
  simp [List.getD_eq_getElem?_getD,hjl]
theorem QZ {t ty:TypeId} {x i:Operand} {l:List UInt8} {k:IntKind} {iv:Int} (j:Nat) (b:UInt8) (ht:P.underlying t=some .string) (hx:ev E x=some (.s l)) (hi:ev E i=some (.i k iv)) (hj:iv=(j:Int)) (hb:l[j]? =some b):YO P E st (.index t x i) ty (u8 b):=by
  intro w0 X0 n β X a w hr
  obtain⟨h1,h2⟩:=hr.c9 hx
  obtain⟨h3,h4⟩:=hr.c9 hi
  rw [yz]at h2
  rw [iE]at h4
  rw [h2]at h1
  rw [h4]at h3
  subst hj
  refine⟨_,by rw [iE],hr.old fun w' _=>fun d pos b6 g a' w'' hR _=>?_⟩
  have hl:=(List.getElem?_eq_some_iff.1 hb).1
  have key:=run_index_string (P:=P) w'' t ⟨l.toArray⟩ k (j:Int) ht
  rw [dif_pos ⟨by omega,by simpa [ByteArray.size]using hl⟩]at key
  have hbb:((⟨l.toArray⟩:ByteArray)[(j:Int).toNat]'(by simpa [ByteArray.size]using hl))=b:=by
    obtain⟨_,h⟩:=List.getElem?_eq_some_iff.1 hb
    show l.toArray[(j:Int).toNat]'(by simpa using hl)=b
    simpa using h
  rw [hbb]at key
  simp [execOp,hR.ev h1,hR.ev h3,key]
theorem pj {t ty:TypeId} {x i:Operand} {l l':List UInt8} {k:IntKind} {iv:Int} (j:Nat) (b:UInt8) (ht:P.underlying t=some .string) (hx:ev E x=some (.s l)) (hl:l=l') (hi:ev E i=some (.i k iv)) (hj:iv=(j:Int)) (hb:l'[j]? =some b):YO P E st (.index t x i) ty (u8 b):=
  QZ j b ht hx hi hj (by rw [hl];exact hb)
theorem FB {t e ty : TypeId} {by' : Nat} {z : Value} {agg : Bool} {x : Operand} {id off m : Nat} {cs cs' : List A} {d : Option Nat} {pos b6 g} (ht : P.underlying t = some (.slice e)) (he : TI P e 1 by' [z] agg) (hz : z.oneCell' = true) (hx : ev E x = some (.sl id 1 off m)) (hg : st.get id = some cs)
    (hfit:off+m≤cs.length) (hcs:cs.take off++List.replicate m (cn z)++cs.drop (off+m)=cs') (hd:d=none) (h:At w0 X0 n E (st.put id cs') K):
    At w0 X0 n E st (fun a w=>(⟨d,.call {callee:= .builtin .clear,args:= #[x],argTypes:= #[t]},ty,pos,b6,g⟩:Oper).wp P a w K Q):=by
  rintro a w ⟨β,X,hr⟩
  subst hd
  obtain⟨e1,e2⟩:=hr.c9 hx
  have hexec0:∀v w1,a.eval x=v→(Builtin.clear_ #[t] ty #[v]).run P w= .ok (.tuple #[]) w1→(execOp a.eval ⟨none,.call {callee:= .builtin .clear,args:= #[x],argTypes:= #[t]},ty,pos,b6,g⟩).run P w= .ok (.value (.tuple #[])) w1:=by
    intro v w1 hv hrun
    have h1:execOp a.eval ⟨none,.call {callee:= .builtin .clear,args:= #[x],argTypes:= #[t]},ty,pos,b6,g⟩=(do pure (.value (←Builtin.clear_ #[t] ty #[v])):Sem Next):=by
      simp only [execOp,resolve,List.map_toArray,List.map_cons,List.map_nil,hv,pure_bind,invoke,builtin]
    rw [h1,Sem.run_bind,hrun]
    rfl
  have stay:cs'=cs→(execOp a.eval ⟨none,.call {callee:= .builtin .clear,args:= #[x],argTypes:= #[t]},ty,pos,b6,g⟩).run P w= .ok (.value (.tuple #[])) w→(⟨none,.call {callee:= .builtin .clear,args:= #[x],argTypes:= #[t]},ty,pos,b6,g⟩:Oper).wp P a w K Q:=by
    intro hcc hex
    subst hcc
    unfold Oper.wp
    rw [hex]
    exact h _ _ ⟨β,X,hr.fQ (gq a hr.defers) (fun _ _ h=>⟨h,rfl⟩) (fun _ _ h=> .inl h) (dE.refl β) (hr.mem.drop (fun id' hf=>by rw [St.gF]at hf;split at hf;cases hf;exact hf) (fun id' ds hk=>by
      rw [St.ef]at hk
      split at hk
      · rename_i e;subst e;simp only [Option.some.injEq]at hk;subst hk;exact hg
      · exact hk))⟩
  simp only [V]at e2
  rcases e2 with ⟨_,rfl,rfl,e3⟩|⟨b,N,cap,hβ,e5,c1,c2,c3⟩
  · refine stay (by simpa using hcs.symm) (hexec0 _ _ e3 ?_)
    simp [Builtin.clear_,run_underlying ht]
  · rcases Nat.eq_zero_or_pos m with rfl | hm
    · refine stay (by simpa using hcs.symm) (hexec0 _ _ e5 ?_)
      simp [Builtin.clear_,run_underlying ht]
    · have ho := hr.mem.obj id cs hg
      unfold OB at ho
      rw [hβ]at ho
      obtain⟨p1,p2,us,rest,ety,p3,p4,p5,p6⟩:=ho
      have hul:=fb p5
      obtain⟨zv,hzv,hzc⟩:=he.zeroValue w
      have hzc1:(Builtin.zeroCells zv.cells m).toList=List.replicate m z:=by
        rw [hzc]
        simp [Builtin.zeroCells]
        apply List.ext_getElem
        · simp
        · intro i h1 h2
          simp [Nat.mod_one]
      have hst:=run_storeCells_at P b off ety (List.replicate m z) 0 (us++rest).toArray w p3 aE (by intro v hv';rw [List.eq_of_mem_replicate hv'];exact hz)
      simp only [Nat.add_zero,List.length_replicate]at hst
      have hlist:(us++rest).toArray.toList.take off++List.replicate m z++(us++rest).toArray.toList.drop (off+m)=(us.take off++List.replicate m z++us.drop (off+m))++rest:=by
        simp only []
        rw [List.take_append_of_le_length aq,List.drop_append_of_le_length aq]
        simp
      rw [hlist]at hst
      have hG:=Eng.Good.setRow (nU p3) 0 (cs:=us++rest) rfl ((us.take off++List.replicate m z++us.drop (off+m))++rest)
      simp only [List.set_cons_zero]at hG
      have hev:VS X w β (List.replicate m (cn z)) (List.replicate m z):=by have:=pG (X:=X) (w:=w) (β:=β) (List.replicate m z);simpa using this
      obtain⟨hm1,hx1⟩:=hr.mem.write (cs':=cs') hg hβ hG (by simp only [List.length_append,List.length_take,List.length_drop,List.length_replicate];omega)
        (by rw [←hcs];exact gZ (gZ (j8 p5 off) hev) (ll p5 _))
        (by intro q hq;simp only [List.mem_append]at hq;rcases hq with (hq|hq)|hq;exact p6 q (List.mem_of_mem_take hq);rw [List.eq_of_mem_replicate hq];exact hz;exact p6 q (List.mem_of_mem_drop hq))
      obtain⟨k,rfl⟩:∃k,m=k+1:=⟨m - 1,by omega⟩
      have hrun:(Builtin.clear_ #[t] ty #[.slice (some ⟨b,off,none⟩) (k+1) cap]).run P w= .ok (.tuple #[]) (w.setRow b ((us.take off++List.replicate (k+1) z++us.drop (off+(k+1)))++rest).toArray):=by
        simp only [Builtin.clear_]
        simp [run_underlying ht,hzv,hzc1,hst]
      have hexec:=hexec0 _ _ e5 hrun
      unfold Oper.wp
      rw [hexec]
      exact h _ _ ⟨β,X,hr.fQ (gq a hr.defers) hx1 (fun _ _ h=> .inl h) (dE.refl β) hm1⟩
theorem MI {d : Option Nat} {dT sT ty e : TypeId} {by' : Nat} {zero : List Value} {agg : Bool} {x y : Operand} {vy : A} {id off m k : Nat} {cs news cs' : List A} {pos b6 g} (c : Nat) (ht : P.underlying dT = some (.slice e)) (he : TI P e 1 by' zero agg) (hx : ev E x = some (.sl id 1 off m)) (hg : st.get id = some cs) (hy : ev E y = some vy) (hn : SM st vy = some (k, news)) (hnl : news.length = k)
    (hc:c=Nat.min k m) (hc0:0<c) (hfit:off+c≤cs.length) (hcs:cs.take off++news.take c++cs.drop (off+c)=cs') (hd:lM n d=true) (h:At w0 X0 n (E.put d (.i .i64 (c:Int))) (st.put id cs') K):
    At w0 X0 n E st (fun a w=>(⟨d,.call {callee:= .builtin .copy,args:= #[x,y],argTypes:= #[dT,sT]},ty,pos,b6,g⟩:Oper).wp P a w K Q):=by
  rintro a w ⟨β,X,hr⟩
  obtain⟨e1,e2⟩:=hr.c9 hx
  obtain⟨e3,e4⟩:=hr.c9 hy
  have hck:c≤k:=by rw [hc];exact Nat.min_le_left _ _
  have hcm:c≤m:=by rw [hc];exact Nat.min_le_right _ _
  obtain⟨ay,cy,nus,f1,f2,f3,f4⟩:=xN (s:=1) hr.toRelQ e4 hn aq
  have hsl:=f4 w .refl
  have hnu:=fb f2
  simp only [V]at e2
  rcases e2 with ⟨_,rfl,_⟩|⟨b,N,cap,hβ,e5,c1,c2,c3⟩
  · omega
  · have ho := hr.mem.obj id cs hg
    unfold OB at ho
    rw [hβ]at ho
    obtain⟨p1,p2,us,rest,ety,p3,p4,p5,p6⟩:=ho
    have hul:=fb p5
    have hax:=hsl.addr aq
    have hnt:(nus.take c).length=c:=by rw [List.length_take];omega
    obtain⟨⟨i,z,i1,i2,i3,i4,i5⟩,hu⟩:=he
    have hrun:=run_copy_row (P:=P) w dT sT ty e b off m cap ⟨ab ay,ao ay,none⟩ k cy (us++rest).toArray ety (nus.take c) ht (by rw [i1];simp [i3]) p3 (by rw [hnt,hc])
      (fun j u hj=>by
        rw [List.getElem?_take]at hj
        split at hj
        · rw [addr_add];exact hsl.cell j u hj
        · cases hj) aE (fun q hq=>f3 q (List.mem_of_mem_take hq))
    rw [←hax]at hrun
    rw [hnt]at hrun
    have hlist:(us++rest).toArray.toList.take off++nus.take c++(us++rest).toArray.toList.drop (off+c)=(us.take off++nus.take c++us.drop (off+c))++rest:=by
      simp only []
      rw [List.take_append_of_le_length aq,List.drop_append_of_le_length aq]
      simp
    rw [hlist]at hrun
    have hG:=Eng.Good.setRow (nU p3) 0 (cs:=us++rest) rfl ((us.take off++nus.take c++us.drop (off+c))++rest)
    simp only [List.set_cons_zero]at hG
    obtain⟨hm1,hx1⟩:=hr.mem.write (cs':=cs') hg hβ hG (by simp only [List.length_append,List.length_take,List.length_drop];omega)
      (by rw [←hcs];exact gZ (gZ (j8 p5 off) (j8 f2 c)) (ll p5 _))
      (by intro q hq;simp only [List.mem_append]at hq;rcases hq with (hq|hq)|hq;exact p6 q (List.mem_of_mem_take hq);exact f3 q (List.mem_of_mem_take hq);exact p6 q (List.mem_of_mem_drop hq))
    have hexec:(execOp a.eval ⟨d,.call {callee:= .builtin .copy,args:= #[x,y],argTypes:= #[dT,sT]},ty,pos,b6,g⟩).run P w= .ok (.value (goInt c)) (w.setRow b (us.take off++nus.take c++us.drop (off+c)++rest).toArray):=by
      have h1:execOp a.eval ⟨d,.call {callee:= .builtin .copy,args:= #[x,y],argTypes:= #[dT,sT]},ty,pos,b6,g⟩=(do pure (.value (←Builtin.copy_ #[dT,sT] ty #[.slice (some ⟨b,off,none⟩) m cap,.slice ay k cy])):Sem Next):=by
        simp only [execOp,resolve,List.map_toArray,List.map_cons,List.map_nil,e5,f1,pure_bind,invoke,builtin]
      rw [h1,Sem.run_bind,hrun]
      rfl
    unfold Oper.wp
    rw [hexec]
    refine h _ _ ⟨β,X,?_⟩
    have hkk:goInt c= .int .i64 (c:Int):=rfl
    cases d with
    |none=>exact hr.fQ (gq a hr.defers) hx1 (fun _ _ h=> .inl h) (dE.refl β) hm1
    |some d=>exact hr.jT hd hx1 (fun _ _ h=> .inl h) (dE.refl β) hm1 (by rw [hkk];simp only [V])
theorem qB {s0:St} {ow:Bool} {k:Nat} {c c0:List A} (h:s0.get k=some c0) (hp:dF c) (hf:fL c):∀p∈ [(k,c)],(∃cs,s0.get p.1=some cs)∧dF p.2∧(ow=false∨fL p.2):=fun p hq=>by
  simp only [List.mem_singleton]at hq
  subst hq
  exact⟨⟨c0,h⟩,hp,.inr hf⟩
theorem qm {r:A} {k:Nat} {c:List A} (h:st.get k=some c):j7 r [(k,c)] r st:=⟨rfl,fun p hq=>by
  simp only [List.mem_singleton]at hq
  subst hq
  exact h⟩
end
end Go.Abs
-- D2Q
namespace Go.Abs.D2
open Go Go.Abs
def ld (b:List UInt8) (o:Nat):Nat→BitVec 32
  |0=>0
  |j+1=>ld b o j<<<8|||nG (b.getD (o+j) 0).toNat
theorem QN (b:List UInt8) (o:Nat):ld b o 4=word b o:=by
  simp only [ld,Nat.add_zero]
  exact QE _ _ _ _
theorem Nv (b:List UInt8) (i:Nat) (h:i<16):(words b i).map ct++List.replicate (64 - i) (ct 0)=(words b i).map ct++ [ct (ld b (4*i) 0)]++List.replicate (63 - i) (ct 0):=by
  rw [show 64 - i=(63 - i)+1 by omega,List.replicate_succ]
  simp [ld]
theorem Nw (b:List UInt8) (i:Nat) (h:i<16):(words b i).map ct++ [ct (ld b (4*i) 4)]++List.replicate (63 - i) (ct 0)=(words b (i+1)).map ct++List.replicate (64 - (i+1)) (ct 0):=by
  rw [HT,QN,show 64 - (i+1)=63 - i by omega]
  simp
theorem Lr (b:List UInt8) (i j:Nat):(((words b i).map ct++ [ct (ld b (4*i) j)]++List.replicate (63 - i) (ct 0)).drop (0+i*1))[0]? =some (ct (ld b (4*i) j)):=by
  rw [List.getElem?_drop,List.append_assoc,List.getElem?_append_right aA]
  simp
theorem Pu (b:List UInt8) (i j:Nat):((words b i).map ct++ [ct (ld b (4*i) j)]++List.replicate (63 - i) (ct 0)).set (0+i*1) (ct (ld b (4*i) (j+1)))=(words b i).map ct++ [ct (ld b (4*i) (j+1))]++List.replicate (63 - i) (ct 0):=by
  rw [List.append_assoc,List.set_append_right _ _ aA]
  simp
def qx (s t:S8) (i:Nat):List (BitVec 32):=(s.add t).l.take i++s.l.drop i
theorem E9 (s t:S8) (i:Nat):(qx s t i).length=8:=by
  simp [qx];omega
theorem P4 (s t:S8):qx s t 8=(s.add t).l:=rfl
theorem Pz (s t:S8) (i:Nat) (h:i<8):((qx s t i).map ct).set (0+i*1) (ct ((qx s t i).getD i 0+t.l.getD i 0))=(qx s t (i+1)).map ct:=by
  match i,h with
  |0,_=>rfl
  |1,_=>rfl
  |2,_=>rfl
  |3,_=>rfl
  |4,_=>rfl
  |5,_=>rfl
  |6,_=>rfl
  |7,_=>rfl
def gK:List A:=match tV wg 0 with|some vs=>vs.map cn|none=> []
theorem Lg:gK=oL.map ct:=by kernel_rfl
theorem Li (t:Nat) (h:t<64):(gK.drop (t*1))[0]? =some (ct (oL.getD t 0)):=
  Ln t aO (by rw [Lg])
abbrev eU (p:List UInt8):A:= .fz p.length (p.map u8)
def hs (s:List UInt8):S8:=iF (s.length / 64) h0 s
def rem (s:List UInt8):List UInt8:=s.drop (64*(s.length / 64))
@[simp] theorem gu (s : List UInt8) : (rem s).length = s.length % 64 := by
  simp only [rem,List.length_drop];omega
theorem pV (s:List UInt8):s=s.take (64*(s.length / 64))++rem s:=(List.take_append_drop _ _).symm
theorem Og {s c:List UInt8} (h:s.length % 64+c.length<64):rem (s++c)=rem s++c∧hs (s++c)=hs s∧(s++c).length % 64=s.length % 64+c.length:=by
  have hd:(s++c).length / 64=s.length / 64:=by simp only [List.length_append];omega
  refine⟨?_,?_,by simp only [List.length_append];omega⟩
  · unfold rem
    rw [hd,List.drop_append_of_le_length aq]
  · unfold hs
    rw [hd]
    conv=>lhs;rw [pV s,List.append_assoc]
    conv=>rhs;rw [pV s]
    rw [qN _ _ _ _ aE,qN _ _ _ _ aE]
theorem Oh {s c:List UInt8} (h:s.length % 64+c.length=64):rem (s++c)= []∧hs (s++c)=comp (hs s) (rem s++c)∧(s++c).length % 64=0:=by
  have hl:(s++c).length=64*(s.length / 64+1):=by simp only [List.length_append];omega
  have hd:(s++c).length / 64=s.length / 64+1:=by omega
  refine⟨?_,?_,by omega⟩
  · unfold rem
    exact List.drop_eq_nil_of_le aq
  · unfold hs
    rw [hd,yD,List.drop_append_of_le_length aq]
    congr 1
    · conv => lhs; rw [pV s, List.append_assoc]
      conv=>rhs;rw [pV s]
      rw [qN _ _ _ _ aE,qN _ _ _ _ aE]
    · exact List.take_of_length_le (by have:=gu s;unfold rem at this;simp only [List.length_append,this];omega)
abbrev vU (p s:List UInt8) (j:Nat):Nat:=Nat.min (p.length - j) (64 - s.length % 64)
theorem Ji (s tl p:List UInt8) (j c:Nat):
    ((rem s++tl).map u8).take (s.length % 64)++((p.drop j).map u8).take c++((rem s++tl).map u8).drop (s.length % 64+c)=(rem s++(p.drop j).take c++tl.drop c).map u8:=by
  rw [←List.map_take, ←List.map_take, ←List.map_drop, ←List.map_append, ←List.map_append]
  rw [List.take_left' (gu s), ←List.drop_drop,List.drop_left' (gu s)]
theorem Ei {parts:List (List UInt8)} {p:List UInt8} {i:Nat} (h:parts[i]? =some p):((parts.map eU).drop (i*1))[0]? =some (eU p):=by
  rw [List.getElem?_drop,List.getElem?_map,show i*1+0=i by omega,h];rfl
theorem J2 (p:List UInt8) (j c:Nat):(((p.drop j).map u8).drop (c*1)).take ((p.length - (j+c))*1)=(p.drop (j+c)).map u8:=by
  rw [Nat.mul_one,Nat.mul_one, ←List.map_drop,List.drop_drop]
  exact List.take_of_length_le aA
theorem HD (p:List UInt8) (j c:Nat):p.take j++(p.drop j).take c=p.take (j+c):=by rw [←List.take_add]
theorem Jq {parts:List (List UInt8)} {p:List UInt8} {i:Nat} (h:parts[i]? =some p):(parts.take i).flatten++p.take p.length=(parts.take (i+1)).flatten:=by
  rw [List.take_add_one,h,List.take_length];simp
theorem Pp (s tl:List UInt8) (ht:tl.length=64 - s.length % 64):((rem s++tl).map u8).set (0+s.length % 64*1) (.i .u8 128)=(rem s++ [128]++tl.drop 1).map u8:=by
  have:tl≠ []:=by intro h;subst h;simp at ht;omega
  obtain⟨x,r,rfl⟩:=List.exists_cons_of_ne_nil this
  rw [List.map_append,List.set_append_right _ _ aA]
  simp
theorem KV (s tl:List UInt8) (ht:tl.length=64 - s.length % 64) (o:Nat) (ho:o=0+(if 64=s.length % 64+1 then 0 else(s.length % 64+1)*1)):
    ((rem s++ [128]++tl.drop 1).map u8).take o++List.replicate (64 - (s.length % 64+1)) (cn (.int .u8 0))++((rem s++ [128]++tl.drop 1).map u8).drop (o+(64 - (s.length % 64+1)))=(rem s++ [128]++List.replicate (63 - s.length % 64) 0).map u8:=by
  have he:cn (.int .u8 0)=u8 0:=rfl
  subst ho
  rw [he]
  by_cases h:64=s.length % 64+1
  · rw [if_pos h, show 64 - (s.length % 64 + 1) = 0 by omega, show 63 - s.length % 64 = 0 by omega, show tl.drop 1 = [] from List.drop_eq_nil_of_le aq]
    simp
  · rw [if_neg h]
    have e1:((rem s++ [128]++tl.drop 1).map u8).take (0+(s.length % 64+1)*1)=(rem s++ [128]).map u8:=by
      rw [←List.map_take,List.take_left' aA]
    have e2:((rem s++ [128]++tl.drop 1).map u8).drop (0+(s.length % 64+1)*1+(64 - (s.length % 64+1)))= []:=List.drop_eq_nil_of_le aE
    rw [e1,e2,show 64 - (s.length % 64+1)=63 - s.length % 64 by omega]
    simp
theorem vf (s p:List UInt8):s++p.take 0=s:=by simp
theorem Iw (s p:List UInt8):cN (cQ s.length+cQ p.length)=cN (cQ (s++p.take p.length).length):=by
  rw [List.take_length,List.length_append]
  exact congrArg cN (BitVec.ofNat_add _ _).symm
theorem Mj {parts:List (List UInt8)} {p:List UInt8} (h:p∈parts):p.length≤parts.flatten.length:=by
  induction parts with
  |nil=>cases h
  | cons q r ih =>
    simp only [List.flatten_cons,List.length_append]
    rcases List.mem_cons.1 h with rfl|h
    · omega
    · have:=ih h;omega
theorem Q3:(List.replicate 64 (Value.int .u8 0)).map cn=(rem []++List.replicate 64 0).map u8:=by kernel_rfl
theorem JM {l:List A} (h:l.length=64):l.take 0++List.replicate 64 (cn (.int .u8 0))++l.drop (0+64)=(List.replicate 64 (0:UInt8)).map u8:=by
  rw [List.drop_eq_nil_of_le aq]
  rfl
theorem MM {s p tl:List UInt8} {j c:Nat} (hc:c≤p.length - j) (ht:tl.length=64 - (s++p.take j).length % 64) (h:(s++p.take j).length % 64+c=64):
    rem (s++p.take (j+c))= []∧hs (s++p.take (j+c))=comp (hs (s++p.take j)) (rem (s++p.take j)++(p.drop j).take c++tl.drop c)∧(s++p.take (j+c)).length % 64=0:=by
  have e:(s++p.take j)++(p.drop j).take c=s++p.take (j+c):=by rw [List.append_assoc,HD]
  have hl:((p.drop j).take c).length=c:=by rw [List.length_take,List.length_drop];omega
  have:=Oh (s:=s++p.take j) (c:=(p.drop j).take c) aq
  rw [e]at this
  rw [show tl.drop c= []from List.drop_eq_nil_of_le aq,List.append_nil]
  exact this
theorem MN {s p:List UInt8} {j c:Nat} (hc:c≤p.length - j) (h:(s++p.take j).length % 64+c<64):
    rem (s++p.take (j+c))=rem (s++p.take j)++(p.drop j).take c∧hs (s++p.take (j+c))=hs (s++p.take j)∧(s++p.take (j+c)).length % 64=(s++p.take j).length % 64+c:=by
  have e:(s++p.take j)++(p.drop j).take c=s++p.take (j+c):=by rw [List.append_assoc,HD]
  have hl:((p.drop j).take c).length=c:=by rw [List.length_take,List.length_drop];omega
  have:=Og (s:=s++p.take j) (c:=(p.drop j).take c) aq
  rw [e,hl]at this
  exact this
def kj (s:List UInt8):S8:=if s.length % 64+1>56 then comp (hs s) (rem s++ [128]++List.replicate (63 - s.length % 64) 0)else hs s
def iY (s:List UInt8):List UInt8:=if s.length % 64+1>56 then List.replicate 56 0 else rem s++ [128]++List.replicate (55 - s.length % 64) 0
theorem ie (s:List UInt8):(iY s).length=56:=by
  unfold iY;split<;>simp;omega
theorem LP {s:List UInt8} (h:s.length % 64+1>56):(List.replicate 64 (0:UInt8)).map u8=(iY s++List.replicate (8 - 0) 0++(gS (8*s.length)).drop (8 - 0)).map u8:=by
  rw [iY,if_pos h,List.drop_eq_nil_of_le aA,List.append_nil,List.replicate_append_replicate]
theorem LQ {s:List UInt8} (h:¬s.length % 64+1>56):(rem s++ [128]++List.replicate (63 - s.length % 64) 0).map u8=(iY s++List.replicate (8 - 0) 0++(gS (8*s.length)).drop (8 - 0)).map u8:=by
  rw [iY,if_neg h,List.drop_eq_nil_of_le aA,List.append_nil,List.append_assoc _ _ (List.replicate (8 - 0) 0),List.replicate_append_replicate,show 55 - s.length % 64+(8 - 0)=63 - s.length % 64 by omega]
theorem Hg (s:List UInt8) (i:Nat) (x:UInt8) (hi:i<8) (hx:x=UInt8.ofNat (8*s.length / 2 ^ (8*i))):
    ((iY s++List.replicate (8 - i) 0++(gS (8*s.length)).drop (8 - i)).map u8).set (0+(63 - i)*1) (u8 x)=(iY s++List.replicate (8 - (i+1)) 0++(gS (8*s.length)).drop (8 - (i+1))).map u8:=by
  subst hx
  have hl:=ie s
  rw [←List.map_set,show 8 - i=(8 - (i+1))+1 by omega,List.replicate_succ', ←List.append_assoc,List.append_assoc (iY s++_),List.set_append_right _ _ aE]
  congr 2
  have hd:(gS (8*s.length)).drop (8 - (i+1))=UInt8.ofNat (8*s.length / 2 ^ (8*i))::(gS (8*s.length)).drop (8 - (i+1)+1):=by
    rw [List.drop_eq_getElem_cons aE]
    congr 1
    have:=Cf (8*s.length) (8 - (i+1)) aq
    rw [List.getElem?_eq_getElem aE]at this
    rw [Option.some.inj this,show 7 - (8 - (i+1))=i by omega]
  rw [hd,show 0+(63 - i)*1 - (iY s++List.replicate (8 - (i+1)) (0:UInt8)).length=0 by simp;omega]
  rfl
def fin (s:List UInt8):S8:=iF ((pad s).length / 64) h0 (pad s)
theorem DV (s:List UInt8):comp (kj s) (iY s++gS (8*s.length))=fin s:=by
  have hr:=gu s
  have hz:=uN s.length
  have hp:=wz s
  have split:pad s=s.take (64*(s.length / 64))++(rem s++ [128]++List.replicate (j6 s.length) 0++gS (8*s.length)):=by
    conv=>lhs;rw [pad];rw [pV s]
    have:(s.take (64*(s.length / 64))++rem s).length=s.length:=by rw [←pV s]
    rw [this]
    simp [List.append_assoc]
  have hhs:iF (s.length / 64) h0 (s.take (64*(s.length / 64)))=hs s:=by
    unfold hs
    conv=>rhs;rw [pV s]
    rw [qN _ _ _ _ aE]
    congr 1
    simp;omega
  unfold fin
  by_cases h:s.length % 64+1>56
  · have hzz : j6 s.length = (63 - s.length % 64) + 56 := by omega
    rw [show(pad s).length / 64=s.length / 64+(1+1) by omega,split,u5 _ _ _ _ _ aE,hhs,kj,iY,if_pos h,if_pos h,hzz, ←List.replicate_append_replicate]
    rw [show rem s++ [128]++(List.replicate (63 - s.length % 64) 0++List.replicate 56 0)++gS (8*s.length)=(rem s++ [128]++List.replicate (63 - s.length % 64) 0)++(List.replicate 56 0++gS (8*s.length)) by simp [List.append_assoc]]
    rw [u5 1 1 _ _ _ aE]
    simp only [iF]
    rw [List.take_of_length_le aE,List.take_of_length_le aA]
  · have hzz : j6 s.length = 55 - s.length % 64 := by omega
    rw [show(pad s).length / 64=s.length / 64+1 by omega,split,u5 _ _ _ _ _ aE,hhs,kj,iY,if_neg h,if_neg h,hzz]
    simp only [iF]
    rw [List.take_of_length_le aE]
end Go.Abs.D2
-- D2R
namespace Go.Abs.D2
open Go Go.Eng Go.Abs
def fB (x:Nat):Nat:=if x=0 then 0 else x.log2+1
theorem L4 {x:Nat} (k:Nat) (h:2 ^ k≤x):fB x=k+fB (x>>>k):=by
  have hk:0<2 ^ k:=Nat.two_pow_pos k
  have hx:x≠0:=by omega
  have hs:x>>>k≠0:=by
    rw [Nat.shiftRight_eq_div_pow]
    have:=Nat.div_pos h hk
    omega
  have h1:(x>>>k).log2+k=x.log2:=by
    refine((Nat.log2_eq_iff hx).2 ⟨?_,?_⟩).symm
    · have := Nat.log2_self_le hs
      rw [Nat.shiftRight_eq_div_pow]at this ⊢
      rw [Nat.pow_add]
      exact(Nat.le_div_iff_mul_le hk).1 this
    · have := Nat.lt_log2_self (n := x >>> k)
      rw [Nat.shiftRight_eq_div_pow]at this ⊢
      rw [show(x / 2 ^ k).log2+k+1=((x / 2 ^ k).log2+1)+k by omega,Nat.pow_add]
      exact(Nat.div_lt_iff_lt_mul hk).1 this
  simp only [fB,hx,hs,if_false]
  omega
def ET:List UInt8:=(List.range 256).map fun j=>UInt8.ofNat (fB j)
theorem pb (j:Nat) (h:j<256):ET[j]? =some (UInt8.ofNat (fB j)):=by simp [ET,h]
theorem nW {j:Nat} (h:j<256):fB j≤8:=by
  unfold fB
  split
  · omega
  · have : j.log2 < 8 := (Nat.log2_lt aq).2 aq
    omega
theorem Bk {n:Nat} (h:n<256):(UInt8.ofNat n).toNat=n:=by rw [UInt8.toNat_ofNat'];exact Nat.mod_eq_of_lt h
theorem pd {n:Nat} (h:n<256):((UInt8.ofNat n).toNat:Int)=(n:Int):=by rw [Bk h]
theorem pc {j:Nat} (h:j<256):A.i .i64 (IntKind.i64.wrap ((UInt8.ofNat (fB j)).toNat:Int))=A.i .i64 (fB j:Nat):=by
  have:=nW h
  rw [Bk aq,oh _ aq aq]
theorem pX (X:BitVec 64) (k:Nat) (h:2 ^ k≤X.toNat):fB X.toNat=k+fB (X>>>k).toNat:=by
  rw [BitVec.toNat_ushiftRight];exact L4 k h
theorem qu (X:BitVec 64) (k m:Nat) (h:X.toNat<2 ^ (k+m)):(X>>>k).toNat<2 ^ m:=by
  rw [BitVec.toNat_ushiftRight,Nat.shiftRight_eq_div_pow]
  exact Nat.div_lt_of_lt_mul (by rw [←Nat.pow_add];exact h)
@[irreducible] def cC (n:Nat):Nat:=2 ^ (n - 1).log2
theorem yY {n:Nat} (h:n<18446744073709551616):(cQ n).toNat=n:=by rw [BitVec.toNat_ofNat];exact Nat.mod_eq_of_lt h
theorem ES {x:Nat} (h:0<x):fB x=x.log2+1:=by unfold fB;rw [if_neg aq]
theorem L3 {x:Nat} (h:x<18446744073709551616):fB x≤9223372036854775807:=by
  unfold fB
  split
  · omega
  · have : x.log2 < 64 := (Nat.log2_lt aq).2 aq
    omega
theorem ia {n:Nat} (h:2≤n):0<cC n∧cC n<n∧n≤2*cC n:=by
  unfold cC
  have h1:=Nat.log2_self_le (n:=n - 1) aq
  have h2:=Nat.lt_log2_self (n:=n - 1)
  rw [Nat.pow_succ]at h2
  exact⟨Nat.two_pow_pos _,by omega,by omega⟩
theorem Lt {n k:Nat} (e:Nat) (hk:k=2 ^ e) (h1:k<n) (h2:n≤2*k):k=cC n:=by
  subst hk
  unfold cC
  congr 1
  have:=(Nat.log2_eq_iff (n:=n - 1) (k:=e) aq).2 ⟨by omega,by rw [Nat.pow_succ];omega⟩
  exact this.symm
theorem PH {n:Nat} (h:2≤n) (hn:n≤1099511627776):A.i .i64 (IntKind.i64.wrap (1*2 ^ min (((n - 1).log2:Nat):Int).toNat IntKind.i64.bits))=A.i .i64 (cC n:Nat):=by
  have hl:(n - 1).log2<41:=(Nat.log2_lt aq).2 aq
  have hb:min (((n - 1).log2:Nat):Int).toNat IntKind.i64.bits=(n - 1).log2:=by simp [IntKind.bits];omega
  have hh:=ia h
  rw [hb,Int.one_mul,show((2:Int) ^ (n - 1).log2)=((cC n:Nat):Int) by simp [cC],oh _ aq aq]
-- D2T
abbrev cM (L:List (List UInt8)):A:= .fz L.length (L.flatten.map u8)
def cg (L:List (List UInt8)):Prop:=∀x∈L,x.length=32
theorem cg.take {L:List (List UInt8)} (h:cg L) (k:Nat):cg (L.take k):=fun x hx=>h x (List.mem_of_mem_take hx)
theorem cg.drop {L:List (List UInt8)} (h:cg L) (k:Nat):cg (L.drop k):=fun x hx=>h x (List.mem_of_mem_drop hx)
theorem cg.len {L:List (List UInt8)} (h:cg L):L.flatten.length=L.length*32:=by
  induction L with
  |nil=>rfl
  | cons x L ih =>
    rw [List.flatten_cons,List.length_append,h x (.head _),ih fun y hy=>h y (.tail _ hy),List.length_cons];omega
theorem cg.tt:∀ {L:List (List UInt8)} (_:cg L) (k:Nat),L.flatten.drop (k*32)=(L.drop k).flatten
  | [],_,k=>by simp
  |x::L,h,0=>by simp
  | x :: L, h, k + 1 => by
    rw [List.flatten_cons,List.drop_succ_cons,show(k+1)*32=32+k*32 by omega, ←List.drop_drop,List.drop_left' (h x (.head _))]
    exact cg.tt (fun y hy=>h y (.tail _ hy)) k
theorem cg.xQ:∀ {L:List (List UInt8)} (_:cg L) (k:Nat),L.flatten.take (k*32)=(L.take k).flatten
  | [],_,k=>by simp
  |x::L,h,0=>by simp
  | x :: L, h, k + 1 => by
    rw [List.flatten_cons,List.take_succ_cons,List.flatten_cons,show(k+1)*32=32+k*32 by omega,List.take_add,List.take_left' (h x (.head _)),List.drop_left' (h x (.head _))]
    rw [cg.xQ (fun y hy=>h y (.tail _ hy)) k]
theorem pL {L:List (List UInt8)} (h:cg L) {k:Nat} (hk:k≤L.length):A.fz k (((L.flatten.map u8).drop (0*32)).take (k*32))=cM (L.take k):=by
  rw [Nat.zero_mul,List.drop_zero, ←List.map_take,h.xQ,cM,List.length_take,Nat.min_eq_left hk]
theorem rh {L:List (List UInt8)} (h:cg L) {k m:Nat} (hk:L.length - k=m):A.fz m (((L.flatten.map u8).drop (k*32)).take (m*32))=cM (L.drop k):=by
  subst hk
  rw [←List.map_drop,h.tt,cM,List.length_drop]
  congr 1
  exact List.take_of_length_le (by rw [List.length_map,(h.drop k).len,List.length_drop];omega)
theorem C2 {x:List UInt8} (h:x.length=32):A.fz 32 (((([x].flatten.map u8).drop (0*32)).drop (0*1)).take (32*1))= .fz x.length (x.map u8):=by
  simp only [List.flatten_cons,List.flatten_nil,List.append_nil,Nat.zero_mul,List.drop_zero,Nat.mul_one]
  rw [List.take_of_length_le (by simp [h]),h]
def lJ (a b:List UInt8):List UInt8:=tagged [110,111,100,101] (a++b)
def nr:Nat→List (List UInt8)→List UInt8
  |_, []=>tagged [101,109,112,116,121] []
  |_, [x]=>tagged [108,101,97,102] x
  |0,_=> []
  |f+1,L=>lJ (nr f (L.take (cC L.length))) (nr f (L.drop (cC L.length)))
theorem Bi {f:Nat} {L:List (List UInt8)} (h:2≤L.length):nr (f+1) L=lJ (nr f (L.take (cC L.length))) (nr f (L.drop (cC L.length))):=by
  match L,h with
  |_::_::_,_=>rfl
theorem xV:∀(f g:Nat) (L:List (List UInt8)),L.length≤f→L.length≤g→nr f L=nr g L
  |_,_, [],_,_=>by simp only [nr]
  |_,_, [x],_,_=>by simp only [nr]
  |0,_,_::_::_,h,_=>by simp at h
  |_,0,_::_::_,_,h=>by simp at h
  | f + 1, g + 1, a :: b :: L, h1, h2 => by
    have hh:=ia (n:=(a::b::L).length) aA
    have e:2≤(a::b::L).length:=by simp
    rw [Bi e,Bi e]
    congr 1
    · exact xV f g _ aG aG
    · exact xV f g _ aF aF
@[irreducible] def tree (L:List (List UInt8)):List UInt8:=nr L.length L
theorem Bj:tree []=tagged [101,109,112,116,121] []:=by unfold tree;rfl
theorem xW (x:List UInt8):tree [x]=tagged [108,101,97,102] x:=by unfold tree;rfl
theorem uI {L:List (List UInt8)} (h:2≤L.length):tree L=lJ (tree (L.take (cC L.length))) (tree (L.drop (cC L.length))):=by
  have hh:=ia h
  unfold tree
  obtain⟨f,hf⟩:∃f,L.length=f+1:=⟨L.length - 1,by omega⟩
  conv=>lhs;rw [hf]
  rw [Bi h]
  congr 1
  · exact xV _ _ _ aG (Nat.le_refl _)
  · exact xV _ _ _ aF (Nat.le_refl _)
@[simp] theorem iz (L : List (List UInt8)) : (tree L).length = 32 := by
  match L with
  | []=>rw [Bj,kL]
  | [x]=>rw [xW,kL]
  |a::b::r=>rw [uI aA];exact kL _ _
def kY:Nat→List (List UInt8)→Nat→List (List UInt8)
  |0,_,_=> []
  |f+1,L,i=>if L.length≤1 then []else if i<cC L.length then kY f (L.take (cC L.length)) i++ [tree (L.drop (cC L.length))]else kY f (L.drop (cC L.length)) (i - cC L.length)++ [tree (L.take (cC L.length))]
theorem xg:∀(f g:Nat) (L:List (List UInt8)) (i:Nat),L.length≤f→L.length≤g→kY f L i=kY g L i
  |0,0,_,_,_,_=>rfl
  |0,g+1,L,i,h,_=>by rw [kY,kY,if_pos aq]
  |f+1,0,L,i,_,h=>by rw [kY,kY,if_pos aq]
  | f + 1, g + 1, L, i, h1, h2 => by
    rw [kY,kY]
    by_cases h:L.length≤1
    · rw [if_pos h,if_pos h]
    · have hh := ia (n := L.length) aq
      rw [if_neg h,if_neg h,xg f g (L.take _) _ aG aG,xg f g (L.drop _) _ aF aF]
@[irreducible] def path (L:List (List UInt8)) (i:Nat):List (List UInt8):=kY L.length L i
theorem mW {L:List (List UInt8)} (i:Nat) (h:L.length≤1):path L i= []:=by
  unfold path
  match L,h with
  | [],_=>rfl
  | [x],_=>rfl
theorem oS {L:List (List UInt8)} {i:Nat} (h:2≤L.length) (hi:i<cC L.length):path L i=path (L.take (cC L.length)) i++ [tree (L.drop (cC L.length))]:=by
  have hh:=ia h
  unfold path
  obtain⟨f,hf⟩:∃f,L.length=f+1:=⟨L.length - 1,by omega⟩
  conv=>lhs;rw [hf,kY,if_neg aq,if_pos hi]
  rw [xg f _ _ _ aG (Nat.le_refl _)]
theorem oT {L:List (List UInt8)} {i:Nat} (h:2≤L.length) (hi:¬i<cC L.length):path L i=path (L.drop (cC L.length)) (i - cC L.length)++ [tree (L.take (cC L.length))]:=by
  have hh:=ia h
  unfold path
  obtain⟨f,hf⟩:∃f,L.length=f+1:=⟨L.length - 1,by omega⟩
  conv=>lhs;rw [hf,kY,if_neg aq,if_neg hi]
  rw [xg f _ _ _ aF (Nat.le_refl _)]
theorem cg.app {L M:List (List UInt8)} (h:cg L) (h':cg M):cg (L++M):=fun x hx=>(List.mem_append.1 hx).elim (h x) (h' x)
theorem cg.one {x:List UInt8} (h:x.length=32):cg [x]:=fun y hy=>by rw [List.mem_singleton.1 hy];exact h
theorem nw : ∀ (n : Nat) (L : List (List UInt8)) (i : Nat), L.length ≤ n → cg (path L i)
  |0,L,i,h=>by rw [mW i aq];exact fun x hx=>by cases hx
  | n + 1, L, i, h => by
    by_cases h1:L.length≤1
    · rw [mW i h1];exact fun x hx=>by cases hx
    · have hh := ia (n := L.length) aq
      by_cases hi:i<cC L.length
      · rw [oS aq hi]
        exact(nw n _ _ aG).app (.one (iz _))
      · rw [oT aq hi]
        exact(nw n _ _ aF).app (.one (iz _))
theorem rO : ∀ (n : Nat) (L : List (List UInt8)) (i : Nat), L.length ≤ n → (path L i).length ≤ n
  |0,L,i,h=>by rw [mW i aq];simp
  | n + 1, L, i, h => by
    by_cases h1:L.length≤1
    · rw [mW i h1];simp
    · have hh := ia (n := L.length) aq
      by_cases hi:i<cC L.length
      · rw [oS aq hi, List.length_append]
        have:=rO n (L.take (cC L.length)) i aG
        simp;omega
      · rw [oT aq hi, List.length_append]
        have:=rO n (L.drop (cC L.length)) (i - cC L.length) aF
        simp;omega
end Go.Abs.D2
-- AbsK
namespace Go.Abs
open Go Go.Eng
inductive pz (P:Program) (ops:Array Oper) (n:Nat) (Eb:Ev) (st:St) (j:Nat) (want:Bool):Ev→List Oper→Ev→List Oper→Prop where
  |done {E l}:pz P ops n Eb st j want E l E l
  |step {E F:Ev} {d:Nat} {op:Op} {ty:TypeId} {pos:String} {b6:Array Edge} {v:A} {l rest:List Oper} (hy:YO P E st op ty v) (hd:Nat.ble (d+1) n=true) (hf:Eb.cF d=none) (h:pz P ops n Eb st j want ((d,v)::E) l F rest):
      pz P ops n Eb st j want E (⟨some d,op,ty,pos,b6,some (j,want)⟩::l) F rest
section
variable {r:Option Nat} {ds0:List Deferred}
variable {P:Program} {w0:Bw} {X0:Xs} {n:Nat} {E Eb F:Ev} {st:St} {ops:Array Oper} {Q:Exit→Act→World→Prop} {j t:Nat} {want:Bool} {l rest:List Oper}
theorem Es (hj:fy ops j=some t) (ht:Eb.cF t=some (.b want)) (h:pz P ops n Eb st j want E l F rest):E.cF t=some (.b want)→At w0 X0 n F st (Pw ds0 (wpListIn (rF r) 0 P ops Q rest))→At w0 X0 n E st (Pw ds0 (wpListIn (rF r) 0 P ops Q l)):=by
  induction h with
  |done=>exact fun _ h=>h
  | @step E F d op ty pos b6 v l rest hy hd hf h ih =>
    intro hE hK
    have hdt:d≠t:=fun e=>by subst e;rw [hf]at ht;cases ht
    refine g1 hj hE hy hd (ih ?_ hK)
    simp only [Ev.cF]
    rw [show Nat.beq d t=false from(by cases hb:Nat.beq d t with|false=>rfl|true=>exact absurd (Nat.eq_of_beq_eq_true hb) hdt)]
    exact hE
def uC (j : Nat) (want : Bool) (Eb : Ev) (n : Nat) : Nat → List Oper → Bool
  |0,_=>true
  |_+1, []=>false
  | k + 1, o :: r => match o.dst, o.guard with
    |some d,some (j',w)=>Nat.beq j j'&&(w==want)&&Nat.ble (d+1) n&&(Eb.cF d).isNone&&uC j want Eb n k r
    |_,_=>false
theorem A7 (hj:fy ops j=some t) (ht:Eb.cF t=some (.b (!want))):∀(k:Nat) (l:List Oper) (E1:Ev),uC j want Eb n k l=true→(∀s v,Eb.cF s=some v→E1.cF s=some v)→At w0 X0 n Eb st (Pw ds0 (wpListIn (rF r) 0 P ops Q (l.drop k)))→At w0 X0 n E1 st (Pw ds0 (wpListIn (rF r) 0 P ops Q l))
  |0,l,E1,_,hl,hK=>fun a w hr=>hK a w (hr.weaken hl (fun _ _ h=>h) (fun _ h=>h))
  |k+1, [],_,h,_,_=>by cases h
  | k + 1, o :: r, E1, h, hl, hK => by
    simp only [uC]at h
    split at h
    · rename_i d j' w hd hg
      simp only [Bool.and_eq_true,beq_iff_eq,Option.isNone_iff_eq_none]at h
      obtain⟨⟨⟨⟨h1,h2⟩,h3⟩,h4⟩,h5⟩:=h
      have h1:=Nat.eq_of_beq_eq_true (by simpa using h1:Nat.beq j j'=true)
      have h2:=h2.symm
      subst h1;subst h2
      obtain⟨d',op,ty,pos,b6,g⟩:=o
      simp only at hd hg
      subst hd;subst hg
      refine g0 (b:=want) (b':=!want) hj (hl _ _ ht) rfl h3 (A7 hj ht k r _ h5 (fun s v hs=>?_) hK)
      simp only [Ev.cF]
      cases hb:Nat.beq d s with
      |true=>rw [←Nat.eq_of_beq_eq_true hb,h4]at hs;cases hs
      |false=>exact hl s v hs
    · cases h
theorem Eo (h:pz P ops n Eb st j want E l F rest):(∀s u,Eb.cF s=some u→E.cF s=some u)→∀s u,Eb.cF s=some u→F.cF s=some u:=by
  induction h with
  |done=>exact fun h=>h
  | @step E F d op ty pos b6 v l rest hy hd hf h ih =>
    intro hl
    refine ih fun s u hs=>?_
    simp only [Ev.cF]
    cases hb:Nat.beq d s with
    |true=>rw [←Nat.eq_of_beq_eq_true hb,hf]at hs;cases hs
    |false=>exact hl s u hs
variable {d:Nat} {ty:TypeId} {pos:String} {b6:Array Edge} {x y:Operand} {b c:Bool}
theorem En {E':Ev} {u:A} {K:Act→World→Prop} (hF:∀s v,E.cF s=some v→E'.cF s=some v) (h:At w0 X0 n ((d,u)::E) st K):At w0 X0 n ((d,u)::E') st K:=fun a w hr=>
  h a w (hr.weaken (fun s v hs => by
    simp only [Ev.cF]at hs ⊢
    cases hb:Nat.beq d s with
    |true=>rw [hb]at hs;exact hs
    |false=>rw [hb]at hs;exact hF s v hs) (fun _ _ h=>h) (fun _ h=>h))
theorem gr (k:Nat) (hj:fy ops j=some t) (ht:E.cF t=some (.b b)) (hB:uC j false E n k l=true) (hl:l.drop k=⟨some d,.pick (.tmp t) (.const (.bool true)) y,ty,pos,b6,none⟩::rest)
    (hrun:b=false→pz P ops n E st j false E l F (l.drop k)) (hy:ev F y=some (.b c)) (hd:Nat.ble (d+1) n=true)
    (h:At w0 X0 n ((d,.b (b||c))::E) st (Pw ds0 (wpListIn (rF r) 0 P ops Q rest))):At w0 X0 n E st (Pw ds0 (wpListIn (rF r) 0 P ops Q l)):=by
  cases b with
  | true =>
    refine A7 (want:=false) hj ht k l E hB (fun _ _ h=>h) ?_
    rw [hl]
    refine s1 (v:= .b true) (bE ?_) hd h
    have e:ev E (.tmp t)=some (.b true):=ht
    simp only [mX,e]
    rfl
  | false =>
    have hg:=hrun rfl
    have hlv:=Eo hg (fun _ _ h=>h)
    refine Es hj ht hg ht ?_
    rw [hl]
    refine s1 (v:= .b c) (bE ?_) hd (En hlv h)
    have e:ev F (.tmp t)=some (.b false):=hlv _ _ ht
    simp only [mX,e,hy]
theorem fU (k:Nat) (hj:fy ops j=some t) (ht:E.cF t=some (.b b)) (hB:uC j true E n k l=true) (hl:l.drop k=⟨some d,.pick (.tmp t) y (.const (.bool false)),ty,pos,b6,none⟩::rest)
    (hrun:b=true→pz P ops n E st j true E l F (l.drop k)) (hy:ev F y=some (.b c)) (hd:Nat.ble (d+1) n=true)
    (h:At w0 X0 n ((d,.b (b&&c))::E) st (Pw ds0 (wpListIn (rF r) 0 P ops Q rest))):At w0 X0 n E st (Pw ds0 (wpListIn (rF r) 0 P ops Q l)):=by
  cases b with
  | false =>
    refine A7 (want:=true) hj ht k l E hB (fun _ _ h=>h) ?_
    rw [hl]
    refine s1 (v:= .b false) (bE ?_) hd h
    have e:ev E (.tmp t)=some (.b false):=ht
    simp only [mX,e]
    rfl
  | true =>
    have hg:=hrun rfl
    have hlv:=Eo hg (fun _ _ h=>h)
    refine Es hj ht hg ht ?_
    rw [hl]
    refine s1 (v:= .b c) (bE ?_) hd (En hlv h)
    have e:ev F (.tmp t)=some (.b true):=hlv _ _ ht
    simp only [mX,e,hy]
end
end Go.Abs
-- AbsM
namespace Go.Abs
open Go Go.Eng
theorem DS (size:Nat):∀(vs:List (Value×List Value)) (k:Nat) (pre z:List Value),(∀p∈vs,p.1.cells=p.2.toArray∧p.2.length=size)→pre.length=k*size→vs.length*size≤z.length→
    Instr.fill (fun i=>some (i*size,size)) (pre++z).toArray (ib vs k)=some (pre++flat vs++z.drop (vs.length*size)).toArray
  | [],_,pre,z,_,_,_=>by simp [ib,flat,Instr.fill]
  | (v, c) :: r, k, pre, z, hv, hp, hz => by
    obtain⟨h1,h2⟩:=hv (v,c) aA
    simp only at h1 h2
    have hz':(r.length+1)*size≤z.length:=by simpa using hz
    rw [Nat.add_mul,Nat.one_mul]at hz'
    simp only [ib,Instr.fill,h1,List.size_toArray,h2]
    have hno:¬((decide (size≠size)||decide (k*size+size>(pre++z).length))=true):=by
      rw [List.length_append,hp]
      simp;omega
    rw [if_neg hno]
    have hw:=xX c 0 (k*size) pre z aq aq
    have ez:c.toArray.zipIdx=(c.zipIdx 0).toArray:=by simp
    rw [ez,List.foldl_toArray]
    refine Eq.trans (congrArg (fun a=>Instr.fill (fun i=>some (i*size,size)) a (ib r (k+1))) hw) ?_
    rw [DS size r (k+1) (pre++c) (z.drop c.length) (fun p hp=>hv p a7) (by rw [List.length_append,hp,h2,Nat.add_mul,Nat.one_mul]) aF]
    simp only [flat,List.drop_drop,List.length_cons,h2,List.append_assoc]
    rw [show size+r.length*size=(r.length+1)*size by rw [Nat.add_mul,Nat.one_mul];omega]
section
variable {P:Program} {w0:Bw} {X0:Xs} {n:Nat} {E:Ev} {st:St} {β:Bm} {X:Xs} {a:Act} {w:World} {Q:Exit→Act→World→Prop} {K:Act→World→Prop}
theorem QP {t e : TypeId} {len size by' by2 : Nat} {zero zero' : List Value} {agg : Bool} {parts : List (Nat × Operand)} {vs out : List A} {ty : TypeId} (ht : TI P t len by' zero true) (hzl : zero.length = len) (hz1 : zero.all (·.oneCell') = true) (hu : P.underlying t = some (.array len e)) (he : TI P e size by2 zero' agg) (hs : size = 1)
    (hp:iM E parts 0=some vs) (hlen:vs.length≤len) (h1:vs.all one=true) (ho:vs++(zero.map cn).drop vs.length=out):YO P E st (.build t parts.toArray) ty (.ag out):=by
  subst hs;subst ho
  intro w0 X0 n β X a w hr
  have key:∀(parts:List (Nat×Operand)) (k:Nat) (vs:List A),iM E parts k=some vs→vs.all one=true→∃us:List Value,iP (full a) parts=some (ib (ig us) k)∧VS X w β vs us∧∀x∈us,x.oneCell'=true:=by
    intro parts
    induction parts with
    |nil=>intro k vs h _;simp only [iM,Option.some.injEq]at h;subst h;exact⟨[],rfl,fM,(fun x hx=>by cases hx)⟩
    | cons p r ih =>
      intro k vs h h1
      obtain⟨i,x⟩:=p
      simp only [iM]at h
      split at h
      · rename_i v vs' hik hx hrest
        simp only [Option.some.injEq]at h
        subst h
        simp only [List.all_cons,Bool.and_eq_true]at h1
        have:i=k:=Nat.eq_of_beq_eq_true hik
        subst this
        obtain⟨us,g1,g2,g3⟩:=ih (i+1) vs' hrest h1.2
        obtain⟨e1,e2⟩:=hr.c9 hx
        exact⟨a.eval x::us,by simp only [iP,e1,g1,ig,ib],eV e2 g2,fun q hq=>by rcases List.mem_cons.1 hq with rfl|hq;exact yy h1.1 e2;exact g3 q hq⟩
      · cases h
  obtain⟨us,g1,g2,g3⟩:=key parts 0 vs hp h1
  have hul:=fb g2
  have hzv:VS X w β ((zero.map cn).drop vs.length) (zero.drop vs.length):=ll (pG zero) _
  refine⟨.agg (us++zero.drop us.length).toArray,?_,fun d pos b6 g w' _=>?_⟩
  · simp only [V]
    refine⟨_,rfl,gZ g2 (by rw [hul];exact hzv),fun x hx=>?_⟩
    rcases List.mem_append.1 hx with hx|hx
    · exact g3 x hx
    · exact List.all_eq_true.1 hz1 x (List.mem_of_mem_drop hx)
  obtain⟨z,hz',hzc⟩:=ht.zeroValue w'
  have hfill:Instr.fill (fun i=>some (i*1,1)) zero.toArray (ib (ig us) 0)=some (us++zero.drop us.length).toArray:=by
    have hol:∀l:List Value,(ig l).length=l.length:=fun l=>by induction l with|nil=>rfl|cons x l ih=>simp [ig,ih]
    have:=DS 1 (ig us) 0 [] zero (wZ g3) aA (by rw [hol,hul,hzl];omega)
    rw [List.nil_append,List.nil_append,vV,hol,Nat.mul_one]at this
    exact this
  have:(Instr.build t (ib (ig us) 0).toArray).run P w'= .ok (.agg (us++zero.drop us.length).toArray) w':=by
    unfold Instr.build
    rw [Sem.run_bind,hz']
    simp only [Result.andThen_ok,hzc]
    rw [Sem.run_bind,run_underlying hu]
    simp only [Result.andThen_ok]
    rw [Sem.run_bind,he.sizeOf w']
    simp only [Result.andThen_ok,hfill]
    rfl
  have e:execOp a.eval ⟨d,.build t parts.toArray,ty,pos,b6,g⟩=Next.value<$>Instr.build t (parts.toArray.map fun(i,x)=>(i,a.eval x)):=by simp [execOp]
  have e0:(parts.toArray.map fun(i,x)=>(i,a.eval x))=(ib (ig us) 0).toArray:=by rw [List.map_toArray,(gq a hr.defers).iP g1]
  rw [e,e0,Sem.run_map,this]
  rfl
theorem jL (k j : Nat) {id s off m : Nat} {cs ds vs vs' : List A} (hk : st.get k = some vs) (hj : vs[j]? = some (.sl id s off m)) (hg : st.get id = some cs) (hne : Nat.beq id k = false) (hp : dF cs) (hd : (cs.drop off).take (m * s) = ds) (hvs : vs.set j (.fz m ds) = vs') (h : At w0 X0 n E ((st.del id).put k vs') K) : At w0 X0 n E st K := by
  rintro a w ⟨β,X,hr⟩
  subst hd;subst hvs
  have hob:=hr.mem.obj k vs hk
  have hne':id≠k:=Nat.ne_of_beq_eq_false hne
  obtain⟨x,hβk⟩:∃x,β k=some x:=by
    unfold OB at hob
    split at hob
    · exact hob.elim
    · rename_i hb;exact⟨_,hb⟩
    · rename_i hb;exact⟨_,hb⟩
    · rename_i hb;exact⟨_,hb⟩
  cases x with
  | mp b =>
    obtain⟨_,_,_,f,_,_,e,_⟩:=hob.gB hβk
    subst e
    cases j with
    |zero=>simp at hj
    |succ j=>simp at hj
  | ph =>
    unfold OB at hob
    rw [hβk]at hob
    simp only at hob
    subst hob
    simp at hj
  | bk b N =>
    have hob':=hob
    unfold OB at hob
    rw [hβk]at hob
    simp only at hob
    obtain⟨_,_,us,rest,ty,hw,hl,hvs,hone⟩:=hob
    obtain⟨u,hu,hvu⟩:=iO hvs hj
    obtain⟨X1,m1,m2,m3,m4⟩:=z1 hr.mem hg hp hvu
    have hk1:(st.del id).get k=some vs:=by rw [St.oI,if_neg hne'];exact hk
    have hob1:=m1.obj k vs hk1
    unfold OB at hob1
    rw [hβk]at hob1
    simp only at hob1
    obtain⟨q1,q2,us',rest',ty',q3,q4,q5,q6⟩:=hob1
    have huse:us'++rest'=us++rest∧us'.length=us.length:=by
      rw [hw]at q3
      have:=Option.some.inj q3
      have h2:(us++rest).toArray=(us'++rest').toArray:=by
        unfold row at this
        injection this
      have h3:=fb q5
      have h4:=fb hvs
      exact⟨by simpa using congrArg Array.toList h2.symm,by omega⟩
    have hus:us'=us:=List.append_inj_left huse.1 huse.2
    subst hus
    have hset:VS X1 w β (vs.set j (.fz m ((cs.drop off).take (m*s)))) us':=by
      have:=BO q5 (j:=j) (m4 s off m u hvu)
      have e:us'.set j u=us':=by
        refine List.ext_getElem aA fun i h1 h2=>?_
        rw [List.getElem_set]
        split
        · rename_i e; subst e
          have:=(List.getElem?_eq_some_iff.1 hu).2
          exact this.symm
        · rfl
      rwa [e]at this
    refine h a w ⟨β,X1,.of (fun b o h=>(m2 b o (hr.x0 b o h)).1) (fun b o h=>(m3 b o h).elim (hr.xn b o) .inr) (.of m1.below m1.b0 m1.xlt (fun i hi=>?_) (fun i c hi=>?_) (fun i i2 ci cj b M N hij hi hj' h1 h2=>?_)) (hr.gl.mono m2) hr.size hr.defers (fun s hs=>ew.lT m2 (hr.sslot s hs)) (fun t v ht=>?_)⟩
    · rw [St.gF] at hi
      split at hi
      · cases hi
      · exact m1.dom i hi
    · rw [St.ef] at hi
      split at hi
      · rename_i e; subst e
        simp only [Option.some.injEq]at hi
        subst hi
        unfold OB
        rw [hβk]
        exact⟨q1,q2,us',rest',ty',q3,q4,hset,q6⟩
      · exact m1.obj i c hi
    · skip
      have g':∀i c,((st.del id).put k (vs.set j (.fz m ((cs.drop off).take (m*s))))).get i=some c→∃c',(st.del id).get i=some c':=fun i c hi=>by
        rw [St.ef]at hi
        split at hi
        · rename_i e;subst e;exact⟨_,hk1⟩
        · exact⟨c,hi⟩
      obtain⟨c1,e1⟩:=g' _ _ hi
      obtain⟨c2,e2⟩:=g' _ _ hj'
      exact m1.inj _ _ _ _ _ _ _ hij e1 e2 h1 h2
    · obtain ⟨u, g1, g2⟩ := hr.slot t v ht
      exact⟨u,g1,gj m2 _ _ _ _ (dE.refl β) g2⟩
theorem Iq {u:Value} (h:V X w β .nl u):V X w β (.fz 0 []) u:=by
  simp only [V]at h ⊢
  subst h
  exact⟨none,0,rfl,Nat.le_refl _,Nat.zero_le _,fun _=>rfl,(fun h=>absurd h (Nat.lt_irrefl _)),by simp [VM]⟩
theorem bU.QC {f:FuncId} {args:List A} {r r':A} (h:bU P f args (cl r)) (hw:∀X w β u,V X w β r u→V X w β r' u):bU P f args (cl r'):=by
  intro w X β us hd hx hg ho hi hv
  refine(h w X β us hd hx hg ho hi hv).mono fun v w' hp=>?_
  obtain⟨q,β',X',st',hr,h1,h2,h3,h4⟩:=hp
  have:q=r:=hr
  subst this
  exact⟨r',β',X',st',rfl,h1,h2,h3,hw _ _ _ _ h4⟩
theorem bU.cast {f:FuncId} {args:List A} {r r':A} (h:bU P f args (cl r)) (e:r=r'):bU P f args (cl r'):=e ▸ h
theorem qc {src dst ty:TypeId} {x:Operand} {ds:TypeDesc} {j:Int} {k:IntKind} (n:Nat) (hs:P.underlying src=some ds) (ht:P.underlying dst=some (.int .u8)) (hx:ev E x=some (.i k j)) (hj:j=(n:Int)):YO P E st (.convert src dst x) ty (u8 (UInt8.ofNat n)):=by
  subst hj
  refine(ep hs ht hx).v (congrArg (A.i .u8) ?_)
  rw [UInt8.toNat_ofNat']
  simp [IntKind.wrap,IntKind.signed,IntKind.bits]
theorem D9 (w:World) (p:Addr) (n:Nat):(w.freeze p n).heap.size=w.heap.size∧∀k:Nat,k≠p.block→(w.freeze p n).heap[k]? =w.heap[k]? :=by
  unfold World.freeze
  split
  · exact⟨rfl,fun _ _=>rfl⟩
  · exact⟨by simp,fun k hk=>by simp [Array.getElem?_modify,Ne.symm hk]⟩
theorem K8 (w:World) (p:Addr) (n:Nat) (a:Addr):(w.freeze p n).cell? a=w.cell? a:=by
  unfold World.freeze
  split
  · rfl
  · unfold World.cell?
    simp only [Array.getElem?_modify]
    by_cases h:p.block=a.block
    · simp only [h, if_true]
      cases hb:w.heap[a.block]? with
      |none=>rfl
      |some o=>cases o<;>simp
    · simp only [h,if_false]
theorem K9 (w:World) (p:Addr) (n b:Nat) (hb:w.heap[b]? =some (Obj.deferred (some []))∨∃r:Loop,w.heap[b]? =some (Obj.loop r)):(w.freeze p n).heap[b]? =w.heap[b]? :=by
  by_cases h:b=p.block
  · subst h
    unfold World.freeze
    split
    · rfl
    · rcases hb with hb|⟨_,hb⟩<;>simp [Array.getElem?_modify,hb]
  · exact(D9 w p n).2 b h
theorem La (w:World) (p:Addr) (n:Nat):(w.freeze p n).os=w.os∧(w.freeze p n).tape=w.tape∧(w.freeze p n).output=w.output:=by
  unfold World.freeze
  split<;>exact⟨rfl,rfl,rfl⟩
theorem Mem.mark (hm:Mem w0 β X st w) (p:Addr) (k:Nat) (hown:w0.own p.block) (hno:∀id cs N,st.get id=some cs→β id≠some (.bk p.block N)) (hrow:∃ty vs,w.heap[p.block]? =some (row ty vs)):Mem w0 β X st (w.freeze p k)∧dW X X w (w.freeze p k):=by
  have hx:dW X X w (w.freeze p k):=fun b o h=>⟨h,K8 w p k _⟩
  obtain⟨r1,r2,r3⟩:=La w p k
  obtain⟨s1,s2⟩:=D9 w p k
  refine⟨.of ⟨r1.trans hm.below.os,r2.trans hm.below.tape,r3.trans hm.below.output,by rw [s1];exact hm.below.size,fun j hj hM=>?_,fun s hs=>ew.rJ (hm.below.sus s hs) fun b hb=>K9 w p k b hb⟩ hm.b0 (fun b o h=>by rw [s1];exact hm.xlt b o h) hm.dom (fun id cs hg=>?_) hm.inj,hx⟩
  · have : j ≠ p.block := by
      rintro rfl
      rcases hown with h|h
      · omega
      · exact hM h
    rw [s2 j this]
    exact hm.below.block j hj hM
  · have h := hm.obj id cs hg
    unfold OB at*
    split
    · rename_i hb;rw [hb]at h;exact h
    · rename_i hb;rw [hb]at h;exact h
    · rename_i b N hb
      rw [hb]at h
      simp only at h
      obtain⟨q1,q2,us,rest,ty,q3,q4,q5,q6⟩:=h
      have:b≠p.block:=by rintro rfl;exact hno id cs N hg hb
      exact⟨q1,q2,us,rest,ty,by rw [s2 b this];exact q3,q4,gP hx _ _ _ _ (dE.refl β) q5,q6⟩
    · rename_i b hb
      rw [hb]at h
      obtain⟨q0,q1,q2,f,es,clk,q3,q4,q5⟩:=h
      have:b≠p.block:=fun e=>by obtain⟨ty,vs,hr⟩:=hrow;rw [e,hr]at q4;cases q4
      exact⟨q0,q1,q2,f,es,clk,q3,by rw [s2 b this];exact q4,q5⟩
theorem ji (t:Nat) {b:Bool} (hb:E.cF t=some (.b b)) (h1:b=true→At w0 X0 n ((t,.b true)::E) st K) (h0:b=false→At w0 X0 n ((t,.b false)::E) st K):At w0 X0 n E st K:=by
  cases b with
  |true=>exact lu t hb rfl (h1 rfl)
  |false=>exact lu t hb rfl (h0 rfl)
end
end Go.Abs
-- AbsN
namespace Go.Abs
open Go Go.Eng
def quiet:Obj→Bool
  | .deferred _=>true
  | .loop _=>true
  |_=>false
theorem Gk {w:World} {b o:Nat} {x:Obj} (h:w.heap[b]? =some x) (hq:quiet x=true):w.cell? ⟨b,o,none⟩=none:=by
  simp only [World.cell?,h]
  cases x<;>first|rfl|cases hq
structure Qt (B:Bw) (w w':World):Prop where
  os:w'.os=w.os
  tape:w'.tape=w.tape
  output:w'.output=w.output
  size:w.heap.size≤w'.heap.size
  blk:∀b,b<w.heap.size→w'.heap[b]? =w.heap[b]? ∨(B.own b∧(∃o,w.heap[b]? =some o∧quiet o=true)∧∃o,w'.heap[b]? =some o∧quiet o=true)
theorem Qt.refl {B:Bw} {w:World}:Qt B w w:=⟨rfl,rfl,rfl,Nat.le_refl _,fun _ _=> .inl rfl⟩
theorem Qt.cell {B:Bw} {w w':World} (h:Qt B w w') {b o:Nat} (hb:b<w.heap.size):w'.cell? ⟨b,o,none⟩=w.cell? ⟨b,o,none⟩:=by
  rcases h.blk b hb with h|⟨_,⟨x,h1,h2⟩,y,h3,h4⟩
  · simp only [World.cell?,h]
  · rw [Gk h1 h2,Gk h3 h4]
theorem Qt.row {B:Bw} {w w':World} (h:Qt B w w') {b:Nat} {ty:TypeId} {us:List Value} (hb:w.heap[b]? =some (row ty us)):w'.heap[b]? =some (row ty us):=by
  rcases h.blk b (Array.getElem?_eq_some_iff.1 hb).1 with h|⟨_,⟨x,h1,h2⟩,_⟩
  · rw [h];exact hb
  · rw [hb]at h1;simp only [Option.some.injEq]at h1;subst h1;cases h2
theorem Qt.map {B:Bw} {w w':World} (h:Qt B w w') {b:Nat} {es:Array MapEntry} {clk:Nat} (hb:w.heap[b]? =some (.map es clk)):w'.heap[b]? =some (.map es clk):=by
  rcases h.blk b (Array.getElem?_eq_some_iff.1 hb).1 with h|⟨_,⟨x,h1,h2⟩,_⟩
  · rw [h];exact hb
  · rw [hb]at h1;simp only [Option.some.injEq]at h1;subst h1;cases h2
theorem Qt.put {B:Bw} {w:World} {q:Nat} {o o':Obj} (ho:B.own q) (h:w.heap[q]? =some o) (hq:quiet o=true) (hq':quiet o'=true):Qt B w (w.putObj q o'):=
  ⟨rfl,rfl,rfl,by simp,fun b hb=>by
    by_cases e:b=q
    · subst e;exact .inr ⟨ho,⟨o,h,hq⟩,o',World.putObj_heap_same hb,hq'⟩
    · exact .inl (World.putObj_heap_other e)⟩
theorem Qt.oQ {B:Bw} {w w':World} (k:RowKit.Below w.heap.size w w'):Qt B w w':=⟨k.os,k.tape,k.output,k.size,fun b hb=> .inl (k.block b hb)⟩
theorem qj {w1 w2:Bw} (hw:w2.w=w1.w) (hM:w2.M=w1.M) (b:Nat):w2.own b↔w1.own b:=by unfold Bw.own;rw [hw,hM]
section
variable {P:Program} {w0 w1 w2:Bw} {X0 X:Xs} {n:Nat} {E:Ev} {st:St} {β:Bm} {a:Act} {w:World}
theorem dZ.jU (hr:dZ w1 X0 n E st β X a w) {a':Act} {n':Nat} {E':Ev} {w':World} (hw:w2.w=w1.w) (hM:w2.M=w1.M) (hq:Qt w1 w w') (hb:dE w2.β β) (hk:∀s∈w2.sus,s.kept w2.own w') (hs:∀s∈w2.sus,s.slots X w')
    (hsz:a'.tmps.size=n') (hd:a'.defers= []) (hsl:∀t v,E'.cF t=some v→∃u,a'.tmps[t]? =some u∧V X w β v u):dZ w2 X0 n' E' st β X a' w':=by
  have hx:dW X X w w':=fun b o h=>⟨h,hq.cell (hr.mem.xlt b o h)⟩
  have ho:=qj hw hM
  refine .of hr.x0 (fun b o h=>(hr.xn b o h).imp (fun h=>h) (ho b).2) (.of ⟨?_,?_,?_,?_,?_,hk⟩ hb (fun b o h=>Nat.lt_of_lt_of_le (hr.mem.xlt b o h) hq.size) hr.mem.dom (fun id cs hg=>?_) hr.mem.inj) (hr.gl.mono hx) hsz hd hs (fun t v ht=>?_)
  · rw [hq.os,hr.mem.below.os,hw]
  · rw [hq.tape,hr.mem.below.tape,hw]
  · rw [hq.output,hr.mem.below.output,hw]
  · rw [hw];exact Nat.le_trans hr.mem.below.size hq.size
  · intro k hk' hm
    rw [hw]at hk'
    rw [hM]at hm
    rw [hw, ←hr.mem.below.block k hk' hm]
    rcases hq.blk k (Nat.lt_of_lt_of_le hk' hr.mem.below.size)with h|⟨h|h,_⟩
    · exact h
    · omega
    · exact absurd h hm
  · have := hr.mem.obj id cs hg
    unfold OB at*
    split at this
    · exact this
    · exact this
    · obtain ⟨h1, h2, us, rest, ty, h3, h4, h5, h6⟩ := this
      exact⟨(ho _).2 h1,h2,us,rest,ty,hq.row h3,h4,gP hx _ _ β β (dE.refl β) h5,h6⟩
    · obtain ⟨h0, h1, h2, f, es, clk, h3, h4, h5⟩ := this
      exact⟨h0,(ho _).2 h1,h2,f,es,clk,h3,hq.map h4,h5⟩
  · obtain ⟨u, h1, h2⟩ := hsl t v ht
    exact⟨u,h1,gj hx _ _ β β (dE.refl β) h2⟩
end
mutual
def refs:A→List Nat
  | .p id _=> [id]
  | .sl id _ _ _=> [id]
  | .ag cs=>gL cs
  | .tu vs=>gL vs
  | .fn _ a c=>gL a++gL c
  | .ic _ v=>refs v
  |_=> []
def gL:List A→List Nat
  | []=> []
  |c::cs=>refs c++gL cs
end
def lR:Ev→List Nat
  | []=> []
  |(_,v)::r=>refs v++lR r
def kO (ids:List Nat) (β:Bm):Bm:=fun id=>cond (eE ids id) (β id) none
theorem Az {ids:List Nat} {β:Bm}:dE (kO ids β) β:=fun id y h=>by
  unfold kO at h
  cases hm:eE ids id with
  |true=>rw [hm]at h;exact h
  |false=>rw [hm]at h;cases h
theorem w9 {ids:List Nat} {β:Bm} {id:Nat} (h:eE ids id=true):kO ids β id=β id:=by unfold kO;rw [h];rfl
section
variable {X:Xs} {w:World} {β:Bm} {ids:List Nat}
mutual
theorem uZ:∀(a:A) (u:Value),(∀i∈refs a,eE ids i=true)→V X w β a u→V X w (kO ids β) a u
  | .b x,u,_,h=>by simp only [V]at*;exact h
  | .i k n,u,_,h=>by simp only [V]at*;exact h
  | .s l,u,_,h=>by simp only [V]at*;exact h
  | .nl,u,_,h=>by simp only [V]at*;exact h
  | .fz n cs,u,_,h=>by simp only [V]at*;exact h
  | .fp cs,u,_,h=>by simp only [V]at*;exact h
  | .p id off, u, hi, h => by
    simp only [V]at*
    rw [w9 (hi id (by simp [refs]))]
    exact h
  | .sl id s off n, u, hi, h => by
    simp only [V]at*
    rw [w9 (hi id (by simp [refs]))]
    exact h
  | .ag cs, u, hi, h => by
    simp only [V]at*
    obtain⟨us,h1,h2,h3⟩:=h
    exact⟨us,h1,sN cs us (fun i h=>hi i (by simpa [refs]using h)) h2,h3⟩
  | .tu vs, u, hi, h => by
    simp only [V]at*
    obtain⟨us,h1,h2⟩:=h
    exact⟨us,h1,sN vs us (fun i h=>hi i (by simpa [refs]using h)) h2⟩
  | .fn f a c, u, hi, h => by
    simp only [V]at*
    obtain⟨us,vs,h1,h2,h3⟩:=h
    exact⟨us,vs,h1,sN a us (fun i h=>hi i (by simp [refs,h])) h2,sN c vs (fun i h=>hi i (by simp [refs,h])) h3⟩
  | .ic t v, u, hi, h => by
    simp only [V]at*
    obtain⟨y,h1,h2⟩:=h
    exact⟨y,h1,uZ v y (fun i h=>hi i (by simpa [refs]using h)) h2⟩
  | .raw v,u,_,h=>by simp only [V]at*;exact h
theorem sN:∀(cs:List A) (us:List Value),(∀i∈gL cs,eE ids i=true)→VS X w β cs us→VS X w (kO ids β) cs us
  | [],us,_,h=>by simp only [VS]at*;exact h
  | c :: cs, us, hi, h => by
    simp only [VS]at*
    obtain⟨u,r,h1,h2,h3⟩:=h
    exact⟨u,r,h1,uZ c u (fun i h=>hi i (by simp [gL,h])) h2,sN cs r (fun i h=>hi i (by simp [gL,h])) h3⟩
end
theorem AM:∀ {E:Ev} {t:Nat} {v:A},E.cF t=some v→∀i∈refs v,i∈lR E
  | [],_,_,h,_,_=>by cases h
  | (k, u) :: r, t, v, h, i, hi => by
    simp only [Ev.cF]at h
    simp only [lR,List.mem_append]
    cases hb:Nat.beq k t with
    |true=>rw [hb]at h;simp only [cond_true,Option.some.injEq]at h;subst h;exact .inl hi
    |false=>rw [hb]at h;exact .inr (AM (E:=r) h i hi)
end
def lN (ids:List Nat) (E:Ev):Bool:=(lR E).all (eE ids)
theorem Ni {ids:List Nat} {β:Bm} {id:Nat} {x:BL} (h:kO ids β id=some x):id∈ids:=by
  unfold kO at h
  cases hm:eE ids id with
  |true=>exact wI hm
  |false=>rw [hm]at h;cases h
def tY (B:Bw) (β:Bm) (ids:List Nat) (ss:List ew):Bw:= {w:=B.w,M:=B.M,β:=kO ids β,ids:=ids,bi:=fun _ _ h=>Ni h,sus:=ss}
def Bw.re (B:Bw) (ss:List ew):Bw:= {w:=B.w,M:=B.M,β:=B.β,ids:=B.ids,bi:=B.bi,sus:=ss}
structure Sub (w0 w1:Bw) (ids:List Nat) (ss:List ew):Prop where
  w:w1.w=w0.w
  M:w1.M=w0.M
  ext:dE w0.β w1.β
  ids:w1.ids=ids
  sus:w1.sus=ss++w0.sus
theorem Sub.own {w0 w1:Bw} {ids:List Nat} {ss:List ew} (h:Sub w0 w1 ids ss) (b:Nat):w1.own b↔w0.own b:=qj h.w h.M b
theorem wJ {B:Bw} {β:Bm} {ids idsB:List Nat} {ss:List ew} (hI:B.ids=idsB) (hs:(idsB.all (eE ids))=true) (hb:dE B.β β):dE B.β (tY B β ids ss).β:=fun id y h=>by
  have hid:=B.bi id y h
  rw [hI]at hid
  show kO ids β id=some y
  rw [w9 (List.all_eq_true.1 hs id hid)]
  exact hb id y h
structure Rg (w0 w1:Bw) (ids:List Nat) (l D:Nat) (rc:Loop) (n:Nat) (Ek:Ev) (ps:List Tmp) (assign body:Code) (s:LoopState) (pe:Option Code):Prop where
  sub:Sub w0 w1 ids [.lp l {rc with state:=s,pending:=pe} Ek w1.β,.df D]
  ps:rc.params=ps.toArray
  assign:rc.assign=assign
  body:rc.body=body
  size:rc.tmps.size=n
  ne:l≠D
  old:∀r E β,ew.lp l r E β∉w0.sus
  oldD:ew.df D∉w0.sus
structure Rd (w0 w1 w2:Bw) (ids:List Nat) (l D:Nat) (rc:Loop) (Ek:Ev) (s:LoopState) (pe:Option Code) (tm:Array Value) (nI:Nat) (Eit:Ev):Prop where
  sub:Sub w0 w2 ids [.fr tm Eit w2.β,.lp l {rc with state:=s,pending:=pe} Ek w1.β,.df D]
  ext:dE w1.β w2.β
  size:tm.size=nI
  ne:l≠D
  old:∀r E β,ew.lp l r E β∉w0.sus
def sk (P:Program) (l:Nat) (f:FuncId) (R:Ending→World→Prop):Exit→Act→World→Prop
  | .panic ch,a,w=>a.defers= []∧(∃fn,P.funcs[f]? =some fn)∧R (.panicked ch) w
  |e,a,w=>roundPost P l R e a w
theorem OQ {F:Fence} {n:Nat} {P:Program} {l:Nat} {f:FuncId} {tmps:Array Value} {assign body:Code} {w:World} {R:Ending→World→Prop} (hF:F.fn f)
    (h:assign.wpIn (F.inRound l) n P (Exit.then (fun a₁ w₁=>∃w₂,(Instr.beginRound l).run P w₁= .ok () w₂∧body.wpIn (F.inRound l) n P (sk P l f R) a₁ w₂) (fun _ _ _=>False)) {tmps:=tmps,defers:= []} w):RoundIn F n P l f tmps assign body w R:=by
  refine⟨hF,fun c cs hr=>?_⟩
  let b:Frame:= {(default:Frame)with fn:=f,kind:= .normal,roundOf:=some l}
  have hb0:Frame.round l f tmps assign body .normal=b.atR {tmps:=tmps,defers:= []} [.code assign,.beginRound,.code body]:=by simp [Frame.round,Frame.atR,b]
  have hr':(F.inRound l).room ((c::cs).length+1+n):=hr
  have hF':(F.inRound l).fn b.fn:=hF
  obtain⟨e,a₁,w₁,hq,harr⟩:=h b [.beginRound,.code body] (c::cs) rfl hF' hr'
  rw [←hb0]at harr
  cases e with
  | normal =>
    obtain⟨w₂,hbr,hbody⟩:=hq
    have s1:StepsIn (Machine.fenced P (F.inRound l)) P (lone (b.atR a₁ [.beginRound,.code body]) (c::cs) w₁) (lone (b.atR a₁ [.code body]) (c::cs) w₂):=
      .one (fenced_calm (fr:=b.atR a₁ [.beginRound,.code body]) hF' hr' rfl) (stepR_beginRound rfl hbr)
    obtain⟨e₂,a₂,w₃,hq₂,harr₂⟩:=hbody b [] (c::cs) rfl hF' hr'
    cases e₂ with
    | normal =>
      obtain⟨v,w₄,hend,hR⟩:=hq₂
      exact⟨.returned v,w₄,hR,(StepsIn.trans harr s1).trans (StepsIn.trans harr₂ (.one (fenced_calm (fr:=b.atR a₂ []) hF' hr' rfl) (stepR_round_end rfl rfl hend)))⟩
    | ret =>
      obtain⟨v,w₄,hend,hR⟩:=hq₂
      obtain⟨k₁,hs⟩:=harr₂.2 rfl
      exact⟨.returned v,w₄,hR,(StepsIn.trans harr s1).trans (StepsIn.trans hs (.one (fenced_calm (fr:=b.atR a₂ (.code .ret::k₁)) hF' hr' rfl) (stepR_round_ret rfl rfl hend)))⟩
    | exit id =>
      obtain⟨v,w₄,hend,hR⟩:=hq₂
      obtain⟨k₁,hk,hs⟩:=harr₂.2 rfl rfl
      exact⟨.returned v,w₄,hR,(StepsIn.trans harr s1).trans (StepsIn.trans hs (.one (fenced_calm (fr:=b.atR a₂ (.code (.exit id)::k₁)) hF' hr' rfl) (stepR_round_exit rfl rfl hk hend)))⟩
    | goto t =>
      obtain⟨v,w₄,hend,hR⟩:=hq₂
      obtain⟨k₁,hk,hs⟩:=harr₂.2 rfl rfl
      exact⟨.returned v,w₄,hR,(StepsIn.trans harr s1).trans (StepsIn.trans hs (.one (fenced_calm (fr:=b.atR a₂ (.code (.goto t)::k₁)) hF' hr' rfl) (stepR_round_goto rfl rfl hk hend)))⟩
    | panic chain =>
      obtain⟨hd,hf,hR⟩:=hq₂
      obtain⟨todo,hs⟩:=harr₂
      have hlv:Frame.leaving P {b.atR a₂ todo with mode:= .panicking chain} w₃ (.panicked chain):=⟨rfl,hd,hf⟩
      exact⟨.panicked chain,w₃,hR,(StepsIn.trans harr s1).trans (StepsIn.trans hs (.one (fenced_leaving (F:=F.inRound l) (n:=n) (fr:= {b.atR a₂ todo with mode:= .panicking chain}) (cs:=c::cs) hF' hr' hlv) (step_leave_panicked hlv)))⟩
    |outgrown=>exact hq₂.elim
  |exit id=>exact hq.elim
  |goto t=>exact hq.elim
  |ret=>exact hq.elim
  |panic chain=>exact hq.elim
  |outgrown=>exact hq.elim
abbrev yv (l:Nat):A:= .raw (.func (.yield l) #[] #[])
def r8 (ds:List Deferred) (tm:Array Value) (d:Option Nat) (N:Act→World→Prop) (Q:Exit→Act→World→Prop):Ending→World→Prop
  | .returned v,w=>Pw ds N (Act.put ⟨tm, []⟩ d v) w
  | .panicked ch,w=>Q (.panic ch) (Act.wd ds ⟨tm, []⟩) w
  | .outgrown,_=>LetsOut Q
def uq (P:Program) (l:Nat) (f:FuncId) (body:Code) (R:Ending→World→Prop):Act→World→Prop:=fun a w=>∃w',(Instr.beginRound l).run P w= .ok () w'∧body.wpIn (rF (some l)) 0 P (sk P l f R) a w'
def FF:Exit→Act→World→Prop:=fun _ _ _=>False
def rY:List Tmp→List A→Ev→Ev
  |t::ts,v::vs,E=>rY ts vs ((t,v)::E)
  |_,_,E=>E
section
variable {P:Program} {w0 w1 w2:Bw} {X0:Xs} {n n':Nat} {E:Ev} {st:St} {Q:Exit→Act→World→Prop} {r:Option Nat} {ds:List Deferred}
theorem HP {a:Act} {D:Nat} (h:a.defers= []):({a.wd ds with defers:= [{target:= .collected D,args:= #[]}]++(a.wd ds).defers}:Act)=Act.wd (gz D::ds) ⟨a.tmps, []⟩:=by
  unfold Act.wd
  simp [h]
theorem AW {f:FuncId} {fn:Func} {c:Code} {args:Array Value} {w:World} (hf:P.funcs[f]? =some fn) (hb:fn.body=some c) (hname:(fn.name== "runtime.NumGoroutine")=false):(callFunc f args).run P w= .ok (.enter f args) w:=by
  unfold callFunc
  rw [Sem.run_bind,run_program]
  simp only [Result.andThen_ok,hf,hname,hb,Bool.false_eq_true,if_false]
  simp
theorem wo {B B':Bw} {w w':World} {s:ew} (h:s.kept B.own w) (hw:∀b,B.own b→B'.own b) (hq:∀(b:Nat) (o:Obj),w.heap[b]? =some o→quiet o=true→w'.heap[b]? =w.heap[b]?):s.kept B'.own w':=by
  cases s with
  |df D=>exact⟨hw _ h.1,(hq _ _ h.2 rfl).trans h.2⟩
  |lp l r E β=>exact⟨hw _ h.1,(hq _ _ h.2 rfl).trans h.2⟩
  |fr _ _ _=>trivial
theorem Gl {g:Operand} {f:FuncId} {fn:Func} {cs:List A} {idsB:List Nat} {β:Bm} {X:Xs} {a:Act} {w:World} (fnid:FuncId) (ids:List Nat) (Ek:Ev) (ps:List Tmp) (assign body:Code) (hI:w0.ids=idsB) (hs:(idsB.all (eE ids))=true) (hE:le E Ek) (hids:lN ids Ek=true)
    (hg:ev E g=some (.fn (.func f) [] cs)) (ha:cs.length+1≤n') (hn:fn.ntmps=n') (hr:dZ w0 X0 n E st β X a w):
    ∃ (vs : List Value) (rc : Loop) (W1 : World), (Instr.enterLoop fnid a.tmps ps.toArray assign body none).run P w = .ok (w.heap.size + 1, [{ target := .collected w.heap.size, args := #[] }]) W1 ∧ a.eval g = .func (.func f) #[] vs.toArray ∧ rc.tmps = a.tmps ∧ rc.fn = fnid ∧
      ∃w1,Rg w0 w1 ids (w.heap.size+1) w.heap.size rc n Ek ps assign body .ready none∧Rel w1 X0 n' (jA (yv (w.heap.size+1)::cs) 0) st ⟨(#[.func (.yield (w.heap.size+1)) #[] #[]]++vs.toArray)++Array.replicate (fn.ntmps - (#[Value.func (.yield (w.heap.size+1)) #[] #[]]++vs.toArray).size) undef, []⟩ W1:=by
  have hgv:=hr.ry hg
  simp only [V]at hgv
  obtain⟨us,vs,e1,e2,e3⟩:=hgv
  simp only [VS]at e2
  subst e2
  obtain⟨rc,hrc⟩:∃rc:Loop,rc= {state:= .ready,pending:=none,fn:=fnid,tmps:=a.tmps,params:=ps.toArray,assign:=assign,body:=body,defers:=w.heap.size}:=⟨_,rfl⟩
  obtain⟨W1,hW1⟩:∃W1,(w.alloc (.deferred (some []))).alloc (.loop rc)=W1:=⟨_,rfl⟩
  have hL1:W1.heap[w.heap.size+1]? =some (.loop rc):=by
    rw [←hW1];have:=World.alloc_heap_new (w.alloc (.deferred (some []))) (.loop rc);rwa [World.size_alloc]at this
  have hD1:W1.heap[w.heap.size]? =some (.deferred (some [])):=by
    rw [←hW1];exact(RowKit.Below.heap_alloc _ _ _ aA).trans (World.alloc_heap_new w _)
  have hB1:RowKit.Below w.heap.size w W1:=by
    rw [←hW1];exact((RowKit.Below.refl _ w).alloc (Nat.le_refl _) _).alloc aA _
  have hq:Qt w0 w W1:= .oQ hB1
  have hx:dW X X w W1:=fun b o h=>⟨h,hq.cell (hr.mem.xlt b o h)⟩
  have ho:∀b,w.heap.size≤b→w0.own b:=fun b hb=>Bw.mr hr.mem.below hb
  have hrg:Rg w0 (tY w0 β ids (.lp (w.heap.size+1) rc Ek (kO ids β):: .df w.heap.size::w0.sus)) ids (w.heap.size+1) w.heap.size rc n Ek ps assign body .ready none:=
    ⟨⟨rfl,rfl,wJ hI hs hr.mem.b0,rfl,by rw [hrc];rfl⟩,by rw [hrc],by rw [hrc],by rw [hrc],by rw [hrc];exact hr.size,by omega,fun r E β h=>by have:=(Array.getElem?_eq_some_iff.1 (hr.mem.below.sus _ h).2).1;omega,fun h=>by have:=(Array.getElem?_eq_some_iff.1 (hr.mem.below.sus _ h).2).1;omega⟩
  have hrt:rc.tmps=a.tmps:=by rw [hrc]
  refine⟨vs,rc,W1,by rw [←hW1,hrc];exact run_enterLoop_outer _ _ _ _ _,e1,hrt,by rw [hrc],_,hrg,β,X,hr.jU rfl rfl hq Az (fun s hs'=>?_) (fun s hs'=>?_) ?_ rfl (fun t v ht=>?_)⟩
  · rcases List.mem_cons.1 hs' with rfl | hs'
    · exact⟨ho _ aq,hL1⟩
    · rcases List.mem_cons.1 hs' with rfl | hs'
      · exact⟨ho _ (Nat.le_refl _),hD1⟩
      · exact wo (hr.mem.below.sus s hs') (fun b hb=>hb) fun b o hb _=>hB1.block b (Array.getElem?_eq_some_iff.1 hb).1
  · rcases List.mem_cons.1 hs' with rfl | hs'
    · intro t v ht
      obtain⟨u,h1,h2⟩:=hr.slot t v (Aj hE t v ht)
      refine⟨u,by rw [hrt];exact h1,gj hx _ _ _ _ (dE.refl _) (uZ v u (fun i hi=>?_) h2)⟩
      exact List.all_eq_true.1 hids i (AM ht i hi)
    · rcases List.mem_cons.1 hs' with rfl | hs'
      · trivial
      · exact ew.lT hx (hr.sslot s hs')
  · have := fb e3
    simp [hn];omega
  · obtain ⟨_, h2⟩ := nC _ _ _ _ ht
    simp only [Nat.sub_zero]at h2
    have hall:VS X w β (yv (w.heap.size+1)::cs) (.func (.yield (w.heap.size+1)) #[] #[]::vs):=eV aW e3
    obtain⟨u,g1,g2⟩:=iO hall h2
    have hlt:=(List.getElem?_eq_some_iff.1 g1).1
    refine⟨u,?_,g2⟩
    rw [Array.getElem?_append,if_pos (by simp at hlt ⊢;omega)]
    rw [show(#[Value.func (.yield (w.heap.size+1)) #[] #[]]++vs.toArray)=(Value.func (.yield (w.heap.size+1)) #[] #[]::vs).toArray by simp]
    simpa using g1
theorem yP {g:Operand} {ps:List Tmp} {assign body c:Code} {f:FuncId} {fn:Func} {cs:List A} {idsB:List Nat} (ids:List Nat) (Ek:Ev) (hI:w0.ids=idsB) (hs:(idsB.all (eE ids))=true) (hE:le E Ek) (hids:lN ids Ek=true)
    (hg:ev E g=some (.fn (.func f) [] cs)) (hf:P.funcs[f]? =some fn) (hb:fn.body=some c) (hn:fn.ntmps=n') (hname:(fn.name== "runtime.NumGoroutine")=false) (ha:cs.length+1≤n')
    (h:∀w1 l D rc,Rg w0 w1 ids l D rc n Ek ps assign body .ready none→At w1 X0 n' (jA (yv l::cs) 0) st (Pw [] (c.wpIn (rF none) 0 P (bodyPostM (rF none) 0 P fn (rangePost (rF none) 0 P l Q (Act.wd (gz D::ds) ⟨rc.tmps, []⟩)))))):
    At w0 X0 n E st (Pw ds ((Code.rangeFunc g ps.toArray assign body).wpIn (rF none) 0 P Q)):=by
  rintro a w ⟨β,X,hr⟩
  show(Code.rangeFunc g ps.toArray assign body).wpIn (rF none) 0 P Q (a.wd ds) w
  refine wpIn_rangeFunc fun fnid _=>?_
  obtain⟨vs,rc,W1,g2,g3,hrt,_,w1,hrg,hrel⟩:=Gl (P:=P) (fn:=fn) (n':=n') fnid ids Ek ps assign body hI hs hE hids hg ha hn hr
  refine⟨w.heap.size+1, [{target:= .collected w.heap.size,args:= #[]}],W1, {target:= .fn (.func f) vs.toArray,args:= #[.func (.yield (w.heap.size+1)) #[] #[]]},W1,f,
    #[.func (.yield (w.heap.size+1)) #[] #[]]++vs.toArray,W1,g2,?_,fun _ _=>trivial,?_,(fun h=>by cases h),?_⟩
  · simp only [resolve, vP, g3]
    simp [go_sem]
  · simp [invoke,go_sem,AW hf hb hname]
  · rw [HP hr.defers, ← hrt]
    exact callsIn_of_wp_marks hf hb trivial (mA (h _ _ _ rc hrg _ W1 hrel))
theorem H9:∀ {ps:List Tmp} {vs:List A} {us:List Value} {tm:Array Value} {E:Ev} {X:Xs} {w:World} {β:Bm} {n:Nat},tm.size=n→(ps.all fun t=>Nat.ble (t+1) n)=true→VS X w β vs us→(∀t v,E.cF t=some v→∃u,tm[t]? =some u∧V X w β v u)→
    ((ps.zip us).foldl (fun(tm:Array Value) (p:Tmp×Value)=>tm.setIfInBounds p.1 p.2) tm).size=n∧∀t v,(rY ps vs E).cF t=some v→∃u,((ps.zip us).foldl (fun(tm:Array Value) (p:Tmp×Value)=>tm.setIfInBounds p.1 p.2) tm)[t]? =some u∧V X w β v u
  | [],vs,us,tm,E,X,w,β,n,hn,_,_,h=>⟨by simpa using hn,by simpa [rY]using h⟩
  | t :: ps, [], us, tm, E, X, w, β, n, hn, _, hv, h => by
    simp only [VS]at hv
    subst hv
    exact⟨by simpa using hn,by simpa [rY]using h⟩
  | t :: ps, v :: vs, us, tm, E, X, w, β, n, hn, hp, hv, h => by
    simp only [VS]at hv
    obtain⟨u,us,rfl,h1,h2⟩:=hv
    simp only [List.all_cons,Bool.and_eq_true]at hp
    have ht:t<tm.size:=by rw [hn];exact Nat.le_of_ble_eq_true hp.1
    simp only [List.zip_cons_cons,List.foldl_cons,rY]
    refine H9 (by simpa using hn) hp.2 h2 fun k x hk=>?_
    simp only [Ev.cF]at hk
    cases hb:Nat.beq t k with
    | true =>
      rw [hb]at hk
      simp only [cond_true,Option.some.injEq]at hk
      subst hk
      rw [←Nat.eq_of_beq_eq_true hb]
      exact⟨u,by simp [ht],h1⟩
    | false =>
      rw [hb]at hk
      obtain⟨u',g1,g2⟩:=h k x hk
      exact⟨u',by rw [Array.getElem?_setIfInBounds_ne (Nat.ne_of_beq_eq_false hb)];exact g1,g2⟩
theorem vj {ops:Array Oper} {rest:List Oper} {d:Nat} {x:Operand} {xs:List Operand} {ats:Array TypeId} {ty:TypeId} {pos:String} {b6:Array Edge} {l D nO:Nat} {rc:Loop} {Ek Er:Ev} {ps:List Tmp} {assign body:Code} {vs:List A} {ids idsB:List Nat} (ids2:List Nat) (Eit:Ev)
    (hR:Rg w0 w1 ids l D rc nO Ek ps assign body .ready none) (hI:w1.ids=idsB) (hs:(idsB.all (eE ids2))=true) (hE:le E Eit) (hids:lN ids2 Eit=true) (hx:ev E x=some (yv l)) (hxs:fx E xs=some vs) (hl:vs.length=ps.length) (hp:(ps.all fun t=>Nat.ble (t+1) nO)=true) (hEr:rY ps vs Ek=Er)
    (h:∀w2 tm,Rd w0 w1 w2 ids2 l D rc Ek .ready none tm n Eit→At w2 X0 nO Er st (Pw [] (assign.wpIn (rF (some l)) 0 P (Exit.then (uq P l rc.fn body (r8 ds tm (some d) (wpListIn (rF r) 0 P ops Q rest) Q)) FF)))):
    At w1 X0 n E st (Pw ds (wpListIn (rF r) 0 P ops Q (⟨some d,.call {callee:= .value x,args:=xs.toArray,argTypes:=ats},ty,pos,b6,none⟩::rest))):=by
  rintro⟨tm,dfs⟩ w ⟨β,X,hr⟩
  obtain rfl:dfs= []:=hr.defers
  obtain⟨a,ha⟩:∃a:Act,a=⟨tm, []⟩:=⟨_,rfl⟩
  rw [←ha]at hr ⊢
  subst hEr
  show wpListIn (rF r) 0 P ops Q (_::rest) (a.wd ds) w
  unfold wpListIn
  rw [if_pos a8]
  have e1:=hr.ry hx
  simp only [V]at e1
  obtain⟨us,e3,e4⟩:=hr.gA hxs
  have hm:=Eng.fa.gA (gq a hr.defers) e3
  have hmem:(.lp l {rc with state:= .ready,pending:=none} Ek w1.β:ew)∈w1.sus:=by rw [hR.sub.sus];exact .head _
  have hk:=hr.mem.below.sus _ hmem
  have hus:us.length=vs.length:=fb e4
  have hy:=run_yield (P:=P) (args:=us.toArray) hk.2 (by simp [hR.ps,hus,hl])
  have hrun:(execOp a.eval ⟨some d,.call {callee:= .value x,args:=xs.toArray,argTypes:=ats},ty,pos,b6,none⟩).run P w= .ok (.round l rc.fn ((rc.params.zip us.toArray).foldl (fun tmps (t,a)=>tmps.setIfInBounds t a) rc.tmps) rc.assign rc.body) w:=by
    have he:xs.toArray.map a.eval=us.toArray:=by rw [List.map_toArray,hm]
    have:execOp a.eval ⟨some d,.call {callee:= .value x,args:=xs.toArray,argTypes:=ats},ty,pos,b6,none⟩=Instr.yield l us.toArray:=by
      show(do let d ←Deferred.ofValue (a.eval x) (xs.toArray.map a.eval);invoke d.target d.args:Sem Next)=_
      rw [e1,he]
      simp [Deferred.ofValue,invoke]
    rw [this,hy]
  unfold Oper.wpIn
  refine⟨fun _ _=>trivial,?_⟩
  rw [Oper.semAt_eq _ _ _ (fun c h=>by cases h),vQ,hrun,Oper.uponIn_round]
  refine⟨fun h=>(by cases h),?_⟩
  rw [hR.assign,hR.body]
  have hlp:=hr.sslot _ hmem
  have hRd:Rd w0 w1 (tY w1 β ids2 (.fr tm Eit (kO ids2 β)::w1.sus)) ids2 l D rc Ek .ready none tm n Eit:=
    ⟨⟨hR.sub.w,hR.sub.M,fun id y h=>wJ hI hs hr.mem.b0 id y (hR.sub.ext id y h),rfl,by show _::w1.sus=_;rw [hR.sub.sus];rfl⟩,wJ hI hs hr.mem.b0,by have:=hr.size;rw [ha]at this;exact this,hR.ne,hR.old⟩
  have hgo:=h _ _ hRd
  have hz:=H9 (X:=X) (w:=w) (β:=β) (E:=Ek) (n:=nO) (tm:=rc.tmps) hR.size hp e4 (fun t v ht=>by
    obtain⟨u,g1,g2⟩:=hlp t v ht
    exact⟨u,g1,gj (fun b o h=>⟨h,rfl⟩) _ _ _ _ hr.mem.b0 g2⟩)
  have hfold:((rc.params.zip us.toArray).foldl (fun tmps (t,a)=>tmps.setIfInBounds t a) rc.tmps)=((ps.zip us).foldl (fun(tm:Array Value) (p:Tmp×Value)=>tm.setIfInBounds p.1 p.2) rc.tmps):=by
    rw [hR.ps];simp
  rw [hfold]
  have hgo':assign.wpIn ((rF r).inRound l) (0 - 1) P (Exit.then (uq P l rc.fn body (r8 ds tm (some d) (wpListIn (rF r) 0 P ops Q rest) Q)) FF) ⟨(ps.zip us).foldl (fun(tm:Array Value) (p:Tmp×Value)=>tm.setIfInBounds p.1 p.2) rc.tmps, []⟩ w:=mA (hgo _ w ⟨β,X,hr.jU (w2:=tY w1 β ids2 (.fr tm Eit (kO ids2 β)::w1.sus)) rfl rfl .refl Az (fun s hs'=>?_) (fun s hs'=>?_) hz.1 rfl hz.2⟩)
  · obtain ⟨k1, k2⟩ := OQ (F := rF r) (n := 0 - 1) (f := rc.fn) trivial hgo'
    refine⟨k1,fun c cs hr=>?_⟩
    obtain⟨e,w',h1,h2⟩:=k2 c cs hr
    refine⟨e,w',?_,h2⟩
    subst ha
    cases e with
    |returned v=>show wpListIn (rF r) 0 P ops Q rest ((Act.wd ds ⟨tm, []⟩).put (some d) v) w';rw [lQ];exact h1
    |panicked ch=>exact h1
    |outgrown=>exact h1
  · rcases List.mem_cons.1 hs' with rfl | hs'
    · trivial
    · exact hr.mem.below.sus s hs'
  · rcases List.mem_cons.1 hs' with rfl | hs'
    · intro t v ht
      obtain⟨u,h1,h2⟩:=hr.slot t v (Aj hE t v ht)
      refine⟨u,by rw [ha]at h1;exact h1,uZ v u (fun i hi=>?_) h2⟩
      exact List.all_eq_true.1 hids i (AM ht i hi)
    · exact hr.sslot s hs'
theorem Ag {B B':Bw} {l:Nat} {x y:Loop} {w:World} (hl:w.heap[l]? =some (.loop x)) (hw:∀b,B.own b→B'.own b) {s:ew} (hs:∀r E β,s≠ .lp l r E β) (h:s.kept B.own w):s.kept B'.own (w.putObj l (.loop y)):=by
  cases s with
  | df D =>
    refine⟨hw _ h.1,(World.putObj_heap_other (fun e=>?_)).trans h.2⟩
    have:=h.2
    rw [e,hl]at this
    cases this
  | lp l' r E β =>
    refine⟨hw _ h.1,(World.putObj_heap_other (fun e=>?_)).trans h.2⟩
    subst e
    exact hs r E β rfl
  |fr _ _ _=>trivial
theorem Hp {β:Bm} {X:Xs} {w:World} {l:Nat} {r r':Loop} {E:Ev} (h:(ew.lp l r E β).slots X w) (ht:r'.tmps=r.tmps):(ew.lp l r' E β).slots X w:=fun t v hv=>by rw [ht];exact h t v hv
theorem vg {l D n1 : Nat} {rc : Loop} {Ek Eit : Ev} {body : Code} {ids : List Nat} {tm : Array Value} {R : Ending → World → Prop} {Z : Exit → Act → World → Prop} (hd : Rd w0 w1 w2 ids l D rc Ek .ready none tm n1 Eit)
    (h:∀w3,Rd w0 w1 w3 ids l D rc Ek .busy none tm n1 Eit→At w3 X0 n E st (Pw [] (body.wpIn (rF (some l)) 0 P (sk P l rc.fn R)))):At w2 X0 n E st (Pw [] (Exit.then (uq P l rc.fn body R) Z .normal)):=by
  rintro a w ⟨β,X,hr⟩
  show uq P l rc.fn body R (a.wd []) w
  rw [og]
  have hmem:(.lp l {rc with state:= .ready,pending:=none} Ek w1.β:ew)∈w2.sus:=by rw [hd.sub.sus];exact .tail _ (.head _)
  have hk:=hr.mem.below.sus _ hmem
  have hl:=hk.2
  refine⟨_,run_beginRound hl rfl,?_⟩
  have hss:w2.sus= .fr tm Eit w2.β:: .lp l {rc with state:= .ready,pending:=none} Ek w1.β:: .df D::w0.sus:=hd.sub.sus
  have hlt:=(Array.getElem?_eq_some_iff.1 hl).1
  have hx:dW X X w (w.putObj l (.loop {rc with state:= .busy,pending:=none})):=fun b o h=>⟨h,(Qt.put (B:=w2) hk.1 hl rfl rfl).cell (hr.mem.xlt b o h)⟩
  refine mA (h (w2.re (.fr tm Eit w2.β:: .lp l {rc with state:= .busy,pending:=none} Ek w1.β:: .df D::w0.sus)) ⟨⟨hd.sub.w,hd.sub.M,hd.sub.ext,hd.sub.ids,rfl⟩,hd.ext,hd.size,hd.ne,hd.old⟩ a _ ⟨β,X,hr.jU rfl rfl (Qt.put hk.1 hl rfl rfl) hr.mem.b0 (fun s hs=>?_) (fun s hs=>?_) hr.size hr.defers hr.slot⟩)
  · rcases List.mem_cons.1 hs with rfl | hs
    · trivial
    · rcases List.mem_cons.1 hs with rfl | hs
      · exact⟨hk.1,World.putObj_heap_same hlt⟩
      · refine Ag hl (fun b h => h) (fun r E β e => ?_) (hr.mem.below.sus s (by rw [hss]; exact .tail _ (.tail _ hs)))
        subst e
        rcases List.mem_cons.1 hs with e|hs
        · cases e
        · exact hd.old _ _ _ hs
  · have hold : ∀ s ∈ w2.sus, s.slots X (w.putObj l (.loop { rc with state := .busy, pending := none })) := fun s hs => ew.lT hx (hr.sslot s hs)
    rw [hss]at hold
    rcases List.mem_cons.1 hs with rfl|hs
    · exact hold _ (.head _)
    · rcases List.mem_cons.1 hs with rfl | hs
      · exact Hp (hold _ (.tail _ (.head _))) rfl
      · exact hold _ (.tail _ (.tail _ hs))
theorem Gw {wj:Bw} {l D n1 nO:Nat} {rc:Loop} {Ek Eit:Ev} {ps:List Tmp} {assign body:Code} {ids idsR:List Nat} {tm:Array Value} {d:Nat} {N:Act→World→Prop} (jump:Option Code) (hβ:wj.β=w1.β) (hR:Rg w0 wj idsR l D rc nO Ek ps assign body (if jump.isNone then .ready else .done) jump) (hd:Rd w0 w1 w2 ids l D rc Ek .busy none tm n1 Eit) (hdn:Nat.ble (d+1) n1=true)
    (h:At wj X0 n1 ((d,.b jump.isNone)::Eit) st (Pw ds N)) {a:Act} {w:World} (hrel:Rel w2 X0 n E st a w):∃v w',(Instr.endRound l jump).run P w= .ok v w'∧r8 ds tm (some d) N Q (.returned v) w':=by
  obtain⟨β,X,hr⟩:=hrel
  have hmem:(.lp l {rc with state:= .busy,pending:=none} Ek w1.β:ew)∈w2.sus:=by rw [hd.sub.sus];exact .tail _ (.head _)
  have hk:=hr.mem.below.sus _ hmem
  have hl:=hk.2
  have hss:w2.sus= .fr tm Eit w2.β:: .lp l {rc with state:= .busy,pending:=none} Ek w1.β:: .df D::w0.sus:=hd.sub.sus
  have hs1:wj.sus= .lp l {rc with state:=(if jump.isNone then .ready else .done),pending:=jump} Ek wj.β:: .df D::w0.sus:=hR.sub.sus
  have hlt:=(Array.getElem?_eq_some_iff.1 hl).1
  have hw:w2.w=wj.w:=hd.sub.w.trans hR.sub.w.symm
  have hM:w2.M=wj.M:=hd.sub.M.trans hR.sub.M.symm
  have hb1:dE wj.β β:=fun id y h=>hr.mem.b0 id y (hd.ext id y (hβ ▸ h))
  refine⟨_,_,run_endRound jump hl,?_⟩
  obtain⟨o',ho'⟩:∃o':Loop,o'= {rc with state:=(if jump.isNone then .ready else .done),pending:=jump}:=⟨_,rfl⟩
  have ho2:({ {rc with state:= .busy,pending:=none}with state:=(if jump.isNone then .ready else .done),pending:=jump}:Loop)=o':=by rw [ho']
  rw [←ho']at hs1
  rw [ho2]
  have hx:dW X X w (w.putObj l (.loop o')):=fun b o h=>⟨h,(Qt.put (B:=w2) hk.1 hl rfl rfl).cell (hr.mem.xlt b o h)⟩
  have hfr:=hr.sslot (.fr tm Eit w2.β) (by rw [hss];exact .head _)
  refine h (Act.put ⟨tm, []⟩ (some d) (.bool jump.isNone)) _ ⟨β,X,hr.jU hw.symm hM.symm (Qt.put hk.1 hl rfl rfl) hb1 (fun s hs=>?_) (fun s hs=>?_) (by simpa [Act.put]using hd.size) rfl (fun t v ht=>?_)⟩
  · rw [hs1] at hs
    rcases List.mem_cons.1 hs with rfl|hs
    · exact⟨(qj hw hM l).1 hk.1,World.putObj_heap_same hlt⟩
    · refine Ag (B := w2) hl (fun b h => (qj hw hM b).1 h) (fun r E β e => ?_) (hr.mem.below.sus s (by rw [hss]; exact .tail _ (.tail _ hs)))
      subst e
      rcases List.mem_cons.1 hs with e|hs
      · cases e
      · exact hd.old _ _ _ hs
  · rw [hs1] at hs
    have hold:∀s∈w2.sus,s.slots X (w.putObj l (.loop o')):=fun s hs=>ew.lT hx (hr.sslot s hs)
    rw [hss]at hold
    rcases List.mem_cons.1 hs with rfl|hs
    · rw [hβ];exact Hp (hold _ (.tail _ (.head _))) (by rw [ho'])
    · exact hold _ (.tail _ (.tail _ hs))
  · simp only [Ev.cF] at ht
    cases hb:Nat.beq d t with
    | true =>
      rw [hb]at ht
      simp only [cond_true,Option.some.injEq]at ht
      subst ht
      rw [←Nat.eq_of_beq_eq_true hb]
      exact⟨.bool jump.isNone,by simp [Act.put,show d<tm.size by rw [hd.size];exact Nat.le_of_ble_eq_true hdn],by simp [V]⟩
    | false =>
      rw [hb]at ht
      obtain⟨u,g1,g2⟩:=hfr t v ht
      exact⟨u,by simp only [Act.put];rw [Array.getElem?_setIfInBounds_ne (Nat.ne_of_beq_eq_false hb)];exact g1,gj (fun b o h=>⟨h,rfl⟩) _ _ _ _ hr.mem.b0 g2⟩
section rend
variable {l D n1 nO:Nat} {rc:Loop} {Ek Eit:Ev} {ps:List Tmp} {assign body:Code} {ids idsR:List Nat} {tm:Array Value} {d:Nat} {N:Act→World→Prop}
theorem vi (hR:Rg w0 w1 idsR l D rc nO Ek ps assign body .ready none) (hd:Rd w0 w1 w2 ids l D rc Ek .busy none tm n1 Eit) (hdn:Nat.ble (d+1) n1=true)
    (h:At w1 X0 n1 ((d,.b true)::Eit) st (Pw ds N)):At w2 X0 n E st (Pw [] (sk P l rc.fn (r8 ds tm (some d) N Q) .normal)):=fun _ _ hr=>Gw none rfl hR hd hdn h hr
theorem Rg.stop (s:LoopState) (pe:Option Code) (hR:Rg w0 w1 idsR l D rc nO Ek ps assign body .ready none):∃wj,wj.β=w1.β∧Rg w0 wj idsR l D rc nO Ek ps assign body s pe:=
  ⟨w1.re (.lp l {rc with state:=s,pending:=pe} Ek w1.β:: .df D::w0.sus),rfl,⟨hR.sub.w,hR.sub.M,hR.sub.ext,hR.sub.ids,rfl⟩,hR.ps,hR.assign,hR.body,hR.size,hR.ne,hR.old,hR.oldD⟩
theorem I1 (hR:Rg w0 w1 idsR l D rc nO Ek ps assign body .ready none) (hd:Rd w0 w1 w2 ids l D rc Ek .busy none tm n1 Eit) (hdn:Nat.ble (d+1) n1=true)
    (h:∀wj,Rg w0 wj idsR l D rc nO Ek ps assign body .done (some .ret)→At wj X0 n1 ((d,.b false)::Eit) st (Pw ds N)):At w2 X0 n E st (Pw [] (sk P l rc.fn (r8 ds tm (some d) N Q) .ret)):=fun _ _ hr=>by
  obtain⟨wj,hb,hS⟩:=hR.stop .done (some .ret)
  exact Gw (some .ret) hb hS hd hdn (h _ hS) hr
end rend
theorem EG {l D nO:Nat} {rc:Loop} {Ek:Ev} {ps:List Tmp} {assign body:Code} {idsR:List Nat} {s:LoopState} {pe:Option Code} {fn:Func} {ss:List ew} (hres:fn.results= #[]) (hs:s≠ .busy) (hR:Rg w0 w1 idsR l D rc nO Ek ps assign body s pe) (hs0:w0.sus=ss)
    (h:At (w0.re (.df D::ss)) X0 nO Ek st (Pw (gz D::ds) (match pe with|none=>Q .normal|some c=>c.wpIn (rF r) 0 P Q))) {a:Act} {w:World} (hrel:Rel w1 X0 n E st a w):LeavesInM (rF none) 0 P fn a.tmps (rangePost (rF r) 0 P l Q (Act.wd (gz D::ds) ⟨rc.tmps, []⟩)) [] .returning w:=by
  obtain⟨β,X,hr⟩:=hrel
  subst hs0
  have hss:w1.sus= .lp l {rc with state:=s,pending:=pe} Ek w1.β:: .df D::w0.sus:=hR.sub.sus
  have hmem:(.lp l {rc with state:=s,pending:=pe} Ek w1.β:ew)∈w1.sus:=by rw [hss];exact .head _
  have hk:=hr.mem.below.sus _ hmem
  have hl:=hk.2
  have hlp:=hr.sslot _ hmem
  have hx:dW X X w (w.putObj l (.loop {rc with state:= .exhausted,pending:=pe})):=fun b o h=>⟨h,(Qt.put (B:=w1) hk.1 hl rfl rfl).cell (hr.mem.xlt b o h)⟩
  have hrun:(results fn a.tmps).run P w= .ok (.tuple #[]) w:=oa (rs:= []) (us:= []) (by rw [hres]) aA
  have hrel0:Rel (w0.re (.df D::w0.sus)) X0 nO Ek st ⟨rc.tmps, []⟩ (w.putObj l (.loop {rc with state:= .exhausted,pending:=pe})):=by
    refine⟨β,X,hr.jU hR.sub.w.symm hR.sub.M.symm (Qt.put hk.1 hl rfl rfl) (fun id y h=>hr.mem.b0 id y (hR.sub.ext id y h)) (fun s' hs'=>?_) (fun s' hs'=>?_) hR.size rfl (fun t v ht=>?_)⟩
    · refine Ag (B := w1) hl (fun b h => (qj hR.sub.w hR.sub.M b).1 h) (fun r E β e => ?_) (hr.mem.below.sus s' (by rw [hss]; exact .tail _ hs'))
      subst e
      rcases List.mem_cons.1 hs' with e|hs'
      · cases e
      · exact hR.old _ _ _ hs'
    · exact ew.lT hx (hr.sslot s' (by rw [hss];exact .tail _ hs'))
    · obtain ⟨u, g1, g2⟩ := hlp t v ht
      exact⟨u,g1,gj (fun b o h=>⟨h,rfl⟩) _ _ _ _ hr.mem.b0 g2⟩
  refine⟨_,hrun,pe,_,run_endLoop hl hs,?_⟩
  have:=h _ _ hrel0
  cases pe with
  |none=>exact this
  |some c=>exact this
section itret
variable {l D nO:Nat} {rc:Loop} {Ek:Ev} {ps:List Tmp} {assign body:Code} {idsR:List Nat} {s:LoopState} {fn:Func} {ss:List ew}
theorem IV (hres:fn.results= #[]) (hR:Rg w0 w1 idsR l D rc nO Ek ps assign body .ready none) (hs0:w0.sus=ss) (h:At (w0.re (.df D::ss)) X0 nO Ek st (Pw (gz D::ds) (Q .normal))):
    At w1 X0 n E st (Pw [] (bodyPostM (rF none) 0 P fn (rangePost (rF r) 0 P l Q (Act.wd (gz D::ds) ⟨rc.tmps, []⟩)) .ret)):=fun a w hr=>by
  have hd:a.defers= []:=by obtain⟨_,_,hr⟩:=hr;exact hr.defers
  show LeavesInM (rF none) 0 P fn (a.wd []).tmps _ (a.wd []).defers .returning w
  rw [og,hd]
  exact EG hres aA hR hs0 h hr
theorem yN (hres:fn.results= #[]) (hR:Rg w0 w1 idsR l D rc nO Ek ps assign body .ready none) (hs0:w0.sus=ss) (h:At (w0.re (.df D::ss)) X0 nO Ek st (Pw (gz D::ds) (Q .normal))):
    At w1 X0 n E st (Pw [] (bodyPostM (rF none) 0 P fn (rangePost (rF r) 0 P l Q (Act.wd (gz D::ds) ⟨rc.tmps, []⟩)) .normal)):=IV hres hR hs0 h
theorem IW {c:Code} (hres:fn.results= #[]) (hR:Rg w0 w1 idsR l D rc nO Ek ps assign body .done (some c)) (hs0:w0.sus=ss) (h:At (w0.re (.df D::ss)) X0 nO Ek st (Pw (gz D::ds) (c.wpIn (rF r) 0 P Q))):
    At w1 X0 n E st (Pw [] (bodyPostM (rF none) 0 P fn (rangePost (rF r) 0 P l Q (Act.wd (gz D::ds) ⟨rc.tmps, []⟩)) .ret)):=fun a w hr=>by
  have hd:a.defers= []:=by obtain⟨_,_,hr⟩:=hr;exact hr.defers
  show LeavesInM (rF none) 0 P fn (a.wd []).tmps _ (a.wd []).defers .returning w
  rw [og,hd]
  exact EG hres aA hR hs0 h hr
theorem IU {c:Code} (hres:fn.results= #[]) (hR:Rg w0 w1 idsR l D rc nO Ek ps assign body .done (some c)) (hs0:w0.sus=ss) (h:At (w0.re (.df D::ss)) X0 nO Ek st (Pw (gz D::ds) (c.wpIn (rF r) 0 P Q))):
    At w1 X0 n E st (Pw [] (bodyPostM (rF none) 0 P fn (rangePost (rF r) 0 P l Q (Act.wd (gz D::ds) ⟨rc.tmps, []⟩)) .normal)):=IW hres hR hs0 h
end itret
theorem KH {f:FuncId} {fn:Func} {c:Code} {args:List A} {s0:St} {R:A→St→Prop} (hf:P.funcs[f]? =some fn) (hb:fn.body=some c)
    (hn:fn.ntmps=n) (hname:(fn.name== "runtime.NumGoroutine")=false) (ha:args.length≤n)
    (h:∀w0 X0,w0.ids=s0.os.map Prod.fst→w0.sus= []→At w0 X0 n (jA args 0) s0 (Pw [] (c.wpIn (rF none) 0 P (bodyPostM (rF none) 0 P fn fun e w'=>∃v,e= .returned v∧Post w0 X0 R v w')))):eQ P f args s0 R:=by
  intro w X β us hd hX hgl ho hi hv
  have hl:=fb hv
  refine⟨⟨fn,hf,by simp [hb],hname⟩,(callsIn_wide (n:=0)).1 (callsIn_of_wp_marks hf hb trivial (mA (h (bw w β s0 hd) X rfl rfl _ w ⟨β,X,.of (fun _ _ h=>h) (fun _ _ h=> .inl h) (.of ⟨rfl,rfl,rfl,Nat.le_refl _,fun _ _ _=>rfl,fun s hs=>by cases hs⟩ (dE.refl β) hX hd ho hi) hgl ?_ rfl (fun s hs=>by cases hs) (fun t v ht=>?_)⟩)))⟩
  · simp [hn];omega
  · obtain ⟨_, h2⟩ := nC _ _ _ _ ht
    simp only [Nat.sub_zero]at h2
    obtain⟨u,g1,g2⟩:=iO hv h2
    have hlt:=(List.getElem?_eq_some_iff.1 g1).1
    refine⟨u,?_,g2⟩
    rw [Array.getElem?_append,if_pos aZ]
    simpa using g1
theorem rq {f:FuncId} {fn:Func} {c:Code} {args:List A} {R:A→St→Prop} (hf:P.funcs[f]? =some fn) (hb:fn.body=some c)
    (hn:fn.ntmps=n) (hname:(fn.name== "runtime.NumGoroutine")=false) (ha:args.length≤n)
    (h:∀w0 X0,w0.ids= []→w0.sus= []→At w0 X0 n (jA args 0) ⟨[]⟩ (Pw [] (c.wpIn (rF none) 0 P (bodyPostM (rF none) 0 P fn fun e w'=>∃v,e= .returned v∧Post w0 X0 R v w')))):bU P f args R:=KH hf hb hn hname ha h
theorem Fu {fn:Func} {Rr:Ending→World→Prop}:∀(ds:List Nat) {wB:Bw} {a:Act} {w:World},ds.Nodup→wB.sus=ds.map .df→Rel wB X0 n E st a w→(∀w',Rel (wB.re []) X0 n E st a w'→∃v,(results fn a.tmps).run P w'= .ok v w'∧Rr (.returned v) w')→
    LeavesInM (rF none) 0 P fn a.tmps Rr (ds.map gz) .returning w
  | [], wB, a, w, _, hs, ⟨β, X, hr⟩, h => by
    refine h w ⟨β,X,hr.jU rfl rfl .refl hr.mem.b0 (fun s hs=>by cases hs) (fun s hs=>by cases hs) hr.size hr.defers hr.slot⟩
  | D :: ds, wB, a, w, hnd, hs, ⟨β, X, hr⟩, h => by
    have hs':wB.sus= .df D::ds.map .df:=by simpa using hs
    have hk:=hr.mem.below.sus (.df D) (by rw [hs'];exact .head _)
    have hx:dW X X w (w.putObj D (.deferred none)):=fun b o h=>⟨h,(Qt.put (B:=wB) hk.1 hk.2 rfl rfl).cell (hr.mem.xlt b o h)⟩
    refine⟨by simp,.inl ⟨D,_,rfl,run_takeDeferred hk.2,?_⟩⟩
    refine Fu ds (wB:=wB.re (ds.map .df)) (List.nodup_cons.1 hnd).2 rfl ⟨β,X,hr.jU rfl rfl (Qt.put hk.1 hk.2 rfl rfl) hr.mem.b0 (fun s hs=>?_) (fun s hs=>?_) hr.size hr.defers hr.slot⟩ h
    · obtain ⟨D', hD, rfl⟩ := List.mem_map.1 hs
      have hk':=hr.mem.below.sus (.df D') (by rw [hs'];exact .tail _ hs)
      exact⟨hk'.1,(World.putObj_heap_other (fun e:D'=D=>(List.nodup_cons.1 hnd).1 (e ▸ hD))).trans hk'.2⟩
    · obtain ⟨D', hD, rfl⟩ := List.mem_map.1 hs
      trivial
theorem sX {wB:Bw} {fn:Func} {R:A→St→Prop} {rs:List ResultVar} {vs:List A} (hw:wB.w=w0.w) (hM:wB.M=w0.M) (hβ:wB.β=w0.β) (hs0:w0.sus= []) {dn:List Nat} (hdn:ds=dn.map gz) (hsB:wB.sus=dn.map .df) (hnd:dn.Nodup) (hrs:fn.results=rs.toArray) (hv:gO P E st rs vs) (h:R (mv vs) st):
    At wB X0 n E st (Pw ds (bodyPostM (rF none) 0 P fn (fun e w'=>∃v,e= .returned v∧Post w0 X0 R v w') .ret)):=fun a w hr=>by
  have hd:a.defers= []:=by obtain⟨_,_,hr⟩:=hr;exact hr.defers
  show LeavesInM (rF none) 0 P fn a.tmps _ (a.wd ds).defers .returning w
  have e:(a.wd ds).defers=dn.map gz:=by simp [Act.wd,hd,hdn]
  rw [e]
  refine Fu dn hnd hsB hr fun w' ⟨β,X,hr'⟩=>?_
  obtain⟨us,h1,h2⟩:=hv _ _ _ _ _ _ _ hr'.toRelQ
  have hr0:dZ w0 X0 n E st β X a w':=hr'.jU hw.symm hM.symm .refl (by rw [←hβ];exact hr'.mem.b0) (fun s hs=>by rw [hs0]at hs;cases hs) (fun s hs=>by rw [hs0]at hs;cases hs) hr'.size hr'.defers hr'.slot
  exact⟨_,oa hrs h1,_,rfl,_,β,X,st,h,hr0.x0,hr0.xn,hr0.mem,sP h2⟩
def uU (mk:Nat→A) (cs:List A):A→St→Prop:=fun r st=>∃id,r=mk id∧st.get id=some cs
def qL (mk:Nat→A):Prop:=∀X w β i u,V X w β (mk i) u→(∃b N,β i=some (.bk b N))∧∀X' w' β' j,β' j=β i→V X' w' β' (mk j) u
theorem wY {f:Fn}:qL (fun i=> .fn f [] [.p i 0]):=by
  intro X w β i u h
  simp only [V,VS]at h
  obtain⟨us,vs,rfl,rfl,x,r,rfl,⟨b,N,h1,rfl⟩,rfl⟩:=h
  refine⟨⟨b,N,h1⟩,fun X' w' β' j hj=>?_⟩
  simp only [V,VS]
  exact⟨[],_,rfl,rfl,_, [],rfl,⟨b,N,hj.trans h1,rfl⟩,rfl⟩
theorem MD {K : Act → World → Prop} {mk : Nat → A} (hmk : qL mk) {d : Nat} (nx : Nat) (hfr : st.free nx = true) {f : FuncId} {x : Operand} {xs : List Operand} {fs cs vs vs' cells : List A} {ats : Array TypeId} {ty : TypeId} {pos aft' g} (ow : Bool) (hx : ev E x = some (.fn (.func f) fs cs)) (hxs : fx E xs = some vs) (hv : cK st ⟨[]⟩ ow (fs ++ vs ++ cs) vs')
    (hc:bU P f vs' (uU mk cells)) (hp:dF cells) (hf:ow=false∨fL cells) (hd:Nat.ble (d+1) n=true) (h:At w0 X0 n ((d,mk nx)::E) (st.put nx cells) K):
    At w0 X0 n E st (fun a w=>(⟨some d,.call {callee:= .value x,args:=xs.toArray,argTypes:=ats},ty,pos,aft',g⟩:Oper).wp P a w K Q):=by
  rintro a w ⟨β,X,hr⟩
  refine oB hr hx hxs (s0:=⟨[]⟩) trivial hv hc fun v w' ⟨r,β',X',st',hR,hsup,hsub,hm,hvv⟩=>?_
  obtain⟨id,rfl,hg⟩:=hR
  obtain⟨m1,m2,m3,m4,m6⟩:=hm.after hr (fun id cs h=>by cases h) hsub hsup (upds:= []) (fun p hp=>by cases hp)
  rw [sR]at m1
  have hnx:=hr.mem.dom nx hfr
  have ho:=hm.obj id cells hg
  unfold OB at ho
  obtain⟨⟨b,N,hβ⟩,hV⟩:=hmk _ _ _ _ _ hvv
  rw [hβ]at ho
  obtain⟨o1,o2,us,rest,ety,o3,o4,o5,o6⟩:=ho
  have o1:w.heap.size≤b:=by
    rcases o1 with h|⟨id',cs',h,_⟩
    · exact h
    · cases h
  have hnX:∀o,¬(X b o∨(X' b o∧(bw w (er ⟨[]⟩ β) ⟨[]⟩ fC).own b)):=fun o h=>by
    rcases h with h|⟨h,_⟩
    · exact o2 o (hsup b o (.inl h))
    · exact o2 o h
  have hvs:VS (fun b o=>X b o∨(X' b o∧(bw w (er ⟨[]⟩ β) ⟨[]⟩ fC).own b)) w' (dS β nx (.bk b N)) cells us:=by
    rcases hf with hf|hf
    · exact gP (m4 hf) _ _ _ _ (dE.refl _) (l3 _ _ hp o5)
    · exact nA _ _ hf o5
  have hfresh:∀k ck q M,st.get k=some ck→β k=some (.bk q M)→q≠b:=fun k ck q M hk hq=>by
    have:=m6 q M k ck hk hq
    omega
  have m5 : Mem w0 (dS β nx (.bk b N)) (fun b o => X b o ∨ (X' b o ∧ (bw w (er ⟨[]⟩ β) ⟨[]⟩ fC).own b)) (st.put nx cells) w' := by
    refine .of (m1.below) (fun k y h=>(en hnx) k y (m1.b0 k y h)) (m1.xlt) (fun k h=>?_) (fun k es hk=>?_) (fun i j ci cj q M N' hij hi hj hbi hbj=>?_)
    · rw [St.gF] at h
      split at h
      · cases h
      · rename_i hne
        rw [dV (fun e=>hne e.symm)]
        exact hr.mem.dom k h
    · rw [St.ef] at hk
      split at hk
      · rename_i e; subst e
        simp only [Option.some.injEq]at hk
        subst hk
        unfold OB
        rw [dA]
        exact⟨Bw.mr hr.mem.below o1,hnX,us,rest,ety,o3,o4,hvs,o6⟩
      · refine (m1.obj k es hk).later (fun _ _ h => ⟨h, rfl⟩) (en hnx) (fun q M hq => ⟨rfl, ?_⟩) fun q hq => ⟨rfl, ((m1.obj k es hk).gB hq).2.2.1⟩
        have hk':=m1.obj k es hk
        unfold OB at hk'
        rw [hq]at hk'
        exact hk'.2.1
    · rw [St.ef] at hi hj
      by_cases ei:nx=i
      · by_cases ej : nx = j
        · omega
        · rw [if_neg ej] at hj
          rw [←ei,dA]at hbi
          rw [dV aq]at hbj
          simp only [Option.some.injEq,BL.bk.injEq]at hbi
          exact hfresh j cj q N' hj hbj aq
      · rw [if_neg ei] at hi
        rw [dV aq]at hbi
        by_cases ej:nx=j
        · rw [← ej, dA] at hbj
          simp only [Option.some.injEq,BL.bk.injEq]at hbj
          exact hfresh i ci q M hi hbi aq
        · rw [if_neg ej] at hj
          rw [dV aq]at hbj
          exact hr.mem.inj i j ci cj q M N' hij hi hj hbi hbj
  exact h _ _ ⟨_,_,hr.jT hd m2 m3 (en hnx) m5 (hV _ _ _ _ (dA.trans hβ.symm))⟩
theorem FA {K:Act→World→Prop} {mk:Nat→A} (hmk:qL mk) {d:Nat} (nx:Nat) (hfr:st.free nx=true) {f:FuncId} {xs:List Operand} {vs vs' cells:List A} {ats:Array TypeId} {ty:TypeId} {pos aft' g} (ow:Bool) (hxs:fx E xs=some vs) (hv:cK st ⟨[]⟩ ow vs vs')
    (hc:bU P f vs' (uU mk cells)) (hp:dF cells) (hf:ow=false∨fL cells) (hd:Nat.ble (d+1) n=true) (h:At w0 X0 n ((d,mk nx)::E) (st.put nx cells) K):
    At w0 X0 n E st (fun a w=>(⟨some d,.call {callee:= .value (.func f),args:=xs.toArray,argTypes:=ats},ty,pos,aft',g⟩:Oper).wp P a w K Q):=
  MD hmk nx hfr (fs:= []) (cs:= []) ow rfl hxs aU hc hp hf hd h
mutual
theorem AN:∀ {v:A},Pure v→refs v= []
  | .b _,_=>rfl
  | .i _ _,_=>rfl
  | .s _,_=>rfl
  | .nl,_=>rfl
  | .fz _ _,_=>rfl
  | .fp _,_=>rfl
  | .p _ _,h=>by simp only [Pure]at h
  | .sl _ _ _ _,h=>by simp only [Pure]at h
  | .ag cs,h=>by simp only [Pure]at h;simp only [refs];exact sj h
  | .tu cs,h=>by simp only [Pure]at h;simp only [refs];exact sj h
  | .fn _ a c,h=>by simp only [Pure]at h;simp only [refs];rw [sj h.1,sj h.2];rfl
  | .ic _ v,h=>by simp only [Pure]at h;simp only [refs];exact AN h
  | .raw _,_=>rfl
  | .mc _ _,_=>rfl
theorem sj:∀ {l:List A},dF l→gL l= []
  | [],_=>rfl
  |c::cs,h=>by simp only [dF]at h;simp only [gL];rw [AN h.1,sj h.2];rfl
end
theorem oU {l:List A} [h:fX l]:gL l= []:=sj h.out
theorem oV {v:A} [h:IsPure v]:refs v= []:=AN h.out
end
end Go.Abs
