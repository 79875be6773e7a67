/-
  The engine, the plain laws and the walks that the rows need, part 9. Conditions: none.
-/
import Derived.Test.YteempkifmbclgaaGreatDoorM8
import Derived.Lib.ConvBytes
import Derived.Laws.Strings
import Derived.KernelRfl
set_option linter.unusedVariables false
set_option linter.unusedSimpArgs false
set_option maxHeartbeats 1000000
set_option maxRecDepth 10000
-- AbsJ
namespace Go.Abs
open Go Go.Eng
section
variable {P:Program} {w0:Bw} {X0 X:Xs} {n:Nat} {E:Ev} {st:St} {β:Bm} {a:Act} {w:World} {Q:Exit→Act→World→Prop} {K:Act→World→Prop}
theorem Mem.Dy (hm:Mem w0 β X st w) {w1:World} {b:Nat} (L:Nat) (hbel:RowKit.Below w.heap.size w w1) (hb:w.heap.size≤b) (hb1:b<w1.heap.size):
    let X1:Xs:=fun q o=>X q o∨(q=b∧o<L)
    Mem w0 β X1 st w1∧cc X X1 w w1∧(∀q o,X1 q o→X q o∨w0.own q):=by
  intro X1
  have hx:cc X X1 w w1:=fun q o h=>⟨.inl h,World.cell?_of_block (w:=w) (hbel.block q (hm.xlt q o h))⟩
  refine⟨.of (hm.below.trans hbel) hm.b0 (fun q o h=>?_) hm.dom (fun k ds hg=>?_) (fun i j ci cj q M N' hij hi hj hbi hbj=>hm.inj i j ci cj q M N' hij hi hj hbi hbj),hx,fun q o h=>?_⟩
  · rcases h with h | ⟨rfl, _⟩
    · exact Nat.lt_of_lt_of_le (hm.xlt q o h) hbel.size
    · exact hb1
  · refine (hm.obj k ds hg).later hx (bK.refl β) (fun q M hq => ?_) fun q hq => ⟨hbel.block q ((hm.obj k ds hg).nq hq), fun o h => h.elim (((hm.obj k ds hg).dY hq).2.2.1 o) fun h => by have := (hm.obj k ds hg).nq hq; omega⟩
    have ho:=hm.obj k ds hg
    unfold OB at ho
    rw [hq]at ho
    obtain⟨_,h2,us',rest',ty',h3,_⟩:=ho
    have hlt:=(Array.getElem?_eq_some_iff.1 h3).1
    refine⟨hbel.block q hlt,fun o h=>?_⟩
    rcases h with h|⟨rfl,_⟩
    · exact h2 o h
    · omega
  · rcases h with h | ⟨rfl, _⟩
    · exact .inl h
    · exact .inr (Bw.j7 hm.below hb)
theorem Cj {d:Nat} {src dst e ty:TypeId} {pos az g} {x:Operand} {l:List UInt8} (hs:P.underlying src=some .string) (hdt:P.underlying dst=some (.slice e)) (he:P.underlying e=some (.int .u8)) (hx:ev E x=some (.s l)) (hl:l.length≤maxLen) (hd:Nat.ble (d+1) n=true)
    (h:At w0 X0 n ((d,.fz l.length (l.map u8))::E) st K):At w0 X0 n E st (fun a w=>(⟨some d,.convert src dst x,ty,pos,az,g⟩:Oper).wp P a w K Q):=by
  rintro a w ⟨β,X,hr⟩
  obtain⟨e1,e2⟩:=hr.bq hx
  rw [uZ]at e2
  rw [e2]at e1
  have hrun:=Go.Lib.run_convert_string_bytes (P:=P) w src dst e ⟨l.toArray⟩ hs hdt he
  have hsz:(⟨l.toArray⟩:ByteArray).size=l.length:=by simp [ByteArray.size]
  have hbel:RowKit.Below w.heap.size w (Go.Lib.bytesWorld w e ⟨l.toArray⟩):=⟨rfl,rfl,rfl,by rw [Go.Lib.bytesWorld_size];omega,fun k hk=>Go.Lib.bytesWorld_at_old w e _ k hk⟩
  obtain⟨m1,m2,m3⟩:=hr.mem.Dy (b:=w.heap.size) l.length hbel (Nat.le_refl _) (by rw [Go.Lib.bytesWorld_size];omega)
  have hexec:(execOp a.eval ⟨some d,.convert src dst x,ty,pos,az,g⟩).run P w= .ok (.value (.slice (some ⟨w.heap.size,0,none⟩) l.length (grownCap w l.length 0 e))) (Go.Lib.bytesWorld w e ⟨l.toArray⟩):=by
    simp only [hsz]at hrun
    simp [execOp,e2,hrun]
  unfold Oper.wp
  rw [hexec]
  refine h _ _ ⟨β,_,hr.gF hd m2 m3 (bK.refl β) m1 ?_⟩
  simp only [V]
  refine⟨_,_,rfl,grownCap_ge w l.length 0 e,grownCap_le_maxLen w l.length 0 e hl,(fun h=>by cases h),(fun _ x hx=>by cases hx;rfl),kD fun j c hj=>?_⟩
  have hjl:j<l.length:=by simpa using (List.getElem?_eq_some_iff.1 hj).1
  rw [List.getElem?_map,List.getElem?_eq_getElem hjl]at hj
  simp only [Option.map_some,Option.some.injEq]at hj
  subst hj
  have hc:=Go.Lib.bytesWorld_cell w e ⟨l.toArray⟩ j (by rw [hsz];exact hjl)
  refine⟨.inr ⟨rfl,by simpa [ao]using hjl⟩,.int .u8 (l[j].toNat:Int),?_,by rw [ff],rfl⟩
  simp only [ab,ao,Nat.zero_add]
  rw [hc]
  simp [List.getD_eq_getElem?_getD,hjl]
theorem Ni {t ty:TypeId} {x i:Operand} {l:List UInt8} {k:IntKind} {iv:Int} (j:Nat) (b:UInt8) (ht:P.underlying t=some .string) (hx:ev E x=some (.s l)) (hi:ev E i=some (.i k iv)) (hj:iv=(j:Int)) (hb:l[j]? =some b):YO P E st (.index t x i) ty (u8 b):=by
  intro w0 X0 n β X a w hr
  obtain⟨h1,h2⟩:=hr.bq hx
  obtain⟨h3,h4⟩:=hr.bq hi
  rw [uZ]at h2
  rw [ff]at h4
  rw [h2]at h1
  rw [h4]at h3
  subst hj
  refine⟨_,by rw [ff],hr.old fun w' _=>fun d pos az g a' w'' hR _=>?_⟩
  have hl:=(List.getElem?_eq_some_iff.1 hb).1
  have key:=run_index_string (P:=P) w'' t ⟨l.toArray⟩ k (j:Int) ht
  rw [dif_pos ⟨by omega,by simpa [ByteArray.size]using hl⟩]at key
  have hbb:((⟨l.toArray⟩:ByteArray)[(j:Int).toNat]'(by simpa [ByteArray.size]using hl))=b:=by
    obtain⟨_,h⟩:=List.getElem?_eq_some_iff.1 hb
    show l.toArray[(j:Int).toNat]'(by simpa using hl)=b
    simpa using h
  rw [hbb]at key
  simp [execOp,hR.ev h1,hR.ev h3,key]
theorem mL {t ty:TypeId} {x i:Operand} {l l':List UInt8} {k:IntKind} {iv:Int} (j:Nat) (b:UInt8) (ht:P.underlying t=some .string) (hx:ev E x=some (.s l)) (hl:l=l') (hi:ev E i=some (.i k iv)) (hj:iv=(j:Int)) (hb:l'[j]? =some b):YO P E st (.index t x i) ty (u8 b):=
  Ni j b ht hx hi hj (by rw [hl];exact hb)
theorem Cg {t e ty : TypeId} {by' : Nat} {z : Value} {agg : Bool} {x : Operand} {id off m : Nat} {cs cs' : List A} {d : Option Nat} {pos az g} (ht : P.underlying t = some (.slice e)) (he : TI P e 1 by' [z] agg) (hz : z.oneCell' = true) (hx : ev E x = some (.sl id 1 off m)) (hg : st.get id = some cs)
    (hfit:off+m≤cs.length) (hcs:cs.take off++List.replicate m (aW z)++cs.drop (off+m)=cs') (hd:d=none) (h:At w0 X0 n E (st.put id cs') K):
    At w0 X0 n E st (fun a w=>(⟨d,.call {callee:= .builtin .clear,args:= #[x],argTypes:= #[t]},ty,pos,az,g⟩:Oper).wp P a w K Q):=by
  rintro a w ⟨β,X,hr⟩
  subst hd
  obtain⟨e1,e2⟩:=hr.bq hx
  have hexec0:∀v w1,a.eval x=v→(Builtin.clear_ #[t] ty #[v]).run P w= .ok (.tuple #[]) w1→(execOp a.eval ⟨none,.call {callee:= .builtin .clear,args:= #[x],argTypes:= #[t]},ty,pos,az,g⟩).run P w= .ok (.value (.tuple #[])) w1:=by
    intro v w1 hv hrun
    have h1:execOp a.eval ⟨none,.call {callee:= .builtin .clear,args:= #[x],argTypes:= #[t]},ty,pos,az,g⟩=(do pure (.value (←Builtin.clear_ #[t] ty #[v])):Sem Next):=by
      simp only [execOp,resolve,List.map_toArray,List.map_cons,List.map_nil,hv,pure_bind,invoke,builtin]
    rw [h1,Sem.run_bind,hrun]
    rfl
  have stay:cs'=cs→(execOp a.eval ⟨none,.call {callee:= .builtin .clear,args:= #[x],argTypes:= #[t]},ty,pos,az,g⟩).run P w= .ok (.value (.tuple #[])) w→(⟨none,.call {callee:= .builtin .clear,args:= #[x],argTypes:= #[t]},ty,pos,az,g⟩:Oper).wp P a w K Q:=by
    intro hcc hex
    subst hcc
    unfold Oper.wp
    rw [hex]
    exact h _ _ ⟨β,X,hr.eP (dQ a hr.defers) (fun _ _ h=>⟨h,rfl⟩) (fun _ _ h=> .inl h) (bK.refl β) (hr.mem.drop (fun id' hf=>by rw [St.en]at hf;split at hf;cases hf;exact hf) (fun id' ds hk=>by
      rw [St.cg]at hk
      split at hk
      · rename_i e;subst e;simp only [Option.some.injEq]at hk;subst hk;exact hg
      · exact hk))⟩
  simp only [V]at e2
  rcases e2 with ⟨_,rfl,rfl,e3⟩|⟨b,N,cap,hβ,e5,c1,c2,c3⟩
  · refine stay (by simpa using hcs.symm) (hexec0 _ _ e3 ?_)
    simp [Builtin.clear_,run_underlying ht]
  · rcases Nat.eq_zero_or_pos m with rfl | hm
    · refine stay (by simpa using hcs.symm) (hexec0 _ _ e5 ?_)
      simp [Builtin.clear_,run_underlying ht]
    · have ho := hr.mem.obj id cs hg
      unfold OB at ho
      rw [hβ]at ho
      obtain⟨p1,p2,us,rest,ety,p3,p4,p5,p6⟩:=ho
      have hul:=cJ p5
      obtain⟨zv,hzv,hzc⟩:=he.zeroValue w
      have hzc1:(Builtin.zeroCells zv.cells m).toList=List.replicate m z:=by
        rw [hzc]
        simp [Builtin.zeroCells]
        apply List.ext_getElem
        · simp
        · intro i h1 h2
          simp [Nat.mod_one]
      have hst:=run_storeCells_at P b off ety (List.replicate m z) 0 (us++rest).toArray w p3 (by simp;omega) (by intro v hv';rw [List.eq_of_mem_replicate hv'];exact hz)
      simp only [Nat.add_zero,List.length_replicate]at hst
      have hlist:(us++rest).toArray.toList.take off++List.replicate m z++(us++rest).toArray.toList.drop (off+m)=(us.take off++List.replicate m z++us.drop (off+m))++rest:=by
        simp only []
        rw [List.take_append_of_le_length (by omega),List.drop_append_of_le_length (by omega)]
        simp
      rw [hlist]at hst
      have hG:=Eng.Good.setRow (lL p3) 0 (cs:=us++rest) rfl ((us.take off++List.replicate m z++us.drop (off+m))++rest)
      simp only [List.set_cons_zero]at hG
      have hev:VS X w β (List.replicate m (aW z)) (List.replicate m z):=by have:=mS (X:=X) (w:=w) (β:=β) (List.replicate m z);simpa using this
      obtain⟨hm1,hx1⟩:=hr.mem.write (cs':=cs') hg hβ hG (by simp only [List.length_append,List.length_take,List.length_drop,List.length_replicate];omega)
        (by rw [←hcs];exact eH (eH (gQ p5 off) hev) (jb p5 _))
        (by intro q hq;simp only [List.mem_append]at hq;rcases hq with (hq|hq)|hq;exact p6 q (List.mem_of_mem_take hq);rw [List.eq_of_mem_replicate hq];exact hz;exact p6 q (List.mem_of_mem_drop hq))
      obtain⟨k,rfl⟩:∃k,m=k+1:=⟨m - 1,by omega⟩
      have hrun:(Builtin.clear_ #[t] ty #[.slice (some ⟨b,off,none⟩) (k+1) cap]).run P w= .ok (.tuple #[]) (w.setRow b ((us.take off++List.replicate (k+1) z++us.drop (off+(k+1)))++rest).toArray):=by
        simp only [Builtin.clear_]
        simp [run_underlying ht,hzv,hzc1,hst]
      have hexec:=hexec0 _ _ e5 hrun
      unfold Oper.wp
      rw [hexec]
      exact h _ _ ⟨β,X,hr.eP (dQ a hr.defers) hx1 (fun _ _ h=> .inl h) (bK.refl β) hm1⟩
theorem Jx {d : Option Nat} {dT sT ty e : TypeId} {by' : Nat} {zero : List Value} {agg : Bool} {x y : Operand} {vy : A} {id off m k : Nat} {cs news cs' : List A} {pos az g} (c : Nat) (ht : P.underlying dT = some (.slice e)) (he : TI P e 1 by' zero agg) (hx : ev E x = some (.sl id 1 off m)) (hg : st.get id = some cs) (hy : ev E y = some vy) (hn : SM st vy = some (k, news)) (hnl : news.length = k)
    (hc:c=Nat.min k m) (hc0:0<c) (hfit:off+c≤cs.length) (hcs:cs.take off++news.take c++cs.drop (off+c)=cs') (hd:jz n d=true) (h:At w0 X0 n (E.put d (.i .i64 (c:Int))) (st.put id cs') K):
    At w0 X0 n E st (fun a w=>(⟨d,.call {callee:= .builtin .copy,args:= #[x,y],argTypes:= #[dT,sT]},ty,pos,az,g⟩:Oper).wp P a w K Q):=by
  rintro a w ⟨β,X,hr⟩
  obtain⟨e1,e2⟩:=hr.bq hx
  obtain⟨e3,e4⟩:=hr.bq hy
  have hck:c≤k:=by rw [hc];exact Nat.min_le_left _ _
  have hcm:c≤m:=by rw [hc];exact Nat.min_le_right _ _
  obtain⟨ay,cy,nus,f1,f2,f3,f4⟩:=uj (s:=1) hr.toRelQ e4 hn (by omega)
  have hsl:=f4 w .refl
  have hnu:=cJ f2
  simp only [V]at e2
  rcases e2 with ⟨_,rfl,_⟩|⟨b,N,cap,hβ,e5,c1,c2,c3⟩
  · omega
  · have ho := hr.mem.obj id cs hg
    unfold OB at ho
    rw [hβ]at ho
    obtain⟨p1,p2,us,rest,ety,p3,p4,p5,p6⟩:=ho
    have hul:=cJ p5
    have hax:=hsl.addr (by omega)
    have hnt:(nus.take c).length=c:=by rw [List.length_take];omega
    obtain⟨⟨i,z,i1,i2,i3,i4,i5⟩,hu⟩:=he
    have hrun:=run_copy_row (P:=P) w dT sT ty e b off m cap ⟨ab ay,ao ay,none⟩ k cy (us++rest).toArray ety (nus.take c) ht (by rw [i1];simp [i3]) p3 (by rw [hnt,hc])
      (fun j u hj=>by
        rw [List.getElem?_take]at hj
        split at hj
        · rw [addr_add];exact hsl.cell j u hj
        · cases hj) (by simp;omega) (fun q hq=>f3 q (List.mem_of_mem_take hq))
    rw [←hax]at hrun
    rw [hnt]at hrun
    have hlist:(us++rest).toArray.toList.take off++nus.take c++(us++rest).toArray.toList.drop (off+c)=(us.take off++nus.take c++us.drop (off+c))++rest:=by
      simp only []
      rw [List.take_append_of_le_length (by omega),List.drop_append_of_le_length (by omega)]
      simp
    rw [hlist]at hrun
    have hG:=Eng.Good.setRow (lL p3) 0 (cs:=us++rest) rfl ((us.take off++nus.take c++us.drop (off+c))++rest)
    simp only [List.set_cons_zero]at hG
    obtain⟨hm1,hx1⟩:=hr.mem.write (cs':=cs') hg hβ hG (by simp only [List.length_append,List.length_take,List.length_drop];omega)
      (by rw [←hcs];exact eH (eH (gQ p5 off) (gQ f2 c)) (jb p5 _))
      (by intro q hq;simp only [List.mem_append]at hq;rcases hq with (hq|hq)|hq;exact p6 q (List.mem_of_mem_take hq);exact f3 q (List.mem_of_mem_take hq);exact p6 q (List.mem_of_mem_drop hq))
    have hexec:(execOp a.eval ⟨d,.call {callee:= .builtin .copy,args:= #[x,y],argTypes:= #[dT,sT]},ty,pos,az,g⟩).run P w= .ok (.value (goInt c)) (w.setRow b (us.take off++nus.take c++us.drop (off+c)++rest).toArray):=by
      have h1:execOp a.eval ⟨d,.call {callee:= .builtin .copy,args:= #[x,y],argTypes:= #[dT,sT]},ty,pos,az,g⟩=(do pure (.value (←Builtin.copy_ #[dT,sT] ty #[.slice (some ⟨b,off,none⟩) m cap,.slice ay k cy])):Sem Next):=by
        simp only [execOp,resolve,List.map_toArray,List.map_cons,List.map_nil,e5,f1,pure_bind,invoke,builtin]
      rw [h1,Sem.run_bind,hrun]
      rfl
    unfold Oper.wp
    rw [hexec]
    refine h _ _ ⟨β,X,?_⟩
    have hkk:goInt c= .int .i64 (c:Int):=rfl
    cases d with
    |none=>exact hr.eP (dQ a hr.defers) hx1 (fun _ _ h=> .inl h) (bK.refl β) hm1
    |some d=>exact hr.gF hd hx1 (fun _ _ h=> .inl h) (bK.refl β) hm1 (by rw [hkk];simp only [V])
theorem nM {s0:St} {ow:Bool} {k:Nat} {c c0:List A} (h:s0.get k=some c0) (hp:bL c) (hf:dr c):∀p∈ [(k,c)],(∃cs,s0.get p.1=some cs)∧bL p.2∧(ow=false∨dr p.2):=fun p hq=>by
  simp only [List.mem_singleton]at hq
  subst hq
  exact⟨⟨c0,h⟩,hp,.inr hf⟩
theorem nD {r:A} {k:Nat} {c:List A} (h:st.get k=some c):gP r [(k,c)] r st:=⟨rfl,fun p hq=>by
  simp only [List.mem_singleton]at hq
  subst hq
  exact h⟩
end
end Go.Abs
-- D2Q
namespace Go.Abs.D2
open Go Go.Abs
def iV (b:List UInt8) (o:Nat):Nat→BitVec 32
  |0=>0
  |j+1=>iV b o j<<<8|||lz (b.getD (o+j) 0).toNat
theorem M1 (b:List UInt8) (o:Nat):iV b o 4=word b o:=by
  simp only [iV,Nat.add_zero]
  exact MS _ _ _ _
theorem Kk (b:List UInt8) (i:Nat) (h:i<16):(words b i).map aI++List.replicate (64 - i) (aI 0)=(words b i).map aI++ [aI (iV b (4*i) 0)]++List.replicate (63 - i) (aI 0):=by
  rw [show 64 - i=(63 - i)+1 by omega,List.replicate_succ]
  simp [iV]
theorem Kl (b:List UInt8) (i:Nat) (h:i<16):(words b i).map aI++ [aI (iV b (4*i) 4)]++List.replicate (63 - i) (aI 0)=(words b (i+1)).map aI++List.replicate (64 - (i+1)) (aI 0):=by
  rw [En,M1,show 64 - (i+1)=63 - i by omega]
  simp
theorem Ic (b:List UInt8) (i j:Nat):(((words b i).map aI++ [aI (iV b (4*i) j)]++List.replicate (63 - i) (aI 0)).drop (0+i*1))[0]? =some (aI (iV b (4*i) j)):=by
  rw [List.getElem?_drop,List.append_assoc,List.getElem?_append_right (by simp)]
  simp
theorem LM (b:List UInt8) (i j:Nat):((words b i).map aI++ [aI (iV b (4*i) j)]++List.replicate (63 - i) (aI 0)).set (0+i*1) (aI (iV b (4*i) (j+1)))=(words b i).map aI++ [aI (iV b (4*i) (j+1))]++List.replicate (63 - i) (aI 0):=by
  rw [List.append_assoc,List.set_append_right _ _ (by simp)]
  simp
def nK (s t:S8) (i:Nat):List (BitVec 32):=(s.add t).l.take i++s.l.drop i
theorem BU (s t:S8) (i:Nat):(nK s t i).length=8:=by
  simp [nK];omega
theorem Ml (s t:S8):nK s t 8=(s.add t).l:=rfl
theorem LP (s t:S8) (i:Nat) (h:i<8):((nK s t i).map aI).set (0+i*1) (aI ((nK s t i).getD i 0+t.l.getD i 0))=(nK s t (i+1)).map aI:=by
  match i,h with
  |0,_=>rfl
  |1,_=>rfl
  |2,_=>rfl
  |3,_=>rfl
  |4,_=>rfl
  |5,_=>rfl
  |6,_=>rfl
  |7,_=>rfl
def gK:List A:=match qx sR 0 with|some vs=>vs.map aW|none=> []
theorem HZ:gK=mj.map aI:=by kernel_rfl
theorem H3 (t:Nat) (h:t<64):(gK.drop (t*1))[0]? =some (aI (mj.getD t 0)):=
  H7 t (by simpa using h) (by rw [HZ])
abbrev dz (p:List UInt8):A:= .fz p.length (p.map u8)
def hs (s:List UInt8):S8:=fg (s.length / 64) h0 s
def rem (s:List UInt8):List UInt8:=s.drop (64*(s.length / 64))
@[simp] theorem dR (s : List UInt8) : (rem s).length = s.length % 64 := by
  simp only [rem,List.length_drop];omega
theorem ni (s:List UInt8):s=s.take (64*(s.length / 64))++rem s:=(List.take_append_drop _ _).symm
theorem KT {s c:List UInt8} (h:s.length % 64+c.length<64):rem (s++c)=rem s++c∧hs (s++c)=hs s∧(s++c).length % 64=s.length % 64+c.length:=by
  have hd:(s++c).length / 64=s.length / 64:=by simp only [List.length_append];omega
  refine⟨?_,?_,by simp only [List.length_append];omega⟩
  · unfold rem
    rw [hd,List.drop_append_of_le_length (by omega)]
  · unfold hs
    rw [hd]
    conv=>lhs;rw [ni s,List.append_assoc]
    conv=>rhs;rw [ni s]
    rw [nY _ _ _ _ (by simp;omega),nY _ _ _ _ (by simp;omega)]
theorem KU {s c:List UInt8} (h:s.length % 64+c.length=64):rem (s++c)= []∧hs (s++c)=comp (hs s) (rem s++c)∧(s++c).length % 64=0:=by
  have hl:(s++c).length=64*(s.length / 64+1):=by simp only [List.length_append];omega
  have hd:(s++c).length / 64=s.length / 64+1:=by omega
  refine⟨?_,?_,by omega⟩
  · unfold rem
    exact List.drop_eq_nil_of_le (by omega)
  · unfold hs
    rw [hd,u6,List.drop_append_of_le_length (by omega)]
    congr 1
    · conv => lhs; rw [ni s, List.append_assoc]
      conv=>rhs;rw [ni s]
      rw [nY _ _ _ _ (by simp;omega),nY _ _ _ _ (by simp;omega)]
    · exact List.take_of_length_le (by have:=dR s;unfold rem at this;simp only [List.length_append,this];omega)
abbrev sI (p s:List UInt8) (j:Nat):Nat:=Nat.min (p.length - j) (64 - s.length % 64)
theorem FP (s tl p:List UInt8) (j c:Nat):
    ((rem s++tl).map u8).take (s.length % 64)++((p.drop j).map u8).take c++((rem s++tl).map u8).drop (s.length % 64+c)=(rem s++(p.drop j).take c++tl.drop c).map u8:=by
  rw [←List.map_take, ←List.map_take, ←List.map_drop, ←List.map_append, ←List.map_append]
  rw [List.take_left' (dR s), ←List.drop_drop,List.drop_left' (dR s)]
theorem Bl {parts:List (List UInt8)} {p:List UInt8} {i:Nat} (h:parts[i]? =some p):((parts.map dz).drop (i*1))[0]? =some (dz p):=by
  rw [List.getElem?_drop,List.getElem?_map,show i*1+0=i by omega,h];rfl
theorem GF (p:List UInt8) (j c:Nat):(((p.drop j).map u8).drop (c*1)).take ((p.length - (j+c))*1)=(p.drop (j+c)).map u8:=by
  rw [Nat.mul_one,Nat.mul_one, ←List.map_drop,List.drop_drop]
  exact List.take_of_length_le (by simp)
theorem D8 (p:List UInt8) (j c:Nat):p.take j++(p.drop j).take c=p.take (j+c):=by rw [←List.take_add]
theorem FY {parts:List (List UInt8)} {p:List UInt8} {i:Nat} (h:parts[i]? =some p):(parts.take i).flatten++p.take p.length=(parts.take (i+1)).flatten:=by
  rw [List.take_add_one,h,List.take_length];simp
theorem LJ (s tl:List UInt8) (ht:tl.length=64 - s.length % 64):((rem s++tl).map u8).set (0+s.length % 64*1) (.i .u8 128)=(rem s++ [128]++tl.drop 1).map u8:=by
  have:tl≠ []:=by intro h;subst h;simp at ht;omega
  obtain⟨x,r,rfl⟩:=List.exists_cons_of_ne_nil this
  rw [List.map_append,List.set_append_right _ _ (by simp)]
  simp
theorem HC (s tl:List UInt8) (ht:tl.length=64 - s.length % 64) (o:Nat) (ho:o=0+(if 64=s.length % 64+1 then 0 else(s.length % 64+1)*1)):
    ((rem s++ [128]++tl.drop 1).map u8).take o++List.replicate (64 - (s.length % 64+1)) (aW (.int .u8 0))++((rem s++ [128]++tl.drop 1).map u8).drop (o+(64 - (s.length % 64+1)))=(rem s++ [128]++List.replicate (63 - s.length % 64) 0).map u8:=by
  have he:aW (.int .u8 0)=u8 0:=rfl
  subst ho
  rw [he]
  by_cases h:64=s.length % 64+1
  · rw [if_pos h, show 64 - (s.length % 64 + 1) = 0 by omega, show 63 - s.length % 64 = 0 by omega, show tl.drop 1 = [] from List.drop_eq_nil_of_le (by omega)]
    simp
  · rw [if_neg h]
    have e1:((rem s++ [128]++tl.drop 1).map u8).take (0+(s.length % 64+1)*1)=(rem s++ [128]).map u8:=by
      rw [←List.map_take,List.take_left' (by simp)]
    have e2:((rem s++ [128]++tl.drop 1).map u8).drop (0+(s.length % 64+1)*1+(64 - (s.length % 64+1)))= []:=List.drop_eq_nil_of_le (by simp;omega)
    rw [e1,e2,show 64 - (s.length % 64+1)=63 - s.length % 64 by omega]
    simp
theorem rP (s p:List UInt8):s++p.take 0=s:=by simp
theorem EZ (s p:List UInt8):aY (a6 s.length+a6 p.length)=aY (a6 (s++p.take p.length).length):=by
  rw [List.take_length,List.length_append]
  exact congrArg aY (BitVec.ofNat_add _ _).symm
theorem I6 {parts:List (List UInt8)} {p:List UInt8} (h:p∈parts):p.length≤parts.flatten.length:=by
  induction parts with
  |nil=>cases h
  | cons q r ih =>
    simp only [List.flatten_cons,List.length_append]
    rcases List.mem_cons.1 h with rfl|h
    · omega
    · have:=ih h;omega
theorem Nm:(List.replicate 64 (Value.int .u8 0)).map aW=(rem []++List.replicate 64 0).map u8:=by kernel_rfl
theorem Gl {l:List A} (h:l.length=64):l.take 0++List.replicate 64 (aW (.int .u8 0))++l.drop (0+64)=(List.replicate 64 (0:UInt8)).map u8:=by
  rw [List.drop_eq_nil_of_le (by omega)]
  rfl
theorem JB {s p tl:List UInt8} {j c:Nat} (hc:c≤p.length - j) (ht:tl.length=64 - (s++p.take j).length % 64) (h:(s++p.take j).length % 64+c=64):
    rem (s++p.take (j+c))= []∧hs (s++p.take (j+c))=comp (hs (s++p.take j)) (rem (s++p.take j)++(p.drop j).take c++tl.drop c)∧(s++p.take (j+c)).length % 64=0:=by
  have e:(s++p.take j)++(p.drop j).take c=s++p.take (j+c):=by rw [List.append_assoc,D8]
  have hl:((p.drop j).take c).length=c:=by rw [List.length_take,List.length_drop];omega
  have:=KU (s:=s++p.take j) (c:=(p.drop j).take c) (by omega)
  rw [e]at this
  rw [show tl.drop c= []from List.drop_eq_nil_of_le (by omega),List.append_nil]
  exact this
theorem JC {s p:List UInt8} {j c:Nat} (hc:c≤p.length - j) (h:(s++p.take j).length % 64+c<64):
    rem (s++p.take (j+c))=rem (s++p.take j)++(p.drop j).take c∧hs (s++p.take (j+c))=hs (s++p.take j)∧(s++p.take (j+c)).length % 64=(s++p.take j).length % 64+c:=by
  have e:(s++p.take j)++(p.drop j).take c=s++p.take (j+c):=by rw [List.append_assoc,D8]
  have hl:((p.drop j).take c).length=c:=by rw [List.length_take,List.length_drop];omega
  have:=KT (s:=s++p.take j) (c:=(p.drop j).take c) (by omega)
  rw [e,hl]at this
  exact this
def gY (s:List UInt8):S8:=if s.length % 64+1>56 then comp (hs s) (rem s++ [128]++List.replicate (63 - s.length % 64) 0)else hs s
def fJ (s:List UInt8):List UInt8:=if s.length % 64+1>56 then List.replicate 56 0 else rem s++ [128]++List.replicate (55 - s.length % 64) 0
theorem eN (s:List UInt8):(fJ s).length=56:=by
  unfold fJ;split<;>simp;omega
theorem IE {s:List UInt8} (h:s.length % 64+1>56):(List.replicate 64 (0:UInt8)).map u8=(fJ s++List.replicate (8 - 0) 0++(eC (8*s.length)).drop (8 - 0)).map u8:=by
  rw [fJ,if_pos h,List.drop_eq_nil_of_le (by simp),List.append_nil,List.replicate_append_replicate]
theorem IF {s:List UInt8} (h:¬s.length % 64+1>56):(rem s++ [128]++List.replicate (63 - s.length % 64) 0).map u8=(fJ s++List.replicate (8 - 0) 0++(eC (8*s.length)).drop (8 - 0)).map u8:=by
  rw [fJ,if_neg h,List.drop_eq_nil_of_le (by simp),List.append_nil,List.append_assoc _ _ (List.replicate (8 - 0) 0),List.replicate_append_replicate,show 55 - s.length % 64+(8 - 0)=63 - s.length % 64 by omega]
theorem DE (s:List UInt8) (i:Nat) (x:UInt8) (hi:i<8) (hx:x=UInt8.ofNat (8*s.length / 2 ^ (8*i))):
    ((fJ s++List.replicate (8 - i) 0++(eC (8*s.length)).drop (8 - i)).map u8).set (0+(63 - i)*1) (u8 x)=(fJ s++List.replicate (8 - (i+1)) 0++(eC (8*s.length)).drop (8 - (i+1))).map u8:=by
  subst hx
  have hl:=eN s
  rw [←List.map_set,show 8 - i=(8 - (i+1))+1 by omega,List.replicate_succ', ←List.append_assoc,List.append_assoc (fJ s++_),List.set_append_right _ _ (by simp;omega)]
  congr 2
  have hd:(eC (8*s.length)).drop (8 - (i+1))=UInt8.ofNat (8*s.length / 2 ^ (8*i))::(eC (8*s.length)).drop (8 - (i+1)+1):=by
    rw [List.drop_eq_getElem_cons (by simp;omega)]
    congr 1
    have:=zb (8*s.length) (8 - (i+1)) (by omega)
    rw [List.getElem?_eq_getElem (by simp;omega)]at this
    rw [Option.some.inj this,show 7 - (8 - (i+1))=i by omega]
  rw [hd,show 0+(63 - i)*1 - (fJ s++List.replicate (8 - (i+1)) (0:UInt8)).length=0 by simp;omega]
  rfl
def fin (s:List UInt8):S8:=fg ((pad s).length / 64) h0 (pad s)
theorem A2 (s:List UInt8):comp (gY s) (fJ s++eC (8*s.length))=fin s:=by
  have hr:=dR s
  have hz:=rl s.length
  have hp:=s4 s
  have split:pad s=s.take (64*(s.length / 64))++(rem s++ [128]++List.replicate (gO s.length) 0++eC (8*s.length)):=by
    conv=>lhs;rw [pad];rw [ni s]
    have:(s.take (64*(s.length / 64))++rem s).length=s.length:=by rw [←ni s]
    rw [this]
    simp [List.append_assoc]
  have hhs:fg (s.length / 64) h0 (s.take (64*(s.length / 64)))=hs s:=by
    unfold hs
    conv=>rhs;rw [ni s]
    rw [nY _ _ _ _ (by simp;omega)]
    congr 1
    simp;omega
  unfold fin
  by_cases h:s.length % 64+1>56
  · have hzz : gO s.length = (63 - s.length % 64) + 56 := by omega
    rw [show(pad s).length / 64=s.length / 64+(1+1) by omega,split,rL _ _ _ _ _ (by simp;omega),hhs,gY,fJ,if_pos h,if_pos h,hzz, ←List.replicate_append_replicate]
    rw [show rem s++ [128]++(List.replicate (63 - s.length % 64) 0++List.replicate 56 0)++eC (8*s.length)=(rem s++ [128]++List.replicate (63 - s.length % 64) 0)++(List.replicate 56 0++eC (8*s.length)) by simp [List.append_assoc]]
    rw [rL 1 1 _ _ _ (by simp;omega)]
    simp only [fg]
    rw [List.take_of_length_le (by simp;omega),List.take_of_length_le (by simp)]
  · have hzz : gO s.length = 55 - s.length % 64 := by omega
    rw [show(pad s).length / 64=s.length / 64+1 by omega,split,rL _ _ _ _ _ (by simp;omega),hhs,gY,fJ,if_neg h,if_neg h,hzz]
    simp only [fg]
    rw [List.take_of_length_le (by simp;omega)]
end Go.Abs.D2
-- D2R
namespace Go.Abs.D2
open Go Go.Eng Go.Abs
def c7 (x:Nat):Nat:=if x=0 then 0 else x.log2+1
theorem IT {x:Nat} (k:Nat) (h:2 ^ k≤x):c7 x=k+c7 (x>>>k):=by
  have hk:0<2 ^ k:=Nat.two_pow_pos k
  have hx:x≠0:=by omega
  have hs:x>>>k≠0:=by
    rw [Nat.shiftRight_eq_div_pow]
    have:=Nat.div_pos h hk
    omega
  have h1:(x>>>k).log2+k=x.log2:=by
    refine((Nat.log2_eq_iff hx).2 ⟨?_,?_⟩).symm
    · have := Nat.log2_self_le hs
      rw [Nat.shiftRight_eq_div_pow]at this ⊢
      rw [Nat.pow_add]
      exact(Nat.le_div_iff_mul_le hk).1 this
    · have := Nat.lt_log2_self (n := x >>> k)
      rw [Nat.shiftRight_eq_div_pow]at this ⊢
      rw [show(x / 2 ^ k).log2+k+1=((x / 2 ^ k).log2+1)+k by omega,Nat.pow_add]
      exact(Nat.div_lt_iff_lt_mul hk).1 this
  simp only [c7,hx,hs,if_false]
  omega
def BM:List UInt8:=(List.range 256).map fun j=>UInt8.ofNat (c7 j)
theorem mD (j:Nat) (h:j<256):BM[j]? =some (UInt8.ofNat (c7 j)):=by simp [BM,h]
theorem lM {j:Nat} (h:j<256):c7 j≤8:=by
  unfold c7
  split
  · omega
  · have : j.log2 < 8 := (Nat.log2_lt (by omega)).2 (by omega)
    omega
theorem ye {n:Nat} (h:n<256):(UInt8.ofNat n).toNat=n:=by rw [UInt8.toNat_ofNat'];exact Nat.mod_eq_of_lt h
theorem mF {n:Nat} (h:n<256):((UInt8.ofNat n).toNat:Int)=(n:Int):=by rw [ye h]
theorem mE {j:Nat} (h:j<256):A.i .i64 (IntKind.i64.wrap ((UInt8.ofNat (c7 j)).toNat:Int))=A.i .i64 (c7 j:Nat):=by
  have:=lM h
  rw [ye (by omega),mJ _ (by omega) (by omega)]
theorem nk (X:BitVec 64) (k:Nat) (h:2 ^ k≤X.toNat):c7 X.toNat=k+c7 (X>>>k).toNat:=by
  rw [BitVec.toNat_ushiftRight];exact IT k h
theorem nH (X:BitVec 64) (k m:Nat) (h:X.toNat<2 ^ (k+m)):(X>>>k).toNat<2 ^ m:=by
  rw [BitVec.toNat_ushiftRight,Nat.shiftRight_eq_div_pow]
  exact Nat.div_lt_of_lt_mul (by rw [←Nat.pow_add];exact h)
@[irreducible] def a8 (n:Nat):Nat:=2 ^ (n - 1).log2
theorem vB {n:Nat} (h:n<18446744073709551616):(a6 n).toNat=n:=by rw [BitVec.toNat_ofNat];exact Nat.mod_eq_of_lt h
theorem BK {x:Nat} (h:0<x):c7 x=x.log2+1:=by unfold c7;rw [if_neg (by omega)]
theorem IS {x:Nat} (h:x<18446744073709551616):c7 x≤9223372036854775807:=by
  unfold c7
  split
  · omega
  · have : x.log2 < 64 := (Nat.log2_lt (by omega)).2 (by omega)
    omega
theorem fU {n:Nat} (h:2≤n):0<a8 n∧a8 n<n∧n≤2*a8 n:=by
  unfold a8
  have h1:=Nat.log2_self_le (n:=n - 1) (by omega)
  have h2:=Nat.lt_log2_self (n:=n - 1)
  rw [Nat.pow_succ]at h2
  exact⟨Nat.two_pow_pos _,by omega,by omega⟩
theorem LY {n:Nat} (h:2≤n) (hn:n≤1099511627776):A.i .i64 (IntKind.i64.wrap (1*2 ^ min (((n - 1).log2:Nat):Int).toNat IntKind.i64.bits))=A.i .i64 (a8 n:Nat):=by
  have hl:(n - 1).log2<41:=(Nat.log2_lt (by omega)).2 (by omega)
  have hb:min (((n - 1).log2:Nat):Int).toNat IntKind.i64.bits=(n - 1).log2:=by simp [IntKind.bits];omega
  have hh:=fU h
  rw [hb,Int.one_mul,show((2:Int) ^ (n - 1).log2)=((a8 n:Nat):Int) by simp [a8],mJ _ (by omega) (by omega)]
end Go.Abs.D2
-- D2T
namespace Go.Abs.D2
open Go Go.Eng Go.Abs
abbrev bD (L:List (List UInt8)):A:= .fz L.length (L.flatten.map u8)
def aL (L:List (List UInt8)):Prop:=∀x∈L,x.length=32
theorem aL.take {L:List (List UInt8)} (h:aL L) (k:Nat):aL (L.take k):=fun x hx=>h x (List.mem_of_mem_take hx)
theorem aL.drop {L:List (List UInt8)} (h:aL L) (k:Nat):aL (L.drop k):=fun x hx=>h x (List.mem_of_mem_drop hx)
theorem aL.len {L:List (List UInt8)} (h:aL L):L.flatten.length=L.length*32:=by
  induction L with
  |nil=>rfl
  | cons x L ih =>
    rw [List.flatten_cons,List.length_append,h x (.head _),ih fun y hy=>h y (.tail _ hy),List.length_cons];omega
theorem aL.p8:∀ {L:List (List UInt8)} (_:aL L) (k:Nat),L.flatten.drop (k*32)=(L.drop k).flatten
  | [],_,k=>by simp
  |x::L,h,0=>by simp
  | x :: L, h, k + 1 => by
    rw [List.flatten_cons,List.drop_succ_cons,show(k+1)*32=32+k*32 by omega, ←List.drop_drop,List.drop_left' (h x (.head _))]
    exact aL.p8 (fun y hy=>h y (.tail _ hy)) k
theorem aL.uu:∀ {L:List (List UInt8)} (_:aL L) (k:Nat),L.flatten.take (k*32)=(L.take k).flatten
  | [],_,k=>by simp
  |x::L,h,0=>by simp
  | x :: L, h, k + 1 => by
    rw [List.flatten_cons,List.take_succ_cons,List.flatten_cons,show(k+1)*32=32+k*32 by omega,List.take_add,List.take_left' (h x (.head _)),List.drop_left' (h x (.head _))]
    rw [aL.uu (fun y hy=>h y (.tail _ hy)) k]
theorem vS {L:List (List UInt8)} (h:aL L) {k:Nat} (hk:k≤L.length):A.fz k (((L.flatten.map u8).drop (0*32)).take (k*32))=bD (L.take k):=by
  rw [Nat.zero_mul,List.drop_zero, ←List.map_take,h.uu,bD,List.length_take,Nat.min_eq_left hk]
theorem vR {L:List (List UInt8)} (h:aL L) {k m:Nat} (hk:L.length - k=m):A.fz m (((L.flatten.map u8).drop (k*32)).take (m*32))=bD (L.drop k):=by
  subst hk
  rw [←List.map_drop,h.p8,bD,List.length_drop]
  congr 1
  exact List.take_of_length_le (by rw [List.length_map,(h.drop k).len,List.length_drop];omega)
theorem GD {x:List UInt8} (h:x.length=32):A.fz 32 (((([x].flatten.map u8).drop (0*32)).drop (0*1)).take (32*1))= .fz x.length (x.map u8):=by
  simp only [List.flatten_cons,List.flatten_nil,List.append_nil,Nat.zero_mul,List.drop_zero,Nat.mul_one]
  rw [List.take_of_length_le (by simp [h]),h]
def jw (a b:List UInt8):List UInt8:=tagged [110,111,100,101] (a++b)
def k9:Nat→List (List UInt8)→List UInt8
  |_, []=>tagged [101,109,112,116,121] []
  |_, [x]=>tagged [108,101,97,102] x
  |0,_=> []
  |f+1,L=>jw (k9 f (L.take (a8 L.length))) (k9 f (L.drop (a8 L.length)))
theorem yc {f:Nat} {L:List (List UInt8)} (h:2≤L.length):k9 (f+1) L=jw (k9 f (L.take (a8 L.length))) (k9 f (L.drop (a8 L.length))):=by
  match L,h with
  |_::_::_,_=>rfl
theorem uy:∀(f g:Nat) (L:List (List UInt8)),L.length≤f→L.length≤g→k9 f L=k9 g L
  |_,_, [],_,_=>by simp only [k9]
  |_,_, [x],_,_=>by simp only [k9]
  |0,_,_::_::_,h,_=>by simp at h
  |_,0,_::_::_,_,h=>by simp at h
  | f + 1, g + 1, a :: b :: L, h1, h2 => by
    have hh:=fU (n:=(a::b::L).length) (by simp)
    have e:2≤(a::b::L).length:=by simp
    rw [yc e,yc e]
    congr 1
    · exact uy f g _ (by rw [List.length_take];omega) (by rw [List.length_take];omega)
    · exact uy f g _ (by rw [List.length_drop];omega) (by rw [List.length_drop];omega)
@[irreducible] def tree (L:List (List UInt8)):List UInt8:=k9 L.length L
theorem Ec:tree []=tagged [101,109,112,116,121] []:=by unfold tree;rfl
theorem yd (x:List UInt8):tree [x]=tagged [108,101,97,102] x:=by unfold tree;rfl
theorem uz {L:List (List UInt8)} (h:2≤L.length):tree L=jw (tree (L.take (a8 L.length))) (tree (L.drop (a8 L.length))):=by
  have hh:=fU h
  unfold tree
  obtain⟨f,hf⟩:∃f,L.length=f+1:=⟨L.length - 1,by omega⟩
  conv=>lhs;rw [hf]
  rw [yc h]
  congr 1
  · exact uy _ _ _ (by rw [List.length_take];omega) (Nat.le_refl _)
  · exact uy _ _ _ (by rw [List.length_drop];omega) (Nat.le_refl _)
@[simp] theorem jt (L : List (List UInt8)) : (tree L).length = 32 := by
  match L with
  | []=>rw [Ec,mn]
  | [x]=>rw [yd,mn]
  |a::b::r=>rw [uz (by simp)];exact mn _ _
def iM:Nat→List (List UInt8)→Nat→List (List UInt8)
  |0,_,_=> []
  |f+1,L,i=>if L.length≤1 then []else if i<a8 L.length then iM f (L.take (a8 L.length)) i++ [tree (L.drop (a8 L.length))]else iM f (L.drop (a8 L.length)) (i - a8 L.length)++ [tree (L.take (a8 L.length))]
theorem tR:∀(f g:Nat) (L:List (List UInt8)) (i:Nat),L.length≤f→L.length≤g→iM f L i=iM g L i
  |0,0,_,_,_,_=>rfl
  |0,g+1,L,i,h,_=>by rw [iM,iM,if_pos (by omega)]
  |f+1,0,L,i,_,h=>by rw [iM,iM,if_pos (by omega)]
  | f + 1, g + 1, L, i, h1, h2 => by
    rw [iM,iM]
    by_cases h:L.length≤1
    · rw [if_pos h,if_pos h]
    · have hh := fU (n := L.length) (by omega)
      rw [if_neg h,if_neg h,tR f g (L.take _) _ (by rw [List.length_take];omega) (by rw [List.length_take];omega),tR f g (L.drop _) _ (by rw [List.length_drop];omega) (by rw [List.length_drop];omega)]
@[irreducible] def path (L:List (List UInt8)) (i:Nat):List (List UInt8):=iM L.length L i
theorem mw {L:List (List UInt8)} (i:Nat) (h:L.length≤1):path L i= []:=by
  unfold path
  match L,h with
  | [],_=>rfl
  | [x],_=>rfl
theorem oR {L:List (List UInt8)} {i:Nat} (h:2≤L.length) (hi:i<a8 L.length):path L i=path (L.take (a8 L.length)) i++ [tree (L.drop (a8 L.length))]:=by
  have hh:=fU h
  unfold path
  obtain⟨f,hf⟩:∃f,L.length=f+1:=⟨L.length - 1,by omega⟩
  conv=>lhs;rw [hf,iM,if_neg (by omega),if_pos hi]
  rw [tR f _ _ _ (by rw [List.length_take];omega) (Nat.le_refl _)]
theorem oS {L:List (List UInt8)} {i:Nat} (h:2≤L.length) (hi:¬i<a8 L.length):path L i=path (L.drop (a8 L.length)) (i - a8 L.length)++ [tree (L.take (a8 L.length))]:=by
  have hh:=fU h
  unfold path
  obtain⟨f,hf⟩:∃f,L.length=f+1:=⟨L.length - 1,by omega⟩
  conv=>lhs;rw [hf,iM,if_neg (by omega),if_neg hi]
  rw [tR f _ _ _ (by rw [List.length_drop];omega) (Nat.le_refl _)]
theorem aL.app {L M:List (List UInt8)} (h:aL L) (h':aL M):aL (L++M):=fun x hx=>(List.mem_append.1 hx).elim (h x) (h' x)
theorem aL.one {x:List UInt8} (h:x.length=32):aL [x]:=fun y hy=>by rw [List.mem_singleton.1 hy];exact h
theorem nU : ∀ (n : Nat) (L : List (List UInt8)) (i : Nat), L.length ≤ n → aL (path L i)
  |0,L,i,h=>by rw [mw i (by omega)];exact fun x hx=>by cases hx
  | n + 1, L, i, h => by
    by_cases h1:L.length≤1
    · rw [mw i h1];exact fun x hx=>by cases hx
    · have hh := fU (n := L.length) (by omega)
      by_cases hi:i<a8 L.length
      · rw [oR (by omega) hi]
        exact(nU n _ _ (by rw [List.length_take];omega)).app (.one (jt _))
      · rw [oS (by omega) hi]
        exact(nU n _ _ (by rw [List.length_drop];omega)).app (.one (jt _))
theorem s5 : ∀ (n : Nat) (L : List (List UInt8)) (i : Nat), L.length ≤ n → (path L i).length ≤ n
  |0,L,i,h=>by rw [mw i (by omega)];simp
  | n + 1, L, i, h => by
    by_cases h1:L.length≤1
    · rw [mw i h1];simp
    · have hh := fU (n := L.length) (by omega)
      by_cases hi:i<a8 L.length
      · rw [oR (by omega) hi, List.length_append]
        have:=s5 n (L.take (a8 L.length)) i (by rw [List.length_take];omega)
        simp;omega
      · rw [oS (by omega) hi, List.length_append]
        have:=s5 n (L.drop (a8 L.length)) (i - a8 L.length) (by rw [List.length_drop];omega)
        simp;omega
end Go.Abs.D2
-- AbsK
namespace Go.Abs
open Go Go.Eng
inductive mP (P:Program) (ops:Array Oper) (n:Nat) (Eb:Ev) (st:St) (j:Nat) (want:Bool):Ev→List Oper→Ev→List Oper→Prop where
  |done {E l}:mP P ops n Eb st j want E l E l
  |step {E F:Ev} {d:Nat} {op:Op} {ty:TypeId} {pos:String} {az:Array Edge} {v:A} {l rest:List Oper} (hy:YO P E st op ty v) (hd:Nat.ble (d+1) n=true) (hf:Eb.aR d=none) (h:mP P ops n Eb st j want ((d,v)::E) l F rest):
      mP P ops n Eb st j want E (⟨some d,op,ty,pos,az,some (j,want)⟩::l) F rest
section
variable {r:Option Nat} {ds0:List Deferred}
variable {P:Program} {w0:Bw} {X0:Xs} {n:Nat} {E Eb F:Ev} {st:St} {ops:Array Oper} {Q:Exit→Act→World→Prop} {j t:Nat} {want:Bool} {l rest:List Oper}
theorem Bq (hj:dc ops j=some t) (ht:Eb.aR t=some (.b want)) (h:mP P ops n Eb st j want E l F rest):E.aR t=some (.b want)→At w0 X0 n F st (Pw ds0 (wpListIn (rF r) 0 P ops Q rest))→At w0 X0 n E st (Pw ds0 (wpListIn (rF r) 0 P ops Q l)):=by
  induction h with
  |done=>exact fun _ h=>h
  | @step E F d op ty pos az v l rest hy hd hf h ih =>
    intro hE hK
    have hdt:d≠t:=fun e=>by subst e;rw [hf]at ht;cases ht
    refine g1 hj hE hy hd (ih ?_ hK)
    simp only [Ev.aR]
    rw [show Nat.beq d t=false from(by cases hb:Nat.beq d t with|false=>rfl|true=>exact absurd (Nat.eq_of_beq_eq_true hb) hdt)]
    exact hE
def qX (j : Nat) (want : Bool) (Eb : Ev) (n : Nat) : Nat → List Oper → Bool
  |0,_=>true
  |_+1, []=>false
  | k + 1, o :: r => match o.dst, o.guard with
    |some d,some (j',w)=>Nat.beq j j'&&(w==want)&&Nat.ble (d+1) n&&(Eb.aR d).isNone&&qX j want Eb n k r
    |_,_=>false
theorem xX (hj:dc ops j=some t) (ht:Eb.aR t=some (.b (!want))):∀(k:Nat) (l:List Oper) (E1:Ev),qX j want Eb n k l=true→(∀s v,Eb.aR s=some v→E1.aR s=some v)→At w0 X0 n Eb st (Pw ds0 (wpListIn (rF r) 0 P ops Q (l.drop k)))→At w0 X0 n E1 st (Pw ds0 (wpListIn (rF r) 0 P ops Q l))
  |0,l,E1,_,hl,hK=>fun a w hr=>hK a w (hr.weaken hl (fun _ _ h=>h) (fun _ h=>h))
  |k+1, [],_,h,_,_=>by cases h
  | k + 1, o :: r, E1, h, hl, hK => by
    simp only [qX]at h
    split at h
    · rename_i d j' w hd hg
      simp only [Bool.and_eq_true,beq_iff_eq,Option.isNone_iff_eq_none]at h
      obtain⟨⟨⟨⟨h1,h2⟩,h3⟩,h4⟩,h5⟩:=h
      have h1:=Nat.eq_of_beq_eq_true (by simpa using h1:Nat.beq j j'=true)
      have h2:=h2.symm
      subst h1;subst h2
      obtain⟨d',op,ty,pos,az,g⟩:=o
      simp only at hd hg
      subst hd;subst hg
      refine g0 (b:=want) (b':=!want) hj (hl _ _ ht) rfl h3 (xX hj ht k r _ h5 (fun s v hs=>?_) hK)
      simp only [Ev.aR]
      cases hb:Nat.beq d s with
      |true=>rw [←Nat.eq_of_beq_eq_true hb,h4]at hs;cases hs
      |false=>exact hl s v hs
    · cases h
theorem Bp (h:mP P ops n Eb st j want E l F rest):(∀s u,Eb.aR s=some u→E.aR s=some u)→∀s u,Eb.aR s=some u→F.aR s=some u:=by
  induction h with
  |done=>exact fun h=>h
  | @step E F d op ty pos az v l rest hy hd hf h ih =>
    intro hl
    refine ih fun s u hs=>?_
    simp only [Ev.aR]
    cases hb:Nat.beq d s with
    |true=>rw [←Nat.eq_of_beq_eq_true hb,hf]at hs;cases hs
    |false=>exact hl s u hs
variable {d:Nat} {ty:TypeId} {pos:String} {az:Array Edge} {x y:Operand} {b c:Bool}
theorem Bo {E':Ev} {u:A} {K:Act→World→Prop} (hF:∀s v,E.aR s=some v→E'.aR s=some v) (h:At w0 X0 n ((d,u)::E) st K):At w0 X0 n ((d,u)::E') st K:=fun a w hr=>
  h a w (hr.weaken (fun s v hs => by
    simp only [Ev.aR]at hs ⊢
    cases hb:Nat.beq d s with
    |true=>rw [hb]at hs;exact hs
    |false=>rw [hb]at hs;exact hF s v hs) (fun _ _ h=>h) (fun _ h=>h))
theorem jW (k:Nat) (hj:dc ops j=some t) (ht:E.aR t=some (.b b)) (hB:qX j false E n k l=true) (hl:l.drop k=⟨some d,.pick (.tmp t) (.const (.bool true)) y,ty,pos,az,none⟩::rest)
    (hrun:b=false→mP P ops n E st j false E l F (l.drop k)) (hy:ev F y=some (.b c)) (hd:Nat.ble (d+1) n=true)
    (h:At w0 X0 n ((d,.b (b||c))::E) st (Pw ds0 (wpListIn (rF r) 0 P ops Q rest))):At w0 X0 n E st (Pw ds0 (wpListIn (rF r) 0 P ops Q l)):=by
  cases b with
  | true =>
    refine xX (want:=false) hj ht k l E hB (fun _ _ h=>h) ?_
    rw [hl]
    refine s1 (v:= .b true) (aa ?_) hd h
    have e:ev E (.tmp t)=some (.b true):=ht
    simp only [kS,e]
    rfl
  | false =>
    have hg:=hrun rfl
    have hlv:=Bp hg (fun _ _ h=>h)
    refine Bq hj ht hg ht ?_
    rw [hl]
    refine s1 (v:= .b c) (aa ?_) hd (Bo hlv h)
    have e:ev F (.tmp t)=some (.b false):=hlv _ _ ht
    simp only [kS,e,hy]
theorem dG (k:Nat) (hj:dc ops j=some t) (ht:E.aR t=some (.b b)) (hB:qX j true E n k l=true) (hl:l.drop k=⟨some d,.pick (.tmp t) y (.const (.bool false)),ty,pos,az,none⟩::rest)
    (hrun:b=true→mP P ops n E st j true E l F (l.drop k)) (hy:ev F y=some (.b c)) (hd:Nat.ble (d+1) n=true)
    (h:At w0 X0 n ((d,.b (b&&c))::E) st (Pw ds0 (wpListIn (rF r) 0 P ops Q rest))):At w0 X0 n E st (Pw ds0 (wpListIn (rF r) 0 P ops Q l)):=by
  cases b with
  | false =>
    refine xX (want:=true) hj ht k l E hB (fun _ _ h=>h) ?_
    rw [hl]
    refine s1 (v:= .b false) (aa ?_) hd h
    have e:ev E (.tmp t)=some (.b false):=ht
    simp only [kS,e]
    rfl
  | true =>
    have hg:=hrun rfl
    have hlv:=Bp hg (fun _ _ h=>h)
    refine Bq hj ht hg ht ?_
    rw [hl]
    refine s1 (v:= .b c) (aa ?_) hd (Bo hlv h)
    have e:ev F (.tmp t)=some (.b true):=hlv _ _ ht
    simp only [kS,e,hy]
end
end Go.Abs
-- AbsM
namespace Go.Abs
open Go Go.Eng
theorem AY (size:Nat):∀(vs:List (Value×List Value)) (k:Nat) (pre z:List Value),(∀p∈vs,p.1.cells=p.2.toArray∧p.2.length=size)→pre.length=k*size→vs.length*size≤z.length→
    Instr.fill (fun i=>some (i*size,size)) (pre++z).toArray (eM vs k)=some (pre++flat vs++z.drop (vs.length*size)).toArray
  | [],_,pre,z,_,_,_=>by simp [eM,flat,Instr.fill]
  | (v, c) :: r, k, pre, z, hv, hp, hz => by
    obtain⟨h1,h2⟩:=hv (v,c) (by simp)
    simp only at h1 h2
    have hz':(r.length+1)*size≤z.length:=by simpa using hz
    rw [Nat.add_mul,Nat.one_mul]at hz'
    simp only [eM,Instr.fill,h1,List.size_toArray,h2]
    have hno:¬((decide (size≠size)||decide (k*size+size>(pre++z).length))=true):=by
      rw [List.length_append,hp]
      simp;omega
    rw [if_neg hno]
    have hw:=uB c 0 (k*size) pre z (by omega) (by omega)
    have ez:c.toArray.zipIdx=(c.zipIdx 0).toArray:=by simp
    rw [ez,List.foldl_toArray]
    refine Eq.trans (congrArg (fun a=>Instr.fill (fun i=>some (i*size,size)) a (eM r (k+1))) hw) ?_
    rw [AY size r (k+1) (pre++c) (z.drop c.length) (fun p hp=>hv p (by simp [hp])) (by rw [List.length_append,hp,h2,Nat.add_mul,Nat.one_mul]) (by rw [List.length_drop];omega)]
    simp only [flat,List.drop_drop,List.length_cons,h2,List.append_assoc]
    rw [show size+r.length*size=(r.length+1)*size by rw [Nat.add_mul,Nat.one_mul];omega]
section
variable {P:Program} {w0:Bw} {X0:Xs} {n:Nat} {E:Ev} {st:St} {β:Bm} {X:Xs} {a:Act} {w:World} {Q:Exit→Act→World→Prop} {K:Act→World→Prop}
theorem M6 {t e : TypeId} {len size by' by2 : Nat} {zero zero' : List Value} {agg : Bool} {parts : List (Nat × Operand)} {vs out : List A} {ty : TypeId} (ht : TI P t len by' zero true) (hzl : zero.length = len) (hz1 : zero.all (·.oneCell') = true) (hu : P.underlying t = some (.array len e)) (he : TI P e size by2 zero' agg) (hs : size = 1)
    (hp:fm E parts 0=some vs) (hlen:vs.length≤len) (h1:vs.all one=true) (ho:vs++(zero.map aW).drop vs.length=out):YO P E st (.build t parts.toArray) ty (.ag out):=by
  subst hs;subst ho
  intro w0 X0 n β X a w hr
  have key:∀(parts:List (Nat×Operand)) (k:Nat) (vs:List A),fm E parts k=some vs→vs.all one=true→∃us:List Value,fA (full a) parts=some (eM (eQ us) k)∧VS X w β vs us∧∀x∈us,x.oneCell'=true:=by
    intro parts
    induction parts with
    |nil=>intro k vs h _;simp only [fm,Option.some.injEq]at h;subst h;exact⟨[],rfl,dB,(fun x hx=>by cases hx)⟩
    | cons p r ih =>
      intro k vs h h1
      obtain⟨i,x⟩:=p
      simp only [fm]at h
      split at h
      · rename_i v vs' hik hx hrest
        simp only [Option.some.injEq]at h
        subst h
        simp only [List.all_cons,Bool.and_eq_true]at h1
        have:i=k:=Nat.eq_of_beq_eq_true hik
        subst this
        obtain⟨us,g1,g2,g3⟩:=ih (i+1) vs' hrest h1.2
        obtain⟨e1,e2⟩:=hr.bq hx
        exact⟨a.eval x::us,by simp only [fA,e1,g1,eQ,eM],cZ e2 g2,fun q hq=>by rcases List.mem_cons.1 hq with rfl|hq;exact uY h1.1 e2;exact g3 q hq⟩
      · cases h
  obtain⟨us,g1,g2,g3⟩:=key parts 0 vs hp h1
  have hul:=cJ g2
  have hzv:VS X w β ((zero.map aW).drop vs.length) (zero.drop vs.length):=jb (mS zero) _
  refine⟨.agg (us++zero.drop us.length).toArray,?_,fun d pos az g w' _=>?_⟩
  · simp only [V]
    refine⟨_,rfl,eH g2 (by rw [hul];exact hzv),fun x hx=>?_⟩
    rcases List.mem_append.1 hx with hx|hx
    · exact g3 x hx
    · exact List.all_eq_true.1 hz1 x (List.mem_of_mem_drop hx)
  obtain⟨z,hz',hzc⟩:=ht.zeroValue w'
  have hfill:Instr.fill (fun i=>some (i*1,1)) zero.toArray (eM (eQ us) 0)=some (us++zero.drop us.length).toArray:=by
    have hol:∀l:List Value,(eQ l).length=l.length:=fun l=>by induction l with|nil=>rfl|cons x l ih=>simp [eQ,ih]
    have:=AY 1 (eQ us) 0 [] zero (tJ g3) (by simp) (by rw [hol,hul,hzl];omega)
    rw [List.nil_append,List.nil_append,sJ,hol,Nat.mul_one]at this
    exact this
  have:(Instr.build t (eM (eQ us) 0).toArray).run P w'= .ok (.agg (us++zero.drop us.length).toArray) w':=by
    unfold Instr.build
    rw [Sem.run_bind,hz']
    simp only [Result.andThen_ok,hzc]
    rw [Sem.run_bind,run_underlying hu]
    simp only [Result.andThen_ok]
    rw [Sem.run_bind,he.sizeOf w']
    simp only [Result.andThen_ok,hfill]
    rfl
  have e:execOp a.eval ⟨d,.build t parts.toArray,ty,pos,az,g⟩=Next.value<$>Instr.build t (parts.toArray.map fun(i,x)=>(i,a.eval x)):=by simp [execOp]
  have e0:(parts.toArray.map fun(i,x)=>(i,a.eval x))=(eM (eQ us) 0).toArray:=by rw [List.map_toArray,(dQ a hr.defers).fA g1]
  rw [e,e0,Sem.run_map,this]
  rfl
theorem jQ (k j : Nat) {id s off m : Nat} {cs ds vs vs' : List A} (hk : st.get k = some vs) (hj : vs[j]? = some (.sl id s off m)) (hg : st.get id = some cs) (hne : Nat.beq id k = false) (hp : bL cs) (hd : (cs.drop off).take (m * s) = ds) (hvs : vs.set j (.fz m ds) = vs') (h : At w0 X0 n E ((st.del id).put k vs') K) : At w0 X0 n E st K := by
  rintro a w ⟨β,X,hr⟩
  subst hd;subst hvs
  have hob:=hr.mem.obj k vs hk
  have hne':id≠k:=Nat.ne_of_beq_eq_false hne
  obtain⟨x,hβk⟩:∃x,β k=some x:=by
    unfold OB at hob
    split at hob
    · exact hob.elim
    · rename_i hb;exact⟨_,hb⟩
    · rename_i hb;exact⟨_,hb⟩
    · rename_i hb;exact⟨_,hb⟩
  cases x with
  | mp b =>
    obtain⟨_,_,_,f,_,_,e,_⟩:=hob.dY hβk
    subst e
    cases j with
    |zero=>simp at hj
    |succ j=>simp at hj
  | ph =>
    unfold OB at hob
    rw [hβk]at hob
    simp only at hob
    subst hob
    simp at hj
  | bk b N =>
    have hob':=hob
    unfold OB at hob
    rw [hβk]at hob
    simp only at hob
    obtain⟨_,_,us,rest,ty,hw,hl,hvs,hone⟩:=hob
    obtain⟨u,hu,hvu⟩:=fx hvs hj
    obtain⟨X1,m1,m2,m3,m4⟩:=wM hr.mem hg hp hvu
    have hk1:(st.del id).get k=some vs:=by rw [St.mi,if_neg hne'];exact hk
    have hob1:=m1.obj k vs hk1
    unfold OB at hob1
    rw [hβk]at hob1
    simp only at hob1
    obtain⟨q1,q2,us',rest',ty',q3,q4,q5,q6⟩:=hob1
    have huse:us'++rest'=us++rest∧us'.length=us.length:=by
      rw [hw]at q3
      have:=Option.some.inj q3
      have h2:(us++rest).toArray=(us'++rest').toArray:=by
        unfold row at this
        injection this
      have h3:=cJ q5
      have h4:=cJ hvs
      exact⟨by simpa using congrArg Array.toList h2.symm,by omega⟩
    have hus:us'=us:=List.append_inj_left huse.1 huse.2
    subst hus
    have hset:VS X1 w β (vs.set j (.fz m ((cs.drop off).take (m*s)))) us':=by
      have:=yK q5 (j:=j) (m4 s off m u hvu)
      have e:us'.set j u=us':=by
        refine List.ext_getElem (by simp) fun i h1 h2=>?_
        rw [List.getElem_set]
        split
        · rename_i e; subst e
          have:=(List.getElem?_eq_some_iff.1 hu).2
          exact this.symm
        · rfl
      rwa [e]at this
    refine h a w ⟨β,X1,.of (fun b o h=>(m2 b o (hr.x0 b o h)).1) (fun b o h=>(m3 b o h).elim (hr.xn b o) .inr) (.of m1.below m1.b0 m1.xlt (fun i hi=>?_) (fun i c hi=>?_) (fun i i2 ci cj b M N hij hi hj' h1 h2=>?_)) (hr.gl.mono m2) hr.size hr.defers (fun s hs=>cu.jG m2 (hr.sslot s hs)) (fun t v ht=>?_)⟩
    · rw [St.en] at hi
      split at hi
      · cases hi
      · exact m1.dom i hi
    · rw [St.cg] at hi
      split at hi
      · rename_i e; subst e
        simp only [Option.some.injEq]at hi
        subst hi
        unfold OB
        rw [hβk]
        exact⟨q1,q2,us',rest',ty',q3,q4,hset,q6⟩
      · exact m1.obj i c hi
    · skip
      have g':∀i c,((st.del id).put k (vs.set j (.fz m ((cs.drop off).take (m*s))))).get i=some c→∃c',(st.del id).get i=some c':=fun i c hi=>by
        rw [St.cg]at hi
        split at hi
        · rename_i e;subst e;exact⟨_,hk1⟩
        · exact⟨c,hi⟩
      obtain⟨c1,e1⟩:=g' _ _ hi
      obtain⟨c2,e2⟩:=g' _ _ hj'
      exact m1.inj _ _ _ _ _ _ _ hij e1 e2 h1 h2
    · obtain ⟨u, g1, g2⟩ := hr.slot t v ht
      exact⟨u,g1,dO m2 _ _ _ _ (bK.refl β) g2⟩
theorem ES {u:Value} (h:V X w β .nl u):V X w β (.fz 0 []) u:=by
  simp only [V]at h ⊢
  subst h
  exact⟨none,0,rfl,Nat.le_refl _,Nat.zero_le _,fun _=>rfl,(fun h=>absurd h (Nat.lt_irrefl _)),by simp [VM]⟩
theorem aB.MQ {f:FuncId} {args:List A} {r r':A} (h:aB P f args (aU r)) (hw:∀X w β u,V X w β r u→V X w β r' u):aB P f args (aU r'):=by
  intro w X β us hd hx hg ho hi hv
  refine(h w X β us hd hx hg ho hi hv).mono fun v w' hp=>?_
  obtain⟨q,β',X',st',hr,h1,h2,h3,h4⟩:=hp
  have:q=r:=hr
  subst this
  exact⟨r',β',X',st',rfl,h1,h2,h3,hw _ _ _ _ h4⟩
theorem aB.cast {f:FuncId} {args:List A} {r r':A} (h:aB P f args (aU r)) (e:r=r'):aB P f args (aU r'):=e ▸ h
theorem CC {src dst ty:TypeId} {x:Operand} {ds:TypeDesc} {j:Int} {k:IntKind} (n:Nat) (hs:P.underlying src=some ds) (ht:P.underlying dst=some (.int .u8)) (hx:ev E x=some (.i k j)) (hj:j=(n:Int)):YO P E st (.convert src dst x) ty (u8 (UInt8.ofNat n)):=by
  subst hj
  refine(cU hs ht hx).v (congrArg (A.i .u8) ?_)
  rw [UInt8.toNat_ofNat']
  simp [IntKind.wrap,IntKind.signed,IntKind.bits]
theorem Bb (w:World) (p:Addr) (n:Nat):(w.freeze p n).heap.size=w.heap.size∧∀k:Nat,k≠p.block→(w.freeze p n).heap[k]? =w.heap[k]? :=by
  unfold World.freeze
  split
  · exact⟨rfl,fun _ _=>rfl⟩
  · exact⟨by simp,fun k hk=>by simp [Array.getElem?_modify,Ne.symm hk]⟩
theorem HT (w:World) (p:Addr) (n:Nat) (a:Addr):(w.freeze p n).cell? a=w.cell? a:=by
  unfold World.freeze
  split
  · rfl
  · unfold World.cell?
    simp only [Array.getElem?_modify]
    by_cases h:p.block=a.block
    · simp only [h, if_true]
      cases hb:w.heap[a.block]? with
      |none=>rfl
      |some o=>cases o<;>simp
    · simp only [h,if_false]
theorem HU (w:World) (p:Addr) (n b:Nat) (hb:w.heap[b]? =some (Obj.deferred (some []))∨∃r:Loop,w.heap[b]? =some (Obj.loop r)):(w.freeze p n).heap[b]? =w.heap[b]? :=by
  by_cases h:b=p.block
  · subst h
    unfold World.freeze
    split
    · rfl
    · rcases hb with hb|⟨_,hb⟩<;>simp [Array.getElem?_modify,hb]
  · exact(Bb w p n).2 b h
theorem HV (w:World) (p:Addr) (n:Nat):(w.freeze p n).os=w.os∧(w.freeze p n).tape=w.tape∧(w.freeze p n).output=w.output:=by
  unfold World.freeze
  split<;>exact⟨rfl,rfl,rfl⟩
theorem Mem.mark (hm:Mem w0 β X st w) (p:Addr) (k:Nat) (hown:w0.own p.block) (hno:∀id cs N,st.get id=some cs→β id≠some (.bk p.block N)) (hrow:∃ty vs,w.heap[p.block]? =some (row ty vs)):Mem w0 β X st (w.freeze p k)∧cc X X w (w.freeze p k):=by
  have hx:cc X X w (w.freeze p k):=fun b o h=>⟨h,HT w p k _⟩
  obtain⟨r1,r2,r3⟩:=HV w p k
  obtain⟨s1,s2⟩:=Bb w p k
  refine⟨.of ⟨r1.trans hm.below.os,r2.trans hm.below.tape,r3.trans hm.below.output,by rw [s1];exact hm.below.size,fun j hj hM=>?_,fun s hs=>cu.oH (hm.below.sus s hs) fun b hb=>HU w p k b hb⟩ hm.b0 (fun b o h=>by rw [s1];exact hm.xlt b o h) hm.dom (fun id cs hg=>?_) hm.inj,hx⟩
  · have : j ≠ p.block := by
      rintro rfl
      rcases hown with h|h
      · omega
      · exact hM h
    rw [s2 j this]
    exact hm.below.block j hj hM
  · have h := hm.obj id cs hg
    unfold OB at*
    split
    · rename_i hb;rw [hb]at h;exact h
    · rename_i hb;rw [hb]at h;exact h
    · rename_i b N hb
      rw [hb]at h
      simp only at h
      obtain⟨q1,q2,us,rest,ty,q3,q4,q5,q6⟩:=h
      have:b≠p.block:=by rintro rfl;exact hno id cs N hg hb
      exact⟨q1,q2,us,rest,ty,by rw [s2 b this];exact q3,q4,ey hx _ _ _ _ (bK.refl β) q5,q6⟩
    · rename_i b hb
      rw [hb]at h
      obtain⟨q0,q1,q2,f,es,clk,q3,q4,q5⟩:=h
      have:b≠p.block:=fun e=>by obtain⟨ty,vs,hr⟩:=hrow;rw [e,hr]at q4;cases q4
      exact⟨q0,q1,q2,f,es,clk,q3,by rw [s2 b this];exact q4,q5⟩
theorem ik (t:Nat) {b:Bool} (hb:E.aR t=some (.b b)) (h1:b=true→At w0 X0 n ((t,.b true)::E) st K) (h0:b=false→At w0 X0 n ((t,.b false)::E) st K):At w0 X0 n E st K:=by
  cases b with
  |true=>exact mY t hb rfl (h1 rfl)
  |false=>exact mY t hb rfl (h0 rfl)
end
end Go.Abs
-- AbsN
namespace Go.Abs
open Go Go.Eng
def quiet:Obj→Bool
  | .deferred _=>true
  | .loop _=>true
  |_=>false
theorem C2 {w:World} {b o:Nat} {x:Obj} (h:w.heap[b]? =some x) (hq:quiet x=true):w.cell? ⟨b,o,none⟩=none:=by
  simp only [World.cell?,h]
  cases x<;>first|rfl|cases hq
structure Qt (B:Bw) (w w':World):Prop where
  os:w'.os=w.os
  tape:w'.tape=w.tape
  output:w'.output=w.output
  size:w.heap.size≤w'.heap.size
  blk:∀b,b<w.heap.size→w'.heap[b]? =w.heap[b]? ∨(B.own b∧(∃o,w.heap[b]? =some o∧quiet o=true)∧∃o,w'.heap[b]? =some o∧quiet o=true)
theorem Qt.refl {B:Bw} {w:World}:Qt B w w:=⟨rfl,rfl,rfl,Nat.le_refl _,fun _ _=> .inl rfl⟩
theorem Qt.cell {B:Bw} {w w':World} (h:Qt B w w') {b o:Nat} (hb:b<w.heap.size):w'.cell? ⟨b,o,none⟩=w.cell? ⟨b,o,none⟩:=by
  rcases h.blk b hb with h|⟨_,⟨x,h1,h2⟩,y,h3,h4⟩
  · simp only [World.cell?,h]
  · rw [C2 h1 h2,C2 h3 h4]
theorem Qt.row {B:Bw} {w w':World} (h:Qt B w w') {b:Nat} {ty:TypeId} {us:List Value} (hb:w.heap[b]? =some (row ty us)):w'.heap[b]? =some (row ty us):=by
  rcases h.blk b (Array.getElem?_eq_some_iff.1 hb).1 with h|⟨_,⟨x,h1,h2⟩,_⟩
  · rw [h];exact hb
  · rw [hb]at h1;simp only [Option.some.injEq]at h1;subst h1;cases h2
theorem Qt.map {B:Bw} {w w':World} (h:Qt B w w') {b:Nat} {es:Array MapEntry} {clk:Nat} (hb:w.heap[b]? =some (.map es clk)):w'.heap[b]? =some (.map es clk):=by
  rcases h.blk b (Array.getElem?_eq_some_iff.1 hb).1 with h|⟨_,⟨x,h1,h2⟩,_⟩
  · rw [h];exact hb
  · rw [hb]at h1;simp only [Option.some.injEq]at h1;subst h1;cases h2
theorem Qt.put {B:Bw} {w:World} {q:Nat} {o o':Obj} (ho:B.own q) (h:w.heap[q]? =some o) (hq:quiet o=true) (hq':quiet o'=true):Qt B w (w.putObj q o'):=
  ⟨rfl,rfl,rfl,by simp,fun b hb=>by
    by_cases e:b=q
    · subst e;exact .inr ⟨ho,⟨o,h,hq⟩,o',World.putObj_heap_same hb,hq'⟩
    · exact .inl (World.putObj_heap_other e)⟩
theorem Qt.mu {B:Bw} {w w':World} (k:RowKit.Below w.heap.size w w'):Qt B w w':=⟨k.os,k.tape,k.output,k.size,fun b hb=> .inl (k.block b hb)⟩
theorem nB {w1 w2:Bw} (hw:w2.w=w1.w) (hM:w2.M=w1.M) (b:Nat):w2.own b↔w1.own b:=by unfold Bw.own;rw [hw,hM]
section
variable {P:Program} {w0 w1 w2:Bw} {X0 X:Xs} {n:Nat} {E:Ev} {st:St} {β:Bm} {a:Act} {w:World}
theorem cd.gG (hr:cd w1 X0 n E st β X a w) {a':Act} {n':Nat} {E':Ev} {w':World} (hw:w2.w=w1.w) (hM:w2.M=w1.M) (hq:Qt w1 w w') (hb:bK w2.β β) (hk:∀s∈w2.sus,s.kept w2.own w') (hs:∀s∈w2.sus,s.slots X w')
    (hsz:a'.tmps.size=n') (hd:a'.defers= []) (hsl:∀t v,E'.aR t=some v→∃u,a'.tmps[t]? =some u∧V X w β v u):cd w2 X0 n' E' st β X a' w':=by
  have hx:cc X X w w':=fun b o h=>⟨h,hq.cell (hr.mem.xlt b o h)⟩
  have ho:=nB hw hM
  refine .of hr.x0 (fun b o h=>(hr.xn b o h).imp (fun h=>h) (ho b).2) (.of ⟨?_,?_,?_,?_,?_,hk⟩ hb (fun b o h=>Nat.lt_of_lt_of_le (hr.mem.xlt b o h) hq.size) hr.mem.dom (fun id cs hg=>?_) hr.mem.inj) (hr.gl.mono hx) hsz hd hs (fun t v ht=>?_)
  · rw [hq.os,hr.mem.below.os,hw]
  · rw [hq.tape,hr.mem.below.tape,hw]
  · rw [hq.output,hr.mem.below.output,hw]
  · rw [hw];exact Nat.le_trans hr.mem.below.size hq.size
  · intro k hk' hm
    rw [hw]at hk'
    rw [hM]at hm
    rw [hw, ←hr.mem.below.block k hk' hm]
    rcases hq.blk k (Nat.lt_of_lt_of_le hk' hr.mem.below.size)with h|⟨h|h,_⟩
    · exact h
    · omega
    · exact absurd h hm
  · have := hr.mem.obj id cs hg
    unfold OB at*
    split at this
    · exact this
    · exact this
    · obtain ⟨h1, h2, us, rest, ty, h3, h4, h5, h6⟩ := this
      exact⟨(ho _).2 h1,h2,us,rest,ty,hq.row h3,h4,ey hx _ _ β β (bK.refl β) h5,h6⟩
    · obtain ⟨h0, h1, h2, f, es, clk, h3, h4, h5⟩ := this
      exact⟨h0,(ho _).2 h1,h2,f,es,clk,h3,hq.map h4,h5⟩
  · obtain ⟨u, h1, h2⟩ := hsl t v ht
    exact⟨u,h1,dO hx _ _ β β (bK.refl β) h2⟩
end
mutual
def refs:A→List Nat
  | .p id _=> [id]
  | .sl id _ _ _=> [id]
  | .ag cs=>ep cs
  | .tu vs=>ep vs
  | .fn _ a c=>ep a++ep c
  | .ic _ v=>refs v
  |_=> []
def ep:List A→List Nat
  | []=> []
  |c::cs=>refs c++ep cs
end
def jE:Ev→List Nat
  | []=> []
  |(_,v)::r=>refs v++jE r
def iC (ids:List Nat) (β:Bm):Bm:=fun id=>cond (cw ids id) (β id) none
theorem xo {ids:List Nat} {β:Bm}:bK (iC ids β) β:=fun id y h=>by
  unfold iC at h
  cases hm:cw ids id with
  |true=>rw [hm]at h;exact h
  |false=>rw [hm]at h;cases h
theorem tK {ids:List Nat} {β:Bm} {id:Nat} (h:cw ids id=true):iC ids β id=β id:=by unfold iC;rw [h];rfl
section
variable {X:Xs} {w:World} {β:Bm} {ids:List Nat}
mutual
theorem rI:∀(a:A) (u:Value),(∀i∈refs a,cw ids i=true)→V X w β a u→V X w (iC ids β) a u
  | .b x,u,_,h=>by simp only [V]at*;exact h
  | .i k n,u,_,h=>by simp only [V]at*;exact h
  | .s l,u,_,h=>by simp only [V]at*;exact h
  | .nl,u,_,h=>by simp only [V]at*;exact h
  | .fz n cs,u,_,h=>by simp only [V]at*;exact h
  | .fp cs,u,_,h=>by simp only [V]at*;exact h
  | .p id off, u, hi, h => by
    simp only [V]at*
    rw [tK (hi id (by simp [refs]))]
    exact h
  | .sl id s off n, u, hi, h => by
    simp only [V]at*
    rw [tK (hi id (by simp [refs]))]
    exact h
  | .ag cs, u, hi, h => by
    simp only [V]at*
    obtain⟨us,h1,h2,h3⟩:=h
    exact⟨us,h1,pL cs us (fun i h=>hi i (by simpa [refs]using h)) h2,h3⟩
  | .tu vs, u, hi, h => by
    simp only [V]at*
    obtain⟨us,h1,h2⟩:=h
    exact⟨us,h1,pL vs us (fun i h=>hi i (by simpa [refs]using h)) h2⟩
  | .fn f a c, u, hi, h => by
    simp only [V]at*
    obtain⟨us,vs,h1,h2,h3⟩:=h
    exact⟨us,vs,h1,pL a us (fun i h=>hi i (by simp [refs,h])) h2,pL c vs (fun i h=>hi i (by simp [refs,h])) h3⟩
  | .ic t v, u, hi, h => by
    simp only [V]at*
    obtain⟨y,h1,h2⟩:=h
    exact⟨y,h1,rI v y (fun i h=>hi i (by simpa [refs]using h)) h2⟩
  | .raw v,u,_,h=>by simp only [V]at*;exact h
theorem pL:∀(cs:List A) (us:List Value),(∀i∈ep cs,cw ids i=true)→VS X w β cs us→VS X w (iC ids β) cs us
  | [],us,_,h=>by simp only [VS]at*;exact h
  | c :: cs, us, hi, h => by
    simp only [VS]at*
    obtain⟨u,r,h1,h2,h3⟩:=h
    exact⟨u,r,h1,rI c u (fun i h=>hi i (by simp [ep,h])) h2,pL cs r (fun i h=>hi i (by simp [ep,h])) h3⟩
end
theorem xG:∀ {E:Ev} {t:Nat} {v:A},E.aR t=some v→∀i∈refs v,i∈jE E
  | [],_,_,h,_,_=>by cases h
  | (k, u) :: r, t, v, h, i, hi => by
    simp only [Ev.aR]at h
    simp only [jE,List.mem_append]
    cases hb:Nat.beq k t with
    |true=>rw [hb]at h;simp only [cond_true,Option.some.injEq]at h;subst h;exact .inl hi
    |false=>rw [hb]at h;exact .inr (xG (E:=r) h i hi)
end
def jA (ids:List Nat) (E:Ev):Bool:=(jE E).all (cw ids)
theorem J5 {ids:List Nat} {β:Bm} {id:Nat} {x:BL} (h:iC ids β id=some x):id∈ids:=by
  unfold iC at h
  cases hm:cw ids id with
  |true=>exact tg hm
  |false=>rw [hm]at h;cases h
def qz (B:Bw) (β:Bm) (ids:List Nat) (ss:List cu):Bw:= {w:=B.w,M:=B.M,β:=iC ids β,ids:=ids,bi:=fun _ _ h=>J5 h,sus:=ss}
def Bw.re (B:Bw) (ss:List cu):Bw:= {w:=B.w,M:=B.M,β:=B.β,ids:=B.ids,bi:=B.bi,sus:=ss}
structure Sub (w0 w1:Bw) (ids:List Nat) (ss:List cu):Prop where
  w:w1.w=w0.w
  M:w1.M=w0.M
  ext:bK w0.β w1.β
  ids:w1.ids=ids
  sus:w1.sus=ss++w0.sus
theorem Sub.own {w0 w1:Bw} {ids:List Nat} {ss:List cu} (h:Sub w0 w1 ids ss) (b:Nat):w1.own b↔w0.own b:=nB h.w h.M b
theorem th {B:Bw} {β:Bm} {ids idsB:List Nat} {ss:List cu} (hI:B.ids=idsB) (hs:(idsB.all (cw ids))=true) (hb:bK B.β β):bK B.β (qz B β ids ss).β:=fun id y h=>by
  have hid:=B.bi id y h
  rw [hI]at hid
  show iC ids β id=some y
  rw [tK (List.all_eq_true.1 hs id hid)]
  exact hb id y h
structure Rg (w0 w1:Bw) (ids:List Nat) (l D:Nat) (rc:Loop) (n:Nat) (Ek:Ev) (ps:List Tmp) (assign body:Code) (s:LoopState) (pe:Option Code):Prop where
  sub:Sub w0 w1 ids [.lp l {rc with state:=s,pending:=pe} Ek w1.β,.df D]
  ps:rc.params=ps.toArray
  assign:rc.assign=assign
  body:rc.body=body
  size:rc.tmps.size=n
  ne:l≠D
  old:∀r E β,cu.lp l r E β∉w0.sus
  oldD:cu.df D∉w0.sus
structure Rd (w0 w1 w2:Bw) (ids:List Nat) (l D:Nat) (rc:Loop) (Ek:Ev) (s:LoopState) (pe:Option Code) (tm:Array Value) (nI:Nat) (Eit:Ev):Prop where
  sub:Sub w0 w2 ids [.fr tm Eit w2.β,.lp l {rc with state:=s,pending:=pe} Ek w1.β,.df D]
  ext:bK w1.β w2.β
  size:tm.size=nI
  ne:l≠D
  old:∀r E β,cu.lp l r E β∉w0.sus
def o9 (P:Program) (l:Nat) (f:FuncId) (R:Ending→World→Prop):Exit→Act→World→Prop
  | .panic ch,a,w=>a.defers= []∧(∃fn,P.funcs[f]? =some fn)∧R (.panicked ch) w
  |e,a,w=>roundPost P l R e a w
theorem Ln {F:Fence} {n:Nat} {P:Program} {l:Nat} {f:FuncId} {tmps:Array Value} {assign body:Code} {w:World} {R:Ending→World→Prop} (hF:F.fn f)
    (h:assign.wpIn (F.inRound l) n P (Exit.then (fun a₁ w₁=>∃w₂,(Instr.beginRound l).run P w₁= .ok () w₂∧body.wpIn (F.inRound l) n P (o9 P l f R) a₁ w₂) (fun _ _ _=>False)) {tmps:=tmps,defers:= []} w):RoundIn F n P l f tmps assign body w R:=by
  refine⟨hF,fun c cs hr=>?_⟩
  let b:Frame:= {(default:Frame)with fn:=f,kind:= .normal,roundOf:=some l}
  have hb0:Frame.round l f tmps assign body .normal=b.atR {tmps:=tmps,defers:= []} [.code assign,.beginRound,.code body]:=by simp [Frame.round,Frame.atR,b]
  have hr':(F.inRound l).room ((c::cs).length+1+n):=hr
  have hF':(F.inRound l).fn b.fn:=hF
  obtain⟨e,a₁,w₁,hq,harr⟩:=h b [.beginRound,.code body] (c::cs) rfl hF' hr'
  rw [←hb0]at harr
  cases e with
  | normal =>
    obtain⟨w₂,hbr,hbody⟩:=hq
    have s1:StepsIn (Machine.fenced P (F.inRound l)) P (lone (b.atR a₁ [.beginRound,.code body]) (c::cs) w₁) (lone (b.atR a₁ [.code body]) (c::cs) w₂):=
      .one (fenced_calm (fr:=b.atR a₁ [.beginRound,.code body]) hF' hr' rfl) (stepR_beginRound rfl hbr)
    obtain⟨e₂,a₂,w₃,hq₂,harr₂⟩:=hbody b [] (c::cs) rfl hF' hr'
    cases e₂ with
    | normal =>
      obtain⟨v,w₄,hend,hR⟩:=hq₂
      exact⟨.returned v,w₄,hR,(StepsIn.trans harr s1).trans (StepsIn.trans harr₂ (.one (fenced_calm (fr:=b.atR a₂ []) hF' hr' rfl) (stepR_round_end rfl rfl hend)))⟩
    | ret =>
      obtain⟨v,w₄,hend,hR⟩:=hq₂
      obtain⟨k₁,hs⟩:=harr₂.2 rfl
      exact⟨.returned v,w₄,hR,(StepsIn.trans harr s1).trans (StepsIn.trans hs (.one (fenced_calm (fr:=b.atR a₂ (.code .ret::k₁)) hF' hr' rfl) (stepR_round_ret rfl rfl hend)))⟩
    | exit id =>
      obtain⟨v,w₄,hend,hR⟩:=hq₂
      obtain⟨k₁,hk,hs⟩:=harr₂.2 rfl rfl
      exact⟨.returned v,w₄,hR,(StepsIn.trans harr s1).trans (StepsIn.trans hs (.one (fenced_calm (fr:=b.atR a₂ (.code (.exit id)::k₁)) hF' hr' rfl) (stepR_round_exit rfl rfl hk hend)))⟩
    | goto t =>
      obtain⟨v,w₄,hend,hR⟩:=hq₂
      obtain⟨k₁,hk,hs⟩:=harr₂.2 rfl rfl
      exact⟨.returned v,w₄,hR,(StepsIn.trans harr s1).trans (StepsIn.trans hs (.one (fenced_calm (fr:=b.atR a₂ (.code (.goto t)::k₁)) hF' hr' rfl) (stepR_round_goto rfl rfl hk hend)))⟩
    | panic chain =>
      obtain⟨hd,hf,hR⟩:=hq₂
      obtain⟨todo,hs⟩:=harr₂
      have hlv:Frame.leaving P {b.atR a₂ todo with mode:= .panicking chain} w₃ (.panicked chain):=⟨rfl,hd,hf⟩
      exact⟨.panicked chain,w₃,hR,(StepsIn.trans harr s1).trans (StepsIn.trans hs (.one (fenced_leaving (F:=F.inRound l) (n:=n) (fr:= {b.atR a₂ todo with mode:= .panicking chain}) (cs:=c::cs) hF' hr' hlv) (step_leave_panicked hlv)))⟩
    |outgrown=>exact hq₂.elim
  |exit id=>exact hq.elim
  |goto t=>exact hq.elim
  |ret=>exact hq.elim
  |panic chain=>exact hq.elim
  |outgrown=>exact hq.elim
abbrev yv (l:Nat):A:= .raw (.func (.yield l) #[] #[])
def oW (ds:List Deferred) (tm:Array Value) (d:Option Nat) (N:Act→World→Prop) (Q:Exit→Act→World→Prop):Ending→World→Prop
  | .returned v,w=>Pw ds N (Act.put ⟨tm, []⟩ d v) w
  | .panicked ch,w=>Q (.panic ch) (Act.wd ds ⟨tm, []⟩) w
  | .outgrown,_=>LetsOut Q
def qN (P:Program) (l:Nat) (f:FuncId) (body:Code) (R:Ending→World→Prop):Act→World→Prop:=fun a w=>∃w',(Instr.beginRound l).run P w= .ok () w'∧body.wpIn (rF (some l)) 0 P (o9 P l f R) a w'
def Cm:Exit→Act→World→Prop:=fun _ _ _=>False
def oQ:List Tmp→List A→Ev→Ev
  |t::ts,v::vs,E=>oQ ts vs ((t,v)::E)
  |_,_,E=>E
section
variable {P:Program} {w0 w1 w2:Bw} {X0:Xs} {n n':Nat} {E:Ev} {st:St} {Q:Exit→Act→World→Prop} {r:Option Nat} {ds:List Deferred}
theorem Ei {a:Act} {D:Nat} (h:a.defers= []):({a.wd ds with defers:= [{target:= .collected D,args:= #[]}]++(a.wd ds).defers}:Act)=Act.wd (dW D::ds) ⟨a.tmps, []⟩:=by
  unfold Act.wd
  simp [h]
theorem xM {f:FuncId} {fn:Func} {c:Code} {args:Array Value} {w:World} (hf:P.funcs[f]? =some fn) (hb:fn.body=some c) (hname:(fn.name== "runtime.NumGoroutine")=false):(callFunc f args).run P w= .ok (.enter f args) w:=by
  unfold callFunc
  rw [Sem.run_bind,run_program]
  simp only [Result.andThen_ok,hf,hname,hb,Bool.false_eq_true,if_false]
  simp
theorem sV {B B':Bw} {w w':World} {s:cu} (h:s.kept B.own w) (hw:∀b,B.own b→B'.own b) (hq:∀(b:Nat) (o:Obj),w.heap[b]? =some o→quiet o=true→w'.heap[b]? =w.heap[b]?):s.kept B'.own w':=by
  cases s with
  |df D=>exact⟨hw _ h.1,(hq _ _ h.2 rfl).trans h.2⟩
  |lp l r E β=>exact⟨hw _ h.1,(hq _ _ h.2 rfl).trans h.2⟩
  |fr _ _ _=>trivial
theorem C4 {g:Operand} {f:FuncId} {fn:Func} {cs:List A} {idsB:List Nat} {β:Bm} {X:Xs} {a:Act} {w:World} (fnid:FuncId) (ids:List Nat) (Ek:Ev) (ps:List Tmp) (assign body:Code) (hI:w0.ids=idsB) (hs:(idsB.all (cw ids))=true) (hE:le E Ek) (hids:jA ids Ek=true)
    (hg:ev E g=some (.fn (.func f) [] cs)) (ha:cs.length+1≤n') (hn:fn.ntmps=n') (hr:cd w0 X0 n E st β X a w):
    ∃ (vs : List Value) (rc : Loop) (W1 : World), (Instr.enterLoop fnid a.tmps ps.toArray assign body none).run P w = .ok (w.heap.size + 1, [{ target := .collected w.heap.size, args := #[] }]) W1 ∧ a.eval g = .func (.func f) #[] vs.toArray ∧ rc.tmps = a.tmps ∧ rc.fn = fnid ∧
      ∃w1,Rg w0 w1 ids (w.heap.size+1) w.heap.size rc n Ek ps assign body .ready none∧Rel w1 X0 n' (gj (yv (w.heap.size+1)::cs) 0) st ⟨(#[.func (.yield (w.heap.size+1)) #[] #[]]++vs.toArray)++Array.replicate (fn.ntmps - (#[Value.func (.yield (w.heap.size+1)) #[] #[]]++vs.toArray).size) undef, []⟩ W1:=by
  have hgv:=hr.oy hg
  simp only [V]at hgv
  obtain⟨us,vs,e1,e2,e3⟩:=hgv
  simp only [VS]at e2
  subst e2
  obtain⟨rc,hrc⟩:∃rc:Loop,rc= {state:= .ready,pending:=none,fn:=fnid,tmps:=a.tmps,params:=ps.toArray,assign:=assign,body:=body,defers:=w.heap.size}:=⟨_,rfl⟩
  obtain⟨W1,hW1⟩:∃W1,(w.alloc (.deferred (some []))).alloc (.loop rc)=W1:=⟨_,rfl⟩
  have hL1:W1.heap[w.heap.size+1]? =some (.loop rc):=by
    rw [←hW1];have:=World.alloc_heap_new (w.alloc (.deferred (some []))) (.loop rc);rwa [World.size_alloc]at this
  have hD1:W1.heap[w.heap.size]? =some (.deferred (some [])):=by
    rw [←hW1];exact(RowKit.Below.heap_alloc _ _ _ (by simp)).trans (World.alloc_heap_new w _)
  have hB1:RowKit.Below w.heap.size w W1:=by
    rw [←hW1];exact((RowKit.Below.refl _ w).alloc (Nat.le_refl _) _).alloc (by simp) _
  have hq:Qt w0 w W1:= .mu hB1
  have hx:cc X X w W1:=fun b o h=>⟨h,hq.cell (hr.mem.xlt b o h)⟩
  have ho:∀b,w.heap.size≤b→w0.own b:=fun b hb=>Bw.j7 hr.mem.below hb
  have hrg:Rg w0 (qz w0 β ids (.lp (w.heap.size+1) rc Ek (iC ids β):: .df w.heap.size::w0.sus)) ids (w.heap.size+1) w.heap.size rc n Ek ps assign body .ready none:=
    ⟨⟨rfl,rfl,th hI hs hr.mem.b0,rfl,by rw [hrc];rfl⟩,by rw [hrc],by rw [hrc],by rw [hrc],by rw [hrc];exact hr.size,by omega,fun r E β h=>by have:=(Array.getElem?_eq_some_iff.1 (hr.mem.below.sus _ h).2).1;omega,fun h=>by have:=(Array.getElem?_eq_some_iff.1 (hr.mem.below.sus _ h).2).1;omega⟩
  have hrt:rc.tmps=a.tmps:=by rw [hrc]
  refine⟨vs,rc,W1,by rw [←hW1,hrc];exact run_enterLoop_outer _ _ _ _ _,e1,hrt,by rw [hrc],_,hrg,β,X,hr.gG rfl rfl hq xo (fun s hs'=>?_) (fun s hs'=>?_) ?_ rfl (fun t v ht=>?_)⟩
  · rcases List.mem_cons.1 hs' with rfl | hs'
    · exact⟨ho _ (by omega),hL1⟩
    · rcases List.mem_cons.1 hs' with rfl | hs'
      · exact⟨ho _ (Nat.le_refl _),hD1⟩
      · exact sV (hr.mem.below.sus s hs') (fun b hb=>hb) fun b o hb _=>hB1.block b (Array.getElem?_eq_some_iff.1 hb).1
  · rcases List.mem_cons.1 hs' with rfl | hs'
    · intro t v ht
      obtain⟨u,h1,h2⟩:=hr.slot t v (wX hE t v ht)
      refine⟨u,by rw [hrt];exact h1,dO hx _ _ _ _ (bK.refl _) (rI v u (fun i hi=>?_) h2)⟩
      exact List.all_eq_true.1 hids i (xG ht i hi)
    · rcases List.mem_cons.1 hs' with rfl | hs'
      · trivial
      · exact cu.jG hx (hr.sslot s hs')
  · have := cJ e3
    simp [hn];omega
  · obtain ⟨_, h2⟩ := lj _ _ _ _ ht
    simp only [Nat.sub_zero]at h2
    have hall:VS X w β (yv (w.heap.size+1)::cs) (.func (.yield (w.heap.size+1)) #[] #[]::vs):=cZ (by simp [V]) e3
    obtain⟨u,g1,g2⟩:=fx hall h2
    have hlt:=(List.getElem?_eq_some_iff.1 g1).1
    refine⟨u,?_,g2⟩
    rw [Array.getElem?_append,if_pos (by simp at hlt ⊢;omega)]
    rw [show(#[Value.func (.yield (w.heap.size+1)) #[] #[]]++vs.toArray)=(Value.func (.yield (w.heap.size+1)) #[] #[]::vs).toArray by simp]
    simpa using g1
theorem vl {g:Operand} {ps:List Tmp} {assign body c:Code} {f:FuncId} {fn:Func} {cs:List A} {idsB:List Nat} (ids:List Nat) (Ek:Ev) (hI:w0.ids=idsB) (hs:(idsB.all (cw ids))=true) (hE:le E Ek) (hids:jA ids Ek=true)
    (hg:ev E g=some (.fn (.func f) [] cs)) (hf:P.funcs[f]? =some fn) (hb:fn.body=some c) (hn:fn.ntmps=n') (hname:(fn.name== "runtime.NumGoroutine")=false) (ha:cs.length+1≤n')
    (h:∀w1 l D rc,Rg w0 w1 ids l D rc n Ek ps assign body .ready none→At w1 X0 n' (gj (yv l::cs) 0) st (Pw [] (c.wpIn (rF none) 0 P (bodyPostM (rF none) 0 P fn (rangePost (rF none) 0 P l Q (Act.wd (dW D::ds) ⟨rc.tmps, []⟩)))))):
    At w0 X0 n E st (Pw ds ((Code.rangeFunc g ps.toArray assign body).wpIn (rF none) 0 P Q)):=by
  rintro a w ⟨β,X,hr⟩
  show(Code.rangeFunc g ps.toArray assign body).wpIn (rF none) 0 P Q (a.wd ds) w
  refine wpIn_rangeFunc fun fnid _=>?_
  obtain⟨vs,rc,W1,g2,g3,hrt,_,w1,hrg,hrel⟩:=C4 (P:=P) (fn:=fn) (n':=n') fnid ids Ek ps assign body hI hs hE hids hg ha hn hr
  refine⟨w.heap.size+1, [{target:= .collected w.heap.size,args:= #[]}],W1, {target:= .fn (.func f) vs.toArray,args:= #[.func (.yield (w.heap.size+1)) #[] #[]]},W1,f,
    #[.func (.yield (w.heap.size+1)) #[] #[]]++vs.toArray,W1,g2,?_,fun _ _=>trivial,?_,(fun h=>by cases h),?_⟩
  · simp only [resolve, sD, g3]
    simp [go_sem]
  · simp [invoke,go_sem,xM hf hb hname]
  · rw [Ei hr.defers, ← hrt]
    exact callsIn_of_wp_marks hf hb trivial (kz (h _ _ _ rc hrg _ W1 hrel))
theorem EE:∀ {ps:List Tmp} {vs:List A} {us:List Value} {tm:Array Value} {E:Ev} {X:Xs} {w:World} {β:Bm} {n:Nat},tm.size=n→(ps.all fun t=>Nat.ble (t+1) n)=true→VS X w β vs us→(∀t v,E.aR t=some v→∃u,tm[t]? =some u∧V X w β v u)→
    ((ps.zip us).foldl (fun(tm:Array Value) (p:Tmp×Value)=>tm.setIfInBounds p.1 p.2) tm).size=n∧∀t v,(oQ ps vs E).aR t=some v→∃u,((ps.zip us).foldl (fun(tm:Array Value) (p:Tmp×Value)=>tm.setIfInBounds p.1 p.2) tm)[t]? =some u∧V X w β v u
  | [],vs,us,tm,E,X,w,β,n,hn,_,_,h=>⟨by simpa using hn,by simpa [oQ]using h⟩
  | t :: ps, [], us, tm, E, X, w, β, n, hn, _, hv, h => by
    simp only [VS]at hv
    subst hv
    exact⟨by simpa using hn,by simpa [oQ]using h⟩
  | t :: ps, v :: vs, us, tm, E, X, w, β, n, hn, hp, hv, h => by
    simp only [VS]at hv
    obtain⟨u,us,rfl,h1,h2⟩:=hv
    simp only [List.all_cons,Bool.and_eq_true]at hp
    have ht:t<tm.size:=by rw [hn];exact Nat.le_of_ble_eq_true hp.1
    simp only [List.zip_cons_cons,List.foldl_cons,oQ]
    refine EE (by simpa using hn) hp.2 h2 fun k x hk=>?_
    simp only [Ev.aR]at hk
    cases hb:Nat.beq t k with
    | true =>
      rw [hb]at hk
      simp only [cond_true,Option.some.injEq]at hk
      subst hk
      rw [←Nat.eq_of_beq_eq_true hb]
      exact⟨u,by simp [ht],h1⟩
    | false =>
      rw [hb]at hk
      obtain⟨u',g1,g2⟩:=h k x hk
      exact⟨u',by rw [Array.getElem?_setIfInBounds_ne (Nat.ne_of_beq_eq_false hb)];exact g1,g2⟩
theorem rV {ops:Array Oper} {rest:List Oper} {d:Nat} {x:Operand} {xs:List Operand} {ats:Array TypeId} {ty:TypeId} {pos:String} {az:Array Edge} {l D nO:Nat} {rc:Loop} {Ek Er:Ev} {ps:List Tmp} {assign body:Code} {vs:List A} {ids idsB:List Nat} (ids2:List Nat) (Eit:Ev)
    (hR:Rg w0 w1 ids l D rc nO Ek ps assign body .ready none) (hI:w1.ids=idsB) (hs:(idsB.all (cw ids2))=true) (hE:le E Eit) (hids:jA ids2 Eit=true) (hx:ev E x=some (yv l)) (hxs:c5 E xs=some vs) (hl:vs.length=ps.length) (hp:(ps.all fun t=>Nat.ble (t+1) nO)=true) (hEr:oQ ps vs Ek=Er)
    (h:∀w2 tm,Rd w0 w1 w2 ids2 l D rc Ek .ready none tm n Eit→At w2 X0 nO Er st (Pw [] (assign.wpIn (rF (some l)) 0 P (Exit.then (qN P l rc.fn body (oW ds tm (some d) (wpListIn (rF r) 0 P ops Q rest) Q)) Cm)))):
    At w1 X0 n E st (Pw ds (wpListIn (rF r) 0 P ops Q (⟨some d,.call {callee:= .value x,args:=xs.toArray,argTypes:=ats},ty,pos,az,none⟩::rest))):=by
  rintro⟨tm,dfs⟩ w ⟨β,X,hr⟩
  obtain rfl:dfs= []:=hr.defers
  obtain⟨a,ha⟩:∃a:Act,a=⟨tm, []⟩:=⟨_,rfl⟩
  rw [←ha]at hr ⊢
  subst hEr
  show wpListIn (rF r) 0 P ops Q (_::rest) (a.wd ds) w
  unfold wpListIn
  rw [if_pos (by simp [Region.wanted])]
  have e1:=hr.oy hx
  simp only [V]at e1
  obtain⟨us,e3,e4⟩:=hr.dX hxs
  have hm:=Eng.cI.dX (dQ a hr.defers) e3
  have hmem:(.lp l {rc with state:= .ready,pending:=none} Ek w1.β:cu)∈w1.sus:=by rw [hR.sub.sus];exact .head _
  have hk:=hr.mem.below.sus _ hmem
  have hus:us.length=vs.length:=cJ e4
  have hy:=run_yield (P:=P) (args:=us.toArray) hk.2 (by simp [hR.ps,hus,hl])
  have hrun:(execOp a.eval ⟨some d,.call {callee:= .value x,args:=xs.toArray,argTypes:=ats},ty,pos,az,none⟩).run P w= .ok (.round l rc.fn ((rc.params.zip us.toArray).foldl (fun tmps (t,a)=>tmps.setIfInBounds t a) rc.tmps) rc.assign rc.body) w:=by
    have he:xs.toArray.map a.eval=us.toArray:=by rw [List.map_toArray,hm]
    have:execOp a.eval ⟨some d,.call {callee:= .value x,args:=xs.toArray,argTypes:=ats},ty,pos,az,none⟩=Instr.yield l us.toArray:=by
      show(do let d ←Deferred.ofValue (a.eval x) (xs.toArray.map a.eval);invoke d.target d.args:Sem Next)=_
      rw [e1,he]
      simp [Deferred.ofValue,invoke]
    rw [this,hy]
  unfold Oper.wpIn
  refine⟨fun _ _=>trivial,?_⟩
  rw [Oper.semAt_eq _ _ _ (fun c h=>by cases h),sE,hrun,Oper.uponIn_round]
  refine⟨fun h=>(by cases h),?_⟩
  rw [hR.assign,hR.body]
  have hlp:=hr.sslot _ hmem
  have hRd:Rd w0 w1 (qz w1 β ids2 (.fr tm Eit (iC ids2 β)::w1.sus)) ids2 l D rc Ek .ready none tm n Eit:=
    ⟨⟨hR.sub.w,hR.sub.M,fun id y h=>th hI hs hr.mem.b0 id y (hR.sub.ext id y h),rfl,by show _::w1.sus=_;rw [hR.sub.sus];rfl⟩,th hI hs hr.mem.b0,by have:=hr.size;rw [ha]at this;exact this,hR.ne,hR.old⟩
  have hgo:=h _ _ hRd
  have hz:=EE (X:=X) (w:=w) (β:=β) (E:=Ek) (n:=nO) (tm:=rc.tmps) hR.size hp e4 (fun t v ht=>by
    obtain⟨u,g1,g2⟩:=hlp t v ht
    exact⟨u,g1,dO (fun b o h=>⟨h,rfl⟩) _ _ _ _ hr.mem.b0 g2⟩)
  have hfold:((rc.params.zip us.toArray).foldl (fun tmps (t,a)=>tmps.setIfInBounds t a) rc.tmps)=((ps.zip us).foldl (fun(tm:Array Value) (p:Tmp×Value)=>tm.setIfInBounds p.1 p.2) rc.tmps):=by
    rw [hR.ps];simp
  rw [hfold]
  have hgo':assign.wpIn ((rF r).inRound l) (0 - 1) P (Exit.then (qN P l rc.fn body (oW ds tm (some d) (wpListIn (rF r) 0 P ops Q rest) Q)) Cm) ⟨(ps.zip us).foldl (fun(tm:Array Value) (p:Tmp×Value)=>tm.setIfInBounds p.1 p.2) rc.tmps, []⟩ w:=kz (hgo _ w ⟨β,X,hr.gG (w2:=qz w1 β ids2 (.fr tm Eit (iC ids2 β)::w1.sus)) rfl rfl .refl xo (fun s hs'=>?_) (fun s hs'=>?_) hz.1 rfl hz.2⟩)
  · obtain ⟨k1, k2⟩ := Ln (F := rF r) (n := 0 - 1) (f := rc.fn) trivial hgo'
    refine⟨k1,fun c cs hr=>?_⟩
    obtain⟨e,w',h1,h2⟩:=k2 c cs hr
    refine⟨e,w',?_,h2⟩
    subst ha
    cases e with
    |returned v=>show wpListIn (rF r) 0 P ops Q rest ((Act.wd ds ⟨tm, []⟩).put (some d) v) w';rw [kf];exact h1
    |panicked ch=>exact h1
    |outgrown=>exact h1
  · rcases List.mem_cons.1 hs' with rfl | hs'
    · trivial
    · exact hr.mem.below.sus s hs'
  · rcases List.mem_cons.1 hs' with rfl | hs'
    · intro t v ht
      obtain⟨u,h1,h2⟩:=hr.slot t v (wX hE t v ht)
      refine⟨u,by rw [ha]at h1;exact h1,rI v u (fun i hi=>?_) h2⟩
      exact List.all_eq_true.1 hids i (xG ht i hi)
    · exact hr.sslot s hs'
theorem wU {B B':Bw} {l:Nat} {x y:Loop} {w:World} (hl:w.heap[l]? =some (.loop x)) (hw:∀b,B.own b→B'.own b) {s:cu} (hs:∀r E β,s≠ .lp l r E β) (h:s.kept B.own w):s.kept B'.own (w.putObj l (.loop y)):=by
  cases s with
  | df D =>
    refine⟨hw _ h.1,(World.putObj_heap_other (fun e=>?_)).trans h.2⟩
    have:=h.2
    rw [e,hl]at this
    cases this
  | lp l' r E β =>
    refine⟨hw _ h.1,(World.putObj_heap_other (fun e=>?_)).trans h.2⟩
    subst e
    exact hs r E β rfl
  |fr _ _ _=>trivial
theorem DM {β:Bm} {X:Xs} {w:World} {l:Nat} {r r':Loop} {E:Ev} (h:(cu.lp l r E β).slots X w) (ht:r'.tmps=r.tmps):(cu.lp l r' E β).slots X w:=fun t v hv=>by rw [ht];exact h t v hv
theorem rS {l D n1 : Nat} {rc : Loop} {Ek Eit : Ev} {body : Code} {ids : List Nat} {tm : Array Value} {R : Ending → World → Prop} {Z : Exit → Act → World → Prop} (hd : Rd w0 w1 w2 ids l D rc Ek .ready none tm n1 Eit)
    (h:∀w3,Rd w0 w1 w3 ids l D rc Ek .busy none tm n1 Eit→At w3 X0 n E st (Pw [] (body.wpIn (rF (some l)) 0 P (o9 P l rc.fn R)))):At w2 X0 n E st (Pw [] (Exit.then (qN P l rc.fn body R) Z .normal)):=by
  rintro a w ⟨β,X,hr⟩
  show qN P l rc.fn body R (a.wd []) w
  rw [lV]
  have hmem:(.lp l {rc with state:= .ready,pending:=none} Ek w1.β:cu)∈w2.sus:=by rw [hd.sub.sus];exact .tail _ (.head _)
  have hk:=hr.mem.below.sus _ hmem
  have hl:=hk.2
  refine⟨_,run_beginRound hl rfl,?_⟩
  have hss:w2.sus= .fr tm Eit w2.β:: .lp l {rc with state:= .ready,pending:=none} Ek w1.β:: .df D::w0.sus:=hd.sub.sus
  have hlt:=(Array.getElem?_eq_some_iff.1 hl).1
  have hx:cc X X w (w.putObj l (.loop {rc with state:= .busy,pending:=none})):=fun b o h=>⟨h,(Qt.put (B:=w2) hk.1 hl rfl rfl).cell (hr.mem.xlt b o h)⟩
  refine kz (h (w2.re (.fr tm Eit w2.β:: .lp l {rc with state:= .busy,pending:=none} Ek w1.β:: .df D::w0.sus)) ⟨⟨hd.sub.w,hd.sub.M,hd.sub.ext,hd.sub.ids,rfl⟩,hd.ext,hd.size,hd.ne,hd.old⟩ a _ ⟨β,X,hr.gG rfl rfl (Qt.put hk.1 hl rfl rfl) hr.mem.b0 (fun s hs=>?_) (fun s hs=>?_) hr.size hr.defers hr.slot⟩)
  · rcases List.mem_cons.1 hs with rfl | hs
    · trivial
    · rcases List.mem_cons.1 hs with rfl | hs
      · exact⟨hk.1,World.putObj_heap_same hlt⟩
      · refine wU hl (fun b h => h) (fun r E β e => ?_) (hr.mem.below.sus s (by rw [hss]; exact .tail _ (.tail _ hs)))
        subst e
        rcases List.mem_cons.1 hs with e|hs
        · cases e
        · exact hd.old _ _ _ hs
  · have hold : ∀ s ∈ w2.sus, s.slots X (w.putObj l (.loop { rc with state := .busy, pending := none })) := fun s hs => cu.jG hx (hr.sslot s hs)
    rw [hss]at hold
    rcases List.mem_cons.1 hs with rfl|hs
    · exact hold _ (.head _)
    · rcases List.mem_cons.1 hs with rfl | hs
      · exact DM (hold _ (.tail _ (.head _))) rfl
      · exact hold _ (.tail _ (.tail _ hs))
theorem Da {wj:Bw} {l D n1 nO:Nat} {rc:Loop} {Ek Eit:Ev} {ps:List Tmp} {assign body:Code} {ids idsR:List Nat} {tm:Array Value} {d:Nat} {N:Act→World→Prop} (jump:Option Code) (hβ:wj.β=w1.β) (hR:Rg w0 wj idsR l D rc nO Ek ps assign body (if jump.isNone then .ready else .done) jump) (hd:Rd w0 w1 w2 ids l D rc Ek .busy none tm n1 Eit) (hdn:Nat.ble (d+1) n1=true)
    (h:At wj X0 n1 ((d,.b jump.isNone)::Eit) st (Pw ds N)) {a:Act} {w:World} (hrel:Rel w2 X0 n E st a w):∃v w',(Instr.endRound l jump).run P w= .ok v w'∧oW ds tm (some d) N Q (.returned v) w':=by
  obtain⟨β,X,hr⟩:=hrel
  have hmem:(.lp l {rc with state:= .busy,pending:=none} Ek w1.β:cu)∈w2.sus:=by rw [hd.sub.sus];exact .tail _ (.head _)
  have hk:=hr.mem.below.sus _ hmem
  have hl:=hk.2
  have hss:w2.sus= .fr tm Eit w2.β:: .lp l {rc with state:= .busy,pending:=none} Ek w1.β:: .df D::w0.sus:=hd.sub.sus
  have hs1:wj.sus= .lp l {rc with state:=(if jump.isNone then .ready else .done),pending:=jump} Ek wj.β:: .df D::w0.sus:=hR.sub.sus
  have hlt:=(Array.getElem?_eq_some_iff.1 hl).1
  have hw:w2.w=wj.w:=hd.sub.w.trans hR.sub.w.symm
  have hM:w2.M=wj.M:=hd.sub.M.trans hR.sub.M.symm
  have hb1:bK wj.β β:=fun id y h=>hr.mem.b0 id y (hd.ext id y (hβ ▸ h))
  refine⟨_,_,run_endRound jump hl,?_⟩
  obtain⟨o',ho'⟩:∃o':Loop,o'= {rc with state:=(if jump.isNone then .ready else .done),pending:=jump}:=⟨_,rfl⟩
  have ho2:({ {rc with state:= .busy,pending:=none}with state:=(if jump.isNone then .ready else .done),pending:=jump}:Loop)=o':=by rw [ho']
  rw [←ho']at hs1
  rw [ho2]
  have hx:cc X X w (w.putObj l (.loop o')):=fun b o h=>⟨h,(Qt.put (B:=w2) hk.1 hl rfl rfl).cell (hr.mem.xlt b o h)⟩
  have hfr:=hr.sslot (.fr tm Eit w2.β) (by rw [hss];exact .head _)
  refine h (Act.put ⟨tm, []⟩ (some d) (.bool jump.isNone)) _ ⟨β,X,hr.gG hw.symm hM.symm (Qt.put hk.1 hl rfl rfl) hb1 (fun s hs=>?_) (fun s hs=>?_) (by simpa [Act.put]using hd.size) rfl (fun t v ht=>?_)⟩
  · rw [hs1] at hs
    rcases List.mem_cons.1 hs with rfl|hs
    · exact⟨(nB hw hM l).1 hk.1,World.putObj_heap_same hlt⟩
    · refine wU (B := w2) hl (fun b h => (nB hw hM b).1 h) (fun r E β e => ?_) (hr.mem.below.sus s (by rw [hss]; exact .tail _ (.tail _ hs)))
      subst e
      rcases List.mem_cons.1 hs with e|hs
      · cases e
      · exact hd.old _ _ _ hs
  · rw [hs1] at hs
    have hold:∀s∈w2.sus,s.slots X (w.putObj l (.loop o')):=fun s hs=>cu.jG hx (hr.sslot s hs)
    rw [hss]at hold
    rcases List.mem_cons.1 hs with rfl|hs
    · rw [hβ];exact DM (hold _ (.tail _ (.head _))) (by rw [ho'])
    · exact hold _ (.tail _ (.tail _ hs))
  · simp only [Ev.aR] at ht
    cases hb:Nat.beq d t with
    | true =>
      rw [hb]at ht
      simp only [cond_true,Option.some.injEq]at ht
      subst ht
      rw [←Nat.eq_of_beq_eq_true hb]
      exact⟨.bool jump.isNone,by simp [Act.put,show d<tm.size by rw [hd.size];exact Nat.le_of_ble_eq_true hdn],by simp [V]⟩
    | false =>
      rw [hb]at ht
      obtain⟨u,g1,g2⟩:=hfr t v ht
      exact⟨u,by simp only [Act.put];rw [Array.getElem?_setIfInBounds_ne (Nat.ne_of_beq_eq_false hb)];exact g1,dO (fun b o h=>⟨h,rfl⟩) _ _ _ _ hr.mem.b0 g2⟩
section rend
variable {l D n1 nO:Nat} {rc:Loop} {Ek Eit:Ev} {ps:List Tmp} {assign body:Code} {ids idsR:List Nat} {tm:Array Value} {d:Nat} {N:Act→World→Prop}
theorem rU (hR:Rg w0 w1 idsR l D rc nO Ek ps assign body .ready none) (hd:Rd w0 w1 w2 ids l D rc Ek .busy none tm n1 Eit) (hdn:Nat.ble (d+1) n1=true)
    (h:At w1 X0 n1 ((d,.b true)::Eit) st (Pw ds N)):At w2 X0 n E st (Pw [] (o9 P l rc.fn (oW ds tm (some d) N Q) .normal)):=fun _ _ hr=>Da none rfl hR hd hdn h hr
theorem Rg.stop (s:LoopState) (pe:Option Code) (hR:Rg w0 w1 idsR l D rc nO Ek ps assign body .ready none):∃wj,wj.β=w1.β∧Rg w0 wj idsR l D rc nO Ek ps assign body s pe:=
  ⟨w1.re (.lp l {rc with state:=s,pending:=pe} Ek w1.β:: .df D::w0.sus),rfl,⟨hR.sub.w,hR.sub.M,hR.sub.ext,hR.sub.ids,rfl⟩,hR.ps,hR.assign,hR.body,hR.size,hR.ne,hR.old,hR.oldD⟩
theorem Fv (hR:Rg w0 w1 idsR l D rc nO Ek ps assign body .ready none) (hd:Rd w0 w1 w2 ids l D rc Ek .busy none tm n1 Eit) (hdn:Nat.ble (d+1) n1=true)
    (h:∀wj,Rg w0 wj idsR l D rc nO Ek ps assign body .done (some .ret)→At wj X0 n1 ((d,.b false)::Eit) st (Pw ds N)):At w2 X0 n E st (Pw [] (o9 P l rc.fn (oW ds tm (some d) N Q) .ret)):=fun _ _ hr=>by
  obtain⟨wj,hb,hS⟩:=hR.stop .done (some .ret)
  exact Da (some .ret) hb hS hd hdn (h _ hS) hr
end rend
theorem BC {l D nO:Nat} {rc:Loop} {Ek:Ev} {ps:List Tmp} {assign body:Code} {idsR:List Nat} {s:LoopState} {pe:Option Code} {fn:Func} {ss:List cu} (hres:fn.results= #[]) (hs:s≠ .busy) (hR:Rg w0 w1 idsR l D rc nO Ek ps assign body s pe) (hs0:w0.sus=ss)
    (h:At (w0.re (.df D::ss)) X0 nO Ek st (Pw (dW D::ds) (match pe with|none=>Q .normal|some c=>c.wpIn (rF r) 0 P Q))) {a:Act} {w:World} (hrel:Rel w1 X0 n E st a w):LeavesInM (rF none) 0 P fn a.tmps (rangePost (rF r) 0 P l Q (Act.wd (dW D::ds) ⟨rc.tmps, []⟩)) [] .returning w:=by
  obtain⟨β,X,hr⟩:=hrel
  subst hs0
  have hss:w1.sus= .lp l {rc with state:=s,pending:=pe} Ek w1.β:: .df D::w0.sus:=hR.sub.sus
  have hmem:(.lp l {rc with state:=s,pending:=pe} Ek w1.β:cu)∈w1.sus:=by rw [hss];exact .head _
  have hk:=hr.mem.below.sus _ hmem
  have hl:=hk.2
  have hlp:=hr.sslot _ hmem
  have hx:cc X X w (w.putObj l (.loop {rc with state:= .exhausted,pending:=pe})):=fun b o h=>⟨h,(Qt.put (B:=w1) hk.1 hl rfl rfl).cell (hr.mem.xlt b o h)⟩
  have hrun:(results fn a.tmps).run P w= .ok (.tuple #[]) w:=lP (rs:= []) (us:= []) (by rw [hres]) (by simp)
  have hrel0:Rel (w0.re (.df D::w0.sus)) X0 nO Ek st ⟨rc.tmps, []⟩ (w.putObj l (.loop {rc with state:= .exhausted,pending:=pe})):=by
    refine⟨β,X,hr.gG hR.sub.w.symm hR.sub.M.symm (Qt.put hk.1 hl rfl rfl) (fun id y h=>hr.mem.b0 id y (hR.sub.ext id y h)) (fun s' hs'=>?_) (fun s' hs'=>?_) hR.size rfl (fun t v ht=>?_)⟩
    · refine wU (B := w1) hl (fun b h => (nB hR.sub.w hR.sub.M b).1 h) (fun r E β e => ?_) (hr.mem.below.sus s' (by rw [hss]; exact .tail _ hs'))
      subst e
      rcases List.mem_cons.1 hs' with e|hs'
      · cases e
      · exact hR.old _ _ _ hs'
    · exact cu.jG hx (hr.sslot s' (by rw [hss];exact .tail _ hs'))
    · obtain ⟨u, g1, g2⟩ := hlp t v ht
      exact⟨u,g1,dO (fun b o h=>⟨h,rfl⟩) _ _ _ _ hr.mem.b0 g2⟩
  refine⟨_,hrun,pe,_,run_endLoop hl hs,?_⟩
  have:=h _ _ hrel0
  cases pe with
  |none=>exact this
  |some c=>exact this
section itret
variable {l D nO:Nat} {rc:Loop} {Ek:Ev} {ps:List Tmp} {assign body:Code} {idsR:List Nat} {s:LoopState} {fn:Func} {ss:List cu}
theorem Fp (hres:fn.results= #[]) (hR:Rg w0 w1 idsR l D rc nO Ek ps assign body .ready none) (hs0:w0.sus=ss) (h:At (w0.re (.df D::ss)) X0 nO Ek st (Pw (dW D::ds) (Q .normal))):
    At w1 X0 n E st (Pw [] (bodyPostM (rF none) 0 P fn (rangePost (rF r) 0 P l Q (Act.wd (dW D::ds) ⟨rc.tmps, []⟩)) .ret)):=fun a w hr=>by
  have hd:a.defers= []:=by obtain⟨_,_,hr⟩:=hr;exact hr.defers
  show LeavesInM (rF none) 0 P fn (a.wd []).tmps _ (a.wd []).defers .returning w
  rw [lV,hd]
  exact BC hres (by simp) hR hs0 h hr
theorem vj (hres:fn.results= #[]) (hR:Rg w0 w1 idsR l D rc nO Ek ps assign body .ready none) (hs0:w0.sus=ss) (h:At (w0.re (.df D::ss)) X0 nO Ek st (Pw (dW D::ds) (Q .normal))):
    At w1 X0 n E st (Pw [] (bodyPostM (rF none) 0 P fn (rangePost (rF r) 0 P l Q (Act.wd (dW D::ds) ⟨rc.tmps, []⟩)) .normal)):=Fp hres hR hs0 h
theorem Fq {c:Code} (hres:fn.results= #[]) (hR:Rg w0 w1 idsR l D rc nO Ek ps assign body .done (some c)) (hs0:w0.sus=ss) (h:At (w0.re (.df D::ss)) X0 nO Ek st (Pw (dW D::ds) (c.wpIn (rF r) 0 P Q))):
    At w1 X0 n E st (Pw [] (bodyPostM (rF none) 0 P fn (rangePost (rF r) 0 P l Q (Act.wd (dW D::ds) ⟨rc.tmps, []⟩)) .ret)):=fun a w hr=>by
  have hd:a.defers= []:=by obtain⟨_,_,hr⟩:=hr;exact hr.defers
  show LeavesInM (rF none) 0 P fn (a.wd []).tmps _ (a.wd []).defers .returning w
  rw [lV,hd]
  exact BC hres (by simp) hR hs0 h hr
theorem Fo {c:Code} (hres:fn.results= #[]) (hR:Rg w0 w1 idsR l D rc nO Ek ps assign body .done (some c)) (hs0:w0.sus=ss) (h:At (w0.re (.df D::ss)) X0 nO Ek st (Pw (dW D::ds) (c.wpIn (rF r) 0 P Q))):
    At w1 X0 n E st (Pw [] (bodyPostM (rF none) 0 P fn (rangePost (rF r) 0 P l Q (Act.wd (dW D::ds) ⟨rc.tmps, []⟩)) .normal)):=Fq hres hR hs0 h
end itret
theorem Hn {f:FuncId} {fn:Func} {c:Code} {args:List A} {s0:St} {R:A→St→Prop} (hf:P.funcs[f]? =some fn) (hb:fn.body=some c)
    (hn:fn.ntmps=n) (hname:(fn.name== "runtime.NumGoroutine")=false) (ha:args.length≤n)
    (h:∀w0 X0,w0.ids=s0.os.map Prod.fst→w0.sus= []→At w0 X0 n (gj args 0) s0 (Pw [] (c.wpIn (rF none) 0 P (bodyPostM (rF none) 0 P fn fun e w'=>∃v,e= .returned v∧Post w0 X0 R v w')))):cE P f args s0 R:=by
  intro w X β us hd hX hgl ho hi hv
  have hl:=cJ hv
  refine⟨⟨fn,hf,by simp [hb],hname⟩,(callsIn_wide (n:=0)).1 (callsIn_of_wp_marks hf hb trivial (kz (h (bw w β s0 hd) X rfl rfl _ w ⟨β,X,.of (fun _ _ h=>h) (fun _ _ h=> .inl h) (.of ⟨rfl,rfl,rfl,Nat.le_refl _,fun _ _ _=>rfl,fun s hs=>by cases hs⟩ (bK.refl β) hX hd ho hi) hgl ?_ rfl (fun s hs=>by cases hs) (fun t v ht=>?_)⟩)))⟩
  · simp [hn];omega
  · obtain ⟨_, h2⟩ := lj _ _ _ _ ht
    simp only [Nat.sub_zero]at h2
    obtain⟨u,g1,g2⟩:=fx hv h2
    have hlt:=(List.getElem?_eq_some_iff.1 g1).1
    refine⟨u,?_,g2⟩
    rw [Array.getElem?_append,if_pos (by simpa using hlt)]
    simpa using g1
theorem ov {f:FuncId} {fn:Func} {c:Code} {args:List A} {R:A→St→Prop} (hf:P.funcs[f]? =some fn) (hb:fn.body=some c)
    (hn:fn.ntmps=n) (hname:(fn.name== "runtime.NumGoroutine")=false) (ha:args.length≤n)
    (h:∀w0 X0,w0.ids= []→w0.sus= []→At w0 X0 n (gj args 0) ⟨[]⟩ (Pw [] (c.wpIn (rF none) 0 P (bodyPostM (rF none) 0 P fn fun e w'=>∃v,e= .returned v∧Post w0 X0 R v w')))):aB P f args R:=Hn hf hb hn hname ha h
theorem B9 {fn:Func} {Rr:Ending→World→Prop}:∀(ds:List Nat) {wB:Bw} {a:Act} {w:World},ds.Nodup→wB.sus=ds.map .df→Rel wB X0 n E st a w→(∀w',Rel (wB.re []) X0 n E st a w'→∃v,(results fn a.tmps).run P w'= .ok v w'∧Rr (.returned v) w')→
    LeavesInM (rF none) 0 P fn a.tmps Rr (ds.map dW) .returning w
  | [], wB, a, w, _, hs, ⟨β, X, hr⟩, h => by
    refine h w ⟨β,X,hr.gG rfl rfl .refl hr.mem.b0 (fun s hs=>by cases hs) (fun s hs=>by cases hs) hr.size hr.defers hr.slot⟩
  | D :: ds, wB, a, w, hnd, hs, ⟨β, X, hr⟩, h => by
    have hs':wB.sus= .df D::ds.map .df:=by simpa using hs
    have hk:=hr.mem.below.sus (.df D) (by rw [hs'];exact .head _)
    have hx:cc X X w (w.putObj D (.deferred none)):=fun b o h=>⟨h,(Qt.put (B:=wB) hk.1 hk.2 rfl rfl).cell (hr.mem.xlt b o h)⟩
    refine⟨by simp,.inl ⟨D,_,rfl,run_takeDeferred hk.2,?_⟩⟩
    refine B9 ds (wB:=wB.re (ds.map .df)) (List.nodup_cons.1 hnd).2 rfl ⟨β,X,hr.gG rfl rfl (Qt.put hk.1 hk.2 rfl rfl) hr.mem.b0 (fun s hs=>?_) (fun s hs=>?_) hr.size hr.defers hr.slot⟩ h
    · obtain ⟨D', hD, rfl⟩ := List.mem_map.1 hs
      have hk':=hr.mem.below.sus (.df D') (by rw [hs'];exact .tail _ hs)
      exact⟨hk'.1,(World.putObj_heap_other (fun e:D'=D=>(List.nodup_cons.1 hnd).1 (e ▸ hD))).trans hk'.2⟩
    · obtain ⟨D', hD, rfl⟩ := List.mem_map.1 hs
      trivial
theorem pR {wB:Bw} {fn:Func} {R:A→St→Prop} {rs:List ResultVar} {vs:List A} (hw:wB.w=w0.w) (hM:wB.M=w0.M) (hβ:wB.β=w0.β) (hs0:w0.sus= []) {dn:List Nat} (hdn:ds=dn.map dW) (hsB:wB.sus=dn.map .df) (hnd:dn.Nodup) (hrs:fn.results=rs.toArray) (hv:ew P E st rs vs) (h:R (ki vs) st):
    At wB X0 n E st (Pw ds (bodyPostM (rF none) 0 P fn (fun e w'=>∃v,e= .returned v∧Post w0 X0 R v w') .ret)):=fun a w hr=>by
  have hd:a.defers= []:=by obtain⟨_,_,hr⟩:=hr;exact hr.defers
  show LeavesInM (rF none) 0 P fn a.tmps _ (a.wd ds).defers .returning w
  have e:(a.wd ds).defers=dn.map dW:=by simp [Act.wd,hd,hdn]
  rw [e]
  refine B9 dn hnd hsB hr fun w' ⟨β,X,hr'⟩=>?_
  obtain⟨us,h1,h2⟩:=hv _ _ _ _ _ _ _ hr'.toRelQ
  have hr0:cd w0 X0 n E st β X a w':=hr'.gG hw.symm hM.symm .refl (by rw [←hβ];exact hr'.mem.b0) (fun s hs=>by rw [hs0]at hs;cases hs) (fun s hs=>by rw [hs0]at hs;cases hs) hr'.size hr'.defers hr'.slot
  exact⟨_,lP hrs h1,_,rfl,_,β,X,st,h,hr0.x0,hr0.xn,hr0.mem,pN h2⟩
def rB (mk:Nat→A) (cs:List A):A→St→Prop:=fun r st=>∃id,r=mk id∧st.get id=some cs
def nW (mk:Nat→A):Prop:=∀X w β i u,V X w β (mk i) u→(∃b N,β i=some (.bk b N))∧∀X' w' β' j,β' j=β i→V X' w' β' (mk j) u
theorem tH {f:Fn}:nW (fun i=> .fn f [] [.p i 0]):=by
  intro X w β i u h
  simp only [V,VS]at h
  obtain⟨us,vs,rfl,rfl,x,r,rfl,⟨b,N,h1,rfl⟩,rfl⟩:=h
  refine⟨⟨b,N,h1⟩,fun X' w' β' j hj=>?_⟩
  simp only [V,VS]
  exact⟨[],_,rfl,rfl,_, [],rfl,⟨b,N,hj.trans h1,rfl⟩,rfl⟩
theorem Js {K : Act → World → Prop} {mk : Nat → A} (hmk : nW mk) {d : Nat} (nx : Nat) (hfr : st.free nx = true) {f : FuncId} {x : Operand} {xs : List Operand} {fs cs vs vs' cells : List A} {ats : Array TypeId} {ty : TypeId} {pos aft' g} (ow : Bool) (hx : ev E x = some (.fn (.func f) fs cs)) (hxs : c5 E xs = some vs) (hv : a7 st ⟨[]⟩ ow (fs ++ vs ++ cs) vs')
    (hc:aB P f vs' (rB mk cells)) (hp:bL cells) (hf:ow=false∨dr cells) (hd:Nat.ble (d+1) n=true) (h:At w0 X0 n ((d,mk nx)::E) (st.put nx cells) K):
    At w0 X0 n E st (fun a w=>(⟨some d,.call {callee:= .value x,args:=xs.toArray,argTypes:=ats},ty,pos,aft',g⟩:Oper).wp P a w K Q):=by
  rintro a w ⟨β,X,hr⟩
  refine l6 hr hx hxs (s0:=⟨[]⟩) trivial hv hc fun v w' ⟨r,β',X',st',hR,hsup,hsub,hm,hvv⟩=>?_
  obtain⟨id,rfl,hg⟩:=hR
  obtain⟨m1,m2,m3,m4,m6⟩:=hm.after hr (fun id cs h=>by cases h) hsub hsup (upds:= []) (fun p hp=>by cases hp)
  rw [pO]at m1
  have hnx:=hr.mem.dom nx hfr
  have ho:=hm.obj id cells hg
  unfold OB at ho
  obtain⟨⟨b,N,hβ⟩,hV⟩:=hmk _ _ _ _ _ hvv
  rw [hβ]at ho
  obtain⟨o1,o2,us,rest,ety,o3,o4,o5,o6⟩:=ho
  have o1:w.heap.size≤b:=by
    rcases o1 with h|⟨id',cs',h,_⟩
    · exact h
    · cases h
  have hnX:∀o,¬(X b o∨(X' b o∧(bw w (cn ⟨[]⟩ β) ⟨[]⟩ c8).own b)):=fun o h=>by
    rcases h with h|⟨h,_⟩
    · exact o2 o (hsup b o (.inl h))
    · exact o2 o h
  have hvs:VS (fun b o=>X b o∨(X' b o∧(bw w (cn ⟨[]⟩ β) ⟨[]⟩ c8).own b)) w' (b6 β nx (.bk b N)) cells us:=by
    rcases hf with hf|hf
    · exact ey (m4 hf) _ _ _ _ (bK.refl _) (jM _ _ hp o5)
    · exact lh _ _ hf o5
  have hfresh:∀k ck q M,st.get k=some ck→β k=some (.bk q M)→q≠b:=fun k ck q M hk hq=>by
    have:=m6 q M k ck hk hq
    omega
  have m5 : Mem w0 (b6 β nx (.bk b N)) (fun b o => X b o ∨ (X' b o ∧ (bw w (cn ⟨[]⟩ β) ⟨[]⟩ c8).own b)) (st.put nx cells) w' := by
    refine .of (m1.below) (fun k y h=>(cl hnx) k y (m1.b0 k y h)) (m1.xlt) (fun k h=>?_) (fun k es hk=>?_) (fun i j ci cj q M N' hij hi hj hbi hbj=>?_)
    · rw [St.en] at h
      split at h
      · cases h
      · rename_i hne
        rw [b9 (fun e=>hne e.symm)]
        exact hr.mem.dom k h
    · rw [St.cg] at hk
      split at hk
      · rename_i e; subst e
        simp only [Option.some.injEq]at hk
        subst hk
        unfold OB
        rw [bC]
        exact⟨Bw.j7 hr.mem.below o1,hnX,us,rest,ety,o3,o4,hvs,o6⟩
      · refine (m1.obj k es hk).later (fun _ _ h => ⟨h, rfl⟩) (cl hnx) (fun q M hq => ⟨rfl, ?_⟩) fun q hq => ⟨rfl, ((m1.obj k es hk).dY hq).2.2.1⟩
        have hk':=m1.obj k es hk
        unfold OB at hk'
        rw [hq]at hk'
        exact hk'.2.1
    · rw [St.cg] at hi hj
      by_cases ei:nx=i
      · by_cases ej : nx = j
        · omega
        · rw [if_neg ej] at hj
          rw [←ei,bC]at hbi
          rw [b9 (by omega)]at hbj
          simp only [Option.some.injEq,BL.bk.injEq]at hbi
          exact hfresh j cj q N' hj hbj (by omega)
      · rw [if_neg ei] at hi
        rw [b9 (by omega)]at hbi
        by_cases ej:nx=j
        · rw [← ej, bC] at hbj
          simp only [Option.some.injEq,BL.bk.injEq]at hbj
          exact hfresh i ci q M hi hbi (by omega)
        · rw [if_neg ej] at hj
          rw [b9 (by omega)]at hbj
          exact hr.mem.inj i j ci cj q M N' hij hi hj hbi hbj
  exact h _ _ ⟨_,_,hr.gF hd m2 m3 (cl hnx) m5 (hV _ _ _ _ (bC.trans hβ.symm))⟩
theorem Cf {K:Act→World→Prop} {mk:Nat→A} (hmk:nW mk) {d:Nat} (nx:Nat) (hfr:st.free nx=true) {f:FuncId} {xs:List Operand} {vs vs' cells:List A} {ats:Array TypeId} {ty:TypeId} {pos aft' g} (ow:Bool) (hxs:c5 E xs=some vs) (hv:a7 st ⟨[]⟩ ow vs vs')
    (hc:aB P f vs' (rB mk cells)) (hp:bL cells) (hf:ow=false∨dr cells) (hd:Nat.ble (d+1) n=true) (h:At w0 X0 n ((d,mk nx)::E) (st.put nx cells) K):
    At w0 X0 n E st (fun a w=>(⟨some d,.call {callee:= .value (.func f),args:=xs.toArray,argTypes:=ats},ty,pos,aft',g⟩:Oper).wp P a w K Q):=
  Js hmk nx hfr (fs:= []) (cs:= []) ow rfl hxs (by simpa using hv) hc hp hf hd h
mutual
theorem xH:∀ {v:A},Pure v→refs v= []
  | .b _,_=>rfl
  | .i _ _,_=>rfl
  | .s _,_=>rfl
  | .nl,_=>rfl
  | .fz _ _,_=>rfl
  | .fp _,_=>rfl
  | .p _ _,h=>by simp only [Pure]at h
  | .sl _ _ _ _,h=>by simp only [Pure]at h
  | .ag cs,h=>by simp only [Pure]at h;simp only [refs];exact oY h
  | .tu cs,h=>by simp only [Pure]at h;simp only [refs];exact oY h
  | .fn _ a c,h=>by simp only [Pure]at h;simp only [refs];rw [oY h.1,oY h.2];rfl
  | .ic _ v,h=>by simp only [Pure]at h;simp only [refs];exact xH h
  | .raw _,_=>rfl
  | .mc _ _,_=>rfl
theorem oY:∀ {l:List A},bL l→ep l= []
  | [],_=>rfl
  |c::cs,h=>by simp only [bL]at h;simp only [ep];rw [xH h.1,oY h.2];rfl
end
theorem mz {l:List A} [h:dE l]:ep l= []:=oY h.out
theorem mA {v:A} [h:IsPure v]:refs v= []:=xH h.out
end
end Go.Abs
-- AbsO
namespace Go.Abs
open Go Go.Eng
section
variable {P:Program} {E:Ev} {st:St} {t t' e ty:TypeId} {x y i:Operand}
theorem EA {by':Nat} {zero:List Value} {k:IntKind} {iv:Int} {n:Nat} {cs:List A} {v:A} (j:Nat) (ht:P.underlying t=some (.array n e)) (he:TI P e 1 by' zero false) (hx:ev E x=some (.ag cs)) (hi:ev E i=some (.i k iv)) (hj:iv=(j:Int)) (hn:j<n) (hv:cs[j]? =some v):YO P E st (.index t x i) ty v:=by
  intro w0 X0 n0 β X a w hr
  obtain⟨h1,h2⟩:=hr.bq hx
  obtain⟨h3,h4⟩:=hr.bq hi
  simp only [V]at h2
  obtain⟨us,e1,e2,e3⟩:=h2
  rw [ff]at h4
  rw [e1]at h1
  rw [h4]at h3
  subst hj
  obtain⟨u,g1,g2⟩:=fx e2 hv
  refine⟨u,g2,hr.old fun w' _=>fun d pos az g a' w'' hR _=>?_⟩
  have key:(Instr.index t (.agg us.toArray) (.int k (j:Int))).run P w''= .ok u w'':=by
    simp [Instr.index,run_underlying ht,asIntOf,hn,he.sizeOf w'',part,he.isAgg w'',g1,go_sem]
  simp [execOp,hR.ev h1,hR.ev h3,key]
theorem yl {n:Nat} {cs:List A} (ht:P.underlying t=some (.slice e)) (hx:ev E x=some (.fz n cs)) (hy:ev E y=some .nl) (hn:0<n):YO P E st (.binOp .eql t x y t') ty (.b false):=by
  intro w0 X0 n0 β X a w hr
  obtain⟨h1,h2⟩:=hr.bq hx
  obtain⟨h3,h4⟩:=hr.bq hy
  simp only [V]at h2 h4
  obtain⟨ad,cap,g1,g2,g3,g4,_⟩:=h2
  rw [g1]at h1;rw [h4]at h3
  have hs:ad.isNone=false:=by
    cases ad with
    |none=>have:=g4 rfl;omega
    |some _=>rfl
  exact⟨.bool ad.isNone,by simp only [V,hs],hr.old fun w' _=>Eng.uI ht h1 h3⟩
end
end Go.Abs
-- C5A
namespace Go.Abs.D2
open Go Go.Eng Go.Abs
@[irreducible] def pj (x:List UInt8):List UInt8:=tagged [115,116,101,112] x
theorem DY (x:List UInt8):pj x=tagged [115,116,101,112] x:=by unfold pj;rfl
@[simp] theorem I8 (x:List UInt8):(pj x).length=32:=by rw [DY];simp
def fC:Nat→List UInt8→List UInt8
  |0,x=>x
  |k+1,x=>pj (fC k x)
theorem mm {x:List UInt8} (h:x.length=32):∀k,(fC k x).length=32
  |0=>h
  |_+1=>I8 _
@[irreducible] def ix (s:List UInt8) (i:Nat):List UInt8:=tagged [99,104,97,105,110] (s++ [UInt8.ofNat i])
theorem A3 (s:List UInt8) (i:Nat):ix s i=tagged [99,104,97,105,110] (s++ [UInt8.ofNat i]):=by unfold ix;rfl
@[simp] theorem NB (s:List UInt8) (i:Nat):(ix s i).length=32:=by rw [A3];simp
@[irreducible] def ml (L:List (List UInt8)):List UInt8:=tagged [112,117,98,108,105,99] L.flatten
theorem BE (L:List (List UInt8)):ml L=tagged [112,117,98,108,105,99] L.flatten:=by unfold ml;rfl
@[simp] theorem BS (L:List (List UInt8)):(ml L).length=32:=by rw [BE];simp
abbrev nI (n:Nat):A:= .i .i64 (n:Int)
@[irreducible] def jl (m:List UInt8) (i:Nat):Nat:=(m.getD (i / 4) 0).toNat / 2 ^ (6 - 2*(i % 4)) % 4
theorem Ai (m:List UInt8) (i:Nat):jl m i=(m.getD (i / 4) 0).toNat / 2 ^ (6 - 2*(i % 4)) % 4:=by unfold jl;rfl
theorem Aj (m:List UInt8) (i:Nat):jl m i<4:=by rw [Ai];omega
@[irreducible] def dl (m:List UInt8) (k:Nat):List Nat:=(List.range k).map (jl m)
theorem G4 (m:List UInt8):dl m 0= []:=by unfold dl;rfl
theorem An (m:List UInt8) (k:Nat):dl m (k+1)=dl m k++ [jl m k]:=by unfold dl;simp [List.range_succ]
@[simp] theorem Nz (m:List UInt8) (k:Nat):(dl m k).length=k:=by unfold dl;simp
theorem Jm {m:List UInt8} {k d:Nat} (h:d∈dl m k):d<4:=by
  unfold dl at h
  obtain⟨i,_,rfl⟩:=List.mem_map.1 h
  exact Aj m i
@[irreducible] def gH (m:List UInt8) (k:Nat):Nat:=((List.range k).map fun i=>3 - jl m i).sum
theorem DZ (m:List UInt8):gH m 0=0:=by unfold gH;rfl
theorem D3 (m:List UInt8) (k:Nat):gH m (k+1)=gH m k+(3 - jl m k):=by unfold gH;simp [List.range_succ]
theorem x5 (m:List UInt8):∀k,gH m k≤3*k
  |0=>by rw [DZ];omega
  |k+1=>by rw [D3];have:=x5 m k;omega
def mI (s:Nat):Nat→List Nat
  |0=> []
  |j+1=>(s / 4 ^ j % 4)::mI s j
theorem xb (s:Nat):∀j,(mI s j).length=j
  |0=>rfl
  |j+1=>by simp [mI,xb s j]
theorem Cb {s d:Nat}:∀ {j},d∈mI s j→d<4
  |0,h=>by cases h
  | j + 1, h => by
    rcases List.mem_cons.1 h with rfl|h
    · omega
    · exact Cb h
@[irreducible] def digits (m:List UInt8):List Nat:=dl m 16++mI (gH m 16) 3
theorem v8 (m:List UInt8):digits m=dl m 16++mI (gH m 16) 3:=by unfold digits;rfl
@[simp] theorem len_digits (m:List UInt8):(digits m).length=19:=by rw [v8];simp [xb]
theorem Jl {m:List UInt8} {d:Nat} (h:d∈digits m):d<4:=by
  rw [v8]at h
  rcases List.mem_append.1 h with h|h
  · exact Jm h
  · exact Cb h
theorem Bk {m:List UInt8} (i:Nat) (hi:i<m.length):((m.map u8).drop (0+i*1))[0]? =some (u8 (m.getD i 0)):=by
  simp [hi]
theorem Fa:∀n:Fin 256,kM .and .i64 (IntKind.i64.wrap (n.val:Int)) 3=((n.val % 4:Nat):Int):=by decide+kernel
theorem GY (m:List UInt8) (i:Nat):A.i .i64 (kM .and .i64 (IntKind.i64.wrap ((UInt8.ofNat ((m.getD (i / 4) 0).toNat / 2 ^ (6 - 2*(i % 4)))).toNat:Int)) 3)=nI (jl m i):=by
  have hb:=(m.getD (i / 4) 0).toNat_lt
  have hd:(m.getD (i / 4) 0).toNat / 2 ^ (6 - 2*(i % 4))<256:=Nat.lt_of_le_of_lt (Nat.div_le_self _ _) hb
  rw [ye hd,Ai]
  exact congrArg (A.i .i64) (Fa ⟨_,hd⟩)
theorem LK (m:List UInt8) (k:Nat) (h:k<16):((dl m k).map nI++List.replicate (19 - k) (nI 0)).set (0+k*1) (nI (jl m k))=(dl m (k+1)).map nI++List.replicate (19 - (k+1)) (nI 0):=by
  rw [show 0+k*1=k by omega,qV k (by simp) (by omega),An]
  simp
  omega
theorem Ib (m:List UInt8) (k:Nat) {cs:List A} (hc:cs=((dl m (k+1)).map nI++List.replicate (19 - (k+1)) (nI 0)).drop (0+k*1)):cs[0]? =some (nI (jl m k)):=by
  subst hc
  rw [List.getElem?_drop,show 0+k*1+0=k by omega,List.getElem?_append_left (by simp),An]
  simp
abbrev mG (m:List UInt8) (j:Nat):List A:=(dl m 16).map nI++List.replicate (3 - j) (nI 0)++(mI (gH m 16) j).map nI
theorem LQ (m:List UInt8) (j:Nat) (h:j<3):(mG m j).set (0+(18 - j)*1) (nI (gH m 16 / 4 ^ j % 4))=mG m (j+1):=by
  have hl:((dl m 16).map nI).length=16:=by simp
  have key:∀(A B:List Go.Abs.A) (x:Go.Abs.A) (i:Nat),A.length=16→(A++B).set (16+i) x=A++B.set i x:=fun A B x i hA=>by
    rw [List.set_append,if_neg (by omega)];congr 2;omega
  unfold mG
  rw [List.append_assoc,List.append_assoc]
  match j,h with
  |0,_=>exact key _ _ _ 2 hl
  |1,_=>exact key _ _ _ 1 hl
  |2,_=>exact key _ _ _ 0 hl
theorem Mq (m:List UInt8):(dl m 16).map nI++List.replicate (19 - 16) (nI 0)=mG m 0:=by simp [mG,mI]
theorem Mr (m:List UInt8):mG m 3=(digits m).map nI:=by rw [v8];simp [mG]
theorem x8 {L:List (List UInt8)} {i:Nat} {p:List UInt8} (h:L[i]? =some p):(L.take i).flatten++p=(L.take (i+1)).flatten:=by
  rw [List.take_add_one,h];simp
theorem I3 {L:List (List UInt8)} {i:Nat} {p:List UInt8} (h:L[i]? =some p):(L.take i).flatten.length+p.length=(L.take (i+1)).flatten.length∧(L.take (i+1)).flatten.length≤L.flatten.length:=by
  refine⟨by rw [←x8 h];simp,?_⟩
  have e:L.flatten.length=((L.take (i+1)).flatten++(L.drop (i+1)).flatten).length:=by rw [←List.flatten_append,List.take_append_drop]
  rw [e,List.length_append];omega
end Go.Abs.D2
-- C5P
namespace Go.Abs.D2
open Go Go.Eng Go.Abs
abbrev jd (n:Nat) (L:List (List UInt8)):List A:=L.flatten.map u8++List.replicate ((n - L.length)*32) (u8 0)
theorem C1 {n o:Nat} {L:List (List UInt8)} {d:List UInt8} (hD:aL L) (hl:L.length<n) (ho:o=L.length*32):(jd n L).take (0+o)++d.map u8++(jd n L).drop (0+o+32)=jd n (L++ [d]):=by
  subst ho
  have e:(L.flatten.map u8).length=L.length*32:=by rw [List.length_map,hD.len]
  unfold jd
  rw [Nat.zero_add,List.take_append_of_le_length (by omega),List.take_of_length_le (by omega),List.drop_append,List.drop_of_length_le (by omega),e,show L.length*32+32 - L.length*32=32 by omega,List.drop_replicate]
  simp only [List.nil_append,List.flatten_append,List.flatten_cons,List.flatten_nil,List.append_nil,List.map_append,List.length_append,List.length_cons,List.length_nil,Nat.zero_add]
  rw [show(n - L.length)*32 - 32=(n - (L.length+1))*32 by omega]
theorem yU (n:Nat):List.replicate (n*32) (u8 0)=jd n []:=by simp [jd]
theorem yV {n:Nat} {L:List (List UInt8)} (h:L.length=n):jd n L=L.flatten.map u8:=by simp [jd,h]
theorem BN {n:Nat} {L:List (List UInt8)} (hD:aL L) (h:L.length≤n):(jd n L).length=n*32:=by
  simp only [jd,List.length_append,List.length_map,List.length_replicate,hD.len]
  omega
abbrev qY (k:Nat):A:= .sl 1 1 (0+k*32) 32
abbrev lR (i:Nat):List A:=(List.range i).map qY++List.replicate (19 - i) .nl
theorem LO (i:Nat) (h:i<19):(lR i).set (0+i*1) (qY i)=lR (i+1):=by
  unfold lR
  rw [show 0+i*1=i by omega,qV i (by simp) (by omega),List.range_succ]
  simp
  omega
theorem C9 {ρ:dS} (h:eE ρ 1=some (some 1)):∀l:List Nat,eW ρ (l.map qY) (l.map qY)
  | []=> .nil
  |_::l=> .cons (.sl h rfl) (C9 h l)
theorem KV {ρ:dS} (h:eE ρ 1=some (some 1)) (i:Nat):eW ρ (lR i) (lR i):=
  (C9 h _).app (.pure (by
    have:∀k,bL (List.replicate k A.nl):=fun k=>by
      induction k with
      |zero=>trivial
      |succ k ih=>exact⟨trivial,ih⟩
    exact this _))
theorem Eg {st:St} {L:List (List UInt8)} (hD:aL L) (hg:st.get 1=some (L.flatten.map u8)):∀(n k:Nat),n+k=L.length→a7 st ⟨[]⟩ true ((List.range' k n).map qY) ((L.drop k).map dz)
  | 0, k, h => by
    rw [List.drop_of_length_le (by omega)]
    exact .nil
  | n + 1, k, h => by
    have hk:k<L.length:=by omega
    have hm:L[k]∈L:=List.getElem_mem hk
    rw [List.drop_eq_getElem_cons hk,List.range'_succ]
    refine .cons ?_ (Eg hD hg n (k+1) (by omega))
    have e:((L.flatten.map u8).drop (0+k*32)).take (32*1)=L[k].map u8:=by
      rw [Nat.zero_add, ←List.map_drop, ←List.map_take,hD.p8 k,show 32*1=1*32 by omega,(hD.drop k).uu 1]
      rw [List.drop_eq_getElem_cons hk]
      simp only [List.take_succ_cons,List.take_zero,List.flatten_cons,List.flatten_nil,List.append_nil]
    exact .sl rfl hg (hD _ hm).symm e (a7.pure ar) ar
theorem MP {st:St} {L:List (List UInt8)} (hD:aL L) (hl:L.length=19) (hg:st.get 1=some (L.flatten.map u8)):a7 st ⟨[]⟩ true (lR 19) (L.map dz):=by
  have:=Eg hD hg 19 0 (by omega)
  rw [List.drop_zero]at this
  simpa [lR,List.range_eq_range']using this
@[irreducible] def jC (s:List UInt8) (i:Nat):List (List UInt8):=(List.range i).map fun k=>fC 3 (ix s k)
theorem xw (s:List UInt8):jC s 0= []:=by unfold jC;rfl
theorem xx (s:List UInt8) (i:Nat):jC s (i+1)=jC s i++ [fC 3 (ix s i)]:=by unfold jC;simp [List.range_succ]
@[simp] theorem oK (s:List UInt8) (i:Nat):(jC s i).length=i:=by unfold jC;simp
theorem rp (s:List UInt8):∀i,aL (jC s i)
  |0=>by rw [xw];exact fun x h=>by cases h
  |i+1=>by rw [xx];exact(rp s i).app (.one (mm (by simp) _))
def my (s:List UInt8):List UInt8:=ml (jC s 19)
@[simp] theorem NH (s:List UInt8):(my s).length=32:=BS _
abbrev dg (m:List UInt8) (k:Nat):Nat:=(digits m).getD k 0
theorem vZ (m:List UInt8) (k:Nat):dg m k<4:=by
  rcases Nat.lt_or_ge k (digits m).length with h|h
  · simp only [dg,List.getD_eq_getElem?_getD,List.getElem?_eq_getElem h];exact Jl (List.getElem_mem h)
  · simp only [dg,List.getD_eq_getElem?_getD,List.getElem?_eq_none h];decide
theorem Bn (m:List UInt8) (k:Nat) (h:k<19):((digits m).map nI)[k]? =some (nI (dg m k)):=by
  have:k<(digits m).length:=by simpa using h
  simp [dg,List.getElem?_eq_getElem this]
def iD (s m:List UInt8) (i:Nat):List (List UInt8):=(List.range i).map fun k=>fC (dg m k) (ix s k)
theorem L2 (s m:List UInt8):iD s m 0= []:=rfl
theorem DI (s m:List UInt8) (i:Nat):iD s m (i+1)=iD s m i++ [fC (dg m i) (ix s i)]:=by simp [iD,List.range_succ]
@[simp] theorem len_signL (s m:List UInt8) (i:Nat):(iD s m i).length=i:=by simp [iD]
theorem rq (s m:List UInt8):∀i,aL (iD s m i)
  |0=>by rw [L2];exact fun x h=>by cases h
  |i+1=>by rw [DI];exact(rq s m i).app (.one (mm (by simp) _))
abbrev iU (s m:List UInt8):List (List UInt8):=iD s m 19
theorem L4 (s m:List UInt8) (i:Nat):(iD s m i).flatten.map u8++(fC (dg m i) (ix s i)).map u8=(iD s m (i+1)).flatten.map u8:=by rw [DI];simp
def jD (m:List UInt8) (S:List (List UInt8)) (i:Nat):List (List UInt8):=(List.range i).map fun k=>fC (3 - dg m k) (S.getD k [])
theorem xD (m:List UInt8) (S:List (List UInt8)):jD m S 0= []:=rfl
theorem xE (m:List UInt8) (S:List (List UInt8)) (i:Nat):jD m S (i+1)=jD m S i++ [fC (3 - dg m i) (S.getD i [])]:=by simp [jD,List.range_succ]
@[simp] theorem len_recL (m:List UInt8) (S:List (List UInt8)) (i:Nat):(jD m S i).length=i:=by simp [jD]
theorem yt {m:List UInt8} {S:List (List UInt8)} (hS:aL S):∀i,i≤S.length→aL (jD m S i)
  |0,_=>by rw [xD];exact fun x h=>by cases h
  | i + 1, h => by
    rw [xE]
    have:S.getD i []∈S:=by simp [List.getElem?_eq_getElem (show i<S.length by omega)]
    exact(yt hS i (by omega)).app (.one (mm (hS _ this) _))
def fq (m:List UInt8) (S:List (List UInt8)):List UInt8:=if S.length=19 then ml (jD m S 19)else List.replicate 32 0
def iP (S:List (List UInt8)):Nat:=if S.length=19 then 0 else 50
@[simp] theorem NI (m:List UInt8) (S:List (List UInt8)):(fq m S).length=32:=by unfold fq;split<;>simp
theorem xF {m:List UInt8} {S:List (List UInt8)} (h:S.length=19):fq m S=ml (jD m S 19)∧iP S=0:=⟨if_pos h,if_pos h⟩
theorem C7 {m:List UInt8} {S:List (List UInt8)} (h:S.length≠19):fq m S=List.replicate 32 0∧iP S=50:=⟨if_neg h,if_neg h⟩
theorem Ia {L:List (List UInt8)} (h:aL L) {k:Nat} {q:List UInt8} (hq:L[k]? =some q):((L.flatten.map u8).drop (k*32)).take 32=q.map u8:=by
  have hk:=(List.getElem?_eq_some_iff.1 hq).1
  rw [←List.map_drop, ←List.map_take,h.p8 k,show 32=1*32 by omega,(h.drop k).uu 1,List.drop_eq_getElem_cons hk]
  simp only [List.take_succ_cons,List.take_zero,List.flatten_cons,List.flatten_nil,List.append_nil]
  rw [(List.getElem?_eq_some_iff.1 hq).2]
theorem BR {x:List UInt8} (h:x.length=32) {k:Nat}:(aX (.ag ((fC k x).map u8))).length=32:=by
  show((fC k x).map u8).length=32
  rw [List.length_map];exact mm h k
end Go.Abs.D2
-- C5Q
namespace Go.Abs.D2
open Go Go.Eng Go.Abs
theorem BB (x:List UInt8) (j:Nat):∀k,fC k (fC j x)=fC (k+j) x
  |0=>by rw [Nat.zero_add];rfl
  |k+1=>by rw [show k+1+j=(k+j)+1 by omega];show pj _=pj _;rw [BB x j k]
theorem L3 (s m:List UInt8) {n i:Nat} (h:i<n):(iD s m n).getD i []=fC (dg m i) (ix s i):=by
  simp [iD,h]
theorem C8 (s m:List UInt8):∀i,i≤19→jD m (iU s m) i=jC s i
  |0,_=>by rw [xD,xw]
  | i + 1, h => by
    rw [xE,xx,C8 s m i (by omega),L3 s m (by omega),BB,show 3 - dg m i+dg m i=3 by have:=vZ m i;omega]
theorem KP (s m:List UInt8):fq m (iU s m)=my s∧iP (iU s m)=0:=by
  obtain⟨h1,h2⟩:=xF (m:=m) (S:=iU s m) (by simp)
  exact⟨by rw [h1,C8 s m 19 (by omega)];rfl,h2⟩
end Go.Abs.D2
-- C5R
namespace Go.Abs.D2
open Go Go.Eng Go.Abs
end Go.Abs.D2
-- D2U
namespace Go.Abs.D2
open Go Go.Eng Go.Abs
def iS:Nat→Nat→Nat→List Bool
  |0,_,_=> []
  |f+1,i,n=>if n≤1 then []else if i<a8 n then false::iS f i (a8 n)else true::iS f (i - a8 n) (n - a8 n)
theorem tX:∀(f g i n:Nat),n≤f→n≤g→iS f i n=iS g i n
  |0,0,_,_,_,_=>rfl
  |0,g+1,i,n,h,_=>by rw [iS,iS,if_pos (by omega)]
  |f+1,0,i,n,_,h=>by rw [iS,iS,if_pos (by omega)]
  | f + 1, g + 1, i, n, h1, h2 => by
    rw [iS,iS]
    by_cases h:n≤1
    · rw [if_pos h,if_pos h]
    · have hh := fU (n := n) (by omega)
      rw [if_neg h,if_neg h,tX f g i (a8 n) (by omega) (by omega),tX f g _ (n - a8 n) (by omega) (by omega)]
@[irreducible] def dC (i n:Nat):List Bool:=iS n i n
theorem oZ {i n:Nat} (h:n≤1):dC i n= []:=by
  unfold dC
  match n,h with
  |0,_=>rfl
  |1,_=>rfl
theorem qQ {i n:Nat} (h:2≤n) (hi:i<a8 n):dC i n=false::dC i (a8 n):=by
  have hh:=fU h
  unfold dC
  obtain⟨f,rfl⟩:∃f,n=f+1:=⟨n - 1,by omega⟩
  rw [iS,if_neg (by omega),if_pos hi,tX f _ _ _ (by omega) (Nat.le_refl _)]
theorem qS {i n:Nat} (h:2≤n) (hi:¬i<a8 n):dC i n=true::dC (i - a8 n) (n - a8 n):=by
  have hh:=fU h
  unfold dC
  obtain⟨f,rfl⟩:∃f,n=f+1:=⟨n - 1,by omega⟩
  rw [iS,if_neg (by omega),if_neg hi,tX f _ _ _ (by omega) (Nat.le_refl _)]
theorem tY:∀(f i n:Nat),n≤f→(dC i n).length≤f
  |0,i,n,h=>by rw [oZ (by omega)];simp
  | f + 1, i, n, h => by
    by_cases h1:n≤1
    · rw [oZ h1];simp
    · have hh := fU (n := n) (by omega)
      by_cases hi:i<a8 n
      · rw [qQ (by omega) hi];have:=tY f i (a8 n) (by omega);simp;omega
      · rw [qS (by omega) hi];have:=tY f (i - a8 n) (n - a8 n) (by omega);simp;omega
def fold:List Bool→List (List UInt8)→List UInt8→List UInt8
  |b::bs,q::ps,x=>fold bs ps (if b then jw q x else jw x q)
  |_,_,x=>x
theorem sL:∀(bs:List Bool) (ps:List (List UInt8)) (b:Bool) (q x:List UInt8),bs.length=ps.length→fold (bs++ [b]) (ps++ [q]) x=if b then jw q (fold bs ps x)else jw (fold bs ps x) q
  | [], [],b,q,x,_=>by simp [fold]
  | c :: bs, r :: ps, b, q, x, h => by
    simp only [List.cons_append,fold]
    exact sL bs ps b q _ (by simpa using h)
def oJ (d:List UInt8):List UInt8:=tagged [108,101,97,102] d
def iq (d:List UInt8) (i n:Nat) (p:List (List UInt8)):List UInt8:=fold (dC i n).reverse p (oJ d)
theorem Gr {d:List UInt8} {i n:Nat} {p:List (List UInt8)} (h:n≤1):iq d i n p=oJ d:=by
  unfold iq;rw [oZ h];simp [fold]
theorem Gq {d q:List UInt8} {i n:Nat} {p:List (List UInt8)} (h:2≤n) (hi:i<a8 n) (hl:p.length=(dC i (a8 n)).length):iq d i n (p++ [q])=jw (iq d i (a8 n) p) q:=by
  unfold iq
  rw [qQ h hi,List.reverse_cons,sL _ _ _ _ _ (by simpa using hl.symm)]
  rfl
theorem Gs {d q:List UInt8} {i n:Nat} {p:List (List UInt8)} (h:2≤n) (hi:¬i<a8 n) (hl:p.length=(dC (i - a8 n) (n - a8 n)).length):iq d i n (p++ [q])=jw q (iq d (i - a8 n) (n - a8 n) p):=by
  unfold iq
  rw [qS h hi,List.reverse_cons,sL _ _ _ _ _ (by simpa using hl.symm)]
  rfl
theorem wZ:∀(bs:List Bool) (ps:List (List UInt8)) (x:List UInt8),x.length=32→(fold bs ps x).length=32
  | [],_,x,h=>by simpa only [fold]using h
  |_::_, [],x,h=>by simpa only [fold]using h
  | b :: bs, q :: ps, x, h => by
    simp only [fold]
    exact wZ bs ps _ (by split<;>exact mn _ _)
@[simp] theorem Nw (d:List UInt8) (i n:Nat) (p:List (List UInt8)):(iq d i n p).length=32:=wZ _ _ _ (mn _ _)
def fits (a n:Int) (m:Nat):Prop:=1≤n∧n≤1099511627776∧0≤a∧a<n∧m=(dC a.toNat n.toNat).length
instance (a n:Int) (m:Nat):Decidable (fits a n m):=by unfold fits;infer_instance
def ot (d:List UInt8) (a n:Int) (p:List (List UInt8)):A:=if fits a n p.length then .tu [.ag ((iq d a.toNat n.toNat p).map u8),.i .i64 0]else .tu [.ag ((List.replicate 32 (0:UInt8)).map u8),.i .i64 1]
def nC (L:List (List UInt8)) (a:Int):A:=if 0≤a∧a<L.length then .tu [bD (path L a.toNat),.i .i64 0]else .tu [.nl,.i .i64 1]
theorem qR:∀(f:Nat) (L:List (List UInt8)) (i:Nat),L.length≤f→(path L i).length=(dC i L.length).length
  |0,L,i,h=>by rw [mw i (by omega),oZ (by omega)];rfl
  | f + 1, L, i, h => by
    by_cases h1:L.length≤1
    · rw [mw i h1,oZ h1];rfl
    · have hh := fU (n := L.length) (by omega)
      by_cases hi:i<a8 L.length
      · rw [oR (by omega) hi,qQ (by omega) hi,List.length_append,qR f _ _ (by rw [List.length_take];omega),List.length_take,Nat.min_eq_left (by omega)];rfl
      · rw [oS (by omega) hi,qS (by omega) hi,List.length_append,qR f _ _ (by rw [List.length_drop];omega),List.length_drop];rfl
theorem vK : ∀ (f : Nat) (L : List (List UInt8)) (i : Nat) (d : List UInt8), L.length ≤ f → L[i]? = some d → iq d i L.length (path L i) = tree L
  | 0, L, i, d, h, hd => by
    have:=(List.getElem?_eq_some_iff.1 hd).1;omega
  | f + 1, L, i, d, h, hd => by
    have hlt:=(List.getElem?_eq_some_iff.1 hd).1
    by_cases h1:L.length≤1
    · obtain ⟨x, rfl⟩ := List.length_eq_one_iff.1 (show L.length = 1 by omega)
      have:i=0:=by simp at hlt;omega
      subst this
      simp only [List.getElem?_cons_zero,Option.some.injEq]at hd
      subst hd
      rw [Gr (by simp),yd];rfl
    · have hh := fU (n := L.length) (by omega)
      by_cases hi:i<a8 L.length
      · have hT : (L.take (a8 L.length)).length = a8 L.length := by rw [List.length_take]; omega
        have ih:=vK f (L.take (a8 L.length)) i d (by omega) (by rw [List.getElem?_take,if_pos hi];exact hd)
        have hr:=qR f (L.take (a8 L.length)) i (by omega)
        rw [hT]at ih hr
        rw [oR (by omega) hi,Gq (by omega) hi hr,ih,uz (L:=L) (by omega)]
      · have hT : (L.drop (a8 L.length)).length = L.length - a8 L.length := by rw [List.length_drop]
        have ih:=vK f (L.drop (a8 L.length)) (i - a8 L.length) d (by omega) (by rw [List.getElem?_drop,show a8 L.length+(i - a8 L.length)=i by omega];exact hd)
        have hr:=qR f (L.drop (a8 L.length)) (i - a8 L.length) (by omega)
        rw [hT]at ih hr
        rw [oS (by omega) hi,Gs (by omega) hi hr,ih,uz (L:=L) (by omega)]
theorem H9 {P:List (List UInt8)} (h:aL P) {i:Nat} {q:List UInt8} (hq:P[i]? =some q):((P.flatten.map u8).drop (i*32)).take 32=q.map u8:=by
  have hlt:=(List.getElem?_eq_some_iff.1 hq).1
  rw [←List.map_drop,h.p8, ←List.map_take]
  congr 1
  rw [List.drop_eq_getElem_cons hlt,List.flatten_cons,List.take_left' (h _ (List.getElem_mem hlt))]
  exact(List.getElem?_eq_some_iff.1 hq).2
theorem A6 {bs:List Bool} {ps:List (List UInt8)} {x q:List UInt8} {b:Bool} {j:Nat} (hb:bs[j]? =some b) (hq:ps[j]? =some q):fold (bs.take (j+1)) (ps.take (j+1)) x=if b then jw q (fold (bs.take j) (ps.take j) x)else jw (fold (bs.take j) (ps.take j) x) q:=by
  have h1:=(List.getElem?_eq_some_iff.1 hb).1
  have h2:=(List.getElem?_eq_some_iff.1 hq).1
  rw [List.take_add_one,List.take_add_one,hb,hq]
  exact sL _ _ _ _ _ (by simp;omega)
theorem H8 {ds:List Bool} {j:Nat} {b:Bool} (hb:ds[j]? =some b):((ds.map A.b).drop (0+j*1))[0]? =some (.b b):=by
  rw [List.getElem?_drop,List.getElem?_map,show 0+j*1+0=j by omega,hb];rfl
end Go.Abs.D2
-- D2V
namespace Go.Abs.D2
open Go Go.Eng Go.Abs
def pZ (s:List UInt8) (k:Nat):List UInt8:= [s.getD k 0 % 4,UInt8.ofNat (k / 8)]++List.replicate 30 0
def wh (s:List UInt8) (i:Nat):List (List UInt8):=(List.range i).map (pZ s)
def Al (s:List UInt8):List (List UInt8):=wh s (min s.length 24)
@[simp] theorem len_digsK (s:List UInt8) (i:Nat):(wh s i).length=i:=by simp [wh]
theorem Ny (s:List UInt8):(Al s).length≤24:=by simp [Al];omega
@[simp] theorem len_dig1 (s:List UInt8) (k:Nat):(pZ s k).length=32:=by simp [pZ]
theorem Nr (s:List UInt8) (k:Nat): [u8 (s.getD k 0 % 4),u8 (UInt8.ofNat (k / 8))]++((List.replicate 32 (Value.int .u8 0)).map aW).drop 2=(pZ s k).map u8:=by
  simp only [pZ,List.map_append,List.map_cons,List.map_nil,List.map_replicate]
  rfl
theorem HI {i n m:Nat} (h:i<n) (hn:n≤1099511627776) (hm:m=(dC i n).length):fits (i:Int) (n:Int) m:=⟨by omega,by omega,by omega,by omega,by rw [Int.toNat_natCast,Int.toNat_natCast];exact hm⟩
def jj (d:List UInt8) (a n:Int) (p:List (List UInt8)):List UInt8:=if fits a n p.length then iq d a.toNat n.toNat p else List.replicate 32 0
def kI (a n:Int) (m:Nat):Int:=if fits a n m then 0 else 1
theorem Gm (d:List UInt8) (a n:Int) (p:List (List UInt8)):ot d a n p= .tu [.ag ((jj d a n p).map u8),.i .i64 (kI a n p.length)]:=by
  unfold ot jj kI
  split<;>rfl
@[simp] theorem Nx (d : List UInt8) (a n : Int) (p : List (List UInt8)) : (jj d a n p).length = 32 := by
  unfold jj
  split<;>simp
theorem Ko {L:List (List UInt8)} {i:Nat} (h:i<L.length) (hl:L.length≤1099511627776):fits (i:Int) (L.length:Int) (path L i).length:=HI h hl (qR _ L i (Nat.le_refl _))
def J1:List UInt8:=1::List.replicate 31 0
@[simp] theorem NG:J1.length=32:=rfl
@[simp] theorem ND (d:List UInt8):(oJ d).length=32:=mn _ _
@[simp] theorem NF (a b:List UInt8):(jw a b).length=32:=mn _ _
theorem Gp {L:List (List UInt8)} {i:Nat} {q:List UInt8} (h:L[i]? =some q) (hl:L.length≤1099511627776):jj q (i:Int) (L.length:Int) (path L i)=tree L∧kI (i:Int) (L.length:Int) (path L i).length=0:=by
  have hi:=(List.getElem?_eq_some_iff.1 h).1
  have hf:=Ko hi hl
  unfold jj kI
  rw [if_pos hf,if_pos hf,Int.toNat_natCast,Int.toNat_natCast]
  exact⟨vK _ L i q (Nat.le_refl _) h,rfl⟩
end Go.Abs.D2
-- AbsP
namespace Go.Abs
open Go Go.Eng
section
variable {P:Program} {w0:Bw} {X0:Xs} {n:Nat} {E:Ev} {st:St} {K:Act→World→Prop}
theorem fh (t:Nat) {id:Nat} {cs:List A} (ht:E.aR t=some (.p id 0)) (hg:st.get id=some cs) (hp:bL cs) (h:At w0 X0 n ((t,.fp cs)::E) (st.del id) K):At w0 X0 n E st K:=by
  rintro a w ⟨β,X,hr⟩
  obtain⟨u,g1,g2⟩:=hr.slot t _ ht
  simp only [V]at g2
  obtain⟨b,N,hβ,rfl⟩:=g2
  obtain⟨m1,m2,m3,m4⟩:=hr.mem.freeze hg hβ
  refine h a w ⟨β,_,hr.qU ht m1 m2 m3 fun u hu=>?_⟩
  simp only [V]at hu ⊢
  obtain⟨b',N',hb',rfl⟩:=hu
  rw [hβ]at hb'
  simp only [Option.some.injEq,BL.bk.injEq]at hb'
  obtain⟨rfl,rfl⟩:=hb'
  have:=m4 0 cs.length hp
  rw [List.drop_zero,List.take_length]at this
  exact⟨b,0,rfl,this⟩
variable {t t' ty:TypeId} {x:Operand}
theorem uH {v:A} (hc:P.concrete t=true) (hx:ev E x=some v):YO P E st (.makeInterface t x) ty (.ic t v):=by
  intro w0 X0 n0 β X a w hr
  obtain⟨h1,h2⟩:=hr.bq hx
  refine⟨.iface t _,by simp only [V];exact⟨_,rfl,h2⟩,hr.old fun w' _=>fun d pos az g a' w'' hR _=>?_⟩
  simp [execOp,hR.ev h1,run_makeInterface w'' t _ hc]
def Bv:TypeDesc→Bool
  | .interface _=>true
  |_=>false
theorem uL {v:A} {d:TypeDesc} (hu:P.underlying t=some d) (hd:Bv d=false) (hx:ev E x=some (.ic t v)):YO P E st (.typeAssert x t' t true) ty (.tu [v,.b true]):=by
  intro w0 X0 n0 β X a w hr
  obtain⟨h1,h2⟩:=hr.bq hx
  simp only [V]at h2
  obtain⟨u,e1,e2⟩:=h2
  rw [e1]at h1
  refine⟨.tuple #[u,.bool true],by simp only [V];exact⟨[u,.bool true],rfl,cZ e2 (cZ (by simp [V]) dB)⟩,hr.old fun w' _=>fun d' pos az g a' w'' hR _=>?_⟩
  have key:(Instr.typeAssert (.iface t u) t' t true).run P w''= .ok (.tuple #[u,.bool true]) w'':=by
    cases d<;>first|(cases hd;done)|simp [Instr.typeAssert,run_underlying hu]
  simp [execOp,hR.ev h1,key]
theorem yp {t2:TypeId} {v:A} {d:TypeDesc} {z:Value} (hu:P.underlying t=some d) (hd:Bv d=false) (hz:(P.info? t).bind (·.zero)=some z) (hx:ev E x=some (.ic t2 v)) (hne:Nat.beq t2 t=false):YO P E st (.typeAssert x t' t true) ty (.tu [.raw z,.b false]):=by
  intro w0 X0 n0 β X a w hr
  obtain⟨h1,h2⟩:=hr.bq hx
  simp only [V]at h2
  obtain⟨u,e1,e2⟩:=h2
  rw [e1]at h1
  refine⟨.tuple #[z,.bool false],by simp only [V];exact⟨[z,.bool false],rfl,cZ (by simp [V]) (cZ (by simp [V]) dB)⟩,hr.old fun w' _=>fun d' pos az g a' w'' hR _=>?_⟩
  have hn:t2≠t:=Nat.ne_of_beq_eq_false hne
  obtain⟨i,hi,hz'⟩:=Option.bind_eq_some_iff.1 hz
  have hzv:(zeroValue t).run P w''= .ok z w'':=by simp [Go.zeroValue,Go.typeInfo,hi,hz']
  have key:(Instr.typeAssert (.iface t2 u) t' t true).run P w''= .ok (.tuple #[z,.bool false]) w'':=by
    cases d<;>first|(cases hd;done)|simp [Instr.typeAssert,run_underlying hu,hn,hzv]
  simp [execOp,hR.ev h1,key]
end
end Go.Abs
-- AbsQ
namespace Go.Abs
open Go Go.Eng
mutual
inductive Wk:A→A→Prop where
  |eq {v v':A} (h:v=v'):Wk v v'
  |nl:Wk .nl (.fz 0 [])
  |ag {cs cs':List A} (h:gy cs cs'):Wk (.ag cs) (.ag cs')
  |tu {cs cs':List A} (h:gy cs cs'):Wk (.tu cs) (.tu cs')
inductive gy:List A→List A→Prop where
  |nil:gy [] []
  |cons {c c':A} {cs cs':List A} (h:Wk c c') (hs:gy cs cs'):gy (c::cs) (c'::cs')
end
instance {v k} [h:ij v]:ga (List.replicate k v):=⟨mO.2 fun c hc=>by rw [List.eq_of_mem_replicate hc];exact h.out⟩
theorem gy.same:∀ {cs:List A},gy cs cs
  | []=> .nil
  |_::_=> .cons (.eq rfl) gy.same
mutual
theorem rK {X:Xs} {w:World} {β:Bm}:∀ {v v':A} {u:Value},Wk v v'→V X w β v u→V X w β v' u
  |_,_,_,.eq h,hv=>h ▸ hv
  |_,_,_,.nl,hv=>ES hv
  | _, _, _, .ag h, hv => by
    simp only [V]at hv ⊢
    obtain⟨us,e1,e2,e3⟩:=hv
    exact⟨us,e1,rJ h e2,e3⟩
  | _, _, _, .tu h, hv => by
    simp only [V]at hv ⊢
    obtain⟨us,e1,e2⟩:=hv
    exact⟨us,e1,rJ h e2⟩
theorem rJ {X:Xs} {w:World} {β:Bm}:∀ {cs cs':List A} {us:List Value},gy cs cs'→VS X w β cs us→VS X w β cs' us
  |_,_,_,.nil,hv=>hv
  | _, _, _, .cons h hs, hv => by
    simp only [VS]at hv
    obtain⟨u,r,rfl,h1,h2⟩:=hv
    exact cZ (rK h h1) (rJ hs h2)
end
section
variable {P:Program} {w0:Bw} {X0:Xs} {n:Nat} {E:Ev} {st:St} {K:Act→World→Prop}
theorem FA (t:Nat) {v v':A} (ht:E.aR t=some v) (hw:Wk v v') (h:At w0 X0 n ((t,v')::E) st K):At w0 X0 n E st K:=by
  rintro a w ⟨β,X,hr⟩
  exact h a w ⟨β,X,hr.qU ht hr.mem (fun _ _ h=>⟨h,rfl⟩) (fun _ _ h=> .inl h) (fun u hu=>rK hw hu)⟩
theorem iG (id : Nat) {cs cs' : List A} (hg : st.get id = some cs) (hw : gy cs cs') (h : At w0 X0 n E (st.put id cs') K) : At w0 X0 n E st K := by
  rintro a w ⟨β,X,hr⟩
  have hm : Mem w0 β X (st.put id cs') w := by
    refine .of hr.mem.below hr.mem.b0 hr.mem.xlt (fun k hk=>?_) (fun k ds hk=>?_) (fun i j ci cj b M N hij h1 h2=>?_)
    · rw [St.en] at hk
      split at hk
      · cases hk
      · exact hr.mem.dom k hk
    · rw [St.cg] at hk
      split at hk
      · rename_i he
        subst he
        simp only [Option.some.injEq]at hk
        subst hk
        have:=hr.mem.obj id cs hg
        unfold OB at this ⊢
        split at this
        · exact this
        · subst this;cases hw;rfl
        · obtain ⟨h1, h2, us, rest, ty, h3, h4, h5, h6⟩ := this
          exact⟨h1,h2,us,rest,ty,h3,h4,rJ hw h5,h6⟩
        · obtain ⟨h0, h1, h2, f, es, clk, h3, h4, h5⟩ := this
          subst h3
          refine⟨h0,h1,h2,f,es,clk,?_,h4,h5⟩
          cases hw with
          | cons a b =>
            cases b
            cases a with
            |eq e=>rw [←e]
      · exact hr.mem.obj k ds hk
    · have g : ∀ (k : Nat) (c : List A), (st.put id cs').get k = some c → ∃ c', st.get k = some c' := by
        intro k c hk
        rw [St.cg]at hk
        split at hk
        · rename_i he;subst he;exact⟨_,hg⟩
        · exact⟨_,hk⟩
      obtain⟨c1,e1⟩:=g _ _ h1
      obtain⟨c2,e2⟩:=g _ _ h2
      exact hr.mem.inj i j c1 c2 b M N hij e1 e2
  exact h a w ⟨β,X,.of hr.x0 hr.xn hm hr.gl hr.size hr.defers hr.sslot hr.slot⟩
end
theorem aB.wk {P:Program} {f:FuncId} {args:List A} {r r':A} (h:aB P f args (aU r)) (hw:Wk r r'):aB P f args (aU r'):=h.MQ fun _ _ _ _ hv=>rK hw hv
section
variable {P:Program} {w0:Bw} {X0:Xs} {n:Nat} {E F:Ev} {st:St} {K:Act→World→Prop} {Q:Exit→Act→World→Prop}
theorem tk {d:Nat} {f:FuncId} {xs:List Operand} {vs:List A} {ats:Array TypeId} {ty:TypeId} {pos aft' g} {ret:A} (t:Nat) {id s off m m':Nat} {cs ds:List A} (ht:E.aR t=some (.sl id s off m)) (hg:st.get id=some cs) (hpc:bL cs) (hm:m=m') (hdd:(cs.drop off).take (m*s)=ds)
    (hxs:c5 ((t,.fz m' ds)::E) xs=some vs) (hpv:bL vs) (hc:aB P f vs (aU ret)) (hp:Pure ret) (hd:Nat.ble (d+1) n=true) (h:At w0 X0 n ((d,ret)::E) (st.del id) K):
    At w0 X0 n E st (fun a w=>(⟨some d,.call {callee:= .value (.func f),args:=xs.toArray,argTypes:=ats},ty,pos,aft',g⟩:Oper).wp P a w K Q):=by
  rintro a w ⟨β,X,hr⟩
  subst hdd;subst hm
  obtain⟨u,g1,g2⟩:=hr.slot t _ ht
  obtain⟨X1,m1,m2,m3,m4⟩:=wM hr.mem hg hpc g2
  have hr2:=hr.qU ht m1 m2 m3 (fun u hu=>m4 s off m u hu)
  have hr1:cd w0 X0 n E (st.del id) β X1 a w:= .of (fun b o h=>(m2 b o (hr.x0 b o h)).1) (fun b o h=>(m3 b o h).elim (hr.xn b o) .inr) m1 (hr.gl.mono m2) hr.size hr.defers (fun s hs=>cu.jG m2 (hr.sslot s hs)) (fun t v hv=>let ⟨u,q1,q2⟩:=hr.slot t v hv;⟨u,q1,dO m2 _ _ _ _ (bK.refl β) q2⟩)
  have hcS:cE P f vs ⟨[]⟩ (gP ret []):=cE.mono hc fun r st h=>⟨h,(fun p hp=>by cases hp)⟩
  refine l6 (fs:= []) (cs:= []) (s0:=⟨[]⟩) (ow:=false) hr2 rfl hxs trivial (by simpa using a7.pure hpv) hcS fun v w' ⟨r,β',X',st',⟨hR,hR2⟩,hsup,hsub,hm,hvv⟩=>?_
  obtain⟨k1,k2,k3,k4,_⟩:=hm.after hr2 (fun id cs h=>by cases h) hsub hsup (upds:= []) (fun p hp=>by cases hp)
  subst hR
  exact h _ _ ⟨β,_,hr1.gF hd k2 k3 (bK.refl β) k1 (dO (k4 rfl) _ _ _ _ (bK.refl β) (kE _ _ hp hvv))⟩
theorem Je {p:Nat×A} (h:gD E F):gD (p::E) (p::F):=fun t v ht=>by
  obtain⟨k,u⟩:=p
  simp only [Ev.aR]at ht ⊢
  cases hb:Nat.beq k t with
  |true=>rw [hb]at ht;exact ht
  |false=>rw [hb]at ht;exact h t v ht
variable {r:Option Nat} {ds0:List Deferred} {N:Nat} {E0:EV} {st0:St} {ops:Array Oper} {k g:Nat} {plan:List bR} {rest:List Oper} {gd:Option (Nat×Bool)} {d:Nat} {ty:TypeId} {pos:String} {az:Array Edge}
theorem wN {f:FuncId} {xs:List Operand} {vs:List A} {ats:Array TypeId} {ret:A} (t:Nat) {id s off m m':Nat} {cs ds:List A} (k0:Nat) (deps:List Nat) (need:List (Nat×Option Nat)) (hg:fO ops (cr (E0.at k0) deps k0 E) gd) (ht:(cr (E0.at k0) deps k0 E).aR t=some (.sl id s off m)) (hgt:(fD plan st0 need).get id=some cs) (hpc:bL cs) (hm:m=m') (hdd:(cs.drop off).take (m*s)=ds)
    (hxs:c5 ((t,.fz m' ds)::cr (E0.at k0) deps k0 E) xs=some vs) (hpv:bL vs) (hc:aB P f vs (aU ret)) (hp:Pure ret) (hb:Nat.ble (d+1) N=true) (hd:eX k0 deps need=true) (h:FS r ds0 P w0 X0 N Q ops k g E0 st0 (plan++ [⟨d,ret,deps, [id], [],need, []⟩]) (k0+1) ((d,ret)::E) (st.del id) rest):
    FS r ds0 P w0 X0 N Q ops k g E0 st0 plan k0 E st (⟨some d,.call {callee:= .value (.func f),args:=xs.toArray,argTypes:=ats},ty,pos,az,gd⟩::rest):=
  gW ⟨d,ret,deps, [id], [],need, []⟩ (fun hk hE _ _ _ hD hs _ hK=>have he':=hD.fin hE hk;jx hg he' (tk t (he' _ _ ht) (hs _ _ hgt) hpc hm hdd (oA (Je he') hxs) hpv hc hp hb hK)) hd h
end
end Go.Abs
namespace Go.Eng
end Go.Eng
namespace Go.Abs
open Go Go.Eng
end Go.Abs
namespace Go.Abs
open Go Go.Eng
section
variable {P:Program} {w0:Bw} {X0:Xs} {n:Nat} {E:Ev} {st:St} {Q:Exit→Act→World→Prop} {r:Option Nat} {ds:List Deferred} {ops:Array Oper} {rest:List Oper} {d:Nat} {op:Op} {ty:TypeId} {pos:String} {az:Array Edge}
theorem RelQ.EC {β:Bm} {X:Xs} {a:Act} {w:World} (h:RelQ w0 X0 n E st β X a w) {j t:Nat} (hj:dc ops j=some t) (hb:E.aR t=some un):yielded ops a.tmps j=none:=by
  obtain⟨u,h1,h2⟩:=h.slot t _ hb
  simp only [V]at h2
  subst h2
  unfold dc at hj
  simp only [yielded,hj,h1,Option.bind_some]
  rfl
theorem cq {j t:Nat} {b:Bool} {K:Act→World→Prop} (hj:dc ops j=some t) (hb:E.aR t=some un) (hd:Nat.ble (d+1) n=true)
    (h:At w0 X0 n ((d,un)::E) st (fun a w=>wpStill P ops w (fun a'=>K a' w) rest a)):At w0 X0 n E st (fun a w=>wpStill P ops w (fun a'=>K a' w) (⟨some d,op,ty,pos,az,some (j,b)⟩::rest) a):=
  fun a w ⟨β,X,hr⟩=>by
    show wpStill P ops w (fun a'=>K a' w) (_::rest) a
    unfold wpStill
    rw [if_neg (by simp [Region.wanted,hr.EC hj hb])]
    exact h _ _ ⟨β,X,hr.put hd (by simp [V])⟩
theorem JO {j t:Nat} {b:Bool} {K:Act→World→Prop} (hj:dc ops j=some t) (hb:E.aR t=some un) (hd:Nat.ble (d+1) n=true) (h:At w0 X0 n ((d,un)::E) st K):At w0 X0 n E st (jI P ops Q ⟨some d,op,ty,pos,az,some (j,b)⟩ K):=fun a w ⟨β,X,hr⟩=>by
  unfold jI
  rw [if_neg (by simp [Region.wanted,hr.EC hj hb])]
  exact h _ _ ⟨β,X,hr.put hd (by simp [V])⟩
variable {E0:EV} {st0:St} {k g:Nat} {plan:List bR} {ds0:List Deferred}
theorem ba {j t:Nat} {b:Bool} (k0:Nat) (deps:List Nat) (hj:dc ops j=some t) (hbv:(cr (E0.at k0) deps k0 E).aR t=some un) (hb:Nat.ble (d+1) n=true) (hd:eX k0 deps []=true)
    (h:FS r ds0 P w0 X0 n Q ops k g E0 st0 (plan++ [⟨d,un,deps, [], [], [], []⟩]) (k0+1) ((d,un)::E) st rest):FS r ds0 P w0 X0 n Q ops k g E0 st0 plan k0 E st (⟨some d,op,ty,pos,az,some (j,b)⟩::rest):=
  gW ⟨d,un,deps, [], [], [], []⟩ (fun hk hE _ _ _ hD _ _ hK=>have he:=hD.fin hE hk;JO hj (he _ _ hbv) hb hK) hd h
end
end Go.Abs
namespace Go.Abs
open Go Go.Eng
theorem Dc {st:St} {r:A} {i j:Nat} {ci cj:List A} (h1:st.get i=some ci) (h2:st.get j=some cj):gP r [(i,ci),(j,cj)] r st:=⟨rfl,fun p hq=>by
  rcases List.mem_cons.1 hq with rfl|hq
  · exact h1
  · rw [List.mem_singleton] at hq
    subst hq
    exact h2⟩
end Go.Abs
-- K6A
namespace Go.Abs.D2
open Go Go.Eng Go.Abs
def kZ (a:Int) (i:Nat):UInt8:=UInt8.ofNat ((a % 4294967296).toNat / 2 ^ (24 - 8*i))
def eF (a:Int) (k:Nat):List UInt8:=(List.range k).map (kZ a)
theorem LD (a:Int) (k:Nat):eF a (k+1)=eF a k++ [kZ a k]:=by simp [eF,List.range_succ]
@[simp] theorem len_seedBs (a:Int) (k:Nat):(eF a k).length=k:=by simp [eF]
@[irreducible] def fE (x:List UInt8) (a:Int):List UInt8:=tagged [108,101,97,102] (x++eF a 4)
theorem Dz (x:List UInt8) (a:Int):fE x a=tagged [108,101,97,102] (x++eF a 4):=by unfold fE;rfl
@[simp] theorem NK (x:List UInt8) (a:Int):(fE x a).length=32:=by rw [Dz];simp
theorem ue (a:Int) (i:Nat) (h:i<4):A.i .u8 (IntKind.u8.wrap (a.fdiv (2 ^ min (((24 - 8*i:Nat):Int).toNat) IntKind.i64.bits)))=u8 (kZ a i):=by
  refine congrArg (A.i .u8) ?_
  have:i=0∨i=1∨i=2∨i=3:=by omega
  unfold kZ
  rw [UInt8.toNat_ofNat']
  rcases this with rfl|rfl|rfl|rfl
  · show (a.fdiv 16777216) % 256 = _
    rw [Int.fdiv_eq_ediv_of_nonneg _ (by omega)];omega
  · show (a.fdiv 65536) % 256 = _
    rw [Int.fdiv_eq_ediv_of_nonneg _ (by omega)];omega
  · show (a.fdiv 256) % 256 = _
    rw [Int.fdiv_eq_ediv_of_nonneg _ (by omega)];omega
  · show (a.fdiv 1) % 256 = _
    rw [Int.fdiv_eq_ediv_of_nonneg _ (by omega)];omega
theorem LN {x:List UInt8} (hx:x.length=32) (a:Int) (i:Nat) (h:i<4):((x++eF a i++List.replicate (4 - i) 0).map u8).set (0+(32+i)*1) (u8 (kZ a i))=(x++eF a (i+1)++List.replicate (4 - (i+1)) 0).map u8:=by
  rw [←List.map_set]
  refine congrArg (List.map u8) ?_
  rw [show 0+(32+i)*1=(x++eF a i).length+0 by simp [hx],List.set_append_right _ _ (by omega),show(x++eF a i).length+0 - (x++eF a i).length=0 by omega,show 4 - i=(4 - (i+1))+1 by omega,List.replicate_succ,List.set_cons_zero,LD]
  simp
theorem Gz {x:List UInt8} {a:Int}:((List.replicate 36 (Value.int .u8 0)).map aW).take 0++x.map u8++((List.replicate 36 (Value.int .u8 0)).map aW).drop (0+32)=(x++eF a 0++List.replicate (4 - 0) 0).map u8:=by
  simp [eF,aW]
def dt (x:List UInt8) (k:Nat):List (List UInt8):=(List.range k).map fun i=>my (fE x ((i:Nat):Int))
@[simp] theorem len_kpubs (x:List UInt8) (k:Nat):(dt x k).length=k:=by simp [dt]
theorem IB (x:List UInt8) (k:Nat):dt x (k+1)=dt x k++ [my (fE x ((k:Nat):Int))]:=by simp [dt,List.range_succ]
theorem Iz (x:List UInt8) (k:Nat):(dt x k).flatten.map u8++(my (fE x ((k:Nat):Int))).map u8=(dt x (k+1)).flatten.map u8:=by rw [IB];simp
theorem mN (x:List UInt8) (k:Nat):aL (dt x k):=fun y hy=>by
  obtain⟨i,_,rfl⟩:=List.mem_map.1 hy
  exact BS _
theorem IA {x:List UInt8} {k i:Nat} (h:i<k):(dt x k)[i]? =some (my (fE x ((i:Nat):Int))):=by simp [dt,h]
def cv (n:Int):Prop:=1≤n∧n≤256
instance (n:Int):Decidable (cv n):=by unfold cv;infer_instance
theorem ug {n:Int} (h:cv n):∃k:Nat,n=(k:Int)∧1≤k∧k≤256:=⟨n.toNat,by unfold cv at h;omega,by unfold cv at h;omega,by unfold cv at h;omega⟩
abbrev zD:List UInt8:=List.replicate 32 0
@[irreducible] def dM (x:List UInt8) (n:Int):List UInt8:=if cv n then tree (dt x n.toNat)else zD
def wC (b:Bool):Int:=if b then 0 else 60
theorem ub {x:List UInt8} {k:Nat} (h:cv (k:Int)):dM x (k:Int)=tree (dt x k):=by unfold dM;rw [if_pos h];rfl
theorem K9 {x:List UInt8} {n:Int} (h:¬cv n):dM x n=zD:=by unfold dM;rw [if_neg h]
@[simp] theorem NJ (x:List UInt8) (n:Int):(dM x n).length=32:=by unfold dM;split<;>simp
@[irreducible] def rootA (x:List UInt8) (n:Int):A:= .tu [.ag ((dM x n).map u8),.i .i64 (wC (decide (cv n)))]
theorem xK (x:List UInt8) (n:Int):rootA x n= .tu [.ag ((dM x n).map u8),.i .i64 (wC (decide (cv n)))]:=by unfold rootA;rfl
theorem K8 {x:List UInt8} {k:Nat} (h:cv (k:Int)):rootA x k= .tu [.ag ((tree (dt x k)).map u8),.i .i64 0]:=by rw [xK,ub h,decide_eq_true h];rfl
theorem K7 {x:List UInt8} {n:Int} (h:¬cv n):rootA x n= .tu [.ag (zD.map u8),.i .i64 60]:=by rw [xK,K9 h,decide_eq_false h];rfl
abbrev sX (a:Int) (S P:List (List UInt8)):A:= .ag [.i .i64 a,bD S,bD P]
def fQ (n a:Int):Prop:=0≤a∧a<n
instance (n a:Int):Decidable (fQ n a):=by unfold fQ;infer_instance
@[irreducible] def signA (x:List UInt8) (n a:Int) (m:List UInt8):A:=if cv n∧fQ n a then .tu [sX a (iU (fE x a) m) (path (dt x n.toNat) a.toNat),.i .i64 0]else .tu [sX 0 [] [],.i .i64 60]
theorem L1 {x m:List UInt8} {n a:Int} (h:¬(cv n∧fQ n a)):signA x n a m= .tu [sX 0 [] [],.i .i64 60]:=by unfold signA;rw [if_neg h]
theorem xU {x m:List UInt8} {k i:Nat} (h:cv (k:Int)) (hi:i<k):signA x k i m= .tu [sX i (iU (fE x i) m) (path (dt x k) i),.i .i64 0]:=by unfold signA;rw [if_pos ⟨h,by unfold fQ;omega⟩];rfl
theorem Kn {L:List (List UInt8)} {i:Nat} (h:i<L.length):nC L i= .tu [bD (path L i),.i .i64 0]:=by unfold nC;rw [if_pos (by omega)];rfl
theorem Km {L:List (List UInt8)} {a:Int} (h:¬(0≤a∧a<L.length)):nC L a= .tu [.nl,.i .i64 1]:=by unfold nC;rw [if_neg h]
theorem EF (x m:List UInt8):aL (iU x m):=rq x m 19
@[irreducible] def fc (r:List UInt8) (n:Int) (m:List UInt8) (a:Int) (S P:List (List UInt8)):Bool:=decide (cv n)&&(decide (fQ n a)&&(decide (iP S=0)&&((kI a n P.length==0)&&(jj (fq m S) a n P==r))))
theorem MJ {r m:List UInt8} {n a:Int} {S P:List (List UInt8)} (h:¬cv n):fc r n m a S P=false:=by unfold fc;simp [h]
theorem MK {r m:List UInt8} {n a:Int} {S P:List (List UInt8)} (h:¬fQ n a):fc r n m a S P=false:=by unfold fc;simp [h]
theorem ML {r m:List UInt8} {n a:Int} {S P:List (List UInt8)} (h:¬iP S=0):fc r n m a S P=false:=by unfold fc;simp [h]
theorem MM {r m:List UInt8} {n a:Int} {S P:List (List UInt8)} (h:((kI a n P.length==0)&&(jj (fq m S) a n P==r))=false):fc r n m a S P=false:=by unfold fc;rw [h];simp
theorem Ee {r m:List UInt8} {n a:Int} {S P:List (List UInt8)} (h1:cv n) (h2:fQ n a) (h3:iP S=0) (h4:((kI a n P.length==0)&&(jj (fq m S) a n P==r))=true):fc r n m a S P=true:=by unfold fc;rw [h4];simp [h1,h2,h3]
theorem MO {r m:List UInt8} {n a:Int} {S P:List (List UInt8)} (h:fc r n m a S P=true):cv n∧fQ n a∧iP S=0∧kI a n P.length=0∧jj (fq m S) a n P=r:=by
  unfold fc at h
  simp only [Bool.and_eq_true,decide_eq_true_eq,beq_iff_eq]at h
  exact⟨h.1,h.2.1,h.2.2.1,h.2.2.2.1,h.2.2.2.2⟩
abbrev Kx (m:List UInt8) (S:List (List UInt8)) (i:Nat):List UInt8:=if i≤2 then zD else fq m S
theorem KQ (S:List (List UInt8)):(((iP S:Nat):Int)==0)=decide (iP S=0):=by rw [Bool.eq_iff_iff,beq_iff_eq,decide_eq_true_eq];omega
theorem Fi (n a:Int):(decide (a≥0)&&decide (a<n))=decide (fQ n a):=by rw [Bool.eq_iff_iff,Bool.and_eq_true,decide_eq_true_eq,decide_eq_true_eq,decide_eq_true_eq];unfold fQ;omega
end Go.Abs.D2
-- K6P
namespace Go.Abs.D2
open Go Go.Eng Go.Abs
def DH (L:List (List UInt8)) (i:Nat):List UInt8:=L.getD i zD
def m9 (n:Int) (s p:Nat):Bool:=(decide (n≤10)||decide (n>256))&&decide ((s:Int)≤30)&&decide ((p:Int)≤12)
end Go.Abs.D2
