/-
  The engine, the plain laws and the walks that the rows need, part 8. Conditions: none.
-/
import Derived.Test.YtjlkadndgajleaaGreatDoorM7
import Derived.Lib.ConvBytes
import Derived.Laws.Strings
set_option linter.unusedVariables false
set_option linter.unusedSimpArgs false
set_option maxHeartbeats 1000000
set_option maxRecDepth 10000
-- AbsJ
namespace Go.Abs
open Go Go.Eng
section
variable {P:Program} {w0:Bw} {X0 X:Xs} {n:Nat} {E:Ev} {st:St} {β:Bm} {a:Act} {w:World} {Q:Exit→Act→World→Prop} {K:Act→World→Prop}
theorem Mem.HJ (hm:Mem w0 β X st w) {w1:World} {b:Nat} (L:Nat) (hbel:RowKit.Below w.heap.size w w1) (hb:w.heap.size≤b) (hb1:b<w1.heap.size):
    let X1:Xs:=fun q o=>X q o∨(q=b∧o<L)
    Mem w0 β X1 st w1∧dM X X1 w w1∧(∀q o,X1 q o→X q o∨w0.own q):=by
  intro X1
  have hx:dM X X1 w w1:=fun q o h=>⟨.inl h,World.cell?_of_block (w:=w) (hbel.block q (hm.xlt q o h))⟩
  refine⟨.of (hm.below.trans hbel) hm.b0 (fun q o h=>?_) hm.dom (fun k ds hg=>?_) (fun i j ci cj q M N' hij hi hj hbi hbj=>hm.inj i j ci cj q M N' hij hi hj hbi hbj),hx,fun q o h=>?_⟩
  · rcases h with h | ⟨rfl, _⟩
    · exact Nat.lt_of_lt_of_le (hm.xlt q o h) hbel.size
    · exact hb1
  · refine (hm.obj k ds hg).later hx (c4.refl β) (fun q M hq => ?_) fun q hq => ⟨hbel.block q ((hm.obj k ds hg).qA hq), fun o h => h.elim (((hm.obj k ds hg).gm hq).2.2.1 o) fun h => by have := (hm.obj k ds hg).qA hq; omega⟩
    have ho:=hm.obj k ds hg
    unfold OB at ho
    rw [hq]at ho
    obtain⟨_,h2,us',rest',ty',h3,_⟩:=ho
    have hlt:=(Array.getElem?_eq_some_iff.1 h3).1
    refine⟨hbel.block q hlt,fun o h=>?_⟩
    rcases h with h|⟨rfl,_⟩
    · exact h2 o h
    · omega
  · rcases h with h | ⟨rfl, _⟩
    · exact .inl h
    · exact .inr (Bw.mO hm.below hb)
theorem GF {d:Nat} {src dst e ty:TypeId} {pos bU g} {x:Operand} {l:List UInt8} (hs:P.underlying src=some .string) (hdt:P.underlying dst=some (.slice e)) (he:P.underlying e=some (.int .u8)) (hx:ev E x=some (.s l)) (hl:l.length≤maxLen) (hd:Nat.ble (d+1) n=true)
    (h:At w0 X0 n ((d,.fz l.length (l.map u8))::E) st K):At w0 X0 n E st (fun a w=>(⟨some d,.convert src dst x,ty,pos,bU,g⟩:Oper).wp P a w K Q):=by
  rintro a w ⟨β,X,hr⟩
  obtain⟨e1,e2⟩:=hr.cR hx
  rw [yO]at e2
  rw [e2]at e1
  have hrun:=Go.Lib.run_convert_string_bytes (P:=P) w src dst e ⟨l.toArray⟩ hs hdt he
  have hsz:(⟨l.toArray⟩:ByteArray).size=l.length:=by simp [ByteArray.size]
  have hbel:RowKit.Below w.heap.size w (Go.Lib.bytesWorld w e ⟨l.toArray⟩):=⟨rfl,rfl,rfl,by rw [Go.Lib.bytesWorld_size];omega,fun k hk=>Go.Lib.bytesWorld_at_old w e _ k hk⟩
  obtain⟨m1,m2,m3⟩:=hr.mem.HJ (b:=w.heap.size) l.length hbel (Nat.le_refl _) (by rw [Go.Lib.bytesWorld_size];omega)
  have hexec:(execOp a.eval ⟨some d,.convert src dst x,ty,pos,bU,g⟩).run P w= .ok (.value (.slice (some ⟨w.heap.size,0,none⟩) l.length (grownCap w l.length 0 e))) (Go.Lib.bytesWorld w e ⟨l.toArray⟩):=by
    simp only [hsz]at hrun
    simp [execOp,e2,hrun]
  unfold Oper.wp
  rw [hexec]
  refine h _ _ ⟨β,_,hr.jF hd m2 m3 (c4.refl β) m1 ?_⟩
  simp only [V]
  refine⟨_,_,rfl,grownCap_ge w l.length 0 e,grownCap_le_maxLen w l.length 0 e hl,(fun h=>by cases h),(fun _ x hx=>by cases hx;rfl),mY fun j c hj=>?_⟩
  have hjl:j<l.length:=by simpa using (List.getElem?_eq_some_iff.1 hj).1
  rw [List.getElem?_map,List.getElem?_eq_getElem hjl]at hj
  simp only [Option.map_some,Option.some.injEq]at hj
  subst hj
  have hc:=Go.Lib.bytesWorld_cell w e ⟨l.toArray⟩ j (by rw [hsz];exact hjl)
  refine⟨.inr ⟨rfl,by simpa [ao]using hjl⟩,.int .u8 (l[j].toNat:Int),?_,by rw [iB],rfl⟩
  simp only [ab,ao,Nat.zero_add]
  rw [hc]
  simp [List.getD_eq_getElem?_getD,hjl]
theorem T9 {t ty:TypeId} {x i:Operand} {l:List UInt8} {k:IntKind} {iv:Int} (j:Nat) (b:UInt8) (ht:P.underlying t=some .string) (hx:ev E x=some (.s l)) (hi:ev E i=some (.i k iv)) (hj:iv=(j:Int)) (hb:l[j]? =some b):YO P E st (.index t x i) ty (u8 b):=by
  intro w0 X0 n β X a w hr
  obtain⟨h1,h2⟩:=hr.cR hx
  obtain⟨h3,h4⟩:=hr.cR hi
  rw [yO]at h2
  rw [iB]at h4
  rw [h2]at h1
  rw [h4]at h3
  subst hj
  refine⟨_,by rw [iB],hr.old fun w' _=>fun d pos bU g a' w'' hR _=>?_⟩
  have hl:=(List.getElem?_eq_some_iff.1 hb).1
  have key:=run_index_string (P:=P) w'' t ⟨l.toArray⟩ k (j:Int) ht
  rw [dif_pos ⟨by omega,by simpa [ByteArray.size]using hl⟩]at key
  have hbb:((⟨l.toArray⟩:ByteArray)[(j:Int).toNat]'(by simpa [ByteArray.size]using hl))=b:=by
    obtain⟨_,h⟩:=List.getElem?_eq_some_iff.1 hb
    show l.toArray[(j:Int).toNat]'(by simpa using hl)=b
    simpa using h
  rw [hbb]at key
  simp [execOp,hR.ev h1,hR.ev h3,key]
theorem pP {t ty:TypeId} {x i:Operand} {l l':List UInt8} {k:IntKind} {iv:Int} (j:Nat) (b:UInt8) (ht:P.underlying t=some .string) (hx:ev E x=some (.s l)) (hl:l=l') (hi:ev E i=some (.i k iv)) (hj:iv=(j:Int)) (hb:l'[j]? =some b):YO P E st (.index t x i) ty (u8 b):=
  T9 j b ht hx hi hj (by rw [hl];exact hb)
theorem GC {t e ty : TypeId} {by' : Nat} {z : Value} {agg : Bool} {x : Operand} {id off m : Nat} {cs cs' : List A} {d : Option Nat} {pos bU g} (ht : P.underlying t = some (.slice e)) (he : TI P e 1 by' [z] agg) (hz : z.oneCell' = true) (hx : ev E x = some (.sl id 1 off m)) (hg : st.get id = some cs)
    (hfit:off+m≤cs.length) (hcs:cs.take off++List.replicate m (cQ z)++cs.drop (off+m)=cs') (hd:d=none) (h:At w0 X0 n E (st.put id cs') K):
    At w0 X0 n E st (fun a w=>(⟨d,.call {callee:= .builtin .clear,args:= #[x],argTypes:= #[t]},ty,pos,bU,g⟩:Oper).wp P a w K Q):=by
  rintro a w ⟨β,X,hr⟩
  subst hd
  obtain⟨e1,e2⟩:=hr.cR hx
  have hexec0:∀v w1,a.eval x=v→(Builtin.clear_ #[t] ty #[v]).run P w= .ok (.tuple #[]) w1→(execOp a.eval ⟨none,.call {callee:= .builtin .clear,args:= #[x],argTypes:= #[t]},ty,pos,bU,g⟩).run P w= .ok (.value (.tuple #[])) w1:=by
    intro v w1 hv hrun
    have h1:execOp a.eval ⟨none,.call {callee:= .builtin .clear,args:= #[x],argTypes:= #[t]},ty,pos,bU,g⟩=(do pure (.value (←Builtin.clear_ #[t] ty #[v])):Sem Next):=by
      simp only [execOp,resolve,List.map_toArray,List.map_cons,List.map_nil,hv,pure_bind,invoke,builtin]
    rw [h1,Sem.run_bind,hrun]
    rfl
  have stay:cs'=cs→(execOp a.eval ⟨none,.call {callee:= .builtin .clear,args:= #[x],argTypes:= #[t]},ty,pos,bU,g⟩).run P w= .ok (.value (.tuple #[])) w→(⟨none,.call {callee:= .builtin .clear,args:= #[x],argTypes:= #[t]},ty,pos,bU,g⟩:Oper).wp P a w K Q:=by
    intro hcc hex
    subst hcc
    unfold Oper.wp
    rw [hex]
    exact h _ _ ⟨β,X,hr.gP (fW a hr.defers) (fun _ _ h=>⟨h,rfl⟩) (fun _ _ h=> .inl h) (c4.refl β) (hr.mem.drop (fun id' hf=>by rw [St.gv]at hf;split at hf;cases hf;exact hf) (fun id' ds hk=>by
      rw [St.dV]at hk
      split at hk
      · rename_i e;subst e;simp only [Option.some.injEq]at hk;subst hk;exact hg
      · exact hk))⟩
  simp only [V]at e2
  rcases e2 with ⟨_,rfl,rfl,e3⟩|⟨b,N,cap,hβ,e5,c1,c2,c3⟩
  · refine stay (by simpa using hcs.symm) (hexec0 _ _ e3 ?_)
    simp [Builtin.clear_,run_underlying ht]
  · rcases Nat.eq_zero_or_pos m with rfl | hm
    · refine stay (by simpa using hcs.symm) (hexec0 _ _ e5 ?_)
      simp [Builtin.clear_,run_underlying ht]
    · have ho := hr.mem.obj id cs hg
      unfold OB at ho
      rw [hβ]at ho
      obtain⟨p1,p2,us,rest,ety,p3,p4,p5,p6⟩:=ho
      have hul:=eF p5
      obtain⟨zv,hzv,hzc⟩:=he.zeroValue w
      have hzc1:(Builtin.zeroCells zv.cells m).toList=List.replicate m z:=by
        rw [hzc]
        simp [Builtin.zeroCells]
        apply List.ext_getElem
        · simp
        · intro i h1 h2
          simp [Nat.mod_one]
      have hst:=run_storeCells_at P b off ety (List.replicate m z) 0 (us++rest).toArray w p3 aE (by intro v hv';rw [List.eq_of_mem_replicate hv'];exact hz)
      simp only [Nat.add_zero,List.length_replicate]at hst
      have hlist:(us++rest).toArray.toList.take off++List.replicate m z++(us++rest).toArray.toList.drop (off+m)=(us.take off++List.replicate m z++us.drop (off+m))++rest:=by
        simp only []
        rw [List.take_append_of_le_length ar,List.drop_append_of_le_length ar]
        simp
      rw [hlist]at hst
      have hG:=Eng.Good.setRow (oq p3) 0 (cs:=us++rest) rfl ((us.take off++List.replicate m z++us.drop (off+m))++rest)
      simp only [List.set_cons_zero]at hG
      have hev:VS X w β (List.replicate m (cQ z)) (List.replicate m z):=by have:=pX (X:=X) (w:=w) (β:=β) (List.replicate m z);simpa using this
      obtain⟨hm1,hx1⟩:=hr.mem.write (cs':=cs') hg hβ hG (by simp only [List.length_append,List.length_take,List.length_drop,List.length_replicate];omega)
        (by rw [←hcs];exact gM (gM (ke p5 off) hev) (lH p5 _))
        (by intro q hq;simp only [List.mem_append]at hq;rcases hq with (hq|hq)|hq;exact p6 q (List.mem_of_mem_take hq);rw [List.eq_of_mem_replicate hq];exact hz;exact p6 q (List.mem_of_mem_drop hq))
      obtain⟨k,rfl⟩:∃k,m=k+1:=⟨m - 1,by omega⟩
      have hrun:(Builtin.clear_ #[t] ty #[.slice (some ⟨b,off,none⟩) (k+1) cap]).run P w= .ok (.tuple #[]) (w.setRow b ((us.take off++List.replicate (k+1) z++us.drop (off+(k+1)))++rest).toArray):=by
        simp only [Builtin.clear_]
        simp [run_underlying ht,hzv,hzc1,hst]
      have hexec:=hexec0 _ _ e5 hrun
      unfold Oper.wp
      rw [hexec]
      exact h _ _ ⟨β,X,hr.gP (fW a hr.defers) hx1 (fun _ _ h=> .inl h) (c4.refl β) hm1⟩
theorem O8 {d : Option Nat} {dT sT ty e : TypeId} {by' : Nat} {zero : List Value} {agg : Bool} {x y : Operand} {vy : A} {id off m k : Nat} {cs news cs' : List A} {pos bU g} (c : Nat) (ht : P.underlying dT = some (.slice e)) (he : TI P e 1 by' zero agg) (hx : ev E x = some (.sl id 1 off m)) (hg : st.get id = some cs) (hy : ev E y = some vy) (hn : SM st vy = some (k, news)) (hnl : news.length = k)
    (hc:c=Nat.min k m) (hc0:0<c) (hfit:off+c≤cs.length) (hcs:cs.take off++news.take c++cs.drop (off+c)=cs') (hd:l5 n d=true) (h:At w0 X0 n (E.put d (.i .i64 (c:Int))) (st.put id cs') K):
    At w0 X0 n E st (fun a w=>(⟨d,.call {callee:= .builtin .copy,args:= #[x,y],argTypes:= #[dT,sT]},ty,pos,bU,g⟩:Oper).wp P a w K Q):=by
  rintro a w ⟨β,X,hr⟩
  obtain⟨e1,e2⟩:=hr.cR hx
  obtain⟨e3,e4⟩:=hr.cR hy
  have hck:c≤k:=by rw [hc];exact Nat.min_le_left _ _
  have hcm:c≤m:=by rw [hc];exact Nat.min_le_right _ _
  obtain⟨ay,cy,nus,f1,f2,f3,f4⟩:=xX (s:=1) hr.toRelQ e4 hn ar
  have hsl:=f4 w .refl
  have hnu:=eF f2
  simp only [V]at e2
  rcases e2 with ⟨_,rfl,_⟩|⟨b,N,cap,hβ,e5,c1,c2,c3⟩
  · omega
  · have ho := hr.mem.obj id cs hg
    unfold OB at ho
    rw [hβ]at ho
    obtain⟨p1,p2,us,rest,ety,p3,p4,p5,p6⟩:=ho
    have hul:=eF p5
    have hax:=hsl.addr ar
    have hnt:(nus.take c).length=c:=by rw [List.length_take];omega
    obtain⟨⟨i,z,i1,i2,i3,i4,i5⟩,hu⟩:=he
    have hrun:=run_copy_row (P:=P) w dT sT ty e b off m cap ⟨ab ay,ao ay,none⟩ k cy (us++rest).toArray ety (nus.take c) ht (by rw [i1];simp [i3]) p3 (by rw [hnt,hc])
      (fun j u hj=>by
        rw [List.getElem?_take]at hj
        split at hj
        · rw [addr_add];exact hsl.cell j u hj
        · cases hj) aE (fun q hq=>f3 q (List.mem_of_mem_take hq))
    rw [←hax]at hrun
    rw [hnt]at hrun
    have hlist:(us++rest).toArray.toList.take off++nus.take c++(us++rest).toArray.toList.drop (off+c)=(us.take off++nus.take c++us.drop (off+c))++rest:=by
      simp only []
      rw [List.take_append_of_le_length ar,List.drop_append_of_le_length ar]
      simp
    rw [hlist]at hrun
    have hG:=Eng.Good.setRow (oq p3) 0 (cs:=us++rest) rfl ((us.take off++nus.take c++us.drop (off+c))++rest)
    simp only [List.set_cons_zero]at hG
    obtain⟨hm1,hx1⟩:=hr.mem.write (cs':=cs') hg hβ hG (by simp only [List.length_append,List.length_take,List.length_drop];omega)
      (by rw [←hcs];exact gM (gM (ke p5 off) (ke f2 c)) (lH p5 _))
      (by intro q hq;simp only [List.mem_append]at hq;rcases hq with (hq|hq)|hq;exact p6 q (List.mem_of_mem_take hq);exact f3 q (List.mem_of_mem_take hq);exact p6 q (List.mem_of_mem_drop hq))
    have hexec:(execOp a.eval ⟨d,.call {callee:= .builtin .copy,args:= #[x,y],argTypes:= #[dT,sT]},ty,pos,bU,g⟩).run P w= .ok (.value (goInt c)) (w.setRow b (us.take off++nus.take c++us.drop (off+c)++rest).toArray):=by
      have h1:execOp a.eval ⟨d,.call {callee:= .builtin .copy,args:= #[x,y],argTypes:= #[dT,sT]},ty,pos,bU,g⟩=(do pure (.value (←Builtin.copy_ #[dT,sT] ty #[.slice (some ⟨b,off,none⟩) m cap,.slice ay k cy])):Sem Next):=by
        simp only [execOp,resolve,List.map_toArray,List.map_cons,List.map_nil,e5,f1,pure_bind,invoke,builtin]
      rw [h1,Sem.run_bind,hrun]
      rfl
    unfold Oper.wp
    rw [hexec]
    refine h _ _ ⟨β,X,?_⟩
    have hkk:goInt c= .int .i64 (c:Int):=rfl
    cases d with
    |none=>exact hr.gP (fW a hr.defers) hx1 (fun _ _ h=> .inl h) (c4.refl β) hm1
    |some d=>exact hr.jF hd hx1 (fun _ _ h=> .inl h) (c4.refl β) hm1 (by rw [hkk];simp only [V])
theorem nQ {s0:St} {ow:Bool} {k:Nat} {c c0:List A} (h:s0.get k=some c0) (hp:dc c) (hf:fx c):∀p∈ [(k,c)],(∃cs,s0.get p.1=some cs)∧dc p.2∧(ow=false∨fx p.2):=fun p hq=>by
  simp only [List.mem_singleton]at hq
  subst hq
  exact⟨⟨c0,h⟩,hp,.inr hf⟩
theorem nv {r:A} {k:Nat} {c:List A} (h:st.get k=some c):gL r [(k,c)] r st:=⟨rfl,fun p hq=>by
  simp only [List.mem_singleton]at hq
  subst hq
  exact h⟩
end
end Go.Abs
