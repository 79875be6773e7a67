/-
  The engine, the plain laws and the walks that the rows need, part 15. Conditions: none.
-/
import Derived.Test.YteempkifmbclgaaGreatDoorM14
import Derived.Lib.AppendStr
set_option linter.unusedVariables false
set_option linter.unusedSimpArgs false
set_option maxHeartbeats 1000000
set_option maxRecDepth 10000
-- AbsV
namespace Go.Abs
open Go Go.Eng
theorem Mn (l:List UInt8):(Lib.strCells ⟨l.toArray⟩).length=l.length:=by simp [Lib.strCells]
theorem Io {X:Xs} {w:World} {β:Bm} (l:List UInt8):VS X w β (l.map u8) (Lib.strCells ⟨l.toArray⟩):=by
  have key:∀m:List UInt8,VS X w β (m.map u8) (m.map fun b=>Value.int .u8 b.toNat):=by
    intro m
    induction m with
    |nil=>exact fM
    |cons b m ih=>exact eV (by simp only [V]) ih
  have e:Lib.strCells ⟨l.toArray⟩=l.map fun b=>Value.int .u8 b.toNat:=by simp [Lib.strCells]
  rw [e]
  exact key l
section
variable {P:Program} {w0:Bw} {X0:Xs} {n:Nat} {E:Ev} {st:St} {K:Act→World→Prop} {Q:Exit→Act→World→Prop}
theorem O6 (w:World) (t u ty e e':TypeId) (i:TypeInfo) (ht:P.underlying t=some (.slice e)) (hu:P.underlying u=some .string) (hi:P.info? e=some i) (hs1:i.size=1)
    (g sLen sCap:Nat) (cur:Array Value) (hg:w.heap[g]? =some (.cells cur e' (0,0))) (s:ByteArray)
    (hroom:sLen+s.size≤sCap) (hfit:sLen+s.size≤cur.size):
    (Builtin.append_ #[t,u] ty #[.slice (some ⟨g,0,none⟩) sLen sCap,.string s]).run P w=
      .ok (.slice (some ⟨g,0,none⟩) (sLen+s.size) sCap) (w.setRow g (cur.toList.take sLen++Lib.strCells s++cur.toList.drop (sLen+s.size)).toArray):=by
  have hf:=Lib.run_firstCells_string (P:=P) w 1 s
  have hst:=run_storeCells_at P g sLen e' (Lib.strCells s) 0 cur w hg (by simpa [Lib.strCells_length]using hfit) (Lib.strCells_oneCell s)
  simp only [Nat.add_zero,Lib.strCells_length]at hst
  simp [Builtin.append_,run_underlying ht,run_underlying hu,sizeOf,typeInfo,hi,hs1,Builtin.lenOf,hroom,hf,Addr.add_lit,hst]
theorem Mz {d : Nat} (nx : Nat) (hf : st.free nx = true) {t tn e : TypeId} {agg : Bool} {x y : Operand} {id m : Nat} {cs cs' : List A} {l : List UInt8} {ty : TypeId} {pos b6 g} (ht : P.underlying t = some (.slice e)) (htn : P.underlying tn = some .string) (he : TI P e 1 1 [.int .u8 0] agg)
    (hx:ev E x=some (.sl id 1 0 m)) (hg:st.get id=some cs) (hl:cs.length=m) (hm0:0<m) (hy:ev E y=some (.s l)) (hb63:m+l.length≤maxLen) (hby:m+l.length≤140737488355328) (hcs:cs++l.map u8=cs') (hd:Nat.ble (d+1) n=true)
    (h:At w0 X0 n ((d,.sl nx 1 0 (m+l.length))::E) ((st.del id).put nx cs') K):
    At w0 X0 n E st (fun a w=>(⟨some d,.call {callee:= .builtin .append,args:= #[x,y],argTypes:= #[t,tn]},ty,pos,b6,g⟩:Oper).wp P a w K Q):=by
  rintro A0 w ⟨β,X,hr⟩
  subst hcs
  have hnx:=hr.mem.dom nx hf
  obtain⟨e1,e2⟩:=hr.c9 hx
  obtain⟨e3,e4⟩:=hr.c9 hy
  simp only [V]at e4
  rw [e4]at e3
  obtain⟨⟨i,z,i1,i2,i3,i4,i5⟩,hu⟩:=he
  have hz1:z.cells= #[.int .u8 0]:=by apply Array.ext';simpa using i5
  have hsl:(Lib.strCells ⟨l.toArray⟩).length=l.length:=Mn l
  have hss:(⟨l.toArray⟩:ByteArray).size=l.length:=by simp [ByteArray.size]
  have hexec:∀vv v w',A0.eval x=vv→(Builtin.append_ #[t,tn] ty #[vv,.string ⟨l.toArray⟩]).run P w= .ok v w'→
      (execOp A0.eval ⟨some d,.call {callee:= .builtin .append,args:= #[x,y],argTypes:= #[t,tn]},ty,pos,b6,g⟩).run P w= .ok (.value v) w':=by
    intro vv v w' hv hrun
    have h1:execOp A0.eval ⟨some d,.call {callee:= .builtin .append,args:= #[x,y],argTypes:= #[t,tn]},ty,pos,b6,g⟩=(do pure (.value (←Builtin.append_ #[t,tn] ty #[vv,.string ⟨l.toArray⟩])):Sem Next):=by
      simp only [execOp,resolve,List.map_toArray,List.map_cons,List.map_nil,hv,e4,pure_bind,invoke,builtin]
    rw [h1,Sem.run_bind,hrun]
    rfl
  have done:∀(vv u:Value) (w1:World) (bl:BL),A0.eval x=vv→(Builtin.append_ #[t,tn] ty #[vv,.string ⟨l.toArray⟩]).run P w= .ok u w1→dW X X w w1→Mem w0 (dS β nx bl) X ((st.del id).put nx (cs++l.map u8)) w1→V X w1 (dS β nx bl) (.sl nx 1 0 (m+l.length)) u→
      (⟨some d,.call {callee:= .builtin .append,args:= #[x,y],argTypes:= #[t,tn]},ty,pos,b6,g⟩:Oper).wp P A0 w K Q:=by
    intro vv u w1 bl hvv hrun hx1 hm1 hv1
    unfold Oper.wp
    rw [hexec vv u w1 hvv hrun]
    refine h _ _ ⟨_,X,hr.next (d:=d) (u:=u) (v:= .sl nx 1 0 (m+l.length)) ?_ hx1 (fun _ _ h=> .inl h) (en hnx) hm1 hv1⟩
    exact(gq A0 hr.defers).put aT u
  have hsmall:m+l.length≤9223372036854775807:=by simp only [maxLen]at hb63;omega
  have hzo:=Lib.strCells_oneCell ⟨l.toArray⟩
  have hne:id≠nx:=fun e=>by subst e;have:=wE hf;unfold St.get at hg;rw [this]at hg;cases hg
  have hfn:(st.del id).free nx=true:=by rw [St.nS,if_neg hne];exact hf
  have hfd:∀q,(st.del id).free q=true→st.free q=true:=fun q h=>by rw [St.nS]at h;split at h;cases h;exact h
  have hdel:∀q c,(st.del id).get q=some c→st.get q=some c:=fun q c hq=>by rw [St.oI]at hq;split at hq;cases hq;exact hq
  simp only [V]at e2
  rcases e2 with ⟨_,rfl,_,_⟩|⟨b,N,cap,hβ,e2,c1,c2,c3⟩
  · omega
  · have ho := hr.mem.obj id cs hg
    unfold OB at ho
    rw [hβ]at ho
    obtain⟨p1,p2,us,rest,ety,p3,p4,p5,p6⟩:=ho
    have hul:=fb p5
    have hvz:∀ {w':World} {β':Bm},VS X w' β' (l.map u8) (Lib.strCells ⟨l.toArray⟩):=fun {_ _}=>Io l
    by_cases hroom:m+l.length≤cap
    · have hrun := O6 (P := P) w t tn ty e ety i ht htn i1 i3 b m cap (us ++ rest).toArray p3 ⟨l.toArray⟩ (by rw [hss]; exact hroom) (by rw [hss]; simp only [List.size_toArray, List.length_append]; omega)
      rw [hss]at hrun
      have htk:(us++rest).take m=us:=by rw [←hl, ←hul];exact List.take_left
      rw [htk]at hrun
      have hG:=Eng.Good.setRow (nU p3) 0 (cs:=us++rest) rfl (us++Lib.strCells ⟨l.toArray⟩++(us++rest).drop (m+l.length))
      simp only [List.set_cons_zero]at hG
      obtain⟨hm1,hx1⟩:=hr.mem.write (cs':=cs++l.map u8) hg hβ hG (by simp only [List.length_append,List.length_drop,hul,hl,hsl]at p4 ⊢;omega) (gZ p5 hvz) (by intro q hq;rcases List.mem_append.1 hq with hq|hq;exact p6 q hq;exact hzo q hq)
      have hm2:=hm1.move nx (by rw [St.gF,if_neg hne];exact hf) (id:=id) (cs:=cs++l.map u8) (by rw [St.ef,if_pos rfl]) hβ (fun _ h=>by cases h)
      have hm3:Mem w0 (dS β nx (.bk b N)) X ((st.del id).put nx (cs++l.map u8)) _:=hm2.drop (fun q hq=>by
        simp only [St.gF,St.nS]at hq ⊢
        split at hq
        · cases hq
        · rename_i e1
          rw [if_neg e1]
          split at hq
          · cases hq
          · rename_i e2;rw [if_neg e2,if_neg e2];exact hq) fun q c hq=>by
        simp only [St.ef,St.oI]at hq ⊢
        split at hq
        · rename_i e1;rw [if_pos e1];exact hq
        · rename_i e1
          rw [if_neg e1]
          split at hq
          · cases hq
          · rename_i e2;rw [if_neg e2,if_neg e2];exact hq
      exact done _ _ _ (.bk b N) e2 hrun hx1 hm3 (by simp only [V];exact .inr ⟨b,N,cap,dA,rfl,hroom,c2,c3⟩)
    · have holds : ∀ j u, us[j]? = some u → w.cell? ((⟨b, 0, none⟩ : Addr).add j) = some u := by
        intro j u hj
        rw [addr_add,Nat.zero_add]
        have hlt:=(List.getElem?_eq_some_iff.1 hj).1
        simp only [World.cell?,p3]
        simp [List.getElem?_append_left hlt,hj]
      have hrun:=Lib.run_append_grow_string (P:=P) w t tn ty e i z ht htn i1 i2 ⟨b,0,none⟩ m cap us (by rw [i3,Nat.mul_one,hul,hl]) holds ⟨l.toArray⟩ (by rw [hss];omega) (by rw [hss];omega) (by rw [i4,hss];exact growslice_fits aq aq)
      rw [hss]at hrun
      have hc1:=grownCap_ge w (m+l.length) cap e
      have hc2:=grownCap_le_maxLen w (m+l.length) cap e hb63
      generalize hcap:grownCap w (m+l.length) cap e=gc at hrun hc1 hc2
      have hbel:RowKit.Below w.heap.size w (w.drew.alloc (.cells (us.toArray++(Lib.strCells ⟨l.toArray⟩).toArray++Builtin.zeroCells z.cells (gc - (m+l.length))) e)):=
        ⟨rfl,rfl,rfl,by simp,fun q hq=>xo w.drew _ q hq⟩
      have hx1:=dW.oQ hr.mem.xlt hbel
      have hm1:=hr.mem.drop (st':=st.del id) hfd hdel
      have hnx1:=hm1.dom nx hfn
      have hzl2:(Builtin.zeroCells z.cells (gc - (m+l.length))).toList=List.replicate (gc - (m+l.length)) (.int .u8 0):=by rw [hz1,Q1]
      have hm2:=hm1.push nx hfn (cs:=cs++l.map u8) (us:=us++Lib.strCells ⟨l.toArray⟩) (rest:=List.replicate (gc - (m+l.length)) (.int .u8 0)) (ty:=e) (b:=w.heap.size) (N:=gc) hbel (Nat.le_refl _)
        (by refine (heap_alloc_new w.drew _).trans ?_
            simp only [row,Option.some.injEq,Obj.cells.injEq,and_true]
            apply Array.ext'
            simp [hzl2]) (by rw [List.length_append,List.length_replicate,hul,hl,hsl];omega)
        (gZ (gP hx1 _ _ _ _ (en hnx1) p5) hvz) (by intro q hq;rcases List.mem_append.1 hq with hq|hq;exact p6 q hq;exact hzo q hq)
      exact done _ _ _ (.bk w.heap.size gc) e2 hrun hx1 hm2 (by simp only [V];exact .inr ⟨_,_,gc,dA,rfl,hc1,hc2,by omega⟩)
variable {r:Option Nat} {ds0:List Deferred} {N g:Nat} {E0:EV} {st0:St} {ops:Array Oper} {nn:Nat} {plan:List dM} {rest:List Oper} {d:Nat} {ty:TypeId} {pos:String} {aft':Array Edge} {gd:Option (Nat×Bool)}
theorem Ee {t tn e:TypeId} {agg:Bool} {x y:Operand} {id m:Nat} {cs cs':List A} {l:List UInt8} (nx k0:Nat) (deps:List Nat) (need:List (Nat×Option Nat)) (hg:iV ops (ek (E0.at k0) deps k0 E) gd) (ht:P.underlying t=some (.slice e)) (htn:P.underlying tn=some .string) (he:TI P e 1 1 [.int .u8 0] agg)
    (hx:ev (ek (E0.at k0) deps k0 E) x=some (.sl id 1 0 m)) (hgt:(iL plan st0 need).get id=some cs) (hl:cs.length=m) (hm0:0<m) (hy:ev (ek (E0.at k0) deps k0 E) y=some (.s l)) (hb63:m+l.length≤maxLen) (hby:m+l.length≤140737488355328) (hcs:cs++l.map u8=cs') (hb:Nat.ble (d+1) N=true) (hd:g8 k0 deps need=true)
    (h:FS r ds0 P w0 X0 N Q ops nn g E0 st0 (plan++ [⟨d,.sl nx 1 0 (m+l.length),deps, [id], [(nx,cs')],need, []⟩]) (k0+1) ((d,.sl nx 1 0 (m+l.length))::E) ((st.del id).put nx cs') rest):
    FS r ds0 P w0 X0 N Q ops nn g E0 st0 plan k0 E st (⟨some d,.call {callee:= .builtin .append,args:= #[x,y],argTypes:= #[t,tn]},ty,pos,aft',gd⟩::rest):=
  kf ⟨d,.sl nx 1 0 (m+l.length),deps, [id], [(nx,cs')],need, []⟩ (fun hk hE _ _ _ hD hs hfr hK=>have he':=hD.fin hE hk;lK hg he' (Mz nx (hfr _ (.head _) rfl) ht htn he (lF he' hx) (hs _ _ hgt) hl hm0 (lF he' hy) hb63 hby hcs hb hK)) hd h
end
section
variable {P:Program} {E:Ev} {st:St} {t t' ty:TypeId} {x y:Operand}
theorem QY {k:IntKind} {m:Int} (hx:ev E x=some (.i k m)):YO P E st (.unOp .neg t x) ty (.i k (k.wrap (0 - m))):=by
  intro w0 X0 n β X a w hr
  obtain⟨h1,h2⟩:=hr.c9 hx
  rw [iE]at h2
  refine⟨.int k (k.wrap (0 - m)),by simp only [V],fun d pos b6 g w' _=>?_⟩
  simp only [execOp,h2,Op.unary,Op.intArith]
  rfl
theorem Of (p q:BitVec 64) (hx:ev E x=some (cN p)) (hy:ev E y=some (cN q)) (hq:q.toNat≠0):YO P E st (.binOp .rem t x y t') ty (cN (p % q)):=by
  refine(yc hx hy aq).v (congrArg (A.i .u64) ?_)
  rw [BitVec.toNat_umod]
  exact(Int.ofNat_tmod _ _).symm
theorem NS (p q:BitVec 64) (hx:ev E x=some (cN p)) (hy:ev E y=some (cN q)) (hq:q.toNat≠0):YO P E st (.binOp .quo t x y t') ty (cN (p / q)):=by
  refine(yb hx hy aq).v (congrArg (A.i .u64) ?_)
  rw [BitVec.toNat_udiv,Int.tdiv_eq_ediv_of_nonneg aq, ←Int.natCast_ediv,qD,Nat.mod_eq_of_lt (Nat.lt_of_le_of_lt (Nat.div_le_self _ _) p.isLt)]
end
end Go.Abs
