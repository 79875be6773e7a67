/-
  The engine, the plain laws and the walks that the rows need, part 3. Conditions: none.
-/
import Derived.Test.YtjlkadndgajleaaGreatDoorM2
import Derived.Lib.ConvBytes
set_option linter.unusedVariables false
set_option linter.unusedSimpArgs false
set_option maxHeartbeats 1000000
set_option maxRecDepth 10000
-- EngE
namespace Go.Eng
section ops
variable {P:Program} {n:Nat} {E:Env} {S:List World} {H:List (Nat×Obj)} {Q:Exit→Act→World→Prop}
theorem OK (z:Value) (m:Nat):madeCells #[z] m=(List.replicate m z).toArray:=by
  apply Array.ext
  · simp [madeCells]
  · intro i h1 h2
    simp [madeCells,Nat.mod_one]
theorem oA {d:Nat} {t e:TypeId} {by':Nat} {z:Value} {agg} {x y:Operand} {k k':IntKind} {iv jv:Int} {ty:TypeId} {pos bU g} {K:Act→World→Prop} (l c:Nat) (ht:P.underlying t=some (.slice e)) (he:TI P e 1 by' [z] agg)
    (hx:ev E x=some (.int k iv)) (hy:ev E y=some (.int k' jv)) (hl:iv=(l:Int)) (hc:jv=(c:Int)) (hlc:l≤c) (hby:by'*c≤281474976710656) (hc63:c≤9223372036854775807) (hd:Nat.ble (d+1) n=true)
    (h:∀b,mH S b→mJ H b→At n ((d,.slice (some ⟨b,0,none⟩) l c)::E) S ((b,row e (List.replicate c z))::H) K):
    At n E S H (fun a w=>(⟨some d,.makeSlice t x y,ty,pos,bU,g⟩:Oper).wp P a w K Q):=by
  intro a w hR hG
  have hf:=hG.fresh
  obtain⟨⟨i,z',h1,h2,h3,h4,h5⟩,_⟩:=he
  have hz':z'.cells= #[z]:=by rw [←Array.toList_inj];simpa using h5
  subst hl;subst hc
  have hrun:=run_make (P:=P) w t e i z' ht h1 h2 k k' l c ar ar (by rw [h4, ←Int.natCast_mul];omega) ar
  simp only [Int.toNat_natCast,h3,Nat.mul_one,hz',OK]at hrun
  show Oper.wp P _ a w K Q
  unfold Oper.wp
  have e1:(execOp a.eval ⟨some d,.makeSlice t x y,ty,pos,bU,g⟩).run P w= .ok (.value (.slice (some ⟨w.heap.size,0,none⟩) l c)) (w.alloc (row e (List.replicate c z))):=by
    simp only [execOp,hR.ev hx,hR.ev hy]
    rw [Sem.run_bind,hrun]
    rfl
  rw [e1]
  exact h w.heap.size hf.1 hf.2 _ _ (hR.put hd _) (hG.alloc _)
def iG (E : Env) : List (Nat × Operand) → Option (List (Nat × Value))
  | []=>some []
  | (i, x) :: r =>
    match ev E x,iG E r with
    |some v,some vs=>some ((i,v)::vs)
    |_,_=>none
theorem eN.iG {a} (hR:eN n E a):∀ {l:List (Nat×Operand)} {vs:List (Nat×Value)},Eng.iG E l=some vs→l.map (fun(i,x)=>(i,a.eval x))=vs
  | [],vs,h=>by simp only [Eng.iG,Option.some.injEq]at h;subst h;rfl
  | (i, x) :: r, vs, h => by
    simp only [Eng.iG]at h
    split at h
    · rename_i v us hv hus
      simp only [Option.some.injEq]at h
      subst h
      simp [hR.ev hv,eN.iG hR hus]
    · cases h
theorem yp : ∀ (c : List Value) (k off : Nat) (pre z : List Value), off + k = pre.length → c.length ≤ z.length →
    (c.zipIdx k).foldl (fun cs p=>cs.setIfInBounds (off+p.2) p.1) (pre++z).toArray=(pre++c++z.drop c.length).toArray
  | [],_,_,pre,z,_,_=>by simp
  | x :: c, k, off, pre, z, h1, h2 => by
    cases z with
    |nil=>simp at h2
    | cons y z =>
      simp only [List.zipIdx_cons,List.foldl_cons]
      have e:(pre++y::z).toArray.setIfInBounds (off+k) x=(pre++ [x]++z).toArray:=by
        rw [h1]
        simp
      rw [e,yp c (k+1) off (pre++ [x]) z aE (by simpa using h2)]
      simp
def gN:List (Value×List Value)→Nat→List (Nat×Value)
  | [],_=> []
  |(v,_)::r,k=>(k,v)::gN r (k+1)
def flat:List (Value×List Value)→List Value
  | []=> []
  |(_,c)::r=>c++flat r
theorem An (size:Nat):∀(vs:List (Value×List Value)) (k:Nat) (pre z:List Value),(∀p∈vs,p.1.cells=p.2.toArray∧p.2.length=size)→pre.length=k*size→z.length=vs.length*size→
    Instr.fill (fun i=>some (i*size,size)) (pre++z).toArray (gN vs k)=some (pre++flat vs).toArray
  | [], _, pre, z, _, _, hz => by
    have:z= []:=List.eq_nil_of_length_eq_zero (by simpa using hz)
    subst this
    simp [gN,flat,Instr.fill]
  | (v, c) :: r, k, pre, z, hv, hp, hz => by
    obtain⟨h1,h2⟩:=hv (v,c) aB
    simp only at h1 h2
    have hz':z.length=(r.length+1)*size:=by simpa using hz
    rw [Nat.add_mul,Nat.one_mul]at hz'
    simp only [gN,Instr.fill,h1,List.size_toArray,h2]
    have hno:¬((decide (size≠size)||decide (k*size+size>(pre++z).length))=true):=by
      rw [List.length_append,hp,hz']
      simp
    rw [if_neg hno]
    have hw:=yp c 0 (k*size) pre z ar ar
    have ez:c.toArray.zipIdx=(c.zipIdx 0).toArray:=by simp
    rw [ez,List.foldl_toArray]
    refine Eq.trans (congrArg (fun a=>Instr.fill (fun i=>some (i*size,size)) a (gN r (k+1))) hw) ?_
    rw [An size r (k+1) (pre++c) (z.drop c.length) (fun p hp=>hv p aX) (by rw [List.length_append,hp,h2,Nat.add_mul,Nat.one_mul]) aF]
    simp [flat]
theorem jT {d:Nat} {t e:TypeId} {size by' zero agg} {len:Nat} {parts:List (Nat×Operand)} {pvs:List (Nat×Value)} {ty:TypeId} {pos bU g} {K:Act→World→Prop} (vs:List (Value×List Value)) (ht:P.underlying t=some (.slice e)) (he:TI P e size by' zero agg)
    (hp:iG E parts=some pvs) (hpv:pvs=gN vs 0) (hlen:len=vs.length) (hcs:∀p∈vs,p.1.cells=p.2.toArray∧p.2.length=size) (hs:Nat.ble (len*size) 16777216=true) (hd:Nat.ble (d+1) n=true)
    (h:∀b,mH S b→mJ H b→At n ((d,.slice (some ⟨b,0,none⟩) len len)::E) S ((b,row e (flat vs))::H) K):
    At n E S H (fun a w=>(⟨some d,.buildSlice t len parts.toArray,ty,pos,bU,g⟩:Oper).wp P a w K Q):=by
  intro a w hR hG
  have hfr:=hG.fresh
  have hs':=Nat.le_of_ble_eq_true hs
  obtain⟨z,hz,hzc⟩:=he.zeroValue w
  have hrun:(Instr.buildSlice t len (parts.toArray.map fun(i,x)=>(i,a.eval x))).run P w= .ok (.slice (some ⟨w.heap.size,0,none⟩) len len) (w.alloc (row e (flat vs))):=by
    have e0:(parts.toArray.map fun(i,x)=>(i,a.eval x))=pvs.toArray:=by rw [List.map_toArray,hR.iG hp]
    rw [e0]
    unfold Instr.buildSlice
    simp only [Sem.run_bind,run_underlying ht,Result.andThen_ok,he.sizeOf w,show ¬len*size>2 ^ 24 from by omega,if_false]
    have hfill:∀(zz:Array Value),Instr.fill (fun i=>some (i*size,size)) ((Array.range (len*size)).map (zz[· % zz.size]!)) pvs=some (flat vs).toArray:=by
      intro zz
      have e1:((Array.range (len*size)).map (zz[· % zz.size]!))=([]++((Array.range (len*size)).map (zz[· % zz.size]!)).toList).toArray:=by rw [List.nil_append,Array.toArray_toList]
      rw [e1,hpv]
      have:=An size vs 0 [] ((Array.range (len*size)).map (zz[· % zz.size]!)).toList hcs aB (by simp [hlen])
      rw [List.nil_append]at this
      exact this
    by_cases h0:len*size=0
    · have := hfill #[]
      rw [if_pos h0,pure_bind]
      simp only [this]
      rfl
    · rw [if_neg h0, Sem.run_bind, hz]
      simp only [Result.andThen_ok,pure_bind]
      simp only [hfill z.cells]
      rfl
  show Oper.wp P _ a w K Q
  unfold Oper.wp
  have e1:(execOp a.eval ⟨some d,.buildSlice t len parts.toArray,ty,pos,bU,g⟩).run P w= .ok (.value (.slice (some ⟨w.heap.size,0,none⟩) len len)) (w.alloc (row e (flat vs))):=by
    simp only [execOp]
    rw [Sem.run_bind,hrun]
    rfl
  rw [e1]
  exact h w.heap.size hfr.1 hfr.2 _ _ (hR.put hd _) (hG.alloc _)
def gQ:List Value→List (Value×List Value)
  | []=> []
  |v::r=>(v, [v])::gQ r
theorem wo:∀vs,flat (gQ vs)=vs
  | []=>rfl
  |v::r=>by simp [gQ,flat,wo r]
theorem Ds {v:Value} (h:v.oneCell'=true):v.cells= #[v]:=by cases v<;>simp_all [Value.cells,Value.oneCell']
theorem xv:∀ {vs:List Value},(∀v∈vs,v.oneCell'=true)→∀p∈gQ vs,p.1.cells=p.2.toArray∧p.2.length=1
  | [],_,_,hp=>by cases hp
  | v :: r, h, p, hp => by
    rcases List.mem_cons.1 hp with rfl|hp
    · exact⟨Ds (h v aB),rfl⟩
    · exact xv (fun u hu=>h u (by simp [hu])) p hp
theorem dz {d:Nat} {t e:TypeId} {by' zero agg} {len:Nat} {parts:List (Nat×Operand)} {pvs:List (Nat×Value)} {ty:TypeId} {pos bU g} {K:Act→World→Prop} (vs:List Value) (ht:P.underlying t=some (.slice e)) (he:TI P e 1 by' zero agg)
    (hp:iG E parts=some pvs) (hpv:pvs=gN (gQ vs) 0) (hlen:len=(gQ vs).length) (h1:vs.all (·.oneCell')=true) (hs:Nat.ble (len*1) 16777216=true) (hd:Nat.ble (d+1) n=true)
    (h:∀b,mH S b→mJ H b→At n ((d,.slice (some ⟨b,0,none⟩) len len)::E) S ((b,row e vs)::H) K):
    At n E S H (fun a w=>(⟨some d,.buildSlice t len parts.toArray,ty,pos,bU,g⟩:Oper).wp P a w K Q):=by
  refine jT (gQ vs) ht he hp hpv hlen (xv fun v hv=>List.all_eq_true.1 h1 v hv) hs hd fun b hS hH=>?_
  rw [wo]
  exact h b hS hH
def gR (e:TypeId) (a:Option Addr) (cells:List Value):List (Nat×Obj):=
  match a with
  |none=> []
  |some x=> [(x.block,row e cells)]
structure OS (size:Nat) (a:Option Addr) (n cap:Nat) (cells xs:List Value):Prop where
  len:xs.length=n*size
  nil:a=none→n=0∧cap=0
  some:∀x,a=some x→x=⟨x.block,0,none⟩∧cells.length=cap*size∧cells.take (n*size)=xs
  le:n≤cap
  max:cap≤maxLen
theorem OS.qC (size:Nat) (cells:List Value):OS size none 0 0 cells []:=⟨by simp,fun _=>⟨rfl,rfl⟩,(fun x h=>by cases h),Nat.le_refl _,Nat.zero_le _⟩
theorem OS.mk' {size n cap:Nat} {cells:List Value} (b:Nat) (hl:cells.length=cap*size) (hn:n≤cap) (hc:cap≤maxLen):OS size (.some ⟨b,0,none⟩) n cap cells (cells.take (n*size)):=
  ⟨by rw [List.length_take,hl,Nat.min_eq_left (Nat.mul_le_mul_right size hn)],(fun h=>by cases h),(fun x h=>by cases h;exact⟨rfl,hl,rfl⟩),hn,hc⟩
theorem OS.sl {size a n cap cells xs} (h:OS size a n cap cells xs) {w:World} {e:TypeId} (hw:∀p∈gR e a cells,w.heap[p.1]? =Option.some p.2):Sl w size a n cap xs:=by
  refine⟨h.len,h.le,h.max,fun ha=>(h.nil ha).2,fun _ x hx=>by have:=(h.some x hx).1;rw [this],fun j u hj=>?_⟩
  cases ha:a with
  | none =>
    have:=(h.nil ha).1
    have hl:=h.len
    rw [this,Nat.zero_mul]at hl
    have:xs= []:=List.eq_nil_of_length_eq_zero hl
    subst this
    simp at hj
  | some x =>
    subst ha
    obtain⟨h1,h2,h3⟩:=h.some x rfl
    have hb:=hw (x.block,row e cells) (by simp [gR])
    simp only at hb
    rw [h1]
    simp only [ab,ao,Nat.zero_add,World.cell?,hb]
    rw [←h3,List.getElem?_take]at hj
    split at hj
    · simpa using hj
    · cases hj
theorem xR {t ty e:TypeId} {size by' zero agg} (ht:P.underlying t=some (.slice e)) (he:TI P e size by' zero agg) {w:World} (a:Option Addr) (m cap:Nat) (hle:m≤cap) (ax:Option Addr) (cx:Nat):
    (Builtin.append_ #[t,t] ty #[.slice a m cap,.slice ax 0 cx]).run P w= .ok (.slice a m cap) w:=by
  have hs:=he.sizeOf w
  cases a<;>cases ax<;>simp [Builtin.append_,run_underlying ht,hs,Builtin.lenOf,hle,Builtin.firstCells,loadCells,loadCellsFrom,storeCells]
theorem ud {e a cells p} (h:p∈gR e a cells):∃x,a=Option.some x∧p=(x.block,row e cells):=by
  cases a with
  |none=>simp [gR]at h
  |some x=>simp [gR]at h;exact⟨x,rfl,h⟩
theorem Good.vk {w w' : World} {e : TypeId} {a a' : Option Addr} {cells cells' : List Value} {R T : List (Nat × Obj)} {S' : List World} (hG : Good S (R ++ (gR e a cells ++ T)) w)
    (hS:∀s∈S',s∈S∧∀x,a=some x→s.heap.size≤x.block) (hos:w'.os=w.os) (htape:w'.tape=w.tape) (hout:w'.output=w.output) (hsz:w.heap.size≤w'.heap.size)
    (hb:∀k,k<w.heap.size→(∀x,a'=some x→x.block≠k)→w'.heap[k]? =w.heap[k]?)
    (ha':∀x,a'=some x→w'.heap[x.block]? =some (row e cells')) (hnew:∀x,a'=some x→(∃y,a=some y∧y.block=x.block)∨w.heap.size≤x.block):
    Good (w::S') (R++(gR e a' cells'++T)) w':=by
  have hnd:=hG.nd
  rw [List.pairwise_append]at hnd
  obtain⟨n1,n2,n3⟩:=hnd
  rw [List.pairwise_append]at n2
  obtain⟨n4,n5,n6⟩:=n2
  have notR:∀x,a'=some x→∀p∈R,p.1≠x.block:=by
    intro x hx p hp
    rcases hnew x hx with ⟨y,hy,hyx⟩|hlt
    · have := n3 p hp (y.block, row e cells) (by simp [hy, gR])
      rw [←hyx];exact this
    · have := hG.nr (p := p) aX
      omega
  have notT:∀x,a'=some x→∀p∈T,x.block≠p.1:=by
    intro x hx p hp
    rcases hnew x hx with ⟨y,hy,hyx⟩|hlt
    · have := n6 (y.block, row e cells) (by simp [hy, gR]) p hp
      rw [←hyx];exact this
    · have := hG.nr (p := p) aX
      omega
  refine⟨fun s hs=>?_,fun p hp=>?_,?_⟩
  · rcases List.mem_cons.1 hs with rfl | hs
    · exact⟨hos,htape,hout,hsz,fun k hk hn=>hb k hk fun x hx hxk=>hn (x.block,row e cells') (by simp [hx,gR]) hxk⟩
    · obtain ⟨hs1, hs2⟩ := hS s hs
      have k:=hG.snap s hs1
      refine⟨hos.trans k.os,htape.trans k.tape,hout.trans k.output,Nat.le_trans k.size hsz,fun i hi hn=>?_⟩
      rw [hb i (Nat.lt_of_lt_of_le hi k.size) fun x hx hxk=>hn (x.block,row e cells') (by simp [hx,gR]) hxk]
      refine k.blk i hi fun p hp=>?_
      simp only [List.mem_append]at hp
      rcases hp with hp|hp|hp
      · exact hn p aX
      · obtain ⟨x, hx, rfl⟩ := ud hp
        have:=hs2 x hx
        simp only
        omega
      · exact hn p aX
  · simp only [List.mem_append] at hp
    rcases hp with hp|hp|hp
    · rw [hb p.1 (hG.nr aX) fun x hx e => notR x hx p hp e.symm]
      exact hG.own p aX
    · obtain ⟨x, hx, rfl⟩ := ud hp
      exact ha' x hx
    · rw [hb p.1 (hG.nr aX) fun x hx e => notT x hx p hp e]
      exact hG.own p aX
  · rw [List.pairwise_append]
    refine⟨n1,?_,fun p hp q hq=>?_⟩
    · rw [List.pairwise_append]
      refine⟨?_,n5,fun p hp q hq=>?_⟩
      · cases a'<;>simp [gR]
      · obtain ⟨x, hx, rfl⟩ := ud hp
        exact notT x hx q hq
    · simp only [List.mem_append] at hq
      rcases hq with hq|hq
      · obtain ⟨x, hx, rfl⟩ := ud hq
        exact notR x hx p hp
      · exact n3 p hp q (by simp [hq])
theorem xJ (w:World) (o:Obj) (k:Nat) (h:k<w.heap.size):(w.alloc o).heap[k]? =w.heap[k]? :=by
  show(w.heap.push o)[k]? =_
  rw [Array.getElem?_push,if_neg ar]
theorem dB {d : Nat} {t e : TypeId} {size by' zero agg} {x y : Operand} {a ax : Option Addr} {m c k cx : Nat} {cells xs news : List Value} {ty : TypeId} {pos bU g} {K : Act → World → Prop} (R T : List (Nat × Obj)) (S' : List World)
    (ht:P.underlying t=some (.slice e)) (he:TI P e size by' zero agg) (hx:ev E x=some (.slice a m c)) (hy:ev E y=some (.slice ax k cx)) (hH:H=R++(gR e a cells++T)) (hOS:OS size a m c cells xs)
    (hS:∀s∈S',s∈S∧∀x,a=some x→s.heap.size≤x.block) (hnews:∀w,Good S H w→Sl w size ax k cx news) (h1:∀u∈news,u.oneCell'=true) (hb63:m+k≤maxLen) (hby:(m+k)*by'≤140737488355328)
    (hzl:zero.length=size) (hd:Nat.ble (d+1) n=true)
    (h:∀w,Good S H w→∀a' c' cells',OS size a' (m+k) c' cells' (xs++news)→(a'=a∨∃g',a'=some ⟨g',0,none⟩∧w.heap.size≤g')→
      At n ((d,.slice a' (m+k) c')::E) (w::S') (R++(gR e a' cells'++T)) K):
    At n E S H (fun a w=>(⟨some d,.call {callee:= .builtin .append,args:= #[x,y],argTypes:= #[t,t]},ty,pos,bU,g⟩:Oper).wp P a w K Q):=by
  intro A w hR hG
  have hl:=hnews w hG
  have hexec:∀v w',(Builtin.append_ #[t,t] ty #[.slice a m c,.slice ax k cx]).run P w= .ok v w'→
      (execOp A.eval ⟨some d,.call {callee:= .builtin .append,args:= #[x,y],argTypes:= #[t,t]},ty,pos,bU,g⟩).run P w= .ok (.value v) w':=by
    intro v w' hr
    have e1:execOp A.eval ⟨some d,.call {callee:= .builtin .append,args:= #[x,y],argTypes:= #[t,t]},ty,pos,bU,g⟩=(do pure (.value (←Builtin.append_ #[t,t] ty #[.slice a m c,.slice ax k cx])):Sem Next):=by
      simp only [execOp,resolve,List.map_toArray,List.map_cons,List.map_nil,hR.ev hx,hR.ev hy,pure_bind,invoke,builtin]
    rw [e1,Sem.run_bind,hr]
    rfl
  show Oper.wp P _ A w K Q
  unfold Oper.wp
  subst hH
  have hown:∀p∈gR e a cells,w.heap[p.1]? =some p.2:=fun p hp=>hG.own p aX
  by_cases hk:k=0
  · subst hk
    have hnn:news= []:=List.eq_nil_of_length_eq_zero (by simpa using hl.len)
    subst hnn
    rw [hexec _ _ (xR ht he a m c hOS.le ax cx)]
    refine h w hG a c cells (by simpa using hOS) (.inl rfl) _ _ (hR.put hd _) ?_
    refine hG.vk hS rfl rfl rfl (Nat.le_refl _) (fun k _ _=>rfl) (fun x hx=>hown (x.block,row e cells) (by simp [gR,hx])) (fun x hx=> .inl ⟨x,hx,rfl⟩)
  · have hax := hl.addr ar
    obtain⟨⟨i,z,i1,i2,i3,i4,i5⟩,hu⟩:=he
    have hzc:z.cells.size=size:=by rw [←hzl, ←i5];simp
    have hnl:news.length=k*i.size:=by rw [i3];exact hl.len
    have hnw:∀j u,news[j]? =some u→w.cell? ((⟨ab ax,ao ax,none⟩:Addr).add j)=some u:=fun j u hj=>by rw [addr_add];exact hl.cell j u hj
    have hgrow:∀olds:List Value,olds=xs→∀old,old<m+k→OS size (some ⟨w.heap.size,0,none⟩) (m+k) (grownCap w (m+k) old e) (olds++news++(Builtin.zeroCells z.cells (grownCap w (m+k) old e - (m+k))).toList) (xs++news):=by
      intro olds ho old hold
      subst ho
      have hge:=grownCap_ge w (m+k) old e
      have hcm:grownCap w (m+k) old e≤maxLen:=grownCap_le_maxLen w (m+k) old e hb63
      have hlen:(olds++news).length=(m+k)*size:=by rw [List.length_append,hOS.len,hl.len,Nat.add_mul]
      refine⟨hlen,(fun h=>by cases h),fun x hx=>?_,hge,hcm⟩
      cases hx
      refine⟨rfl,?_,?_⟩
      · rw [List.length_append, hlen]
        simp only [Array.length_toList,size_zeroCells,hzc, ←Nat.add_mul]
        congr 1
        omega
      · rw [←hlen];exact List.take_left
    have hsmall:m+k≤9223372036854775807:=by simp only [maxLen]at hb63;omega
    cases ha:a with
    | none =>
      subst ha
      obtain⟨rfl,rfl⟩:=hOS.nil rfl
      have hxs:xs= []:=List.eq_nil_of_length_eq_zero (by simpa using hOS.len)
      subst hxs
      have hr:=run_append_nil (P:=P) w t ty e i z ht i1 i2 ⟨ab ax,ao ax,none⟩ k cx news hnl hnw ar ar bg
      rw [←hax]at hr
      rw [hexec _ _ hr]
      have hg:=hgrow [] rfl 0 ar
      simp only [Nat.zero_add,List.nil_append]at hg h ⊢
      refine h w hG _ _ _ hg (.inr ⟨_,rfl,Nat.le_refl _⟩) _ _ (hR.put hd _) ?_
      refine hG.vk hS rfl rfl rfl aB (fun q hq _=>xJ w.drew _ q hq) (fun x hx=>?_) (fun x hx=> .inr (by cases hx;exact Nat.le_refl _))
      cases hx
      refine(heap_alloc_new w.drew (.cells (news.toArray++Builtin.zeroCells z.cells (grownCap w k 0 e - k)) e)).trans ?_
      simp [row]
    | some X =>
      subst ha
      obtain⟨hX,hcl,htk⟩:=hOS.some X rfl
      have hb:=hown (X.block,row e cells) (by simp [gR])
      simp only at hb
      by_cases hroom:m+k≤c
      · have hfit : m * i.size + news.length ≤ cells.toArray.size := by rw [hnl, i3, ← Nat.add_mul]; simp only [List.size_toArray, hcl]; exact Nat.mul_le_mul_right _ hroom
        have hr:=run_append_room (P:=P) w t ty e i ht i1 X.block m c cells.toArray hb ⟨ab ax,ao ax,none⟩ k cx news hnl hnw h1 hroom hfit
        rw [←hax, ←hX]at hr
        rw [hexec _ _ hr]
        have hlen:(xs++news).length=(m+k)*size:=by rw [List.length_append,hOS.len,hl.len,Nat.add_mul]
        refine h w hG _ c (cells.take (m*i.size)++news++cells.drop (m*i.size+news.length)) ⟨hlen,(fun h=>by cases h),fun x hx=>?_,hroom,hOS.max⟩ (.inl rfl) _ _ (hR.put hd _) ?_
        · cases hx
          refine⟨hX,?_,?_⟩
          · simp only [List.size_toArray] at hfit
            simp only [List.length_append,List.length_take,List.length_drop]
            rw [hcl]at hfit ⊢
            omega
          · rw [i3,htk, ←hlen];exact List.take_left
        · refine hG.vk hS rfl rfl rfl aB (fun q _ hq => HN w X.block q _ (fun e => hq X rfl e.symm)) (fun x hx => ?_) (fun x hx => .inl ⟨X, rfl, by cases hx; rfl⟩)
          cases hx
          exact setRow_heap w X.block cells.toArray _ e _ hb
      · have holds : ∀ j u, xs[j]? = some u → w.cell? (X.add j) = some u := by
          intro j u hj
          rw [hX,addr_add,Nat.zero_add]
          simp only [World.cell?,hb]
          rw [←htk,List.getElem?_take]at hj
          split at hj
          · simpa using hj
          · cases hj
        have hr:=run_append_grow (P:=P) w t ty e i z ht i1 i2 X m c xs (by rw [i3];exact hOS.len) holds ⟨ab ax,ao ax,none⟩ k cx news hnl hnw ar ar (by rw [i4];exact growslice_fits ar hby)
        rw [←hax]at hr
        rw [hexec _ _ hr]
        have hg:=hgrow xs rfl c ar
        refine h w hG _ _ _ hg (.inr ⟨_,rfl,Nat.le_refl _⟩) _ _ (hR.put hd _) ?_
        refine hG.vk hS rfl rfl rfl aB (fun q hq _=>xJ w.drew _ q hq) (fun x hx=>?_) (fun x hx=> .inr (by cases hx;exact Nat.le_refl _))
        cases hx
        refine(heap_alloc_new w.drew (.cells (xs.toArray++news.toArray++Builtin.zeroCells z.cells (grownCap w (m+k) c e - (m+k))) e)).trans ?_
        simp [row]
end ops
end Go.Eng
