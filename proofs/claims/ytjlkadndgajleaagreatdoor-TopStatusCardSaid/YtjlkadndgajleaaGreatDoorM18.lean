/-
  The engine, the plain laws and the walks that the rows need, part 18. Conditions: none.
-/
import Derived.Test.YtjlkadndgajleaaGreatDoorM17
set_option linter.unusedVariables false
set_option linter.unusedSimpArgs false
set_option maxHeartbeats 1000000
set_option maxRecDepth 10000
-- S7B
namespace Go.Abs.D2
open Go Go.Eng Go.Abs Go.Proofs
theorem nF (c:cq) (hx:c.x.length=32):bO Tryz.prog 86 [.ag (dN c)] (cn (.b (ef c.F))):=by
 refine enter Tryz.func86 rfl Tryz.ntmps86 aw (Nat.le_of_ble_eq_true rfl) fun w0 X0 hI=>?_
 refine aa [496,508,33,541,447] ?_
 refine b7 rfl (fun hc8=>?_) (fun hc8=>?_)
 ·have h8 : ¬ c.F.length ≤ 16 := by simp at hc8; omega
  refine aa [504,5] ?_
  exact congrArg A.b (NC h8).symm
 ·have h8 : c.F.length ≤ 16 := by simp at hc8; omega
  refine aa [465,444,33,541,459] ?_
  refine cO (ι:=Nat) (fun i=> [(10,oV c.F),(11,nJ c.F.length),(12,nJ i)]) (fun i=>⟨[]⟩) (fun i=>i≤c.F.length∧iu 0 c.F=iu i (c.F.drop i)) (fun i=>c.F.length - i) ?_ ?_
  ·exact cN (0) (⟨Nat.zero_le _,rfl⟩) [] hI rfl rfl ⟨⟨_,rfl,.pure pu⟩,⟨_,rfl,.pure pu⟩,⟨_,rfl,.pure pu⟩,trivial⟩ trivial
  rintro i ⟨hi,hl⟩
  refine aa [448] ?_
  refine b7 rfl (fun hc13=>?_) (fun hc13=>?_)
  ·have h13 : i < c.F.length := by have := of_decide_eq_true hc13; omega
   obtain⟨f,hf⟩:∃f,c.F[i]? =some f:=⟨_,List.getElem?_eq_getElem h13⟩
   refine aa [514,110,140,210,0,27,454,73,2,471] ?_
   refine jr 3 rfl rfl rfl rfl (fun hb21=> .step (ct Tryz.underlying128 rfl bP az rfl rfl) rfl rfl<| .step (bM bP rfl rfl rfl) rfl rfl<| .step (bF rfl) rfl rfl<| .done) rfl rfl <| s1 (bF rfl) rfl <| jr 3 rfl rfl rfl rfl (fun hb26=> .step (ct Tryz.underlying128 rfl bP az rfl rfl) rfl rfl<| .step (bM bP rfl rfl rfl) rfl rfl<| .step (bF rfl) rfl rfl<| .done) rfl rfl <| bI <| bG ?_
   refine b7 rfl (fun hc30=>?_) (fun hc30=>?_)
   ·have h30 : ¬ (f.lv = i ∧ 8 ≤ f.nb ∧ f.nb ≤ 4096) := by simp at hc30; omega
    refine aa [480,495,5] ?_
    exact congrArg A.b (NG hl hf h30).symm
   ·have h30 : f.lv = i ∧ 8 ≤ f.nb ∧ f.nb ≤ 4096 := by simp at hc30; omega
    refine aa [474] ?_
    exact cz (i+1) (⟨by omega,NF hl hf h30⟩) ar [] hI rfl rfl ⟨⟨_,rfl,.pure pu⟩,⟨_,rfl,.pure pu⟩,⟨_,rfl,.pure pu⟩,trivial⟩ trivial
  ·have h13 : i = c.F.length := by have := of_decide_eq_false hc13; omega
   subst h13
   refine aa [484,480,5] ?_
   exact congrArg A.b (ND h8 hl).symm
theorem sE (id:Int):bO Tryz.prog 87 [.i .i64 id] (cn (.b (ju id))):=by
 refine enter Tryz.func87 rfl Tryz.ntmps87 aw (Nat.le_of_ble_eq_true rfl) fun w0 X0 hI=>?_
 refine aa [444,455,0] ?_
 refine gF 2 rfl rfl rfl rfl (fun hb5=> .step (bF rfl) rfl rfl<| .step (bF rfl) rfl rfl<| .done) rfl rfl ?_
 refine aa [500] ?_
 exact congrArg A.b (by unfold ju;rw [Bool.eq_iff_iff];simp)
theorem BE (c:cq) (hx:c.x.length=32) (i j n:Nat) (f:cY) (hf:c.F[i]? =some f) (hn:f.nb=(n:Int)) (h1:i<16) (h2:8≤n) (h3:n≤4096) (h4:j<1024):bO Tryz.prog 119 [.ag (dN c),nJ i,nJ j] (cn (mw c j i)):=by
 refine enter Tryz.func119 rfl Tryz.ntmps119 aw (Nat.le_of_ble_eq_true rfl) fun w0 X0 hI=>?_
 refine bH ?_
 have hi:=(List.getElem?_eq_some_iff.1 hf).1
 have hsz:=rU h1 h2 h3
 refine aa [1,84,458,33,305,0,110,208] ?_
 refine s1 ((bM bP rfl rfl (MT hf)).v (congrArg (A.i .i64) hn)) rfl <| bK rfl (bX false rfl (.cons (.pure pu) (.cons (.pure pu) (.nil))) (bO.cast (EZ i n) (A4 hsz)) pu (.inl rfl) rfl ?_)
 refine aa [471] ?_
 refine bK rfl (cB 7 rfl dO rfl rfl ?_)
 refine aa [27,487,310] ?_
 refine s1 (eX b5 rfl rfl (Dq hx) aI) rfl ?_
 refine aa [220,0] ?_
 refine bK rfl (bX false rfl (.cons (.pure pu) (.cons (.pure pu) (.cons (.pure pu) (.nil)))) (bO.cast (tP c.x i n j (List.replicate ((n+7) / 8) 0) hx) (vB (xm (vP hsz) h4))) pu (.inl rfl) rfl ?_)
 refine aa [466,458,449] ?_
 refine bW (rs:= [.tmp 6]) rfl (bT rfl bR) ?_
 exact Kr hf hn
theorem H2 (c:cq) (id:Nat):bO Tryz.prog 71 [.ag (dN c),nJ id] (cn (.fn (.func 118) [] [.fp (dN c),.fp [nJ id]])):=by
 refine enter Tryz.func71 rfl Tryz.ntmps71 aw (Nat.le_of_ble_eq_true rfl) fun w0 X0 hI=>?_
 refine aa [501,129,452,130,41,1] ?_
 refine s1 (iz (us:= []) (vs:= [.fp (dN c),.fp [nJ id]]) rfl rfl) rfl ?_
 refine aa [449,11] ?_
 rfl
theorem Rv (c:cq) (hx:c.x.length=32) (id:Nat) (hid:id<1024) (hh:ef c.F=true):bO Tryz.prog 70 [.nl,.fn (.func 118) [] [.fp (dN c),.fp [nJ id]]] (eY 1 33 ((([]:List Int)++ie c id).map iA)):=by
 refine qm Tryz.func70 rfl Tryz.ntmps70 aw (Nat.le_of_ble_eq_true rfl) fun w0 X0 hI hS=>?_
 refine aa [444,83,508,510] ?_
 refine tg [2] [(0,_),(1,_),(2,_),(4,_),(6,_)] hI rfl ⟨rfl,⟨rfl,⟨rfl,⟨rfl,⟨rfl,trivial⟩⟩⟩⟩⟩ aD rfl Tryz.func118 rfl Tryz.ntmps118 aw (Nat.le_of_ble_eq_true rfl) fun w1 l1 D1 rc1 hR1=>?_
 refine aa [3,475] ?_
 refine cO (ι:=Nat) (fun i=> [(0,yv l1),(1,.fp (dN c)),(2,.fp [nJ id]),(8,nJ i)]) (fun i=>⟨[(2,some ([.sl 111 1 0 (([]:List Int).length+(2*i))])),(111,some ((([]:List Int)++gI c id (2*i)).map iA))]⟩) (fun i=>i≤16) (fun i=>16 - i) ?_ ?_
 ·exact cN (0) (Nat.zero_le _) [(2,some 2),(111,none)] hR1.sub.ids rfl rfl ⟨⟨_,rfl,.pure trivial⟩,⟨_,rfl,.pure pu⟩,⟨_,rfl,.pure pu⟩,⟨_,rfl,.pure pu⟩,trivial⟩ ⟨.inr ⟨_,_,rfl,rfl,.cons (.nl rfl) .nil⟩,.inl ⟨rfl,rfl⟩,trivial⟩
 rintro i hi
 refine aa [448] ?_
 refine b7 rfl (fun hc9=>?_) (fun hc9=>?_)
 ·have h9 : i < 16 := by have := of_decide_eq_true hc9; omega
  refine aa [477,444,372,491,373,541,447] ?_
  refine b7 rfl (fun hc16=>?_) (fun hc16=>?_)
  ·have h16 : i < c.F.length := by have := of_decide_eq_true hc16; omega
   obtain⟨f,hf⟩:∃f,c.F[i]? =some f:=⟨_,List.getElem?_eq_getElem h16⟩
   obtain⟨_,n,hn,hn1,hn2⟩:=wG hh hf
   refine bJ <| s1 (eX c7 rfl rfl (vF hx) (dH hx)) rfl ?_
   refine aa [0,2,374,452] ?_
   skip
   refine aa [450,493] ?_
   refine cO (ι:=Nat) (fun k=> [(0,yv l1),(1,.fp (dN c)),(2,.fp [nJ id]),(4,nJ i),(8,nJ i),(21,mw c id i),(22,nJ 2),(23,nJ k)]) (fun k=>⟨[(2,some ([.sl 111 1 0 (([]:List Int).length+(2*i+k))])),(111,some ((([]:List Int)++gI c id (2*i+k)).map iA))]⟩) (fun k=>k≤2) (fun k=>2 - k) ?_ ?_
   ·exact cN (0) (Nat.zero_le _) [(2,some 2),(111,some 111)] hR1.sub.ids rfl rfl ⟨⟨_,rfl,.pure trivial⟩,⟨_,rfl,.pure pu⟩,⟨_,rfl,.pure pu⟩,⟨_,rfl,.pure pu⟩,⟨_,rfl,.pure pu⟩,⟨_,rfl,.pure pu⟩,⟨_,rfl,.pure pu⟩,⟨_,rfl,.pure pu⟩,trivial⟩ ⟨.inr ⟨_,_,rfl,rfl,.cons (.sl rfl aq) .nil⟩,.inr ⟨_,_,rfl,rfl,.pure bL⟩,trivial⟩
   rintro k hk
   refine aa [448] ?_
   refine b7 rfl (fun hc24=>?_) (fun hc24=>?_)
   ·have h24 : k < 2 := by have := of_decide_eq_true hc24; omega
    have hbl:=tq hh id i k
    refine aa [462,37,170,455,119,0,81,120] ?_
    refine nc [2] [(0,_),(1,_),(2,_),(4,_),(7,_),(8,_),(21,_),(22,_),(23,_),(24,_),(25,_),(26,_),(27,_),(28,_),(29,_),(30,_),(31,_),(32,_)] hR1 hR1.sub.ids rfl ⟨rfl,⟨rfl,⟨rfl,⟨rfl,⟨rfl,⟨rfl,⟨rfl,⟨rfl,⟨rfl,⟨rfl,⟨rfl,⟨rfl,⟨rfl,⟨rfl,⟨rfl,⟨rfl,⟨rfl,⟨rfl,trivial⟩⟩⟩⟩⟩⟩⟩⟩⟩⟩⟩⟩⟩⟩⟩⟩⟩⟩ aD rfl rfl rfl rfl rfl fun w2 tm2 hd2=>?_
    refine aa [1,476] ?_
    refine m9 hd2 fun w3 hd3=>?_
    refine aa [540,36,0,71,375,72,503,90,468,474] ?_
    exact cz (k+1) ar ar [(2,some 2),(111,some 211)] hR1.sub.ids rfl rfl ⟨⟨_,rfl,.pure trivial⟩,⟨_,rfl,.pure pu⟩,⟨_,rfl,.pure pu⟩,⟨_,rfl,.pure pu⟩,⟨_,rfl,.pure pu⟩,⟨_,rfl,.pure pu⟩,⟨_,rfl,.pure pu⟩,⟨_,rfl,.pure pu⟩,trivial⟩ ⟨.inr ⟨_,_,rfl,rfl,.cons (.sl rfl aq) .nil⟩,.inr ⟨_,_,rfl,rfl,.of aZ (.pure bL)⟩,trivial⟩
   ·have h24 : k = 2 := by have := of_decide_eq_false hc24; omega
    subst h24
    refine aa [536] ?_
    exact cz (i+1) ar ar [(2,some 2),(111,some 111)] hR1.sub.ids rfl rfl ⟨⟨_,rfl,.pure trivial⟩,⟨_,rfl,.pure pu⟩,⟨_,rfl,.pure pu⟩,⟨_,rfl,.pure pu⟩,trivial⟩ ⟨.inr ⟨_,_,rfl,rfl,.cons (.sl rfl aq) .nil⟩,.inr ⟨_,_,rfl,rfl,.of (by rw [Nat.mul_succ]) (.pure bL)⟩,trivial⟩
  ·have h16 : ¬ i < c.F.length := by have := of_decide_eq_false hc16; omega
   refine bY <| bG <| bH <| eR 5 rfl rfl bL rfl <| gr 5 rfl (v':=mw c id i) (Dh h16) ?_
   refine aa [450,493] ?_
   refine cO (ι:=Nat) (fun k=> [(0,yv l1),(1,.fp (dN c)),(2,.fp [nJ id]),(4,nJ i),(8,nJ i),(21,mw c id i),(22,nJ 2),(23,nJ k)]) (fun k=>⟨[(2,some ([.sl 111 1 0 (([]:List Int).length+(2*i+k))])),(111,some ((([]:List Int)++gI c id (2*i+k)).map iA))]⟩) (fun k=>k≤2) (fun k=>2 - k) ?_ ?_
   ·exact cN (0) (Nat.zero_le _) [(2,some 2),(111,some 111)] hR1.sub.ids rfl rfl ⟨⟨_,rfl,.pure trivial⟩,⟨_,rfl,.pure pu⟩,⟨_,rfl,.pure pu⟩,⟨_,rfl,.pure pu⟩,⟨_,rfl,.pure pu⟩,⟨_,rfl,.pure pu⟩,⟨_,rfl,.pure pu⟩,⟨_,rfl,.pure pu⟩,trivial⟩ ⟨.inr ⟨_,_,rfl,rfl,.cons (.sl rfl aq) .nil⟩,.inr ⟨_,_,rfl,rfl,.pure bL⟩,trivial⟩
   rintro k hk
   refine aa [448] ?_
   refine b7 rfl (fun hc24=>?_) (fun hc24=>?_)
   ·have h24 : k < 2 := by have := of_decide_eq_true hc24; omega
    have hbl:=tq hh id i k
    refine aa [462,37,170,455,119,0,81,120] ?_
    refine nc [2] [(0,_),(1,_),(2,_),(4,_),(7,_),(8,_),(21,_),(22,_),(23,_),(24,_),(25,_),(26,_),(27,_),(28,_),(29,_),(30,_),(31,_),(32,_)] hR1 hR1.sub.ids rfl ⟨rfl,⟨rfl,⟨rfl,⟨rfl,⟨rfl,⟨rfl,⟨rfl,⟨rfl,⟨rfl,⟨rfl,⟨rfl,⟨rfl,⟨rfl,⟨rfl,⟨rfl,⟨rfl,⟨rfl,⟨rfl,trivial⟩⟩⟩⟩⟩⟩⟩⟩⟩⟩⟩⟩⟩⟩⟩⟩⟩⟩ aD rfl rfl rfl rfl rfl fun w4 tm4 hd4=>?_
    refine aa [1,476] ?_
    refine m9 hd4 fun w5 hd5=>?_
    refine aa [540,36,0,71,375,72,503] ?_
    refine na hR1 hd5 rfl ?_
    refine aa [468,474] ?_
    exact cz (k+1) ar ar [(2,some 2),(111,some 211)] hR1.sub.ids rfl rfl ⟨⟨_,rfl,.pure trivial⟩,⟨_,rfl,.pure pu⟩,⟨_,rfl,.pure pu⟩,⟨_,rfl,.pure pu⟩,⟨_,rfl,.pure pu⟩,⟨_,rfl,.pure pu⟩,⟨_,rfl,.pure pu⟩,⟨_,rfl,.pure pu⟩,trivial⟩ ⟨.inr ⟨_,_,rfl,rfl,.cons (.sl rfl aq) .nil⟩,.inr ⟨_,_,rfl,rfl,.of aZ (.pure bL)⟩,trivial⟩
   ·have h24 : k = 2 := by have := of_decide_eq_false hc24; omega
    subst h24
    refine aa [536] ?_
    exact cz (i+1) ar ar [(2,some 2),(111,some 111)] hR1.sub.ids rfl rfl ⟨⟨_,rfl,.pure trivial⟩,⟨_,rfl,.pure pu⟩,⟨_,rfl,.pure pu⟩,⟨_,rfl,.pure pu⟩,trivial⟩ ⟨.inr ⟨_,_,rfl,rfl,.cons (.sl rfl aq) .nil⟩,.inr ⟨_,_,rfl,rfl,.of (by rw [Nat.mul_succ]) (.pure bL)⟩,trivial⟩
 ·have h9 : i = 16 := by have := of_decide_eq_false hc9; omega
  subst h9
  refine aa [484,450,2,81,244] ?_
  refine nc [2] [(0,_),(1,_),(2,_),(8,_),(9,_),(37,_),(38,_),(39,_),(40,_)] hR1 hR1.sub.ids rfl ⟨rfl,⟨rfl,⟨rfl,⟨rfl,⟨rfl,⟨rfl,⟨rfl,⟨rfl,⟨rfl,trivial⟩⟩⟩⟩⟩⟩⟩⟩⟩ aD rfl rfl rfl rfl rfl fun w6 tm6 hd6=>?_
  refine aa [1,476] ?_
  refine m9 hd6 fun w7 hd7=>?_
  refine aa [540,36,0,71] ?_
  refine bK rfl (dB 211 rfl Tryz.underlying24 bP rfl (.sl rfl (by simp [gI])) rfl (dE rfl aq) aB av av rfl (Iz ([]:List Int) c id) rfl ?_)
  refine aa [72,503] ?_
  refine na hR1 hd7 rfl ?_
  refine aa [8,108,545,444,36,449] ?_
  refine qb (rs:= [.tmp 4]) rfl rfl rfl hS (dn:= [D1]) rfl rfl aB rfl (bT rfl bR) ⟨211,rfl,rfl⟩
theorem Rw (c:cq) (hx:c.x.length=32) (id:Nat) (hid:id<1024) (hh:ef c.F=true) (B:List Int) (hB:B.length≤1000):dG Tryz.prog 70 [.sl 128 1 0 B.length,.fn (.func 118) [] [.fp (dN c),.fp [nJ id]]] ⟨[(128,some (B.map iA))]⟩ (eY 1 (B.length+33) ((B++ie c id).map iA)):=by
 refine Mp bL Tryz.func70 rfl Tryz.ntmps70 aw (Nat.le_of_ble_eq_true rfl) fun w0 X0 hI hS=>?_
 refine aa [444,83,508,510] ?_
 refine tg [2] [(1,_),(2,_),(4,_),(6,_)] hI rfl ⟨rfl,⟨rfl,⟨rfl,⟨rfl,trivial⟩⟩⟩⟩ aD rfl Tryz.func118 rfl Tryz.ntmps118 aw (Nat.le_of_ble_eq_true rfl) fun w1 l1 D1 rc1 hR1=>?_
 refine aa [3,475] ?_
 refine cO (ι:=Nat) (fun i=> [(0,yv l1),(1,.fp (dN c)),(2,.fp [nJ id]),(8,nJ i)]) (fun i=>⟨[(2,some ([.sl 111 1 0 (B.length+(2*i))])),(111,some ((B++gI c id (2*i)).map iA))]⟩) (fun i=>i≤16) (fun i=>16 - i) ?_ ?_
 ·exact cN (0) (Nat.zero_le _) [(2,some 2),(111,some 128)] hR1.sub.ids rfl rfl ⟨⟨_,rfl,.pure trivial⟩,⟨_,rfl,.pure pu⟩,⟨_,rfl,.pure pu⟩,⟨_,rfl,.pure pu⟩,trivial⟩ ⟨.inr ⟨_,_,rfl,rfl,.cons (.sl rfl aq) .nil⟩,.inr ⟨_,_,rfl,rfl,.of (by simp [gI]) (.pure bL)⟩,trivial⟩
 rintro i hi
 refine aa [448] ?_
 refine b7 rfl (fun hc9=>?_) (fun hc9=>?_)
 ·have h9 : i < 16 := by have := of_decide_eq_true hc9; omega
  refine aa [477,444,372,491,373,541,447] ?_
  refine b7 rfl (fun hc16=>?_) (fun hc16=>?_)
  ·have h16 : i < c.F.length := by have := of_decide_eq_true hc16; omega
   obtain⟨f,hf⟩:∃f,c.F[i]? =some f:=⟨_,List.getElem?_eq_getElem h16⟩
   obtain⟨_,n,hn,hn1,hn2⟩:=wG hh hf
   refine bJ <| s1 (eX c7 rfl rfl (vF hx) (dH hx)) rfl ?_
   refine aa [0,2,374,452] ?_
   skip
   refine aa [450,493] ?_
   refine cO (ι:=Nat) (fun k=> [(0,yv l1),(1,.fp (dN c)),(2,.fp [nJ id]),(4,nJ i),(8,nJ i),(21,mw c id i),(22,nJ 2),(23,nJ k)]) (fun k=>⟨[(2,some ([.sl 111 1 0 (B.length+(2*i+k))])),(111,some ((B++gI c id (2*i+k)).map iA))]⟩) (fun k=>k≤2) (fun k=>2 - k) ?_ ?_
   ·exact cN (0) (Nat.zero_le _) [(2,some 2),(111,some 111)] hR1.sub.ids rfl rfl ⟨⟨_,rfl,.pure trivial⟩,⟨_,rfl,.pure pu⟩,⟨_,rfl,.pure pu⟩,⟨_,rfl,.pure pu⟩,⟨_,rfl,.pure pu⟩,⟨_,rfl,.pure pu⟩,⟨_,rfl,.pure pu⟩,⟨_,rfl,.pure pu⟩,trivial⟩ ⟨.inr ⟨_,_,rfl,rfl,.cons (.sl rfl aq) .nil⟩,.inr ⟨_,_,rfl,rfl,.pure bL⟩,trivial⟩
   rintro k hk
   refine aa [448] ?_
   refine b7 rfl (fun hc24=>?_) (fun hc24=>?_)
   ·have h24 : k < 2 := by have := of_decide_eq_true hc24; omega
    have hbl:=tq hh id i k
    refine aa [462,37,170,455,119,0,81,120] ?_
    refine nc [2] [(0,_),(1,_),(2,_),(4,_),(7,_),(8,_),(21,_),(22,_),(23,_),(24,_),(25,_),(26,_),(27,_),(28,_),(29,_),(30,_),(31,_),(32,_)] hR1 hR1.sub.ids rfl ⟨rfl,⟨rfl,⟨rfl,⟨rfl,⟨rfl,⟨rfl,⟨rfl,⟨rfl,⟨rfl,⟨rfl,⟨rfl,⟨rfl,⟨rfl,⟨rfl,⟨rfl,⟨rfl,⟨rfl,⟨rfl,trivial⟩⟩⟩⟩⟩⟩⟩⟩⟩⟩⟩⟩⟩⟩⟩⟩⟩⟩ aD rfl rfl rfl rfl rfl fun w2 tm2 hd2=>?_
    refine aa [1,476] ?_
    refine m9 hd2 fun w3 hd3=>?_
    refine aa [540,36,0,71,376,72,503,90,468,474] ?_
    exact cz (k+1) ar ar [(2,some 2),(111,some 211)] hR1.sub.ids rfl rfl ⟨⟨_,rfl,.pure trivial⟩,⟨_,rfl,.pure pu⟩,⟨_,rfl,.pure pu⟩,⟨_,rfl,.pure pu⟩,⟨_,rfl,.pure pu⟩,⟨_,rfl,.pure pu⟩,⟨_,rfl,.pure pu⟩,⟨_,rfl,.pure pu⟩,trivial⟩ ⟨.inr ⟨_,_,rfl,rfl,.cons (.sl rfl aq) .nil⟩,.inr ⟨_,_,rfl,rfl,.of aZ (.pure bL)⟩,trivial⟩
   ·have h24 : k = 2 := by have := of_decide_eq_false hc24; omega
    subst h24
    refine aa [536] ?_
    exact cz (i+1) ar ar [(2,some 2),(111,some 111)] hR1.sub.ids rfl rfl ⟨⟨_,rfl,.pure trivial⟩,⟨_,rfl,.pure pu⟩,⟨_,rfl,.pure pu⟩,⟨_,rfl,.pure pu⟩,trivial⟩ ⟨.inr ⟨_,_,rfl,rfl,.cons (.sl rfl aq) .nil⟩,.inr ⟨_,_,rfl,rfl,.of (by rw [Nat.mul_succ]) (.pure bL)⟩,trivial⟩
  ·have h16 : ¬ i < c.F.length := by have := of_decide_eq_false hc16; omega
   refine bY <| bG <| bH <| eR 5 rfl rfl bL rfl <| gr 5 rfl (v':=mw c id i) (Dh h16) ?_
   refine aa [450,493] ?_
   refine cO (ι:=Nat) (fun k=> [(0,yv l1),(1,.fp (dN c)),(2,.fp [nJ id]),(4,nJ i),(8,nJ i),(21,mw c id i),(22,nJ 2),(23,nJ k)]) (fun k=>⟨[(2,some ([.sl 111 1 0 (B.length+(2*i+k))])),(111,some ((B++gI c id (2*i+k)).map iA))]⟩) (fun k=>k≤2) (fun k=>2 - k) ?_ ?_
   ·exact cN (0) (Nat.zero_le _) [(2,some 2),(111,some 111)] hR1.sub.ids rfl rfl ⟨⟨_,rfl,.pure trivial⟩,⟨_,rfl,.pure pu⟩,⟨_,rfl,.pure pu⟩,⟨_,rfl,.pure pu⟩,⟨_,rfl,.pure pu⟩,⟨_,rfl,.pure pu⟩,⟨_,rfl,.pure pu⟩,⟨_,rfl,.pure pu⟩,trivial⟩ ⟨.inr ⟨_,_,rfl,rfl,.cons (.sl rfl aq) .nil⟩,.inr ⟨_,_,rfl,rfl,.pure bL⟩,trivial⟩
   rintro k hk
   refine aa [448] ?_
   refine b7 rfl (fun hc24=>?_) (fun hc24=>?_)
   ·have h24 : k < 2 := by have := of_decide_eq_true hc24; omega
    have hbl:=tq hh id i k
    refine aa [462,37,170,455,119,0,81,120] ?_
    refine nc [2] [(0,_),(1,_),(2,_),(4,_),(7,_),(8,_),(21,_),(22,_),(23,_),(24,_),(25,_),(26,_),(27,_),(28,_),(29,_),(30,_),(31,_),(32,_)] hR1 hR1.sub.ids rfl ⟨rfl,⟨rfl,⟨rfl,⟨rfl,⟨rfl,⟨rfl,⟨rfl,⟨rfl,⟨rfl,⟨rfl,⟨rfl,⟨rfl,⟨rfl,⟨rfl,⟨rfl,⟨rfl,⟨rfl,⟨rfl,trivial⟩⟩⟩⟩⟩⟩⟩⟩⟩⟩⟩⟩⟩⟩⟩⟩⟩⟩ aD rfl rfl rfl rfl rfl fun w4 tm4 hd4=>?_
    refine aa [1,476] ?_
    refine m9 hd4 fun w5 hd5=>?_
    refine aa [540,36,0,71,376,72,503] ?_
    refine na hR1 hd5 rfl ?_
    refine aa [468,474] ?_
    exact cz (k+1) ar ar [(2,some 2),(111,some 211)] hR1.sub.ids rfl rfl ⟨⟨_,rfl,.pure trivial⟩,⟨_,rfl,.pure pu⟩,⟨_,rfl,.pure pu⟩,⟨_,rfl,.pure pu⟩,⟨_,rfl,.pure pu⟩,⟨_,rfl,.pure pu⟩,⟨_,rfl,.pure pu⟩,⟨_,rfl,.pure pu⟩,trivial⟩ ⟨.inr ⟨_,_,rfl,rfl,.cons (.sl rfl aq) .nil⟩,.inr ⟨_,_,rfl,rfl,.of aZ (.pure bL)⟩,trivial⟩
   ·have h24 : k = 2 := by have := of_decide_eq_false hc24; omega
    subst h24
    refine aa [536] ?_
    exact cz (i+1) ar ar [(2,some 2),(111,some 111)] hR1.sub.ids rfl rfl ⟨⟨_,rfl,.pure trivial⟩,⟨_,rfl,.pure pu⟩,⟨_,rfl,.pure pu⟩,⟨_,rfl,.pure pu⟩,trivial⟩ ⟨.inr ⟨_,_,rfl,rfl,.cons (.sl rfl aq) .nil⟩,.inr ⟨_,_,rfl,rfl,.of (by rw [Nat.mul_succ]) (.pure bL)⟩,trivial⟩
 ·have h9 : i = 16 := by have := of_decide_eq_false hc9; omega
  subst h9
  refine aa [484,450,2,81,244] ?_
  refine nc [2] [(0,_),(1,_),(2,_),(8,_),(9,_),(37,_),(38,_),(39,_),(40,_)] hR1 hR1.sub.ids rfl ⟨rfl,⟨rfl,⟨rfl,⟨rfl,⟨rfl,⟨rfl,⟨rfl,⟨rfl,⟨rfl,trivial⟩⟩⟩⟩⟩⟩⟩⟩⟩ aD rfl rfl rfl rfl rfl fun w6 tm6 hd6=>?_
  refine aa [1,476] ?_
  refine m9 hd6 fun w7 hd7=>?_
  refine aa [540,36,0,71] ?_
  refine bK rfl (dB 211 rfl Tryz.underlying24 bP rfl (.sl rfl (by simp [gI])) rfl (dE rfl aq) aB av av rfl (Iz B c id) rfl ?_)
  refine aa [72,503] ?_
  refine na hR1 hd7 rfl ?_
  refine aa [8,108,545,444,36,449] ?_
  refine qb (rs:= [.tmp 4]) rfl rfl rfl hS (dn:= [D1]) rfl rfl aB rfl (bT rfl bR) ⟨211,rfl,rfl⟩
theorem Ry (c:cq) (hx:c.x.length=32) (id:Nat) (hid:id<1024) (hh:ef c.F=true):bO Tryz.prog 83 [.fn (.func 118) [] [.fp (dN c),.fp [nJ id]]] (cn (iI (ie c id))):=by
 refine enter Tryz.func83 rfl Tryz.ntmps83 aw (Nat.le_of_ble_eq_true rfl) fun w0 X0 hI=>?_
 refine aa [524] ?_
 refine bK rfl (kN 4 rfl false rfl (.cons (.pure pu) (.cons (.pure pu) .nil)) (Rv c hx id hid hh) bL (.inl rfl) rfl ?_)
 refine aa [449,57,5] ?_
 show A.fz 33 _=_
 rw [iI,ld];rfl
theorem Ie (c:cq) (hx:c.x.length=32) (id:Int):bO Tryz.prog 42 [.ag (dN c),.i .i64 id] (cn (uO c id)):=by
 refine enter Tryz.func42 rfl Tryz.ntmps42 aw (Nat.le_of_ble_eq_true rfl) fun w0 X0 hI=>?_
 refine aa [501,0,498] ?_
 rcases IA c id with hcs|hcs|hcs
 ·skip
  refine aa [478,245,14,0,528,485,445,544,35] ?_
  rw [Iy (by rw [hcs];rfl)];rfl
 ·skip
  refine aa [478,377,499,378,34,485,445,544,35] ?_
  rw [Iy (by rw [hcs.1,hcs.2];rfl)];rfl
 ·obtain ⟨hh, j, rfl, hid, hnb⟩ := hcs
  refine aa [478,121,499,246,17,468,469,143,0,379] ?_
  refine bK rfl (bX false rfl (.cons (.pure pu) .nil) (Ry c hx j hid hh) pu (.inl rfl) rfl ?_)
  refine aa [532,35] ?_
  rw [B7 hh hnb];rfl
-- S7C
theorem RV (q:List UInt8) (hq:q.length=16) (b:Nat):bO Tryz.prog 124 [.fp (q.map u8),nJ b] (cn (.b (eu q (b % 128)))):=by
 refine enter Tryz.func124 rfl Tryz.ntmps124 aw (Nat.le_of_ble_eq_true rfl) fun w0 X0 hI=>?_
 refine aa [444,455] ?_
 refine s1 (iQ _ 128 rfl rfl rfl rfl ar) rfl ?_
 refine aa [213] ?_
 refine s1 (mm rfl rfl) rfl <| s1 (IU (b % 128 / 8) Tryz.underlying141 cc rfl rfl rfl ar rfl) rfl <| s1 (bM cc rfl rfl (wA ar)) rfl ?_
 refine aa [0,214] ?_
 refine s1 (qP (q.getD (b % 128 / 8) 0) (b % 8) rfl rfl rfl ar) rfl <| s1 (ra _ _ rfl rfl) rfl <| s1 ((bF rfl).v (v':= .b (eu q (b % 128))) (congrArg A.b (Nw _ _))) rfl ?_
 refine aa [449,11] ?_
 rfl
theorem pE (bl:List (List UInt8)) (i b:Nat) (hs:fP bl 33=true) (hi:i<33):bO Tryz.prog 125 [nJ i,nJ b,.fp [dr bl],.fp [.fn (.func 124) [] []]] (cn (.b (iq bl i b))):=by
 refine enter Tryz.func125 rfl Tryz.ntmps125 aw (Nat.le_of_ble_eq_true rfl) fun w0 X0 hI=>?_
 refine bH ?_
 obtain⟨q,hq,hqd,hq16⟩:=uD hs hi
 have hl:=xU hs
 refine aa [1,487,25,0,70,47] ?_
 refine s1 (Cj Tryz.underlying141 rfl ar ar) rfl <| s1 (eX sH rfl rfl (List.take_of_length_le (by simp [hq16])) (by simp [hq16])) rfl <| bK rfl (cB 7 rfl sH rfl rfl ?_)
 refine bK rfl (cu sH rfl rfl rfl aq aq ?_)
 refine bI <| bG <| bH <| fS 7 rfl rfl bL <| bJ <| s1 (bM BY rfl rfl rfl) rfl <| s1 (bF rfl) rfl <| bK rfl (iw false rfl rfl (.cons (.pure pu) (.cons (.pure pu) .nil)) (RV q hq16 b) pu (.inl rfl) rfl ?_)
 refine s1 (bF rfl) rfl <| bI <| bG <| bV <| bW (rs:= [.tmp 6]) rfl (bT rfl bR) ?_
 exact congrArg A.b (Ku hqd)
theorem Su (q:List UInt8):bO Tryz.prog 123 [.fz q.length (q.map u8)] (cn (.b (fO q))):=by
 refine enter Tryz.func123 rfl Tryz.ntmps123 aw (Nat.le_of_ble_eq_true rfl) fun w0 X0 hI=>?_
 refine aa [524,24,520,5] ?_
 exact congrArg A.b (V6.GH q)
theorem R8 (l:List (List UInt8)) (hn:l.length≤maxLen):bO Tryz.prog 120 [.fz l.length (l.map V6.cA),.fn (.func 123) [] []] (cn (.i .i64 (ou fO l))):=by
 refine enter Tryz.func120 rfl Tryz.ntmps120 aw (Nat.le_of_ble_eq_true rfl) fun w0 X0 hI=>?_
 refine bH ?_
 simp only [maxLen]at hn
 refine aa [1,470,445,538] ?_
 refine cO (ι:=Nat) (fun i=> [(0,.fz l.length (l.map V6.cA)),(1,.fn (.func 123) [] []),(7,nJ l.length),(8,nJ i)]) (fun i=>⟨[]⟩) (fun i=>i≤l.length∧(l.take i).any fO=false) (fun i=>l.length - i) ?_ ?_
 ·exact cN (0) (⟨Nat.zero_le _,rfl⟩) [] hI rfl rfl ⟨⟨_,rfl,.pure pu⟩,⟨_,rfl,.pure pu⟩,⟨_,rfl,.pure pu⟩,⟨_,rfl,.pure pu⟩,trivial⟩ trivial
 rintro i ⟨hi,hi2⟩
 refine aa [448] ?_
 refine b7 rfl (fun hc9=>?_) (fun hc9=>?_)
 ·have h9 : i < l.length := by have := of_decide_eq_true hc9; omega
  obtain⟨q,hq⟩:∃q,l[i]? =some q:=⟨_,List.getElem?_eq_getElem h9⟩
  refine aa [477,489,70,47] ?_
  refine bK rfl (iw false rfl rfl (.cons (.pure pu) .nil) (Su q) pu (.inl rfl) rfl ?_)
  refine bI <| bG ?_
  refine b7 rfl (fun hc16=>?_) (fun hc16=>?_)
  ·skip
   refine aa [445,449,529] ?_
   exact congrArg (A.i .i64) (AF hq hi2 hc16).symm
  ·skip
   refine aa [474] ?_
   exact cz (i+1) (⟨by omega,BT hq hi2 hc16⟩) ar [] hI rfl rfl ⟨⟨_,rfl,.pure pu⟩,⟨_,rfl,.pure pu⟩,⟨_,rfl,.pure pu⟩,⟨_,rfl,.pure pu⟩,trivial⟩ trivial
 ·have h9 : i = l.length := by have := of_decide_eq_false hc9; omega
  subst h9
  refine aa [483,65,457,11] ?_
  exact congrArg (A.i .i64) (AH hi2).symm
theorem RA (l:List (List UInt8)) (hn:l.length≤maxLen):bO Tryz.prog 73 [.fz l.length (l.map V6.cA),.fn (.func 123) [] []] (cn (.b (l.any fO))):=by
 refine enter Tryz.func73 rfl Tryz.ntmps73 aw (Nat.le_of_ble_eq_true rfl) fun w0 X0 hI=>?_
 refine aa [444,455] ?_
 refine bK rfl (bX false rfl (.cons (.pure pu) (.cons (.pure pu) .nil)) (R8 l hn) pu (.inl rfl) rfl ?_)
 refine aa [506] ?_
 exact congrArg A.b (AG ..)
theorem Ro (q:Int):bO Tryz.prog 117 [.i .i64 q] (cn (.b (rW q))):=by
 refine enter Tryz.func117 rfl Tryz.ntmps117 aw (Nat.le_of_ble_eq_true rfl) fun w0 X0 hI=>?_
 refine aa [524] ?_
 refine bK rfl (bX false rfl (.cons (.pure pu) (.nil)) (sE q) pu (.inl rfl) rfl ?_)
 refine aa [520,5] ?_
 rfl
theorem R7 (l:List Int) (hn:l.length≤maxLen):bO Tryz.prog 145 [.fz l.length (l.map (A.i .i64)),.fn (.func 117) [] []] (cn (.i .i64 (qu rW l))):=by
 refine enter Tryz.func145 rfl Tryz.ntmps145 aw (Nat.le_of_ble_eq_true rfl) fun w0 X0 hI=>?_
 refine bH ?_
 simp only [maxLen]at hn
 refine aa [1,470,445,493] ?_
 refine cO (ι:=Nat) (fun i=> [(0,.fz l.length (l.map (A.i .i64))),(1,.fn (.func 117) [] []),(7,nJ l.length),(8,nJ i)]) (fun i=>⟨[]⟩) (fun i=>i≤l.length∧(l.take i).any rW=false) (fun i=>l.length - i) ?_ ?_
 ·exact cN (0) (⟨Nat.zero_le _,rfl⟩) [] hI rfl rfl ⟨⟨_,rfl,.pure pu⟩,⟨_,rfl,.pure pu⟩,⟨_,rfl,.pure pu⟩,⟨_,rfl,.pure pu⟩,trivial⟩ trivial
 rintro i ⟨hi,hi2⟩
 refine aa [448] ?_
 refine b7 rfl (fun hc9=>?_) (fun hc9=>?_)
 ·have h9 : i < l.length := by have := of_decide_eq_true hc9; omega
  obtain⟨q,hq⟩:∃q,l[i]? =some q:=⟨_,List.getElem?_eq_getElem h9⟩
  refine aa [477,489,51,52] ?_
  refine bK rfl (iw false rfl rfl (.cons (.pure pu) .nil) (Ro q) pu (.inl rfl) rfl ?_)
  refine bI <| bG ?_
  refine b7 rfl (fun hc16=>?_) (fun hc16=>?_)
  ·skip
   refine aa [445,449,529] ?_
   exact congrArg (A.i .i64) (NJ hq hi2 hc16).symm
  ·skip
   refine aa [474] ?_
   exact cz (i+1) (⟨by omega,SQ hq hi2 hc16⟩) ar [] hI rfl rfl ⟨⟨_,rfl,.pure pu⟩,⟨_,rfl,.pure pu⟩,⟨_,rfl,.pure pu⟩,⟨_,rfl,.pure pu⟩,trivial⟩ trivial
 ·have h9 : i = l.length := by have := of_decide_eq_false hc9; omega
  subst h9
  refine aa [483,65,457,11] ?_
  exact congrArg (A.i .i64) (NL hi2).symm
theorem Rz (l:List Int) (hn:l.length≤maxLen):bO Tryz.prog 116 [.fz l.length (l.map (A.i .i64)),.fn (.func 117) [] []] (cn (.b (l.any rW))):=by
 refine enter Tryz.func116 rfl Tryz.ntmps116 aw (Nat.le_of_ble_eq_true rfl) fun w0 X0 hI=>?_
 refine aa [444,455] ?_
 refine bK rfl (bX false rfl (.cons (.pure pu) (.cons (.pure pu) .nil)) (R7 l hn) pu (.inl rfl) rfl ?_)
 refine aa [506] ?_
 exact congrArg A.b (NK ..)
theorem qQ (bl:List (List UInt8)) (m:Nat) (hm:m≤1000):bO Tryz.prog 79 [.fz bl.length (bl.map V6.cA),nJ m] (cn (.b (fP bl m))):=by
 refine enter Tryz.func79 rfl Tryz.ntmps79 aw (Nat.le_of_ble_eq_true rfl) fun w0 X0 hI=>?_
 refine aa [524,23,471] ?_
 refine kX 9 rfl (fun hc9=>?_) (fun hc9=>?_)
 ·have h9 : bl.length = m := by have := of_decide_eq_true hc9; omega
  refine aa [7] ?_
  refine fg rfl rfl rfl (bX false rfl (.cons (.pure pu) (.cons (.pure pu) .nil)) (RA bl aC) pu (.inl rfl) rfl ?_)
  refine aa [7,506] ?_
  exact congrArg A.b (by unfold fP;simp [h9])
 ·have h9 : ¬ bl.length = m := by have := of_decide_eq_false hc9; omega
  refine aa [528,506] ?_
  exact congrArg A.b (by unfold fP;simp [h9])
theorem Sq (c:cq) (hx:c.x.length=32) (id:Int) (bl:List (List UInt8)):bO Tryz.prog 81 [.ag (dN c),.i .i64 id,.fz bl.length (bl.map V6.cA)] (cn (uu c id bl)):=by
 refine enter Tryz.func81 rfl Tryz.ntmps81 aw (Nat.le_of_ble_eq_true rfl) fun w0 X0 hI=>?_
 refine aa [522,207,0,498] ?_
 rcases Qp c id bl with hcs|hcs|hcs|hcs
 ·skip
  refine aa [478,245,14,0,528,490,485,445,544,21] ?_
  rw [Bq (by rw [hcs];rfl)];rfl
 ·skip
  refine aa [478,377,499,378,34,490,485,445,544,21] ?_
  rw [Bq (by rw [hcs.1,hcs.2];rfl)];rfl
 ·obtain ⟨hh, j, rfl, hid, hnb, hz⟩ := hcs
  refine aa [478,121,499,246,17,446,28] ?_
  refine fg rfl rfl rfl (bX false rfl (.cons (.pure pu) (.cons (.pure pu) (.nil))) (bO.cast (qQ bl 33 ar) (congrArg A.b hz)) pu (.inl rfl) rfl ?_)
  refine aa [34,485,445,544,21] ?_
  rw [Bq (by rw [hh,hnb,hz];rfl)];rfl
 ·obtain ⟨hh, j, rfl, hid, hnb, hs⟩ := hcs
  have hle:=NB hh
  refine aa [478,121,499,246,17,446,28] ?_
  refine fg rfl rfl rfl (bX false rfl (.cons (.pure pu) (.cons (.pure pu) (.nil))) (bO.cast (qQ bl 33 ar) (congrArg A.b hs)) pu (.inl rfl) rfl ?_)
  refine aa [17,468,469] ?_
  refine bK rfl (cB 8 rfl BY rfl rfl ?_)
  refine bK rfl (cV BY rfl rfl rfl rfl aq rfl ?_)
  refine bI <| bG <| bH <| fS 5 rfl rfl bL <| ep 8 rfl (cs':= [.fn (.func 124) [] []]) rfl <| fS 8 rfl rfl bL <| bJ <| s1 (iz (us:= []) (vs:= [.fp [dr bl],.fp [.fn (.func 124) [] []]]) rfl rfl) rfl ?_
  refine aa [508,33,541,459] ?_
  refine cO (ι:=Nat) (fun i=> [(1,nJ j),(3,.p 3 0),(6,.b (i % 2==1)),(9,.fn (.func 125) [] [.fp [dr bl],.fp [.fn (.func 124) [] []]]),(28,nJ c.F.length),(29,nJ i)]) (fun i=>⟨[(3,some (dN c))]⟩) (fun i=>i≤c.F.length∧∀t,t<i→jS c j bl t=true) (fun i=>c.F.length - i) ?_ ?_
  ·exact cN (0) (⟨Nat.zero_le _,fun t ht=>absurd ht ar⟩) [(3,some 3)] hI rfl rfl ⟨⟨_,rfl,.pure pu⟩,⟨_,rfl,.p rfl⟩,⟨_,rfl,.pure pu⟩,⟨_,rfl,.pure pu⟩,⟨_,rfl,.pure pu⟩,⟨_,rfl,.pure pu⟩,trivial⟩ ⟨.inr ⟨_,_,rfl,rfl,.pure bL⟩,trivial⟩
  rintro i ⟨hi,hp⟩
  refine aa [448] ?_
  refine b7 rfl (fun hc30=>?_) (fun hc30=>?_)
  ·have h30 : i < c.F.length := by have := of_decide_eq_true hc30; omega
   obtain⟨f,hf⟩:∃f,c.F[i]? =some f:=⟨_,List.getElem?_eq_getElem h30⟩
   obtain⟨_,n,hn,hn1,hn2⟩:=wG hh hf
   refine aa [477,444,143,446] ?_
   refine bK rfl (bX false rfl (.cons (.pure pu) (.cons (.pure pu) (.cons (.pure pu) (.nil)))) (BE c hx i j n f hf hn ar hn1 hn2 hid) pu (.inl rfl) rfl ?_)
   refine aa [452,3] ?_
   rcases OY c j bl i with hcs|hcs|hcs
   ·skip
    refine aa [451,247,0,248,249] ?_
    refine bK rfl (iw false rfl rfl (.cons (.pure pu) (.cons (.pure pu) (.cons (.pure pu) (.cons (.pure pu) .nil)))) (bO.cast (pE bl (2*i) (fh c j i 0) hs ar) (congrArg A.b hcs)) pu (.inl rfl) rfl ?_)
    refine aa [14,0,505,547,528,485,553] ?_
    refine Cb rfl ?_
    refine aa [127,556,64,481,250,460] ?_
    refine b7 rfl (fun hc60=>?_) (fun hc60=>?_)
    ·skip
     refine aa [451,455,464,21] ?_
     rw [qK hh hnb hs];exact congrArg (fun b=>A.tu [.b b,.i .i64 0]) (Bo (rZ h30 hp (Gv hcs)) hc60)
    ·skip
     refine aa [461,453,464,21] ?_
     rw [qK hh hnb hs];exact congrArg (fun b=>A.tu [.b b,.i .i64 0]) (Bn (rZ h30 hp (Gv hcs)) hc60)
   ·skip
    refine aa [451,247,0,248,249] ?_
    refine bK rfl (iw false rfl rfl (.cons (.pure pu) (.cons (.pure pu) (.cons (.pure pu) (.cons (.pure pu) .nil)))) (bO.cast (pE bl (2*i) (fh c j i 0) hs ar) (congrArg A.b hcs.1)) pu (.inl rfl) rfl ?_)
    refine aa [499,7,380,381,7,382,383] ?_
    refine fg rfl rfl rfl (iw false rfl rfl (.cons (.pure pu) (.cons (.pure pu) (.cons (.pure pu) (.cons (.pure pu) .nil)))) (bO.cast (pE bl (2*i+1) (fh c j i 1) hs ar) (congrArg A.b hcs.2)) pu (.inl rfl) rfl ?_)
    refine aa [34,485,553] ?_
    refine Cb rfl ?_
    refine aa [127,556,64,481,250,460] ?_
    refine b7 rfl (fun hc60=>?_) (fun hc60=>?_)
    ·skip
     refine aa [451,455,464,21] ?_
     rw [qK hh hnb hs];exact congrArg (fun b=>A.tu [.b b,.i .i64 0]) (Bo (rZ h30 hp (Gw hcs.2)) hc60)
    ·skip
     refine aa [461,453,464,21] ?_
     rw [qK hh hnb hs];exact congrArg (fun b=>A.tu [.b b,.i .i64 0]) (Bn (rZ h30 hp (Gw hcs.2)) hc60)
   ·obtain ⟨hm0, hm1, hm⟩ := hcs
    refine aa [451,247,0,248,249] ?_
    refine bK rfl (iw false rfl rfl (.cons (.pure pu) (.cons (.pure pu) (.cons (.pure pu) (.cons (.pure pu) .nil)))) (bO.cast (pE bl (2*i) (fh c j i 0) hs ar) (congrArg A.b hm0)) pu (.inl rfl) rfl ?_)
    refine aa [499,7,380,381,7,382,383] ?_
    refine fg rfl rfl rfl (iw false rfl rfl (.cons (.pure pu) (.cons (.pure pu) (.cons (.pure pu) (.cons (.pure pu) .nil)))) (bO.cast (pE bl (2*i+1) (fh c j i 1) hs ar) (congrArg A.b hm1)) pu (.inl rfl) rfl ?_)
    refine aa [17,468,461,450] ?_
    refine s1 ((bF rfl).v (v':= .b ((i+1) % 2==1)) (congrArg A.b (Pp i))) rfl ?_
    refine aa [488] ?_
    exact cz (i+1) (⟨by omega,vj hp hm⟩) ar [(3,some 3)] hI rfl rfl ⟨⟨_,rfl,.pure pu⟩,⟨_,rfl,.p rfl⟩,⟨_,rfl,.pure pu⟩,⟨_,rfl,.pure pu⟩,⟨_,rfl,.pure pu⟩,⟨_,rfl,.pure pu⟩,trivial⟩ ⟨.inr ⟨_,_,rfl,rfl,.pure bL⟩,trivial⟩
  ·have h30 : i = c.F.length := by have := of_decide_eq_false hc30; omega
   subst h30
   have hps:fe (jS c j bl) c.F.length=c.F.length:=xC hp
   refine aa [463,453,250,460] ?_
   refine b7 rfl (fun hc60=>?_) (fun hc60=>?_)
   ·skip
    refine aa [451,455,464,21] ?_
    rw [qK hh hnb hs];exact congrArg (fun b=>A.tu [.b b,.i .i64 0]) (Bo hps hc60)
   ·skip
    refine aa [461,453,464,21] ?_
    rw [qK hh hnb hs];exact congrArg (fun b=>A.tu [.b b,.i .i64 0]) (Bn hps hc60)
theorem sA (c:cq) (hx:c.x.length=32) (ids:List Int):bO Tryz.prog 69 [.ag (dN c),.fz ids.length (ids.map (A.i .i64))] (cn (.b (eW c ids))):=by
 refine enter Tryz.func69 rfl Tryz.ntmps69 aw (Nat.le_of_ble_eq_true rfl) fun w0 X0 hI=>?_
 refine aa [501,452] ?_
 rcases Jt c ids with hcs|hcs|hcs
 ·skip
  refine aa [478,245,0,528,490,506] ?_
  exact congrArg A.b (JQ hcs).symm
 ·obtain ⟨hh, hi⟩ := hcs
  refine aa [478,121,494,98,122,490,506] ?_
  exact congrArg A.b (JR hi).symm
 ·obtain ⟨hh, hi⟩ := hcs
  refine aa [478,121,494,98,99,507] ?_
  refine fg rfl rfl rfl (bX false rfl (.cons (.pure pu) (.cons (.pure pu) .nil)) (Rz ids aC) pu (.inl rfl) rfl ?_)
  refine aa [7,506] ?_
  exact congrArg A.b (JP hh hi)
theorem sx (c:cq) (hx:c.x.length=32) (ids:List Int) (coins:List (List UInt8)):bO Tryz.prog 35 [.ag (dN c),.fz ids.length (ids.map (A.i .i64)),.fz coins.length (coins.map V6.cA)] (cn (jb c ids coins)):=by
 refine enter Tryz.func35 rfl Tryz.ntmps35 aw (Nat.le_of_ble_eq_true rfl) fun w0 X0 hI=>?_
 refine aa [522] ?_
 refine bK rfl (cB 6 rfl cZ rfl rfl ?_)
 refine bK rfl (cB 7 rfl cZ rfl rfl ?_)
 refine aa [498] ?_
 rcases nL (eW c ids)with hcs|hcs
 ·skip
  refine aa [478,0,384,513,3,243] ?_
  refine bQ 0 [] [(6,none)] (cg cZ rfl rfl rfl) rfl rfl <| bQ 1 [] [(7,none)] (cg cZ rfl rfl rfl) rfl rfl <| Az 0 2 [0] [(6,none)] rfl cK cZ rfl rfl rfl aq aq rfl ?_
  refine aa [4,118,544,251] ?_
  show A.tu _=_;rw [HG hcs];rfl
 ·obtain ⟨hh, hi4, hall⟩ := lJ hcs
  refine aa [478,0,384,497,461,539,493] ?_
  refine cO (ι:=Nat) (fun k=> [(2,.fz coins.length (coins.map V6.cA)),(3,.p 3 0),(6,.p 6 0),(7,.p 7 0),(9,.sl 128 1 0 (cE c (ids.take k)).length),(18,.fz ids.length (ids.map (A.i .i64))),(19,nJ ids.length),(20,nJ k)]) (fun k=>⟨[(3,some (dN c)),(6,some ([.nl])),(7,some ([.nl])),(128,some ((cE c (ids.take k)).map iA))]⟩) (fun k=>k≤ids.length) (fun k=>ids.length - k) ?_ ?_
  ·exact cN (0) (Nat.zero_le _) [(3,some 3),(6,some 6),(7,some 7),(128,none)] hI rfl rfl ⟨⟨_,rfl,.pure pu⟩,⟨_,rfl,.p rfl⟩,⟨_,rfl,.p rfl⟩,⟨_,rfl,.p rfl⟩,⟨_,rfl,.nl rfl⟩,⟨_,rfl,.pure pu⟩,⟨_,rfl,.pure pu⟩,⟨_,rfl,.pure pu⟩,trivial⟩ ⟨.inr ⟨_,_,rfl,rfl,.pure bL⟩,.inr ⟨_,_,rfl,rfl,.pure bL⟩,.inr ⟨_,_,rfl,rfl,.pure bL⟩,.inl ⟨rfl,rfl⟩,trivial⟩
  rintro k hk
  have hla:=pb c (ids.take k)
  rw [List.length_take]at hla
  refine aa [448] ?_
  refine b7 rfl (fun hc21=>?_) (fun hc21=>?_)
  ·have h21 : k < ids.length := by have := of_decide_eq_true hc21; omega
   obtain⟨q,hq⟩:∃q,ids[k]? =some q:=⟨_,List.getElem?_eq_getElem h21⟩
   refine aa [462,516,447] ?_
   obtain⟨j,rfl,hj⟩:=qD (hall q (List.mem_of_getElem? hq))
   refine aa [450,143,0,379] ?_
   refine bK rfl (GA 28 rfl ⟨[(128,some ((cE c (ids.take k)).map iA))]⟩ true rfl ⟨⟨rfl,cv.pure bL⟩,trivial⟩ (.cons (.ksl rfl) (.cons (.pure pu) .nil)) (bO.JV (Rw c hx j hj hh (cE c (ids.take k)) ar) hq) bL (.inr fT) rfl ?_)
   refine aa [488] ?_
   exact cz (k+1) ar ar [(3,some 3),(6,some 6),(7,some 7),(128,some 28)] hI rfl rfl ⟨⟨_,rfl,.pure pu⟩,⟨_,rfl,.p rfl⟩,⟨_,rfl,.p rfl⟩,⟨_,rfl,.p rfl⟩,⟨_,rfl,.sl rfl aq⟩,⟨_,rfl,.pure pu⟩,⟨_,rfl,.pure pu⟩,⟨_,rfl,.pure pu⟩,trivial⟩ ⟨.inr ⟨_,_,rfl,rfl,.pure bL⟩,.inr ⟨_,_,rfl,rfl,.pure bL⟩,.inr ⟨_,_,rfl,rfl,.pure bL⟩,.inr ⟨_,_,rfl,rfl,.pure bL⟩,trivial⟩
  ·have h21 : k = ids.length := by have := of_decide_eq_false hc21; omega
   subst h21
   refine aa [463] ?_
   rcases C1 520 (cE c ids) 132 coins with hcs|hcs
   ·have hok := ‹eW c ids = true›
    obtain⟨e,he,hA⟩:=hcs
    refine eR 9 rfl rfl bL (c5 aB rfl) ?_
    refine aa [385,451,386,471,526,449,251] ?_
    show A.tu _=_;rw [sy hok,hA];rfl
   ·have hok := ‹eW c ids = true›
    obtain⟨a,b,hA,_⟩:=hcs
    refine eR 9 rfl rfl bL (c5 aB rfl) ?_
    refine aa [385,451,386,471,526,449,251] ?_
    show A.tu _=_;rw [sy hok,hA];rfl
-- S7D
theorem Ss (M:List UInt8) (hM:M.length=8320) (j:Nat) (hj:j<1024):dG Tryz.prog 68 [.p 5 (0+(512+j / 128)*16),nJ j] ⟨[(5,some (M.map u8))]⟩ (gL (.tu []) [(5,(kR M (65536+j)).map u8)]):=by
 refine mB Tryz.func68 rfl Tryz.ntmps68 aw (Nat.le_of_ble_eq_true rfl) fun w0 X0 hI=>?_
 refine gq 13 c8 aw ?_
 refine aa [473] ?_
 refine t1 (iQ _ 128 rfl rfl rfl rfl ar) rfl ?_
 refine aa [303,67,387] ?_
 refine t1 (bM cc rfl rfl (Nd (i:=8192+j / 8) ar ar)) rfl <| t1 (bF rfl) rfl <| t1 (iQ _ 8 rfl rfl rfl rfl ar) rfl <| t1 (qO (j % 8) rfl rfl rfl ar) rfl <| t1 (uk _ _ rfl rfl) rfl ?_
 refine aa [67,387,10] ?_
 refine bK rfl (cV cc rfl rfl rfl rfl aE (RJ ar) ?_)
 refine aa [8,79] ?_
 exact nv rfl
theorem Lj (D:List UInt8) (h:D.length=16):bO Tryz.prog 26 [.fz 16 (D.map u8)] (eY 1 16 (D.map u8)):=by
  have:bO Tryz.prog 26 [.fz D.length (D.map u8)] (eY 1 D.length (D.map u8)):=wh D ar ar
  rw [h]at this
  exact this
theorem Rx (c:cq) (hx:c.x.length=32) (hn:c.E.length≤maxLen):bO Tryz.prog 34 [.ag (dN c)] (cn (tr c)):=by
 refine enter Tryz.func34 rfl Tryz.ntmps34 aw (Nat.le_of_ble_eq_true rfl) fun w0 X0 hI=>?_
 refine aa [496,0,498] ?_
 rcases nL (eB c)with hcs|hcs
 ·skip
  refine aa [478,144,458,513,453,531,56] ?_
  rw [Ky hcs];rfl
 ·obtain ⟨hF16, hLE, _⟩ := od hcs
  have hen:=hn
  simp only [maxLen]at hen
  refine aa [478,144,458,497,469] ?_
  refine bK rfl (cB 5 rfl SY (Jx rfl) rfl ?_)
  refine bI <| bG <| bH <| bH <| ep 5 (cs':=nS.map u8) rfl Uc ?_
  refine aa [1,33,541,459] ?_
  refine cO (ι:=Nat) (fun i=> [(1,.p 1 0),(2,.nl),(5,.p 5 0),(19,oV c.F),(20,nJ c.F.length),(21,nJ i)]) (fun i=>⟨[(1,some (dN c)),(5,some ((ir c.F i).map u8))]⟩) (fun i=>i≤c.F.length) (fun i=>c.F.length - i) ?_ ?_
  ·exact cN (0) (Nat.zero_le _) [(1,some 1),(5,some 5)] hI rfl rfl ⟨⟨_,rfl,.p rfl⟩,⟨_,rfl,.pure pu⟩,⟨_,rfl,.p rfl⟩,⟨_,rfl,.pure pu⟩,⟨_,rfl,.pure pu⟩,⟨_,rfl,.pure pu⟩,trivial⟩ ⟨.inr ⟨_,_,rfl,rfl,.pure bL⟩,.inr ⟨_,_,rfl,rfl,.pure bL⟩,trivial⟩
  rintro i hi
  refine aa [448] ?_
  refine b7 rfl (fun hc22=>?_) (fun hc22=>?_)
  ·have h22 : i < c.F.length := by have := of_decide_eq_true hc22; omega
   obtain⟨f,hf⟩:∃f,c.F[i]? =some f:=⟨_,List.getElem?_eq_getElem h22⟩
   obtain⟨_,n,hn0,hn1,hn2,hD,_⟩:=tA hcs hf
   refine aa [514,110,140] ?_
   refine bK rfl (cB 7 rfl dO rfl rfl ?_)
   refine aa [0,27,454,139,212,24,459] ?_
   refine cO (ι:=Nat) (fun k=> [(1,.p 1 0),(2,.nl),(5,.p 5 0),(6,nJ i),(19,oV c.F),(20,nJ c.F.length),(21,nJ i),(27,fw f.D),(28,nJ f.D.length),(29,nJ k)]) (fun k=>⟨[(1,some (dN c)),(5,some ((iN (ir c.F i) (512*i) f.D k).map u8))]⟩) (fun k=>k≤f.D.length) (fun k=>f.D.length - k) ?_ ?_
   ·exact cN (0) (Nat.zero_le _) [(1,some 1),(5,some 5)] hI rfl rfl ⟨⟨_,rfl,.p rfl⟩,⟨_,rfl,.pure pu⟩,⟨_,rfl,.p rfl⟩,⟨_,rfl,.pure pu⟩,⟨_,rfl,.pure pu⟩,⟨_,rfl,.pure pu⟩,⟨_,rfl,.pure pu⟩,⟨_,rfl,.pure pu⟩,⟨_,rfl,.pure pu⟩,⟨_,rfl,.pure pu⟩,trivial⟩ ⟨.inr ⟨_,_,rfl,rfl,.pure bL⟩,.inr ⟨_,_,rfl,rfl,.pure bL⟩,trivial⟩
   rintro k hk
   refine aa [448] ?_
   refine b7 rfl (fun hc30=>?_) (fun hc30=>?_)
   ·have h30 : k < f.D.length := by have := of_decide_eq_true hc30; omega
    refine aa [514] ?_
    refine s1 (cD k Tryz.underlying47 cc rfl rfl rfl ar rfl) rfl <| s1 (bM cc rfl rfl (wA h30)) rfl ?_
    refine aa [0,530,119,0] ?_
    refine s1 (gz _ 16 rfl rfl rfl rfl ar ar) rfl ?_
    refine aa [120,0] ?_
    refine s1 (iQ _ 16 rfl rfl rfl rfl ar) rfl <| s1 (bF rfl) rfl <| s1 (cX (32*i+k / 16) Tryz.underlying142 sH rfl rfl rfl ar rfl) rfl <| s1 (cX (k % 16) Tryz.underlying141 cc rfl rfl rfl ar rfl) rfl <| bK rfl (cV cc rfl rfl rfl rfl (by rw [List.length_map,wS,rM];omega) (Qm ar) ?_)
    refine aa [472] ?_
    exact cz (k+1) ar ar [(1,some 1),(5,some 5)] hI rfl rfl ⟨⟨_,rfl,.p rfl⟩,⟨_,rfl,.pure pu⟩,⟨_,rfl,.p rfl⟩,⟨_,rfl,.pure pu⟩,⟨_,rfl,.pure pu⟩,⟨_,rfl,.pure pu⟩,⟨_,rfl,.pure pu⟩,⟨_,rfl,.pure pu⟩,⟨_,rfl,.pure pu⟩,⟨_,rfl,.pure pu⟩,trivial⟩ ⟨.inr ⟨_,_,rfl,rfl,.pure bL⟩,.inr ⟨_,_,rfl,rfl,.pure bL⟩,trivial⟩
   ·have h30 : k = f.D.length := by have := of_decide_eq_false hc30; omega
    subst h30
    refine aa [536] ?_
    exact cz (i+1) ar ar [(1,some 1),(5,some 5)] hI rfl rfl ⟨⟨_,rfl,.p rfl⟩,⟨_,rfl,.pure pu⟩,⟨_,rfl,.p rfl⟩,⟨_,rfl,.pure pu⟩,⟨_,rfl,.pure pu⟩,⟨_,rfl,.pure pu⟩,trivial⟩ ⟨.inr ⟨_,_,rfl,rfl,.pure bL⟩,.inr ⟨_,_,rfl,rfl,.of (by rw [MJ hf]) (.pure bL)⟩,trivial⟩
  ·have h22 : i = c.F.length := by have := of_decide_eq_false hc22; omega
   subst h22
   refine aa [463,444,91] ?_
   refine s1 (bM fD rfl rfl (zA hx)) rfl ?_
   refine aa [493] ?_
   refine cO (ι:=Nat) (fun k=> [(2,.nl),(5,.p 5 0),(47,iI c.E),(48,nJ c.E.length),(49,nJ k)]) (fun k=>⟨[(5,some ((jQ (ir c.F c.F.length) c.E k).map u8))]⟩) (fun k=>k≤c.E.length) (fun k=>c.E.length - k) ?_ ?_
   ·exact cN (0) (Nat.zero_le _) [(5,some 5)] hI rfl rfl ⟨⟨_,rfl,.pure pu⟩,⟨_,rfl,.p rfl⟩,⟨_,rfl,.pure pu⟩,⟨_,rfl,.pure pu⟩,⟨_,rfl,.pure pu⟩,trivial⟩ ⟨.inr ⟨_,_,rfl,rfl,.pure bL⟩,trivial⟩
   rintro k hk
   refine aa [448] ?_
   refine b7 rfl (fun hc50=>?_) (fun hc50=>?_)
   ·have h50 : k < c.E.length := by have := of_decide_eq_true hc50; omega
    obtain⟨q,hq⟩:∃q,c.E[k]? =some q:=⟨_,List.getElem?_eq_getElem h50⟩
    have hqm:=oy hLE q (List.mem_of_getElem? hq)
    obtain⟨j,rfl⟩:∃j:Nat,q=(j:Int):=⟨q.toNat,by omega⟩
    refine aa [462,516,530,81,244] ?_
    refine s1 (cX (512+j / 128) Tryz.underlying142 sH rfl rfl rfl ar rfl) rfl <| s1 (bF rfl) rfl <| bK rfl (oz ⟨[(5,some ((jQ (ir c.F c.F.length) c.E k).map u8))]⟩ [(5,(kR (jQ (ir c.F c.F.length) c.E k) (65536+j)).map u8)] true rfl ⟨⟨rfl,cv.pure bL⟩,trivial⟩ (.cons (.kp rfl) (.cons (.pure pu) .nil)) (Ss (jQ (ir c.F c.F.length) c.E k) aB j ar) trivial (.inr trivial) (nQ (c0:=(jQ (ir c.F c.F.length) c.E k).map u8) rfl bL fT) rfl ?_)
    refine aa [472] ?_
    exact cz (k+1) ar ar [(5,some 5)] hI rfl rfl ⟨⟨_,rfl,.pure pu⟩,⟨_,rfl,.p rfl⟩,⟨_,rfl,.pure pu⟩,⟨_,rfl,.pure pu⟩,⟨_,rfl,.pure pu⟩,trivial⟩ ⟨.inr ⟨_,_,rfl,rfl,.of (by rw [MD hq]) (.pure bL)⟩,trivial⟩
   ·have h50 : k = c.E.length := by have := of_decide_eq_false hc50; omega
    subst h50
    refine aa [463,3] ?_
    refine ep 5 (cs':=(eM c).map u8) rfl (by rw [wH]) ?_
    have hM:=F3 c
    have hret:=Dk hcs
    generalize eM c=M at hM hret
    refine aa [1,459] ?_
    refine cO (ι:=Nat) (fun i=> [(2,.sl 169 1 0 i),(5,.p 5 0),(60,nJ i)]) (fun i=>⟨[(169,some ((eC M i).map V6.cA)),(5,some (M.map u8))]⟩) (fun i=>i≤520) (fun i=>520 - i) ?_ ?_
    ·exact cN (0) (Nat.zero_le _) [(5,some 5),(169,none)] hI rfl rfl ⟨⟨_,rfl,.nl rfl⟩,⟨_,rfl,.p rfl⟩,⟨_,rfl,.pure pu⟩,trivial⟩ ⟨.inl ⟨rfl,rfl⟩,.inr ⟨_,_,rfl,rfl,.pure bL⟩,trivial⟩
    rintro i hi
    refine aa [448] ?_
    refine b7 rfl (fun hc61=>?_) (fun hc61=>?_)
    ·have h61 : i < 520 := by have := of_decide_eq_true hc61; omega
     have hb16:=FY hM h61
     refine aa [477,451] ?_
     refine s1 (cX i Tryz.underlying142 sH rfl rfl rfl ar rfl) rfl <| s1 (sP (o':=0+i*16) 16 Tryz.underlying141 cc rfl rfl (by rw [List.length_map,hM];omega) aJ bn bn ar ar ar aB) rfl <| bK rfl (kN 67 rfl true rfl (.cons (.sl rfl rfl rfl (Kw ar) (cv.pure bL) bL) .nil) (Lj (lM M i) hb16) bL (.inr fT) rfl ?_)
     refine eR 67 rfl rfl bL (c5 (by rw [List.length_map,hb16]) rfl) <| gr 67 rfl (v':=V6.cA (lM M i)) (by rw [V6.cA,hb16]) <| bK rfl (dz 68 rfl Tryz.underlying26 cL rfl rfl rfl rfl rfl ?_)
     refine bK rfl (dB 69 rfl Tryz.underlying26 cL rfl (.sl rfl aB) rfl (dE rfl aq) aB aC ar rfl (LL M i) rfl ?_)
     refine aa [488] ?_
     exact cz (i+1) ar ar [(5,some 5),(169,some 69)] hI rfl rfl ⟨⟨_,rfl,.sl rfl aq⟩,⟨_,rfl,.p rfl⟩,⟨_,rfl,.pure pu⟩,trivial⟩ ⟨.inr ⟨_,_,rfl,rfl,.pure bL⟩,.inr ⟨_,_,rfl,rfl,.pure bL⟩,trivial⟩
    ·have h61 : i = 520 := by have := of_decide_eq_false hc61; omega
     subst h61
     refine aa [463,57] ?_
     refine gr 2 rfl (v':=dr (eC M 520)) (Q8 M) ?_
     refine aa [451,464,56] ?_
     rw [hret];rfl
-- S7E
theorem Sr (c:cq) (hx:c.x.length=32) (ids:List Int) (a b:List (List UInt8)):bO Tryz.prog 37 [.ag (dN c),.fz ids.length (ids.map (A.i .i64)),.ag [dr a],.ag [dr b]] (cn (pz c ids a b)):=by
 refine enter Tryz.func37 rfl Tryz.ntmps37 aw (Nat.le_of_ble_eq_true rfl) fun w0 X0 hI=>?_
 refine aa [444,43,232,115,0,498] ?_
 rcases Ra c ids a b with hcs|hcs|hcs|hcs
 ·obtain ⟨hk, hr⟩ := hcs
  refine aa [478,0,171,14,0,505,446,505,485,445,544,80] ?_
  rw [uv hr];rfl
 ·obtain ⟨hk, ha, hr⟩ := hcs
  refine aa [478,0,171,53,0,123,28,252,34,446,505,485,445,544,80] ?_
  rw [uv hr];rfl
 ·obtain ⟨hk, ha, hb, hr⟩ := hcs
  refine aa [478,0,171,53,0,123,28,252,17,446,123,28,388,34,485,445,544,80] ?_
  rw [uv hr];rfl
 ·obtain ⟨hk, ha, hb, hr⟩ := hcs
  obtain⟨hh,hi4,hall⟩:=lJ hk
  have hal:=xU ha
  have hbl:=xU hb
  refine aa [478,0,171,53,0,123,28,252,17,446,123,28,388,17,468,465,445,493] ?_
  refine cO (ι:=Nat) (fun n=> [(4,.p 4 0),(6,.p 6 0),(7,.p 7 0),(8,.sl 184 1 0 n),(34,.fz ids.length (ids.map (A.i .i64))),(35,nJ ids.length),(36,nJ n)]) (fun n=>⟨[(4,some (dN c)),(6,some ([dr a])),(7,some ([dr b])),(184,some ((jG c ids a b n).map A.b))]⟩) (fun n=>n≤ids.length) (fun n=>ids.length - n) ?_ ?_
  ·exact cN (0) (Nat.zero_le _) [(4,some 4),(6,some 6),(7,some 7),(184,none)] hI rfl rfl ⟨⟨_,rfl,.p rfl⟩,⟨_,rfl,.p rfl⟩,⟨_,rfl,.p rfl⟩,⟨_,rfl,.nl rfl⟩,⟨_,rfl,.pure pu⟩,⟨_,rfl,.pure pu⟩,⟨_,rfl,.pure pu⟩,trivial⟩ ⟨.inr ⟨_,_,rfl,rfl,.pure bL⟩,.inr ⟨_,_,rfl,rfl,.pure bL⟩,.inr ⟨_,_,rfl,rfl,.pure bL⟩,.inl ⟨rfl,rfl⟩,trivial⟩
  rintro n hn
  refine aa [448] ?_
  refine b7 rfl (fun hc37=>?_) (fun hc37=>?_)
  ·have h37 : n < ids.length := by have := of_decide_eq_true hc37; omega
   obtain⟨q,hq⟩:∃q,ids[n]? =some q:=⟨_,List.getElem?_eq_getElem h37⟩
   have hnb:=hall q (List.mem_of_getElem? hq)
   obtain⟨j,rfl,hj⟩:=qD hnb
   refine aa [514] ?_
   refine s1 (cD n Tryz.underlying24 bP rfl rfl rfl ar rfl) rfl ?_
   refine aa [52,0,447,539] ?_
   refine s1 (gp 33 _ rfl rfl rfl rfl ar) rfl ?_
   refine aa [510] ?_
   refine cO (ι:=Nat) (fun k=> [(4,.p 4 0),(6,.p 6 0),(7,.p 7 0),(8,.sl 184 1 0 n),(34,.fz ids.length (ids.map (A.i .i64))),(35,nJ ids.length),(36,nJ n),(10,nJ n),(11,nJ j),(12,.sl 170 1 0 k),(13,nJ (33*n+k))]) (fun k=>⟨[(4,some (dN c)),(6,some ([dr a])),(7,some ([dr b])),(184,some ((jG c ids a b n).map A.b)),(170,some ((j0 a b n k).map V6.cA))]⟩) (fun k=>k≤33) (fun k=>33 - k) ?_ ?_
   ·exact cN (0) (Nat.zero_le _) [(4,some 4),(6,some 6),(7,some 7),(170,none),(184,some 184)] hI rfl rfl ⟨⟨_,rfl,.p rfl⟩,⟨_,rfl,.p rfl⟩,⟨_,rfl,.p rfl⟩,⟨_,rfl,.sl rfl aq⟩,⟨_,rfl,.pure pu⟩,⟨_,rfl,.pure pu⟩,⟨_,rfl,.pure pu⟩,⟨_,rfl,.pure pu⟩,⟨_,rfl,.pure pu⟩,⟨_,rfl,.nl rfl⟩,⟨_,rfl,.pure pu⟩,trivial⟩ ⟨.inr ⟨_,_,rfl,rfl,.pure bL⟩,.inr ⟨_,_,rfl,rfl,.pure bL⟩,.inr ⟨_,_,rfl,rfl,.pure bL⟩,.inr ⟨_,_,rfl,rfl,.pure bL⟩,.inl ⟨rfl,rfl⟩,trivial⟩
   rintro k hk
   refine aa [481,100] ?_
   refine s1 (gp 33 _ rfl rfl rfl rfl ar) rfl ?_
   refine aa [447] ?_
   refine b7 rfl (fun hc47=>?_) (fun hc47=>?_)
   ·have h47 : k < 33 := by have := of_decide_eq_true hc47; omega
    obtain⟨p,hp,hpd,hp16⟩:=uD ha (i:=33*n+k) ar
    obtain⟨r,hr1,hrd,hr16⟩:=uD hb (i:=33*n+k) ar
    refine bY <| bG <| bH <| bZ <| bH <| eG ⟨_, [], []⟩ 15 4 c8 (le_refl rfl) <| bQ 0 [] [(6,none)] (ct Tryz.underlying91 rfl dC az rfl rfl) rfl rfl <| bQ 1 [0] [(6,none)] (bM dC rfl rfl rfl) rfl rfl ?_
    refine aa [69] ?_
    refine bQ 3 [1,2] [] (cD (33*n+k) Tryz.underlying26 cL rfl rfl rfl ar rfl) rfl rfl <| bQ 4 [3] [] (bM cL rfl rfl (V6.gY hp)) rfl rfl <| bQ 5 [] [(7,none)] (ct Tryz.underlying91 rfl dC az rfl rfl) rfl rfl <| bQ 6 [5] [(7,none)] (bM dC rfl rfl rfl) rfl rfl ?_
    refine aa [200] ?_
    refine bQ 8 [6,7] [] (cD (33*n+k) Tryz.underlying26 cL rfl rfl rfl ar rfl) rfl rfl <| bQ 9 [8] [] (bM cL rfl rfl (V6.gY hr1)) rfl rfl <| ee false 10 [4,9] [] cK rfl (.cons (.pure pu) (.cons (.pure pu) (.nil))) (bO.cast (Ty p r) (FK hp16 hr16)) pu (.inl rfl) rfl rfl <| bQ 11 [10] [] (bF rfl) rfl rfl <| bQ 12 [11] [] (bF rfl) rfl rfl <| bQ 13 [11] [] (bF rfl) rfl rfl <| bQ 14 [12] [] (bF rfl) rfl rfl ?_
    refine aa [4,491,497,461,451] ?_
    refine bK rfl (dz 69 rfl Tryz.underlying26 cL rfl rfl rfl rfl rfl ?_)
    refine bK rfl (dB 70 rfl Tryz.underlying26 cL rfl (.sl rfl aB) rfl (dE rfl aq) aB aC ar rfl (Q5 hpd hrd) rfl ?_)
    refine aa [518] ?_
    exact cz (k+1) ar ar [(4,some 4),(6,some 6),(7,some 7),(170,some 70),(184,some 184)] hI rfl rfl ⟨⟨_,rfl,.p rfl⟩,⟨_,rfl,.p rfl⟩,⟨_,rfl,.p rfl⟩,⟨_,rfl,.sl rfl aq⟩,⟨_,rfl,.pure pu⟩,⟨_,rfl,.pure pu⟩,⟨_,rfl,.pure pu⟩,⟨_,rfl,.pure pu⟩,⟨_,rfl,.pure pu⟩,⟨_,rfl,.sl rfl aq⟩,⟨_,rfl,.pure pu⟩,trivial⟩ ⟨.inr ⟨_,_,rfl,rfl,.pure bL⟩,.inr ⟨_,_,rfl,rfl,.pure bL⟩,.inr ⟨_,_,rfl,rfl,.pure bL⟩,.inr ⟨_,_,rfl,rfl,.pure bL⟩,.inr ⟨_,_,rfl,rfl,.pure bL⟩,trivial⟩
   ·obtain rfl : k = 33 := by have := of_decide_eq_false hc47; omega
    refine aa [463] ?_
    refine eR 12 rfl rfl bL (c5 aB rfl) <| gr 12 rfl (v':=dr (j0 a b n 33)) (Q6 ..) ?_
    refine aa [478,446] ?_
    refine bK rfl (bX false rfl (.cons (.pure pu) (.cons (.pure pu) (.cons (.pure pu) (.nil)))) (bO.cast (Sq c hx j (j0 a b n 33)) (qK hh hnb (R9 ha hb ar))) pu (.inl rfl) rfl ?_)
    refine aa [525,461,451] ?_
    refine bK rfl (dz 83 rfl Tryz.underlying48 kU rfl rfl rfl rfl rfl ?_)
    refine bK rfl (dB 84 rfl Tryz.underlying48 kU rfl (.sl rfl aB) rfl (dE rfl aq) aB aC ar rfl (QH hq) rfl ?_)
    refine aa [488] ?_
    exact cz (n+1) ar ar [(4,some 4),(6,some 6),(7,some 7),(184,some 84)] hI rfl rfl ⟨⟨_,rfl,.p rfl⟩,⟨_,rfl,.p rfl⟩,⟨_,rfl,.p rfl⟩,⟨_,rfl,.sl rfl aq⟩,⟨_,rfl,.pure pu⟩,⟨_,rfl,.pure pu⟩,⟨_,rfl,.pure pu⟩,trivial⟩ ⟨.inr ⟨_,_,rfl,rfl,.pure bL⟩,.inr ⟨_,_,rfl,rfl,.pure bL⟩,.inr ⟨_,_,rfl,rfl,.pure bL⟩,.inr ⟨_,_,rfl,rfl,.pure bL⟩,trivial⟩
  ·have h37 : n = ids.length := by have := of_decide_eq_false hc37; omega
   subst h37
   refine aa [463] ?_
   refine eR 8 rfl rfl bL (c5 aB rfl) <| gr 8 rfl (v':=oa (jG c ids a b ids.length)) (KA ..) ?_
   refine aa [451,464,80] ?_
   rw [xL hr];rfl
-- K6C
theorem HT (x:List UInt8) (k:Nat) (a:Int) (m:List UInt8) (hx:x.length=32) (hm:m.length=32) (hk:ek (k:Int)):bO Tryz.prog 30 [.ag (x.map u8),dq (fB x k),.i .i64 a,.ag (m.map u8)] (cn (uC x k a m)):=by
 refine enter Tryz.func30 rfl Tryz.ntmps30 aw (Nat.le_of_ble_eq_true rfl) fun w0 X0 hI=>?_
 refine aa [444,43,115] ?_
 refine bK rfl (cB 8 rfl j5 rfl rfl ?_)
 refine aa [470] ?_
 rcases(Decidable.em (ji (k:Int) a)).symm with hcs|hcs
 ·skip
  have hk2:k≤256:=by unfold ek at hk;omega
  refine aa [451] ?_
  refine bK rfl (bX false rfl (.cons (.pure pu) (.cons (.pure pu) (.nil))) (bO.cast (G9 (fB x k) a (pR x k) aE) (P6 (by rw [qz];exact hcs))) pu (.inl rfl) rfl ?_)
  refine aa [549,513,444] ?_
  refine s1 (cg j5 rfl rfl aq) rfl ?_
  refine aa [389,93,467] ?_
  refine lL 8 rfl (.cons (.eq rfl) (.cons .nl (.cons .nl .nil))) ?_
  refine aa [390] ?_
  exact(R2 (fun h=>hcs h.2)).symm
 ·have hat := hcs
  obtain⟨i,rfl,hi⟩:∃i:Nat,a=(i:Int)∧i<k:=⟨a.toNat,by unfold ji at hcs;omega,by unfold ji at hcs;omega⟩
  have hk2:k≤256:=by unfold ek at hk;omega
  refine aa [451] ?_
  refine bK rfl (bX false rfl (.cons (.pure pu) (.cons (.pure pu) (.nil))) (bO.cast (G9 (fB x k) (i:Nat) (pR x k) aE) (P7 (by rw [qz];exact hi))) pu (.inl rfl) rfl ?_)
  refine aa [525,465,134,31] ?_
  refine bQ 1 [] [(4,none)] (cg b5 rfl rfl aq) rfl rfl ?_
  refine aa [69] ?_
  refine ee false 3 [1,2] [] cK rfl (.cons (.pure pu) (.cons (.pure pu) (.nil))) (HL x (i:Nat) hx) pu (.inl rfl) rfl rfl <| bQ 4 [] [(7,none)] (cg b5 rfl rfl aq) rfl rfl <| ee false 5 [3,4] [] cK rfl (.cons (.pure pu) (.cons (.pure pu) (.nil))) (R6 (iR x (i:Nat)) m aB hm) pu (.inl rfl) rfl rfl ?_
  refine aa [138] ?_
  refine bQ 7 [0,5,6] [] (jK (out:= [_,_,_]) [[cQ (.int .i64 0)], [cQ (.slice none 0 0)], [cQ (.slice none 0 0)]] j5 rfl Tryz.underlying40 aw rfl rfl ⟨⟨by(first|rfl|omega|(simp;done)|(simp [*];done)|(simp [cU, *];done)),rfl⟩,⟨⟨by(first|rfl|omega|(simp;done)|(simp [*];done)|(simp [cU, *];done)),rfl⟩,⟨⟨by(first|rfl|omega|(simp;done)|(simp [*];done)|(simp [cU, *];done)),rfl⟩,trivial⟩⟩⟩ rfl) rfl rfl ?_
  refine aa [4,389,464,390] ?_
  exact(BI hk hi).symm
-- E5G
theorem oh (c0 c1:A) (e:Int):sS Tryz.prog 15 [.p 14 0,.p 15 0] ⟨[(14,some [c0]),(15,some [c1])]⟩ (fun u=>u=ku 107 e) [(14, [.nl]),(15, [.i .i64 e])]:=by
 refine zH (.ic 107 (.ag [.i .i64 e])) (fun u hu X w β=>by rw [hu];exact yM _ _) Tryz.func15 rfl Tryz.ntmps15 (Nat.le_of_ble_eq_true rfl) rfl rfl fun w0 X0 hI=>?_
 refine aa [445,227,521,450,228,253,18,8] ?_
 refine jO (rs:= []) rfl bR (sq rfl rfl)
theorem EG:sU Tryz.prog 15 2:=zI Tryz.func15 rfl (fun w=>BC Tryz.underlying20 w) rfl ⟨Nat.le_of_ble_eq_true rfl,Nat.le_of_ble_eq_true rfl,Nat.le_of_ble_eq_true rfl,Nat.le_of_ble_eq_true rfl,Nat.le_of_ble_eq_true rfl⟩
theorem mC:mX Tryz.prog 15:=⟨_,Tryz.func15,rfl,by kernel_rfl⟩
theorem Ai (x : List UInt8) (n : Int) (l : List Ep) (iss day : Int) (ids : List Int) (c : List Ch) (hx : x.length = 32) (hl : ga l) (hn : l.length ≤ 1000) (hi : rg iss) (hd : rg day) (hids : ids.length ≤ 100) (hc : c.length ≤ 1000) (hcr : ∀ e ∈ c, rg e.id ∧ rg e.st) : bO Tryz.prog 6 [.ag (x.map u8), .i .i64 n, fa l, .i .i64 iss, .i .i64 day, .fz ids.length (ids.map (A.i .i64)), gD c] (cn (QG l (gy x n l iss day ids c))) := by
 refine qm Tryz.func6 rfl Tryz.ntmps6 aw (Nat.le_of_ble_eq_true rfl) fun w0 X0 hI hS=>?_
 refine aa [444,115] ?_
 refine bK rfl (cB 14 rfl iy rfl rfl ?_)
 refine bK rfl (cB 15 rfl dK rfl rfl ?_)
 refine bI <| bG <| bH <| bJ <| s1 (iz (us:= []) (vs:= [.p 14 0,.p 15 0]) rfl rfl) rfl ?_
 refine zf [14,15] hI rfl rfl trivial rfl fun w1 us hdf=>?_
 refine bI <| bG <| bH ?_
 rcases(Decidable.em (ek n)).symm with hcs|hcs
 ·skip
  refine aa [1,61,0,331,466,18,454,15,53,15] ?_
  refine gS ⟨[]⟩ false rfl trivial (.cons (.pure pu) (.cons (.pure pu) .nil)) (kH 60) (fun u hu=>?_)
  refine dt <| mv ⟨[(14,some [.nl]),(15,some [.i .i64 60])]⟩ hdf hS mC ⟨⟨rfl,cv.pure bL⟩,⟨rfl,cv.pure bL⟩,trivial⟩ (.cons (.kp rfl) (.cons (.kp rfl) .nil)) (oh _ _ 60) (hu) (nP rfl rfl bL bL) rfl (fC iy rfl rfl rfl (fC dK rfl rfl rfl bR)) ?_
  rw [Hf hcs];rfl
 ·have hsz := hcs
  obtain⟨k,rfl,hk1,hk2⟩:=xV hcs
  refine aa [1,61,0,332,466,18,454,15,14,15,59,456] ?_
  rcases DR (fY x (k:Int)) k l with hcs|hcs
  ·have h0 := hcs
   refine aa [450,391,446] ?_
   refine gS ⟨[]⟩ false rfl trivial (.cons (.pure pu) (.cons (.pure pu) (.cons (.pure pu) .nil))) (El aB hl aC h0) (fun u hu=>?_)
   refine dt <| mv ⟨[(14,some [.nl]),(15,some [.i .i64 0])]⟩ hdf hS mC ⟨⟨rfl,cv.pure bL⟩,⟨rfl,cv.pure bL⟩,trivial⟩ (.cons (.kp rfl) (.cons (.kp rfl) .nil)) (oh _ _ (eS (fY x (k:Int)) k l)) (hu.2) (nP rfl rfl bL bL) rfl (fC iy rfl rfl rfl (fC dK rfl rfl rfl bR)) ?_
   rw [Bj hsz h0];rfl
  ·obtain ⟨σ, hf, h0⟩ := hcs
   have hsup:=xZ hf
   have hlk:=DI hf h0
   refine aa [450,391,446] ?_
   refine bK rfl (xd (F:=mapOf σ) rfl (.cons (.pure pu) (.cons (.pure pu) (.cons (.pure pu) (.nil)))) (Ej aB hl aC hf h0) rfl rfl fun b39=>?_)
   refine aa [458,38,446] ?_
   refine kX 43 rfl (fun hc43=>?_) (fun hc43=>?_)
   ·have h43 : ¬ (l.length : Int) = (k : Int) := by simpa using hc43
    refine bK rfl (bX false rfl (.cons (.pure pu) (.cons (.pure pu) .nil)) (jm 2) pu (.inl rfl) rfl ?_)
    refine aa [460,489] ?_
    refine gF 2 rfl rfl rfl rfl (fun hb47=> .step (bF rfl) rfl rfl<| .step (bF rfl) rfl rfl<| .done) rfl rfl <| s1 (bF rfl) rfl <| gF 2 rfl rfl rfl rfl (fun hb51=> .step (bF rfl) rfl rfl<| .step (bF rfl) rfl rfl<| .done) rfl rfl <| s1 (bF rfl) rfl <| gF 2 rfl rfl rfl rfl (fun hb55=> .step (bF rfl) rfl rfl<| .step (bF rfl) rfl rfl<| .done) rfl rfl ?_
    refine kX 58 rfl (fun hc58=>?_) (fun hc58=>?_)
    ·skip
     refine aa [40,460,453,38,446] ?_
     refine bK rfl (bX false rfl (.cons (.pure pu) (.nil)) (La c ar) pu (.inl rfl) rfl ?_)
     refine s1 (jK (out:=_) [[cQ (.int .i64 0)], [cQ (.int .i64 0)], [cQ (.int .i64 0)], [cQ (.slice none 0 0)],(List.replicate 32 (.int .u8 0)).map cQ,(List.replicate 32 (.int .u8 0)).map cQ, [cQ (.int .i64 0),cQ (.slice none 0 0),cQ (.slice none 0 0)]] eo rfl Tryz.underlying42 aw rfl rfl ⟨⟨by(first|rfl|omega|(simp;done)|(simp [*];done)|(simp [cU, *];done)),rfl⟩,⟨⟨by(first|rfl|omega|(simp;done)|(simp [*];done)|(simp [cU, *];done)),rfl⟩,⟨⟨by(first|rfl|omega|(simp;done)|(simp [*];done)|(simp [cU, *];done)),rfl⟩,⟨⟨by(first|rfl|omega|(simp;done)|(simp [*];done)|(simp [cU, *];done)),rfl⟩,trivial⟩⟩⟩⟩ rfl) rfl <| bK rfl (cB 18 rfl eo rfl rfl ?_)
     refine bK rfl (cu eo rfl rfl rfl rfl rfl ?_)
     refine bI <| bG <| bH <| bH <| ep 18 (cs':=gZ iss (l.length:Nat) day c zD zD) rfl rfl ?_
     refine aa [450,38,447] ?_
     refine b7 rfl (fun hc69=>?_) (fun hc69=>?_)
     ·have h69 : 0 < l.length := by have := of_decide_eq_true hc69; omega
      obtain⟨e,he⟩:∃e,l[l.length - 1]? =some e:=⟨_,List.getElem?_eq_getElem ar⟩
      have hok:=hl e (List.mem_of_getElem? he)
      obtain⟨hlb,hld⟩:=Oc (iss:=iss) (day:=day) he
      refine aa [453,38] ?_
      refine s1 (fJ _ 1 rfl rfl rfl rfl ar ar) rfl <| s1 (cD (l.length - 1) Tryz.underlying29 eo rfl rfl rfl ar rfl) rfl ?_
      refine aa [222] ?_
      refine bK rfl (cB 19 rfl eo rfl rfl ?_)
      refine aa [146,486,226,2,446] ?_
      refine gF 4 rfl rfl rfl rfl (fun hb80=> .step (bF rfl) rfl rfl<| .step (ct Tryz.underlying42 rfl bP az rfl rfl) rfl rfl<| .step (bM bP rfl rfl rfl) rfl rfl<| .step (bF rfl) rfl rfl<| .done) rfl rfl ?_
      refine kX 85 rfl (fun hc85=>?_) (fun hc85=>?_)
      ·skip
       refine aa [40,460,1] ?_
       refine s1 (cg eo rfl rfl hok.len) rfl <| bK rfl (bX false rfl (.cons (.pure pu) (.nil)) (rv e hok) pu (.inl rfl) rfl ?_)
       refine aa [254] ?_
       refine bK rfl (l3 b5 rfl rfl rfl rfl rfl (show((fk e).map u8).length=32 by simp) (by rw [A9 rfl rfl];decide) (Pn rfl rfl) ?_)
       refine bI <| bG <| bH ?_
       rcases nL (fy σ (-1) c)with hcs|hcs
       ·have hk := hcs
        refine aa [172,451] ?_
        refine gS ⟨[(700,some [.mc b39 (mapOf σ)])]⟩ false rfl ⟨⟨rfl,cv.pure bL⟩,trivial⟩ (.cons (.pure pu) (.cons (.pure pu) .nil)) (z6 aC hk) (fun u hu=>?_)
        refine aa [46,173] ?_
        rw [nu hsz hf h0 h43 (.inr (.inr (.inl hk)))];rfl
       ·have hk := hcs
        refine aa [172,451,392,456] ?_
        rcases nL (iT (cF σ c) ids)with hcs|hcs
        ·have hs := hcs
         refine aa [451] ?_
         refine gS ⟨[(700,some [.mc b39 (mapOf (cF σ c))])]⟩ false rfl ⟨⟨rfl,cv.pure bL⟩,trivial⟩ (.cons (.pure pu) (.cons (.pure pu) .nil)) (H5 (sG hsup ar hk) ar hs) (fun u hu=>?_)
         refine aa [46,173] ?_
         rw [nu hsz hf h0 h43 (.inr (.inr (.inr hs)))];rfl
        ·have hs := hcs
         have hlis:=BO hs
         have hbl:=qx (cF σ c) ids
         have hgl:=qy (cF σ c) ids
         obtain⟨hbE,hbF⟩:=vE (x:=kz x l.length) (p:=(ec (cF σ c) ids)) (q:=(eL (cF σ c) ids)) ar ar
         have hok0:(gP x l iss day ids c (cF σ c)).ok:=GG hn hi hd hc hcr
         have hokN:(iK x k l iss day ids c (cF σ c)).ok:=xf hn hi hd hc hcr
         have hlt:l.length<k:=by omega
         have hNl:=hokN.len
         refine aa [451,393,466,452] ?_
         refine fS 7 rfl rfl bL ?_
         refine aa [134,394,395,174,175,396,397,398] ?_
         refine Ff 22 7 [] cK b5 rfl rfl rfl ?_
         refine aa [4,9,454,114,446,399,471] ?_
         refine bK rfl (cB 23 rfl c7 rfl rfl ?_)
         refine aa [400,18,454,15,14,15,59,454,401,402,471,254,403,18,454,15,14,15,59,456] ?_
         refine lL 18 rfl GV <| eG ⟨_, [], []⟩ 12 4 c8 (le_refl rfl) ?_
         refine aa [404,16,174,175,405,406,407,176] ?_
         refine bQ 8 [7] [] (bF rfl) rfl rfl ?_
         refine aa [177,408,409,4,18,454,15,14,15,59,456] ?_
         refine eG ⟨_, [], []⟩ 5 4 c8 (le_refl rfl) ?_
         refine aa [31,410,411,412,413,4,253,18,457,414,415] ?_
         rw [xF hsz hf h0 h43 hc58 (hlb.trans hc85) hk hs];exact congrArg (fun n=>A.tu [.fz n (gE (l++ [(iK x k l iss day ids c (cF σ c))])),.i .i64 0]) (show l.length+1=(l++ [(iK x k l iss day ids c (cF σ c))]).length by simp)
      ·skip
       refine gS ⟨[]⟩ false rfl trivial (.cons (.pure pu) (.cons (.pure pu) .nil)) (kH 351) (fun u hu=>?_)
       refine aa [559,416] ?_
       rw [nu hsz hf h0 h43 (.inr (.inl (hlb.trans hc85)))];rfl
     ·have h69 : l = [] := List.length_eq_zero_iff.1 (by have := of_decide_eq_false hc69; omega)
      obtain⟨hlb,hld⟩:=Od (iss:=iss) (day:=day) h69
      refine bY <| bG <| bH ?_
      rcases nL (fy σ (-1) c)with hcs|hcs
      ·have hk := hcs
       refine aa [172,451] ?_
       refine gS ⟨[(700,some [.mc b39 (mapOf σ)])]⟩ false rfl ⟨⟨rfl,cv.pure bL⟩,trivial⟩ (.cons (.pure pu) (.cons (.pure pu) .nil)) (z6 aC hk) (fun u hu=>?_)
       refine aa [46,173] ?_
       rw [nu hsz hf h0 h43 (.inr (.inr (.inl hk)))];rfl
      ·have hk := hcs
       refine aa [172,451,392,456] ?_
       rcases nL (iT (cF σ c) ids)with hcs|hcs
       ·have hs := hcs
        refine aa [451] ?_
        refine gS ⟨[(700,some [.mc b39 (mapOf (cF σ c))])]⟩ false rfl ⟨⟨rfl,cv.pure bL⟩,trivial⟩ (.cons (.pure pu) (.cons (.pure pu) .nil)) (H5 (sG hsup ar hk) ar hs) (fun u hu=>?_)
        refine aa [46,173] ?_
        rw [nu hsz hf h0 h43 (.inr (.inr (.inr hs)))];rfl
       ·have hs := hcs
        have hlis:=BO hs
        have hbl:=qx (cF σ c) ids
        have hgl:=qy (cF σ c) ids
        obtain⟨hbE,hbF⟩:=vE (x:=kz x l.length) (p:=(ec (cF σ c) ids)) (q:=(eL (cF σ c) ids)) ar ar
        have hok0:(gP x l iss day ids c (cF σ c)).ok:=GG hn hi hd hc hcr
        have hokN:(iK x k l iss day ids c (cF σ c)).ok:=xf hn hi hd hc hcr
        have hlt:l.length<k:=by omega
        have hNl:=hokN.len
        refine aa [451,393,466,452] ?_
        refine fS 7 rfl rfl bL ?_
        refine aa [134,394,395,174,175,396,397,398] ?_
        refine Ff 22 7 [] cK b5 rfl rfl rfl ?_
        refine aa [4,9,454,114,446,399,471] ?_
        refine bK rfl (cB 23 rfl c7 rfl rfl ?_)
        refine aa [400,18,454,15,14,15,59,454,401,402,471,254,403,18,454,15,14,15,59,456] ?_
        refine lL 18 rfl GV <| eG ⟨_, [], []⟩ 12 4 c8 (le_refl rfl) ?_
        refine aa [404,16,174,175,405,406,407,176] ?_
        refine bQ 8 [7] [] (bF rfl) rfl rfl ?_
        refine aa [177,408,409,4,18,454,15,14,15,59,456] ?_
        refine eG ⟨_, [], []⟩ 5 4 c8 (le_refl rfl) ?_
        refine aa [31,410,411,412,413,4,253,18,457,414,415] ?_
        rw [xF hsz hf h0 h43 hc58 (hlb) hk hs];exact congrArg (fun n=>A.tu [.fz n (gE (l++ [(iK x k l iss day ids c (cF σ c))])),.i .i64 0]) (show l.length+1=(l++ [(iK x k l iss day ids c (cF σ c))]).length by simp)
    ·skip
     refine gS ⟨[]⟩ false rfl trivial (.cons (.pure pu) (.cons (.pure pu) .nil)) (kH 351) (fun u hu=>?_)
     refine aa [46,416] ?_
     rw [nu hsz hf h0 h43 (.inl hc58)];rfl
   ·have h43 : (l.length : Int) = (k : Int) := by simpa using hc43
    refine gS ⟨[]⟩ false rfl trivial (.cons (.pure pu) (.cons (.pure pu) .nil)) (kH 2) (fun u hu=>?_)
    refine dt <| mv ⟨[(14,some [.nl]),(15,some [.i .i64 0])]⟩ hdf hS mC ⟨⟨rfl,cv.pure bL⟩,⟨rfl,cv.pure bL⟩,trivial⟩ (.cons (.kp rfl) (.cons (.kp rfl) .nil)) (oh _ _ 2) (hu) (nP rfl rfl bL bL) rfl (fC iy rfl rfl rfl (fC dK rfl rfl rfl bR)) ?_
    rw [Hg hsz hf h0 h43];rfl
-- T1C
theorem BV (x:List UInt8) (hx:x.length=32) (l:List Ep) (hl:ga l) (hn:l.length≤100) (i:Nat) (e:Ep) (τ:Int→Int) (ids:List Int) (hE:yB x ids l i e τ) (hids:ids.length≤24) (asked:List Int) (h4:asked.length≤4) (has:∀q∈asked,q∈ids) (coins:List (List UInt8)) (hc:coins.length=132) (hz:∀q∈coins,q.length=65):bO Tryz.prog 11 [.ag (x.map u8),fa l,nJ i,.fz ids.length (ids.map (A.i .i64)),.fz asked.length (asked.map (A.i .i64)),.fz coins.length (coins.map V6.cA)] (cn (.tu [oa (rD τ asked),.b true])):=by
 refine enter Tryz.func11 rfl Tryz.ntmps11 aw (Nat.le_of_ble_eq_true rfl) fun w0 X0 hI=>?_
 refine aa [444,232,0,452] ?_
 obtain⟨he,hfm,hsu,hst,hlis,hec⟩:=hE
 have hi:i<l.length:=(List.getElem?_eq_some_iff.1 he).1
 have hbl:=qx τ ids
 have hgl:=qy τ ids
 obtain⟨hbE,hbF⟩:=vE (x:=kz x i) (p:=(ec τ ids)) (q:=(eL τ ids)) ar ar
 have hck:eB (cJ x i τ ids)=true:=vM (oB hlis)
 have hnm:∀q∈asked,0≤q∧q<1024:=fun q hq=>oy hlis q (has q hq)
 have hcm:coins.length≤maxLen:=by rw [hc];decide
 obtain⟨a,b,hA,hak,hat,hal,hbl2,hR⟩:=CY hck h4 hnm hc hz
 obtain⟨ha1,hb1⟩:=JH hR hc hal hbl2
 refine aa [451,417,549,499,554,7,418,122,468,469] ?_
 refine bK rfl (dz 47 rfl Tryz.underlying24 bP rfl rfl rfl rfl rfl ?_)
 refine bK rfl (dz 48 rfl Tryz.underlying24 bP rfl rfl rfl rfl rfl ?_)
 refine aa [0,452,475] ?_
 refine cO (ι:=Nat) (fun k=> [(1,fa l),(2,nJ i),(3,.fz ids.length (ids.map (A.i .i64))),(4,.fz asked.length (asked.map (A.i .i64))),(5,.fz coins.length (coins.map V6.cA)),(6,.p 6 0),(14,gD (fG τ)),(15,.i .i64 0),(16,.sl 47 1 0 (ec τ (ids.take k)).length),(17,.sl 48 1 0 (eL τ (ids.take k)).length),(18,nJ k)]) (fun k=>⟨[(6,some (x.map u8)),(47,some ((ec τ (ids.take k)).map (A.i .i64))),(48,some ((eL τ (ids.take k)).map (A.i .i64)))]⟩) (fun k=>k≤ids.length) (fun k=>ids.length - k) ?_ ?_
 ·exact cN (0) (Nat.zero_le _) [(6,some 6),(47,some 47),(48,some 48)] hI rfl rfl ⟨⟨_,rfl,.pure pu⟩,⟨_,rfl,.pure pu⟩,⟨_,rfl,.pure pu⟩,⟨_,rfl,.pure pu⟩,⟨_,rfl,.pure pu⟩,⟨_,rfl,.p rfl⟩,⟨_,rfl,.pure pu⟩,⟨_,rfl,.pure pu⟩,⟨_,rfl,.sl rfl aq⟩,⟨_,rfl,.sl rfl aq⟩,⟨_,rfl,.pure pu⟩,trivial⟩ ⟨.inr ⟨_,_,rfl,rfl,.pure bL⟩,.inr ⟨_,_,rfl,rfl,.of (by first|rfl|simp [ec]) (.pure bL)⟩,.inr ⟨_,_,rfl,rfl,.of (by first|rfl|simp [eL]) (.pure bL)⟩,trivial⟩
 intro k hk
 have hlb:=qx τ (ids.take k)
 have hlg:=qy τ (ids.take k)
 rw [List.length_take]at hlb hlg
 refine aa [481,512] ?_
 refine b7 rfl (fun hc52=>?_) (fun hc52=>?_)
 ·have h0 : k < ids.length := by have := of_decide_eq_true hc52; omega
  obtain⟨q,hq⟩:∃q,ids[k]? =some q:=⟨_,List.getElem?_eq_getElem ar⟩
  refine aa [482,489,516,255,447] ?_
  refine b7 rfl (fun hc61=>?_) (fun hc61=>?_)
  ·have h1 : τ q ≠ 0 := by simpa using hc61
   obtain⟨hb1,hb2⟩:=zj hq h1
   refine aa [502,516] ?_
   refine bK rfl (dz 67 rfl Tryz.underlying24 bP rfl rfl rfl rfl rfl ?_)
   refine bK rfl (dB 68 rfl Tryz.underlying24 bP rfl (.sl rfl aB) rfl (dE rfl aq) aB aC ar rfl rfl rfl ?_)
   refine aa [518] ?_
   exact cz (k+1) ar ar [(6,some 6),(47,some 68),(48,some 48)] hI rfl rfl ⟨⟨_,rfl,.pure pu⟩,⟨_,rfl,.pure pu⟩,⟨_,rfl,.pure pu⟩,⟨_,rfl,.pure pu⟩,⟨_,rfl,.pure pu⟩,⟨_,rfl,.p rfl⟩,⟨_,rfl,.pure pu⟩,⟨_,rfl,.pure pu⟩,⟨_,rfl,.sl rfl aq⟩,⟨_,rfl,.sl rfl aq⟩,⟨_,rfl,.pure pu⟩,trivial⟩ ⟨.inr ⟨_,_,rfl,rfl,.pure bL⟩,.inr ⟨_,_,rfl,rfl,.of (by rw [hb1,List.map_append];rfl) (.pure bL)⟩,.inr ⟨_,_,rfl,rfl,.of (by rw [hb2]) (.pure bL)⟩,trivial⟩
  ·have h1 : τ q = 0 := by simpa using hc61
   obtain⟨hb1,hb2⟩:=zk hq h1
   refine aa [502,516] ?_
   refine bK rfl (dz 74 rfl Tryz.underlying24 bP rfl rfl rfl rfl rfl ?_)
   refine bK rfl (dB 75 rfl Tryz.underlying24 bP rfl (.sl rfl aB) rfl (dE rfl aq) aB aC ar rfl rfl rfl ?_)
   refine aa [518] ?_
   exact cz (k+1) ar ar [(6,some 6),(47,some 47),(48,some 75)] hI rfl rfl ⟨⟨_,rfl,.pure pu⟩,⟨_,rfl,.pure pu⟩,⟨_,rfl,.pure pu⟩,⟨_,rfl,.pure pu⟩,⟨_,rfl,.pure pu⟩,⟨_,rfl,.p rfl⟩,⟨_,rfl,.pure pu⟩,⟨_,rfl,.pure pu⟩,⟨_,rfl,.sl rfl aq⟩,⟨_,rfl,.sl rfl aq⟩,⟨_,rfl,.pure pu⟩,trivial⟩ ⟨.inr ⟨_,_,rfl,rfl,.pure bL⟩,.inr ⟨_,_,rfl,rfl,.of (by rw [hb1]) (.pure bL)⟩,.inr ⟨_,_,rfl,rfl,.of (by rw [hb2,List.map_append];rfl) (.pure bL)⟩,trivial⟩
 ·have h0 : k = ids.length := by have := of_decide_eq_false hc52; omega
  subst h0
  refine aa [463] ?_
  refine ep 47 (cs':=(ec τ ids).map (A.i .i64)) rfl aG <| ep 48 (cs':=(eL τ ids).map (A.i .i64)) rfl aG <| eR 16 rfl rfl bL (c5 aB rfl) <| gr 16 rfl (v':= .fz (ec τ ids).length ((ec τ ids).map (A.i .i64))) aG <| eR 17 rfl rfl bL (c5 aB rfl) <| gr 17 rfl (v':= .fz (eL τ ids).length ((eL τ ids).map (A.i .i64))) aG ?_
  refine aa [1,61,0,419,446,420,471] ?_
  refine bK rfl (cB 19 rfl c7 rfl rfl ?_)
  refine aa [421,487,48] ?_
  refine bK rfl (bX false rfl (.cons (.pure pu) (.nil)) (bO.cast (zB (cJ x i τ ids) (fH _ _) (show(cJ x i τ ids).E.length≤maxLen by simp only [maxLen];exact Nat.le_trans hbE az)) (vW hck)) pu (.inl rfl) rfl ?_)
  refine aa [471] ?_
  refine bK rfl (cB 20 rfl b5 rfl rfl ?_)
  refine aa [9,487,48] ?_
  refine bK rfl (bX false rfl (.cons (.pure pu) (.nil)) (bO.cast (Rx (cJ x i τ ids) (fH _ _) (show(cJ x i τ ids).E.length≤maxLen by simp only [maxLen];exact Nat.le_trans hbE az)) (Dk hck)) pu (.inl rfl) rfl ?_)
  refine aa [466,487,48,446,256,466] ?_
  refine bK rfl (cB 24 rfl cZ rfl rfl ?_)
  refine aa [257,526,452,3] ?_
  refine gq 22 c8 aw <| t1 (bF rfl) rfl <| t1 ((bF rfl).v (v':= .b false) (rfl)) rfl ?_
  refine aa [6,124,258,473] ?_
  refine fQ rfl rfl (cg b5 rfl rfl aB) rfl ?_
  refine aa [124,124] ?_
  refine fQ rfl rfl (cD i Tryz.underlying29 eo rfl rfl rfl ar rfl) rfl <| fQ rfl rfl (fV Tryz.underlying42 rfl b5 az rfl rfl) rfl <| fQ rfl rfl (eX b5 rfl rfl (Mv hl he) (by rw [List.length_map];exact(hl e (List.mem_of_getElem? he)).dw)) rfl <| fQ rfl rfl (((TZ Tryz.underlying23 Tryz.underlying5 cc aw rfl rfl aB (hl e (List.mem_of_getElem? he)).dw)).v (v':= .b false) (congrArg A.b (by rw [hec];simp))) rfl ?_
  refine aa [473,124,258,473,124,258,10,468,461,445] ?_
  refine s1 (cg cZ rfl rfl rfl) rfl <| bK rfl (bX false rfl (.cons (.pure pu) (.cons (.pure pu) (.nil))) (bO.cast (Ip (eC (eM (cJ x i τ ids)) 520) a) (yY ha1)) pu (.inl rfl) rfl ?_)
  refine aa [471] ?_
  refine bK rfl (cB 27 rfl jd rfl rfl ?_)
  refine aa [97,458] ?_
  refine s1 (cg cZ rfl rfl rfl) rfl <| bK rfl (bX false rfl (.cons (.pure pu) (.cons (.pure pu) (.nil))) (bO.cast (Ip (eC (eM (cJ x i τ ids)) 520) b) (yY hb1)) pu (.inl rfl) rfl ?_)
  refine aa [471] ?_
  refine bK rfl (cB 28 rfl jd rfl rfl ?_)
  refine aa [97,487,48,0] ?_
  refine s1 (cg jd rfl rfl rfl) rfl <| s1 (cg jd rfl rfl rfl) rfl <| bK rfl (bX false rfl (.cons (.pure pu) (.cons (.pure pu) (.cons (.pure pu) (.cons (.pure pu) (.nil))))) (bO.cast (Sr (cJ x i τ ids) (fH _ _) asked (a.map (V6.answer (eC (eM (cJ x i τ ids)) 520))) (b.map (V6.answer (eC (eM (cJ x i τ ids)) 520)))) (((QF _ 7 _ _ _).symm.trans (QJ hck hak hR hc hal hbl2)).trans (by rw [MA hlis has]))) pu (.inl rfl) rfl ?_)
  refine aa [466,455,14,494,34,507,34,446,449] ?_
  refine bW (rs:= [.tmp 12,.tmp 13]) rfl (bT rfl (bT rfl bR)) ?_
  rfl
-- T1D
theorem SX (x : List UInt8) (hx : x.length = 32) (l : List Ep) (hl : ga l) (hn : l.length ≤ 100) (i : Nat) (e : Ep) (τ : Int → Int) (ids : List Int) (hE : yB x ids l i e τ) (hids : ids.length ≤ 24) (asked : List Int) (h4 : asked.length ≤ 4) (has : ∀ q ∈ asked, q ∈ ids) (others : List Int) (coins : List (List UInt8)) (hc : coins.length = 132) (hz : ∀ q ∈ coins, q.length = 65) : bO Tryz.prog 14 [.ag (x.map u8), fa l, nJ i, .fz ids.length (ids.map (A.i .i64)), .fz asked.length (asked.map (A.i .i64)), .fz others.length (others.map (A.i .i64)), .fz coins.length (coins.map V6.cA)] (cn (.b true)) := by
 refine enter Tryz.func14 rfl Tryz.ntmps14 aw (Nat.le_of_ble_eq_true rfl) fun w0 X0 hI=>?_
 refine aa [444,115,452] ?_
 obtain⟨he,hfm,hsu,hst,hlis,hec⟩:=hE
 have hi:i<l.length:=(List.getElem?_eq_some_iff.1 he).1
 have hbl:=qx τ ids
 have hgl:=qy τ ids
 obtain⟨hbE,hbF⟩:=vE (x:=kz x i) (p:=(ec τ ids)) (q:=(eL τ ids)) ar ar
 have hck:eB (cJ x i τ ids)=true:=vM (oB hlis)
 have hnm:∀q∈asked,0≤q∧q<1024:=fun q hq=>oy hlis q (has q hq)
 have hcm:coins.length≤maxLen:=by rw [hc];decide
 refine aa [451,417,466,487] ?_
 refine bK rfl (dz 51 rfl Tryz.underlying24 bP rfl rfl rfl rfl rfl ?_)
 refine bK rfl (dz 52 rfl Tryz.underlying24 bP rfl rfl rfl rfl rfl ?_)
 refine aa [0,452,475] ?_
 refine cO (ι:=Nat) (fun k=> [(1,fa l),(2,nJ i),(3,.fz ids.length (ids.map (A.i .i64))),(4,.fz asked.length (asked.map (A.i .i64))),(5,.fz others.length (others.map (A.i .i64))),(6,.fz coins.length (coins.map V6.cA)),(7,.p 7 0),(15,gD (fG τ)),(16,.i .i64 0),(17,.sl 51 1 0 (ec τ (ids.take k)).length),(18,.sl 52 1 0 (eL τ (ids.take k)).length),(19,nJ k)]) (fun k=>⟨[(7,some (x.map u8)),(51,some ((ec τ (ids.take k)).map (A.i .i64))),(52,some ((eL τ (ids.take k)).map (A.i .i64)))]⟩) (fun k=>k≤ids.length) (fun k=>ids.length - k) ?_ ?_
 ·exact cN (0) (Nat.zero_le _) [(7,some 7),(51,some 51),(52,some 52)] hI rfl rfl ⟨⟨_,rfl,.pure pu⟩,⟨_,rfl,.pure pu⟩,⟨_,rfl,.pure pu⟩,⟨_,rfl,.pure pu⟩,⟨_,rfl,.pure pu⟩,⟨_,rfl,.pure pu⟩,⟨_,rfl,.p rfl⟩,⟨_,rfl,.pure pu⟩,⟨_,rfl,.pure pu⟩,⟨_,rfl,.sl rfl aq⟩,⟨_,rfl,.sl rfl aq⟩,⟨_,rfl,.pure pu⟩,trivial⟩ ⟨.inr ⟨_,_,rfl,rfl,.pure bL⟩,.inr ⟨_,_,rfl,rfl,.of (by first|rfl|simp [ec]) (.pure bL)⟩,.inr ⟨_,_,rfl,rfl,.of (by first|rfl|simp [eL]) (.pure bL)⟩,trivial⟩
 intro k hk
 have hlb:=qx τ (ids.take k)
 have hlg:=qy τ (ids.take k)
 rw [List.length_take]at hlb hlg
 refine aa [481,512] ?_
 refine b7 rfl (fun hc56=>?_) (fun hc56=>?_)
 ·have h0 : k < ids.length := by have := of_decide_eq_true hc56; omega
  obtain⟨q,hq⟩:∃q,ids[k]? =some q:=⟨_,List.getElem?_eq_getElem ar⟩
  refine aa [482,489,516,255,447] ?_
  refine b7 rfl (fun hc65=>?_) (fun hc65=>?_)
  ·have h1 : τ q ≠ 0 := by simpa using hc65
   obtain⟨hb1,hb2⟩:=zj hq h1
   refine aa [502,516] ?_
   refine bK rfl (dz 71 rfl Tryz.underlying24 bP rfl rfl rfl rfl rfl ?_)
   refine bK rfl (dB 72 rfl Tryz.underlying24 bP rfl (.sl rfl aB) rfl (dE rfl aq) aB aC ar rfl rfl rfl ?_)
   refine aa [518] ?_
   exact cz (k+1) ar ar [(7,some 7),(51,some 72),(52,some 52)] hI rfl rfl ⟨⟨_,rfl,.pure pu⟩,⟨_,rfl,.pure pu⟩,⟨_,rfl,.pure pu⟩,⟨_,rfl,.pure pu⟩,⟨_,rfl,.pure pu⟩,⟨_,rfl,.pure pu⟩,⟨_,rfl,.p rfl⟩,⟨_,rfl,.pure pu⟩,⟨_,rfl,.pure pu⟩,⟨_,rfl,.sl rfl aq⟩,⟨_,rfl,.sl rfl aq⟩,⟨_,rfl,.pure pu⟩,trivial⟩ ⟨.inr ⟨_,_,rfl,rfl,.pure bL⟩,.inr ⟨_,_,rfl,rfl,.of (by rw [hb1,List.map_append];rfl) (.pure bL)⟩,.inr ⟨_,_,rfl,rfl,.of (by rw [hb2]) (.pure bL)⟩,trivial⟩
  ·have h1 : τ q = 0 := by simpa using hc65
   obtain⟨hb1,hb2⟩:=zk hq h1
   refine aa [502,516] ?_
   refine bK rfl (dz 78 rfl Tryz.underlying24 bP rfl rfl rfl rfl rfl ?_)
   refine bK rfl (dB 79 rfl Tryz.underlying24 bP rfl (.sl rfl aB) rfl (dE rfl aq) aB aC ar rfl rfl rfl ?_)
   refine aa [518] ?_
   exact cz (k+1) ar ar [(7,some 7),(51,some 51),(52,some 79)] hI rfl rfl ⟨⟨_,rfl,.pure pu⟩,⟨_,rfl,.pure pu⟩,⟨_,rfl,.pure pu⟩,⟨_,rfl,.pure pu⟩,⟨_,rfl,.pure pu⟩,⟨_,rfl,.pure pu⟩,⟨_,rfl,.p rfl⟩,⟨_,rfl,.pure pu⟩,⟨_,rfl,.pure pu⟩,⟨_,rfl,.sl rfl aq⟩,⟨_,rfl,.sl rfl aq⟩,⟨_,rfl,.pure pu⟩,trivial⟩ ⟨.inr ⟨_,_,rfl,rfl,.pure bL⟩,.inr ⟨_,_,rfl,rfl,.of (by rw [hb1]) (.pure bL)⟩,.inr ⟨_,_,rfl,rfl,.of (by rw [hb2,List.map_append];rfl) (.pure bL)⟩,trivial⟩
 ·have h0 : k = ids.length := by have := of_decide_eq_false hc56; omega
  subst h0
  refine aa [463] ?_
  refine ep 51 (cs':=(ec τ ids).map (A.i .i64)) rfl aG <| ep 52 (cs':=(eL τ ids).map (A.i .i64)) rfl aG <| eR 17 rfl rfl bL (c5 aB rfl) <| gr 17 rfl (v':= .fz (ec τ ids).length ((ec τ ids).map (A.i .i64))) aG <| eR 18 rfl rfl bL (c5 aB rfl) <| gr 18 rfl (v':= .fz (eL τ ids).length ((eL τ ids).map (A.i .i64))) aG ?_
  refine aa [1,61,0,419,446,420,471] ?_
  refine bK rfl (cB 20 rfl c7 rfl rfl ?_)
  refine aa [421,452] ?_
  rcases NH hck h4 hnm others hc hz with hcs|hcs
  ·obtain ⟨a, b, er, her, hA, hB⟩ := hcs
   refine aa [1,48,446,256,466] ?_
   refine bK rfl (cB 22 rfl cZ rfl rfl ?_)
   refine bK rfl (cB 23 rfl cZ rfl rfl ?_)
   refine aa [526,487,48,446,422,466,257] ?_
   refine bK rfl (cB 26 rfl cZ rfl rfl ?_)
   refine aa [526,491,499,17,507,17,468,465,445] ?_
   refine s1 ((bF rfl).v (v':= .b true) (congrArg A.b (by simpa using her))) rfl ?_
   refine aa [521,504] ?_
   refine bW (rs:= [.tmp 14]) rfl (bT rfl bR) ?_
   rfl
  ·obtain ⟨a, b, b', y, hA, hB, hak, hok, _, hat, hot, hal, hbl2, htw, hX⟩ := hcs
   have hatl:=pb (cJ x i τ ids) asked
   have hotl:=pb (cJ x i τ ids) others
   have ham:a.length≤maxLen:=by rw [hal];decide
   have hbm:b.length≤maxLen:=by rw [hbl2];decide
   refine aa [1,48,446,256,466] ?_
   refine bK rfl (cB 22 rfl cZ rfl rfl ?_)
   refine bK rfl (cB 23 rfl cZ rfl rfl ?_)
   refine aa [526,487,48,446,422,466,257] ?_
   refine bK rfl (cB 26 rfl cZ rfl rfl ?_)
   refine aa [526,491,499,17,507,17,468,465,445,497,469] ?_
   refine bK rfl (dz 117 rfl Tryz.underlying24 bP rfl rfl rfl rfl rfl ?_)
   refine bK rfl (dz 118 rfl Tryz.underlying24 bP rfl rfl rfl rfl rfl ?_)
   refine aa [0,452,475] ?_
   refine cO (ι:=Nat) (fun k=> [(4,.fz asked.length (asked.map (A.i .i64))),(5,.fz others.length (others.map (A.i .i64))),(6,.fz coins.length (coins.map V6.cA)),(20,.p 20 0),(22,.p 22 0),(23,.p 23 0),(25,.p 25 0),(29,.sl 118 1 0 0),(28,.sl 117 1 0 (cE (cJ x i τ ids) (asked.take k)).length),(30,nJ k)]) (fun k=>⟨[(20,some (dN (cJ x i τ ids))),(22,some ([dr a])),(23,some ([dr b])),(25,some ([dr a])),(118,some ([])),(117,some ((cE (cJ x i τ ids) (asked.take k)).map iA))]⟩) (fun k=>k≤asked.length) (fun k=>asked.length - k) ?_ ?_
   ·exact cN (0) (Nat.zero_le _) [(20,some 20),(22,some 22),(23,some 23),(25,some 25),(117,some 117),(118,some 118)] hI rfl rfl ⟨⟨_,rfl,.pure pu⟩,⟨_,rfl,.pure pu⟩,⟨_,rfl,.pure pu⟩,⟨_,rfl,.p rfl⟩,⟨_,rfl,.p rfl⟩,⟨_,rfl,.p rfl⟩,⟨_,rfl,.p rfl⟩,⟨_,rfl,.sl rfl aq⟩,⟨_,rfl,.sl rfl aq⟩,⟨_,rfl,.pure pu⟩,trivial⟩ ⟨.inr ⟨_,_,rfl,rfl,.pure bL⟩,.inr ⟨_,_,rfl,rfl,.pure bL⟩,.inr ⟨_,_,rfl,rfl,.pure bL⟩,.inr ⟨_,_,rfl,rfl,.pure bL⟩,.inr ⟨_,_,rfl,rfl,.pure bL⟩,.inr ⟨_,_,rfl,rfl,.pure bL⟩,trivial⟩
   rintro k hk1
   have hla:=pb (cJ x i τ ids) (asked.take k)
   rw [List.length_take]at hla
   refine aa [481,512] ?_
   refine b7 rfl (fun hc122=>?_) (fun hc122=>?_)
   ·have h122 : k < asked.length := by have := of_decide_eq_true hc122; omega
    obtain⟨q,hq⟩:∃q,asked[k]? =some q:=⟨_,List.getElem?_eq_getElem h122⟩
    have hnb:=(lJ hak).2.2 q (List.mem_of_getElem? hq)
    have hhd:=(lJ hak).1
    obtain⟨j,rfl,hj⟩:=qD hnb
    have hq0:=hq
    have hnx:=ze (c:=(cJ x i τ ids)) hq
    rw [Int.toNat_natCast]at hnx
    have hnl:(cE (cJ x i τ ids) (asked.take k)).length+33=(cE (cJ x i τ ids) (asked.take (k+1))).length:=by rw [←hnx,List.length_append,ld]
    refine bY <| bG <| bH <| bZ <| bH <| eG ⟨_, [], []⟩ 10 4 c8 (le_refl rfl) ?_
    refine aa [423,16,69,424] ?_
    refine bQ 4 [3] [] (bM bP rfl rfl (gX hq)) rfl rfl ?_
    refine aa [425] ?_
    refine bQ 6 [5] [] (bF rfl) rfl rfl ?_
    refine aa [176] ?_
    refine bQ 8 [6] [] (bF rfl) rfl rfl ?_
    refine aa [177,4,534] ?_
    refine bK rfl (dB 136 rfl Tryz.underlying24 bP rfl (.sl rfl aB) rfl rfl aB (by rw [ld];simp only [maxLen];omega) (by rw [ld];omega) rfl (by rw [←List.map_append,hnx]) rfl ?_)
    refine aa [518] ?_
    exact cz (k+1) ar ar [(20,some 20),(22,some 22),(23,some 23),(25,some 25),(117,some 136),(118,some 118)] hI rfl rfl ⟨⟨_,rfl,.pure pu⟩,⟨_,rfl,.pure pu⟩,⟨_,rfl,.pure pu⟩,⟨_,rfl,.p rfl⟩,⟨_,rfl,.p rfl⟩,⟨_,rfl,.p rfl⟩,⟨_,rfl,.p rfl⟩,⟨_,rfl,.sl rfl aq⟩,⟨_,rfl,.sl rfl aq⟩,⟨_,rfl,.pure pu⟩,trivial⟩ ⟨.inr ⟨_,_,rfl,rfl,.pure bL⟩,.inr ⟨_,_,rfl,rfl,.pure bL⟩,.inr ⟨_,_,rfl,rfl,.pure bL⟩,.inr ⟨_,_,rfl,rfl,.pure bL⟩,.inr ⟨_,_,rfl,rfl,.pure bL⟩,.inr ⟨_,_,rfl,rfl,.pure bL⟩,trivial⟩
   ·obtain rfl : k = asked.length := by have := of_decide_eq_false hc122; omega
    refine aa [463,475] ?_
    refine cO (ι:=Nat) (fun k=> [(4,.fz asked.length (asked.map (A.i .i64))),(5,.fz others.length (others.map (A.i .i64))),(6,.fz coins.length (coins.map V6.cA)),(20,.p 20 0),(22,.p 22 0),(23,.p 23 0),(25,.p 25 0),(28,.sl 117 1 0 (cE (cJ x i τ ids) (asked.take asked.length)).length),(29,.sl 118 1 0 (cE (cJ x i τ ids) (others.take k)).length),(33,nJ k)]) (fun k=>⟨[(20,some (dN (cJ x i τ ids))),(22,some ([dr a])),(23,some ([dr b])),(25,some ([dr a])),(117,some ((cE (cJ x i τ ids) (asked.take asked.length)).map iA)),(118,some ((cE (cJ x i τ ids) (others.take k)).map iA))]⟩) (fun k=>k≤others.length) (fun k=>others.length - k) ?_ ?_
    ·exact cN (0) (Nat.zero_le _) [(20,some 20),(22,some 22),(23,some 23),(25,some 25),(117,some 117),(118,some 118)] hI rfl rfl ⟨⟨_,rfl,.pure pu⟩,⟨_,rfl,.pure pu⟩,⟨_,rfl,.pure pu⟩,⟨_,rfl,.p rfl⟩,⟨_,rfl,.p rfl⟩,⟨_,rfl,.p rfl⟩,⟨_,rfl,.p rfl⟩,⟨_,rfl,.sl rfl aq⟩,⟨_,rfl,.sl rfl aq⟩,⟨_,rfl,.pure pu⟩,trivial⟩ ⟨.inr ⟨_,_,rfl,rfl,.pure bL⟩,.inr ⟨_,_,rfl,rfl,.pure bL⟩,.inr ⟨_,_,rfl,rfl,.pure bL⟩,.inr ⟨_,_,rfl,rfl,.pure bL⟩,.inr ⟨_,_,rfl,rfl,.pure bL⟩,.inr ⟨_,_,rfl,rfl,.pure bL⟩,trivial⟩
    rintro k hk1
    have hla:=pb (cJ x i τ ids) (others.take k)
    rw [List.length_take]at hla
    refine aa [481,512] ?_
    refine b7 rfl (fun hc140=>?_) (fun hc140=>?_)
    ·have h140 : k < others.length := by have := of_decide_eq_true hc140; omega
     obtain⟨q,hq⟩:∃q,others[k]? =some q:=⟨_,List.getElem?_eq_getElem h140⟩
     have hnb:=(lJ hok).2.2 q (List.mem_of_getElem? hq)
     have hhd:=(lJ hok).1
     obtain⟨j,rfl,hj⟩:=qD hnb
     have hq0:=hq
     have hnx:=ze (c:=(cJ x i τ ids)) hq
     rw [Int.toNat_natCast]at hnx
     have hnl:(cE (cJ x i τ ids) (others.take k)).length+33=(cE (cJ x i τ ids) (others.take (k+1))).length:=by rw [←hnx,List.length_append,ld]
     refine bY <| bG <| bH <| bZ <| bH <| eG ⟨_, [], []⟩ 10 4 c8 (le_refl rfl) ?_
     refine aa [423,16,69,424] ?_
     refine bQ 4 [3] [] (bM bP rfl rfl (gX hq)) rfl rfl ?_
     refine aa [425] ?_
     refine bQ 6 [5] [] (bF rfl) rfl rfl ?_
     refine aa [176] ?_
     refine bQ 8 [6] [] (bF rfl) rfl rfl ?_
     refine aa [177,4,534] ?_
     refine bK rfl (dB 154 rfl Tryz.underlying24 bP rfl (.sl rfl aB) rfl rfl aB (by rw [ld];simp only [maxLen];omega) (by rw [ld];omega) rfl (by rw [←List.map_append,hnx]) rfl ?_)
     refine aa [518] ?_
     exact cz (k+1) ar ar [(20,some 20),(22,some 22),(23,some 23),(25,some 25),(117,some 117),(118,some 154)] hI rfl rfl ⟨⟨_,rfl,.pure pu⟩,⟨_,rfl,.pure pu⟩,⟨_,rfl,.pure pu⟩,⟨_,rfl,.p rfl⟩,⟨_,rfl,.p rfl⟩,⟨_,rfl,.p rfl⟩,⟨_,rfl,.p rfl⟩,⟨_,rfl,.sl rfl aq⟩,⟨_,rfl,.sl rfl aq⟩,⟨_,rfl,.pure pu⟩,trivial⟩ ⟨.inr ⟨_,_,rfl,rfl,.pure bL⟩,.inr ⟨_,_,rfl,rfl,.pure bL⟩,.inr ⟨_,_,rfl,rfl,.pure bL⟩,.inr ⟨_,_,rfl,rfl,.pure bL⟩,.inr ⟨_,_,rfl,rfl,.pure bL⟩,.inr ⟨_,_,rfl,rfl,.pure bL⟩,trivial⟩
    ·obtain rfl : k = others.length := by have := of_decide_eq_false hc140; omega
     refine aa [463,3] ?_
     refine eR 28 rfl rfl bL (c5 aB rfl) <| gr 28 rfl (v':=iI (cE (cJ x i τ ids) asked)) aG <| eR 29 rfl rfl bL (c5 aB rfl) <| gr 29 rfl (v':=iI (cE (cJ x i τ ids) others)) aG ?_
     refine aa [450,82,0,23,62,494,98,7] ?_
     refine g1 rfl rfl (cf Tryz.underlying26 rfl rfl rfl) rfl ?_
     refine aa [122,468,469] ?_
     refine bK rfl (dz 167 rfl Tryz.underlying26 cL rfl rfl rfl rfl rfl ?_)
     refine aa [452,475] ?_
     refine cO (ι:=Nat) (fun k=> [(5,.fz others.length (others.map (A.i .i64))),(6,.fz coins.length (coins.map V6.cA)),(20,.p 20 0),(22,.p 22 0),(23,.p 23 0),(25,.p 25 0),(28,iI (cE (cJ x i τ ids) asked)),(29,iI (cE (cJ x i τ ids) others)),(36,.sl 167 1 0 k),(37,nJ k)]) (fun k=>⟨[(20,some (dN (cJ x i τ ids))),(22,some ([dr a])),(23,some ([dr b])),(25,some ([dr a])),(167,some (((List.range k).map (j7 520 (cE (cJ x i τ ids) asked) (cE (cJ x i τ ids) others) coins)).map V6.cA))]⟩) (fun k=>k≤coins.length) (fun k=>coins.length - k) ?_ ?_
     ·exact cN (0) (Nat.zero_le _) [(20,some 20),(22,some 22),(23,some 23),(25,some 25),(167,some 167)] hI rfl rfl ⟨⟨_,rfl,.pure pu⟩,⟨_,rfl,.pure pu⟩,⟨_,rfl,.p rfl⟩,⟨_,rfl,.p rfl⟩,⟨_,rfl,.p rfl⟩,⟨_,rfl,.p rfl⟩,⟨_,rfl,.pure pu⟩,⟨_,rfl,.pure pu⟩,⟨_,rfl,.sl rfl aq⟩,⟨_,rfl,.pure pu⟩,trivial⟩ ⟨.inr ⟨_,_,rfl,rfl,.pure bL⟩,.inr ⟨_,_,rfl,rfl,.pure bL⟩,.inr ⟨_,_,rfl,rfl,.pure bL⟩,.inr ⟨_,_,rfl,rfl,.pure bL⟩,.inr ⟨_,_,rfl,rfl,.pure bL⟩,trivial⟩
     rintro k hk1
     refine aa [481,23,447] ?_
     refine b7 rfl (fun hc171=>?_) (fun hc171=>?_)
     ·have h171 : k < coins.length := by have := of_decide_eq_true hc171; omega
      obtain⟨q,hq⟩:∃q,coins[k]? =some q:=⟨_,List.getElem?_eq_getElem h171⟩
      have hqd:coins.getD k []=q:=by rw [List.getD,hq];rfl
      have hu:=htw k h171
      rw [hqd]at hu
      generalize hty:j7 520 (cE (cJ x i τ ids) asked) (cE (cJ x i τ ids) others) coins k=tw at hu
      refine aa [462,39,470,453,512] ?_
      refine b7 rfl (fun hc177=>?_) (fun hc177=>?_)
      ·have h177 : k < (cE (cJ x i τ ids) asked).length := by have := of_decide_eq_true hc177; omega
       have hw1:=V6.sM h177
       refine aa [451,37] ?_
       refine s1 (bM bP rfl rfl (V6.tT h177)) rfl ?_
       refine aa [452,453,512] ?_
       refine b7 rfl (fun hc185=>?_) (fun hc185=>?_)
       ·have h185 : k < (cE (cJ x i τ ids) others).length := by have := of_decide_eq_true hc185; omega
        have hw2:=V6.sM h185
        refine aa [451,37] ?_
        refine s1 (bM bP rfl rfl (V6.tT h185)) rfl ?_
        refine aa [487,426,427,446,543,178,525,461,451,179,180,518] ?_
        exact cz (k+1) ar ar [(20,some 20),(22,some 22),(23,some 23),(25,some 25),(167,some 205)] hI rfl rfl ⟨⟨_,rfl,.pure pu⟩,⟨_,rfl,.pure pu⟩,⟨_,rfl,.p rfl⟩,⟨_,rfl,.p rfl⟩,⟨_,rfl,.p rfl⟩,⟨_,rfl,.p rfl⟩,⟨_,rfl,.pure pu⟩,⟨_,rfl,.pure pu⟩,⟨_,rfl,.sl rfl aq⟩,⟨_,rfl,.pure pu⟩,trivial⟩ ⟨.inr ⟨_,_,rfl,rfl,.pure bL⟩,.inr ⟨_,_,rfl,rfl,.pure bL⟩,.inr ⟨_,_,rfl,rfl,.pure bL⟩,.inr ⟨_,_,rfl,rfl,.pure bL⟩,.inr ⟨_,_,rfl,rfl,.pure bL⟩,trivial⟩
       ·have h185 : ¬ k < (cE (cJ x i τ ids) others).length := by have := of_decide_eq_false hc185; omega
        have hw2:=V6.uN h185
        refine aa [469,426,428,446,543,178,525,461,451,179,180,518] ?_
        exact cz (k+1) ar ar [(20,some 20),(22,some 22),(23,some 23),(25,some 25),(167,some 205)] hI rfl rfl ⟨⟨_,rfl,.pure pu⟩,⟨_,rfl,.pure pu⟩,⟨_,rfl,.p rfl⟩,⟨_,rfl,.p rfl⟩,⟨_,rfl,.p rfl⟩,⟨_,rfl,.p rfl⟩,⟨_,rfl,.pure pu⟩,⟨_,rfl,.pure pu⟩,⟨_,rfl,.sl rfl aq⟩,⟨_,rfl,.pure pu⟩,trivial⟩ ⟨.inr ⟨_,_,rfl,rfl,.pure bL⟩,.inr ⟨_,_,rfl,rfl,.pure bL⟩,.inr ⟨_,_,rfl,rfl,.pure bL⟩,.inr ⟨_,_,rfl,rfl,.pure bL⟩,.inr ⟨_,_,rfl,rfl,.pure bL⟩,trivial⟩
      ·have h177 : ¬ k < (cE (cJ x i τ ids) asked).length := by have := of_decide_eq_false hc177; omega
       have hw1:=V6.uN h177
       refine aa [465,453,512] ?_
       refine b7 rfl (fun hc185=>?_) (fun hc185=>?_)
       ·have h185 : k < (cE (cJ x i τ ids) others).length := by have := of_decide_eq_true hc185; omega
        have hw2:=V6.sM h185
        refine aa [451,37] ?_
        refine s1 (bM bP rfl rfl (V6.tT h185)) rfl ?_
        refine aa [487,429,427,446,543,178,525,461,451,179,180,518] ?_
        exact cz (k+1) ar ar [(20,some 20),(22,some 22),(23,some 23),(25,some 25),(167,some 205)] hI rfl rfl ⟨⟨_,rfl,.pure pu⟩,⟨_,rfl,.pure pu⟩,⟨_,rfl,.p rfl⟩,⟨_,rfl,.p rfl⟩,⟨_,rfl,.p rfl⟩,⟨_,rfl,.p rfl⟩,⟨_,rfl,.pure pu⟩,⟨_,rfl,.pure pu⟩,⟨_,rfl,.sl rfl aq⟩,⟨_,rfl,.pure pu⟩,trivial⟩ ⟨.inr ⟨_,_,rfl,rfl,.pure bL⟩,.inr ⟨_,_,rfl,rfl,.pure bL⟩,.inr ⟨_,_,rfl,rfl,.pure bL⟩,.inr ⟨_,_,rfl,rfl,.pure bL⟩,.inr ⟨_,_,rfl,rfl,.pure bL⟩,trivial⟩
       ·have h185 : ¬ k < (cE (cJ x i τ ids) others).length := by have := of_decide_eq_false hc185; omega
        have hw2:=V6.uN h185
        refine aa [469,429,428,446,543,178,525,461,451,179,180,518] ?_
        exact cz (k+1) ar ar [(20,some 20),(22,some 22),(23,some 23),(25,some 25),(167,some 205)] hI rfl rfl ⟨⟨_,rfl,.pure pu⟩,⟨_,rfl,.pure pu⟩,⟨_,rfl,.p rfl⟩,⟨_,rfl,.p rfl⟩,⟨_,rfl,.p rfl⟩,⟨_,rfl,.p rfl⟩,⟨_,rfl,.pure pu⟩,⟨_,rfl,.pure pu⟩,⟨_,rfl,.sl rfl aq⟩,⟨_,rfl,.pure pu⟩,trivial⟩ ⟨.inr ⟨_,_,rfl,rfl,.pure bL⟩,.inr ⟨_,_,rfl,rfl,.pure bL⟩,.inr ⟨_,_,rfl,rfl,.pure bL⟩,.inr ⟨_,_,rfl,rfl,.pure bL⟩,.inr ⟨_,_,rfl,rfl,.pure bL⟩,trivial⟩
     ·have h171 : k = coins.length := by have := of_decide_eq_false hc171; omega
      subst h171
      refine aa [463] ?_
      refine eR 36 rfl rfl bL (c5 aB rfl) <| gr 36 rfl (v':=dr (twins 520 (cE (cJ x i τ ids) asked) (cE (cJ x i τ ids) others) coins)) (congrArg (fun z=>A.fz z _) (F9 ..).symm) ?_
      refine aa [1,48,446] ?_
      refine bK rfl (bX false rfl (.cons (.pure pu) (.cons (.pure pu) (.cons (.pure pu) (.nil)))) (bO.cast (sx (cJ x i τ ids) (fH _ _) others (twins 520 (cE (cJ x i τ ids) asked) (cE (cJ x i τ ids) others) coins)) hX) pu (.inl rfl) rfl ?_)
      refine aa [466] ?_
      refine bK rfl (cB 42 rfl cZ rfl rfl ?_)
      refine bK rfl (cB 43 rfl cZ rfl rfl ?_)
      refine aa [526,458,14,0,181,28,181,28] ?_
      refine fg rfl rfl rfl (bX false rfl (.cons (.pure pu) (.cons (.pure pu) (.nil))) (bO.cast (HF a a ham) (congrArg A.b (beq_self_eq_true _))) pu (.inl rfl) rfl ?_)
      refine aa [446,181,28,181,28] ?_
      refine fg rfl rfl rfl (bX false rfl (.cons (.pure pu) (.cons (.pure pu) (.nil))) (bO.cast (HF b b hbm) (congrArg A.b (beq_self_eq_true _))) pu (.inl rfl) rfl ?_)
      refine aa [520] ?_
      refine bW (rs:= [.tmp 14]) rfl (bT rfl bR) ?_
      rfl
-- T1E
theorem S3:bO Tryz.prog 4 [] (cn (.b true)):=by
 refine enter Tryz.func4 rfl Tryz.ntmps4 aw (Nat.le_of_ble_eq_true rfl) fun w0 X0 hI=>?_
 refine aa [537] ?_
 refine s1 ((T1 (vs:= [_]) b5 rfl aw Tryz.underlying23 cc rfl rfl aB rfl rfl).v (v':= .ag (oE.map u8)) aw) rfl <| bK rfl (cB 1 rfl b5 rfl rfl ?_)
 refine aa [9,454] ?_
 refine s1 (cg b5 rfl rfl az) rfl ?_
 refine aa [259,324] ?_
 refine bK rfl (rT Tryz.underlying30 jc rfl rfl rfl aK (show _=jC [⟨5,2⟩]from rfl) bL rfl rfl rfl ?_)
 refine bK rfl (bX false rfl (.cons (.pure pu) (.cons (.pure pu) (.cons .nl (.cons (.pure pu) (.cons (.pure pu) (.cons (.pure pu) (.cons (.pure pu) .nil))))))) (bO.cast (Ai oE 1 [] 0 4 [3,5] cT az Pu az (rg_of az az) (rg_of az az) az az (Ht az)) (show _=A.tu [fa [eT],.i .i64 0] by rw [xG];rfl)) pu (.inl rfl) rfl ?_)
 refine aa [466,487] ?_
 refine bK rfl (oA 17 rfl 132 132 Tryz.underlying26 cL rfl rfl rfl rfl rfl av av av rfl ?_)
 refine aa [452,475] ?_
 refine cO (ι:=Nat) (fun k=> [(1,.p 1 0),(2,fa [eT]),(3,.i .i64 0),(4,.sl 17 1 0 132),(5,nJ k)]) (fun k=>⟨[(1,some (oE.map u8)),(17,some (ru k))]⟩) (fun k=>k≤132) (fun k=>132 - k) ?_ ?_
 ·exact cN (0) (Nat.zero_le _) [(1,some 1),(17,some 17)] hI rfl rfl ⟨⟨_,rfl,.p rfl⟩,⟨_,rfl,.pure pu⟩,⟨_,rfl,.pure pu⟩,⟨_,rfl,.sl rfl aq⟩,⟨_,rfl,.pure pu⟩,trivial⟩ ⟨.inr ⟨_,_,rfl,rfl,.pure bL⟩,.inr ⟨_,_,rfl,rfl,.of aw (.pure bL)⟩,trivial⟩
 intro k hk
 have hcl:=Oj hk
 refine aa [481,23,447] ?_
 refine b7 rfl (fun hc21=>?_) (fun hc21=>?_)
 ·have h21 : k < 132 := by have := of_decide_eq_true hc21; omega
  refine aa [482,451] ?_
  refine bK rfl (oA 26 rfl 65 65 Tryz.underlying47 cc rfl rfl rfl rfl rfl av av av rfl ?_)
  refine eR 26 rfl rfl bL (c5 aB rfl) <| gr 26 rfl (v':=V6.cA oM) aw <| s1 (ij _ Tryz.underlying26 cL rfl rfl rfl rfl ar rfl) rfl ?_
  refine aa [302,8,492] ?_
  exact cz (k+1) ar ar [(1,some 1),(17,some 17)] hI rfl rfl ⟨⟨_,rfl,.p rfl⟩,⟨_,rfl,.pure pu⟩,⟨_,rfl,.pure pu⟩,⟨_,rfl,.sl rfl aq⟩,⟨_,rfl,.pure pu⟩,trivial⟩ ⟨.inr ⟨_,_,rfl,rfl,.pure bL⟩,.inr ⟨_,_,rfl,rfl,.of (by rw [Nat.zero_add,Nat.mul_one];exact Lo h21) (.pure bL)⟩,trivial⟩
 ·have h21 : k = 132 := by have := of_decide_eq_false hc21; omega
  subst h21
  refine aa [463] ?_
  refine eR 4 rfl rfl bL (c5 (by rw [hcl]) rfl) <| gr 4 rfl (v':= .fz (List.replicate 132 oM).length ((List.replicate 132 oM).map V6.cA)) (congrArg (A.fz 132) Ln) ?_
  obtain⟨e,τ,hE⟩:=Ag Ns KJ (i:=0) az
  refine bJ <| s1 (cg b5 rfl rfl az) rfl ?_
  refine aa [0,259,259,0] ?_
  refine bK rfl (bX false rfl (.cons (.pure pu) (.cons (.pure pu) (.cons (.pure pu) (.cons (.pure pu) (.cons (.pure pu) (.cons (.pure pu) (.nil))))))) (bO.cast (BV oE az [eT] Pv az 0 e τ [3,5] hE az [5,3] az az (List.replicate 132 oM) aB (fun q hq=>by rw [List.eq_of_mem_replicate hq];simp)) (by rw [MB hE.form])) pu (.inl rfl) rfl ?_)
  refine aa [466,458,14,494,507,260,34,507] ?_
  refine g1 rfl rfl (cD 0 Tryz.underlying48 kU rfl rfl rfl az rfl) rfl <| g1 rfl rfl (bM kU rfl rfl rfl) rfl ?_
  refine aa [507] ?_
  refine g1 rfl rfl (cD 1 Tryz.underlying48 kU rfl rfl rfl az rfl) rfl <| g1 rfl rfl (bM kU rfl rfl rfl) rfl ?_
  refine aa [7,520] ?_
  refine bW (rs:= [.tmp 0]) rfl (bT rfl bR) ?_
  rfl
-- T1F
theorem Oe (x : List UInt8) (n iss : Int) (ids : List Int) (S : List Sp) (day : Int) (asked others : List Int) (coins : List (List UInt8)) (hx : x.length = 32) (hi : rg iss) (hnn : ids.length ≤ maxLen) (hS0 : S.length ≤ maxLen) (hS : ∀ s ∈ S, s.ok ∧ s.ch.length ≤ maxLen) (han : asked.length ≤ maxLen) (hon : others.length ≤ maxLen) (hcn : coins.length ≤ maxLen) : bO Tryz.prog 3 [.ag (x.map u8), .i .i64 n, .i .i64 iss, .fz ids.length (ids.map (A.i .i64)), .fz S.length (oG S), .i .i64 day, .fz asked.length (asked.map (A.i .i64)), .fz others.length (others.map (A.i .i64)), .fz coins.length (coins.map V6.cA)] (cn (.b true)) := by
 refine enter Tryz.func3 rfl Tryz.ntmps3 aw (Nat.le_of_ble_eq_true rfl) fun w0 X0 hI=>?_
 refine bH <| bJ <| bK rfl (dh 9 rfl rfl rfl ?_)
 refine aa [508] ?_
 refine bK rfl (bX false rfl (.nil) (S3) pu (.inl rfl) rfl ?_)
 refine aa [497,465,3] ?_
 rcases M8 S n ids asked others (V6.k5 coins 140)with hcs|hcs|hcs|hcs|hcs|hcs|hcs
 ·skip
  refine aa [450,63] ?_
  refine s1 ((bF rfl).v (v':= .b true) (congrArg A.b (decide_eq_true ar))) rfl ?_
  refine aa [0,547,490,490,490,490,485,504,26] ?_
  rfl
 ·obtain ⟨hg1, hg2⟩ := hcs
  refine aa [450,63,62,494,99,490,490,490,490,485,504,26] ?_
  rfl
 ·obtain ⟨hg1, hg2, hg3⟩ := hcs
  refine aa [450,63,62,494,511,99,490,490,490,485,504,26] ?_
  rfl
 ·obtain ⟨hg1, hg2, hg3, hg4⟩ := hcs
  refine aa [450,63,62,494,511,511,99,490,490,485,504,26] ?_
  rfl
 ·obtain ⟨hg1, hg2, hg3, hg4, hg5⟩ := hcs
  refine aa [450,63,62,494,511,511,511,99,490,485,504,26] ?_
  rfl
 ·obtain ⟨hg1, hg2, hg3, hg4, hg5, hfw⟩ := hcs
  refine aa [450,63,62,494,511,511,511,554,430,7,485,504,26] ?_
  rfl
 ·obtain ⟨hg1, hg2, hg3, hg4, hg5, hfw⟩ := hcs
  refine aa [450,63,62,494,511,511,511,554,430,7,468,469] ?_
  refine bK rfl (rT Tryz.underlying29 eo rfl rfl rfl aK (show kL []= []from rfl) bL rfl rfl rfl ?_)
  refine aa [452,475] ?_
  refine cO (ι:=Nat×List Ep) (fun⟨i,l⟩=> [(1,.i .i64 n),(2,.i .i64 iss),(3,.fz ids.length (ids.map (A.i .i64))),(4,.fz S.length (oG S)),(5,.i .i64 day),(6,.fz asked.length (asked.map (A.i .i64))),(7,.fz others.length (others.map (A.i .i64))),(8,.fz coins.length (coins.map V6.cA)),(9,.p 9 0),(19,fa l),(20,nJ i)]) (fun⟨i,l⟩=>⟨[(9,some (x.map u8))]⟩) (fun⟨i,l⟩=>i≤S.length∧ga l∧l.length≤i∧Good x n l∧oN x ids l) (fun⟨i,l⟩=>S.length - i) ?_ ?_
  ·exact cN ((0, [])) (⟨Nat.zero_le _,(fun e he=>by cases he),Nat.le_refl _,Fm _ _,Dm _ _⟩) [(9,some 9)] hI rfl rfl ⟨⟨_,rfl,.pure pu⟩,⟨_,rfl,.pure pu⟩,⟨_,rfl,.pure pu⟩,⟨_,rfl,.pure pu⟩,⟨_,rfl,.pure pu⟩,⟨_,rfl,.pure pu⟩,⟨_,rfl,.pure pu⟩,⟨_,rfl,.pure pu⟩,⟨_,rfl,.p rfl⟩,⟨_,rfl,.pure pu⟩,⟨_,rfl,.pure pu⟩,trivial⟩ ⟨.inr ⟨_,_,rfl,rfl,.pure bL⟩,trivial⟩
  rintro⟨i,l⟩ ⟨hii,hl,hll,hg,hcas⟩
  dsimp only
  refine aa [481,63,447] ?_
  refine b7 rfl (fun hc69=>?_) (fun hc69=>?_)
  ·have h69 : i < S.length := by have := of_decide_eq_true hc69; omega
   obtain⟨s,hs⟩:∃s,S[i]? =some s:=⟨_,List.getElem?_eq_getElem h69⟩
   have hsm:=List.mem_of_getElem? hs
   have hso:=(hS s hsm).1
   refine aa [482,481] ?_
   refine s1 (cD i Tryz.underlying25 uL rfl rfl rfl ar rfl) rfl <| s1 (fV Tryz.underlying32 rfl ib az rfl rfl) rfl <| s1 (bM ib rfl rfl (uG hs (k:=1) rfl az)) rfl ?_
   refine aa [125,447] ?_
   refine b7 rfl (fun hc78=>?_) (fun hc78=>?_)
   ·skip
    refine aa [480,519,519,26] ?_
    rfl
   ·have h78 : s.ch.length ≤ 10 := by have := of_decide_eq_false hc78; omega
    refine bY <| bG <| bH ?_
    rcases SF (gy x n l iss s.day ids s.ch)with hcs|hcs
    ·obtain ⟨v, hp⟩ := hcs
     have hv:=Qh hp
     refine eG ⟨_, [], []⟩ 20 4 c8 (le_refl rfl) ?_
     refine aa [431,16,69,66,88,85,432,433,434] ?_
     refine bQ 9 [] [] (bF rfl) rfl rfl ?_
     refine aa [137,201,435,436,437] ?_
     refine ee false 15 [0,1,2,3,8,9,14] [] cK rfl (.cons (.pure pu) (.cons (.pure pu) (.cons (.pure pu) (.cons (.pure pu) (.cons (.pure pu) (.cons (.pure pu) (.cons (.pure pu) (.nil)))))))) (bO.cast (Ai x n l iss s.day ids s.ch hx hl ar hi hso.1 ar ar hso.2) (show _=A.tu [.nl,.i .i64 v] by rw [hp];rfl)) pu (.inl rfl) rfl rfl <| bQ 16 [15] [] (bF rfl) rfl rfl <| bQ 17 [16] [] (bF rfl) rfl rfl <| bQ 18 [16] [] (bF rfl) rfl rfl <| bQ 19 [17] [] (bF rfl) rfl rfl ?_
     refine aa [4,458] ?_
     refine s1 ((bF rfl).v (v':= .b false) (congrArg A.b (beq_eq_false_iff_ne.2 hv))) rfl ?_
     refine aa [548,19,492] ?_
     exact cz (x:=(i,l)) ((i+1,l)) (⟨show i+1≤S.length by omega,hl,show l.length≤i+1 by omega,hg,hcas⟩) (show S.length - (i+1)<S.length - i by omega) [(9,some 9)] hI rfl rfl ⟨⟨_,rfl,.pure pu⟩,⟨_,rfl,.pure pu⟩,⟨_,rfl,.pure pu⟩,⟨_,rfl,.pure pu⟩,⟨_,rfl,.pure pu⟩,⟨_,rfl,.pure pu⟩,⟨_,rfl,.pure pu⟩,⟨_,rfl,.pure pu⟩,⟨_,rfl,.p rfl⟩,⟨_,rfl,.pure pu⟩,⟨_,rfl,.pure pu⟩,trivial⟩ ⟨.inr ⟨_,_,rfl,rfl,.pure bL⟩,trivial⟩
    ·obtain ⟨e, hp⟩ := hcs
     have hao:=Jk (x:=x) (n:=n) (ids:=ids) hl ar hi hso.1 (by omega:s.ch.length≤1000) hso.2
     rw [hp]at hao
     simp only [pZ]at hao
     refine eG ⟨_, [], []⟩ 20 4 c8 (le_refl rfl) ?_
     refine aa [431,16,69,66,88,85,432,433,434] ?_
     refine bQ 9 [] [] (bF rfl) rfl rfl ?_
     refine aa [137,201,435,436,437] ?_
     refine ee false 15 [0,1,2,3,8,9,14] [] cK rfl (.cons (.pure pu) (.cons (.pure pu) (.cons (.pure pu) (.cons (.pure pu) (.cons (.pure pu) (.cons (.pure pu) (.cons (.pure pu) (.nil)))))))) (bO.cast (Ai x n l iss s.day ids s.ch hx hl ar hi hso.1 ar ar hso.2) (show _=A.tu [fa (l++ [e]),.i .i64 0] by rw [hp];rfl)) pu (.inl rfl) rfl rfl <| bQ 16 [15] [] (bF rfl) rfl rfl <| bQ 17 [16] [] (bF rfl) rfl rfl <| bQ 18 [16] [] (bF rfl) rfl rfl <| bQ 19 [17] [] (bF rfl) rfl rfl ?_
     refine aa [4,458,513,451,8,492] ?_
     exact cz (x:=(i,l)) ((i+1,l++ [e])) (⟨show i+1≤S.length by omega,hao.1,Nat.le_trans hao.2 ar,FN hp hg,FM hp hcas⟩) (show S.length - (i+1)<S.length - i by omega) [(9,some 9)] hI rfl rfl ⟨⟨_,rfl,.pure pu⟩,⟨_,rfl,.pure pu⟩,⟨_,rfl,.pure pu⟩,⟨_,rfl,.pure pu⟩,⟨_,rfl,.pure pu⟩,⟨_,rfl,.pure pu⟩,⟨_,rfl,.pure pu⟩,⟨_,rfl,.pure pu⟩,⟨_,rfl,.p rfl⟩,⟨_,rfl,.pure pu⟩,⟨_,rfl,.pure pu⟩,trivial⟩ ⟨.inr ⟨_,_,rfl,rfl,.pure bL⟩,trivial⟩
  ·have h69 : i = S.length := by have := of_decide_eq_false hc69; omega
   subst h69
   refine aa [463] ?_
   rcases xA (oT l day)with hcs|hcs
   ·have hat := hcs
    refine aa [451] ?_
    refine bK rfl (bX false rfl (.cons (.pure pu) (.cons (.pure pu) (.nil))) (bO.cast (Ef l day hl aC) (show _=A.tu [.i .i64 0,.b false] by rw [hat];rfl)) pu (.inl rfl) rfl ?_)
    refine aa [466,452,479,183,3] ?_
    rcases J1 hat with hcs|hcs
    ·skip
     refine aa [450,38] ?_
     refine s1 ((bF rfl).v (v':= .b true) (congrArg A.b (by rw [hcs];rfl))) rfl ?_
     refine aa [0,505,547,520,49,26] ?_
     rfl
    ·obtain ⟨e, he, hd⟩ := hcs
     have h0:=(List.getElem?_eq_some_iff.1 he).1
     refine aa [450,38] ?_
     refine s1 ((bF rfl).v (v':= .b false) (congrArg A.b (beq_eq_false_iff_ne.2 ar))) rfl ?_
     refine aa [494] ?_
     refine g1 rfl rfl (cD 0 Tryz.underlying29 eo rfl rfl rfl ar rfl) rfl <| g1 rfl rfl (fV Tryz.underlying42 rfl bP az rfl rfl) rfl <| g1 rfl rfl (bM bP rfl rfl (ry hl he (k:=2) rfl az)) rfl ?_
     refine aa [7,99,520,49,26] ?_
     rfl
   ·obtain ⟨j, hat⟩ := hcs
    obtain⟨hj,_,_⟩:=J7 hat
    obtain⟨e,τ,hE⟩:=Ag hg hcas hj
    have hsu:=hE.sup
    have hst:=hE.sts
    have hne:l≠ []:=fun h0=>by rw [h0]at hj;exact absurd hj aB
    have hsz:=hg.size hne
    have hck:=hg.vL
    refine aa [451] ?_
    refine bK rfl (bX false rfl (.cons (.pure pu) (.cons (.pure pu) (.nil))) (bO.cast (Ef l day hl aC) (show _=A.tu [nJ j,.b true] by rw [hat];rfl)) pu (.inl rfl) rfl ?_)
    refine aa [466,452,479,101,465,445,62,494,7,418,122,468,469,61,0] ?_
    refine bK rfl (bX false rfl (.cons (.pure pu) (.cons (.pure pu) (.nil))) (bO.cast (QT x n hx) (show _=A.tu [.ag ((fY x n).map u8),.i .i64 0]from(BA ..).trans (by rw [decide_eq_true hsz];rfl))) pu (.inl rfl) rfl ?_)
    refine aa [471] ?_
    refine bK rfl (cB 25 rfl b5 rfl rfl ?_)
    refine aa [9,491,53,0] ?_
    refine g1 rfl rfl (cg b5 rfl rfl aB) rfl ?_
    refine aa [7,7] ?_
    refine fg rfl rfl rfl (bX false rfl (.cons (.pure pu) (.cons (.pure pu) (.cons (.pure pu) (.nil)))) (bO.cast (L8 (fY x n) n l aB hl aC) (congrArg (A.i .i64) hck)) pu (.inl rfl) rfl ?_)
    refine aa [17,468,465,475] ?_
    refine cO (ι:=Nat) (fun k=> [(1,.i .i64 n),(3,.fz ids.length (ids.map (A.i .i64))),(6,.fz asked.length (asked.map (A.i .i64))),(7,.fz others.length (others.map (A.i .i64))),(8,.fz coins.length (coins.map V6.cA)),(9,.p 9 0),(19,fa l),(23,nJ j),(27,nJ k)]) (fun k=>⟨[(9,some (x.map u8))]⟩) (fun k=>k≤asked.length∧∀q∈asked.take k,q∈ids) (fun k=>asked.length - k) ?_ ?_
    ·exact cN (0) (⟨Nat.zero_le _,by simp⟩) [(9,some 9)] hI rfl rfl ⟨⟨_,rfl,.pure pu⟩,⟨_,rfl,.pure pu⟩,⟨_,rfl,.pure pu⟩,⟨_,rfl,.pure pu⟩,⟨_,rfl,.pure pu⟩,⟨_,rfl,.p rfl⟩,⟨_,rfl,.pure pu⟩,⟨_,rfl,.pure pu⟩,⟨_,rfl,.pure pu⟩,trivial⟩ ⟨.inr ⟨_,_,rfl,rfl,.pure bL⟩,trivial⟩
    rintro k ⟨hk,has⟩
    refine aa [481,512] ?_
    refine b7 rfl (fun hc146=>?_) (fun hc146=>?_)
    ·have h146 : k < asked.length := by have := of_decide_eq_true hc146; omega
     obtain⟨q,hq⟩:∃q,asked[k]? =some q:=⟨_,List.getElem?_eq_getElem h146⟩
     refine aa [482,489,516] ?_
     refine bK rfl (bX false rfl (.cons (.pure pu) (.cons (.pure pu) (.nil))) (SW ids q hnn) pu (.inl rfl) rfl ?_)
     refine aa [447] ?_
     refine b7 rfl (fun hc155=>?_) (fun hc155=>?_)
     ·skip
      refine aa [480,495,26] ?_
      rfl
     ·have hqi : q ∈ ids := by simpa using hc155
      refine aa [19,492] ?_
      exact cz (k+1) (⟨by omega,Jz hq has hqi⟩) ar [(9,some 9)] hI rfl rfl ⟨⟨_,rfl,.pure pu⟩,⟨_,rfl,.pure pu⟩,⟨_,rfl,.pure pu⟩,⟨_,rfl,.pure pu⟩,⟨_,rfl,.pure pu⟩,⟨_,rfl,.p rfl⟩,⟨_,rfl,.pure pu⟩,⟨_,rfl,.pure pu⟩,⟨_,rfl,.pure pu⟩,trivial⟩ ⟨.inr ⟨_,_,rfl,rfl,.pure bL⟩,trivial⟩
    ·have h146 : k = asked.length := by have := of_decide_eq_false hc146; omega
     subst h146
     rw [List.take_length]at has
     refine aa [463,445,23,447] ?_
     refine b7 rfl (fun hc158=>?_) (fun hc158=>?_)
     ·skip
      refine aa [504,26] ?_
      rfl
     ·have h132 : coins.length = 132 := by simp at hc158; omega
      refine aa [465,475] ?_
      refine cO (ι:=Nat) (fun k=> [(1,.i .i64 n),(3,.fz ids.length (ids.map (A.i .i64))),(6,.fz asked.length (asked.map (A.i .i64))),(7,.fz others.length (others.map (A.i .i64))),(8,.fz coins.length (coins.map V6.cA)),(9,.p 9 0),(19,fa l),(23,nJ j),(28,nJ k)]) (fun k=>⟨[(9,some (x.map u8))]⟩) (fun k=>k≤coins.length∧∀q∈coins.take k,q.length=65) (fun k=>coins.length - k) ?_ ?_
      ·exact cN (0) (⟨Nat.zero_le _,by simp⟩) [(9,some 9)] hI rfl rfl ⟨⟨_,rfl,.pure pu⟩,⟨_,rfl,.pure pu⟩,⟨_,rfl,.pure pu⟩,⟨_,rfl,.pure pu⟩,⟨_,rfl,.pure pu⟩,⟨_,rfl,.p rfl⟩,⟨_,rfl,.pure pu⟩,⟨_,rfl,.pure pu⟩,⟨_,rfl,.pure pu⟩,trivial⟩ ⟨.inr ⟨_,_,rfl,rfl,.pure bL⟩,trivial⟩
      rintro k ⟨hk,h65⟩
      refine aa [481,23,447] ?_
      refine b7 rfl (fun hc162=>?_) (fun hc162=>?_)
      ·have h162 : k < coins.length := by have := of_decide_eq_true hc162; omega
       obtain⟨q,hq⟩:∃q,coins[k]? =some q:=⟨_,List.getElem?_eq_getElem h162⟩
       refine aa [482,453,543,24,447] ?_
       refine b7 rfl (fun hc170=>?_) (fun hc170=>?_)
       ·skip
        refine aa [480,495,26] ?_
        rfl
       ·have hq65 : q.length = 65 := by simp at hc170; omega
        refine aa [19,492] ?_
        exact cz (k+1) (⟨by omega,JA hq h65 hq65⟩) ar [(9,some 9)] hI rfl rfl ⟨⟨_,rfl,.pure pu⟩,⟨_,rfl,.pure pu⟩,⟨_,rfl,.pure pu⟩,⟨_,rfl,.pure pu⟩,⟨_,rfl,.pure pu⟩,⟨_,rfl,.p rfl⟩,⟨_,rfl,.pure pu⟩,⟨_,rfl,.pure pu⟩,⟨_,rfl,.pure pu⟩,trivial⟩ ⟨.inr ⟨_,_,rfl,rfl,.pure bL⟩,trivial⟩
      ·have h162 : k = coins.length := by have := of_decide_eq_false hc162; omega
       subst h162
       rw [List.take_length]at h65
       refine aa [483,61,466,0] ?_
       refine bK rfl (bX false rfl (.cons (.pure pu) (.cons (.pure pu) (.cons (.pure pu) (.cons (.pure pu) (.cons (.pure pu) (.cons (.pure pu) (.nil))))))) (bO.cast (BV x hx l hl ar j e τ ids hE ar asked ar has coins h132 h65) rfl) pu (.inl rfl) rfl ?_)
       refine aa [466,455] ?_
       refine bK rfl (bX false rfl (.cons (.pure pu) (.cons (.pure pu) (.nil))) (bO.cast (Ak l (j:Nat) hl ar) (show _=A.tu [gD (fG τ),.i .i64 0] by rw [hst];rfl)) pu (.inl rfl) rfl ?_)
       refine aa [549,499,17,507,260,7,98,438,468,465,475] ?_
       refine cO (ι:=Nat) (fun k=> [(3,.fz ids.length (ids.map (A.i .i64))),(6,.fz asked.length (asked.map (A.i .i64))),(7,.fz others.length (others.map (A.i .i64))),(8,.fz coins.length (coins.map V6.cA)),(9,.p 9 0),(19,fa l),(23,nJ j),(29,oa (rD τ asked)),(30,gD (fG τ)),(32,nJ k)]) (fun k=>⟨[(9,some (x.map u8))]⟩) (fun k=>k≤asked.length) (fun k=>asked.length - k) ?_ ?_
       ·exact cN (0) (Nat.zero_le _) [(9,some 9)] hI rfl rfl ⟨⟨_,rfl,.pure pu⟩,⟨_,rfl,.pure pu⟩,⟨_,rfl,.pure pu⟩,⟨_,rfl,.pure pu⟩,⟨_,rfl,.p rfl⟩,⟨_,rfl,.pure pu⟩,⟨_,rfl,.pure pu⟩,⟨_,rfl,.pure pu⟩,⟨_,rfl,.pure pu⟩,⟨_,rfl,.pure pu⟩,trivial⟩ ⟨.inr ⟨_,_,rfl,rfl,.pure bL⟩,trivial⟩
       intro k hk
       refine aa [481,512] ?_
       refine b7 rfl (fun hc203=>?_) (fun hc203=>?_)
       ·have h203 : k < asked.length := by have := of_decide_eq_true hc203; omega
        obtain⟨q,hq⟩:∃q,asked[k]? =some q:=⟨_,List.getElem?_eq_getElem h203⟩
        have hxq:∀ρ:Int→Int,(rD ρ asked)[k]? =some (ρ q !=0):=fun ρ=>by rw [List.getElem?_map,hq];rfl
        refine aa [482,3,3,133,31,16] ?_
        refine bQ 2 [0,1] [] (cD k Tryz.underlying48 kU rfl rfl rfl aL rfl) rfl rfl <| bQ 3 [2] [] (bM kU rfl rfl (Fh (hxq τ))) rfl rfl ?_
        refine aa [88,85,138] ?_
        refine bQ 7 [5,6] [] (cD k Tryz.underlying24 bP rfl rfl rfl ar rfl) rfl rfl <| bQ 8 [7] [] (bM bP rfl rfl (gX hq)) rfl rfl <| ee false 9 [4,8] [] cK rfl (.cons (.pure pu) (.cons (.pure pu) (.nil))) (bO.cast (yg (fG τ) q (by have:=vJ τ;simp only [maxLen];omega)) (congrArg (A.i .i64) (xY hsu q))) pu (.inl rfl) rfl rfl <| bQ 10 [9] [] (bF rfl) rfl rfl <| eH aw <| s1 ((Cf Tryz.underlying4 rfl rfl).v (v':= .b false) (congrArg A.b aB)) rfl ?_
        refine aa [548,465,489,516,255,447] ?_
        refine b7 rfl (fun hc224=>?_) (fun hc224=>?_)
        ·skip
         refine aa [553,263,64,450,555] ?_
         exact cz (k+1) ar ar [(9,some 9)] hI rfl rfl ⟨⟨_,rfl,.pure pu⟩,⟨_,rfl,.pure pu⟩,⟨_,rfl,.pure pu⟩,⟨_,rfl,.pure pu⟩,⟨_,rfl,.p rfl⟩,⟨_,rfl,.pure pu⟩,⟨_,rfl,.pure pu⟩,⟨_,rfl,.pure pu⟩,⟨_,rfl,.pure pu⟩,⟨_,rfl,.pure pu⟩,trivial⟩ ⟨.inr ⟨_,_,rfl,rfl,.pure bL⟩,trivial⟩
        ·have h224 : τ q = 2 := by simpa using hc224
         refine aa [461,479,13] ?_
         refine cO (ι:=Nat) (fun m=> [(3,.fz ids.length (ids.map (A.i .i64))),(6,.fz asked.length (asked.map (A.i .i64))),(7,.fz others.length (others.map (A.i .i64))),(8,.fz coins.length (coins.map V6.cA)),(9,.p 9 0),(19,fa l),(23,nJ j),(29,oa (rD τ asked)),(30,gD (fG τ)),(32,nJ k),(33,nJ m)]) (fun m=>⟨[(9,some (x.map u8))]⟩) (fun m=>j≤m∧m≤l.length) (fun m=>l.length - m) ?_ ?_
         ·exact cN (j) (⟨Nat.le_refl _,by omega⟩) [(9,some 9)] hI rfl rfl ⟨⟨_,rfl,.pure pu⟩,⟨_,rfl,.pure pu⟩,⟨_,rfl,.pure pu⟩,⟨_,rfl,.pure pu⟩,⟨_,rfl,.p rfl⟩,⟨_,rfl,.pure pu⟩,⟨_,rfl,.pure pu⟩,⟨_,rfl,.pure pu⟩,⟨_,rfl,.pure pu⟩,⟨_,rfl,.pure pu⟩,⟨_,rfl,.pure pu⟩,trivial⟩ ⟨.inr ⟨_,_,rfl,rfl,.pure bL⟩,trivial⟩
         rintro m ⟨hjm,hm⟩
         refine aa [481,38,447] ?_
         refine b7 rfl (fun hc229=>?_) (fun hc229=>?_)
         ·have h229 : m < l.length := by have := of_decide_eq_true hc229; omega
          obtain⟨e2,ρ,hE2⟩:=Ag hg hcas h229
          have hρ:ρ q=2:=QL hg hE.form h224 m hjm h229 ρ hE2.form
          refine aa [462,61,466,0] ?_
          refine bK rfl (bX false rfl (.cons (.pure pu) (.cons (.pure pu) (.cons (.pure pu) (.cons (.pure pu) (.cons (.pure pu) (.cons (.pure pu) (.nil))))))) (bO.cast (BV x hx l hl ar m e2 ρ ids hE2 ar asked ar has coins h132 h65) rfl) pu (.inl rfl) rfl ?_)
          refine aa [466,458,499,260,7,98,438,507,7] ?_
          refine g1 rfl rfl (cD k Tryz.underlying48 kU rfl rfl rfl aL rfl) rfl <| g1 rfl rfl (bM kU rfl rfl (Fh (hxq ρ))) rfl <| g1 rfl rfl ((bF rfl).v (v':= .b false) (congrArg A.b (by rw [hρ];rfl))) rfl ?_
          refine aa [468,19,492] ?_
          exact cz (m+1) (⟨by omega,by omega⟩) ar [(9,some 9)] hI rfl rfl ⟨⟨_,rfl,.pure pu⟩,⟨_,rfl,.pure pu⟩,⟨_,rfl,.pure pu⟩,⟨_,rfl,.pure pu⟩,⟨_,rfl,.p rfl⟩,⟨_,rfl,.pure pu⟩,⟨_,rfl,.pure pu⟩,⟨_,rfl,.pure pu⟩,⟨_,rfl,.pure pu⟩,⟨_,rfl,.pure pu⟩,⟨_,rfl,.pure pu⟩,trivial⟩ ⟨.inr ⟨_,_,rfl,rfl,.pure bL⟩,trivial⟩
         ·skip
          refine aa [527,492] ?_
          exact cz (k+1) ar ar [(9,some 9)] hI rfl rfl ⟨⟨_,rfl,.pure pu⟩,⟨_,rfl,.pure pu⟩,⟨_,rfl,.pure pu⟩,⟨_,rfl,.pure pu⟩,⟨_,rfl,.p rfl⟩,⟨_,rfl,.pure pu⟩,⟨_,rfl,.pure pu⟩,⟨_,rfl,.pure pu⟩,⟨_,rfl,.pure pu⟩,⟨_,rfl,.pure pu⟩,trivial⟩ ⟨.inr ⟨_,_,rfl,rfl,.pure bL⟩,trivial⟩
       ·skip
        refine aa [483,61,542] ?_
        refine bK rfl (bX false rfl (.cons (.pure pu) (.cons (.pure pu) (.cons (.pure pu) (.cons (.pure pu) (.cons (.pure pu) (.cons (.pure pu) (.cons (.pure pu) (.nil)))))))) (SX x hx l hl ar j e τ ids hE ar asked ar has others coins h132 h65) pu (.inl rfl) rfl ?_)
        refine aa [449,26] ?_
        rfl
end Go.Abs.D2
