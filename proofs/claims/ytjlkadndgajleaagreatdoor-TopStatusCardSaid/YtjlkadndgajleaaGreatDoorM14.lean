/-
  The engine, the plain laws and the walks that the rows need, part 14. Conditions: none.
-/
import Derived.Test.YtjlkadndgajleaaGreatDoorM13
import Derived.Test.YtjlkadndgajleaaGreatDoorProg
import Derived.KernelRfl
set_option linter.unusedVariables false
set_option linter.unusedSimpArgs false
set_option maxHeartbeats 1000000
set_option maxRecDepth 10000
-- Ty
namespace Go.Abs
open Go Go.Eng Go.Proofs
theorem c8:Tryz.prog.follows .mixedOrders=true:=by kernel_rfl
theorem bP:TI Tryz.prog 3 1 8 [.int .i64 0] false:=TI.of (z:= .int .i64 0) aw Tryz.underlying3 rfl rfl
theorem kU:TI Tryz.prog 4 1 1 [.bool false] false:=TI.of (z:= .bool false) aw Tryz.underlying4 rfl rfl
theorem cc:TI Tryz.prog 5 1 1 [.int .u8 0] false:=TI.of (z:= .int .u8 0) aw Tryz.underlying5 rfl rfl
theorem pL:TI Tryz.prog 9 1 16 [.string ByteArray.empty] false:=TI.of (z:= .string ByteArray.empty) aw Tryz.underlying9 rfl rfl
theorem BZ:TI Tryz.prog 20 1 16 [.nilIface] false:=TI.of (z:= .nilIface) aw Tryz.underlying20 rfl rfl
theorem b5:TI Tryz.prog 23 32 32 (List.replicate 32 (.int .u8 0)) true:=TI.of (z:= .agg (List.replicate 32 (.int .u8 0):List Value).toArray) aw Tryz.underlying23 rfl rfl
theorem fD:TI Tryz.prog 24 1 24 [.slice none 0 0] false:=TI.of (z:= .slice none 0 0) aw Tryz.underlying24 rfl rfl
theorem dC:TI Tryz.prog 26 1 24 [.slice none 0 0] false:=TI.of (z:= .slice none 0 0) aw Tryz.underlying26 rfl rfl
theorem oJ:TI Tryz.prog 27 1 8 [.nilFunc] false:=TI.of (z:= .nilFunc) aw Tryz.underlying27 rfl rfl
theorem iy:TI Tryz.prog 29 1 24 [.slice none 0 0] false:=TI.of (z:= .slice none 0 0) aw Tryz.underlying29 rfl rfl
theorem ib:TI Tryz.prog 30 1 24 [.slice none 0 0] false:=TI.of (z:= .slice none 0 0) aw Tryz.underlying30 rfl rfl
theorem uL:TI Tryz.prog 32 2 32 [.int .i64 0,.slice none 0 0] true:=TI.of (z:= .agg ([.int .i64 0,.slice none 0 0]:List Value).toArray) aw Tryz.underlying32 rfl rfl
theorem dK:TI Tryz.prog 33 1 8 [.int .i64 0] false:=TI.of (z:= .int .i64 0) aw Tryz.underlying33 rfl rfl
theorem qS:TI Tryz.prog 38 1 24 [.slice none 0 0] false:=TI.of (z:= .slice none 0 0) aw Tryz.underlying38 rfl rfl
theorem j5:TI Tryz.prog 40 3 56 [.int .i64 0,.slice none 0 0,.slice none 0 0] true:=TI.of (z:= .agg ([.int .i64 0,.slice none 0 0,.slice none 0 0]:List Value).toArray) aw Tryz.underlying40 rfl rfl
theorem eo:TI Tryz.prog 42 71 168 [.int .i64 0,.int .i64 0,.int .i64 0,.slice none 0 0,.int .u8 0,.int .u8 0,.int .u8 0,.int .u8 0,.int .u8 0,.int .u8 0,.int .u8 0,.int .u8 0,.int .u8 0,.int .u8 0,.int .u8 0,.int .u8 0,.int .u8 0,.int .u8 0,.int .u8 0,.int .u8 0,.int .u8 0,.int .u8 0,.int .u8 0,.int .u8 0,.int .u8 0,.int .u8 0,.int .u8 0,.int .u8 0,.int .u8 0,.int .u8 0,.int .u8 0,.int .u8 0,.int .u8 0,.int .u8 0,.int .u8 0,.int .u8 0,.int .u8 0,.int .u8 0,.int .u8 0,.int .u8 0,.int .u8 0,.int .u8 0,.int .u8 0,.int .u8 0,.int .u8 0,.int .u8 0,.int .u8 0,.int .u8 0,.int .u8 0,.int .u8 0,.int .u8 0,.int .u8 0,.int .u8 0,.int .u8 0,.int .u8 0,.int .u8 0,.int .u8 0,.int .u8 0,.int .u8 0,.int .u8 0,.int .u8 0,.int .u8 0,.int .u8 0,.int .u8 0,.int .u8 0,.int .u8 0,.int .u8 0,.int .u8 0,.int .i64 0,.slice none 0 0,.slice none 0 0] true:=TI.of (z:= .agg ([.int .i64 0,.int .i64 0,.int .i64 0,.slice none 0 0,.int .u8 0,.int .u8 0,.int .u8 0,.int .u8 0,.int .u8 0,.int .u8 0,.int .u8 0,.int .u8 0,.int .u8 0,.int .u8 0,.int .u8 0,.int .u8 0,.int .u8 0,.int .u8 0,.int .u8 0,.int .u8 0,.int .u8 0,.int .u8 0,.int .u8 0,.int .u8 0,.int .u8 0,.int .u8 0,.int .u8 0,.int .u8 0,.int .u8 0,.int .u8 0,.int .u8 0,.int .u8 0,.int .u8 0,.int .u8 0,.int .u8 0,.int .u8 0,.int .u8 0,.int .u8 0,.int .u8 0,.int .u8 0,.int .u8 0,.int .u8 0,.int .u8 0,.int .u8 0,.int .u8 0,.int .u8 0,.int .u8 0,.int .u8 0,.int .u8 0,.int .u8 0,.int .u8 0,.int .u8 0,.int .u8 0,.int .u8 0,.int .u8 0,.int .u8 0,.int .u8 0,.int .u8 0,.int .u8 0,.int .u8 0,.int .u8 0,.int .u8 0,.int .u8 0,.int .u8 0,.int .u8 0,.int .u8 0,.int .u8 0,.int .u8 0,.int .i64 0,.slice none 0 0,.slice none 0 0]:List Value).toArray) aw Tryz.underlying42 rfl rfl
theorem cL:TI Tryz.prog 47 1 24 [.slice none 0 0] false:=TI.of (z:= .slice none 0 0) aw Tryz.underlying47 rfl rfl
theorem jc:TI Tryz.prog 57 2 16 [.int .i64 0,.int .i64 0] true:=TI.of (z:= .agg ([.int .i64 0,.int .i64 0]:List Value).toArray) aw Tryz.underlying57 rfl rfl
theorem B0:TI Tryz.prog 63 1 8 [.map none] false:=TI.of (z:= .map none) aw Tryz.underlying63 rfl rfl
theorem fU:TI Tryz.prog 74 1 24 [.slice none 0 0] false:=TI.of (z:= .slice none 0 0) aw Tryz.underlying74 rfl rfl
theorem c7:TI Tryz.prog 76 34 80 [.int .u8 0,.int .u8 0,.int .u8 0,.int .u8 0,.int .u8 0,.int .u8 0,.int .u8 0,.int .u8 0,.int .u8 0,.int .u8 0,.int .u8 0,.int .u8 0,.int .u8 0,.int .u8 0,.int .u8 0,.int .u8 0,.int .u8 0,.int .u8 0,.int .u8 0,.int .u8 0,.int .u8 0,.int .u8 0,.int .u8 0,.int .u8 0,.int .u8 0,.int .u8 0,.int .u8 0,.int .u8 0,.int .u8 0,.int .u8 0,.int .u8 0,.int .u8 0,.slice none 0 0,.slice none 0 0] true:=TI.of (z:= .agg ([.int .u8 0,.int .u8 0,.int .u8 0,.int .u8 0,.int .u8 0,.int .u8 0,.int .u8 0,.int .u8 0,.int .u8 0,.int .u8 0,.int .u8 0,.int .u8 0,.int .u8 0,.int .u8 0,.int .u8 0,.int .u8 0,.int .u8 0,.int .u8 0,.int .u8 0,.int .u8 0,.int .u8 0,.int .u8 0,.int .u8 0,.int .u8 0,.int .u8 0,.int .u8 0,.int .u8 0,.int .u8 0,.int .u8 0,.int .u8 0,.int .u8 0,.int .u8 0,.slice none 0 0,.slice none 0 0]:List Value).toArray) aw Tryz.underlying76 rfl rfl
theorem cZ:TI Tryz.prog 87 1 24 [.slice none 0 0] true:=TI.of (z:= .agg ([.slice none 0 0]:List Value).toArray) aw Tryz.underlying87 rfl rfl
theorem jd:TI Tryz.prog 91 1 24 [.slice none 0 0] true:=TI.of (z:= .agg ([.slice none 0 0]:List Value).toArray) aw Tryz.underlying91 rfl rfl
theorem BX:TI Tryz.prog 107 1 8 [.int .i64 0] true:=TI.of (z:= .agg ([.int .i64 0]:List Value).toArray) aw Tryz.underlying107 rfl rfl
theorem j4:TI Tryz.prog 116 1 24 [.slice none 0 0] false:=TI.of (z:= .slice none 0 0) aw Tryz.underlying116 rfl rfl
theorem da:TI Tryz.prog 118 4 56 [.int .i64 0,.int .i64 0,.string ByteArray.empty,.slice none 0 0] true:=TI.of (z:= .agg ([.int .i64 0,.int .i64 0,.string ByteArray.empty,.slice none 0 0]:List Value).toArray) aw Tryz.underlying118 rfl rfl
theorem dO:TI Tryz.prog 128 3 40 [.int .i64 0,.int .i64 0,.slice none 0 0] true:=TI.of (z:= .agg ([.int .i64 0,.int .i64 0,.slice none 0 0]:List Value).toArray) aw Tryz.underlying128 rfl rfl
theorem sH:TI Tryz.prog 141 16 16 (List.replicate 16 (.int .u8 0)) true:=TI.of (z:= .agg (List.replicate 16 (.int .u8 0):List Value).toArray) aw Tryz.underlying141 rfl rfl
theorem QC {z:Value} {l m:List Value} {a b:Nat} (h1:l=List.replicate a z) (h2:m=List.replicate b z):l.append m=List.replicate (a+b) z:=by
  subst h1;subst h2
  show List.replicate a z++List.replicate b z=_
  simp
theorem QE {z:Value}:([]:List Value)=List.replicate 0 z:=rfl
theorem QD {z:Value} {l:List Value} {a:Nat} (h:l=List.replicate a z):z::l=List.replicate (a+1) z:=by rw [h];rfl
theorem QB:∃(T:List Value) (n:Nat),Tryz.t142.zero=some (.agg T.toArray)∧T=List.replicate n (.int .u8 0)∧n=8320:=by
  apply Exists.intro
  apply Exists.intro
  apply And.intro
  · rfl
  apply And.intro
  · repeat' (first|apply QC|apply QD|exact QE)
  · exact Nat.eq_of_beq_eq_true aw
theorem SY:TI Tryz.prog 142 8320 8320 (List.replicate 8320 (.int .u8 0)) true:=by
  obtain⟨T,_,h1,h2,rfl⟩:=QB
  exact⟨⟨Tryz.t142,_,by kernel_rfl,h1,rfl,rfl,h2⟩,⟨_,Tryz.underlying142,rfl⟩⟩
theorem kC:TI Tryz.prog 151 1 24 [.slice none 0 0] false:=TI.of (z:= .slice none 0 0) aw Tryz.underlying151 rfl rfl
theorem jx:TI Tryz.prog 171 1 8 [.nilFunc] false:=TI.of (z:= .nilFunc) aw Tryz.underlying171 rfl rfl
theorem sI:TI Tryz.prog 172 4 32 [.nilFunc,.nilFunc,.nilFunc,.nilFunc] true:=TI.of (z:= .agg ([.nilFunc,.nilFunc,.nilFunc,.nilFunc]:List Value).toArray) aw Tryz.underlying172 rfl rfl
theorem cI:TI Tryz.prog 174 1 4 [.int .u32 0] false:=TI.of (z:= .int .u32 0) aw Tryz.underlying174 rfl rfl
theorem oI:TI Tryz.prog 175 8 32 [.int .u32 0,.int .u32 0,.int .u32 0,.int .u32 0,.int .u32 0,.int .u32 0,.int .u32 0,.int .u32 0] true:=TI.of (z:= .agg ([.int .u32 0,.int .u32 0,.int .u32 0,.int .u32 0,.int .u32 0,.int .u32 0,.int .u32 0,.int .u32 0]:List Value).toArray) aw Tryz.underlying175 rfl rfl
theorem pK:TI Tryz.prog 176 8 32 [.int .u32 0,.int .u32 0,.int .u32 0,.int .u32 0,.int .u32 0,.int .u32 0,.int .u32 0,.int .u32 0] true:=TI.of (z:= .agg ([.int .u32 0,.int .u32 0,.int .u32 0,.int .u32 0,.int .u32 0,.int .u32 0,.int .u32 0,.int .u32 0]:List Value).toArray) aw Tryz.underlying176 rfl rfl
theorem yc:TI Tryz.prog 184 19 152 (List.replicate 19 (.int .i64 0)) true:=TI.of (z:= .agg (List.replicate 19 (.int .i64 0):List Value).toArray) aw Tryz.underlying184 rfl rfl
theorem SZ:TI Tryz.prog 186 36 36 (List.replicate 36 (.int .u8 0)) true:=TI.of (z:= .agg (List.replicate 36 (.int .u8 0):List Value).toArray) aw Tryz.underlying186 rfl rfl
theorem BY:TI Tryz.prog 195 1 8 [.nilFunc] false:=TI.of (z:= .nilFunc) aw Tryz.underlying195 rfl rfl
theorem yd:TI Tryz.prog 198 608 608 (List.replicate 608 (.int .u8 0)) true:=TI.of (z:= .agg (List.replicate 608 (.int .u8 0):List Value).toArray) aw Tryz.underlying198 rfl rfl
theorem S1:TI Tryz.prog 207 64 64 (List.replicate 64 (.int .u8 0)) true:=TI.of (z:= .agg (List.replicate 64 (.int .u8 0):List Value).toArray) aw Tryz.underlying207 rfl rfl
theorem nM:TI Tryz.prog 209 64 256 (List.replicate 64 (.int .u32 0)) true:=TI.of (z:= .agg (List.replicate 64 (.int .u32 0):List Value).toArray) aw Tryz.underlying209 rfl rfl
end Go.Abs
-- T1B
namespace Go.Abs
structure ae (l : List Nat) (P Q : Prop) : Prop where
 h : P → Q
structure aj (n : Nat) (P Q : Prop) : Prop where
 h : P → Q
theorem af {P : Prop} : ae [] P P := ⟨id⟩
theorem ak {P Q : Prop} (k : Nat) (h : P → Q) : aj k P Q := ⟨h⟩
def an : List (Nat × Nat) := [(3,1),(444,0),(0,0),(0,460),(444,452),(447,182),(1,0),(1,446),(447,3),(444,446),(460,444),(447,453),(460,3),(460,182),(447,445),(551,13),(8,64),(19,64),(482,444),(484,3),(551,182),(461,3),(446,446),(457,49),(447,101),(461,444),(551,3),(446,0),(8,550),(6,6),(19,550),(444,459),(0,8),(482,479),(1,143),(445,447),(444,449),(3,453),(465,13),(484,444),(527,64),(447,183),(460,445),(447,444),(476,550),(453,0),(446,528),(452,445),(552,555),(82,459),(0,7),(546,519),(444,440),(53,548),(470,3),(53,494),(449,5),(444,441),(451,0),(8,50),(480,49),(547,547),(520,11),(446,7),(452,444),(484,445),(447,13),(554,98),(82,447),(14,521),(482,445),(485,444),(37,52),(559,319),(476,492),(49,546),(0,449),(460,183),(444,84),(557,486),(444,458),(549,497),(118,118),(553,556),(547,211),(495,11),(447,450),(449,49),(0,464),(3,479),(447,451),(202,560),(527,550),(444,487),(23,459),(448,445),(13,1),(305,306),(466,446),(357,47),(443,467),(50,64),(262,49),(211,211),(460,101),(466,491),(558,555),(39,460),(558,0),(439,127),(122,507),(100,476),(127,263),(444,442),(545,1),(46,46),(0,105)]
theorem ai {n a b : Nat} {l : List Nat} {P R : Prop} (hn : Nat.ble 444 n = true) (_hr : an[n - 444]? = some (a, b)) (r : ae (a :: b :: l) P R) : ae (n :: l) P R := ⟨r.h⟩
theorem ae.c {n : Nat} {l : List Nat} {P Q R : Prop} (c : Nat) (_hn : n / 24 = c) (s : aj n Q R) (r : ae l P Q) : ae (n :: l) P R := ⟨fun x => s.h (r.h x)⟩
theorem ae.g0 {n : Nat} {Q R : Prop} (s : aj n Q R := by first
 | apply ak 0;exact fun y9=>s1 (bF rfl) rfl y9
 | apply ak 1;exact fun y9=>bJ y9
 | apply ak 2;exact fun y9=>s1 (bM bP rfl rfl rfl) rfl y9
 | apply ak 3;exact fun y9=>bH y9
 | apply ak 4;exact fun y9=>eH aw y9
 | apply ak 5;exact fun y9=>bW (rs:= [.tmp 2]) rfl (bT rfl bR) y9
 | apply ak 6;exact fun y9=>t1 (bF rfl) rfl y9
 | apply ak 7;exact fun y9=>g1 rfl rfl (bF rfl) rfl y9
 | apply ak 8;exact fun y9=>bI y9
 | apply ak 9;exact fun y9=>bK rfl (cu b5 rfl rfl rfl aq aq y9)
 | apply ak 10;exact fun y9=>gu y9
 | apply ak 11;exact fun y9=>bW (rs:= [.tmp 4]) rfl (bT rfl bR) y9
 | apply ak 12;exact fun y9=>s1 (cg b5 rfl rfl aq) rfl y9
 | apply ak 13;exact fun y9=>bZ y9
 | apply ak 14;exact fun y9=>s1 ((bF rfl).v (v':= .b true) (rfl)) rfl y9
 | apply ak 15;exact fun y9=>s1 (bM dK rfl rfl rfl) rfl y9
 | apply ak 16;exact fun y9=>bQ 1 [] [] (bF rfl) rfl rfl y9
 | apply ak 17;exact fun y9=>g1 rfl rfl ((bF rfl).v (v':= .b false) (rfl)) rfl y9
 | apply ak 18;exact fun y9=>bK rfl (cV dK rfl rfl rfl rfl aq rfl y9)
 | apply ak 19;exact fun y9=>bY y9
 | apply ak 20;exact fun y9=>t1 (bM cI rfl rfl rfl) rfl y9
 | apply ak 21;exact fun y9=>bW (rs:= [.tmp 6,.tmp 7]) rfl (bT rfl (bT rfl bR)) y9
 | apply ak 22;exact fun y9=>s1 (ig _ _ rfl rfl) rfl y9
 | apply ak 23;exact fun y9=>s1 (cf Tryz.underlying26 rfl rfl rfl) rfl y9) : aj n Q R := s
theorem ae.g1 {n : Nat} {Q R : Prop} (s : aj n Q R := by first
 | apply ak 24;exact fun y9=>s1 (cf Tryz.underlying47 rfl rfl rfl) rfl y9
 | apply ak 25;exact fun y9=>s1 (bM dC rfl rfl rfl) rfl y9
 | apply ak 26;exact fun y9=>bW (rs:= [.tmp 18]) rfl (bT rfl bR) y9
 | apply ak 27;exact fun y9=>bK rfl (cu dO rfl rfl rfl aq aq y9)
 | apply ak 28;exact fun y9=>g1 rfl rfl (bM dC rfl rfl rfl) rfl y9
 | apply ak 29;exact fun y9=>bK rfl (cB 4 rfl b5 rfl rfl y9)
 | apply ak 30;exact fun y9=>bK rfl (cu b5 rfl rfl rfl au au y9)
 | apply ak 31;exact fun y9=>bQ 0 [] [] (bF rfl) rfl rfl y9
 | apply ak 32;exact fun y9=>s1 (cg dO rfl rfl aq) rfl y9
 | apply ak 33;exact fun y9=>s1 (ct Tryz.underlying76 rfl fU az rfl rfl) rfl y9
 | apply ak 34;exact fun y9=>g1 rfl rfl ((bF rfl).v (v':= .b true) (rfl)) rfl y9
 | apply ak 35;exact fun y9=>bW (rs:= [.tmp 4,.tmp 5]) rfl (bT rfl (bT rfl bR)) y9
 | apply ak 36;exact fun y9=>s1 (bM fD rfl rfl rfl) rfl y9
 | apply ak 37;exact fun y9=>s1 (cD k Tryz.underlying24 bP rfl rfl rfl ar rfl) rfl y9
 | apply ak 38;exact fun y9=>s1 (cf Tryz.underlying29 rfl rfl rfl) rfl y9
 | apply ak 39;exact fun y9=>s1 ((bF rfl).v (v':= .i .i64 0) rfl) rfl y9
 | apply ak 40;exact fun y9=>bK rfl (bX false rfl (.cons (.pure pu) (.cons (.pure pu) .nil)) (jm 351) pu (.inl rfl) rfl y9)
 | apply ak 41;exact fun y9=>fS 3 rfl rfl bL y9
 | apply ak 42;exact fun y9=>s1 (lB _ Tryz.underlying202 Tryz.underlying5 rfl) rfl y9
 | apply ak 43;exact fun y9=>bK rfl (dh 4 rfl rfl rfl y9)
 | apply ak 44;exact fun y9=>bK rfl (cu da rfl rfl rfl aq aq y9)
 | apply ak 45;exact fun y9=>nK rfl rfl rfl rfl y9
 | apply ak 46;exact fun y9=>dt y9
 | apply ak 47;exact fun y9=>s1 (bM cL rfl rfl (V6.gY hq)) rfl y9) : aj n Q R := s
theorem ae.g2 {n : Nat} {Q R : Prop} (s : aj n Q R := by first
 | apply ak 48;exact fun y9=>s1 (cg c7 rfl rfl (dH (c:=cJ x i τ ids) (fH _ _))) rfl y9
 | apply ak 49;exact fun y9=>cd y9
 | apply ak 50;exact fun y9=>cr y9
 | apply ak 51;exact fun y9=>s1 (cD i Tryz.underlying24 bP rfl rfl rfl ar rfl) rfl y9
 | apply ak 52;exact fun y9=>s1 (bM bP rfl rfl (gX hq)) rfl y9
 | apply ak 53;exact fun y9=>s1 ((bF rfl).v (v':= .b false) (rfl)) rfl y9
 | apply ak 54;exact fun y9=>s1 (ct Tryz.underlying57 rfl bP az rfl rfl) rfl y9
 | apply ak 55;exact fun y9=>eG ⟨_, [], []⟩ 7 4 c8 (le_refl rfl) y9
 | apply ak 56;exact fun y9=>bW (rs:= [.tmp 2,.tmp 3]) rfl (bT rfl (bT rfl bR)) y9
 | apply ak 57;exact fun y9=>eR 2 rfl rfl bL (c5 aB rfl) y9
 | apply ak 58;exact fun y9=>t1 (fM _ _ rfl rfl) rfl y9
 | apply ak 59;exact fun y9=>bK rfl (bX false rfl (.cons (.pure pu) (.cons (.pure pu) .nil)) (jm 0) pu (.inl rfl) rfl y9)
 | apply ak 60;exact fun y9=>s1 (ct Tryz.underlying87 rfl dC az rfl rfl) rfl y9
 | apply ak 61;exact fun y9=>s1 (cg b5 rfl rfl aW) rfl y9
 | apply ak 62;exact fun y9=>s1 ((bF rfl).v (v':= .b false) (congrArg A.b (decide_eq_false ar))) rfl y9
 | apply ak 63;exact fun y9=>s1 (cf Tryz.underlying25 rfl rfl rfl) rfl y9
 | apply ak 64;exact fun y9=>bG y9
 | apply ak 65;exact fun y9=>s1 ((bF rfl).v (v':= .i .i64 (-1)) rfl) rfl y9
 | apply ak 66;exact fun y9=>bQ 3 [] [] (bF rfl) rfl rfl y9
 | apply ak 67;exact fun y9=>t1 (mm rfl rfl) rfl y9
 | apply ak 68;exact fun y9=>bK rfl (cB 2 rfl b5 rfl rfl y9)
 | apply ak 69;exact fun y9=>bQ 2 [] [] (bF rfl) rfl rfl y9
 | apply ak 70;exact fun y9=>s1 (cD i Tryz.underlying26 cL rfl rfl rfl ar rfl) rfl y9
 | apply ak 71;exact fun y9=>bK rfl (dz 10 rfl Tryz.underlying24 bP rfl rfl rfl rfl rfl y9)) : aj n Q R := s
theorem ae.g3 {n : Nat} {Q R : Prop} (s : aj n Q R := by first
 | apply ak 72;exact fun y9=>bK rfl (cV fD rfl rfl rfl rfl aq rfl y9)
 | apply ak 73;exact fun y9=>s1 (ct Tryz.underlying128 rfl bP az rfl rfl) rfl y9
 | apply ak 74;exact fun y9=>s1 ((bF rfl).v (v':= .i .i64 340) rfl) rfl y9
 | apply ak 75;exact fun y9=>bK rfl (cB 2 rfl da rfl rfl y9)
 | apply ak 76;exact fun y9=>s1 (jK (out:= [_,_,_,_]) [[cQ (.int .i64 0)], [cQ (.int .i64 0)], [cQ (.string ByteArray.empty)], [cQ (.slice none 0 0)]] da rfl Tryz.underlying118 aw rfl rfl ⟨⟨by(first|rfl|omega|(simp;done)|(simp [*];done)|(simp [cU, *];done)),rfl⟩,⟨⟨by(first|rfl|omega|(simp;done)|(simp [*];done)|(simp [cU, *];done)),rfl⟩,trivial⟩⟩ rfl) rfl y9
 | apply ak 77;exact fun y9=>bW (rs:= [.cell 2 118]) rfl (c9 da rfl rfl rfl rfl bR) y9
 | apply ak 78;exact fun y9=>s1 (cf Tryz.underlying38 rfl rfl rfl) rfl y9
 | apply ak 79;exact fun y9=>jO (rs:= []) rfl bR y9
 | apply ak 80;exact fun y9=>bW (rs:= [.tmp 8,.tmp 9]) rfl (bT rfl (bT rfl bR)) y9
 | apply ak 81;exact fun y9=>s1 (gz _ 128 rfl rfl rfl rfl ar ar) rfl y9
 | apply ak 82;exact fun y9=>s1 (cf Tryz.underlying24 rfl rfl rfl) rfl y9
 | apply ak 83;exact fun y9=>bK rfl (kx 2 rfl rfl rfl rfl y9)
 | apply ak 84;exact fun y9=>bK rfl (dh 3 rfl rfl rfl y9)
 | apply ak 85;exact fun y9=>bQ 5 [] [] (bF rfl) rfl rfl y9
 | apply ak 86;exact fun y9=>s1 (m0 _ _ rfl rfl) rfl y9
 | apply ak 87;exact fun y9=>s1 (sK _ Tryz.underlying174 Tryz.underlying5 rfl) rfl y9
 | apply ak 88;exact fun y9=>bQ 4 [] [] (bF rfl) rfl rfl y9
 | apply ak 89;exact fun y9=>bK rfl (cB 5 rfl b5 rfl rfl y9)
 | apply ak 90;exact fun y9=>na hR1 hd3 rfl y9
 | apply ak 91;exact fun y9=>s1 (ct Tryz.underlying76 rfl fD az rfl rfl) rfl y9
 | apply ak 92;exact fun y9=>s1 (cl _ _ rfl rfl rfl rfl (by have:=ox y14;omega)) rfl y9
 | apply ak 93;exact fun y9=>s1 ((bF rfl).v (v':= .i .i64 60) rfl) rfl y9
 | apply ak 94;exact fun y9=>s1 (lD rfl rfl az) rfl y9
 | apply ak 95;exact fun y9=>t1 (ij (m / 8) Tryz.underlying151 cc rfl rfl rfl rfl ar rfl) rfl y9) : aj n Q R := s
theorem ae.g4 {n : Nat} {Q R : Prop} (s : aj n Q R := by first
 | apply ak 96;exact fun y9=>s1 ((bF rfl).v (v':= .i .i64 360) rfl) rfl y9
 | apply ak 97;exact fun y9=>bK rfl (cu jd rfl rfl rfl aq aq y9)
 | apply ak 98;exact fun y9=>g1 rfl rfl (cf Tryz.underlying24 rfl rfl rfl) rfl y9
 | apply ak 99;exact fun y9=>g1 rfl rfl ((bF rfl).v (v':= .b true) (congrArg A.b (decide_eq_true ar))) rfl y9
 | apply ak 100;exact fun y9=>s1 (cl _ 1 rfl rfl rfl rfl ar) rfl y9
 | apply ak 101;exact fun y9=>de rfl y9
 | apply ak 102;exact fun y9=>s1 ((bF rfl).v (v':= .i .i64 1) rfl) rfl y9
 | apply ak 103;exact fun y9=>t1 (ui _ Tryz.underlying5 Tryz.underlying174 rfl) rfl y9
 | apply ak 104;exact fun y9=>s1 (gp 4 _ rfl rfl rfl rfl ar) rfl y9
 | apply ak 105;exact fun y9=>s1 (fM _ _ rfl rfl) rfl y9
 | apply ak 106;exact fun y9=>s1 (jL Tryz.underlying207 cc rfl rfl aA aJ) rfl y9
 | apply ak 107;exact fun y9=>s1 (eX b5 rfl rfl (List.take_of_length_le aI) aI) rfl y9
 | apply ak 108;exact fun y9=>td rfl hR1 hS y9
 | apply ak 109;exact fun y9=>s1 ((bF rfl).v (v':= .i .i64 330) rfl) rfl y9
 | apply ak 110;exact fun y9=>s1 (cD i Tryz.underlying74 dO rfl rfl rfl ar rfl) rfl y9
 | apply ak 111;exact fun y9=>s1 (bM ib rfl rfl rfl) rfl y9
 | apply ak 112;exact fun y9=>fQ rfl rfl (ct Tryz.underlying42 rfl bP az rfl rfl) rfl y9
 | apply ak 113;exact fun y9=>fQ rfl rfl (bM bP rfl rfl rfl) rfl y9
 | apply ak 114;exact fun y9=>s1 (cg b5 rfl rfl aB) rfl y9
 | apply ak 115;exact fun y9=>bK rfl (dh 7 rfl rfl rfl y9)
 | apply ak 116;exact fun y9=>bW (rs:= [.tmp 8]) rfl (bT rfl bR) y9
 | apply ak 117;exact fun y9=>bK rfl (cV dC rfl rfl rfl rfl aq rfl y9)
 | apply ak 118;exact fun y9=>bK rfl (cu cZ rfl rfl rfl aq aq y9)
 | apply ak 119;exact fun y9=>s1 (gp 32 _ rfl rfl rfl rfl ar) rfl y9) : aj n Q R := s
theorem ae.g5 {n : Nat} {Q R : Prop} (s : aj n Q R := by first
 | apply ak 120;exact fun y9=>s1 (cl _ _ rfl rfl rfl rfl ar) rfl y9
 | apply ak 121;exact fun y9=>bK rfl (bX false rfl (.cons (.pure pu) (.nil)) (bO.cast (nF c hx) (congrArg A.b hh)) pu (.inl rfl) rfl y9)
 | apply ak 122;exact fun y9=>g1 rfl rfl ((bF rfl).v (v':= .b false) (congrArg A.b (decide_eq_false ar))) rfl y9
 | apply ak 123;exact fun y9=>g1 rfl rfl (ct Tryz.underlying91 rfl dC az rfl rfl) rfl y9
 | apply ak 124;exact fun y9=>fQ rfl rfl (bF rfl) rfl y9
 | apply ak 125;exact fun y9=>s1 (cf Tryz.underlying30 rfl rfl rfl) rfl y9
 | apply ak 126;exact fun y9=>s1 (cD i Tryz.underlying30 jc rfl rfl rfl ar rfl) rfl y9
 | apply ak 127;exact fun y9=>b6 y9
 | apply ak 128;exact fun y9=>s1 (yx aw rfl) rfl y9
 | apply ak 129;exact fun y9=>bK rfl (kx 3 rfl rfl rfl rfl y9)
 | apply ak 130;exact fun y9=>fS 2 rfl rfl bL y9
 | apply ak 131;exact fun y9=>s1 (ct Tryz.underlying118 rfl bP az rfl rfl) rfl y9
 | apply ak 132;exact fun y9=>s1 (cg da rfl rfl (CV.mI v)) rfl y9
 | apply ak 133;exact fun y9=>eG ⟨_, [], []⟩ 11 4 c8 (le_refl rfl) y9
 | apply ak 134;exact fun y9=>eG ⟨_, [], []⟩ 8 4 c8 (le_refl rfl) y9
 | apply ak 135;exact fun y9=>eG ⟨_, [], []⟩ 6 4 c8 (le_refl rfl) y9
 | apply ak 136;exact fun y9=>bQ 1 [0] [(1,none)] (bM bP rfl rfl rfl) rfl rfl y9
 | apply ak 137;exact fun y9=>bQ 10 [] [] (bF rfl) rfl rfl y9
 | apply ak 138;exact fun y9=>bQ 6 [] [] (bF rfl) rfl rfl y9
 | apply ak 139;exact fun y9=>s1 (ct Tryz.underlying128 rfl cL az rfl rfl) rfl y9
 | apply ak 140;exact fun y9=>s1 (eX dO rfl rfl (tQ hf) rfl) rfl y9
 | apply ak 141;exact fun y9=>bK rfl (bX false rfl (.cons (.pure pu) (.nil)) (bO.cast (pg p aC) (congrArg A.b h1)) pu (.inl rfl) rfl y9)
 | apply ak 142;exact fun y9=>ep 6 (cs':=mr.map u8++ [.nl,.nl]) rfl rfl y9
 | apply ak 143;exact fun y9=>s1 (cg c7 rfl rfl (dH hx)) rfl y9) : aj n Q R := s
theorem ae.g6 {n : Nat} {Q R : Prop} (s : aj n Q R := by first
 | apply ak 144;exact fun y9=>bK rfl (bX false rfl (.cons (.pure pu) (.nil)) (bO.cast (vH c hx hn) (congrArg (fun b=>A.i .i64 (tO b)) hcs)) pu (.inl rfl) rfl y9)
 | apply ak 145;exact fun y9=>bK rfl (cV bP rfl rfl rfl rfl aq rfl y9)
 | apply ak 146;exact fun y9=>bK rfl (cu eo rfl rfl rfl hok.len aB y9)
 | apply ak 147;exact fun y9=>gq 17 c8 aw y9
 | apply ak 148;exact fun y9=>t1 (ct Tryz.underlying42 rfl bP az rfl rfl) rfl y9
 | apply ak 149;exact fun y9=>t1 (bM bP rfl rfl rfl) rfl y9
 | apply ak 150;exact fun y9=>t1 (bM iy rfl rfl rfl) rfl y9
 | apply ak 151;exact fun y9=>t1 (cD 0 Tryz.underlying29 eo rfl rfl rfl ar rfl) rfl y9
 | apply ak 152;exact fun y9=>t1 (fV Tryz.underlying42 rfl bP az rfl rfl) rfl y9
 | apply ak 153;exact fun y9=>t1 (bM bP rfl rfl (ry hl he0 (k:=0) rfl az)) rfl y9
 | apply ak 154;exact fun y9=>bK rfl (cV ib rfl rfl rfl rfl aq rfl y9)
 | apply ak 155;exact fun y9=>bW (rs:= [.cell 4 23,.tmp 5]) rfl (c9 b5 rfl rfl (List.take_of_length_le aB) aB (bT rfl bR)) y9
 | apply ak 156;exact fun y9=>s1 ((bF rfl).v (v':= .i .i64 32) rfl) rfl y9
 | apply ak 157;exact fun y9=>s1 (mS _ 8 rfl rfl rfl az) rfl y9
 | apply ak 158;exact fun y9=>bK rfl (cu b5 rfl rfl rfl aB aB y9)
 | apply ak 159;exact fun y9=>s1 (bM qS rfl rfl rfl) rfl y9
 | apply ak 160;exact fun y9=>s1 (bM oJ rfl rfl rfl) rfl y9
 | apply ak 161;exact fun y9=>t1 (sO _ _ rfl rfl) rfl y9
 | apply ak 162;exact fun y9=>bK rfl (cV kC rfl rfl rfl rfl aq rfl y9)
 | apply ak 163;exact fun y9=>t1 (ij i Tryz.underlying47 cc rfl rfl rfl rfl ar rfl) rfl y9
 | apply ak 164;exact fun y9=>t1 (bM cc rfl rfl (V6.tS ar)) rfl y9
 | apply ak 165;exact fun y9=>s1 (cg jd rfl rfl aq) rfl y9
 | apply ak 166;exact fun y9=>bW (rs:= [.cell 4 91,.tmp 5]) rfl (c9 jd rfl rfl rfl rfl (bT rfl bR)) y9
 | apply ak 167;exact fun y9=>s1 ((bF rfl).v (v':= .b true) (congrArg A.b (by simpa using hz))) rfl y9) : aj n Q R := s
theorem ae.g7 {n : Nat} {Q R : Prop} (s : aj n Q R := by first
 | apply ak 168;exact fun y9=>bW (rs:= [.cell 8 87,.cell 9 87,.tmp 10]) rfl (c9 cZ rfl rfl rfl rfl (c9 cZ rfl rfl rfl rfl (bT rfl bR))) y9
 | apply ak 169;exact fun y9=>s1 (jK (out:= [_]) [[cQ (.slice none 0 0)]] cZ rfl Tryz.underlying87 aw rfl rfl trivial rfl) rfl y9
 | apply ak 170;exact fun y9=>s1 (bM bP rfl rfl (nX c id i h24)) rfl y9
 | apply ak 171;exact fun y9=>bK rfl (bX false rfl (.cons (.pure pu) (.cons (.pure pu) (.nil))) (bO.cast (sA c hx ids) (congrArg A.b hk)) pu (.inl rfl) rfl y9)
 | apply ak 172;exact fun y9=>ep 18 (cs':=gZ iss (l.length:Nat) day c zD (k8 l)) rfl (by rw [hld]) y9
 | apply ak 173;exact fun y9=>mv ⟨[(14,some [.nl]),(15,some [.i .i64 0])]⟩ hdf hS mC ⟨⟨rfl,cv.pure bL⟩,⟨rfl,cv.pure bL⟩,trivial⟩ (.cons (.kp rfl) (.cons (.kp rfl) .nil)) (oh _ _ 351) (hu.2) (nP rfl rfl bL bL) rfl (fC iy rfl rfl rfl (fC dK rfl rfl rfl bR)) y9
 | apply ak 174;exact fun y9=>bQ 2 [] [(18,none)] (ct Tryz.underlying42 rfl bP az rfl rfl) rfl rfl y9
 | apply ak 175;exact fun y9=>bQ 3 [2] [(18,none)] (bM bP rfl rfl rfl) rfl rfl y9
 | apply ak 176;exact fun y9=>bQ 7 [6] [] (bF rfl) rfl rfl y9
 | apply ak 177;exact fun y9=>bQ 9 [7] [] (bF rfl) rfl rfl y9
 | apply ak 178;exact fun y9=>bK rfl (bX false rfl (.cons (.pure pu) (.cons (.pure pu) (.cons (.pure pu) (.cons (.pure pu) (.nil))))) (bO.cast (yn 520 (V6.want (cE (cJ x i τ ids) asked) k) (V6.want (cE (cJ x i τ ids) others) k) q) hu) pu (.inl rfl) rfl y9)
 | apply ak 179;exact fun y9=>bK rfl (dz 204 rfl Tryz.underlying26 cL rfl rfl rfl rfl rfl y9)
 | apply ak 180;exact fun y9=>bK rfl (dB 205 rfl Tryz.underlying26 cL rfl (.sl rfl aB) rfl (dE rfl aq) aB aC ar rfl (yh _ k hty) rfl y9)
 | apply ak 181;exact fun y9=>g1 rfl rfl (ct Tryz.underlying87 rfl dC az rfl rfl) rfl y9
 | apply ak 182;exact fun y9=>bV y9
 | apply ak 183;exact fun y9=>dS rfl y9
 | apply ak 184;exact fun y9=>s1 (qT Tryz.underlying63 Tryz.underlying3 yA rfl rfl rfl (wW _ _)) rfl y9
 | apply ak 185;exact fun y9=>s1 (ct Tryz.underlying118 rfl j4 az rfl rfl) rfl y9
 | apply ak 186;exact fun y9=>s1 (bM j4 rfl rfl rfl) rfl y9
 | apply ak 187;exact fun y9=>s1 (cf Tryz.underlying116 rfl rfl rfl) rfl y9
 | apply ak 188;exact fun y9=>s1 (cD i Tryz.underlying116 da rfl rfl rfl ar rfl) rfl y9
 | apply ak 189;exact fun y9=>bQ 0 [] [(131,none)] (bF rfl) rfl rfl y9
 | apply ak 190;exact fun y9=>bQ 0 [] [(7,none)] (ct Tryz.underlying118 rfl bP az rfl rfl) rfl rfl y9
 | apply ak 191;exact fun y9=>bQ 1 [0] [(7,none)] (bM bP rfl rfl rfl) rfl rfl y9) : aj n Q R := s
theorem ae.g8 {n : Nat} {Q R : Prop} (s : aj n Q R := by first
 | apply ak 192;exact fun y9=>bQ 3 [2] [(11,none)] (bM jx rfl rfl rfl) rfl rfl y9
 | apply ak 193;exact fun y9=>bQ 4 [] [(131,none)] (bF rfl) rfl rfl y9
 | apply ak 194;exact fun y9=>bQ 5 [] [(7,none)] (cg da rfl rfl aq) rfl rfl y9
 | apply ak 195;exact fun y9=>bK rfl (cV jx rfl rfl rfl rfl aq rfl y9)
 | apply ak 196;exact fun y9=>bQ 0 [] [(1,none)] (ct Tryz.underlying118 rfl bP az rfl rfl) rfl rfl y9
 | apply ak 197;exact fun y9=>bQ 3 [2] [(5,none)] (bM jx rfl rfl rfl) rfl rfl y9
 | apply ak 198;exact fun y9=>bQ 4 [] [(1,none)] (cg da rfl rfl rfl) rfl rfl y9
 | apply ak 199;exact fun y9=>t1 (ky _ _ rfl rfl) rfl y9
 | apply ak 200;exact fun y9=>bQ 7 [] [] (bF rfl) rfl rfl y9
 | apply ak 201;exact fun y9=>bQ 11 [] [] (bF rfl) rfl rfl y9
 | apply ak 202;exact fun y9=>s1 (bM cI rfl rfl rfl) rfl y9
 | apply ak 203;exact fun y9=>gq 11 c8 aw y9
 | apply ak 204;exact fun y9=>t1 (cX i Tryz.underlying176 cI rfl rfl rfl ar rfl) rfl y9
 | apply ak 205;exact fun y9=>s1 (gp 8 i rfl rfl rfl rfl ar) rfl y9
 | apply ak 206;exact fun y9=>s1 (jL Tryz.underlying23 cc rfl rfl aq aJ) rfl y9
 | apply ak 207;exact fun y9=>bK rfl (kx 5 rfl rfl rfl rfl y9)
 | apply ak 208;exact fun y9=>s1 (fV Tryz.underlying128 rfl bP az rfl rfl) rfl y9
 | apply ak 209;exact fun y9=>gF 2 rfl rfl rfl rfl (fun hb7=> .step (bF rfl) rfl rfl<| .step (bF rfl) rfl rfl<| .done) rfl rfl y9
 | apply ak 210;exact fun y9=>bK rfl (cB 4 rfl dO rfl rfl y9)
 | apply ak 211;exact fun y9=>g0 rfl rfl rfl rfl y9
 | apply ak 212;exact fun y9=>s1 (bM cL rfl rfl rfl) rfl y9
 | apply ak 213;exact fun y9=>s1 (gz _ 8 rfl rfl rfl rfl ar ar) rfl y9
 | apply ak 214;exact fun y9=>s1 (iQ _ 8 rfl rfl rfl rfl ar) rfl y9
 | apply ak 215;exact fun y9=>bK rfl (dz 5 rfl Tryz.underlying47 cc rfl rfl rfl rfl rfl y9)) : aj n Q R := s
theorem ae.g9 {n : Nat} {Q R : Prop} (s : aj n Q R := by first
 | apply ak 216;exact fun y9=>s1 (cg c7 rfl rfl rfl) rfl y9
 | apply ak 217;exact fun y9=>bK rfl (cu c7 rfl rfl rfl aq aq y9)
 | apply ak 218;exact fun y9=>bW (rs:= [.cell 6 76,.tmp 7]) rfl (c9 c7 rfl rfl rfl rfl (bT rfl bR)) y9
 | apply ak 219;exact fun y9=>fg rfl rfl rfl (bX false rfl (.cons (.pure pu) (.nil)) (bO.cast (pg q aC) (congrArg A.b h2)) pu (.inl rfl) rfl y9)
 | apply ak 220;exact fun y9=>s1 (cg dO rfl rfl rfl) rfl y9
 | apply ak 221;exact fun y9=>s1 (ct Tryz.underlying42 rfl ib az rfl rfl) rfl y9
 | apply ak 222;exact fun y9=>s1 (eX eo rfl rfl (tN hl he) hok.len) rfl y9
 | apply ak 223;exact fun y9=>s1 (bM B0 rfl rfl rfl) rfl y9
 | apply ak 224;exact fun y9=>t1 ((bF rfl).v (v':= .b true) (congrArg A.b (beq_iff_eq.2 ar))) rfl y9
 | apply ak 225;exact fun y9=>fQ rfl rfl ((bF rfl).v (v':= .b true) (congrArg A.b (decide_eq_true ar))) rfl y9
 | apply ak 226;exact fun y9=>s1 (ct Tryz.underlying42 rfl bP az rfl rfl) rfl y9
 | apply ak 227;exact fun y9=>s1 (Cc Tryz.underlying20 rfl) rfl y9
 | apply ak 228;exact fun y9=>bK rfl (bX false rfl (.cons (.pure pu) (.nil)) (z7 e) pu (.inl rfl) rfl y9)
 | apply ak 229;exact fun y9=>s1 (cX i Tryz.underlying198 b5 rfl rfl rfl ar rfl) rfl y9
 | apply ak 230;exact fun y9=>bW (rs:= [.cell 2 23]) rfl (c9 b5 rfl rfl (List.take_of_length_le (by simp [lZ])) (by simp [lZ]) bR) y9
 | apply ak 231;exact fun y9=>bW (rs:= [.cell 8 23,.tmp 9]) rfl (c9 b5 rfl rfl (List.take_of_length_le aB) aB (bT rfl bR)) y9
 | apply ak 232;exact fun y9=>bK rfl (dh 6 rfl rfl rfl y9)
 | apply ak 233;exact fun y9=>gq 12 c8 aw y9
 | apply ak 234;exact fun y9=>t1 (bM kC rfl rfl rfl) rfl y9
 | apply ak 235;exact fun y9=>t1 (gz m 8 rfl rfl rfl rfl ar ar) rfl y9
 | apply ak 236;exact fun y9=>t1 (bM cc rfl rfl (V6.tU ar)) rfl y9
 | apply ak 237;exact fun y9=>t1 (qO (m % 8) rfl rfl rfl ar) rfl y9
 | apply ak 238;exact fun y9=>s1 (bM kC rfl rfl rfl) rfl y9
 | apply ak 239;exact fun y9=>bW (rs:= [.tmp 6,.tmp 7,.tmp 8]) rfl (bT rfl (bT rfl (bT rfl bR))) y9) : aj n Q R := s
theorem ae.g10 {n : Nat} {Q R : Prop} (s : aj n Q R := by first
 | apply ak 240;exact fun y9=>s1 (cD j Tryz.underlying26 cL rfl rfl rfl ar rfl) rfl y9
 | apply ak 241;exact fun y9=>gq 10 c8 aw y9
 | apply ak 242;exact fun y9=>s1 (cf Tryz.underlying151 rfl rfl rfl) rfl y9
 | apply ak 243;exact fun y9=>eG ⟨_, [], []⟩ 3 4 c8 (le_refl rfl) y9
 | apply ak 244;exact fun y9=>s1 (cl 512 _ rfl rfl rfl rfl ar) rfl y9
 | apply ak 245;exact fun y9=>bK rfl (bX false rfl (.cons (.pure pu) (.nil)) (bO.cast (nF c hx) (congrArg A.b hcs)) pu (.inl rfl) rfl y9)
 | apply ak 246;exact fun y9=>fg rfl rfl rfl (bX false rfl (.cons (.pure pu) (.nil)) (bO.cast (sE j) (congrArg A.b hnb)) pu (.inl rfl) rfl y9)
 | apply ak 247;exact fun y9=>s1 (gp 2 _ rfl rfl rfl rfl ar) rfl y9
 | apply ak 248;exact fun y9=>s1 (cD 0 Tryz.underlying24 bP rfl rfl rfl az rfl) rfl y9
 | apply ak 249;exact fun y9=>s1 (bM bP rfl rfl (nX c j i (by omega:0<2))) rfl y9
 | apply ak 250;exact fun y9=>bK rfl (iw false rfl rfl (.cons (.pure pu) (.cons (.pure pu) (.cons (.pure pu) (.cons (.pure pu) .nil)))) (bO.cast (pE bl (32) (j) hs ar) (congrArg A.b rfl)) pu (.inl rfl) rfl y9)
 | apply ak 251;exact fun y9=>bW (rs:= [.cell 6 87,.cell 7 87,.tmp 8]) rfl (c9 cZ rfl rfl rfl rfl (c9 cZ rfl rfl rfl rfl (bT rfl bR))) y9
 | apply ak 252;exact fun y9=>fg rfl rfl rfl (bX false rfl (.cons (.pure pu) (.cons (.pure pu) (.nil))) (bO.cast (qQ a 132 ar) (congrArg A.b ha)) pu (.inl rfl) rfl y9)
 | apply ak 253;exact fun y9=>bK rfl (cV iy rfl rfl rfl rfl aq rfl y9)
 | apply ak 254;exact fun y9=>s1 (ct Tryz.underlying42 rfl b5 az rfl rfl) rfl y9
 | apply ak 255;exact fun y9=>bK rfl (bX false rfl (.cons (.pure pu) (.cons (.pure pu) (.nil))) (bO.cast (yg (fG τ) q (by have:=vJ τ;simp only [maxLen];omega)) (congrArg (A.i .i64) (xY hsu q))) pu (.inl rfl) rfl y9)
 | apply ak 256;exact fun y9=>bK rfl (bX false rfl (.cons (.pure pu) (.cons (.pure pu) (.cons (.pure pu) (.nil)))) (bO.cast (sx (cJ x i τ ids) (fH _ _) asked coins) hA) pu (.inl rfl) rfl y9)
 | apply ak 257;exact fun y9=>bK rfl (cB 25 rfl cZ rfl rfl y9)
 | apply ak 258;exact fun y9=>fQ rfl rfl ((bF rfl).v (v':= .b false) (rfl)) rfl y9
 | apply ak 259;exact fun y9=>bK rfl (rT Tryz.underlying24 bP rfl rfl rfl (rN rfl) (qn rfl) bL rfl rfl rfl y9)
 | apply ak 260;exact fun y9=>g1 rfl rfl (cf Tryz.underlying48 rfl rfl rfl) rfl y9
 | apply ak 261;exact fun y9=>s1 (fV Tryz.underlying57 rfl bP az rfl rfl) rfl y9
 | apply ak 262;exact fun y9=>c6 y9
 | apply ak 263;exact fun y9=>cH y9) : aj n Q R := s
theorem ae.g11 {n : Nat} {Q R : Prop} (s : aj n Q R := by first
 | apply ak 264;exact fun y9=>bK rfl (cu jc rfl rfl rfl aq aq y9)
 | apply ak 265;exact fun y9=>bK rfl (dz 19 rfl Tryz.underlying47 cc rfl rfl rfl rfl rfl y9)
 | apply ak 266;exact fun y9=>bK rfl (cu da rfl rfl rfl (CV.mI v) aq y9)
 | apply ak 267;exact fun y9=>bK rfl (bX false rfl (.cons (.pure pu) (.nil)) (ih v hvm) pu (.inl rfl) rfl y9)
 | apply ak 268;exact fun y9=>Aw 6 1 [] cK Tryz.underlying47 cc rfl rfl rfl rfl rfl rfl y9
 | apply ak 269;exact fun y9=>bQ 6 [5] [] (uj _ Tryz.underlying3 Tryz.underlying202 rfl rfl) rfl rfl y9
 | apply ak 270;exact fun y9=>bK rfl (cV cI rfl rfl rfl rfl au (HR b k _ ar rfl) y9)
 | apply ak 271;exact fun y9=>t1 (cX i Tryz.underlying209 cI rfl rfl rfl ar rfl) rfl y9
 | apply ak 272;exact fun y9=>bK rfl (cu pK rfl rfl rfl aB aB y9)
 | apply ak 273;exact fun y9=>bK rfl (dz 9 rfl Tryz.underlying47 cc rfl rfl rfl rfl rfl y9)
 | apply ak 274;exact fun y9=>bK rfl (cu oI rfl rfl rfl au au y9)
 | apply ak 275;exact fun y9=>s1 (gz i 4 rfl rfl rfl rfl az ar) rfl y9
 | apply ak 276;exact fun y9=>s1 (bM cI rfl rfl (rH (i / 4) aE rfl)) rfl y9
 | apply ak 277;exact fun y9=>s1 (gp 8 (i % 4) rfl rfl rfl rfl ar) rfl y9
 | apply ak 278;exact fun y9=>s1 (fJ 24 (8*(i % 4)) rfl rfl rfl rfl ar ar) rfl y9
 | apply ak 279;exact fun y9=>s1 (iS _ (24 - 8*(i % 4)) rfl rfl rfl ar) rfl y9
 | apply ak 280;exact fun y9=>s1 (cX i Tryz.underlying23 cc rfl rfl rfl ar rfl) rfl y9
 | apply ak 281;exact fun y9=>bK rfl (cV cc rfl rfl rfl rfl (by simp only [List.length_append,List.length_map,List.length_replicate,F6];omega) (HQ _ i _ ar rfl) y9)
 | apply ak 282;exact fun y9=>s1 (cg b5 rfl rfl au) rfl y9
 | apply ak 283;exact fun y9=>s1 (fJ 63 i rfl rfl rfl rfl ar ar) rfl y9
 | apply ak 284;exact fun y9=>s1 ((A1 _ (cP 8) rfl rfl).v (v':=cM (cP (8*s.length))) (congrArg cM (by rw [←BitVec.ofNat_mul,Nat.mul_comm]))) rfl y9
 | apply ak 285;exact fun y9=>s1 ((lB _ Tryz.underlying202 Tryz.underlying5 rfl).v (v':=u8 (UInt8.ofNat (8*s.length / 2 ^ (8*i)))) (congrArg u8 (zl _ _ ar))) rfl y9
 | apply ak 286;exact fun y9=>s1 (cX (63 - i) Tryz.underlying207 cc rfl rfl rfl ar rfl) rfl y9
 | apply ak 287;exact fun y9=>bK rfl (cV cc rfl rfl rfl rfl aA (HO s i _ ar rfl) y9)) : aj n Q R := s
theorem ae.g12 {n : Nat} {Q R : Prop} (s : aj n Q R := by first
 | apply ak 288;exact fun y9=>bK rfl (pj ⟨[(3,some ((ki s).l.map b9))]⟩ [(3,(comp (ki s) (iZ s++gC (8*s.length))).l.map b9)] true rfl rfl ⟨⟨rfl,cv.pure bL⟩,trivial⟩ (.cons (.kp rfl) (.cons (.sl rfl rfl rfl (c5 aA aB) (cv.pure bL) bL) .nil)) (vh _ (iZ s++gC (8*s.length)) aA) trivial (.inr trivial) (nQ (c0:=(ki s).l.map b9) rfl bL fT) rfl y9)
 | apply ak 289;exact fun y9=>jO (rs:= []) rfl bR (nv (c:=(fin parts.flatten).l.map b9) y9)
 | apply ak 290;exact fun y9=>bK rfl (GF Tryz.underlying9 Tryz.underlying47 Tryz.underlying5 rfl av rfl y9)
 | apply ak 291;exact fun y9=>s1 (jL Tryz.underlying23 cc rfl rfl au aJ) rfl y9
 | apply ak 292;exact fun y9=>s1 (Ck (z:= .agg (List.replicate 32 (.int .u8 0):List Value).toArray) Tryz.underlying23 rfl aw rfl rfl) rfl y9
 | apply ak 293;exact fun y9=>bK rfl (bX false rfl (.cons (.pure pu) (.cons (.pure pu) (.nil))) (bO.cast (xW _ _) (congrArg A.b (decide_eq_true hcs))) pu (.inl rfl) rfl y9)
 | apply ak 294;exact fun y9=>bW (rs:= [.cell 4 128,.tmp 5]) rfl (c9 dO rfl rfl rfl rfl (bT rfl bR)) y9
 | apply ak 295;exact fun y9=>bK rfl (bX false rfl (.cons (.pure pu) (.cons (.pure pu) (.nil))) (bO.cast (xW _ _) (congrArg A.b (decide_eq_false hcs))) pu (.inl rfl) rfl y9)
 | apply ak 296;exact fun y9=>g1 rfl rfl (cf Tryz.underlying47 rfl rfl rfl) rfl y9
 | apply ak 297;exact fun y9=>jr 2 rfl rfl rfl rfl (fun hb16=> .step (bF rfl) rfl rfl<| .step (bF rfl) rfl rfl<| .done) rfl rfl y9
 | apply ak 298;exact fun y9=>bK rfl (bX false rfl (.cons (.pure pu) (.cons (.pure pu) (.cons (.pure pu) (.nil)))) (bO.cast (tP x _ _ _ D hx) (vz hcs)) pu (.inl rfl) rfl y9)
 | apply ak 299;exact fun y9=>bK rfl (bX false rfl (.cons (.pure pu) (.cons (.pure pu) (.cons (.pure pu) (.nil)))) (bO.cast (tP x _ _ _ D hx) (vB hcs)) pu (.inl rfl) rfl y9)
 | apply ak 300;exact fun y9=>bK rfl (dB 7 rfl Tryz.underlying47 cc rfl (.sl rfl aq) rfl rfl aq av av rfl rfl rfl y9)
 | apply ak 301;exact fun y9=>bW (rs:= [.cell 6 128,.tmp 7]) rfl (c9 dO rfl rfl rfl rfl (bT rfl bR)) y9
 | apply ak 302;exact fun y9=>bK rfl (cV cL rfl rfl rfl rfl aq rfl y9)
 | apply ak 303;exact fun y9=>t1 (gz _ 8 rfl rfl rfl rfl ar ar) rfl y9
 | apply ak 304;exact fun y9=>t1 (ij (bN x l n j i / 8) Tryz.underlying47 cc rfl rfl rfl rfl ar rfl) rfl y9
 | apply ak 305;exact fun y9=>s1 (bM fU rfl rfl (nf hx)) rfl y9
 | apply ak 306;exact fun y9=>s1 (cf Tryz.underlying74 rfl rfl rfl) rfl y9
 | apply ak 307;exact fun y9=>s1 (bM bP rfl (fun w2 hG2=>hG2.cell' (.head _) hr.2 (GZ hlb))) rfl y9
 | apply ak 308;exact fun y9=>bK rfl (dz 18 rfl Tryz.underlying24 bP rfl rfl rfl rfl rfl y9)
 | apply ak 309;exact fun y9=>fg rfl rfl rfl (bX false rfl (.cons (.pure pu) (.cons (.pure pu) (.nil))) (bO.cast (Ed p q aC aC) (congrArg A.b h3)) pu (.inl rfl) rfl y9)
 | apply ak 310;exact fun y9=>s1 (ct Tryz.underlying76 rfl b5 az rfl rfl) rfl y9
 | apply ak 311;exact fun y9=>s1 (bM fU rfl rfl (congrArg (fun l=>l[0]?) (x9 hx _))) rfl y9) : aj n Q R := s
theorem ae.g13 {n : Nat} {Q R : Prop} (s : aj n Q R := by first
 | apply ak 312;exact fun y9=>s1 (bM fD rfl rfl (congrArg (fun l=>l[0]?) (Ig hx _ _))) rfl y9
 | apply ak 313;exact fun y9=>bK rfl (dB 89 rfl Tryz.underlying24 bP rfl .nl rfl rfl aB aC ar rfl rfl rfl y9)
 | apply ak 314;exact fun y9=>bK rfl (cV fD rfl rfl rfl rfl aI (ya hx _ _ _) y9)
 | apply ak 315;exact fun y9=>ep 6 (cs':=dN (fq x p q)) rfl (by rw [Nat.zero_add,List.nil_append];exact Dn hend) y9
 | apply ak 316;exact fun y9=>bK rfl (cu c7 rfl rfl rfl (dH (c:=fq x p q) hx) (dH (c:=fq x p q) hx) y9)
 | apply ak 317;exact fun y9=>bW (rs:= [.cell 6 76,.tmp 7]) rfl (c9 c7 rfl rfl (vF (c:=fq x p q) hx) (dH (c:=fq x p q) hx) (bT rfl bR)) y9
 | apply ak 318;exact fun y9=>s1 (cD i Tryz.underlying29 eo rfl rfl rfl ar rfl) rfl y9
 | apply ak 319;exact fun y9=>fE y9
 | apply ak 320;exact fun y9=>fQ rfl rfl ((bF rfl).v (v':= .b false) (congrArg A.b (decide_eq_false ar))) rfl y9
 | apply ak 321;exact fun y9=>s1 (iz (us:= []) (vs:= [.p 1 0]) rfl rfl) rfl y9
 | apply ak 322;exact fun y9=>s1 ((vi rfl rfl ar ar).v (v':=nJ k) (congrArg (A.i .i64) hk)) rfl y9
 | apply ak 323;exact fun y9=>s1 ((mU (ds:=gE (l.take k)) k Tryz.underlying29 eo rfl (by rw [pc hl]) bn (bs rfl rfl) ar ar rfl (EF hl k)).v (v':=fa (l.take k)) (congrArg (fun n=>A.fz n (gE (l.take k))) hlen.symm)) rfl y9
 | apply ak 324;exact fun y9=>s1 (jK (out:= [_,_]) [[cQ (.int .i64 0)], [cQ (.int .i64 0)]] jc rfl Tryz.underlying57 aw rfl rfl ⟨⟨by(first|rfl|omega|(simp;done)|(simp [*];done)|(simp [cU, *];done)),rfl⟩,⟨⟨by(first|rfl|omega|(simp;done)|(simp [*];done)|(simp [cU, *];done)),rfl⟩,trivial⟩⟩ rfl) rfl y9
 | apply ak 325;exact fun y9=>s1 (cX k Tryz.underlying184 bP rfl rfl rfl ar rfl) rfl y9
 | apply ak 326;exact fun y9=>bK rfl (bX false rfl (.cons (.pure pu) (.cons (.pure pu) (.nil))) (Db x i hx) pu (.inl rfl) rfl y9)
 | apply ak 327;exact fun y9=>bK rfl (bX false rfl (.cons (.pure pu) (.nil)) (H6 m hm) pu (.inl rfl) rfl y9)
 | apply ak 328;exact fun y9=>bK rfl (bX false rfl (.cons (.pure pu) (.nil)) (AB L.length ar ar) pu (.inl rfl) rfl y9)
 | apply ak 329;exact fun y9=>bQ 2 [0,1] [] ((mU (cC L.length) Tryz.underlying38 b5 rfl aY bn (bs rfl rfl) ar ar rfl rfl).v (v':=dq (L.take (cC L.length))) (zP hD ar)) rfl rfl y9
 | apply ak 330;exact fun y9=>bK rfl (cu b5 rfl rfl rfl aB (by simp [hlf]) y9)
 | apply ak 331;exact fun y9=>bK rfl (bX false rfl (.cons (.pure pu) (.cons (.pure pu) (.nil))) (bO.cast (xI x n hx) (if_neg hcs)) pu (.inl rfl) rfl y9)
 | apply ak 332;exact fun y9=>bK rfl (bX false rfl (.cons (.pure pu) (.cons (.pure pu) (.nil))) (bO.cast (xI x k hx) (if_pos hsz)) pu (.inl rfl) rfl y9)
 | apply ak 333;exact fun y9=>s1 (fV Tryz.underlying40 rfl bP az rfl rfl) rfl y9
 | apply ak 334;exact fun y9=>s1 (fV Tryz.underlying40 rfl qS az rfl rfl) rfl y9
 | apply ak 335;exact fun y9=>bQ 0 [] [(3,none)] (cg b5 rfl rfl (by rw [List.length_map,hr])) rfl rfl y9) : aj n Q R := s
theorem ae.g14 {n : Nat} {Q R : Prop} (s : aj n Q R := by first
 | apply ak 336;exact fun y9=>bQ 2 [] [(9,none)] (cg eo rfl rfl hok.len) rfl rfl y9
 | apply ak 337;exact fun y9=>ee false 3 [2] [] cK rfl (.cons (.pure pu) (.nil)) (rv e hok) pu (.inl rfl) rfl rfl y9
 | apply ak 338;exact fun y9=>bQ 4 [] [(9,none)] (ct Tryz.underlying42 rfl j5 az rfl rfl) rfl rfl y9
 | apply ak 339;exact fun y9=>bQ 5 [4] [(9,none)] (eX j5 rfl rfl (EC hok) rfl) rfl rfl y9
 | apply ak 340;exact fun y9=>s1 (cg b5 rfl rfl (by rw [List.length_map,hr])) rfl y9
 | apply ak 341;exact fun y9=>bK rfl (jT 5 rfl Tryz.underlying30 jc rfl rfl rfl aK (show kL []= []from rfl) rfl rfl rfl y9)
 | apply ak 342;exact fun y9=>bK rfl (dB 7 rfl Tryz.underlying30 jc rfl (.sl rfl aB) rfl rfl aB aC ar rfl rfl rfl y9)
 | apply ak 343;exact fun y9=>bK rfl (jT 5 rfl Tryz.underlying29 eo rfl rfl rfl aK (show kL []= []from rfl) rfl rfl rfl y9)
 | apply ak 344;exact fun y9=>bK rfl (dB 7 rfl Tryz.underlying29 eo rfl (.sl rfl aB) rfl rfl (by first|rfl|omega) aC ar rfl rfl rfl y9)
 | apply ak 345;exact fun y9=>s1 ((eP Tryz.underlying3 Tryz.underlying5 rfl).v (E5 a)) rfl y9
 | apply ak 346;exact fun y9=>s1 ((eP Tryz.underlying3 Tryz.underlying5 rfl).v (E6 a)) rfl y9
 | apply ak 347;exact fun y9=>s1 ((eP Tryz.underlying3 Tryz.underlying5 rfl).v (E7 a)) rfl y9
 | apply ak 348;exact fun y9=>s1 ((eP Tryz.underlying3 Tryz.underlying5 rfl).v (E8 a)) rfl y9
 | apply ak 349;exact fun y9=>bK rfl (cV cc rfl rfl rfl rfl aE (V6.Dy _ _) y9)
 | apply ak 350;exact fun y9=>bK rfl (bX false rfl (.cons (.pure pu) (.cons (.pure pu) (.nil))) (bO.cast (ym many l) (congrArg A.b hcs)) pu (.inl rfl) rfl y9)
 | apply ak 351;exact fun y9=>bK rfl (bX false rfl (.cons (.pure pu) (.cons (.pure pu) (.nil))) (bO.cast (ym m l) (congrArg A.b hcs)) pu (.inl rfl) rfl y9)
 | apply ak 352;exact fun y9=>t1 (bM cc rfl rfl (V6.Fk ar h16)) rfl y9
 | apply ak 353;exact fun y9=>t1 (cD i Tryz.underlying47 cc rfl rfl rfl ar rfl) rfl y9
 | apply ak 354;exact fun y9=>bK rfl (cV cc rfl rfl rfl rfl aL rfl y9)
 | apply ak 355;exact fun y9=>t1 (cD i Tryz.underlying151 cc rfl rfl rfl ar rfl) rfl y9
 | apply ak 356;exact fun y9=>bK rfl (bX false rfl (.cons (.pure pu) (.cons (.pure pu) .nil)) (bO.cast (Is db ar) (congrArg A.b hcs)) pu (.inl rfl) rfl y9)
 | apply ak 357;exact fun y9=>s1 (cD k Tryz.underlying26 cL rfl rfl rfl ar rfl) rfl y9
 | apply ak 358;exact fun y9=>s1 (ct Tryz.underlying91 rfl dC az rfl rfl) rfl y9
 | apply ak 359;exact fun y9=>bQ 0 [] [(8,none)] (cg cZ rfl rfl rfl) rfl rfl y9) : aj n Q R := s
theorem ae.g15 {n : Nat} {Q R : Prop} (s : aj n Q R := by first
 | apply ak 360;exact fun y9=>bQ 1 [] [(9,none)] (cg cZ rfl rfl rfl) rfl rfl y9
 | apply ak 361;exact fun y9=>Az 0 2 [0] [(8,none)] rfl cK cZ rfl rfl rfl aq aq rfl y9
 | apply ak 362;exact fun y9=>s1 ((bF rfl).v (v':= .i .i64 (V6.want at1 k)) (congrArg (A.i .i64) hw.symm)) rfl y9
 | apply ak 363;exact fun y9=>bK rfl (bX false rfl (.cons (.pure pu) (.cons (.pure pu) (.cons (.pure pu) (.nil)))) (bO.cast (pN many (V6.want at1 k) q) (wZ hz)) pu (.inl rfl) rfl y9)
 | apply ak 364;exact fun y9=>bK rfl (dz 67 rfl Tryz.underlying26 cL rfl rfl rfl rfl rfl y9)
 | apply ak 365;exact fun y9=>bK rfl (dB 68 rfl Tryz.underlying26 cL rfl (.sl rfl aL) rfl (dE rfl aq) aB aC ar rfl (V6.CZ hnx) rfl y9)
 | apply ak 366;exact fun y9=>bK rfl (dz 73 rfl Tryz.underlying26 cL rfl rfl rfl rfl rfl y9)
 | apply ak 367;exact fun y9=>bK rfl (dB 74 rfl Tryz.underlying26 cL rfl (.sl rfl aL) rfl (dE rfl aq) aB aC ar rfl (V6.C0 hnx) rfl y9)
 | apply ak 368;exact fun y9=>bK rfl (bX false rfl (.cons (.pure pu) (.cons (.pure pu) (.cons (.pure pu) (.nil)))) (bO.cast (pN many (V6.want at1 k) q) (wY hz)) pu (.inl rfl) rfl y9)
 | apply ak 369;exact fun y9=>s1 (((bF rfl).v (v':= .i .i64 0) rfl).v (v':= .i .i64 (V6.want at1 k)) (congrArg (A.i .i64) hw.symm)) rfl y9
 | apply ak 370;exact fun y9=>t1 (cD i Tryz.underlying26 cL rfl rfl rfl ar rfl) rfl y9
 | apply ak 371;exact fun y9=>t1 (sQ Tryz.underlying47 Tryz.underlying5 Tryz.underlying9 rfl rfl aB) rfl y9
 | apply ak 372;exact fun y9=>bK rfl (dz 1011 rfl Tryz.underlying24 bP rfl rfl rfl rfl rfl y9)
 | apply ak 373;exact fun y9=>s1 (fV Tryz.underlying76 rfl fU az rfl rfl) rfl y9
 | apply ak 374;exact fun y9=>bK rfl (bX false rfl (.cons (.pure pu) (.cons (.pure pu) (.cons (.pure pu) (.nil)))) (BE c hx i id n f hf hn ar hn1 hn2 hid) pu (.inl rfl) rfl y9)
 | apply ak 375;exact fun y9=>bK rfl (dB 211 rfl Tryz.underlying24 bP rfl (.sl rfl (by simp [gI])) rfl (dE rfl aq) aB av av rfl (xE ([]:List Int) c id i h24) rfl y9)
 | apply ak 376;exact fun y9=>bK rfl (dB 211 rfl Tryz.underlying24 bP rfl (.sl rfl (by simp [gI])) rfl (dE rfl aq) aB av av rfl (xE B c id i h24) rfl y9)
 | apply ak 377;exact fun y9=>bK rfl (bX false rfl (.cons (.pure pu) (.nil)) (bO.cast (nF c hx) (congrArg A.b hcs.1)) pu (.inl rfl) rfl y9)
 | apply ak 378;exact fun y9=>fg rfl rfl rfl (bX false rfl (.cons (.pure pu) (.nil)) (bO.cast (sE id) (congrArg A.b hcs.2)) pu (.inl rfl) rfl y9)
 | apply ak 379;exact fun y9=>bK rfl (bX false rfl (.cons (.pure pu) (.cons (.pure pu) (.nil))) (H2 c j) pu (.inl rfl) rfl y9)
 | apply ak 380;exact fun y9=>g1 rfl rfl (gp 2 _ rfl rfl rfl rfl ar) rfl y9
 | apply ak 381;exact fun y9=>g1 rfl rfl (cl _ 1 rfl rfl rfl rfl ar) rfl y9
 | apply ak 382;exact fun y9=>g1 rfl rfl (cD 1 Tryz.underlying24 bP rfl rfl rfl az rfl) rfl y9
 | apply ak 383;exact fun y9=>g1 rfl rfl (bM bP rfl rfl (nX c j i (by omega:1<2))) rfl y9) : aj n Q R := s
theorem ae.g16 {n : Nat} {Q R : Prop} (s : aj n Q R := by first
 | apply ak 384;exact fun y9=>bK rfl (bX false rfl (.cons (.pure pu) (.cons (.pure pu) (.nil))) (bO.cast (sA c hx ids) (congrArg A.b hcs)) pu (.inl rfl) rfl y9)
 | apply ak 385;exact fun y9=>gr 9 rfl (v':= .fz (cE c ids).length ((cE c ids).map (A.i .i64))) aG y9
 | apply ak 386;exact fun y9=>bK rfl (bX false rfl (.cons (.pure pu) (.cons (.pure pu) (.cons (.pure pu) (.cons (.pure pu) (.nil))))) (bO.cast (Iq 520 (cE c ids) 132 coins) hA) pu (.inl rfl) rfl y9)
 | apply ak 387;exact fun y9=>t1 (cX (j % 128 / 8) Tryz.underlying141 cc rfl rfl rfl ar rfl) rfl y9
 | apply ak 388;exact fun y9=>fg rfl rfl rfl (bX false rfl (.cons (.pure pu) (.cons (.pure pu) (.nil))) (bO.cast (qQ b 132 ar) (congrArg A.b hb)) pu (.inl rfl) rfl y9)
 | apply ak 389;exact fun y9=>bK rfl (cu j5 rfl rfl rfl aq aq y9)
 | apply ak 390;exact fun y9=>bW (rs:= [.cell 8 40,.tmp 9]) rfl (c9 j5 rfl rfl rfl rfl (bT rfl bR)) y9
 | apply ak 391;exact fun y9=>bK rfl (bX false rfl (.cons (.pure pu) (.nil)) (bO.cast (sL _ (fB x k) (Nat.le_refl _) (pR x k) aE) (congrArg (fun l:List UInt8=>A.ag (l.map u8)) (xQ hsz).symm)) pu (.inl rfl) rfl y9)
 | apply ak 392;exact fun y9=>bK rfl (oz ⟨[(700,some [.mc b39 (mapOf σ)])]⟩ [(700, [.mc b39 (mapOf (cF σ c))])] false rfl ⟨⟨rfl,cv.pure bL⟩,trivial⟩ (.cons (.pure pu) (.cons (.pure pu) .nil)) (zZ aC hk) pu (.inl rfl) (fun p hp=>by rw [List.mem_singleton.1 hp];exact⟨⟨_,rfl⟩,bL,.inl rfl⟩) rfl y9)
 | apply ak 393;exact fun y9=>bK rfl (oz ⟨[(700,some [.mc b39 (mapOf (cF σ c))])]⟩ [] false rfl ⟨⟨rfl,cv.pure bL⟩,trivial⟩ (.cons (.pure pu) (.cons (.pure pu) .nil)) (H4 (sG hsup ar hk) ar hs) pu (.inl rfl) (fun p hp=>by cases hp) rfl y9)
 | apply ak 394;exact fun y9=>bQ 0 [] [] ((uR (ds:=((x.map u8).drop (0*1)).take (32*1)) 32 Tryz.underlying23 cc rfl aJ bn bn (Nat.zero_le _) (Nat.le_refl _) aI rfl rfl).v (zK hx)) rfl rfl y9
 | apply ak 395;exact fun y9=>qo 100 false 1 [0] [] cK rfl (.cons (.pure pu) (.nil)) (wh x ar ar) bL (.inl rfl) rfl rfl y9
 | apply ak 396;exact fun y9=>ee false 4 [3] [] cK rfl (.cons (.pure pu) (.nil)) (E9 (l.length:Nat)) pu (.inl rfl) rfl rfl y9
 | apply ak 397;exact fun y9=>k6 104 5 [1,4] [(100,some 1)] cK Tryz.underlying47 cc rfl (.sl rfl aB) rfl rfl aB aC ar rfl (List.map_append (l₁:=x) (l₂:=fZ (l.length:Nat) 4)).symm rfl rfl y9
 | apply ak 398;exact fun y9=>ee true 6 [5] [(104,some 5)] cK rfl (.cons (.pure pu) (.cons (.sl rfl rfl aI (c5 aI rfl) (cv.pure bL) bL) .nil)) (bO.cast (kB uJ (x++fZ (l.length:Nat) 4) aI az) (congrArg (fun l:List UInt8=>A.ag (l.map u8)) (xS x l.length).symm)) pu (.inr fu) rfl rfl y9
 | apply ak 399;exact fun y9=>bK rfl (bX false rfl (.cons (.pure pu) (.cons (.pure pu) (.cons (.pure pu) (.nil)))) (bO.cast (vG (kz x l.length) aB (ec (cF σ c) ids) (eL (cF σ c) ids) ar ar) (rp (oB hlis))) pu (.inl rfl) rfl y9)
 | apply ak 400;exact fun y9=>bK rfl (cu c7 rfl rfl rfl (dH (c:=(cJ x l.length (cF σ c) ids)) (fH _ _)) rfl y9)
 | apply ak 401;exact fun y9=>s1 (cg c7 rfl rfl (dH (c:=(cJ x l.length (cF σ c) ids)) (fH _ _))) rfl y9
 | apply ak 402;exact fun y9=>bK rfl (bX false rfl (.cons (.pure pu) (.nil)) (bO.cast (zB (cJ x l.length (cF σ c) ids) (fH _ _) (show(cJ x l.length (cF σ c) ids).E.length≤maxLen by simp only [maxLen];exact Nat.le_trans hbE az)) (vW (vM (oB hlis)))) pu (.inl rfl) rfl y9)
 | apply ak 403;exact fun y9=>bK rfl (l3 b5 rfl rfl rfl rfl rfl (show((mA (cJ x l.length (cF σ c) ids)).map u8).length=32 by simp) (by rw [A9 rfl (wP _)];decide) (GS rfl) y9)
 | apply ak 404;exact fun y9=>bQ 0 [] [] (eX b5 rfl rfl (List.take_of_length_le aI) aI) rfl rfl y9
 | apply ak 405;exact fun y9=>bQ 4 [] [(18,none)] (cg eo rfl rfl hok0.len) rfl rfl y9
 | apply ak 406;exact fun y9=>ee false 5 [4] [] cK rfl (.cons (.pure pu) (.nil)) (rv (gP x l iss day ids c (cF σ c)) hok0) pu (.inl rfl) rfl rfl y9
 | apply ak 407;exact fun y9=>ee false 6 [0,1,3,5] [] cK rfl (.cons (.pure pu) (.cons (.pure pu) (.cons (.pure pu) (.cons (.pure pu) (.nil))))) (bO.cast (HT x k (l.length:Nat) (fk (gP x l iss day ids c (cF σ c))) hx aB hsz) (BI hsz hlt)) pu (.inl rfl) rfl rfl y9) : aj n Q R := s
theorem ae.g17 {n : Nat} {Q R : Prop} (s : aj n Q R := by first
 | apply ak 408;exact fun y9=>bQ 10 [] [(18,none)] (ct Tryz.underlying42 rfl j5 az rfl rfl) rfl rfl y9
 | apply ak 409;exact fun y9=>wy 0 11 [8,10] [(18,none)] rfl cK j5 rfl rfl rfl rfl rfl rfl (by rw [hok0.len];decide) (show _=(iK x k l iss day ids c (cF σ c)).cells from GU (s:=⟨(l.length:Nat),lz (iR x (l.length:Nat)) (fk (gP x l iss day ids c (cF σ c))),path (fB x k) l.length⟩) hok0) rfl y9
 | apply ak 410;exact fun y9=>qo 143 false 1 [0] [] cK rfl (.cons (.pure pu) (.nil)) (DU l hl ar) bL (.inl rfl) rfl rfl y9
 | apply ak 411;exact fun y9=>bQ 2 [] [(18,none)] (cg eo rfl rfl hokN.len) rfl rfl y9
 | apply ak 412;exact fun y9=>ni 145 3 [2] cK Tryz.underlying29 eo rfl rfl rfl (by simp [cU,hokN.len]) (show cU (A.ag (iK x k l iss day ids c (cF σ c)).cells)++ []=(iK x k l iss day ids c (cF σ c)).cells from List.append_nil _) rfl rfl rfl rfl y9
 | apply ak 413;exact fun y9=>k6 146 4 [1,3] [(143,some 1),(145,some 3)] cK Tryz.underlying29 eo rfl (.sl rfl (by rw [pc hl])) rfl (dE rfl aq) (by rw [hokN.len]) aC ar rfl (EE l (iK x k l iss day ids c (cF σ c))) rfl rfl y9
 | apply ak 414;exact fun y9=>kY 14 0 rfl rfl rfl rfl bL (c5 (by rw [pc (Ah hl hokN),List.length_append];rfl) rfl) rfl y9
 | apply ak 415;exact fun y9=>vq hdf hS mC EG rfl (fC iy rfl rfl rfl (fC dK rfl rfl rfl bR)) y9
 | apply ak 416;exact fun y9=>mv ⟨[(14,some [.nl]),(15,some [.i .i64 0])]⟩ hdf hS mC ⟨⟨rfl,cv.pure bL⟩,⟨rfl,cv.pure bL⟩,trivial⟩ (.cons (.kp rfl) (.cons (.kp rfl) .nil)) (oh _ _ 351) (hu) (nP rfl rfl bL bL) rfl (fC iy rfl rfl rfl (fC dK rfl rfl rfl bR)) y9
 | apply ak 417;exact fun y9=>bK rfl (bX false rfl (.cons (.pure pu) (.cons (.pure pu) (.nil))) (bO.cast (Ak l (i:Nat) hl ar) (show _=A.tu [gD (fG τ),.i .i64 0] by rw [hst];rfl)) pu (.inl rfl) rfl y9)
 | apply ak 418;exact fun y9=>g1 rfl rfl (cf Tryz.underlying29 rfl rfl rfl) rfl y9
 | apply ak 419;exact fun y9=>bK rfl (bX false rfl (.cons (.pure pu) (.cons (.pure pu) (.nil))) (Hw x i hx) pu (.inl rfl) rfl y9)
 | apply ak 420;exact fun y9=>bK rfl (bX false rfl (.cons (.pure pu) (.cons (.pure pu) (.cons (.pure pu) (.nil)))) (bO.cast (vG (kz x i) aB (ec τ ids) (eL τ ids) ar ar) (rp (oB hlis))) pu (.inl rfl) rfl y9)
 | apply ak 421;exact fun y9=>bK rfl (cu c7 rfl rfl rfl (dH (c:=cJ x i τ ids) (fH _ _)) rfl y9)
 | apply ak 422;exact fun y9=>bK rfl (bX false rfl (.cons (.pure pu) (.cons (.pure pu) (.cons (.pure pu) (.nil)))) (bO.cast (sx (cJ x i τ ids) (fH _ _) others coins) hB) pu (.inl rfl) rfl y9)
 | apply ak 423;exact fun y9=>bQ 0 [] [(20,none)] (cg c7 rfl rfl (dH (c:=cJ x i τ ids) (fH _ _))) rfl rfl y9
 | apply ak 424;exact fun y9=>bQ 3 [1,2] [] (cD k Tryz.underlying24 bP rfl rfl rfl ar rfl) rfl rfl y9
 | apply ak 425;exact fun y9=>ee false 5 [0,4] [] cK rfl (.cons (.pure pu) (.cons (.pure pu) (.nil))) (bO.cast (Ie (cJ x i τ ids) (fH _ _) (j:Int)) (B7 hhd hnb)) pu (.inl rfl) rfl rfl y9
 | apply ak 426;exact fun y9=>s1 ((bF rfl).v (v':= .i .i64 (V6.want (cE (cJ x i τ ids) asked) k)) (congrArg (A.i .i64) hw1.symm)) rfl y9
 | apply ak 427;exact fun y9=>s1 ((bF rfl).v (v':= .i .i64 (V6.want (cE (cJ x i τ ids) others) k)) (congrArg (A.i .i64) hw2.symm)) rfl y9
 | apply ak 428;exact fun y9=>s1 (((bF rfl).v (v':= .i .i64 0) rfl).v (v':= .i .i64 (V6.want (cE (cJ x i τ ids) others) k)) (congrArg (A.i .i64) hw2.symm)) rfl y9
 | apply ak 429;exact fun y9=>s1 (((bF rfl).v (v':= .i .i64 0) rfl).v (v':= .i .i64 (V6.want (cE (cJ x i τ ids) asked) k)) (congrArg (A.i .i64) hw1.symm)) rfl y9
 | apply ak 430;exact fun y9=>fg rfl rfl rfl (bX false rfl (.cons (.pure pu) (.cons (.pure pu) (.nil))) (bO.cast (EJ coins 140 hcn) (congrArg A.b hfw)) pu (.inl rfl) rfl y9)
 | apply ak 431;exact fun y9=>bQ 0 [] [(9,none)] (cg b5 rfl rfl aW) rfl rfl y9) : aj n Q R := s
theorem ae.g18 {n : Nat} {Q R : Prop} (s : aj n Q R := by first
 | apply ak 432;exact fun y9=>bQ 6 [4,5] [] (cD i Tryz.underlying25 uL rfl rfl rfl ar rfl) rfl rfl y9
 | apply ak 433;exact fun y9=>bQ 7 [6] [] (fV Tryz.underlying32 rfl bP az rfl rfl) rfl rfl y9
 | apply ak 434;exact fun y9=>bQ 8 [7] [] (bM bP rfl rfl (uG hs (k:=0) rfl az)) rfl rfl y9
 | apply ak 435;exact fun y9=>bQ 12 [10,11] [] (cD i Tryz.underlying25 uL rfl rfl rfl ar rfl) rfl rfl y9
 | apply ak 436;exact fun y9=>bQ 13 [12] [] (fV Tryz.underlying32 rfl ib az rfl rfl) rfl rfl y9
 | apply ak 437;exact fun y9=>bQ 14 [13] [] (bM ib rfl rfl (uG hs (k:=1) rfl az)) rfl rfl y9
 | apply ak 438;exact fun y9=>g1 rfl rfl ((bF rfl).v (v':= .b false) (congrArg A.b aB)) rfl y9
 | apply ak 439;exact fun y9=>cG y9
 | apply ak 440;exact fun y9=>bK rfl (dh 1 rfl rfl rfl y9)
 | apply ak 441;exact fun y9=>bK rfl (dh 2 rfl rfl rfl y9)
 | apply ak 442;exact fun y9=>s1 ((bF rfl).v (v':= .i .u32 0) rfl) rfl y9
 | apply ak 443;exact fun y9=>s1 ((bF rfl).v (v':= .i .i64 370) rfl) rfl y9) : aj n Q R := s
theorem aa (l : List Nat) {P Q : Prop} (p : P) (r : ae l P Q := by
 repeat first
  | exact af
  | apply ai;exact rfl;exact rfl
  | apply ae.c 0;exact rfl;exact ae.g0
  | apply ae.c 1;exact rfl;exact ae.g1
  | apply ae.c 2;exact rfl;exact ae.g2
  | apply ae.c 3;exact rfl;exact ae.g3
  | apply ae.c 4;exact rfl;exact ae.g4
  | apply ae.c 5;exact rfl;exact ae.g5
  | apply ae.c 6;exact rfl;exact ae.g6
  | apply ae.c 7;exact rfl;exact ae.g7
  | apply ae.c 8;exact rfl;exact ae.g8
  | apply ae.c 9;exact rfl;exact ae.g9
  | apply ae.c 10;exact rfl;exact ae.g10
  | apply ae.c 11;exact rfl;exact ae.g11
  | apply ae.c 12;exact rfl;exact ae.g12
  | apply ae.c 13;exact rfl;exact ae.g13
  | apply ae.c 14;exact rfl;exact ae.g14
  | apply ae.c 15;exact rfl;exact ae.g15
  | apply ae.c 16;exact rfl;exact ae.g16
  | apply ae.c 17;exact rfl;exact ae.g17
  | apply ae.c 18;exact rfl;exact ae.g18) : Q := r.h p
end Go.Abs
namespace Go.Abs.D2
open Go Go.Eng Go.Abs Go.Proofs
theorem yg (l:List Ch) (id:Int) (hn:l.length≤maxLen):bO Tryz.prog 13 [gD l,.i .i64 id] (cn (.i .i64 (mg l id))):=by
 refine enter Tryz.func13 rfl Tryz.ntmps13 aw (Nat.le_of_ble_eq_true rfl) fun w0 X0 hI=>?_
 refine aa [444,498] ?_
 simp only [maxLen]at hn
 refine aa [1,459] ?_
 refine cO (ι:=Nat) (fun i=> [(0,gD l),(1,.i .i64 id),(5,nJ i)]) (fun i=>⟨[]⟩) (fun i=>i≤l.length∧mg l id=mg (l.drop i) id) (fun i=>l.length - i) ?_ ?_
 ·exact cN (0) (⟨Nat.zero_le _,rfl⟩) [] hI rfl rfl ⟨⟨_,rfl,.pure pu⟩,⟨_,rfl,.pure pu⟩,⟨_,rfl,.pure pu⟩,trivial⟩ trivial
 rintro i ⟨hi,hst⟩
 refine aa [481,125,447] ?_
 refine b7 rfl (fun hc9=>?_) (fun hc9=>?_)
 ·have h9 : i < l.length := by have := of_decide_eq_true hc9; omega
  obtain⟨c,hc⟩:∃c,l[i]? =some c:=⟨_,List.getElem?_eq_getElem h9⟩
  refine aa [482,453,126,261] ?_
  refine s1 (bM bP rfl rfl (DT hc (k:=0) rfl az)) rfl ?_
  refine aa [0,447] ?_
  refine b7 rfl (fun hc18=>?_) (fun hc18=>?_)
  ·have h18 : c.id = id := by simpa using hc18
   refine aa [453,126,261] ?_
   refine s1 (bM bP rfl rfl (DT hc (k:=1) rfl az)) rfl ?_
   refine aa [449,529] ?_
   exact congrArg (A.i .i64) (hst.trans (Sw hc h18)).symm
  ·have h18 : ¬ c.id = id := by simpa using hc18
   refine aa [19,492] ?_
   exact cz (i+1) (⟨by omega,hst.trans (Sv hc h18)⟩) ar [] hI rfl rfl ⟨⟨_,rfl,.pure pu⟩,⟨_,rfl,.pure pu⟩,⟨_,rfl,.pure pu⟩,trivial⟩ trivial
 ·obtain rfl : i = l.length := by have := of_decide_eq_false hc9; omega
  rw [List.drop_length]at hst
  refine aa [483,464,11] ?_
  exact congrArg (A.i .i64) hst.symm
theorem SW (l:List Int) (id:Int) (hn:l.length≤maxLen):bO Tryz.prog 10 [.fz l.length (l.map (A.i .i64)),.i .i64 id] (cn (.b (decide (id∈l)))):=by
 refine enter Tryz.func10 rfl Tryz.ntmps10 aw (Nat.le_of_ble_eq_true rfl) fun w0 X0 hI=>?_
 refine aa [448,3] ?_
 simp only [maxLen]at hn
 refine aa [1,459] ?_
 refine cO (ι:=Nat) (fun i=> [(0,.fz l.length (l.map (A.i .i64))),(1,.i .i64 id),(5,nJ i)]) (fun i=>⟨[]⟩) (fun i=>i≤l.length∧¬id∈l.take i) (fun i=>l.length - i) ?_ ?_
 ·exact cN (0) (⟨Nat.zero_le _,by simp⟩) [] hI rfl rfl ⟨⟨_,rfl,.pure pu⟩,⟨_,rfl,.pure pu⟩,⟨_,rfl,.pure pu⟩,trivial⟩ trivial
 rintro i ⟨hi,hst⟩
 refine aa [481,512] ?_
 refine b7 rfl (fun hc9=>?_) (fun hc9=>?_)
 ·have h9 : i < l.length := by have := of_decide_eq_true hc9; omega
  obtain⟨q,hq⟩:∃q,l[i]? =some q:=⟨_,List.getElem?_eq_getElem h9⟩
  refine aa [482,453,51,52,0,447] ?_
  refine b7 rfl (fun hc17=>?_) (fun hc17=>?_)
  ·have h17 : q = id := by simpa using hc17
   refine aa [480,529] ?_
   exact congrArg A.b (decide_eq_true (h17 ▸ List.mem_of_getElem? hq)).symm
  ·have h17 : ¬ q = id := by simpa using hc17
   refine aa [19,492] ?_
   exact cz (i+1) (⟨by omega,Ny hq h17 hst⟩) ar [] hI rfl rfl ⟨⟨_,rfl,.pure pu⟩,⟨_,rfl,.pure pu⟩,⟨_,rfl,.pure pu⟩,trivial⟩ trivial
 ·obtain rfl : i = l.length := by have := of_decide_eq_false hc9; omega
  rw [List.take_length]at hst
  refine aa [484,480,11] ?_
  exact congrArg A.b (decide_eq_false hst).symm
-- E5B
theorem yA (w:World):(zeroValue 3).run Tryz.prog w= .ok (.int .i64 0) w:=by kernel_rfl
theorem jm (e:Int):bO Tryz.prog 18 [.b true,.i .i64 e] (cn (.tu [])):=by
 refine enter Tryz.func18 rfl Tryz.ntmps18 aw (Nat.le_of_ble_eq_true rfl) fun w0 X0 hI=>?_
 refine aa [445,497,19] ?_
 refine jO (rs:= []) rfl bR rfl
theorem kH (e:Int):lE Tryz.prog 18 [.b false,.i .i64 e] ⟨[]⟩ (fun _ _=>False) (fun u=>u=ku 107 e):=by
 refine vZ Tryz.func18 rfl Tryz.ntmps18 aw (Nat.le_of_ble_eq_true rfl) fun w0 X0 hI=>?_
 refine aa [445,513,450] ?_
 refine s1 (jK (out:= [_]) [[cQ (.int .i64 0)]] BX rfl Tryz.underlying107 aw rfl rfl ⟨⟨by(first|rfl|omega|(simp;done)|(simp [*];done)|(simp [cU, *];done)),rfl⟩,trivial⟩ rfl) rfl ?_
 refine aa [128] ?_
 refine P0 rfl rfl ?_
 exact qa rfl
theorem z7 (e:Int):bO Tryz.prog 16 [.ic 107 (.ag [.i .i64 e])] (cn (.i .i64 e)):=by
 refine enter Tryz.func16 rfl Tryz.ntmps16 aw (Nat.le_of_ble_eq_true rfl) fun w0 X0 hI=>?_
 refine aa [444,551,445] ?_
 refine s1 (yz Tryz.underlying107 rfl rfl) rfl ?_
 refine aa [471] ?_
 refine bK rfl (cB 3 rfl BX rfl rfl ?_)
 refine bK rfl (cu BX rfl rfl rfl aq aq ?_)
 refine aa [452,479,101,469] ?_
 refine s1 (ct Tryz.underlying107 rfl dK az rfl rfl) rfl ?_
 refine aa [15,500] ?_
 rfl
theorem Eh (b:Nat) (σ:Int→Int) (l:List Ch) (hn:l.length≤maxLen):lE Tryz.prog 23 [.raw (.map (some b)),gD l] ⟨[(700,some [.mc b (mapOf σ)])]⟩ (fun r st=>fy σ (-1) l=true∧gL (.tu []) [(700, [.mc b (mapOf (cF σ l))])] r st) (fun u=>fy σ (-1) l=false∧u=ku 107 351):=by
 refine vZ Tryz.func23 rfl Tryz.ntmps23 aw (Nat.le_of_ble_eq_true rfl) fun w0 X0 hI=>?_
 refine aa [444,65,456] ?_
 simp only [maxLen]at hn
 refine aa [450,125,459] ?_
 refine cO (ι:=Nat×(Int→Int)×Int) (fun⟨i,τ,la⟩=> [(0,.raw (.map (some b))),(4,.i .i64 la),(7,gD l),(8,nJ l.length),(9,nJ i)]) (fun⟨i,τ,la⟩=>⟨[(700,some ([.mc b (mapOf τ)]))]⟩) (fun⟨i,τ,la⟩=>i≤l.length∧fy σ (-1) l=fy τ la (l.drop i)∧cF σ l=cF τ (l.drop i)) (fun⟨i,τ,la⟩=>l.length - i) ?_ ?_
 ·exact cN ((0,σ, -1)) (⟨Nat.zero_le _,rfl,rfl⟩) [(700,some 700)] hI rfl rfl ⟨⟨_,rfl,.pure pu⟩,⟨_,rfl,.pure pu⟩,⟨_,rfl,.pure pu⟩,⟨_,rfl,.pure pu⟩,⟨_,rfl,.pure pu⟩,trivial⟩ ⟨.inr ⟨_,_,rfl,rfl,.pure bL⟩,trivial⟩
 rintro⟨i,τ,la⟩ ⟨hi,hk,hg⟩
 dsimp only
 refine aa [448] ?_
 refine b7 rfl (fun hc10=>?_) (fun hc10=>?_)
 ·have h10 : i < l.length := by have := of_decide_eq_true hc10; omega
  obtain⟨c,hc⟩:∃c,l[i]? =some c:=⟨_,List.getElem?_eq_getElem h10⟩
  refine aa [462,126] ?_
  refine s1 (eX jc rfl rfl (zE hc) rfl) rfl <| bK rfl (cB 6 rfl jc rfl rfl ?_)
  refine aa [264,454,54,2,471] ?_
  refine gF 3 rfl rfl rfl rfl (fun hb17=> .step (ct Tryz.underlying57 rfl bP az rfl rfl) rfl rfl<| .step (bM bP rfl rfl rfl) rfl rfl<| .step (bF rfl) rfl rfl<| .done) rfl rfl <| s1 (bF rfl) rfl <| gF 3 rfl rfl rfl rfl (fun hb22=> .step (ct Tryz.underlying57 rfl bP az rfl rfl) rfl rfl<| .step (bM bP rfl rfl rfl) rfl rfl<| .step (bF rfl) rfl rfl<| .done) rfl rfl <| s1 (bF rfl) rfl <| gF 3 rfl rfl rfl rfl (fun hb27=> .step (ct Tryz.underlying57 rfl bP az rfl rfl) rfl rfl<| .step (bM bP rfl rfl rfl) rfl rfl<| .step (bF rfl) rfl rfl<| .done) rfl rfl ?_
  refine kX 31 rfl (fun hc31=>?_) (fun hc31=>?_)
  ·skip
   refine aa [40,454,54,2,0,54,2,184,446] ?_
   refine gF 5 rfl rfl rfl rfl (fun hb40=> .step (bF rfl) rfl rfl<| .step (ct Tryz.underlying57 rfl bP az rfl rfl) rfl rfl<| .step (bM bP rfl rfl rfl) rfl rfl<| .step (qT Tryz.underlying63 Tryz.underlying3 yA rfl rfl rfl (wW _ _)) rfl rfl<| .step (bF rfl) rfl rfl<| .done) rfl rfl ?_
   refine kX 46 rfl (fun hc46=>?_) (fun hc46=>?_)
   ·skip
    refine aa [40,454,54,2,458,54,2,54,2] ?_
    refine bK rfl (xe Tryz.underlying63 Tryz.underlying3 rfl rfl rfl rfl ?_)
    refine aa [454,54,2,447] ?_
    refine b7 rfl (fun hc57=>?_) (fun hc57=>?_)
    ·have h57 : c.st = 0 := by simpa using hc57
     refine aa [450,54,2] ?_
     refine bK rfl (O9 Tryz.underlying63 Tryz.underlying3 rfl rfl rfl rfl ?_)
     refine aa [472] ?_
     exact cz (x:=(i,τ,la)) ((i+1,mi τ c.id c.st,c.id)) (⟨show i+1≤l.length by omega,hk.trans (Dx hc (Dv hc31 hc46)),hg.trans (DB hc)⟩) (show l.length - (i+1)<l.length - i by omega) [(700,some 700)] hI rfl rfl ⟨⟨_,rfl,.pure pu⟩,⟨_,rfl,.pure pu⟩,⟨_,rfl,.pure pu⟩,⟨_,rfl,.pure pu⟩,⟨_,rfl,.pure pu⟩,trivial⟩ ⟨.inr ⟨_,_,rfl,rfl,.of (congrArg (fun f=> [A.mc b f]) (OM h57)) (.pure bL)⟩,trivial⟩
    ·have h57 : c.st ≠ 0 := by simpa using hc57
     refine aa [474] ?_
     exact cz (x:=(i,τ,la)) ((i+1,mi τ c.id c.st,c.id)) (⟨show i+1≤l.length by omega,hk.trans (Dx hc (Dv hc31 hc46)),hg.trans (DB hc)⟩) (show l.length - (i+1)<l.length - i by omega) [(700,some 700)] hI rfl rfl ⟨⟨_,rfl,.pure pu⟩,⟨_,rfl,.pure pu⟩,⟨_,rfl,.pure pu⟩,⟨_,rfl,.pure pu⟩,⟨_,rfl,.pure pu⟩,trivial⟩ ⟨.inr ⟨_,_,rfl,rfl,.of (congrArg (fun f=> [A.mc b f]) (OO h57)) (.pure bL)⟩,trivial⟩
   ·skip
    refine gS ⟨[]⟩ false rfl trivial (.cons (.pure pu) (.cons (.pure pu) .nil)) (kH 351) (fun u hu=>?_)
    refine dt <| fE <| dt <| dt <| fE ?_
    exact qa ⟨hk.trans (Dw hc (KW hc46)),hu⟩
  ·skip
   refine gS ⟨[]⟩ false rfl trivial (.cons (.pure pu) (.cons (.pure pu) .nil)) (kH 351) (fun u hu=>?_)
   refine dt <| fE <| dt <| dt <| fE ?_
   exact qa ⟨hk.trans (Dw hc (KV hc31)),hu⟩
 ·obtain rfl : i = l.length := by have := of_decide_eq_false hc10; omega
  rw [List.drop_length]at hk hg
  refine cG <| b6 <| b6 <| cH <| ep 700 (cs':= [.mc b (mapOf (cF σ l))]) rfl (by rw [hg];rfl) ?_
  refine J4 (rs:= []) rfl bR ⟨hk,nv rfl⟩
theorem zZ {b:Nat} {σ:Int→Int} {l:List Ch} (hn:l.length≤maxLen) (h:fy σ (-1) l=true):dG Tryz.prog 23 [.raw (.map (some b)),gD l] ⟨[(700,some [.mc b (mapOf σ)])]⟩ (gL (.tu []) [(700, [.mc b (mapOf (cF σ l))])]):=(Eh b σ l hn).ret (fun _ _ h=>h.2) fun u hu=>by rw [h]at hu;cases hu.1
theorem z6 {b:Nat} {σ:Int→Int} {l:List Ch} (hn:l.length≤maxLen) (h:fy σ (-1) l=false):lF Tryz.prog 23 [.raw (.map (some b)),gD l] ⟨[(700,some [.mc b (mapOf σ)])]⟩ (fun u=>fy σ (-1) l=false∧u=ku 107 351):=(Eh b σ l hn).xB fun r st hu=>by rw [h]at hu;cases hu.1
theorem L9 (l:List Ep) (b:Nat):bO Tryz.prog 82 [fa l,.raw (.map (some b))] (cn (.fn (.func 126) [] [.fp [fa l],.fp [.raw (.map (some b))]])):=by
 refine enter Tryz.func82 rfl Tryz.ntmps82 aw (Nat.le_of_ble_eq_true rfl) fun w0 X0 hI=>?_
 refine aa [444,83,129,452,130,41,1] ?_
 refine s1 (iz (us:= []) (vs:= [.fp [fa l],.fp [.raw (.map (some b))]]) rfl rfl) rfl ?_
 refine aa [449,11] ?_
 rfl
-- C1B
theorem Lm (B:List UInt8) (u:BitVec 64) (hB:B.length≤100000000):dG Tryz.prog 135 [.sl 128 1 0 B.length,cM u] ⟨[(128,some (B.map u8))]⟩ (eY 1 (B++eA u.toNat).length ((B++eA u.toNat).map u8)):=by
 refine Mo bL Tryz.func135 rfl Tryz.ntmps135 aw (Nat.le_of_ble_eq_true rfl) fun w0 X0 hI=>?_
 refine aa [448,13] ?_
 refine cO (ι:=Nat) (fun k=> [(0,.sl 130 1 0 (B.length+k)),(1,cM (u>>>(7*k)))]) (fun k=>⟨[(130,some ((B++kO u.toNat (k)).map u8))]⟩) (fun k=>k≤10∧∀i,i<k→128≤u.toNat / 128 ^ i) (fun k=>10 - k) ?_ ?_
 ·exact cN (0) (⟨by omega,fun t ht=>absurd ht ar⟩) [(130,some 128)] hI rfl rfl ⟨⟨_,rfl,.sl rfl aq⟩,⟨_,rfl,.pure pu⟩,trivial⟩ ⟨.inr ⟨_,_,rfl,rfl,.of (by simp [kO]) (.pure bL)⟩,trivial⟩
 rintro k ⟨hk,hk2⟩
 have hsh:=BH u k
 have hpl:(B++kO u.toNat (k)).length=B.length+k:=by simp
 refine aa [3,445] ?_
 refine s1 ((bF rfl).v (v':= .b (decide (128≤u.toNat / 128 ^ k))) (congrArg A.b (Ph u k))) rfl <| bI <| bG ?_
 refine b7 rfl (fun hc6=>?_) (fun hc6=>?_)
 ·have h6 : 128 ≤ u.toNat / 128 ^ k := of_decide_eq_true hc6
  have hk9:k<10:=Nat.lt_of_not_le fun h=>by rw [Qe u.isLt h]at h6;omega
  refine aa [461,13,453] ?_
  refine s1 (mu _ (cP 127) rfl rfl) rfl ?_
  refine aa [42] ?_
  refine s1 ((uk _ (128:UInt8) rfl rfl).v (v':=u8 (UInt8.ofNat (u.toNat / 128 ^ k % 128+128))) (congrArg u8 (Pg u k))) rfl <| bK rfl (dz 12 rfl Tryz.underlying47 cc rfl rfl rfl rfl rfl ?_)
  refine bK rfl (dB 13 rfl Tryz.underlying47 cc rfl (.sl rfl aB) rfl (dE rfl aq) aB aC ar rfl (Pf B u k) rfl ?_)
  refine aa [530] ?_
  refine s1 ((mS _ 7 rfl rfl rfl az).v (v':=cM (u>>>(7*(k+1)))) (congrArg cM (RZ u k))) rfl ?_
  refine aa [476,50] ?_
  exact cz (k+1) (⟨by omega,vj hk2 h6⟩) ar [(130,some 13)] hI rfl rfl ⟨⟨_,rfl,.sl rfl aq⟩,⟨_,rfl,.pure pu⟩,trivial⟩ ⟨.inr ⟨_,_,rfl,rfl,.pure bL⟩,trivial⟩
 ·have h6 : ¬ 128 ≤ u.toNat / 128 ^ k := of_decide_eq_false hc6
  refine aa [484,453] ?_
  refine s1 ((lB _ Tryz.underlying202 Tryz.underlying5 rfl).v (v':=u8 (UInt8.ofNat (u.toNat / 128 ^ k))) (by rw [hsh])) rfl ?_
  refine aa [265] ?_
  refine bK rfl (dB 20 rfl Tryz.underlying47 cc rfl (.sl rfl aB) rfl (dE rfl aq) aB aC ar rfl (Pj B hk2 (Nat.lt_of_not_le h6)) rfl ?_)
  refine aa [449] ?_
  have hll:=Pk B hk2 (Nat.lt_of_not_le h6)
  refine bW (rs:= [.tmp 4]) rfl (bT rfl bR) ⟨20,?_,rfl⟩
  rw [←hll];rfl
theorem zG (B R:List UInt8) (u:BitVec 64) (m:Nat) (hB:B.length≤100000000) (hm:m=B.length) (hR:B++eA u.toNat=R):dG Tryz.prog 135 [.sl 128 1 0 m,cM u] ⟨[(128,some (B.map u8))]⟩ (eY 1 R.length (R.map u8)):=by
  subst hm;subst hR
  exact Lm B u hB
theorem Lx (n:Int) (h0: -9223372036854775808≤n) (h1:n≤9223372036854775807):bO Tryz.prog 136 [.i .i64 n] (cn (cM (cP (mh n)))):=by
 refine enter Tryz.func136 rfl Tryz.ntmps136 aw (Nat.le_of_ble_eq_true rfl) fun w0 X0 hI=>?_
 refine bH <| bJ <| s1 ((bF rfl).v (v':= .i .u64 0) rfl) rfl ?_
 refine aa [486] ?_
 refine s1 ((eP Tryz.underlying3 Tryz.underlying202 rfl).v (v':=cM (BitVec.ofInt 64 n)) (congrArg (A.i .u64) (S6 n))) rfl <| s1 (RW _ 1 rfl rfl rfl az) rfl <| s1 (bF rfl) rfl <| s1 ((lD rfl rfl az).v (v':= .i .i64 (if 0≤n then 0 else -1)) (congrArg (A.i .i64) (S9 h0 h1))) rfl <| s1 ((eP Tryz.underlying3 Tryz.underlying202 rfl).v (v':=cM (if 0≤n then 0 else BitVec.allOnes 64)) (congrArg (A.i .u64) (S7 n))) rfl <| s1 ((TS _ _ rfl rfl).v (v':=cM (cP (mh n))) (congrArg cM (Ta h0 h1))) rfl ?_
 refine aa [500] ?_
 rfl
theorem KU (k n:Int) (s:List UInt8) (l:List CV) (hl:CV.gT l<1000000) (ih:∀v∈l,bO Tryz.prog 132 [.ag v.cells] (cn (.b v.okB))):bO Tryz.prog 132 [.ag [.i .i64 k,.i .i64 n,.s s,.fz l.length (CV.dA l)]] (cn (.b (CV.okB (.mk k n s l)))):=by
 refine enter Tryz.func132 rfl Tryz.ntmps132 aw (Nat.le_of_ble_eq_true rfl) fun w0 X0 hI=>?_
 refine aa [496,452,3] ?_
 have hll:=CV.AU l
 refine aa [1,131,2,460,13,479] ?_
 refine b7 rfl (fun hc7=>?_) (fun hc7=>?_)
 ·have hk1 : k = 1 := by simpa using hc7
  refine bH <| bJ <| s1 (ct Tryz.underlying118 rfl pL az rfl rfl) rfl <| s1 (bM pL rfl rfl rfl) rfl <| s1 ((bF rfl).v (v':= .b s.isEmpty) (congrArg A.b (by cases s<;>rfl))) rfl <| s1 (bF rfl) rfl <| gF 4 rfl rfl rfl rfl (fun hb12=> .step (ct Tryz.underlying118 rfl j4 az rfl rfl) rfl rfl<| .step (bM j4 rfl rfl rfl) rfl rfl<| .step (cf Tryz.underlying116 rfl rfl rfl) rfl rfl<| .step (bF rfl) rfl rfl<| .done) rfl rfl ?_
  refine aa [449,546,5] ?_
  exact congrArg A.b (Py hk1)
 ·have hk1 : ¬ k = 1 := by simpa using hc7
  refine aa [479] ?_
  refine b7 rfl (fun hc18=>?_) (fun hc18=>?_)
  ·have hk2 : k = 2 := by simpa using hc18
   refine aa [444,131,2,446] ?_
   refine gF 4 rfl rfl rfl rfl (fun hb23=> .step (ct Tryz.underlying118 rfl j4 az rfl rfl) rfl rfl<| .step (bM j4 rfl rfl rfl) rfl rfl<| .step (cf Tryz.underlying116 rfl rfl rfl) rfl rfl<| .step (bF rfl) rfl rfl<| .done) rfl rfl ?_
   refine aa [449,546,5] ?_
   exact congrArg A.b (Pz hk2)
  ·have hk2 : ¬ k = 2 := by simpa using hc18
   refine aa [479] ?_
   refine b7 rfl (fun hc29=>?_) (fun hc29=>?_)
   ·have hk3 : k = 3 := by simpa using hc29
    refine aa [3,444,131,2,446] ?_
    refine jr 3 rfl rfl rfl rfl (fun hb34=> .step (ct Tryz.underlying118 rfl pL az rfl rfl) rfl rfl<| .step (bM pL rfl rfl rfl) rfl rfl<| .step ((bF rfl).v (v':= .b (!s.isEmpty)) (congrArg A.b (by cases s<;>rfl))) rfl rfl<| .done) rfl rfl <| bI <| bG ?_
    refine b7 rfl (fun hc38=>?_) (fun hc38=>?_)
    ·skip
     refine aa [480,519,5] ?_
     exact congrArg A.b (PC hk3 hc38)
    ·skip
     refine aa [465,444,185,186,187,459] ?_
     refine cO (ι:=Nat) (fun i=> [(40,.fz l.length (CV.dA l)),(41,nJ l.length),(42,nJ i)]) (fun i=>⟨[]⟩) (fun i=>i≤l.length∧(l.take i).all CV.okB=true) (fun i=>l.length - i) ?_ ?_
     ·exact cN (0) (⟨Nat.zero_le _,rfl⟩) [] hI rfl rfl ⟨⟨_,rfl,.pure pu⟩,⟨_,rfl,.pure pu⟩,⟨_,rfl,.pure pu⟩,trivial⟩ trivial
     rintro i ⟨hi,hi2⟩
     refine aa [448] ?_
     refine b7 rfl (fun hc43=>?_) (fun hc43=>?_)
     ·have h43 : i < l.length := by have := of_decide_eq_true hc43; omega
      obtain⟨v,hv⟩:∃v,l[i]? =some v:=⟨_,List.getElem?_eq_getElem h43⟩
      have hvm:=List.mem_of_getElem? hv
      refine aa [462,188] ?_
      refine s1 (eX da rfl rfl (CV.get hv) (CV.mI v)) rfl <| bK rfl (cB 4 rfl da rfl rfl ?_)
      refine aa [266,454,132,267,447] ?_
      refine b7 rfl (fun hc48=>?_) (fun hc48=>?_)
      ·have h48 : v.okB = false := by simpa using hc48
       refine aa [480,495,546,5] ?_
       exact congrArg A.b (PB hk3 hv h48)
      ·have h48 : v.okB = true := by simpa using hc48
       refine aa [474] ?_
       exact cz (i+1) (⟨by omega,Jv hv hi2 h48⟩) ar [] hI rfl rfl ⟨⟨_,rfl,.pure pu⟩,⟨_,rfl,.pure pu⟩,⟨_,rfl,.pure pu⟩,trivial⟩ trivial
     ·obtain rfl : i = l.length := by have := of_decide_eq_false hc43; omega
      refine aa [484,480,546,5] ?_
      exact congrArg A.b (PA hk3 hc38 hi2)
   ·have hk3 : ¬ k = 3 := by simpa using hc29
    refine aa [19,545,480,5] ?_
    exact congrArg A.b (Px hk1 hk2 hk3)
theorem KT (v:CV) (h:v.size≤1000000):bO Tryz.prog 132 [.ag v.cells] (cn (.b v.okB)):=CV.Bu (p:=fun v=>bO Tryz.prog 132 [.ag v.cells] (cn (.b v.okB))) 1000000 (fun k n s l hl ih=>KU k n s l hl ih) v h
theorem KR (k n:Int) (s:List UInt8) (l:List CV) (hl:CV.gT l<1000000) (ih:∀v∈l,bO Tryz.prog 133 [.ag v.cells] (cn (nJ v.depth))):bO Tryz.prog 133 [.ag [.i .i64 k,.i .i64 n,.s s,.fz l.length (CV.dA l)]] (cn (nJ (CV.depth (.mk k n s l)))):=by
 refine enter Tryz.func133 rfl Tryz.ntmps133 aw (Nat.le_of_ble_eq_true rfl) fun w0 X0 hI=>?_
 refine aa [496,498] ?_
 have hll:=CV.AU l
 have hdl:=CV.D6 l
 refine aa [1,131,2,447] ?_
 refine b7 rfl (fun hc8=>?_) (fun hc8=>?_)
 ·have hk3 : ¬ k = 3 := by simpa using hc8
  refine aa [444,464,49,5] ?_
  exact congrArg nJ (show 0=CV.depth (.mk k n s l) by rw [CV.depth,if_neg hk3])
 ·have hk3 : k = 3 := by simpa using hc8
  refine aa [469,470,444,185,186,187,459] ?_
  refine cO (ι:=Nat) (fun i=> [(3,nJ (CV.iF (l.take i))),(10,.fz l.length (CV.dA l)),(11,nJ l.length),(12,nJ i)]) (fun i=>⟨[]⟩) (fun i=>i≤l.length) (fun i=>l.length - i) ?_ ?_
  ·exact cN (0) (Nat.zero_le _) [] hI rfl rfl ⟨⟨_,rfl,.pure pu⟩,⟨_,rfl,.pure pu⟩,⟨_,rfl,.pure pu⟩,⟨_,rfl,.pure pu⟩,trivial⟩ trivial
  rintro i hi
  refine aa [448] ?_
  refine b7 rfl (fun hc13=>?_) (fun hc13=>?_)
  ·have h43 : i < l.length := by have := of_decide_eq_true hc13; omega
   obtain⟨v,hv⟩:∃v,l[i]? =some v:=⟨_,List.getElem?_eq_getElem h43⟩
   have hvm:=List.mem_of_getElem? hv
   refine aa [462,188] ?_
   refine s1 (eX da rfl rfl (CV.get hv) (CV.mI v)) rfl <| bK rfl (cB 5 rfl da rfl rfl ?_)
   refine aa [266,460,450,132,267] ?_
   refine s1 ((IW (a:=CV.iF (l.take i)) (b:=v.depth) rfl rfl rfl).v (v':=nJ (CV.iF (l.take (i+1)))) (congrArg nJ (CV.LZ hv))) rfl ?_
   refine aa [488] ?_
   exact cz (i+1) ar ar [] hI rfl rfl ⟨⟨_,rfl,.pure pu⟩,⟨_,rfl,.pure pu⟩,⟨_,rfl,.pure pu⟩,⟨_,rfl,.pure pu⟩,trivial⟩ trivial
  ·obtain rfl : i = l.length := by have := of_decide_eq_false hc13; omega
   refine aa [483] ?_
   refine s1 ((bF rfl).v (v':=nJ (CV.iF l)) aG) rfl ?_
   refine aa [100,500] ?_
   exact congrArg nJ (show CV.iF l+1=CV.depth (.mk k n s l) by rw [CV.depth,if_pos hk3])
theorem KQ (v:CV) (h:v.size≤1000000):bO Tryz.prog 133 [.ag v.cells] (cn (nJ v.depth)):=CV.Bu (p:=fun v=>bO Tryz.prog 133 [.ag v.cells] (cn (nJ v.depth))) 1000000 (fun k n s l hl ih=>KR k n s l hl ih) v h
theorem KO (v:CV) (h:v.size≤1000000):bO Tryz.prog 101 [.ag v.cells] (cn (.i .i64 (jl v))):=by
 refine enter Tryz.func101 rfl Tryz.ntmps101 aw (Nat.le_of_ble_eq_true rfl) fun w0 X0 hI=>?_
 refine aa [496,470,444,132] ?_
 refine bK rfl (bX false rfl (.cons (.pure pu) (.nil)) (KT v h) pu (.inl rfl) rfl ?_)
 refine aa [447] ?_
 refine b7 rfl (fun hc5=>?_) (fun hc5=>?_)
 ·have h5 : v.okB = false := by simpa using hc5
  refine aa [444,102,467,5] ?_
  exact congrArg (A.i .i64) (K3 h5).symm
 ·have h5 : v.okB = true := by simpa using hc5
  refine aa [465,444,132] ?_
  refine bK rfl (bX false rfl (.cons (.pure pu) (.nil)) (KQ v h) pu (.inl rfl) rfl ?_)
  refine aa [447] ?_
  refine b7 rfl (fun hc8=>?_) (fun hc8=>?_)
  ·have h8 : 16 < v.depth := by have := of_decide_eq_true hc8; omega
   refine bH <| bJ <| s1 ((bF rfl).v (v':= .i .i64 2) rfl) rfl ?_
   refine aa [467,5] ?_
   exact congrArg (A.i .i64) (K4 h5 h8).symm
  ·have h8 : ¬ 16 < v.depth := by have := of_decide_eq_false hc8; omega
   refine aa [469,464,5] ?_
   exact congrArg (A.i .i64) (DJ h5 h8).symm
-- C1C
def je (i:Nat):List A:= [.raw .nilFunc,.fn (.func 134) [] [],.fn (.func 137) [] [],.fn (.func 138) [] [.p i 0]]
theorem zU:nU je:=vU (zT trivial) (vU (zT ⟨trivial,trivial⟩) (vU (zT ⟨trivial,trivial⟩) (vU LY LU)))
theorem DX (B R:List UInt8) (n:Int) (s:List UInt8) (l:List CV) (h0: -9223372036854775808≤n) (h1:n≤9223372036854775807) (hR:B++1::eA (mh n)=R) (hl:R.length≤100000000):dG Tryz.prog 134 [.sl 131 1 0 B.length,.ag [.i .i64 1,.i .i64 n,.s s,.fz l.length (CV.dA l)]] ⟨[(131,some (B.map u8))]⟩ (jA 1 R.length (R.map u8) []):=by
 refine Ae [] bL GK GJ G4 Tryz.func134 rfl Tryz.ntmps134 aw (Nat.le_of_ble_eq_true rfl) fun w0 X0 hI=>?_
 refine aa [522,452] ?_
 have hlen:B.length+1≤100000000:=by rw [←hR]at hl;simp at hl;omega
 refine aa [55,189,268] ?_
 refine k6 128 2 [0,1] [(6,some 1),(131,none)] cK Tryz.underlying47 cc rfl (.sl rfl aB) rfl (dE rfl aq) aB aC ar rfl (yZ B 1) rfl rfl <| bQ 3 [] [(3,none)] (ct Tryz.underlying118 rfl bP az rfl rfl) rfl rfl <| bQ 4 [3] [(3,none)] (bM bP rfl rfl rfl) rfl rfl <| ee false 5 [4] [] cK rfl (.cons (.pure pu) (.nil)) (Lx n h0 h1) pu (.inl rfl) rfl rfl <| Ay 11 ⟨[(128,some ((B++ [1]).map u8))]⟩ true 6 [2,5] [(128,some 2)] cK rfl ⟨⟨rfl,cv.pure bL⟩,trivial⟩ (.cons (.ksl rfl) (.cons (.pure pu) .nil)) (zG (B++ [1]) (R) (cP (mh n)) (B.length+1) aE aB (by rw [zy (B5 h0 h1), ←hR];simp)) bL (.inr fT) rfl rfl ?_
 refine aa [4,449] ?_
 refine bW (rs:= [.tmp 4]) rfl (bT rfl bR) (Hs rfl)
theorem DY (B R:List UInt8) (n:Int) (s:List UInt8) (l:List CV) (hR:B++2::(eA s.length++s)=R) (hl:R.length≤100000000):dG Tryz.prog 137 [.sl 131 1 0 B.length,.ag [.i .i64 2,.i .i64 n,.s s,.fz l.length (CV.dA l)]] ⟨[(131,some (B.map u8))]⟩ (jA 1 R.length (R.map u8) []):=by
 refine Ae [] bL GK GJ G4 Tryz.func137 rfl Tryz.ntmps137 aw (Nat.le_of_ble_eq_true rfl) fun w0 X0 hI=>?_
 refine aa [522,452] ?_
 have hlen:B.length+1+s.length≤100000000:=by rw [←hR]at hl;simp at hl;omega
 have hlen2:(B++2::eA s.length).length+s.length=R.length:=by rw [←hR];simp;omega
 refine aa [133,189,268] ?_
 refine k6 128 2 [0,1] [(6,some 1),(131,none)] cK Tryz.underlying47 cc rfl (.sl rfl aB) rfl (dE rfl aq) aB aC ar rfl (yZ B 2) rfl rfl <| bQ 3 [] [(3,none)] (ct Tryz.underlying118 rfl pL az rfl rfl) rfl rfl <| bQ 4 [3] [(3,none)] (bM pL rfl rfl rfl) rfl rfl <| bQ 5 [4] [] (Ce Tryz.underlying9 rfl rfl) rfl rfl ?_
 refine aa [269] ?_
 refine Ay 12 ⟨[(128,some ((B++ [2]).map u8))]⟩ true 7 [2,6] [(128,some 2)] cK rfl ⟨⟨rfl,cv.pure bL⟩,trivial⟩ (.cons (.ksl rfl) (.cons (.pure pu) .nil)) (zG (B++ [2]) (B++2::eA s.length) (cP s.length) (B.length+1) aE aB (by rw [zy ar];simp)) bL (.inr fT) rfl rfl <| bQ 8 [] [(3,none)] (ct Tryz.underlying118 rfl pL az rfl rfl) rfl rfl <| bQ 9 [8] [(3,none)] (bM pL rfl rfl rfl) rfl rfl <| M3 15 10 [7,9] [(12,some 7)] cK Tryz.underlying47 Tryz.underlying9 cc rfl rfl aB aE rfl aC ar (JK _ _ R (by rw [←hR];simp)) rfl rfl ?_
 refine aa [4,449,11] ?_
 rw [←hlen2]
 exact Hs rfl
theorem Iw {s0:St} {ow:Bool} {T:Nat} {cs:List A} (h:s0.get T=some cs):∀p∈ [(T,je T)],(∃cs,s0.get p.1=some cs)∧kE s0 ow p.2:=fun p hp=>by
  rw [List.mem_singleton.1 hp]
  exact⟨⟨_,h⟩,.inl ⟨trivial,.inr trivial⟩,.inl ⟨⟨trivial,trivial⟩,.inr ⟨trivial,trivial⟩⟩,.inl ⟨⟨trivial,trivial⟩,.inr ⟨trivial,trivial⟩⟩,I4 h,trivial⟩
theorem LI (n:Int) (s:List UInt8) (l:List CV) (ih:∀v∈l,∀(n:Int) (s:List UInt8) (q:List CV),v= .mk 3 n s q→CV.mN q=true→CV.ny q=true→∀B R:List UInt8,B++3::(eA q.length++CV.ey q)=R→R.length≤100000000→dG Tryz.prog 138 [.sl 131 1 0 B.length,.ag [.i .i64 3,.i .i64 n,.s s,.fz q.length (CV.dA q)],.p 11 0] ⟨[(131,some (B.map u8)),(11,some (je 11))]⟩ (jA 1 R.length (R.map u8) [(11,je 11)])) (hok:CV.mN l=true) (hrg:CV.ny l=true) (B R:List UInt8) (hR:B++3::(eA l.length++CV.ey l)=R) (hl:R.length≤100000000):dG Tryz.prog 138 [.sl 131 1 0 B.length,.ag [.i .i64 3,.i .i64 n,.s s,.fz l.length (CV.dA l)],.p 11 0] ⟨[(131,some (B.map u8)),(11,some (je 11))]⟩ (jA 1 R.length (R.map u8) [(11,je 11)]):=by
 refine Ae [11] bL PK (PJ rfl) (PO zU) Tryz.func138 rfl Tryz.ntmps138 aw (Nat.le_of_ble_eq_true rfl) fun w0 X0 hI=>?_
 refine aa [444,43,452] ?_
 have hnl:=CV.AO l
 have hRl:R.length=B.length+1+(eA l.length).length+(CV.ey l).length:=by rw [←hR];simp;omega
 rw [CV.rX]at hok
 rw [CV.Bz]at hrg
 refine aa [134,189] ?_
 refine Aw 9 1 [] cK Tryz.underlying47 cc rfl rfl rfl rfl rfl rfl <| k6 128 2 [0,1] [(9,some 1),(131,none)] cK Tryz.underlying47 cc rfl (.sl rfl aB) rfl (dE rfl aq) aB aC ar rfl (yZ B 3) rfl rfl <| bQ 3 [] [(4,none)] (ct Tryz.underlying118 rfl j4 az rfl rfl) rfl rfl <| bQ 4 [3] [(4,none)] (bM j4 rfl rfl rfl) rfl rfl <| bQ 5 [4] [] (cf Tryz.underlying116 rfl rfl rfl) rfl rfl ?_
 refine aa [269] ?_
 refine Ay 15 ⟨[(128,some ((B++ [3]).map u8))]⟩ true 7 [2,6] [(128,some 2)] cK rfl ⟨⟨rfl,cv.pure bL⟩,trivial⟩ (.cons (.ksl rfl) (.cons (.pure pu) .nil)) (zG (B++ [3]) (B++3::(eA l.length++CV.ey (l.take 0))) (cP l.length) (B.length+1) aE aB (by rw [zy ar];simp [CV.ey])) bL (.inr fT) rfl rfl ?_
 refine aa [4,508,185,186,187,459] ?_
 refine cO (ι:=Nat) (fun i=> [(0,.sl 131 1 0 (B++3::(eA l.length++CV.ey (l.take i))).length),(2,.p 11 0),(17,.fz l.length (CV.dA l)),(18,nJ l.length),(19,nJ i)]) (fun i=>⟨[(131,some ((B++3::(eA l.length++CV.ey (l.take i))).map u8)),(11,some (je 11))]⟩) (fun i=>i≤l.length) (fun i=>l.length - i) ?_ ?_
 ·exact cN (0) (Nat.zero_le _) [(11,some 11),(131,some 15)] hI rfl rfl ⟨⟨_,rfl,.sl rfl aq⟩,⟨_,rfl,.p rfl⟩,⟨_,rfl,.pure pu⟩,⟨_,rfl,.pure pu⟩,⟨_,rfl,.pure pu⟩,trivial⟩ ⟨.inr ⟨_,_,rfl,rfl,.pure bL⟩,.inr ⟨_,_,rfl,rfl,.cons (.pure trivial) (.cons (.pure pu) (.cons (.pure pu) (.cons (.fn .nil (.cons (.p rfl) .nil)) .nil)))⟩,trivial⟩
 rintro i hi
 have hli:=CV.Ex l i
 have hli2:=CV.Ex l (i+1)
 have hCl:(B++3::(eA l.length++CV.ey (l.take i))).length=B.length+1+(eA l.length).length+(CV.ey (l.take i)).length:=by simp;omega
 have hCl2:(B++3::(eA l.length++CV.ey (l.take (i+1)))).length=B.length+1+(eA l.length).length+(CV.ey (l.take (i+1))).length:=by simp;omega
 refine aa [448] ?_
 refine b7 rfl (fun hc20=>?_) (fun hc20=>?_)
 ·have h20 : i < l.length := by have := of_decide_eq_true hc20; omega
  obtain⟨⟨k2,n2,s2,q2⟩,hv⟩:∃v,l[i]? =some v:=⟨_,List.getElem?_eq_getElem h20⟩
  have hvm:=List.mem_of_getElem? hv
  have hvo:=List.all_eq_true.1 hok _ hvm
  have hvr:=List.all_eq_true.1 hrg _ hvm
  simp only [CV.jZ,Bool.and_eq_true,decide_eq_true_eq]at hvr
  refine aa [462,188] ?_
  refine s1 (eX da rfl rfl (CV.M9 hv) rfl) rfl <| bK rfl (cB 7 rfl da rfl rfl ?_)
  refine aa [44,460] ?_
  rcases xp hvo with hcs|hcs|hcs
  ·subst hcs
   refine aa [55,190,191] ?_
   refine bQ 2 [1] [(11,none)] (cX 1 Tryz.underlying172 jx rfl rfl rfl az rfl) rfl rfl ?_
   refine aa [192,193,194] ?_
   refine rG 29 ⟨[(131,some ((B++3::(eA l.length++CV.ey (l.take i))).map u8))]⟩ [] true 6 [3,4,5] [(131,none)] cK rfl rfl rfl ⟨⟨rfl,cv.pure bL⟩,trivial⟩ (.cons (.ksl rfl) (.cons (.pure pu) .nil)) (DX _ (B++3::(eA l.length++CV.ey (l.take (i+1)))) n2 s2 q2 hvr.1.1 hvr.1.2 (by rw [←CV.Aa hv];simp [CV.enc]) ar) bL (.inr fT) xh rfl rfl ?_
   refine aa [4,488] ?_
   exact cz (i+1) ar ar [(11,some 11),(131,some 29)] hI rfl rfl ⟨⟨_,rfl,.sl rfl aq⟩,⟨_,rfl,.p rfl⟩,⟨_,rfl,.pure pu⟩,⟨_,rfl,.pure pu⟩,⟨_,rfl,.pure pu⟩,trivial⟩ ⟨.inr ⟨_,_,rfl,rfl,.pure bL⟩,.inr ⟨_,_,rfl,rfl,.cons (.pure trivial) (.cons (.pure pu) (.cons (.pure pu) (.cons (.fn .nil (.cons (.p rfl) .nil)) .nil)))⟩,trivial⟩
  ·subst hcs
   refine aa [55,190,191] ?_
   refine bQ 2 [1] [(11,none)] (cX 2 Tryz.underlying172 jx rfl rfl rfl az rfl) rfl rfl ?_
   refine aa [192,193,194] ?_
   refine rG 29 ⟨[(131,some ((B++3::(eA l.length++CV.ey (l.take i))).map u8))]⟩ [] true 6 [3,4,5] [(131,none)] cK rfl rfl rfl ⟨⟨rfl,cv.pure bL⟩,trivial⟩ (.cons (.ksl rfl) (.cons (.pure pu) .nil)) (DY _ (B++3::(eA l.length++CV.ey (l.take (i+1)))) n2 s2 q2 (by rw [←CV.Aa hv];simp [CV.enc]) ar) bL (.inr fT) xh rfl rfl ?_
   refine aa [4,488] ?_
   exact cz (i+1) ar ar [(11,some 11),(131,some 29)] hI rfl rfl ⟨⟨_,rfl,.sl rfl aq⟩,⟨_,rfl,.p rfl⟩,⟨_,rfl,.pure pu⟩,⟨_,rfl,.pure pu⟩,⟨_,rfl,.pure pu⟩,trivial⟩ ⟨.inr ⟨_,_,rfl,rfl,.pure bL⟩,.inr ⟨_,_,rfl,rfl,.cons (.pure trivial) (.cons (.pure pu) (.cons (.pure pu) (.cons (.fn .nil (.cons (.p rfl) .nil)) .nil)))⟩,trivial⟩
  ·obtain ⟨rfl, hq2⟩ := hcs
   refine aa [55,190,191] ?_
   refine bQ 2 [1] [(11,none)] (cX 3 Tryz.underlying172 jx rfl rfl rfl az rfl) rfl rfl ?_
   refine aa [192,193,194] ?_
   refine rG 29 ⟨[(131,some ((B++3::(eA l.length++CV.ey (l.take i))).map u8)),(11,some (je 11))]⟩ [(11,je 11)] true 6 [3,4,5] [(11,none),(131,none)] cK rfl rfl rfl ⟨⟨rfl,cv.pure bL⟩,⟨rfl,(.cons (.pure trivial) (.cons (.pure pu) (.cons (.pure pu) (.cons (.fn .nil (.cons (.kp rfl) .nil)) .nil))))⟩,trivial⟩ (.cons (.ksl rfl) (.cons (.pure pu) (.cons (.kp rfl) .nil))) (ih _ hvm n2 s2 q2 rfl hq2 hvr.2 _ (B++3::(eA l.length++CV.ey (l.take (i+1)))) (by rw [←CV.Aa hv];simp [CV.enc]) ar) bL (.inr fT) (Iw rfl) rfl rfl ?_
   refine aa [4,488] ?_
   exact cz (i+1) ar ar [(11,some 11),(131,some 29)] hI rfl rfl ⟨⟨_,rfl,.sl rfl aq⟩,⟨_,rfl,.p rfl⟩,⟨_,rfl,.pure pu⟩,⟨_,rfl,.pure pu⟩,⟨_,rfl,.pure pu⟩,trivial⟩ ⟨.inr ⟨_,_,rfl,rfl,.pure bL⟩,.inr ⟨_,_,rfl,rfl,.cons (.pure trivial) (.cons (.pure pu) (.cons (.pure pu) (.cons (.fn .nil (.cons (.p rfl) .nil)) .nil)))⟩,trivial⟩
 ·obtain rfl : i = l.length := by have := of_decide_eq_false hc20; omega
  refine aa [509,449] ?_
  refine bW (rs:= [.tmp 5]) rfl (bT rfl bR) ?_
  rw [←hR]
  exact QK aG rfl rfl az
theorem LH (n:Int) (s:List UInt8) (l:List CV) (hok:CV.mN l=true) (hrg:CV.ny l=true) (B R:List UInt8) (hR:B++3::(eA l.length++CV.ey l)=R) (hl:R.length≤100000000):dG Tryz.prog 138 [.sl 131 1 0 B.length,.ag [.i .i64 3,.i .i64 n,.s s,.fz l.length (CV.dA l)],.p 11 0] ⟨[(131,some (B.map u8)),(11,some (je 11))]⟩ (jA 1 R.length (R.map u8) [(11,je 11)]):=by
 have key:∀v:CV,v.size≤(CV.mk 3 n s l).size→∀(n:Int) (s:List UInt8) (q:List CV),v= .mk 3 n s q→CV.mN q=true→CV.ny q=true→∀B R:List UInt8,B++3::(eA q.length++CV.ey q)=R→R.length≤100000000→dG Tryz.prog 138 [.sl 131 1 0 B.length,.ag [.i .i64 3,.i .i64 n,.s s,.fz q.length (CV.dA q)],.p 11 0] ⟨[(131,some (B.map u8)),(11,some (je 11))]⟩ (jA 1 R.length (R.map u8) [(11,je 11)]):=by
  refine CV.Bu _ fun k n s l hl ih=>?_
  rintro n' s' q e
  cases e
  exact LI n s l ih
 exact key _ (Nat.le_refl _) n s l rfl hok hrg B R hR hl
theorem LJ:bO Tryz.prog 102 [] (yI (fun i=> .ag (je i)) je):=by
 refine enter Tryz.func102 rfl Tryz.ntmps102 aw (Nat.le_of_ble_eq_true rfl) fun w0 X0 hI=>?_
 refine bH <| bJ <| bK rfl (cB 0 rfl sI rfl rfl ?_)
 refine bI <| bG <| bH <| bJ <| s1 (cX 1 Tryz.underlying172 jx rfl rfl rfl ar rfl) rfl ?_
 refine aa [195,454] ?_
 refine s1 (cX 2 Tryz.underlying172 jx rfl rfl rfl ar rfl) rfl ?_
 refine aa [195,454] ?_
 refine s1 (iz (us:= []) (vs:= [.p 0 0]) rfl rfl) rfl <| s1 (cX 3 Tryz.underlying172 jx rfl rfl rfl ar rfl) rfl ?_
 refine aa [195,454] ?_
 refine s1 (cg sI rfl rfl rfl) rfl <| bK rfl (cu sI rfl rfl rfl rfl rfl ?_)
 refine bI <| bG <| bV ?_
 refine bW (rs:= [.cell 0 172]) rfl (c9 sI rfl rfl rfl rfl bR) ⟨0,rfl,rfl⟩
-- C1D
theorem Du (k n:Int) (s:List UInt8) (l:List CV) (hs:(CV.mk k n s l).size≤1000000) (hrg:(CV.mk k n s l).jZ=true) (hl:(CV.mk k n s l).enc.length≤100000000):bO Tryz.prog 52 [.ag [.i .i64 k,.i .i64 n,.s s,.fz l.length (CV.dA l)]] (cn (qi (.mk k n s l))):=by
 refine enter Tryz.func52 rfl Tryz.ntmps52 aw (Nat.le_of_ble_eq_true rfl) fun w0 X0 hI=>?_
 refine aa [496,0,498] ?_
 simp only [CV.jZ,Bool.and_eq_true,decide_eq_true_eq]at hrg
 refine bJ <| s1 (cg da rfl rfl rfl) rfl <| bK rfl (bX false rfl (.cons (.pure pu) (.nil)) (KO (.mk k n s l) hs) pu (.inl rfl) rfl ?_)
 refine aa [447,479] ?_
 refine b7 rfl (fun hc9=>?_) (fun hc9=>?_)
 ·have h9 : jl (.mk k n s l) ≠ 0 := by simpa using hc9
  refine aa [453,531,56] ?_
  exact(Mh h9).symm
 ·have h9 : jl (.mk k n s l) = 0 := by simpa using hc9
  have hok:=K5 h9
  refine bY <| bG <| bH <| bJ <| bK rfl (O1 (mk:=fun i=> .ag (je i)) (mkc:=je) (PH (f:= .func 138) 3 zU (fun _=>rfl)) zU 11 rfl true rfl .nil LJ rfl ?_)
  refine bK rfl (cB 5 rfl sI rfl rfl ?_)
  refine bK rfl (cu sI rfl rfl rfl rfl rfl ?_)
  refine bI <| bG <| bH ?_
  rcases xp hok with hcs|hcs|hcs
  ·subst hcs
   refine aa [135,196,136] ?_
   refine bQ 2 [1] [(5,none)] (cX 1 Tryz.underlying172 jx rfl rfl rfl az rfl) rfl rfl ?_
   refine aa [197,198] ?_
   refine rG 17 ⟨[]⟩ [] true 5 [3,4] [] cK rfl rfl rfl trivial (.cons (.pure pu) (.cons (.pure pu) .nil)) (dG.nl (i:=131) rfl (DX [] (CV.enc (.mk 1 n s l)) n s l hrg.1.1 hrg.1.2 rfl hl)) bL (.inr fT) xh rfl rfl ?_
   refine aa [4,532,57,56] ?_
   exact(tI h9).symm
  ·subst hcs
   refine aa [135,196,136] ?_
   refine bQ 2 [1] [(5,none)] (cX 2 Tryz.underlying172 jx rfl rfl rfl az rfl) rfl rfl ?_
   refine aa [197,198] ?_
   refine rG 17 ⟨[]⟩ [] true 5 [3,4] [] cK rfl rfl rfl trivial (.cons (.pure pu) (.cons (.pure pu) .nil)) (dG.nl (i:=131) rfl (DY [] (CV.enc (.mk 2 n s l)) n s l rfl hl)) bL (.inr fT) xh rfl rfl ?_
   refine aa [4,532,57,56] ?_
   exact(tI h9).symm
  ·obtain ⟨rfl, hq2⟩ := hcs
   refine aa [135,196,136] ?_
   refine bQ 2 [1] [(5,none)] (cX 3 Tryz.underlying172 jx rfl rfl rfl az rfl) rfl rfl ?_
   refine aa [197,198] ?_
   refine rG 17 ⟨[(11,some (je 11))]⟩ [(11,je 11)] true 5 [3,4] [(11,none)] cK rfl rfl rfl ⟨⟨rfl,(.cons (.pure trivial) (.cons (.pure pu) (.cons (.pure pu) (.cons (.fn .nil (.cons (.kp rfl) .nil)) .nil))))⟩,trivial⟩ (.cons (.pure pu) (.cons (.pure pu) (.cons (.kp rfl) .nil))) (dG.nl (i:=131) rfl (LH n s l hq2 hrg.2 [] (CV.enc (.mk 3 n s l)) rfl hl)) bL (.inr fT) (Iw rfl) rfl rfl ?_
   refine aa [4,532,57,56] ?_
   exact(tI h9).symm
-- D2A
theorem A6 (htag:∀(t b:List UInt8),t.length≤1048576→b.length≤1048576→bO Tryz.prog 25 [.s t,.fz b.length (b.map u8)] (cn (.ag ((tagged t b).map u8)))) (a b:List UInt8) (ha:a.length=32) (hb:b.length=32):bO Tryz.prog 49 [.ag (a.map u8),.ag (b.map u8)] (cn (.ag ((tagged [110,111,100,101] (a++b)).map u8))):=by
 refine enter Tryz.func49 rfl Tryz.ntmps49 aw (Nat.le_of_ble_eq_true rfl) fun w0 X0 hI=>?_
 refine aa [501,84,29,456,135] ?_
 refine M5 5 0 [] 0 64 cK Tryz.underlying47 cc rfl rfl rfl rfl rfl av av av rfl rfl <| bQ 1 [] [(2,none)] (jL Tryz.underlying23 cc rfl rfl au aJ) rfl rfl <| k6 7 2 [0,1] [(2,none),(5,some 0)] cK Tryz.underlying47 cc rfl (.sl rfl au) rfl (dE rfl au) au av av rfl rfl rfl rfl <| bQ 3 [] [(3,none)] (jL Tryz.underlying23 cc rfl rfl au aJ) rfl rfl <| k6 9 4 [2,3] [(3,none),(7,some 2)] cK Tryz.underlying47 cc rfl (.sl rfl au) rfl (dE rfl au) au av av rfl rfl rfl rfl <| ee true 5 [4] [(9,some 4)] cK rfl (.cons (.pure pu) (.cons (.sl rfl rfl au (c5 au aM) (cv.pure bL) bL) (.nil))) (htag _ (a++b) aB aE) pu (.inr fu) rfl rfl ?_
 refine aa [4,30,457] ?_
 refine bW (rs:= [.cell 4 23]) rfl (c9 b5 rfl rfl (List.take_of_length_le aB) aB bR) rfl
-- D2B
theorem QZ (x:BitVec 32):bO Tryz.prog 139 [b9 x,.i .i64 (-2)] (cn (b9 (g9 x 2))):=by
 refine enter Tryz.func139 rfl Tryz.ntmps139 aw (Nat.le_of_ble_eq_true rfl) fun w0 X0 hI=>?_
 refine aa [523] ?_
 refine s1 ((eP Tryz.underlying3 Tryz.underlying124 rfl).v (v':=cM (cP 18446744073709551614)) (congrArg (A.i .u64) az)) rfl <| s1 ((mu _ (cP 31) rfl rfl).v (v':=cM (cP 30)) (congrArg cM az)) rfl ?_
 refine aa [455] ?_
 refine s1 (kA _ 30 rfl rfl rfl az) rfl ?_
 refine aa [446] ?_
 refine s1 ((nH (cP 32) (cP 30) rfl rfl az).v (v':=cM (cP 2)) (congrArg cM az)) rfl <| s1 (iS _ 2 rfl rfl rfl az) rfl <| s1 ((ky _ _ rfl rfl).v (congrArg b9 (nC x 2))) rfl ?_
 refine aa [449] ?_
 refine bW (rs:= [.tmp 4]) rfl (bT rfl (bR)) rfl
theorem Q2 (x:BitVec 32):bO Tryz.prog 139 [b9 x,.i .i64 (-6)] (cn (b9 (g9 x 6))):=by
 refine enter Tryz.func139 rfl Tryz.ntmps139 aw (Nat.le_of_ble_eq_true rfl) fun w0 X0 hI=>?_
 refine aa [523] ?_
 refine s1 ((eP Tryz.underlying3 Tryz.underlying124 rfl).v (v':=cM (cP 18446744073709551610)) (congrArg (A.i .u64) az)) rfl <| s1 ((mu _ (cP 31) rfl rfl).v (v':=cM (cP 26)) (congrArg cM az)) rfl ?_
 refine aa [455] ?_
 refine s1 (kA _ 26 rfl rfl rfl az) rfl ?_
 refine aa [446] ?_
 refine s1 ((nH (cP 32) (cP 26) rfl rfl az).v (v':=cM (cP 6)) (congrArg cM az)) rfl <| s1 (iS _ 6 rfl rfl rfl az) rfl <| s1 ((ky _ _ rfl rfl).v (congrArg b9 (nC x 6))) rfl ?_
 refine aa [449] ?_
 refine bW (rs:= [.tmp 4]) rfl (bT rfl (bR)) rfl
theorem Q3 (x:BitVec 32):bO Tryz.prog 139 [b9 x,.i .i64 (-7)] (cn (b9 (g9 x 7))):=by
 refine enter Tryz.func139 rfl Tryz.ntmps139 aw (Nat.le_of_ble_eq_true rfl) fun w0 X0 hI=>?_
 refine aa [523] ?_
 refine s1 ((eP Tryz.underlying3 Tryz.underlying124 rfl).v (v':=cM (cP 18446744073709551609)) (congrArg (A.i .u64) az)) rfl <| s1 ((mu _ (cP 31) rfl rfl).v (v':=cM (cP 25)) (congrArg cM az)) rfl ?_
 refine aa [455] ?_
 refine s1 (kA _ 25 rfl rfl rfl az) rfl ?_
 refine aa [446] ?_
 refine s1 ((nH (cP 32) (cP 25) rfl rfl az).v (v':=cM (cP 7)) (congrArg cM az)) rfl <| s1 (iS _ 7 rfl rfl rfl az) rfl <| s1 ((ky _ _ rfl rfl).v (congrArg b9 (nC x 7))) rfl ?_
 refine aa [449] ?_
 refine bW (rs:= [.tmp 4]) rfl (bT rfl (bR)) rfl
theorem QU (x:BitVec 32):bO Tryz.prog 139 [b9 x,.i .i64 (-11)] (cn (b9 (g9 x 11))):=by
 refine enter Tryz.func139 rfl Tryz.ntmps139 aw (Nat.le_of_ble_eq_true rfl) fun w0 X0 hI=>?_
 refine aa [523] ?_
 refine s1 ((eP Tryz.underlying3 Tryz.underlying124 rfl).v (v':=cM (cP 18446744073709551605)) (congrArg (A.i .u64) az)) rfl <| s1 ((mu _ (cP 31) rfl rfl).v (v':=cM (cP 21)) (congrArg cM az)) rfl ?_
 refine aa [455] ?_
 refine s1 (kA _ 21 rfl rfl rfl az) rfl ?_
 refine aa [446] ?_
 refine s1 ((nH (cP 32) (cP 21) rfl rfl az).v (v':=cM (cP 11)) (congrArg cM az)) rfl <| s1 (iS _ 11 rfl rfl rfl az) rfl <| s1 ((ky _ _ rfl rfl).v (congrArg b9 (nC x 11))) rfl ?_
 refine aa [449] ?_
 refine bW (rs:= [.tmp 4]) rfl (bT rfl (bR)) rfl
theorem QV (x:BitVec 32):bO Tryz.prog 139 [b9 x,.i .i64 (-13)] (cn (b9 (g9 x 13))):=by
 refine enter Tryz.func139 rfl Tryz.ntmps139 aw (Nat.le_of_ble_eq_true rfl) fun w0 X0 hI=>?_
 refine aa [523] ?_
 refine s1 ((eP Tryz.underlying3 Tryz.underlying124 rfl).v (v':=cM (cP 18446744073709551603)) (congrArg (A.i .u64) az)) rfl <| s1 ((mu _ (cP 31) rfl rfl).v (v':=cM (cP 19)) (congrArg cM az)) rfl ?_
 refine aa [455] ?_
 refine s1 (kA _ 19 rfl rfl rfl az) rfl ?_
 refine aa [446] ?_
 refine s1 ((nH (cP 32) (cP 19) rfl rfl az).v (v':=cM (cP 13)) (congrArg cM az)) rfl <| s1 (iS _ 13 rfl rfl rfl az) rfl <| s1 ((ky _ _ rfl rfl).v (congrArg b9 (nC x 13))) rfl ?_
 refine aa [449] ?_
 refine bW (rs:= [.tmp 4]) rfl (bT rfl (bR)) rfl
theorem QW (x:BitVec 32):bO Tryz.prog 139 [b9 x,.i .i64 (-17)] (cn (b9 (g9 x 17))):=by
 refine enter Tryz.func139 rfl Tryz.ntmps139 aw (Nat.le_of_ble_eq_true rfl) fun w0 X0 hI=>?_
 refine aa [523] ?_
 refine s1 ((eP Tryz.underlying3 Tryz.underlying124 rfl).v (v':=cM (cP 18446744073709551599)) (congrArg (A.i .u64) az)) rfl <| s1 ((mu _ (cP 31) rfl rfl).v (v':=cM (cP 15)) (congrArg cM az)) rfl ?_
 refine aa [455] ?_
 refine s1 (kA _ 15 rfl rfl rfl az) rfl ?_
 refine aa [446] ?_
 refine s1 ((nH (cP 32) (cP 15) rfl rfl az).v (v':=cM (cP 17)) (congrArg cM az)) rfl <| s1 (iS _ 17 rfl rfl rfl az) rfl <| s1 ((ky _ _ rfl rfl).v (congrArg b9 (nC x 17))) rfl ?_
 refine aa [449] ?_
 refine bW (rs:= [.tmp 4]) rfl (bT rfl (bR)) rfl
theorem QX (x:BitVec 32):bO Tryz.prog 139 [b9 x,.i .i64 (-18)] (cn (b9 (g9 x 18))):=by
 refine enter Tryz.func139 rfl Tryz.ntmps139 aw (Nat.le_of_ble_eq_true rfl) fun w0 X0 hI=>?_
 refine aa [523] ?_
 refine s1 ((eP Tryz.underlying3 Tryz.underlying124 rfl).v (v':=cM (cP 18446744073709551598)) (congrArg (A.i .u64) az)) rfl <| s1 ((mu _ (cP 31) rfl rfl).v (v':=cM (cP 14)) (congrArg cM az)) rfl ?_
 refine aa [455] ?_
 refine s1 (kA _ 14 rfl rfl rfl az) rfl ?_
 refine aa [446] ?_
 refine s1 ((nH (cP 32) (cP 14) rfl rfl az).v (v':=cM (cP 18)) (congrArg cM az)) rfl <| s1 (iS _ 18 rfl rfl rfl az) rfl <| s1 ((ky _ _ rfl rfl).v (congrArg b9 (nC x 18))) rfl ?_
 refine aa [449] ?_
 refine bW (rs:= [.tmp 4]) rfl (bT rfl (bR)) rfl
theorem QY (x:BitVec 32):bO Tryz.prog 139 [b9 x,.i .i64 (-19)] (cn (b9 (g9 x 19))):=by
 refine enter Tryz.func139 rfl Tryz.ntmps139 aw (Nat.le_of_ble_eq_true rfl) fun w0 X0 hI=>?_
 refine aa [523] ?_
 refine s1 ((eP Tryz.underlying3 Tryz.underlying124 rfl).v (v':=cM (cP 18446744073709551597)) (congrArg (A.i .u64) az)) rfl <| s1 ((mu _ (cP 31) rfl rfl).v (v':=cM (cP 13)) (congrArg cM az)) rfl ?_
 refine aa [455] ?_
 refine s1 (kA _ 13 rfl rfl rfl az) rfl ?_
 refine aa [446] ?_
 refine s1 ((nH (cP 32) (cP 13) rfl rfl az).v (v':=cM (cP 19)) (congrArg cM az)) rfl <| s1 (iS _ 19 rfl rfl rfl az) rfl <| s1 ((ky _ _ rfl rfl).v (congrArg b9 (nC x 19))) rfl ?_
 refine aa [449] ?_
 refine bW (rs:= [.tmp 4]) rfl (bT rfl (bR)) rfl
theorem Q0 (x:BitVec 32):bO Tryz.prog 139 [b9 x,.i .i64 (-22)] (cn (b9 (g9 x 22))):=by
 refine enter Tryz.func139 rfl Tryz.ntmps139 aw (Nat.le_of_ble_eq_true rfl) fun w0 X0 hI=>?_
 refine aa [523] ?_
 refine s1 ((eP Tryz.underlying3 Tryz.underlying124 rfl).v (v':=cM (cP 18446744073709551594)) (congrArg (A.i .u64) az)) rfl <| s1 ((mu _ (cP 31) rfl rfl).v (v':=cM (cP 10)) (congrArg cM az)) rfl ?_
 refine aa [455] ?_
 refine s1 (kA _ 10 rfl rfl rfl az) rfl ?_
 refine aa [446] ?_
 refine s1 ((nH (cP 32) (cP 10) rfl rfl az).v (v':=cM (cP 22)) (congrArg cM az)) rfl <| s1 (iS _ 22 rfl rfl rfl az) rfl <| s1 ((ky _ _ rfl rfl).v (congrArg b9 (nC x 22))) rfl ?_
 refine aa [449] ?_
 refine bW (rs:= [.tmp 4]) rfl (bT rfl (bR)) rfl
theorem Q1 (x:BitVec 32):bO Tryz.prog 139 [b9 x,.i .i64 (-25)] (cn (b9 (g9 x 25))):=by
 refine enter Tryz.func139 rfl Tryz.ntmps139 aw (Nat.le_of_ble_eq_true rfl) fun w0 X0 hI=>?_
 refine aa [523] ?_
 refine s1 ((eP Tryz.underlying3 Tryz.underlying124 rfl).v (v':=cM (cP 18446744073709551591)) (congrArg (A.i .u64) az)) rfl <| s1 ((mu _ (cP 31) rfl rfl).v (v':=cM (cP 7)) (congrArg cM az)) rfl ?_
 refine aa [455] ?_
 refine s1 (kA _ 7 rfl rfl rfl az) rfl ?_
 refine aa [446] ?_
 refine s1 ((nH (cP 32) (cP 7) rfl rfl az).v (v':=cM (cP 25)) (congrArg cM az)) rfl <| s1 (iS _ 25 rfl rfl rfl az) rfl <| s1 ((ky _ _ rfl rfl).v (congrArg b9 (nC x 25))) rfl ?_
 refine aa [449] ?_
 refine bW (rs:= [.tmp 4]) rfl (bT rfl (bR)) rfl
theorem nB (x:BitVec 32) (n:Nat) (h:n≤32):bO Tryz.prog 159 [b9 x,.i .i64 (n:Int)] (cn (b9 (g9 x n))):=by
 refine enter Tryz.func159 rfl Tryz.ntmps159 aw (Nat.le_of_ble_eq_true rfl) fun w0 X0 hI=>?_
 refine aa [557,456] ?_
 refine gq 8 c8 aw ?_
 refine aa [473] ?_
 refine t1 (iS _ n rfl rfl rfl h) rfl ?_
 refine aa [473] ?_
 refine t1 (fJ 32 n rfl rfl rfl rfl h ar) rfl <| t1 (kA _ (32 - n) rfl rfl rfl ar) rfl <| t1 ((ky _ _ rfl rfl).v rfl) rfl ?_
 refine aa [10,449] ?_
 refine bW (rs:= [.tmp 4]) rfl (bT rfl (bR)) rfl
theorem TE (b:List UInt8) (i:Nat) (h:i+4≤b.length):bO Tryz.prog 158 [.fz 4 (((b.map u8).drop (i*1)).take (4*1))] (cn (b9 (word b i))):=by
 refine enter Tryz.func158 rfl Tryz.ntmps158 aw (Nat.le_of_ble_eq_true rfl) fun w0 X0 hI=>?_
 refine aa [557,456] ?_
 refine gq 22 c8 aw <| t1 (bF rfl) rfl <| t1 (cD 0 Tryz.underlying47 cc rfl rfl rfl ar rfl) rfl <| t1 (bM cc rfl rfl (wC b (i+0) ar (k:=0) rfl ar rfl)) rfl ?_
 refine aa [103] ?_
 refine t1 (kA _ 24 rfl rfl rfl az) rfl <| t1 (bF rfl) rfl <| t1 (cD 1 Tryz.underlying47 cc rfl rfl rfl ar rfl) rfl <| t1 (bM cc rfl rfl (wC b (i+1) ar (k:=1) rfl ar rfl)) rfl ?_
 refine aa [103] ?_
 refine t1 (kA _ 16 rfl rfl rfl az) rfl ?_
 refine aa [199,6] ?_
 refine t1 (cD 2 Tryz.underlying47 cc rfl rfl rfl ar rfl) rfl <| t1 (bM cc rfl rfl (wC b (i+2) ar (k:=2) rfl ar rfl)) rfl ?_
 refine aa [103] ?_
 refine t1 (kA _ 8 rfl rfl rfl az) rfl ?_
 refine aa [199,6] ?_
 refine t1 (cD 3 Tryz.underlying47 cc rfl rfl rfl ar rfl) rfl <| t1 (bM cc rfl rfl (wC b (i+3) ar (k:=3) rfl ar rfl)) rfl ?_
 refine aa [103,199,10,449] ?_
 refine bW (rs:= [.tmp 2]) rfl (bT rfl (bR)) rfl
-- D2C
theorem Pm:bO Tryz.prog 160 [] (cn (.ag (oZ.map b9))):=by
 refine enter Tryz.func160 rfl Tryz.ntmps160 aw (Nat.le_of_ble_eq_true rfl) fun w0 X0 hI=>?_
 refine bH <| bJ <| bK rfl (cB 0 rfl nM rfl rfl ?_)
 refine bI <| bG <| bH <| bJ <| s1 ((uQ (vs:= [_,_,_,_,_,_,_,_,_,_,_,_,_,_,_,_,_,_,_,_,_,_,_,_,_,_,_,_,_,_,_,_,_,_,_,_,_,_,_,_,_,_,_,_,_,_,_,_,_,_,_,_,_,_,_,_,_,_,_,_,_,_,_,_]) nM rfl Tryz.underlying209 cI rfl rfl rfl rfl).v (v':= .ag (oZ.map b9)) aw) rfl <| bK rfl (cu nM rfl rfl rfl au au ?_)
 refine bI <| bG <| bV ?_
 refine bW (rs:= [.cell 0 209]) rfl (c9 nM rfl rfl (List.take_of_length_le (by simp [ua])) (by simp [ua]) bR) rfl
theorem Kx (s:S8) (b:List UInt8) (hb:b.length=64):bO Tryz.prog 144 [.ag (s.l.map b9),.fz 64 (b.map u8)] (cn (.ag ((comp s b).l.map b9))):=by
 refine enter Tryz.func144 rfl Tryz.ntmps144 aw (Nat.le_of_ble_eq_true rfl) fun w0 X0 hI=>?_
 refine aa [501] ?_
 refine bK rfl (cB 4 rfl oI rfl rfl ?_)
 refine bI <| bG <| bH <| bJ <| s1 ((IQ nM rfl Tryz.underlying209 cI rfl).v (v':= .ag ((words b 0).map b9++List.replicate (64 - 0) (b9 0))) aw) rfl <| bK rfl (cB 5 rfl nM rfl rfl ?_)
 refine bK rfl (cu nM rfl rfl rfl aB aB ?_)
 refine aa [456,475] ?_
 refine cO (ι:=Nat) (fun i=> [(1,.fz 64 (b.map u8)),(2,.p 2 0),(4,.p 4 0),(5,.p 5 0),(6,.i .i64 (i:Nat))]) (fun i=>⟨[(2,some (s.l.map b9)),(4,some (List.replicate 8 (b9 0))),(5,some ((words b i).map b9++List.replicate (64 - i) (b9 0)))]⟩) (fun i=>i≤16) (fun i=>16 - i) ?_ ?_
 ·exact cN (0) (Nat.zero_le _) [(2,some 2),(4,some 4),(5,some 5)] hI rfl rfl ⟨⟨_,rfl,.pure pu⟩,⟨_,rfl,.p rfl⟩,⟨_,rfl,.p rfl⟩,⟨_,rfl,.p rfl⟩,⟨_,rfl,.pure pu⟩,trivial⟩ ⟨.inr ⟨_,_,rfl,rfl,.pure bL⟩,.inr ⟨_,_,rfl,rfl,.pure bL⟩,.inr ⟨_,_,rfl,rfl,.pure bL⟩,trivial⟩
 rintro i hi
 refine aa [533] ?_
 refine b7 rfl (fun hc24=>?_) (fun hc24=>?_)
 ·have hi16 : i < 16 := by have := of_decide_eq_true hc24; omega
  refine aa [482,502,104,0,104] ?_
  refine s1 (cl _ 4 rfl rfl rfl rfl ar) rfl <| s1 (mU 4 Tryz.underlying47 cc rfl (by simp [hb]) (bs rfl rfl) (bs rfl rfl) ar ar ar rfl) rfl <| bK rfl (bX false rfl (.cons (.pure pu) (.nil)) (TE b (4*i) ar) pu (.inl rfl) rfl ?_)
  refine s1 (cX i Tryz.underlying209 cI rfl rfl rfl ar rfl) rfl <| bK rfl (cV cI rfl rfl rfl rfl au (RR b i ar) ?_)
  refine aa [8,492] ?_
  exact cz (i+1) ar ar [(2,some 2),(4,some 4),(5,some 5)] hI rfl rfl ⟨⟨_,rfl,.pure pu⟩,⟨_,rfl,.p rfl⟩,⟨_,rfl,.p rfl⟩,⟨_,rfl,.p rfl⟩,⟨_,rfl,.pure pu⟩,trivial⟩ ⟨.inr ⟨_,_,rfl,rfl,.pure bL⟩,.inr ⟨_,_,rfl,rfl,.pure bL⟩,.inr ⟨_,_,rfl,rfl,.pure bL⟩,trivial⟩
 ·have hi16 : i = 16 := by have := of_decide_eq_false hc24; omega
  subst hi16
  refine aa [463,444] ?_
  refine s1 ((bF rfl).v (v':= .i .i64 16) rfl) rfl <| bI <| bG <| bZ ?_
  refine cO (ι:=Nat) (fun k=> [(2,.p 2 0),(4,.p 4 0),(5,.p 5 0),(7,.i .i64 ((16+k:Nat):Int))]) (fun k=>⟨[(2,some (s.l.map b9)),(4,some (List.replicate 8 (b9 0))),(5,some ((sched b k).map b9++List.replicate (48 - k) (b9 0)))]⟩) (fun k=>k≤48) (fun k=>48 - k) ?_ ?_
  ·skip
   refine ep 5 rfl (cs':=(sched b 0).map b9++List.replicate (48 - 0) (b9 0)) (by rw [BG]) ?_
   exact cN (0) (Nat.zero_le _) [(2,some 2),(4,some 4),(5,some 5)] hI rfl rfl ⟨⟨_,rfl,.p rfl⟩,⟨_,rfl,.p rfl⟩,⟨_,rfl,.p rfl⟩,⟨_,rfl,.pure pu⟩,trivial⟩ ⟨.inr ⟨_,_,rfl,rfl,.pure bL⟩,.inr ⟨_,_,rfl,rfl,.pure bL⟩,.inr ⟨_,_,rfl,rfl,.pure bL⟩,trivial⟩
  rintro k hk
  refine aa [533] ?_
  refine b7 rfl (fun hc38=>?_) (fun hc38=>?_)
  ·have hk48 : k < 48 := by have := of_decide_eq_true hc38; omega
   refine aa [514] ?_
   refine s1 (fJ (16+k) 15 rfl rfl rfl rfl ar ar) rfl <| s1 (cX (16+k - 15) Tryz.underlying209 cI rfl rfl rfl ar rfl) rfl <| s1 (bM cI rfl rfl (mF (16+k - 15) au rfl)) rfl ?_
   refine aa [458] ?_
   refine s1 (fJ (16+k) 2 rfl rfl rfl rfl ar ar) rfl <| s1 (cX (16+k - 2) Tryz.underlying209 cI rfl rfl rfl ar rfl) rfl <| s1 (bM cI rfl rfl (mF (16+k - 2) au rfl)) rfl <| s1 (bF rfl) rfl <| bI <| bG <| eG ⟨_, [], []⟩ 29 4 c8 (le_refl rfl) ?_
   refine aa [31,16] ?_
   refine bQ 2 [1] [] (fJ (16+k) 16 rfl rfl rfl rfl ar ar) rfl rfl <| bQ 3 [2] [(5,none)] (cX (16+k - 16) Tryz.underlying209 cI rfl rfl rfl ar rfl) rfl rfl <| bQ 4 [3] [(5,none)] (bM cI rfl rfl (mF (16+k - 16) au rfl)) rfl rfl ?_
   refine aa [85] ?_
   refine ee false 6 [5] [] cK rfl (.cons (.pure pu) (.cons (.pure pu) (.nil))) (nB _ 7 az) pu (.inl rfl) rfl rfl ?_
   refine aa [200] ?_
   refine ee false 8 [7] [] cK rfl (.cons (.pure pu) (.cons (.pure pu) (.nil))) (nB _ 18 az) pu (.inl rfl) rfl rfl <| bQ 9 [6,8] [] (ig _ _ rfl rfl) rfl rfl ?_
   refine aa [137] ?_
   refine bQ 11 [10] [] (iS _ 3 rfl rfl rfl az) rfl rfl <| bQ 12 [9,11] [] (ig _ _ rfl rfl) rfl rfl <| bQ 13 [4,12] [] (fM _ _ rfl rfl) rfl rfl <| bQ 14 [] [] (bF rfl) rfl rfl <| bQ 15 [14] [] (fJ (16+k) 7 rfl rfl rfl rfl ar ar) rfl rfl <| bQ 16 [15] [(5,none)] (cX (16+k - 7) Tryz.underlying209 cI rfl rfl rfl ar rfl) rfl rfl <| bQ 17 [16] [(5,none)] (bM cI rfl rfl (mF (16+k - 7) au rfl)) rfl rfl <| bQ 18 [13,17] [] (fM _ _ rfl rfl) rfl rfl <| bQ 19 [] [] (bF rfl) rfl rfl <| ee false 20 [19] [] cK rfl (.cons (.pure pu) (.cons (.pure pu) (.nil))) (nB _ 17 az) pu (.inl rfl) rfl rfl <| bQ 21 [] [] (bF rfl) rfl rfl <| ee false 22 [21] [] cK rfl (.cons (.pure pu) (.cons (.pure pu) (.nil))) (nB _ 19 az) pu (.inl rfl) rfl rfl <| bQ 23 [20,22] [] (ig _ _ rfl rfl) rfl rfl <| bQ 24 [] [] (bF rfl) rfl rfl <| bQ 25 [24] [] (iS _ 10 rfl rfl rfl az) rfl rfl <| bQ 26 [23,25] [] (ig _ _ rfl rfl) rfl rfl <| bQ 27 [18,26] [] (fM _ _ rfl rfl) rfl rfl <| bQ 28 [0] [(5,none)] (cX (16+k) Tryz.underlying209 cI rfl rfl rfl ar rfl) rfl rfl ?_
   refine aa [4,270,8,492] ?_
   exact cz (k+1) ar ar [(2,some 2),(4,some 4),(5,some 5)] hI rfl rfl ⟨⟨_,rfl,.p rfl⟩,⟨_,rfl,.p rfl⟩,⟨_,rfl,.p rfl⟩,⟨_,rfl,.pure pu⟩,trivial⟩ ⟨.inr ⟨_,_,rfl,rfl,.pure bL⟩,.inr ⟨_,_,rfl,rfl,.pure bL⟩,.inr ⟨_,_,rfl,rfl,.pure bL⟩,trivial⟩
  ·have hk48 : k = 48 := by have := of_decide_eq_false hc38; omega
   subst hk48
   refine aa [483] ?_
   refine bK rfl (bX false rfl (.nil) (Pm) pu (.inl rfl) rfl ?_)
   refine bK rfl (cB 10 rfl nM rfl rfl ?_)
   refine bK rfl (cu nM rfl rfl rfl (by simp [ua]) aB ?_)
   refine bI <| bG <| bH <| gq 23 c8 aw <| t1 (cX 0 Tryz.underlying175 cI rfl rfl rfl ar rfl) rfl ?_
   refine aa [20] ?_
   refine t1 (cX 1 Tryz.underlying175 cI rfl rfl rfl ar rfl) rfl ?_
   refine aa [20] ?_
   refine t1 (cX 2 Tryz.underlying175 cI rfl rfl rfl ar rfl) rfl ?_
   refine aa [20] ?_
   refine t1 (cX 3 Tryz.underlying175 cI rfl rfl rfl ar rfl) rfl ?_
   refine aa [20] ?_
   refine t1 (cX 4 Tryz.underlying175 cI rfl rfl rfl ar rfl) rfl ?_
   refine aa [20] ?_
   refine t1 (cX 5 Tryz.underlying175 cI rfl rfl rfl ar rfl) rfl ?_
   refine aa [20] ?_
   refine t1 (cX 6 Tryz.underlying175 cI rfl rfl rfl ar rfl) rfl ?_
   refine aa [20] ?_
   refine t1 (cX 7 Tryz.underlying175 cI rfl rfl rfl ar rfl) rfl ?_
   refine aa [20,473,473,473,6,10,452,475] ?_
   refine cO (ι:=Nat) (fun t=> [(2,.p 2 0),(4,.p 4 0),(5,.p 5 0),(10,.p 10 0),(19,.i .i64 (t:Nat)),(11,b9 (rounds (sched b 48) s t).a),(12,b9 (rounds (sched b 48) s t).b),(13,b9 (rounds (sched b 48) s t).c),(14,b9 (rounds (sched b 48) s t).d),(15,b9 (rounds (sched b 48) s t).e),(16,b9 (rounds (sched b 48) s t).f),(17,b9 (rounds (sched b 48) s t).g),(18,b9 (rounds (sched b 48) s t).h)]) (fun t=>⟨[(2,some (s.l.map b9)),(4,some (List.replicate 8 (b9 0))),(5,some ((sched b 48).map b9++List.replicate (48 - 48) (b9 0))),(10,some (oZ.map b9))]⟩) (fun t=>t≤64) (fun t=>64 - t) ?_ ?_
   ·exact cN (0) (Nat.zero_le _) [(2,some 2),(4,some 4),(5,some 5),(10,some 10)] hI rfl rfl ⟨⟨_,rfl,.p rfl⟩,⟨_,rfl,.p rfl⟩,⟨_,rfl,.p rfl⟩,⟨_,rfl,.p rfl⟩,⟨_,rfl,.pure pu⟩,⟨_,rfl,.pure pu⟩,⟨_,rfl,.pure pu⟩,⟨_,rfl,.pure pu⟩,⟨_,rfl,.pure pu⟩,⟨_,rfl,.pure pu⟩,⟨_,rfl,.pure pu⟩,⟨_,rfl,.pure pu⟩,⟨_,rfl,.pure pu⟩,trivial⟩ ⟨.inr ⟨_,_,rfl,rfl,.pure bL⟩,.inr ⟨_,_,rfl,rfl,.pure bL⟩,.inr ⟨_,_,rfl,rfl,.pure bL⟩,.inr ⟨_,_,rfl,rfl,.pure bL⟩,trivial⟩
   rintro t ht
   refine aa [533] ?_
   refine b7 rfl (fun hc96=>?_) (fun hc96=>?_)
   ·have ht64 : t < 64 := by have := of_decide_eq_true hc96; omega
    refine bY <| bG <| bH <| bZ <| bH <| eG ⟨_, [], []⟩ 27 4 c8 (le_refl rfl) ?_
    refine aa [31,16] ?_
    refine ee false 2 [1] [] cK rfl (.cons (.pure pu) (.cons (.pure pu) (.nil))) (nB _ 6 az) pu (.inl rfl) rfl rfl ?_
    refine aa [66] ?_
    refine ee false 4 [3] [] cK rfl (.cons (.pure pu) (.cons (.pure pu) (.nil))) (nB _ 11 az) pu (.inl rfl) rfl rfl <| bQ 5 [2,4] [] (ig _ _ rfl rfl) rfl rfl ?_
    refine aa [138] ?_
    refine ee false 7 [6] [] cK rfl (.cons (.pure pu) (.cons (.pure pu) (.nil))) (nB _ 25 az) pu (.inl rfl) rfl rfl <| bQ 8 [5,7] [] (ig _ _ rfl rfl) rfl rfl <| bQ 9 [0,8] [] (fM _ _ rfl rfl) rfl rfl ?_
    refine aa [137,201] ?_
    refine bQ 12 [10,11] [] (m0 _ _ rfl rfl) rfl rfl <| bQ 13 [] [] (bF rfl) rfl rfl <| bQ 14 [13] [] (GM _ rfl) rfl rfl <| bQ 15 [] [] (bF rfl) rfl rfl <| bQ 16 [14,15] [] (m0 _ _ rfl rfl) rfl rfl <| bQ 17 [12,16] [] (ig _ _ rfl rfl) rfl rfl <| bQ 18 [9,17] [] (fM _ _ rfl rfl) rfl rfl <| bQ 19 [] [] (bF rfl) rfl rfl <| bQ 20 [19] [(10,none)] (cX t Tryz.underlying209 cI rfl rfl rfl ar rfl) rfl rfl <| bQ 21 [20] [(10,none)] (bM cI rfl rfl (rH t (by first|(simp [ua];done)|(simp [ua];omega)) rfl)) rfl rfl <| bQ 22 [18,21] [] (fM _ _ rfl rfl) rfl rfl <| bQ 23 [] [] (bF rfl) rfl rfl <| bQ 24 [23] [(5,none)] (cX t Tryz.underlying209 cI rfl rfl rfl ar rfl) rfl rfl <| bQ 25 [24] [(5,none)] (bM cI rfl rfl (mF t au rfl)) rfl rfl <| bQ 26 [22,25] [] (fM _ _ rfl rfl) rfl rfl ?_
    refine aa [4,458] ?_
    refine bK rfl (bX false rfl (.cons (.pure pu) (.cons (.pure pu) (.nil))) (nB _ 2 az) pu (.inl rfl) rfl ?_)
    refine s1 (bF rfl) rfl <| bK rfl (bX false rfl (.cons (.pure pu) (.cons (.pure pu) (.nil))) (nB _ 13 az) pu (.inl rfl) rfl ?_)
    refine aa [22,0] ?_
    refine bK rfl (bX false rfl (.cons (.pure pu) (.cons (.pure pu) (.nil))) (nB _ 22 az) pu (.inl rfl) rfl ?_)
    refine aa [22,446,86,446,86,22,446,86,22,105,534,471,105,466,560,466,466,8,492] ?_
    exact cz (t+1) ar ar [(2,some 2),(4,some 4),(5,some 5),(10,some 10)] hI rfl rfl ⟨⟨_,rfl,.p rfl⟩,⟨_,rfl,.p rfl⟩,⟨_,rfl,.p rfl⟩,⟨_,rfl,.p rfl⟩,⟨_,rfl,.pure pu⟩,⟨_,rfl,.pure pu⟩,⟨_,rfl,.pure pu⟩,⟨_,rfl,.pure pu⟩,⟨_,rfl,.pure pu⟩,⟨_,rfl,.pure pu⟩,⟨_,rfl,.pure pu⟩,⟨_,rfl,.pure pu⟩,⟨_,rfl,.pure pu⟩,trivial⟩ ⟨.inr ⟨_,_,rfl,rfl,.pure bL⟩,.inr ⟨_,_,rfl,rfl,.pure bL⟩,.inr ⟨_,_,rfl,rfl,.pure bL⟩,.inr ⟨_,_,rfl,rfl,.pure bL⟩,trivial⟩
   ·have ht64 : t = 64 := by have := of_decide_eq_false hc96; omega
    subst ht64
    refine aa [483] ?_
    refine s1 (cX 0 Tryz.underlying175 cI rfl rfl rfl ar rfl) rfl ?_
    refine aa [535] ?_
    refine s1 (cX 1 Tryz.underlying175 cI rfl rfl rfl ar rfl) rfl ?_
    refine aa [535] ?_
    refine s1 (cX 2 Tryz.underlying175 cI rfl rfl rfl ar rfl) rfl ?_
    refine aa [535] ?_
    refine s1 (cX 3 Tryz.underlying175 cI rfl rfl rfl ar rfl) rfl ?_
    refine aa [535] ?_
    refine s1 (cX 4 Tryz.underlying175 cI rfl rfl rfl ar rfl) rfl ?_
    refine aa [535] ?_
    refine s1 (cX 5 Tryz.underlying175 cI rfl rfl rfl ar rfl) rfl ?_
    refine aa [535] ?_
    refine s1 (cX 6 Tryz.underlying175 cI rfl rfl rfl ar rfl) rfl ?_
    refine aa [535] ?_
    refine s1 (cX 7 Tryz.underlying175 cI rfl rfl rfl ar rfl) rfl ?_
    refine aa [535] ?_
    refine s1 (uQ (vs:= [_,_,_,_,_,_,_,_]) oI rfl Tryz.underlying175 cI rfl rfl rfl rfl) rfl <| bK rfl (cu oI rfl rfl rfl aB aB ?_)
    refine bI <| bG <| bV ?_
    refine bW (rs:= [.cell 4 175]) rfl (c9 oI rfl rfl rfl aB bR) rfl
-- D2E
theorem vh (s:S8) (b:List UInt8) (hb:b.length=64):dG Tryz.prog 104 [.p 3 0,.fz 64 (b.map u8)] ⟨[(3,some (s.l.map b9))]⟩ (gL (.tu []) [(3,(comp s b).l.map b9)]):=by
 refine mB Tryz.func104 rfl Tryz.ntmps104 aw (Nat.le_of_ble_eq_true rfl) fun w0 X0 hI=>?_
 refine bH <| bJ <| bK rfl (cB 4 rfl nM rfl rfl ?_)
 refine aa [456,475] ?_
 refine cO (ι:=Nat) (fun i=> [(0,.p 3 0),(1,.fz 64 (b.map u8)),(4,.p 4 0),(23,.i .i64 (i:Nat))]) (fun i=>⟨[(3,some (s.l.map b9)),(4,some ((words b i).map b9++List.replicate (64 - i) (b9 0)))]⟩) (fun i=>i≤16) (fun i=>16 - i) ?_ ?_
 ·exact cN (0) (Nat.zero_le _) [(3,some 3),(4,some 4)] hI rfl rfl ⟨⟨_,rfl,.p rfl⟩,⟨_,rfl,.pure pu⟩,⟨_,rfl,.p rfl⟩,⟨_,rfl,.pure pu⟩,trivial⟩ ⟨.inr ⟨_,_,rfl,rfl,.pure bL⟩,.inr ⟨_,_,rfl,rfl,.of aZ (.pure bL)⟩,trivial⟩
 rintro i hi
 refine aa [448] ?_
 refine b7 rfl (fun hc24=>?_) (fun hc24=>?_)
 ·have hi16 : i < 16 := by have := of_decide_eq_true hc24; omega
  refine aa [477,475] ?_
  refine cO (ι:=Nat) (fun j=> [(0,.p 3 0),(1,.fz 64 (b.map u8)),(4,.p 4 0),(5,.i .i64 (i:Nat)),(23,.i .i64 (i:Nat)),(26,.i .i64 (j:Nat))]) (fun j=>⟨[(3,some (s.l.map b9)),(4,some ((words b i).map b9++ [b9 (lC b (4*i) j)]++List.replicate (63 - i) (b9 0)))]⟩) (fun j=>j≤4) (fun j=>4 - j) ?_ ?_
  ·skip
   refine ep 4 rfl (P4 b i ar) ?_
   exact cN (0) (Nat.zero_le _) [(3,some 3),(4,some 4)] hI rfl rfl ⟨⟨_,rfl,.p rfl⟩,⟨_,rfl,.pure pu⟩,⟨_,rfl,.p rfl⟩,⟨_,rfl,.pure pu⟩,⟨_,rfl,.pure pu⟩,⟨_,rfl,.pure pu⟩,trivial⟩ ⟨.inr ⟨_,_,rfl,rfl,.pure bL⟩,.inr ⟨_,_,rfl,rfl,.pure bL⟩,trivial⟩
  rintro j hj
  refine aa [448] ?_
  refine b7 rfl (fun hc27=>?_) (fun hc27=>?_)
  ·have hj4 : j < 4 := by have := of_decide_eq_true hc27; omega
   refine aa [477] ?_
   refine gq 15 c8 aw ?_
   refine aa [473,271] ?_
   refine t1 (bM cI rfl rfl (Nm b i j)) rfl <| t1 (kA _ 8 rfl rfl rfl az) rfl ?_
   refine aa [473] ?_
   refine t1 (gp 4 i rfl rfl rfl rfl ar) rfl <| t1 (bF rfl) rfl <| t1 (cl (4*i) j rfl rfl rfl rfl ar) rfl <| t1 (cD (4*i+j) Tryz.underlying47 cc rfl rfl rfl ar rfl) rfl <| t1 (bM cc rfl rfl (Na (4*i+j) ar rfl)) rfl ?_
   refine aa [103] ?_
   refine t1 ((ky _ _ rfl rfl).v (v':=b9 (lC b (4*i) (j+1))) rfl) rfl ?_
   refine aa [271,10] ?_
   refine bK rfl (cV cI rfl rfl rfl rfl (by simp only [List.length_append,List.length_map,List.length_replicate,List.length_cons,List.length_nil,OE];omega) (RM b i j) ?_)
   refine aa [472] ?_
   exact cz (j+1) ar ar [(3,some 3),(4,some 4)] hI rfl rfl ⟨⟨_,rfl,.p rfl⟩,⟨_,rfl,.pure pu⟩,⟨_,rfl,.p rfl⟩,⟨_,rfl,.pure pu⟩,⟨_,rfl,.pure pu⟩,⟨_,rfl,.pure pu⟩,trivial⟩ ⟨.inr ⟨_,_,rfl,rfl,.pure bL⟩,.inr ⟨_,_,rfl,rfl,.pure bL⟩,trivial⟩
  ·have hj4 : j = 4 := by have := of_decide_eq_false hc27; omega
   subst hj4
   refine aa [536] ?_
   exact cz (i+1) ar ar [(3,some 3),(4,some 4)] hI rfl rfl ⟨⟨_,rfl,.p rfl⟩,⟨_,rfl,.pure pu⟩,⟨_,rfl,.p rfl⟩,⟨_,rfl,.pure pu⟩,trivial⟩ ⟨.inr ⟨_,_,rfl,rfl,.pure bL⟩,.inr ⟨_,_,rfl,rfl,.of (P5 b i ar) (.pure bL)⟩,trivial⟩
 ·have hi16 : i = 16 := by have := of_decide_eq_false hc24; omega
  subst hi16
  refine aa [463,444] ?_
  refine s1 ((bF rfl).v (v':= .i .i64 16) rfl) rfl <| bI <| bG <| bZ ?_
  refine cO (ι:=Nat) (fun k=> [(0,.p 3 0),(1,.fz 64 (b.map u8)),(4,.p 4 0),(7,.i .i64 ((16+k:Nat):Int))]) (fun k=>⟨[(3,some (s.l.map b9)),(4,some ((sched b k).map b9++List.replicate (48 - k) (b9 0)))]⟩) (fun k=>k≤48) (fun k=>48 - k) ?_ ?_
  ·skip
   refine ep 4 rfl (cs':=(sched b 0).map b9++List.replicate (48 - 0) (b9 0)) (by rw [BG]) ?_
   exact cN (0) (Nat.zero_le _) [(3,some 3),(4,some 4)] hI rfl rfl ⟨⟨_,rfl,.p rfl⟩,⟨_,rfl,.pure pu⟩,⟨_,rfl,.p rfl⟩,⟨_,rfl,.pure pu⟩,trivial⟩ ⟨.inr ⟨_,_,rfl,rfl,.pure bL⟩,.inr ⟨_,_,rfl,rfl,.pure bL⟩,trivial⟩
  rintro k hk
  refine aa [533] ?_
  refine b7 rfl (fun hc47=>?_) (fun hc47=>?_)
  ·have hk48 : k < 48 := by have := of_decide_eq_true hc47; omega
   refine bY <| bG <| bH <| bZ <| bH <| gq 9 c8 aw <| t1 (bF rfl) rfl <| t1 (fJ (16+k) 15 rfl rfl rfl rfl ar ar) rfl <| t1 (cX (16+k - 15) Tryz.underlying209 cI rfl rfl rfl ar rfl) rfl <| t1 (bM cI rfl rfl (mF (16+k - 15) au rfl)) rfl <| t1 (bF rfl) rfl <| t1 (fJ (16+k) 2 rfl rfl rfl rfl ar ar) rfl <| t1 (cX (16+k - 2) Tryz.underlying209 cI rfl rfl rfl ar rfl) rfl <| t1 (bM cI rfl rfl (mF (16+k - 2) au rfl)) rfl ?_
   refine aa [6,10,458] ?_
   refine bK rfl (bX false rfl (.cons (.pure pu) (.cons (.pure pu) (.nil))) (Q3 _) pu (.inl rfl) rfl ?_)
   refine s1 (bF rfl) rfl <| bK rfl (bX false rfl (.cons (.pure pu) (.cons (.pure pu) (.nil))) (QX _) pu (.inl rfl) rfl ?_)
   refine aa [22,0] ?_
   refine s1 (iS _ 3 rfl rfl rfl az) rfl ?_
   refine aa [22,458] ?_
   refine bK rfl (bX false rfl (.cons (.pure pu) (.cons (.pure pu) (.nil))) (QW _) pu (.inl rfl) rfl ?_)
   refine s1 (bF rfl) rfl <| bK rfl (bX false rfl (.cons (.pure pu) (.cons (.pure pu) (.nil))) (QY _) pu (.inl rfl) rfl ?_)
   refine aa [22,0] ?_
   refine s1 (iS _ 10 rfl rfl rfl az) rfl ?_
   refine aa [22,447] ?_
   refine gq 15 c8 aw ?_
   refine aa [473] ?_
   refine t1 (fJ (16+k) 16 rfl rfl rfl rfl ar ar) rfl <| t1 (cX (16+k - 16) Tryz.underlying209 cI rfl rfl rfl ar rfl) rfl <| t1 (bM cI rfl rfl (mF (16+k - 16) au rfl)) rfl ?_
   refine aa [6,58,6] ?_
   refine t1 (fJ (16+k) 7 rfl rfl rfl rfl ar ar) rfl <| t1 (cX (16+k - 7) Tryz.underlying209 cI rfl rfl rfl ar rfl) rfl <| t1 (bM cI rfl rfl (mF (16+k - 7) au rfl)) rfl ?_
   refine aa [58,6,58] ?_
   refine t1 (cX (16+k) Tryz.underlying209 cI rfl rfl rfl ar rfl) rfl ?_
   refine aa [10,270,8,492] ?_
   exact cz (k+1) ar ar [(3,some 3),(4,some 4)] hI rfl rfl ⟨⟨_,rfl,.p rfl⟩,⟨_,rfl,.pure pu⟩,⟨_,rfl,.p rfl⟩,⟨_,rfl,.pure pu⟩,trivial⟩ ⟨.inr ⟨_,_,rfl,rfl,.pure bL⟩,.inr ⟨_,_,rfl,rfl,.pure bL⟩,trivial⟩
  ·have hk48 : k = 48 := by have := of_decide_eq_false hc47; omega
   subst hk48
   refine aa [509] ?_
   refine s1 (mm rfl rfl) rfl <| s1 (cg pK rfl rfl au) rfl <| bK rfl (cB 12 rfl pK rfl rfl ?_)
   refine aa [272,456,475] ?_
   refine cO (ι:=Nat) (fun t=> [(0,.p 3 0),(4,.p 4 0),(12,.p 12 0),(92,.i .i64 (t:Nat))]) (fun t=>⟨[(3,some (s.l.map b9)),(4,some ((sched b 48).map b9)),(12,some ((rounds (sched b 48) s t).l.map b9))]⟩) (fun t=>t≤64) (fun t=>64 - t) ?_ ?_
   ·skip
    refine ep 4 rfl (cs':=(sched b 48).map b9) aB ?_
    exact cN (0) (Nat.zero_le _) [(3,some 3),(4,some 4),(12,some 12)] hI rfl rfl ⟨⟨_,rfl,.p rfl⟩,⟨_,rfl,.p rfl⟩,⟨_,rfl,.p rfl⟩,⟨_,rfl,.pure pu⟩,trivial⟩ ⟨.inr ⟨_,_,rfl,rfl,.pure bL⟩,.inr ⟨_,_,rfl,rfl,.pure bL⟩,.inr ⟨_,_,rfl,rfl,.pure bL⟩,trivial⟩
   rintro t ht
   refine aa [448] ?_
   refine b7 rfl (fun hc93=>?_) (fun hc93=>?_)
   ·have ht64 : t < 64 := by have := of_decide_eq_true hc93; omega
    refine aa [514,452,203] ?_
    refine t1 (cX 0 Tryz.underlying176 cI rfl rfl rfl ar rfl) rfl ?_
    refine aa [20] ?_
    refine t1 (cX 1 Tryz.underlying176 cI rfl rfl rfl ar rfl) rfl ?_
    refine aa [20] ?_
    refine t1 (cX 2 Tryz.underlying176 cI rfl rfl rfl ar rfl) rfl ?_
    refine aa [20] ?_
    refine t1 (cX 4 Tryz.underlying176 cI rfl rfl rfl ar rfl) rfl ?_
    refine aa [20,473,6,10,458] ?_
    refine bK rfl (bX false rfl (.cons (.pure pu) (.cons (.pure pu) (.nil))) (Q2 _) pu (.inl rfl) rfl ?_)
    refine s1 (bF rfl) rfl <| bK rfl (bX false rfl (.cons (.pure pu) (.cons (.pure pu) (.nil))) (QU _) pu (.inl rfl) rfl ?_)
    refine aa [22,0] ?_
    refine bK rfl (bX false rfl (.cons (.pure pu) (.cons (.pure pu) (.nil))) (Q1 _) pu (.inl rfl) rfl ?_)
    refine aa [22,452] ?_
    refine gq 23 c8 aw <| t1 (cX 7 Tryz.underlying176 cI rfl rfl rfl ar rfl) rfl ?_
    refine aa [20,6,58,6] ?_
    refine t1 (cX 5 Tryz.underlying176 cI rfl rfl rfl ar rfl) rfl ?_
    refine aa [20] ?_
    refine t1 (m0 _ _ rfl rfl) rfl <| t1 (bF rfl) rfl <| t1 (GM _ rfl) rfl <| t1 (cX 6 Tryz.underlying176 cI rfl rfl rfl ar rfl) rfl ?_
    refine aa [20] ?_
    refine t1 (m0 _ _ rfl rfl) rfl <| t1 (ig _ _ rfl rfl) rfl ?_
    refine aa [58,6] ?_
    refine t1 (IU t Tryz.underlying209 cI rfl rfl rfl ar rfl) rfl <| t1 (bM cI rfl rfl (Nb t ht64)) rfl ?_
    refine aa [58,6] ?_
    refine t1 (cX t Tryz.underlying209 cI rfl rfl rfl ar rfl) rfl <| t1 (bM cI rfl rfl (rH t au rfl)) rfl ?_
    refine aa [58,10,458] ?_
    refine bK rfl (bX false rfl (.cons (.pure pu) (.cons (.pure pu) (.nil))) (QZ _) pu (.inl rfl) rfl ?_)
    refine s1 (bF rfl) rfl <| bK rfl (bX false rfl (.cons (.pure pu) (.cons (.pure pu) (.nil))) (QV _) pu (.inl rfl) rfl ?_)
    refine aa [22,0] ?_
    refine bK rfl (bX false rfl (.cons (.pure pu) (.cons (.pure pu) (.nil))) (Q0 _) pu (.inl rfl) rfl ?_)
    refine aa [22,455,0,86,446,86,22,446,86,22,105,534,105,471] ?_
    refine s1 (cX 3 Tryz.underlying176 cI rfl rfl rfl ar rfl) rfl ?_
    refine aa [535,0] ?_
    refine s1 (cX 5 Tryz.underlying176 cI rfl rfl rfl ar rfl) rfl ?_
    refine aa [202] ?_
    refine s1 (cX 6 Tryz.underlying176 cI rfl rfl rfl ar rfl) rfl ?_
    refine aa [202] ?_
    refine s1 (uQ (vs:= [_,_,_,_,_,_,_,_]) pK rfl Tryz.underlying176 cI rfl rfl rfl rfl) rfl ?_
    refine aa [272,472] ?_
    exact cz (t+1) ar ar [(3,some 3),(4,some 4),(12,some 12)] hI rfl rfl ⟨⟨_,rfl,.p rfl⟩,⟨_,rfl,.p rfl⟩,⟨_,rfl,.p rfl⟩,⟨_,rfl,.pure pu⟩,trivial⟩ ⟨.inr ⟨_,_,rfl,rfl,.pure bL⟩,.inr ⟨_,_,rfl,rfl,.pure bL⟩,.inr ⟨_,_,rfl,rfl,.pure bL⟩,trivial⟩
   ·have ht64 : t = 64 := by have := of_decide_eq_false hc93; omega
    subst ht64
    refine aa [484,475] ?_
    refine cO (ι:=Nat) (fun i=> [(0,.p 3 0),(12,.p 12 0),(172,.i .i64 (i:Nat))]) (fun i=>⟨[(3,some ((qR s (rounds (sched b 48) s 64) i).map b9)),(12,some ((rounds (sched b 48) s 64).l.map b9))]⟩) (fun i=>i≤8) (fun i=>8 - i) ?_ ?_
    ·exact cN (0) (Nat.zero_le _) [(3,some 3),(12,some 12)] hI rfl rfl ⟨⟨_,rfl,.p rfl⟩,⟨_,rfl,.p rfl⟩,⟨_,rfl,.pure pu⟩,trivial⟩ ⟨.inr ⟨_,_,rfl,rfl,.pure bL⟩,.inr ⟨_,_,rfl,rfl,.pure bL⟩,trivial⟩
    rintro i hi
    refine aa [448] ?_
    refine b7 rfl (fun hc173=>?_) (fun hc173=>?_)
    ·have hi8 : i < 8 := by have := of_decide_eq_true hc173; omega
     refine aa [477,203,473,67,204] ?_
     refine t1 (bM cI rfl rfl (rH i (by rw [F8];omega) rfl)) rfl ?_
     refine aa [6,204] ?_
     refine t1 (bM cI rfl rfl (rH i (by rw [Oq];omega) rfl)) rfl ?_
     refine aa [58,67,204,10] ?_
     refine bK rfl (cV cI rfl rfl rfl rfl (by rw [List.length_map,F8];omega) (RP s _ i ar) ?_)
     refine aa [472] ?_
     exact cz (i+1) ar ar [(3,some 3),(12,some 12)] hI rfl rfl ⟨⟨_,rfl,.p rfl⟩,⟨_,rfl,.p rfl⟩,⟨_,rfl,.pure pu⟩,trivial⟩ ⟨.inr ⟨_,_,rfl,rfl,.pure bL⟩,.inr ⟨_,_,rfl,rfl,.pure bL⟩,trivial⟩
    ·have hi8 : i = 8 := by have := of_decide_eq_false hc173; omega
     subst hi8
     refine cG <| b6 <| b6 <| cH ?_
     refine jO (rs:= []) rfl bR (nv (congrArg (fun l=>some (List.map b9 l)) (SD _ _)))
-- D2D
theorem P3 (b:List UInt8) (hb:b.length≤140737488300000):bO Tryz.prog 143 [.fz b.length (b.map u8)] (cn (.fz (pad b).length ((pad b).map u8))):=by
 refine enter Tryz.func143 rfl Tryz.ntmps143 aw (Nat.le_of_ble_eq_true rfl) fun w0 X0 hI=>?_
 refine aa [537] ?_
 refine bK rfl (dz 6 rfl Tryz.underlying47 cc rfl rfl rfl rfl rfl ?_)
 refine s1 (bF rfl) rfl <| bK rfl (dB 8 rfl Tryz.underlying47 cc rfl (.sl rfl au) rfl rfl au av av rfl rfl rfl ?_)
 refine aa [273] ?_
 refine bK rfl (dB 10 rfl Tryz.underlying47 cc rfl (.sl rfl au) rfl (dE rfl au) au av av rfl rfl rfl ?_)
 refine aa [452,13] ?_
 refine cO (ι:=Nat) (fun i=> [(0,.fz b.length (b.map u8)),(3,.sl 3 1 0 (b.length+1+i))]) (fun i=>⟨[(3,some ((b++ [128]++List.replicate i 0).map u8))]⟩) (fun i=>i≤j9 b.length) (fun i=>j9 b.length - i) ?_ ?_
 ·exact cN (0) (Nat.zero_le _) [(3,some 10)] hI rfl rfl ⟨⟨_,rfl,.pure pu⟩,⟨_,rfl,.sl rfl au⟩,trivial⟩ ⟨.inr ⟨_,_,rfl,rfl,.of aB (.pure bL)⟩,trivial⟩
 rintro i hi
 refine aa [3,445] ?_
 refine s1 (cf Tryz.underlying47 rfl (dE rfl aE) rfl) rfl <| s1 (iQ (b.length+1+i) 64 rfl rfl rfl rfl az) rfl ?_
 refine aa [447] ?_
 refine b7 rfl (fun hc14=>?_) (fun hc14=>?_)
 ·have hz := uS b.length
  have hi2:i<j9 b.length:=by
   have:=bne_iff_ne.1 hc14
   rcases Nat.lt_or_ge i (j9 b.length)with h|h
   ·exact h
   ·exfalso; have : i = j9 b.length := by omega
    subst this;omega
  refine aa [461,13,450] ?_
  refine bK rfl (dz 16 rfl Tryz.underlying47 cc rfl rfl rfl rfl rfl ?_)
  refine bK rfl (dB 17 rfl Tryz.underlying47 cc rfl (.sl rfl au) rfl (dE rfl au) au av av rfl rfl rfl ?_)
  refine aa [476,50] ?_
  exact cz (i+1) ar ar [(3,some 17)] hI rfl rfl ⟨⟨_,rfl,.pure pu⟩,⟨_,rfl,.sl rfl au⟩,trivial⟩ ⟨.inr ⟨_,_,rfl,rfl,.of (by simp [List.replicate_succ', ←List.append_assoc]) (.pure bL)⟩,trivial⟩
 ·have hz := uS b.length
  have hi2:i=j9 b.length:=by
   have:=bne_eq_false_iff_eq.1 hc14
   omega
  subst hi2
  refine aa [509,24] ?_
  refine s1 (uj _ Tryz.underlying3 Tryz.underlying202 rfl rfl) rfl <| s1 ((A1 _ (cP 8) rfl rfl).v (v':=cM (cP (8*b.length))) (congrArg cM (by rw [←BitVec.ofNat_mul,Nat.mul_comm]))) rfl ?_
  refine aa [508] ?_
  refine s1 ((bF rfl).v (v':= .i .i64 7) rfl) rfl <| bI <| bG <| bZ ?_
  refine cO (ι:=Nat) (fun k=> [(3,.sl 3 1 0 (b.length+1+j9 b.length+k)),(4,cM (cP (8*b.length))),(5,.i .i64 (7 - (k:Int)))]) (fun k=>⟨[(3,some ((b++ [128]++List.replicate (j9 b.length) 0++(gC (8*b.length)).take k).map u8))]⟩) (fun k=>k≤8) (fun k=>8 - k) ?_ ?_
  ·exact cN (0) (Nat.zero_le _) [(3,some 3)] hI rfl rfl ⟨⟨_,rfl,.sl rfl au⟩,⟨_,rfl,.pure pu⟩,⟨_,rfl,.pure pu⟩,trivial⟩ ⟨.inr ⟨_,_,rfl,rfl,.of aB (.pure bL)⟩,trivial⟩
  rintro k hk
  refine aa [533] ?_
  refine b7 rfl (fun hc23=>?_) (fun hc23=>?_)
  ·have hk8 : k < 8 := by have := of_decide_eq_true hc23; omega
   refine aa [482,502] ?_
   refine s1 ((bF rfl).v (v':= .i .i64 ((8*(7 - k):Nat):Int)) (by rw [pO _ ar ar];congr 1;omega)) rfl <| s1 (mS _ (8*(7 - k)) rfl rfl rfl ar) rfl <| s1 ((lB _ Tryz.underlying202 Tryz.underlying5 rfl).v (v':=u8 (UInt8.ofNat (8*b.length / 2 ^ (8*(7 - k))))) (congrArg u8 (zl _ _ ar))) rfl <| bK rfl (dz 32 rfl Tryz.underlying47 cc rfl rfl rfl rfl rfl ?_)
   refine bK rfl (dB 33 rfl Tryz.underlying47 cc rfl (.sl rfl au) rfl (dE rfl au) au av av rfl rfl rfl ?_)
   refine aa [476,552] ?_
   refine s1 ((uI rfl rfl ar ar).v (v':= .i .i64 (7 - ((k+1:Nat):Int))) (congrArg (A.i .i64) ar)) rfl ?_
   refine aa [476] ?_
   exact cz (k+1) ar ar [(3,some 33)] hI rfl rfl ⟨⟨_,rfl,.sl rfl au⟩,⟨_,rfl,.pure pu⟩,⟨_,rfl,.pure pu⟩,trivial⟩ ⟨.inr ⟨_,_,rfl,rfl,.of (by rw [SR _ k ar];simp) (.pure bL)⟩,trivial⟩
  ·have hk8 : k = 8 := by have := of_decide_eq_false hc23; omega
   subst hk8
   refine aa [509,449] ?_
   refine eR 2 rfl rfl bL (c5 (by simp [gw];omega) (by rw [SP (gw _)])) ?_
   refine aa [5] ?_
   show A.fz _ _=_
   rw [wQ]
   rfl
theorem Hx (b:List UInt8) (hb:b.length≤140737488300000):bO Tryz.prog 114 [.fz b.length (b.map u8)] (cn (.ag ((nE b).map u8))):=by
 refine enter Tryz.func114 rfl Tryz.ntmps114 aw (Nat.le_of_ble_eq_true rfl) fun w0 X0 hI=>?_
 refine aa [444,68,454] ?_
 refine s1 ((uQ (vs:= [_,_,_,_,_,_,_,_]) oI rfl Tryz.underlying175 cI rfl rfl rfl rfl).v (v':= .ag (h0.l.map b9)) aw) rfl <| bK rfl (cB 3 rfl oI rfl rfl ?_)
 refine aa [274,486] ?_
 refine bK rfl (bX false rfl (.cons (.pure pu) (.nil)) (P3 b hb) pu (.inl rfl) rfl ?_)
 refine aa [452,475] ?_
 refine cO (ι:=Nat) (fun k=> [(2,.p 2 0),(3,.p 3 0),(4,.fz (pad b).length ((pad b).map u8)),(5,.i .i64 ((64*k:Nat):Int))]) (fun k=>⟨[(2,some (List.replicate 32 (u8 0))),(3,some ((il k h0 (pad b)).l.map b9))]⟩) (fun k=>k≤(pad b).length / 64) (fun k=>(pad b).length / 64 - k) ?_ ?_
 ·exact cN (0) (Nat.zero_le _) [(2,some 2),(3,some 3)] hI rfl rfl ⟨⟨_,rfl,.p rfl⟩,⟨_,rfl,.p rfl⟩,⟨_,rfl,.pure pu⟩,⟨_,rfl,.pure pu⟩,trivial⟩ ⟨.inr ⟨_,_,rfl,rfl,.of aB (.pure bL)⟩,.inr ⟨_,_,rfl,rfl,.pure bL⟩,trivial⟩
 rintro k hk
 have hp:=Ov b
 have hpl:=wQ b
 have hz:=uS b.length
 refine aa [481,24,447] ?_
 refine b7 rfl (fun hc14=>?_) (fun hc14=>?_)
 ·have hk2 : k < (pad b).length / 64 := by have := of_decide_eq_true hc14; omega
  refine aa [482,55] ?_
  refine bQ 0 [] [(3,none)] (cg oI rfl rfl au) rfl rfl ?_
  refine aa [16,69,66] ?_
  refine bQ 4 [3] [] (cl _ 64 rfl rfl rfl rfl ar) rfl rfl <| bQ 5 [1,2,4] [] ((mU 64 Tryz.underlying47 cc rfl aB (bs rfl rfl) (bs rfl rfl) ar ar ar rfl).v (congrArg (A.fz 64) (LB (pad b) (64*k)))) rfl rfl <| ee false 6 [0,5] [] cK rfl (.cons (.pure pu) (.cons (.pure pu) (.nil))) (Kx _ _ aE) pu (.inl rfl) rfl rfl ?_
  refine aa [4,274,8,552] ?_
  refine s1 (cl _ 64 rfl rfl rfl rfl ar) rfl ?_
  refine aa [476] ?_
  exact cz (k+1) ar ar [(2,some 2),(3,some 3)] hI rfl rfl ⟨⟨_,rfl,.p rfl⟩,⟨_,rfl,.p rfl⟩,⟨_,rfl,.pure pu⟩,⟨_,rfl,.pure pu⟩,trivial⟩ ⟨.inr ⟨_,_,rfl,rfl,.of aB (.pure bL)⟩,.inr ⟨_,_,rfl,rfl,.of (by rw [yS]) (.pure bL)⟩,trivial⟩
 ·have hk2 : k = (pad b).length / 64 := by have := of_decide_eq_false hc14; omega
  subst hk2
  refine aa [483] ?_
  refine s1 ((IQ b5 rfl Tryz.underlying23 cc rfl).v (v':= .ag ((l6 h0 0).map u8++List.replicate (32 - 0) (u8 0))) aw) rfl <| bK rfl (cB 6 rfl b5 rfl rfl ?_)
  refine aa [30,456,475] ?_
  refine cO (ι:=Nat) (fun i=> [(2,.p 2 0),(3,.p 3 0),(6,.p 6 0),(7,.i .i64 (i:Nat))]) (fun i=>⟨[(2,some (List.replicate 32 (u8 0))),(3,some ((il ((pad b).length / 64) h0 (pad b)).l.map b9)),(6,some ((l6 (il ((pad b).length / 64) h0 (pad b)) i).map u8++List.replicate (32 - i) (u8 0)))]⟩) (fun i=>i≤32) (fun i=>32 - i) ?_ ?_
  ·exact cN (0) (Nat.zero_le _) [(2,some 2),(3,some 3),(6,some 6)] hI rfl rfl ⟨⟨_,rfl,.p rfl⟩,⟨_,rfl,.p rfl⟩,⟨_,rfl,.p rfl⟩,⟨_,rfl,.pure pu⟩,trivial⟩ ⟨.inr ⟨_,_,rfl,rfl,.pure bL⟩,.inr ⟨_,_,rfl,rfl,.pure bL⟩,.inr ⟨_,_,rfl,rfl,.pure bL⟩,trivial⟩
  rintro i hi
  refine aa [533] ?_
  refine b7 rfl (fun hc26=>?_) (fun hc26=>?_)
  ·have hi2 : i < 32 := by have := of_decide_eq_true hc26; omega
   refine aa [482,451,275] ?_
   refine s1 (cX (i / 4) Tryz.underlying175 cI rfl rfl rfl ar rfl) rfl ?_
   refine aa [276,0] ?_
   refine s1 (iQ i 4 rfl rfl rfl rfl az) rfl ?_
   refine aa [277,278,279,87,280,281,8,492] ?_
   exact cz (i+1) ar ar [(2,some 2),(3,some 3),(6,some 6)] hI rfl rfl ⟨⟨_,rfl,.p rfl⟩,⟨_,rfl,.p rfl⟩,⟨_,rfl,.p rfl⟩,⟨_,rfl,.pure pu⟩,trivial⟩ ⟨.inr ⟨_,_,rfl,rfl,.pure bL⟩,.inr ⟨_,_,rfl,rfl,.pure bL⟩,.inr ⟨_,_,rfl,rfl,.pure bL⟩,trivial⟩
  ·have hi2 : i = 32 := by have := of_decide_eq_false hc26; omega
   subst hi2
   refine aa [483,282,30,457] ?_
   refine bW (rs:= [.cell 2 23]) rfl (c9 b5 rfl rfl (List.take_of_length_le aB) aB bR) rfl
-- D2F
theorem Kz (parts:List (List UInt8)) (hk:parts.length≤1048576) (ht:parts.flatten.length≤140737488300000):dG Tryz.prog 103 [.fn (.func 104) [.p 3 0] [],.fz parts.length (parts.map fw)] ⟨[(3,some (h0.l.map b9))]⟩ (gL (.tu []) [(3,(fin parts.flatten).l.map b9)]):=by
 refine mB Tryz.func103 rfl Tryz.ntmps103 aw (Nat.le_of_ble_eq_true rfl) fun w0 X0 hI=>?_
 refine bH <| bJ <| bK rfl (cB 4 rfl S1 rfl rfl ?_)
 refine aa [454,39] ?_
 refine s1 ((bF rfl).v (v':= .i .u64 0) rfl) rfl ?_
 refine aa [456,445,538] ?_
 refine cO (ι:=List UInt8×List UInt8×Nat) (fun⟨s,tl,i⟩=> [(0,.fn (.func 104) [.p 3 0] []),(4,.p 4 0),(5,.i .i64 ((s.length % 64):Nat)),(6,cM (cP s.length)),(11,.fz parts.length (parts.map fw)),(12,.i .i64 (parts.length:Nat)),(13,.i .i64 (i:Nat))]) (fun⟨s,tl,i⟩=>⟨[(3,some ((hs s).l.map b9)),(4,some ((rem s++tl).map u8))]⟩) (fun⟨s,tl,i⟩=>s=(parts.take i).flatten∧i≤parts.length∧tl.length=64 - (s.length % 64)) (fun⟨s,tl,i⟩=>parts.length - i) ?_ ?_
 ·exact cN (([],List.replicate 64 0,0)) (⟨by simp,Nat.zero_le _,by simp⟩) [(3,some 3),(4,some 4)] hI rfl rfl ⟨⟨_,rfl,.fn (.cons (.p rfl) .nil) .nil⟩,⟨_,rfl,.p rfl⟩,⟨_,rfl,.of rfl (.pure pu)⟩,⟨_,rfl,.of rfl (.pure pu)⟩,⟨_,rfl,.pure pu⟩,⟨_,rfl,.pure pu⟩,⟨_,rfl,.pure pu⟩,trivial⟩ ⟨.inr ⟨_,_,rfl,rfl,.of rfl (.pure bL)⟩,.inr ⟨_,_,rfl,rfl,.of Uf (.pure bL)⟩,trivial⟩
 rintro⟨s,tl,i⟩ ⟨hs0,hi,htl⟩
 dsimp only
 have hmod:=Nat.mod_lt s.length (show 0<64 by decide)
 refine aa [448] ?_
 refine b7 rfl (fun hc14=>?_) (fun hc14=>?_)
 ·have hi2 : i < parts.length := by have := of_decide_eq_true hc14; omega
  obtain⟨p,hp⟩:∃p,parts[i]? =some p:=⟨_,List.getElem?_eq_getElem hi2⟩
  have hpl:=Ow (List.mem_of_getElem? hp)
  refine aa [462,70] ?_
  refine s1 (bM cL rfl rfl (Fj hp)) rfl ?_
  refine aa [455,24] ?_
  refine s1 (uj p.length Tryz.underlying3 Tryz.underlying202 rfl rfl) rfl <| s1 (Jj (cP s.length) (cP p.length) rfl rfl) rfl ?_
  refine aa [510] ?_
  refine cO (ι:=Nat×List UInt8) (fun⟨j,tl2⟩=> [(0,.fn (.func 104) [.p 3 0] []),(4,.p 4 0),(5,.i .i64 (((s++p.take j).length % 64):Nat)),(6,cM (cP s.length+cP p.length)),(8,.fz (p.length - j) ((p.drop j).map u8)),(11,.fz parts.length (parts.map fw)),(12,.i .i64 (parts.length:Nat)),(13,.i .i64 (i:Nat))]) (fun⟨j,tl2⟩=>⟨[(3,some ((hs (s++p.take j)).l.map b9)),(4,some ((rem (s++p.take j)++tl2).map u8))]⟩) (fun⟨j,tl2⟩=>j≤p.length∧tl2.length=64 - ((s++p.take j).length % 64)) (fun⟨j,tl2⟩=>p.length - j) ?_ ?_
  ·exact cN ((0,tl)) (⟨Nat.zero_le _,by rw [vp];exact htl⟩) [(3,some 3),(4,some 4)] hI rfl rfl ⟨⟨_,rfl,.fn (.cons (.p rfl) .nil) .nil⟩,⟨_,rfl,.p rfl⟩,⟨_,rfl,.of (by rw [vp]) (.pure pu)⟩,⟨_,rfl,.pure pu⟩,⟨_,rfl,.pure pu⟩,⟨_,rfl,.pure pu⟩,⟨_,rfl,.pure pu⟩,⟨_,rfl,.pure pu⟩,trivial⟩ ⟨.inr ⟨_,_,rfl,rfl,.of (by rw [vp]) (.pure bL)⟩,.inr ⟨_,_,rfl,rfl,.of (by rw [vp]) (.pure bL)⟩,trivial⟩
  rintro⟨j,tl2⟩ ⟨hj,htl2⟩
  dsimp only
  have hSL:(s++p.take j).length=s.length+min j p.length:=by rw [List.length_append,List.length_take]
  have hmod1:=Nat.mod_lt (s++p.take j).length (show 0<64 by decide)
  refine aa [3,445,24,447] ?_
  refine b7 rfl (fun hc24=>?_) (fun hc24=>?_)
  ·have hj2 : j < p.length := by have := of_decide_eq_true hc24; omega
   have hc1:wm p (s++p.take j) j≤p.length - j:=Nat.min_le_left _ _
   have hc2:wm p (s++p.take j) j≤64 - ((s++p.take j).length % 64):=Nat.min_le_right _ _
   have hc0:0<wm p (s++p.take j) j:=Nat.lt_min.2 ⟨by omega,by omega⟩
   obtain⟨c,hcd⟩:∃c,c=wm p (s++p.take j) j:=⟨_,rfl⟩
   rw [←hcd]at hc0 hc1 hc2
   refine aa [461,13,445] ?_
   refine s1 (sP (o':=((s++p.take j).length % 64)) (64 - ((s++p.take j).length % 64)) Tryz.underlying207 cc rfl rfl aA aJ (bs rfl rfl) bn ar ar rfl (by rw [if_neg ar];omega)) rfl <| s1 (bF rfl) rfl <| bK rfl (O8 (c) Tryz.underlying47 cc rfl rfl rfl rfl au hcd hc0 aA (KD _ _ _ _ _) rfl ?_)
   refine s1 (bF rfl) rfl <| bI <| bG <| bH <| eG ⟨_, [5], [(0, [5])]⟩ 7 4 c8 (le_refl rfl) ?_
   refine aa [31,16] ?_
   refine bQ 2 [0,1] [] (cl _ _ rfl rfl rfl rfl ar) rfl rfl ?_
   refine aa [66,88] ?_
   refine bQ 5 [3,4] [] ((mU (p.length - (j+c)) Tryz.underlying47 cc rfl aB (bs rfl rfl) bn ar ar ar rfl).v (congrArg (A.fz _) (LF p j c))) rfl rfl <| bQ 6 [2] [] (bF rfl) rfl rfl ?_
   refine aa [4,447,479] ?_
   refine b7 rfl (fun hc36=>?_) (fun hc36=>?_)
   ·obtain ⟨r1, r2, r3⟩ := Pb (s := s) hc1 htl2 (by have := of_decide_eq_true hc36; omega)
    refine aa [445,106] ?_
    refine bK rfl (pj ⟨[(3,some ((hs (s++p.take j)).l.map b9))]⟩ [(3,(comp (hs (s++p.take j)) (rem (s++p.take j)++(p.drop j).take c++tl2.drop c)).l.map b9)] true rfl rfl ⟨⟨rfl,cv.pure bL⟩,trivial⟩ (.cons (.kp rfl) (.cons (.sl rfl rfl rfl (c5 aA rfl) (cv.pure bL) bL) .nil)) (vh _ (rem (s++p.take j)++(p.drop j).take c++tl2.drop c) aA) trivial (.inr trivial) (nQ (c0:=(hs (s++p.take j)).l.map b9) rfl bL fT) rfl ?_)
    refine aa [460,1,39,503] ?_
    exact cz (x:=(j,tl2)) ((j+c,rem (s++p.take j)++(p.drop j).take c++tl2.drop c)) (⟨by dsimp only;omega,by dsimp only;rw [r3];simp only [List.length_append,fX,List.length_take,List.length_drop];omega⟩) (by dsimp only;omega) [(3,some 3),(4,some 4)] hI rfl rfl ⟨⟨_,rfl,.fn (.cons (.p rfl) .nil) .nil⟩,⟨_,rfl,.p rfl⟩,⟨_,rfl,.of (congrArg (fun k:Nat=>A.i .i64 (k:Int)) r3.symm) (.pure pu)⟩,⟨_,rfl,.pure pu⟩,⟨_,rfl,.pure pu⟩,⟨_,rfl,.pure pu⟩,⟨_,rfl,.pure pu⟩,⟨_,rfl,.pure pu⟩,trivial⟩ ⟨.inr ⟨_,_,rfl,rfl,.of (by rw [r2]) (.pure bL)⟩,.inr ⟨_,_,rfl,rfl,.of (by rw [r1,List.nil_append]) (.pure bL)⟩,trivial⟩
   ·obtain ⟨r1, r2, r3⟩ := Pc (s := s) hc1 (by have := of_decide_eq_false hc36; omega)
    refine bY <| cr ?_
    exact cz (x:=(j,tl2)) ((j+c,tl2.drop c)) (⟨by dsimp only;omega,by dsimp only;rw [r3,List.length_drop];omega⟩) (by dsimp only;omega) [(3,some 3),(4,some 4)] hI rfl rfl ⟨⟨_,rfl,.fn (.cons (.p rfl) .nil) .nil⟩,⟨_,rfl,.p rfl⟩,⟨_,rfl,.of (congrArg (fun k:Nat=>A.i .i64 (k:Int)) r3.symm) (.pure pu)⟩,⟨_,rfl,.pure pu⟩,⟨_,rfl,.pure pu⟩,⟨_,rfl,.pure pu⟩,⟨_,rfl,.pure pu⟩,⟨_,rfl,.pure pu⟩,trivial⟩ ⟨.inr ⟨_,_,rfl,rfl,.of (by rw [r2]) (.pure bL)⟩,.inr ⟨_,_,rfl,rfl,.of (by rw [r1]) (.pure bL)⟩,trivial⟩
  ·have hj2 : j = p.length := by have := of_decide_eq_false hc24; omega
   subst hj2
   refine aa [536] ?_
   exact cz (x:=(s,tl,i)) ((s++p.take p.length,tl2,i+1)) (⟨by rw [hs0];exact KM hp,by dsimp only;omega,htl2⟩) (by dsimp only;omega) [(3,some 3),(4,some 4)] hI rfl rfl ⟨⟨_,rfl,.fn (.cons (.p rfl) .nil) .nil⟩,⟨_,rfl,.p rfl⟩,⟨_,rfl,.pure pu⟩,⟨_,rfl,.of (Jm s p) (.pure pu)⟩,⟨_,rfl,.pure pu⟩,⟨_,rfl,.pure pu⟩,⟨_,rfl,.pure pu⟩,trivial⟩ ⟨.inr ⟨_,_,rfl,rfl,.pure bL⟩,.inr ⟨_,_,rfl,rfl,.pure bL⟩,trivial⟩
 ·have hi2 : i = parts.length := by have := of_decide_eq_false hc14; omega
  subst hi2
  rw [List.take_length]at hs0
  have hsl:s.length≤140737488300000:=by rw [hs0];exact ht
  refine aa [509] ?_
  refine s1 (cX (s.length % 64) Tryz.underlying207 cc rfl rfl rfl ar rfl) rfl <| bK rfl (cV cc rfl rfl rfl rfl aA (RG s tl htl) ?_)
  refine aa [486,100] ?_
  refine s1 (sP (64 - ((s.length % 64)+1)) Tryz.underlying207 cc rfl rfl aA aJ (bs rfl rfl) bn ar ar rfl rfl) rfl <| bK rfl (GC Tryz.underlying47 cc rfl rfl rfl (by simp only [List.length_map,List.length_append,List.length_cons,List.length_nil,List.length_replicate,List.length_drop,List.length_take,fX,gO,gw];split<;>omega) (ML s tl htl _ rfl) rfl ?_)
  refine aa [456,445,100,447] ?_
  refine b7 rfl (fun hc48=>?_) (fun hc48=>?_)
  ·have hfar : s.length % 64 + 1 > 56 := by have := of_decide_eq_true hc48; omega
   refine aa [445,106] ?_
   refine bK rfl (pj ⟨[(3,some ((hs s).l.map b9))]⟩ [(3,(comp (hs s) (rem s++ [128]++List.replicate (63 - s.length % 64) 0)).l.map b9)] true rfl rfl ⟨⟨rfl,cv.pure bL⟩,trivial⟩ (.cons (.kp rfl) (.cons (.sl rfl rfl rfl (c5 aA rfl) (cv.pure bL) bL) .nil)) (vh _ (rem s++ [128]++List.replicate (63 - s.length % 64) 0) aA) trivial (.inr trivial) (nQ (c0:=(hs s).l.map b9) rfl bL fT) rfl ?_)
   refine aa [460,1,106] ?_
   refine bK rfl (GC Tryz.underlying47 cc rfl rfl rfl aA (Lb aA) rfl ?_)
   refine bI <| bG <| bH <| bH <| ep 4 rfl (N6 hfar) <| ep 3 rfl (cs':=(ki s).l.map b9) (by rw [ki,if_pos hfar]) ?_
   refine aa [1,459] ?_
   refine cO (ι:=Nat) (fun i=> [(0,.fn (.func 104) [.p 3 0] []),(4,.p 4 0),(6,cM (cP s.length)),(53,.i .i64 (i:Nat))]) (fun i=>⟨[(3,some ((ki s).l.map b9)),(4,some ((iZ s++List.replicate (8 - i) 0++(gC (8*s.length)).drop (8 - i)).map u8))]⟩) (fun i=>i≤8) (fun i=>8 - i) ?_ ?_
   ·exact cN (0) (Nat.zero_le _) [(3,some 3),(4,some 4)] hI rfl rfl ⟨⟨_,rfl,.fn (.cons (.p rfl) .nil) .nil⟩,⟨_,rfl,.p rfl⟩,⟨_,rfl,.pure pu⟩,⟨_,rfl,.pure pu⟩,trivial⟩ ⟨.inr ⟨_,_,rfl,rfl,.pure bL⟩,.inr ⟨_,_,rfl,rfl,.pure bL⟩,trivial⟩
   rintro i hi
   refine aa [448] ?_
   refine b7 rfl (fun hc54=>?_) (fun hc54=>?_)
   ·have hi8 : i < 8 := by have := of_decide_eq_true hc54; omega
    refine aa [477,450,283,0,284,0,205] ?_
    refine s1 (mS _ (8*i) rfl rfl rfl ar) rfl ?_
    refine aa [285,286,287,472] ?_
    exact cz (i+1) ar ar [(3,some 3),(4,some 4)] hI rfl rfl ⟨⟨_,rfl,.fn (.cons (.p rfl) .nil) .nil⟩,⟨_,rfl,.p rfl⟩,⟨_,rfl,.pure pu⟩,⟨_,rfl,.pure pu⟩,trivial⟩ ⟨.inr ⟨_,_,rfl,rfl,.pure bL⟩,.inr ⟨_,_,rfl,rfl,.pure bL⟩,trivial⟩
   ·have hi8 : i = 8 := by have := of_decide_eq_false hc54; omega
    subst hi8
    refine aa [484,450,106,288,8,289] ?_
    exact congrArg (fun q:S8=>some (q.l.map b9)) ((EW s).trans (by rw [hs0]))
  ·have hfar : ¬ s.length % 64 + 1 > 56 := by have := of_decide_eq_false hc48; omega
   refine bY <| bG <| bH <| bH <| ep 4 rfl (N7 hfar) <| ep 3 rfl (cs':=(ki s).l.map b9) (by rw [ki,if_neg hfar]) ?_
   refine aa [1,459] ?_
   refine cO (ι:=Nat) (fun i=> [(0,.fn (.func 104) [.p 3 0] []),(4,.p 4 0),(6,cM (cP s.length)),(53,.i .i64 (i:Nat))]) (fun i=>⟨[(3,some ((ki s).l.map b9)),(4,some ((iZ s++List.replicate (8 - i) 0++(gC (8*s.length)).drop (8 - i)).map u8))]⟩) (fun i=>i≤8) (fun i=>8 - i) ?_ ?_
   ·exact cN (0) (Nat.zero_le _) [(3,some 3),(4,some 4)] hI rfl rfl ⟨⟨_,rfl,.fn (.cons (.p rfl) .nil) .nil⟩,⟨_,rfl,.p rfl⟩,⟨_,rfl,.pure pu⟩,⟨_,rfl,.pure pu⟩,trivial⟩ ⟨.inr ⟨_,_,rfl,rfl,.pure bL⟩,.inr ⟨_,_,rfl,rfl,.pure bL⟩,trivial⟩
   rintro i hi
   refine aa [448] ?_
   refine b7 rfl (fun hc54=>?_) (fun hc54=>?_)
   ·have hi8 : i < 8 := by have := of_decide_eq_true hc54; omega
    refine aa [477,450,283,0,284,0,205] ?_
    refine s1 (mS _ (8*i) rfl rfl rfl ar) rfl ?_
    refine aa [285,286,287,472] ?_
    exact cz (i+1) ar ar [(3,some 3),(4,some 4)] hI rfl rfl ⟨⟨_,rfl,.fn (.cons (.p rfl) .nil) .nil⟩,⟨_,rfl,.p rfl⟩,⟨_,rfl,.pure pu⟩,⟨_,rfl,.pure pu⟩,trivial⟩ ⟨.inr ⟨_,_,rfl,rfl,.pure bL⟩,.inr ⟨_,_,rfl,rfl,.pure bL⟩,trivial⟩
   ·have hi8 : i = 8 := by have := of_decide_eq_false hc54; omega
    subst hi8
    refine aa [484,450,106,288,8,289] ?_
    exact congrArg (fun q:S8=>some (q.l.map b9)) ((EW s).trans (by rw [hs0]))
-- D2G
theorem Fy (parts:List (List UInt8)) (hk:parts.length≤1048576) (ht:parts.flatten.length≤140737488300000):bO Tryz.prog 54 [.fz parts.length (parts.map fw)] (cn (.ag ((nE parts.flatten).map u8))):=by
 refine enter Tryz.func54 rfl Tryz.ntmps54 aw (Nat.le_of_ble_eq_true rfl) fun w0 X0 hI=>?_
 refine aa [444,68,454] ?_
 refine s1 ((uQ (vs:= [_,_,_,_,_,_,_,_]) pK rfl Tryz.underlying176 cI rfl rfl rfl rfl).v (v':= .ag (h0.l.map b9)) aw) rfl <| bK rfl (cB 3 rfl pK rfl rfl ?_)
 refine bK rfl (cu pK rfl rfl rfl au au ?_)
 refine bI <| bG <| bH <| bJ <| s1 (iz (us:= [.p 3 0]) (vs:= []) rfl rfl) rfl <| s1 (bF rfl) rfl <| bK rfl (oz ⟨[(3,some (h0.l.map b9))]⟩ [(3,(fin parts.flatten).l.map b9)] false rfl ⟨⟨rfl,cv.pure bL⟩,trivial⟩ (.cons (.fn (.cons (.kp rfl) .nil) .nil) (.cons (.pure pu) .nil)) (Kz parts hk ht) trivial (.inl rfl) (nQ (c0:=h0.l.map b9) rfl bL fT) rfl ?_)
 refine aa [456,475] ?_
 refine cO (ι:=Nat) (fun i=> [(2,.p 2 0),(3,.p 3 0),(9,.i .i64 (i:Nat))]) (fun i=>⟨[(2,some ((l6 (fin parts.flatten) i).map u8++List.replicate (32 - i) (u8 0))),(3,some ((fin parts.flatten).l.map b9))]⟩) (fun i=>i≤32) (fun i=>32 - i) ?_ ?_
 ·exact cN (0) (Nat.zero_le _) [(2,some 2),(3,some 3)] hI rfl rfl ⟨⟨_,rfl,.p rfl⟩,⟨_,rfl,.p rfl⟩,⟨_,rfl,.pure pu⟩,trivial⟩ ⟨.inr ⟨_,_,rfl,rfl,.pure bL⟩,.inr ⟨_,_,rfl,rfl,.pure bL⟩,trivial⟩
 rintro i hi
 refine aa [448] ?_
 refine b7 rfl (fun hc10=>?_) (fun hc10=>?_)
 ·have hi2 : i < 32 := by have := of_decide_eq_true hc10; omega
  refine aa [477,451,275] ?_
  refine s1 (cX (i / 4) Tryz.underlying176 cI rfl rfl rfl ar rfl) rfl ?_
  refine aa [276,0] ?_
  refine s1 (iQ i 4 rfl rfl rfl rfl az) rfl ?_
  refine aa [277,278,279,87,280,281,472] ?_
  exact cz (i+1) ar ar [(2,some 2),(3,some 3)] hI rfl rfl ⟨⟨_,rfl,.p rfl⟩,⟨_,rfl,.p rfl⟩,⟨_,rfl,.pure pu⟩,trivial⟩ ⟨.inr ⟨_,_,rfl,rfl,.pure bL⟩,.inr ⟨_,_,rfl,rfl,.pure bL⟩,trivial⟩
 ·have hi2 : i = 32 := by have := of_decide_eq_false hc10; omega
  subst hi2
  refine aa [463] ?_
  refine ep 2 rfl (cs':=(nE parts.flatten).map u8) (by simp [nE,fin]) ?_
  refine aa [1,282,30,457] ?_
  refine bW (rs:= [.cell 2 23]) rfl (c9 b5 rfl rfl (List.take_of_length_le aB) aB bR) rfl
theorem kB (t b:List UInt8) (hb:b.length≤140737488000000) (hl:t.length≤140737488000000):bO Tryz.prog 25 [.s t,.fz b.length (b.map u8)] (cn (.ag ((tagged t b).map u8))):=by
 refine enter Tryz.func25 rfl Tryz.ntmps25 aw (Nat.le_of_ble_eq_true rfl) fun w0 X0 hI=>?_
 refine aa [444,29,486,290] ?_
 refine bK rfl (dz 8 rfl Tryz.underlying26 cL rfl rfl rfl rfl rfl ?_)
 refine bK rfl (bX true rfl (.cons (.sl rfl rfl au (c5 au aM) (cv.pure bL) bL) (.nil)) (by simpa using Fy [t] aB aE) pu (.inr fu) rfl ?_)
 refine aa [89,30,454,291,0] ?_
 refine bK rfl (dz 12 rfl Tryz.underlying26 cL rfl rfl rfl rfl rfl ?_)
 refine bK rfl (bX true rfl (.cons (.sl rfl rfl rfl rfl (.cons (.sl rfl rfl rfl (c5 aB rfl) (cv.pure bL) bL) (.cons (.pure pu) .nil)) bL) .nil) (by simpa [fw]using Fy [nE t,b] aB aE) pu (.inr fu) rfl ?_)
 refine aa [30,457] ?_
 refine bW (rs:= [.cell 4 23]) rfl (c9 b5 rfl rfl (List.take_of_length_le aB) aB bR) rfl
theorem Rc (t b:List UInt8) (hb:b.length≤140737488000000) (hl:t.length≤140737488000000):bO Tryz.prog 66 [.s t,.fz b.length (b.map u8)] (cn (.ag ((tagged t b).map u8))):=by
 refine enter Tryz.func66 rfl Tryz.ntmps66 aw (Nat.le_of_ble_eq_true rfl) fun w0 X0 hI=>?_
 refine aa [444,29,486,290] ?_
 refine bK rfl (bX false rfl (.cons (.pure pu) (.nil)) (Hx t ar) pu (.inl rfl) rfl ?_)
 refine aa [89,30,454,273,291] ?_
 refine bK rfl (dB 11 rfl Tryz.underlying47 cc rfl (.sl rfl au) rfl (dE rfl au) au av av rfl rfl rfl ?_)
 refine s1 (bF rfl) rfl <| bK rfl (dB 13 rfl Tryz.underlying47 cc rfl (.sl rfl au) rfl rfl au av av rfl rfl rfl ?_)
 refine bK rfl (bX true rfl (.cons (.sl rfl rfl au (c5 au aM) (cv.pure bL) bL) (.nil)) (by simpa [tagged]using Hx (nE t++b) aE) pu (.inr fu) rfl ?_)
 refine aa [30,457] ?_
 refine bW (rs:= [.cell 4 23]) rfl (c9 b5 rfl rfl (List.take_of_length_le aB) aB bR) rfl
-- F3B
theorem MS (ps:List Part) (hk:ps.length≤1000) (hok:∀p∈ps,p.ok):bO Tryz.prog 156 [.fz ps.length (ps.map (Part.a 23 5 174))] (eY 1 (kF ps).length ((kF ps).map u8)):=by
 refine enter Tryz.func156 rfl Tryz.ntmps156 aw (Nat.le_of_ble_eq_true rfl) fun w0 X0 hI=>?_
 refine aa [539] ?_
 refine s1 (cf Tryz.underlying232 rfl rfl rfl) rfl ?_
 refine aa [459] ?_
 refine cO (ι:=Nat) (fun i=> [(2,.sl 2 1 0 (kF (ps.take i)).length),(8,.fz ps.length (ps.map (Part.a 23 5 174))),(9,.i .i64 (ps.length:Nat)),(10,.i .i64 (i:Nat))]) (fun i=>⟨[(2,some ((kF (ps.take i)).map u8))]⟩) (fun i=>i≤ps.length) (fun i=>ps.length - i) ?_ ?_
 ·exact cN (0) (Nat.zero_le _) [(2,none)] hI rfl rfl ⟨⟨_,rfl,.nl rfl⟩,⟨_,rfl,.pure pu⟩,⟨_,rfl,.pure pu⟩,⟨_,rfl,.pure pu⟩,trivial⟩ ⟨.inl ⟨rfl,rfl⟩,trivial⟩
 rintro i hi
 have hbl:=FZ (ps:=ps.take i) fun q hq=>hok q (List.mem_of_mem_take hq)
 rw [List.length_take]at hbl
 refine aa [448] ?_
 refine b7 rfl (fun hc11=>?_) (fun hc11=>?_)
 ·have h11 : i < ps.length := by have := of_decide_eq_true hc11; omega
  obtain⟨p,hp⟩:∃p,ps[i]? =some p:=⟨_,List.getElem?_eq_getElem h11⟩
  have hpok:=hok p (List.mem_of_getElem? hp)
  refine aa [462] ?_
  refine s1 (cD i Tryz.underlying232 BZ rfl rfl rfl ar rfl) rfl <| s1 (bM BZ rfl rfl (Ng hp)) rfl ?_
  refine aa [452] ?_
  rcases p with hcs|hcs|hcs
  ·have hl32 : hcs.length = 32 := hpok
   have hnl:=congrArg List.length (vD hp)
   simp only [List.length_append,Part.bs,kf,List.length_cons,List.length_nil]at hnl
   refine aa [1,510,444] ?_
   refine s1 (yz Tryz.underlying23 rfl rfl) rfl ?_
   refine aa [0,515,89] ?_
   refine bK rfl (cu b5 rfl rfl rfl (by simp [hl32]) aB ?_)
   refine aa [460,450,206] ?_
   refine bK rfl (dB 20 rfl Tryz.underlying47 cc rfl (.sl rfl aV) rfl (dE rfl aq) (by simp [hl32]) aC ar rfl rfl rfl ?_)
   refine aa [476,50,550] ?_
   exact cz (i+1) ar ar [(2,some 20)] hI rfl rfl ⟨⟨_,rfl,.sl rfl aq⟩,⟨_,rfl,.pure pu⟩,⟨_,rfl,.pure pu⟩,⟨_,rfl,.pure pu⟩,trivial⟩ ⟨.inr ⟨_,_,rfl,rfl,.of (zw hp rfl) (.pure bL)⟩,trivial⟩
  ·have hnl := congrArg List.length (vD hp)
   simp only [List.length_append,Part.bs,kf,List.length_cons,List.length_nil]at hnl
   refine aa [1,510,444,292,0,468,444] ?_
   refine s1 (yz Tryz.underlying5 rfl rfl) rfl ?_
   refine aa [0,515,534] ?_
   refine bK rfl (dz 26 rfl Tryz.underlying47 cc rfl rfl rfl rfl rfl ?_)
   refine bK rfl (dB 27 rfl Tryz.underlying47 cc rfl (.sl rfl aV) rfl (dE rfl aq) aq aC ar rfl rfl rfl ?_)
   refine aa [476,50,550] ?_
   exact cz (i+1) ar ar [(2,some 27)] hI rfl rfl ⟨⟨_,rfl,.sl rfl aq⟩,⟨_,rfl,.pure pu⟩,⟨_,rfl,.pure pu⟩,⟨_,rfl,.pure pu⟩,trivial⟩ ⟨.inr ⟨_,_,rfl,rfl,.of (zw hp rfl) (.pure bL)⟩,trivial⟩
  ·have hnl := congrArg List.length (vD hp)
   simp only [List.length_append,Part.bs,kf,List.length_cons,List.length_nil]at hnl
   refine aa [1,510,444,292,0,468,444] ?_
   refine s1 (Ck (z:= .int .u8 0) Tryz.underlying5 rfl aw rfl rfl) rfl ?_
   refine aa [0,468,444] ?_
   refine s1 (yz Tryz.underlying174 rfl rfl) rfl ?_
   refine aa [0,515,534] ?_
   refine s1 (iS _ 24 rfl rfl rfl az) rfl ?_
   refine aa [87,0] ?_
   refine s1 (iS _ 16 rfl rfl rfl az) rfl ?_
   refine aa [87,0] ?_
   refine s1 (iS _ 8 rfl rfl rfl az) rfl ?_
   refine aa [87,0,87] ?_
   refine bK rfl (dz 43 rfl Tryz.underlying47 cc rfl rfl rfl rfl rfl ?_)
   refine bK rfl (dB 44 rfl Tryz.underlying47 cc rfl (.sl rfl aV) rfl (dE rfl aq) aq aC ar rfl rfl rfl ?_)
   refine aa [476,50,550] ?_
   exact cz (i+1) ar ar [(2,some 44)] hI rfl rfl ⟨⟨_,rfl,.sl rfl aq⟩,⟨_,rfl,.pure pu⟩,⟨_,rfl,.pure pu⟩,⟨_,rfl,.pure pu⟩,trivial⟩ ⟨.inr ⟨_,_,rfl,rfl,.of (zw hp rfl) (.pure bL)⟩,trivial⟩
 ·have h11 : i = ps.length := by have := of_decide_eq_false hc11; omega
  subst h11
  refine aa [509,449] ?_
  refine bW (rs:= [.tmp 2]) rfl (bT rfl bR) ⟨2,?_,?_⟩
  ·rw [List.take_length];rfl
  ·rw [List.take_length];rfl
theorem Kt (x:List UInt8) (lv nb id:Int) (D:List UInt8):bO Tryz.prog 140 [.ag (x.map u8),.ag [.i .i64 lv,.i .i64 nb,fw D],.i .i64 id] (cn (.fn (.func 155) [] [.fp (x.map u8),.fp [.i .i64 lv,.i .i64 nb,fw D],.fp [.i .i64 id]])):=by
 refine enter Tryz.func140 rfl Tryz.ntmps140 aw (Nat.le_of_ble_eq_true rfl) fun w0 X0 hI=>?_
 refine aa [522,43,207,452,41] ?_
 refine fS 4 rfl rfl bL <| fS 5 rfl rfl bL <| bJ <| s1 (iz (us:= []) (vs:= [.fp (x.map u8),.fp [.i .i64 lv,.i .i64 nb,fw D],.fp [.i .i64 id]]) rfl rfl) rfl ?_
 refine aa [449] ?_
 refine bW (rs:= [.tmp 6]) rfl (bT rfl bR) rfl
-- F3C
theorem MR (x:List UInt8) (lv id:Nat) (hx:x.length=32):bO Tryz.prog 156 [.fz 3 [.ic 23 (.ag (x.map u8)),.ic 5 (u8 (UInt8.ofNat lv)),.ic 174 (b9 (BitVec.ofNat 32 id))]] (eY 1 37 ((x++UInt8.ofNat lv::kf (BitVec.ofNat 32 id)).map u8)):=by
  have:=MS [.d x,.b (UInt8.ofNat lv),.w (BitVec.ofNat 32 id)] aB (by simp [Part.ok,hx])
  have e:kF [.d x,.b (UInt8.ofNat lv),.w (BitVec.ofNat 32 id)]=(x++UInt8.ofNat lv::kf (BitVec.ofNat 32 id)):=by simp [kF,Part.bs]
  rw [e]at this
  have e2:(x++UInt8.ofNat lv::kf (BitVec.ofNat 32 id)).length=37:=by simp [kf,hx]
  rw [e2]at this
  exact this
theorem SH (x:List UInt8) (lv id:Nat) (hx:x.length=32):bO Tryz.prog 25 [.s [102,105,108,116,101,114],.fz 37 ((x++UInt8.ofNat lv::kf (BitVec.ofNat 32 id)).map u8)] (cn (.ag ((kI x lv id).map u8))):=by
  have e2:(x++UInt8.ofNat lv::kf (BitVec.ofNat 32 id)).length=37:=by simp [kf,hx]
  rw [EM, ←e2];exact kB _ _ ar aB
theorem JM (x:List UInt8) (lv nb id:Nat) (D:List UInt8) (hx:x.length=32) (hnb:0<nb):bO Tryz.prog 70 [.nl,.fn (.func 155) [] [.fp (x.map u8),.fp [nJ lv,nJ nb,fw D],.fp [nJ id]]] (eY 1 2 ((jj x lv nb id 2).map nJ)):=by
 refine qm Tryz.func70 rfl Tryz.ntmps70 aw (Nat.le_of_ble_eq_true rfl) fun w0 X0 hI hS=>?_
 refine aa [444,83,508,510] ?_
 refine tg [2] [(0,_),(1,_),(2,_),(4,_),(6,_)] hI rfl ⟨rfl,⟨rfl,⟨rfl,⟨rfl,⟨rfl,trivial⟩⟩⟩⟩⟩ aD rfl Tryz.func155 rfl Tryz.ntmps155 aw (Nat.le_of_ble_eq_true rfl) fun w1 l1 D1 rc1 hR1=>?_
 refine aa [444,107,128,208,2] ?_
 refine s1 (GY lv Tryz.underlying3 Tryz.underlying5 rfl rfl) rfl ?_
 refine aa [128,2] ?_
 refine s1 (Pq _ Tryz.underlying3 Tryz.underlying174 rfl rfl) rfl ?_
 refine aa [128] ?_
 refine bK rfl (dz 1019 rfl Tryz.underlying232 BZ rfl rfl rfl rfl rfl ?_)
 refine bK rfl (kN 1020 rfl true rfl (.cons (.sl rfl rfl aq (c5 aq aM) (cv.pure bL) bL) (.nil)) (MR x lv id hx) bL (.inr fT) rfl ?_)
 refine bK rfl (bX true rfl (.cons (.pure pu) (.cons (.sl rfl rfl aq (c5 aq aM) (cv.pure bL) bL) (.nil))) (SH x lv id hx) pu (.inr fu) rfl ?_)
 refine bK rfl (cB 1005 rfl b5 rfl rfl ?_)
 refine aa [9,454,459] ?_
 refine cO (ι:=Nat) (fun i=> [(0,yv l1),(1,.fp (x.map u8)),(2,.fp [nJ lv,nJ nb,fw D]),(3,.fp [nJ id]),(5,.p 1005 0),(22,nJ i)]) (fun i=>⟨[(2,some ([.sl 11 1 0 i])),(11,some (((jj x lv nb id i).map nJ))),(1005,some ((kI x lv id).map u8))]⟩) (fun i=>i≤2) (fun i=>2 - i) ?_ ?_
 ·exact cN (0) (Nat.zero_le _) [(2,some 2),(11,none),(1005,some 1005)] hR1.sub.ids rfl rfl ⟨⟨_,rfl,.pure trivial⟩,⟨_,rfl,.pure pu⟩,⟨_,rfl,.pure pu⟩,⟨_,rfl,.pure pu⟩,⟨_,rfl,.p rfl⟩,⟨_,rfl,.pure pu⟩,trivial⟩ ⟨.inr ⟨_,_,rfl,rfl,.cons (.nl rfl) .nil⟩,.inl ⟨rfl,rfl⟩,.inr ⟨_,_,rfl,rfl,.pure bL⟩,trivial⟩
 rintro i hi
 refine aa [448] ?_
 refine b7 rfl (fun hc23=>?_) (fun hc23=>?_)
 ·have h23 : i < 2 := by have := of_decide_eq_true hc23; omega
  refine aa [477,444,470,445,104,0,104] ?_
  refine s1 (cl _ 4 rfl rfl rfl rfl ar) rfl <| s1 (sP (o':=0+4*i*1) 4 Tryz.underlying23 cc rfl rfl aB aJ (bs rfl rfl) (bs rfl rfl) ar ar ar (by rw [if_neg ar])) rfl ?_
  refine aa [24,459] ?_
  refine cO (ι:=Nat) (fun k=> [(0,yv l1),(1,.fp (x.map u8)),(2,.fp [nJ lv,nJ nb,fw D]),(3,.fp [nJ id]),(5,.p 1005 0),(6,nJ i),(7,nJ (mL (kI x lv id) (4*i) k)),(22,nJ i),(30,.sl 1005 1 (0+4*i*1) 4),(31,nJ 4),(32,nJ k)]) (fun k=>⟨[(2,some ([.sl 11 1 0 i])),(11,some (((jj x lv nb id i).map nJ))),(1005,some ((kI x lv id).map u8))]⟩) (fun k=>k≤4) (fun k=>4 - k) ?_ ?_
  ·exact cN (0) (Nat.zero_le _) [(2,some 2),(11,some 11),(1005,some 1005)] hR1.sub.ids rfl rfl ⟨⟨_,rfl,.pure trivial⟩,⟨_,rfl,.pure pu⟩,⟨_,rfl,.pure pu⟩,⟨_,rfl,.pure pu⟩,⟨_,rfl,.p rfl⟩,⟨_,rfl,.pure pu⟩,⟨_,rfl,.of aZ (.pure pu)⟩,⟨_,rfl,.pure pu⟩,⟨_,rfl,.sl rfl aq⟩,⟨_,rfl,.pure pu⟩,⟨_,rfl,.pure pu⟩,trivial⟩ ⟨.inr ⟨_,_,rfl,rfl,.cons (.sl rfl rfl) .nil⟩,.inr ⟨_,_,rfl,rfl,.pure bL⟩,.inr ⟨_,_,rfl,rfl,.pure bL⟩,trivial⟩
  rintro k hk
  have hnl:=GO (kI x lv id) (4*i) k
  have h4:256 ^ k≤256 ^ 4:=Nat.pow_le_pow_right ar hk
  refine aa [448] ?_
  refine b7 rfl (fun hc33=>?_) (fun hc33=>?_)
  ·have h33 : k < 4 := by have := of_decide_eq_true hc33; omega
   have h3:mL (kI x lv id) (4*i) k<16777216:=Nat.lt_of_lt_of_le hnl (Nat.pow_le_pow_right ar (show k≤3 by omega))
   refine aa [462] ?_
   refine s1 (ij k Tryz.underlying47 cc rfl rfl rfl rfl ar rfl) rfl <| s1 (bM cc rfl rfl (Nc k aE rfl)) rfl ?_
   refine aa [530] ?_
   refine s1 ((qU rfl rfl az).v (congrArg (A.i .i64) (RX _ h3))) rfl <| s1 (bF rfl) rfl <| s1 ((eP Tryz.underlying5 Tryz.underlying3 rfl).v (Lu _)) rfl <| s1 ((ml rfl rfl (.inr (.inl rfl))).v (congrArg (A.i .i64) (PV _ _ h3))) rfl ?_
   refine aa [488] ?_
   exact cz (k+1) ar ar [(2,some 2),(11,some 11),(1005,some 1005)] hR1.sub.ids rfl rfl ⟨⟨_,rfl,.pure trivial⟩,⟨_,rfl,.pure pu⟩,⟨_,rfl,.pure pu⟩,⟨_,rfl,.pure pu⟩,⟨_,rfl,.p rfl⟩,⟨_,rfl,.pure pu⟩,⟨_,rfl,.pure pu⟩,⟨_,rfl,.pure pu⟩,⟨_,rfl,.sl rfl aq⟩,⟨_,rfl,.pure pu⟩,⟨_,rfl,.pure pu⟩,trivial⟩ ⟨.inr ⟨_,_,rfl,rfl,.cons (.sl rfl rfl) .nil⟩,.inr ⟨_,_,rfl,rfl,.pure bL⟩,.inr ⟨_,_,rfl,rfl,.pure bL⟩,trivial⟩
  ·have h33 : k = 4 := by have := of_decide_eq_false hc33; omega
   subst h33
   refine aa [484,453,208,2] ?_
   refine s1 (iQ (mL (kI x lv id) (4*i) 4) nb rfl rfl rfl rfl hnb) rfl ?_
   refine nc [2,1005] [(0,_),(1,_),(2,_),(3,_),(5,_),(6,_),(7,_),(22,_),(30,_),(31,_),(32,_),(33,_),(42,_),(43,_),(44,_),(45,_),(46,_)] hR1 hR1.sub.ids rfl ⟨rfl,⟨rfl,⟨rfl,⟨rfl,⟨rfl,⟨rfl,⟨rfl,⟨rfl,⟨rfl,⟨rfl,⟨rfl,⟨rfl,⟨rfl,⟨rfl,⟨rfl,⟨rfl,⟨rfl,trivial⟩⟩⟩⟩⟩⟩⟩⟩⟩⟩⟩⟩⟩⟩⟩⟩⟩ aD rfl rfl rfl rfl rfl fun w2 tm2 hd2=>?_
   refine aa [1,476] ?_
   refine m9 hd2 fun w3 hd3=>?_
   refine aa [540,36,0,71] ?_
   refine bK rfl (dB 111 rfl Tryz.underlying24 bP rfl (.sl rfl aB) rfl (dE rfl aq) aq av av rfl rfl rfl ?_)
   refine aa [72,503,90,468,474] ?_
   exact cz (i+1) ar ar [(2,some 2),(11,some 111),(1005,some 1005)] hR1.sub.ids rfl rfl ⟨⟨_,rfl,.pure trivial⟩,⟨_,rfl,.pure pu⟩,⟨_,rfl,.pure pu⟩,⟨_,rfl,.pure pu⟩,⟨_,rfl,.p rfl⟩,⟨_,rfl,.pure pu⟩,trivial⟩ ⟨.inr ⟨_,_,rfl,rfl,.cons (.sl rfl aq) .nil⟩,.inr ⟨_,_,rfl,rfl,.of (by rw [Kk];simp) (.pure bL)⟩,.inr ⟨_,_,rfl,rfl,.pure bL⟩,trivial⟩
 ·have h23 : i = 2 := by have := of_decide_eq_false hc23; omega
  subst h23
  refine aa [527,108,545,444,36,449] ?_
  refine qb (rs:= [.tmp 4]) rfl rfl rfl hS (dn:= [D1]) rfl rfl aB rfl (bT rfl bR) ⟨11,rfl,rfl⟩
theorem Lr (x:List UInt8) (lv nb id:Nat) (D:List UInt8) (hx:x.length=32) (hnb:0<nb):bO Tryz.prog 83 [.fn (.func 155) [] [.fp (x.map u8),.fp [nJ lv,nJ nb,fw D],.fp [nJ id]]] (cn (.fz 2 ((jj x lv nb id 2).map nJ))):=by
 refine enter Tryz.func83 rfl Tryz.ntmps83 aw (Nat.le_of_ble_eq_true rfl) fun w0 X0 hI=>?_
 refine aa [524] ?_
 refine bK rfl (kN 4 rfl false rfl (.cons (.pure pu) (.cons (.pure pu) .nil)) (JM x lv nb id D hx hnb) bL (.inl rfl) rfl ?_)
 refine aa [449,57] ?_
 refine bW (rs:= [.tmp 2]) rfl (bT rfl bR) rfl
theorem xW (a b:Int):bO Tryz.prog 105 [.i .i64 a,.i .i64 b] (cn (.b (decide (ia a b)))):=by
 refine enter Tryz.func105 rfl Tryz.ntmps105 aw (Nat.le_of_ble_eq_true rfl) fun w0 X0 hI=>?_
 refine aa [444,455,0,209,0] ?_
 refine gF 2 rfl rfl rfl rfl (fun hb11=> .step (bF rfl) rfl rfl<| .step (bF rfl) rfl rfl<| .done) rfl rfl <| s1 (bF rfl) rfl <| gF 2 rfl rfl rfl rfl (fun hb15=> .step (bF rfl) rfl rfl<| .step (bF rfl) rfl rfl<| .done) rfl rfl ?_
 refine aa [449,11] ?_
 exact congrArg A.b (by rw [Bool.eq_iff_iff,decide_eq_true_eq];simp [ia,and_assoc])
-- F3D
theorem EZ (lv nb:Int):bO Tryz.prog 57 [.i .i64 lv,.i .i64 nb] (cn (uh lv nb)):=by
 refine enter Tryz.func57 rfl Tryz.ntmps57 aw (Nat.le_of_ble_eq_true rfl) fun w0 X0 hI=>?_
 refine aa [444,210,498] ?_
 rcases Decidable.em (ia lv nb)with hcs|hcs
 ·obtain ⟨l, n, rfl, rfl, h1, h2, h3⟩ := BM hcs
  refine aa [451,293,468,461,489] ?_
  refine s1 (cl n 7 rfl rfl rfl rfl ar) rfl <| s1 (gz (n+7) 8 rfl rfl rfl rfl ar ar) rfl <| bK rfl (oA 16 rfl _ _ Tryz.underlying47 cc rfl rfl rfl rfl rfl av av av rfl ?_)
  refine s1 (jK (out:= [_,_,_]) [[cQ (.int .i64 0)], [cQ (.int .i64 0)], [cQ (.slice none 0 0)]] dO rfl Tryz.underlying128 aw rfl rfl ⟨⟨by(first|rfl|omega|(simp;done)|(simp [*];done)|(simp [cU, *];done)),rfl⟩,⟨⟨by(first|rfl|omega|(simp;done)|(simp [*];done)|(simp [cU, *];done)),rfl⟩,⟨⟨by(first|rfl|omega|(simp;done)|(simp [*];done)|(simp [cU, *];done)),rfl⟩,trivial⟩⟩⟩ rfl) rfl ?_
  refine aa [27,464] ?_
  refine kY 4 2 rfl rfl rfl rfl bL (c5 aB (I0 _)) rfl ?_
  refine aa [294] ?_
  show A.tu _=_
  rw [A4 hcs,lT,fw,List.length_replicate];rfl
 ·skip
  refine aa [451,295,515,32,27,109,467] ?_
  refine lL 4 rfl (.cons (.eq rfl) (.cons (.eq rfl) (.cons .nl .nil))) ?_
  refine aa [294] ?_
  show A.tu _=_
  rw [Pa hcs];rfl
theorem Am (lv nb:Int) (D:List UInt8):bO Tryz.prog 115 [.ag [.i .i64 lv,.i .i64 nb,fw D]] (cn (.i .i64 (rz (ew lv nb D)))):=by
 refine enter Tryz.func115 rfl Tryz.ntmps115 aw (Nat.le_of_ble_eq_true rfl) fun w0 X0 hI=>?_
 refine aa [496,498] ?_
 rcases Decidable.em (ia lv nb)with hcs|hcs
 ·obtain ⟨l, n, rfl, rfl, h1, h2, h3⟩ := BM hcs
  refine aa [1,73,2,73,2,293,446] ?_
  refine g1 rfl rfl (ct Tryz.underlying128 rfl cL az rfl rfl) rfl <| g1 rfl rfl (bM cL rfl rfl rfl) rfl ?_
  refine aa [296] ?_
  refine g1 rfl rfl (ct Tryz.underlying128 rfl bP az rfl rfl) rfl <| g1 rfl rfl (bM bP rfl rfl rfl) rfl <| g1 rfl rfl (cl n 7 rfl rfl rfl rfl ar) rfl <| g1 rfl rfl (gz (n+7) 8 rfl rfl rfl rfl ar ar) rfl ?_
  refine aa [7,447] ?_
  refine b7 rfl (fun hc19=>?_) (fun hc19=>?_)
  ·have hl : D.length ≠ (n + 7) / 8 := by intro h; rw [h] at hc19; simp at hc19
   refine aa [444,109,467,5] ?_
   show A.i _ _=_
   rw [DM hl];rfl
  ·have hl : D.length = (n + 7) / 8 := by simp at hc19; omega
   have hct:=DP h1 h2 h3 hl
   refine aa [465,444,73,2] ?_
   refine s1 (iQ n 8 rfl rfl rfl rfl ar) rfl ?_
   refine aa [455,0] ?_
   refine gF 11 rfl rfl rfl rfl (fun hb25=> .step (ct Tryz.underlying128 rfl cL az rfl rfl) rfl rfl<| .step (bM cL rfl rfl rfl) rfl rfl<| .step (ct Tryz.underlying128 rfl cL az rfl rfl) rfl rfl<| .step (bM cL rfl rfl rfl) rfl rfl<| .step (cf Tryz.underlying47 rfl rfl rfl) rfl rfl<| .step (fJ D.length 1 rfl rfl rfl rfl ar ar) rfl rfl<| .step (cD (D.length - 1) Tryz.underlying47 cc rfl rfl rfl ar rfl) rfl rfl<| .step (bM cc rfl rfl (wA ar)) rfl rfl<| .step (bF rfl) rfl rfl<| .step (qP (D.getD (D.length - 1) 0) (n % 8) rfl rfl rfl ar) rfl rfl<| .step ((bF rfl).v (v':= .b (!((D.getD (D.length - 1) 0).toNat / 2 ^ (n % 8)==0))) (congrArg A.b (R1 _ _))) rfl rfl<| .done) rfl rfl <| bI <| bG ?_
   refine b7 rfl (fun hc37=>?_) (fun hc37=>?_)
   ·have hf : ew l n D = false := by rw [hct]; simp at hc37 ⊢; omega
    refine aa [444,109,467,5] ?_
    show A.i _ _=_
    rw [hf];rfl
   ·have hf : ew l n D = true := by rw [hct]; simp at hc37 ⊢; omega
    refine aa [469,464,5] ?_
    show A.i _ _=_
    rw [hf];rfl
 ·skip
  refine aa [1,73,2,73,2,295,446,505,505,515,109,467,5] ?_
  show A.i _ _=_
  rw [DN hcs];rfl
theorem tP (x:List UInt8) (lv nb id:Int) (D:List UInt8) (hx:x.length=32):bO Tryz.prog 106 [.ag (x.map u8),.ag [.i .i64 lv,.i .i64 nb,fw D],.i .i64 id] (cn (tk x lv nb D id)):=by
 refine enter Tryz.func106 rfl Tryz.ntmps106 aw (Nat.le_of_ble_eq_true rfl) fun w0 X0 hI=>?_
 refine aa [522,43,0,498] ?_
 rcases tf (ew lv nb D)with hcs|hcs
 ·skip
  refine aa [1,32] ?_
  refine bK rfl (bX false rfl (.cons (.pure pu) (.nil)) (bO.cast (Am _ _ _) (congrArg (A.i .i64) (by rw [hcs];rfl:rz (ew lv nb D)=330))) pu (.inl rfl) rfl ?_)
  refine aa [458,513,453,531,21] ?_
  show A.tu _=_
  rw [vz (PE hcs)];rfl
 ·skip
  refine aa [1,32] ?_
  refine bK rfl (bX false rfl (.cons (.pure pu) (.nil)) (bO.cast (Am _ _ _) (congrArg (A.i .i64) (by rw [hcs];rfl:rz (ew lv nb D)=0))) pu (.inl rfl) rfl ?_)
  refine aa [458,497,465,489,297,460] ?_
  refine b7 rfl (fun hc19=>?_) (fun hc19=>?_)
  ·have h19 : ¬ (0 ≤ id ∧ id < 1024) := by simp at hc19; omega
   refine aa [445,109,467,21] ?_
   show A.tu _=_
   rw [vz (PF h19)];rfl
  ·have h19 : 0 ≤ id ∧ id < 1024 := by simp at hc19; omega
   have hk:=G3 hcs h19
   obtain⟨l,n,j,rfl,rfl,rfl,h1,h2,h3,h4,h5,h6⟩:=xq hk
   refine aa [469,12,32,0] ?_
   refine bK rfl (bX false rfl (.cons (.pure pu) (.cons (.pure pu) (.cons (.pure pu) (.nil)))) (Kt x _ _ _ D) pu (.inl rfl) rfl ?_)
   refine bK rfl (bX false rfl (.cons (.pure pu) (.nil)) (Lr x l n j D hx ar) pu (.inl rfl) rfl ?_)
   refine aa [532,21] ?_
   show A.tu _=_
   exact(vB hk).symm
theorem MI (x:List UInt8) (lv nb id:Int) (D:List UInt8) (hx:x.length=32):bO Tryz.prog 61 [.ag (x.map u8),.ag [.i .i64 lv,.i .i64 nb,fw D],.i .i64 id] (cn (qq x lv nb D id)):=by
 refine enter Tryz.func61 rfl Tryz.ntmps61 aw (Nat.le_of_ble_eq_true rfl) fun w0 X0 hI=>?_
 refine aa [522,43,0,470] ?_
 rcases tf (okB lv nb D id)with hcs|hcs
 ·skip
  refine aa [1,12,32,0,298,549,513,453,531,21] ?_
  show A.tu _=_
  rw [Nz hcs];rfl
 ·obtain ⟨l, n, j, rfl, rfl, rfl, h1, h2, h3, h4, h5, h6⟩ := xq hcs
  refine aa [1,12,32,0,299,525,465,445,493] ?_
  refine cO (ι:=Nat) (fun i=> [(4,.p 4 0),(21,.fz 2 ((jj x l n j 2).map nJ)),(22,nJ 2),(23,nJ i)]) (fun i=>⟨[(4,some ([nJ l,nJ n,fw D]))]⟩) (fun i=>i≤2∧∀t,t<i→eu D (bN x l n j t)=true) (fun i=>2 - i) ?_ ?_
  ·exact cN (0) (⟨by omega,fun t ht=>absurd ht ar⟩) [(4,some 4)] hI rfl rfl ⟨⟨_,rfl,.p rfl⟩,⟨_,rfl,.pure pu⟩,⟨_,rfl,.pure pu⟩,⟨_,rfl,.pure pu⟩,trivial⟩ ⟨.inr ⟨_,_,rfl,rfl,.pure bL⟩,trivial⟩
  rintro i ⟨hi,hall⟩
  have hbi:bN x l n j i<n:=oU ar i
  refine aa [448] ?_
  refine b7 rfl (fun hc24=>?_) (fun hc24=>?_)
  ·have h24 : i < 2 := by have := of_decide_eq_true hc24; omega
   refine aa [462,51] ?_
   refine s1 (bM bP rfl rfl (Dd x l n j i h24)) rfl ?_
   refine aa [487,139,212,0,213] ?_
   refine s1 (cD (bN x l n j i / 8) Tryz.underlying47 cc rfl rfl rfl ar rfl) rfl <| s1 (bM cc rfl rfl (wA ar)) rfl ?_
   refine aa [0,214] ?_
   refine s1 (qP (D.getD (bN x l n j i / 8) 0) (bN x l n j i % 8) rfl rfl rfl ar) rfl <| s1 (ra _ (1:UInt8) rfl rfl) rfl <| s1 ((bF rfl).v (v':= .b (!eu D (bN x l n j i))) (congrArg A.b (Fw _ _))) rfl <| bI <| bG ?_
   refine b7 rfl (fun hc37=>?_) (fun hc37=>?_)
   ·have hb : eu D (bN x l n j i) = false := by simpa using hc37
    refine aa [445,464,495,21] ?_
    show A.tu _=_
    rw [Fx hcs,Nt h24 hb];rfl
   ·have hb : eu D (bN x l n j i) = true := by simpa using hc37
    refine aa [474] ?_
    exact cz (i+1) (⟨by omega,vj hall hb⟩) ar [(4,some 4)] hI rfl rfl ⟨⟨_,rfl,.p rfl⟩,⟨_,rfl,.pure pu⟩,⟨_,rfl,.pure pu⟩,⟨_,rfl,.pure pu⟩,trivial⟩ ⟨.inr ⟨_,_,rfl,rfl,.pure bL⟩,trivial⟩
  ·have h24 : i = 2 := by have := of_decide_eq_false hc24; omega
   subst h24
   refine aa [509,464,21] ?_
   show A.tu _=_
   rw [Fx hcs,Nu hall];rfl
theorem wh (D:List UInt8) (h:0<D.length) (hD:D.length≤1000000):bO Tryz.prog 26 [fw D] (eY 1 D.length (D.map u8)):=by
 refine enter Tryz.func26 rfl Tryz.ntmps26 aw (Nat.le_of_ble_eq_true rfl) fun w0 X0 hI=>?_
 refine aa [539] ?_
 refine s1 (yw Tryz.underlying47 rfl rfl h) rfl ?_
 refine aa [548,469,215,0,300,449] ?_
 refine bW (rs:= [.tmp 2]) rfl (bT rfl bR) ⟨7,congrArg (A.sl 7 1 0) (Nat.zero_add _),rfl⟩
theorem ME (x:List UInt8) (lv nb id:Int) (D:List UInt8) (hx:x.length=32):bO Tryz.prog 58 [.ag (x.map u8),.ag [.i .i64 lv,.i .i64 nb,fw D],.i .i64 id] (cn (oS x lv nb D id)):=by
 refine enter Tryz.func58 rfl Tryz.ntmps58 aw (Nat.le_of_ble_eq_true rfl) fun w0 X0 hI=>?_
 refine aa [522,43] ?_
 refine bK rfl (cB 6 rfl dO rfl rfl ?_)
 refine aa [470] ?_
 rcases tf (okB lv nb D id)with hcs|hcs
 ·skip
  refine aa [1,12,32,0,298,549,513,444,32,0,27,531] ?_
  refine lL 6 rfl (.cons (.eq rfl) (.cons (.eq rfl) (.cons .nl .nil))) ?_
  refine aa [301] ?_
  show A.tu _=_
  rw [Jn hcs];rfl
 ·obtain ⟨l, n, j, rfl, rfl, rfl, h1, h2, h3, h4, h5, h6⟩ := xq hcs
  refine aa [1,12,32,0,299,525,469,32,27,454,139,212] ?_
  refine bK rfl (kN 25 rfl false rfl (.cons (.pure pu) (.nil)) (wh D ar ar) bL (.inl rfl) rfl ?_)
  refine aa [139,302,456,445,493] ?_
  refine cO (ι:=Nat) (fun i=> [(6,.p 6 0),(27,.fz 2 ((jj x l n j 2).map nJ)),(28,nJ 2),(29,nJ i)]) (fun i=>⟨[(6,some ([nJ l,nJ n,.sl 25 1 0 D.length])),(25,some ((sC x l n j D i).map u8))]⟩) (fun i=>i≤2) (fun i=>2 - i) ?_ ?_
  ·exact cN (0) (Nat.zero_le _) [(6,some 6),(25,some 25)] hI rfl rfl ⟨⟨_,rfl,.p rfl⟩,⟨_,rfl,.pure pu⟩,⟨_,rfl,.pure pu⟩,⟨_,rfl,.pure pu⟩,trivial⟩ ⟨.inr ⟨_,_,rfl,rfl,.cons (.pure pu) (.cons (.pure pu) (.cons (.sl rfl rfl) .nil))⟩,.inr ⟨_,_,rfl,rfl,.of aZ (.pure bL)⟩,trivial⟩
  rintro i hi
  have hbi:bN x l n j i<n:=oU ar i
  have hsl:=AS x l n j D i
  refine aa [448] ?_
  refine b7 rfl (fun hc30=>?_) (fun hc30=>?_)
  ·have h30 : i < 2 := by have := of_decide_eq_true hc30; omega
   refine aa [462,51] ?_
   refine s1 (bM bP rfl rfl (Dd x l n j i h30)) rfl ?_
   refine aa [447,203] ?_
   refine t1 (ct Tryz.underlying128 rfl cL az rfl rfl) rfl <| t1 (bM cL rfl rfl rfl) rfl ?_
   refine aa [6,303,304] ?_
   refine t1 (bM cc rfl rfl (Nf ar)) rfl <| t1 (bF rfl) rfl <| t1 (iQ _ 8 rfl rfl rfl rfl ar) rfl <| t1 (qO (bN x l n j i % 8) rfl rfl rfl ar) rfl <| t1 (uk _ _ rfl rfl) rfl ?_
   refine aa [304,10] ?_
   refine bK rfl (cV cc rfl rfl rfl rfl (by simp [hsl];omega) (RD _ _) ?_)
   refine aa [472] ?_
   exact cz (i+1) ar ar [(6,some 6),(25,some 25)] hI rfl rfl ⟨⟨_,rfl,.p rfl⟩,⟨_,rfl,.pure pu⟩,⟨_,rfl,.pure pu⟩,⟨_,rfl,.pure pu⟩,trivial⟩ ⟨.inr ⟨_,_,rfl,rfl,.cons (.pure pu) (.cons (.pure pu) (.cons (.sl rfl rfl) .nil))⟩,.inr ⟨_,_,rfl,rfl,.of aZ (.pure bL)⟩,trivial⟩
  ·have h30 : i = 2 := by have := of_decide_eq_false hc30; omega
   subst h30
   refine aa [483,32,27,464] ?_
   refine kY 6 2 rfl rfl rfl rfl bL (c5 aB rfl) rfl ?_
   refine aa [301] ?_
   show A.tu _=_
   rw [Jo hcs,lT,fw,AS];rfl
-- F3E
-- C4B
theorem pg (l:List Int) (hn:l.length≤maxLen):bO Tryz.prog 55 [.fz l.length (l.map (A.i .i64))] (cn (.b (eD l))):=by
 refine enter Tryz.func55 rfl Tryz.ntmps55 aw (Nat.le_of_ble_eq_true rfl) fun w0 X0 hI=>?_
 refine aa [448] ?_
 simp only [maxLen]at hn
 refine aa [1,65,456,445,493] ?_
 refine cO (ι:=Nat) (fun i=> [(3,.i .i64 (ja l i)),(6,.fz l.length (l.map (A.i .i64))),(7,nJ l.length),(8,nJ i)]) (fun i=>⟨[]⟩) (fun i=>i≤l.length∧eD l=gh (ja l i) (l.drop i)) (fun i=>l.length - i) ?_ ?_
 ·exact cN (0) (⟨Nat.zero_le _,CT l⟩) [] hI rfl rfl ⟨⟨_,rfl,.pure pu⟩,⟨_,rfl,.pure pu⟩,⟨_,rfl,.pure pu⟩,⟨_,rfl,.pure pu⟩,trivial⟩ trivial
 rintro i ⟨hi,hl⟩
 refine aa [448] ?_
 refine b7 rfl (fun hc9=>?_) (fun hc9=>?_)
 ·have h9 : i < l.length := by have := of_decide_eq_true hc9; omega
  obtain⟨q,hq⟩:∃q,l[i]? =some q:=⟨_,List.getElem?_eq_getElem h9⟩
  refine aa [462,51,52,452,453,446] ?_
  refine jr 2 rfl rfl rfl rfl (fun hb15=> .step (bF rfl) rfl rfl<| .step (bF rfl) rfl rfl<| .done) rfl rfl <| bI <| bG ?_
  refine b7 rfl (fun hc18=>?_) (fun hc18=>?_)
  ·have h18 : ¬ (ja l i < q ∧ q < 1024) := by simp at hc18; omega
   refine aa [480,519,519,5] ?_
   exact congrArg A.b (CS hl hq h18).symm
  ·have h18 : ja l i < q ∧ q < 1024 := by simp at hc18; omega
   refine bY <| bG <| bJ <| s1 ((bF rfl).v (v':= .i .i64 (ja l (i+1))) (congrArg (A.i .i64) (AM hq).symm)) rfl ?_
   refine aa [488] ?_
   exact cz (i+1) (⟨by omega,y3 hl hq h18⟩) ar [] hI rfl rfl ⟨⟨_,rfl,.pure pu⟩,⟨_,rfl,.pure pu⟩,⟨_,rfl,.pure pu⟩,⟨_,rfl,.pure pu⟩,trivial⟩ trivial
 ·have h9 : i = l.length := by have := of_decide_eq_false hc9; omega
  subst h9
  refine aa [484,480,5] ?_
  exact congrArg A.b (CQ hl).symm
theorem vH (c:cq) (hx:c.x.length=32) (hn:c.E.length≤maxLen):bO Tryz.prog 67 [.ag (dN c)] (cn (.i .i64 (tO (eB c)))):=by
 refine enter Tryz.func67 rfl Tryz.ntmps67 aw (Nat.le_of_ble_eq_true rfl) fun w0 X0 hI=>?_
 refine aa [496,470,444,33,541,446] ?_
 refine kX 9 rfl (fun hc9=>?_) (fun hc9=>?_)
 ·have h4 : ¬ c.F.length ≤ 16 := by simp at hc9; omega
  refine aa [505,515,74,467,5] ?_
  exact congrArg (A.i .i64) (by rw [K1 h4];rfl)
 ·have h4 : c.F.length ≤ 16 := by simp at hc9; omega
  refine g1 rfl rfl (ct Tryz.underlying76 rfl fD az rfl rfl) rfl <| g1 rfl rfl (bM fD rfl rfl (zA hx)) rfl <| fg rfl rfl rfl (bX false rfl (.cons (.pure pu) (.nil)) (pg c.E hn) pu (.inl rfl) rfl ?_)
  refine aa [7,447] ?_
  refine b7 rfl (fun hc14=>?_) (fun hc14=>?_)
  ·have h14 : eD c.E = false := by simpa using hc14
   refine aa [444,74,467,5] ?_
   exact congrArg (A.i .i64) (by rw [K2 h14];rfl)
  ·have h14 : eD c.E = true := by simpa using hc14
   refine aa [465,444,33,541,459] ?_
   refine cO (ι:=Nat) (fun i=> [(16,oV c.F),(17,nJ c.F.length),(18,nJ i)]) (fun i=>⟨[]⟩) (fun i=>i≤c.F.length∧gx 0 c.F=gx i (c.F.drop i)) (fun i=>c.F.length - i) ?_ ?_
   ·exact cN (0) (⟨Nat.zero_le _,rfl⟩) [] hI rfl rfl ⟨⟨_,rfl,.pure pu⟩,⟨_,rfl,.pure pu⟩,⟨_,rfl,.pure pu⟩,trivial⟩ trivial
   rintro i ⟨hi,hl⟩
   refine aa [448] ?_
   refine b7 rfl (fun hc19=>?_) (fun hc19=>?_)
   ·have h19 : i < c.F.length := by have := of_decide_eq_true hc19; omega
    obtain⟨f,hf⟩:∃f,c.F[i]? =some f:=⟨_,List.getElem?_eq_getElem h19⟩
    refine aa [514,110,140,210,0,27,454,73,2,471] ?_
    refine kX 27 rfl (fun hc27=>?_) (fun hc27=>?_)
    ·have h27 : ¬ f.lv = i := by simpa using hc27
     refine aa [528,515,74,457,495,5] ?_
     exact congrArg (A.i .i64) (by rw [DG (Ge hl hf (fun h=>h27 h.1))];rfl)
    ·have h27 : f.lv = i := by simpa using hc27
     refine g1 rfl rfl (cg dO rfl rfl rfl) rfl <| fg rfl rfl rfl (bX false rfl (.cons (.pure pu) (.nil)) (Am f.lv f.nb f.D) pu (.inl rfl) rfl ?_)
     refine aa [7,447] ?_
     refine b7 rfl (fun hc31=>?_) (fun hc31=>?_)
     ·have h31 : ¬ (f.lv = i ∧ ew f.lv f.nb f.D = true) := by intro h; simp [h.2, rz] at hc31
      refine aa [444,74,457,495,5] ?_
      exact congrArg (A.i .i64) (by rw [DG (Ge hl hf h31)];rfl)
     ·have h31 : f.lv = i ∧ ew f.lv f.nb f.D = true := ⟨h27, by cases hk : ew f.lv f.nb f.D with | true => rfl | false => simp [hk, rz] at hc31⟩
      refine aa [474] ?_
      exact cz (i+1) (⟨by omega,OI hl hf h31.1 h31.2⟩) ar [] hI rfl rfl ⟨⟨_,rfl,.pure pu⟩,⟨_,rfl,.pure pu⟩,⟨_,rfl,.pure pu⟩,trivial⟩ trivial
   ·have h19 : i = c.F.length := by have := of_decide_eq_false hc19; omega
    subst h19
    refine aa [483,464,5] ?_
    exact congrArg (A.i .i64) (by rw [DH h4 h14 (OH hl)];rfl)
-- C4C
-- C4D
end Go.Abs.D2
namespace Go.Eng
open Go Go.Eng Go.Proofs Go.Abs
theorem Ud (w:World):(zeroValue 4).run Tryz.prog w= .ok (.bool false) w:=by kernel_rfl
theorem GZ {w:World} {b blk clk:Nat} {es:Array MapEntry} (h:w.heap.size≤b):qE [(b,.map es clk)] w blk:=⟨.inr h,trivial⟩
theorem L4 (w:World) (a1 a2:Option Addr) (c1 c2:Nat) (l1 l2:List Int) (h1:RI w a1 l1) (h2:RI w a2 l2) (hn1:l1.length≤maxLen) (hn2:l2.length≤maxLen):Fn Tryz.prog 56 #[.slice a1 l1.length c1,.slice a2 l2.length c2] w (fun v w2=>v= .bool (lR l1 l2)∧RowKit.Below w.heap.size w w2):=by
 simp only [maxLen]at hn1 hn2
 have hlt0:True:=trivial
 refine enter Tryz.func56 rfl Tryz.ntmps56 aw rfl ?_
 refine aa [537] ?_
 refine bK rfl (A2 rfl fun b hbS hbH=>?_)
 have hlb:w.heap.size≤b:=hbS.1
 refine aa [491] ?_
 refine s1 (cf Tryz.underlying24 rfl rfl) rfl ?_
 refine aa [510] ?_
 refine cO (ι:=Nat×Array MapEntry×Nat) (fun⟨i,es,clk⟩=> [(1,.slice a2 l2.length c2),(5,.map (some b)),(11,.slice a1 l1.length c1),(12,.int .i64 (l1.length:Nat)),(13,.int .i64 (i:Nat))]) (fun⟨i,es,clk⟩=> [w]) (fun⟨i,es,clk⟩=> [(b,.map es clk)]) (fun⟨i,es,clk⟩=>i≤l1.length∧fm es clk (sB (l1.take i))) (fun⟨i,es,clk⟩=>l1.length - i) ?_ ?_
 ·exact cN (0, #[],0) ⟨Nat.zero_le _,fm.empty 0⟩ ⟨rfl,rfl,rfl,rfl,rfl,trivial⟩ (fun _ h=>h)
 rintro⟨i,es,clk⟩ ⟨hi,hF⟩
 dsimp only
 refine aa [448] ?_
 refine b7 rfl (fun hc14=>?_) (fun hc14=>?_)
 ·have h14 : i < l1.length := by have := of_decide_eq_true hc14; omega
  obtain⟨q,hq⟩:∃q,l1[i]? =some q:=⟨_,List.getElem?_eq_getElem h14⟩
  have hr:=h1 i q hq
  refine aa [462] ?_
  refine s1 (IS i Tryz.underlying24 bP rfl rfl rfl ar hr.1) rfl ?_
  refine aa [307,534] ?_
  refine bK rfl (xe 0 Tryz.underlying179 Tryz.underlying3 rfl rfl rfl rfl hF fun es2 clk2 hF2=>?_)
  refine bI <| cr <| bG <| bJ <| s1 (cl i 1 rfl rfl rfl rfl ar) rfl ?_
  refine aa [476] ?_
  exact cz (x:=(i,es,clk)) (i+1,es2,clk2) ⟨(show i+1≤l1.length from by omega),by rw [←RF hq];exact hF2⟩ (show l1.length - (i+1)<l1.length - i from by omega) ⟨rfl,rfl,rfl,rfl,rfl,trivial⟩ (fun _ h=>h)
 ·have h14 : i = l1.length := by have := of_decide_eq_false hc14; omega
  subst h14
  rw [List.take_length]at hF
  refine aa [463,445] ?_
  refine s1 (cf Tryz.underlying24 rfl rfl) rfl ?_
  refine aa [510] ?_
  refine cO (ι:=Nat) (fun j=> [(5,.map (some b)),(20,.slice a2 l2.length c2),(21,.int .i64 (l2.length:Nat)),(22,.int .i64 (j:Nat))]) (fun j=> [w]) (fun j=> [(b,.map es clk)]) (fun j=>j≤l2.length∧(l2.take j).all (fun n=>!decide (n∈l1))=true) (fun j=>l2.length - j) ?_ ?_
  ·exact cN 0 ⟨Nat.zero_le _,rfl⟩ ⟨rfl,rfl,rfl,rfl,trivial⟩ (fun _ h=>h)
  rintro j ⟨hj,hall⟩
  refine aa [448] ?_
  refine b7 rfl (fun hc23=>?_) (fun hc23=>?_)
  ·have h23 : j < l2.length := by have := of_decide_eq_true hc23; omega
   obtain⟨q,hq⟩:∃q,l2[j]? =some q:=⟨_,List.getElem?_eq_getElem h23⟩
   have hr:=h2 j q hq
   refine aa [462] ?_
   refine s1 (IS j Tryz.underlying24 bP rfl rfl rfl ar hr.1) rfl ?_
   refine aa [307,455] ?_
   refine s1 ((qT 0 Tryz.underlying179 Tryz.underlying3 Ud rfl rfl rfl hF).v (RE l1 q)) rfl <| bI <| bG ?_
   refine b7 rfl (fun hc28=>?_) (fun hc28=>?_)
   ·skip
    refine aa [480,495] ?_
    refine bW (rs:= [.tmp 4]) rfl (bT rfl bR) fun w1 hG1=>⟨congrArg Value.bool (L3 hq (of_decide_eq_true hc28)).symm,hG1.below (.head _) (by intro p hp;rw [List.mem_singleton.1 hp];exact hlb)⟩
   ·skip
    refine bY <| cr <| bG <| bJ <| s1 (cl j 1 rfl rfl rfl rfl ar) rfl ?_
    refine aa [476] ?_
    exact cz (x:=j) (j+1) ⟨(show j+1≤l2.length from by omega),Ju hq hall (by rw [hc28];rfl)⟩ (show l2.length - (j+1)<l2.length - j from by omega) ⟨rfl,rfl,rfl,rfl,trivial⟩ (fun _ h=>h)
  ·have h23 : j = l2.length := by have := of_decide_eq_false hc23; omega
   subst h23
   rw [List.take_length]at hall
   refine aa [484,480] ?_
   refine bW (rs:= [.tmp 4]) rfl (bT rfl bR) fun w1 hG1=>⟨congrArg Value.bool hall.symm,hG1.below (.head _) (by intro p hp;rw [List.mem_singleton.1 hp];exact hlb)⟩
end Go.Eng
namespace Go.Abs.D2
open Go Go.Eng Go.Abs Go.Proofs
theorem Hu {X:Xs} {w:World} {a:Option Addr} {cap:Nat} {l:List Int} (h2:l.length≤cap) (h4:a=none→cap=0) (h5:0<cap→∀x,a=some x→x.spot=none) (h6:VM X w (l.map (A.i .i64)) (ab a) (ao a)):Go.Eng.RI w a l:=fun i v hi=>by
 have hlt:=(List.getElem?_eq_some_iff.1 hi).1
 obtain⟨_,u,e1,e2,_⟩:=pW h6 (j:=i) (c:= .i .i64 v) (by rw [List.getElem?_map,hi];rfl)
 rw [iB]at e2
 subst e2
 refine⟨?_,e1⟩
 cases a with
 |none=>exact absurd (h4 rfl) ar
 |some x=>
  have:=h5 ar x rfl
  obtain⟨b,o,s⟩:=x
  simp only at this
  subst this;rfl
theorem Ed (a b:List Int) (hn1:a.length≤maxLen) (hn2:b.length≤maxLen):bO Tryz.prog 56 [.fz a.length (a.map (A.i .i64)),.fz b.length (b.map (A.i .i64))] (cn (.b (Go.Eng.lR a b))):=by
 intro w X β us hd hX hgl ho hi hv
 simp only [VS]at hv
 obtain⟨u1,r1,rfl,v1,u2,r2,rfl,v2,rfl⟩:=hv
 simp only [V]at v1 v2
 obtain⟨a1,c1,rfl,e2,e3,e4,e5,e6⟩:=v1
 obtain⟨a2,c2,rfl,g2,g3,g4,g5,g6⟩:=v2
 refine Eng.Fn.mono (Go.Eng.L4 w a1 a2 c1 c2 a b (Hu e2 e4 e5 e6) (Hu g2 g4 g5 g6) hn1 hn2) fun v w' ⟨hv,hb⟩=>?_
 subst hv
 refine⟨.b (Go.Eng.lR a b),β,X,⟨[]⟩,rfl,fun _ _ h=>h,fun _ _ h=> .inl h,.of ⟨hb.os,hb.tape,hb.output,hb.size,fun k hk _=>hb.block k hk,fun s hs=>by cases hs⟩ (c4.refl β) (fun q o h=>Nat.lt_of_lt_of_le (hX q o h) hb.size) hd (fun id cs h=>by cases h) (fun i j ci cj q M N _ h _ _ _=>by cases h),by simp only [V]⟩
-- C4E
theorem KN (x:List UInt8) (hx:x.length=32) (f:cY) (q:Int):bO Tryz.prog 60 [.i .i64 q,.fp (x.map u8),.fp (jo f)] (cn (.b (ot x f.lv f.nb f.D q))):=by
 refine enter Tryz.func60 rfl Tryz.ntmps60 aw (Nat.le_of_ble_eq_true rfl) fun w0 X0 hI=>?_
 refine aa [537,107] ?_
 refine s1 (eX dO rfl rfl rfl rfl) rfl <| s1 (bF rfl) rfl <| bK rfl (bX false rfl (.cons (.pure pu) (.cons (.pure pu) (.cons (.pure pu) (.nil)))) (bO.cast (MI x f.lv f.nb q f.D hx) (Nx ..)) pu (.inl rfl) rfl ?_)
 refine aa [466,458,449,11] ?_
 rfl
theorem KP (x:List UInt8) (hx:x.length=32) (f:cY) (l:List Int) (hn:l.length≤100):bO Tryz.prog 59 [.fz l.length (l.map (A.i .i64)),.fn (.func 60) [] [.fp (x.map u8),.fp (jo f)]] (cn (iI (kV x f l))):=by
 refine enter Tryz.func59 rfl Tryz.ntmps59 aw (Nat.le_of_ble_eq_true rfl) fun w0 X0 hI=>?_
 refine aa [539,493] ?_
 refine cO (ι:=Nat) (fun i=> [(1,.fn (.func 60) [] [.fp (x.map u8),.fp (jo f)]),(4,.sl 119 1 0 (kV x f (l.take i)).length),(7,.fz l.length (l.map (A.i .i64))),(8,nJ l.length),(9,nJ i)]) (fun i=>⟨[(119,some ((kV x f (l.take i)).map iA))]⟩) (fun i=>i≤l.length) (fun i=>l.length - i) ?_ ?_
 ·exact cN (0) (Nat.zero_le _) [(119,none)] hI rfl rfl ⟨⟨_,rfl,.pure pu⟩,⟨_,rfl,.nl rfl⟩,⟨_,rfl,.pure pu⟩,⟨_,rfl,.pure pu⟩,⟨_,rfl,.pure pu⟩,trivial⟩ ⟨.inl ⟨rfl,rfl⟩,trivial⟩
 rintro i hi
 have hwl:=OF x f (l.take i)
 rw [List.length_take]at hwl
 refine aa [448] ?_
 refine b7 rfl (fun hc10=>?_) (fun hc10=>?_)
 ·have h10 : i < l.length := by have := of_decide_eq_true hc10; omega
  obtain⟨q,hq⟩:∃q,l[i]? =some q:=⟨_,List.getElem?_eq_getElem h10⟩
  refine aa [462,51,52,455] ?_
  refine bK rfl (iw false rfl rfl (.cons (.pure pu) (.cons (.pure pu) (.cons (.pure pu) .nil))) (KN x hx f q) pu (.inl rfl) rfl ?_)
  refine bI <| bG ?_
  refine b7 rfl (fun hc15=>?_) (fun hc15=>?_)
  ·have hwn := TQ hq hc15
   refine aa [451,308] ?_
   refine bK rfl (dB 19 rfl Tryz.underlying24 bP rfl (.sl rfl aB) rfl (dE rfl aq) aB aC ar rfl (II hq hc15) rfl ?_)
   refine aa [488] ?_
   exact cz (i+1) ar ar [(119,some 19)] hI rfl rfl ⟨⟨_,rfl,.pure pu⟩,⟨_,rfl,.sl rfl aq⟩,⟨_,rfl,.pure pu⟩,⟨_,rfl,.pure pu⟩,⟨_,rfl,.pure pu⟩,trivial⟩ ⟨.inr ⟨_,_,rfl,rfl,.pure bL⟩,trivial⟩
  ·have hfm := TR hq hc15
   have hwn:(kV x f (l.take i)).length=(kV x f (l.take (i+1))).length:=by rw [hfm]
   refine aa [474] ?_
   exact cz (i+1) ar ar [(119,some 119)] hI rfl rfl ⟨⟨_,rfl,.pure pu⟩,⟨_,rfl,.sl rfl aq⟩,⟨_,rfl,.pure pu⟩,⟨_,rfl,.pure pu⟩,⟨_,rfl,.pure pu⟩,trivial⟩ ⟨.inr ⟨_,_,rfl,rfl,.of (by rw [hfm]) (.pure bL)⟩,trivial⟩
 ·obtain rfl : i = l.length := by have := of_decide_eq_false hc10; omega
  refine aa [463] ?_
  refine eR 4 rfl rfl bL (c5 aB rfl) <| gr 4 rfl (v':=iI (kV x f l)) aG ?_
  refine aa [450,449,11] ?_
  rfl
theorem vG (x:List UInt8) (hx:x.length=32) (p q:List Int) (hp:p.length≤100) (hq100:q.length≤100):bO Tryz.prog 28 [.ag (x.map u8),.fz p.length (p.map (A.i .i64)),.fz q.length (q.map (A.i .i64))] (cn (tt x p q)):=by
 refine enter Tryz.func28 rfl Tryz.ntmps28 aw (Nat.le_of_ble_eq_true rfl) fun w0 X0 hI=>?_
 refine aa [522] ?_
 refine bK rfl (cB 6 rfl c7 rfl rfl ?_)
 refine aa [498] ?_
 rcases Pr p q with hcs|hcs|hcs|hcs
 ·obtain ⟨h1, hb⟩ := hcs
  refine aa [41,450,141,14,0,528,446,505,515,216,217,74,467,142] ?_
  refine lL 6 rfl B8 ?_
  refine aa [218] ?_
  show A.tu _=_;rw [zr hb];rfl
 ·obtain ⟨h1, h2, hb⟩ := hcs
  refine aa [41,450,141,499,219,34,446,505,515,216,217,74,467,142] ?_
  refine lL 6 rfl B8 ?_
  refine aa [218] ?_
  show A.tu _=_;rw [zr hb];rfl
 ·obtain ⟨h1, h2, h3, hb⟩ := hcs
  refine aa [41,450,141,499,219,17,507,7,309,34,515,216,217,74,467,142] ?_
  refine lL 6 rfl B8 ?_
  refine aa [218] ?_
  show A.tu _=_;rw [zr hb];rfl
 ·obtain ⟨h1, h2, h3, hb⟩ := hcs
  refine aa [41,450,141,499,219,17,507,7,309,17,468,465,142,1,107,310] ?_
  refine gr 30 rfl (v':= .p 6 0) rfl <| bK rfl (l3 b5 rfl rfl rfl rfl rfl (by rw [show cU (A.ag (x.map u8))=x.map u8 from rfl,List.length_map,hx]) (Nat.le_of_ble_eq_true rfl) Sx ?_)
  refine aa [460,489,452,13] ?_
  refine cO (ι:=Nat) (fun n=> [(3,.fp (x.map u8)),(6,.p 6 0),(8,iI (bS x p q n).2.1),(9,iI (bS x p q n).2.2)]) (fun n=>⟨[(6,some (x.map u8++ [.sl 180 3 0 n,.nl])),(180,some ((bS x p q n).1.flatMap jo))]⟩) (fun n=>n≤16∧∀t,t<n→kM x p q t=true) (fun n=>16 - n) ?_ ?_
  ·exact cN (0) (⟨by omega,fun t ht=>absurd ht ar⟩) [(6,some 6),(180,none)] hI rfl rfl ⟨⟨_,rfl,.pure pu⟩,⟨_,rfl,.p rfl⟩,⟨_,rfl,.pure pu⟩,⟨_,rfl,.pure pu⟩,trivial⟩ ⟨.inr ⟨_,_,rfl,rfl,.app (.pure bL) (.cons (.nl rfl) (.cons (.pure pu) .nil))⟩,.inl ⟨rfl,rfl⟩,trivial⟩
  rintro n ⟨hn,hgo⟩
  obtain⟨hal,hbl⟩:=vt (x:=x) hp hq100 n
  have hfl:((bS x p q n).1.flatMap jo).length=n*3:=by rw [Ap,k9]
  have hnb:=qB (bS x p q n).2.1
  have hnum:=(C9 (x:=x) hb n).1
  refine aa [3,445,82,446] ?_
  refine kX 36 rfl (fun hc36=>?_) (fun hc36=>?_)
  ·have h36 : 0 < (bS x p q n).2.1.length := by have := of_decide_eq_true hc36; omega
   refine g1 rfl rfl (ct Tryz.underlying76 rfl fU az rfl rfl) rfl <| g1 rfl rfl (bM fU rfl rfl (congrArg (fun l=>l[0]?) (x9 hx _))) rfl <| g1 rfl rfl (cf Tryz.underlying74 rfl rfl rfl) rfl ?_
   refine aa [7,447] ?_
   refine b7 rfl (fun hc41=>?_) (fun hc41=>?_)
   ·have h41 : n < 16 := by have := of_decide_eq_true hc41; omega
    refine aa [461,13,444,33,311,306,0,82,104] ?_
    refine s1 (IW (a:=4*(bS x p q n).2.1.length) (b:=8) rfl rfl rfl) rfl <| s1 (T8 (a:=max (4*(bS x p q n).2.1.length) 8) (b:=4096) (c:=eV (bS x p q n).2.1) rfl rfl rfl) rfl <| bK rfl (bX false rfl (.cons (.pure pu) (.cons (.pure pu) (.nil))) (bO.cast (EZ n (eV (bS x p q n).2.1)) (A4 (rU h41 hnb.1 hnb.2))) pu (.inl rfl) rfl ?_)
    refine aa [471] ?_
    refine bK rfl (cB 10 rfl dO rfl rfl ?_)
    refine aa [27,491,497,465,445,493] ?_
    refine cO (ι:=Nat) (fun k=> [(3,.fp (x.map u8)),(6,.p 6 0),(8,iI (bS x p q n).2.1),(9,iI (bS x p q n).2.2),(10,.p 10 0),(58,iI (bS x p q n).2.1),(59,nJ (bS x p q n).2.1.length),(60,nJ k)]) (fun k=>⟨[(6,some (x.map u8++ [.sl 180 3 0 n,.nl])),(180,some ((bS x p q n).1.flatMap jo)),(10,some ([nJ n,nJ (eV (bS x p q n).2.1),fw (jf x (n:Nat) (eV (bS x p q n).2.1:Nat) (nR (eV (bS x p q n).2.1)) ((bS x p q n).2.1.take k))]))]⟩) (fun k=>k≤(bS x p q n).2.1.length) (fun k=>(bS x p q n).2.1.length - k) ?_ ?_
    ·exact cN (0) (Nat.zero_le _) [(6,some 6),(10,some 10),(180,some 180)] hI rfl rfl ⟨⟨_,rfl,.pure pu⟩,⟨_,rfl,.p rfl⟩,⟨_,rfl,.pure pu⟩,⟨_,rfl,.pure pu⟩,⟨_,rfl,.p rfl⟩,⟨_,rfl,.pure pu⟩,⟨_,rfl,.pure pu⟩,⟨_,rfl,.pure pu⟩,trivial⟩ ⟨.inr ⟨_,_,rfl,rfl,.app (.pure bL) (.cons (.sl rfl rfl) (.cons (.pure pu) .nil))⟩,.inr ⟨_,_,rfl,rfl,.pure bL⟩,.inr ⟨_,_,rfl,rfl,.of aZ (.pure bL)⟩,trivial⟩
    rintro k hk
    refine aa [448] ?_
    refine b7 rfl (fun hc61=>?_) (fun hc61=>?_)
    ·have h61 : k < (bS x p q n).2.1.length := by have := of_decide_eq_true hc61; omega
     obtain⟨v,hv⟩:∃v,(bS x p q n).2.1[k]? =some v:=⟨_,List.getElem?_eq_getElem h61⟩
     have hv0:=hnum v (List.mem_of_getElem? hv)
     refine aa [462,37] ?_
     refine s1 (bM bP rfl rfl (gX hv)) rfl ?_
     refine aa [487,107,220,0] ?_
     refine bK rfl (bX false rfl (.cons (.pure pu) (.cons (.pure pu) (.cons (.pure pu) (.nil)))) (bO.cast (ME x (n:Nat) (eV (bS x p q n).2.1:Nat) v (jf x (n:Nat) (eV (bS x p q n).2.1:Nat) (nR (eV (bS x p q n).2.1)) ((bS x p q n).2.1.take k)) hx) (Jl h41 hv hv0)) pu (.inl rfl) rfl ?_)
     refine aa [471,27,458,497,474] ?_
     exact cz (k+1) ar ar [(6,some 6),(10,some 10),(180,some 180)] hI rfl rfl ⟨⟨_,rfl,.pure pu⟩,⟨_,rfl,.p rfl⟩,⟨_,rfl,.pure pu⟩,⟨_,rfl,.pure pu⟩,⟨_,rfl,.p rfl⟩,⟨_,rfl,.pure pu⟩,⟨_,rfl,.pure pu⟩,⟨_,rfl,.pure pu⟩,trivial⟩ ⟨.inr ⟨_,_,rfl,rfl,.app (.pure bL) (.cons (.sl rfl rfl) (.cons (.pure pu) .nil))⟩,.inr ⟨_,_,rfl,rfl,.pure bL⟩,.inr ⟨_,_,rfl,rfl,.pure bL⟩,trivial⟩
    ·have h61 : k = (bS x p q n).2.1.length := by have := of_decide_eq_false hc61; omega
     subst h61
     refine aa [463] ?_
     refine ep 10 (cs':=jo (jq x n (bS x p q n).2.1)) rfl (by rw [List.take_length];rfl) ?_
     refine aa [1,33,311,220] ?_
     refine bK rfl (jT 79 rfl Tryz.underlying74 dO rfl rfl rfl aK rfl rfl rfl rfl ?_)
     refine bK rfl (dB 80 rfl Tryz.underlying74 dO rfl (.sl rfl (by rw [hfl])) rfl (dE rfl aq) rfl aC ar rfl (Kc x p q n) rfl ?_)
     refine aa [33] ?_
     refine bK rfl (cV fU rfl rfl rfl rfl aI (BS hx _ _ _) ?_)
     refine bI <| bG <| fS 10 rfl rfl bL <| bJ <| s1 (bF rfl) rfl <| s1 (iz (us:= []) (vs:= [.fp (x.map u8),.fp (jo (jq x n (bS x p q n).2.1))]) rfl rfl) rfl <| bK rfl (bX false rfl (.cons (.pure pu) (.cons (.pure pu) .nil)) (KP x hx (jq x n (bS x p q n).2.1) (bS x p q n).2.2 hbl) pu (.inl rfl) rfl ?_)
     refine aa [446,476,50] ?_
     exact cz (n+1) (⟨by omega,vj hgo (Nq h36)⟩) ar [(6,some 6),(180,some 80)] hI rfl rfl ⟨⟨_,rfl,.pure pu⟩,⟨_,rfl,.p rfl⟩,⟨_,rfl,.pure pu⟩,⟨_,rfl,.pure pu⟩,trivial⟩ ⟨.inr ⟨_,_,rfl,rfl,.app (.pure bL) (.cons (.sl rfl aq) (.cons (.pure pu) .nil))⟩,.inr ⟨_,_,rfl,rfl,.pure bL⟩,trivial⟩
   ·have h41 : n = 16 := by have := of_decide_eq_false hc41; omega
    subst h41
    have hend:=Ey hgo
    refine aa [483,91,312,0,313,91,314,456] ?_
    refine kY 6 32 rfl aO rfl rfl bL (c5 (by rw [Ap,k9]) rfl) (BS hx _ _ _) ?_
    refine kY 6 33 rfl aO rfl rfl bL (c5 aB rfl) (ya hx _ _ _) ?_
    refine aa [315,1] ?_
    refine s1 (cg c7 rfl rfl (dH (c:=fq x p q) hx)) rfl ?_
    refine aa [316,464,317] ?_
    show A.tu _=_;rw [rp hb]
  ·have h36 : ¬ 0 < (bS x p q n).2.1.length := by have := of_decide_eq_false hc36; omega
   have hend:=Ml hn hgo h36
   refine aa [505,468,483,91,312,0,313,91,314,456] ?_
   refine kY 6 32 rfl aO rfl rfl bL (c5 (by rw [Ap,k9]) rfl) (BS hx _ _ _) ?_
   refine kY 6 33 rfl aO rfl rfl bL (c5 aB rfl) (ya hx _ _ _) ?_
   refine aa [315,1] ?_
   refine s1 (cg c7 rfl rfl (dH (c:=fq x p q) hx)) rfl ?_
   refine aa [316,464,317] ?_
   show A.tu _=_;rw [rp hb]
-- C4F
-- C4G
theorem DV (n:Int):bO Tryz.prog 108 [.i .i64 n] (cn (.ag (CV.cells (dF n)))):=by
 refine enter Tryz.func108 rfl Tryz.ntmps108 aw (Nat.le_of_ble_eq_true rfl) fun w0 X0 hI=>?_
 refine aa [444,75,486,76,44,457] ?_
 refine lL 2 rfl yo ?_
 refine aa [77] ?_
 rfl
theorem DW (l:List UInt8):bO Tryz.prog 109 [.fz l.length (l.map u8)] (cn (.ag (CV.cells (fK l)))):=by
 refine enter Tryz.func109 rfl Tryz.ntmps109 aw (Nat.le_of_ble_eq_true rfl) fun w0 X0 hI=>?_
 refine aa [444,75,486] ?_
 refine s1 (sQ Tryz.underlying47 Tryz.underlying5 Tryz.underlying9 rfl rfl aB) rfl ?_
 refine aa [76,44,457] ?_
 refine lL 2 rfl yo ?_
 refine aa [77] ?_
 rfl
theorem vQ (l:List CV):bO Tryz.prog 107 [.fz l.length (CV.dA l)] (cn (.ag (CV.cells (fc l)))):=by
 refine enter Tryz.func107 rfl Tryz.ntmps107 aw (Nat.le_of_ble_eq_true rfl) fun w0 X0 hI=>?_
 refine aa [444,75,486,76,44,457,77] ?_
 rfl
theorem Dt (c:cq) (hx:c.x.length=32) (hn:c.E.length≤maxLen):bO Tryz.prog 62 [.ag (dN c)] (cn (tJ c)):=by
 refine enter Tryz.func62 rfl Tryz.ntmps62 aw (Nat.le_of_ble_eq_true rfl) fun w0 X0 hI=>?_
 refine aa [496,0,498] ?_
 rcases nL (eB c)with hcs|hcs
 ·skip
  refine aa [478,144,458,513,453,531,56] ?_
  exact(Eu hcs).symm
 ·obtain ⟨hF, hE, _⟩ := od hcs
  have hEl:=Gg hE
  have hel:=Ab hcs hx
  refine aa [478,144,458,497,461,445,508,33,541,459] ?_
  refine cO (ι:=Nat) (fun i=> [(1,.p 1 0),(5,.sl 133 4 0 i),(6,.nl),(17,oV c.F),(18,nJ c.F.length),(19,nJ i)]) (fun i=>⟨[(1,some (dN c)),(133,some (CV.dA ((c.F.take i).map iY)))]⟩) (fun i=>i≤c.F.length) (fun i=>c.F.length - i) ?_ ?_
  ·exact cN (0) (Nat.zero_le _) [(1,some 1),(133,none)] hI rfl rfl ⟨⟨_,rfl,.p rfl⟩,⟨_,rfl,.nl rfl⟩,⟨_,rfl,.pure pu⟩,⟨_,rfl,.pure pu⟩,⟨_,rfl,.pure pu⟩,⟨_,rfl,.pure pu⟩,trivial⟩ ⟨.inr ⟨_,_,rfl,rfl,.pure bL⟩,.inl ⟨rfl,rfl⟩,trivial⟩
  rintro i hi
  refine aa [448] ?_
  refine b7 rfl (fun hc20=>?_) (fun hc20=>?_)
  ·have h19 : i < c.F.length := by have := of_decide_eq_true hc20; omega
   obtain⟨f,hf⟩:∃f,c.F[i]? =some f:=⟨_,List.getElem?_eq_getElem h19⟩
   refine aa [462,110,140] ?_
   refine bK rfl (cB 8 rfl dO rfl rfl ?_)
   refine aa [27,460,133] ?_
   refine bQ 0 [] [(133,none)] (bF rfl) rfl rfl <| bQ 1 [] [(8,none)] (ct Tryz.underlying128 rfl bP az rfl rfl) rfl rfl <| bQ 2 [1] [(8,none)] (bM bP rfl rfl rfl) rfl rfl <| ee false 3 [2] [] cK rfl (.cons (.pure pu) (.nil)) (DV f.nb) pu (.inl rfl) rfl rfl <| bQ 4 [] [(8,none)] (ct Tryz.underlying128 rfl cL az rfl rfl) rfl rfl <| bQ 5 [4] [(8,none)] (bM cL rfl rfl rfl) rfl rfl <| ee false 6 [5] [] cK rfl (.cons (.pure pu) (.nil)) (DW f.D) pu (.inl rfl) rfl rfl <| ni 30 7 [3,6] cK Tryz.underlying116 da rfl rfl rfl (by simp [cU]) (show _=CV.dA [dF f.nb,fK f.D]from rfl) rfl rfl rfl rfl <| Ax 30 8 [7] [(30,some 7)] cK rfl rfl bL rfl (CV.tz [dF f.nb,fK f.D]) rfl (by exact bL) (vQ [dF f.nb,fK f.D]) pu rfl rfl <| ni 32 9 [8] cK Tryz.underlying116 da rfl rfl rfl (by simp [cU]) (Bb (iY f)) rfl rfl rfl rfl <| k6 33 10 [0,9] [(32,some 9),(133,none)] cK Tryz.underlying116 da rfl (.sl rfl aE) rfl (dE rfl aq) aB aC ar rfl rfl rfl rfl ?_
   refine aa [4,488] ?_
   exact cz (i+1) ar ar [(1,some 1),(133,some 33)] hI rfl rfl ⟨⟨_,rfl,.p rfl⟩,⟨_,rfl,.sl rfl aq⟩,⟨_,rfl,.pure pu⟩,⟨_,rfl,.pure pu⟩,⟨_,rfl,.pure pu⟩,⟨_,rfl,.pure pu⟩,trivial⟩ ⟨.inr ⟨_,_,rfl,rfl,.pure bL⟩,.inr ⟨_,_,rfl,rfl,.of (MK hf) (.pure bL)⟩,trivial⟩
  ·obtain rfl : i = c.F.length := by have := of_decide_eq_false hc20; omega
   refine aa [463,3] ?_
   refine ep 133 (cs':=CV.dA (c.F.map iY)) rfl aG ?_
   refine aa [1,91] ?_
   refine s1 (bM fD rfl rfl (zA hx)) rfl ?_
   refine aa [493] ?_
   refine cO (ι:=Nat) (fun k=> [(1,.p 1 0),(5,.sl 133 4 0 c.F.length),(6,.sl 146 4 0 k),(36,iI c.E),(37,nJ c.E.length),(38,nJ k)]) (fun k=>⟨[(1,some (dN c)),(133,some (CV.dA (c.F.map iY))),(146,some (CV.dA ((c.E.take k).map dF)))]⟩) (fun k=>k≤c.E.length) (fun k=>c.E.length - k) ?_ ?_
   ·exact cN (0) (Nat.zero_le _) [(1,some 1),(133,some 133),(146,none)] hI rfl rfl ⟨⟨_,rfl,.p rfl⟩,⟨_,rfl,.sl rfl aq⟩,⟨_,rfl,.nl rfl⟩,⟨_,rfl,.pure pu⟩,⟨_,rfl,.pure pu⟩,⟨_,rfl,.pure pu⟩,trivial⟩ ⟨.inr ⟨_,_,rfl,rfl,.pure bL⟩,.inr ⟨_,_,rfl,rfl,.pure bL⟩,.inl ⟨rfl,rfl⟩,trivial⟩
   rintro k hk
   refine aa [448] ?_
   refine b7 rfl (fun hc39=>?_) (fun hc39=>?_)
   ·have h30 : k < c.E.length := by have := of_decide_eq_true hc39; omega
    obtain⟨q,hq⟩:∃q,c.E[k]? =some q:=⟨_,List.getElem?_eq_getElem h30⟩
    refine aa [462,516,534] ?_
    refine bK rfl (bX false rfl (.cons (.pure pu) (.nil)) (DV q) pu (.inl rfl) rfl ?_)
    refine bK rfl (jT 45 rfl Tryz.underlying116 da rfl rfl rfl (by simp [cU]) (Bb (dF q)) rfl rfl rfl ?_)
    refine bK rfl (dB 46 rfl Tryz.underlying116 da rfl (.sl rfl aE) rfl (dE rfl aq) aB aC ar rfl rfl rfl ?_)
    refine aa [488] ?_
    exact cz (k+1) ar ar [(1,some 1),(133,some 133),(146,some 46)] hI rfl rfl ⟨⟨_,rfl,.p rfl⟩,⟨_,rfl,.sl rfl aq⟩,⟨_,rfl,.sl rfl aq⟩,⟨_,rfl,.pure pu⟩,⟨_,rfl,.pure pu⟩,⟨_,rfl,.pure pu⟩,trivial⟩ ⟨.inr ⟨_,_,rfl,rfl,.pure bL⟩,.inr ⟨_,_,rfl,rfl,.pure bL⟩,.inr ⟨_,_,rfl,rfl,.of (NO hq) (.pure bL)⟩,trivial⟩
   ·obtain rfl : k = c.E.length := by have := of_decide_eq_false hc39; omega
    refine aa [463] ?_
    refine ep 146 (cs':=CV.dA (c.E.map dF)) rfl aG <| fS 1 rfl rfl bL <| bJ <| s1 (fV Tryz.underlying76 rfl b5 az rfl rfl) rfl <| s1 ((uR (ds:=((dN c).drop (0*1)).take (32*1)) 32 Tryz.underlying23 cc rfl aJ bn bn (Nat.zero_le _) (Nat.le_refl _) aI rfl rfl).v (KK hx)) rfl <| bK rfl (bX false rfl (.cons (.pure pu) (.nil)) (DW c.x) pu (.inl rfl) rfl ?_)
    refine s1 (bF rfl) rfl <| bK rfl (xb 51 rfl rfl bL aB (B6 aB) rfl (by exact bL) (vQ (c.F.map iY)) pu rfl ?_)
    refine s1 (bF rfl) rfl <| bK rfl (xb 53 rfl rfl bL aB (B6 aB) rfl (by exact bL) (vQ (c.E.map dF)) pu rfl ?_)
    refine bK rfl (jT 55 rfl Tryz.underlying116 da rfl rfl rfl (by simp [cU]) (show _=CV.dA [fK c.x,fc (c.F.map iY),fc (c.E.map dF)]from rfl) rfl rfl rfl ?_)
    refine bK rfl (xb 55 rfl rfl bL rfl (CV.tz [fK c.x,fc (c.F.map iY),fc (c.E.map dF)]) rfl (by exact bL) (vQ [fK c.x,fc (c.F.map iY),fc (c.E.map dF)]) pu rfl ?_)
    refine bK rfl (bX false rfl (.cons (.pure pu) (.nil)) (bO.cast (Du 3 0 [] [fK c.x,fc (c.F.map iY),fc (c.E.map dF)] (Sb hcs hx) (Hv hcs) (Nat.le_trans hel ar)) (Mf hcs)) pu (.inl rfl) rfl ?_)
    refine aa [471,449,56] ?_
    exact(Ew hcs).symm
theorem zB (c:cq) (hx:c.x.length=32) (hn:c.E.length≤maxLen):bO Tryz.prog 29 [.ag (dN c)] (cn (tG c)):=by
 refine enter Tryz.func29 rfl Tryz.ntmps29 aw (Nat.le_of_ble_eq_true rfl) fun w0 X0 hI=>?_
 refine aa [496,68,470] ?_
 rcases nL (eB c)with hcs|hcs
 ·skip
  refine aa [478] ?_
  refine bK rfl (bX false rfl (.cons (.pure pu) (.nil)) (bO.cast (Dt c hx hn) (Eu hcs)) pu (.inl rfl) rfl ?_)
  refine aa [549,513,444] ?_
  refine s1 (cg b5 rfl rfl rfl) rfl ?_
  refine aa [0,9,531] ?_
  refine bW (rs:= [.cell 2 23,.tmp 3]) rfl (c9 b5 rfl rfl rfl rfl (bT rfl bR)) ?_
  exact(L1 hcs).symm
 ·have hel := Ab hcs hx
  refine aa [478] ?_
  refine bK rfl (bX false rfl (.cons (.pure pu) (.nil)) (bO.cast (Dt c hx hn) (Ew hcs)) pu (.inl rfl) rfl ?_)
  refine aa [525,461,445] ?_
  refine bK rfl (bX false rfl (.cons (.pure pu) (.cons (.pure pu) (.nil))) (bO.cast (kB BQ (jk c).enc ar az) (congrArg (fun l:List UInt8=>A.ag (l.map u8)) (Ea c).symm)) pu (.inl rfl) rfl ?_)
  refine aa [9,464] ?_
  refine bW (rs:= [.cell 2 23,.tmp 3]) rfl (c9 b5 rfl rfl (List.take_of_length_le aB) aB (bT rfl bR)) ?_
  exact(vW hcs).symm
end Go.Abs.D2
