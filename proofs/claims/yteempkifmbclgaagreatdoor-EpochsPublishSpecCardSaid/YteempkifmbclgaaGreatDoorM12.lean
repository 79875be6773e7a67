/-
  The engine, the plain laws and the walks that the rows need, part 12. Conditions: none.
-/
import Derived.Test.YteempkifmbclgaaGreatDoorM11
set_option linter.unusedVariables false
set_option linter.unusedSimpArgs false
set_option maxHeartbeats 1000000
set_option maxRecDepth 10000
-- AbsO
namespace Go.Abs
open Go Go.Eng
section
variable {P:Program} {E:Ev} {st:St} {t t' e ty:TypeId} {x y i:Operand}
theorem H5 {by':Nat} {zero:List Value} {k:IntKind} {iv:Int} {n:Nat} {cs:List A} {v:A} (j:Nat) (ht:P.underlying t=some (.array n e)) (he:TI P e 1 by' zero false) (hx:ev E x=some (.ag cs)) (hi:ev E i=some (.i k iv)) (hj:iv=(j:Int)) (hn:j<n) (hv:cs[j]? =some v):YO P E st (.index t x i) ty v:=by
  intro w0 X0 n0 β X a w hr
  obtain⟨h1,h2⟩:=hr.c9 hx
  obtain⟨h3,h4⟩:=hr.c9 hi
  simp only [V]at h2
  obtain⟨us,e1,e2,e3⟩:=h2
  rw [iE]at h4
  rw [e1]at h1
  rw [h4]at h3
  subst hj
  obtain⟨u,g1,g2⟩:=iO e2 hv
  refine⟨u,g2,hr.old fun w' _=>fun d pos b6 g a' w'' hR _=>?_⟩
  have key:(Instr.index t (.agg us.toArray) (.int k (j:Int))).run P w''= .ok u w'':=by
    simp [Instr.index,run_underlying ht,asIntOf,hn,he.sizeOf w'',part,he.isAgg w'',g1,go_sem]
  simp [execOp,hR.ev h1,hR.ev h3,key]
theorem Bq {n:Nat} {cs:List A} (ht:P.underlying t=some (.slice e)) (hx:ev E x=some (.fz n cs)) (hy:ev E y=some .nl) (hn:0<n):YO P E st (.binOp .eql t x y t') ty (.b false):=by
  intro w0 X0 n0 β X a w hr
  obtain⟨h1,h2⟩:=hr.c9 hx
  obtain⟨h3,h4⟩:=hr.c9 hy
  simp only [V]at h2 h4
  obtain⟨ad,cap,g1,g2,g3,g4,_⟩:=h2
  rw [g1]at h1;rw [h4]at h3
  have hs:ad.isNone=false:=by
    cases ad with
    |none=>have:=g4 rfl;omega
    |some _=>rfl
  exact⟨.bool ad.isNone,by simp only [V,hs],hr.old fun w' _=>Eng.ya ht h1 h3⟩
end
end Go.Abs
-- C5A
namespace Go.Abs.D2
open Go Go.Eng Go.Abs
@[irreducible] def o9 (x:List UInt8):List UInt8:=tagged [115,116,101,112] x
theorem Ba (x:List UInt8):o9 x=tagged [115,116,101,112] x:=by unfold o9;rfl
@[simp] theorem Mm (x:List UInt8):(o9 x).length=32:=by rw [Ba];simp
def gi:Nat→List UInt8→List UInt8
  |0,x=>x
  |k+1,x=>o9 (gi k x)
theorem jr {x:List UInt8} (h:x.length=32):∀k,(gi k x).length=32
  |0=>h
  |_+1=>Mm _
@[irreducible] def iJ (s:List UInt8) (i:Nat):List UInt8:=tagged [99,104,97,105,110] (s++ [UInt8.ofNat i])
theorem zT (s:List UInt8) (i:Nat):iJ s i=tagged [99,104,97,105,110] (s++ [UInt8.ofNat i]):=by unfold iJ;rfl
@[simp] theorem Rn (s:List UInt8) (i:Nat):(iJ s i).length=32:=by rw [zT];simp
@[irreducible] def ml (L:List (List UInt8)):List UInt8:=tagged [112,117,98,108,105,99] L.flatten
theorem Ah (L:List (List UInt8)):ml L=tagged [112,117,98,108,105,99] L.flatten:=by unfold ml;rfl
@[simp] theorem E4 (L:List (List UInt8)):(ml L).length=32:=by rw [Ah];simp
abbrev nI (n:Nat):A:= .i .i64 (n:Int)
@[irreducible] def ke (m:List UInt8) (i:Nat):Nat:=(m.getD (i / 4) 0).toNat / 2 ^ (6 - 2*(i % 4)) % 4
theorem zu (m:List UInt8) (i:Nat):ke m i=(m.getD (i / 4) 0).toNat / 2 ^ (6 - 2*(i % 4)) % 4:=by unfold ke;rfl
theorem vF (m:List UInt8) (i:Nat):ke m i<4:=by rw [zu];omega
@[irreducible] def dl (m:List UInt8) (k:Nat):List Nat:=(List.range k).map (ke m)
theorem Di (m:List UInt8):dl m 0= []:=by unfold dl;rfl
theorem zA (m:List UInt8) (k:Nat):dl m (k+1)=dl m k++ [ke m k]:=by unfold dl;simp [List.range_succ]
@[simp] theorem Rl (m:List UInt8) (k:Nat):(dl m k).length=k:=by unfold dl;simp
theorem Mx {m:List UInt8} {k d:Nat} (h:d∈dl m k):d<4:=by
  unfold dl at h
  obtain⟨i,_,rfl⟩:=List.mem_map.1 h
  exact vF m i
@[irreducible] def fq (m:List UInt8) (k:Nat):Nat:=((List.range k).map fun i=>3 - ke m i).sum
theorem Bc (m:List UInt8):fq m 0=0:=by unfold fq;rfl
theorem Bd (m:List UInt8) (k:Nat):fq m (k+1)=fq m k+(3 - ke m k):=by unfold fq;simp [List.range_succ]
theorem qw (m:List UInt8):∀k,fq m k≤3*k
  |0=>by rw [Bc];omega
  |k+1=>by rw [Bd];have:=qw m k;omega
def oe (s:Nat):Nat→List Nat
  |0=> []
  |j+1=>(s / 4 ^ j % 4)::oe s j
theorem Am (s:Nat):∀j,(oe s j).length=j
  |0=>rfl
  |j+1=>by simp [oe,Am s j]
theorem Fw {s d:Nat}:∀ {j},d∈oe s j→d<4
  |0,h=>by cases h
  | j + 1, h => by
    rcases List.mem_cons.1 h with rfl|h
    · omega
    · exact Fw h
@[irreducible] def digits (m:List UInt8):List Nat:=dl m 16++oe (fq m 16) 3
theorem vG (m:List UInt8):digits m=dl m 16++oe (fq m 16) 3:=by unfold digits;rfl
@[simp] theorem Rh (m:List UInt8):(digits m).length=19:=by rw [vG];simp [Am]
theorem Mw {m:List UInt8} {d:Nat} (h:d∈digits m):d<4:=by
  rw [vG]at h
  rcases List.mem_append.1 h with h|h
  · exact Mx h
  · exact Fw h
theorem z8 {m:List UInt8} (i:Nat) (hi:i<m.length):((m.map u8).drop (0+i*1))[0]? =some (u8 (m.getD i 0)):=by
  simp [hi]
theorem ID:∀n:Fin 256,mO .and .i64 (IntKind.i64.wrap (n.val:Int)) 3=((n.val % 4:Nat):Int):=by decide+kernel
theorem Kj (m:List UInt8) (i:Nat):A.i .i64 (mO .and .i64 (IntKind.i64.wrap ((UInt8.ofNat ((m.getD (i / 4) 0).toNat / 2 ^ (6 - 2*(i % 4)))).toNat:Int)) 3)=nI (ke m i):=by
  have hb:=(m.getD (i / 4) 0).toNat_lt
  have hd:(m.getD (i / 4) 0).toNat / 2 ^ (6 - 2*(i % 4))<256:=Nat.lt_of_le_of_lt (Nat.div_le_self _ _) hb
  rw [Bk hd,zu]
  exact congrArg (A.i .i64) (ID ⟨_,hd⟩)
theorem Ps (m:List UInt8) (k:Nat) (h:k<16):((dl m k).map nI++List.replicate (19 - k) (nI 0)).set (0+k*1) (nI (ke m k))=(dl m (k+1)).map nI++List.replicate (19 - (k+1)) (nI 0):=by
  rw [show 0+k*1=k by omega,uz k aA aq,zA]
  simp
  omega
theorem Lp (m:List UInt8) (k:Nat) {cs:List A} (hc:cs=((dl m (k+1)).map nI++List.replicate (19 - (k+1)) (nI 0)).drop (0+k*1)):cs[0]? =some (nI (ke m k)):=by
  subst hc
  rw [List.getElem?_drop,show 0+k*1+0=k by omega,List.getElem?_append_left aA,zA]
  simp
abbrev pf (m:List UInt8) (j:Nat):List A:=(dl m 16).map nI++List.replicate (3 - j) (nI 0)++(oe (fq m 16) j).map nI
theorem PA (m:List UInt8) (j:Nat) (h:j<3):(pf m j).set (0+(18 - j)*1) (nI (fq m 16 / 4 ^ j % 4))=pf m (j+1):=by
  have hl:((dl m 16).map nI).length=16:=by simp
  have key:∀(A B:List Go.Abs.A) (x:Go.Abs.A) (i:Nat),A.length=16→(A++B).set (16+i) x=A++B.set i x:=fun A B x i hA=>by
    rw [List.set_append,if_neg aq];congr 2;omega
  unfold pf
  rw [List.append_assoc,List.append_assoc]
  match j,h with
  |0,_=>exact key _ _ _ 2 hl
  |1,_=>exact key _ _ _ 1 hl
  |2,_=>exact key _ _ _ 0 hl
theorem Qb (m:List UInt8):(dl m 16).map nI++List.replicate (19 - 16) (nI 0)=pf m 0:=by simp [pf,oe]
theorem Qc (m:List UInt8):pf m 3=(digits m).map nI:=by rw [vG];simp [pf]
theorem xR {L:List (List UInt8)} {i:Nat} {p:List UInt8} (h:L[i]? =some p):(L.take i).flatten++p=(L.take (i+1)).flatten:=by
  rw [List.take_add_one,h];simp
theorem Mg {L:List (List UInt8)} {i:Nat} {p:List UInt8} (h:L[i]? =some p):(L.take i).flatten.length+p.length=(L.take (i+1)).flatten.length∧(L.take (i+1)).flatten.length≤L.flatten.length:=by
  refine⟨by rw [←xR h];simp,?_⟩
  have e:L.flatten.length=((L.take (i+1)).flatten++(L.drop (i+1)).flatten).length:=by rw [←List.flatten_append,List.take_append_drop]
  rw [e,List.length_append];omega
-- C5P
abbrev lq (n:Nat) (L:List (List UInt8)):List A:=L.flatten.map u8++List.replicate ((n - L.length)*32) (u8 0)
theorem Gj {n o:Nat} {L:List (List UInt8)} {d:List UInt8} (hD:cg L) (hl:L.length<n) (ho:o=L.length*32):(lq n L).take (0+o)++d.map u8++(lq n L).drop (0+o+32)=lq n (L++ [d]):=by
  subst ho
  have e:(L.flatten.map u8).length=L.length*32:=by rw [List.length_map,hD.len]
  unfold lq
  rw [Nat.zero_add,List.take_append_of_le_length aq,List.take_of_length_le aq,List.drop_append,List.drop_of_length_le aq,e,show L.length*32+32 - L.length*32=32 by omega,List.drop_replicate]
  simp only [List.nil_append,List.flatten_append,List.flatten_cons,List.flatten_nil,List.append_nil,List.map_append,List.length_append,List.length_cons,List.length_nil,Nat.zero_add]
  rw [show(n - L.length)*32 - 32=(n - (L.length+1))*32 by omega]
theorem BZ (n:Nat):List.replicate (n*32) (u8 0)=lq n []:=by simp [lq]
theorem B0 {n:Nat} {L:List (List UInt8)} (h:L.length=n):lq n L=L.flatten.map u8:=by simp [lq,h]
theorem EW {n:Nat} {L:List (List UInt8)} (hD:cg L) (h:L.length≤n):(lq n L).length=n*32:=by
  simp only [lq,List.length_append,List.length_map,List.length_replicate,hD.len]
  omega
abbrev uD (k:Nat):A:= .sl 1 1 (0+k*32) 32
abbrev ob (i:Nat):List A:=(List.range i).map uD++List.replicate (19 - i) .nl
theorem Py (i:Nat) (h:i<19):(ob i).set (0+i*1) (uD i)=ob (i+1):=by
  unfold ob
  rw [show 0+i*1=i by omega,uz i aA aq,List.range_succ]
  simp
  omega
theorem Gt {ρ:gy} (h:gW ρ 1=some (some 1)):∀l:List Nat,iw ρ (l.map uD) (l.map uD)
  | []=> .nil
  |_::l=> .cons (.sl h rfl) (Gt h l)
theorem Oi {ρ:gy} (h:gW ρ 1=some (some 1)) (i:Nat):iw ρ (ob i) (ob i):=
  (Gt h _).app (.pure (by
    have:∀k,dF (List.replicate k A.nl):=fun k=>by
      induction k with
      |zero=>trivial
      |succ k ih=>exact⟨trivial,ih⟩
    exact this _))
theorem HN {st:St} {L:List (List UInt8)} (hD:cg L) (hg:st.get 1=some (L.flatten.map u8)):∀(n k:Nat),n+k=L.length→cK st ⟨[]⟩ true ((List.range' k n).map uD) ((L.drop k).map eU)
  | 0, k, h => by
    rw [List.drop_of_length_le aq]
    exact .nil
  | n + 1, k, h => by
    have hk:k<L.length:=by omega
    have hm:L[k]∈L:=List.getElem_mem hk
    rw [List.drop_eq_getElem_cons hk,List.range'_succ]
    refine .cons ?_ (HN hD hg n (k+1) aq)
    have e:((L.flatten.map u8).drop (0+k*32)).take (32*1)=L[k].map u8:=by
      rw [Nat.zero_add, ←List.map_drop, ←List.map_take,hD.tt k,show 32*1=1*32 by omega,(hD.drop k).xQ 1]
      rw [List.drop_eq_getElem_cons hk]
      simp only [List.take_succ_cons,List.take_zero,List.flatten_cons,List.flatten_nil,List.append_nil]
    exact .sl rfl hg (hD _ hm).symm e (cK.pure bO) bO
theorem QB {st:St} {L:List (List UInt8)} (hD:cg L) (hl:L.length=19) (hg:st.get 1=some (L.flatten.map u8)):cK st ⟨[]⟩ true (ob 19) (L.map eU):=by
  have:=HN hD hg 19 0 aq
  rw [List.drop_zero]at this
  simpa [ob,List.range_eq_range']using this
@[irreducible] def jS (s:List UInt8) (i:Nat):List (List UInt8):=(List.range i).map fun k=>gi 3 (iJ s k)
theorem xh (s:List UInt8):jS s 0= []:=by unfold jS;rfl
theorem xj (s:List UInt8) (i:Nat):jS s (i+1)=jS s i++ [gi 3 (iJ s i)]:=by unfold jS;simp [List.range_succ]
@[simp] theorem nX (s:List UInt8) (i:Nat):(jS s i).length=i:=by unfold jS;simp
theorem pw (s:List UInt8):∀i,cg (jS s i)
  |0=>by rw [xh];exact fun x h=>by cases h
  |i+1=>by rw [xj];exact(pw s i).app (.one (jr aA _))
def mZ (s:List UInt8):List UInt8:=ml (jS s 19)
@[simp] theorem Rv (s:List UInt8):(mZ s).length=32:=E4 _
abbrev dg (m:List UInt8) (k:Nat):Nat:=(digits m).getD k 0
theorem tq (m:List UInt8) (k:Nat):dg m k<4:=by
  rcases Nat.lt_or_ge k (digits m).length with h|h
  · simp only [dg,List.getD_eq_getElem?_getD,List.getElem?_eq_getElem h];exact Mw (List.getElem_mem h)
  · simp only [dg,List.getD_eq_getElem?_getD,List.getElem?_eq_none h];decide
theorem Ab (m:List UInt8) (k:Nat) (h:k<19):((digits m).map nI)[k]? =some (nI (dg m k)):=by
  have:k<(digits m).length:=by simpa using h
  simp [dg,List.getElem?_eq_getElem this]
def jY (s m:List UInt8) (i:Nat):List (List UInt8):=(List.range i).map fun k=>gi (dg m k) (iJ s k)
theorem PK (s m:List UInt8):jY s m 0= []:=rfl
theorem Hj (s m:List UInt8) (i:Nat):jY s m (i+1)=jY s m i++ [gi (dg m i) (iJ s i)]:=by simp [jY,List.range_succ]
@[simp] theorem rP (s m:List UInt8) (i:Nat):(jY s m i).length=i:=by simp [jY]
theorem qK (s m:List UInt8):∀i,cg (jY s m i)
  |0=>by rw [PK];exact fun x h=>by cases h
  |i+1=>by rw [Hj];exact(qK s m i).app (.one (jr aA _))
abbrev jX (s m:List UInt8):List (List UInt8):=jY s m 19
theorem Hl (s m:List UInt8) (i:Nat):(jY s m i).flatten.map u8++(gi (dg m i) (iJ s i)).map u8=(jY s m (i+1)).flatten.map u8:=by rw [Hj];simp
def jW (m:List UInt8) (S:List (List UInt8)) (i:Nat):List (List UInt8):=(List.range i).map fun k=>gi (3 - dg m k) (S.getD k [])
theorem xv (m:List UInt8) (S:List (List UInt8)):jW m S 0= []:=rfl
theorem xw (m:List UInt8) (S:List (List UInt8)) (i:Nat):jW m S (i+1)=jW m S i++ [gi (3 - dg m i) (S.getD i [])]:=by simp [jW,List.range_succ]
@[simp] theorem nY (m:List UInt8) (S:List (List UInt8)) (i:Nat):(jW m S i).length=i:=by simp [jW]
theorem yf {m:List UInt8} {S:List (List UInt8)} (hS:cg S):∀i,i≤S.length→cg (jW m S i)
  |0,_=>by rw [xv];exact fun x h=>by cases h
  | i + 1, h => by
    rw [xw]
    have:S.getD i []∈S:=by simp [List.getElem?_eq_getElem (show i<S.length by omega)]
    exact(yf hS i aq).app (.one (jr (hS _ this) _))
def gJ (m:List UInt8) (S:List (List UInt8)):List UInt8:=if S.length=19 then ml (jW m S 19)else List.replicate 32 0
def jV (S:List (List UInt8)):Nat:=if S.length=19 then 0 else 50
@[simp] theorem Rw (m:List UInt8) (S:List (List UInt8)):(gJ m S).length=32:=by unfold gJ;split<;>simp
theorem ur {m:List UInt8} {S:List (List UInt8)} (h:S.length=19):gJ m S=ml (jW m S 19)∧jV S=0:=⟨if_pos h,if_pos h⟩
theorem xx {m:List UInt8} {S:List (List UInt8)} (h:S.length≠19):gJ m S=List.replicate 32 0∧jV S=50:=⟨if_neg h,if_neg h⟩
theorem Aa {L:List (List UInt8)} (h:cg L) {k:Nat} {q:List UInt8} (hq:L[k]? =some q):((L.flatten.map u8).drop (k*32)).take 32=q.map u8:=by
  have hk:=(List.getElem?_eq_some_iff.1 hq).1
  rw [←List.map_drop, ←List.map_take,h.tt k,show 32=1*32 by omega,(h.drop k).xQ 1,List.drop_eq_getElem_cons hk]
  simp only [List.take_succ_cons,List.take_zero,List.flatten_cons,List.flatten_nil,List.append_nil]
  rw [(List.getElem?_eq_some_iff.1 hq).2]
theorem E3 {x:List UInt8} (h:x.length=32) {k:Nat}:(cw (.ag ((gi k x).map u8))).length=32:=by
  show((gi k x).map u8).length=32
  rw [List.length_map];exact jr h k
def nk (b k:Nat):Nat:=b % 4 ^ (4 - k)*4 ^ k
theorem MO {b:Nat} (h:b<256):nk b 0=b:=by unfold nk;simp;omega
theorem MQ {b k:Nat} (hk:k<4):nk b k % 64*4=nk b (k+1):=by
  match k,hk with
  |0,_=>simp only [nk];omega
  |1,_=>simp only [nk];omega
  |2,_=>simp only [nk];omega
  |3,_=>simp only [nk];omega
theorem MP {b k:Nat} (hk:k≤4):nk b k<1024:=by
  match k,hk with
  |0,_=>simp only [nk];omega
  |1,_=>simp only [nk];omega
  |2,_=>simp only [nk];omega
  |3,_=>simp only [nk];omega
  |4,_=>simp only [nk];omega
theorem Ar {m:List UInt8} {i k:Nat} (hk:k<4):nk (m.getD i 0).toNat k / 64=ke m (4*i+k):=by
  rw [zu,show(4*i+k) / 4=i by omega,show(4*i+k) % 4=k by omega]
  have hb:=(m.getD i 0).toNat_lt
  match k,hk with
  |0,_=>simp only [nk];omega
  |1,_=>simp only [nk];omega
  |2,_=>simp only [nk];omega
  |3,_=>simp only [nk];omega
theorem P5 {m:List UInt8} {k d:Nat} (hd:d=ke m k):fq m k+3 - d=fq m (k+1):=by
  subst hd
  have:=vF m k
  rw [Bd];omega
theorem Kr {m:List UInt8} {k d:Nat} (hd:d=ke m k):(dl m k).map nI++ [nI d]=(dl m (k+1)).map nI:=by rw [zA,hd];simp
theorem Kl (m:List UInt8):(dl m 16).map nI++ [nI (fq m 16 / 16),nI (fq m 16 / 4 % 4),nI (fq m 16 % 4)]=(digits m).map nI:=by
  have:=qw m 16
  rw [vG]
  simp only [oe,List.map_append,List.map_cons,List.map_nil]
  rw [show fq m 16 / 4 ^ 2 % 4=fq m 16 / 16 by omega,show fq m 16 / 4 ^ 1 % 4=fq m 16 / 4 % 4 by omega,show fq m 16 / 4 ^ 0 % 4=fq m 16 % 4 by omega]
theorem JW (b:UInt8):A.i .i64 (IntKind.i64.wrap (b.toNat:Int))=nI b.toNat:=by
  have:=b.toNat_lt
  exact congrArg (A.i .i64) (oh _ aq aq)
theorem NK (s:List UInt8) (i:Nat):(jS s i).flatten.map u8++(gi 3 (iJ s i)).map u8=(jS s (i+1)).flatten.map u8:=by rw [xj];simp
theorem N9 {m:List UInt8} {S:List (List UInt8)} {i:Nat} {q:List UInt8} (hq:S.getD i []=q):(jW m S i).flatten.map u8++(gi (3 - dg m i) q).map u8=(jW m S (i+1)).flatten.map u8:=by rw [xw,hq];simp
theorem Ej (m:List UInt8) (k:Nat) (h:k<19):(((digits m).map nI).drop (k*1))[0]? =some (nI (dg m k)):=by
  rw [List.getElem?_drop,show k*1+0=k by omega];exact Ab m k h
theorem J0 {L:List (List UInt8)} (h:cg L) {k:Nat} {q:List UInt8} (hq:L[k]? =some q):((((L.flatten.map u8).drop (k*32)).drop (0*1)).take (32*1))=q.map u8:=by
  rw [Nat.zero_mul,List.drop_zero,Nat.mul_one];exact Aa h hq
-- C5Q
theorem EF (x:List UInt8) (j:Nat):∀k,gi k (gi j x)=gi (k+j) x
  |0=>by rw [Nat.zero_add];rfl
  |k+1=>by rw [show k+1+j=(k+j)+1 by omega];show o9 _=o9 _;rw [EF x j k]
theorem PL (s m:List UInt8) {n i:Nat} (h:i<n):(jY s m n).getD i []=gi (dg m i) (iJ s i):=by
  simp [jY,h]
theorem Gs (s m:List UInt8):∀i,i≤19→jW m (jX s m) i=jS s i
  |0,_=>by rw [xv,xh]
  | i + 1, h => by
    rw [xw,xj,Gs s m i aq,PL s m aq,EF,show 3 - dg m i+dg m i=3 by have:=tq m i;omega]
theorem N7 (s m:List UInt8):gJ m (jX s m)=mZ s∧jV (jX s m)=0:=by
  obtain⟨h1,h2⟩:=ur (m:=m) (S:=jX s m) aA
  exact⟨by rw [h1,Gs s m 19 aq];rfl,h2⟩
-- C5R
-- D2U
def k7:Nat→Nat→Nat→List Bool
  |0,_,_=> []
  |f+1,i,n=>if n≤1 then []else if i<cC n then false::k7 f i (cC n)else true::k7 f (i - cC n) (n - cC n)
theorem xC:∀(f g i n:Nat),n≤f→n≤g→k7 f i n=k7 g i n
  |0,0,_,_,_,_=>rfl
  |0,g+1,i,n,h,_=>by rw [k7,k7,if_pos aq]
  |f+1,0,i,n,_,h=>by rw [k7,k7,if_pos aq]
  | f + 1, g + 1, i, n, h1, h2 => by
    rw [k7,k7]
    by_cases h:n≤1
    · rw [if_pos h,if_pos h]
    · have hh := ia (n := n) aq
      rw [if_neg h,if_neg h,xC f g i (cC n) aq aq,xC f g _ (n - cC n) aq aq]
@[irreducible] def eZ (i n:Nat):List Bool:=k7 n i n
theorem qp {i n:Nat} (h:n≤1):eZ i n= []:=by
  unfold eZ
  match n,h with
  |0,_=>rfl
  |1,_=>rfl
theorem oW {i n:Nat} (h:2≤n) (hi:i<cC n):eZ i n=false::eZ i (cC n):=by
  have hh:=ia h
  unfold eZ
  obtain⟨f,rfl⟩:∃f,n=f+1:=⟨n - 1,by omega⟩
  rw [k7,if_neg aq,if_pos hi,xC f _ _ _ aq (Nat.le_refl _)]
theorem oX {i n:Nat} (h:2≤n) (hi:¬i<cC n):eZ i n=true::eZ (i - cC n) (n - cC n):=by
  have hh:=ia h
  unfold eZ
  obtain⟨f,rfl⟩:∃f,n=f+1:=⟨n - 1,by omega⟩
  rw [k7,if_neg aq,if_neg hi,xC f _ _ _ aq (Nat.le_refl _)]
theorem qo:∀(f i n:Nat),n≤f→(eZ i n).length≤f
  |0,i,n,h=>by rw [qp aq];simp
  | f + 1, i, n, h => by
    by_cases h1:n≤1
    · rw [qp h1];simp
    · have hh := ia (n := n) aq
      by_cases hi:i<cC n
      · rw [oW aq hi];have:=qo f i (cC n) aq;simp;omega
      · rw [oX aq hi];have:=qo f (i - cC n) (n - cC n) aq;simp;omega
theorem Ow {i n:Nat} (h:2≤n):1≤(eZ i n).length:=by
  by_cases hi:i<cC n
  · rw [oW h hi];simp
  · rw [oX h hi];simp
def fold:List Bool→List (List UInt8)→List UInt8→List UInt8
  |b::bs,q::ps,x=>fold bs ps (if b then lJ q x else lJ x q)
  |_,_,x=>x
theorem vX:∀(bs:List Bool) (ps:List (List UInt8)) (b:Bool) (q x:List UInt8),bs.length=ps.length→fold (bs++ [b]) (ps++ [q]) x=if b then lJ q (fold bs ps x)else lJ (fold bs ps x) q
  | [], [],b,q,x,_=>by simp [fold]
  | c :: bs, r :: ps, b, q, x, h => by
    simp only [List.cons_append,fold]
    exact vX bs ps b q _ aO
def rL (d:List UInt8):List UInt8:=tagged [108,101,97,102] d
def jC (d:List UInt8) (i n:Nat) (p:List (List UInt8)):List UInt8:=fold (eZ i n).reverse p (rL d)
theorem CU {d:List UInt8} {i n:Nat} {p:List (List UInt8)} (h:n≤1):jC d i n p=rL d:=by
  unfold jC;rw [qp h];simp [fold]
theorem CS {d q:List UInt8} {i n:Nat} {p:List (List UInt8)} (h:2≤n) (hi:i<cC n) (hl:p.length=(eZ i (cC n)).length):jC d i n (p++ [q])=lJ (jC d i (cC n) p) q:=by
  unfold jC
  rw [oW h hi,List.reverse_cons,vX _ _ _ _ _ (by simpa using hl.symm)]
  rfl
theorem CW {d q:List UInt8} {i n:Nat} {p:List (List UInt8)} (h:2≤n) (hi:¬i<cC n) (hl:p.length=(eZ (i - cC n) (n - cC n)).length):jC d i n (p++ [q])=lJ q (jC d (i - cC n) (n - cC n) p):=by
  unfold jC
  rw [oX h hi,List.reverse_cons,vX _ _ _ _ _ (by simpa using hl.symm)]
  rfl
theorem Ak:∀(bs:List Bool) (ps:List (List UInt8)) (x:List UInt8),x.length=32→(fold bs ps x).length=32
  | [],_,x,h=>by simpa only [fold]using h
  |_::_, [],x,h=>by simpa only [fold]using h
  | b :: bs, q :: ps, x, h => by
    simp only [fold]
    exact Ak bs ps _ (by split<;>exact kL _ _)
@[simp] theorem EZ (d:List UInt8) (i n:Nat) (p:List (List UInt8)):(jC d i n p).length=32:=Ak _ _ _ (kL _ _)
def fits (a n:Int) (m:Nat):Prop:=1≤n∧n≤1099511627776∧0≤a∧a<n∧m=(eZ a.toNat n.toNat).length
instance (a n:Int) (m:Nat):Decidable (fits a n m):=by unfold fits;infer_instance
def lB (d:List UInt8) (a n:Int) (p:List (List UInt8)):A:=if fits a n p.length then .tu [.ag ((jC d a.toNat n.toNat p).map u8),.i .i64 0]else .tu [.ag ((List.replicate 32 (0:UInt8)).map u8),.i .i64 1]
def mV (L:List (List UInt8)) (a:Int):A:=if 0≤a∧a<L.length then .tu [cM (path L a.toNat),.i .i64 0]else .tu [.nl,.i .i64 1]
theorem uv:∀(f:Nat) (L:List (List UInt8)) (i:Nat),L.length≤f→(path L i).length=(eZ i L.length).length
  |0,L,i,h=>by rw [mW i aq,qp aq];rfl
  | f + 1, L, i, h => by
    by_cases h1:L.length≤1
    · rw [mW i h1,qp h1];rfl
    · have hh := ia (n := L.length) aq
      by_cases hi:i<cC L.length
      · rw [oS aq hi,oW aq hi,List.length_append,uv f _ _ aG,List.length_take,Nat.min_eq_left aq];rfl
      · rw [oT aq hi,oX aq hi,List.length_append,uv f _ _ aF,List.length_drop];rfl
theorem zf : ∀ (f : Nat) (L : List (List UInt8)) (i : Nat) (d : List UInt8), L.length ≤ f → L[i]? = some d → jC d i L.length (path L i) = tree L
  | 0, L, i, d, h, hd => by
    have:=(List.getElem?_eq_some_iff.1 hd).1;omega
  | f + 1, L, i, d, h, hd => by
    have hlt:=(List.getElem?_eq_some_iff.1 hd).1
    by_cases h1:L.length≤1
    · obtain ⟨x, rfl⟩ := List.length_eq_one_iff.1 (show L.length = 1 by omega)
      have:i=0:=by simp at hlt;omega
      subst this
      simp only [List.getElem?_cons_zero,Option.some.injEq]at hd
      subst hd
      rw [CU aA,xW];rfl
    · have hh := ia (n := L.length) aq
      by_cases hi:i<cC L.length
      · have hT : (L.take (cC L.length)).length = cC L.length := by rw [List.length_take]; omega
        have ih:=zf f (L.take (cC L.length)) i d aq (by rw [List.getElem?_take,if_pos hi];exact hd)
        have hr:=uv f (L.take (cC L.length)) i aq
        rw [hT]at ih hr
        rw [oS aq hi,CS aq hi hr,ih,uI (L:=L) aq]
      · have hT : (L.drop (cC L.length)).length = L.length - cC L.length := by rw [List.length_drop]
        have ih:=zf f (L.drop (cC L.length)) (i - cC L.length) d aq (by rw [List.getElem?_drop,show cC L.length+(i - cC L.length)=i by omega];exact hd)
        have hr:=uv f (L.drop (cC L.length)) (i - cC L.length) aq
        rw [hT]at ih hr
        rw [oT aq hi,CW aq hi hr,ih,uI (L:=L) aq]
theorem C1 {p:List (List UInt8)} {q:List UInt8} (h:cg (p++ [q])):A.fz p.length ((((p++ [q]).flatten.map u8).drop (0*32)).take (p.length*32))=cM p:=by
  rw [pL h aA,List.take_left]
theorem we {P:List (List UInt8)} (h:cg P) {i:Nat} {q:List UInt8} (hq:P[i]? =some q):((P.flatten.map u8).drop (i*32)).take 32=q.map u8:=by
  have hlt:=(List.getElem?_eq_some_iff.1 hq).1
  rw [←List.map_drop,h.tt, ←List.map_take]
  congr 1
  rw [List.drop_eq_getElem_cons hlt,List.flatten_cons,List.take_left' (h _ (List.getElem_mem hlt))]
  exact(List.getElem?_eq_some_iff.1 hq).2
theorem DY {bs:List Bool} {ps:List (List UInt8)} {x q:List UInt8} {b:Bool} {j:Nat} (hb:bs[j]? =some b) (hq:ps[j]? =some q):fold (bs.take (j+1)) (ps.take (j+1)) x=if b then lJ q (fold (bs.take j) (ps.take j) x)else lJ (fold (bs.take j) (ps.take j) x) q:=by
  have h1:=(List.getElem?_eq_some_iff.1 hb).1
  have h2:=(List.getElem?_eq_some_iff.1 hq).1
  rw [List.take_add_one,List.take_add_one,hb,hq]
  exact vX _ _ _ _ _ aE
theorem Lo {ds:List Bool} {j:Nat} {b:Bool} (hb:ds[j]? =some b):((ds.map A.b).drop (0+j*1))[0]? =some (.b b):=by
  rw [List.getElem?_drop,List.getElem?_map,show 0+j*1+0=j by omega,hb];rfl
theorem LA {P:List (List UInt8)} (h:P≠ []):∃p q,P=p++ [q]:=⟨P.dropLast,P.getLast h,(List.dropLast_concat_getLast h).symm⟩
-- D2V
def zw (s:List UInt8) (k:Nat):List UInt8:= [s.getD k 0 % 4,UInt8.ofNat (k / 8)]++List.replicate 30 0
def Dg (s:List UInt8) (i:Nat):List (List UInt8):=(List.range i).map (zw s)
@[simp] theorem Rk (s:List UInt8) (i:Nat):(Dg s i).length=i:=by simp [Dg]
@[simp] theorem Rf (s:List UInt8) (k:Nat):(zw s k).length=32:=by simp [zw]
theorem K0 {i n m:Nat} (h:i<n) (hn:n≤1099511627776) (hm:m=(eZ i n).length):fits (i:Int) (n:Int) m:=⟨by omega,by omega,by omega,by omega,by rw [Int.toNat_natCast,Int.toNat_natCast];exact hm⟩
def kG (d:List UInt8) (a n:Int) (p:List (List UInt8)):List UInt8:=if fits a n p.length then jC d a.toNat n.toNat p else List.replicate 32 0
def lC (a n:Int) (m:Nat):Int:=if fits a n m then 0 else 1
theorem CR (d:List UInt8) (a n:Int) (p:List (List UInt8)):lB d a n p= .tu [.ag ((kG d a n p).map u8),.i .i64 (lC a n p.length)]:=by
  unfold lB kG lC
  split<;>rfl
@[simp] theorem Rb (d : List UInt8) (a n : Int) (p : List (List UInt8)) : (kG d a n p).length = 32 := by
  unfold kG
  split<;>simp
theorem Ny {L:List (List UInt8)} {i:Nat} (h:i<L.length) (hl:L.length≤1099511627776):fits (i:Int) (L.length:Int) (path L i).length:=K0 h hl (uv _ L i (Nat.le_refl _))
def Nd:List UInt8:=1::List.replicate 31 0
@[simp] theorem Rt:Nd.length=32:=rfl
@[simp] theorem Rp (d:List UInt8):(rL d).length=32:=kL _ _
@[simp] theorem Rq (a b:List UInt8):(lJ a b).length=32:=kL _ _
theorem JO {L:List (List UInt8)} {i:Nat} {q:List UInt8} (h:L[i]? =some q) (hl:L.length≤1099511627776):kG q (i:Int) (L.length:Int) (path L i)=tree L∧lC (i:Int) (L.length:Int) (path L i).length=0:=by
  have hi:=(List.getElem?_eq_some_iff.1 h).1
  have hf:=Ny hi hl
  unfold kG lC
  rw [if_pos hf,if_pos hf,Int.toNat_natCast,Int.toNat_natCast]
  exact⟨zf _ L i q (Nat.le_refl _) h,rfl⟩
end Go.Abs.D2
-- AbsP
namespace Go.Abs
open Go Go.Eng
section
variable {P:Program} {w0:Bw} {X0:Xs} {n:Nat} {E:Ev} {st:St} {K:Act→World→Prop}
theorem iy (t:Nat) {id:Nat} {cs:List A} (ht:E.cF t=some (.p id 0)) (hg:st.get id=some cs) (hp:dF cs) (h:At w0 X0 n ((t,.fp cs)::E) (st.del id) K):At w0 X0 n E st K:=by
  rintro a w ⟨β,X,hr⟩
  obtain⟨u,g1,g2⟩:=hr.slot t _ ht
  simp only [V]at g2
  obtain⟨b,N,hβ,rfl⟩:=g2
  obtain⟨m1,m2,m3,m4⟩:=hr.mem.freeze hg hβ
  refine h a w ⟨β,_,hr.uy ht m1 m2 m3 fun u hu=>?_⟩
  simp only [V]at hu ⊢
  obtain⟨b',N',hb',rfl⟩:=hu
  rw [hβ]at hb'
  simp only [Option.some.injEq,BL.bk.injEq]at hb'
  obtain⟨rfl,rfl⟩:=hb'
  have:=m4 0 cs.length hp
  rw [List.drop_zero,List.take_length]at this
  exact⟨b,0,rfl,this⟩
variable {t t' ty:TypeId} {x:Operand}
theorem x9 {v:A} (hc:P.concrete t=true) (hx:ev E x=some v):YO P E st (.makeInterface t x) ty (.ic t v):=by
  intro w0 X0 n0 β X a w hr
  obtain⟨h1,h2⟩:=hr.c9 hx
  refine⟨.iface t _,by simp only [V];exact⟨_,rfl,h2⟩,hr.old fun w' _=>fun d pos b6 g a' w'' hR _=>?_⟩
  simp [execOp,hR.ev h1,run_makeInterface w'' t _ hc]
def Ez:TypeDesc→Bool
  | .interface _=>true
  |_=>false
theorem yd {v:A} {d:TypeDesc} (hu:P.underlying t=some d) (hd:Ez d=false) (hx:ev E x=some (.ic t v)):YO P E st (.typeAssert x t' t true) ty (.tu [v,.b true]):=by
  intro w0 X0 n0 β X a w hr
  obtain⟨h1,h2⟩:=hr.c9 hx
  simp only [V]at h2
  obtain⟨u,e1,e2⟩:=h2
  rw [e1]at h1
  refine⟨.tuple #[u,.bool true],by simp only [V];exact⟨[u,.bool true],rfl,eV e2 (eV aW fM)⟩,hr.old fun w' _=>fun d' pos b6 g a' w'' hR _=>?_⟩
  have key:(Instr.typeAssert (.iface t u) t' t true).run P w''= .ok (.tuple #[u,.bool true]) w'':=by
    cases d<;>first|(cases hd;done)|simp [Instr.typeAssert,run_underlying hu]
  simp [execOp,hR.ev h1,key]
theorem Bu {t2:TypeId} {v:A} {d:TypeDesc} {z:Value} (hu:P.underlying t=some d) (hd:Ez d=false) (hz:(P.info? t).bind (·.zero)=some z) (hx:ev E x=some (.ic t2 v)) (hne:Nat.beq t2 t=false):YO P E st (.typeAssert x t' t true) ty (.tu [.raw z,.b false]):=by
  intro w0 X0 n0 β X a w hr
  obtain⟨h1,h2⟩:=hr.c9 hx
  simp only [V]at h2
  obtain⟨u,e1,e2⟩:=h2
  rw [e1]at h1
  refine⟨.tuple #[z,.bool false],by simp only [V];exact⟨[z,.bool false],rfl,eV aW (eV aW fM)⟩,hr.old fun w' _=>fun d' pos b6 g a' w'' hR _=>?_⟩
  have hn:t2≠t:=Nat.ne_of_beq_eq_false hne
  obtain⟨i,hi,hz'⟩:=Option.bind_eq_some_iff.1 hz
  have hzv:(zeroValue t).run P w''= .ok z w'':=by simp [Go.zeroValue,Go.typeInfo,hi,hz']
  have key:(Instr.typeAssert (.iface t2 u) t' t true).run P w''= .ok (.tuple #[z,.bool false]) w'':=by
    cases d<;>first|(cases hd;done)|simp [Instr.typeAssert,run_underlying hu,hn,hzv]
  simp [execOp,hR.ev h1,key]
end
end Go.Abs
-- AbsQ
namespace Go.Abs
open Go Go.Eng
mutual
inductive Wk:A→A→Prop where
  |eq {v v':A} (h:v=v'):Wk v v'
  |nl:Wk .nl (.fz 0 [])
  |ag {cs cs':List A} (h:jK cs cs'):Wk (.ag cs) (.ag cs')
  |tu {cs cs':List A} (h:jK cs cs'):Wk (.tu cs) (.tu cs')
inductive jK:List A→List A→Prop where
  |nil:jK [] []
  |cons {c c':A} {cs cs':List A} (h:Wk c c') (hs:jK cs cs'):jK (c::cs) (c'::cs')
end
instance {v k} [h:kE v]:jw (List.replicate k v):=⟨py.2 fun c hc=>by rw [List.eq_of_mem_replicate hc];exact h.out⟩
theorem jK.same:∀ {cs:List A},jK cs cs
  | []=> .nil
  |_::_=> .cons (.eq rfl) jK.same
mutual
theorem u4 {X:Xs} {w:World} {β:Bm}:∀ {v v':A} {u:Value},Wk v v'→V X w β v u→V X w β v' u
  |_,_,_,.eq h,hv=>h ▸ hv
  |_,_,_,.nl,hv=>Iq hv
  | _, _, _, .ag h, hv => by
    simp only [V]at hv ⊢
    obtain⟨us,e1,e2,e3⟩:=hv
    exact⟨us,e1,u0 h e2,e3⟩
  | _, _, _, .tu h, hv => by
    simp only [V]at hv ⊢
    obtain⟨us,e1,e2⟩:=hv
    exact⟨us,e1,u0 h e2⟩
theorem u0 {X:Xs} {w:World} {β:Bm}:∀ {cs cs':List A} {us:List Value},jK cs cs'→VS X w β cs us→VS X w β cs' us
  |_,_,_,.nil,hv=>hv
  | _, _, _, .cons h hs, hv => by
    simp only [VS]at hv
    obtain⟨u,r,rfl,h1,h2⟩:=hv
    exact eV (u4 h h1) (u0 hs h2)
end
section
variable {P:Program} {w0:Bw} {X0:Xs} {n:Nat} {E:Ev} {st:St} {K:Act→World→Prop}
theorem I5 (t:Nat) {v v':A} (ht:E.cF t=some v) (hw:Wk v v') (h:At w0 X0 n ((t,v')::E) st K):At w0 X0 n E st K:=by
  rintro a w ⟨β,X,hr⟩
  exact h a w ⟨β,X,hr.uy ht hr.mem (fun _ _ h=>⟨h,rfl⟩) (fun _ _ h=> .inl h) (fun u hu=>u4 hw hu)⟩
theorem gR (id : Nat) {cs cs' : List A} (hg : st.get id = some cs) (hw : jK cs cs') (h : At w0 X0 n E (st.put id cs') K) : At w0 X0 n E st K := by
  rintro a w ⟨β,X,hr⟩
  have hm : Mem w0 β X (st.put id cs') w := by
    refine .of hr.mem.below hr.mem.b0 hr.mem.xlt (fun k hk=>?_) (fun k ds hk=>?_) (fun i j ci cj b M N hij h1 h2=>?_)
    · rw [St.gF] at hk
      split at hk
      · cases hk
      · exact hr.mem.dom k hk
    · rw [St.ef] at hk
      split at hk
      · rename_i he
        subst he
        simp only [Option.some.injEq]at hk
        subst hk
        have:=hr.mem.obj id cs hg
        unfold OB at this ⊢
        split at this
        · exact this
        · subst this;cases hw;rfl
        · obtain ⟨h1, h2, us, rest, ty, h3, h4, h5, h6⟩ := this
          exact⟨h1,h2,us,rest,ty,h3,h4,u0 hw h5,h6⟩
        · obtain ⟨h0, h1, h2, f, es, clk, h3, h4, h5⟩ := this
          subst h3
          refine⟨h0,h1,h2,f,es,clk,?_,h4,h5⟩
          cases hw with
          | cons a b =>
            cases b
            cases a with
            |eq e=>rw [←e]
      · exact hr.mem.obj k ds hk
    · have g : ∀ (k : Nat) (c : List A), (st.put id cs').get k = some c → ∃ c', st.get k = some c' := by
        intro k c hk
        rw [St.ef]at hk
        split at hk
        · rename_i he;subst he;exact⟨_,hg⟩
        · exact⟨_,hk⟩
      obtain⟨c1,e1⟩:=g _ _ h1
      obtain⟨c2,e2⟩:=g _ _ h2
      exact hr.mem.inj i j c1 c2 b M N hij e1 e2
  exact h a w ⟨β,X,.of hr.x0 hr.xn hm hr.gl hr.size hr.defers hr.sslot hr.slot⟩
end
theorem bU.wk {P:Program} {f:FuncId} {args:List A} {r r':A} (h:bU P f args (cl r)) (hw:Wk r r'):bU P f args (cl r'):=h.QC fun _ _ _ _ hv=>u4 hw hv
section
variable {P:Program} {w0:Bw} {X0:Xs} {n:Nat} {E F:Ev} {st:St} {K:Act→World→Prop} {Q:Exit→Act→World→Prop}
theorem wK {d:Nat} {f:FuncId} {xs:List Operand} {vs:List A} {ats:Array TypeId} {ty:TypeId} {pos aft' g} {ret:A} (t:Nat) {id s off m m':Nat} {cs ds:List A} (ht:E.cF t=some (.sl id s off m)) (hg:st.get id=some cs) (hpc:dF cs) (hm:m=m') (hdd:(cs.drop off).take (m*s)=ds)
    (hxs:fx ((t,.fz m' ds)::E) xs=some vs) (hpv:dF vs) (hc:bU P f vs (cl ret)) (hp:Pure ret) (hd:Nat.ble (d+1) n=true) (h:At w0 X0 n ((d,ret)::E) (st.del id) K):
    At w0 X0 n E st (fun a w=>(⟨some d,.call {callee:= .value (.func f),args:=xs.toArray,argTypes:=ats},ty,pos,aft',g⟩:Oper).wp P a w K Q):=by
  rintro a w ⟨β,X,hr⟩
  subst hdd;subst hm
  obtain⟨u,g1,g2⟩:=hr.slot t _ ht
  obtain⟨X1,m1,m2,m3,m4⟩:=z1 hr.mem hg hpc g2
  have hr2:=hr.uy ht m1 m2 m3 (fun u hu=>m4 s off m u hu)
  have hr1:dZ w0 X0 n E (st.del id) β X1 a w:= .of (fun b o h=>(m2 b o (hr.x0 b o h)).1) (fun b o h=>(m3 b o h).elim (hr.xn b o) .inr) m1 (hr.gl.mono m2) hr.size hr.defers (fun s hs=>ew.lT m2 (hr.sslot s hs)) (fun t v hv=>let ⟨u,q1,q2⟩:=hr.slot t v hv;⟨u,q1,gj m2 _ _ _ _ (dE.refl β) q2⟩)
  have hcS:eQ P f vs ⟨[]⟩ (j7 ret []):=eQ.mono hc fun r st h=>⟨h,(fun p hp=>by cases hp)⟩
  refine oB (fs:= []) (cs:= []) (s0:=⟨[]⟩) (ow:=false) hr2 rfl hxs trivial (by simpa using cK.pure hpv) hcS fun v w' ⟨r,β',X',st',⟨hR,hR2⟩,hsup,hsub,hm,hvv⟩=>?_
  obtain⟨k1,k2,k3,k4,_⟩:=hm.after hr2 (fun id cs h=>by cases h) hsub hsup (upds:= []) (fun p hp=>by cases hp)
  subst hR
  exact h _ _ ⟨β,_,hr1.jT hd k2 k3 (dE.refl β) k1 (gj (k4 rfl) _ _ _ _ (dE.refl β) (mH _ _ hp hvv))⟩
theorem Mq {p:Nat×A} (h:jQ E F):jQ (p::E) (p::F):=fun t v ht=>by
  obtain⟨k,u⟩:=p
  simp only [Ev.cF]at ht ⊢
  cases hb:Nat.beq k t with
  |true=>rw [hb]at ht;exact ht
  |false=>rw [hb]at ht;exact h t v ht
variable {r:Option Nat} {ds0:List Deferred} {N:Nat} {E0:EV} {st0:St} {ops:Array Oper} {k g:Nat} {plan:List dM} {rest:List Oper} {gd:Option (Nat×Bool)} {d:Nat} {ty:TypeId} {pos:String} {b6:Array Edge}
theorem z2 {f:FuncId} {xs:List Operand} {vs:List A} {ats:Array TypeId} {ret:A} (t:Nat) {id s off m m':Nat} {cs ds:List A} (k0:Nat) (deps:List Nat) (need:List (Nat×Option Nat)) (hg:iV ops (ek (E0.at k0) deps k0 E) gd) (ht:(ek (E0.at k0) deps k0 E).cF t=some (.sl id s off m)) (hgt:(iL plan st0 need).get id=some cs) (hpc:dF cs) (hm:m=m') (hdd:(cs.drop off).take (m*s)=ds)
    (hxs:fx ((t,.fz m' ds)::ek (E0.at k0) deps k0 E) xs=some vs) (hpv:dF vs) (hc:bU P f vs (cl ret)) (hp:Pure ret) (hb:Nat.ble (d+1) N=true) (hd:g8 k0 deps need=true) (h:FS r ds0 P w0 X0 N Q ops k g E0 st0 (plan++ [⟨d,ret,deps, [id], [],need, []⟩]) (k0+1) ((d,ret)::E) (st.del id) rest):
    FS r ds0 P w0 X0 N Q ops k g E0 st0 plan k0 E st (⟨some d,.call {callee:= .value (.func f),args:=xs.toArray,argTypes:=ats},ty,pos,b6,gd⟩::rest):=
  kf ⟨d,ret,deps, [id], [],need, []⟩ (fun hk hE _ _ _ hD hs _ hK=>have he':=hD.fin hE hk;lK hg he' (wK t (he' _ _ ht) (hs _ _ hgt) hpc hm hdd (rA (Mq he') hxs) hpv hc hp hb hK)) hd h
end
end Go.Abs
namespace Go.Eng
end Go.Eng
namespace Go.Abs
open Go Go.Eng
section
variable {P:Program} {w0:Bw} {X0:Xs} {n:Nat} {E:Ev} {st:St} {Q:Exit→Act→World→Prop} {r:Option Nat} {ds:List Deferred} {ops:Array Oper} {rest:List Oper} {d:Nat} {op:Op} {ty:TypeId} {pos:String} {b6:Array Edge}
theorem RelQ.Bv {β:Bm} {X:Xs} {a:Act} {w:World} (h:RelQ w0 X0 n E st β X a w) {j t:Nat} (hj:fy ops j=some t) (hb:E.cF t=some un):yielded ops a.tmps j=none:=by
  obtain⟨u,h1,h2⟩:=h.slot t _ hb
  simp only [V]at h2
  subst h2
  unfold fy at hj
  simp only [yielded,hj,h1,Option.bind_some]
  rfl
theorem dr {j t:Nat} {b:Bool} (hj:fy ops j=some t) (hb:E.cF t=some un) (hd:Nat.ble (d+1) n=true)
    (h:At w0 X0 n ((d,un)::E) st (Pw ds (wpListIn (rF r) 0 P ops Q rest))):At w0 X0 n E st (Pw ds (wpListIn (rF r) 0 P ops Q (⟨some d,op,ty,pos,b6,some (j,b)⟩::rest))):=
  fun a w ⟨β,X,hr⟩=>by
    show wpListIn (rF r) 0 P ops Q (_::rest) (a.wd ds) w
    unfold wpListIn
    rw [if_neg (by simp [Region.wanted,qz,hr.Bv hj hb])]
    refine⟨fun _ _=>trivial,?_⟩
    rw [lQ]
    exact h _ _ ⟨β,X,hr.kP (d:=some d) hd aW⟩
theorem cV {j t:Nat} {b:Bool} {K:Act→World→Prop} (hj:fy ops j=some t) (hb:E.cF t=some un) (hd:Nat.ble (d+1) n=true)
    (h:At w0 X0 n ((d,un)::E) st (fun a w=>wpStill P ops w (fun a'=>K a' w) rest a)):At w0 X0 n E st (fun a w=>wpStill P ops w (fun a'=>K a' w) (⟨some d,op,ty,pos,b6,some (j,b)⟩::rest) a):=
  fun a w ⟨β,X,hr⟩=>by
    show wpStill P ops w (fun a'=>K a' w) (_::rest) a
    unfold wpStill
    rw [if_neg (by simp [Region.wanted,hr.Bv hj hb])]
    exact h _ _ ⟨β,X,hr.put hd aW⟩
theorem M3 {j t:Nat} {b:Bool} {K:Act→World→Prop} (hj:fy ops j=some t) (hb:E.cF t=some un) (hd:Nat.ble (d+1) n=true) (h:At w0 X0 n ((d,un)::E) st K):At w0 X0 n E st (lW P ops Q ⟨some d,op,ty,pos,b6,some (j,b)⟩ K):=fun a w ⟨β,X,hr⟩=>by
  unfold lW
  rw [if_neg (by simp [Region.wanted,hr.Bv hj hb])]
  exact h _ _ ⟨β,X,hr.put hd aW⟩
variable {E0:EV} {st0:St} {k g:Nat} {plan:List dM} {ds0:List Deferred}
theorem cU {j t:Nat} {b:Bool} (k0:Nat) (deps:List Nat) (hj:fy ops j=some t) (hbv:(ek (E0.at k0) deps k0 E).cF t=some un) (hb:Nat.ble (d+1) n=true) (hd:g8 k0 deps []=true)
    (h:FS r ds0 P w0 X0 n Q ops k g E0 st0 (plan++ [⟨d,un,deps, [], [], [], []⟩]) (k0+1) ((d,un)::E) st rest):FS r ds0 P w0 X0 n Q ops k g E0 st0 plan k0 E st (⟨some d,op,ty,pos,b6,some (j,b)⟩::rest):=
  kf ⟨d,un,deps, [], [], [], []⟩ (fun hk hE _ _ _ hD _ _ hK=>have he:=hD.fin hE hk;M3 hj (he _ _ hbv) hb hK) hd h
end
end Go.Abs
namespace Go.Abs
open Go Go.Eng
theorem GA {st:St} {r:A} {i j:Nat} {ci cj:List A} (h1:st.get i=some ci) (h2:st.get j=some cj):j7 r [(i,ci),(j,cj)] r st:=⟨rfl,fun p hq=>by
  rcases List.mem_cons.1 hq with rfl|hq
  · exact h1
  · rw [List.mem_singleton] at hq
    subst hq
    exact h2⟩
end Go.Abs
-- K6A
namespace Go.Abs.D2
open Go Go.Eng Go.Abs
def k8 (a:Int) (i:Nat):UInt8:=UInt8.ofNat ((a % 4294967296).toNat / 2 ^ (24 - 8*i))
def fV (a:Int) (k:Nat):List UInt8:=(List.range k).map (k8 a)
theorem Pk (a:Int) (k:Nat):fV a (k+1)=fV a k++ [k8 a k]:=by simp [fV,List.range_succ]
@[simp] theorem RA (a:Int) (k:Nat):(fV a k).length=k:=by simp [fV]
@[irreducible] def gw (x:List UInt8) (a:Int):List UInt8:=tagged [108,101,97,102] (x++fV a 4)
theorem A2 (x:List UInt8) (a:Int):gw x a=tagged [108,101,97,102] (x++fV a 4):=by unfold gw;rfl
@[simp] theorem RB (x:List UInt8) (a:Int):(gw x a).length=32:=by rw [A2];simp
theorem xK (a:Int) (i:Nat) (h:i<4):A.i .u8 (IntKind.u8.wrap (a.fdiv (2 ^ min (((24 - 8*i:Nat):Int).toNat) IntKind.i64.bits)))=u8 (k8 a i):=by
  refine congrArg (A.i .u8) ?_
  have:i=0∨i=1∨i=2∨i=3:=by omega
  unfold k8
  rw [UInt8.toNat_ofNat']
  rcases this with rfl|rfl|rfl|rfl
  · show (a.fdiv 16777216) % 256 = _
    rw [Int.fdiv_eq_ediv_of_nonneg _ aq];omega
  · show (a.fdiv 65536) % 256 = _
    rw [Int.fdiv_eq_ediv_of_nonneg _ aq];omega
  · show (a.fdiv 256) % 256 = _
    rw [Int.fdiv_eq_ediv_of_nonneg _ aq];omega
  · show (a.fdiv 1) % 256 = _
    rw [Int.fdiv_eq_ediv_of_nonneg _ aq];omega
theorem xy (a:Int) (k i:Nat) (hk:k=24 - 8*i) (h:i<4):A.i .u8 (IntKind.u8.wrap ((IntKind.u64.wrap a).fdiv (2 ^ min ((k:Int).toNat) IntKind.u64.bits)))=u8 (k8 a i):=by
  subst hk
  refine congrArg (A.i .u8) ?_
  have:i=0∨i=1∨i=2∨i=3:=by omega
  unfold k8
  rw [UInt8.toNat_ofNat']
  rcases this with rfl|rfl|rfl|rfl
  · show ((a % 18446744073709551616).fdiv 16777216) % 256 = _
    rw [Int.fdiv_eq_ediv_of_nonneg _ aq];omega
  · show ((a % 18446744073709551616).fdiv 65536) % 256 = _
    rw [Int.fdiv_eq_ediv_of_nonneg _ aq];omega
  · show ((a % 18446744073709551616).fdiv 256) % 256 = _
    rw [Int.fdiv_eq_ediv_of_nonneg _ aq];omega
  · show ((a % 18446744073709551616).fdiv 1) % 256 = _
    rw [Int.fdiv_eq_ediv_of_nonneg _ aq];omega
theorem Oc (a:Int):A.i .u8 (IntKind.u8.wrap (IntKind.u64.wrap a))=u8 (k8 a 3):=by
  have:=xy a 0 3 rfl aq
  rw [show(IntKind.u64.wrap a).fdiv (2 ^ min ((0:Nat):Int).toNat IntKind.u64.bits)=IntKind.u64.wrap a from Int.fdiv_one _]at this
  exact this
theorem Px {x:List UInt8} (hx:x.length=32) (a:Int) (i:Nat) (h:i<4):((x++fV a i++List.replicate (4 - i) 0).map u8).set (0+(32+i)*1) (u8 (k8 a i))=(x++fV a (i+1)++List.replicate (4 - (i+1)) 0).map u8:=by
  rw [←List.map_set]
  refine congrArg (List.map u8) ?_
  rw [show 0+(32+i)*1=(x++fV a i).length+0 by simp [hx],List.set_append_right _ _ aq,show(x++fV a i).length+0 - (x++fV a i).length=0 by omega,show 4 - i=(4 - (i+1))+1 by omega,List.replicate_succ,List.set_cons_zero,Pk]
  simp
theorem JX {x:List UInt8} {a:Int}:((List.replicate 36 (Value.int .u8 0)).map cn).take 0++x.map u8++((List.replicate 36 (Value.int .u8 0)).map cn).drop (0+32)=(x++fV a 0++List.replicate (4 - 0) 0).map u8:=by
  simp [fV,cn]
def fg (x:List UInt8) (k:Nat):List (List UInt8):=(List.range k).map fun i=>mZ (gw x ((i:Nat):Int))
@[simp] theorem mo (x:List UInt8) (k:Nat):(fg x k).length=k:=by simp [fg]
theorem LM (x:List UInt8) (k:Nat):fg x (k+1)=fg x k++ [mZ (gw x ((k:Nat):Int))]:=by simp [fg,List.range_succ]
theorem EK (x:List UInt8) (k:Nat):(fg x k).flatten.map u8++(mZ (gw x ((k:Nat):Int))).map u8=(fg x (k+1)).flatten.map u8:=by rw [LM];simp
theorem lY (x:List UInt8) (k:Nat):cg (fg x k):=fun y hy=>by
  obtain⟨i,_,rfl⟩:=List.mem_map.1 hy
  exact E4 _
theorem LL {x:List UInt8} {k i:Nat} (h:i<k):(fg x k)[i]? =some (mZ (gw x ((i:Nat):Int))):=by simp [fg,h]
def dY (n:Int):Prop:=1≤n∧n≤256
instance (n:Int):Decidable (dY n):=by unfold dY;infer_instance
theorem qv {n:Int} (h:dY n):∃k:Nat,n=(k:Int)∧1≤k∧k≤256:=⟨n.toNat,by unfold dY at h;omega,by unfold dY at h;omega,by unfold dY at h;omega⟩
abbrev zD:List UInt8:=List.replicate 32 0
@[irreducible] def fJ (x:List UInt8) (n:Int):List UInt8:=if dY n then tree (fg x n.toNat)else zD
def rv (b:Bool):Int:=if b then 0 else 60
theorem xG {x:List UInt8} {k:Nat} (h:dY (k:Int)):fJ x (k:Int)=tree (fg x k):=by unfold fJ;rw [if_pos h];rfl
theorem OE {x:List UInt8} {n:Int} (h:¬dY n):fJ x n=zD:=by unfold fJ;rw [if_neg h]
@[simp] theorem Ry (x:List UInt8) (n:Int):(fJ x n).length=32:=by unfold fJ;split<;>simp
@[irreducible] def sm (x:List UInt8) (n:Int):A:= .tu [.ag ((fJ x n).map u8),.i .i64 (rv (decide (dY n)))]
theorem xF (x:List UInt8) (n:Int):sm x n= .tu [.ag ((fJ x n).map u8),.i .i64 (rv (decide (dY n)))]:=by unfold sm;rfl
theorem GM {x:List UInt8} {k:Nat} (h:dY (k:Int)):sm x k= .tu [.ag ((tree (fg x k)).map u8),.i .i64 0]:=by rw [xF,xG h,decide_eq_true h];rfl
theorem AS {x:List UInt8} {n:Int} (h:¬dY n):sm x n= .tu [.ag (zD.map u8),.i .i64 60]:=by rw [xF,OE h,decide_eq_false h];rfl
abbrev wv (a:Int) (S P:List (List UInt8)):A:= .ag [.i .i64 a,cM S,cM P]
def gQ (n a:Int):Prop:=0≤a∧a<n
instance (n a:Int):Decidable (gQ n a):=by unfold gQ;infer_instance
@[irreducible] def sw (x:List UInt8) (n a:Int) (m:List UInt8):A:=if dY n∧gQ n a then .tu [wv a (jX (gw x a) m) (path (fg x n.toNat) a.toNat),.i .i64 0]else .tu [wv 0 [] [],.i .i64 60]
theorem A5 {x m:List UInt8} {n a:Int} (h:¬(dY n∧gQ n a)):sw x n a m= .tu [wv 0 [] [],.i .i64 60]:=by unfold sw;rw [if_neg h]
theorem sx {x m:List UInt8} {k i:Nat} (h:dY (k:Int)) (hi:i<k):sw x k i m= .tu [wv i (jX (gw x i) m) (path (fg x k) i),.i .i64 0]:=by unfold sw;rw [if_pos ⟨h,by unfold gQ;omega⟩];rfl
theorem Gb {L:List (List UInt8)} {i:Nat} (h:i<L.length):mV L i= .tu [cM (path L i),.i .i64 0]:=by unfold mV;rw [if_pos aq];rfl
theorem Nx {L:List (List UInt8)} {a:Int} (h:¬(0≤a∧a<L.length)):mV L a= .tu [.nl,.i .i64 1]:=by unfold mV;rw [if_neg h]
theorem Ib (x m:List UInt8):cg (jX x m):=qK x m 19
@[irreducible] def gx (r:List UInt8) (n:Int) (m:List UInt8) (a:Int) (S P:List (List UInt8)):Bool:=decide (dY n)&&(decide (gQ n a)&&(decide (jV S=0)&&((lC a n P.length==0)&&(kG (gJ m S) a n P==r))))
theorem HI {r m:List UInt8} {n a:Int} {S P:List (List UInt8)} (h:¬dY n):gx r n m a S P=false:=by unfold gx;simp [h]
theorem HJ {r m:List UInt8} {n a:Int} {S P:List (List UInt8)} (h:¬gQ n a):gx r n m a S P=false:=by unfold gx;simp [h]
theorem HK {r m:List UInt8} {n a:Int} {S P:List (List UInt8)} (h:¬jV S=0):gx r n m a S P=false:=by unfold gx;simp [h]
theorem HL {r m:List UInt8} {n a:Int} {S P:List (List UInt8)} (h:((lC a n P.length==0)&&(kG (gJ m S) a n P==r))=false):gx r n m a S P=false:=by unfold gx;rw [h];simp
theorem Bn {r m:List UInt8} {n a:Int} {S P:List (List UInt8)} (h1:dY n) (h2:gQ n a) (h3:jV S=0) (h4:((lC a n P.length==0)&&(kG (gJ m S) a n P==r))=true):gx r n m a S P=true:=by unfold gx;rw [h4];simp [h1,h2,h3]
theorem QA {r m:List UInt8} {n a:Int} {S P:List (List UInt8)} (h:gx r n m a S P=true):dY n∧gQ n a∧jV S=0∧lC a n P.length=0∧kG (gJ m S) a n P=r:=by
  unfold gx at h
  simp only [Bool.and_eq_true,decide_eq_true_eq,beq_iff_eq]at h
  exact⟨h.1,h.2.1,h.2.2.1,h.2.2.2.1,h.2.2.2.2⟩
abbrev NH (m:List UInt8) (S:List (List UInt8)) (i:Nat):List UInt8:=if i≤2 then zD else gJ m S
theorem N8 (S:List (List UInt8)):(((jV S:Nat):Int)==0)=decide (jV S=0):=by rw [Bool.eq_iff_iff,beq_iff_eq,decide_eq_true_eq];omega
theorem IN (n a:Int):(decide (a≥0)&&decide (a<n))=decide (gQ n a):=by rw [Bool.eq_iff_iff,Bool.and_eq_true,decide_eq_true_eq,decide_eq_true_eq,decide_eq_true_eq];unfold gQ;omega
-- K6P
def pR (n:Int) (s p:Nat):Bool:=(decide (n≤10)||decide (n>256))&&decide ((s:Int)≤30)&&decide ((p:Int)≤12)
end Go.Abs.D2
