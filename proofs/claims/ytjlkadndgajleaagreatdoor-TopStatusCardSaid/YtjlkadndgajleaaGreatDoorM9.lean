/-
  The engine, the plain laws and the walks that the rows need, part 9. Conditions: none.
-/
import Derived.Test.YtjlkadndgajleaaGreatDoorM8
import Derived.KernelRfl
set_option linter.unusedVariables false
set_option linter.unusedSimpArgs false
set_option maxHeartbeats 1000000
set_option maxRecDepth 10000
-- D2Q
namespace Go.Abs.D2
open Go Go.Abs
def lC (b:List UInt8) (o:Nat):Nat→BitVec 32
  |0=>0
  |j+1=>lC b o j<<<8|||ob (b.getD (o+j) 0).toNat
theorem TP (b:List UInt8) (o:Nat):lC b o 4=word b o:=by
  simp only [lC,Nat.add_zero]
  exact TF _ _ _ _
theorem P4 (b:List UInt8) (i:Nat) (h:i<16):(words b i).map b9++List.replicate (64 - i) (b9 0)=(words b i).map b9++ [b9 (lC b (4*i) 0)]++List.replicate (63 - i) (b9 0):=by
  rw [show 64 - i=(63 - i)+1 by omega,List.replicate_succ]
  simp [lC]
theorem P5 (b:List UInt8) (i:Nat) (h:i<16):(words b i).map b9++ [b9 (lC b (4*i) 4)]++List.replicate (63 - i) (b9 0)=(words b (i+1)).map b9++List.replicate (64 - (i+1)) (b9 0):=by
  rw [ID,TP,show 64 - (i+1)=63 - i by omega]
  simp
theorem Nm (b:List UInt8) (i j:Nat):(((words b i).map b9++ [b9 (lC b (4*i) j)]++List.replicate (63 - i) (b9 0)).drop (0+i*1))[0]? =some (b9 (lC b (4*i) j)):=by
  rw [List.getElem?_drop,List.append_assoc,List.getElem?_append_right aB]
  simp
theorem RM (b:List UInt8) (i j:Nat):((words b i).map b9++ [b9 (lC b (4*i) j)]++List.replicate (63 - i) (b9 0)).set (0+i*1) (b9 (lC b (4*i) (j+1)))=(words b i).map b9++ [b9 (lC b (4*i) (j+1))]++List.replicate (63 - i) (b9 0):=by
  rw [List.append_assoc,List.set_append_right _ _ aB]
  simp
def qR (s t:S8) (i:Nat):List (BitVec 32):=(s.add t).l.take i++s.l.drop i
theorem F8 (s t:S8) (i:Nat):(qR s t i).length=8:=by
  simp [qR];omega
theorem SD (s t:S8):qR s t 8=(s.add t).l:=rfl
theorem RP (s t:S8) (i:Nat) (h:i<8):((qR s t i).map b9).set (0+i*1) (b9 ((qR s t i).getD i 0+t.l.getD i 0))=(qR s t (i+1)).map b9:=by
  match i,h with
  |0,_=>rfl
  |1,_=>rfl
  |2,_=>rfl
  |3,_=>rfl
  |4,_=>rfl
  |5,_=>rfl
  |6,_=>rfl
  |7,_=>rfl
def gK:List A:=match ub wD 0 with|some vs=>vs.map cQ|none=> []
theorem M7:gK=oZ.map b9:=by kernel_rfl
theorem Nb (t:Nat) (h:t<64):(gK.drop (t*1))[0]? =some (b9 (oZ.getD t 0)):=
  Nh t aN (by rw [M7])
abbrev fw (p:List UInt8):A:= .fz p.length (p.map u8)
def hs (s:List UInt8):S8:=il (s.length / 64) h0 s
def rem (s:List UInt8):List UInt8:=s.drop (64*(s.length / 64))
@[simp] theorem fX (s : List UInt8) : (rem s).length = s.length % 64 := by
  simp only [rem,List.length_drop];omega
theorem qt (s:List UInt8):s=s.take (64*(s.length / 64))++rem s:=(List.take_append_drop _ _).symm
theorem Qy {s c:List UInt8} (h:s.length % 64+c.length<64):rem (s++c)=rem s++c∧hs (s++c)=hs s∧(s++c).length % 64=s.length % 64+c.length:=by
  have hd:(s++c).length / 64=s.length / 64:=by simp only [List.length_append];omega
  refine⟨?_,?_,by simp only [List.length_append];omega⟩
  · unfold rem
    rw [hd,List.drop_append_of_le_length ar]
  · unfold hs
    rw [hd]
    conv=>lhs;rw [qt s,List.append_assoc]
    conv=>rhs;rw [qt s]
    rw [qZ _ _ _ _ aE,qZ _ _ _ _ aE]
theorem Qz {s c:List UInt8} (h:s.length % 64+c.length=64):rem (s++c)= []∧hs (s++c)=comp (hs s) (rem s++c)∧(s++c).length % 64=0:=by
  have hl:(s++c).length=64*(s.length / 64+1):=by simp only [List.length_append];omega
  have hd:(s++c).length / 64=s.length / 64+1:=by omega
  refine⟨?_,?_,by omega⟩
  · unfold rem
    exact List.drop_eq_nil_of_le ar
  · unfold hs
    rw [hd,yS,List.drop_append_of_le_length ar]
    congr 1
    · conv => lhs; rw [qt s, List.append_assoc]
      conv=>rhs;rw [qt s]
      rw [qZ _ _ _ _ aE,qZ _ _ _ _ aE]
    · exact List.take_of_length_le (by have:=fX s;unfold rem at this;simp only [List.length_append,this];omega)
abbrev wm (p s:List UInt8) (j:Nat):Nat:=Nat.min (p.length - j) (64 - s.length % 64)
theorem KD (s tl p:List UInt8) (j c:Nat):
    ((rem s++tl).map u8).take (s.length % 64)++((p.drop j).map u8).take c++((rem s++tl).map u8).drop (s.length % 64+c)=(rem s++(p.drop j).take c++tl.drop c).map u8:=by
  rw [←List.map_take, ←List.map_take, ←List.map_drop, ←List.map_append, ←List.map_append]
  rw [List.take_left' (fX s), ←List.drop_drop,List.drop_left' (fX s)]
theorem Fj {parts:List (List UInt8)} {p:List UInt8} {i:Nat} (h:parts[i]? =some p):((parts.map fw).drop (i*1))[0]? =some (fw p):=by
  rw [List.getElem?_drop,List.getElem?_map,show i*1+0=i by omega,h];rfl
theorem LF (p:List UInt8) (j c:Nat):(((p.drop j).map u8).drop (c*1)).take ((p.length - (j+c))*1)=(p.drop (j+c)).map u8:=by
  rw [Nat.mul_one,Nat.mul_one, ←List.map_drop,List.drop_drop]
  exact List.take_of_length_le aB
theorem Ih (p:List UInt8) (j c:Nat):p.take j++(p.drop j).take c=p.take (j+c):=by rw [←List.take_add]
theorem KM {parts:List (List UInt8)} {p:List UInt8} {i:Nat} (h:parts[i]? =some p):(parts.take i).flatten++p.take p.length=(parts.take (i+1)).flatten:=by
  rw [List.take_add_one,h,List.take_length];simp
theorem RG (s tl:List UInt8) (ht:tl.length=64 - s.length % 64):((rem s++tl).map u8).set (0+s.length % 64*1) (.i .u8 128)=(rem s++ [128]++tl.drop 1).map u8:=by
  have:tl≠ []:=by intro h;subst h;simp at ht;omega
  obtain⟨x,r,rfl⟩:=List.exists_cons_of_ne_nil this
  rw [List.map_append,List.set_append_right _ _ aB]
  simp
theorem ML (s tl:List UInt8) (ht:tl.length=64 - s.length % 64) (o:Nat) (ho:o=0+(if 64=s.length % 64+1 then 0 else(s.length % 64+1)*1)):
    ((rem s++ [128]++tl.drop 1).map u8).take o++List.replicate (64 - (s.length % 64+1)) (cQ (.int .u8 0))++((rem s++ [128]++tl.drop 1).map u8).drop (o+(64 - (s.length % 64+1)))=(rem s++ [128]++List.replicate (63 - s.length % 64) 0).map u8:=by
  have he:cQ (.int .u8 0)=u8 0:=rfl
  subst ho
  rw [he]
  by_cases h:64=s.length % 64+1
  · rw [if_pos h, show 64 - (s.length % 64 + 1) = 0 by omega, show 63 - s.length % 64 = 0 by omega, show tl.drop 1 = [] from List.drop_eq_nil_of_le ar]
    simp
  · rw [if_neg h]
    have e1:((rem s++ [128]++tl.drop 1).map u8).take (0+(s.length % 64+1)*1)=(rem s++ [128]).map u8:=by
      rw [←List.map_take,List.take_left' aB]
    have e2:((rem s++ [128]++tl.drop 1).map u8).drop (0+(s.length % 64+1)*1+(64 - (s.length % 64+1)))= []:=List.drop_eq_nil_of_le aE
    rw [e1,e2,show 64 - (s.length % 64+1)=63 - s.length % 64 by omega]
    simp
theorem vp (s p:List UInt8):s++p.take 0=s:=by simp
theorem Jm (s p:List UInt8):cM (cP s.length+cP p.length)=cM (cP (s++p.take p.length).length):=by
  rw [List.take_length,List.length_append]
  exact congrArg cM (BitVec.ofNat_add _ _).symm
theorem Ow {parts:List (List UInt8)} {p:List UInt8} (h:p∈parts):p.length≤parts.flatten.length:=by
  induction parts with
  |nil=>cases h
  | cons q r ih =>
    simp only [List.flatten_cons,List.length_append]
    rcases List.mem_cons.1 h with rfl|h
    · omega
    · have:=ih h;omega
theorem Uf:(List.replicate 64 (Value.int .u8 0)).map cQ=(rem []++List.replicate 64 0).map u8:=by kernel_rfl
theorem Lb {l:List A} (h:l.length=64):l.take 0++List.replicate 64 (cQ (.int .u8 0))++l.drop (0+64)=(List.replicate 64 (0:UInt8)).map u8:=by
  rw [List.drop_eq_nil_of_le ar]
  rfl
theorem Pb {s p tl:List UInt8} {j c:Nat} (hc:c≤p.length - j) (ht:tl.length=64 - (s++p.take j).length % 64) (h:(s++p.take j).length % 64+c=64):
    rem (s++p.take (j+c))= []∧hs (s++p.take (j+c))=comp (hs (s++p.take j)) (rem (s++p.take j)++(p.drop j).take c++tl.drop c)∧(s++p.take (j+c)).length % 64=0:=by
  have e:(s++p.take j)++(p.drop j).take c=s++p.take (j+c):=by rw [List.append_assoc,Ih]
  have hl:((p.drop j).take c).length=c:=by rw [List.length_take,List.length_drop];omega
  have:=Qz (s:=s++p.take j) (c:=(p.drop j).take c) ar
  rw [e]at this
  rw [show tl.drop c= []from List.drop_eq_nil_of_le ar,List.append_nil]
  exact this
theorem Pc {s p:List UInt8} {j c:Nat} (hc:c≤p.length - j) (h:(s++p.take j).length % 64+c<64):
    rem (s++p.take (j+c))=rem (s++p.take j)++(p.drop j).take c∧hs (s++p.take (j+c))=hs (s++p.take j)∧(s++p.take (j+c)).length % 64=(s++p.take j).length % 64+c:=by
  have e:(s++p.take j)++(p.drop j).take c=s++p.take (j+c):=by rw [List.append_assoc,Ih]
  have hl:((p.drop j).take c).length=c:=by rw [List.length_take,List.length_drop];omega
  have:=Qy (s:=s++p.take j) (c:=(p.drop j).take c) ar
  rw [e,hl]at this
  exact this
def ki (s:List UInt8):S8:=if s.length % 64+1>56 then comp (hs s) (rem s++ [128]++List.replicate (63 - s.length % 64) 0)else hs s
def iZ (s:List UInt8):List UInt8:=if s.length % 64+1>56 then List.replicate 56 0 else rem s++ [128]++List.replicate (55 - s.length % 64) 0
theorem gO (s:List UInt8):(iZ s).length=56:=by
  unfold iZ;split<;>simp;omega
theorem N6 {s:List UInt8} (h:s.length % 64+1>56):(List.replicate 64 (0:UInt8)).map u8=(iZ s++List.replicate (8 - 0) 0++(gC (8*s.length)).drop (8 - 0)).map u8:=by
  rw [iZ,if_pos h,List.drop_eq_nil_of_le aB,List.append_nil,List.replicate_append_replicate]
theorem N7 {s:List UInt8} (h:¬s.length % 64+1>56):(rem s++ [128]++List.replicate (63 - s.length % 64) 0).map u8=(iZ s++List.replicate (8 - 0) 0++(gC (8*s.length)).drop (8 - 0)).map u8:=by
  rw [iZ,if_neg h,List.drop_eq_nil_of_le aB,List.append_nil,List.append_assoc _ _ (List.replicate (8 - 0) 0),List.replicate_append_replicate,show 55 - s.length % 64+(8 - 0)=63 - s.length % 64 by omega]
theorem HO (s:List UInt8) (i:Nat) (x:UInt8) (hi:i<8) (hx:x=UInt8.ofNat (8*s.length / 2 ^ (8*i))):
    ((iZ s++List.replicate (8 - i) 0++(gC (8*s.length)).drop (8 - i)).map u8).set (0+(63 - i)*1) (u8 x)=(iZ s++List.replicate (8 - (i+1)) 0++(gC (8*s.length)).drop (8 - (i+1))).map u8:=by
  subst hx
  have hl:=gO s
  rw [←List.map_set,show 8 - i=(8 - (i+1))+1 by omega,List.replicate_succ', ←List.append_assoc,List.append_assoc (iZ s++_),List.set_append_right _ _ aE]
  congr 2
  have hd:(gC (8*s.length)).drop (8 - (i+1))=UInt8.ofNat (8*s.length / 2 ^ (8*i))::(gC (8*s.length)).drop (8 - (i+1)+1):=by
    rw [List.drop_eq_getElem_cons aE]
    congr 1
    have:=Da (8*s.length) (8 - (i+1)) ar
    rw [List.getElem?_eq_getElem aE]at this
    rw [Option.some.inj this,show 7 - (8 - (i+1))=i by omega]
  rw [hd,show 0+(63 - i)*1 - (iZ s++List.replicate (8 - (i+1)) (0:UInt8)).length=0 by simp;omega]
  rfl
def fin (s:List UInt8):S8:=il ((pad s).length / 64) h0 (pad s)
theorem EW (s:List UInt8):comp (ki s) (iZ s++gC (8*s.length))=fin s:=by
  have hr:=fX s
  have hz:=uS s.length
  have hp:=wQ s
  have split:pad s=s.take (64*(s.length / 64))++(rem s++ [128]++List.replicate (j9 s.length) 0++gC (8*s.length)):=by
    conv=>lhs;rw [pad];rw [qt s]
    have:(s.take (64*(s.length / 64))++rem s).length=s.length:=by rw [←qt s]
    rw [this]
    simp [List.append_assoc]
  have hhs:il (s.length / 64) h0 (s.take (64*(s.length / 64)))=hs s:=by
    unfold hs
    conv=>rhs;rw [qt s]
    rw [qZ _ _ _ _ aE]
    congr 1
    simp;omega
  unfold fin
  by_cases h:s.length % 64+1>56
  · have hzz : j9 s.length = (63 - s.length % 64) + 56 := by omega
    rw [show(pad s).length / 64=s.length / 64+(1+1) by omega,split,vg _ _ _ _ _ aE,hhs,ki,iZ,if_pos h,if_pos h,hzz, ←List.replicate_append_replicate]
    rw [show rem s++ [128]++(List.replicate (63 - s.length % 64) 0++List.replicate 56 0)++gC (8*s.length)=(rem s++ [128]++List.replicate (63 - s.length % 64) 0)++(List.replicate 56 0++gC (8*s.length)) by simp [List.append_assoc]]
    rw [vg 1 1 _ _ _ aE]
    simp only [il]
    rw [List.take_of_length_le aE,List.take_of_length_le aB]
  · have hzz : j9 s.length = 55 - s.length % 64 := by omega
    rw [show(pad s).length / 64=s.length / 64+1 by omega,split,vg _ _ _ _ _ aE,hhs,ki,iZ,if_neg h,if_neg h,hzz]
    simp only [il]
    rw [List.take_of_length_le aE]
end Go.Abs.D2
-- D2R
namespace Go.Abs.D2
open Go Go.Eng Go.Abs
def fb (x:Nat):Nat:=if x=0 then 0 else x.log2+1
theorem Oh {x:Nat} (k:Nat) (h:2 ^ k≤x):fb x=k+fb (x>>>k):=by
  have hk:0<2 ^ k:=Nat.two_pow_pos k
  have hx:x≠0:=by omega
  have hs:x>>>k≠0:=by
    rw [Nat.shiftRight_eq_div_pow]
    have:=Nat.div_pos h hk
    omega
  have h1:(x>>>k).log2+k=x.log2:=by
    refine((Nat.log2_eq_iff hx).2 ⟨?_,?_⟩).symm
    · have := Nat.log2_self_le hs
      rw [Nat.shiftRight_eq_div_pow]at this ⊢
      rw [Nat.pow_add]
      exact(Nat.le_div_iff_mul_le hk).1 this
    · have := Nat.lt_log2_self (n := x >>> k)
      rw [Nat.shiftRight_eq_div_pow]at this ⊢
      rw [show(x / 2 ^ k).log2+k+1=((x / 2 ^ k).log2+1)+k by omega,Nat.pow_add]
      exact(Nat.div_lt_iff_lt_mul hk).1 this
  simp only [fb,hx,hs,if_false]
  omega
def FW:List UInt8:=(List.range 256).map fun j=>UInt8.ofNat (fb j)
theorem pG (j:Nat) (h:j<256):FW[j]? =some (UInt8.ofNat (fb j)):=by simp [FW,h]
theorem ox {j:Nat} (h:j<256):fb j≤8:=by
  unfold fb
  split
  · omega
  · have : j.log2 < 8 := (Nat.log2_lt ar).2 ar
    omega
theorem B4 {n:Nat} (h:n<256):(UInt8.ofNat n).toNat=n:=by rw [UInt8.toNat_ofNat'];exact Nat.mod_eq_of_lt h
theorem pI {n:Nat} (h:n<256):((UInt8.ofNat n).toNat:Int)=(n:Int):=by rw [B4 h]
theorem pH {j:Nat} (h:j<256):A.i .i64 (IntKind.i64.wrap ((UInt8.ofNat (fb j)).toNat:Int))=A.i .i64 (fb j:Nat):=by
  have:=ox h
  rw [B4 ar,pO _ ar ar]
theorem qw (X:BitVec 64) (k:Nat) (h:2 ^ k≤X.toNat):fb X.toNat=k+fb (X>>>k).toNat:=by
  rw [BitVec.toNat_ushiftRight];exact Oh k h
theorem qN (X:BitVec 64) (k m:Nat) (h:X.toNat<2 ^ (k+m)):(X>>>k).toNat<2 ^ m:=by
  rw [BitVec.toNat_ushiftRight,Nat.shiftRight_eq_div_pow]
  exact Nat.div_lt_of_lt_mul (by rw [←Nat.pow_add];exact h)
@[irreducible] def cC (n:Nat):Nat:=2 ^ (n - 1).log2
theorem zx {n:Nat} (h:n<18446744073709551616):(cP n).toNat=n:=by rw [BitVec.toNat_ofNat];exact Nat.mod_eq_of_lt h
theorem FV {x:Nat} (h:0<x):fb x=x.log2+1:=by unfold fb;rw [if_neg ar]
theorem Og {x:Nat} (h:x<18446744073709551616):fb x≤9223372036854775807:=by
  unfold fb
  split
  · omega
  · have : x.log2 < 64 := (Nat.log2_lt ar).2 ar
    omega
theorem js {n:Nat} (h:2≤n):0<cC n∧cC n<n∧n≤2*cC n:=by
  unfold cC
  have h1:=Nat.log2_self_le (n:=n - 1) ar
  have h2:=Nat.lt_log2_self (n:=n - 1)
  rw [Nat.pow_succ]at h2
  exact⟨Nat.two_pow_pos _,by omega,by omega⟩
theorem RY {n:Nat} (h:2≤n) (hn:n≤1099511627776):A.i .i64 (IntKind.i64.wrap (1*2 ^ min (((n - 1).log2:Nat):Int).toNat IntKind.i64.bits))=A.i .i64 (cC n:Nat):=by
  have hl:(n - 1).log2<41:=(Nat.log2_lt ar).2 ar
  have hb:min (((n - 1).log2:Nat):Int).toNat IntKind.i64.bits=(n - 1).log2:=by simp [IntKind.bits];omega
  have hh:=js h
  rw [hb,Int.one_mul,show((2:Int) ^ (n - 1).log2)=((cC n:Nat):Int) by simp [cC],pO _ ar ar]
-- D2T
abbrev dq (L:List (List UInt8)):A:= .fz L.length (L.flatten.map u8)
def cm (L:List (List UInt8)):Prop:=∀x∈L,x.length=32
theorem cm.take {L:List (List UInt8)} (h:cm L) (k:Nat):cm (L.take k):=fun x hx=>h x (List.mem_of_mem_take hx)
theorem cm.drop {L:List (List UInt8)} (h:cm L) (k:Nat):cm (L.drop k):=fun x hx=>h x (List.mem_of_mem_drop hx)
theorem cm.len {L:List (List UInt8)} (h:cm L):L.flatten.length=L.length*32:=by
  induction L with
  |nil=>rfl
  | cons x L ih =>
    rw [List.flatten_cons,List.length_append,h x (.head _),ih fun y hy=>h y (.tail _ hy),List.length_cons];omega
theorem cm.tH:∀ {L:List (List UInt8)} (_:cm L) (k:Nat),L.flatten.drop (k*32)=(L.drop k).flatten
  | [],_,k=>by simp
  |x::L,h,0=>by simp
  | x :: L, h, k + 1 => by
    rw [List.flatten_cons,List.drop_succ_cons,show(k+1)*32=32+k*32 by omega, ←List.drop_drop,List.drop_left' (h x (.head _))]
    exact cm.tH (fun y hy=>h y (.tail _ hy)) k
theorem cm.yb:∀ {L:List (List UInt8)} (_:cm L) (k:Nat),L.flatten.take (k*32)=(L.take k).flatten
  | [],_,k=>by simp
  |x::L,h,0=>by simp
  | x :: L, h, k + 1 => by
    rw [List.flatten_cons,List.take_succ_cons,List.flatten_cons,show(k+1)*32=32+k*32 by omega,List.take_add,List.take_left' (h x (.head _)),List.drop_left' (h x (.head _))]
    rw [cm.yb (fun y hy=>h y (.tail _ hy)) k]
theorem zP {L:List (List UInt8)} (h:cm L) {k:Nat} (hk:k≤L.length):A.fz k (((L.flatten.map u8).drop (0*32)).take (k*32))=dq (L.take k):=by
  rw [Nat.zero_mul,List.drop_zero, ←List.map_take,h.yb,dq,List.length_take,Nat.min_eq_left hk]
theorem zO {L:List (List UInt8)} (h:cm L) {k m:Nat} (hk:L.length - k=m):A.fz m (((L.flatten.map u8).drop (k*32)).take (m*32))=dq (L.drop k):=by
  subst hk
  rw [←List.map_drop,h.tH,dq,List.length_drop]
  congr 1
  exact List.take_of_length_le (by rw [List.length_map,(h.drop k).len,List.length_drop];omega)
theorem LD {x:List UInt8} (h:x.length=32):A.fz 32 (((([x].flatten.map u8).drop (0*32)).drop (0*1)).take (32*1))= .fz x.length (x.map u8):=by
  simp only [List.flatten_cons,List.flatten_nil,List.append_nil,Nat.zero_mul,List.drop_zero,Nat.mul_one]
  rw [List.take_of_length_le (by simp [h]),h]
def l4 (a b:List UInt8):List UInt8:=tagged [110,111,100,101] (a++b)
def nN:Nat→List (List UInt8)→List UInt8
  |_, []=>tagged [101,109,112,116,121] []
  |_, [x]=>tagged [108,101,97,102] x
  |0,_=> []
  |f+1,L=>l4 (nN f (L.take (cC L.length))) (nN f (L.drop (cC L.length)))
theorem B1 {f:Nat} {L:List (List UInt8)} (h:2≤L.length):nN (f+1) L=l4 (nN f (L.take (cC L.length))) (nN f (L.drop (cC L.length))):=by
  match L,h with
  |_::_::_,_=>rfl
theorem ye:∀(f g:Nat) (L:List (List UInt8)),L.length≤f→L.length≤g→nN f L=nN g L
  |_,_, [],_,_=>by simp only [nN]
  |_,_, [x],_,_=>by simp only [nN]
  |0,_,_::_::_,h,_=>by simp at h
  |_,0,_::_::_,_,h=>by simp at h
  | f + 1, g + 1, a :: b :: L, h1, h2 => by
    have hh:=js (n:=(a::b::L).length) aB
    have e:2≤(a::b::L).length:=by simp
    rw [B1 e,B1 e]
    congr 1
    · exact ye f g _ aH aH
    · exact ye f g _ aF aF
@[irreducible] def tree (L:List (List UInt8)):List UInt8:=nN L.length L
theorem Ik:tree []=tagged [101,109,112,116,121] []:=by unfold tree;rfl
theorem B2 (x:List UInt8):tree [x]=tagged [108,101,97,102] x:=by unfold tree;rfl
theorem yf {L:List (List UInt8)} (h:2≤L.length):tree L=l4 (tree (L.take (cC L.length))) (tree (L.drop (cC L.length))):=by
  have hh:=js h
  unfold tree
  obtain⟨f,hf⟩:∃f,L.length=f+1:=⟨L.length - 1,by omega⟩
  conv=>lhs;rw [hf]
  rw [B1 h]
  congr 1
  · exact ye _ _ _ aH (Nat.le_refl _)
  · exact ye _ _ _ aF (Nat.le_refl _)
@[simp] theorem lZ (L : List (List UInt8)) : (tree L).length = 32 := by
  match L with
  | []=>rw [Ik,pf]
  | [x]=>rw [B2,pf]
  |a::b::r=>rw [yf aB];exact pf _ _
def lg:Nat→List (List UInt8)→Nat→List (List UInt8)
  |0,_,_=> []
  |f+1,L,i=>if L.length≤1 then []else if i<cC L.length then lg f (L.take (cC L.length)) i++ [tree (L.drop (cC L.length))]else lg f (L.drop (cC L.length)) (i - cC L.length)++ [tree (L.take (cC L.length))]
theorem xD:∀(f g:Nat) (L:List (List UInt8)) (i:Nat),L.length≤f→L.length≤g→lg f L i=lg g L i
  |0,0,_,_,_,_=>rfl
  |0,g+1,L,i,h,_=>by rw [lg,lg,if_pos ar]
  |f+1,0,L,i,_,h=>by rw [lg,lg,if_pos ar]
  | f + 1, g + 1, L, i, h1, h2 => by
    rw [lg,lg]
    by_cases h:L.length≤1
    · rw [if_pos h,if_pos h]
    · have hh := js (n := L.length) ar
      rw [if_neg h,if_neg h,xD f g (L.take _) _ aH aH,xD f g (L.drop _) _ aF aF]
@[irreducible] def path (L:List (List UInt8)) (i:Nat):List (List UInt8):=lg L.length L i
theorem px {L:List (List UInt8)} (i:Nat) (h:L.length≤1):path L i= []:=by
  unfold path
  match L,h with
  | [],_=>rfl
  | [x],_=>rfl
theorem r9 {L:List (List UInt8)} {i:Nat} (h:2≤L.length) (hi:i<cC L.length):path L i=path (L.take (cC L.length)) i++ [tree (L.drop (cC L.length))]:=by
  have hh:=js h
  unfold path
  obtain⟨f,hf⟩:∃f,L.length=f+1:=⟨L.length - 1,by omega⟩
  conv=>lhs;rw [hf,lg,if_neg ar,if_pos hi]
  rw [xD f _ _ _ aH (Nat.le_refl _)]
theorem sa {L:List (List UInt8)} {i:Nat} (h:2≤L.length) (hi:¬i<cC L.length):path L i=path (L.drop (cC L.length)) (i - cC L.length)++ [tree (L.take (cC L.length))]:=by
  have hh:=js h
  unfold path
  obtain⟨f,hf⟩:∃f,L.length=f+1:=⟨L.length - 1,by omega⟩
  conv=>lhs;rw [hf,lg,if_neg ar,if_neg hi]
  rw [xD f _ _ _ aF (Nat.le_refl _)]
theorem cm.app {L M:List (List UInt8)} (h:cm L) (h':cm M):cm (L++M):=fun x hx=>(List.mem_append.1 hx).elim (h x) (h' x)
theorem cm.one {x:List UInt8} (h:x.length=32):cm [x]:=fun y hy=>by rw [List.mem_singleton.1 hy];exact h
theorem qV : ∀ (n : Nat) (L : List (List UInt8)) (i : Nat), L.length ≤ n → cm (path L i)
  |0,L,i,h=>by rw [px i ar];exact fun x hx=>by cases hx
  | n + 1, L, i, h => by
    by_cases h1:L.length≤1
    · rw [px i h1];exact fun x hx=>by cases hx
    · have hh := js (n := L.length) ar
      by_cases hi:i<cC L.length
      · rw [r9 ar hi]
        exact(qV n _ _ aH).app (.one (lZ _))
      · rw [sa ar hi]
        exact(qV n _ _ aF).app (.one (lZ _))
theorem wR : ∀ (n : Nat) (L : List (List UInt8)) (i : Nat), L.length ≤ n → (path L i).length ≤ n
  |0,L,i,h=>by rw [px i ar];simp
  | n + 1, L, i, h => by
    by_cases h1:L.length≤1
    · rw [px i h1];simp
    · have hh := js (n := L.length) ar
      by_cases hi:i<cC L.length
      · rw [r9 ar hi, List.length_append]
        have:=wR n (L.take (cC L.length)) i aH
        simp;omega
      · rw [sa ar hi, List.length_append]
        have:=wR n (L.drop (cC L.length)) (i - cC L.length) aF
        simp;omega
end Go.Abs.D2
-- AbsK
namespace Go.Abs
open Go Go.Eng
inductive pT (P:Program) (ops:Array Oper) (n:Nat) (Eb:Ev) (st:St) (j:Nat) (want:Bool):Ev→List Oper→Ev→List Oper→Prop where
  |done {E l}:pT P ops n Eb st j want E l E l
  |step {E F:Ev} {d:Nat} {op:Op} {ty:TypeId} {pos:String} {bU:Array Edge} {v:A} {l rest:List Oper} (hy:YO P E st op ty v) (hd:Nat.ble (d+1) n=true) (hf:Eb.cw d=none) (h:pT P ops n Eb st j want ((d,v)::E) l F rest):
      pT P ops n Eb st j want E (⟨some d,op,ty,pos,bU,some (j,want)⟩::l) F rest
section
variable {r:Option Nat} {ds0:List Deferred}
variable {P:Program} {w0:Bw} {X0:Xs} {n:Nat} {E Eb F:Ev} {st:St} {ops:Array Oper} {Q:Exit→Act→World→Prop} {j t:Nat} {want:Bool} {l rest:List Oper}
theorem Fs (hj:gG ops j=some t) (ht:Eb.cw t=some (.b want)) (h:pT P ops n Eb st j want E l F rest):E.cw t=some (.b want)→At w0 X0 n F st (Pw ds0 (wpListIn (rF r) 0 P ops Q rest))→At w0 X0 n E st (Pw ds0 (wpListIn (rF r) 0 P ops Q l)):=by
  induction h with
  |done=>exact fun _ h=>h
  | @step E F d op ty pos bU v l rest hy hd hf h ih =>
    intro hE hK
    have hdt:d≠t:=fun e=>by subst e;rw [hf]at ht;cases ht
    refine g1 hj hE hy hd (ih ?_ hK)
    simp only [Ev.cw]
    rw [show Nat.beq d t=false from(by cases hb:Nat.beq d t with|false=>rfl|true=>exact absurd (Nat.eq_of_beq_eq_true hb) hdt)]
    exact hE
def uE (j : Nat) (want : Bool) (Eb : Ev) (n : Nat) : Nat → List Oper → Bool
  |0,_=>true
  |_+1, []=>false
  | k + 1, o :: r => match o.dst, o.guard with
    |some d,some (j',w)=>Nat.beq j j'&&(w==want)&&Nat.ble (d+1) n&&(Eb.cw d).isNone&&uE j want Eb n k r
    |_,_=>false
theorem BN (hj:gG ops j=some t) (ht:Eb.cw t=some (.b (!want))):∀(k:Nat) (l:List Oper) (E1:Ev),uE j want Eb n k l=true→(∀s v,Eb.cw s=some v→E1.cw s=some v)→At w0 X0 n Eb st (Pw ds0 (wpListIn (rF r) 0 P ops Q (l.drop k)))→At w0 X0 n E1 st (Pw ds0 (wpListIn (rF r) 0 P ops Q l))
  |0,l,E1,_,hl,hK=>fun a w hr=>hK a w (hr.weaken hl (fun _ _ h=>h) (fun _ h=>h))
  |k+1, [],_,h,_,_=>by cases h
  | k + 1, o :: r, E1, h, hl, hK => by
    simp only [uE]at h
    split at h
    · rename_i d j' w hd hg
      simp only [Bool.and_eq_true,beq_iff_eq,Option.isNone_iff_eq_none]at h
      obtain⟨⟨⟨⟨h1,h2⟩,h3⟩,h4⟩,h5⟩:=h
      have h1:=Nat.eq_of_beq_eq_true (by simpa using h1:Nat.beq j j'=true)
      have h2:=h2.symm
      subst h1;subst h2
      obtain⟨d',op,ty,pos,bU,g⟩:=o
      simp only at hd hg
      subst hd;subst hg
      refine g0 (b:=want) (b':=!want) hj (hl _ _ ht) rfl h3 (BN hj ht k r _ h5 (fun s v hs=>?_) hK)
      simp only [Ev.cw]
      cases hb:Nat.beq d s with
      |true=>rw [←Nat.eq_of_beq_eq_true hb,h4]at hs;cases hs
      |false=>exact hl s v hs
    · cases h
theorem Fq (h:pT P ops n Eb st j want E l F rest):(∀s u,Eb.cw s=some u→E.cw s=some u)→∀s u,Eb.cw s=some u→F.cw s=some u:=by
  induction h with
  |done=>exact fun h=>h
  | @step E F d op ty pos bU v l rest hy hd hf h ih =>
    intro hl
    refine ih fun s u hs=>?_
    simp only [Ev.cw]
    cases hb:Nat.beq d s with
    |true=>rw [←Nat.eq_of_beq_eq_true hb,hf]at hs;cases hs
    |false=>exact hl s u hs
variable {d:Nat} {ty:TypeId} {pos:String} {bU:Array Edge} {x y:Operand} {b c:Bool}
theorem Fp {E':Ev} {u:A} {K:Act→World→Prop} (hF:∀s v,E.cw s=some v→E'.cw s=some v) (h:At w0 X0 n ((d,u)::E) st K):At w0 X0 n ((d,u)::E') st K:=fun a w hr=>
  h a w (hr.weaken (fun s v hs => by
    simp only [Ev.cw]at hs ⊢
    cases hb:Nat.beq d s with
    |true=>rw [hb]at hs;exact hs
    |false=>rw [hb]at hs;exact hF s v hs) (fun _ _ h=>h) (fun _ h=>h))
theorem jr (k:Nat) (hj:gG ops j=some t) (ht:E.cw t=some (.b b)) (hB:uE j false E n k l=true) (hl:l.drop k=⟨some d,.pick (.tmp t) (.const (.bool true)) y,ty,pos,bU,none⟩::rest)
    (hrun:b=false→pT P ops n E st j false E l F (l.drop k)) (hy:ev F y=some (.b c)) (hd:Nat.ble (d+1) n=true)
    (h:At w0 X0 n ((d,.b (b||c))::E) st (Pw ds0 (wpListIn (rF r) 0 P ops Q rest))):At w0 X0 n E st (Pw ds0 (wpListIn (rF r) 0 P ops Q l)):=by
  cases b with
  | true =>
    refine BN (want:=false) hj ht k l E hB (fun _ _ h=>h) ?_
    rw [hl]
    refine s1 (v:= .b true) (bF ?_) hd h
    have e:ev E (.tmp t)=some (.b true):=ht
    simp only [nt,e]
    rfl
  | false =>
    have hg:=hrun rfl
    have hlv:=Fq hg (fun _ _ h=>h)
    refine Fs hj ht hg ht ?_
    rw [hl]
    refine s1 (v:= .b c) (bF ?_) hd (Fp hlv h)
    have e:ev F (.tmp t)=some (.b false):=hlv _ _ ht
    simp only [nt,e,hy]
theorem gF (k:Nat) (hj:gG ops j=some t) (ht:E.cw t=some (.b b)) (hB:uE j true E n k l=true) (hl:l.drop k=⟨some d,.pick (.tmp t) y (.const (.bool false)),ty,pos,bU,none⟩::rest)
    (hrun:b=true→pT P ops n E st j true E l F (l.drop k)) (hy:ev F y=some (.b c)) (hd:Nat.ble (d+1) n=true)
    (h:At w0 X0 n ((d,.b (b&&c))::E) st (Pw ds0 (wpListIn (rF r) 0 P ops Q rest))):At w0 X0 n E st (Pw ds0 (wpListIn (rF r) 0 P ops Q l)):=by
  cases b with
  | false =>
    refine BN (want:=true) hj ht k l E hB (fun _ _ h=>h) ?_
    rw [hl]
    refine s1 (v:= .b false) (bF ?_) hd h
    have e:ev E (.tmp t)=some (.b false):=ht
    simp only [nt,e]
    rfl
  | true =>
    have hg:=hrun rfl
    have hlv:=Fq hg (fun _ _ h=>h)
    refine Fs hj ht hg ht ?_
    rw [hl]
    refine s1 (v:= .b c) (bF ?_) hd (Fp hlv h)
    have e:ev F (.tmp t)=some (.b true):=hlv _ _ ht
    simp only [nt,e,hy]
end
end Go.Abs
-- AbsM
namespace Go.Abs
open Go Go.Eng
theorem ES (size:Nat):∀(vs:List (Value×List Value)) (k:Nat) (pre z:List Value),(∀p∈vs,p.1.cells=p.2.toArray∧p.2.length=size)→pre.length=k*size→vs.length*size≤z.length→
    Instr.fill (fun i=>some (i*size,size)) (pre++z).toArray (gN vs k)=some (pre++flat vs++z.drop (vs.length*size)).toArray
  | [],_,pre,z,_,_,_=>by simp [gN,flat,Instr.fill]
  | (v, c) :: r, k, pre, z, hv, hp, hz => by
    obtain⟨h1,h2⟩:=hv (v,c) aB
    simp only at h1 h2
    have hz':(r.length+1)*size≤z.length:=by simpa using hz
    rw [Nat.add_mul,Nat.one_mul]at hz'
    simp only [gN,Instr.fill,h1,List.size_toArray,h2]
    have hno:¬((decide (size≠size)||decide (k*size+size>(pre++z).length))=true):=by
      rw [List.length_append,hp]
      simp;omega
    rw [if_neg hno]
    have hw:=yp c 0 (k*size) pre z ar ar
    have ez:c.toArray.zipIdx=(c.zipIdx 0).toArray:=by simp
    rw [ez,List.foldl_toArray]
    refine Eq.trans (congrArg (fun a=>Instr.fill (fun i=>some (i*size,size)) a (gN r (k+1))) hw) ?_
    rw [ES size r (k+1) (pre++c) (z.drop c.length) (fun p hp=>hv p aX) (by rw [List.length_append,hp,h2,Nat.add_mul,Nat.one_mul]) aF]
    simp only [flat,List.drop_drop,List.length_cons,h2,List.append_assoc]
    rw [show size+r.length*size=(r.length+1)*size by rw [Nat.add_mul,Nat.one_mul];omega]
section
variable {P:Program} {w0:Bw} {X0:Xs} {n:Nat} {E:Ev} {st:St} {β:Bm} {X:Xs} {a:Act} {w:World} {Q:Exit→Act→World→Prop} {K:Act→World→Prop}
theorem T1 {t e : TypeId} {len size by' by2 : Nat} {zero zero' : List Value} {agg : Bool} {parts : List (Nat × Operand)} {vs out : List A} {ty : TypeId} (ht : TI P t len by' zero true) (hzl : zero.length = len) (hz1 : zero.all (·.oneCell') = true) (hu : P.underlying t = some (.array len e)) (he : TI P e size by2 zero' agg) (hs : size = 1)
    (hp:iO E parts 0=some vs) (hlen:vs.length≤len) (h1:vs.all one=true) (ho:vs++(zero.map cQ).drop vs.length=out):YO P E st (.build t parts.toArray) ty (.ag out):=by
  subst hs;subst ho
  intro w0 X0 n β X a w hr
  have key:∀(parts:List (Nat×Operand)) (k:Nat) (vs:List A),iO E parts k=some vs→vs.all one=true→∃us:List Value,iG (full a) parts=some (gN (gQ us) k)∧VS X w β vs us∧∀x∈us,x.oneCell'=true:=by
    intro parts
    induction parts with
    |nil=>intro k vs h _;simp only [iO,Option.some.injEq]at h;subst h;exact⟨[],rfl,fF,(fun x hx=>by cases hx)⟩
    | cons p r ih =>
      intro k vs h h1
      obtain⟨i,x⟩:=p
      simp only [iO]at h
      split at h
      · rename_i v vs' hik hx hrest
        simp only [Option.some.injEq]at h
        subst h
        simp only [List.all_cons,Bool.and_eq_true]at h1
        have:i=k:=Nat.eq_of_beq_eq_true hik
        subst this
        obtain⟨us,g1,g2,g3⟩:=ih (i+1) vs' hrest h1.2
        obtain⟨e1,e2⟩:=hr.cR hx
        exact⟨a.eval x::us,by simp only [iG,e1,g1,gQ,gN],eE e2 g2,fun q hq=>by rcases List.mem_cons.1 hq with rfl|hq;exact yN h1.1 e2;exact g3 q hq⟩
      · cases h
  obtain⟨us,g1,g2,g3⟩:=key parts 0 vs hp h1
  have hul:=eF g2
  have hzv:VS X w β ((zero.map cQ).drop vs.length) (zero.drop vs.length):=lH (pX zero) _
  refine⟨.agg (us++zero.drop us.length).toArray,?_,fun d pos bU g w' _=>?_⟩
  · simp only [V]
    refine⟨_,rfl,gM g2 (by rw [hul];exact hzv),fun x hx=>?_⟩
    rcases List.mem_append.1 hx with hx|hx
    · exact g3 x hx
    · exact List.all_eq_true.1 hz1 x (List.mem_of_mem_drop hx)
  obtain⟨z,hz',hzc⟩:=ht.zeroValue w'
  have hfill:Instr.fill (fun i=>some (i*1,1)) zero.toArray (gN (gQ us) 0)=some (us++zero.drop us.length).toArray:=by
    have hol:∀l:List Value,(gQ l).length=l.length:=fun l=>by induction l with|nil=>rfl|cons x l ih=>simp [gQ,ih]
    have:=ES 1 (gQ us) 0 [] zero (xv g3) aB (by rw [hol,hul,hzl];omega)
    rw [List.nil_append,List.nil_append,wo,hol,Nat.mul_one]at this
    exact this
  have:(Instr.build t (gN (gQ us) 0).toArray).run P w'= .ok (.agg (us++zero.drop us.length).toArray) w':=by
    unfold Instr.build
    rw [Sem.run_bind,hz']
    simp only [Result.andThen_ok,hzc]
    rw [Sem.run_bind,run_underlying hu]
    simp only [Result.andThen_ok]
    rw [Sem.run_bind,he.sizeOf w']
    simp only [Result.andThen_ok,hfill]
    rfl
  have e:execOp a.eval ⟨d,.build t parts.toArray,ty,pos,bU,g⟩=Next.value<$>Instr.build t (parts.toArray.map fun(i,x)=>(i,a.eval x)):=by simp [execOp]
  have e0:(parts.toArray.map fun(i,x)=>(i,a.eval x))=(gN (gQ us) 0).toArray:=by rw [List.map_toArray,(fW a hr.defers).iG g1]
  rw [e,e0,Sem.run_map,this]
  rfl
theorem kY (k j : Nat) {id s off m : Nat} {cs ds vs vs' : List A} (hk : st.get k = some vs) (hj : vs[j]? = some (.sl id s off m)) (hg : st.get id = some cs) (hne : Nat.beq id k = false) (hp : dc cs) (hd : (cs.drop off).take (m * s) = ds) (hvs : vs.set j (.fz m ds) = vs') (h : At w0 X0 n E ((st.del id).put k vs') K) : At w0 X0 n E st K := by
  rintro a w ⟨β,X,hr⟩
  subst hd;subst hvs
  have hob:=hr.mem.obj k vs hk
  have hne':id≠k:=Nat.ne_of_beq_eq_false hne
  obtain⟨x,hβk⟩:∃x,β k=some x:=by
    unfold OB at hob
    split at hob
    · exact hob.elim
    · rename_i hb;exact⟨_,hb⟩
    · rename_i hb;exact⟨_,hb⟩
    · rename_i hb;exact⟨_,hb⟩
  cases x with
  | mp b =>
    obtain⟨_,_,_,f,_,_,e,_⟩:=hob.gm hβk
    subst e
    cases j with
    |zero=>simp at hj
    |succ j=>simp at hj
  | ph =>
    unfold OB at hob
    rw [hβk]at hob
    simp only at hob
    subst hob
    simp at hj
  | bk b N =>
    have hob':=hob
    unfold OB at hob
    rw [hβk]at hob
    simp only at hob
    obtain⟨_,_,us,rest,ty,hw,hl,hvs,hone⟩:=hob
    obtain⟨u,hu,hvu⟩:=ik hvs hj
    obtain⟨X1,m1,m2,m3,m4⟩:=Av hr.mem hg hp hvu
    have hk1:(st.del id).get k=some vs:=by rw [St.oY,if_neg hne'];exact hk
    have hob1:=m1.obj k vs hk1
    unfold OB at hob1
    rw [hβk]at hob1
    simp only at hob1
    obtain⟨q1,q2,us',rest',ty',q3,q4,q5,q6⟩:=hob1
    have huse:us'++rest'=us++rest∧us'.length=us.length:=by
      rw [hw]at q3
      have:=Option.some.inj q3
      have h2:(us++rest).toArray=(us'++rest').toArray:=by
        unfold row at this
        injection this
      have h3:=eF q5
      have h4:=eF hvs
      exact⟨by simpa using congrArg Array.toList h2.symm,by omega⟩
    have hus:us'=us:=List.append_inj_left huse.1 huse.2
    subst hus
    have hset:VS X1 w β (vs.set j (.fz m ((cs.drop off).take (m*s)))) us':=by
      have:=CC q5 (j:=j) (m4 s off m u hvu)
      have e:us'.set j u=us':=by
        refine List.ext_getElem aB fun i h1 h2=>?_
        rw [List.getElem_set]
        split
        · rename_i e; subst e
          have:=(List.getElem?_eq_some_iff.1 hu).2
          exact this.symm
        · rfl
      rwa [e]at this
    refine h a w ⟨β,X1,.of (fun b o h=>(m2 b o (hr.x0 b o h)).1) (fun b o h=>(m3 b o h).elim (hr.xn b o) .inr) (.of m1.below m1.b0 m1.xlt (fun i hi=>?_) (fun i c hi=>?_) (fun i i2 ci cj b M N hij hi hj' h1 h2=>?_)) (hr.gl.mono m2) hr.size hr.defers (fun s hs=>dZ.mf m2 (hr.sslot s hs)) (fun t v ht=>?_)⟩
    · rw [St.gv] at hi
      split at hi
      · cases hi
      · exact m1.dom i hi
    · rw [St.dV] at hi
      split at hi
      · rename_i e; subst e
        simp only [Option.some.injEq]at hi
        subst hi
        unfold OB
        rw [hβk]
        exact⟨q1,q2,us',rest',ty',q3,q4,hset,q6⟩
      · exact m1.obj i c hi
    · skip
      have g':∀i c,((st.del id).put k (vs.set j (.fz m ((cs.drop off).take (m*s))))).get i=some c→∃c',(st.del id).get i=some c':=fun i c hi=>by
        rw [St.dV]at hi
        split at hi
        · rename_i e;subst e;exact⟨_,hk1⟩
        · exact⟨c,hi⟩
      obtain⟨c1,e1⟩:=g' _ _ hi
      obtain⟨c2,e2⟩:=g' _ _ hj'
      exact m1.inj _ _ _ _ _ _ _ hij e1 e2 h1 h2
    · obtain ⟨u, g1, g2⟩ := hr.slot t v ht
      exact⟨u,g1,fR m2 _ _ _ _ (c4.refl β) g2⟩
theorem Jd {u:Value} (h:V X w β .nl u):V X w β (.fz 0 []) u:=by
  simp only [V]at h ⊢
  subst h
  exact⟨none,0,rfl,Nat.le_refl _,Nat.zero_le _,fun _=>rfl,(fun h=>absurd h (Nat.lt_irrefl _)),by simp [VM]⟩
theorem bO.cast {f:FuncId} {args:List A} {r r':A} (h:bO P f args (cn r)) (e:r=r'):bO P f args (cn r'):=e ▸ h
theorem GY {src dst ty:TypeId} {x:Operand} {ds:TypeDesc} {j:Int} {k:IntKind} (n:Nat) (hs:P.underlying src=some ds) (ht:P.underlying dst=some (.int .u8)) (hx:ev E x=some (.i k j)) (hj:j=(n:Int)):YO P E st (.convert src dst x) ty (u8 (UInt8.ofNat n)):=by
  subst hj
  refine(eP hs ht hx).v (congrArg (A.i .u8) ?_)
  rw [UInt8.toNat_ofNat']
  simp [IntKind.wrap,IntKind.signed,IntKind.bits]
theorem Fb (w:World) (p:Addr) (n:Nat):(w.freeze p n).heap.size=w.heap.size∧∀k:Nat,k≠p.block→(w.freeze p n).heap[k]? =w.heap[k]? :=by
  unfold World.freeze
  split
  · exact⟨rfl,fun _ _=>rfl⟩
  · exact⟨by simp,fun k hk=>by simp [Array.getElem?_modify,Ne.symm hk]⟩
theorem MY (w:World) (p:Addr) (n:Nat) (a:Addr):(w.freeze p n).cell? a=w.cell? a:=by
  unfold World.freeze
  split
  · rfl
  · unfold World.cell?
    simp only [Array.getElem?_modify]
    by_cases h:p.block=a.block
    · simp only [h, if_true]
      cases hb:w.heap[a.block]? with
      |none=>rfl
      |some o=>cases o<;>simp
    · simp only [h,if_false]
theorem MZ (w:World) (p:Addr) (n b:Nat) (hb:w.heap[b]? =some (Obj.deferred (some []))∨∃r:Loop,w.heap[b]? =some (Obj.loop r)):(w.freeze p n).heap[b]? =w.heap[b]? :=by
  by_cases h:b=p.block
  · subst h
    unfold World.freeze
    split
    · rfl
    · rcases hb with hb|⟨_,hb⟩<;>simp [Array.getElem?_modify,hb]
  · exact(Fb w p n).2 b h
theorem M0 (w:World) (p:Addr) (n:Nat):(w.freeze p n).os=w.os∧(w.freeze p n).tape=w.tape∧(w.freeze p n).output=w.output:=by
  unfold World.freeze
  split<;>exact⟨rfl,rfl,rfl⟩
theorem Mem.mark (hm:Mem w0 β X st w) (p:Addr) (k:Nat) (hown:w0.own p.block) (hno:∀id cs N,st.get id=some cs→β id≠some (.bk p.block N)) (hrow:∃ty vs,w.heap[p.block]? =some (row ty vs)):Mem w0 β X st (w.freeze p k)∧dM X X w (w.freeze p k):=by
  have hx:dM X X w (w.freeze p k):=fun b o h=>⟨h,MY w p k _⟩
  obtain⟨r1,r2,r3⟩:=M0 w p k
  obtain⟨s1,s2⟩:=Fb w p k
  refine⟨.of ⟨r1.trans hm.below.os,r2.trans hm.below.tape,r3.trans hm.below.output,by rw [s1];exact hm.below.size,fun j hj hM=>?_,fun s hs=>dZ.rJ (hm.below.sus s hs) fun b hb=>MZ w p k b hb⟩ hm.b0 (fun b o h=>by rw [s1];exact hm.xlt b o h) hm.dom (fun id cs hg=>?_) hm.inj,hx⟩
  · have : j ≠ p.block := by
      rintro rfl
      rcases hown with h|h
      · omega
      · exact hM h
    rw [s2 j this]
    exact hm.below.block j hj hM
  · have h := hm.obj id cs hg
    unfold OB at*
    split
    · rename_i hb;rw [hb]at h;exact h
    · rename_i hb;rw [hb]at h;exact h
    · rename_i b N hb
      rw [hb]at h
      simp only at h
      obtain⟨q1,q2,us,rest,ty,q3,q4,q5,q6⟩:=h
      have:b≠p.block:=by rintro rfl;exact hno id cs N hg hb
      exact⟨q1,q2,us,rest,ty,by rw [s2 b this];exact q3,q4,gB hx _ _ _ _ (c4.refl β) q5,q6⟩
    · rename_i b hb
      rw [hb]at h
      obtain⟨q0,q1,q2,f,es,clk,q3,q4,q5⟩:=h
      have:b≠p.block:=fun e=>by obtain⟨ty,vs,hr⟩:=hrow;rw [e,hr]at q4;cases q4
      exact⟨q0,q1,q2,f,es,clk,q3,by rw [s2 b this];exact q4,q5⟩
theorem kX (t:Nat) {b:Bool} (hb:E.cw t=some (.b b)) (h1:b=true→At w0 X0 n ((t,.b true)::E) st K) (h0:b=false→At w0 X0 n ((t,.b false)::E) st K):At w0 X0 n E st K:=by
  cases b with
  |true=>exact gr t hb rfl (h1 rfl)
  |false=>exact gr t hb rfl (h0 rfl)
end
end Go.Abs
-- AbsN
namespace Go.Abs
open Go Go.Eng
def quiet:Obj→Bool
  | .deferred _=>true
  | .loop _=>true
  |_=>false
theorem Hl {w:World} {b o:Nat} {x:Obj} (h:w.heap[b]? =some x) (hq:quiet x=true):w.cell? ⟨b,o,none⟩=none:=by
  simp only [World.cell?,h]
  cases x<;>first|rfl|cases hq
structure Qt (B:Bw) (w w':World):Prop where
  os:w'.os=w.os
  tape:w'.tape=w.tape
  output:w'.output=w.output
  size:w.heap.size≤w'.heap.size
  blk:∀b,b<w.heap.size→w'.heap[b]? =w.heap[b]? ∨(B.own b∧(∃o,w.heap[b]? =some o∧quiet o=true)∧∃o,w'.heap[b]? =some o∧quiet o=true)
theorem Qt.refl {B:Bw} {w:World}:Qt B w w:=⟨rfl,rfl,rfl,Nat.le_refl _,fun _ _=> .inl rfl⟩
theorem Qt.cell {B:Bw} {w w':World} (h:Qt B w w') {b o:Nat} (hb:b<w.heap.size):w'.cell? ⟨b,o,none⟩=w.cell? ⟨b,o,none⟩:=by
  rcases h.blk b hb with h|⟨_,⟨x,h1,h2⟩,y,h3,h4⟩
  · simp only [World.cell?,h]
  · rw [Hl h1 h2,Hl h3 h4]
theorem Qt.row {B:Bw} {w w':World} (h:Qt B w w') {b:Nat} {ty:TypeId} {us:List Value} (hb:w.heap[b]? =some (row ty us)):w'.heap[b]? =some (row ty us):=by
  rcases h.blk b (Array.getElem?_eq_some_iff.1 hb).1 with h|⟨_,⟨x,h1,h2⟩,_⟩
  · rw [h];exact hb
  · rw [hb]at h1;simp only [Option.some.injEq]at h1;subst h1;cases h2
theorem Qt.map {B:Bw} {w w':World} (h:Qt B w w') {b:Nat} {es:Array MapEntry} {clk:Nat} (hb:w.heap[b]? =some (.map es clk)):w'.heap[b]? =some (.map es clk):=by
  rcases h.blk b (Array.getElem?_eq_some_iff.1 hb).1 with h|⟨_,⟨x,h1,h2⟩,_⟩
  · rw [h];exact hb
  · rw [hb]at h1;simp only [Option.some.injEq]at h1;subst h1;cases h2
theorem Qt.put {B:Bw} {w:World} {q:Nat} {o o':Obj} (ho:B.own q) (h:w.heap[q]? =some o) (hq:quiet o=true) (hq':quiet o'=true):Qt B w (w.putObj q o'):=
  ⟨rfl,rfl,rfl,by simp,fun b hb=>by
    by_cases e:b=q
    · subst e;exact .inr ⟨ho,⟨o,h,hq⟩,o',World.putObj_heap_same hb,hq'⟩
    · exact .inl (World.putObj_heap_other e)⟩
theorem Qt.pw {B:Bw} {w w':World} (k:RowKit.Below w.heap.size w w'):Qt B w w':=⟨k.os,k.tape,k.output,k.size,fun b hb=> .inl (k.block b hb)⟩
theorem qH {w1 w2:Bw} (hw:w2.w=w1.w) (hM:w2.M=w1.M) (b:Nat):w2.own b↔w1.own b:=by unfold Bw.own;rw [hw,hM]
section
variable {P:Program} {w0 w1 w2:Bw} {X0 X:Xs} {n:Nat} {E:Ev} {st:St} {β:Bm} {a:Act} {w:World}
theorem dP.jW (hr:dP w1 X0 n E st β X a w) {a':Act} {n':Nat} {E':Ev} {w':World} (hw:w2.w=w1.w) (hM:w2.M=w1.M) (hq:Qt w1 w w') (hb:c4 w2.β β) (hk:∀s∈w2.sus,s.kept w2.own w') (hs:∀s∈w2.sus,s.slots X w')
    (hsz:a'.tmps.size=n') (hd:a'.defers= []) (hsl:∀t v,E'.cw t=some v→∃u,a'.tmps[t]? =some u∧V X w β v u):dP w2 X0 n' E' st β X a' w':=by
  have hx:dM X X w w':=fun b o h=>⟨h,hq.cell (hr.mem.xlt b o h)⟩
  have ho:=qH hw hM
  refine .of hr.x0 (fun b o h=>(hr.xn b o h).imp (fun h=>h) (ho b).2) (.of ⟨?_,?_,?_,?_,?_,hk⟩ hb (fun b o h=>Nat.lt_of_lt_of_le (hr.mem.xlt b o h) hq.size) hr.mem.dom (fun id cs hg=>?_) hr.mem.inj) (hr.gl.mono hx) hsz hd hs (fun t v ht=>?_)
  · rw [hq.os,hr.mem.below.os,hw]
  · rw [hq.tape,hr.mem.below.tape,hw]
  · rw [hq.output,hr.mem.below.output,hw]
  · rw [hw];exact Nat.le_trans hr.mem.below.size hq.size
  · intro k hk' hm
    rw [hw]at hk'
    rw [hM]at hm
    rw [hw, ←hr.mem.below.block k hk' hm]
    rcases hq.blk k (Nat.lt_of_lt_of_le hk' hr.mem.below.size)with h|⟨h|h,_⟩
    · exact h
    · omega
    · exact absurd h hm
  · have := hr.mem.obj id cs hg
    unfold OB at*
    split at this
    · exact this
    · exact this
    · obtain ⟨h1, h2, us, rest, ty, h3, h4, h5, h6⟩ := this
      exact⟨(ho _).2 h1,h2,us,rest,ty,hq.row h3,h4,gB hx _ _ β β (c4.refl β) h5,h6⟩
    · obtain ⟨h0, h1, h2, f, es, clk, h3, h4, h5⟩ := this
      exact⟨h0,(ho _).2 h1,h2,f,es,clk,h3,hq.map h4,h5⟩
  · obtain ⟨u, h1, h2⟩ := hsl t v ht
    exact⟨u,h1,fR hx _ _ β β (c4.refl β) h2⟩
end
mutual
def refs:A→List Nat
  | .p id _=> [id]
  | .sl id _ _ _=> [id]
  | .ag cs=>fl cs
  | .tu vs=>fl vs
  | .fn _ a c=>fl a++fl c
  | .ic _ v=>refs v
  |_=> []
def fl:List A→List Nat
  | []=> []
  |c::cs=>refs c++fl cs
end
def iP:Ev→List Nat
  | []=> []
  |(_,v)::r=>refs v++iP r
def kP (ids:List Nat) (β:Bm):Bm:=fun id=>cond (dJ ids id) (β id) none
theorem Bc {ids:List Nat} {β:Bm}:c4 (kP ids β) β:=fun id y h=>by
  unfold kP at h
  cases hm:dJ ids id with
  |true=>rw [hm]at h;exact h
  |false=>rw [hm]at h;cases h
theorem xw {ids:List Nat} {β:Bm} {id:Nat} (h:dJ ids id=true):kP ids β id=β id:=by unfold kP;rw [h];rfl
section
variable {X:Xs} {w:World} {β:Bm} {ids:List Nat}
mutual
theorem ve:∀(a:A) (u:Value),(∀i∈refs a,dJ ids i=true)→V X w β a u→V X w (kP ids β) a u
  | .b x,u,_,h=>by simp only [V]at*;exact h
  | .i k n,u,_,h=>by simp only [V]at*;exact h
  | .s l,u,_,h=>by simp only [V]at*;exact h
  | .nl,u,_,h=>by simp only [V]at*;exact h
  | .fz n cs,u,_,h=>by simp only [V]at*;exact h
  | .fp cs,u,_,h=>by simp only [V]at*;exact h
  | .p id off, u, hi, h => by
    simp only [V]at*
    rw [xw (hi id (by simp [refs]))]
    exact h
  | .sl id s off n, u, hi, h => by
    simp only [V]at*
    rw [xw (hi id (by simp [refs]))]
    exact h
  | .ag cs, u, hi, h => by
    simp only [V]at*
    obtain⟨us,h1,h2,h3⟩:=h
    exact⟨us,h1,sZ cs us (fun i h=>hi i (by simpa [refs]using h)) h2,h3⟩
  | .tu vs, u, hi, h => by
    simp only [V]at*
    obtain⟨us,h1,h2⟩:=h
    exact⟨us,h1,sZ vs us (fun i h=>hi i (by simpa [refs]using h)) h2⟩
  | .fn f a c, u, hi, h => by
    simp only [V]at*
    obtain⟨us,vs,h1,h2,h3⟩:=h
    exact⟨us,vs,h1,sZ a us (fun i h=>hi i (by simp [refs,h])) h2,sZ c vs (fun i h=>hi i (by simp [refs,h])) h3⟩
  | .ic t v, u, hi, h => by
    simp only [V]at*
    obtain⟨y,h1,h2⟩:=h
    exact⟨y,h1,ve v y (fun i h=>hi i (by simpa [refs]using h)) h2⟩
  | .raw v,u,_,h=>by simp only [V]at*;exact h
theorem sZ:∀(cs:List A) (us:List Value),(∀i∈fl cs,dJ ids i=true)→VS X w β cs us→VS X w (kP ids β) cs us
  | [],us,_,h=>by simp only [VS]at*;exact h
  | c :: cs, us, hi, h => by
    simp only [VS]at*
    obtain⟨u,r,h1,h2,h3⟩:=h
    exact⟨u,r,h1,ve c u (fun i h=>hi i (by simp [fl,h])) h2,sZ cs r (fun i h=>hi i (by simp [fl,h])) h3⟩
end
theorem Bx:∀ {E:Ev} {t:Nat} {v:A},E.cw t=some v→∀i∈refs v,i∈iP E
  | [],_,_,h,_,_=>by cases h
  | (k, u) :: r, t, v, h, i, hi => by
    simp only [Ev.cw]at h
    simp only [iP,List.mem_append]
    cases hb:Nat.beq k t with
    |true=>rw [hb]at h;simp only [cond_true,Option.some.injEq]at h;subst h;exact .inl hi
    |false=>rw [hb]at h;exact .inr (Bx (E:=r) h i hi)
end
def iM (ids:List Nat) (E:Ev):Bool:=(iP E).all (dJ ids)
theorem PN {ids:List Nat} {β:Bm} {id:Nat} {x:BL} (h:kP ids β id=some x):id∈ids:=by
  unfold kP at h
  cases hm:dJ ids id with
  |true=>exact w9 hm
  |false=>rw [hm]at h;cases h
def ue (B:Bw) (β:Bm) (ids:List Nat) (ss:List dZ):Bw:= {w:=B.w,M:=B.M,β:=kP ids β,ids:=ids,bi:=fun _ _ h=>PN h,sus:=ss}
def Bw.re (B:Bw) (ss:List dZ):Bw:= {w:=B.w,M:=B.M,β:=B.β,ids:=B.ids,bi:=B.bi,sus:=ss}
structure Sub (w0 w1:Bw) (ids:List Nat) (ss:List dZ):Prop where
  w:w1.w=w0.w
  M:w1.M=w0.M
  ext:c4 w0.β w1.β
  ids:w1.ids=ids
  sus:w1.sus=ss++w0.sus
theorem Sub.own {w0 w1:Bw} {ids:List Nat} {ss:List dZ} (h:Sub w0 w1 ids ss) (b:Nat):w1.own b↔w0.own b:=qH h.w h.M b
theorem xa {B:Bw} {β:Bm} {ids idsB:List Nat} {ss:List dZ} (hI:B.ids=idsB) (hs:(idsB.all (dJ ids))=true) (hb:c4 B.β β):c4 B.β (ue B β ids ss).β:=fun id y h=>by
  have hid:=B.bi id y h
  rw [hI]at hid
  show kP ids β id=some y
  rw [xw (List.all_eq_true.1 hs id hid)]
  exact hb id y h
structure Rg (w0 w1:Bw) (ids:List Nat) (l D:Nat) (rc:Loop) (n:Nat) (Ek:Ev) (ps:List Tmp) (assign body:Code) (s:LoopState) (pe:Option Code):Prop where
  sub:Sub w0 w1 ids [.lp l {rc with state:=s,pending:=pe} Ek w1.β,.df D]
  ps:rc.params=ps.toArray
  assign:rc.assign=assign
  body:rc.body=body
  size:rc.tmps.size=n
  ne:l≠D
  old:∀r E β,dZ.lp l r E β∉w0.sus
  oldD:dZ.df D∉w0.sus
structure Rd (w0 w1 w2:Bw) (ids:List Nat) (l D:Nat) (rc:Loop) (Ek:Ev) (s:LoopState) (pe:Option Code) (tm:Array Value) (nI:Nat) (Eit:Ev):Prop where
  sub:Sub w0 w2 ids [.fr tm Eit w2.β,.lp l {rc with state:=s,pending:=pe} Ek w1.β,.df D]
  ext:c4 w1.β w2.β
  size:tm.size=nI
  ne:l≠D
  old:∀r E β,dZ.lp l r E β∉w0.sus
def su (P:Program) (l:Nat) (f:FuncId) (R:Ending→World→Prop):Exit→Act→World→Prop
  | .panic ch,a,w=>a.defers= []∧(∃fn,P.funcs[f]? =some fn)∧R (.panicked ch) w
  |e,a,w=>roundPost P l R e a w
theorem Q4 {F:Fence} {n:Nat} {P:Program} {l:Nat} {f:FuncId} {tmps:Array Value} {assign body:Code} {w:World} {R:Ending→World→Prop} (hF:F.fn f)
    (h:assign.wpIn (F.inRound l) n P (Exit.then (fun a₁ w₁=>∃w₂,(Instr.beginRound l).run P w₁= .ok () w₂∧body.wpIn (F.inRound l) n P (su P l f R) a₁ w₂) (fun _ _ _=>False)) {tmps:=tmps,defers:= []} w):RoundIn F n P l f tmps assign body w R:=by
  refine⟨hF,fun c cs hr=>?_⟩
  let b:Frame:= {(default:Frame)with fn:=f,kind:= .normal,roundOf:=some l}
  have hb0:Frame.round l f tmps assign body .normal=b.atR {tmps:=tmps,defers:= []} [.code assign,.beginRound,.code body]:=by simp [Frame.round,Frame.atR,b]
  have hr':(F.inRound l).room ((c::cs).length+1+n):=hr
  have hF':(F.inRound l).fn b.fn:=hF
  obtain⟨e,a₁,w₁,hq,harr⟩:=h b [.beginRound,.code body] (c::cs) rfl hF' hr'
  rw [←hb0]at harr
  cases e with
  | normal =>
    obtain⟨w₂,hbr,hbody⟩:=hq
    have s1:StepsIn (Machine.fenced P (F.inRound l)) P (lone (b.atR a₁ [.beginRound,.code body]) (c::cs) w₁) (lone (b.atR a₁ [.code body]) (c::cs) w₂):=
      .one (fenced_calm (fr:=b.atR a₁ [.beginRound,.code body]) hF' hr' rfl) (stepR_beginRound rfl hbr)
    obtain⟨e₂,a₂,w₃,hq₂,harr₂⟩:=hbody b [] (c::cs) rfl hF' hr'
    cases e₂ with
    | normal =>
      obtain⟨v,w₄,hend,hR⟩:=hq₂
      exact⟨.returned v,w₄,hR,(StepsIn.trans harr s1).trans (StepsIn.trans harr₂ (.one (fenced_calm (fr:=b.atR a₂ []) hF' hr' rfl) (stepR_round_end rfl rfl hend)))⟩
    | ret =>
      obtain⟨v,w₄,hend,hR⟩:=hq₂
      obtain⟨k₁,hs⟩:=harr₂.2 rfl
      exact⟨.returned v,w₄,hR,(StepsIn.trans harr s1).trans (StepsIn.trans hs (.one (fenced_calm (fr:=b.atR a₂ (.code .ret::k₁)) hF' hr' rfl) (stepR_round_ret rfl rfl hend)))⟩
    | exit id =>
      obtain⟨v,w₄,hend,hR⟩:=hq₂
      obtain⟨k₁,hk,hs⟩:=harr₂.2 rfl rfl
      exact⟨.returned v,w₄,hR,(StepsIn.trans harr s1).trans (StepsIn.trans hs (.one (fenced_calm (fr:=b.atR a₂ (.code (.exit id)::k₁)) hF' hr' rfl) (stepR_round_exit rfl rfl hk hend)))⟩
    | goto t =>
      obtain⟨v,w₄,hend,hR⟩:=hq₂
      obtain⟨k₁,hk,hs⟩:=harr₂.2 rfl rfl
      exact⟨.returned v,w₄,hR,(StepsIn.trans harr s1).trans (StepsIn.trans hs (.one (fenced_calm (fr:=b.atR a₂ (.code (.goto t)::k₁)) hF' hr' rfl) (stepR_round_goto rfl rfl hk hend)))⟩
    | panic chain =>
      obtain⟨hd,hf,hR⟩:=hq₂
      obtain⟨todo,hs⟩:=harr₂
      have hlv:Frame.leaving P {b.atR a₂ todo with mode:= .panicking chain} w₃ (.panicked chain):=⟨rfl,hd,hf⟩
      exact⟨.panicked chain,w₃,hR,(StepsIn.trans harr s1).trans (StepsIn.trans hs (.one (fenced_leaving (F:=F.inRound l) (n:=n) (fr:= {b.atR a₂ todo with mode:= .panicking chain}) (cs:=c::cs) hF' hr' hlv) (step_leave_panicked hlv)))⟩
    |outgrown=>exact hq₂.elim
  |exit id=>exact hq.elim
  |goto t=>exact hq.elim
  |ret=>exact hq.elim
  |panic chain=>exact hq.elim
  |outgrown=>exact hq.elim
abbrev yv (l:Nat):A:= .raw (.func (.yield l) #[] #[])
def sm (ds:List Deferred) (tm:Array Value) (d:Option Nat) (N:Act→World→Prop) (Q:Exit→Act→World→Prop):Ending→World→Prop
  | .returned v,w=>Pw ds N (Act.put ⟨tm, []⟩ d v) w
  | .panicked ch,w=>Q (.panic ch) (Act.wd ds ⟨tm, []⟩) w
  | .outgrown,_=>LetsOut Q
def ur (P:Program) (l:Nat) (f:FuncId) (body:Code) (R:Ending→World→Prop):Act→World→Prop:=fun a w=>∃w',(Instr.beginRound l).run P w= .ok () w'∧body.wpIn (rF (some l)) 0 P (su P l f R) a w'
def GI:Exit→Act→World→Prop:=fun _ _ _=>False
def rY:List Tmp→List A→Ev→Ev
  |t::ts,v::vs,E=>rY ts vs ((t,v)::E)
  |_,_,E=>E
section
variable {P:Program} {w0 w1 w2:Bw} {X0:Xs} {n n':Nat} {E:Ev} {st:St} {Q:Exit→Act→World→Prop} {r:Option Nat} {ds:List Deferred}
theorem Ix {a:Act} {D:Nat} (h:a.defers= []):({a.wd ds with defers:= [{target:= .collected D,args:= #[]}]++(a.wd ds).defers}:Act)=Act.wd (gi D::ds) ⟨a.tmps, []⟩:=by
  unfold Act.wd
  simp [h]
theorem BB {f:FuncId} {fn:Func} {c:Code} {args:Array Value} {w:World} (hf:P.funcs[f]? =some fn) (hb:fn.body=some c) (hname:(fn.name== "runtime.NumGoroutine")=false):(callFunc f args).run P w= .ok (.enter f args) w:=by
  unfold callFunc
  rw [Sem.run_bind,run_program]
  simp only [Result.andThen_ok,hf,hname,hb,Bool.false_eq_true,if_false]
  simp
theorem wJ {B B':Bw} {w w':World} {s:dZ} (h:s.kept B.own w) (hw:∀b,B.own b→B'.own b) (hq:∀(b:Nat) (o:Obj),w.heap[b]? =some o→quiet o=true→w'.heap[b]? =w.heap[b]?):s.kept B'.own w':=by
  cases s with
  |df D=>exact⟨hw _ h.1,(hq _ _ h.2 rfl).trans h.2⟩
  |lp l r E β=>exact⟨hw _ h.1,(hq _ _ h.2 rfl).trans h.2⟩
  |fr _ _ _=>trivial
theorem Hm {g:Operand} {f:FuncId} {fn:Func} {cs:List A} {idsB:List Nat} {β:Bm} {X:Xs} {a:Act} {w:World} (fnid:FuncId) (ids:List Nat) (Ek:Ev) (ps:List Tmp) (assign body:Code) (hI:w0.ids=idsB) (hs:(idsB.all (dJ ids))=true) (hE:le E Ek) (hids:iM ids Ek=true)
    (hg:ev E g=some (.fn (.func f) [] cs)) (ha:cs.length+1≤n') (hn:fn.ntmps=n') (hr:dP w0 X0 n E st β X a w):
    ∃ (vs : List Value) (rc : Loop) (W1 : World), (Instr.enterLoop fnid a.tmps ps.toArray assign body none).run P w = .ok (w.heap.size + 1, [{ target := .collected w.heap.size, args := #[] }]) W1 ∧ a.eval g = .func (.func f) #[] vs.toArray ∧ rc.tmps = a.tmps ∧ rc.fn = fnid ∧
      ∃w1,Rg w0 w1 ids (w.heap.size+1) w.heap.size rc n Ek ps assign body .ready none∧Rel w1 X0 n' (jg (yv (w.heap.size+1)::cs) 0) st ⟨(#[.func (.yield (w.heap.size+1)) #[] #[]]++vs.toArray)++Array.replicate (fn.ntmps - (#[Value.func (.yield (w.heap.size+1)) #[] #[]]++vs.toArray).size) undef, []⟩ W1:=by
  have hgv:=hr.rA hg
  simp only [V]at hgv
  obtain⟨us,vs,e1,e2,e3⟩:=hgv
  simp only [VS]at e2
  subst e2
  obtain⟨rc,hrc⟩:∃rc:Loop,rc= {state:= .ready,pending:=none,fn:=fnid,tmps:=a.tmps,params:=ps.toArray,assign:=assign,body:=body,defers:=w.heap.size}:=⟨_,rfl⟩
  obtain⟨W1,hW1⟩:∃W1,(w.alloc (.deferred (some []))).alloc (.loop rc)=W1:=⟨_,rfl⟩
  have hL1:W1.heap[w.heap.size+1]? =some (.loop rc):=by
    rw [←hW1];have:=World.alloc_heap_new (w.alloc (.deferred (some []))) (.loop rc);rwa [World.size_alloc]at this
  have hD1:W1.heap[w.heap.size]? =some (.deferred (some [])):=by
    rw [←hW1];exact(RowKit.Below.heap_alloc _ _ _ aB).trans (World.alloc_heap_new w _)
  have hB1:RowKit.Below w.heap.size w W1:=by
    rw [←hW1];exact((RowKit.Below.refl _ w).alloc (Nat.le_refl _) _).alloc aB _
  have hq:Qt w0 w W1:= .pw hB1
  have hx:dM X X w W1:=fun b o h=>⟨h,hq.cell (hr.mem.xlt b o h)⟩
  have ho:∀b,w.heap.size≤b→w0.own b:=fun b hb=>Bw.mO hr.mem.below hb
  have hrg:Rg w0 (ue w0 β ids (.lp (w.heap.size+1) rc Ek (kP ids β):: .df w.heap.size::w0.sus)) ids (w.heap.size+1) w.heap.size rc n Ek ps assign body .ready none:=
    ⟨⟨rfl,rfl,xa hI hs hr.mem.b0,rfl,by rw [hrc];rfl⟩,by rw [hrc],by rw [hrc],by rw [hrc],by rw [hrc];exact hr.size,by omega,fun r E β h=>by have:=(Array.getElem?_eq_some_iff.1 (hr.mem.below.sus _ h).2).1;omega,fun h=>by have:=(Array.getElem?_eq_some_iff.1 (hr.mem.below.sus _ h).2).1;omega⟩
  have hrt:rc.tmps=a.tmps:=by rw [hrc]
  refine⟨vs,rc,W1,by rw [←hW1,hrc];exact run_enterLoop_outer _ _ _ _ _,e1,hrt,by rw [hrc],_,hrg,β,X,hr.jW rfl rfl hq Bc (fun s hs'=>?_) (fun s hs'=>?_) ?_ rfl (fun t v ht=>?_)⟩
  · rcases List.mem_cons.1 hs' with rfl | hs'
    · exact⟨ho _ ar,hL1⟩
    · rcases List.mem_cons.1 hs' with rfl | hs'
      · exact⟨ho _ (Nat.le_refl _),hD1⟩
      · exact wJ (hr.mem.below.sus s hs') (fun b hb=>hb) fun b o hb _=>hB1.block b (Array.getElem?_eq_some_iff.1 hb).1
  · rcases List.mem_cons.1 hs' with rfl | hs'
    · intro t v ht
      obtain⟨u,h1,h2⟩:=hr.slot t v (AN hE t v ht)
      refine⟨u,by rw [hrt];exact h1,fR hx _ _ _ _ (c4.refl _) (ve v u (fun i hi=>?_) h2)⟩
      exact List.all_eq_true.1 hids i (Bx ht i hi)
    · rcases List.mem_cons.1 hs' with rfl | hs'
      · trivial
      · exact dZ.mf hx (hr.sslot s hs')
  · have := eF e3
    simp [hn];omega
  · obtain ⟨_, h2⟩ := m7 _ _ _ _ ht
    simp only [Nat.sub_zero]at h2
    have hall:VS X w β (yv (w.heap.size+1)::cs) (.func (.yield (w.heap.size+1)) #[] #[]::vs):=eE (by simp [V]) e3
    obtain⟨u,g1,g2⟩:=ik hall h2
    have hlt:=(List.getElem?_eq_some_iff.1 g1).1
    refine⟨u,?_,g2⟩
    rw [Array.getElem?_append,if_pos (by simp at hlt ⊢;omega)]
    rw [show(#[Value.func (.yield (w.heap.size+1)) #[] #[]]++vs.toArray)=(Value.func (.yield (w.heap.size+1)) #[] #[]::vs).toArray by simp]
    simpa using g1
theorem tg {g:Operand} {ps:List Tmp} {assign body c:Code} {f:FuncId} {fn:Func} {cs:List A} {idsB:List Nat} (ids:List Nat) (Ek:Ev) (hI:w0.ids=idsB) (hs:(idsB.all (dJ ids))=true) (hE:le E Ek) (hids:iM ids Ek=true)
    (hg:ev E g=some (.fn (.func f) [] cs)) (hf:P.funcs[f]? =some fn) (hb:fn.body=some c) (hn:fn.ntmps=n') (hname:(fn.name== "runtime.NumGoroutine")=false) (ha:cs.length+1≤n')
    (h:∀w1 l D rc,Rg w0 w1 ids l D rc n Ek ps assign body .ready none→At w1 X0 n' (jg (yv l::cs) 0) st (Pw [] (c.wpIn (rF none) 0 P (bodyPostM (rF none) 0 P fn (rangePost (rF none) 0 P l Q (Act.wd (gi D::ds) ⟨rc.tmps, []⟩)))))):
    At w0 X0 n E st (Pw ds ((Code.rangeFunc g ps.toArray assign body).wpIn (rF none) 0 P Q)):=by
  rintro a w ⟨β,X,hr⟩
  show(Code.rangeFunc g ps.toArray assign body).wpIn (rF none) 0 P Q (a.wd ds) w
  refine wpIn_rangeFunc fun fnid _=>?_
  obtain⟨vs,rc,W1,g2,g3,hrt,_,w1,hrg,hrel⟩:=Hm (P:=P) (fn:=fn) (n':=n') fnid ids Ek ps assign body hI hs hE hids hg ha hn hr
  refine⟨w.heap.size+1, [{target:= .collected w.heap.size,args:= #[]}],W1, {target:= .fn (.func f) vs.toArray,args:= #[.func (.yield (w.heap.size+1)) #[] #[]]},W1,f,
    #[.func (.yield (w.heap.size+1)) #[] #[]]++vs.toArray,W1,g2,?_,fun _ _=>trivial,?_,(fun h=>by cases h),?_⟩
  · simp only [resolve, we, g3]
    simp [go_sem]
  · simp [invoke,go_sem,BB hf hb hname]
  · rw [Ix hr.defers, ← hrt]
    exact callsIn_of_wp_marks hf hb trivial (mj (h _ _ _ rc hrg _ W1 hrel))
theorem IZ:∀ {ps:List Tmp} {vs:List A} {us:List Value} {tm:Array Value} {E:Ev} {X:Xs} {w:World} {β:Bm} {n:Nat},tm.size=n→(ps.all fun t=>Nat.ble (t+1) n)=true→VS X w β vs us→(∀t v,E.cw t=some v→∃u,tm[t]? =some u∧V X w β v u)→
    ((ps.zip us).foldl (fun(tm:Array Value) (p:Tmp×Value)=>tm.setIfInBounds p.1 p.2) tm).size=n∧∀t v,(rY ps vs E).cw t=some v→∃u,((ps.zip us).foldl (fun(tm:Array Value) (p:Tmp×Value)=>tm.setIfInBounds p.1 p.2) tm)[t]? =some u∧V X w β v u
  | [],vs,us,tm,E,X,w,β,n,hn,_,_,h=>⟨by simpa using hn,by simpa [rY]using h⟩
  | t :: ps, [], us, tm, E, X, w, β, n, hn, _, hv, h => by
    simp only [VS]at hv
    subst hv
    exact⟨by simpa using hn,by simpa [rY]using h⟩
  | t :: ps, v :: vs, us, tm, E, X, w, β, n, hn, hp, hv, h => by
    simp only [VS]at hv
    obtain⟨u,us,rfl,h1,h2⟩:=hv
    simp only [List.all_cons,Bool.and_eq_true]at hp
    have ht:t<tm.size:=by rw [hn];exact Nat.le_of_ble_eq_true hp.1
    simp only [List.zip_cons_cons,List.foldl_cons,rY]
    refine IZ (by simpa using hn) hp.2 h2 fun k x hk=>?_
    simp only [Ev.cw]at hk
    cases hb:Nat.beq t k with
    | true =>
      rw [hb]at hk
      simp only [cond_true,Option.some.injEq]at hk
      subst hk
      rw [←Nat.eq_of_beq_eq_true hb]
      exact⟨u,by simp [ht],h1⟩
    | false =>
      rw [hb]at hk
      obtain⟨u',g1,g2⟩:=h k x hk
      exact⟨u',by rw [Array.getElem?_setIfInBounds_ne (Nat.ne_of_beq_eq_false hb)];exact g1,g2⟩
theorem nc {ops:Array Oper} {rest:List Oper} {d:Nat} {x:Operand} {xs:List Operand} {ats:Array TypeId} {ty:TypeId} {pos:String} {bU:Array Edge} {l D nO:Nat} {rc:Loop} {Ek Er:Ev} {ps:List Tmp} {assign body:Code} {vs:List A} {ids idsB:List Nat} (ids2:List Nat) (Eit:Ev)
    (hR:Rg w0 w1 ids l D rc nO Ek ps assign body .ready none) (hI:w1.ids=idsB) (hs:(idsB.all (dJ ids2))=true) (hE:le E Eit) (hids:iM ids2 Eit=true) (hx:ev E x=some (yv l)) (hxs:eU E xs=some vs) (hl:vs.length=ps.length) (hp:(ps.all fun t=>Nat.ble (t+1) nO)=true) (hEr:rY ps vs Ek=Er)
    (h:∀w2 tm,Rd w0 w1 w2 ids2 l D rc Ek .ready none tm n Eit→At w2 X0 nO Er st (Pw [] (assign.wpIn (rF (some l)) 0 P (Exit.then (ur P l rc.fn body (sm ds tm (some d) (wpListIn (rF r) 0 P ops Q rest) Q)) GI)))):
    At w1 X0 n E st (Pw ds (wpListIn (rF r) 0 P ops Q (⟨some d,.call {callee:= .value x,args:=xs.toArray,argTypes:=ats},ty,pos,bU,none⟩::rest))):=by
  rintro⟨tm,dfs⟩ w ⟨β,X,hr⟩
  obtain rfl:dfs= []:=hr.defers
  obtain⟨a,ha⟩:∃a:Act,a=⟨tm, []⟩:=⟨_,rfl⟩
  rw [←ha]at hr ⊢
  subst hEr
  show wpListIn (rF r) 0 P ops Q (_::rest) (a.wd ds) w
  unfold wpListIn
  rw [if_pos ba]
  have e1:=hr.rA hx
  simp only [V]at e1
  obtain⟨us,e3,e4⟩:=hr.gj hxs
  have hm:=Eng.eN.gj (fW a hr.defers) e3
  have hmem:(.lp l {rc with state:= .ready,pending:=none} Ek w1.β:dZ)∈w1.sus:=by rw [hR.sub.sus];exact .head _
  have hk:=hr.mem.below.sus _ hmem
  have hus:us.length=vs.length:=eF e4
  have hy:=run_yield (P:=P) (args:=us.toArray) hk.2 (by simp [hR.ps,hus,hl])
  have hrun:(execOp a.eval ⟨some d,.call {callee:= .value x,args:=xs.toArray,argTypes:=ats},ty,pos,bU,none⟩).run P w= .ok (.round l rc.fn ((rc.params.zip us.toArray).foldl (fun tmps (t,a)=>tmps.setIfInBounds t a) rc.tmps) rc.assign rc.body) w:=by
    have he:xs.toArray.map a.eval=us.toArray:=by rw [List.map_toArray,hm]
    have:execOp a.eval ⟨some d,.call {callee:= .value x,args:=xs.toArray,argTypes:=ats},ty,pos,bU,none⟩=Instr.yield l us.toArray:=by
      show(do let d ←Deferred.ofValue (a.eval x) (xs.toArray.map a.eval);invoke d.target d.args:Sem Next)=_
      rw [e1,he]
      simp [Deferred.ofValue,invoke]
    rw [this,hy]
  unfold Oper.wpIn
  refine⟨fun _ _=>trivial,?_⟩
  rw [Oper.semAt_eq _ _ _ (fun c h=>by cases h),wg,hrun,Oper.uponIn_round]
  refine⟨fun h=>(by cases h),?_⟩
  rw [hR.assign,hR.body]
  have hlp:=hr.sslot _ hmem
  have hRd:Rd w0 w1 (ue w1 β ids2 (.fr tm Eit (kP ids2 β)::w1.sus)) ids2 l D rc Ek .ready none tm n Eit:=
    ⟨⟨hR.sub.w,hR.sub.M,fun id y h=>xa hI hs hr.mem.b0 id y (hR.sub.ext id y h),rfl,by show _::w1.sus=_;rw [hR.sub.sus];rfl⟩,xa hI hs hr.mem.b0,by have:=hr.size;rw [ha]at this;exact this,hR.ne,hR.old⟩
  have hgo:=h _ _ hRd
  have hz:=IZ (X:=X) (w:=w) (β:=β) (E:=Ek) (n:=nO) (tm:=rc.tmps) hR.size hp e4 (fun t v ht=>by
    obtain⟨u,g1,g2⟩:=hlp t v ht
    exact⟨u,g1,fR (fun b o h=>⟨h,rfl⟩) _ _ _ _ hr.mem.b0 g2⟩)
  have hfold:((rc.params.zip us.toArray).foldl (fun tmps (t,a)=>tmps.setIfInBounds t a) rc.tmps)=((ps.zip us).foldl (fun(tm:Array Value) (p:Tmp×Value)=>tm.setIfInBounds p.1 p.2) rc.tmps):=by
    rw [hR.ps];simp
  rw [hfold]
  have hgo':assign.wpIn ((rF r).inRound l) (0 - 1) P (Exit.then (ur P l rc.fn body (sm ds tm (some d) (wpListIn (rF r) 0 P ops Q rest) Q)) GI) ⟨(ps.zip us).foldl (fun(tm:Array Value) (p:Tmp×Value)=>tm.setIfInBounds p.1 p.2) rc.tmps, []⟩ w:=mj (hgo _ w ⟨β,X,hr.jW (w2:=ue w1 β ids2 (.fr tm Eit (kP ids2 β)::w1.sus)) rfl rfl .refl Bc (fun s hs'=>?_) (fun s hs'=>?_) hz.1 rfl hz.2⟩)
  · obtain ⟨k1, k2⟩ := Q4 (F := rF r) (n := 0 - 1) (f := rc.fn) trivial hgo'
    refine⟨k1,fun c cs hr=>?_⟩
    obtain⟨e,w',h1,h2⟩:=k2 c cs hr
    refine⟨e,w',?_,h2⟩
    subst ha
    cases e with
    |returned v=>show wpListIn (rF r) 0 P ops Q rest ((Act.wd ds ⟨tm, []⟩).put (some d) v) w';rw [mP];exact h1
    |panicked ch=>exact h1
    |outgrown=>exact h1
  · rcases List.mem_cons.1 hs' with rfl | hs'
    · trivial
    · exact hr.mem.below.sus s hs'
  · rcases List.mem_cons.1 hs' with rfl | hs'
    · intro t v ht
      obtain⟨u,h1,h2⟩:=hr.slot t v (AN hE t v ht)
      refine⟨u,by rw [ha]at h1;exact h1,ve v u (fun i hi=>?_) h2⟩
      exact List.all_eq_true.1 hids i (Bx ht i hi)
    · exact hr.sslot s hs'
theorem AK {B B':Bw} {l:Nat} {x y:Loop} {w:World} (hl:w.heap[l]? =some (.loop x)) (hw:∀b,B.own b→B'.own b) {s:dZ} (hs:∀r E β,s≠ .lp l r E β) (h:s.kept B.own w):s.kept B'.own (w.putObj l (.loop y)):=by
  cases s with
  | df D =>
    refine⟨hw _ h.1,(World.putObj_heap_other (fun e=>?_)).trans h.2⟩
    have:=h.2
    rw [e,hl]at this
    cases this
  | lp l' r E β =>
    refine⟨hw _ h.1,(World.putObj_heap_other (fun e=>?_)).trans h.2⟩
    subst e
    exact hs r E β rfl
  |fr _ _ _=>trivial
theorem HW {β:Bm} {X:Xs} {w:World} {l:Nat} {r r':Loop} {E:Ev} (h:(dZ.lp l r E β).slots X w) (ht:r'.tmps=r.tmps):(dZ.lp l r' E β).slots X w:=fun t v hv=>by rw [ht];exact h t v hv
theorem m9 {l D n1 : Nat} {rc : Loop} {Ek Eit : Ev} {body : Code} {ids : List Nat} {tm : Array Value} {R : Ending → World → Prop} {Z : Exit → Act → World → Prop} (hd : Rd w0 w1 w2 ids l D rc Ek .ready none tm n1 Eit)
    (h:∀w3,Rd w0 w1 w3 ids l D rc Ek .busy none tm n1 Eit→At w3 X0 n E st (Pw [] (body.wpIn (rF (some l)) 0 P (su P l rc.fn R)))):At w2 X0 n E st (Pw [] (Exit.then (ur P l rc.fn body R) Z .normal)):=by
  rintro a w ⟨β,X,hr⟩
  show ur P l rc.fn body R (a.wd []) w
  rw [oL]
  have hmem:(.lp l {rc with state:= .ready,pending:=none} Ek w1.β:dZ)∈w2.sus:=by rw [hd.sub.sus];exact .tail _ (.head _)
  have hk:=hr.mem.below.sus _ hmem
  have hl:=hk.2
  refine⟨_,run_beginRound hl rfl,?_⟩
  have hss:w2.sus= .fr tm Eit w2.β:: .lp l {rc with state:= .ready,pending:=none} Ek w1.β:: .df D::w0.sus:=hd.sub.sus
  have hlt:=(Array.getElem?_eq_some_iff.1 hl).1
  have hx:dM X X w (w.putObj l (.loop {rc with state:= .busy,pending:=none})):=fun b o h=>⟨h,(Qt.put (B:=w2) hk.1 hl rfl rfl).cell (hr.mem.xlt b o h)⟩
  refine mj (h (w2.re (.fr tm Eit w2.β:: .lp l {rc with state:= .busy,pending:=none} Ek w1.β:: .df D::w0.sus)) ⟨⟨hd.sub.w,hd.sub.M,hd.sub.ext,hd.sub.ids,rfl⟩,hd.ext,hd.size,hd.ne,hd.old⟩ a _ ⟨β,X,hr.jW rfl rfl (Qt.put hk.1 hl rfl rfl) hr.mem.b0 (fun s hs=>?_) (fun s hs=>?_) hr.size hr.defers hr.slot⟩)
  · rcases List.mem_cons.1 hs with rfl | hs
    · trivial
    · rcases List.mem_cons.1 hs with rfl | hs
      · exact⟨hk.1,World.putObj_heap_same hlt⟩
      · refine AK hl (fun b h => h) (fun r E β e => ?_) (hr.mem.below.sus s (by rw [hss]; exact .tail _ (.tail _ hs)))
        subst e
        rcases List.mem_cons.1 hs with e|hs
        · cases e
        · exact hd.old _ _ _ hs
  · have hold : ∀ s ∈ w2.sus, s.slots X (w.putObj l (.loop { rc with state := .busy, pending := none })) := fun s hs => dZ.mf hx (hr.sslot s hs)
    rw [hss]at hold
    rcases List.mem_cons.1 hs with rfl|hs
    · exact hold _ (.head _)
    · rcases List.mem_cons.1 hs with rfl | hs
      · exact HW (hold _ (.tail _ (.head _))) rfl
      · exact hold _ (.tail _ (.tail _ hs))
theorem Hr {wj:Bw} {l D n1 nO:Nat} {rc:Loop} {Ek Eit:Ev} {ps:List Tmp} {assign body:Code} {ids idsR:List Nat} {tm:Array Value} {d:Nat} {N:Act→World→Prop} (jump:Option Code) (hβ:wj.β=w1.β) (hR:Rg w0 wj idsR l D rc nO Ek ps assign body (if jump.isNone then .ready else .done) jump) (hd:Rd w0 w1 w2 ids l D rc Ek .busy none tm n1 Eit) (hdn:Nat.ble (d+1) n1=true)
    (h:At wj X0 n1 ((d,.b jump.isNone)::Eit) st (Pw ds N)) {a:Act} {w:World} (hrel:Rel w2 X0 n E st a w):∃v w',(Instr.endRound l jump).run P w= .ok v w'∧sm ds tm (some d) N Q (.returned v) w':=by
  obtain⟨β,X,hr⟩:=hrel
  have hmem:(.lp l {rc with state:= .busy,pending:=none} Ek w1.β:dZ)∈w2.sus:=by rw [hd.sub.sus];exact .tail _ (.head _)
  have hk:=hr.mem.below.sus _ hmem
  have hl:=hk.2
  have hss:w2.sus= .fr tm Eit w2.β:: .lp l {rc with state:= .busy,pending:=none} Ek w1.β:: .df D::w0.sus:=hd.sub.sus
  have hs1:wj.sus= .lp l {rc with state:=(if jump.isNone then .ready else .done),pending:=jump} Ek wj.β:: .df D::w0.sus:=hR.sub.sus
  have hlt:=(Array.getElem?_eq_some_iff.1 hl).1
  have hw:w2.w=wj.w:=hd.sub.w.trans hR.sub.w.symm
  have hM:w2.M=wj.M:=hd.sub.M.trans hR.sub.M.symm
  have hb1:c4 wj.β β:=fun id y h=>hr.mem.b0 id y (hd.ext id y (hβ ▸ h))
  refine⟨_,_,run_endRound jump hl,?_⟩
  obtain⟨o',ho'⟩:∃o':Loop,o'= {rc with state:=(if jump.isNone then .ready else .done),pending:=jump}:=⟨_,rfl⟩
  have ho2:({ {rc with state:= .busy,pending:=none}with state:=(if jump.isNone then .ready else .done),pending:=jump}:Loop)=o':=by rw [ho']
  rw [←ho']at hs1
  rw [ho2]
  have hx:dM X X w (w.putObj l (.loop o')):=fun b o h=>⟨h,(Qt.put (B:=w2) hk.1 hl rfl rfl).cell (hr.mem.xlt b o h)⟩
  have hfr:=hr.sslot (.fr tm Eit w2.β) (by rw [hss];exact .head _)
  refine h (Act.put ⟨tm, []⟩ (some d) (.bool jump.isNone)) _ ⟨β,X,hr.jW hw.symm hM.symm (Qt.put hk.1 hl rfl rfl) hb1 (fun s hs=>?_) (fun s hs=>?_) (by simpa [Act.put]using hd.size) rfl (fun t v ht=>?_)⟩
  · rw [hs1] at hs
    rcases List.mem_cons.1 hs with rfl|hs
    · exact⟨(qH hw hM l).1 hk.1,World.putObj_heap_same hlt⟩
    · refine AK (B := w2) hl (fun b h => (qH hw hM b).1 h) (fun r E β e => ?_) (hr.mem.below.sus s (by rw [hss]; exact .tail _ (.tail _ hs)))
      subst e
      rcases List.mem_cons.1 hs with e|hs
      · cases e
      · exact hd.old _ _ _ hs
  · rw [hs1] at hs
    have hold:∀s∈w2.sus,s.slots X (w.putObj l (.loop o')):=fun s hs=>dZ.mf hx (hr.sslot s hs)
    rw [hss]at hold
    rcases List.mem_cons.1 hs with rfl|hs
    · rw [hβ];exact HW (hold _ (.tail _ (.head _))) (by rw [ho'])
    · exact hold _ (.tail _ (.tail _ hs))
  · simp only [Ev.cw] at ht
    cases hb:Nat.beq d t with
    | true =>
      rw [hb]at ht
      simp only [cond_true,Option.some.injEq]at ht
      subst ht
      rw [←Nat.eq_of_beq_eq_true hb]
      exact⟨.bool jump.isNone,by simp [Act.put,show d<tm.size by rw [hd.size];exact Nat.le_of_ble_eq_true hdn],by simp [V]⟩
    | false =>
      rw [hb]at ht
      obtain⟨u,g1,g2⟩:=hfr t v ht
      exact⟨u,by simp only [Act.put];rw [Array.getElem?_setIfInBounds_ne (Nat.ne_of_beq_eq_false hb)];exact g1,fR (fun b o h=>⟨h,rfl⟩) _ _ _ _ hr.mem.b0 g2⟩
section rend
variable {l D n1 nO:Nat} {rc:Loop} {Ek Eit:Ev} {ps:List Tmp} {assign body:Code} {ids idsR:List Nat} {tm:Array Value} {d:Nat} {N:Act→World→Prop}
theorem na (hR:Rg w0 w1 idsR l D rc nO Ek ps assign body .ready none) (hd:Rd w0 w1 w2 ids l D rc Ek .busy none tm n1 Eit) (hdn:Nat.ble (d+1) n1=true)
    (h:At w1 X0 n1 ((d,.b true)::Eit) st (Pw ds N)):At w2 X0 n E st (Pw [] (su P l rc.fn (sm ds tm (some d) N Q) .normal)):=fun _ _ hr=>Hr none rfl hR hd hdn h hr
theorem Rg.stop (s:LoopState) (pe:Option Code) (hR:Rg w0 w1 idsR l D rc nO Ek ps assign body .ready none):∃wj,wj.β=w1.β∧Rg w0 wj idsR l D rc nO Ek ps assign body s pe:=
  ⟨w1.re (.lp l {rc with state:=s,pending:=pe} Ek w1.β:: .df D::w0.sus),rfl,⟨hR.sub.w,hR.sub.M,hR.sub.ext,hR.sub.ids,rfl⟩,hR.ps,hR.assign,hR.body,hR.size,hR.ne,hR.old,hR.oldD⟩
theorem J6 (hR:Rg w0 w1 idsR l D rc nO Ek ps assign body .ready none) (hd:Rd w0 w1 w2 ids l D rc Ek .busy none tm n1 Eit) (hdn:Nat.ble (d+1) n1=true)
    (h:∀wj,Rg w0 wj idsR l D rc nO Ek ps assign body .done (some .ret)→At wj X0 n1 ((d,.b false)::Eit) st (Pw ds N)):At w2 X0 n E st (Pw [] (su P l rc.fn (sm ds tm (some d) N Q) .ret)):=fun _ _ hr=>by
  obtain⟨wj,hb,hS⟩:=hR.stop .done (some .ret)
  exact Hr (some .ret) hb hS hd hdn (h _ hS) hr
end rend
theorem FI {l D nO:Nat} {rc:Loop} {Ek:Ev} {ps:List Tmp} {assign body:Code} {idsR:List Nat} {s:LoopState} {pe:Option Code} {fn:Func} {ss:List dZ} (hres:fn.results= #[]) (hs:s≠ .busy) (hR:Rg w0 w1 idsR l D rc nO Ek ps assign body s pe) (hs0:w0.sus=ss)
    (h:At (w0.re (.df D::ss)) X0 nO Ek st (Pw (gi D::ds) (match pe with|none=>Q .normal|some c=>c.wpIn (rF r) 0 P Q))) {a:Act} {w:World} (hrel:Rel w1 X0 n E st a w):LeavesInM (rF none) 0 P fn a.tmps (rangePost (rF r) 0 P l Q (Act.wd (gi D::ds) ⟨rc.tmps, []⟩)) [] .returning w:=by
  obtain⟨β,X,hr⟩:=hrel
  subst hs0
  have hss:w1.sus= .lp l {rc with state:=s,pending:=pe} Ek w1.β:: .df D::w0.sus:=hR.sub.sus
  have hmem:(.lp l {rc with state:=s,pending:=pe} Ek w1.β:dZ)∈w1.sus:=by rw [hss];exact .head _
  have hk:=hr.mem.below.sus _ hmem
  have hl:=hk.2
  have hlp:=hr.sslot _ hmem
  have hx:dM X X w (w.putObj l (.loop {rc with state:= .exhausted,pending:=pe})):=fun b o h=>⟨h,(Qt.put (B:=w1) hk.1 hl rfl rfl).cell (hr.mem.xlt b o h)⟩
  have hrun:(results fn a.tmps).run P w= .ok (.tuple #[]) w:=oD (rs:= []) (us:= []) (by rw [hres]) aB
  have hrel0:Rel (w0.re (.df D::w0.sus)) X0 nO Ek st ⟨rc.tmps, []⟩ (w.putObj l (.loop {rc with state:= .exhausted,pending:=pe})):=by
    refine⟨β,X,hr.jW hR.sub.w.symm hR.sub.M.symm (Qt.put hk.1 hl rfl rfl) (fun id y h=>hr.mem.b0 id y (hR.sub.ext id y h)) (fun s' hs'=>?_) (fun s' hs'=>?_) hR.size rfl (fun t v ht=>?_)⟩
    · refine AK (B := w1) hl (fun b h => (qH hR.sub.w hR.sub.M b).1 h) (fun r E β e => ?_) (hr.mem.below.sus s' (by rw [hss]; exact .tail _ hs'))
      subst e
      rcases List.mem_cons.1 hs' with e|hs'
      · cases e
      · exact hR.old _ _ _ hs'
    · exact dZ.mf hx (hr.sslot s' (by rw [hss];exact .tail _ hs'))
    · obtain ⟨u, g1, g2⟩ := hlp t v ht
      exact⟨u,g1,fR (fun b o h=>⟨h,rfl⟩) _ _ _ _ hr.mem.b0 g2⟩
  refine⟨_,hrun,pe,_,run_endLoop hl hs,?_⟩
  have:=h _ _ hrel0
  cases pe with
  |none=>exact this
  |some c=>exact this
section itret
variable {l D nO:Nat} {rc:Loop} {Ek:Ev} {ps:List Tmp} {assign body:Code} {idsR:List Nat} {s:LoopState} {fn:Func} {ss:List dZ}
theorem JZ (hres:fn.results= #[]) (hR:Rg w0 w1 idsR l D rc nO Ek ps assign body .ready none) (hs0:w0.sus=ss) (h:At (w0.re (.df D::ss)) X0 nO Ek st (Pw (gi D::ds) (Q .normal))):
    At w1 X0 n E st (Pw [] (bodyPostM (rF none) 0 P fn (rangePost (rF r) 0 P l Q (Act.wd (gi D::ds) ⟨rc.tmps, []⟩)) .ret)):=fun a w hr=>by
  have hd:a.defers= []:=by obtain⟨_,_,hr⟩:=hr;exact hr.defers
  show LeavesInM (rF none) 0 P fn (a.wd []).tmps _ (a.wd []).defers .returning w
  rw [oL,hd]
  exact FI hres aB hR hs0 h hr
theorem td (hres:fn.results= #[]) (hR:Rg w0 w1 idsR l D rc nO Ek ps assign body .ready none) (hs0:w0.sus=ss) (h:At (w0.re (.df D::ss)) X0 nO Ek st (Pw (gi D::ds) (Q .normal))):
    At w1 X0 n E st (Pw [] (bodyPostM (rF none) 0 P fn (rangePost (rF r) 0 P l Q (Act.wd (gi D::ds) ⟨rc.tmps, []⟩)) .normal)):=JZ hres hR hs0 h
theorem J0 {c:Code} (hres:fn.results= #[]) (hR:Rg w0 w1 idsR l D rc nO Ek ps assign body .done (some c)) (hs0:w0.sus=ss) (h:At (w0.re (.df D::ss)) X0 nO Ek st (Pw (gi D::ds) (c.wpIn (rF r) 0 P Q))):
    At w1 X0 n E st (Pw [] (bodyPostM (rF none) 0 P fn (rangePost (rF r) 0 P l Q (Act.wd (gi D::ds) ⟨rc.tmps, []⟩)) .ret)):=fun a w hr=>by
  have hd:a.defers= []:=by obtain⟨_,_,hr⟩:=hr;exact hr.defers
  show LeavesInM (rF none) 0 P fn (a.wd []).tmps _ (a.wd []).defers .returning w
  rw [oL,hd]
  exact FI hres aB hR hs0 h hr
theorem JY {c:Code} (hres:fn.results= #[]) (hR:Rg w0 w1 idsR l D rc nO Ek ps assign body .done (some c)) (hs0:w0.sus=ss) (h:At (w0.re (.df D::ss)) X0 nO Ek st (Pw (gi D::ds) (c.wpIn (rF r) 0 P Q))):
    At w1 X0 n E st (Pw [] (bodyPostM (rF none) 0 P fn (rangePost (rF r) 0 P l Q (Act.wd (gi D::ds) ⟨rc.tmps, []⟩)) .normal)):=J0 hres hR hs0 h
end itret
theorem Mq {f:FuncId} {fn:Func} {c:Code} {args:List A} {s0:St} {R:A→St→Prop} (hf:P.funcs[f]? =some fn) (hb:fn.body=some c)
    (hn:fn.ntmps=n) (hname:(fn.name== "runtime.NumGoroutine")=false) (ha:args.length≤n)
    (h:∀w0 X0,w0.ids=s0.os.map Prod.fst→w0.sus= []→At w0 X0 n (jg args 0) s0 (Pw [] (c.wpIn (rF none) 0 P (bodyPostM (rF none) 0 P fn fun e w'=>∃v,e= .returned v∧Post w0 X0 R v w')))):dG P f args s0 R:=by
  intro w X β us hd hX hgl ho hi hv
  have hl:=eF hv
  refine⟨⟨fn,hf,by simp [hb],hname⟩,(callsIn_wide (n:=0)).1 (callsIn_of_wp_marks hf hb trivial (mj (h (bw w β s0 hd) X rfl rfl _ w ⟨β,X,.of (fun _ _ h=>h) (fun _ _ h=> .inl h) (.of ⟨rfl,rfl,rfl,Nat.le_refl _,fun _ _ _=>rfl,fun s hs=>by cases hs⟩ (c4.refl β) hX hd ho hi) hgl ?_ rfl (fun s hs=>by cases hs) (fun t v ht=>?_)⟩)))⟩
  · simp [hn];omega
  · obtain ⟨_, h2⟩ := m7 _ _ _ _ ht
    simp only [Nat.sub_zero]at h2
    obtain⟨u,g1,g2⟩:=ik hv h2
    have hlt:=(List.getElem?_eq_some_iff.1 g1).1
    refine⟨u,?_,g2⟩
    rw [Array.getElem?_append,if_pos aT]
    simpa using g1
theorem qm {f:FuncId} {fn:Func} {c:Code} {args:List A} {R:A→St→Prop} (hf:P.funcs[f]? =some fn) (hb:fn.body=some c)
    (hn:fn.ntmps=n) (hname:(fn.name== "runtime.NumGoroutine")=false) (ha:args.length≤n)
    (h:∀w0 X0,w0.ids= []→w0.sus= []→At w0 X0 n (jg args 0) ⟨[]⟩ (Pw [] (c.wpIn (rF none) 0 P (bodyPostM (rF none) 0 P fn fun e w'=>∃v,e= .returned v∧Post w0 X0 R v w')))):bO P f args R:=Mq hf hb hn hname ha h
theorem Gp {fn:Func} {Rr:Ending→World→Prop}:∀(ds:List Nat) {wB:Bw} {a:Act} {w:World},ds.Nodup→wB.sus=ds.map .df→Rel wB X0 n E st a w→(∀w',Rel (wB.re []) X0 n E st a w'→∃v,(results fn a.tmps).run P w'= .ok v w'∧Rr (.returned v) w')→
    LeavesInM (rF none) 0 P fn a.tmps Rr (ds.map gi) .returning w
  | [], wB, a, w, _, hs, ⟨β, X, hr⟩, h => by
    refine h w ⟨β,X,hr.jW rfl rfl .refl hr.mem.b0 (fun s hs=>by cases hs) (fun s hs=>by cases hs) hr.size hr.defers hr.slot⟩
  | D :: ds, wB, a, w, hnd, hs, ⟨β, X, hr⟩, h => by
    have hs':wB.sus= .df D::ds.map .df:=by simpa using hs
    have hk:=hr.mem.below.sus (.df D) (by rw [hs'];exact .head _)
    have hx:dM X X w (w.putObj D (.deferred none)):=fun b o h=>⟨h,(Qt.put (B:=wB) hk.1 hk.2 rfl rfl).cell (hr.mem.xlt b o h)⟩
    refine⟨by simp,.inl ⟨D,_,rfl,run_takeDeferred hk.2,?_⟩⟩
    refine Gp ds (wB:=wB.re (ds.map .df)) (List.nodup_cons.1 hnd).2 rfl ⟨β,X,hr.jW rfl rfl (Qt.put hk.1 hk.2 rfl rfl) hr.mem.b0 (fun s hs=>?_) (fun s hs=>?_) hr.size hr.defers hr.slot⟩ h
    · obtain ⟨D', hD, rfl⟩ := List.mem_map.1 hs
      have hk':=hr.mem.below.sus (.df D') (by rw [hs'];exact .tail _ hs)
      exact⟨hk'.1,(World.putObj_heap_other (fun e:D'=D=>(List.nodup_cons.1 hnd).1 (e ▸ hD))).trans hk'.2⟩
    · obtain ⟨D', hD, rfl⟩ := List.mem_map.1 hs
      trivial
theorem qb {wB:Bw} {fn:Func} {R:A→St→Prop} {rs:List ResultVar} {vs:List A} (hw:wB.w=w0.w) (hM:wB.M=w0.M) (hβ:wB.β=w0.β) (hs0:w0.sus= []) {dn:List Nat} (hdn:ds=dn.map gi) (hsB:wB.sus=dn.map .df) (hnd:dn.Nodup) (hrs:fn.results=rs.toArray) (hv:gA P E st rs vs) (h:R (mQ vs) st):
    At wB X0 n E st (Pw ds (bodyPostM (rF none) 0 P fn (fun e w'=>∃v,e= .returned v∧Post w0 X0 R v w') .ret)):=fun a w hr=>by
  have hd:a.defers= []:=by obtain⟨_,_,hr⟩:=hr;exact hr.defers
  show LeavesInM (rF none) 0 P fn a.tmps _ (a.wd ds).defers .returning w
  have e:(a.wd ds).defers=dn.map gi:=by simp [Act.wd,hd,hdn]
  rw [e]
  refine Gp dn hnd hsB hr fun w' ⟨β,X,hr'⟩=>?_
  obtain⟨us,h1,h2⟩:=hv _ _ _ _ _ _ _ hr'.toRelQ
  have hr0:dP w0 X0 n E st β X a w':=hr'.jW hw.symm hM.symm .refl (by rw [←hβ];exact hr'.mem.b0) (fun s hs=>by rw [hs0]at hs;cases hs) (fun s hs=>by rw [hs0]at hs;cases hs) hr'.size hr'.defers hr'.slot
  exact⟨_,oD hrs h1,_,rfl,_,β,X,st,h,hr0.x0,hr0.xn,hr0.mem,s4 h2⟩
def u5 (mk:Nat→A) (cs:List A):A→St→Prop:=fun r st=>∃id,r=mk id∧st.get id=some cs
def qW (mk:Nat→A):Prop:=∀X w β i u,V X w β (mk i) u→(∃b N,β i=some (.bk b N))∧∀X' w' β' j,β' j=β i→V X' w' β' (mk j) u
theorem xu {f:Fn}:qW (fun i=> .fn f [] [.p i 0]):=by
  intro X w β i u h
  simp only [V,VS]at h
  obtain⟨us,vs,rfl,rfl,x,r,rfl,⟨b,N,h1,rfl⟩,rfl⟩:=h
  refine⟨⟨b,N,h1⟩,fun X' w' β' j hj=>?_⟩
  simp only [V,VS]
  exact⟨[],_,rfl,rfl,_, [],rfl,⟨b,N,hj.trans h1,rfl⟩,rfl⟩
theorem O3 {K : Act → World → Prop} {mk : Nat → A} (hmk : qW mk) {d : Nat} (nx : Nat) (hfr : st.free nx = true) {f : FuncId} {x : Operand} {xs : List Operand} {fs cs vs vs' cells : List A} {ats : Array TypeId} {ty : TypeId} {pos aft' g} (ow : Bool) (hx : ev E x = some (.fn (.func f) fs cs)) (hxs : eU E xs = some vs) (hv : cv st ⟨[]⟩ ow (fs ++ vs ++ cs) vs')
    (hc:bO P f vs' (u5 mk cells)) (hp:dc cells) (hf:ow=false∨fx cells) (hd:Nat.ble (d+1) n=true) (h:At w0 X0 n ((d,mk nx)::E) (st.put nx cells) K):
    At w0 X0 n E st (fun a w=>(⟨some d,.call {callee:= .value x,args:=xs.toArray,argTypes:=ats},ty,pos,aft',g⟩:Oper).wp P a w K Q):=by
  rintro a w ⟨β,X,hr⟩
  refine oc hr hx hxs (s0:=⟨[]⟩) trivial hv hc fun v w' ⟨r,β',X',st',hR,hsup,hsub,hm,hvv⟩=>?_
  obtain⟨id,rfl,hg⟩:=hR
  obtain⟨m1,m2,m3,m4,m6⟩:=hm.after hr (fun id cs h=>by cases h) hsub hsup (upds:= []) (fun p hp=>by cases hp)
  rw [s5]at m1
  have hnx:=hr.mem.dom nx hfr
  have ho:=hm.obj id cells hg
  unfold OB at ho
  obtain⟨⟨b,N,hβ⟩,hV⟩:=hmk _ _ _ _ _ hvv
  rw [hβ]at ho
  obtain⟨o1,o2,us,rest,ety,o3,o4,o5,o6⟩:=ho
  have o1:w.heap.size≤b:=by
    rcases o1 with h|⟨id',cs',h,_⟩
    · exact h
    · cases h
  have hnX:∀o,¬(X b o∨(X' b o∧(bw w (dY ⟨[]⟩ β) ⟨[]⟩ ff).own b)):=fun o h=>by
    rcases h with h|⟨h,_⟩
    · exact o2 o (hsup b o (.inl h))
    · exact o2 o h
  have hvs:VS (fun b o=>X b o∨(X' b o∧(bw w (dY ⟨[]⟩ β) ⟨[]⟩ ff).own b)) w' (dI β nx (.bk b N)) cells us:=by
    rcases hf with hf|hf
    · exact gB (m4 hf) _ _ _ _ (c4.refl _) (mn _ _ hp o5)
    · exact nW _ _ hf o5
  have hfresh:∀k ck q M,st.get k=some ck→β k=some (.bk q M)→q≠b:=fun k ck q M hk hq=>by
    have:=m6 q M k ck hk hq
    omega
  have m5 : Mem w0 (dI β nx (.bk b N)) (fun b o => X b o ∨ (X' b o ∧ (bw w (dY ⟨[]⟩ β) ⟨[]⟩ ff).own b)) (st.put nx cells) w' := by
    refine .of (m1.below) (fun k y h=>(dX hnx) k y (m1.b0 k y h)) (m1.xlt) (fun k h=>?_) (fun k es hk=>?_) (fun i j ci cj q M N' hij hi hj hbi hbj=>?_)
    · rw [St.gv] at h
      split at h
      · cases h
      · rename_i hne
        rw [dL (fun e=>hne e.symm)]
        exact hr.mem.dom k h
    · rw [St.dV] at hk
      split at hk
      · rename_i e; subst e
        simp only [Option.some.injEq]at hk
        subst hk
        unfold OB
        rw [cW]
        exact⟨Bw.mO hr.mem.below o1,hnX,us,rest,ety,o3,o4,hvs,o6⟩
      · refine (m1.obj k es hk).later (fun _ _ h => ⟨h, rfl⟩) (dX hnx) (fun q M hq => ⟨rfl, ?_⟩) fun q hq => ⟨rfl, ((m1.obj k es hk).gm hq).2.2.1⟩
        have hk':=m1.obj k es hk
        unfold OB at hk'
        rw [hq]at hk'
        exact hk'.2.1
    · rw [St.dV] at hi hj
      by_cases ei:nx=i
      · by_cases ej : nx = j
        · omega
        · rw [if_neg ej] at hj
          rw [←ei,cW]at hbi
          rw [dL ar]at hbj
          simp only [Option.some.injEq,BL.bk.injEq]at hbi
          exact hfresh j cj q N' hj hbj ar
      · rw [if_neg ei] at hi
        rw [dL ar]at hbi
        by_cases ej:nx=j
        · rw [← ej, cW] at hbj
          simp only [Option.some.injEq,BL.bk.injEq]at hbj
          exact hfresh i ci q M hi hbi ar
        · rw [if_neg ej] at hj
          rw [dL ar]at hbj
          exact hr.mem.inj i j ci cj q M N' hij hi hj hbi hbj
  exact h _ _ ⟨_,_,hr.jF hd m2 m3 (dX hnx) m5 (hV _ _ _ _ (cW.trans hβ.symm))⟩
theorem GB {K:Act→World→Prop} {mk:Nat→A} (hmk:qW mk) {d:Nat} (nx:Nat) (hfr:st.free nx=true) {f:FuncId} {xs:List Operand} {vs vs' cells:List A} {ats:Array TypeId} {ty:TypeId} {pos aft' g} (ow:Bool) (hxs:eU E xs=some vs) (hv:cv st ⟨[]⟩ ow vs vs')
    (hc:bO P f vs' (u5 mk cells)) (hp:dc cells) (hf:ow=false∨fx cells) (hd:Nat.ble (d+1) n=true) (h:At w0 X0 n ((d,mk nx)::E) (st.put nx cells) K):
    At w0 X0 n E st (fun a w=>(⟨some d,.call {callee:= .value (.func f),args:=xs.toArray,argTypes:=ats},ty,pos,aft',g⟩:Oper).wp P a w K Q):=
  O3 hmk nx hfr (fs:= []) (cs:= []) ow rfl hxs aQ hc hp hf hd h
mutual
theorem By:∀ {v:A},Pure v→refs v= []
  | .b _,_=>rfl
  | .i _ _,_=>rfl
  | .s _,_=>rfl
  | .nl,_=>rfl
  | .fz _ _,_=>rfl
  | .fp _,_=>rfl
  | .p _ _,h=>by simp only [Pure]at h
  | .sl _ _ _ _,h=>by simp only [Pure]at h
  | .ag cs,h=>by simp only [Pure]at h;simp only [refs];exact sn h
  | .tu cs,h=>by simp only [Pure]at h;simp only [refs];exact sn h
  | .fn _ a c,h=>by simp only [Pure]at h;simp only [refs];rw [sn h.1,sn h.2];rfl
  | .ic _ v,h=>by simp only [Pure]at h;simp only [refs];exact By h
  | .raw _,_=>rfl
  | .mc _ _,_=>rfl
theorem sn:∀ {l:List A},dc l→fl l= []
  | [],_=>rfl
  |c::cs,h=>by simp only [dc]at h;simp only [fl];rw [By h.1,sn h.2];rfl
end
theorem jX {l:List A} [h:fL l]:fl l= []:=sn h.out
theorem jY {v:A} [h:IsPure v]:refs v= []:=By h.out
end
end Go.Abs
-- AbsO
namespace Go.Abs
open Go Go.Eng
section
variable {P:Program} {E:Ev} {st:St} {t t' e ty:TypeId} {x y i:Operand}
theorem IV {by':Nat} {zero:List Value} {k:IntKind} {iv:Int} {n:Nat} {cs:List A} {v:A} (j:Nat) (ht:P.underlying t=some (.array n e)) (he:TI P e 1 by' zero false) (hx:ev E x=some (.ag cs)) (hi:ev E i=some (.i k iv)) (hj:iv=(j:Int)) (hn:j<n) (hv:cs[j]? =some v):YO P E st (.index t x i) ty v:=by
  intro w0 X0 n0 β X a w hr
  obtain⟨h1,h2⟩:=hr.cR hx
  obtain⟨h3,h4⟩:=hr.cR hi
  simp only [V]at h2
  obtain⟨us,e1,e2,e3⟩:=h2
  rw [iB]at h4
  rw [e1]at h1
  rw [h4]at h3
  subst hj
  obtain⟨u,g1,g2⟩:=ik e2 hv
  refine⟨u,g2,hr.old fun w' _=>fun d pos bU g a' w'' hR _=>?_⟩
  have key:(Instr.index t (.agg us.toArray) (.int k (j:Int))).run P w''= .ok u w'':=by
    simp [Instr.index,run_underlying ht,asIntOf,hn,he.sizeOf w'',part,he.isAgg w'',g1,go_sem]
  simp [execOp,hR.ev h1,hR.ev h3,key]
theorem yw {n:Nat} {cs:List A} (ht:P.underlying t=some (.slice e)) (hx:ev E x=some (.fz n cs)) (hy:ev E y=some .nl) (hn:0<n):YO P E st (.binOp .eql t x y t') ty (.b false):=by
  intro w0 X0 n0 β X a w hr
  obtain⟨h1,h2⟩:=hr.cR hx
  obtain⟨h3,h4⟩:=hr.cR hy
  simp only [V]at h2 h4
  obtain⟨ad,cap,g1,g2,g3,g4,_⟩:=h2
  rw [g1]at h1;rw [h4]at h3
  have hs:ad.isNone=false:=by
    cases ad with
    |none=>have:=g4 rfl;omega
    |some _=>rfl
  exact⟨.bool ad.isNone,by simp only [V,hs],hr.old fun w' _=>Eng.yy ht h1 h3⟩
end
end Go.Abs
-- C5A
namespace Go.Abs.D2
open Go Go.Eng Go.Abs
@[irreducible] def sF (x:List UInt8):List UInt8:=tagged [115,116,101,112] x
theorem H8 (x:List UInt8):sF x=tagged [115,116,101,112] x:=by unfold sF;rfl
@[simp] theorem OA (x:List UInt8):(sF x).length=32:=by rw [H8];simp
def iJ:Nat→List UInt8→List UInt8
  |0,x=>x
  |k+1,x=>sF (iJ k x)
theorem pd {x:List UInt8} (h:x.length=32):∀k,(iJ k x).length=32
  |0=>h
  |_+1=>OA _
@[irreducible] def kK (s:List UInt8) (i:Nat):List UInt8:=tagged [99,104,97,105,110] (s++ [UInt8.ofNat i])
theorem EX (s:List UInt8) (i:Nat):kK s i=tagged [99,104,97,105,110] (s++ [UInt8.ofNat i]):=by unfold kK;rfl
@[simp] theorem Uw (s:List UInt8) (i:Nat):(kK s i).length=32:=by rw [EX];simp
@[irreducible] def o9 (L:List (List UInt8)):List UInt8:=tagged [112,117,98,108,105,99] L.flatten
theorem FO (L:List (List UInt8)):o9 L=tagged [112,117,98,108,105,99] L.flatten:=by unfold o9;rfl
@[simp] theorem F5 (L:List (List UInt8)):(o9 L).length=32:=by rw [FO];simp
abbrev nI (n:Nat):A:= .i .i64 (n:Int)
@[irreducible] def lQ (m:List UInt8) (i:Nat):Nat:=(m.getD (i / 4) 0).toNat / 2 ^ (6 - 2*(i % 4)) % 4
theorem D8 (m:List UInt8) (i:Nat):lQ m i=(m.getD (i / 4) 0).toNat / 2 ^ (6 - 2*(i % 4)) % 4:=by unfold lQ;rfl
theorem D9 (m:List UInt8) (i:Nat):lQ m i<4:=by rw [D8];omega
@[irreducible] def dl (m:List UInt8) (k:Nat):List Nat:=(List.range k).map (lQ m)
theorem L5 (m:List UInt8):dl m 0= []:=by unfold dl;rfl
theorem Ee (m:List UInt8) (k:Nat):dl m (k+1)=dl m k++ [lQ m k]:=by unfold dl;simp [List.range_succ]
@[simp] theorem Uu (m:List UInt8) (k:Nat):(dl m k).length=k:=by unfold dl;simp
theorem OX {m:List UInt8} {k d:Nat} (h:d∈dl m k):d<4:=by
  unfold dl at h
  obtain⟨i,_,rfl⟩:=List.mem_map.1 h
  exact D9 m i
@[irreducible] def j3 (m:List UInt8) (k:Nat):Nat:=((List.range k).map fun i=>3 - lQ m i).sum
theorem Ia (m:List UInt8):j3 m 0=0:=by unfold j3;rfl
theorem Ib (m:List UInt8) (k:Nat):j3 m (k+1)=j3 m k+(3 - lQ m k):=by unfold j3;simp [List.range_succ]
theorem BP (m:List UInt8):∀k,j3 m k≤3*k
  |0=>by rw [Ia];omega
  |k+1=>by rw [Ib];have:=BP m k;omega
def pM (s:Nat):Nat→List Nat
  |0=> []
  |j+1=>(s / 4 ^ j % 4)::pM s j
theorem AV (s:Nat):∀j,(pM s j).length=j
  |0=>rfl
  |j+1=>by simp [pM,AV s j]
theorem Gu {s d:Nat}:∀ {j},d∈pM s j→d<4
  |0,h=>by cases h
  | j + 1, h => by
    rcases List.mem_cons.1 h with rfl|h
    · omega
    · exact Gu h
@[irreducible] def digits (m:List UInt8):List Nat:=dl m 16++pM (j3 m 16) 3
theorem zY (m:List UInt8):digits m=dl m 16++pM (j3 m 16) 3:=by unfold digits;rfl
@[simp] theorem Us (m:List UInt8):(digits m).length=19:=by rw [zY];simp [AV]
theorem OW {m:List UInt8} {d:Nat} (h:d∈digits m):d<4:=by
  rw [zY]at h
  rcases List.mem_append.1 h with h|h
  · exact OX h
  · exact Gu h
theorem tU {m:List UInt8} (i:Nat) (hi:i<m.length):((m.map u8).drop (0+i*1))[0]? =some (u8 (m.getD i 0)):=by
  simp [hi]
theorem JC:∀n:Fin 256,mG .and .i64 (IntKind.i64.wrap (n.val:Int)) 3=((n.val % 4:Nat):Int):=by decide+kernel
theorem L0 (m:List UInt8) (i:Nat):A.i .i64 (mG .and .i64 (IntKind.i64.wrap ((UInt8.ofNat ((m.getD (i / 4) 0).toNat / 2 ^ (6 - 2*(i % 4)))).toNat:Int)) 3)=nI (lQ m i):=by
  have hb:=(m.getD (i / 4) 0).toNat_lt
  have hd:(m.getD (i / 4) 0).toNat / 2 ^ (6 - 2*(i % 4))<256:=Nat.lt_of_le_of_lt (Nat.div_le_self _ _) hb
  rw [B4 hd,D8]
  exact congrArg (A.i .i64) (JC ⟨_,hd⟩)
theorem RK (m:List UInt8) (k:Nat) (h:k<16):((dl m k).map nI++List.replicate (19 - k) (nI 0)).set (0+k*1) (nI (lQ m k))=(dl m (k+1)).map nI++List.replicate (19 - (k+1)) (nI 0):=by
  rw [show 0+k*1=k by omega,uB k aB ar,Ee]
  simp
  omega
theorem Nl (m:List UInt8) (k:Nat) {cs:List A} (hc:cs=((dl m (k+1)).map nI++List.replicate (19 - (k+1)) (nI 0)).drop (0+k*1)):cs[0]? =some (nI (lQ m k)):=by
  subst hc
  rw [List.getElem?_drop,show 0+k*1+0=k by omega,List.getElem?_append_left aB,Ee]
  simp
abbrev pJ (m:List UInt8) (j:Nat):List A:=(dl m 16).map nI++List.replicate (3 - j) (nI 0)++(pM (j3 m 16) j).map nI
theorem RQ (m:List UInt8) (j:Nat) (h:j<3):(pJ m j).set (0+(18 - j)*1) (nI (j3 m 16 / 4 ^ j % 4))=pJ m (j+1):=by
  have hl:((dl m 16).map nI).length=16:=by simp
  have key:∀(A B:List Go.Abs.A) (x:Go.Abs.A) (i:Nat),A.length=16→(A++B).set (16+i) x=A++B.set i x:=fun A B x i hA=>by
    rw [List.set_append,if_neg ar];congr 2;omega
  unfold pJ
  rw [List.append_assoc,List.append_assoc]
  match j,h with
  |0,_=>exact key _ _ _ 2 hl
  |1,_=>exact key _ _ _ 1 hl
  |2,_=>exact key _ _ _ 0 hl
theorem SL (m:List UInt8):(dl m 16).map nI++List.replicate (19 - 16) (nI 0)=pJ m 0:=by simp [pJ,pM]
theorem SN (m:List UInt8):pJ m 3=(digits m).map nI:=by rw [zY];simp [pJ]
theorem BU {L:List (List UInt8)} {i:Nat} {p:List UInt8} (h:L[i]? =some p):(L.take i).flatten++p=(L.take (i+1)).flatten:=by
  rw [List.take_add_one,h];simp
theorem Ot {L:List (List UInt8)} {i:Nat} {p:List UInt8} (h:L[i]? =some p):(L.take i).flatten.length+p.length=(L.take (i+1)).flatten.length∧(L.take (i+1)).flatten.length≤L.flatten.length:=by
  refine⟨by rw [←BU h];simp,?_⟩
  have e:L.flatten.length=((L.take (i+1)).flatten++(L.drop (i+1)).flatten).length:=by rw [←List.flatten_append,List.take_append_drop]
  rw [e,List.length_append];omega
-- C5P
abbrev lI (n:Nat) (L:List (List UInt8)):List A:=L.flatten.map u8++List.replicate ((n - L.length)*32) (u8 0)
theorem Hj {n o:Nat} {L:List (List UInt8)} {d:List UInt8} (hD:cm L) (hl:L.length<n) (ho:o=L.length*32):(lI n L).take (0+o)++d.map u8++(lI n L).drop (0+o+32)=lI n (L++ [d]):=by
  subst ho
  have e:(L.flatten.map u8).length=L.length*32:=by rw [List.length_map,hD.len]
  unfold lI
  rw [Nat.zero_add,List.take_append_of_le_length ar,List.take_of_length_le ar,List.drop_append,List.drop_of_length_le ar,e,show L.length*32+32 - L.length*32=32 by omega,List.drop_replicate]
  simp only [List.nil_append,List.flatten_append,List.flatten_cons,List.flatten_nil,List.append_nil,List.map_append,List.length_append,List.length_cons,List.length_nil,Nat.zero_add]
  rw [show(n - L.length)*32 - 32=(n - (L.length+1))*32 by omega]
theorem CN (n:Nat):List.replicate (n*32) (u8 0)=lI n []:=by simp [lI]
theorem CO {n:Nat} {L:List (List UInt8)} (h:L.length=n):lI n L=L.flatten.map u8:=by simp [lI,h]
theorem FX {n:Nat} {L:List (List UInt8)} (hD:cm L) (h:L.length≤n):(lI n L).length=n*32:=by
  simp only [lI,List.length_append,List.length_map,List.length_replicate,hD.len]
  omega
abbrev uF (k:Nat):A:= .sl 1 1 (0+k*32) 32
abbrev oF (i:Nat):List A:=(List.range i).map uF++List.replicate (19 - i) .nl
theorem RO (i:Nat) (h:i<19):(oF i).set (0+i*1) (uF i)=oF (i+1):=by
  unfold oF
  rw [show 0+i*1=i by omega,uB i aB ar,List.range_succ]
  simp
  omega
theorem Hq {ρ:gf} (h:gH ρ 1=some (some 1)):∀l:List Nat,gW ρ (l.map uF) (l.map uF)
  | []=> .nil
  |_::l=> .cons (.sl h rfl) (Hq h l)
theorem QA {ρ:gf} (h:gH ρ 1=some (some 1)) (i:Nat):gW ρ (oF i) (oF i):=
  (Hq h _).app (.pure (by
    have:∀k,dc (List.replicate k A.nl):=fun k=>by
      induction k with
      |zero=>trivial
      |succ k ih=>exact⟨trivial,ih⟩
    exact this _))
theorem Iv {st:St} {L:List (List UInt8)} (hD:cm L) (hg:st.get 1=some (L.flatten.map u8)):∀(n k:Nat),n+k=L.length→cv st ⟨[]⟩ true ((List.range' k n).map uF) ((L.drop k).map fw)
  | 0, k, h => by
    rw [List.drop_of_length_le ar]
    exact .nil
  | n + 1, k, h => by
    have hk:k<L.length:=by omega
    have hm:L[k]∈L:=List.getElem_mem hk
    rw [List.drop_eq_getElem_cons hk,List.range'_succ]
    refine .cons ?_ (Iv hD hg n (k+1) ar)
    have e:((L.flatten.map u8).drop (0+k*32)).take (32*1)=L[k].map u8:=by
      rw [Nat.zero_add, ←List.map_drop, ←List.map_take,hD.tH k,show 32*1=1*32 by omega,(hD.drop k).yb 1]
      rw [List.drop_eq_getElem_cons hk]
      simp only [List.take_succ_cons,List.take_zero,List.flatten_cons,List.flatten_nil,List.append_nil]
    exact .sl rfl hg (hD _ hm).symm e (cv.pure bL) bL
theorem TA {st:St} {L:List (List UInt8)} (hD:cm L) (hl:L.length=19) (hg:st.get 1=some (L.flatten.map u8)):cv st ⟨[]⟩ true (oF 19) (L.map fw):=by
  have:=Iv hD hg 19 0 ar
  rw [List.drop_zero]at this
  simpa [oF,List.range_eq_range']using this
@[irreducible] def l7 (s:List UInt8) (i:Nat):List (List UInt8):=(List.range i).map fun k=>iJ 3 (kK s k)
theorem Bh (s:List UInt8):l7 s 0= []:=by unfold l7;rfl
theorem Bi (s:List UInt8) (i:Nat):l7 s (i+1)=l7 s i++ [iJ 3 (kK s i)]:=by unfold l7;simp [List.range_succ]
@[simp] theorem rO (s:List UInt8) (i:Nat):(l7 s i).length=i:=by unfold l7;simp
theorem uU (s:List UInt8):∀i,cm (l7 s i)
  |0=>by rw [Bh];exact fun x h=>by cases h
  |i+1=>by rw [Bi];exact(uU s i).app (.one (pd aB _))
def py (s:List UInt8):List UInt8:=o9 (l7 s 19)
@[simp] theorem UC (s:List UInt8):(py s).length=32:=F5 _
abbrev dg (m:List UInt8) (k:Nat):Nat:=(digits m).getD k 0
theorem zW (m:List UInt8) (k:Nat):dg m k<4:=by
  rcases Nat.lt_or_ge k (digits m).length with h|h
  · simp only [dg,List.getD_eq_getElem?_getD,List.getElem?_eq_getElem h];exact OW (List.getElem_mem h)
  · simp only [dg,List.getD_eq_getElem?_getD,List.getElem?_eq_none h];decide
theorem Fl (m:List UInt8) (k:Nat) (h:k<19):((digits m).map nI)[k]? =some (nI (dg m k)):=by
  have:k<(digits m).length:=by simpa using h
  simp [dg,List.getElem?_eq_getElem this]
def kS (s m:List UInt8) (i:Nat):List (List UInt8):=(List.range i).map fun k=>iJ (dg m k) (kK s k)
theorem R3 (s m:List UInt8):kS s m 0= []:=rfl
theorem HS (s m:List UInt8) (i:Nat):kS s m (i+1)=kS s m i++ [iJ (dg m i) (kK s i)]:=by simp [kS,List.range_succ]
@[simp] theorem AT (s m:List UInt8) (i:Nat):(kS s m i).length=i:=by simp [kS]
theorem uV (s m:List UInt8):∀i,cm (kS s m i)
  |0=>by rw [R3];exact fun x h=>by cases h
  |i+1=>by rw [HS];exact(uV s m i).app (.one (pd aB _))
abbrev lz (s m:List UInt8):List (List UInt8):=kS s m 19
theorem R5 (s m:List UInt8) (i:Nat):(kS s m i).flatten.map u8++(iJ (dg m i) (kK s i)).map u8=(kS s m (i+1)).flatten.map u8:=by rw [HS];simp
def l9 (m:List UInt8) (S:List (List UInt8)) (i:Nat):List (List UInt8):=(List.range i).map fun k=>iJ (3 - dg m k) (S.getD k [])
theorem Br (m:List UInt8) (S:List (List UInt8)):l9 m S 0= []:=rfl
theorem Bt (m:List UInt8) (S:List (List UInt8)) (i:Nat):l9 m S (i+1)=l9 m S i++ [iJ (3 - dg m i) (S.getD i [])]:=by simp [l9,List.range_succ]
@[simp] theorem rP (m:List UInt8) (S:List (List UInt8)) (i:Nat):(l9 m S i).length=i:=by simp [l9]
theorem Cm {m:List UInt8} {S:List (List UInt8)} (hS:cm S):∀i,i≤S.length→cm (l9 m S i)
  |0,_=>by rw [Br];exact fun x h=>by cases h
  | i + 1, h => by
    rw [Bt]
    have:S.getD i []∈S:=by simp [List.getElem?_eq_getElem (show i<S.length by omega)]
    exact(Cm hS i ar).app (.one (pd (hS _ this) _))
def ix (m:List UInt8) (S:List (List UInt8)):List UInt8:=if S.length=19 then o9 (l9 m S 19)else List.replicate 32 0
def ll (S:List (List UInt8)):Nat:=if S.length=19 then 0 else 50
@[simp] theorem UD (m:List UInt8) (S:List (List UInt8)):(ix m S).length=32:=by unfold ix;split<;>simp
theorem Bv {m:List UInt8} {S:List (List UInt8)} (h:S.length=19):ix m S=o9 (l9 m S 19)∧ll S=0:=⟨if_pos h,if_pos h⟩
theorem Ho {m:List UInt8} {S:List (List UInt8)} (h:S.length≠19):ix m S=List.replicate 32 0∧ll S=50:=⟨if_neg h,if_neg h⟩
theorem Nk {L:List (List UInt8)} (h:cm L) {k:Nat} {q:List UInt8} (hq:L[k]? =some q):((L.flatten.map u8).drop (k*32)).take 32=q.map u8:=by
  have hk:=(List.getElem?_eq_some_iff.1 hq).1
  rw [←List.map_drop, ←List.map_take,h.tH k,show 32=1*32 by omega,(h.drop k).yb 1,List.drop_eq_getElem_cons hk]
  simp only [List.take_succ_cons,List.take_zero,List.flatten_cons,List.flatten_nil,List.append_nil]
  rw [(List.getElem?_eq_some_iff.1 hq).2]
theorem F4 {x:List UInt8} (h:x.length=32) {k:Nat}:(cU (.ag ((iJ k x).map u8))).length=32:=by
  show((iJ k x).map u8).length=32
  rw [List.length_map];exact pd h k
-- C5Q
theorem FH (x:List UInt8) (j:Nat):∀k,iJ k (iJ j x)=iJ (k+j) x
  |0=>by rw [Nat.zero_add];rfl
  |k+1=>by rw [show k+1+j=(k+j)+1 by omega];show sF _=sF _;rw [FH x j k]
theorem R4 (s m:List UInt8) {n i:Nat} (h:i<n):(kS s m n).getD i []=iJ (dg m i) (kK s i):=by
  simp [kS,h]
theorem Hp (s m:List UInt8):∀i,i≤19→l9 m (lz s m) i=l7 s i
  |0,_=>by rw [Br,Bh]
  | i + 1, h => by
    rw [Bt,Bi,Hp s m i ar,R4 s m ar,FH,show 3 - dg m i+dg m i=3 by have:=zW m i;omega]
theorem Qv (s m:List UInt8):ix m (lz s m)=py s∧ll (lz s m)=0:=by
  obtain⟨h1,h2⟩:=Bv (m:=m) (S:=lz s m) aB
  exact⟨by rw [h1,Hp s m 19 ar];rfl,h2⟩
-- C5R
-- D2U
def lu:Nat→Nat→Nat→List Bool
  |0,_,_=> []
  |f+1,i,n=>if n≤1 then []else if i<cC n then false::lu f i (cC n)else true::lu f (i - cC n) (n - cC n)
theorem xN:∀(f g i n:Nat),n≤f→n≤g→lu f i n=lu g i n
  |0,0,_,_,_,_=>rfl
  |0,g+1,i,n,h,_=>by rw [lu,lu,if_pos ar]
  |f+1,0,i,n,_,h=>by rw [lu,lu,if_pos ar]
  | f + 1, g + 1, i, n, h1, h2 => by
    rw [lu,lu]
    by_cases h:n≤1
    · rw [if_pos h,if_pos h]
    · have hh := js (n := n) ar
      rw [if_neg h,if_neg h,xN f g i (cC n) ar ar,xN f g _ (n - cC n) ar ar]
@[irreducible] def fI (i n:Nat):List Bool:=lu n i n
theorem sr {i n:Nat} (h:n≤1):fI i n= []:=by
  unfold fI
  match n,h with
  |0,_=>rfl
  |1,_=>rfl
theorem uw {i n:Nat} (h:2≤n) (hi:i<cC n):fI i n=false::fI i (cC n):=by
  have hh:=js h
  unfold fI
  obtain⟨f,rfl⟩:∃f,n=f+1:=⟨n - 1,by omega⟩
  rw [lu,if_neg ar,if_pos hi,xN f _ _ _ ar (Nat.le_refl _)]
theorem uy {i n:Nat} (h:2≤n) (hi:¬i<cC n):fI i n=true::fI (i - cC n) (n - cC n):=by
  have hh:=js h
  unfold fI
  obtain⟨f,rfl⟩:∃f,n=f+1:=⟨n - 1,by omega⟩
  rw [lu,if_neg ar,if_neg hi,xN f _ _ _ ar (Nat.le_refl _)]
theorem xO:∀(f i n:Nat),n≤f→(fI i n).length≤f
  |0,i,n,h=>by rw [sr ar];simp
  | f + 1, i, n, h => by
    by_cases h1:n≤1
    · rw [sr h1];simp
    · have hh := js (n := n) ar
      by_cases hi:i<cC n
      · rw [uw ar hi];have:=xO f i (cC n) ar;simp;omega
      · rw [uy ar hi];have:=xO f (i - cC n) (n - cC n) ar;simp;omega
def fold:List Bool→List (List UInt8)→List UInt8→List UInt8
  |b::bs,q::ps,x=>fold bs ps (if b then l4 q x else l4 x q)
  |_,_,x=>x
theorem wv:∀(bs:List Bool) (ps:List (List UInt8)) (b:Bool) (q x:List UInt8),bs.length=ps.length→fold (bs++ [b]) (ps++ [q]) x=if b then l4 q (fold bs ps x)else l4 (fold bs ps x) q
  | [], [],b,q,x,_=>by simp [fold]
  | c :: bs, r :: ps, b, q, x, h => by
    simp only [List.cons_append,fold]
    exact wv bs ps b q _ aN
def rL (d:List UInt8):List UInt8:=tagged [108,101,97,102] d
def kG (d:List UInt8) (i n:Nat) (p:List (List UInt8)):List UInt8:=fold (fI i n).reverse p (rL d)
theorem Lh {d:List UInt8} {i n:Nat} {p:List (List UInt8)} (h:n≤1):kG d i n p=rL d:=by
  unfold kG;rw [sr h];simp [fold]
theorem Lg {d q:List UInt8} {i n:Nat} {p:List (List UInt8)} (h:2≤n) (hi:i<cC n) (hl:p.length=(fI i (cC n)).length):kG d i n (p++ [q])=l4 (kG d i (cC n) p) q:=by
  unfold kG
  rw [uw h hi,List.reverse_cons,wv _ _ _ _ _ (by simpa using hl.symm)]
  rfl
theorem Li {d q:List UInt8} {i n:Nat} {p:List (List UInt8)} (h:2≤n) (hi:¬i<cC n) (hl:p.length=(fI (i - cC n) (n - cC n)).length):kG d i n (p++ [q])=l4 q (kG d (i - cC n) (n - cC n) p):=by
  unfold kG
  rw [uy h hi,List.reverse_cons,wv _ _ _ _ _ (by simpa using hl.symm)]
  rfl
theorem AP:∀(bs:List Bool) (ps:List (List UInt8)) (x:List UInt8),x.length=32→(fold bs ps x).length=32
  | [],_,x,h=>by simpa only [fold]using h
  |_::_, [],x,h=>by simpa only [fold]using h
  | b :: bs, q :: ps, x, h => by
    simp only [fold]
    exact AP bs ps _ (by split<;>exact pf _ _)
@[simp] theorem Uo (d:List UInt8) (i n:Nat) (p:List (List UInt8)):(kG d i n p).length=32:=AP _ _ _ (pf _ _)
def fits (a n:Int) (m:Nat):Prop:=1≤n∧n≤1099511627776∧0≤a∧a<n∧m=(fI a.toNat n.toNat).length
instance (a n:Int) (m:Nat):Decidable (fits a n m):=by unfold fits;infer_instance
def rr (d:List UInt8) (a n:Int) (p:List (List UInt8)):A:=if fits a n p.length then .tu [.ag ((kG d a.toNat n.toNat p).map u8),.i .i64 0]else .tu [.ag ((List.replicate 32 (0:UInt8)).map u8),.i .i64 1]
def qI (L:List (List UInt8)) (a:Int):A:=if 0≤a∧a<L.length then .tu [dq (path L a.toNat),.i .i64 0]else .tu [.nl,.i .i64 1]
theorem ux:∀(f:Nat) (L:List (List UInt8)) (i:Nat),L.length≤f→(path L i).length=(fI i L.length).length
  |0,L,i,h=>by rw [px i ar,sr ar];rfl
  | f + 1, L, i, h => by
    by_cases h1:L.length≤1
    · rw [px i h1,sr h1];rfl
    · have hh := js (n := L.length) ar
      by_cases hi:i<cC L.length
      · rw [r9 ar hi,uw ar hi,List.length_append,ux f _ _ aH,List.length_take,Nat.min_eq_left ar];rfl
      · rw [sa ar hi,uy ar hi,List.length_append,ux f _ _ aF,List.length_drop];rfl
theorem zF : ∀ (f : Nat) (L : List (List UInt8)) (i : Nat) (d : List UInt8), L.length ≤ f → L[i]? = some d → kG d i L.length (path L i) = tree L
  | 0, L, i, d, h, hd => by
    have:=(List.getElem?_eq_some_iff.1 hd).1;omega
  | f + 1, L, i, d, h, hd => by
    have hlt:=(List.getElem?_eq_some_iff.1 hd).1
    by_cases h1:L.length≤1
    · obtain ⟨x, rfl⟩ := List.length_eq_one_iff.1 (show L.length = 1 by omega)
      have:i=0:=by simp at hlt;omega
      subst this
      simp only [List.getElem?_cons_zero,Option.some.injEq]at hd
      subst hd
      rw [Lh aB,B2];rfl
    · have hh := js (n := L.length) ar
      by_cases hi:i<cC L.length
      · have hT : (L.take (cC L.length)).length = cC L.length := by rw [List.length_take]; omega
        have ih:=zF f (L.take (cC L.length)) i d ar (by rw [List.getElem?_take,if_pos hi];exact hd)
        have hr:=ux f (L.take (cC L.length)) i ar
        rw [hT]at ih hr
        rw [r9 ar hi,Lg ar hi hr,ih,yf (L:=L) ar]
      · have hT : (L.drop (cC L.length)).length = L.length - cC L.length := by rw [List.length_drop]
        have ih:=zF f (L.drop (cC L.length)) (i - cC L.length) d ar (by rw [List.getElem?_drop,show cC L.length+(i - cC L.length)=i by omega];exact hd)
        have hr:=ux f (L.drop (cC L.length)) (i - cC L.length) ar
        rw [hT]at ih hr
        rw [sa ar hi,Li ar hi hr,ih,yf (L:=L) ar]
theorem Nj {P:List (List UInt8)} (h:cm P) {i:Nat} {q:List UInt8} (hq:P[i]? =some q):((P.flatten.map u8).drop (i*32)).take 32=q.map u8:=by
  have hlt:=(List.getElem?_eq_some_iff.1 hq).1
  rw [←List.map_drop,h.tH, ←List.map_take]
  congr 1
  rw [List.drop_eq_getElem_cons hlt,List.flatten_cons,List.take_left' (h _ (List.getElem_mem hlt))]
  exact(List.getElem?_eq_some_iff.1 hq).2
theorem E4 {bs:List Bool} {ps:List (List UInt8)} {x q:List UInt8} {b:Bool} {j:Nat} (hb:bs[j]? =some b) (hq:ps[j]? =some q):fold (bs.take (j+1)) (ps.take (j+1)) x=if b then l4 q (fold (bs.take j) (ps.take j) x)else l4 (fold (bs.take j) (ps.take j) x) q:=by
  have h1:=(List.getElem?_eq_some_iff.1 hb).1
  have h2:=(List.getElem?_eq_some_iff.1 hq).1
  rw [List.take_add_one,List.take_add_one,hb,hq]
  exact wv _ _ _ _ _ aE
theorem Ni {ds:List Bool} {j:Nat} {b:Bool} (hb:ds[j]? =some b):((ds.map A.b).drop (0+j*1))[0]? =some (.b b):=by
  rw [List.getElem?_drop,List.getElem?_map,show 0+j*1+0=j by omega,hb];rfl
-- D2V
def zX (s:List UInt8) (k:Nat):List UInt8:= [s.getD k 0 % 4,UInt8.ofNat (k / 8)]++List.replicate 30 0
def Ec (s:List UInt8) (i:Nat):List (List UInt8):=(List.range i).map (zX s)
@[simp] theorem Ut (s:List UInt8) (i:Nat):(Ec s i).length=i:=by simp [Ec]
@[simp] theorem Ur (s:List UInt8) (k:Nat):(zX s k).length=32:=by simp [zX]
theorem MQ {i n m:Nat} (h:i<n) (hn:n≤1099511627776) (hm:m=(fI i n).length):fits (i:Int) (n:Int) m:=⟨by omega,by omega,by omega,by omega,by rw [Int.toNat_natCast,Int.toNat_natCast];exact hm⟩
def lN (d:List UInt8) (a n:Int) (p:List (List UInt8)):List UInt8:=if fits a n p.length then kG d a.toNat n.toNat p else List.replicate 32 0
def ng (a n:Int) (m:Nat):Int:=if fits a n m then 0 else 1
theorem Lc (d:List UInt8) (a n:Int) (p:List (List UInt8)):rr d a n p= .tu [.ag ((lN d a n p).map u8),.i .i64 (ng a n p.length)]:=by
  unfold rr lN ng
  split<;>rfl
@[simp] theorem Up (d : List UInt8) (a n : Int) (p : List (List UInt8)) : (lN d a n p).length = 32 := by
  unfold lN
  split<;>simp
theorem P8 {L:List (List UInt8)} {i:Nat} (h:i<L.length) (hl:L.length≤1099511627776):fits (i:Int) (L.length:Int) (path L i).length:=MQ h hl (ux _ L i (Nat.le_refl _))
def PI:List UInt8:=1::List.replicate 31 0
@[simp] theorem UA:PI.length=32:=rfl
@[simp] theorem Ux (d:List UInt8):(rL d).length=32:=pf _ _
@[simp] theorem Uy (a b:List UInt8):(l4 a b).length=32:=pf _ _
theorem Le {L:List (List UInt8)} {i:Nat} {q:List UInt8} (h:L[i]? =some q) (hl:L.length≤1099511627776):lN q (i:Int) (L.length:Int) (path L i)=tree L∧ng (i:Int) (L.length:Int) (path L i).length=0:=by
  have hi:=(List.getElem?_eq_some_iff.1 h).1
  have hf:=P8 hi hl
  unfold lN ng
  rw [if_pos hf,if_pos hf,Int.toNat_natCast,Int.toNat_natCast]
  exact⟨zF _ L i q (Nat.le_refl _) h,rfl⟩
end Go.Abs.D2
-- AbsP
namespace Go.Abs
open Go Go.Eng
section
variable {P:Program} {w0:Bw} {X0:Xs} {n:Nat} {E:Ev} {st:St} {K:Act→World→Prop}
theorem fS (t:Nat) {id:Nat} {cs:List A} (ht:E.cw t=some (.p id 0)) (hg:st.get id=some cs) (hp:dc cs) (h:At w0 X0 n ((t,.fp cs)::E) (st.del id) K):At w0 X0 n E st K:=by
  rintro a w ⟨β,X,hr⟩
  obtain⟨u,g1,g2⟩:=hr.slot t _ ht
  simp only [V]at g2
  obtain⟨b,N,hβ,rfl⟩:=g2
  obtain⟨m1,m2,m3,m4⟩:=hr.mem.freeze hg hβ
  refine h a w ⟨β,_,hr.uA ht m1 m2 m3 fun u hu=>?_⟩
  simp only [V]at hu ⊢
  obtain⟨b',N',hb',rfl⟩:=hu
  rw [hβ]at hb'
  simp only [Option.some.injEq,BL.bk.injEq]at hb'
  obtain⟨rfl,rfl⟩:=hb'
  have:=m4 0 cs.length hp
  rw [List.drop_zero,List.take_length]at this
  exact⟨b,0,rfl,this⟩
variable {t t' ty:TypeId} {x:Operand}
theorem yx {v:A} (hc:P.concrete t=true) (hx:ev E x=some v):YO P E st (.makeInterface t x) ty (.ic t v):=by
  intro w0 X0 n0 β X a w hr
  obtain⟨h1,h2⟩:=hr.cR hx
  refine⟨.iface t _,by simp only [V];exact⟨_,rfl,h2⟩,hr.old fun w' _=>fun d pos bU g a' w'' hR _=>?_⟩
  simp [execOp,hR.ev h1,run_makeInterface w'' t _ hc]
def FC:TypeDesc→Bool
  | .interface _=>true
  |_=>false
theorem yz {v:A} {d:TypeDesc} (hu:P.underlying t=some d) (hd:FC d=false) (hx:ev E x=some (.ic t v)):YO P E st (.typeAssert x t' t true) ty (.tu [v,.b true]):=by
  intro w0 X0 n0 β X a w hr
  obtain⟨h1,h2⟩:=hr.cR hx
  simp only [V]at h2
  obtain⟨u,e1,e2⟩:=h2
  rw [e1]at h1
  refine⟨.tuple #[u,.bool true],by simp only [V];exact⟨[u,.bool true],rfl,eE e2 (eE (by simp [V]) fF)⟩,hr.old fun w' _=>fun d' pos bU g a' w'' hR _=>?_⟩
  have key:(Instr.typeAssert (.iface t u) t' t true).run P w''= .ok (.tuple #[u,.bool true]) w'':=by
    cases d<;>first|(cases hd;done)|simp [Instr.typeAssert,run_underlying hu]
  simp [execOp,hR.ev h1,key]
theorem Ck {t2:TypeId} {v:A} {d:TypeDesc} {z:Value} (hu:P.underlying t=some d) (hd:FC d=false) (hz:(P.info? t).bind (·.zero)=some z) (hx:ev E x=some (.ic t2 v)) (hne:Nat.beq t2 t=false):YO P E st (.typeAssert x t' t true) ty (.tu [.raw z,.b false]):=by
  intro w0 X0 n0 β X a w hr
  obtain⟨h1,h2⟩:=hr.cR hx
  simp only [V]at h2
  obtain⟨u,e1,e2⟩:=h2
  rw [e1]at h1
  refine⟨.tuple #[z,.bool false],by simp only [V];exact⟨[z,.bool false],rfl,eE (by simp [V]) (eE (by simp [V]) fF)⟩,hr.old fun w' _=>fun d' pos bU g a' w'' hR _=>?_⟩
  have hn:t2≠t:=Nat.ne_of_beq_eq_false hne
  obtain⟨i,hi,hz'⟩:=Option.bind_eq_some_iff.1 hz
  have hzv:(zeroValue t).run P w''= .ok z w'':=by simp [Go.zeroValue,Go.typeInfo,hi,hz']
  have key:(Instr.typeAssert (.iface t2 u) t' t true).run P w''= .ok (.tuple #[z,.bool false]) w'':=by
    cases d<;>first|(cases hd;done)|simp [Instr.typeAssert,run_underlying hu,hn,hzv]
  simp [execOp,hR.ev h1,key]
end
end Go.Abs
-- AbsQ
namespace Go.Abs
open Go Go.Eng
mutual
inductive Wk:A→A→Prop where
  |eq {v v':A} (h:v=v'):Wk v v'
  |nl:Wk .nl (.fz 0 [])
  |ag {cs cs':List A} (h:jN cs cs'):Wk (.ag cs) (.ag cs')
  |tu {cs cs':List A} (h:jN cs cs'):Wk (.tu cs) (.tu cs')
inductive jN:List A→List A→Prop where
  |nil:jN [] []
  |cons {c c':A} {cs cs':List A} (h:Wk c c') (hs:jN cs cs'):jN (c::cs) (c'::cs')
end
instance {v k} [h:kD v]:jz (List.replicate k v):=⟨pS.2 fun c hc=>by rw [List.eq_of_mem_replicate hc];exact h.out⟩
theorem jN.same:∀ {cs:List A},jN cs cs
  | []=> .nil
  |_::_=> .cons (.eq rfl) jN.same
mutual
theorem CE {X:Xs} {w:World} {β:Bm}:∀ {v v':A} {u:Value},Wk v v'→V X w β v u→V X w β v' u
  |_,_,_,.eq h,hv=>h ▸ hv
  |_,_,_,.nl,hv=>Jd hv
  | _, _, _, .ag h, hv => by
    simp only [V]at hv ⊢
    obtain⟨us,e1,e2,e3⟩:=hv
    exact⟨us,e1,vf h e2,e3⟩
  | _, _, _, .tu h, hv => by
    simp only [V]at hv ⊢
    obtain⟨us,e1,e2⟩:=hv
    exact⟨us,e1,vf h e2⟩
theorem vf {X:Xs} {w:World} {β:Bm}:∀ {cs cs':List A} {us:List Value},jN cs cs'→VS X w β cs us→VS X w β cs' us
  |_,_,_,.nil,hv=>hv
  | _, _, _, .cons h hs, hv => by
    simp only [VS]at hv
    obtain⟨u,r,rfl,h1,h2⟩:=hv
    exact eE (CE h h1) (vf hs h2)
end
section
variable {P:Program} {w0:Bw} {X0:Xs} {n:Nat} {E:Ev} {st:St} {K:Act→World→Prop}
theorem Kb (t:Nat) {v v':A} (ht:E.cw t=some v) (hw:Wk v v') (h:At w0 X0 n ((t,v')::E) st K):At w0 X0 n E st K:=by
  rintro a w ⟨β,X,hr⟩
  exact h a w ⟨β,X,hr.uA ht hr.mem (fun _ _ h=>⟨h,rfl⟩) (fun _ _ h=> .inl h) (fun u hu=>CE hw hu)⟩
theorem lL (id : Nat) {cs cs' : List A} (hg : st.get id = some cs) (hw : jN cs cs') (h : At w0 X0 n E (st.put id cs') K) : At w0 X0 n E st K := by
  rintro a w ⟨β,X,hr⟩
  have hm : Mem w0 β X (st.put id cs') w := by
    refine .of hr.mem.below hr.mem.b0 hr.mem.xlt (fun k hk=>?_) (fun k ds hk=>?_) (fun i j ci cj b M N hij h1 h2=>?_)
    · rw [St.gv] at hk
      split at hk
      · cases hk
      · exact hr.mem.dom k hk
    · rw [St.dV] at hk
      split at hk
      · rename_i he
        subst he
        simp only [Option.some.injEq]at hk
        subst hk
        have:=hr.mem.obj id cs hg
        unfold OB at this ⊢
        split at this
        · exact this
        · subst this;cases hw;rfl
        · obtain ⟨h1, h2, us, rest, ty, h3, h4, h5, h6⟩ := this
          exact⟨h1,h2,us,rest,ty,h3,h4,vf hw h5,h6⟩
        · obtain ⟨h0, h1, h2, f, es, clk, h3, h4, h5⟩ := this
          subst h3
          refine⟨h0,h1,h2,f,es,clk,?_,h4,h5⟩
          cases hw with
          | cons a b =>
            cases b
            cases a with
            |eq e=>rw [←e]
      · exact hr.mem.obj k ds hk
    · have g : ∀ (k : Nat) (c : List A), (st.put id cs').get k = some c → ∃ c', st.get k = some c' := by
        intro k c hk
        rw [St.dV]at hk
        split at hk
        · rename_i he;subst he;exact⟨_,hg⟩
        · exact⟨_,hk⟩
      obtain⟨c1,e1⟩:=g _ _ h1
      obtain⟨c2,e2⟩:=g _ _ h2
      exact hr.mem.inj i j c1 c2 b M N hij e1 e2
  exact h a w ⟨β,X,.of hr.x0 hr.xn hm hr.gl hr.size hr.defers hr.sslot hr.slot⟩
end
section
variable {P:Program} {w0:Bw} {X0:Xs} {n:Nat} {E F:Ev} {st:St} {K:Act→World→Prop} {Q:Exit→Act→World→Prop}
theorem xb {d:Nat} {f:FuncId} {xs:List Operand} {vs:List A} {ats:Array TypeId} {ty:TypeId} {pos aft' g} {ret:A} (t:Nat) {id s off m m':Nat} {cs ds:List A} (ht:E.cw t=some (.sl id s off m)) (hg:st.get id=some cs) (hpc:dc cs) (hm:m=m') (hdd:(cs.drop off).take (m*s)=ds)
    (hxs:eU ((t,.fz m' ds)::E) xs=some vs) (hpv:dc vs) (hc:bO P f vs (cn ret)) (hp:Pure ret) (hd:Nat.ble (d+1) n=true) (h:At w0 X0 n ((d,ret)::E) (st.del id) K):
    At w0 X0 n E st (fun a w=>(⟨some d,.call {callee:= .value (.func f),args:=xs.toArray,argTypes:=ats},ty,pos,aft',g⟩:Oper).wp P a w K Q):=by
  rintro a w ⟨β,X,hr⟩
  subst hdd;subst hm
  obtain⟨u,g1,g2⟩:=hr.slot t _ ht
  obtain⟨X1,m1,m2,m3,m4⟩:=Av hr.mem hg hpc g2
  have hr2:=hr.uA ht m1 m2 m3 (fun u hu=>m4 s off m u hu)
  have hr1:dP w0 X0 n E (st.del id) β X1 a w:= .of (fun b o h=>(m2 b o (hr.x0 b o h)).1) (fun b o h=>(m3 b o h).elim (hr.xn b o) .inr) m1 (hr.gl.mono m2) hr.size hr.defers (fun s hs=>dZ.mf m2 (hr.sslot s hs)) (fun t v hv=>let ⟨u,q1,q2⟩:=hr.slot t v hv;⟨u,q1,fR m2 _ _ _ _ (c4.refl β) q2⟩)
  have hcS:dG P f vs ⟨[]⟩ (gL ret []):=dG.mono hc fun r st h=>⟨h,(fun p hp=>by cases hp)⟩
  refine oc (fs:= []) (cs:= []) (s0:=⟨[]⟩) (ow:=false) hr2 rfl hxs trivial (by simpa using cv.pure hpv) hcS fun v w' ⟨r,β',X',st',⟨hR,hR2⟩,hsup,hsub,hm,hvv⟩=>?_
  obtain⟨k1,k2,k3,k4,_⟩:=hm.after hr2 (fun id cs h=>by cases h) hsub hsup (upds:= []) (fun p hp=>by cases hp)
  subst hR
  exact h _ _ ⟨β,_,hr1.jF hd k2 k3 (c4.refl β) k1 (fR (k4 rfl) _ _ _ _ (c4.refl β) (mo _ _ hp hvv))⟩
theorem OJ {p:Nat×A} (h:jR E F):jR (p::E) (p::F):=fun t v ht=>by
  obtain⟨k,u⟩:=p
  simp only [Ev.cw]at ht ⊢
  cases hb:Nat.beq k t with
  |true=>rw [hb]at ht;exact ht
  |false=>rw [hb]at ht;exact h t v ht
variable {r:Option Nat} {ds0:List Deferred} {N:Nat} {E0:EV} {st0:St} {ops:Array Oper} {k g:Nat} {plan:List dD} {rest:List Oper} {gd:Option (Nat×Bool)} {d:Nat} {ty:TypeId} {pos:String} {bU:Array Edge}
theorem Ax {f:FuncId} {xs:List Operand} {vs:List A} {ats:Array TypeId} {ret:A} (t:Nat) {id s off m m':Nat} {cs ds:List A} (k0:Nat) (deps:List Nat) (need:List (Nat×Option Nat)) (hg:jy ops (en (E0.at k0) deps k0 E) gd) (ht:(en (E0.at k0) deps k0 E).cw t=some (.sl id s off m)) (hgt:(iL plan st0 need).get id=some cs) (hpc:dc cs) (hm:m=m') (hdd:(cs.drop off).take (m*s)=ds)
    (hxs:eU ((t,.fz m' ds)::en (E0.at k0) deps k0 E) xs=some vs) (hpv:dc vs) (hc:bO P f vs (cn ret)) (hp:Pure ret) (hb:Nat.ble (d+1) N=true) (hd:iW k0 deps need=true) (h:FS r ds0 P w0 X0 N Q ops k g E0 st0 (plan++ [⟨d,ret,deps, [id], [],need, []⟩]) (k0+1) ((d,ret)::E) (st.del id) rest):
    FS r ds0 P w0 X0 N Q ops k g E0 st0 plan k0 E st (⟨some d,.call {callee:= .value (.func f),args:=xs.toArray,argTypes:=ats},ty,pos,bU,gd⟩::rest):=
  mE ⟨d,ret,deps, [id], [],need, []⟩ (fun hk hE _ _ _ hD hs _ hK=>have he':=hD.fin hE hk;mM hg he' (xb t (he' _ _ ht) (hs _ _ hgt) hpc hm hdd (rC (OJ he') hxs) hpv hc hp hb hK)) hd h
end
end Go.Abs
namespace Go.Eng
end Go.Eng
namespace Go.Abs
open Go Go.Eng
theorem yj {s0:St} {ow:Bool} {i j:Nat} {ci cj ci0 cj0:List A} (h1:s0.get i=some ci0) (h2:s0.get j=some cj0) (k1:kE s0 ow ci) (k2:kE s0 ow cj):∀p∈ [(i,ci),(j,cj)],(∃cs,s0.get p.1=some cs)∧kE s0 ow p.2:=fun p hq=>by
  rcases List.mem_cons.1 hq with rfl|hq
  · exact⟨⟨_,h1⟩,k1⟩
  · rw [List.mem_singleton] at hq
    subst hq
    exact⟨⟨_,h2⟩,k2⟩
theorem sq {st:St} {r:A} {i j:Nat} {ci cj:List A} (h1:st.get i=some ci) (h2:st.get j=some cj):gL r [(i,ci),(j,cj)] r st:=⟨rfl,fun p hq=>by
  rcases List.mem_cons.1 hq with rfl|hq
  · exact h1
  · rw [List.mem_singleton] at hq
    subst hq
    exact h2⟩
theorem uY {s0:St} {ow:Bool} {j s off n:Nat} {cj:List A} (h:s0.get j=some cj):kE s0 ow [.sl j s off n]:=⟨⟨_,h⟩,trivial⟩
end Go.Abs
-- K6A
namespace Go.Abs.D2
open Go Go.Eng Go.Abs
def nD (a:Int) (i:Nat):UInt8:=UInt8.ofNat ((a % 4294967296).toNat / 2 ^ (24 - 8*i))
def fZ (a:Int) (k:Nat):List UInt8:=(List.range k).map (nD a)
theorem RB (a:Int) (k:Nat):fZ a (k+1)=fZ a k++ [nD a k]:=by simp [fZ,List.range_succ]
@[simp] theorem UF (a:Int) (k:Nat):(fZ a k).length=k:=by simp [fZ]
@[irreducible] def iR (x:List UInt8) (a:Int):List UInt8:=tagged [108,101,97,102] (x++fZ a 4)
theorem HK (x:List UInt8) (a:Int):iR x a=tagged [108,101,97,102] (x++fZ a 4):=by unfold iR;rfl
@[simp] theorem UG (x:List UInt8) (a:Int):(iR x a).length=32:=by rw [HK];simp
theorem xT (a:Int) (i:Nat) (h:i<4):A.i .u8 (IntKind.u8.wrap (a.fdiv (2 ^ min (((24 - 8*i:Nat):Int).toNat) IntKind.i64.bits)))=u8 (nD a i):=by
  refine congrArg (A.i .u8) ?_
  have:i=0∨i=1∨i=2∨i=3:=by omega
  unfold nD
  rw [UInt8.toNat_ofNat']
  rcases this with rfl|rfl|rfl|rfl
  · show (a.fdiv 16777216) % 256 = _
    rw [Int.fdiv_eq_ediv_of_nonneg _ ar];omega
  · show (a.fdiv 65536) % 256 = _
    rw [Int.fdiv_eq_ediv_of_nonneg _ ar];omega
  · show (a.fdiv 256) % 256 = _
    rw [Int.fdiv_eq_ediv_of_nonneg _ ar];omega
  · show (a.fdiv 1) % 256 = _
    rw [Int.fdiv_eq_ediv_of_nonneg _ ar];omega
theorem RN {x:List UInt8} (hx:x.length=32) (a:Int) (i:Nat) (h:i<4):((x++fZ a i++List.replicate (4 - i) 0).map u8).set (0+(32+i)*1) (u8 (nD a i))=(x++fZ a (i+1)++List.replicate (4 - (i+1)) 0).map u8:=by
  rw [←List.map_set]
  refine congrArg (List.map u8) ?_
  rw [show 0+(32+i)*1=(x++fZ a i).length+0 by simp [hx],List.set_append_right _ _ ar,show(x++fZ a i).length+0 - (x++fZ a i).length=0 by omega,show 4 - i=(4 - (i+1))+1 by omega,List.replicate_succ,List.set_cons_zero,RB]
  simp
theorem Lw {x:List UInt8} {a:Int}:((List.replicate 36 (Value.int .u8 0)).map cQ).take 0++x.map u8++((List.replicate 36 (Value.int .u8 0)).map cQ).drop (0+32)=(x++fZ a 0++List.replicate (4 - 0) 0).map u8:=by
  simp [fZ,cQ]
def fB (x:List UInt8) (k:Nat):List (List UInt8):=(List.range k).map fun i=>py (iR x ((i:Nat):Int))
@[simp] theorem qz (x:List UInt8) (k:Nat):(fB x k).length=k:=by simp [fB]
theorem N4 (x:List UInt8) (k:Nat):fB x (k+1)=fB x k++ [py (iR x ((k:Nat):Int))]:=by simp [fB,List.range_succ]
theorem N1 (x:List UInt8) (k:Nat):(fB x k).flatten.map u8++(py (iR x ((k:Nat):Int))).map u8=(fB x (k+1)).flatten.map u8:=by rw [N4];simp
theorem pR (x:List UInt8) (k:Nat):cm (fB x k):=fun y hy=>by
  obtain⟨i,_,rfl⟩:=List.mem_map.1 hy
  exact F5 _
theorem N3 {x:List UInt8} {k i:Nat} (h:i<k):(fB x k)[i]? =some (py (iR x ((i:Nat):Int))):=by simp [fB,h]
def ek (n:Int):Prop:=1≤n∧n≤256
instance (n:Int):Decidable (ek n):=by unfold ek;infer_instance
theorem xV {n:Int} (h:ek n):∃k:Nat,n=(k:Int)∧1≤k∧k≤256:=⟨n.toNat,by unfold ek at h;omega,by unfold ek at h;omega,by unfold ek at h;omega⟩
abbrev zD:List UInt8:=List.replicate 32 0
@[irreducible] def fY (x:List UInt8) (n:Int):List UInt8:=if ek n then tree (fB x n.toNat)else zD
def Aj (b:Bool):Int:=if b then 0 else 60
theorem xQ {x:List UInt8} {k:Nat} (h:ek (k:Int)):fY x (k:Int)=tree (fB x k):=by unfold fY;rw [if_pos h];rfl
theorem QS {x:List UInt8} {n:Int} (h:¬ek n):fY x n=zD:=by unfold fY;rw [if_neg h]
@[simp] theorem UE (x:List UInt8) (n:Int):(fY x n).length=32:=by unfold fY;split<;>simp
@[irreducible] def uz (x:List UInt8) (n:Int):A:= .tu [.ag ((fY x n).map u8),.i .i64 (Aj (decide (ek n)))]
theorem BA (x:List UInt8) (n:Int):uz x n= .tu [.ag ((fY x n).map u8),.i .i64 (Aj (decide (ek n)))]:=by unfold uz;rfl
theorem QR {x:List UInt8} {k:Nat} (h:ek (k:Int)):uz x k= .tu [.ag ((tree (fB x k)).map u8),.i .i64 0]:=by rw [BA,xQ h,decide_eq_true h];rfl
theorem QQ {x:List UInt8} {n:Int} (h:¬ek n):uz x n= .tu [.ag (zD.map u8),.i .i64 60]:=by rw [BA,QS h,decide_eq_false h];rfl
abbrev wL (a:Int) (S P:List (List UInt8)):A:= .ag [.i .i64 a,dq S,dq P]
def ji (n a:Int):Prop:=0≤a∧a<n
instance (n a:Int):Decidable (ji n a):=by unfold ji;infer_instance
@[irreducible] def uC (x:List UInt8) (n a:Int) (m:List UInt8):A:=if ek n∧ji n a then .tu [wL a (lz (iR x a) m) (path (fB x n.toNat) a.toNat),.i .i64 0]else .tu [wL 0 [] [],.i .i64 60]
theorem R2 {x m:List UInt8} {n a:Int} (h:¬(ek n∧ji n a)):uC x n a m= .tu [wL 0 [] [],.i .i64 60]:=by unfold uC;rw [if_neg h]
theorem BI {x m:List UInt8} {k i:Nat} (h:ek (k:Int)) (hi:i<k):uC x k i m= .tu [wL i (lz (iR x i) m) (path (fB x k) i),.i .i64 0]:=by unfold uC;rw [if_pos ⟨h,by unfold ji;omega⟩];rfl
theorem P7 {L:List (List UInt8)} {i:Nat} (h:i<L.length):qI L i= .tu [dq (path L i),.i .i64 0]:=by unfold qI;rw [if_pos ar];rfl
theorem P6 {L:List (List UInt8)} {a:Int} (h:¬(0≤a∧a<L.length)):qI L a= .tu [.nl,.i .i64 1]:=by unfold qI;rw [if_neg h]
theorem I1 (x m:List UInt8):cm (lz x m):=uV x m 19
@[irreducible] def gU (r:List UInt8) (n:Int) (m:List UInt8) (a:Int) (S P:List (List UInt8)):Bool:=decide (ek n)&&(decide (ji n a)&&(decide (ll S=0)&&((ng a n P.length==0)&&(lN (ix m S) a n P==r))))
theorem Tq {r m:List UInt8} {n a:Int} {S P:List (List UInt8)} (h:¬ek n):gU r n m a S P=false:=by unfold gU;simp [h]
theorem Tr {r m:List UInt8} {n a:Int} {S P:List (List UInt8)} (h:¬ji n a):gU r n m a S P=false:=by unfold gU;simp [h]
theorem Ts {r m:List UInt8} {n a:Int} {S P:List (List UInt8)} (h:¬ll S=0):gU r n m a S P=false:=by unfold gU;simp [h]
theorem Tt {r m:List UInt8} {n a:Int} {S P:List (List UInt8)} (h:((ng a n P.length==0)&&(lN (ix m S) a n P==r))=false):gU r n m a S P=false:=by unfold gU;rw [h];simp
theorem It {r m:List UInt8} {n a:Int} {S P:List (List UInt8)} (h1:ek n) (h2:ji n a) (h3:ll S=0) (h4:((ng a n P.length==0)&&(lN (ix m S) a n P==r))=true):gU r n m a S P=true:=by unfold gU;rw [h4];simp [h1,h2,h3]
theorem Tv {r m:List UInt8} {n a:Int} {S P:List (List UInt8)} (h:gU r n m a S P=true):ek n∧ji n a∧ll S=0∧ng a n P.length=0∧lN (ix m S) a n P=r:=by
  unfold gU at h
  simp only [Bool.and_eq_true,decide_eq_true_eq,beq_iff_eq]at h
  exact⟨h.1,h.2.1,h.2.2.1,h.2.2.2.1,h.2.2.2.2⟩
abbrev Qg (m:List UInt8) (S:List (List UInt8)) (i:Nat):List UInt8:=if i≤2 then zD else ix m S
theorem Qw (S:List (List UInt8)):(((ll S:Nat):Int)==0)=decide (ll S=0):=by rw [Bool.eq_iff_iff,beq_iff_eq,decide_eq_true_eq];omega
theorem JU (n a:Int):(decide (a≥0)&&decide (a<n))=decide (ji n a):=by rw [Bool.eq_iff_iff,Bool.and_eq_true,decide_eq_true_eq,decide_eq_true_eq,decide_eq_true_eq];unfold ji;omega
-- K6P
end Go.Abs.D2
