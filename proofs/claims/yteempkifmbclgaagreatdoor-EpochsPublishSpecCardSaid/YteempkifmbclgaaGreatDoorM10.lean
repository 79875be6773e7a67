/-
  The engine, the plain laws and the walks that the rows need, part 10. Conditions: none.
-/
import Derived.Test.YteempkifmbclgaaGreatDoorM9
import Derived.Test.YteempkifmbclgaaGreatDoorProg
import Derived.KernelRfl
set_option linter.unusedVariables false
set_option linter.unusedSimpArgs false
set_option maxHeartbeats 1000000
set_option maxRecDepth 10000
-- Ty
namespace Go.Abs
open Go Go.Eng Go.Proofs
theorem cL:Tryz.prog.follows .mixedOrders=true:=by kernel_rfl
theorem bL:TI Tryz.prog 3 1 8 [.int .i64 0] false:=TI.of (z:= .int .i64 0) aw Tryz.underlying3 rfl rfl
theorem xU:TI Tryz.prog 4 1 1 [.bool false] false:=TI.of (z:= .bool false) aw Tryz.underlying4 rfl rfl
theorem cr:TI Tryz.prog 5 1 1 [.int .u8 0] false:=TI.of (z:= .int .u8 0) aw Tryz.underlying5 rfl rfl
theorem jZ:TI Tryz.prog 9 1 16 [.string ByteArray.empty] false:=TI.of (z:= .string ByteArray.empty) aw Tryz.underlying9 rfl rfl
theorem Bg:TI Tryz.prog 20 1 16 [.nilIface] false:=TI.of (z:= .nilIface) aw Tryz.underlying20 rfl rfl
theorem bR:TI Tryz.prog 23 32 32 (List.replicate 32 (.int .u8 0)) true:=TI.of (z:= .agg (List.replicate 32 (.int .u8 0):List Value).toArray) aw Tryz.underlying23 rfl rfl
theorem iN:TI Tryz.prog 24 1 24 [.slice none 0 0] false:=TI.of (z:= .slice none 0 0) aw Tryz.underlying24 rfl rfl
theorem od:TI Tryz.prog 25 1 8 [.nilFunc] false:=TI.of (z:= .nilFunc) aw Tryz.underlying25 rfl rfl
theorem dU:TI Tryz.prog 27 1 8 [.int .i64 0] false:=TI.of (z:= .int .i64 0) aw Tryz.underlying27 rfl rfl
theorem gN:TI Tryz.prog 30 1 24 [.slice none 0 0] false:=TI.of (z:= .slice none 0 0) aw Tryz.underlying30 rfl rfl
theorem dN:TI Tryz.prog 31 1 24 [.slice none 0 0] false:=TI.of (z:= .slice none 0 0) aw Tryz.underlying31 rfl rfl
theorem ir:TI Tryz.prog 41 1 24 [.slice none 0 0] false:=TI.of (z:= .slice none 0 0) aw Tryz.underlying41 rfl rfl
theorem eG:TI Tryz.prog 43 3 56 [.int .i64 0,.slice none 0 0,.slice none 0 0] true:=TI.of (z:= .agg ([.int .i64 0,.slice none 0 0,.slice none 0 0]:List Value).toArray) aw Tryz.underlying43 rfl rfl
theorem cT:TI Tryz.prog 45 71 168 [.int .i64 0,.int .i64 0,.int .i64 0,.slice none 0 0,.int .u8 0,.int .u8 0,.int .u8 0,.int .u8 0,.int .u8 0,.int .u8 0,.int .u8 0,.int .u8 0,.int .u8 0,.int .u8 0,.int .u8 0,.int .u8 0,.int .u8 0,.int .u8 0,.int .u8 0,.int .u8 0,.int .u8 0,.int .u8 0,.int .u8 0,.int .u8 0,.int .u8 0,.int .u8 0,.int .u8 0,.int .u8 0,.int .u8 0,.int .u8 0,.int .u8 0,.int .u8 0,.int .u8 0,.int .u8 0,.int .u8 0,.int .u8 0,.int .u8 0,.int .u8 0,.int .u8 0,.int .u8 0,.int .u8 0,.int .u8 0,.int .u8 0,.int .u8 0,.int .u8 0,.int .u8 0,.int .u8 0,.int .u8 0,.int .u8 0,.int .u8 0,.int .u8 0,.int .u8 0,.int .u8 0,.int .u8 0,.int .u8 0,.int .u8 0,.int .u8 0,.int .u8 0,.int .u8 0,.int .u8 0,.int .u8 0,.int .u8 0,.int .u8 0,.int .u8 0,.int .u8 0,.int .u8 0,.int .u8 0,.int .u8 0,.int .i64 0,.slice none 0 0,.slice none 0 0] true:=TI.of (z:= .agg ([.int .i64 0,.int .i64 0,.int .i64 0,.slice none 0 0,.int .u8 0,.int .u8 0,.int .u8 0,.int .u8 0,.int .u8 0,.int .u8 0,.int .u8 0,.int .u8 0,.int .u8 0,.int .u8 0,.int .u8 0,.int .u8 0,.int .u8 0,.int .u8 0,.int .u8 0,.int .u8 0,.int .u8 0,.int .u8 0,.int .u8 0,.int .u8 0,.int .u8 0,.int .u8 0,.int .u8 0,.int .u8 0,.int .u8 0,.int .u8 0,.int .u8 0,.int .u8 0,.int .u8 0,.int .u8 0,.int .u8 0,.int .u8 0,.int .u8 0,.int .u8 0,.int .u8 0,.int .u8 0,.int .u8 0,.int .u8 0,.int .u8 0,.int .u8 0,.int .u8 0,.int .u8 0,.int .u8 0,.int .u8 0,.int .u8 0,.int .u8 0,.int .u8 0,.int .u8 0,.int .u8 0,.int .u8 0,.int .u8 0,.int .u8 0,.int .u8 0,.int .u8 0,.int .u8 0,.int .u8 0,.int .u8 0,.int .u8 0,.int .u8 0,.int .u8 0,.int .u8 0,.int .u8 0,.int .u8 0,.int .u8 0,.int .i64 0,.slice none 0 0,.slice none 0 0]:List Value).toArray) aw Tryz.underlying45 rfl rfl
theorem c8:TI Tryz.prog 55 2 16 [.int .i64 0,.int .i64 0] true:=TI.of (z:= .agg ([.int .i64 0,.int .i64 0]:List Value).toArray) aw Tryz.underlying55 rfl rfl
theorem fD:TI Tryz.prog 58 1 24 [.slice none 0 0] false:=TI.of (z:= .slice none 0 0) aw Tryz.underlying58 rfl rfl
theorem dO:TI Tryz.prog 60 34 80 [.int .u8 0,.int .u8 0,.int .u8 0,.int .u8 0,.int .u8 0,.int .u8 0,.int .u8 0,.int .u8 0,.int .u8 0,.int .u8 0,.int .u8 0,.int .u8 0,.int .u8 0,.int .u8 0,.int .u8 0,.int .u8 0,.int .u8 0,.int .u8 0,.int .u8 0,.int .u8 0,.int .u8 0,.int .u8 0,.int .u8 0,.int .u8 0,.int .u8 0,.int .u8 0,.int .u8 0,.int .u8 0,.int .u8 0,.int .u8 0,.int .u8 0,.int .u8 0,.slice none 0 0,.slice none 0 0] true:=TI.of (z:= .agg ([.int .u8 0,.int .u8 0,.int .u8 0,.int .u8 0,.int .u8 0,.int .u8 0,.int .u8 0,.int .u8 0,.int .u8 0,.int .u8 0,.int .u8 0,.int .u8 0,.int .u8 0,.int .u8 0,.int .u8 0,.int .u8 0,.int .u8 0,.int .u8 0,.int .u8 0,.int .u8 0,.int .u8 0,.int .u8 0,.int .u8 0,.int .u8 0,.int .u8 0,.int .u8 0,.int .u8 0,.int .u8 0,.int .u8 0,.int .u8 0,.int .u8 0,.int .u8 0,.slice none 0 0,.slice none 0 0]:List Value).toArray) aw Tryz.underlying60 rfl rfl
theorem eM:TI Tryz.prog 68 1 24 [.slice none 0 0] false:=TI.of (z:= .slice none 0 0) aw Tryz.underlying68 rfl rfl
theorem Bh:TI Tryz.prog 80 1 8 [.map none] false:=TI.of (z:= .map none) aw Tryz.underlying80 rfl rfl
theorem ey:TI Tryz.prog 107 1 24 [.slice none 0 0] false:=TI.of (z:= .slice none 0 0) aw Tryz.underlying107 rfl rfl
theorem cP:TI Tryz.prog 109 4 56 [.int .i64 0,.int .i64 0,.string ByteArray.empty,.slice none 0 0] true:=TI.of (z:= .agg ([.int .i64 0,.int .i64 0,.string ByteArray.empty,.slice none 0 0]:List Value).toArray) aw Tryz.underlying109 rfl rfl
theorem de:TI Tryz.prog 120 3 40 [.int .i64 0,.int .i64 0,.slice none 0 0] true:=TI.of (z:= .agg ([.int .i64 0,.int .i64 0,.slice none 0 0]:List Value).toArray) aw Tryz.underlying120 rfl rfl
theorem Bf:TI Tryz.prog 136 1 8 [.int .i64 0] true:=TI.of (z:= .agg ([.int .i64 0]:List Value).toArray) aw Tryz.underlying136 rfl rfl
theorem ju:TI Tryz.prog 157 1 8 [.nilFunc] false:=TI.of (z:= .nilFunc) aw Tryz.underlying157 rfl rfl
theorem sB:TI Tryz.prog 158 4 32 [.nilFunc,.nilFunc,.nilFunc,.nilFunc] true:=TI.of (z:= .agg ([.nilFunc,.nilFunc,.nilFunc,.nilFunc]:List Value).toArray) aw Tryz.underlying158 rfl rfl
theorem xS:TI Tryz.prog 170 19 152 (List.replicate 19 (.int .i64 0)) true:=TI.of (z:= .agg (List.replicate 19 (.int .i64 0):List Value).toArray) aw Tryz.underlying170 rfl rfl
theorem Qj:TI Tryz.prog 175 36 36 (List.replicate 36 (.int .u8 0)) true:=TI.of (z:= .agg (List.replicate 36 (.int .u8 0):List Value).toArray) aw Tryz.underlying175 rfl rfl
theorem cW:TI Tryz.prog 183 1 4 [.int .u32 0] false:=TI.of (z:= .int .u32 0) aw Tryz.underlying183 rfl rfl
theorem oc:TI Tryz.prog 184 8 32 [.int .u32 0,.int .u32 0,.int .u32 0,.int .u32 0,.int .u32 0,.int .u32 0,.int .u32 0,.int .u32 0] true:=TI.of (z:= .agg ([.int .u32 0,.int .u32 0,.int .u32 0,.int .u32 0,.int .u32 0,.int .u32 0,.int .u32 0,.int .u32 0]:List Value).toArray) aw Tryz.underlying184 rfl rfl
theorem pg:TI Tryz.prog 185 8 32 [.int .u32 0,.int .u32 0,.int .u32 0,.int .u32 0,.int .u32 0,.int .u32 0,.int .u32 0,.int .u32 0] true:=TI.of (z:= .agg ([.int .u32 0,.int .u32 0,.int .u32 0,.int .u32 0,.int .u32 0,.int .u32 0,.int .u32 0,.int .u32 0]:List Value).toArray) aw Tryz.underlying185 rfl rfl
theorem xT:TI Tryz.prog 203 608 608 (List.replicate 608 (.int .u8 0)) true:=TI.of (z:= .agg (List.replicate 608 (.int .u8 0):List Value).toArray) aw Tryz.underlying203 rfl rfl
theorem Qk:TI Tryz.prog 214 64 64 (List.replicate 64 (.int .u8 0)) true:=TI.of (z:= .agg (List.replicate 64 (.int .u8 0):List Value).toArray) aw Tryz.underlying214 rfl rfl
theorem nq:TI Tryz.prog 216 64 256 (List.replicate 64 (.int .u32 0)) true:=TI.of (z:= .agg (List.replicate 64 (.int .u32 0):List Value).toArray) aw Tryz.underlying216 rfl rfl
end Go.Abs
-- D2P
namespace Go.Abs.D2
open Go Go.Abs
def iC (x:BitVec 32) (n:Nat):BitVec 32:=x>>>n|||x<<<(32 - n)
structure S8 where
  a:BitVec 32
  b:BitVec 32
  c:BitVec 32
  d:BitVec 32
  e:BitVec 32
  f:BitVec 32
  g:BitVec 32
  h:BitVec 32
def S8.l (s:S8):List (BitVec 32):= [s.a,s.b,s.c,s.d,s.e,s.f,s.g,s.h]
def S8.add (s t:S8):S8:=⟨s.a+t.a,s.b+t.b,s.c+t.c,s.d+t.d,s.e+t.e,s.f+t.f,s.g+t.g,s.h+t.h⟩
def Oz (k w:BitVec 32) (s:S8):S8:=
  let p:=s.h+(iC s.e 6 ^^^ iC s.e 11 ^^^ iC s.e 25)+((s.e&&& s.f) ^^^ (~~~s.e&&& s.g))+k+w
  let q:=(iC s.a 2 ^^^ iC s.a 13 ^^^ iC s.a 22)+((s.a&&& s.b) ^^^ (s.a&&& s.c) ^^^ (s.b&&& s.c))
  ⟨p+q,s.a,s.b,s.c,s.d+p,s.e,s.f,s.g⟩
def LF:List Nat:= [0x428a2f98,0x71374491,0xb5c0fbcf,0xe9b5dba5,0x3956c25b,0x59f111f1,0x923f82a4,0xab1c5ed5,
  0xd807aa98,0x12835b01,0x243185be,0x550c7dc3,0x72be5d74,0x80deb1fe,0x9bdc06a7,0xc19bf174,
  0xe49b69c1,0xefbe4786,0x0fc19dc6,0x240ca1cc,0x2de92c6f,0x4a7484aa,0x5cb0a9dc,0x76f988da,
  0x983e5152,0xa831c66d,0xb00327c8,0xbf597fc7,0xc6e00bf3,0xd5a79147,0x06ca6351,0x14292967,
  0x27b70a85,0x2e1b2138,0x4d2c6dfc,0x53380d13,0x650a7354,0x766a0abb,0x81c2c92e,0x92722c85,
  0xa2bfe8a1,0xa81a664b,0xc24b8b70,0xc76c51a3,0xd192e819,0xd6990624,0xf40e3585,0x106aa070,
  0x19a4c116,0x1e376c08,0x2748774c,0x34b0bcb5,0x391c0cb3,0x4ed8aa4a,0x5b9cca4f,0x682e6ff3,
  0x748f82ee,0x78a5636f,0x84c87814,0x8cc70208,0x90befffa,0xa4506ceb,0xbef9a3f7,0xc67178f2]
@[irreducible] def oL:List (BitVec 32):=LF.map (BitVec.ofNat 32)
def word (b:List UInt8) (i:Nat):BitVec 32:=
  nG (b.getD i 0).toNat<<<24|||nG (b.getD (i+1) 0).toNat<<<16|||nG (b.getD (i+2) 0).toNat<<<8|||nG (b.getD (i+3) 0).toNat
def words (b:List UInt8) (k:Nat):List (BitVec 32):=(List.range k).map fun t=>word b (4*t)
def PC (x:BitVec 32):BitVec 32:=iC x 7 ^^^ iC x 18 ^^^ x>>>3
def PD (x:BitVec 32):BitVec 32:=iC x 17 ^^^ iC x 19 ^^^ x>>>10
def Aq (l:List (BitVec 32)) (t:Nat):BitVec 32:=l.getD (t - 16) 0+PC (l.getD (t - 15) 0)+l.getD (t - 7) 0+PD (l.getD (t - 2) 0)
def AZ (b:List UInt8):Nat→List (BitVec 32)
  |0=>words b 16
  |k+1=>AZ b k++ [Aq (AZ b k) (16+k)]
@[irreducible] def sched (b:List UInt8) (k:Nat):List (BitVec 32):=AZ b k
def rounds (w:List (BitVec 32)) (s:S8):Nat→S8
  |0=>s
  |t+1=>Oz (oL.getD t 0) (w.getD t 0) (rounds w s t)
def comp (s:S8) (b:List UInt8):S8:=s.add (rounds (sched b 48) s 64)
def iF:Nat→S8→List UInt8→S8
  |0,s,_=>s
  |k+1,s,p=>iF k (comp s (p.take 64)) (p.drop 64)
def gS (n:Nat):List UInt8:=(List.range 8).map fun i=>UInt8.ofNat (n / 2 ^ (8*(7 - i)))
def j6 (n:Nat):Nat:=(119 - n % 64) % 64
def pad (b:List UInt8):List UInt8:=b++ [0x80]++List.replicate (j6 b.length) 0++gS (8*b.length)
def h0:S8:=⟨0x6a09e667,0xbb67ae85,0x3c6ef372,0xa54ff53a,0x510e527f,0x9b05688c,0x1f83d9ab,0x5be0cd19⟩
def AB (s:S8) (i:Nat):UInt8:=UInt8.ofNat ((s.l.getD (i / 4) 0)>>>(24 - 8*(i % 4))).toNat
def lP (s:S8) (k:Nat):List UInt8:=(List.range k).map (AB s)
def ng (b:List UInt8):List UInt8:=lP (iF ((pad b).length / 64) h0 (pad b)) 32
@[simp] theorem Ml (l:List UInt8):(ng l).length=32:=by simp [ng,lP]
def tagged (t b:List UInt8):List UInt8:=ng (ng t++b)
@[simp] theorem kL (t b:List UInt8):(tagged t b).length=32:=Ml _
@[simp] theorem Mo (b:List UInt8) (k:Nat):(words b k).length=k:=by simp [words]
theorem A1 (b:List UInt8):sched b 0=words b 16:=by unfold sched;rfl
theorem G9 (b:List UInt8) (k:Nat):sched b (k+1)=sched b k++ [Aq (sched b k) (16+k)]:=by unfold sched;rfl
@[simp] theorem Mk (b : List UInt8) : ∀ k, (sched b k).length = 16 + k
  |0=>by simp [A1]
  |k+1=>by simp [G9,Mk b k];omega
theorem HT (b:List UInt8) (k:Nat):words b (k+1)=words b k++ [word b (4*k)]:=by simp [words,List.range_succ]
@[simp] theorem gH (n:Nat):(gS n).length=8:=by simp [gS]
theorem uN (n:Nat):(n+1+j6 n) % 64=56∧j6 n<64:=by unfold j6;omega
theorem wz (b:List UInt8):(pad b).length=b.length+1+j6 b.length+8:=by simp [pad,gH];omega
theorem Nq (s:S8) (k:Nat):lP s (k+1)=lP s k++ [AB s k]:=by simp [lP,List.range_succ]
@[simp] theorem E5 (s:S8) (k:Nat):(lP s k).length=k:=by simp [lP]
@[simp] theorem Mf (s:S8):s.l.length=8:=rfl
@[simp] theorem tS:oL.length=64:=by unfold oL;decide
theorem uz {l:List A} {m:Nat} {v z:A} (i:Nat) (hi:i=l.length) (hm:0<m):(l++List.replicate m z).set i v=(l++ [v])++List.replicate (m - 1) z:=by
  subst hi
  obtain⟨m,rfl⟩:∃k,m=k+1:=⟨m - 1,by omega⟩
  simp [List.replicate_succ]
theorem PB (b:List UInt8) (i:Nat) (hi:i<64):((words b i).map ct++List.replicate (64 - i) (ct 0)).set (0+i*1) (ct (word b (4*i)))=(words b (i+1)).map ct++List.replicate (64 - (i+1)) (ct 0):=by
  rw [uz _ aA aq,HT]
  simp [Nat.sub_sub]
theorem Hi (b:List UInt8) (k:Nat) (x:BitVec 32) (hk:k<48) (hx:x=Aq (sched b k) (16+k)):((sched b k).map ct++List.replicate (48 - k) (ct 0)).set (0+(16+k)*1) (ct x)=(sched b (k+1)).map ct++List.replicate (48 - (k+1)) (ct 0):=by
  subst hx
  rw [uz _ aA aq]
  simp [G9,Nat.sub_sub]
theorem mi {l:List (BitVec 32)} {r cs:List A} (i:Nat) (hi:i<l.length) (hc:cs=(l.map ct++r).drop (0+i*1)):cs[0]? =some (ct (l.getD i 0)):=by
  subst hc
  rw [List.getElem?_drop,show 0+i*1+0=i by omega,List.getElem?_append_left (by simpa using hi),List.getElem?_map,List.getElem?_eq_getElem hi,List.getD_eq_getElem?_getD,List.getElem?_eq_getElem hi]
  rfl
theorem Ln {l:List (BitVec 32)} {cs:List A} (i:Nat) (hi:i<l.length) (hc:cs=(l.map ct).drop (i*1)):cs[0]? =some (ct (l.getD i 0)):=
  mi (r:= []) i hi (by rw [hc,List.append_nil,Nat.zero_add])
theorem rI {l:List (BitVec 32)} {cs:List A} (i:Nat) (hi:i<l.length) (hc:cs=(l.map ct).drop (0+i*1)):cs[0]? =some (ct (l.getD i 0)):=
  mi (r:= []) i hi (by rw [hc,List.append_nil])
theorem QE (b0 b1 b2 b3:BitVec 32):(((((0:BitVec 32)<<<8|||b0)<<<8|||b1)<<<8|||b2)<<<8|||b3)=b0<<<24|||b1<<<16|||b2<<<8|||b3:=by
  simp only [BitVec.shiftLeft_or_distrib, ←BitVec.shiftLeft_add]
  simp
theorem na (x:BitVec 32) (n:Nat):x<<<(32 - n)|||x>>>n=iC x n:=BitVec.or_comm _ _
theorem yD:∀(k:Nat) (s:S8) (p:List UInt8),iF (k+1) s p=comp (iF k s p) ((p.drop (64*k)).take 64)
  |0,s,p=>by simp [iF]
  | k + 1, s, p => by
    have:=yD k (comp s (p.take 64)) (p.drop 64)
    rw [List.drop_drop,show 64+64*k=64*(k+1) by omega]at this
    exact this
theorem J1 (p:List UInt8) (n:Nat):(((p.map u8).drop (n*1)).take (64*1))=((p.drop n).take 64).map u8:=by simp [List.map_drop,List.map_take]
theorem Hh (s:S8) (i:Nat) (x:UInt8) (hi:i<32) (hx:x=AB s i):((lP s i).map u8++List.replicate (32 - i) (u8 0)).set (0+i*1) (u8 x)=(lP s (i+1)).map u8++List.replicate (32 - (i+1)) (u8 0):=by
  subst hx
  rw [uz _ aA aq,Nq]
  simp [Nat.sub_sub]
theorem Mi (b:List UInt8):(pad b).length=64*((pad b).length / 64):=by
  rw [wz]
  have:=uN b.length
  omega
theorem Cf (n i:Nat) (h:i<8):(gS n)[i]? =some (UInt8.ofNat (n / 2 ^ (8*(7 - i)))):=by simp [gS,h]
theorem Qi (n k:Nat) (h:k<8):(gS n).take (k+1)=(gS n).take k++ [UInt8.ofNat (n / 2 ^ (8*(7 - k)))]:=by
  rw [List.take_add_one,Cf n k h];rfl
theorem Qg {α:Type} {l:List α} {k:Nat} (h:l.length=k):l.take k=l:=List.take_of_length_le aq
theorem yQ (n k:Nat) (h:n<18446744073709551616):UInt8.ofNat ((cQ n)>>>k).toNat=UInt8.ofNat (n / 2 ^ k):=by
  rw [BitVec.toNat_ushiftRight,BitVec.toNat_ofNat,Nat.mod_eq_of_lt aq,Nat.shiftRight_eq_div_pow]
theorem u5:∀(k m:Nat) (s:S8) (p q:List UInt8),p.length=64*k→iF (k+m) s (p++q)=iF m (iF k s p) q
  | 0, m, s, p, q, h => by
    have:p= []:=List.eq_nil_of_length_eq_zero aq
    subst this;simp [iF]
  | k + 1, m, s, p, q, h => by
    rw [show k+1+m=(k+m)+1 by omega]
    simp only [iF]
    rw [List.take_append_of_le_length aq,List.drop_append_of_le_length aq]
    exact u5 k m _ _ _ aE
theorem qN:∀(k:Nat) (s:S8) (p q:List UInt8),p.length=64*k→iF k s (p++q)=iF k s p
  |0,s,p,q,_=>rfl
  | k + 1, s, p, q, h => by
    simp only [iF]
    rw [List.take_append_of_le_length aq,List.drop_append_of_le_length aq]
    exact qN k _ _ _ aE
end Go.Abs.D2
