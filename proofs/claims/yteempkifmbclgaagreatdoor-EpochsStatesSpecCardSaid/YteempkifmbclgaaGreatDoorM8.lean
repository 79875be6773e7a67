/-
  The engine, the plain laws and the walks that the rows need, part 8. Conditions: none.
-/
import Derived.Test.YteempkifmbclgaaGreatDoorM7
import Derived.Test.YteempkifmbclgaaGreatDoorProg
import Derived.KernelRfl
set_option linter.unusedVariables false
set_option linter.unusedSimpArgs false
set_option maxHeartbeats 1000000
set_option maxRecDepth 10000
-- Ty
namespace Go.Abs
open Go Go.Eng Go.Proofs
theorem bz:Tryz.prog.follows .mixedOrders=true:=by kernel_rfl
theorem an:TI Tryz.prog 3 1 8 [.int .i64 0] false:=TI.of (z:= .int .i64 0) (by kernel_rfl) Tryz.underlying3 rfl rfl
theorem ux:TI Tryz.prog 4 1 1 [.bool false] false:=TI.of (z:= .bool false) (by kernel_rfl) Tryz.underlying4 rfl rfl
theorem aQ:TI Tryz.prog 5 1 1 [.int .u8 0] false:=TI.of (z:= .int .u8 0) (by kernel_rfl) Tryz.underlying5 rfl rfl
theorem gI:TI Tryz.prog 9 1 16 [.string ByteArray.empty] false:=TI.of (z:= .string ByteArray.empty) (by kernel_rfl) Tryz.underlying9 rfl rfl
theorem ya:TI Tryz.prog 20 1 16 [.nilIface] false:=TI.of (z:= .nilIface) (by kernel_rfl) Tryz.underlying20 rfl rfl
theorem aE:TI Tryz.prog 23 32 32 (List.replicate 32 (.int .u8 0)) true:=TI.of (z:= .agg (List.replicate 32 (.int .u8 0):List Value).toArray) (by kernel_rfl) Tryz.underlying23 rfl rfl
theorem fw:TI Tryz.prog 24 1 24 [.slice none 0 0] false:=TI.of (z:= .slice none 0 0) (by kernel_rfl) Tryz.underlying24 rfl rfl
theorem lU:TI Tryz.prog 25 1 8 [.nilFunc] false:=TI.of (z:= .nilFunc) (by kernel_rfl) Tryz.underlying25 rfl rfl
theorem b7:TI Tryz.prog 27 1 8 [.int .i64 0] false:=TI.of (z:= .int .i64 0) (by kernel_rfl) Tryz.underlying27 rfl rfl
theorem ib:TI Tryz.prog 30 1 24 [.slice none 0 0] false:=TI.of (z:= .slice none 0 0) (by kernel_rfl) Tryz.underlying30 rfl rfl
theorem cH:TI Tryz.prog 31 1 24 [.slice none 0 0] false:=TI.of (z:= .slice none 0 0) (by kernel_rfl) Tryz.underlying31 rfl rfl
theorem ky:TI Tryz.prog 41 1 24 [.slice none 0 0] false:=TI.of (z:= .slice none 0 0) (by kernel_rfl) Tryz.underlying41 rfl rfl
theorem eU:TI Tryz.prog 43 3 56 [.int .i64 0,.slice none 0 0,.slice none 0 0] true:=TI.of (z:= .agg ([.int .i64 0,.slice none 0 0,.slice none 0 0]:List Value).toArray) (by kernel_rfl) Tryz.underlying43 rfl rfl
theorem bA:TI Tryz.prog 45 71 168 [.int .i64 0,.int .i64 0,.int .i64 0,.slice none 0 0,.int .u8 0,.int .u8 0,.int .u8 0,.int .u8 0,.int .u8 0,.int .u8 0,.int .u8 0,.int .u8 0,.int .u8 0,.int .u8 0,.int .u8 0,.int .u8 0,.int .u8 0,.int .u8 0,.int .u8 0,.int .u8 0,.int .u8 0,.int .u8 0,.int .u8 0,.int .u8 0,.int .u8 0,.int .u8 0,.int .u8 0,.int .u8 0,.int .u8 0,.int .u8 0,.int .u8 0,.int .u8 0,.int .u8 0,.int .u8 0,.int .u8 0,.int .u8 0,.int .u8 0,.int .u8 0,.int .u8 0,.int .u8 0,.int .u8 0,.int .u8 0,.int .u8 0,.int .u8 0,.int .u8 0,.int .u8 0,.int .u8 0,.int .u8 0,.int .u8 0,.int .u8 0,.int .u8 0,.int .u8 0,.int .u8 0,.int .u8 0,.int .u8 0,.int .u8 0,.int .u8 0,.int .u8 0,.int .u8 0,.int .u8 0,.int .u8 0,.int .u8 0,.int .u8 0,.int .u8 0,.int .u8 0,.int .u8 0,.int .u8 0,.int .u8 0,.int .i64 0,.slice none 0 0,.slice none 0 0] true:=TI.of (z:= .agg ([.int .i64 0,.int .i64 0,.int .i64 0,.slice none 0 0,.int .u8 0,.int .u8 0,.int .u8 0,.int .u8 0,.int .u8 0,.int .u8 0,.int .u8 0,.int .u8 0,.int .u8 0,.int .u8 0,.int .u8 0,.int .u8 0,.int .u8 0,.int .u8 0,.int .u8 0,.int .u8 0,.int .u8 0,.int .u8 0,.int .u8 0,.int .u8 0,.int .u8 0,.int .u8 0,.int .u8 0,.int .u8 0,.int .u8 0,.int .u8 0,.int .u8 0,.int .u8 0,.int .u8 0,.int .u8 0,.int .u8 0,.int .u8 0,.int .u8 0,.int .u8 0,.int .u8 0,.int .u8 0,.int .u8 0,.int .u8 0,.int .u8 0,.int .u8 0,.int .u8 0,.int .u8 0,.int .u8 0,.int .u8 0,.int .u8 0,.int .u8 0,.int .u8 0,.int .u8 0,.int .u8 0,.int .u8 0,.int .u8 0,.int .u8 0,.int .u8 0,.int .u8 0,.int .u8 0,.int .u8 0,.int .u8 0,.int .u8 0,.int .u8 0,.int .u8 0,.int .u8 0,.int .u8 0,.int .u8 0,.int .u8 0,.int .i64 0,.slice none 0 0,.slice none 0 0]:List Value).toArray) (by kernel_rfl) Tryz.underlying45 rfl rfl
theorem bp:TI Tryz.prog 55 2 16 [.int .i64 0,.int .i64 0] true:=TI.of (z:= .agg ([.int .i64 0,.int .i64 0]:List Value).toArray) (by kernel_rfl) Tryz.underlying55 rfl rfl
theorem iE:TI Tryz.prog 58 1 24 [.slice none 0 0] false:=TI.of (z:= .slice none 0 0) (by kernel_rfl) Tryz.underlying58 rfl rfl
theorem ee:TI Tryz.prog 60 34 80 [.int .u8 0,.int .u8 0,.int .u8 0,.int .u8 0,.int .u8 0,.int .u8 0,.int .u8 0,.int .u8 0,.int .u8 0,.int .u8 0,.int .u8 0,.int .u8 0,.int .u8 0,.int .u8 0,.int .u8 0,.int .u8 0,.int .u8 0,.int .u8 0,.int .u8 0,.int .u8 0,.int .u8 0,.int .u8 0,.int .u8 0,.int .u8 0,.int .u8 0,.int .u8 0,.int .u8 0,.int .u8 0,.int .u8 0,.int .u8 0,.int .u8 0,.int .u8 0,.slice none 0 0,.slice none 0 0] true:=TI.of (z:= .agg ([.int .u8 0,.int .u8 0,.int .u8 0,.int .u8 0,.int .u8 0,.int .u8 0,.int .u8 0,.int .u8 0,.int .u8 0,.int .u8 0,.int .u8 0,.int .u8 0,.int .u8 0,.int .u8 0,.int .u8 0,.int .u8 0,.int .u8 0,.int .u8 0,.int .u8 0,.int .u8 0,.int .u8 0,.int .u8 0,.int .u8 0,.int .u8 0,.int .u8 0,.int .u8 0,.int .u8 0,.int .u8 0,.int .u8 0,.int .u8 0,.int .u8 0,.int .u8 0,.slice none 0 0,.slice none 0 0]:List Value).toArray) (by kernel_rfl) Tryz.underlying60 rfl rfl
theorem ef:TI Tryz.prog 68 1 24 [.slice none 0 0] false:=TI.of (z:= .slice none 0 0) (by kernel_rfl) Tryz.underlying68 rfl rfl
theorem yb:TI Tryz.prog 80 1 8 [.map none] false:=TI.of (z:= .map none) (by kernel_rfl) Tryz.underlying80 rfl rfl
theorem cR:TI Tryz.prog 107 1 24 [.slice none 0 0] false:=TI.of (z:= .slice none 0 0) (by kernel_rfl) Tryz.underlying107 rfl rfl
theorem br:TI Tryz.prog 109 4 56 [.int .i64 0,.int .i64 0,.string ByteArray.empty,.slice none 0 0] true:=TI.of (z:= .agg ([.int .i64 0,.int .i64 0,.string ByteArray.empty,.slice none 0 0]:List Value).toArray) (by kernel_rfl) Tryz.underlying109 rfl rfl
theorem cG:TI Tryz.prog 120 3 40 [.int .i64 0,.int .i64 0,.slice none 0 0] true:=TI.of (z:= .agg ([.int .i64 0,.int .i64 0,.slice none 0 0]:List Value).toArray) (by kernel_rfl) Tryz.underlying120 rfl rfl
theorem x9:TI Tryz.prog 136 1 8 [.int .i64 0] true:=TI.of (z:= .agg ([.int .i64 0]:List Value).toArray) (by kernel_rfl) Tryz.underlying136 rfl rfl
theorem fZ:TI Tryz.prog 157 1 8 [.nilFunc] false:=TI.of (z:= .nilFunc) (by kernel_rfl) Tryz.underlying157 rfl rfl
theorem pq:TI Tryz.prog 158 4 32 [.nilFunc,.nilFunc,.nilFunc,.nilFunc] true:=TI.of (z:= .agg ([.nilFunc,.nilFunc,.nilFunc,.nilFunc]:List Value).toArray) (by kernel_rfl) Tryz.underlying158 rfl rfl
theorem uv:TI Tryz.prog 170 19 152 (List.replicate 19 (.int .i64 0)) true:=TI.of (z:= .agg (List.replicate 19 (.int .i64 0):List Value).toArray) (by kernel_rfl) Tryz.underlying170 rfl rfl
theorem Mv:TI Tryz.prog 175 36 36 (List.replicate 36 (.int .u8 0)) true:=TI.of (z:= .agg (List.replicate 36 (.int .u8 0):List Value).toArray) (by kernel_rfl) Tryz.underlying175 rfl rfl
theorem bh:TI Tryz.prog 183 1 4 [.int .u32 0] false:=TI.of (z:= .int .u32 0) (by kernel_rfl) Tryz.underlying183 rfl rfl
theorem lT:TI Tryz.prog 184 8 32 [.int .u32 0,.int .u32 0,.int .u32 0,.int .u32 0,.int .u32 0,.int .u32 0,.int .u32 0,.int .u32 0] true:=TI.of (z:= .agg ([.int .u32 0,.int .u32 0,.int .u32 0,.int .u32 0,.int .u32 0,.int .u32 0,.int .u32 0,.int .u32 0]:List Value).toArray) (by kernel_rfl) Tryz.underlying184 rfl rfl
theorem mH:TI Tryz.prog 185 8 32 [.int .u32 0,.int .u32 0,.int .u32 0,.int .u32 0,.int .u32 0,.int .u32 0,.int .u32 0,.int .u32 0] true:=TI.of (z:= .agg ([.int .u32 0,.int .u32 0,.int .u32 0,.int .u32 0,.int .u32 0,.int .u32 0,.int .u32 0,.int .u32 0]:List Value).toArray) (by kernel_rfl) Tryz.underlying185 rfl rfl
theorem uw:TI Tryz.prog 203 608 608 (List.replicate 608 (.int .u8 0)) true:=TI.of (z:= .agg (List.replicate 608 (.int .u8 0):List Value).toArray) (by kernel_rfl) Tryz.underlying203 rfl rfl
theorem Mw:TI Tryz.prog 214 64 64 (List.replicate 64 (.int .u8 0)) true:=TI.of (z:= .agg (List.replicate 64 (.int .u8 0):List Value).toArray) (by kernel_rfl) Tryz.underlying214 rfl rfl
theorem k8:TI Tryz.prog 216 64 256 (List.replicate 64 (.int .u32 0)) true:=TI.of (z:= .agg (List.replicate 64 (.int .u32 0):List Value).toArray) (by kernel_rfl) Tryz.underlying216 rfl rfl
end Go.Abs
-- D2P
namespace Go.Abs.D2
open Go Go.Abs
def fa (x:BitVec 32) (n:Nat):BitVec 32:=x>>>n|||x<<<(32 - n)
structure S8 where
  a:BitVec 32
  b:BitVec 32
  c:BitVec 32
  d:BitVec 32
  e:BitVec 32
  f:BitVec 32
  g:BitVec 32
  h:BitVec 32
def S8.l (s:S8):List (BitVec 32):= [s.a,s.b,s.c,s.d,s.e,s.f,s.g,s.h]
def S8.add (s t:S8):S8:=⟨s.a+t.a,s.b+t.b,s.c+t.c,s.d+t.d,s.e+t.e,s.f+t.f,s.g+t.g,s.h+t.h⟩
def K4 (k w:BitVec 32) (s:S8):S8:=
  let p:=s.h+(fa s.e 6 ^^^ fa s.e 11 ^^^ fa s.e 25)+((s.e&&& s.f) ^^^ (~~~s.e&&& s.g))+k+w
  let q:=(fa s.a 2 ^^^ fa s.a 13 ^^^ fa s.a 22)+((s.a&&& s.b) ^^^ (s.a&&& s.c) ^^^ (s.b&&& s.c))
  ⟨p+q,s.a,s.b,s.c,s.d+p,s.e,s.f,s.g⟩
def It:List Nat:= [0x428a2f98,0x71374491,0xb5c0fbcf,0xe9b5dba5,0x3956c25b,0x59f111f1,0x923f82a4,0xab1c5ed5,
  0xd807aa98,0x12835b01,0x243185be,0x550c7dc3,0x72be5d74,0x80deb1fe,0x9bdc06a7,0xc19bf174,
  0xe49b69c1,0xefbe4786,0x0fc19dc6,0x240ca1cc,0x2de92c6f,0x4a7484aa,0x5cb0a9dc,0x76f988da,
  0x983e5152,0xa831c66d,0xb00327c8,0xbf597fc7,0xc6e00bf3,0xd5a79147,0x06ca6351,0x14292967,
  0x27b70a85,0x2e1b2138,0x4d2c6dfc,0x53380d13,0x650a7354,0x766a0abb,0x81c2c92e,0x92722c85,
  0xa2bfe8a1,0xa81a664b,0xc24b8b70,0xc76c51a3,0xd192e819,0xd6990624,0xf40e3585,0x106aa070,
  0x19a4c116,0x1e376c08,0x2748774c,0x34b0bcb5,0x391c0cb3,0x4ed8aa4a,0x5b9cca4f,0x682e6ff3,
  0x748f82ee,0x78a5636f,0x84c87814,0x8cc70208,0x90befffa,0xa4506ceb,0xbef9a3f7,0xc67178f2]
@[irreducible] def mj:List (BitVec 32):=It.map (BitVec.ofNat 32)
def word (b:List UInt8) (i:Nat):BitVec 32:=
  lz (b.getD i 0).toNat<<<24|||lz (b.getD (i+1) 0).toNat<<<16|||lz (b.getD (i+2) 0).toNat<<<8|||lz (b.getD (i+3) 0).toNat
def words (b:List UInt8) (k:Nat):List (BitVec 32):=(List.range k).map fun t=>word b (4*t)
def LS (x:BitVec 32):BitVec 32:=fa x 7 ^^^ fa x 18 ^^^ x>>>3
def LU (x:BitVec 32):BitVec 32:=fa x 17 ^^^ fa x 19 ^^^ x>>>10
def xg (l:List (BitVec 32)) (t:Nat):BitVec 32:=l.getD (t - 16) 0+LS (l.getD (t - 15) 0)+l.getD (t - 7) 0+LU (l.getD (t - 2) 0)
def xQ (b:List UInt8):Nat→List (BitVec 32)
  |0=>words b 16
  |k+1=>xQ b k++ [xg (xQ b k) (16+k)]
@[irreducible] def sched (b:List UInt8) (k:Nat):List (BitVec 32):=xQ b k
def rounds (w:List (BitVec 32)) (s:S8):Nat→S8
  |0=>s
  |t+1=>K4 (mj.getD t 0) (w.getD t 0) (rounds w s t)
def comp (s:S8) (b:List UInt8):S8:=s.add (rounds (sched b 48) s 64)
def fg:Nat→S8→List UInt8→S8
  |0,s,_=>s
  |k+1,s,p=>fg k (comp s (p.take 64)) (p.drop 64)
def eC (n:Nat):List UInt8:=(List.range 8).map fun i=>UInt8.ofNat (n / 2 ^ (8*(7 - i)))
def gO (n:Nat):Nat:=(119 - n % 64) % 64
def pad (b:List UInt8):List UInt8:=b++ [0x80]++List.replicate (gO b.length) 0++eC (8*b.length)
def h0:S8:=⟨0x6a09e667,0xbb67ae85,0x3c6ef372,0xa54ff53a,0x510e527f,0x9b05688c,0x1f83d9ab,0x5be0cd19⟩
def xq (s:S8) (i:Nat):UInt8:=UInt8.ofNat ((s.l.getD (i / 4) 0)>>>(24 - 8*(i % 4))).toNat
def jB (s:S8) (k:Nat):List UInt8:=(List.range k).map (xq s)
def k5 (b:List UInt8):List UInt8:=jB (fg ((pad b).length / 64) h0 (pad b)) 32
@[simp] theorem len_sha (l:List UInt8):(k5 l).length=32:=by simp [k5,jB]
def tagged (t b:List UInt8):List UInt8:=k5 (k5 t++b)
@[simp] theorem mn (t b:List UInt8):(tagged t b).length=32:=len_sha _
@[simp] theorem len_words (b:List UInt8) (k:Nat):(words b k).length=k:=by simp [words]
theorem xR (b:List UInt8):sched b 0=words b 16:=by unfold sched;rfl
theorem Dx (b:List UInt8) (k:Nat):sched b (k+1)=sched b k++ [xg (sched b k) (16+k)]:=by unfold sched;rfl
@[simp] theorem I7 (b : List UInt8) : ∀ k, (sched b k).length = 16 + k
  |0=>by simp [xR]
  |k+1=>by simp [Dx,I7 b k];omega
theorem En (b:List UInt8) (k:Nat):words b (k+1)=words b k++ [word b (4*k)]:=by simp [words,List.range_succ]
@[simp] theorem len_be64 (n:Nat):(eC n).length=8:=by simp [eC]
theorem rl (n:Nat):(n+1+gO n) % 64=56∧gO n<64:=by unfold gO;omega
theorem s4 (b:List UInt8):(pad b).length=b.length+1+gO b.length+8:=by simp [pad,len_be64];omega
theorem Ke (s:S8) (k:Nat):jB s (k+1)=jB s k++ [xq s k]:=by simp [jB,List.range_succ]
@[simp] theorem len_outS (s:S8) (k:Nat):(jB s k).length=k:=by simp [jB]
@[simp] theorem I2 (s:S8):s.l.length=8:=rfl
@[simp] theorem qu:mj.length=64:=by unfold mj;decide
theorem qV {l:List A} {m:Nat} {v z:A} (i:Nat) (hi:i=l.length) (hm:0<m):(l++List.replicate m z).set i v=(l++ [v])++List.replicate (m - 1) z:=by
  subst hi
  obtain⟨m,rfl⟩:∃k,m=k+1:=⟨m - 1,by omega⟩
  simp [List.replicate_succ]
theorem LR (b:List UInt8) (i:Nat) (hi:i<64):((words b i).map aI++List.replicate (64 - i) (aI 0)).set (0+i*1) (aI (word b (4*i)))=(words b (i+1)).map aI++List.replicate (64 - (i+1)) (aI 0):=by
  rw [qV _ (by simp) (by omega),En]
  simp [Nat.sub_sub]
theorem DG (b:List UInt8) (k:Nat) (x:BitVec 32) (hk:k<48) (hx:x=xg (sched b k) (16+k)):((sched b k).map aI++List.replicate (48 - k) (aI 0)).set (0+(16+k)*1) (aI x)=(sched b (k+1)).map aI++List.replicate (48 - (k+1)) (aI 0):=by
  subst hx
  rw [qV _ (by simp) (by omega)]
  simp [Dx,Nat.sub_sub]
theorem jX {l:List (BitVec 32)} {r cs:List A} (i:Nat) (hi:i<l.length) (hc:cs=(l.map aI++r).drop (0+i*1)):cs[0]? =some (aI (l.getD i 0)):=by
  subst hc
  rw [List.getElem?_drop,show 0+i*1+0=i by omega,List.getElem?_append_left (by simpa using hi),List.getElem?_map,List.getElem?_eq_getElem hi,List.getD_eq_getElem?_getD,List.getElem?_eq_getElem hi]
  rfl
theorem H7 {l:List (BitVec 32)} {cs:List A} (i:Nat) (hi:i<l.length) (hc:cs=(l.map aI).drop (i*1)):cs[0]? =some (aI (l.getD i 0)):=
  jX (r:= []) i hi (by rw [hc,List.append_nil,Nat.zero_add])
theorem oG {l:List (BitVec 32)} {cs:List A} (i:Nat) (hi:i<l.length) (hc:cs=(l.map aI).drop (0+i*1)):cs[0]? =some (aI (l.getD i 0)):=
  jX (r:= []) i hi (by rw [hc,List.append_nil])
theorem MS (b0 b1 b2 b3:BitVec 32):(((((0:BitVec 32)<<<8|||b0)<<<8|||b1)<<<8|||b2)<<<8|||b3)=b0<<<24|||b1<<<16|||b2<<<8|||b3:=by
  simp only [BitVec.shiftLeft_or_distrib, ←BitVec.shiftLeft_add]
  simp
theorem kY (x:BitVec 32) (n:Nat):x<<<(32 - n)|||x>>>n=fa x n:=BitVec.or_comm _ _
theorem u6:∀(k:Nat) (s:S8) (p:List UInt8),fg (k+1) s p=comp (fg k s p) ((p.drop (64*k)).take 64)
  |0,s,p=>by simp [fg]
  | k + 1, s, p => by
    have:=u6 k (comp s (p.take 64)) (p.drop 64)
    rw [List.drop_drop,show 64+64*k=64*(k+1) by omega]at this
    exact this
theorem GC (p:List UInt8) (n:Nat):(((p.map u8).drop (n*1)).take (64*1))=((p.drop n).take 64).map u8:=by simp [List.map_drop,List.map_take]
theorem DF (s:S8) (i:Nat) (x:UInt8) (hi:i<32) (hx:x=xq s i):((jB s i).map u8++List.replicate (32 - i) (u8 0)).set (0+i*1) (u8 x)=(jB s (i+1)).map u8++List.replicate (32 - (i+1)) (u8 0):=by
  subst hx
  rw [qV _ (by simp) (by omega),Ke]
  simp [Nat.sub_sub]
theorem I5 (b:List UInt8):(pad b).length=64*((pad b).length / 64):=by
  rw [s4]
  have:=rl b.length
  omega
theorem zb (n i:Nat) (h:i<8):(eC n)[i]? =some (UInt8.ofNat (n / 2 ^ (8*(7 - i)))):=by simp [eC,h]
theorem Mu (n k:Nat) (h:k<8):(eC n).take (k+1)=(eC n).take k++ [UInt8.ofNat (n / 2 ^ (8*(7 - k)))]:=by
  rw [List.take_add_one,zb n k h];rfl
theorem Mt {α:Type} {l:List α} {k:Nat} (h:l.length=k):l.take k=l:=List.take_of_length_le (by omega)
theorem vm (n k:Nat) (h:n<18446744073709551616):UInt8.ofNat ((a6 n)>>>k).toNat=UInt8.ofNat (n / 2 ^ k):=by
  rw [BitVec.toNat_ushiftRight,BitVec.toNat_ofNat,Nat.mod_eq_of_lt (by omega),Nat.shiftRight_eq_div_pow]
theorem rL:∀(k m:Nat) (s:S8) (p q:List UInt8),p.length=64*k→fg (k+m) s (p++q)=fg m (fg k s p) q
  | 0, m, s, p, q, h => by
    have:p= []:=List.eq_nil_of_length_eq_zero (by omega)
    subst this;simp [fg]
  | k + 1, m, s, p, q, h => by
    rw [show k+1+m=(k+m)+1 by omega]
    simp only [fg]
    rw [List.take_append_of_le_length (by omega),List.drop_append_of_le_length (by omega)]
    exact rL k m _ _ _ (by simp;omega)
theorem nY:∀(k:Nat) (s:S8) (p q:List UInt8),p.length=64*k→fg k s (p++q)=fg k s p
  |0,s,p,q,_=>rfl
  | k + 1, s, p, q, h => by
    simp only [fg]
    rw [List.take_append_of_le_length (by omega),List.drop_append_of_le_length (by omega)]
    exact nY k _ _ _ (by simp;omega)
end Go.Abs.D2
