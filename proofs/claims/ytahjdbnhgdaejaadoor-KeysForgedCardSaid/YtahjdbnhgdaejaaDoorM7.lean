/-
  The engine, the plain laws and the walks that the rows need, part 7. Conditions: none.
-/
import Derived.Test.YtahjdbnhgdaejaaDoorM6
import Derived.Test.YtahjdbnhgdaejaaDoorProg
import Derived.KernelRfl
set_option linter.unusedVariables false
set_option linter.unusedSimpArgs false
set_option maxHeartbeats 1000000
set_option maxRecDepth 10000
-- Ty
namespace Go.Abs
open Go Go.Eng Go.Proofs
theorem hmix : Tryd.prog.follows .mixedOrders = true := by kernel_rfl
theorem ti3 : TI Tryd.prog 3 1 8 [.int .i64 0] false := TI.of (z := .int .i64 0) (by kernel_rfl) Tryd.underlying3 rfl rfl
theorem ti4 : TI Tryd.prog 4 1 1 [.bool false] false := TI.of (z := .bool false) (by kernel_rfl) Tryd.underlying4 rfl rfl
theorem ti5 : TI Tryd.prog 5 1 1 [.int .u8 0] false := TI.of (z := .int .u8 0) (by kernel_rfl) Tryd.underlying5 rfl rfl
theorem ti9 : TI Tryd.prog 9 1 16 [.string ByteArray.empty] false := TI.of (z := .string ByteArray.empty) (by kernel_rfl) Tryd.underlying9 rfl rfl
theorem ti23 : TI Tryd.prog 23 32 32 (List.replicate 32 (.int .u8 0)) true := TI.of (z := .agg (List.replicate 32 (.int .u8 0) : List Value).toArray) (by kernel_rfl) Tryd.underlying23 rfl rfl
theorem ti24 : TI Tryd.prog 24 1 8 [.nilFunc] false := TI.of (z := .nilFunc) (by kernel_rfl) Tryd.underlying24 rfl rfl
theorem ti26 : TI Tryd.prog 26 1 24 [.slice none 0 0] false := TI.of (z := .slice none 0 0) (by kernel_rfl) Tryd.underlying26 rfl rfl
theorem ti28 : TI Tryd.prog 28 3 56 [.int .i64 0, .slice none 0 0, .slice none 0 0] true := TI.of (z := .agg ([.int .i64 0, .slice none 0 0, .slice none 0 0] : List Value).toArray) (by kernel_rfl) Tryd.underlying28 rfl rfl
theorem ti64 : TI Tryd.prog 64 36 36 (List.replicate 36 (.int .u8 0)) true := TI.of (z := .agg (List.replicate 36 (.int .u8 0) : List Value).toArray) (by kernel_rfl) Tryd.underlying64 rfl rfl
theorem ti65 : TI Tryd.prog 65 1 24 [.slice none 0 0] false := TI.of (z := .slice none 0 0) (by kernel_rfl) Tryd.underlying65 rfl rfl
theorem ti75 : TI Tryd.prog 75 19 152 (List.replicate 19 (.int .i64 0)) true := TI.of (z := .agg (List.replicate 19 (.int .i64 0) : List Value).toArray) (by kernel_rfl) Tryd.underlying75 rfl rfl
theorem ti79 : TI Tryd.prog 79 2 32 [.string ByteArray.empty, .string ByteArray.empty] true := TI.of (z := .agg ([.string ByteArray.empty, .string ByteArray.empty] : List Value).toArray) (by kernel_rfl) Tryd.underlying79 rfl rfl
theorem ti82 : TI Tryd.prog 82 608 608 (List.replicate 608 (.int .u8 0)) true := TI.of (z := .agg (List.replicate 608 (.int .u8 0) : List Value).toArray) (by kernel_rfl) Tryd.underlying82 rfl rfl
theorem ti102 : TI Tryd.prog 102 1 4 [.int .u32 0] false := TI.of (z := .int .u32 0) (by kernel_rfl) Tryd.underlying102 rfl rfl
theorem ti104 : TI Tryd.prog 104 8 32 [.int .u32 0, .int .u32 0, .int .u32 0, .int .u32 0, .int .u32 0, .int .u32 0, .int .u32 0, .int .u32 0] true := TI.of (z := .agg ([.int .u32 0, .int .u32 0, .int .u32 0, .int .u32 0, .int .u32 0, .int .u32 0, .int .u32 0, .int .u32 0] : List Value).toArray) (by kernel_rfl) Tryd.underlying104 rfl rfl
theorem ti115 : TI Tryd.prog 115 64 64 (List.replicate 64 (.int .u8 0)) true := TI.of (z := .agg (List.replicate 64 (.int .u8 0) : List Value).toArray) (by kernel_rfl) Tryd.underlying115 rfl rfl
theorem ti117 : TI Tryd.prog 117 64 256 (List.replicate 64 (.int .u32 0)) true := TI.of (z := .agg (List.replicate 64 (.int .u32 0) : List Value).toArray) (by kernel_rfl) Tryd.underlying117 rfl rfl
end Go.Abs
-- D2P
namespace Go.Abs.D2
open Go Go.Abs
def rotr (x : BitVec 32) (n : Nat) : BitVec 32 := x >>> n ||| x <<< (32 - n)
structure S8 where
  a : BitVec 32
  b : BitVec 32
  c : BitVec 32
  d : BitVec 32
  e : BitVec 32
  f : BitVec 32
  g : BitVec 32
  h : BitVec 32
def S8.l (s : S8) : List (BitVec 32) := [s.a, s.b, s.c, s.d, s.e, s.f, s.g, s.h]
def S8.add (s t : S8) : S8 := ⟨s.a + t.a, s.b + t.b, s.c + t.c, s.d + t.d, s.e + t.e, s.f + t.f, s.g + t.g, s.h + t.h⟩
def rnd (k w : BitVec 32) (s : S8) : S8 :=
  let p := s.h + (rotr s.e 6 ^^^ rotr s.e 11 ^^^ rotr s.e 25) + ((s.e &&& s.f) ^^^ (~~~s.e &&& s.g)) + k + w
  let q := (rotr s.a 2 ^^^ rotr s.a 13 ^^^ rotr s.a 22) + ((s.a &&& s.b) ^^^ (s.a &&& s.c) ^^^ (s.b &&& s.c))
  ⟨p + q, s.a, s.b, s.c, s.d + p, s.e, s.f, s.g⟩
def kNat : List Nat := [0x428a2f98, 0x71374491, 0xb5c0fbcf, 0xe9b5dba5, 0x3956c25b, 0x59f111f1, 0x923f82a4, 0xab1c5ed5,
  0xd807aa98, 0x12835b01, 0x243185be, 0x550c7dc3, 0x72be5d74, 0x80deb1fe, 0x9bdc06a7, 0xc19bf174,
  0xe49b69c1, 0xefbe4786, 0x0fc19dc6, 0x240ca1cc, 0x2de92c6f, 0x4a7484aa, 0x5cb0a9dc, 0x76f988da,
  0x983e5152, 0xa831c66d, 0xb00327c8, 0xbf597fc7, 0xc6e00bf3, 0xd5a79147, 0x06ca6351, 0x14292967,
  0x27b70a85, 0x2e1b2138, 0x4d2c6dfc, 0x53380d13, 0x650a7354, 0x766a0abb, 0x81c2c92e, 0x92722c85,
  0xa2bfe8a1, 0xa81a664b, 0xc24b8b70, 0xc76c51a3, 0xd192e819, 0xd6990624, 0xf40e3585, 0x106aa070,
  0x19a4c116, 0x1e376c08, 0x2748774c, 0x34b0bcb5, 0x391c0cb3, 0x4ed8aa4a, 0x5b9cca4f, 0x682e6ff3,
  0x748f82ee, 0x78a5636f, 0x84c87814, 0x8cc70208, 0x90befffa, 0xa4506ceb, 0xbef9a3f7, 0xc67178f2]
@[irreducible] def kTab : List (BitVec 32) := kNat.map (BitVec.ofNat 32)
def word (b : List UInt8) (i : Nat) : BitVec 32 :=
  c32 (b.getD i 0).toNat <<< 24 ||| c32 (b.getD (i + 1) 0).toNat <<< 16 ||| c32 (b.getD (i + 2) 0).toNat <<< 8 ||| c32 (b.getD (i + 3) 0).toNat
def words (b : List UInt8) (k : Nat) : List (BitVec 32) := (List.range k).map fun t => word b (4 * t)
def sg0 (x : BitVec 32) : BitVec 32 := rotr x 7 ^^^ rotr x 18 ^^^ x >>> 3
def sg1 (x : BitVec 32) : BitVec 32 := rotr x 17 ^^^ rotr x 19 ^^^ x >>> 10
def nextW (l : List (BitVec 32)) (t : Nat) : BitVec 32 := l.getD (t - 16) 0 + sg0 (l.getD (t - 15) 0) + l.getD (t - 7) 0 + sg1 (l.getD (t - 2) 0)
def schedR (b : List UInt8) : Nat → List (BitVec 32)
  | 0 => words b 16
  | k + 1 => schedR b k ++ [nextW (schedR b k) (16 + k)]
@[irreducible] def sched (b : List UInt8) (k : Nat) : List (BitVec 32) := schedR b k
def rounds (w : List (BitVec 32)) (s : S8) : Nat → S8
  | 0 => s
  | t + 1 => rnd (kTab.getD t 0) (w.getD t 0) (rounds w s t)
def comp (s : S8) (b : List UInt8) : S8 := s.add (rounds (sched b 48) s 64)
def absAll : Nat → S8 → List UInt8 → S8
  | 0, s, _ => s
  | k + 1, s, p => absAll k (comp s (p.take 64)) (p.drop 64)
def be64 (n : Nat) : List UInt8 := (List.range 8).map fun i => UInt8.ofNat (n / 2 ^ (8 * (7 - i)))
def zeros (n : Nat) : Nat := (119 - n % 64) % 64
def pad (b : List UInt8) : List UInt8 := b ++ [0x80] ++ List.replicate (zeros b.length) 0 ++ be64 (8 * b.length)
def h0 : S8 := ⟨0x6a09e667, 0xbb67ae85, 0x3c6ef372, 0xa54ff53a, 0x510e527f, 0x9b05688c, 0x1f83d9ab, 0x5be0cd19⟩
def outB (s : S8) (i : Nat) : UInt8 := UInt8.ofNat ((s.l.getD (i / 4) 0) >>> (24 - 8 * (i % 4))).toNat
def outS (s : S8) (k : Nat) : List UInt8 := (List.range k).map (outB s)
def sha (b : List UInt8) : List UInt8 := outS (absAll ((pad b).length / 64) h0 (pad b)) 32
@[simp] theorem len_sha (l : List UInt8) : (sha l).length = 32 := by simp [sha, outS]
def tagged (t b : List UInt8) : List UInt8 := sha (sha t ++ b)
@[simp] theorem len_tagged (t b : List UInt8) : (tagged t b).length = 32 := len_sha _
@[simp] theorem len_words (b : List UInt8) (k : Nat) : (words b k).length = k := by simp [words]
theorem sched_0 (b : List UInt8) : sched b 0 = words b 16 := by unfold sched; rfl
theorem sched_s (b : List UInt8) (k : Nat) : sched b (k + 1) = sched b k ++ [nextW (sched b k) (16 + k)] := by unfold sched; rfl
@[simp] theorem len_sched (b : List UInt8) : ∀ k, (sched b k).length = 16 + k
  | 0 => by simp [sched_0]
  | k + 1 => by simp [sched_s, len_sched b k]; omega
theorem words_succ (b : List UInt8) (k : Nat) : words b (k + 1) = words b k ++ [word b (4 * k)] := by simp [words, List.range_succ]
@[simp] theorem len_be64 (n : Nat) : (be64 n).length = 8 := by simp [be64]
theorem zeros_spec (n : Nat) : (n + 1 + zeros n) % 64 = 56 ∧ zeros n < 64 := by unfold zeros; omega
theorem len_pad (b : List UInt8) : (pad b).length = b.length + 1 + zeros b.length + 8 := by simp [pad, len_be64]; omega
theorem outS_succ (s : S8) (k : Nat) : outS s (k + 1) = outS s k ++ [outB s k] := by simp [outS, List.range_succ]
@[simp] theorem len_outS (s : S8) (k : Nat) : (outS s k).length = k := by simp [outS]
@[simp] theorem len_l (s : S8) : s.l.length = 8 := rfl
@[simp] theorem len_kTab : kTab.length = 64 := by unfold kTab; decide
theorem set_end {l : List A} {m : Nat} {v z : A} (i : Nat) (hi : i = l.length) (hm : 0 < m) : (l ++ List.replicate m z).set i v = (l ++ [v]) ++ List.replicate (m - 1) z := by
  subst hi
  obtain ⟨m, rfl⟩ : ∃ k, m = k + 1 := ⟨m - 1, by omega⟩
  simp [List.replicate_succ]
theorem set_sched (b : List UInt8) (k : Nat) (x : BitVec 32) (hk : k < 48) (hx : x = nextW (sched b k) (16 + k)) : ((sched b k).map w32 ++ List.replicate (48 - k) (w32 0)).set (0 + (16 + k) * 1) (w32 x) = (sched b (k + 1)).map w32 ++ List.replicate (48 - (k + 1)) (w32 0) := by
  subst hx
  rw [set_end _ (by simp) (by omega)]
  simp [sched_s, Nat.sub_sub]
theorem getW {l : List (BitVec 32)} {r cs : List A} (i : Nat) (hi : i < l.length) (hc : cs = (l.map w32 ++ r).drop (0 + i * 1)) : cs[0]? = some (w32 (l.getD i 0)) := by
  subst hc
  rw [List.getElem?_drop, show 0 + i * 1 + 0 = i by omega, List.getElem?_append_left (by simpa using hi), List.getElem?_map, List.getElem?_eq_getElem hi, List.getD_eq_getElem?_getD, List.getElem?_eq_getElem hi]
  rfl
theorem getW1 {l : List (BitVec 32)} {cs : List A} (i : Nat) (hi : i < l.length) (hc : cs = (l.map w32).drop (i * 1)) : cs[0]? = some (w32 (l.getD i 0)) :=
  getW (r := []) i hi (by rw [hc, List.append_nil, Nat.zero_add])
theorem getW2 {l : List (BitVec 32)} {cs : List A} (i : Nat) (hi : i < l.length) (hc : cs = (l.map w32).drop (0 + i * 1)) : cs[0]? = some (w32 (l.getD i 0)) :=
  getW (r := []) i hi (by rw [hc, List.append_nil])
theorem word_steps (b0 b1 b2 b3 : BitVec 32) : (((((0 : BitVec 32) <<< 8 ||| b0) <<< 8 ||| b1) <<< 8 ||| b2) <<< 8 ||| b3) = b0 <<< 24 ||| b1 <<< 16 ||| b2 <<< 8 ||| b3 := by
  simp only [BitVec.shiftLeft_or_distrib, ← BitVec.shiftLeft_add]
  simp
theorem rotl_rotr (x : BitVec 32) (n : Nat) : x <<< (32 - n) ||| x >>> n = rotr x n := BitVec.or_comm _ _
theorem absAll_snoc : ∀ (k : Nat) (s : S8) (p : List UInt8), absAll (k + 1) s p = comp (absAll k s p) ((p.drop (64 * k)).take 64)
  | 0, s, p => by simp [absAll]
  | k + 1, s, p => by
    have := absAll_snoc k (comp s (p.take 64)) (p.drop 64)
    rw [List.drop_drop, show 64 + 64 * k = 64 * (k + 1) by omega] at this
    exact this
theorem set_out (s : S8) (i : Nat) (x : UInt8) (hi : i < 32) (hx : x = outB s i) : ((outS s i).map u8 ++ List.replicate (32 - i) (u8 0)).set (0 + i * 1) (u8 x) = (outS s (i + 1)).map u8 ++ List.replicate (32 - (i + 1)) (u8 0) := by
  subst hx
  rw [set_end _ (by simp) (by omega), outS_succ]
  simp [Nat.sub_sub]
theorem be64_at (n i : Nat) (h : i < 8) : (be64 n)[i]? = some (UInt8.ofNat (n / 2 ^ (8 * (7 - i)))) := by simp [be64, h]
theorem be_byte (n k : Nat) (h : n < 18446744073709551616) : UInt8.ofNat ((c64 n) >>> k).toNat = UInt8.ofNat (n / 2 ^ k) := by
  rw [BitVec.toNat_ushiftRight, BitVec.toNat_ofNat, Nat.mod_eq_of_lt (by omega), Nat.shiftRight_eq_div_pow]
theorem absAll_app : ∀ (k m : Nat) (s : S8) (p q : List UInt8), p.length = 64 * k → absAll (k + m) s (p ++ q) = absAll m (absAll k s p) q
  | 0, m, s, p, q, h => by
    have : p = [] := List.eq_nil_of_length_eq_zero (by omega)
    subst this; simp [absAll]
  | k + 1, m, s, p, q, h => by
    rw [show k + 1 + m = (k + m) + 1 by omega]
    simp only [absAll]
    rw [List.take_append_of_le_length (by omega), List.drop_append_of_le_length (by omega)]
    exact absAll_app k m _ _ _ (by simp; omega)
theorem absAll_cut : ∀ (k : Nat) (s : S8) (p q : List UInt8), p.length = 64 * k → absAll k s (p ++ q) = absAll k s p
  | 0, s, p, q, _ => rfl
  | k + 1, s, p, q, h => by
    simp only [absAll]
    rw [List.take_append_of_le_length (by omega), List.drop_append_of_le_length (by omega)]
    exact absAll_cut k _ _ _ (by simp; omega)
end Go.Abs.D2
-- D2A
namespace Go.Abs.D2
open Go Go.Eng Go.Abs Go.Proofs 
theorem node_ok (htag : ∀ (t b : List UInt8), t.length ≤ 1048576 → b.length ≤ 1048576 → Con Tryd.prog 40 [.s t, .fz b.length (b.map u8)] (Ret (.ag ((tagged t b).map u8)))) (a b : List UInt8) (ha : a.length = 32) (hb : b.length = 32) : Con Tryd.prog 66 [.ag (a.map u8), .ag (b.map u8)] (Ret (.ag ((tagged [110, 111, 100, 101] (a ++ b)).map u8))) := by
 refine enter Tryd.func66 rfl Tryd.ntmps66 (by kernel_rfl) (Nat.le_of_ble_eq_true rfl) fun w0 X0 hI => ?_
 refine at_seq <| at_region ?_
 refine at_op rfl (n_boxA 2 rfl rfl rfl ?_)
 refine at_op rfl (n_boxA 3 rfl rfl rfl ?_)
 refine at_op rfl (n_alloc 4 rfl ti23 rfl rfl ?_)
 refine at_nil <| x_tn <| at_seq ?_
 refine at_fs ⟨_, [], []⟩ 6 4 hmix (le_refl rfl) ?_
 refine fs_make 5 0 [] 0 64 gy0 Tryd.underlying65 ti5 rfl rfl rfl rfl rfl (by first | omega | (simp only [maxLen]; omega) | (simp [maxLen]; done) | (simp [maxLen]; omega) | (simp [maxLen, *]; omega)) (by first | omega | (simp only [maxLen]; omega) | (simp [maxLen]; done) | (simp [maxLen]; omega) | (simp [maxLen, *]; omega)) (by first | omega | (simp only [maxLen]; omega) | (simp [maxLen]; done) | (simp [maxLen]; omega) | (simp [maxLen, *]; omega)) rfl rfl ?_
 refine fs_q 1 [] [(2, none)] (y_cuta0 Tryd.underlying23 ti5 rfl rfl (by first | rfl | omega | (simp <;> omega) | (simp [*] <;> omega) | (simp [D32.len, -List.length_flatten, *] <;> omega)) (by simp [maxLen])) rfl rfl ?_
 refine fs_app 7 2 [0, 1] [(2, none), (5, some 0)] gy0 Tryd.underlying65 ti5 rfl (.sl rfl (by first | rfl | omega | (simp <;> omega) | (simp [*] <;> omega) | (simp [D32.len, -List.length_flatten, *] <;> omega))) rfl (SM_full rfl (by first | rfl | omega | (simp <;> omega) | (simp [*] <;> omega) | (simp [D32.len, -List.length_flatten, *] <;> omega))) (by first | rfl | omega | (simp <;> omega) | (simp [*] <;> omega) | (simp [D32.len, -List.length_flatten, *] <;> omega)) (by first | omega | (simp only [maxLen]; omega) | (simp [maxLen]; done) | (simp [maxLen]; omega) | (simp [maxLen, *]; omega)) (by first | omega | (simp only [maxLen]; omega) | (simp [maxLen]; done) | (simp [maxLen]; omega) | (simp [maxLen, *]; omega)) rfl rfl rfl rfl ?_
 refine fs_q 3 [] [(3, none)] (y_cuta0 Tryd.underlying23 ti5 rfl rfl (by first | rfl | omega | (simp <;> omega) | (simp [*] <;> omega) | (simp [D32.len, -List.length_flatten, *] <;> omega)) (by simp [maxLen])) rfl rfl ?_
 refine fs_app 9 4 [2, 3] [(3, none), (7, some 2)] gy0 Tryd.underlying65 ti5 rfl (.sl rfl (by first | rfl | omega | (simp <;> omega) | (simp [*] <;> omega) | (simp [D32.len, -List.length_flatten, *] <;> omega))) rfl (SM_full rfl (by first | rfl | omega | (simp <;> omega) | (simp [*] <;> omega) | (simp [D32.len, -List.length_flatten, *] <;> omega))) (by first | rfl | omega | (simp <;> omega) | (simp [*] <;> omega) | (simp [D32.len, -List.length_flatten, *] <;> omega)) (by first | omega | (simp only [maxLen]; omega) | (simp [maxLen]; done) | (simp [maxLen]; omega) | (simp [maxLen, *]; omega)) (by first | omega | (simp only [maxLen]; omega) | (simp [maxLen]; done) | (simp [maxLen]; omega) | (simp [maxLen, *]; omega)) rfl rfl rfl rfl ?_
 refine fs_call true 5 [4] [(9, some 4)] gy0 rfl (.cons (.pure pu) (.cons (.sl rfl rfl (by first | rfl | omega | (simp <;> omega) | (simp [*] <;> omega) | (simp [D32.len, -List.length_flatten, *] <;> omega)) (view_eq (by first | rfl | omega | (simp <;> omega) | (simp [*] <;> omega) | (simp [D32.len, -List.length_flatten, *] <;> omega)) (by first | rfl | (simp; done) | (simp [*]; done))) (VwL.pure pul) pul) (.nil))) (htag _ (a ++ b) (by simp) (by simp; omega)) pu (.inr fu) rfl rfl ?_
 refine fs_end (by kernel_rfl) ?_
 refine at_op rfl (n_storeA ti23 rfl rfl rfl (by first | rfl | omega | (simp <;> omega) | (simp [*] <;> omega) | (simp [D32.len, -List.length_flatten, *] <;> omega)) (by first | rfl | omega | (simp <;> omega) | (simp [*] <;> omega) | (simp [D32.len, -List.length_flatten, *] <;> omega)) ?_)
 refine at_nil <| x_tn <| at_ret ?_
 refine at_result (rs := [.cell 4 23]) rfl (r_cellA ti23 rfl rfl (List.take_of_length_le (by simp)) (by simp) r_nil) rfl
end Go.Abs.D2
-- D2B
namespace Go.Abs.D2
open Go Go.Eng Go.Abs Go.Proofs 
theorem rot2 (x : BitVec 32) : Con Tryd.prog 97 [w32 x, .i .i64 (-2)] (Ret (w32 (rotr x 2))) := by
 refine enter Tryd.func97 rfl Tryd.ntmps97 (by kernel_rfl) (Nat.le_of_ble_eq_true rfl) fun w0 X0 hI => ?_
 refine at_seq <| at_region <| s1 ((y_p rfl).v (v' := .i .u32 0) rfl) rfl ?_
 refine at_nil <| x_tn <| at_seq <| at_region <| s1 (y_p rfl) rfl <| s1 ((y_conv Tryd.underlying3 Tryd.underlying93 rfl).v (v' := w64 (c64 18446744073709551614)) (congrArg (A.i .u64) (by decide))) rfl <| s1 ((and64 _ (c64 31) rfl rfl).v (v' := w64 (c64 30)) (congrArg w64 (by decide))) rfl <| s1 (y_p rfl) rfl ?_
 refine at_nil <| x_tn <| at_seq <| at_region <| s1 (y_p rfl) rfl <| s1 (y_p rfl) rfl <| s1 (shl32 _ 30 rfl rfl rfl (by decide)) rfl <| s1 (y_p rfl) rfl <| s1 (y_p rfl) rfl <| s1 ((sub64 (c64 32) (c64 30) rfl rfl (by decide)).v (v' := w64 (c64 2)) (congrArg w64 (by decide))) rfl <| s1 (shr32 _ 2 rfl rfl rfl (by decide)) rfl <| s1 ((or32 _ _ rfl rfl).v (congrArg w32 (rotl_rotr x 2))) rfl <| s1 (y_p rfl) rfl ?_
 refine at_nil <| x_tn <| at_ret ?_
 refine at_result (rs := [.tmp 4]) rfl (r_tmp rfl (r_nil)) rfl
theorem rot6 (x : BitVec 32) : Con Tryd.prog 97 [w32 x, .i .i64 (-6)] (Ret (w32 (rotr x 6))) := by
 refine enter Tryd.func97 rfl Tryd.ntmps97 (by kernel_rfl) (Nat.le_of_ble_eq_true rfl) fun w0 X0 hI => ?_
 refine at_seq <| at_region <| s1 ((y_p rfl).v (v' := .i .u32 0) rfl) rfl ?_
 refine at_nil <| x_tn <| at_seq <| at_region <| s1 (y_p rfl) rfl <| s1 ((y_conv Tryd.underlying3 Tryd.underlying93 rfl).v (v' := w64 (c64 18446744073709551610)) (congrArg (A.i .u64) (by decide))) rfl <| s1 ((and64 _ (c64 31) rfl rfl).v (v' := w64 (c64 26)) (congrArg w64 (by decide))) rfl <| s1 (y_p rfl) rfl ?_
 refine at_nil <| x_tn <| at_seq <| at_region <| s1 (y_p rfl) rfl <| s1 (y_p rfl) rfl <| s1 (shl32 _ 26 rfl rfl rfl (by decide)) rfl <| s1 (y_p rfl) rfl <| s1 (y_p rfl) rfl <| s1 ((sub64 (c64 32) (c64 26) rfl rfl (by decide)).v (v' := w64 (c64 6)) (congrArg w64 (by decide))) rfl <| s1 (shr32 _ 6 rfl rfl rfl (by decide)) rfl <| s1 ((or32 _ _ rfl rfl).v (congrArg w32 (rotl_rotr x 6))) rfl <| s1 (y_p rfl) rfl ?_
 refine at_nil <| x_tn <| at_ret ?_
 refine at_result (rs := [.tmp 4]) rfl (r_tmp rfl (r_nil)) rfl
theorem rot7 (x : BitVec 32) : Con Tryd.prog 97 [w32 x, .i .i64 (-7)] (Ret (w32 (rotr x 7))) := by
 refine enter Tryd.func97 rfl Tryd.ntmps97 (by kernel_rfl) (Nat.le_of_ble_eq_true rfl) fun w0 X0 hI => ?_
 refine at_seq <| at_region <| s1 ((y_p rfl).v (v' := .i .u32 0) rfl) rfl ?_
 refine at_nil <| x_tn <| at_seq <| at_region <| s1 (y_p rfl) rfl <| s1 ((y_conv Tryd.underlying3 Tryd.underlying93 rfl).v (v' := w64 (c64 18446744073709551609)) (congrArg (A.i .u64) (by decide))) rfl <| s1 ((and64 _ (c64 31) rfl rfl).v (v' := w64 (c64 25)) (congrArg w64 (by decide))) rfl <| s1 (y_p rfl) rfl ?_
 refine at_nil <| x_tn <| at_seq <| at_region <| s1 (y_p rfl) rfl <| s1 (y_p rfl) rfl <| s1 (shl32 _ 25 rfl rfl rfl (by decide)) rfl <| s1 (y_p rfl) rfl <| s1 (y_p rfl) rfl <| s1 ((sub64 (c64 32) (c64 25) rfl rfl (by decide)).v (v' := w64 (c64 7)) (congrArg w64 (by decide))) rfl <| s1 (shr32 _ 7 rfl rfl rfl (by decide)) rfl <| s1 ((or32 _ _ rfl rfl).v (congrArg w32 (rotl_rotr x 7))) rfl <| s1 (y_p rfl) rfl ?_
 refine at_nil <| x_tn <| at_ret ?_
 refine at_result (rs := [.tmp 4]) rfl (r_tmp rfl (r_nil)) rfl
theorem rot11 (x : BitVec 32) : Con Tryd.prog 97 [w32 x, .i .i64 (-11)] (Ret (w32 (rotr x 11))) := by
 refine enter Tryd.func97 rfl Tryd.ntmps97 (by kernel_rfl) (Nat.le_of_ble_eq_true rfl) fun w0 X0 hI => ?_
 refine at_seq <| at_region <| s1 ((y_p rfl).v (v' := .i .u32 0) rfl) rfl ?_
 refine at_nil <| x_tn <| at_seq <| at_region <| s1 (y_p rfl) rfl <| s1 ((y_conv Tryd.underlying3 Tryd.underlying93 rfl).v (v' := w64 (c64 18446744073709551605)) (congrArg (A.i .u64) (by decide))) rfl <| s1 ((and64 _ (c64 31) rfl rfl).v (v' := w64 (c64 21)) (congrArg w64 (by decide))) rfl <| s1 (y_p rfl) rfl ?_
 refine at_nil <| x_tn <| at_seq <| at_region <| s1 (y_p rfl) rfl <| s1 (y_p rfl) rfl <| s1 (shl32 _ 21 rfl rfl rfl (by decide)) rfl <| s1 (y_p rfl) rfl <| s1 (y_p rfl) rfl <| s1 ((sub64 (c64 32) (c64 21) rfl rfl (by decide)).v (v' := w64 (c64 11)) (congrArg w64 (by decide))) rfl <| s1 (shr32 _ 11 rfl rfl rfl (by decide)) rfl <| s1 ((or32 _ _ rfl rfl).v (congrArg w32 (rotl_rotr x 11))) rfl <| s1 (y_p rfl) rfl ?_
 refine at_nil <| x_tn <| at_ret ?_
 refine at_result (rs := [.tmp 4]) rfl (r_tmp rfl (r_nil)) rfl
theorem rot13 (x : BitVec 32) : Con Tryd.prog 97 [w32 x, .i .i64 (-13)] (Ret (w32 (rotr x 13))) := by
 refine enter Tryd.func97 rfl Tryd.ntmps97 (by kernel_rfl) (Nat.le_of_ble_eq_true rfl) fun w0 X0 hI => ?_
 refine at_seq <| at_region <| s1 ((y_p rfl).v (v' := .i .u32 0) rfl) rfl ?_
 refine at_nil <| x_tn <| at_seq <| at_region <| s1 (y_p rfl) rfl <| s1 ((y_conv Tryd.underlying3 Tryd.underlying93 rfl).v (v' := w64 (c64 18446744073709551603)) (congrArg (A.i .u64) (by decide))) rfl <| s1 ((and64 _ (c64 31) rfl rfl).v (v' := w64 (c64 19)) (congrArg w64 (by decide))) rfl <| s1 (y_p rfl) rfl ?_
 refine at_nil <| x_tn <| at_seq <| at_region <| s1 (y_p rfl) rfl <| s1 (y_p rfl) rfl <| s1 (shl32 _ 19 rfl rfl rfl (by decide)) rfl <| s1 (y_p rfl) rfl <| s1 (y_p rfl) rfl <| s1 ((sub64 (c64 32) (c64 19) rfl rfl (by decide)).v (v' := w64 (c64 13)) (congrArg w64 (by decide))) rfl <| s1 (shr32 _ 13 rfl rfl rfl (by decide)) rfl <| s1 ((or32 _ _ rfl rfl).v (congrArg w32 (rotl_rotr x 13))) rfl <| s1 (y_p rfl) rfl ?_
 refine at_nil <| x_tn <| at_ret ?_
 refine at_result (rs := [.tmp 4]) rfl (r_tmp rfl (r_nil)) rfl
theorem rot17 (x : BitVec 32) : Con Tryd.prog 97 [w32 x, .i .i64 (-17)] (Ret (w32 (rotr x 17))) := by
 refine enter Tryd.func97 rfl Tryd.ntmps97 (by kernel_rfl) (Nat.le_of_ble_eq_true rfl) fun w0 X0 hI => ?_
 refine at_seq <| at_region <| s1 ((y_p rfl).v (v' := .i .u32 0) rfl) rfl ?_
 refine at_nil <| x_tn <| at_seq <| at_region <| s1 (y_p rfl) rfl <| s1 ((y_conv Tryd.underlying3 Tryd.underlying93 rfl).v (v' := w64 (c64 18446744073709551599)) (congrArg (A.i .u64) (by decide))) rfl <| s1 ((and64 _ (c64 31) rfl rfl).v (v' := w64 (c64 15)) (congrArg w64 (by decide))) rfl <| s1 (y_p rfl) rfl ?_
 refine at_nil <| x_tn <| at_seq <| at_region <| s1 (y_p rfl) rfl <| s1 (y_p rfl) rfl <| s1 (shl32 _ 15 rfl rfl rfl (by decide)) rfl <| s1 (y_p rfl) rfl <| s1 (y_p rfl) rfl <| s1 ((sub64 (c64 32) (c64 15) rfl rfl (by decide)).v (v' := w64 (c64 17)) (congrArg w64 (by decide))) rfl <| s1 (shr32 _ 17 rfl rfl rfl (by decide)) rfl <| s1 ((or32 _ _ rfl rfl).v (congrArg w32 (rotl_rotr x 17))) rfl <| s1 (y_p rfl) rfl ?_
 refine at_nil <| x_tn <| at_ret ?_
 refine at_result (rs := [.tmp 4]) rfl (r_tmp rfl (r_nil)) rfl
theorem rot18 (x : BitVec 32) : Con Tryd.prog 97 [w32 x, .i .i64 (-18)] (Ret (w32 (rotr x 18))) := by
 refine enter Tryd.func97 rfl Tryd.ntmps97 (by kernel_rfl) (Nat.le_of_ble_eq_true rfl) fun w0 X0 hI => ?_
 refine at_seq <| at_region <| s1 ((y_p rfl).v (v' := .i .u32 0) rfl) rfl ?_
 refine at_nil <| x_tn <| at_seq <| at_region <| s1 (y_p rfl) rfl <| s1 ((y_conv Tryd.underlying3 Tryd.underlying93 rfl).v (v' := w64 (c64 18446744073709551598)) (congrArg (A.i .u64) (by decide))) rfl <| s1 ((and64 _ (c64 31) rfl rfl).v (v' := w64 (c64 14)) (congrArg w64 (by decide))) rfl <| s1 (y_p rfl) rfl ?_
 refine at_nil <| x_tn <| at_seq <| at_region <| s1 (y_p rfl) rfl <| s1 (y_p rfl) rfl <| s1 (shl32 _ 14 rfl rfl rfl (by decide)) rfl <| s1 (y_p rfl) rfl <| s1 (y_p rfl) rfl <| s1 ((sub64 (c64 32) (c64 14) rfl rfl (by decide)).v (v' := w64 (c64 18)) (congrArg w64 (by decide))) rfl <| s1 (shr32 _ 18 rfl rfl rfl (by decide)) rfl <| s1 ((or32 _ _ rfl rfl).v (congrArg w32 (rotl_rotr x 18))) rfl <| s1 (y_p rfl) rfl ?_
 refine at_nil <| x_tn <| at_ret ?_
 refine at_result (rs := [.tmp 4]) rfl (r_tmp rfl (r_nil)) rfl
theorem rot19 (x : BitVec 32) : Con Tryd.prog 97 [w32 x, .i .i64 (-19)] (Ret (w32 (rotr x 19))) := by
 refine enter Tryd.func97 rfl Tryd.ntmps97 (by kernel_rfl) (Nat.le_of_ble_eq_true rfl) fun w0 X0 hI => ?_
 refine at_seq <| at_region <| s1 ((y_p rfl).v (v' := .i .u32 0) rfl) rfl ?_
 refine at_nil <| x_tn <| at_seq <| at_region <| s1 (y_p rfl) rfl <| s1 ((y_conv Tryd.underlying3 Tryd.underlying93 rfl).v (v' := w64 (c64 18446744073709551597)) (congrArg (A.i .u64) (by decide))) rfl <| s1 ((and64 _ (c64 31) rfl rfl).v (v' := w64 (c64 13)) (congrArg w64 (by decide))) rfl <| s1 (y_p rfl) rfl ?_
 refine at_nil <| x_tn <| at_seq <| at_region <| s1 (y_p rfl) rfl <| s1 (y_p rfl) rfl <| s1 (shl32 _ 13 rfl rfl rfl (by decide)) rfl <| s1 (y_p rfl) rfl <| s1 (y_p rfl) rfl <| s1 ((sub64 (c64 32) (c64 13) rfl rfl (by decide)).v (v' := w64 (c64 19)) (congrArg w64 (by decide))) rfl <| s1 (shr32 _ 19 rfl rfl rfl (by decide)) rfl <| s1 ((or32 _ _ rfl rfl).v (congrArg w32 (rotl_rotr x 19))) rfl <| s1 (y_p rfl) rfl ?_
 refine at_nil <| x_tn <| at_ret ?_
 refine at_result (rs := [.tmp 4]) rfl (r_tmp rfl (r_nil)) rfl
theorem rot22 (x : BitVec 32) : Con Tryd.prog 97 [w32 x, .i .i64 (-22)] (Ret (w32 (rotr x 22))) := by
 refine enter Tryd.func97 rfl Tryd.ntmps97 (by kernel_rfl) (Nat.le_of_ble_eq_true rfl) fun w0 X0 hI => ?_
 refine at_seq <| at_region <| s1 ((y_p rfl).v (v' := .i .u32 0) rfl) rfl ?_
 refine at_nil <| x_tn <| at_seq <| at_region <| s1 (y_p rfl) rfl <| s1 ((y_conv Tryd.underlying3 Tryd.underlying93 rfl).v (v' := w64 (c64 18446744073709551594)) (congrArg (A.i .u64) (by decide))) rfl <| s1 ((and64 _ (c64 31) rfl rfl).v (v' := w64 (c64 10)) (congrArg w64 (by decide))) rfl <| s1 (y_p rfl) rfl ?_
 refine at_nil <| x_tn <| at_seq <| at_region <| s1 (y_p rfl) rfl <| s1 (y_p rfl) rfl <| s1 (shl32 _ 10 rfl rfl rfl (by decide)) rfl <| s1 (y_p rfl) rfl <| s1 (y_p rfl) rfl <| s1 ((sub64 (c64 32) (c64 10) rfl rfl (by decide)).v (v' := w64 (c64 22)) (congrArg w64 (by decide))) rfl <| s1 (shr32 _ 22 rfl rfl rfl (by decide)) rfl <| s1 ((or32 _ _ rfl rfl).v (congrArg w32 (rotl_rotr x 22))) rfl <| s1 (y_p rfl) rfl ?_
 refine at_nil <| x_tn <| at_ret ?_
 refine at_result (rs := [.tmp 4]) rfl (r_tmp rfl (r_nil)) rfl
theorem rot25 (x : BitVec 32) : Con Tryd.prog 97 [w32 x, .i .i64 (-25)] (Ret (w32 (rotr x 25))) := by
 refine enter Tryd.func97 rfl Tryd.ntmps97 (by kernel_rfl) (Nat.le_of_ble_eq_true rfl) fun w0 X0 hI => ?_
 refine at_seq <| at_region <| s1 ((y_p rfl).v (v' := .i .u32 0) rfl) rfl ?_
 refine at_nil <| x_tn <| at_seq <| at_region <| s1 (y_p rfl) rfl <| s1 ((y_conv Tryd.underlying3 Tryd.underlying93 rfl).v (v' := w64 (c64 18446744073709551591)) (congrArg (A.i .u64) (by decide))) rfl <| s1 ((and64 _ (c64 31) rfl rfl).v (v' := w64 (c64 7)) (congrArg w64 (by decide))) rfl <| s1 (y_p rfl) rfl ?_
 refine at_nil <| x_tn <| at_seq <| at_region <| s1 (y_p rfl) rfl <| s1 (y_p rfl) rfl <| s1 (shl32 _ 7 rfl rfl rfl (by decide)) rfl <| s1 (y_p rfl) rfl <| s1 (y_p rfl) rfl <| s1 ((sub64 (c64 32) (c64 7) rfl rfl (by decide)).v (v' := w64 (c64 25)) (congrArg w64 (by decide))) rfl <| s1 (shr32 _ 25 rfl rfl rfl (by decide)) rfl <| s1 ((or32 _ _ rfl rfl).v (congrArg w32 (rotl_rotr x 25))) rfl <| s1 (y_p rfl) rfl ?_
 refine at_nil <| x_tn <| at_ret ?_
 refine at_result (rs := [.tmp 4]) rfl (r_tmp rfl (r_nil)) rfl
end Go.Abs.D2
-- D2C
namespace Go.Abs.D2
open Go Go.Eng Go.Abs Go.Proofs 
end Go.Abs.D2
