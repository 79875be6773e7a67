/-
  The engine, the plain laws and the walks that the rows need, part 7. Conditions: none.
-/
import Derived.Test.YtahjdbnhgdaejaaDoorM6
import Derived.Test.YtahjdbnhgdaejaaDoorProg
import Derived.KernelRfl

/-! Ty -/
namespace Go.Abs
open Go Go.Eng Go.Proofs
theorem hmix : Tryd.prog.follows .mixedOrders = true := by kernel_rfl
theorem ti3 : TI Tryd.prog 3 1 8 [.int .i64 0] false := TI.of (z := .int .i64 0) (by kernel_rfl) Tryd.underlying3 rfl rfl
theorem ti4 : TI Tryd.prog 4 1 1 [.bool false] false := TI.of (z := .bool false) (by kernel_rfl) Tryd.underlying4 rfl rfl
theorem ti5 : TI Tryd.prog 5 1 1 [.int .u8 0] false := TI.of (z := .int .u8 0) (by kernel_rfl) Tryd.underlying5 rfl rfl
theorem ti23 : TI Tryd.prog 23 32 32 (List.replicate 32 (.int .u8 0)) true := TI.of (z := .agg (List.replicate 32 (.int .u8 0) : List Value).toArray) (by kernel_rfl) Tryd.underlying23 rfl rfl
theorem ti24 : TI Tryd.prog 24 1 8 [.nilFunc] false := TI.of (z := .nilFunc) (by kernel_rfl) Tryd.underlying24 rfl rfl
theorem ti26 : TI Tryd.prog 26 1 24 [.slice none 0 0] false := TI.of (z := .slice none 0 0) (by kernel_rfl) Tryd.underlying26 rfl rfl
theorem ti28 : TI Tryd.prog 28 3 56 [.int .i64 0, .slice none 0 0, .slice none 0 0] true := TI.of (z := .agg ([.int .i64 0, .slice none 0 0, .slice none 0 0] : List Value).toArray) (by kernel_rfl) Tryd.underlying28 rfl rfl
theorem ti64 : TI Tryd.prog 64 36 36 (List.replicate 36 (.int .u8 0)) true := TI.of (z := .agg (List.replicate 36 (.int .u8 0) : List Value).toArray) (by kernel_rfl) Tryd.underlying64 rfl rfl
theorem ti65 : TI Tryd.prog 65 1 24 [.slice none 0 0] false := TI.of (z := .slice none 0 0) (by kernel_rfl) Tryd.underlying65 rfl rfl
theorem ti75 : TI Tryd.prog 75 19 152 (List.replicate 19 (.int .i64 0)) true := TI.of (z := .agg (List.replicate 19 (.int .i64 0) : List Value).toArray) (by kernel_rfl) Tryd.underlying75 rfl rfl
theorem ti82 : TI Tryd.prog 82 608 608 (List.replicate 608 (.int .u8 0)) true := TI.of (z := .agg (List.replicate 608 (.int .u8 0) : List Value).toArray) (by kernel_rfl) Tryd.underlying82 rfl rfl
theorem ti102 : TI Tryd.prog 102 1 4 [.int .u32 0] false := TI.of (z := .int .u32 0) (by kernel_rfl) Tryd.underlying102 rfl rfl
theorem ti103 : TI Tryd.prog 103 8 32 [.int .u32 0, .int .u32 0, .int .u32 0, .int .u32 0, .int .u32 0, .int .u32 0, .int .u32 0, .int .u32 0] true := TI.of (z := .agg ([.int .u32 0, .int .u32 0, .int .u32 0, .int .u32 0, .int .u32 0, .int .u32 0, .int .u32 0, .int .u32 0] : List Value).toArray) (by kernel_rfl) Tryd.underlying103 rfl rfl
theorem ti104 : TI Tryd.prog 104 8 32 [.int .u32 0, .int .u32 0, .int .u32 0, .int .u32 0, .int .u32 0, .int .u32 0, .int .u32 0, .int .u32 0] true := TI.of (z := .agg ([.int .u32 0, .int .u32 0, .int .u32 0, .int .u32 0, .int .u32 0, .int .u32 0, .int .u32 0, .int .u32 0] : List Value).toArray) (by kernel_rfl) Tryd.underlying104 rfl rfl
theorem ti115 : TI Tryd.prog 115 64 64 (List.replicate 64 (.int .u8 0)) true := TI.of (z := .agg (List.replicate 64 (.int .u8 0) : List Value).toArray) (by kernel_rfl) Tryd.underlying115 rfl rfl
theorem ti117 : TI Tryd.prog 117 64 256 (List.replicate 64 (.int .u32 0)) true := TI.of (z := .agg (List.replicate 64 (.int .u32 0) : List Value).toArray) (by kernel_rfl) Tryd.underlying117 rfl rfl
end Go.Abs

/-! D2P -/
namespace Go.Abs.D2
open Go Go.Abs
def rotr (x : BitVec 32) (n : Nat) : BitVec 32 := x >>> n ||| x <<< (32 - n)
/-- Eight words. -/
structure S8 where
  a : BitVec 32
  b : BitVec 32
  c : BitVec 32
  d : BitVec 32
  e : BitVec 32
  f : BitVec 32
  g : BitVec 32
  h : BitVec 32
def S8.l (s : S8) : List (BitVec 32) := [s.a, s.b, s.c, s.d, s.e, s.f, s.g, s.h]
def S8.add (s t : S8) : S8 := ⟨s.a + t.a, s.b + t.b, s.c + t.c, s.d + t.d, s.e + t.e, s.f + t.f, s.g + t.g, s.h + t.h⟩
/-- One round: the word of the table, the word of the block. -/
def rnd (k w : BitVec 32) (s : S8) : S8 :=
  let p := s.h + (rotr s.e 6 ^^^ rotr s.e 11 ^^^ rotr s.e 25) + ((s.e &&& s.f) ^^^ (~~~s.e &&& s.g)) + k + w
  let q := (rotr s.a 2 ^^^ rotr s.a 13 ^^^ rotr s.a 22) + ((s.a &&& s.b) ^^^ (s.a &&& s.c) ^^^ (s.b &&& s.c))
  ⟨p + q, s.a, s.b, s.c, s.d + p, s.e, s.f, s.g⟩
def kNat : List Nat := [0x428a2f98, 0x71374491, 0xb5c0fbcf, 0xe9b5dba5, 0x3956c25b, 0x59f111f1, 0x923f82a4, 0xab1c5ed5,
  0xd807aa98, 0x12835b01, 0x243185be, 0x550c7dc3, 0x72be5d74, 0x80deb1fe, 0x9bdc06a7, 0xc19bf174,
  0xe49b69c1, 0xefbe4786, 0x0fc19dc6, 0x240ca1cc, 0x2de92c6f, 0x4a7484aa, 0x5cb0a9dc, 0x76f988da,
  0x983e5152, 0xa831c66d, 0xb00327c8, 0xbf597fc7, 0xc6e00bf3, 0xd5a79147, 0x06ca6351, 0x14292967,
  0x27b70a85, 0x2e1b2138, 0x4d2c6dfc, 0x53380d13, 0x650a7354, 0x766a0abb, 0x81c2c92e, 0x92722c85,
  0xa2bfe8a1, 0xa81a664b, 0xc24b8b70, 0xc76c51a3, 0xd192e819, 0xd6990624, 0xf40e3585, 0x106aa070,
  0x19a4c116, 0x1e376c08, 0x2748774c, 0x34b0bcb5, 0x391c0cb3, 0x4ed8aa4a, 0x5b9cca4f, 0x682e6ff3,
  0x748f82ee, 0x78a5636f, 0x84c87814, 0x8cc70208, 0x90befffa, 0xa4506ceb, 0xbef9a3f7, 0xc67178f2]
@[irreducible] def kTab : List (BitVec 32) := kNat.map (BitVec.ofNat 32)
/-- The word of four bytes. -/
def word (b : List UInt8) (i : Nat) : BitVec 32 :=
  c32 (b.getD i 0).toNat <<< 24 ||| c32 (b.getD (i + 1) 0).toNat <<< 16 ||| c32 (b.getD (i + 2) 0).toNat <<< 8 ||| c32 (b.getD (i + 3) 0).toNat
def words (b : List UInt8) (k : Nat) : List (BitVec 32) := (List.range k).map fun t => word b (4 * t)
def sg0 (x : BitVec 32) : BitVec 32 := rotr x 7 ^^^ rotr x 18 ^^^ x >>> 3
def sg1 (x : BitVec 32) : BitVec 32 := rotr x 17 ^^^ rotr x 19 ^^^ x >>> 10
/-- The next word of the schedule. -/
def nextW (l : List (BitVec 32)) (t : Nat) : BitVec 32 := l.getD (t - 16) 0 + sg0 (l.getD (t - 15) 0) + l.getD (t - 7) 0 + sg1 (l.getD (t - 2) 0)
def schedR (b : List UInt8) : Nat → List (BitVec 32)
  | 0 => words b 16
  | k + 1 => schedR b k ++ [nextW (schedR b k) (16 + k)]
@[irreducible] def sched (b : List UInt8) (k : Nat) : List (BitVec 32) := schedR b k
def rounds (w : List (BitVec 32)) (s : S8) : Nat → S8
  | 0 => s
  | t + 1 => rnd (kTab.getD t 0) (w.getD t 0) (rounds w s t)
/-- The state behind a block of 64 bytes. -/
def comp (s : S8) (b : List UInt8) : S8 := s.add (rounds (sched b 48) s 64)
def absAll : Nat → S8 → List UInt8 → S8
  | 0, s, _ => s
  | k + 1, s, p => absAll k (comp s (p.take 64)) (p.drop 64)
def be64 (n : Nat) : List UInt8 := (List.range 8).map fun i => UInt8.ofNat (n / 2 ^ (8 * (7 - i)))
/-- How many zeros: the length with the end is 56 of 64. -/
def zeros (n : Nat) : Nat := (119 - n % 64) % 64
def pad (b : List UInt8) : List UInt8 := b ++ [0x80] ++ List.replicate (zeros b.length) 0 ++ be64 (8 * b.length)
def h0 : S8 := ⟨0x6a09e667, 0xbb67ae85, 0x3c6ef372, 0xa54ff53a, 0x510e527f, 0x9b05688c, 0x1f83d9ab, 0x5be0cd19⟩
def outB (s : S8) (i : Nat) : UInt8 := UInt8.ofNat ((s.l.getD (i / 4) 0) >>> (24 - 8 * (i % 4))).toNat
def outS (s : S8) (k : Nat) : List UInt8 := (List.range k).map (outB s)
def sha (b : List UInt8) : List UInt8 := outS (absAll ((pad b).length / 64) h0 (pad b)) 32
@[simp] theorem len_sha (l : List UInt8) : (sha l).length = 32 := by simp [sha, outS]
def tagged (t b : List UInt8) : List UInt8 := sha (sha t ++ b)
@[simp] theorem len_tagged (t b : List UInt8) : (tagged t b).length = 32 := len_sha _
@[simp] theorem len_words (b : List UInt8) (k : Nat) : (words b k).length = k := by simp [words]
theorem sched_0 (b : List UInt8) : sched b 0 = words b 16 := by unfold sched; rfl
theorem sched_s (b : List UInt8) (k : Nat) : sched b (k + 1) = sched b k ++ [nextW (sched b k) (16 + k)] := by unfold sched; rfl
@[simp] theorem len_sched (b : List UInt8) : ∀ k, (sched b k).length = 16 + k
  | 0 => by simp [sched_0]
  | k + 1 => by simp [sched_s, len_sched b k]; omega
theorem words_succ (b : List UInt8) (k : Nat) : words b (k + 1) = words b k ++ [word b (4 * k)] := by simp [words, List.range_succ]
@[simp] theorem len_be64 (n : Nat) : (be64 n).length = 8 := by simp [be64]
theorem zeros_spec (n : Nat) : (n + 1 + zeros n) % 64 = 56 ∧ zeros n < 64 := by unfold zeros; omega
theorem len_pad (b : List UInt8) : (pad b).length = b.length + 1 + zeros b.length + 8 := by simp [pad, len_be64]; omega
theorem outS_succ (s : S8) (k : Nat) : outS s (k + 1) = outS s k ++ [outB s k] := by simp [outS, List.range_succ]
@[simp] theorem len_outS (s : S8) (k : Nat) : (outS s k).length = k := by simp [outS]
@[simp] theorem len_l (s : S8) : s.l.length = 8 := rfl
@[simp] theorem len_kTab : kTab.length = 64 := by unfold kTab; decide
theorem set_end {l : List A} {m : Nat} {v z : A} (i : Nat) (hi : i = l.length) (hm : 0 < m) : (l ++ List.replicate m z).set i v = (l ++ [v]) ++ List.replicate (m - 1) z := by
  subst hi
  obtain ⟨m, rfl⟩ : ∃ k, m = k + 1 := ⟨m - 1, by omega⟩
  simp [List.replicate_succ]
theorem set_words (b : List UInt8) (i : Nat) (hi : i < 64) : ((words b i).map w32 ++ List.replicate (64 - i) (w32 0)).set (0 + i * 1) (w32 (word b (4 * i))) = (words b (i + 1)).map w32 ++ List.replicate (64 - (i + 1)) (w32 0) := by
  rw [set_end _ (by simp) (by omega), words_succ]
  simp [Nat.sub_sub]
theorem set_sched (b : List UInt8) (k : Nat) (x : BitVec 32) (hk : k < 48) (hx : x = nextW (sched b k) (16 + k)) : ((sched b k).map w32 ++ List.replicate (48 - k) (w32 0)).set (0 + (16 + k) * 1) (w32 x) = (sched b (k + 1)).map w32 ++ List.replicate (48 - (k + 1)) (w32 0) := by
  subst hx
  rw [set_end _ (by simp) (by omega)]
  simp [sched_s, Nat.sub_sub]
theorem getW {l : List (BitVec 32)} {r cs : List A} (i : Nat) (hi : i < l.length) (hc : cs = (l.map w32 ++ r).drop (0 + i * 1)) : cs[0]? = some (w32 (l.getD i 0)) := by
  subst hc
  rw [List.getElem?_drop, show 0 + i * 1 + 0 = i by omega, List.getElem?_append_left (by simpa using hi), List.getElem?_map, List.getElem?_eq_getElem hi, List.getD_eq_getElem?_getD, List.getElem?_eq_getElem hi]
  rfl
theorem getW1 {l : List (BitVec 32)} {cs : List A} (i : Nat) (hi : i < l.length) (hc : cs = (l.map w32).drop (i * 1)) : cs[0]? = some (w32 (l.getD i 0)) :=
  getW (r := []) i hi (by rw [hc, List.append_nil, Nat.zero_add])
theorem getW2 {l : List (BitVec 32)} {cs : List A} (i : Nat) (hi : i < l.length) (hc : cs = (l.map w32).drop (0 + i * 1)) : cs[0]? = some (w32 (l.getD i 0)) :=
  getW (r := []) i hi (by rw [hc, List.append_nil])
/-- Four bytes, one behind the other, make the word. -/
theorem word_steps (b0 b1 b2 b3 : BitVec 32) : (((((0 : BitVec 32) <<< 8 ||| b0) <<< 8 ||| b1) <<< 8 ||| b2) <<< 8 ||| b3) = b0 <<< 24 ||| b1 <<< 16 ||| b2 <<< 8 ||| b3 := by
  simp only [BitVec.shiftLeft_or_distrib, ← BitVec.shiftLeft_add]
  simp
theorem rotl_rotr (x : BitVec 32) (n : Nat) : x <<< (32 - n) ||| x >>> n = rotr x n := BitVec.or_comm _ _
theorem absAll_snoc : ∀ (k : Nat) (s : S8) (p : List UInt8), absAll (k + 1) s p = comp (absAll k s p) ((p.drop (64 * k)).take 64)
  | 0, s, p => by simp [absAll]
  | k + 1, s, p => by
    have := absAll_snoc k (comp s (p.take 64)) (p.drop 64)
    rw [List.drop_drop, show 64 + 64 * k = 64 * (k + 1) by omega] at this
    exact this
theorem cut_map (p : List UInt8) (n : Nat) : (((p.map u8).drop (n * 1)).take (64 * 1)) = ((p.drop n).take 64).map u8 := by simp [List.map_drop, List.map_take]
theorem set_out (s : S8) (i : Nat) (x : UInt8) (hi : i < 32) (hx : x = outB s i) : ((outS s i).map u8 ++ List.replicate (32 - i) (u8 0)).set (0 + i * 1) (u8 x) = (outS s (i + 1)).map u8 ++ List.replicate (32 - (i + 1)) (u8 0) := by
  subst hx
  rw [set_end _ (by simp) (by omega), outS_succ]
  simp [Nat.sub_sub]
theorem len_pad64 (b : List UInt8) : (pad b).length = 64 * ((pad b).length / 64) := by
  rw [len_pad]
  have := zeros_spec b.length
  omega
/-- The end of the length, from its last bytes on. -/
theorem be64_at (n i : Nat) (h : i < 8) : (be64 n)[i]? = some (UInt8.ofNat (n / 2 ^ (8 * (7 - i)))) := by simp [be64, h]
theorem take_be64 (n k : Nat) (h : k < 8) : (be64 n).take (k + 1) = (be64 n).take k ++ [UInt8.ofNat (n / 2 ^ (8 * (7 - k)))] := by
  rw [List.take_add_one, be64_at n k h]; rfl
theorem take_all {α : Type} {l : List α} {k : Nat} (h : l.length = k) : l.take k = l := List.take_of_length_le (by omega)
theorem be_byte (n k : Nat) (h : n < 18446744073709551616) : UInt8.ofNat ((c64 n) >>> k).toNat = UInt8.ofNat (n / 2 ^ k) := by
  rw [BitVec.toNat_ushiftRight, BitVec.toNat_ofNat, Nat.mod_eq_of_lt (by omega), Nat.shiftRight_eq_div_pow]
theorem absAll_app : ∀ (k m : Nat) (s : S8) (p q : List UInt8), p.length = 64 * k → absAll (k + m) s (p ++ q) = absAll m (absAll k s p) q
  | 0, m, s, p, q, h => by
    have : p = [] := List.eq_nil_of_length_eq_zero (by omega)
    subst this; simp [absAll]
  | k + 1, m, s, p, q, h => by
    rw [show k + 1 + m = (k + m) + 1 by omega]
    simp only [absAll]
    rw [List.take_append_of_le_length (by omega), List.drop_append_of_le_length (by omega)]
    exact absAll_app k m _ _ _ (by simp; omega)
theorem absAll_cut : ∀ (k : Nat) (s : S8) (p q : List UInt8), p.length = 64 * k → absAll k s (p ++ q) = absAll k s p
  | 0, s, p, q, _ => rfl
  | k + 1, s, p, q, h => by
    simp only [absAll]
    rw [List.take_append_of_le_length (by omega), List.drop_append_of_le_length (by omega)]
    exact absAll_cut k _ _ _ (by simp; omega)
end Go.Abs.D2

/-! D2A -/
namespace Go.Abs.D2
open Go Go.Eng Go.Abs Go.Proofs 
set_option linter.unusedSimpArgs false in
set_option linter.unusedVariables false in
set_option maxHeartbeats 1000000 in
set_option maxRecDepth 10000 in
theorem node_ok (htag : ∀ (t b : List UInt8), t.length ≤ 1048576 → b.length ≤ 1048576 → Con Tryd.prog 40 [.s t, .fz b.length (b.map u8)] (Ret (.ag ((tagged t b).map u8)))) (a b : List UInt8) (ha : a.length = 32) (hb : b.length = 32) : Con Tryd.prog 66 [.ag (a.map u8), .ag (b.map u8)] (Ret (.ag ((tagged [110, 111, 100, 101] (a ++ b)).map u8))) := by
  refine enter Tryd.func66 rfl Tryd.ntmps66 (by kernel_rfl) (Nat.le_of_ble_eq_true rfl) fun w0 X0 hI => ?_
  refine at_seq ?_
  refine at_region ?_
  refine at_op rfl (n_boxA 2 rfl rfl rfl ?_)
  refine at_op rfl (n_boxA 3 rfl rfl rfl ?_)
  refine at_op rfl (n_alloc 4 rfl ti23 rfl rfl ?_)
  refine at_nil ?_
  refine x_tn ?_
  refine at_seq ?_
  refine at_fs ⟨_, [], []⟩ 6 4 hmix (le_refl rfl) ?_
  refine fs_make 5 0 [] 0 64 gy0 Tryd.underlying65 ti5 rfl rfl rfl rfl rfl (by first | omega | (simp only [maxLen]; omega) | (simp [maxLen]; done) | (simp [maxLen]; omega) | (simp [maxLen, *]; omega)) (by first | omega | (simp only [maxLen]; omega) | (simp [maxLen]; done) | (simp [maxLen]; omega) | (simp [maxLen, *]; omega)) (by first | omega | (simp only [maxLen]; omega) | (simp [maxLen]; done) | (simp [maxLen]; omega) | (simp [maxLen, *]; omega)) rfl rfl ?_
  refine fs_q 1 [] [(2, none)] (y_cuta0 Tryd.underlying23 ti5 rfl rfl (by first | rfl | omega | (simp; done) | (simp [*]; done) | (simp; omega) | (simp [*]; omega) | (simp [D32.len, -List.length_flatten, *]; done) | (simp [D32.len, -List.length_flatten, *]; omega)) (by simp [maxLen])) rfl rfl ?_
  refine fs_app 7 2 [0, 1] [(2, none), (5, some 0)] gy0 Tryd.underlying65 ti5 rfl (.sl rfl (by first | rfl | omega | (simp; done) | (simp [*]; done) | (simp; omega) | (simp [*]; omega) | (simp [D32.len, -List.length_flatten, *]; done) | (simp [D32.len, -List.length_flatten, *]; omega))) rfl (SM_full rfl (by first | rfl | omega | (simp; done) | (simp [*]; done) | (simp; omega) | (simp [*]; omega) | (simp [D32.len, -List.length_flatten, *]; done) | (simp [D32.len, -List.length_flatten, *]; omega))) (by first | rfl | omega | (simp; done) | (simp [*]; done) | (simp; omega) | (simp [*]; omega) | (simp [D32.len, -List.length_flatten, *]; done) | (simp [D32.len, -List.length_flatten, *]; omega)) (by first | omega | (simp only [maxLen]; omega) | (simp [maxLen]; done) | (simp [maxLen]; omega) | (simp [maxLen, *]; omega)) (by first | omega | (simp only [maxLen]; omega) | (simp [maxLen]; done) | (simp [maxLen]; omega) | (simp [maxLen, *]; omega)) rfl rfl rfl rfl ?_
  refine fs_q 3 [] [(3, none)] (y_cuta0 Tryd.underlying23 ti5 rfl rfl (by first | rfl | omega | (simp; done) | (simp [*]; done) | (simp; omega) | (simp [*]; omega) | (simp [D32.len, -List.length_flatten, *]; done) | (simp [D32.len, -List.length_flatten, *]; omega)) (by simp [maxLen])) rfl rfl ?_
  refine fs_app 9 4 [2, 3] [(3, none), (7, some 2)] gy0 Tryd.underlying65 ti5 rfl (.sl rfl (by first | rfl | omega | (simp; done) | (simp [*]; done) | (simp; omega) | (simp [*]; omega) | (simp [D32.len, -List.length_flatten, *]; done) | (simp [D32.len, -List.length_flatten, *]; omega))) rfl (SM_full rfl (by first | rfl | omega | (simp; done) | (simp [*]; done) | (simp; omega) | (simp [*]; omega) | (simp [D32.len, -List.length_flatten, *]; done) | (simp [D32.len, -List.length_flatten, *]; omega))) (by first | rfl | omega | (simp; done) | (simp [*]; done) | (simp; omega) | (simp [*]; omega) | (simp [D32.len, -List.length_flatten, *]; done) | (simp [D32.len, -List.length_flatten, *]; omega)) (by first | omega | (simp only [maxLen]; omega) | (simp [maxLen]; done) | (simp [maxLen]; omega) | (simp [maxLen, *]; omega)) (by first | omega | (simp only [maxLen]; omega) | (simp [maxLen]; done) | (simp [maxLen]; omega) | (simp [maxLen, *]; omega)) rfl rfl rfl rfl ?_
  refine fs_call true 5 [4] [(9, some 4)] gy0 rfl (.cons (.pure pu) (.cons (.sl rfl rfl (by first | rfl | omega | (simp; done) | (simp [*]; done) | (simp; omega) | (simp [*]; omega) | (simp [D32.len, -List.length_flatten, *]; done) | (simp [D32.len, -List.length_flatten, *]; omega)) (view_eq (by first | rfl | omega | (simp; done) | (simp [*]; done) | (simp; omega) | (simp [*]; omega) | (simp [D32.len, -List.length_flatten, *]; done) | (simp [D32.len, -List.length_flatten, *]; omega)) (by first | rfl | (simp; done) | (simp [*]; done))) (VwL.pure pul) pul) (.nil))) (htag _ (a ++ b) (by simp) (by simp; omega)) pu (.inr fu) rfl rfl ?_
  refine fs_end (by kernel_rfl) ?_
  refine at_op rfl (n_storeA ti23 rfl rfl rfl (by first | rfl | omega | (simp; done) | (simp [*]; done) | (simp; omega) | (simp [*]; omega) | (simp [D32.len, -List.length_flatten, *]; done) | (simp [D32.len, -List.length_flatten, *]; omega)) (by first | rfl | omega | (simp; done) | (simp [*]; done) | (simp; omega) | (simp [*]; omega) | (simp [D32.len, -List.length_flatten, *]; done) | (simp [D32.len, -List.length_flatten, *]; omega)) ?_)
  refine at_nil ?_
  refine x_tn ?_
  refine at_ret ?_
  refine at_result (rs := [.cell 4 23]) rfl (r_cellA ti23 rfl rfl (List.take_of_length_le (by simp)) (by simp) r_nil) rfl
end Go.Abs.D2

/-! D2B -/
namespace Go.Abs.D2
open Go Go.Eng Go.Abs Go.Proofs 
set_option linter.unusedSimpArgs false in
set_option linter.unusedVariables false in
set_option maxHeartbeats 1000000 in
set_option maxRecDepth 10000 in
theorem rot2 (x : BitVec 32) : Con Tryd.prog 97 [w32 x, .i .i64 (-2)] (Ret (w32 (rotr x 2))) := by
  refine enter Tryd.func97 rfl Tryd.ntmps97 (by kernel_rfl) (Nat.le_of_ble_eq_true rfl) fun w0 X0 hI => ?_
  refine at_seq ?_
  refine at_region ?_
  refine s1 ((y_p rfl).v (v' := .i .u32 0) rfl) rfl <| ?_
  refine at_nil ?_
  refine x_tn ?_
  refine at_seq ?_
  refine at_region ?_
  refine s1 (y_p rfl) rfl <| s1 ((y_conv Tryd.underlying3 Tryd.underlying93 rfl).v (v' := w64 (c64 18446744073709551614)) (congrArg (A.i .u64) (by decide))) rfl <| s1 ((and64 _ (c64 31) rfl rfl).v (v' := w64 (c64 30)) (congrArg w64 (by decide))) rfl <| s1 (y_p rfl) rfl <| ?_
  refine at_nil ?_
  refine x_tn ?_
  refine at_seq ?_
  refine at_region ?_
  refine s1 (y_p rfl) rfl <| s1 (y_p rfl) rfl <| s1 (shl32 _ 30 rfl rfl rfl (by decide)) rfl <| s1 (y_p rfl) rfl <| s1 (y_p rfl) rfl <| s1 ((sub64 (c64 32) (c64 30) rfl rfl (by decide)).v (v' := w64 (c64 2)) (congrArg w64 (by decide))) rfl <| s1 (shr32 _ 2 rfl rfl rfl (by decide)) rfl <| s1 ((or32 _ _ rfl rfl).v (congrArg w32 (rotl_rotr x 2))) rfl <| s1 (y_p rfl) rfl <| ?_
  refine at_nil ?_
  refine x_tn ?_
  refine at_ret ?_
  refine at_result (rs := [.tmp 4]) rfl (r_tmp rfl (r_nil)) rfl
set_option linter.unusedSimpArgs false in
set_option linter.unusedVariables false in
set_option maxHeartbeats 1000000 in
set_option maxRecDepth 10000 in
theorem rot6 (x : BitVec 32) : Con Tryd.prog 97 [w32 x, .i .i64 (-6)] (Ret (w32 (rotr x 6))) := by
  refine enter Tryd.func97 rfl Tryd.ntmps97 (by kernel_rfl) (Nat.le_of_ble_eq_true rfl) fun w0 X0 hI => ?_
  refine at_seq ?_
  refine at_region ?_
  refine s1 ((y_p rfl).v (v' := .i .u32 0) rfl) rfl <| ?_
  refine at_nil ?_
  refine x_tn ?_
  refine at_seq ?_
  refine at_region ?_
  refine s1 (y_p rfl) rfl <| s1 ((y_conv Tryd.underlying3 Tryd.underlying93 rfl).v (v' := w64 (c64 18446744073709551610)) (congrArg (A.i .u64) (by decide))) rfl <| s1 ((and64 _ (c64 31) rfl rfl).v (v' := w64 (c64 26)) (congrArg w64 (by decide))) rfl <| s1 (y_p rfl) rfl <| ?_
  refine at_nil ?_
  refine x_tn ?_
  refine at_seq ?_
  refine at_region ?_
  refine s1 (y_p rfl) rfl <| s1 (y_p rfl) rfl <| s1 (shl32 _ 26 rfl rfl rfl (by decide)) rfl <| s1 (y_p rfl) rfl <| s1 (y_p rfl) rfl <| s1 ((sub64 (c64 32) (c64 26) rfl rfl (by decide)).v (v' := w64 (c64 6)) (congrArg w64 (by decide))) rfl <| s1 (shr32 _ 6 rfl rfl rfl (by decide)) rfl <| s1 ((or32 _ _ rfl rfl).v (congrArg w32 (rotl_rotr x 6))) rfl <| s1 (y_p rfl) rfl <| ?_
  refine at_nil ?_
  refine x_tn ?_
  refine at_ret ?_
  refine at_result (rs := [.tmp 4]) rfl (r_tmp rfl (r_nil)) rfl
set_option linter.unusedSimpArgs false in
set_option linter.unusedVariables false in
set_option maxHeartbeats 1000000 in
set_option maxRecDepth 10000 in
theorem rot7 (x : BitVec 32) : Con Tryd.prog 97 [w32 x, .i .i64 (-7)] (Ret (w32 (rotr x 7))) := by
  refine enter Tryd.func97 rfl Tryd.ntmps97 (by kernel_rfl) (Nat.le_of_ble_eq_true rfl) fun w0 X0 hI => ?_
  refine at_seq ?_
  refine at_region ?_
  refine s1 ((y_p rfl).v (v' := .i .u32 0) rfl) rfl <| ?_
  refine at_nil ?_
  refine x_tn ?_
  refine at_seq ?_
  refine at_region ?_
  refine s1 (y_p rfl) rfl <| s1 ((y_conv Tryd.underlying3 Tryd.underlying93 rfl).v (v' := w64 (c64 18446744073709551609)) (congrArg (A.i .u64) (by decide))) rfl <| s1 ((and64 _ (c64 31) rfl rfl).v (v' := w64 (c64 25)) (congrArg w64 (by decide))) rfl <| s1 (y_p rfl) rfl <| ?_
  refine at_nil ?_
  refine x_tn ?_
  refine at_seq ?_
  refine at_region ?_
  refine s1 (y_p rfl) rfl <| s1 (y_p rfl) rfl <| s1 (shl32 _ 25 rfl rfl rfl (by decide)) rfl <| s1 (y_p rfl) rfl <| s1 (y_p rfl) rfl <| s1 ((sub64 (c64 32) (c64 25) rfl rfl (by decide)).v (v' := w64 (c64 7)) (congrArg w64 (by decide))) rfl <| s1 (shr32 _ 7 rfl rfl rfl (by decide)) rfl <| s1 ((or32 _ _ rfl rfl).v (congrArg w32 (rotl_rotr x 7))) rfl <| s1 (y_p rfl) rfl <| ?_
  refine at_nil ?_
  refine x_tn ?_
  refine at_ret ?_
  refine at_result (rs := [.tmp 4]) rfl (r_tmp rfl (r_nil)) rfl
set_option linter.unusedSimpArgs false in
set_option linter.unusedVariables false in
set_option maxHeartbeats 1000000 in
set_option maxRecDepth 10000 in
theorem rot11 (x : BitVec 32) : Con Tryd.prog 97 [w32 x, .i .i64 (-11)] (Ret (w32 (rotr x 11))) := by
  refine enter Tryd.func97 rfl Tryd.ntmps97 (by kernel_rfl) (Nat.le_of_ble_eq_true rfl) fun w0 X0 hI => ?_
  refine at_seq ?_
  refine at_region ?_
  refine s1 ((y_p rfl).v (v' := .i .u32 0) rfl) rfl <| ?_
  refine at_nil ?_
  refine x_tn ?_
  refine at_seq ?_
  refine at_region ?_
  refine s1 (y_p rfl) rfl <| s1 ((y_conv Tryd.underlying3 Tryd.underlying93 rfl).v (v' := w64 (c64 18446744073709551605)) (congrArg (A.i .u64) (by decide))) rfl <| s1 ((and64 _ (c64 31) rfl rfl).v (v' := w64 (c64 21)) (congrArg w64 (by decide))) rfl <| s1 (y_p rfl) rfl <| ?_
  refine at_nil ?_
  refine x_tn ?_
  refine at_seq ?_
  refine at_region ?_
  refine s1 (y_p rfl) rfl <| s1 (y_p rfl) rfl <| s1 (shl32 _ 21 rfl rfl rfl (by decide)) rfl <| s1 (y_p rfl) rfl <| s1 (y_p rfl) rfl <| s1 ((sub64 (c64 32) (c64 21) rfl rfl (by decide)).v (v' := w64 (c64 11)) (congrArg w64 (by decide))) rfl <| s1 (shr32 _ 11 rfl rfl rfl (by decide)) rfl <| s1 ((or32 _ _ rfl rfl).v (congrArg w32 (rotl_rotr x 11))) rfl <| s1 (y_p rfl) rfl <| ?_
  refine at_nil ?_
  refine x_tn ?_
  refine at_ret ?_
  refine at_result (rs := [.tmp 4]) rfl (r_tmp rfl (r_nil)) rfl
set_option linter.unusedSimpArgs false in
set_option linter.unusedVariables false in
set_option maxHeartbeats 1000000 in
set_option maxRecDepth 10000 in
theorem rot13 (x : BitVec 32) : Con Tryd.prog 97 [w32 x, .i .i64 (-13)] (Ret (w32 (rotr x 13))) := by
  refine enter Tryd.func97 rfl Tryd.ntmps97 (by kernel_rfl) (Nat.le_of_ble_eq_true rfl) fun w0 X0 hI => ?_
  refine at_seq ?_
  refine at_region ?_
  refine s1 ((y_p rfl).v (v' := .i .u32 0) rfl) rfl <| ?_
  refine at_nil ?_
  refine x_tn ?_
  refine at_seq ?_
  refine at_region ?_
  refine s1 (y_p rfl) rfl <| s1 ((y_conv Tryd.underlying3 Tryd.underlying93 rfl).v (v' := w64 (c64 18446744073709551603)) (congrArg (A.i .u64) (by decide))) rfl <| s1 ((and64 _ (c64 31) rfl rfl).v (v' := w64 (c64 19)) (congrArg w64 (by decide))) rfl <| s1 (y_p rfl) rfl <| ?_
  refine at_nil ?_
  refine x_tn ?_
  refine at_seq ?_
  refine at_region ?_
  refine s1 (y_p rfl) rfl <| s1 (y_p rfl) rfl <| s1 (shl32 _ 19 rfl rfl rfl (by decide)) rfl <| s1 (y_p rfl) rfl <| s1 (y_p rfl) rfl <| s1 ((sub64 (c64 32) (c64 19) rfl rfl (by decide)).v (v' := w64 (c64 13)) (congrArg w64 (by decide))) rfl <| s1 (shr32 _ 13 rfl rfl rfl (by decide)) rfl <| s1 ((or32 _ _ rfl rfl).v (congrArg w32 (rotl_rotr x 13))) rfl <| s1 (y_p rfl) rfl <| ?_
  refine at_nil ?_
  refine x_tn ?_
  refine at_ret ?_
  refine at_result (rs := [.tmp 4]) rfl (r_tmp rfl (r_nil)) rfl
set_option linter.unusedSimpArgs false in
set_option linter.unusedVariables false in
set_option maxHeartbeats 1000000 in
set_option maxRecDepth 10000 in
theorem rot17 (x : BitVec 32) : Con Tryd.prog 97 [w32 x, .i .i64 (-17)] (Ret (w32 (rotr x 17))) := by
  refine enter Tryd.func97 rfl Tryd.ntmps97 (by kernel_rfl) (Nat.le_of_ble_eq_true rfl) fun w0 X0 hI => ?_
  refine at_seq ?_
  refine at_region ?_
  refine s1 ((y_p rfl).v (v' := .i .u32 0) rfl) rfl <| ?_
  refine at_nil ?_
  refine x_tn ?_
  refine at_seq ?_
  refine at_region ?_
  refine s1 (y_p rfl) rfl <| s1 ((y_conv Tryd.underlying3 Tryd.underlying93 rfl).v (v' := w64 (c64 18446744073709551599)) (congrArg (A.i .u64) (by decide))) rfl <| s1 ((and64 _ (c64 31) rfl rfl).v (v' := w64 (c64 15)) (congrArg w64 (by decide))) rfl <| s1 (y_p rfl) rfl <| ?_
  refine at_nil ?_
  refine x_tn ?_
  refine at_seq ?_
  refine at_region ?_
  refine s1 (y_p rfl) rfl <| s1 (y_p rfl) rfl <| s1 (shl32 _ 15 rfl rfl rfl (by decide)) rfl <| s1 (y_p rfl) rfl <| s1 (y_p rfl) rfl <| s1 ((sub64 (c64 32) (c64 15) rfl rfl (by decide)).v (v' := w64 (c64 17)) (congrArg w64 (by decide))) rfl <| s1 (shr32 _ 17 rfl rfl rfl (by decide)) rfl <| s1 ((or32 _ _ rfl rfl).v (congrArg w32 (rotl_rotr x 17))) rfl <| s1 (y_p rfl) rfl <| ?_
  refine at_nil ?_
  refine x_tn ?_
  refine at_ret ?_
  refine at_result (rs := [.tmp 4]) rfl (r_tmp rfl (r_nil)) rfl
set_option linter.unusedSimpArgs false in
set_option linter.unusedVariables false in
set_option maxHeartbeats 1000000 in
set_option maxRecDepth 10000 in
theorem rot18 (x : BitVec 32) : Con Tryd.prog 97 [w32 x, .i .i64 (-18)] (Ret (w32 (rotr x 18))) := by
  refine enter Tryd.func97 rfl Tryd.ntmps97 (by kernel_rfl) (Nat.le_of_ble_eq_true rfl) fun w0 X0 hI => ?_
  refine at_seq ?_
  refine at_region ?_
  refine s1 ((y_p rfl).v (v' := .i .u32 0) rfl) rfl <| ?_
  refine at_nil ?_
  refine x_tn ?_
  refine at_seq ?_
  refine at_region ?_
  refine s1 (y_p rfl) rfl <| s1 ((y_conv Tryd.underlying3 Tryd.underlying93 rfl).v (v' := w64 (c64 18446744073709551598)) (congrArg (A.i .u64) (by decide))) rfl <| s1 ((and64 _ (c64 31) rfl rfl).v (v' := w64 (c64 14)) (congrArg w64 (by decide))) rfl <| s1 (y_p rfl) rfl <| ?_
  refine at_nil ?_
  refine x_tn ?_
  refine at_seq ?_
  refine at_region ?_
  refine s1 (y_p rfl) rfl <| s1 (y_p rfl) rfl <| s1 (shl32 _ 14 rfl rfl rfl (by decide)) rfl <| s1 (y_p rfl) rfl <| s1 (y_p rfl) rfl <| s1 ((sub64 (c64 32) (c64 14) rfl rfl (by decide)).v (v' := w64 (c64 18)) (congrArg w64 (by decide))) rfl <| s1 (shr32 _ 18 rfl rfl rfl (by decide)) rfl <| s1 ((or32 _ _ rfl rfl).v (congrArg w32 (rotl_rotr x 18))) rfl <| s1 (y_p rfl) rfl <| ?_
  refine at_nil ?_
  refine x_tn ?_
  refine at_ret ?_
  refine at_result (rs := [.tmp 4]) rfl (r_tmp rfl (r_nil)) rfl
set_option linter.unusedSimpArgs false in
set_option linter.unusedVariables false in
set_option maxHeartbeats 1000000 in
set_option maxRecDepth 10000 in
theorem rot19 (x : BitVec 32) : Con Tryd.prog 97 [w32 x, .i .i64 (-19)] (Ret (w32 (rotr x 19))) := by
  refine enter Tryd.func97 rfl Tryd.ntmps97 (by kernel_rfl) (Nat.le_of_ble_eq_true rfl) fun w0 X0 hI => ?_
  refine at_seq ?_
  refine at_region ?_
  refine s1 ((y_p rfl).v (v' := .i .u32 0) rfl) rfl <| ?_
  refine at_nil ?_
  refine x_tn ?_
  refine at_seq ?_
  refine at_region ?_
  refine s1 (y_p rfl) rfl <| s1 ((y_conv Tryd.underlying3 Tryd.underlying93 rfl).v (v' := w64 (c64 18446744073709551597)) (congrArg (A.i .u64) (by decide))) rfl <| s1 ((and64 _ (c64 31) rfl rfl).v (v' := w64 (c64 13)) (congrArg w64 (by decide))) rfl <| s1 (y_p rfl) rfl <| ?_
  refine at_nil ?_
  refine x_tn ?_
  refine at_seq ?_
  refine at_region ?_
  refine s1 (y_p rfl) rfl <| s1 (y_p rfl) rfl <| s1 (shl32 _ 13 rfl rfl rfl (by decide)) rfl <| s1 (y_p rfl) rfl <| s1 (y_p rfl) rfl <| s1 ((sub64 (c64 32) (c64 13) rfl rfl (by decide)).v (v' := w64 (c64 19)) (congrArg w64 (by decide))) rfl <| s1 (shr32 _ 19 rfl rfl rfl (by decide)) rfl <| s1 ((or32 _ _ rfl rfl).v (congrArg w32 (rotl_rotr x 19))) rfl <| s1 (y_p rfl) rfl <| ?_
  refine at_nil ?_
  refine x_tn ?_
  refine at_ret ?_
  refine at_result (rs := [.tmp 4]) rfl (r_tmp rfl (r_nil)) rfl
set_option linter.unusedSimpArgs false in
set_option linter.unusedVariables false in
set_option maxHeartbeats 1000000 in
set_option maxRecDepth 10000 in
theorem rot22 (x : BitVec 32) : Con Tryd.prog 97 [w32 x, .i .i64 (-22)] (Ret (w32 (rotr x 22))) := by
  refine enter Tryd.func97 rfl Tryd.ntmps97 (by kernel_rfl) (Nat.le_of_ble_eq_true rfl) fun w0 X0 hI => ?_
  refine at_seq ?_
  refine at_region ?_
  refine s1 ((y_p rfl).v (v' := .i .u32 0) rfl) rfl <| ?_
  refine at_nil ?_
  refine x_tn ?_
  refine at_seq ?_
  refine at_region ?_
  refine s1 (y_p rfl) rfl <| s1 ((y_conv Tryd.underlying3 Tryd.underlying93 rfl).v (v' := w64 (c64 18446744073709551594)) (congrArg (A.i .u64) (by decide))) rfl <| s1 ((and64 _ (c64 31) rfl rfl).v (v' := w64 (c64 10)) (congrArg w64 (by decide))) rfl <| s1 (y_p rfl) rfl <| ?_
  refine at_nil ?_
  refine x_tn ?_
  refine at_seq ?_
  refine at_region ?_
  refine s1 (y_p rfl) rfl <| s1 (y_p rfl) rfl <| s1 (shl32 _ 10 rfl rfl rfl (by decide)) rfl <| s1 (y_p rfl) rfl <| s1 (y_p rfl) rfl <| s1 ((sub64 (c64 32) (c64 10) rfl rfl (by decide)).v (v' := w64 (c64 22)) (congrArg w64 (by decide))) rfl <| s1 (shr32 _ 22 rfl rfl rfl (by decide)) rfl <| s1 ((or32 _ _ rfl rfl).v (congrArg w32 (rotl_rotr x 22))) rfl <| s1 (y_p rfl) rfl <| ?_
  refine at_nil ?_
  refine x_tn ?_
  refine at_ret ?_
  refine at_result (rs := [.tmp 4]) rfl (r_tmp rfl (r_nil)) rfl
set_option linter.unusedSimpArgs false in
set_option linter.unusedVariables false in
set_option maxHeartbeats 1000000 in
set_option maxRecDepth 10000 in
theorem rot25 (x : BitVec 32) : Con Tryd.prog 97 [w32 x, .i .i64 (-25)] (Ret (w32 (rotr x 25))) := by
  refine enter Tryd.func97 rfl Tryd.ntmps97 (by kernel_rfl) (Nat.le_of_ble_eq_true rfl) fun w0 X0 hI => ?_
  refine at_seq ?_
  refine at_region ?_
  refine s1 ((y_p rfl).v (v' := .i .u32 0) rfl) rfl <| ?_
  refine at_nil ?_
  refine x_tn ?_
  refine at_seq ?_
  refine at_region ?_
  refine s1 (y_p rfl) rfl <| s1 ((y_conv Tryd.underlying3 Tryd.underlying93 rfl).v (v' := w64 (c64 18446744073709551591)) (congrArg (A.i .u64) (by decide))) rfl <| s1 ((and64 _ (c64 31) rfl rfl).v (v' := w64 (c64 7)) (congrArg w64 (by decide))) rfl <| s1 (y_p rfl) rfl <| ?_
  refine at_nil ?_
  refine x_tn ?_
  refine at_seq ?_
  refine at_region ?_
  refine s1 (y_p rfl) rfl <| s1 (y_p rfl) rfl <| s1 (shl32 _ 7 rfl rfl rfl (by decide)) rfl <| s1 (y_p rfl) rfl <| s1 (y_p rfl) rfl <| s1 ((sub64 (c64 32) (c64 7) rfl rfl (by decide)).v (v' := w64 (c64 25)) (congrArg w64 (by decide))) rfl <| s1 (shr32 _ 25 rfl rfl rfl (by decide)) rfl <| s1 ((or32 _ _ rfl rfl).v (congrArg w32 (rotl_rotr x 25))) rfl <| s1 (y_p rfl) rfl <| ?_
  refine at_nil ?_
  refine x_tn ?_
  refine at_ret ?_
  refine at_result (rs := [.tmp 4]) rfl (r_tmp rfl (r_nil)) rfl
set_option linter.unusedSimpArgs false in
set_option linter.unusedVariables false in
set_option maxHeartbeats 1000000 in
set_option maxRecDepth 10000 in
theorem ror_ok (x : BitVec 32) (n : Nat) (h : n ≤ 32) : Con Tryd.prog 99 [w32 x, .i .i64 (n : Int)] (Ret (w32 (rotr x n))) := by
  refine enter Tryd.func99 rfl Tryd.ntmps99 (by kernel_rfl) (Nat.le_of_ble_eq_true rfl) fun w0 X0 hI => ?_
  refine at_seq ?_
  refine at_region ?_
  refine s1 ((y_p rfl).v (v' := .i .u32 0) rfl) rfl <| ?_
  refine at_nil ?_
  refine x_tn ?_
  refine at_seq ?_
  refine at_draw_tail 8 hmix (by kernel_rfl) ?_
  refine t1 (y_p rfl) rfl <| t1 (y_p rfl) rfl <| t1 (shr32 _ n rfl rfl rfl h) rfl <| t1 (y_p rfl) rfl <| t1 (y_p rfl) rfl <| t1 (subN 32 n rfl rfl rfl rfl h (by omega)) rfl <| t1 (shl32 _ (32 - n) rfl rfl rfl (by omega)) rfl <| t1 ((or32 _ _ rfl rfl).v rfl) rfl <| ?_
  refine at_snil ?_
  refine s1 (y_p rfl) rfl <| ?_
  refine at_nil ?_
  refine x_tn ?_
  refine at_ret ?_
  refine at_result (rs := [.tmp 4]) rfl (r_tmp rfl (r_nil)) rfl
set_option linter.unusedSimpArgs false in
set_option linter.unusedVariables false in
set_option maxHeartbeats 1000000 in
set_option maxRecDepth 10000 in
theorem word_ok (b : List UInt8) (i : Nat) (h : i + 4 ≤ b.length) : Con Tryd.prog 98 [.fz 4 (((b.map u8).drop (i * 1)).take (4 * 1))] (Ret (w32 (word b i))) := by
  refine enter Tryd.func98 rfl Tryd.ntmps98 (by kernel_rfl) (Nat.le_of_ble_eq_true rfl) fun w0 X0 hI => ?_
  refine at_seq ?_
  refine at_region ?_
  refine s1 ((y_p rfl).v (v' := .i .u32 0) rfl) rfl <| ?_
  refine at_nil ?_
  refine x_tn ?_
  refine at_seq ?_
  refine at_draw_tail 22 hmix (by kernel_rfl) ?_
  refine t1 (y_p rfl) rfl <| t1 (y_ixf 0 Tryd.underlying65 ti5 rfl rfl rfl (by omega) rfl) rfl <| t1 (y_load ti5 rfl rfl (getU8 b (i + 0) (by omega) (k := 0) rfl (by omega) rfl)) rfl <| t1 (of8_32 _ Tryd.underlying5 Tryd.underlying102 rfl) rfl <| t1 (shl32 _ 24 rfl rfl rfl (by decide)) rfl <| t1 (y_p rfl) rfl <| t1 (y_ixf 1 Tryd.underlying65 ti5 rfl rfl rfl (by omega) rfl) rfl <| t1 (y_load ti5 rfl rfl (getU8 b (i + 1) (by omega) (k := 1) rfl (by omega) rfl)) rfl <| t1 (of8_32 _ Tryd.underlying5 Tryd.underlying102 rfl) rfl <| t1 (shl32 _ 16 rfl rfl rfl (by decide)) rfl <| ?_
  refine t1 (or32 _ _ rfl rfl) rfl <| t1 (y_p rfl) rfl <| t1 (y_ixf 2 Tryd.underlying65 ti5 rfl rfl rfl (by omega) rfl) rfl <| t1 (y_load ti5 rfl rfl (getU8 b (i + 2) (by omega) (k := 2) rfl (by omega) rfl)) rfl <| t1 (of8_32 _ Tryd.underlying5 Tryd.underlying102 rfl) rfl <| t1 (shl32 _ 8 rfl rfl rfl (by decide)) rfl <| t1 (or32 _ _ rfl rfl) rfl <| t1 (y_p rfl) rfl <| t1 (y_ixf 3 Tryd.underlying65 ti5 rfl rfl rfl (by omega) rfl) rfl <| t1 (y_load ti5 rfl rfl (getU8 b (i + 3) (by omega) (k := 3) rfl (by omega) rfl)) rfl <| ?_
  refine t1 (of8_32 _ Tryd.underlying5 Tryd.underlying102 rfl) rfl <| t1 (or32 _ _ rfl rfl) rfl <| ?_
  refine at_snil ?_
  refine s1 (y_p rfl) rfl <| ?_
  refine at_nil ?_
  refine x_tn ?_
  refine at_ret ?_
  refine at_result (rs := [.tmp 2]) rfl (r_tmp rfl (r_nil)) rfl
end Go.Abs.D2

/-! D2C -/
namespace Go.Abs.D2
open Go Go.Eng Go.Abs Go.Proofs 
set_option linter.unusedSimpArgs false in
set_option linter.unusedVariables false in
set_option maxHeartbeats 1000000 in
set_option maxRecDepth 10000 in
theorem numbers_ok : Con Tryd.prog 100 [] (Ret (.ag (kTab.map w32))) := by
  refine enter Tryd.func100 rfl Tryd.ntmps100 (by kernel_rfl) (Nat.le_of_ble_eq_true rfl) fun w0 X0 hI => ?_
  refine at_seq ?_
  refine at_region ?_
  refine at_op rfl (n_alloc 0 rfl ti117 rfl rfl ?_)
  refine at_nil ?_
  refine x_tn ?_
  refine at_seq ?_
  refine at_region ?_
  refine s1 ((y_bldA (vs := [_, _, _, _, _, _, _, _, _, _, _, _, _, _, _, _, _, _, _, _, _, _, _, _, _, _, _, _, _, _, _, _, _, _, _, _, _, _, _, _, _, _, _, _, _, _, _, _, _, _, _, _, _, _, _, _, _, _, _, _, _, _, _, _]) ti117 rfl Tryd.underlying117 ti102 rfl rfl rfl rfl).v (v' := .ag (kTab.map w32)) (by kernel_rfl)) rfl <| ?_
  refine at_op rfl (n_storeA ti117 rfl rfl rfl (by first | rfl | omega | (simp; done) | (simp [*]; done) | (simp; omega) | (simp [*]; omega) | (simp [D32.len, -List.length_flatten, *]; done) | (simp [D32.len, -List.length_flatten, *]; omega)) (by first | rfl | omega | (simp; done) | (simp [*]; done) | (simp; omega) | (simp [*]; omega) | (simp [D32.len, -List.length_flatten, *]; done) | (simp [D32.len, -List.length_flatten, *]; omega)) ?_)
  refine at_nil ?_
  refine x_tn ?_
  refine at_ret ?_
  refine at_result (rs := [.cell 0 117]) rfl (r_cellA ti117 rfl rfl (List.take_of_length_le (by simp [len_kTab])) (by simp [len_kTab]) r_nil) rfl
set_option linter.unusedSimpArgs false in
set_option linter.unusedVariables false in
set_option maxHeartbeats 1000000 in
set_option maxRecDepth 10000 in
theorem block_ok (s : S8) (b : List UInt8) (hb : b.length = 64) : Con Tryd.prog 91 [.ag (s.l.map w32), .fz 64 (b.map u8)] (Ret (.ag ((comp s b).l.map w32))) := by
  refine enter Tryd.func91 rfl Tryd.ntmps91 (by kernel_rfl) (Nat.le_of_ble_eq_true rfl) fun w0 X0 hI => ?_
  refine at_seq ?_
  refine at_region ?_
  refine at_op rfl (n_boxA 2 rfl rfl rfl ?_)
  refine at_op rfl (n_alloc 4 rfl ti103 rfl rfl ?_)
  refine at_nil ?_
  refine x_tn ?_
  refine at_seq ?_
  refine at_region ?_
  refine s1 ((y_bld0 ti117 rfl Tryd.underlying117 ti102 rfl).v (v' := .ag ((words b 0).map w32 ++ List.replicate (64 - 0) (w32 0))) (by kernel_rfl)) rfl <| ?_
  refine at_op rfl (n_alloc 5 rfl ti117 rfl rfl ?_)
  refine at_op rfl (n_storeA ti117 rfl rfl rfl (by simp) (by simp) ?_)
  refine at_nil ?_
  refine x_tn ?_
  refine at_seq ?_
  refine at_seq ?_
  refine at_region ?_
  refine s1 ((y_p rfl).v (v' := .i .i64 0) rfl) rfl <| ?_
  refine at_nil ?_
  refine x_tn ?_
  refine at_block ?_
  refine at_loop (ι := Nat) (fun i => [(1, .fz 64 (b.map u8)), (2, .p 2 0), (4, .p 4 0), (5, .p 5 0), (6, .i .i64 (i : Nat))]) (fun i => ⟨[(2, some (s.l.map w32)), (4, some (List.replicate 8 (w32 0))), (5, some ((words b i).map w32 ++ List.replicate (64 - i) (w32 0)))]⟩) (fun i => i ≤ 16) (fun i => 16 - i) ?_ ?_
  · exact at_ex (0) (Nat.zero_le _) [(2, some 2), (4, some 4), (5, some 5)] hI rfl rfl ⟨⟨_, rfl, .pure pu⟩, ⟨_, rfl, .p rfl⟩, ⟨_, rfl, .p rfl⟩, ⟨_, rfl, .p rfl⟩, ⟨_, rfl, .pure pu⟩, trivial⟩ ⟨.inr ⟨_, _, rfl, rfl, .pure pul⟩, .inr ⟨_, _, rfl, rfl, .pure pul⟩, .inr ⟨_, _, rfl, rfl, .pure pul⟩, trivial⟩
  rintro i hi
  refine at_seq ?_
  refine at_seq ?_
  refine at_region ?_
  refine s1 (y_p rfl) rfl <| s1 (y_p rfl) rfl <| ?_
  refine at_nil ?_
  refine x_tn ?_
  refine at_cond rfl (fun hc24 => ?_) (fun hc24 => ?_)
  · have hi16 : i < 16 := by have := of_decide_eq_true hc24; omega
    refine at_skip ?_
    refine x_tn ?_
    refine at_seq ?_
    refine at_block ?_
    refine at_region ?_
    refine s1 (y_p rfl) rfl <| s1 (y_p rfl) rfl <| s1 (y_p rfl) rfl <| s1 (mulN 4 _ rfl rfl rfl rfl (by omega)) rfl <| s1 (y_p rfl) rfl <| s1 (mulN 4 _ rfl rfl rfl rfl (by omega)) rfl <| s1 (addN _ 4 rfl rfl rfl rfl (by omega)) rfl <| s1 (y_cutf 4 Tryd.underlying65 ti5 rfl (by simp [hb]) (bs rfl rfl) (bs rfl rfl) (by omega) (by omega) (by omega) rfl) rfl <| ?_
    refine at_op rfl (n_call false rfl (.cons (.pure pu) (.nil)) (word_ok b (4 * i) (by omega)) pu (.inl rfl) rfl ?_)
    refine s1 (y_ixa i Tryd.underlying117 ti102 rfl rfl rfl (by omega) rfl) rfl <| ?_
    refine at_op rfl (n_store1 ti102 rfl rfl rfl rfl (by first | rfl | omega | (simp; done) | (simp [*]; done) | (simp; omega) | (simp [*]; omega) | (simp [D32.len, -List.length_flatten, *]; done) | (simp [D32.len, -List.length_flatten, *]; omega)) (set_words b i (by omega)) ?_)
    refine at_nil ?_
    refine x_bn ?_
    refine x_tn ?_
    refine at_region ?_
    refine s1 (y_p rfl) rfl <| s1 (addN _ 1 rfl rfl rfl rfl (by omega)) rfl <| s1 (y_p rfl) rfl <| ?_
    refine at_nil ?_
    exact at_end (i + 1) (by omega) (by omega) [(2, some 2), (4, some 4), (5, some 5)] hI rfl rfl ⟨⟨_, rfl, .pure pu⟩, ⟨_, rfl, .p rfl⟩, ⟨_, rfl, .p rfl⟩, ⟨_, rfl, .p rfl⟩, ⟨_, rfl, .pure pu⟩, trivial⟩ ⟨.inr ⟨_, _, rfl, rfl, .pure pul⟩, .inr ⟨_, _, rfl, rfl, .pure pul⟩, .inr ⟨_, _, rfl, rfl, .pure pul⟩, trivial⟩
  · have hi16 : i = 16 := by have := of_decide_eq_false hc24; omega
    subst hi16
    refine at_exit ?_
    refine x_te ?_
    refine x_te ?_
    refine x_be ?_
    refine x_tn ?_
    refine at_seq ?_
    refine at_seq ?_
    refine at_region ?_
    refine s1 ((y_p rfl).v (v' := .i .i64 16) rfl) rfl <| ?_
    refine at_nil ?_
    refine x_tn ?_
    refine at_block ?_
    refine at_loop (ι := Nat) (fun k => [(2, .p 2 0), (4, .p 4 0), (5, .p 5 0), (7, .i .i64 ((16 + k : Nat) : Int))]) (fun k => ⟨[(2, some (s.l.map w32)), (4, some (List.replicate 8 (w32 0))), (5, some ((sched b k).map w32 ++ List.replicate (48 - k) (w32 0)))]⟩) (fun k => k ≤ 48) (fun k => 48 - k) ?_ ?_
    · skip
      refine at_sayO 5 rfl (cs' := (sched b 0).map w32 ++ List.replicate (48 - 0) (w32 0)) (by rw [sched_0]) ?_
      exact at_ex (0) (Nat.zero_le _) [(2, some 2), (4, some 4), (5, some 5)] hI rfl rfl ⟨⟨_, rfl, .p rfl⟩, ⟨_, rfl, .p rfl⟩, ⟨_, rfl, .p rfl⟩, ⟨_, rfl, .pure pu⟩, trivial⟩ ⟨.inr ⟨_, _, rfl, rfl, .pure pul⟩, .inr ⟨_, _, rfl, rfl, .pure pul⟩, .inr ⟨_, _, rfl, rfl, .pure pul⟩, trivial⟩
    rintro k hk
    refine at_seq ?_
    refine at_seq ?_
    refine at_region ?_
    refine s1 (y_p rfl) rfl <| s1 (y_p rfl) rfl <| ?_
    refine at_nil ?_
    refine x_tn ?_
    refine at_cond rfl (fun hc38 => ?_) (fun hc38 => ?_)
    · have hk48 : k < 48 := by have := of_decide_eq_true hc38; omega
      refine at_skip ?_
      refine x_tn ?_
      refine at_seq ?_
      refine at_block ?_
      refine at_seq ?_
      refine at_region ?_
      refine s1 (y_p rfl) rfl <| s1 (subN (16 + k) 15 rfl rfl rfl rfl (by omega) (by omega)) rfl <| s1 (y_ixa (16 + k - 15) Tryd.underlying117 ti102 rfl rfl rfl (by omega) rfl) rfl <| s1 (y_load ti102 rfl rfl (getW (16 + k - 15) (by first | rfl | omega | (simp; done) | (simp [*]; done) | (simp; omega) | (simp [*]; omega) | (simp [D32.len, -List.length_flatten, *]; done) | (simp [D32.len, -List.length_flatten, *]; omega)) rfl)) rfl <| s1 (y_p rfl) rfl <| ?_
      refine at_nil ?_
      refine x_tn ?_
      refine at_seq ?_
      refine at_region ?_
      refine s1 (y_p rfl) rfl <| s1 (subN (16 + k) 2 rfl rfl rfl rfl (by omega) (by omega)) rfl <| s1 (y_ixa (16 + k - 2) Tryd.underlying117 ti102 rfl rfl rfl (by omega) rfl) rfl <| s1 (y_load ti102 rfl rfl (getW (16 + k - 2) (by first | rfl | omega | (simp; done) | (simp [*]; done) | (simp; omega) | (simp [*]; omega) | (simp [D32.len, -List.length_flatten, *]; done) | (simp [D32.len, -List.length_flatten, *]; omega)) rfl)) rfl <| s1 (y_p rfl) rfl <| ?_
      refine at_nil ?_
      refine x_tn ?_
      refine at_fs ⟨_, [], []⟩ 29 4 hmix (le_refl rfl) ?_
      refine fs_q 0 [] [] (y_p rfl) rfl rfl ?_
      refine fs_q 1 [] [] (y_p rfl) rfl rfl ?_
      refine fs_q 2 [1] [] (subN (16 + k) 16 rfl rfl rfl rfl (by omega) (by omega)) rfl rfl ?_
      refine fs_q 3 [2] [(5, none)] (y_ixa (16 + k - 16) Tryd.underlying117 ti102 rfl rfl rfl (by omega) rfl) rfl rfl ?_
      refine fs_q 4 [3] [(5, none)] (y_load ti102 rfl rfl (getW (16 + k - 16) (by first | rfl | omega | (simp; done) | (simp [*]; done) | (simp; omega) | (simp [*]; omega) | (simp [D32.len, -List.length_flatten, *]; done) | (simp [D32.len, -List.length_flatten, *]; omega)) rfl)) rfl rfl ?_
      refine fs_q 5 [] [] (y_p rfl) rfl rfl ?_
      refine fs_call false 6 [5] [] gy0 rfl (.cons (.pure pu) (.cons (.pure pu) (.nil))) (ror_ok _ 7 (by decide)) pu (.inl rfl) rfl rfl ?_
      refine fs_q 7 [] [] (y_p rfl) rfl rfl ?_
      refine fs_call false 8 [7] [] gy0 rfl (.cons (.pure pu) (.cons (.pure pu) (.nil))) (ror_ok _ 18 (by decide)) pu (.inl rfl) rfl rfl ?_
      refine fs_q 9 [6, 8] [] (xor32 _ _ rfl rfl) rfl rfl ?_
      refine fs_q 10 [] [] (y_p rfl) rfl rfl ?_
      refine fs_q 11 [10] [] (shr32 _ 3 rfl rfl rfl (by decide)) rfl rfl ?_
      refine fs_q 12 [9, 11] [] (xor32 _ _ rfl rfl) rfl rfl ?_
      refine fs_q 13 [4, 12] [] (add32 _ _ rfl rfl) rfl rfl ?_
      refine fs_q 14 [] [] (y_p rfl) rfl rfl ?_
      refine fs_q 15 [14] [] (subN (16 + k) 7 rfl rfl rfl rfl (by omega) (by omega)) rfl rfl ?_
      refine fs_q 16 [15] [(5, none)] (y_ixa (16 + k - 7) Tryd.underlying117 ti102 rfl rfl rfl (by omega) rfl) rfl rfl ?_
      refine fs_q 17 [16] [(5, none)] (y_load ti102 rfl rfl (getW (16 + k - 7) (by first | rfl | omega | (simp; done) | (simp [*]; done) | (simp; omega) | (simp [*]; omega) | (simp [D32.len, -List.length_flatten, *]; done) | (simp [D32.len, -List.length_flatten, *]; omega)) rfl)) rfl rfl ?_
      refine fs_q 18 [13, 17] [] (add32 _ _ rfl rfl) rfl rfl ?_
      refine fs_q 19 [] [] (y_p rfl) rfl rfl ?_
      refine fs_call false 20 [19] [] gy0 rfl (.cons (.pure pu) (.cons (.pure pu) (.nil))) (ror_ok _ 17 (by decide)) pu (.inl rfl) rfl rfl ?_
      refine fs_q 21 [] [] (y_p rfl) rfl rfl ?_
      refine fs_call false 22 [21] [] gy0 rfl (.cons (.pure pu) (.cons (.pure pu) (.nil))) (ror_ok _ 19 (by decide)) pu (.inl rfl) rfl rfl ?_
      refine fs_q 23 [20, 22] [] (xor32 _ _ rfl rfl) rfl rfl ?_
      refine fs_q 24 [] [] (y_p rfl) rfl rfl ?_
      refine fs_q 25 [24] [] (shr32 _ 10 rfl rfl rfl (by decide)) rfl rfl ?_
      refine fs_q 26 [23, 25] [] (xor32 _ _ rfl rfl) rfl rfl ?_
      refine fs_q 27 [18, 26] [] (add32 _ _ rfl rfl) rfl rfl ?_
      refine fs_q 28 [0] [(5, none)] (y_ixa (16 + k) Tryd.underlying117 ti102 rfl rfl rfl (by omega) rfl) rfl rfl ?_
      refine fs_end (by kernel_rfl) ?_
      refine at_op rfl (n_store1 ti102 rfl rfl rfl rfl (by first | rfl | omega | (simp; done) | (simp [*]; done) | (simp; omega) | (simp [*]; omega) | (simp [D32.len, -List.length_flatten, *]; done) | (simp [D32.len, -List.length_flatten, *]; omega)) (set_sched b k _ (by omega) rfl) ?_)
      refine at_nil ?_
      refine x_bn ?_
      refine x_tn ?_
      refine at_region ?_
      refine s1 (y_p rfl) rfl <| s1 (addN _ 1 rfl rfl rfl rfl (by omega)) rfl <| s1 (y_p rfl) rfl <| ?_
      refine at_nil ?_
      exact at_end (k + 1) (by omega) (by omega) [(2, some 2), (4, some 4), (5, some 5)] hI rfl rfl ⟨⟨_, rfl, .p rfl⟩, ⟨_, rfl, .p rfl⟩, ⟨_, rfl, .p rfl⟩, ⟨_, rfl, .pure pu⟩, trivial⟩ ⟨.inr ⟨_, _, rfl, rfl, .pure pul⟩, .inr ⟨_, _, rfl, rfl, .pure pul⟩, .inr ⟨_, _, rfl, rfl, .pure pul⟩, trivial⟩
    · have hk48 : k = 48 := by have := of_decide_eq_false hc38; omega
      subst hk48
      refine at_exit ?_
      refine x_te ?_
      refine x_te ?_
      refine x_be ?_
      refine x_tn ?_
      refine at_seq ?_
      refine at_region ?_
      refine at_op rfl (n_call false rfl (.nil) (numbers_ok) pu (.inl rfl) rfl ?_)
      refine at_op rfl (n_alloc 10 rfl ti117 rfl rfl ?_)
      refine at_op rfl (n_storeA ti117 rfl rfl rfl (by simp [len_kTab]) (by simp) ?_)
      refine at_nil ?_
      refine x_tn ?_
      refine at_seq ?_
      refine at_draw_tail 23 hmix (by kernel_rfl) ?_
      refine t1 (y_ixa 0 Tryd.underlying103 ti102 rfl rfl rfl (by omega) rfl) rfl <| t1 (y_load ti102 rfl rfl rfl) rfl <| t1 (y_ixa 1 Tryd.underlying103 ti102 rfl rfl rfl (by omega) rfl) rfl <| t1 (y_load ti102 rfl rfl rfl) rfl <| t1 (y_ixa 2 Tryd.underlying103 ti102 rfl rfl rfl (by omega) rfl) rfl <| t1 (y_load ti102 rfl rfl rfl) rfl <| t1 (y_ixa 3 Tryd.underlying103 ti102 rfl rfl rfl (by omega) rfl) rfl <| t1 (y_load ti102 rfl rfl rfl) rfl <| t1 (y_ixa 4 Tryd.underlying103 ti102 rfl rfl rfl (by omega) rfl) rfl <| t1 (y_load ti102 rfl rfl rfl) rfl <| ?_
      refine t1 (y_ixa 5 Tryd.underlying103 ti102 rfl rfl rfl (by omega) rfl) rfl <| t1 (y_load ti102 rfl rfl rfl) rfl <| t1 (y_ixa 6 Tryd.underlying103 ti102 rfl rfl rfl (by omega) rfl) rfl <| t1 (y_load ti102 rfl rfl rfl) rfl <| t1 (y_ixa 7 Tryd.underlying103 ti102 rfl rfl rfl (by omega) rfl) rfl <| t1 (y_load ti102 rfl rfl rfl) rfl <| t1 (y_p rfl) rfl <| t1 (y_p rfl) rfl <| t1 (y_p rfl) rfl <| t1 (y_p rfl) rfl <| ?_
      refine t1 (y_p rfl) rfl <| t1 (y_p rfl) rfl <| t1 (y_p rfl) rfl <| ?_
      refine at_snil ?_
      refine s1 (y_p rfl) rfl <| ?_
      refine at_nil ?_
      refine x_tn ?_
      refine at_seq ?_
      refine at_seq ?_
      refine at_region ?_
      refine s1 ((y_p rfl).v (v' := .i .i64 0) rfl) rfl <| ?_
      refine at_nil ?_
      refine x_tn ?_
      refine at_block ?_
      refine at_loop (ι := Nat) (fun t => [(2, .p 2 0), (4, .p 4 0), (5, .p 5 0), (10, .p 10 0), (19, .i .i64 (t : Nat)), (11, w32 (rounds (sched b 48) s t).a), (12, w32 (rounds (sched b 48) s t).b), (13, w32 (rounds (sched b 48) s t).c), (14, w32 (rounds (sched b 48) s t).d), (15, w32 (rounds (sched b 48) s t).e), (16, w32 (rounds (sched b 48) s t).f), (17, w32 (rounds (sched b 48) s t).g), (18, w32 (rounds (sched b 48) s t).h)]) (fun t => ⟨[(2, some (s.l.map w32)), (4, some (List.replicate 8 (w32 0))), (5, some ((sched b 48).map w32 ++ List.replicate (48 - 48) (w32 0))), (10, some (kTab.map w32))]⟩) (fun t => t ≤ 64) (fun t => 64 - t) ?_ ?_
      · exact at_ex (0) (Nat.zero_le _) [(2, some 2), (4, some 4), (5, some 5), (10, some 10)] hI rfl rfl ⟨⟨_, rfl, .p rfl⟩, ⟨_, rfl, .p rfl⟩, ⟨_, rfl, .p rfl⟩, ⟨_, rfl, .p rfl⟩, ⟨_, rfl, .pure pu⟩, ⟨_, rfl, .pure pu⟩, ⟨_, rfl, .pure pu⟩, ⟨_, rfl, .pure pu⟩, ⟨_, rfl, .pure pu⟩, ⟨_, rfl, .pure pu⟩, ⟨_, rfl, .pure pu⟩, ⟨_, rfl, .pure pu⟩, ⟨_, rfl, .pure pu⟩, trivial⟩ ⟨.inr ⟨_, _, rfl, rfl, .pure pul⟩, .inr ⟨_, _, rfl, rfl, .pure pul⟩, .inr ⟨_, _, rfl, rfl, .pure pul⟩, .inr ⟨_, _, rfl, rfl, .pure pul⟩, trivial⟩
      rintro t ht
      refine at_seq ?_
      refine at_seq ?_
      refine at_region ?_
      refine s1 (y_p rfl) rfl <| s1 (y_p rfl) rfl <| ?_
      refine at_nil ?_
      refine x_tn ?_
      refine at_cond rfl (fun hc96 => ?_) (fun hc96 => ?_)
      · have ht64 : t < 64 := by have := of_decide_eq_true hc96; omega
        refine at_skip ?_
        refine x_tn ?_
        refine at_seq ?_
        refine at_block ?_
        refine at_seq ?_
        refine at_fs ⟨_, [], []⟩ 27 4 hmix (le_refl rfl) ?_
        refine fs_q 0 [] [] (y_p rfl) rfl rfl ?_
        refine fs_q 1 [] [] (y_p rfl) rfl rfl ?_
        refine fs_call false 2 [1] [] gy0 rfl (.cons (.pure pu) (.cons (.pure pu) (.nil))) (ror_ok _ 6 (by decide)) pu (.inl rfl) rfl rfl ?_
        refine fs_q 3 [] [] (y_p rfl) rfl rfl ?_
        refine fs_call false 4 [3] [] gy0 rfl (.cons (.pure pu) (.cons (.pure pu) (.nil))) (ror_ok _ 11 (by decide)) pu (.inl rfl) rfl rfl ?_
        refine fs_q 5 [2, 4] [] (xor32 _ _ rfl rfl) rfl rfl ?_
        refine fs_q 6 [] [] (y_p rfl) rfl rfl ?_
        refine fs_call false 7 [6] [] gy0 rfl (.cons (.pure pu) (.cons (.pure pu) (.nil))) (ror_ok _ 25 (by decide)) pu (.inl rfl) rfl rfl ?_
        refine fs_q 8 [5, 7] [] (xor32 _ _ rfl rfl) rfl rfl ?_
        refine fs_q 9 [0, 8] [] (add32 _ _ rfl rfl) rfl rfl ?_
        refine fs_q 10 [] [] (y_p rfl) rfl rfl ?_
        refine fs_q 11 [] [] (y_p rfl) rfl rfl ?_
        refine fs_q 12 [10, 11] [] (and32 _ _ rfl rfl) rfl rfl ?_
        refine fs_q 13 [] [] (y_p rfl) rfl rfl ?_
        refine fs_q 14 [13] [] (not32 _ rfl) rfl rfl ?_
        refine fs_q 15 [] [] (y_p rfl) rfl rfl ?_
        refine fs_q 16 [14, 15] [] (and32 _ _ rfl rfl) rfl rfl ?_
        refine fs_q 17 [12, 16] [] (xor32 _ _ rfl rfl) rfl rfl ?_
        refine fs_q 18 [9, 17] [] (add32 _ _ rfl rfl) rfl rfl ?_
        refine fs_q 19 [] [] (y_p rfl) rfl rfl ?_
        refine fs_q 20 [19] [(10, none)] (y_ixa t Tryd.underlying117 ti102 rfl rfl rfl (by omega) rfl) rfl rfl ?_
        refine fs_q 21 [20] [(10, none)] (y_load ti102 rfl rfl (getW2 t (by first | (simp [len_kTab]; done) | (simp [len_kTab]; omega)) rfl)) rfl rfl ?_
        refine fs_q 22 [18, 21] [] (add32 _ _ rfl rfl) rfl rfl ?_
        refine fs_q 23 [] [] (y_p rfl) rfl rfl ?_
        refine fs_q 24 [23] [(5, none)] (y_ixa t Tryd.underlying117 ti102 rfl rfl rfl (by omega) rfl) rfl rfl ?_
        refine fs_q 25 [24] [(5, none)] (y_load ti102 rfl rfl (getW t (by first | rfl | omega | (simp; done) | (simp [*]; done) | (simp; omega) | (simp [*]; omega) | (simp [D32.len, -List.length_flatten, *]; done) | (simp [D32.len, -List.length_flatten, *]; omega)) rfl)) rfl rfl ?_
        refine fs_q 26 [22, 25] [] (add32 _ _ rfl rfl) rfl rfl ?_
        refine fs_end (by kernel_rfl) ?_
        refine s1 (y_p rfl) rfl <| ?_
        refine at_nil ?_
        refine x_tn ?_
        refine at_seq ?_
        refine at_region ?_
        refine s1 (y_p rfl) rfl <| ?_
        refine at_op rfl (n_call false rfl (.cons (.pure pu) (.cons (.pure pu) (.nil))) (ror_ok _ 2 (by decide)) pu (.inl rfl) rfl ?_)
        refine s1 (y_p rfl) rfl <| ?_
        refine at_op rfl (n_call false rfl (.cons (.pure pu) (.cons (.pure pu) (.nil))) (ror_ok _ 13 (by decide)) pu (.inl rfl) rfl ?_)
        refine s1 (xor32 _ _ rfl rfl) rfl <| s1 (y_p rfl) rfl <| ?_
        refine at_op rfl (n_call false rfl (.cons (.pure pu) (.cons (.pure pu) (.nil))) (ror_ok _ 22 (by decide)) pu (.inl rfl) rfl ?_)
        refine s1 (xor32 _ _ rfl rfl) rfl <| s1 (y_p rfl) rfl <| s1 (y_p rfl) rfl <| s1 (and32 _ _ rfl rfl) rfl <| s1 (y_p rfl) rfl <| s1 (y_p rfl) rfl <| s1 (and32 _ _ rfl rfl) rfl <| s1 (xor32 _ _ rfl rfl) rfl <| s1 (y_p rfl) rfl <| s1 (y_p rfl) rfl <| ?_
        refine s1 (and32 _ _ rfl rfl) rfl <| s1 (xor32 _ _ rfl rfl) rfl <| s1 (add32 _ _ rfl rfl) rfl <| s1 (y_p rfl) rfl <| ?_
        refine at_nil ?_
        refine x_tn ?_
        refine at_region ?_
        refine s1 (y_p rfl) rfl <| s1 (y_p rfl) rfl <| s1 (y_p rfl) rfl <| s1 (y_p rfl) rfl <| s1 (y_p rfl) rfl <| s1 (add32 _ _ rfl rfl) rfl <| s1 (y_p rfl) rfl <| s1 (y_p rfl) rfl <| s1 (y_p rfl) rfl <| s1 (y_p rfl) rfl <| ?_
        refine s1 (y_p rfl) rfl <| s1 (add32 _ _ rfl rfl) rfl <| s1 (y_p rfl) rfl <| s1 (y_p rfl) rfl <| s1 (y_p rfl) rfl <| s1 (y_p rfl) rfl <| s1 (y_p rfl) rfl <| s1 (y_p rfl) rfl <| s1 (y_p rfl) rfl <| s1 (y_p rfl) rfl <| ?_
        refine at_nil ?_
        refine x_bn ?_
        refine x_tn ?_
        refine at_region ?_
        refine s1 (y_p rfl) rfl <| s1 (addN _ 1 rfl rfl rfl rfl (by omega)) rfl <| s1 (y_p rfl) rfl <| ?_
        refine at_nil ?_
        exact at_end (t + 1) (by omega) (by omega) [(2, some 2), (4, some 4), (5, some 5), (10, some 10)] hI rfl rfl ⟨⟨_, rfl, .p rfl⟩, ⟨_, rfl, .p rfl⟩, ⟨_, rfl, .p rfl⟩, ⟨_, rfl, .p rfl⟩, ⟨_, rfl, .pure pu⟩, ⟨_, rfl, .pure pu⟩, ⟨_, rfl, .pure pu⟩, ⟨_, rfl, .pure pu⟩, ⟨_, rfl, .pure pu⟩, ⟨_, rfl, .pure pu⟩, ⟨_, rfl, .pure pu⟩, ⟨_, rfl, .pure pu⟩, ⟨_, rfl, .pure pu⟩, trivial⟩ ⟨.inr ⟨_, _, rfl, rfl, .pure pul⟩, .inr ⟨_, _, rfl, rfl, .pure pul⟩, .inr ⟨_, _, rfl, rfl, .pure pul⟩, .inr ⟨_, _, rfl, rfl, .pure pul⟩, trivial⟩
      · have ht64 : t = 64 := by have := of_decide_eq_false hc96; omega
        subst ht64
        refine at_exit ?_
        refine x_te ?_
        refine x_te ?_
        refine x_be ?_
        refine x_tn ?_
        refine at_seq ?_
        refine at_region ?_
        refine s1 (y_ixa 0 Tryd.underlying103 ti102 rfl rfl rfl (by omega) rfl) rfl <| s1 (y_load ti102 rfl rfl rfl) rfl <| s1 (y_p rfl) rfl <| s1 (add32 _ _ rfl rfl) rfl <| s1 (y_ixa 1 Tryd.underlying103 ti102 rfl rfl rfl (by omega) rfl) rfl <| s1 (y_load ti102 rfl rfl rfl) rfl <| s1 (y_p rfl) rfl <| s1 (add32 _ _ rfl rfl) rfl <| s1 (y_ixa 2 Tryd.underlying103 ti102 rfl rfl rfl (by omega) rfl) rfl <| s1 (y_load ti102 rfl rfl rfl) rfl <| ?_
        refine s1 (y_p rfl) rfl <| s1 (add32 _ _ rfl rfl) rfl <| s1 (y_ixa 3 Tryd.underlying103 ti102 rfl rfl rfl (by omega) rfl) rfl <| s1 (y_load ti102 rfl rfl rfl) rfl <| s1 (y_p rfl) rfl <| s1 (add32 _ _ rfl rfl) rfl <| s1 (y_ixa 4 Tryd.underlying103 ti102 rfl rfl rfl (by omega) rfl) rfl <| s1 (y_load ti102 rfl rfl rfl) rfl <| s1 (y_p rfl) rfl <| s1 (add32 _ _ rfl rfl) rfl <| ?_
        refine s1 (y_ixa 5 Tryd.underlying103 ti102 rfl rfl rfl (by omega) rfl) rfl <| s1 (y_load ti102 rfl rfl rfl) rfl <| s1 (y_p rfl) rfl <| s1 (add32 _ _ rfl rfl) rfl <| s1 (y_ixa 6 Tryd.underlying103 ti102 rfl rfl rfl (by omega) rfl) rfl <| s1 (y_load ti102 rfl rfl rfl) rfl <| s1 (y_p rfl) rfl <| s1 (add32 _ _ rfl rfl) rfl <| s1 (y_ixa 7 Tryd.underlying103 ti102 rfl rfl rfl (by omega) rfl) rfl <| s1 (y_load ti102 rfl rfl rfl) rfl <| ?_
        refine s1 (y_p rfl) rfl <| s1 (add32 _ _ rfl rfl) rfl <| s1 (y_bldA (vs := [_, _, _, _, _, _, _, _]) ti103 rfl Tryd.underlying103 ti102 rfl rfl rfl rfl) rfl <| ?_
        refine at_op rfl (n_storeA ti103 rfl rfl rfl (by simp) (by simp) ?_)
        refine at_nil ?_
        refine x_tn ?_
        refine at_ret ?_
        refine at_result (rs := [.cell 4 103]) rfl (r_cellA ti103 rfl rfl rfl (by simp) r_nil) rfl
end Go.Abs.D2
