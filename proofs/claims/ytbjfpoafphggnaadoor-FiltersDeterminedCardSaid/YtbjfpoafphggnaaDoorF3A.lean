/-
  Layer 33's plain law: the bytes of parts. Conditions: none; nothing of any program stands here.
-/
import Derived.Test.YtbjfpoafphggnaaDoorD2T
import Derived.Test.YtbjfpoafphggnaaDoorAbsP
namespace Go.Abs.D2
open Go Go.Eng Go.Abs

/-- A part: a digest, a byte, a number of 4 bytes. -/
inductive Part where
  | d (x : List UInt8) | b (x : UInt8) | w (x : BitVec 32)
/-- .. as an interface's value: the numbers of the three types. -/
def Part.a (tD tB tW : TypeId) : Part → A
  | .d x => .ic tD (.ag (x.map u8))
  | .b x => .ic tB (u8 x)
  | .w x => .ic tW (w32 x)
def be32 (x : BitVec 32) : List UInt8 := [UInt8.ofNat (x >>> 24).toNat, UInt8.ofNat (x >>> 16).toNat, UInt8.ofNat (x >>> 8).toNat, UInt8.ofNat x.toNat]
@[simp] theorem len_be32 (x : BitVec 32) : (be32 x).length = 4 := rfl
def Part.bs : Part → List UInt8
  | .d x => x
  | .b x => [x]
  | .w x => be32 x
def Part.ok : Part → Prop
  | .d x => x.length = 32
  | _ => True
def bytesP (ps : List Part) : List UInt8 := (ps.map Part.bs).flatten
theorem bytesP_next {ps : List Part} {i : Nat} {p : Part} (h : ps[i]? = some p) : bytesP (ps.take i) ++ p.bs = bytesP (ps.take (i + 1)) := by
  unfold bytesP
  rw [List.take_add_one, h]; simp
theorem len_bs {p : Part} (h : p.ok) : p.bs.length ≤ 32 := by
  cases p with
  | d x => exact Nat.le_of_eq h
  | b x => simp [Part.bs]
  | w x => simp [Part.bs, be32]
theorem len_bytesP : ∀ {ps : List Part}, (∀ p ∈ ps, p.ok) → (bytesP ps).length ≤ 32 * ps.length
  | [], _ => by simp [bytesP]
  | p :: ps, h => by
    have h1 := len_bs (h p (.head _))
    have h2 := len_bytesP (ps := ps) fun q hq => h q (.tail _ hq)
    unfold bytesP at *
    simp only [List.map_cons, List.flatten_cons, List.length_append, List.length_cons]
    omega
theorem getPa {tD tB tW : TypeId} {ps : List Part} {i : Nat} {p : Part} (h : ps[i]? = some p) : ((ps.map (Part.a tD tB tW)).drop (i * 1))[0]? = some (p.a tD tB tW) := by
  rw [List.getElem?_drop, show i * 1 + 0 = i by omega, List.getElem?_map, h]; rfl
theorem bytesP_step {ps : List Part} {i : Nat} {p : Part} {r : List A} (h : ps[i]? = some p) (hr : r = p.bs.map u8) : (bytesP (ps.take i)).map u8 ++ r = (bytesP (ps.take (i + 1))).map u8 := by
  rw [← bytesP_next h, hr, List.map_append]
/-! The number that four bytes tell. -/
def numD (d : List UInt8) (o : Nat) : Nat → Nat
  | 0 => 0
  | j + 1 => numD d o j * 256 + (d.getD (o + j) 0).toNat
theorem numD_lt (d : List UInt8) (o : Nat) : ∀ j, numD d o j < 256 ^ j
  | 0 => by simp [numD]
  | j + 1 => by
    have h1 := numD_lt d o j
    have h2 := (d.getD (o + j) 0).toNat_lt
    rw [numD, Nat.pow_succ]
    omega
theorem or_byte (n : Nat) (b : UInt8) (h : n < 16777216) : ibits .or .i64 ((n * 256 : Nat) : Int) (b.toNat : Int) = ((n * 256 + b.toNat : Nat) : Int) := by
  have hb := b.toNat_lt
  have e : (BitVec.ofInt 64 ((n * 256 : Nat) : Int) ||| BitVec.ofInt 64 (b.toNat : Int)).toNat = (n * 256 ||| b.toNat) % 2 ^ 64 := by
    rw [BitVec.toNat_or]
    simp only [BitVec.ofInt_natCast, BitVec.toNat_ofNat]
    rw [Nat.or_mod_two_pow]
  have e2 : n * 256 ||| b.toNat = n * 256 + b.toNat := by
    rw [Nat.mul_comm, show (256 : Nat) = 2 ^ 8 from rfl, Nat.two_pow_add_eq_or_of_lt hb]
  show IntKind.i64.wrap ((BitVec.ofInt 64 ((n * 256 : Nat) : Int) ||| BitVec.ofInt 64 (b.toNat : Int)).toNat : Int) = _
  have e3 : (n * 256 + b.toNat) % 2 ^ 64 = n * 256 + b.toNat := Nat.mod_eq_of_lt (by omega)
  rw [e, e2, e3]
  exact wrapI _ (by omega) (by omega)
theorem shl_byte (n : Nat) (h : n < 16777216) : IntKind.i64.wrap ((n : Int) * 2 ^ min ((8 : Int).toNat) IntKind.i64.bits) = ((n * 256 : Nat) : Int) := by
  show IntKind.i64.wrap ((n : Int) * 256) = _
  rw [wrapI _ (by omega) (by omega)]
  omega
@[irreducible] def filD (x : List UInt8) (lv id : Nat) : List UInt8 := tagged [102, 105, 108, 116, 101, 114] (x ++ UInt8.ofNat lv :: be32 (BitVec.ofNat 32 id))
theorem filD_eq (x : List UInt8) (lv id : Nat) : filD x lv id = tagged [102, 105, 108, 116, 101, 114] (x ++ UInt8.ofNat lv :: be32 (BitVec.ofNat 32 id)) := by unfold filD; rfl
@[simp] theorem len_filD (x : List UInt8) (lv id : Nat) : (filD x lv id).length = 32 := by rw [filD_eq]; simp
/-- The bits of a number. -/
def bitL (x : List UInt8) (lv nb id i : Nat) : List Nat := (List.range i).map fun j => numD (filD x lv id) (4 * j) 4 % nb
theorem bitL_succ (x : List UInt8) (lv nb id i : Nat) : bitL x lv nb id (i + 1) = bitL x lv nb id i ++ [numD (filD x lv id) (4 * i) 4 % nb] := by simp [bitL, List.range_succ]
@[simp] theorem len_bitL (x : List UInt8) (lv nb id i : Nat) : (bitL x lv nb id i).length = i := by simp [bitL]
abbrev nJ (n : Nat) : A := .i .i64 (n : Int)
theorem getO3 {m : List UInt8} {o : Nat} (k : Nat) (hi : o + k < m.length) {cs : List A} (hc : cs = (m.map u8).drop (0 + o * 1 + k * 1)) : cs[0]? = some (u8 (m.getD (o + k) 0)) := by
  subst hc
  rw [List.getElem?_drop, show 0 + o * 1 + k * 1 + 0 = o + k by omega]
  simp [hi]
theorem conv8J (b : UInt8) : A.i .i64 (IntKind.i64.wrap (b.toNat : Int)) = nJ b.toNat := by
  have := b.toNat_lt
  exact congrArg (A.i .i64) (wrapI _ (by omega) (by omega))
def sizedP (a b : Int) : Prop := 0 ≤ a ∧ a < 16 ∧ 8 ≤ b ∧ b ≤ 4096
instance (a b : Int) : Decidable (sizedP a b) := by unfold sizedP; infer_instance
end Go.Abs.D2
