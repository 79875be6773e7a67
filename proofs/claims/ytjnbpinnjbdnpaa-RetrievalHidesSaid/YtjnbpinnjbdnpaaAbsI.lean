/-
  The second engine, part I: words. Conditions: none; nothing of any program stands here.
-/
import Derived.Test.YtjnbpinnjbdnpaaAbsH
namespace Go.Abs
open Go Go.Eng

/-! Words of 32 bits. -/
abbrev w32 (x : BitVec 32) : A := .i .u32 (x.toNat : Int)
abbrev c32 (n : Nat) : BitVec 32 := BitVec.ofNat 32 n
theorem wrapU32 (a : Nat) : IntKind.u32.wrap (a : Int) = ((a % 2 ^ 32 : Nat) : Int) := by
  simp only [IntKind.wrap, IntKind.bits, IntKind.signed]
  simp
theorem wrapU32i (x : BitVec 32) : IntKind.u32.wrap (x.toNat : Int) = (x.toNat : Int) := by
  rw [wrapU32, Nat.mod_eq_of_lt x.isLt]
theorem ofI32 (x : BitVec 32) : BitVec.ofInt 32 (x.toNat : Int) = x := by
  apply BitVec.eq_of_toNat_eq; simp
section
variable {P : Program} {E : Ev} {st : St} {t t' ty : TypeId} {x y : Operand}
theorem add32 (p q : BitVec 32) (hx : ev E x = some (w32 p)) (hy : ev E y = some (w32 q)) : YO P E st (.binOp .add t x y t') ty (w32 (p + q)) :=
  (y_p (v := .i .u32 (IntKind.u32.wrap ((p.toNat : Int) + (q.toNat : Int)))) (by simp only [pevA, hx, hy]; rfl)).v (by rw [← Int.natCast_add, wrapU32, ← BitVec.toNat_add])
theorem mul32 (p q : BitVec 32) (hx : ev E x = some (w32 p)) (hy : ev E y = some (w32 q)) : YO P E st (.binOp .mul t x y t') ty (w32 (p * q)) :=
  (y_p (v := .i .u32 (IntKind.u32.wrap ((p.toNat : Int) * (q.toNat : Int)))) (by simp only [pevA, hx, hy]; rfl)).v (by rw [← Int.natCast_mul, wrapU32, ← BitVec.toNat_mul])
theorem sub32 (p q : BitVec 32) (hx : ev E x = some (w32 p)) (hy : ev E y = some (w32 q)) (hle : q.toNat ≤ p.toNat) : YO P E st (.binOp .sub t x y t') ty (w32 (p - q)) :=
  (y_p (v := .i .u32 (IntKind.u32.wrap ((p.toNat : Int) - (q.toNat : Int)))) (by simp only [pevA, hx, hy]; rfl)).v (by
    have h1 := p.isLt
    rw [show (p.toNat : Int) - (q.toNat : Int) = ((p.toNat - q.toNat : Nat) : Int) by omega, wrapU32, Nat.mod_eq_of_lt (by omega), ← BitVec.toNat_sub_of_le (BitVec.le_def.2 hle)])
theorem xor32 (p q : BitVec 32) (hx : ev E x = some (w32 p)) (hy : ev E y = some (w32 q)) : YO P E st (.binOp .xor t x y t') ty (w32 (p ^^^ q)) :=
  (y_bits hx hy (.inr (.inr (.inl rfl)))).v (by
    show A.i .u32 (IntKind.u32.wrap (((BitVec.ofInt 32 (p.toNat : Int) ^^^ BitVec.ofInt 32 (q.toNat : Int)).toNat : Nat) : Int)) = _
    rw [ofI32, ofI32, wrapU32i])
theorem and32 (p q : BitVec 32) (hx : ev E x = some (w32 p)) (hy : ev E y = some (w32 q)) : YO P E st (.binOp .and t x y t') ty (w32 (p &&& q)) :=
  (y_bits hx hy (.inl rfl)).v (by
    show A.i .u32 (IntKind.u32.wrap (((BitVec.ofInt 32 (p.toNat : Int) &&& BitVec.ofInt 32 (q.toNat : Int)).toNat : Nat) : Int)) = _
    rw [ofI32, ofI32, wrapU32i])
theorem or32 (p q : BitVec 32) (hx : ev E x = some (w32 p)) (hy : ev E y = some (w32 q)) : YO P E st (.binOp .or t x y t') ty (w32 (p ||| q)) :=
  (y_bits hx hy (.inr (.inl rfl))).v (by
    show A.i .u32 (IntKind.u32.wrap (((BitVec.ofInt 32 (p.toNat : Int) ||| BitVec.ofInt 32 (q.toNat : Int)).toNat : Nat) : Int)) = _
    rw [ofI32, ofI32, wrapU32i])
theorem shl32 {k : IntKind} {j : Int} (p : BitVec 32) (n : Nat) (hx : ev E x = some (w32 p)) (hy : ev E y = some (.i k j)) (hj : j = (n : Int)) (hn : n ≤ 32) : YO P E st (.binOp .shl t x y t') ty (w32 (p <<< n)) := by
  subst hj
  refine (y_shl hx hy (by omega)).v ?_
  have h1 : min ((n : Int).toNat) IntKind.u32.bits = n := by simp [IntKind.bits]; omega
  rw [h1, show ((p.toNat : Int) * 2 ^ n) = ((p.toNat * 2 ^ n : Nat) : Int) by push_cast; rfl, wrapU32]
  simp only [w32, BitVec.toNat_shiftLeft, Nat.shiftLeft_eq]
theorem shr32 {k : IntKind} {j : Int} (p : BitVec 32) (n : Nat) (hx : ev E x = some (w32 p)) (hy : ev E y = some (.i k j)) (hj : j = (n : Int)) (hn : n ≤ 32) : YO P E st (.binOp .shr t x y t') ty (w32 (p >>> n)) := by
  subst hj
  refine (y_shr hx hy (by omega)).v ?_
  have h1 : min ((n : Int).toNat) IntKind.u32.bits = n := by simp [IntKind.bits]; omega
  rw [h1, Int.fdiv_eq_ediv_of_nonneg _ (by exact_mod_cast Nat.zero_le _), show ((2 : Int) ^ n) = ((2 ^ n : Nat) : Int) from by simp, ← Int.natCast_ediv]
  simp only [w32, BitVec.toNat_ushiftRight, Nat.shiftRight_eq_div_pow]
theorem not32 (p : BitVec 32) (hx : ev E x = some (w32 p)) : YO P E st (.unOp .xor t x) ty (w32 (~~~p)) := by
  intro w0 X0 n β X a w hr
  obtain ⟨_, h2⟩ := hr.evo hx
  rw [V_i] at h2
  refine ⟨.int .u32 (((~~~p).toNat : Nat) : Int), by simp only [V], fun d pos aft g w' _ => ?_⟩
  have h1 : (if IntKind.u32.signed then (-1 : Int) else IntKind.u32.max) = ((BitVec.allOnes 32).toNat : Int) := by decide
  have h3 : ibits .xor .u32 ((BitVec.allOnes 32).toNat : Int) (p.toNat : Int) = ((~~~p).toNat : Int) := by
    show IntKind.u32.wrap (((BitVec.ofInt 32 ((BitVec.allOnes 32).toNat : Int) ^^^ BitVec.ofInt 32 (p.toNat : Int)).toNat : Nat) : Int) = _
    rw [ofI32, ofI32, wrapU32i, BitVec.allOnes_xor]
  have h4 : (Op.intBits .xor .u32 ((BitVec.allOnes 32).toNat : Int) (p.toNat : Int)).run P w' = .ok (.int .u32 ((~~~p).toNat : Int)) w' := by
    rw [← h3]; simp [Op.intBits, ibits]
  simp only [execOp, h2, Op.unary]
  rw [h1, Sem.run_bind, h4]
  rfl
theorem of8_32 {src dst : TypeId} {ds : TypeDesc} (p : UInt8) (hs : P.underlying src = some ds) (ht : P.underlying dst = some (.int .u32)) (hx : ev E x = some (u8 p)) : YO P E st (.convert src dst x) ty (w32 (c32 p.toNat)) :=
  (y_conv hs ht hx).v (by rw [wrapU32]; simp only [w32, c32, BitVec.toNat_ofNat])
theorem to8_32 {src dst : TypeId} {ds : TypeDesc} (p : BitVec 32) (hs : P.underlying src = some ds) (ht : P.underlying dst = some (.int .u8)) (hx : ev E x = some (w32 p)) : YO P E st (.convert src dst x) ty (u8 (UInt8.ofNat p.toNat)) :=
  (y_conv hs ht hx).v (by
    show A.i .u8 (IntKind.u8.wrap (p.toNat : Int)) = A.i .u8 _
    simp only [IntKind.wrap, IntKind.bits, IntKind.signed]
    simp [UInt8.toNat_ofNat'])
theorem ofN_32 {src dst : TypeId} {ds : TypeDesc} {j : Int} {k : IntKind} (n : Nat) (hs : P.underlying src = some ds) (ht : P.underlying dst = some (.int .u32)) (hx : ev E x = some (.i k j)) (hj : j = (n : Int)) : YO P E st (.convert src dst x) ty (w32 (c32 n)) := by
  subst hj
  exact (y_conv hs ht hx).v (by rw [wrapU32]; simp only [w32, c32, BitVec.toNat_ofNat])
theorem eql32 (p q : BitVec 32) (hx : ev E x = some (w32 p)) (hy : ev E y = some (w32 q)) : YO P E st (.binOp .eql t x y t') ty (.b (p == q)) :=
  (y_p (v := .b ((p.toNat : Int) == (q.toNat : Int))) (by simp only [pevA, hx, hy]; rfl)).v (by
    congr 1
    rw [Bool.eq_iff_iff]
    simp only [beq_iff_eq]
    exact ⟨fun h => BitVec.eq_of_toNat_eq (Int.ofNat_inj.1 h), fun h => by rw [h]⟩)
end

/-! Words of 64 bits. -/
abbrev w64 (x : BitVec 64) : A := .i .u64 (x.toNat : Int)
abbrev c64 (n : Nat) : BitVec 64 := BitVec.ofNat 64 n
theorem wrapU64 (a : Nat) : IntKind.u64.wrap (a : Int) = ((a % 2 ^ 64 : Nat) : Int) := by
  simp only [IntKind.wrap, IntKind.bits, IntKind.signed]
  simp
theorem wrapU64i (x : BitVec 64) : IntKind.u64.wrap (x.toNat : Int) = (x.toNat : Int) := by
  rw [wrapU64, Nat.mod_eq_of_lt x.isLt]
theorem ofI64 (x : BitVec 64) : BitVec.ofInt 64 (x.toNat : Int) = x := by
  apply BitVec.eq_of_toNat_eq; simp
section
variable {P : Program} {E : Ev} {st : St} {t t' ty : TypeId} {x y : Operand}
theorem add64 (p q : BitVec 64) (hx : ev E x = some (w64 p)) (hy : ev E y = some (w64 q)) : YO P E st (.binOp .add t x y t') ty (w64 (p + q)) :=
  (y_p (v := .i .u64 (IntKind.u64.wrap ((p.toNat : Int) + (q.toNat : Int)))) (by simp only [pevA, hx, hy]; rfl)).v (by rw [← Int.natCast_add, wrapU64, ← BitVec.toNat_add])
theorem mul64 (p q : BitVec 64) (hx : ev E x = some (w64 p)) (hy : ev E y = some (w64 q)) : YO P E st (.binOp .mul t x y t') ty (w64 (p * q)) :=
  (y_p (v := .i .u64 (IntKind.u64.wrap ((p.toNat : Int) * (q.toNat : Int)))) (by simp only [pevA, hx, hy]; rfl)).v (by rw [← Int.natCast_mul, wrapU64, ← BitVec.toNat_mul])
theorem sub64 (p q : BitVec 64) (hx : ev E x = some (w64 p)) (hy : ev E y = some (w64 q)) (hle : q.toNat ≤ p.toNat) : YO P E st (.binOp .sub t x y t') ty (w64 (p - q)) :=
  (y_p (v := .i .u64 (IntKind.u64.wrap ((p.toNat : Int) - (q.toNat : Int)))) (by simp only [pevA, hx, hy]; rfl)).v (by
    have h1 := p.isLt
    rw [show (p.toNat : Int) - (q.toNat : Int) = ((p.toNat - q.toNat : Nat) : Int) by omega, wrapU64, Nat.mod_eq_of_lt (by omega), ← BitVec.toNat_sub_of_le (BitVec.le_def.2 hle)])
theorem xor64 (p q : BitVec 64) (hx : ev E x = some (w64 p)) (hy : ev E y = some (w64 q)) : YO P E st (.binOp .xor t x y t') ty (w64 (p ^^^ q)) :=
  (y_bits hx hy (.inr (.inr (.inl rfl)))).v (by
    show A.i .u64 (IntKind.u64.wrap (((BitVec.ofInt 64 (p.toNat : Int) ^^^ BitVec.ofInt 64 (q.toNat : Int)).toNat : Nat) : Int)) = _
    rw [ofI64, ofI64, wrapU64i])
theorem and64 (p q : BitVec 64) (hx : ev E x = some (w64 p)) (hy : ev E y = some (w64 q)) : YO P E st (.binOp .and t x y t') ty (w64 (p &&& q)) :=
  (y_bits hx hy (.inl rfl)).v (by
    show A.i .u64 (IntKind.u64.wrap (((BitVec.ofInt 64 (p.toNat : Int) &&& BitVec.ofInt 64 (q.toNat : Int)).toNat : Nat) : Int)) = _
    rw [ofI64, ofI64, wrapU64i])
theorem or64 (p q : BitVec 64) (hx : ev E x = some (w64 p)) (hy : ev E y = some (w64 q)) : YO P E st (.binOp .or t x y t') ty (w64 (p ||| q)) :=
  (y_bits hx hy (.inr (.inl rfl))).v (by
    show A.i .u64 (IntKind.u64.wrap (((BitVec.ofInt 64 (p.toNat : Int) ||| BitVec.ofInt 64 (q.toNat : Int)).toNat : Nat) : Int)) = _
    rw [ofI64, ofI64, wrapU64i])
theorem shl64 {k : IntKind} {j : Int} (p : BitVec 64) (n : Nat) (hx : ev E x = some (w64 p)) (hy : ev E y = some (.i k j)) (hj : j = (n : Int)) (hn : n ≤ 64) : YO P E st (.binOp .shl t x y t') ty (w64 (p <<< n)) := by
  subst hj
  refine (y_shl hx hy (by omega)).v ?_
  have h1 : min ((n : Int).toNat) IntKind.u64.bits = n := by simp [IntKind.bits]; omega
  rw [h1, show ((p.toNat : Int) * 2 ^ n) = ((p.toNat * 2 ^ n : Nat) : Int) by push_cast; rfl, wrapU64]
  simp only [w64, BitVec.toNat_shiftLeft, Nat.shiftLeft_eq]
theorem shr64 {k : IntKind} {j : Int} (p : BitVec 64) (n : Nat) (hx : ev E x = some (w64 p)) (hy : ev E y = some (.i k j)) (hj : j = (n : Int)) (hn : n ≤ 64) : YO P E st (.binOp .shr t x y t') ty (w64 (p >>> n)) := by
  subst hj
  refine (y_shr hx hy (by omega)).v ?_
  have h1 : min ((n : Int).toNat) IntKind.u64.bits = n := by simp [IntKind.bits]; omega
  rw [h1, Int.fdiv_eq_ediv_of_nonneg _ (by exact_mod_cast Nat.zero_le _), show ((2 : Int) ^ n) = ((2 ^ n : Nat) : Int) from by simp, ← Int.natCast_ediv]
  simp only [w64, BitVec.toNat_ushiftRight, Nat.shiftRight_eq_div_pow]
theorem not64 (p : BitVec 64) (hx : ev E x = some (w64 p)) : YO P E st (.unOp .xor t x) ty (w64 (~~~p)) := by
  intro w0 X0 n β X a w hr
  obtain ⟨_, h2⟩ := hr.evo hx
  rw [V_i] at h2
  refine ⟨.int .u64 (((~~~p).toNat : Nat) : Int), by simp only [V], fun d pos aft g w' _ => ?_⟩
  have h1 : (if IntKind.u64.signed then (-1 : Int) else IntKind.u64.max) = ((BitVec.allOnes 64).toNat : Int) := by decide
  have h3 : ibits .xor .u64 ((BitVec.allOnes 64).toNat : Int) (p.toNat : Int) = ((~~~p).toNat : Int) := by
    show IntKind.u64.wrap (((BitVec.ofInt 64 ((BitVec.allOnes 64).toNat : Int) ^^^ BitVec.ofInt 64 (p.toNat : Int)).toNat : Nat) : Int) = _
    rw [ofI64, ofI64, wrapU64i, BitVec.allOnes_xor]
  have h4 : (Op.intBits .xor .u64 ((BitVec.allOnes 64).toNat : Int) (p.toNat : Int)).run P w' = .ok (.int .u64 ((~~~p).toNat : Int)) w' := by
    rw [← h3]; simp [Op.intBits, ibits]
  simp only [execOp, h2, Op.unary]
  rw [h1, Sem.run_bind, h4]
  rfl
theorem of8_64 {src dst : TypeId} {ds : TypeDesc} (p : UInt8) (hs : P.underlying src = some ds) (ht : P.underlying dst = some (.int .u64)) (hx : ev E x = some (u8 p)) : YO P E st (.convert src dst x) ty (w64 (c64 p.toNat)) :=
  (y_conv hs ht hx).v (by rw [wrapU64]; simp only [w64, c64, BitVec.toNat_ofNat])
theorem to8_64 {src dst : TypeId} {ds : TypeDesc} (p : BitVec 64) (hs : P.underlying src = some ds) (ht : P.underlying dst = some (.int .u8)) (hx : ev E x = some (w64 p)) : YO P E st (.convert src dst x) ty (u8 (UInt8.ofNat p.toNat)) :=
  (y_conv hs ht hx).v (by
    show A.i .u8 (IntKind.u8.wrap (p.toNat : Int)) = A.i .u8 _
    simp only [IntKind.wrap, IntKind.bits, IntKind.signed]
    simp [UInt8.toNat_ofNat'])
theorem ofN_64 {src dst : TypeId} {ds : TypeDesc} {j : Int} {k : IntKind} (n : Nat) (hs : P.underlying src = some ds) (ht : P.underlying dst = some (.int .u64)) (hx : ev E x = some (.i k j)) (hj : j = (n : Int)) : YO P E st (.convert src dst x) ty (w64 (c64 n)) := by
  subst hj
  exact (y_conv hs ht hx).v (by rw [wrapU64]; simp only [w64, c64, BitVec.toNat_ofNat])
theorem eql64 (p q : BitVec 64) (hx : ev E x = some (w64 p)) (hy : ev E y = some (w64 q)) : YO P E st (.binOp .eql t x y t') ty (.b (p == q)) :=
  (y_p (v := .b ((p.toNat : Int) == (q.toNat : Int))) (by simp only [pevA, hx, hy]; rfl)).v (by
    congr 1
    rw [Bool.eq_iff_iff]
    simp only [beq_iff_eq]
    exact ⟨fun h => BitVec.eq_of_toNat_eq (Int.ofNat_inj.1 h), fun h => by rw [h]⟩)
end

/-- A byte of a part. -/
theorem getU8 (b : List UInt8) {cs : List A} {o k m : Nat} (i : Nat) (hi : i < b.length) (h : i = o + k) (hk : k < m) (hc : cs = (((b.map u8).drop (o * 1)).take (m * 1)).drop (k * 1)) : cs[0]? = some (u8 (b.getD i 0)) := by
  subst hc; subst h
  rw [List.getElem?_drop, List.getElem?_take, if_pos (by omega), List.getElem?_drop, List.getElem?_map, show o * 1 + (k * 1 + 0) = o + k by omega, List.getElem?_eq_getElem hi, List.getD_eq_getElem?_getD, List.getElem?_eq_getElem hi]
  rfl
/-- A byte of a whole. -/
theorem getB {b : List UInt8} {cs : List A} (i : Nat) (hi : i < b.length) (hc : cs = (b.map u8).drop (i * 1)) : cs[0]? = some (u8 (b.getD i 0)) := by
  subst hc
  rw [List.getElem?_drop, List.getElem?_map, show i * 1 + 0 = i by omega, List.getElem?_eq_getElem hi, List.getD_eq_getElem?_getD, List.getElem?_eq_getElem hi]
  rfl
end Go.Abs
