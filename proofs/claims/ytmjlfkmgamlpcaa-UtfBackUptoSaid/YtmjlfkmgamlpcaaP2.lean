/- Texts that the proofs of this claim share, part 2: the abstract logic, plain Lean on values and batches, and walks. No condition but those typed in each lemma. -/
import Derived.Test.YtmjlfkmgamlpcaaProg
import Derived.KernelRfl
import Derived.Test.YtmjlfkmgamlpcaaP1
set_option linter.unusedSimpArgs false
set_option linter.unusedVariables false
namespace Go.Proofs
open Go Go.Al
set_option maxRecDepth 10000
theorem mixed : Try.prog.follows .mixedOrders = true := by kernel_rfl
def Γ0 : List (Nat × AV) := []
theorem tS5 : tySize Try.prog 5 = some 1 := by kernel_rfl
def z5 : AV := .v (.int .u8 0)
theorem zv5 : tyZero Try.prog 5 = some (.int .u8 0) := by kernel_rfl
theorem by5 : (Try.prog.info? 5).map (·.bytes) = some 1 := by kernel_rfl
theorem tZ5 : IsZero Try.prog 5 z5 := ⟨.int .u8 0, by kernel_rfl, by kernel_rfl⟩
end Go.Proofs

namespace Go.Proofs
open Go Go.Al

/-! The functions of package utf and of its reference, in plain Lean. -/
def w64 (n : Int) : Int := IntKind.i64.wrap n
def lengthM (c : Int) : Int := if c < 128 then 1 else if c < 194 then 0 else if c < 224 then 2 else if c < 240 then 3 else if c < 245 then 4 else 0
def leastM (k : Int) : Int := if k = 2 then 128 else if k = 3 then 2048 else if k = 4 then 65536 else 0
def sizeM (r : Int) : Int := if r < 128 then 1 else if r < 2048 then 2 else if r < 65536 then 3 else 4
def isM (r : Int) : Bool := decide ((r ≥ 0 ∧ r < 55296) ∨ (r ≥ 57344 ∧ r < 1114112))
def isR (r : Int) : Bool := decide (r ≥ 0 ∧ r ≤ 1114111 ∧ (r < 55296 ∨ r > 57343))
def stepM (r b : Int) : Int := bitsOf (· ||| ·) .i32 (IntKind.i32.wrap (r * 2 ^ (min (6 : Int).toNat (IntKind.bits .i32)))) (IntKind.i32.wrap (bitsOf (· &&& ·) .u8 b 63))
def r0M (c k : Int) : Int := bitsOf (· &&& ·) .i32 (IntKind.i32.wrap c) ((127 : Int).fdiv (2 ^ (min k.toNat (IntKind.bits .i32))))
def badM (b : Int) : Bool := bitsOf (· &&& ·) .u8 b 192 != 128
def runeLoop (s : ByteArray) (p : Int) : Nat → Int → Int → Option Int
  | 0, _, r => some r
  | n + 1, i, r => if badM (bAt s (p + i)) = true then none else runeLoop s p n (i + 1) (stepM r (bAt s (p + i)))
def runeM (s : ByteArray) (p : Int) : Int × Int :=
  if p < 0 ∨ p ≥ s.size then (0, 0) else
  if lengthM (bAt s p) = 0 ∨ lengthM (bAt s p) > s.size - p then (0, 0) else
  if lengthM (bAt s p) = 1 then (IntKind.i32.wrap (bAt s p), 1) else
  match runeLoop s p (lengthM (bAt s p) - 1).toNat 1 (r0M (bAt s p) (lengthM (bAt s p))) with
  | none => (0, 0)
  | some r => if r < leastM (lengthM (bAt s p)) ∨ isM r = false then (0, 0) else (r, lengthM (bAt s p))

/-- How far the places `f` goes from `p` on: there it ends. -/
def goM (f : Int → Int) (n : Int) : Nat → Int → Int → Int × Int
  | 0, p, c => (p, c)
  | m + 1, p, c => if p < n then (if f p = 0 then (p, c) else goM f n m (p + f p) (c + 1)) else (p, c)
def cutG (f : Int → Int) (n lim : Int) : Nat → Int → Int
  | 0, p => p
  | m + 1, p => if p < n then (if f p = 0 ∨ p + f p > lim then p else cutG f n lim m (p + f p)) else p
def fM (s : ByteArray) (p : Int) : Int := (runeM s p).2
def endM (s : ByteArray) : Int × Int := goM (fM s) s.size (s.size + 1) 0 0
def checkM (s : ByteArray) : Int := if (endM s).1 < s.size then (endM s).1 else -1
def countM (s : ByteArray) : Int := if (endM s).1 < s.size then -1 else (endM s).2
def cutM (s : ByteArray) (n : Int) : Int := cutG (fM s) s.size n (s.size + 1) 0
def contM (n : Int) : Int := bitsOf (· ||| ·) .u8 128 (bitsOf (· &&& ·) .u8 (IntKind.u8.wrap n) 63)
def headM (r k : Int) : Int := bitsOf (· ||| ·) .u8 (IntKind.u8.wrap (240 * 2 ^ (min (w64 (4 - k)).toNat (IntKind.bits .u8)))) (IntKind.u8.wrap (r.fdiv (2 ^ (min (w64 (6 * w64 (k - 1))).toNat (IntKind.bits .i32)))))
def bytesP (r : Int) : List UInt8 :=
  if sizeM r = 1 then [ofI (IntKind.u8.wrap r)] else
  if sizeM r = 2 then [ofI (headM r (sizeM r)), ofI (contM r)] else
  if sizeM r = 3 then [ofI (headM r (sizeM r)), ofI (contM (r.fdiv (2 ^ (min (6 : Int).toNat (IntKind.bits .i32))))), ofI (contM r)] else
  [ofI (headM r (sizeM r)), ofI (contM (r.fdiv (2 ^ (min (12 : Int).toNat (IntKind.bits .i32))))), ofI (contM (r.fdiv (2 ^ (min (6 : Int).toNat (IntKind.bits .i32))))), ofI (contM r)]
def putM (l : List UInt8) (r : Int) : List UInt8 := if isM r then l ++ bytesP r else l

-- the reference
def guessLoop (s : ByteArray) : Nat → Int → Int → Int
  | 0, _, n => n
  | m + 1, i, n => if i ≥ s.size then -1 else guessLoop s m (i + 1) (64 * n + bAt s i - 128)
def guessM (s : ByteArray) : Int :=
  if bAt s 0 < 128 then bAt s 0 else if bAt s 0 ≥ 240 then guessLoop s 3 1 (bAt s 0 - 240) else if bAt s 0 ≥ 224 then guessLoop s 2 1 (bAt s 0 - 224) else guessLoop s 1 1 (bAt s 0 - 192)
def topM (k n d : Int) : UInt8 := ofI (IntKind.u8.wrap (w64 (k + w64 (n.tdiv d))))
def midM (n d : Int) : UInt8 := ofI (IntKind.u8.wrap (w64 (128 + (w64 (n.tdiv d)).tmod 64)))
def lowM (n : Int) : UInt8 := ofI (IntKind.u8.wrap (w64 (128 + n.tmod 64)))
def bytesM (r : Int) : List UInt8 :=
  if w64 r < 128 then [ofI (IntKind.u8.wrap (w64 r))] else
  if w64 r < 2048 then [topM 192 (w64 r) 64, lowM (w64 r)] else
  if w64 r < 65536 then [topM 224 (w64 r) 4096, midM (w64 r) 64, lowM (w64 r)] else
  [topM 240 (w64 r) 262144, midM (w64 r) 4096, midM (w64 r) 64, lowM (w64 r)]
def rRuneM (s : ByteArray) (p : Int) : Int × Int :=
  if p < 0 ∨ p ≥ s.size then (0, 0) else
  if guessM (s.extract p.toNat s.size) < 0 ∨ guessM (s.extract p.toNat s.size) > 1114111 ∨ isR (guessM (s.extract p.toNat s.size)) = false then (0, 0) else
  if ((strOf (bytesM (guessM (s.extract p.toNat s.size)))).size : Int) > s.size - p ∨ s.extract p.toNat (p + (strOf (bytesM (guessM (s.extract p.toNat s.size)))).size).toNat ≠ strOf (bytesM (guessM (s.extract p.toNat s.size))) then (0, 0) else
  (guessM (s.extract p.toNat s.size), (strOf (bytesM (guessM (s.extract p.toNat s.size)))).size)
def rF (s : ByteArray) (p : Int) : Int := (rRuneM s p).2
def rEnd (s : ByteArray) : Int × Int := goM (rF s) s.size (s.size + 1) 0 0
def rCheckM (s : ByteArray) : Int := if (rEnd s).1 = s.size then -1 else (rEnd s).1
def rCountM (s : ByteArray) : Int := if (rEnd s).1 < s.size then -1 else (rEnd s).2
def rCutLoop (s : ByteArray) : Nat → ByteArray
  | 0 => .empty
  | k + 1 => if rCheckM (s.extract 0 (k + 1)) = -1 then s.extract 0 (k + 1) else rCutLoop s k
def rCutM (s : ByteArray) (n : Int) : ByteArray := rCutLoop s (if s.size < n then (s.size : Int) else n).toNat

end Go.Proofs
namespace Go.Proofs
open Go Go.Al
theorem lengthM_range (c : Int) : 0 ≤ lengthM c ∧ lengthM c ≤ 4 := by
  unfold lengthM
  (repeat' split)
  all_goals omega
end Go.Proofs
namespace Go.Proofs
open Go Go.Al
end Go.Proofs
namespace Go.Proofs
open Go Go.Al
theorem strOf_size_le (r : Int) : 1 ≤ (strOf (bytesM r)).size ∧ (strOf (bytesM r)).size ≤ 4 := by
  rw [strOf_size]
  unfold bytesM
  (repeat' split)
  all_goals simp
/-- A decoder: how long is what begins at a place, if anything does. -/
def Dec (f : Int → Int) (n : Nat) : Prop := ∀ p : Int, 0 ≤ p → p < n → f p = 0 ∨ (1 ≤ f p ∧ p + f p ≤ n)
theorem dec_fM (s : ByteArray) : Dec (fM s) s.size := by
  intro p h0 h1
  unfold fM runeM
  have := lengthM_range (bAt s p)
  (repeat' split)
  all_goals (dsimp only; omega)
end Go.Proofs
namespace Go.Proofs
open Go Go.Al
theorem sizeM_range (c : Int) : 1 ≤ sizeM c ∧ sizeM c ≤ 4 := by
  unfold sizeM
  (repeat' split)
  all_goals omega
theorem bits8_lt (f : {n : Nat} → BitVec n → BitVec n → BitVec n) (a b : Int) : 0 ≤ bitsOf f .u8 a b ∧ bitsOf f .u8 a b < 256 := wrap8_lt _
theorem bytesL_bits (l : List UInt8) (f : {n : Nat} → BitVec n → BitVec n → BitVec n) (a b : Int) : bytesL l ++ [.v (.int .u8 (bitsOf f .u8 a b))] = bytesL (l ++ [ofI (bitsOf f .u8 a b)]) := bytesL_snoc (bits8_lt f a b)
theorem bytesL_wrap (l : List UInt8) (n : Int) : bytesL l ++ [.v (.int .u8 (IntKind.u8.wrap n))] = bytesL (l ++ [ofI (IntKind.u8.wrap n)]) := bytesL_snoc (wrap8_lt n)
theorem bytesL_len (l : List UInt8) : (bytesL l).length = l.length := by simp [bytesL]
end Go.Proofs

namespace Go.Proofs
open Go Go.Al

/-! ### Bits -/
theorem bits_and8 (a b : Int) (ha : 0 ≤ a ∧ a < 256) (hb : 0 ≤ b ∧ b < 256) : bitsOf (· &&& ·) .u8 a b = ((a.toNat &&& b.toNat : Nat) : Int) := by
  have h1 : (BitVec.ofInt 8 a).toNat = a.toNat := by rw [BitVec.toNat_ofInt]; omega
  have h2 : (BitVec.ofInt 8 b).toNat = b.toNat := by rw [BitVec.toNat_ofInt]; omega
  show IntKind.u8.wrap ((BitVec.ofInt 8 a &&& BitVec.ofInt 8 b).toNat) = _
  rw [BitVec.toNat_and, h1, h2]
  have := @Nat.and_le_left a.toNat b.toNat
  exact wrap8 (by omega) (by omega)
theorem bits_or8 (a b : Int) (ha : 0 ≤ a ∧ a < 256) (hb : 0 ≤ b ∧ b < 256) : bitsOf (· ||| ·) .u8 a b = ((a.toNat ||| b.toNat : Nat) : Int) := by
  have h1 : (BitVec.ofInt 8 a).toNat = a.toNat := by rw [BitVec.toNat_ofInt]; omega
  have h2 : (BitVec.ofInt 8 b).toNat = b.toNat := by rw [BitVec.toNat_ofInt]; omega
  show IntKind.u8.wrap ((BitVec.ofInt 8 a ||| BitVec.ofInt 8 b).toNat) = _
  rw [BitVec.toNat_or, h1, h2]
  have : a.toNat ||| b.toNat < 2 ^ 8 := Nat.or_lt_two_pow (by omega) (by omega)
  exact wrap8 (by omega) (by omega)
theorem bits_or32 (a b : Int) (ha : 0 ≤ a ∧ a < 1073741824) (hb : 0 ≤ b ∧ b < 1073741824) : bitsOf (· ||| ·) .i32 a b = ((a.toNat ||| b.toNat : Nat) : Int) := by
  have h1 : (BitVec.ofInt 32 a).toNat = a.toNat := by rw [BitVec.toNat_ofInt]; omega
  have h2 : (BitVec.ofInt 32 b).toNat = b.toNat := by rw [BitVec.toNat_ofInt]; omega
  show IntKind.i32.wrap ((BitVec.ofInt 32 a ||| BitVec.ofInt 32 b).toNat) = _
  rw [BitVec.toNat_or, h1, h2]
  have : a.toNat ||| b.toNat < 2 ^ 30 := Nat.or_lt_two_pow (by omega) (by omega)
  exact wrap32 (by omega) (by omega)
theorem bits_and32 (a b : Int) (ha : 0 ≤ a ∧ a < 1073741824) (hb : 0 ≤ b ∧ b < 1073741824) : bitsOf (· &&& ·) .i32 a b = ((a.toNat &&& b.toNat : Nat) : Int) := by
  have h1 : (BitVec.ofInt 32 a).toNat = a.toNat := by rw [BitVec.toNat_ofInt]; omega
  have h2 : (BitVec.ofInt 32 b).toNat = b.toNat := by rw [BitVec.toNat_ofInt]; omega
  show IntKind.i32.wrap ((BitVec.ofInt 32 a &&& BitVec.ofInt 32 b).toNat) = _
  rw [BitVec.toNat_and, h1, h2]
  have := @Nat.and_le_left a.toNat b.toNat
  exact wrap32 (by omega) (by omega)

theorem nat192 : ∀ b, b < 256 → ((b &&& 192) = 128 ↔ 128 ≤ b ∧ b < 192) := by decide +kernel
theorem nat63 (b : Nat) : (b &&& 63) = b % 64 := Nat.and_two_pow_sub_one_eq_mod b 6
theorem nator64 (a b : Nat) (h : b < 64) : a * 64 ||| b = a * 64 + b := by
  have := Nat.two_pow_add_eq_or_of_lt (i := 6) h a
  rw [Nat.mul_comm a 64]; exact this.symm

def isC (b : Int) : Prop := 128 ≤ b ∧ b < 192
theorem bad_iff (b : Int) (h : 0 ≤ b ∧ b < 256) : badM b = true ↔ ¬ isC b := by
  have := nat192 b.toNat (by omega)
  unfold badM isC
  rw [bits_and8 b 192 h (by omega), bne_iff_ne, ne_eq, show (192 : Int).toNat = 192 from rfl]
  constructor
  · intro h1 h2; exact h1 (by have := this.2 (by omega); omega)
  · intro h1 h2; exact h1 (by have := this.1 (by omega); omega)
theorem step_eq (r b : Int) (hr : 0 ≤ r ∧ r < 1000000) (hb : isC b) : stepM r b = 64 * r + (b - 128) := by
  unfold isC at hb
  unfold stepM
  have e1 : IntKind.i32.wrap (r * 2 ^ (min (6 : Int).toNat (IntKind.bits .i32))) = r * 64 := wrap32 (n := r * 64) (by omega) (by omega)
  have e2 : bitsOf (· &&& ·) .u8 b 63 = b - 128 := by
    rw [bits_and8 b 63 (by omega) (by omega), show (63 : Int).toNat = 63 from rfl, nat63]; omega
  rw [e1, e2, wrap32 (by omega) (by omega), bits_or32 _ _ (by omega) (by omega)]
  have : (r * 64).toNat = r.toNat * 64 := by omega
  rw [this, nator64 _ _ (by omega)]
  omega
theorem r0_2 (c : Int) (h : 192 ≤ c ∧ c < 224) : r0M c 2 = c - 192 := by
  unfold r0M
  rw [wrap32 (by omega) (by omega)]
  have e : ((127 : Int).fdiv (2 ^ (min (2 : Int).toNat (IntKind.bits .i32)))) = 31 := by decide
  rw [e, bits_and32 _ _ (by omega) (by omega), show (31 : Int).toNat = 31 from rfl, Nat.and_two_pow_sub_one_eq_mod c.toNat 5]
  omega
theorem r0_3 (c : Int) (h : 224 ≤ c ∧ c < 240) : r0M c 3 = c - 224 := by
  unfold r0M
  rw [wrap32 (by omega) (by omega)]
  have e : ((127 : Int).fdiv (2 ^ (min (3 : Int).toNat (IntKind.bits .i32)))) = 15 := by decide
  rw [e, bits_and32 _ _ (by omega) (by omega), show (15 : Int).toNat = 15 from rfl, Nat.and_two_pow_sub_one_eq_mod c.toNat 4]
  omega
theorem r0_4 (c : Int) (h : 240 ≤ c ∧ c < 248) : r0M c 4 = c - 240 := by
  unfold r0M
  rw [wrap32 (by omega) (by omega)]
  have e : ((127 : Int).fdiv (2 ^ (min (4 : Int).toNat (IntKind.bits .i32)))) = 7 := by decide
  rw [e, bits_and32 _ _ (by omega) (by omega), show (7 : Int).toNat = 7 from rfl, Nat.and_two_pow_sub_one_eq_mod c.toNat 3]
  omega
end Go.Proofs

namespace Go.Proofs
open Go Go.Al

instance (b : Int) : Decidable (isC b) := by unfold isC; infer_instance
def r3 (b0 b1 b2 : Int) : Int := 64 * (64 * (b0 - 224) + (b1 - 128)) + (b2 - 128)
def r4 (b0 b1 b2 b3 : Int) : Int := 64 * (64 * (64 * (b0 - 240) + (b1 - 128)) + (b2 - 128)) + (b3 - 128)
def ok2 (n b0 b1 : Int) : Prop := 194 ≤ b0 ∧ b0 < 224 ∧ 2 ≤ n ∧ isC b1
def ok3 (n b0 b1 b2 : Int) : Prop := 224 ≤ b0 ∧ b0 < 240 ∧ 3 ≤ n ∧ isC b1 ∧ isC b2 ∧ 2048 ≤ r3 b0 b1 b2 ∧ (r3 b0 b1 b2 < 55296 ∨ 57344 ≤ r3 b0 b1 b2)
def ok4 (n b0 b1 b2 b3 : Int) : Prop := 240 ≤ b0 ∧ b0 < 245 ∧ 4 ≤ n ∧ isC b1 ∧ isC b2 ∧ isC b3 ∧ 65536 ≤ r4 b0 b1 b2 b3 ∧ r4 b0 b1 b2 b3 < 1114112
instance (n b0 b1 : Int) : Decidable (ok2 n b0 b1) := by unfold ok2; infer_instance
instance (n b0 b1 b2 : Int) : Decidable (ok3 n b0 b1 b2) := by unfold ok3; infer_instance
instance (n b0 b1 b2 b3 : Int) : Decidable (ok4 n b0 b1 b2 b3) := by unfold ok4; infer_instance
/-- What begins with these bytes, where `n` of them are there. -/
def D4 (n b0 b1 b2 b3 : Int) : Int × Int :=
  if n < 1 then (0, 0) else if b0 < 128 then (b0, 1) else
  if ok2 n b0 b1 then (64 * (b0 - 192) + (b1 - 128), 2) else
  if ok3 n b0 b1 b2 then (r3 b0 b1 b2, 3) else
  if ok4 n b0 b1 b2 b3 then (r4 b0 b1 b2 b3, 4) else (0, 0)
def DS (s : ByteArray) (p : Int) : Int × Int := D4 (s.size - p) (bAt s p) (bAt s (p + 1)) (bAt s (p + 2)) (bAt s (p + 3))

theorem isM_iff (r : Int) : isM r = true ↔ (0 ≤ r ∧ r < 55296) ∨ (57344 ≤ r ∧ r < 1114112) := by simp [isM]
theorem isR_iff (r : Int) : isR r = true ↔ (0 ≤ r ∧ r < 55296) ∨ (57344 ≤ r ∧ r < 1114112) := by simp [isR]; omega
theorem isM_isR (r : Int) : isM r = isR r := by
  have h1 := isM_iff r; have h2 := isR_iff r
  cases h : isM r <;> cases k : isR r
  · rfl
  · rw [h1.2 (h2.1 k)] at h; cases h
  · rw [h2.2 (h1.1 h)] at k; cases k
  · rfl
theorem isM_false {r : Int} (h : ¬ ((0 ≤ r ∧ r < 55296) ∨ (57344 ≤ r ∧ r < 1114112))) : isM r = false := by
  cases k : isM r
  · rfl
  · exact absurd ((isM_iff r).1 k) h

theorem len0 {c : Int} (h : 128 ≤ c ∧ c < 194 ∨ 245 ≤ c) : lengthM c = 0 := by unfold lengthM; (repeat' split) <;> omega
theorem len1 {c : Int} (h : c < 128) : lengthM c = 1 := by unfold lengthM; (repeat' split) <;> omega
theorem len2 {c : Int} (h : 194 ≤ c ∧ c < 224) : lengthM c = 2 := by unfold lengthM; (repeat' split) <;> omega
theorem len3 {c : Int} (h : 224 ≤ c ∧ c < 240) : lengthM c = 3 := by unfold lengthM; (repeat' split) <;> omega
theorem len4 {c : Int} (h : 240 ≤ c ∧ c < 245) : lengthM c = 4 := by unfold lengthM; (repeat' split) <;> omega

theorem loop1 (s : ByteArray) (p r : Int) (h : 0 ≤ r ∧ r < 1000000) (i : Int) (n : Nat) : runeLoop s p (n + 1) i r = if isC (bAt s (p + i)) then runeLoop s p n (i + 1) (64 * r + (bAt s (p + i) - 128)) else none := by
  have hb := bAt_lt s (p + i)
  have h1 := bad_iff _ hb
  rw [runeLoop]
  by_cases hc : isC (bAt s (p + i))
  · rw [if_neg (by rw [h1]; exact fun h => h hc), if_pos hc, step_eq r _ h hc]
  · rw [if_pos (h1.2 hc), if_neg hc]

theorem rune_neg (s : ByteArray) (p : Int) (h : p < 0 ∨ s.size ≤ p) : runeM s p = (0, 0) := by unfold runeM; rw [if_pos (by omega)]
theorem not_ok2 {n b0 b1 : Int} (h : ¬ (194 ≤ b0 ∧ b0 < 224 ∧ 2 ≤ n)) : ¬ ok2 n b0 b1 := fun ⟨a, b, c, _⟩ => h ⟨a, b, c⟩
theorem not_ok3 {n b0 b1 b2 : Int} (h : ¬ (224 ≤ b0 ∧ b0 < 240 ∧ 3 ≤ n)) : ¬ ok3 n b0 b1 b2 := fun ⟨a, b, c, _⟩ => h ⟨a, b, c⟩
theorem not_ok4 {n b0 b1 b2 b3 : Int} (h : ¬ (240 ≤ b0 ∧ b0 < 245 ∧ 4 ≤ n)) : ¬ ok4 n b0 b1 b2 b3 := fun ⟨a, b, c, _⟩ => h ⟨a, b, c⟩

theorem rune_D (s : ByteArray) (p : Int) (hp : 0 ≤ p) : runeM s p = DS s p := by
  unfold DS
  generalize hn : (s.size : Int) - p = n
  by_cases h1 : n < 1
  · rw [rune_neg s p (by omega)]; unfold D4; rw [if_pos h1]
  have hb := bAt_lt s p
  unfold runeM
  rw [if_neg (by omega), hn]
  unfold D4
  rw [if_neg h1]
  generalize hb0 : bAt s p = b0 at hb ⊢
  by_cases a1 : b0 < 128
  · rw [len1 a1, if_neg (by omega), if_pos rfl, if_pos a1, wrap32 (by omega) (by omega)]
  rw [if_neg a1]
  by_cases a2 : b0 < 194
  · rw [len0 (by omega), if_pos (.inl rfl), if_neg (not_ok2 (by omega)), if_neg (not_ok3 (by omega)), if_neg (not_ok4 (by omega))]
  by_cases a3 : b0 < 224
  · rw [len2 (by omega)]
    by_cases c : n < 2
    · rw [if_pos (by omega), if_neg (not_ok2 (by omega)), if_neg (not_ok3 (by omega)), if_neg (not_ok4 (by omega))]
    rw [if_neg (by omega), if_neg (by decide), r0_2 _ (by omega), show ((2 : Int) - 1).toNat = 0 + 1 from rfl, loop1 _ _ _ (by omega)]
    by_cases c1 : isC (bAt s (p + 1))
    · have c1' := c1; unfold isC at c1'
      rw [if_pos c1]
      simp only [runeLoop]
      rw [if_neg, if_pos ⟨by omega, by omega, by omega, c1⟩]
      have e1 : leastM 2 = 128 := rfl
      rw [e1]
      rintro (h | h)
      · omega
      · have := (isM_iff (64 * (b0 - 192) + (bAt s (p + 1) - 128))).2 (by omega); rw [this] at h; cases h
    · rw [if_neg c1, if_neg (fun h => c1 h.2.2.2), if_neg (not_ok3 (by omega)), if_neg (not_ok4 (by omega))]
  by_cases a4 : b0 < 240
  · rw [len3 (by omega), if_neg (not_ok2 (by omega))]
    by_cases c : n < 3
    · rw [if_pos (by omega), if_neg (not_ok3 (by omega)), if_neg (not_ok4 (by omega))]
    rw [if_neg (by omega), if_neg (by decide), r0_3 _ (by omega), show ((3 : Int) - 1).toNat = 0 + 1 + 1 from rfl, loop1 _ _ _ (by omega)]
    by_cases c1 : isC (bAt s (p + 1))
    · have c1' := c1; unfold isC at c1'
      rw [if_pos c1, loop1 _ _ _ (by omega), show p + (1 + 1) = p + 2 by omega]
      by_cases c2 : isC (bAt s (p + 2))
      · have c2' := c2; unfold isC at c2'
        rw [if_pos c2]
        simp only [runeLoop]
        rw [show 64 * (64 * (b0 - 224) + (bAt s (p + 1) - 128)) + (bAt s (p + 2) - 128) = r3 b0 (bAt s (p + 1)) (bAt s (p + 2)) from rfl]
        have hr : r3 b0 (bAt s (p + 1)) (bAt s (p + 2)) = 64 * (64 * (b0 - 224) + (bAt s (p + 1) - 128)) + (bAt s (p + 2) - 128) := rfl
        have hm := isM_iff (r3 b0 (bAt s (p + 1)) (bAt s (p + 2)))
        have e1 : leastM 3 = 2048 := rfl
        rw [e1, if_neg (not_ok4 (by omega))]
        by_cases d : 2048 ≤ r3 b0 (bAt s (p + 1)) (bAt s (p + 2)) ∧ (r3 b0 (bAt s (p + 1)) (bAt s (p + 2)) < 55296 ∨ 57344 ≤ r3 b0 (bAt s (p + 1)) (bAt s (p + 2)))
        · rw [if_neg, if_pos (show ok3 _ _ _ _ from ⟨by omega, by omega, by omega, c1, c2, d⟩)]
          rintro (h | h)
          · omega
          · rw [hm.2 (by omega)] at h; cases h
        · rw [if_pos, if_neg (fun h => d h.2.2.2.2.2)]
          by_cases e : r3 b0 (bAt s (p + 1)) (bAt s (p + 2)) < 2048
          · exact .inl e
          · exact .inr (isM_false (by omega))
      · rw [if_neg c2, if_neg (fun h => c2 h.2.2.2.2.1), if_neg (not_ok4 (by omega))]
    · rw [if_neg c1, if_neg (fun h => c1 h.2.2.2.1), if_neg (not_ok4 (by omega))]
  rw [if_neg (not_ok2 (by omega)), if_neg (not_ok3 (by omega))]
  by_cases a5 : b0 < 245
  · rw [len4 (by omega)]
    by_cases c : n < 4
    · rw [if_pos (by omega), if_neg (not_ok4 (by omega))]
    rw [if_neg (by omega), if_neg (by decide), r0_4 _ (by omega), show ((4 : Int) - 1).toNat = 0 + 1 + 1 + 1 from rfl, loop1 _ _ _ (by omega)]
    by_cases c1 : isC (bAt s (p + 1))
    · have c1' := c1; unfold isC at c1'
      rw [if_pos c1, loop1 _ _ _ (by omega), show p + (1 + 1) = p + 2 by omega]
      by_cases c2 : isC (bAt s (p + 2))
      · have c2' := c2; unfold isC at c2'
        rw [if_pos c2, loop1 _ _ _ (by omega), show p + (1 + 1 + 1) = p + 3 by omega]
        by_cases c3 : isC (bAt s (p + 3))
        · have c3' := c3; unfold isC at c3'
          rw [if_pos c3]
          simp only [runeLoop]
          rw [show 64 * (64 * (64 * (b0 - 240) + (bAt s (p + 1) - 128)) + (bAt s (p + 2) - 128)) + (bAt s (p + 3) - 128) = r4 b0 (bAt s (p + 1)) (bAt s (p + 2)) (bAt s (p + 3)) from rfl]
          have hr : r4 b0 (bAt s (p + 1)) (bAt s (p + 2)) (bAt s (p + 3)) = 64 * (64 * (64 * (b0 - 240) + (bAt s (p + 1) - 128)) + (bAt s (p + 2) - 128)) + (bAt s (p + 3) - 128) := rfl
          have hm := isM_iff (r4 b0 (bAt s (p + 1)) (bAt s (p + 2)) (bAt s (p + 3)))
          have e1 : leastM 4 = 65536 := rfl
          rw [e1]
          by_cases d : 65536 ≤ r4 b0 (bAt s (p + 1)) (bAt s (p + 2)) (bAt s (p + 3)) ∧ r4 b0 (bAt s (p + 1)) (bAt s (p + 2)) (bAt s (p + 3)) < 1114112
          · rw [if_neg, if_pos (show ok4 _ _ _ _ _ from ⟨by omega, by omega, by omega, c1, c2, c3, d⟩)]
            rintro (h | h)
            · omega
            · rw [hm.2 (by omega)] at h; cases h
          · rw [if_pos, if_neg (fun h => d h.2.2.2.2.2.2)]
            by_cases e : r4 b0 (bAt s (p + 1)) (bAt s (p + 2)) (bAt s (p + 3)) < 65536
            · exact .inl e
            · exact .inr (isM_false (by omega))
        · rw [if_neg c3, if_neg (fun h => c3 h.2.2.2.2.2.1)]
      · rw [if_neg c2, if_neg (fun h => c2 h.2.2.2.2.1)]
    · rw [if_neg c1, if_neg (fun h => c1 h.2.2.2.1)]
  · rw [len0 (by omega), if_pos (.inl rfl), if_neg (not_ok4 (by omega))]
end Go.Proofs

namespace Go.Proofs
open Go Go.Al

def valid (r : Int) : Prop := (0 ≤ r ∧ r < 55296) ∨ (57344 ≤ r ∧ r < 1114112)
/-- The bytes of a character, as numbers. -/
def pb (n : Int) : List Int :=
  if n < 128 then [n] else
  if n < 2048 then [192 + n / 64, 128 + n % 64] else
  if n < 65536 then [224 + n / 4096, 128 + n / 64 % 64, 128 + n % 64] else
  [240 + n / 262144, 128 + n / 4096 % 64, 128 + n / 64 % 64, 128 + n % 64]
def Mat (s : ByteArray) : Int → List Int → Prop
  | _, [] => True
  | p, x :: xs => bAt s p = x ∧ Mat s (p + 1) xs

theorem enc_D4 {s : ByteArray} {p g : Int} (hv : valid g) (hm : Mat s p (pb g)) (hl : ((pb g).length : Int) ≤ s.size - p) : DS s p = (g, ((pb g).length : Int)) := by
  unfold valid at hv
  unfold pb at hm hl ⊢
  unfold DS D4
  by_cases a1 : g < 128
  · rw [if_pos a1] at *
    simp only [Mat, and_true] at hm
    simp only [List.length_cons, List.length_nil] at *
    rw [if_neg (by omega), if_pos (by omega), hm]; rfl
  rw [if_neg a1] at *
  by_cases a2 : g < 2048
  · rw [if_pos a2] at *
    simp only [Mat, and_true] at hm
    simp only [List.length_cons, List.length_nil] at *
    obtain ⟨m1, m2⟩ := hm
    rw [if_neg (by omega), if_neg (by omega), if_pos]
    · rw [m1, m2]; congr 1; omega
    · exact ⟨by omega, by omega, by omega, by unfold isC; omega⟩
  rw [if_neg a2] at *
  by_cases a3 : g < 65536
  · rw [if_pos a3] at *
    simp only [Mat, and_true] at hm
    simp only [List.length_cons, List.length_nil, show p + 1 + 1 = p + 2 by omega] at *
    obtain ⟨m1, m2, m3⟩ := hm
    have e : r3 (bAt s p) (bAt s (p + 1)) (bAt s (p + 2)) = g := by unfold r3; rw [m1, m2, m3]; omega
    rw [if_neg (by omega), if_neg (by omega), if_neg (not_ok2 (by omega)), if_pos]
    · rw [e]; rfl
    · exact ⟨by omega, by omega, by omega, by unfold isC; omega, by unfold isC; omega, by omega, by omega⟩
  rw [if_neg a3] at *
  simp only [Mat, and_true] at hm
  simp only [List.length_cons, List.length_nil, show p + 1 + 1 = p + 2 by omega, show p + 2 + 1 = p + 3 by omega] at *
  obtain ⟨m1, m2, m3, m4⟩ := hm
  have e : r4 (bAt s p) (bAt s (p + 1)) (bAt s (p + 2)) (bAt s (p + 3)) = g := by unfold r4; rw [m1, m2, m3, m4]; omega
  rw [if_neg (by omega), if_neg (by omega), if_neg (not_ok2 (by omega)), if_neg (not_ok3 (by omega)), if_pos]
  · rw [e]; rfl
  · exact ⟨by omega, by omega, by omega, by unfold isC; omega, by unfold isC; omega, by unfold isC; omega, by omega, by omega⟩

end Go.Proofs

namespace Go.Proofs
open Go Go.Al

theorem wrap8_id {n : Int} (h : 0 ≤ n ∧ n < 256) : IntKind.u8.wrap n = n := wrap8 h.1 h.2
theorem bytesM_pb {r : Int} (h : 0 ≤ r ∧ r < 1114112) : bytesM r = (pb r).map ofI := by
  have hw : w64 r = r := wrap64 (by omega) (by omega)
  have q1 : ∀ d : Int, 0 < d → r.tdiv d = r / d := fun d _ => Int.tdiv_eq_ediv_of_nonneg h.1
  have m1 : ∀ x : Int, 0 ≤ x → x.tmod 64 = x % 64 := fun x hx => Int.tmod_eq_emod_of_nonneg hx
  have top : ∀ (k d : Int), 0 < d → 0 ≤ k → k + r / d < 256 → topM k r d = ofI (k + r / d) := by
    intro k d hd hk hlt
    have hq : 0 ≤ r / d := Int.ediv_nonneg h.1 (by omega)
    unfold topM w64
    rw [q1 d hd, wrap64 (n := r / d) (by omega) (by omega), wrap64 (by omega) (by omega), wrap8_id (by omega)]
  have mid : ∀ d : Int, 0 < d → midM r d = ofI (128 + r / d % 64) := by
    intro d hd
    have hq : 0 ≤ r / d := Int.ediv_nonneg h.1 (by omega)
    have hle : r / d ≤ r := Int.ediv_le_self _ h.1
    unfold midM w64
    rw [q1 d hd, wrap64 (n := r / d) (by omega) (by omega), m1 _ hq, wrap64 (by omega) (by omega), wrap8_id (by omega)]
  have low : lowM r = ofI (128 + r % 64) := by
    unfold lowM w64
    rw [m1 _ h.1, wrap64 (by omega) (by omega), wrap8_id (by omega)]
  unfold bytesM pb
  rw [hw]
  by_cases a1 : r < 128
  · rw [if_pos a1, if_pos a1, wrap8_id (by omega)]; rfl
  rw [if_neg a1, if_neg a1]
  by_cases a2 : r < 2048
  · rw [if_pos a2, if_pos a2, top 192 64 (by omega) (by omega) (by omega), low]; rfl
  rw [if_neg a2, if_neg a2]
  by_cases a3 : r < 65536
  · rw [if_pos a3, if_pos a3, top 224 4096 (by omega) (by omega) (by omega), low, mid 64 (by omega)]; rfl
  rw [if_neg a3, if_neg a3, top 240 262144 (by omega) (by omega) (by omega), low, mid 64 (by omega), mid 4096 (by omega)]; rfl

theorem pb_range {r : Int} (h : 0 ≤ r ∧ r < 1114112) : ∀ x ∈ pb r, 0 ≤ x ∧ x < 256 := by
  intro x hx
  unfold pb at hx
  (repeat' split at hx) <;> simp only [List.mem_cons, List.not_mem_nil, or_false] at hx <;> omega
theorem pb_len (r : Int) : 1 ≤ (pb r).length ∧ (pb r).length ≤ 4 := by
  unfold pb
  (repeat' split) <;> simp

theorem drop_bAt (s : ByteArray) (p : Int) (h0 : 0 ≤ p) (h1 : p < s.size) : s.data.toList.drop p.toNat = s.data.toList.getD p.toNat 0 :: s.data.toList.drop (p + 1).toNat := by
  have hl : p.toNat < s.data.toList.length := by
    have : s.data.toList.length = s.size := by simp
    omega
  rw [List.drop_eq_getElem_cons hl, show (p + 1).toNat = p.toNat + 1 by omega, List.getD_eq_getElem?_getD, List.getElem?_eq_getElem hl, Option.getD_some]

theorem mat_iff (s : ByteArray) : ∀ (l : List Int) (p : Int), 0 ≤ p → p + l.length ≤ s.size → (∀ x ∈ l, 0 ≤ x ∧ x < 256) →
    ((s.data.toList.drop p.toNat).take l.length = l.map ofI ↔ Mat s p l)
  | [], p, _, _, _ => by simp [Mat]
  | x :: l, p, h0, h1, hr => by
    simp only [List.length_cons] at h1
    have ih := mat_iff s l (p + 1) (by omega) (by omega) (fun y hy => hr y (List.mem_cons_of_mem _ hy))
    rw [drop_bAt s p h0 (by omega), List.length_cons, List.take_succ_cons, List.map_cons, List.cons.injEq, ih]
    simp only [Mat]
    have hx := hr x List.mem_cons_self
    refine and_congr_left fun _ => ?_
    unfold bAt
    constructor
    · intro e; rw [e]; exact ofI_toNat hx
    · intro e; unfold ofI; rw [← e, Int.toNat_natCast, UInt8.ofNat_toNat]

theorem strOf_map (l : List Int) : (strOf (l.map ofI)).size = l.length := by rw [strOf_size, List.length_map]

end Go.Proofs

namespace Go.Proofs
open Go Go.Al

/-! ### Texts of characters -/
theorem f_out (s : ByteArray) (p : Int) (h : p < 0 ∨ s.size ≤ p) : fM s p = 0 := by unfold fM; rw [rune_neg s p h]
theorem f_pos (s : ByteArray) (p : Int) (h : fM s p ≠ 0) : 0 ≤ p ∧ p < s.size ∧ 1 ≤ fM s p ∧ p + fM s p ≤ s.size := by
  by_cases hp : p < 0 ∨ s.size ≤ p
  · exact absurd (f_out s p hp) h
  · have := dec_fM s p (by omega) (by omega)
    omega

/-- From one place to another, by characters. -/
inductive Path (f : Int → Int) : Int → Int → Int → Prop
  | refl (p : Int) : Path f p p 0
  | step {p q c : Int} (h : f p ≠ 0) (k : Path f (p + f p) q c) : Path f p q (c + 1)

theorem Path.trans {f : Int → Int} {p q r c d : Int} (h : Path f p q c) (k : Path f q r d) : Path f p r (c + d) := by
  induction h with
  | refl => rw [Int.zero_add]; exact k
  | @step p q c h _ ih => have := Path.step h (ih k); rw [show c + 1 + d = c + d + 1 by omega]; exact this
theorem Path.first {f : Int → Int} {p q c : Int} (h : Path f p q c) (hn : p ≠ q) : f p ≠ 0 ∧ ∃ d, Path f (p + f p) q d := by
  cases h with
  | refl => exact absurd rfl hn
  | step h k => exact ⟨h, _, k⟩

/-! ### Fronts -/
/-! ### Cut -/
theorem path_le {s : ByteArray} {p q c : Int} (h : Path (fM s) p q c) : p ≤ q ∧ 0 ≤ c := by
  induction h with
  | refl => exact ⟨Int.le_refl _, Int.le_refl _⟩
  | step h _ ih => have := f_pos s _ h; omega

theorem Path.comp {s : ByteArray} {p q r c d : Int} (h : Path (fM s) p q c) (k : Path (fM s) p r d) (hle : q ≤ r) : ∃ e, Path (fM s) q r e := by
  induction h generalizing d with
  | refl p => exact ⟨d, k⟩
  | step h k' ih =>
    cases k with
    | refl => have := f_pos s _ h; have := path_le k'; omega
    | step _ k => exact ih k hle

end Go.Proofs

namespace Go.Proofs
open Go Go.Al

theorem app_size (s t : ByteArray) : (s ++ t).size = s.size + t.size := ByteArray.size_append
theorem app_list (s t : ByteArray) : (s ++ t).data.toList = s.data.toList ++ t.data.toList := ByteArray.toList_data_append
theorem len_list (s : ByteArray) : s.data.toList.length = s.size := by simp
/-! ### Back -/
theorem nator (i a b : Nat) (h : b < 2 ^ i) : 2 ^ i * a ||| b = 2 ^ i * a + b := (Nat.two_pow_add_eq_or_of_lt h a).symm
theorem contM_eq (n : Int) (h : 0 ≤ n) : contM n = 128 + n % 64 := by
  unfold contM
  have hw : IntKind.u8.wrap n = n % 256 := by
    simp only [IntKind.wrap, IntKind.bits, IntKind.signed, Bool.false_and, Bool.false_eq_true, if_false]; rfl
  have e2 : bitsOf (· &&& ·) .u8 (IntKind.u8.wrap n) 63 = n % 64 := by
    rw [hw, bits_and8 _ 63 (by omega) (by omega), show (63 : Int).toNat = 63 from rfl, nat63]; omega
  rw [e2, bits_or8 _ _ (by omega) (by omega), show (128 : Int).toNat = 2 ^ 6 * 2 from rfl, nator 6 2 _ (by omega)]
  omega
theorem fdiv_pos (a b : Int) (h : 0 < b) : a.fdiv b = a / b := Int.fdiv_eq_ediv_of_nonneg a (by omega)

theorem sz1 {r : Int} (h : r < 128) : sizeM r = 1 := by unfold sizeM; rw [if_pos h]
theorem sz2 {r : Int} (h : 128 ≤ r ∧ r < 2048) : sizeM r = 2 := by unfold sizeM; rw [if_neg (by omega), if_pos (by omega)]
theorem sz3 {r : Int} (h : 2048 ≤ r ∧ r < 65536) : sizeM r = 3 := by unfold sizeM; rw [if_neg (by omega), if_neg (by omega), if_pos (by omega)]
theorem sz4 {r : Int} (h : 65536 ≤ r) : sizeM r = 4 := by unfold sizeM; rw [if_neg (by omega), if_neg (by omega), if_neg (by omega)]

theorem head_eq (r k top : Int) (d : Nat) (m i : Nat) (h : 0 ≤ r) (h1 : IntKind.u8.wrap (240 * 2 ^ (min (w64 (4 - k)).toNat (IntKind.bits .u8))) = top) (h2 : min (w64 (6 * w64 (k - 1))).toNat (IntKind.bits .i32) = d) (ht : top = ((2 ^ i * m : Nat) : Int)) (hlt : r / 2 ^ d < 2 ^ i) (hi : 2 ^ i ≤ 64) (hm : 2 ^ i * m < 192 + 64) :
    headM r k = top + r / 2 ^ d := by
  unfold headM
  have hp : (0 : Int) < 2 ^ d := by have := Nat.two_pow_pos d; exact_mod_cast this
  have hq : 0 ≤ r / 2 ^ d := Int.ediv_nonneg h (by omega)
  have hc : ((2 : Int) ^ i) = ((2 ^ i : Nat) : Int) := by simp
  rw [hc] at hlt
  rw [h1, h2, fdiv_pos _ _ hp, wrap8_id (by omega), bits_or8 _ _ (by omega) (by omega), ht, Int.toNat_natCast, nator i m _ (by omega)]
  omega

theorem bytesP_pb {r : Int} (hv : valid r) : bytesP r = (pb r).map ofI := by
  unfold valid at hv
  unfold bytesP pb
  have c := contM_eq r (by omega)
  have c6 : contM (r.fdiv (2 ^ (min (6 : Int).toNat (IntKind.bits .i32)))) = 128 + r / 64 % 64 := by
    rw [show ((2 : Int) ^ (min (6 : Int).toNat (IntKind.bits .i32))) = 64 from rfl, fdiv_pos _ _ (by omega), contM_eq _ (by omega)]
  have c12 : contM (r.fdiv (2 ^ (min (12 : Int).toNat (IntKind.bits .i32)))) = 128 + r / 4096 % 64 := by
    rw [show ((2 : Int) ^ (min (12 : Int).toNat (IntKind.bits .i32))) = 4096 from rfl, fdiv_pos _ _ (by omega), contM_eq _ (by omega)]
  by_cases a1 : r < 128
  · rw [sz1 a1, if_pos rfl, if_pos a1, wrap8_id (by omega)]; rfl
  rw [if_neg a1]
  by_cases a2 : r < 2048
  · rw [sz2 (by omega), if_neg (by decide), if_pos rfl, if_pos a2, c, head_eq r 2 192 6 3 6 (by omega) (by decide) (by decide) (by decide) (by omega) (by decide) (by decide)]; rfl
  rw [if_neg a2]
  by_cases a3 : r < 65536
  · rw [sz3 (by omega), if_neg (by decide), if_neg (by decide), if_pos rfl, if_pos a3, c, c6, head_eq r 3 224 12 7 5 (by omega) (by decide) (by decide) (by decide) (by omega) (by decide) (by decide)]; rfl
  rw [if_neg a3, sz4 (by omega), if_neg (by decide), if_neg (by decide), if_neg (by decide), c, c6, c12, head_eq r 4 240 18 15 4 (by omega) (by decide) (by decide) (by decide) (by omega) (by decide) (by decide)]; rfl

theorem mat_app (s : ByteArray) : ∀ (l : List Int) (p : Int) (t u : ByteArray), s = t ++ strOf (l.map ofI) ++ u → p = t.size → (∀ x ∈ l, 0 ≤ x ∧ x < 256) → Mat s p l := by
  intro l p t u hs hp hr
  have hz : s.size = t.size + l.length + u.size := by rw [hs, app_size, app_size, strOf_map]
  refine (mat_iff s l p (by omega) (by omega) hr).1 ?_
  rw [hs, app_list, app_list, strOf_list, hp, Int.toNat_natCast, List.append_assoc, List.drop_append, List.drop_eq_nil_of_le (by rw [len_list]; omega), len_list]
  simp
theorem back (p : ByteArray) (r : Int) (u : ByteArray) (hv : isM r = true) :
    strOf (putM p.data.toList r) = p ++ strOf (bytesM r) ∧ runeM (strOf (putM p.data.toList r) ++ u) p.size = (r, ((strOf (putM p.data.toList r)).size : Int) - p.size) := by
  have hv' := (isM_iff r).1 hv
  have h1 : strOf (putM p.data.toList r) = p ++ strOf (bytesM r) := by
    refine str_ext ?_
    rw [strOf_list, app_list, strOf_list]
    unfold putM
    rw [if_pos hv, bytesP_pb hv', bytesM_pb (by omega)]
  refine ⟨h1, ?_⟩
  rw [h1, rune_D _ _ (by omega), bytesM_pb (by omega)]
  have hz : ((p ++ strOf ((pb r).map ofI)).size : Int) - p.size = (pb r).length := by rw [app_size, strOf_map]; omega
  rw [hz]
  refine enc_D4 hv' (mat_app _ (pb r) _ p u rfl rfl (pb_range (by omega))) ?_
  rw [app_size, app_size, strOf_map]; omega
end Go.Proofs

namespace Go.Proofs
open Go Go.Al
set_option maxRecDepth 10000
set_option maxHeartbeats 400000 in
theorem length_c (c : Int) : PCall Try.prog Γ0 26 [cv c] [iv (lengthM c)] := by
  refine pcall_of Try.func26 rfl Try.ntmps26 (by kernel_rfl) rfl fun w0 I0 G0 => ?_
  refine aw_seq ?_
  refine aw_region ?_
  refine g_u (s_as_imm rfl rfl) ?_
  refine g_nil ?_
  refine normal_thn ?_
  refine aw_seq ?_
  refine aw_block ?_
  refine aw_seq ?_
  refine aw_region ?_
  refine g_u (s_mv_imm rfl rfl) ?_
  refine g_u (s_ltI rfl rfl rfl) ?_
  refine g_u (s_as_imm rfl rfl) ?_
  refine g_nil ?_
  refine normal_thn ?_
  refine aw_cond rfl (fun hb1 => ?_) (fun hb1 => ?_)
  · skip
    refine aw_seq ?_
    refine aw_region ?_
    refine g_u (s_as_imm rfl rfl) ?_
    refine g_nil ?_
    refine normal_thn ?_
    refine aw_ret ?_
    refine ret_blk ?_
    refine ret_thn ?_
    exact ⟨⟨(rfl : toAV (Al.look _ _) = some _).trans (congrArg some (by (unfold lengthM; (((try simp only [decide_eq_true_eq, decide_eq_false_iff_not, bne_iff_ne, ne_eq, beq_iff_eq, bne_eq_false_iff_eq, beq_eq_false_iff_ne, Bool.not_eq_true', Bool.not_eq_false', gt_iff_lt, ge_iff_le] at *); (repeat simp (disch := omega) only [wrap64, wrap32] at *)); (repeat' split); all_goals first | rfl | omega)))), rfl⟩, trivial⟩
  · skip
    refine aw_seq ?_
    refine aw_region ?_
    refine g_u (s_mv_imm rfl rfl) ?_
    refine g_u (s_ltI rfl rfl rfl) ?_
    refine g_u (s_as_imm rfl rfl) ?_
    refine g_nil ?_
    refine normal_thn ?_
    refine aw_cond rfl (fun hb2 => ?_) (fun hb2 => ?_)
    · skip
      refine aw_seq ?_
      refine aw_region ?_
      refine g_u (s_as_imm rfl rfl) ?_
      refine g_nil ?_
      refine normal_thn ?_
      refine aw_ret ?_
      refine ret_blk ?_
      refine ret_thn ?_
      exact ⟨⟨(rfl : toAV (Al.look _ _) = some _).trans (congrArg some (by (unfold lengthM; (((try simp only [decide_eq_true_eq, decide_eq_false_iff_not, bne_iff_ne, ne_eq, beq_iff_eq, bne_eq_false_iff_eq, beq_eq_false_iff_ne, Bool.not_eq_true', Bool.not_eq_false', gt_iff_lt, ge_iff_le] at *); (repeat simp (disch := omega) only [wrap64, wrap32] at *)); (repeat' split); all_goals first | rfl | omega)))), rfl⟩, trivial⟩
    · skip
      refine aw_seq ?_
      refine aw_region ?_
      refine g_u (s_mv_imm rfl rfl) ?_
      refine g_u (s_ltI rfl rfl rfl) ?_
      refine g_u (s_as_imm rfl rfl) ?_
      refine g_nil ?_
      refine normal_thn ?_
      refine aw_cond rfl (fun hb3 => ?_) (fun hb3 => ?_)
      · skip
        refine aw_seq ?_
        refine aw_region ?_
        refine g_u (s_as_imm rfl rfl) ?_
        refine g_nil ?_
        refine normal_thn ?_
        refine aw_ret ?_
        refine ret_blk ?_
        refine ret_thn ?_
        exact ⟨⟨(rfl : toAV (Al.look _ _) = some _).trans (congrArg some (by (unfold lengthM; (((try simp only [decide_eq_true_eq, decide_eq_false_iff_not, bne_iff_ne, ne_eq, beq_iff_eq, bne_eq_false_iff_eq, beq_eq_false_iff_ne, Bool.not_eq_true', Bool.not_eq_false', gt_iff_lt, ge_iff_le] at *); (repeat simp (disch := omega) only [wrap64, wrap32] at *)); (repeat' split); all_goals first | rfl | omega)))), rfl⟩, trivial⟩
      · skip
        refine aw_seq ?_
        refine aw_region ?_
        refine g_u (s_mv_imm rfl rfl) ?_
        refine g_u (s_ltI rfl rfl rfl) ?_
        refine g_u (s_as_imm rfl rfl) ?_
        refine g_nil ?_
        refine normal_thn ?_
        refine aw_cond rfl (fun hb4 => ?_) (fun hb4 => ?_)
        · skip
          refine aw_seq ?_
          refine aw_region ?_
          refine g_u (s_as_imm rfl rfl) ?_
          refine g_nil ?_
          refine normal_thn ?_
          refine aw_ret ?_
          refine ret_blk ?_
          refine ret_thn ?_
          exact ⟨⟨(rfl : toAV (Al.look _ _) = some _).trans (congrArg some (by (unfold lengthM; (((try simp only [decide_eq_true_eq, decide_eq_false_iff_not, bne_iff_ne, ne_eq, beq_iff_eq, bne_eq_false_iff_eq, beq_eq_false_iff_ne, Bool.not_eq_true', Bool.not_eq_false', gt_iff_lt, ge_iff_le] at *); (repeat simp (disch := omega) only [wrap64, wrap32] at *)); (repeat' split); all_goals first | rfl | omega)))), rfl⟩, trivial⟩
        · skip
          refine aw_seq ?_
          refine aw_region ?_
          refine g_u (s_mv_imm rfl rfl) ?_
          refine g_u (s_ltI rfl rfl rfl) ?_
          refine g_u (s_as_imm rfl rfl) ?_
          refine g_nil ?_
          refine normal_thn ?_
          refine aw_cond rfl (fun hb5 => ?_) (fun hb5 => ?_)
          · skip
            refine aw_seq ?_
            refine aw_region ?_
            refine g_u (s_as_imm rfl rfl) ?_
            refine g_nil ?_
            refine normal_thn ?_
            refine aw_ret ?_
            refine ret_blk ?_
            refine ret_thn ?_
            exact ⟨⟨(rfl : toAV (Al.look _ _) = some _).trans (congrArg some (by (unfold lengthM; (((try simp only [decide_eq_true_eq, decide_eq_false_iff_not, bne_iff_ne, ne_eq, beq_iff_eq, bne_eq_false_iff_eq, beq_eq_false_iff_ne, Bool.not_eq_true', Bool.not_eq_false', gt_iff_lt, ge_iff_le] at *); (repeat simp (disch := omega) only [wrap64, wrap32] at *)); (repeat' split); all_goals first | rfl | omega)))), rfl⟩, trivial⟩
          · skip
            refine aw_skip ?_
            refine normal_blk ?_
            refine normal_thn ?_
            refine aw_seq ?_
            refine aw_region ?_
            refine g_u (s_as_imm rfl rfl) ?_
            refine g_nil ?_
            refine normal_thn ?_
            refine aw_ret ?_
            exact ⟨⟨(rfl : toAV (Al.look _ _) = some _).trans (congrArg some (by (unfold lengthM; (((try simp only [decide_eq_true_eq, decide_eq_false_iff_not, bne_iff_ne, ne_eq, beq_iff_eq, bne_eq_false_iff_eq, beq_eq_false_iff_ne, Bool.not_eq_true', Bool.not_eq_false', gt_iff_lt, ge_iff_le] at *); (repeat simp (disch := omega) only [wrap64, wrap32] at *)); (repeat' split); all_goals first | rfl | omega)))), rfl⟩, trivial⟩

set_option maxHeartbeats 400000 in
theorem least_c (k : Int) : PCall Try.prog Γ0 27 [iv k] [rv (leastM k)] := by
  refine pcall_of Try.func27 rfl Try.ntmps27 (by kernel_rfl) rfl fun w0 I0 G0 => ?_
  refine aw_seq ?_
  refine aw_region ?_
  refine g_u (s_as_imm rfl rfl) ?_
  refine g_nil ?_
  refine normal_thn ?_
  refine aw_seq ?_
  refine aw_seq ?_
  refine aw_region ?_
  refine g_u (s_mv_imm rfl rfl) ?_
  refine g_nil ?_
  refine normal_thn ?_
  refine aw_block ?_
  refine aw_seq ?_
  refine aw_region ?_
  refine g_u (s_eqI rfl rfl rfl) ?_
  refine g_u (s_as_imm rfl rfl) ?_
  refine g_nil ?_
  refine normal_thn ?_
  refine aw_cond rfl (fun hb1 => ?_) (fun hb1 => ?_)
  · skip
    refine aw_seq ?_
    refine aw_region ?_
    refine g_u (s_as_imm rfl rfl) ?_
    refine g_nil ?_
    refine normal_thn ?_
    refine aw_ret ?_
    refine ret_blk ?_
    refine ret_thn ?_
    exact ⟨⟨(rfl : toAV (Al.look _ _) = some _).trans (congrArg some (by (unfold leastM; (((try simp only [decide_eq_true_eq, decide_eq_false_iff_not, bne_iff_ne, ne_eq, beq_iff_eq, bne_eq_false_iff_eq, beq_eq_false_iff_ne, Bool.not_eq_true', Bool.not_eq_false', gt_iff_lt, ge_iff_le] at *); (repeat simp (disch := omega) only [wrap64, wrap32] at *)); (repeat' split); all_goals first | rfl | omega)))), rfl⟩, trivial⟩
  · skip
    refine aw_seq ?_
    refine aw_region ?_
    refine g_u (s_eqI rfl rfl rfl) ?_
    refine g_u (s_as_imm rfl rfl) ?_
    refine g_nil ?_
    refine normal_thn ?_
    refine aw_cond rfl (fun hb2 => ?_) (fun hb2 => ?_)
    · skip
      refine aw_seq ?_
      refine aw_region ?_
      refine g_u (s_as_imm rfl rfl) ?_
      refine g_nil ?_
      refine normal_thn ?_
      refine aw_ret ?_
      refine ret_blk ?_
      refine ret_thn ?_
      exact ⟨⟨(rfl : toAV (Al.look _ _) = some _).trans (congrArg some (by (unfold leastM; (((try simp only [decide_eq_true_eq, decide_eq_false_iff_not, bne_iff_ne, ne_eq, beq_iff_eq, bne_eq_false_iff_eq, beq_eq_false_iff_ne, Bool.not_eq_true', Bool.not_eq_false', gt_iff_lt, ge_iff_le] at *); (repeat simp (disch := omega) only [wrap64, wrap32] at *)); (repeat' split); all_goals first | rfl | omega)))), rfl⟩, trivial⟩
    · skip
      refine aw_seq ?_
      refine aw_region ?_
      refine g_u (s_eqI rfl rfl rfl) ?_
      refine g_u (s_as_imm rfl rfl) ?_
      refine g_nil ?_
      refine normal_thn ?_
      refine aw_cond rfl (fun hb3 => ?_) (fun hb3 => ?_)
      · skip
        refine aw_seq ?_
        refine aw_region ?_
        refine g_u (s_as_imm rfl rfl) ?_
        refine g_nil ?_
        refine normal_thn ?_
        refine aw_ret ?_
        refine ret_blk ?_
        refine ret_thn ?_
        exact ⟨⟨(rfl : toAV (Al.look _ _) = some _).trans (congrArg some (by (unfold leastM; (((try simp only [decide_eq_true_eq, decide_eq_false_iff_not, bne_iff_ne, ne_eq, beq_iff_eq, bne_eq_false_iff_eq, beq_eq_false_iff_ne, Bool.not_eq_true', Bool.not_eq_false', gt_iff_lt, ge_iff_le] at *); (repeat simp (disch := omega) only [wrap64, wrap32] at *)); (repeat' split); all_goals first | rfl | omega)))), rfl⟩, trivial⟩
      · skip
        refine aw_skip ?_
        refine normal_blk ?_
        refine normal_thn ?_
        refine aw_seq ?_
        refine aw_region ?_
        refine g_u (s_as_imm rfl rfl) ?_
        refine g_nil ?_
        refine normal_thn ?_
        refine aw_ret ?_
        exact ⟨⟨(rfl : toAV (Al.look _ _) = some _).trans (congrArg some (by (unfold leastM; (((try simp only [decide_eq_true_eq, decide_eq_false_iff_not, bne_iff_ne, ne_eq, beq_iff_eq, bne_eq_false_iff_eq, beq_eq_false_iff_ne, Bool.not_eq_true', Bool.not_eq_false', gt_iff_lt, ge_iff_le] at *); (repeat simp (disch := omega) only [wrap64, wrap32] at *)); (repeat' split); all_goals first | rfl | omega)))), rfl⟩, trivial⟩

set_option maxHeartbeats 400000 in
theorem size_c (r : Int) : PCall Try.prog Γ0 22 [rv r] [iv (sizeM r)] := by
  refine pcall_of Try.func22 rfl Try.ntmps22 (by kernel_rfl) rfl fun w0 I0 G0 => ?_
  refine aw_seq ?_
  refine aw_region ?_
  refine g_u (s_as_imm rfl rfl) ?_
  refine g_nil ?_
  refine normal_thn ?_
  refine aw_seq ?_
  refine aw_block ?_
  refine aw_seq ?_
  refine aw_region ?_
  refine g_u (s_mv_imm rfl rfl) ?_
  refine g_u (s_ltI rfl rfl rfl) ?_
  refine g_u (s_as_imm rfl rfl) ?_
  refine g_nil ?_
  refine normal_thn ?_
  refine aw_cond rfl (fun hb1 => ?_) (fun hb1 => ?_)
  · skip
    refine aw_seq ?_
    refine aw_region ?_
    refine g_u (s_as_imm rfl rfl) ?_
    refine g_nil ?_
    refine normal_thn ?_
    refine aw_ret ?_
    refine ret_blk ?_
    refine ret_thn ?_
    exact ⟨⟨(rfl : toAV (Al.look _ _) = some _).trans (congrArg some (by (unfold sizeM; (((try simp only [decide_eq_true_eq, decide_eq_false_iff_not, bne_iff_ne, ne_eq, beq_iff_eq, bne_eq_false_iff_eq, beq_eq_false_iff_ne, Bool.not_eq_true', Bool.not_eq_false', gt_iff_lt, ge_iff_le] at *); (repeat simp (disch := omega) only [wrap64, wrap32] at *)); (repeat' split); all_goals first | rfl | omega)))), rfl⟩, trivial⟩
  · skip
    refine aw_seq ?_
    refine aw_region ?_
    refine g_u (s_mv_imm rfl rfl) ?_
    refine g_u (s_ltI rfl rfl rfl) ?_
    refine g_u (s_as_imm rfl rfl) ?_
    refine g_nil ?_
    refine normal_thn ?_
    refine aw_cond rfl (fun hb2 => ?_) (fun hb2 => ?_)
    · skip
      refine aw_seq ?_
      refine aw_region ?_
      refine g_u (s_as_imm rfl rfl) ?_
      refine g_nil ?_
      refine normal_thn ?_
      refine aw_ret ?_
      refine ret_blk ?_
      refine ret_thn ?_
      exact ⟨⟨(rfl : toAV (Al.look _ _) = some _).trans (congrArg some (by (unfold sizeM; (((try simp only [decide_eq_true_eq, decide_eq_false_iff_not, bne_iff_ne, ne_eq, beq_iff_eq, bne_eq_false_iff_eq, beq_eq_false_iff_ne, Bool.not_eq_true', Bool.not_eq_false', gt_iff_lt, ge_iff_le] at *); (repeat simp (disch := omega) only [wrap64, wrap32] at *)); (repeat' split); all_goals first | rfl | omega)))), rfl⟩, trivial⟩
    · skip
      refine aw_seq ?_
      refine aw_region ?_
      refine g_u (s_mv_imm rfl rfl) ?_
      refine g_u (s_ltI rfl rfl rfl) ?_
      refine g_u (s_as_imm rfl rfl) ?_
      refine g_nil ?_
      refine normal_thn ?_
      refine aw_cond rfl (fun hb3 => ?_) (fun hb3 => ?_)
      · skip
        refine aw_seq ?_
        refine aw_region ?_
        refine g_u (s_as_imm rfl rfl) ?_
        refine g_nil ?_
        refine normal_thn ?_
        refine aw_ret ?_
        refine ret_blk ?_
        refine ret_thn ?_
        exact ⟨⟨(rfl : toAV (Al.look _ _) = some _).trans (congrArg some (by (unfold sizeM; (((try simp only [decide_eq_true_eq, decide_eq_false_iff_not, bne_iff_ne, ne_eq, beq_iff_eq, bne_eq_false_iff_eq, beq_eq_false_iff_ne, Bool.not_eq_true', Bool.not_eq_false', gt_iff_lt, ge_iff_le] at *); (repeat simp (disch := omega) only [wrap64, wrap32] at *)); (repeat' split); all_goals first | rfl | omega)))), rfl⟩, trivial⟩
      · skip
        refine aw_skip ?_
        refine normal_blk ?_
        refine normal_thn ?_
        refine aw_seq ?_
        refine aw_region ?_
        refine g_u (s_as_imm rfl rfl) ?_
        refine g_nil ?_
        refine normal_thn ?_
        refine aw_ret ?_
        exact ⟨⟨(rfl : toAV (Al.look _ _) = some _).trans (congrArg some (by (unfold sizeM; (((try simp only [decide_eq_true_eq, decide_eq_false_iff_not, bne_iff_ne, ne_eq, beq_iff_eq, bne_eq_false_iff_eq, beq_eq_false_iff_ne, Bool.not_eq_true', Bool.not_eq_false', gt_iff_lt, ge_iff_le] at *); (repeat simp (disch := omega) only [wrap64, wrap32] at *)); (repeat' split); all_goals first | rfl | omega)))), rfl⟩, trivial⟩

set_option maxHeartbeats 400000 in
theorem is_c (r : Int) : PCall Try.prog Γ0 6 [rv r] [bv (isM r)] := by
  refine pcall_of Try.func6 rfl Try.ntmps6 (by kernel_rfl) rfl fun w0 I0 G0 => ?_
  refine aw_seq ?_
  refine aw_region ?_
  refine g_u (s_as_imm rfl rfl) ?_
  refine g_nil ?_
  refine normal_thn ?_
  refine aw_seq ?_
  refine aw_region ?_
  refine g_u (s_mv_imm rfl rfl) ?_
  refine g_u (s_geI rfl rfl rfl) ?_
  refine g_u (s_mv_imm rfl rfl) ?_
  refine g_case (t := 5) rfl ?_
  rintro (hb1 | hb1)
  · rw [hb1]
    refine g_run rfl rfl (s_mv_imm rfl rfl) ?_
    refine g_run rfl rfl (s_ltI rfl rfl rfl) ?_
    refine g_u (s_pick_t rfl rfl rfl) ?_
    refine g_u (s_mv_imm rfl rfl) ?_
    refine g_case (t := 9) rfl ?_
    rintro (hb2 | hb2)
    · rw [hb2]
      refine g_skip rfl rfl rfl ?_
      refine g_skip rfl rfl rfl ?_
      refine g_skip rfl rfl rfl ?_
      refine g_skip' rfl rfl rfl ?_
      refine g_skip' rfl rfl rfl ?_
      refine g_skip rfl rfl rfl ?_
      refine g_u (s_pick_t rfl rfl rfl) ?_
      refine g_u (s_as_imm rfl rfl) ?_
      refine g_nil ?_
      refine normal_thn ?_
      refine aw_ret ?_
      exact ⟨⟨(rfl : toAV (Al.look _ _) = some _).trans (congrArg some (by (unfold isM; ((try simp only [decide_eq_true_eq, decide_eq_false_iff_not, bne_iff_ne, ne_eq, beq_iff_eq, bne_eq_false_iff_eq, beq_eq_false_iff_ne, Bool.not_eq_true', Bool.not_eq_false', gt_iff_lt, ge_iff_le] at *); (repeat simp (disch := omega) only [wrap64, wrap32] at *)); refine congrArg bv ?_; first | exact (decide_eq_true (by omega)).symm | exact (decide_eq_false (by omega)).symm | exact decide_eq_decide.2 (by omega)))), rfl⟩, trivial⟩
    · rw [hb2]
      refine g_run rfl rfl (s_mv_imm rfl rfl) ?_
      refine g_run rfl rfl (s_geI rfl rfl rfl) ?_
      refine g_run rfl rfl (s_mv_imm rfl rfl) ?_
      refine g_case (t := 12) rfl ?_
      rintro (hb3 | hb3)
      · rw [hb3]
        refine g_run rfl rfl (s_mv_imm rfl rfl) ?_
        refine g_run rfl rfl (s_ltI rfl rfl rfl) ?_
        refine g_run rfl rfl (s_pick_t rfl rfl rfl) ?_
        refine g_u (s_pick_f rfl rfl rfl) ?_
        refine g_u (s_as_imm rfl rfl) ?_
        refine g_nil ?_
        refine normal_thn ?_
        refine aw_ret ?_
        exact ⟨⟨(rfl : toAV (Al.look _ _) = some _).trans (congrArg some (by (unfold isM; ((try simp only [decide_eq_true_eq, decide_eq_false_iff_not, bne_iff_ne, ne_eq, beq_iff_eq, bne_eq_false_iff_eq, beq_eq_false_iff_ne, Bool.not_eq_true', Bool.not_eq_false', gt_iff_lt, ge_iff_le] at *); (repeat simp (disch := omega) only [wrap64, wrap32] at *)); refine congrArg bv ?_; first | exact (decide_eq_true (by omega)).symm | exact (decide_eq_false (by omega)).symm | exact decide_eq_decide.2 (by omega)))), rfl⟩, trivial⟩
      · rw [hb3]
        refine g_skip rfl rfl rfl ?_
        refine g_skip rfl rfl rfl ?_
        refine g_run rfl rfl (s_pick_f rfl rfl rfl) ?_
        refine g_u (s_pick_f rfl rfl rfl) ?_
        refine g_u (s_as_imm rfl rfl) ?_
        refine g_nil ?_
        refine normal_thn ?_
        refine aw_ret ?_
        exact ⟨⟨(rfl : toAV (Al.look _ _) = some _).trans (congrArg some (by (unfold isM; ((try simp only [decide_eq_true_eq, decide_eq_false_iff_not, bne_iff_ne, ne_eq, beq_iff_eq, bne_eq_false_iff_eq, beq_eq_false_iff_ne, Bool.not_eq_true', Bool.not_eq_false', gt_iff_lt, ge_iff_le] at *); (repeat simp (disch := omega) only [wrap64, wrap32] at *)); refine congrArg bv ?_; first | exact (decide_eq_true (by omega)).symm | exact (decide_eq_false (by omega)).symm | exact decide_eq_decide.2 (by omega)))), rfl⟩, trivial⟩
  · rw [hb1]
    refine g_skip rfl rfl rfl ?_
    refine g_skip rfl rfl rfl ?_
    refine g_u (s_pick_f rfl rfl rfl) ?_
    refine g_u (s_mv_imm rfl rfl) ?_
    refine g_run rfl rfl (s_mv_imm rfl rfl) ?_
    refine g_run rfl rfl (s_geI rfl rfl rfl) ?_
    refine g_run rfl rfl (s_mv_imm rfl rfl) ?_
    refine g_case (t := 12) rfl ?_
    rintro (hb4 | hb4)
    · rw [hb4]
      refine g_run rfl rfl (s_mv_imm rfl rfl) ?_
      refine g_run rfl rfl (s_ltI rfl rfl rfl) ?_
      refine g_run rfl rfl (s_pick_t rfl rfl rfl) ?_
      refine g_u (s_pick_f rfl rfl rfl) ?_
      refine g_u (s_as_imm rfl rfl) ?_
      refine g_nil ?_
      refine normal_thn ?_
      refine aw_ret ?_
      exact ⟨⟨(rfl : toAV (Al.look _ _) = some _).trans (congrArg some (by (unfold isM; ((try simp only [decide_eq_true_eq, decide_eq_false_iff_not, bne_iff_ne, ne_eq, beq_iff_eq, bne_eq_false_iff_eq, beq_eq_false_iff_ne, Bool.not_eq_true', Bool.not_eq_false', gt_iff_lt, ge_iff_le] at *); (repeat simp (disch := omega) only [wrap64, wrap32] at *)); refine congrArg bv ?_; first | exact (decide_eq_true (by omega)).symm | exact (decide_eq_false (by omega)).symm | exact decide_eq_decide.2 (by omega)))), rfl⟩, trivial⟩
    · rw [hb4]
      refine g_skip rfl rfl rfl ?_
      refine g_skip rfl rfl rfl ?_
      refine g_run rfl rfl (s_pick_f rfl rfl rfl) ?_
      refine g_u (s_pick_f rfl rfl rfl) ?_
      refine g_u (s_as_imm rfl rfl) ?_
      refine g_nil ?_
      refine normal_thn ?_
      refine aw_ret ?_
      exact ⟨⟨(rfl : toAV (Al.look _ _) = some _).trans (congrArg some (by (unfold isM; ((try simp only [decide_eq_true_eq, decide_eq_false_iff_not, bne_iff_ne, ne_eq, beq_iff_eq, bne_eq_false_iff_eq, beq_eq_false_iff_ne, Bool.not_eq_true', Bool.not_eq_false', gt_iff_lt, ge_iff_le] at *); (repeat simp (disch := omega) only [wrap64, wrap32] at *)); refine congrArg bv ?_; first | exact (decide_eq_true (by omega)).symm | exact (decide_eq_false (by omega)).symm | exact decide_eq_decide.2 (by omega)))), rfl⟩, trivial⟩

set_option maxHeartbeats 400000 in
theorem ris_c (r : Int) : PCall Try.prog Γ0 7 [rv r] [bv (isR r)] := by
  refine pcall_of Try.func7 rfl Try.ntmps7 (by kernel_rfl) rfl fun w0 I0 G0 => ?_
  refine aw_seq ?_
  refine aw_region ?_
  refine g_u (s_as_imm rfl rfl) ?_
  refine g_nil ?_
  refine normal_thn ?_
  refine aw_seq ?_
  refine aw_region ?_
  refine g_u (s_mv_imm rfl rfl) ?_
  refine g_u (s_geI rfl rfl rfl) ?_
  refine g_u (s_mv_imm rfl rfl) ?_
  refine g_case (t := 5) rfl ?_
  rintro (hb1 | hb1)
  · rw [hb1]
    refine g_run rfl rfl (s_mv_imm rfl rfl) ?_
    refine g_run rfl rfl (s_leI rfl rfl rfl) ?_
    refine g_u (s_pick_t rfl rfl rfl) ?_
    refine g_u (s_mv_imm rfl rfl) ?_
    refine g_case (t := 9) rfl ?_
    rintro (hb2 | hb2)
    · rw [hb2]
      refine g_run rfl rfl (s_mv_imm rfl rfl) ?_
      refine g_run rfl rfl (s_ltI rfl rfl rfl) ?_
      refine g_run rfl rfl (s_mv_imm rfl rfl) ?_
      refine g_case (t := 12) rfl ?_
      rintro (hb3 | hb3)
      · rw [hb3]
        refine g_skip rfl rfl rfl ?_
        refine g_skip rfl rfl rfl ?_
        refine g_run rfl rfl (s_pick_t rfl rfl rfl) ?_
        refine g_u (s_pick_t rfl rfl rfl) ?_
        refine g_u (s_as_imm rfl rfl) ?_
        refine g_nil ?_
        refine normal_thn ?_
        refine aw_ret ?_
        exact ⟨⟨(rfl : toAV (Al.look _ _) = some _).trans (congrArg some (by (unfold isR; ((try simp only [decide_eq_true_eq, decide_eq_false_iff_not, bne_iff_ne, ne_eq, beq_iff_eq, bne_eq_false_iff_eq, beq_eq_false_iff_ne, Bool.not_eq_true', Bool.not_eq_false', gt_iff_lt, ge_iff_le] at *); (repeat simp (disch := omega) only [wrap64, wrap32] at *)); refine congrArg bv ?_; first | exact (decide_eq_true (by omega)).symm | exact (decide_eq_false (by omega)).symm | exact decide_eq_decide.2 (by omega)))), rfl⟩, trivial⟩
      · rw [hb3]
        refine g_run rfl rfl (s_mv_imm rfl rfl) ?_
        refine g_run rfl rfl (s_gtI rfl rfl rfl) ?_
        refine g_run rfl rfl (s_pick_f rfl rfl rfl) ?_
        refine g_u (s_pick_t rfl rfl rfl) ?_
        refine g_u (s_as_imm rfl rfl) ?_
        refine g_nil ?_
        refine normal_thn ?_
        refine aw_ret ?_
        exact ⟨⟨(rfl : toAV (Al.look _ _) = some _).trans (congrArg some (by (unfold isR; ((try simp only [decide_eq_true_eq, decide_eq_false_iff_not, bne_iff_ne, ne_eq, beq_iff_eq, bne_eq_false_iff_eq, beq_eq_false_iff_ne, Bool.not_eq_true', Bool.not_eq_false', gt_iff_lt, ge_iff_le] at *); (repeat simp (disch := omega) only [wrap64, wrap32] at *)); refine congrArg bv ?_; first | exact (decide_eq_true (by omega)).symm | exact (decide_eq_false (by omega)).symm | exact decide_eq_decide.2 (by omega)))), rfl⟩, trivial⟩
    · rw [hb2]
      refine g_skip rfl rfl rfl ?_
      refine g_skip rfl rfl rfl ?_
      refine g_skip rfl rfl rfl ?_
      refine g_skip' rfl rfl rfl ?_
      refine g_skip' rfl rfl rfl ?_
      refine g_skip rfl rfl rfl ?_
      refine g_u (s_pick_f rfl rfl rfl) ?_
      refine g_u (s_as_imm rfl rfl) ?_
      refine g_nil ?_
      refine normal_thn ?_
      refine aw_ret ?_
      exact ⟨⟨(rfl : toAV (Al.look _ _) = some _).trans (congrArg some (by (unfold isR; ((try simp only [decide_eq_true_eq, decide_eq_false_iff_not, bne_iff_ne, ne_eq, beq_iff_eq, bne_eq_false_iff_eq, beq_eq_false_iff_ne, Bool.not_eq_true', Bool.not_eq_false', gt_iff_lt, ge_iff_le] at *); (repeat simp (disch := omega) only [wrap64, wrap32] at *)); refine congrArg bv ?_; first | exact (decide_eq_true (by omega)).symm | exact (decide_eq_false (by omega)).symm | exact decide_eq_decide.2 (by omega)))), rfl⟩, trivial⟩
  · rw [hb1]
    refine g_skip rfl rfl rfl ?_
    refine g_skip rfl rfl rfl ?_
    refine g_u (s_pick_f rfl rfl rfl) ?_
    refine g_u (s_mv_imm rfl rfl) ?_
    refine g_skip rfl rfl rfl ?_
    refine g_skip rfl rfl rfl ?_
    refine g_skip rfl rfl rfl ?_
    refine g_skip' rfl rfl rfl ?_
    refine g_skip' rfl rfl rfl ?_
    refine g_skip rfl rfl rfl ?_
    refine g_u (s_pick_f rfl rfl rfl) ?_
    refine g_u (s_as_imm rfl rfl) ?_
    refine g_nil ?_
    refine normal_thn ?_
    refine aw_ret ?_
    exact ⟨⟨(rfl : toAV (Al.look _ _) = some _).trans (congrArg some (by (unfold isR; ((try simp only [decide_eq_true_eq, decide_eq_false_iff_not, bne_iff_ne, ne_eq, beq_iff_eq, bne_eq_false_iff_eq, beq_eq_false_iff_ne, Bool.not_eq_true', Bool.not_eq_false', gt_iff_lt, ge_iff_le] at *); (repeat simp (disch := omega) only [wrap64, wrap32] at *)); refine congrArg bv ?_; first | exact (decide_eq_true (by omega)).symm | exact (decide_eq_false (by omega)).symm | exact decide_eq_decide.2 (by omega)))), rfl⟩, trivial⟩

set_option maxHeartbeats 400000 in
theorem rune_c (s : ByteArray) (p : Int) (hs : s.size < 9223372036854775808) : PCall Try.prog Γ0 9 [sv s, iv p] [rv (runeM s p).1, iv (runeM s p).2] := by
  have hk := lengthM_range (bAt s p)
  refine pcall_of Try.func9 rfl Try.ntmps9 (by kernel_rfl) rfl fun w0 I0 G0 => ?_
  refine aw_seq ?_
  refine aw_region ?_
  refine g_u (s_as_imm rfl rfl) ?_
  refine g_u (s_as_imm rfl rfl) ?_
  refine g_nil ?_
  refine normal_thn ?_
  refine aw_seq ?_
  refine aw_seq ?_
  refine aw_region ?_
  refine g_u (s_mv_imm rfl rfl) ?_
  refine g_u (s_ltI rfl rfl rfl) ?_
  refine g_u (s_mv_imm rfl rfl) ?_
  refine g_case (t := 11) rfl ?_
  rintro (hb1 | hb1)
  · rw [hb1]
    refine g_skip rfl rfl rfl ?_
    refine g_skip rfl rfl rfl ?_
    refine g_skip rfl rfl rfl ?_
    refine g_skip rfl rfl rfl ?_
    refine g_u (s_pick_t rfl rfl rfl) ?_
    refine g_nil ?_
    refine normal_thn ?_
    refine aw_cond_true rfl ?_
    refine aw_seq ?_
    refine aw_region ?_
    refine g_u (s_as_imm rfl rfl) ?_
    refine g_u (s_as_imm rfl rfl) ?_
    refine g_nil ?_
    refine normal_thn ?_
    refine aw_ret ?_
    refine ret_thn ?_
    exact ⟨⟨(rfl : toAV (Al.look _ _) = some _).trans (congrArg some (by (unfold runeM; ((try simp only [decide_eq_true_eq, decide_eq_false_iff_not, bne_iff_ne, ne_eq, beq_iff_eq, bne_eq_false_iff_eq, beq_eq_false_iff_ne, Bool.not_eq_true', Bool.not_eq_false', gt_iff_lt, ge_iff_le] at *); (repeat simp (disch := omega) only [wrap64, wrap32] at *)); first | (rw [if_pos (by omega)]; first | done | rfl) | (rw [if_neg (by omega), if_pos (by omega)]; first | done | rfl) | (rw [if_neg (by omega), if_neg (by omega), if_pos (by omega)]; first | done | rfl)))), rfl⟩, ⟨(rfl : toAV (Al.look _ _) = some _).trans (congrArg some (by (unfold runeM; ((try simp only [decide_eq_true_eq, decide_eq_false_iff_not, bne_iff_ne, ne_eq, beq_iff_eq, bne_eq_false_iff_eq, beq_eq_false_iff_ne, Bool.not_eq_true', Bool.not_eq_false', gt_iff_lt, ge_iff_le] at *); (repeat simp (disch := omega) only [wrap64, wrap32] at *)); first | (rw [if_pos (by omega)]; first | done | rfl) | (rw [if_neg (by omega), if_pos (by omega)]; first | done | rfl) | (rw [if_neg (by omega), if_neg (by omega), if_pos (by omega)]; first | done | rfl)))), rfl⟩, trivial⟩
  · rw [hb1]
    refine g_run rfl rfl (s_mv_imm rfl rfl) ?_
    refine g_run rfl rfl (s_mv_imm rfl rfl) ?_
    refine g_run rfl rfl (s_lenS rfl rfl Try.underlying9) ?_
    refine g_run rfl rfl (s_geI rfl rfl rfl) ?_
    refine g_u (s_pick_f rfl rfl rfl) ?_
    refine g_nil ?_
    refine normal_thn ?_
    refine aw_cond rfl (fun hb2 => ?_) (fun hb2 => ?_)
    · skip
      refine aw_seq ?_
      refine aw_region ?_
      refine g_u (s_as_imm rfl rfl) ?_
      refine g_u (s_as_imm rfl rfl) ?_
      refine g_nil ?_
      refine normal_thn ?_
      refine aw_ret ?_
      refine ret_thn ?_
      exact ⟨⟨(rfl : toAV (Al.look _ _) = some _).trans (congrArg some (by (unfold runeM; ((try simp only [decide_eq_true_eq, decide_eq_false_iff_not, bne_iff_ne, ne_eq, beq_iff_eq, bne_eq_false_iff_eq, beq_eq_false_iff_ne, Bool.not_eq_true', Bool.not_eq_false', gt_iff_lt, ge_iff_le] at *); (repeat simp (disch := omega) only [wrap64, wrap32] at *)); first | (rw [if_pos (by omega)]; first | done | rfl) | (rw [if_neg (by omega), if_pos (by omega)]; first | done | rfl) | (rw [if_neg (by omega), if_neg (by omega), if_pos (by omega)]; first | done | rfl)))), rfl⟩, ⟨(rfl : toAV (Al.look _ _) = some _).trans (congrArg some (by (unfold runeM; ((try simp only [decide_eq_true_eq, decide_eq_false_iff_not, bne_iff_ne, ne_eq, beq_iff_eq, bne_eq_false_iff_eq, beq_eq_false_iff_ne, Bool.not_eq_true', Bool.not_eq_false', gt_iff_lt, ge_iff_le] at *); (repeat simp (disch := omega) only [wrap64, wrap32] at *)); first | (rw [if_pos (by omega)]; first | done | rfl) | (rw [if_neg (by omega), if_pos (by omega)]; first | done | rfl) | (rw [if_neg (by omega), if_neg (by omega), if_pos (by omega)]; first | done | rfl)))), rfl⟩, trivial⟩
    · skip
      refine aw_skip ?_
      refine normal_thn ?_
      refine aw_seq ?_
      refine aw_region ?_
      refine g_u (s_mv_imm rfl rfl) ?_
      refine g_u (s_mv_imm rfl rfl) ?_
      refine g_u (si_ix rfl rfl rfl Try.underlying9 (by ((try simp only [decide_eq_true_eq, decide_eq_false_iff_not, bne_iff_ne, ne_eq, beq_iff_eq, bne_eq_false_iff_eq, beq_eq_false_iff_ne, Bool.not_eq_true', Bool.not_eq_false', gt_iff_lt, ge_iff_le] at *); (repeat simp (disch := omega) only [wrap64, wrap32] at *)); omega)) ?_
      refine g_u (s_call1 (length_c _) rfl rfl) ?_
      refine g_u (s_as_imm rfl rfl) ?_
      refine g_nil ?_
      refine normal_thn ?_
      refine aw_seq ?_
      refine aw_seq ?_
      refine aw_region ?_
      refine g_u (s_mv_imm rfl rfl) ?_
      refine g_u (s_eqI rfl rfl rfl) ?_
      refine g_u (s_mv_imm rfl rfl) ?_
      refine g_case (t := 23) rfl ?_
      rintro (hb3 | hb3)
      · rw [hb3]
        refine g_skip rfl rfl rfl ?_
        refine g_skip rfl rfl rfl ?_
        refine g_skip rfl rfl rfl ?_
        refine g_skip rfl rfl rfl ?_
        refine g_skip rfl rfl rfl ?_
        refine g_skip rfl rfl rfl ?_
        refine g_u (s_pick_t rfl rfl rfl) ?_
        refine g_nil ?_
        refine normal_thn ?_
        refine aw_cond_true rfl ?_
        refine aw_seq ?_
        refine aw_region ?_
        refine g_u (s_as_imm rfl rfl) ?_
        refine g_u (s_as_imm rfl rfl) ?_
        refine g_nil ?_
        refine normal_thn ?_
        refine aw_ret ?_
        refine ret_thn ?_
        exact ⟨⟨(rfl : toAV (Al.look _ _) = some _).trans (congrArg some (by (unfold runeM; ((try simp only [decide_eq_true_eq, decide_eq_false_iff_not, bne_iff_ne, ne_eq, beq_iff_eq, bne_eq_false_iff_eq, beq_eq_false_iff_ne, Bool.not_eq_true', Bool.not_eq_false', gt_iff_lt, ge_iff_le] at *); (repeat simp (disch := omega) only [wrap64, wrap32] at *)); first | (rw [if_pos (by omega)]; first | done | rfl) | (rw [if_neg (by omega), if_pos (by omega)]; first | done | rfl) | (rw [if_neg (by omega), if_neg (by omega), if_pos (by omega)]; first | done | rfl)))), rfl⟩, ⟨(rfl : toAV (Al.look _ _) = some _).trans (congrArg some (by (unfold runeM; ((try simp only [decide_eq_true_eq, decide_eq_false_iff_not, bne_iff_ne, ne_eq, beq_iff_eq, bne_eq_false_iff_eq, beq_eq_false_iff_ne, Bool.not_eq_true', Bool.not_eq_false', gt_iff_lt, ge_iff_le] at *); (repeat simp (disch := omega) only [wrap64, wrap32] at *)); first | (rw [if_pos (by omega)]; first | done | rfl) | (rw [if_neg (by omega), if_pos (by omega)]; first | done | rfl) | (rw [if_neg (by omega), if_neg (by omega), if_pos (by omega)]; first | done | rfl)))), rfl⟩, trivial⟩
      · rw [hb3]
        refine g_run rfl rfl (s_mv_imm rfl rfl) ?_
        refine g_run rfl rfl (s_mv_imm rfl rfl) ?_
        refine g_run rfl rfl (s_lenS rfl rfl Try.underlying9) ?_
        refine g_run rfl rfl (s_mv_imm rfl rfl) ?_
        refine g_run rfl rfl (s_sub rfl rfl rfl) ?_
        refine g_run rfl rfl (s_gtI rfl rfl rfl) ?_
        refine g_u (s_pick_f rfl rfl rfl) ?_
        refine g_nil ?_
        refine normal_thn ?_
        refine aw_cond rfl (fun hb4 => ?_) (fun hb4 => ?_)
        · skip
          refine aw_seq ?_
          refine aw_region ?_
          refine g_u (s_as_imm rfl rfl) ?_
          refine g_u (s_as_imm rfl rfl) ?_
          refine g_nil ?_
          refine normal_thn ?_
          refine aw_ret ?_
          refine ret_thn ?_
          exact ⟨⟨(rfl : toAV (Al.look _ _) = some _).trans (congrArg some (by (unfold runeM; ((try simp only [decide_eq_true_eq, decide_eq_false_iff_not, bne_iff_ne, ne_eq, beq_iff_eq, bne_eq_false_iff_eq, beq_eq_false_iff_ne, Bool.not_eq_true', Bool.not_eq_false', gt_iff_lt, ge_iff_le] at *); (repeat simp (disch := omega) only [wrap64, wrap32] at *)); first | (rw [if_pos (by omega)]; first | done | rfl) | (rw [if_neg (by omega), if_pos (by omega)]; first | done | rfl) | (rw [if_neg (by omega), if_neg (by omega), if_pos (by omega)]; first | done | rfl)))), rfl⟩, ⟨(rfl : toAV (Al.look _ _) = some _).trans (congrArg some (by (unfold runeM; ((try simp only [decide_eq_true_eq, decide_eq_false_iff_not, bne_iff_ne, ne_eq, beq_iff_eq, bne_eq_false_iff_eq, beq_eq_false_iff_ne, Bool.not_eq_true', Bool.not_eq_false', gt_iff_lt, ge_iff_le] at *); (repeat simp (disch := omega) only [wrap64, wrap32] at *)); first | (rw [if_pos (by omega)]; first | done | rfl) | (rw [if_neg (by omega), if_pos (by omega)]; first | done | rfl) | (rw [if_neg (by omega), if_neg (by omega), if_pos (by omega)]; first | done | rfl)))), rfl⟩, trivial⟩
        · skip
          refine aw_skip ?_
          refine normal_thn ?_
          refine aw_seq ?_
          refine aw_seq ?_
          refine aw_region ?_
          refine g_u (s_mv_imm rfl rfl) ?_
          refine g_u (s_eqI rfl rfl rfl) ?_
          refine g_nil ?_
          refine normal_thn ?_
          refine aw_cond rfl (fun hb5 => ?_) (fun hb5 => ?_)
          · skip
            refine aw_seq ?_
            refine aw_region ?_
            refine g_u (s_mv_imm rfl rfl) ?_
            refine g_u (s_mv_imm rfl rfl) ?_
            refine g_u (si_ix rfl rfl rfl Try.underlying9 (by ((try simp only [decide_eq_true_eq, decide_eq_false_iff_not, bne_iff_ne, ne_eq, beq_iff_eq, bne_eq_false_iff_eq, beq_eq_false_iff_ne, Bool.not_eq_true', Bool.not_eq_false', gt_iff_lt, ge_iff_le] at *); (repeat simp (disch := omega) only [wrap64, wrap32] at *)); omega)) ?_
            refine g_u (s_cvII rfl rfl Try.underlying5 Try.underlying21) ?_
            refine g_u (s_as_imm rfl rfl) ?_
            refine g_u (s_as_imm rfl rfl) ?_
            refine g_nil ?_
            refine normal_thn ?_
            refine aw_ret ?_
            refine ret_thn ?_
            exact ⟨⟨(rfl : toAV (Al.look _ _) = some _).trans (congrArg some (by (unfold runeM; ((try simp only [decide_eq_true_eq, decide_eq_false_iff_not, bne_iff_ne, ne_eq, beq_iff_eq, bne_eq_false_iff_eq, beq_eq_false_iff_ne, Bool.not_eq_true', Bool.not_eq_false', gt_iff_lt, ge_iff_le] at *); (repeat simp (disch := omega) only [wrap64, wrap32] at *)); first | (rw [if_pos (by omega)]; first | done | rfl) | (rw [if_neg (by omega), if_pos (by omega)]; first | done | rfl) | (rw [if_neg (by omega), if_neg (by omega), if_pos (by omega)]; first | done | rfl)))), rfl⟩, ⟨(rfl : toAV (Al.look _ _) = some _).trans (congrArg some (by (unfold runeM; ((try simp only [decide_eq_true_eq, decide_eq_false_iff_not, bne_iff_ne, ne_eq, beq_iff_eq, bne_eq_false_iff_eq, beq_eq_false_iff_ne, Bool.not_eq_true', Bool.not_eq_false', gt_iff_lt, ge_iff_le] at *); (repeat simp (disch := omega) only [wrap64, wrap32] at *)); first | (rw [if_pos (by omega)]; first | done | rfl) | (rw [if_neg (by omega), if_pos (by omega)]; first | done | rfl) | (rw [if_neg (by omega), if_neg (by omega), if_pos (by omega)]; first | done | rfl)))), rfl⟩, trivial⟩
          · skip
            refine aw_skip ?_
            refine normal_thn ?_
            refine aw_seq ?_
            refine aw_draw mixed ?_
            refine g_u (s_mv_imm rfl rfl) ?_
            refine g_u (s_mv_imm rfl rfl) ?_
            refine g_u (si_ix rfl rfl rfl Try.underlying9 (by ((try simp only [decide_eq_true_eq, decide_eq_false_iff_not, bne_iff_ne, ne_eq, beq_iff_eq, bne_eq_false_iff_eq, beq_eq_false_iff_ne, Bool.not_eq_true', Bool.not_eq_false', gt_iff_lt, ge_iff_le] at *); (repeat simp (disch := omega) only [wrap64, wrap32] at *)); omega)) ?_
            refine g_u (s_cvII rfl rfl Try.underlying5 Try.underlying21) ?_
            refine g_u (s_mv_imm rfl rfl) ?_
            refine g_u (s_shr rfl rfl rfl (by first | decide | omega | (((try simp only [decide_eq_true_eq, decide_eq_false_iff_not, bne_iff_ne, ne_eq, beq_iff_eq, bne_eq_false_iff_eq, beq_eq_false_iff_ne, Bool.not_eq_true', Bool.not_eq_false', gt_iff_lt, ge_iff_le] at *); (repeat simp (disch := omega) only [wrap64, wrap32] at *)); omega))) ?_
            refine g_u (s_and rfl rfl rfl) ?_
            refine g_u (s_as_imm rfl rfl) ?_
            refine g_nil ⟨by kernel_rfl, ?_⟩
            refine normal_thn ?_
            refine aw_seq ?_
            refine aw_seq ?_
            refine aw_region ?_
            refine g_u (s_as_imm rfl rfl) ?_
            refine g_nil ?_
            refine normal_thn ?_
            refine aw_block ?_
            refine aw_loop' (fun j : Nat × Int × Int => [(0, .imm (sv s)), (1, .imm (iv p)), (4, .imm (rv j.2.2)), (6, .imm (iv (lengthM (bAt s p)))), (7, .imm (iv j.2.1))]) (fun j => 1 ≤ j.2.1 ∧ j.2.1 + j.1 = lengthM (bAt s p) ∧ runeLoop s p j.1 j.2.1 j.2.2 = runeLoop s p (lengthM (bAt s p) - 1).toNat 1 (r0M (bAt s p) (lengthM (bAt s p)))) (fun j => j.1) (⟨(lengthM (bAt s p) - 1).toNat, 1, r0M (bAt s p) (lengthM (bAt s p))⟩) ?_ ⟨rfl, rfl, rfl, rfl, rfl, trivial⟩ ?_
            · exact ⟨Int.le_refl 1, by ((try simp only [decide_eq_true_eq, decide_eq_false_iff_not, bne_iff_ne, ne_eq, beq_iff_eq, bne_eq_false_iff_eq, beq_eq_false_iff_ne, Bool.not_eq_true', Bool.not_eq_false', gt_iff_lt, ge_iff_le] at *); (repeat simp (disch := omega) only [wrap64, wrap32] at *)); omega, rfl⟩
            · rintro ⟨n, i, r⟩ ⟨h1, h2, h3⟩; dsimp only at h1 h2 h3
              refine aw_seq ?_
              refine aw_seq ?_
              refine aw_region ?_
              refine g_u (s_mv_imm rfl rfl) ?_
              refine g_u (s_mv_imm rfl rfl) ?_
              refine g_u (s_ltI rfl rfl rfl) ?_
              refine g_nil ?_
              refine normal_thn ?_
              refine aw_cond rfl (fun hb6 => ?_) (fun hb6 => ?_)
              · skip
                refine aw_skip ?_
                refine normal_thn ?_
                refine aw_seq ?_
                refine aw_block ?_
                refine aw_seq ?_
                refine aw_region ?_
                refine g_u (s_mv_imm rfl rfl) ?_
                refine g_u (s_mv_imm rfl rfl) ?_
                refine g_u (s_mv_imm rfl rfl) ?_
                refine g_u (s_add rfl rfl rfl) ?_
                refine g_u (si_ix rfl rfl rfl Try.underlying9 (by ((try simp only [decide_eq_true_eq, decide_eq_false_iff_not, bne_iff_ne, ne_eq, beq_iff_eq, bne_eq_false_iff_eq, beq_eq_false_iff_ne, Bool.not_eq_true', Bool.not_eq_false', gt_iff_lt, ge_iff_le] at *); (repeat simp (disch := omega) only [wrap64, wrap32] at *)); omega)) ?_
                refine g_u (s_as_imm rfl rfl) ?_
                refine g_nil ?_
                refine normal_thn ?_
                refine aw_seq ?_
                refine aw_seq ?_
                refine aw_region ?_
                refine g_u (s_mv_imm rfl rfl) ?_
                refine g_u (s_and rfl rfl rfl) ?_
                refine g_u (s_neI rfl rfl rfl) ?_
                refine g_nil ?_
                refine normal_thn ?_
                refine aw_cond rfl (fun hb7 => ?_) (fun hb7 => ?_)
                · skip
                  refine aw_seq ?_
                  refine aw_region ?_
                  refine g_u (s_as_imm rfl rfl) ?_
                  refine g_u (s_as_imm rfl rfl) ?_
                  refine g_nil ?_
                  refine normal_thn ?_
                  refine aw_ret ?_
                  refine ret_thn ?_
                  refine ret_blk ?_
                  refine ret_thn ?_
                  refine ret_thn ?_
                  refine ret_blk ?_
                  refine ret_thn ?_
                  have e1 : IntKind.i64.wrap (p + i) = p + i := by ((try simp only [decide_eq_true_eq, decide_eq_false_iff_not, bne_iff_ne, ne_eq, beq_iff_eq, bne_eq_false_iff_eq, beq_eq_false_iff_ne, Bool.not_eq_true', Bool.not_eq_false', gt_iff_lt, ge_iff_le] at *); (repeat simp (disch := omega) only [wrap64, wrap32] at *))
                  obtain ⟨m, rfl⟩ : ∃ m, n = m + 1 := ⟨n - 1, by ((try simp only [decide_eq_true_eq, decide_eq_false_iff_not, bne_iff_ne, ne_eq, beq_iff_eq, bne_eq_false_iff_eq, beq_eq_false_iff_ne, Bool.not_eq_true', Bool.not_eq_false', gt_iff_lt, ge_iff_le] at *); (repeat simp (disch := omega) only [wrap64, wrap32] at *)); omega⟩
                  rw [e1] at hb7
                  change badM (bAt s (p + i)) = true at hb7
                  rw [runeLoop, if_pos hb7] at h3
                  have E : runeM s p = (0, 0) := by
                    unfold runeM; ((try simp only [decide_eq_true_eq, decide_eq_false_iff_not, bne_iff_ne, ne_eq, beq_iff_eq, bne_eq_false_iff_eq, beq_eq_false_iff_ne, Bool.not_eq_true', Bool.not_eq_false', gt_iff_lt, ge_iff_le] at *); (repeat simp (disch := omega) only [wrap64, wrap32] at *)); rw [if_neg (by omega), if_neg (by omega), if_neg (by omega), ← h3]
                  exact ⟨⟨(rfl : toAV (Al.look _ _) = some _).trans (congrArg some (by rw [E])), rfl⟩, ⟨(rfl : toAV (Al.look _ _) = some _).trans (congrArg some (by rw [E])), rfl⟩, trivial⟩
                · skip
                  refine aw_skip ?_
                  refine normal_thn ?_
                  refine aw_region ?_
                  refine g_u (s_mv_imm rfl rfl) ?_
                  refine g_u (s_shl rfl rfl rfl (by first | decide | omega | (((try simp only [decide_eq_true_eq, decide_eq_false_iff_not, bne_iff_ne, ne_eq, beq_iff_eq, bne_eq_false_iff_eq, beq_eq_false_iff_ne, Bool.not_eq_true', Bool.not_eq_false', gt_iff_lt, ge_iff_le] at *); (repeat simp (disch := omega) only [wrap64, wrap32] at *)); omega))) ?_
                  refine g_u (s_mv_imm rfl rfl) ?_
                  refine g_u (s_and rfl rfl rfl) ?_
                  refine g_u (s_cvII rfl rfl Try.underlying5 Try.underlying21) ?_
                  refine g_u (s_or rfl rfl rfl) ?_
                  refine g_u (s_as_imm rfl rfl) ?_
                  refine g_nil ?_
                  refine normal_blk ?_
                  refine normal_thn ?_
                  refine aw_region ?_
                  refine g_u (s_mv_imm rfl rfl) ?_
                  refine g_u (s_add rfl rfl rfl) ?_
                  refine g_u (s_as_imm rfl rfl) ?_
                  refine g_nil ?_
                  refine normal_thn ?_
                  have e1 : IntKind.i64.wrap (p + i) = p + i := by ((try simp only [decide_eq_true_eq, decide_eq_false_iff_not, bne_iff_ne, ne_eq, beq_iff_eq, bne_eq_false_iff_eq, beq_eq_false_iff_ne, Bool.not_eq_true', Bool.not_eq_false', gt_iff_lt, ge_iff_le] at *); (repeat simp (disch := omega) only [wrap64, wrap32] at *))
                  have e2 : IntKind.i64.wrap (i + 1) = i + 1 := by ((try simp only [decide_eq_true_eq, decide_eq_false_iff_not, bne_iff_ne, ne_eq, beq_iff_eq, bne_eq_false_iff_eq, beq_eq_false_iff_ne, Bool.not_eq_true', Bool.not_eq_false', gt_iff_lt, ge_iff_le] at *); (repeat simp (disch := omega) only [wrap64, wrap32] at *))
                  obtain ⟨m, rfl⟩ : ∃ m, n = m + 1 := ⟨n - 1, by ((try simp only [decide_eq_true_eq, decide_eq_false_iff_not, bne_iff_ne, ne_eq, beq_iff_eq, bne_eq_false_iff_eq, beq_eq_false_iff_ne, Bool.not_eq_true', Bool.not_eq_false', gt_iff_lt, ge_iff_le] at *); (repeat simp (disch := omega) only [wrap64, wrap32] at *)); omega⟩
                  rw [e1] at hb7
                  change badM (bAt s (p + i)) = false at hb7
                  rw [runeLoop, if_neg (by rw [hb7]; decide)] at h3
                  refine ⟨⟨m, IntKind.i64.wrap (i + 1), stepM r (bAt s (IntKind.i64.wrap (p + i)))⟩, ⟨?_, ?_, ?_⟩, ⟨rfl, rfl, rfl, rfl, rfl, trivial⟩, Nat.lt_succ_self _⟩
                  · show 1 ≤ IntKind.i64.wrap (i + 1)
                    rw [e2]; omega
                  · show IntKind.i64.wrap (i + 1) + (m : Int) = _
                    rw [e2]; omega
                  · show runeLoop s p m (IntKind.i64.wrap (i + 1)) (stepM r (bAt s (IntKind.i64.wrap (p + i)))) = _
                    rw [e1, e2]; exact h3
              · skip
                refine aw_exit ?_
                refine exit_thn ?_
                refine exit_thn ?_
                refine exit_blk ?_
                refine normal_thn ?_
                refine aw_seq ?_
                refine aw_seq ?_
                refine aw_region ?_
                refine g_u (s_mv_imm rfl rfl) ?_
                refine g_u (s_mv_imm rfl rfl) ?_
                refine g_u (s_call1 (least_c _) rfl rfl) ?_
                refine g_u (s_ltI rfl rfl rfl) ?_
                refine g_u (s_mv_imm rfl rfl) ?_
                refine g_case (t := 67) rfl ?_
                rintro (hb8 | hb8)
                · rw [hb8]
                  refine g_skip rfl rfl rfl ?_
                  refine g_skip rfl rfl rfl ?_
                  refine g_skip rfl rfl rfl ?_
                  refine g_u (s_pick_t rfl rfl rfl) ?_
                  refine g_nil ?_
                  refine normal_thn ?_
                  refine aw_cond_true rfl ?_
                  refine aw_seq ?_
                  refine aw_region ?_
                  refine g_u (s_as_imm rfl rfl) ?_
                  refine g_u (s_as_imm rfl rfl) ?_
                  refine g_nil ?_
                  refine normal_thn ?_
                  refine aw_ret ?_
                  refine ret_thn ?_
                  obtain rfl : n = 0 := by ((try simp only [decide_eq_true_eq, decide_eq_false_iff_not, bne_iff_ne, ne_eq, beq_iff_eq, bne_eq_false_iff_eq, beq_eq_false_iff_ne, Bool.not_eq_true', Bool.not_eq_false', gt_iff_lt, ge_iff_le] at *); (repeat simp (disch := omega) only [wrap64, wrap32] at *)); omega
                  change some r = _ at h3
                  have E : runeM s p = (0, 0) := by
                    unfold runeM; ((try simp only [decide_eq_true_eq, decide_eq_false_iff_not, bne_iff_ne, ne_eq, beq_iff_eq, bne_eq_false_iff_eq, beq_eq_false_iff_ne, Bool.not_eq_true', Bool.not_eq_false', gt_iff_lt, ge_iff_le] at *); (repeat simp (disch := omega) only [wrap64, wrap32] at *)); rw [if_neg (by omega), if_neg (by omega), if_neg (by omega), ← h3]; dsimp only; rw [if_pos (.inl (by omega))]
                  exact ⟨⟨(rfl : toAV (Al.look _ _) = some _).trans (congrArg some (by rw [E])), rfl⟩, ⟨(rfl : toAV (Al.look _ _) = some _).trans (congrArg some (by rw [E])), rfl⟩, trivial⟩
                · rw [hb8]
                  refine g_run rfl rfl (s_mv_imm rfl rfl) ?_
                  refine g_run rfl rfl (s_call1 (is_c _) rfl rfl) ?_
                  refine g_run rfl rfl (s_not rfl rfl) ?_
                  refine g_u (s_pick_f rfl rfl rfl) ?_
                  refine g_nil ?_
                  refine normal_thn ?_
                  refine aw_cond rfl (fun hb9 => ?_) (fun hb9 => ?_)
                  · skip
                    refine aw_seq ?_
                    refine aw_region ?_
                    refine g_u (s_as_imm rfl rfl) ?_
                    refine g_u (s_as_imm rfl rfl) ?_
                    refine g_nil ?_
                    refine normal_thn ?_
                    refine aw_ret ?_
                    refine ret_thn ?_
                    obtain rfl : n = 0 := by ((try simp only [decide_eq_true_eq, decide_eq_false_iff_not, bne_iff_ne, ne_eq, beq_iff_eq, bne_eq_false_iff_eq, beq_eq_false_iff_ne, Bool.not_eq_true', Bool.not_eq_false', gt_iff_lt, ge_iff_le] at *); (repeat simp (disch := omega) only [wrap64, wrap32] at *)); omega
                    change some r = _ at h3
                    have E : runeM s p = (0, 0) := by
                      unfold runeM; ((try simp only [decide_eq_true_eq, decide_eq_false_iff_not, bne_iff_ne, ne_eq, beq_iff_eq, bne_eq_false_iff_eq, beq_eq_false_iff_ne, Bool.not_eq_true', Bool.not_eq_false', gt_iff_lt, ge_iff_le] at *); (repeat simp (disch := omega) only [wrap64, wrap32] at *)); rw [if_neg (by omega), if_neg (by omega), if_neg (by omega), ← h3]; dsimp only; rw [if_pos (.inr (by first | assumption | simp_all))]
                    exact ⟨⟨(rfl : toAV (Al.look _ _) = some _).trans (congrArg some (by rw [E])), rfl⟩, ⟨(rfl : toAV (Al.look _ _) = some _).trans (congrArg some (by rw [E])), rfl⟩, trivial⟩
                  · skip
                    refine aw_skip ?_
                    refine normal_thn ?_
                    refine aw_seq ?_
                    refine aw_region ?_
                    refine g_u (s_mv_imm rfl rfl) ?_
                    refine g_u (s_mv_imm rfl rfl) ?_
                    refine g_u (s_as_imm rfl rfl) ?_
                    refine g_u (s_as_imm rfl rfl) ?_
                    refine g_nil ?_
                    refine normal_thn ?_
                    refine aw_ret ?_
                    obtain rfl : n = 0 := by ((try simp only [decide_eq_true_eq, decide_eq_false_iff_not, bne_iff_ne, ne_eq, beq_iff_eq, bne_eq_false_iff_eq, beq_eq_false_iff_ne, Bool.not_eq_true', Bool.not_eq_false', gt_iff_lt, ge_iff_le] at *); (repeat simp (disch := omega) only [wrap64, wrap32] at *)); omega
                    change some r = _ at h3
                    have E : runeM s p = (r, lengthM (bAt s p)) := by
                      unfold runeM; ((try simp only [decide_eq_true_eq, decide_eq_false_iff_not, bne_iff_ne, ne_eq, beq_iff_eq, bne_eq_false_iff_eq, beq_eq_false_iff_ne, Bool.not_eq_true', Bool.not_eq_false', gt_iff_lt, ge_iff_le] at *); (repeat simp (disch := omega) only [wrap64, wrap32] at *)); rw [if_neg (by omega), if_neg (by omega), if_neg (by omega), ← h3]; dsimp only; rw [if_neg (by simp_all)]
                    exact ⟨⟨(rfl : toAV (Al.look _ _) = some _).trans (congrArg some (by rw [E])), rfl⟩, ⟨(rfl : toAV (Al.look _ _) = some _).trans (congrArg some (by rw [E])), rfl⟩, trivial⟩

set_option maxHeartbeats 400000 in
theorem bytes_c (r : Int) : PCall Try.prog Γ0 10 [rv r] [sv (strOf (bytesM r))] := by
  refine pcall_of Try.func10 rfl Try.ntmps10 (by kernel_rfl) rfl fun w0 I0 G0 => ?_
  refine aw_seq ?_
  refine aw_region ?_
  refine g_u (s_as_imm rfl rfl) ?_
  refine g_nil ?_
  refine normal_thn ?_
  refine aw_seq ?_
  refine aw_region ?_
  refine g_u (s_mv_imm rfl rfl) ?_
  refine g_u (s_cvII rfl rfl Try.underlying21 Try.underlying3) ?_
  refine g_u (s_as_imm rfl rfl) ?_
  refine g_nil ?_
  refine normal_thn ?_
  refine aw_seq ?_
  refine aw_seq ?_
  refine aw_region ?_
  refine g_u (s_mv_imm rfl rfl) ?_
  refine g_u (s_ltI rfl rfl rfl) ?_
  refine g_nil ?_
  refine normal_thn ?_
  refine aw_cond rfl (fun hb1 => ?_) (fun hb1 => ?_)
  · skip
    refine aw_seq ?_
    refine aw_region ?_
    refine g_u (s_mv_imm rfl rfl) ?_
    refine g_u (s_cvII rfl rfl Try.underlying3 Try.underlying5) ?_
    refine g_u (s_buildSlice (X0 := z5) rfl Try.underlying22 tS5 tZ5 rfl rfl rfl rfl rfl rfl rfl rfl) ?_
    refine g_u (s_cvBS' ((bl_cons bl_nil)) rfl rfl Try.underlying22 Try.underlying9 Try.underlying5) ?_
    refine g_u (s_as_imm rfl rfl) ?_
    refine g_nil ?_
    refine normal_thn ?_
    refine aw_ret ?_
    refine ret_thn ?_
    exact ⟨⟨(rfl : toAV (Al.look _ _) = some _).trans (congrArg some (by (unfold bytesM w64; simp only [decide_eq_true_eq, decide_eq_false_iff_not] at *; first | (rw [if_pos (by omega)]; first | done | rfl) | (rw [if_neg (by omega), if_pos (by omega)]; first | done | rfl) | (rw [if_neg (by omega), if_neg (by omega), if_pos (by omega)]; first | done | rfl) | (rw [if_neg (by omega), if_neg (by omega), if_neg (by omega)]; first | done | rfl)))), rfl⟩, trivial⟩
  · skip
    refine aw_skip ?_
    refine normal_thn ?_
    refine aw_seq ?_
    refine aw_seq ?_
    refine aw_region ?_
    refine g_u (s_mv_imm rfl rfl) ?_
    refine g_u (s_ltI rfl rfl rfl) ?_
    refine g_nil ?_
    refine normal_thn ?_
    refine aw_cond rfl (fun hb2 => ?_) (fun hb2 => ?_)
    · skip
      refine aw_seq ?_
      refine aw_region ?_
      refine g_u (s_mv_imm rfl rfl) ?_
      refine g_u (s_quo rfl rfl rfl (by first | decide | omega | (((try simp only [decide_eq_true_eq, decide_eq_false_iff_not, bne_iff_ne, ne_eq, beq_iff_eq, bne_eq_false_iff_eq, beq_eq_false_iff_ne, Bool.not_eq_true', Bool.not_eq_false', gt_iff_lt, ge_iff_le] at *); (repeat simp (disch := omega) only [wrap64, wrap32] at *)); omega))) ?_
      refine g_u (s_add rfl rfl rfl) ?_
      refine g_u (s_cvII rfl rfl Try.underlying3 Try.underlying5) ?_
      refine g_u (s_mv_imm rfl rfl) ?_
      refine g_u (s_rem rfl rfl rfl (by first | decide | omega | (((try simp only [decide_eq_true_eq, decide_eq_false_iff_not, bne_iff_ne, ne_eq, beq_iff_eq, bne_eq_false_iff_eq, beq_eq_false_iff_ne, Bool.not_eq_true', Bool.not_eq_false', gt_iff_lt, ge_iff_le] at *); (repeat simp (disch := omega) only [wrap64, wrap32] at *)); omega))) ?_
      refine g_u (s_add rfl rfl rfl) ?_
      refine g_u (s_cvII rfl rfl Try.underlying3 Try.underlying5) ?_
      refine g_u (s_buildSlice (X0 := z5) rfl Try.underlying22 tS5 tZ5 rfl rfl rfl rfl rfl rfl rfl rfl) ?_
      refine g_u (s_cvBS' ((bl_cons (bl_cons bl_nil))) rfl rfl Try.underlying22 Try.underlying9 Try.underlying5) ?_
      refine g_u (s_as_imm rfl rfl) ?_
      refine g_nil ?_
      refine normal_thn ?_
      refine aw_ret ?_
      refine ret_thn ?_
      exact ⟨⟨(rfl : toAV (Al.look _ _) = some _).trans (congrArg some (by (unfold bytesM w64; simp only [decide_eq_true_eq, decide_eq_false_iff_not] at *; first | (rw [if_pos (by omega)]; first | done | rfl) | (rw [if_neg (by omega), if_pos (by omega)]; first | done | rfl) | (rw [if_neg (by omega), if_neg (by omega), if_pos (by omega)]; first | done | rfl) | (rw [if_neg (by omega), if_neg (by omega), if_neg (by omega)]; first | done | rfl)))), rfl⟩, trivial⟩
    · skip
      refine aw_skip ?_
      refine normal_thn ?_
      refine aw_seq ?_
      refine aw_seq ?_
      refine aw_region ?_
      refine g_u (s_mv_imm rfl rfl) ?_
      refine g_u (s_ltI rfl rfl rfl) ?_
      refine g_nil ?_
      refine normal_thn ?_
      refine aw_cond rfl (fun hb3 => ?_) (fun hb3 => ?_)
      · skip
        refine aw_seq ?_
        refine aw_region ?_
        refine g_u (s_mv_imm rfl rfl) ?_
        refine g_u (s_quo rfl rfl rfl (by first | decide | omega | (((try simp only [decide_eq_true_eq, decide_eq_false_iff_not, bne_iff_ne, ne_eq, beq_iff_eq, bne_eq_false_iff_eq, beq_eq_false_iff_ne, Bool.not_eq_true', Bool.not_eq_false', gt_iff_lt, ge_iff_le] at *); (repeat simp (disch := omega) only [wrap64, wrap32] at *)); omega))) ?_
        refine g_u (s_add rfl rfl rfl) ?_
        refine g_u (s_cvII rfl rfl Try.underlying3 Try.underlying5) ?_
        refine g_u (s_mv_imm rfl rfl) ?_
        refine g_u (s_quo rfl rfl rfl (by first | decide | omega | (((try simp only [decide_eq_true_eq, decide_eq_false_iff_not, bne_iff_ne, ne_eq, beq_iff_eq, bne_eq_false_iff_eq, beq_eq_false_iff_ne, Bool.not_eq_true', Bool.not_eq_false', gt_iff_lt, ge_iff_le] at *); (repeat simp (disch := omega) only [wrap64, wrap32] at *)); omega))) ?_
        refine g_u (s_rem rfl rfl rfl (by first | decide | omega | (((try simp only [decide_eq_true_eq, decide_eq_false_iff_not, bne_iff_ne, ne_eq, beq_iff_eq, bne_eq_false_iff_eq, beq_eq_false_iff_ne, Bool.not_eq_true', Bool.not_eq_false', gt_iff_lt, ge_iff_le] at *); (repeat simp (disch := omega) only [wrap64, wrap32] at *)); omega))) ?_
        refine g_u (s_add rfl rfl rfl) ?_
        refine g_u (s_cvII rfl rfl Try.underlying3 Try.underlying5) ?_
        refine g_u (s_mv_imm rfl rfl) ?_
        refine g_u (s_rem rfl rfl rfl (by first | decide | omega | (((try simp only [decide_eq_true_eq, decide_eq_false_iff_not, bne_iff_ne, ne_eq, beq_iff_eq, bne_eq_false_iff_eq, beq_eq_false_iff_ne, Bool.not_eq_true', Bool.not_eq_false', gt_iff_lt, ge_iff_le] at *); (repeat simp (disch := omega) only [wrap64, wrap32] at *)); omega))) ?_
        refine g_u (s_add rfl rfl rfl) ?_
        refine g_u (s_cvII rfl rfl Try.underlying3 Try.underlying5) ?_
        refine g_u (s_buildSlice (X0 := z5) rfl Try.underlying22 tS5 tZ5 rfl rfl rfl rfl rfl rfl rfl rfl) ?_
        refine g_u (s_cvBS' ((bl_cons (bl_cons (bl_cons bl_nil)))) rfl rfl Try.underlying22 Try.underlying9 Try.underlying5) ?_
        refine g_u (s_as_imm rfl rfl) ?_
        refine g_nil ?_
        refine normal_thn ?_
        refine aw_ret ?_
        refine ret_thn ?_
        exact ⟨⟨(rfl : toAV (Al.look _ _) = some _).trans (congrArg some (by (unfold bytesM w64; simp only [decide_eq_true_eq, decide_eq_false_iff_not] at *; first | (rw [if_pos (by omega)]; first | done | rfl) | (rw [if_neg (by omega), if_pos (by omega)]; first | done | rfl) | (rw [if_neg (by omega), if_neg (by omega), if_pos (by omega)]; first | done | rfl) | (rw [if_neg (by omega), if_neg (by omega), if_neg (by omega)]; first | done | rfl)))), rfl⟩, trivial⟩
      · skip
        refine aw_skip ?_
        refine normal_thn ?_
        refine aw_seq ?_
        refine aw_region ?_
        refine g_u (s_mv_imm rfl rfl) ?_
        refine g_u (s_quo rfl rfl rfl (by first | decide | omega | (((try simp only [decide_eq_true_eq, decide_eq_false_iff_not, bne_iff_ne, ne_eq, beq_iff_eq, bne_eq_false_iff_eq, beq_eq_false_iff_ne, Bool.not_eq_true', Bool.not_eq_false', gt_iff_lt, ge_iff_le] at *); (repeat simp (disch := omega) only [wrap64, wrap32] at *)); omega))) ?_
        refine g_u (s_add rfl rfl rfl) ?_
        refine g_u (s_cvII rfl rfl Try.underlying3 Try.underlying5) ?_
        refine g_u (s_mv_imm rfl rfl) ?_
        refine g_u (s_quo rfl rfl rfl (by first | decide | omega | (((try simp only [decide_eq_true_eq, decide_eq_false_iff_not, bne_iff_ne, ne_eq, beq_iff_eq, bne_eq_false_iff_eq, beq_eq_false_iff_ne, Bool.not_eq_true', Bool.not_eq_false', gt_iff_lt, ge_iff_le] at *); (repeat simp (disch := omega) only [wrap64, wrap32] at *)); omega))) ?_
        refine g_u (s_rem rfl rfl rfl (by first | decide | omega | (((try simp only [decide_eq_true_eq, decide_eq_false_iff_not, bne_iff_ne, ne_eq, beq_iff_eq, bne_eq_false_iff_eq, beq_eq_false_iff_ne, Bool.not_eq_true', Bool.not_eq_false', gt_iff_lt, ge_iff_le] at *); (repeat simp (disch := omega) only [wrap64, wrap32] at *)); omega))) ?_
        refine g_u (s_add rfl rfl rfl) ?_
        refine g_u (s_cvII rfl rfl Try.underlying3 Try.underlying5) ?_
        refine g_u (s_mv_imm rfl rfl) ?_
        refine g_u (s_quo rfl rfl rfl (by first | decide | omega | (((try simp only [decide_eq_true_eq, decide_eq_false_iff_not, bne_iff_ne, ne_eq, beq_iff_eq, bne_eq_false_iff_eq, beq_eq_false_iff_ne, Bool.not_eq_true', Bool.not_eq_false', gt_iff_lt, ge_iff_le] at *); (repeat simp (disch := omega) only [wrap64, wrap32] at *)); omega))) ?_
        refine g_u (s_rem rfl rfl rfl (by first | decide | omega | (((try simp only [decide_eq_true_eq, decide_eq_false_iff_not, bne_iff_ne, ne_eq, beq_iff_eq, bne_eq_false_iff_eq, beq_eq_false_iff_ne, Bool.not_eq_true', Bool.not_eq_false', gt_iff_lt, ge_iff_le] at *); (repeat simp (disch := omega) only [wrap64, wrap32] at *)); omega))) ?_
        refine g_u (s_add rfl rfl rfl) ?_
        refine g_u (s_cvII rfl rfl Try.underlying3 Try.underlying5) ?_
        refine g_u (s_mv_imm rfl rfl) ?_
        refine g_u (s_rem rfl rfl rfl (by first | decide | omega | (((try simp only [decide_eq_true_eq, decide_eq_false_iff_not, bne_iff_ne, ne_eq, beq_iff_eq, bne_eq_false_iff_eq, beq_eq_false_iff_ne, Bool.not_eq_true', Bool.not_eq_false', gt_iff_lt, ge_iff_le] at *); (repeat simp (disch := omega) only [wrap64, wrap32] at *)); omega))) ?_
        refine g_u (s_add rfl rfl rfl) ?_
        refine g_u (s_cvII rfl rfl Try.underlying3 Try.underlying5) ?_
        refine g_u (s_buildSlice (X0 := z5) rfl Try.underlying22 tS5 tZ5 rfl rfl rfl rfl rfl rfl rfl rfl) ?_
        refine g_u (s_cvBS' ((bl_cons (bl_cons (bl_cons (bl_cons bl_nil))))) rfl rfl Try.underlying22 Try.underlying9 Try.underlying5) ?_
        refine g_u (s_as_imm rfl rfl) ?_
        refine g_nil ?_
        refine normal_thn ?_
        refine aw_ret ?_
        exact ⟨⟨(rfl : toAV (Al.look _ _) = some _).trans (congrArg some (by (unfold bytesM w64; simp only [decide_eq_true_eq, decide_eq_false_iff_not] at *; first | (rw [if_pos (by omega)]; first | done | rfl) | (rw [if_neg (by omega), if_pos (by omega)]; first | done | rfl) | (rw [if_neg (by omega), if_neg (by omega), if_pos (by omega)]; first | done | rfl) | (rw [if_neg (by omega), if_neg (by omega), if_neg (by omega)]; first | done | rfl)))), rfl⟩, trivial⟩

attribute [local irreducible] runeM rRuneM

set_option maxHeartbeats 400000 in
theorem check_c (s : ByteArray) (hs : s.size < 9223372036854775808) : PCall Try.prog Γ0 23 [sv s] [iv (checkM s)] := by
  refine pcall_of Try.func23 rfl Try.ntmps23 (by kernel_rfl) rfl fun w0 I0 G0 => ?_
  refine aw_seq ?_
  refine aw_region ?_
  refine g_u (s_as_imm rfl rfl) ?_
  refine g_nil ?_
  refine normal_thn ?_
  refine aw_seq ?_
  refine aw_seq ?_
  refine aw_region ?_
  refine g_u (s_as_imm rfl rfl) ?_
  refine g_nil ?_
  refine normal_thn ?_
  refine aw_block ?_
  refine aw_loop' (fun j : Nat × Int × Int => [(0, .imm (sv s)), (3, .imm (iv j.2.1))]) (fun j => 0 ≤ j.2.1 ∧ j.2.1 ≤ s.size ∧ 0 ≤ j.2.2 ∧ j.2.2 ≤ j.2.1 ∧ (s.size : Int) < j.2.1 + j.1 ∧ goM (fM s) s.size j.1 j.2.1 j.2.2 = endM s) (fun j => j.1) (⟨s.size + 1, 0, 0⟩) ?_ ⟨rfl, rfl, trivial⟩ ?_
  · refine ⟨Int.le_refl 0, Int.natCast_nonneg _, Int.le_refl 0, Int.le_refl 0, ?_, rfl⟩; dsimp only; omega
  · rintro ⟨m, q, c⟩ ⟨h1, h2, h3, h4, h5, h6⟩; dsimp only at h1 h2 h3 h4 h5 h6; obtain ⟨m, rfl⟩ : ∃ k, m = k + 1 := ⟨m - 1, by omega⟩; have F := dec_fM s q
    refine aw_seq ?_
    refine aw_seq ?_
    refine aw_region ?_
    refine g_u (s_mv_imm rfl rfl) ?_
    refine g_u (s_mv_imm rfl rfl) ?_
    refine g_u (s_lenS rfl rfl Try.underlying9) ?_
    refine g_u (s_ltI rfl rfl rfl) ?_
    refine g_nil ?_
    refine normal_thn ?_
    refine aw_cond rfl (fun hb1 => ?_) (fun hb1 => ?_)
    · skip
      refine aw_skip ?_
      refine normal_thn ?_
      refine aw_block ?_
      refine aw_seq ?_
      refine aw_region ?_
      refine g_u (s_mv_imm rfl rfl) ?_
      refine g_u (s_mv_imm rfl rfl) ?_
      refine g_u (s_call2 (rune_c _ _ (by assumption)) rfl rfl) ?_
      refine g_u (s_mv_tup rfl rfl) ?_
      refine g_u (s_extract rfl rfl rfl rfl) ?_
      refine g_u (s_extract rfl rfl rfl rfl) ?_
      refine g_u (s_as_imm rfl rfl) ?_
      refine g_u (s_as_imm rfl rfl) ?_
      refine g_nil ?_
      refine normal_thn ?_
      refine aw_seq ?_
      refine aw_seq ?_
      refine aw_region ?_
      refine g_u (s_mv_imm rfl rfl) ?_
      refine g_u (s_eqI rfl rfl rfl) ?_
      refine g_nil ?_
      refine normal_thn ?_
      refine aw_cond rfl (fun hb2 => ?_) (fun hb2 => ?_)
      · skip
        refine aw_seq ?_
        refine aw_region ?_
        refine g_u (s_mv_imm rfl rfl) ?_
        refine g_u (s_as_imm rfl rfl) ?_
        refine g_nil ?_
        refine normal_thn ?_
        refine aw_ret ?_
        refine ret_thn ?_
        refine ret_blk ?_
        refine ret_thn ?_
        refine ret_blk ?_
        refine ret_thn ?_
        change decide (q < (s.size : Int)) = true at hb1
        change (fM s q == 0) = true at hb2
        rw [goM, if_pos (by ((try simp only [decide_eq_true_eq, decide_eq_false_iff_not, bne_iff_ne, ne_eq, beq_iff_eq, bne_eq_false_iff_eq, beq_eq_false_iff_ne, Bool.not_eq_true', Bool.not_eq_false', gt_iff_lt, ge_iff_le] at *); (repeat simp (disch := omega) only [wrap64, wrap32] at *)); omega), if_pos (by ((try simp only [decide_eq_true_eq, decide_eq_false_iff_not, bne_iff_ne, ne_eq, beq_iff_eq, bne_eq_false_iff_eq, beq_eq_false_iff_ne, Bool.not_eq_true', Bool.not_eq_false', gt_iff_lt, ge_iff_le] at *); (repeat simp (disch := omega) only [wrap64, wrap32] at *)); exact hb2)] at h6
        exact ⟨⟨(rfl : toAV (Al.look _ _) = some _).trans (congrArg some (by unfold checkM; rw [← h6]; rw [if_pos (by ((try simp only [decide_eq_true_eq, decide_eq_false_iff_not, bne_iff_ne, ne_eq, beq_iff_eq, bne_eq_false_iff_eq, beq_eq_false_iff_ne, Bool.not_eq_true', Bool.not_eq_false', gt_iff_lt, ge_iff_le] at *); (repeat simp (disch := omega) only [wrap64, wrap32] at *)); omega)])), rfl⟩, trivial⟩
      · skip
        refine aw_skip ?_
        refine normal_thn ?_
        refine aw_region ?_
        refine g_u (s_mv_imm rfl rfl) ?_
        refine g_u (s_mv_imm rfl rfl) ?_
        refine g_u (s_add rfl rfl rfl) ?_
        refine g_u (s_as_imm rfl rfl) ?_
        refine g_nil ?_
        refine normal_blk ?_
        refine normal_thn ?_
        change decide (q < (s.size : Int)) = true at hb1
        have F := F h1 (by ((try simp only [decide_eq_true_eq, decide_eq_false_iff_not, bne_iff_ne, ne_eq, beq_iff_eq, bne_eq_false_iff_eq, beq_eq_false_iff_ne, Bool.not_eq_true', Bool.not_eq_false', gt_iff_lt, ge_iff_le] at *); (repeat simp (disch := omega) only [wrap64, wrap32] at *)); omega)
        rw [goM, if_pos (by ((try simp only [decide_eq_true_eq, decide_eq_false_iff_not, bne_iff_ne, ne_eq, beq_iff_eq, bne_eq_false_iff_eq, beq_eq_false_iff_ne, Bool.not_eq_true', Bool.not_eq_false', gt_iff_lt, ge_iff_le] at *); (repeat simp (disch := omega) only [wrap64, wrap32] at *)); omega)] at h6
        change ((fM s q) == 0) = false at hb2
        rw [if_neg (by ((try simp only [decide_eq_true_eq, decide_eq_false_iff_not, bne_iff_ne, ne_eq, beq_iff_eq, bne_eq_false_iff_eq, beq_eq_false_iff_ne, Bool.not_eq_true', Bool.not_eq_false', gt_iff_lt, ge_iff_le] at *); (repeat simp (disch := omega) only [wrap64, wrap32] at *)); exact hb2)] at h6
        have F : 1 ≤ fM s q ∧ q + fM s q ≤ s.size := by ((try simp only [decide_eq_true_eq, decide_eq_false_iff_not, bne_iff_ne, ne_eq, beq_iff_eq, bne_eq_false_iff_eq, beq_eq_false_iff_ne, Bool.not_eq_true', Bool.not_eq_false', gt_iff_lt, ge_iff_le] at *); (repeat simp (disch := omega) only [wrap64, wrap32] at *)); omega
        have e1 : IntKind.i64.wrap (q + fM s q) = q + fM s q := by ((try simp only [decide_eq_true_eq, decide_eq_false_iff_not, bne_iff_ne, ne_eq, beq_iff_eq, bne_eq_false_iff_eq, beq_eq_false_iff_ne, Bool.not_eq_true', Bool.not_eq_false', gt_iff_lt, ge_iff_le] at *); (repeat simp (disch := omega) only [wrap64, wrap32] at *))
        have e2 : IntKind.i64.wrap (c + 1) = c + 1 := by ((try simp only [decide_eq_true_eq, decide_eq_false_iff_not, bne_iff_ne, ne_eq, beq_iff_eq, bne_eq_false_iff_eq, beq_eq_false_iff_ne, Bool.not_eq_true', Bool.not_eq_false', gt_iff_lt, ge_iff_le] at *); (repeat simp (disch := omega) only [wrap64, wrap32] at *))
        refine ⟨⟨m, IntKind.i64.wrap (q + fM s q), IntKind.i64.wrap (c + 1)⟩, ⟨?_, ?_, ?_, ?_, ?_, ?_⟩, ⟨rfl, rfl, trivial⟩, Nat.lt_succ_self _⟩
        · dsimp only; rw [e1]; omega
        · dsimp only; rw [e1]; omega
        · dsimp only; rw [e2]; omega
        · dsimp only; rw [e1, e2]; omega
        · dsimp only; rw [e1]; omega
        · dsimp only; rw [e1, e2]; exact h6
    · skip
      refine aw_exit ?_
      refine exit_thn ?_
      refine exit_thn ?_
      refine exit_blk ?_
      refine normal_thn ?_
      refine aw_seq ?_
      refine aw_region ?_
      refine g_u (s_as_imm rfl rfl) ?_
      refine g_nil ?_
      refine normal_thn ?_
      refine aw_ret ?_
      change decide (q < (s.size : Int)) = false at hb1
      rw [goM, if_neg (by ((try simp only [decide_eq_true_eq, decide_eq_false_iff_not, bne_iff_ne, ne_eq, beq_iff_eq, bne_eq_false_iff_eq, beq_eq_false_iff_ne, Bool.not_eq_true', Bool.not_eq_false', gt_iff_lt, ge_iff_le] at *); (repeat simp (disch := omega) only [wrap64, wrap32] at *)); omega)] at h6
      exact ⟨⟨(rfl : toAV (Al.look _ _) = some _).trans (congrArg some (by unfold checkM; rw [← h6]; rw [if_neg (by ((try simp only [decide_eq_true_eq, decide_eq_false_iff_not, bne_iff_ne, ne_eq, beq_iff_eq, bne_eq_false_iff_eq, beq_eq_false_iff_ne, Bool.not_eq_true', Bool.not_eq_false', gt_iff_lt, ge_iff_le] at *); (repeat simp (disch := omega) only [wrap64, wrap32] at *)); omega)])), rfl⟩, trivial⟩

set_option maxHeartbeats 400000 in
theorem count_c (s : ByteArray) (hs : s.size < 9223372036854775808) : PCall Try.prog Γ0 24 [sv s] [iv (countM s)] := by
  refine pcall_of Try.func24 rfl Try.ntmps24 (by kernel_rfl) rfl fun w0 I0 G0 => ?_
  refine aw_seq ?_
  refine aw_region ?_
  refine g_u (s_as_imm rfl rfl) ?_
  refine g_nil ?_
  refine normal_thn ?_
  refine aw_seq ?_
  refine aw_region ?_
  refine g_u (s_as_imm rfl rfl) ?_
  refine g_nil ?_
  refine normal_thn ?_
  refine aw_seq ?_
  refine aw_seq ?_
  refine aw_region ?_
  refine g_u (s_as_imm rfl rfl) ?_
  refine g_nil ?_
  refine normal_thn ?_
  refine aw_block ?_
  refine aw_loop' (fun j : Nat × Int × Int => [(0, .imm (sv s)), (4, .imm (iv j.2.1)), (3, .imm (iv j.2.2))]) (fun j => 0 ≤ j.2.1 ∧ j.2.1 ≤ s.size ∧ 0 ≤ j.2.2 ∧ j.2.2 ≤ j.2.1 ∧ (s.size : Int) < j.2.1 + j.1 ∧ goM (fM s) s.size j.1 j.2.1 j.2.2 = endM s) (fun j => j.1) (⟨s.size + 1, 0, 0⟩) ?_ ⟨rfl, rfl, rfl, trivial⟩ ?_
  · refine ⟨Int.le_refl 0, Int.natCast_nonneg _, Int.le_refl 0, Int.le_refl 0, ?_, rfl⟩; dsimp only; omega
  · rintro ⟨m, q, c⟩ ⟨h1, h2, h3, h4, h5, h6⟩; dsimp only at h1 h2 h3 h4 h5 h6; obtain ⟨m, rfl⟩ : ∃ k, m = k + 1 := ⟨m - 1, by omega⟩; have F := dec_fM s q
    refine aw_seq ?_
    refine aw_seq ?_
    refine aw_region ?_
    refine g_u (s_mv_imm rfl rfl) ?_
    refine g_u (s_mv_imm rfl rfl) ?_
    refine g_u (s_lenS rfl rfl Try.underlying9) ?_
    refine g_u (s_ltI rfl rfl rfl) ?_
    refine g_nil ?_
    refine normal_thn ?_
    refine aw_cond rfl (fun hb1 => ?_) (fun hb1 => ?_)
    · skip
      refine aw_skip ?_
      refine normal_thn ?_
      refine aw_seq ?_
      refine aw_block ?_
      refine aw_seq ?_
      refine aw_region ?_
      refine g_u (s_mv_imm rfl rfl) ?_
      refine g_u (s_mv_imm rfl rfl) ?_
      refine g_u (s_call2 (rune_c _ _ (by assumption)) rfl rfl) ?_
      refine g_u (s_mv_tup rfl rfl) ?_
      refine g_u (s_extract rfl rfl rfl rfl) ?_
      refine g_u (s_extract rfl rfl rfl rfl) ?_
      refine g_u (s_as_imm rfl rfl) ?_
      refine g_u (s_as_imm rfl rfl) ?_
      refine g_nil ?_
      refine normal_thn ?_
      refine aw_seq ?_
      refine aw_seq ?_
      refine aw_region ?_
      refine g_u (s_mv_imm rfl rfl) ?_
      refine g_u (s_eqI rfl rfl rfl) ?_
      refine g_nil ?_
      refine normal_thn ?_
      refine aw_cond rfl (fun hb2 => ?_) (fun hb2 => ?_)
      · skip
        refine aw_seq ?_
        refine aw_region ?_
        refine g_u (s_as_imm rfl rfl) ?_
        refine g_nil ?_
        refine normal_thn ?_
        refine aw_ret ?_
        refine ret_thn ?_
        refine ret_blk ?_
        refine ret_thn ?_
        refine ret_thn ?_
        refine ret_blk ?_
        refine ret_thn ?_
        change decide (q < (s.size : Int)) = true at hb1
        change (fM s q == 0) = true at hb2
        rw [goM, if_pos (by ((try simp only [decide_eq_true_eq, decide_eq_false_iff_not, bne_iff_ne, ne_eq, beq_iff_eq, bne_eq_false_iff_eq, beq_eq_false_iff_ne, Bool.not_eq_true', Bool.not_eq_false', gt_iff_lt, ge_iff_le] at *); (repeat simp (disch := omega) only [wrap64, wrap32] at *)); omega), if_pos (by ((try simp only [decide_eq_true_eq, decide_eq_false_iff_not, bne_iff_ne, ne_eq, beq_iff_eq, bne_eq_false_iff_eq, beq_eq_false_iff_ne, Bool.not_eq_true', Bool.not_eq_false', gt_iff_lt, ge_iff_le] at *); (repeat simp (disch := omega) only [wrap64, wrap32] at *)); exact hb2)] at h6
        exact ⟨⟨(rfl : toAV (Al.look _ _) = some _).trans (congrArg some (by unfold countM; rw [← h6]; rw [if_pos (by ((try simp only [decide_eq_true_eq, decide_eq_false_iff_not, bne_iff_ne, ne_eq, beq_iff_eq, bne_eq_false_iff_eq, beq_eq_false_iff_ne, Bool.not_eq_true', Bool.not_eq_false', gt_iff_lt, ge_iff_le] at *); (repeat simp (disch := omega) only [wrap64, wrap32] at *)); omega)])), rfl⟩, trivial⟩
      · skip
        refine aw_skip ?_
        refine normal_thn ?_
        refine aw_region ?_
        refine g_u (s_mv_imm rfl rfl) ?_
        refine g_u (s_mv_imm rfl rfl) ?_
        refine g_u (s_add rfl rfl rfl) ?_
        refine g_u (s_as_imm rfl rfl) ?_
        refine g_nil ?_
        refine normal_blk ?_
        refine normal_thn ?_
        refine aw_region ?_
        refine g_u (s_mv_imm rfl rfl) ?_
        refine g_u (s_add rfl rfl rfl) ?_
        refine g_u (s_as_imm rfl rfl) ?_
        refine g_nil ?_
        refine normal_thn ?_
        change decide (q < (s.size : Int)) = true at hb1
        have F := F h1 (by ((try simp only [decide_eq_true_eq, decide_eq_false_iff_not, bne_iff_ne, ne_eq, beq_iff_eq, bne_eq_false_iff_eq, beq_eq_false_iff_ne, Bool.not_eq_true', Bool.not_eq_false', gt_iff_lt, ge_iff_le] at *); (repeat simp (disch := omega) only [wrap64, wrap32] at *)); omega)
        rw [goM, if_pos (by ((try simp only [decide_eq_true_eq, decide_eq_false_iff_not, bne_iff_ne, ne_eq, beq_iff_eq, bne_eq_false_iff_eq, beq_eq_false_iff_ne, Bool.not_eq_true', Bool.not_eq_false', gt_iff_lt, ge_iff_le] at *); (repeat simp (disch := omega) only [wrap64, wrap32] at *)); omega)] at h6
        change ((fM s q) == 0) = false at hb2
        rw [if_neg (by ((try simp only [decide_eq_true_eq, decide_eq_false_iff_not, bne_iff_ne, ne_eq, beq_iff_eq, bne_eq_false_iff_eq, beq_eq_false_iff_ne, Bool.not_eq_true', Bool.not_eq_false', gt_iff_lt, ge_iff_le] at *); (repeat simp (disch := omega) only [wrap64, wrap32] at *)); exact hb2)] at h6
        have F : 1 ≤ fM s q ∧ q + fM s q ≤ s.size := by ((try simp only [decide_eq_true_eq, decide_eq_false_iff_not, bne_iff_ne, ne_eq, beq_iff_eq, bne_eq_false_iff_eq, beq_eq_false_iff_ne, Bool.not_eq_true', Bool.not_eq_false', gt_iff_lt, ge_iff_le] at *); (repeat simp (disch := omega) only [wrap64, wrap32] at *)); omega
        have e1 : IntKind.i64.wrap (q + fM s q) = q + fM s q := by ((try simp only [decide_eq_true_eq, decide_eq_false_iff_not, bne_iff_ne, ne_eq, beq_iff_eq, bne_eq_false_iff_eq, beq_eq_false_iff_ne, Bool.not_eq_true', Bool.not_eq_false', gt_iff_lt, ge_iff_le] at *); (repeat simp (disch := omega) only [wrap64, wrap32] at *))
        have e2 : IntKind.i64.wrap (c + 1) = c + 1 := by ((try simp only [decide_eq_true_eq, decide_eq_false_iff_not, bne_iff_ne, ne_eq, beq_iff_eq, bne_eq_false_iff_eq, beq_eq_false_iff_ne, Bool.not_eq_true', Bool.not_eq_false', gt_iff_lt, ge_iff_le] at *); (repeat simp (disch := omega) only [wrap64, wrap32] at *))
        refine ⟨⟨m, IntKind.i64.wrap (q + fM s q), IntKind.i64.wrap (c + 1)⟩, ⟨?_, ?_, ?_, ?_, ?_, ?_⟩, ⟨rfl, rfl, rfl, trivial⟩, Nat.lt_succ_self _⟩
        · dsimp only; rw [e1]; omega
        · dsimp only; rw [e1]; omega
        · dsimp only; rw [e2]; omega
        · dsimp only; rw [e1, e2]; omega
        · dsimp only; rw [e1]; omega
        · dsimp only; rw [e1, e2]; exact h6
    · skip
      refine aw_exit ?_
      refine exit_thn ?_
      refine exit_thn ?_
      refine exit_blk ?_
      refine normal_thn ?_
      refine aw_seq ?_
      refine aw_region ?_
      refine g_u (s_mv_imm rfl rfl) ?_
      refine g_u (s_as_imm rfl rfl) ?_
      refine g_nil ?_
      refine normal_thn ?_
      refine aw_ret ?_
      change decide (q < (s.size : Int)) = false at hb1
      rw [goM, if_neg (by ((try simp only [decide_eq_true_eq, decide_eq_false_iff_not, bne_iff_ne, ne_eq, beq_iff_eq, bne_eq_false_iff_eq, beq_eq_false_iff_ne, Bool.not_eq_true', Bool.not_eq_false', gt_iff_lt, ge_iff_le] at *); (repeat simp (disch := omega) only [wrap64, wrap32] at *)); omega)] at h6
      exact ⟨⟨(rfl : toAV (Al.look _ _) = some _).trans (congrArg some (by unfold countM; rw [← h6]; rw [if_neg (by ((try simp only [decide_eq_true_eq, decide_eq_false_iff_not, bne_iff_ne, ne_eq, beq_iff_eq, bne_eq_false_iff_eq, beq_eq_false_iff_ne, Bool.not_eq_true', Bool.not_eq_false', gt_iff_lt, ge_iff_le] at *); (repeat simp (disch := omega) only [wrap64, wrap32] at *)); omega)])), rfl⟩, trivial⟩

set_option maxHeartbeats 400000 in
theorem cut_c (s : ByteArray) (n : Int) (hs : s.size < 9223372036854775808) : PCall Try.prog Γ0 25 [sv s, iv n] [sv (s.extract 0 (cutM s n).toNat)] := by
  refine pcall_of Try.func25 rfl Try.ntmps25 (by kernel_rfl) rfl fun w0 I0 G0 => ?_
  refine aw_seq ?_
  refine aw_region ?_
  refine g_u (s_as_imm rfl rfl) ?_
  refine g_nil ?_
  refine normal_thn ?_
  refine aw_seq ?_
  refine aw_region ?_
  refine g_u (s_as_imm rfl rfl) ?_
  refine g_nil ?_
  refine normal_thn ?_
  refine aw_seq ?_
  refine aw_block ?_
  refine aw_loop' (fun j : Nat × Int => [(0, .imm (sv s)), (1, .imm (iv n)), (5, .imm (iv j.2))]) (fun j => 0 ≤ j.2 ∧ j.2 ≤ s.size ∧ (s.size : Int) < j.2 + j.1 ∧ cutG (fM s) s.size n j.1 j.2 = cutM s n) (fun j => j.1) (⟨s.size + 1, 0⟩) ?_ ⟨rfl, rfl, rfl, trivial⟩ ?_
  · refine ⟨Int.le_refl 0, Int.natCast_nonneg _, ?_, rfl⟩; dsimp only; omega
  · rintro ⟨m, q⟩ ⟨h1, h2, h3, h4⟩; dsimp only at h1 h2 h3 h4; obtain ⟨m, rfl⟩ : ∃ k, m = k + 1 := ⟨m - 1, by omega⟩; have F := dec_fM s q
    refine aw_seq ?_
    refine aw_seq ?_
    refine aw_region ?_
    refine g_u (s_mv_imm rfl rfl) ?_
    refine g_u (s_mv_imm rfl rfl) ?_
    refine g_u (s_lenS rfl rfl Try.underlying9) ?_
    refine g_u (s_ltI rfl rfl rfl) ?_
    refine g_nil ?_
    refine normal_thn ?_
    refine aw_cond rfl (fun hb1 => ?_) (fun hb1 => ?_)
    · skip
      refine aw_skip ?_
      refine normal_thn ?_
      refine aw_block ?_
      refine aw_seq ?_
      refine aw_region ?_
      refine g_u (s_mv_imm rfl rfl) ?_
      refine g_u (s_mv_imm rfl rfl) ?_
      refine g_u (s_call2 (rune_c _ _ (by assumption)) rfl rfl) ?_
      refine g_u (s_mv_tup rfl rfl) ?_
      refine g_u (s_extract rfl rfl rfl rfl) ?_
      refine g_u (s_extract rfl rfl rfl rfl) ?_
      refine g_u (s_as_imm rfl rfl) ?_
      refine g_u (s_as_imm rfl rfl) ?_
      refine g_nil ?_
      refine normal_thn ?_
      refine aw_seq ?_
      refine aw_seq ?_
      refine aw_region ?_
      refine g_u (s_mv_imm rfl rfl) ?_
      refine g_u (s_eqI rfl rfl rfl) ?_
      refine g_u (s_mv_imm rfl rfl) ?_
      refine g_case (t := 20) rfl ?_
      rintro (hb2 | hb2)
      · rw [hb2]
        refine g_skip rfl rfl rfl ?_
        refine g_skip rfl rfl rfl ?_
        refine g_skip rfl rfl rfl ?_
        refine g_skip rfl rfl rfl ?_
        refine g_skip rfl rfl rfl ?_
        refine g_u (s_pick_t rfl rfl rfl) ?_
        refine g_nil ?_
        refine normal_thn ?_
        refine aw_cond_true rfl ?_
        refine aw_exit ?_
        refine exit_thn ?_
        refine exit_blk_ne rfl ?_
        refine exit_thn ?_
        refine exit_blk ?_
        refine normal_thn ?_
        refine aw_seq ?_
        refine aw_region ?_
        refine g_u (s_mv_imm rfl rfl) ?_
        refine g_u (s_mv_imm rfl rfl) ?_
        refine g_u (si_h rfl rfl rfl Try.underlying9 (by (try dsimp only); omega)) ?_
        refine g_u (s_as_imm rfl rfl) ?_
        refine g_nil ?_
        refine normal_thn ?_
        refine aw_ret ?_
        change decide (q < (s.size : Int)) = true at hb1
        change (fM s q == 0) = true at hb2
        rw [cutG, if_pos (by ((try simp only [decide_eq_true_eq, decide_eq_false_iff_not, bne_iff_ne, ne_eq, beq_iff_eq, bne_eq_false_iff_eq, beq_eq_false_iff_ne, Bool.not_eq_true', Bool.not_eq_false', gt_iff_lt, ge_iff_le] at *); (repeat simp (disch := omega) only [wrap64, wrap32] at *)); omega), if_pos (.inl (by ((try simp only [decide_eq_true_eq, decide_eq_false_iff_not, bne_iff_ne, ne_eq, beq_iff_eq, bne_eq_false_iff_eq, beq_eq_false_iff_ne, Bool.not_eq_true', Bool.not_eq_false', gt_iff_lt, ge_iff_le] at *); (repeat simp (disch := omega) only [wrap64, wrap32] at *)); exact hb2))] at h4
        exact ⟨⟨(rfl : toAV (Al.look _ _) = some _).trans (congrArg some (by rw [show cutM s n = q from h4.symm])), rfl⟩, trivial⟩
      · rw [hb2]
        refine g_run rfl rfl (s_mv_imm rfl rfl) ?_
        refine g_run rfl rfl (s_mv_imm rfl rfl) ?_
        refine g_run rfl rfl (s_add rfl rfl rfl) ?_
        refine g_run rfl rfl (s_mv_imm rfl rfl) ?_
        refine g_run rfl rfl (s_gtI rfl rfl rfl) ?_
        refine g_u (s_pick_f rfl rfl rfl) ?_
        refine g_nil ?_
        refine normal_thn ?_
        refine aw_cond rfl (fun hb3 => ?_) (fun hb3 => ?_)
        · skip
          refine aw_exit ?_
          refine exit_thn ?_
          refine exit_blk_ne rfl ?_
          refine exit_thn ?_
          refine exit_blk ?_
          refine normal_thn ?_
          refine aw_seq ?_
          refine aw_region ?_
          refine g_u (s_mv_imm rfl rfl) ?_
          refine g_u (s_mv_imm rfl rfl) ?_
          refine g_u (si_h rfl rfl rfl Try.underlying9 (by (try dsimp only); omega)) ?_
          refine g_u (s_as_imm rfl rfl) ?_
          refine g_nil ?_
          refine normal_thn ?_
          refine aw_ret ?_
          change decide (q < (s.size : Int)) = true at hb1
          have F : fM s q ≠ 0 → 1 ≤ fM s q ∧ q + fM s q ≤ s.size := fun h => (F h1 (by ((try simp only [decide_eq_true_eq, decide_eq_false_iff_not, bne_iff_ne, ne_eq, beq_iff_eq, bne_eq_false_iff_eq, beq_eq_false_iff_ne, Bool.not_eq_true', Bool.not_eq_false', gt_iff_lt, ge_iff_le] at *); (repeat simp (disch := omega) only [wrap64, wrap32] at *)); omega)).resolve_left h
          change (fM s q == 0) = false at hb2
          have F := F (by ((try simp only [decide_eq_true_eq, decide_eq_false_iff_not, bne_iff_ne, ne_eq, beq_iff_eq, bne_eq_false_iff_eq, beq_eq_false_iff_ne, Bool.not_eq_true', Bool.not_eq_false', gt_iff_lt, ge_iff_le] at *); (repeat simp (disch := omega) only [wrap64, wrap32] at *)); exact hb2)
          change decide (IntKind.i64.wrap (q + fM s q) > n) = true at hb3
          rw [cutG, if_pos (by ((try simp only [decide_eq_true_eq, decide_eq_false_iff_not, bne_iff_ne, ne_eq, beq_iff_eq, bne_eq_false_iff_eq, beq_eq_false_iff_ne, Bool.not_eq_true', Bool.not_eq_false', gt_iff_lt, ge_iff_le] at *); (repeat simp (disch := omega) only [wrap64, wrap32] at *)); omega), if_pos (.inr (by ((try simp only [decide_eq_true_eq, decide_eq_false_iff_not, bne_iff_ne, ne_eq, beq_iff_eq, bne_eq_false_iff_eq, beq_eq_false_iff_ne, Bool.not_eq_true', Bool.not_eq_false', gt_iff_lt, ge_iff_le] at *); (repeat simp (disch := omega) only [wrap64, wrap32] at *)); omega))] at h4
          exact ⟨⟨(rfl : toAV (Al.look _ _) = some _).trans (congrArg some (by rw [show cutM s n = q from h4.symm])), rfl⟩, trivial⟩
        · skip
          refine aw_skip ?_
          refine normal_thn ?_
          refine aw_region ?_
          refine g_u (s_mv_imm rfl rfl) ?_
          refine g_u (s_mv_imm rfl rfl) ?_
          refine g_u (s_add rfl rfl rfl) ?_
          refine g_u (s_as_imm rfl rfl) ?_
          refine g_nil ?_
          refine normal_blk ?_
          refine normal_thn ?_
          change decide (q < (s.size : Int)) = true at hb1
          have F : fM s q ≠ 0 → 1 ≤ fM s q ∧ q + fM s q ≤ s.size := fun h => (F h1 (by ((try simp only [decide_eq_true_eq, decide_eq_false_iff_not, bne_iff_ne, ne_eq, beq_iff_eq, bne_eq_false_iff_eq, beq_eq_false_iff_ne, Bool.not_eq_true', Bool.not_eq_false', gt_iff_lt, ge_iff_le] at *); (repeat simp (disch := omega) only [wrap64, wrap32] at *)); omega)).resolve_left h
          change (fM s q == 0) = false at hb2
          have F := F (by ((try simp only [decide_eq_true_eq, decide_eq_false_iff_not, bne_iff_ne, ne_eq, beq_iff_eq, bne_eq_false_iff_eq, beq_eq_false_iff_ne, Bool.not_eq_true', Bool.not_eq_false', gt_iff_lt, ge_iff_le] at *); (repeat simp (disch := omega) only [wrap64, wrap32] at *)); exact hb2)
          change decide (IntKind.i64.wrap (q + fM s q) > n) = false at hb3
          have e1 : IntKind.i64.wrap (q + fM s q) = q + fM s q := by ((try simp only [decide_eq_true_eq, decide_eq_false_iff_not, bne_iff_ne, ne_eq, beq_iff_eq, bne_eq_false_iff_eq, beq_eq_false_iff_ne, Bool.not_eq_true', Bool.not_eq_false', gt_iff_lt, ge_iff_le] at *); (repeat simp (disch := omega) only [wrap64, wrap32] at *))
          rw [e1] at hb3
          rw [cutG, if_pos (by ((try simp only [decide_eq_true_eq, decide_eq_false_iff_not, bne_iff_ne, ne_eq, beq_iff_eq, bne_eq_false_iff_eq, beq_eq_false_iff_ne, Bool.not_eq_true', Bool.not_eq_false', gt_iff_lt, ge_iff_le] at *); (repeat simp (disch := omega) only [wrap64, wrap32] at *)); omega), if_neg (by ((try simp only [decide_eq_true_eq, decide_eq_false_iff_not, bne_iff_ne, ne_eq, beq_iff_eq, bne_eq_false_iff_eq, beq_eq_false_iff_ne, Bool.not_eq_true', Bool.not_eq_false', gt_iff_lt, ge_iff_le] at *); (repeat simp (disch := omega) only [wrap64, wrap32] at *)); omega)] at h4
          refine ⟨⟨m, IntKind.i64.wrap (q + fM s q)⟩, ⟨?_, ?_, ?_, ?_⟩, ⟨rfl, rfl, rfl, trivial⟩, Nat.lt_succ_self _⟩
          · dsimp only; rw [e1]; omega
          · dsimp only; rw [e1]; omega
          · dsimp only; rw [e1]; omega
          · dsimp only; rw [e1]; exact h4
    · skip
      refine aw_exit ?_
      refine exit_thn ?_
      refine exit_thn ?_
      refine exit_blk ?_
      refine normal_thn ?_
      refine aw_seq ?_
      refine aw_region ?_
      refine g_u (s_mv_imm rfl rfl) ?_
      refine g_u (s_mv_imm rfl rfl) ?_
      refine g_u (si_h rfl rfl rfl Try.underlying9 (by (try dsimp only); omega)) ?_
      refine g_u (s_as_imm rfl rfl) ?_
      refine g_nil ?_
      refine normal_thn ?_
      refine aw_ret ?_
      change decide (q < (s.size : Int)) = false at hb1
      rw [cutG, if_neg (by ((try simp only [decide_eq_true_eq, decide_eq_false_iff_not, bne_iff_ne, ne_eq, beq_iff_eq, bne_eq_false_iff_eq, beq_eq_false_iff_ne, Bool.not_eq_true', Bool.not_eq_false', gt_iff_lt, ge_iff_le] at *); (repeat simp (disch := omega) only [wrap64, wrap32] at *)); omega)] at h4
      exact ⟨⟨(rfl : toAV (Al.look _ _) = some _).trans (congrArg some (by rw [show cutM s n = q from h4.symm])), rfl⟩, trivial⟩

set_option maxHeartbeats 1000000 in
theorem put_c (l : List UInt8) (r : Int) (hl : l.length ≤ 70368744177664) : PCall Try.prog Γ0 5 [.sl 1 (bytesL l), rv r] [.sl 1 (bytesL (putM l r))] := by
  have hz := sizeM_range r
  have hb := bytesL_len l
  refine pcall_of Try.func5 rfl Try.ntmps5 (by kernel_rfl) rfl fun w0 I0 G0 => ?_
  refine aw_seq ?_
  refine aw_region ?_
  refine g_u (s_as_imm rfl rfl) ?_
  refine g_nil ?_
  refine normal_thn ?_
  refine aw_seq ?_
  refine aw_region ?_
  refine g_u (s_mv_imm rfl rfl) ?_
  refine g_u (s_lenL rfl rfl Try.underlying22) ?_
  refine g_u (s_mv_imm rfl rfl) ?_
  refine g_u (s_lenL rfl rfl Try.underlying22) ?_
  refine g_u (s_add rfl rfl rfl) ?_
  refine g_uG (s_makeSlice 1012 (X0 := z5) (len := (bytesL l).length) (cap := (bytesL l).length + 4) rfl rfl rfl rfl rfl rfl (by rw [wrap64 (by omega) (by omega)]; omega) Try.underlying22 tS5 tZ5 rfl rfl by5 (by omega) (by omega) (by omega)) rfl ?_
  refine g_u (s_as_osl rfl rfl) ?_
  refine g_nil ?_
  refine normal_thn ?_
  refine aw_seq ?_
  refine aw_region ?_
  refine g_u (s_mv_osl rfl rfl) ?_
  refine g_u (s_mv_imm rfl rfl) ?_
  refine g_u (s_copy_in (el := 5) (el' := 0) (T1 := 0) rfl rfl rfl rfl rfl Try.underlying22 tS5 (by intro x hx; rw [List.eq_of_mem_replicate hx]; rfl) (by simp)) ?_
  refine g_nil ?_
  refine normal_thn ?_
  refine aw_freeze 1012 3012 5 1 rfl rfl rfl rfl rfl rfl (by intro x hx; rcases List.mem_append.1 hx with hx | hx <;> first | (have := List.mem_of_mem_take hx; simp only [bytesL, List.mem_map] at this; obtain ⟨b, _, rfl⟩ := this; rfl) | (rw [List.eq_of_mem_replicate (List.mem_of_mem_drop hx)]; rfl)) (by simp) (by omega) (by unfold maxLen; omega) rfl ?_
  refine aw_weak [(0, .imm (.sl 1 (bytesL l))), (1, .imm (rv r)), (5, .slg 3012 1 (bytesL l)), (3012, .tok 1 (bytesL l))] ⟨rfl, rfl, look_slg rfl (by simp), look_tok rfl (by simp), trivial⟩ ?_
  refine aw_seq ?_
  refine aw_seq ?_
  refine aw_region ?_
  refine g_u (s_mv_imm rfl rfl) ?_
  refine g_u (s_call1 (is_c _) rfl rfl) ?_
  refine g_u (s_not rfl rfl) ?_
  refine g_nil ?_
  refine normal_thn ?_
  refine aw_cond rfl (fun hb1 => ?_) (fun hb1 => ?_)
  · skip
    refine aw_seq ?_
    refine aw_region ?_
    refine g_u (s_mv_slg rfl rfl) ?_
    refine g_u (s_as_slg rfl rfl) ?_
    refine g_nil ?_
    refine normal_thn ?_
    refine aw_ret ?_
    refine ret_thn ?_
    exact ⟨⟨(rfl : toAV (Al.look _ _) = some _).trans (congrArg some (by ((try simp only [bytesL_bits, bytesL_wrap]); unfold putM bytesP; (try simp only [decide_eq_true_eq, decide_eq_false_iff_not, bne_iff_ne, ne_eq, beq_iff_eq, bne_eq_false_iff_eq, beq_eq_false_iff_ne, Bool.not_eq_true', Bool.not_eq_false', gt_iff_lt, ge_iff_le] at *); rw [if_neg (by simp_all)]; first | done | rfl | (simp only [List.append_assoc, List.cons_append, List.nil_append]; rfl)))), rfl⟩, trivial⟩
  · skip
    refine aw_skip ?_
    refine normal_thn ?_
    refine aw_seq ?_
    refine aw_region ?_
    refine g_u (s_mv_imm rfl rfl) ?_
    refine g_u (s_call1 (size_c _) rfl rfl) ?_
    refine g_u (s_as_imm rfl rfl) ?_
    refine g_nil ?_
    refine normal_thn ?_
    refine aw_seq ?_
    refine aw_seq ?_
    refine aw_region ?_
    refine g_u (s_mv_imm rfl rfl) ?_
    refine g_u (s_eqI rfl rfl rfl) ?_
    refine g_nil ?_
    refine normal_thn ?_
    refine aw_cond rfl (fun hb2 => ?_) (fun hb2 => ?_)
    · skip
      refine aw_seq ?_
      refine aw_region ?_
      refine g_u (s_mv_slg rfl rfl) ?_
      refine g_u (s_mv_imm rfl rfl) ?_
      refine g_u (s_cvII rfl rfl Try.underlying21 Try.underlying5) ?_
      refine g_u (s_buildSlice (X0 := z5) rfl Try.underlying22 tS5 tZ5 rfl rfl rfl rfl rfl rfl rfl rfl) ?_
      refine g_u (s_append rfl rfl rfl rfl rfl Try.underlying22 Try.underlying22 tS5 zv5 rfl (by decide) by5 (by simp only [List.length_append, List.length_cons, List.length_nil, hb]; omega) (by simp only [List.length_append, List.length_cons, List.length_nil, hb]; omega)) ?_
      refine g_u (s_as_slg rfl rfl) ?_
      refine g_nil ?_
      refine normal_thn ?_
      refine aw_ret ?_
      refine ret_thn ?_
      exact ⟨⟨(rfl : toAV (Al.look _ _) = some _).trans (congrArg some (by ((try simp only [bytesL_bits, bytesL_wrap]); unfold putM bytesP; (try simp only [decide_eq_true_eq, decide_eq_false_iff_not, bne_iff_ne, ne_eq, beq_iff_eq, bne_eq_false_iff_eq, beq_eq_false_iff_ne, Bool.not_eq_true', Bool.not_eq_false', gt_iff_lt, ge_iff_le] at *); rw [if_pos (by simp_all), if_pos (by omega)]; first | done | rfl | (simp only [List.append_assoc, List.cons_append, List.nil_append]; rfl)))), rfl⟩, trivial⟩
    · skip
      refine aw_skip ?_
      refine normal_thn ?_
      refine aw_seq ?_
      refine aw_draw mixed ?_
      refine g_u (s_mv_slg rfl rfl) ?_
      refine g_u (s_mv_imm rfl rfl) ?_
      refine g_u (s_sub rfl rfl rfl) ?_
      refine g_u (s_shl rfl rfl rfl (by first | decide | omega | (((try simp only [decide_eq_true_eq, decide_eq_false_iff_not, bne_iff_ne, ne_eq, beq_iff_eq, bne_eq_false_iff_eq, beq_eq_false_iff_ne, Bool.not_eq_true', Bool.not_eq_false', gt_iff_lt, ge_iff_le] at *); (repeat simp (disch := omega) only [wrap64, wrap32] at *)); omega))) ?_
      refine g_u (s_mv_imm rfl rfl) ?_
      refine g_u (s_mv_imm rfl rfl) ?_
      refine g_u (s_sub rfl rfl rfl) ?_
      refine g_u (s_mul rfl rfl rfl) ?_
      refine g_u (s_shr rfl rfl rfl (by first | decide | omega | (((try simp only [decide_eq_true_eq, decide_eq_false_iff_not, bne_iff_ne, ne_eq, beq_iff_eq, bne_eq_false_iff_eq, beq_eq_false_iff_ne, Bool.not_eq_true', Bool.not_eq_false', gt_iff_lt, ge_iff_le] at *); (repeat simp (disch := omega) only [wrap64, wrap32] at *)); omega))) ?_
      refine g_u (s_cvII rfl rfl Try.underlying21 Try.underlying5) ?_
      refine g_u (s_or rfl rfl rfl) ?_
      refine g_u (s_buildSlice (X0 := z5) rfl Try.underlying22 tS5 tZ5 rfl rfl rfl rfl rfl rfl rfl rfl) ?_
      refine g_u (s_append rfl rfl rfl rfl rfl Try.underlying22 Try.underlying22 tS5 zv5 rfl (by decide) by5 (by simp only [List.length_append, List.length_cons, List.length_nil, hb]; omega) (by simp only [List.length_append, List.length_cons, List.length_nil, hb]; omega)) ?_
      refine g_u (s_as_slg rfl rfl) ?_
      refine g_nil ⟨by kernel_rfl, ?_⟩
      refine normal_thn ?_
      refine aw_seq ?_
      refine aw_seq ?_
      refine aw_region ?_
      refine g_u (s_mv_imm rfl rfl) ?_
      refine g_nil ?_
      refine normal_thn ?_
      refine aw_block ?_
      refine aw_seq ?_
      refine aw_block ?_
      refine aw_seq ?_
      refine aw_block ?_
      refine aw_seq ?_
      refine aw_block ?_
      refine aw_seq ?_
      refine aw_seq ?_
      refine aw_seq ?_
      refine aw_region ?_
      refine g_u (s_eqI rfl rfl rfl) ?_
      refine g_u (s_as_imm rfl rfl) ?_
      refine g_nil ?_
      refine normal_thn ?_
      refine aw_cond rfl (fun hb3 => ?_) (fun hb3 => ?_)
      · skip
        refine aw_exit ?_
        refine exit_thn ?_
        refine exit_thn ?_
        refine exit_blk ?_
        refine normal_thn ?_
        refine aw_region ?_
        refine g_u (s_mv_slg rfl rfl) ?_
        refine g_u (s_mv_imm rfl rfl) ?_
        refine g_u (s_shr rfl rfl rfl (by first | decide | omega | (((try simp only [decide_eq_true_eq, decide_eq_false_iff_not, bne_iff_ne, ne_eq, beq_iff_eq, bne_eq_false_iff_eq, beq_eq_false_iff_ne, Bool.not_eq_true', Bool.not_eq_false', gt_iff_lt, ge_iff_le] at *); (repeat simp (disch := omega) only [wrap64, wrap32] at *)); omega))) ?_
        refine g_u (s_cvII rfl rfl Try.underlying21 Try.underlying5) ?_
        refine g_u (s_and rfl rfl rfl) ?_
        refine g_u (s_or rfl rfl rfl) ?_
        refine g_u (s_buildSlice (X0 := z5) rfl Try.underlying22 tS5 tZ5 rfl rfl rfl rfl rfl rfl rfl rfl) ?_
        refine g_u (s_append rfl rfl rfl rfl rfl Try.underlying22 Try.underlying22 tS5 zv5 rfl (by decide) by5 (by simp only [List.length_append, List.length_cons, List.length_nil, hb]; omega) (by simp only [List.length_append, List.length_cons, List.length_nil, hb]; omega)) ?_
        refine g_u (s_as_slg rfl rfl) ?_
        refine g_nil ?_
        refine normal_blk ?_
        refine normal_thn ?_
        refine aw_region ?_
        refine g_u (s_mv_slg rfl rfl) ?_
        refine g_u (s_mv_imm rfl rfl) ?_
        refine g_u (s_shr rfl rfl rfl (by first | decide | omega | (((try simp only [decide_eq_true_eq, decide_eq_false_iff_not, bne_iff_ne, ne_eq, beq_iff_eq, bne_eq_false_iff_eq, beq_eq_false_iff_ne, Bool.not_eq_true', Bool.not_eq_false', gt_iff_lt, ge_iff_le] at *); (repeat simp (disch := omega) only [wrap64, wrap32] at *)); omega))) ?_
        refine g_u (s_cvII rfl rfl Try.underlying21 Try.underlying5) ?_
        refine g_u (s_and rfl rfl rfl) ?_
        refine g_u (s_or rfl rfl rfl) ?_
        refine g_u (s_buildSlice (X0 := z5) rfl Try.underlying22 tS5 tZ5 rfl rfl rfl rfl rfl rfl rfl rfl) ?_
        refine g_u (s_append rfl rfl rfl rfl rfl Try.underlying22 Try.underlying22 tS5 zv5 rfl (by decide) by5 (by simp only [List.length_append, List.length_cons, List.length_nil, hb]; omega) (by simp only [List.length_append, List.length_cons, List.length_nil, hb]; omega)) ?_
        refine g_u (s_as_slg rfl rfl) ?_
        refine g_nil ?_
        refine normal_blk ?_
        refine normal_thn ?_
        refine aw_seq ?_
        refine aw_region ?_
        refine g_u (s_mv_slg rfl rfl) ?_
        refine g_u (s_mv_imm rfl rfl) ?_
        refine g_u (s_cvII rfl rfl Try.underlying21 Try.underlying5) ?_
        refine g_u (s_and rfl rfl rfl) ?_
        refine g_u (s_or rfl rfl rfl) ?_
        refine g_u (s_buildSlice (X0 := z5) rfl Try.underlying22 tS5 tZ5 rfl rfl rfl rfl rfl rfl rfl rfl) ?_
        refine g_u (s_append rfl rfl rfl rfl rfl Try.underlying22 Try.underlying22 tS5 zv5 rfl (by decide) by5 (by simp only [List.length_append, List.length_cons, List.length_nil, hb]; omega) (by simp only [List.length_append, List.length_cons, List.length_nil, hb]; omega)) ?_
        refine g_u (s_as_slg rfl rfl) ?_
        refine g_nil ?_
        refine normal_thn ?_
        refine aw_exit ?_
        refine exit_blk ?_
        refine normal_thn ?_
        refine aw_seq ?_
        refine aw_region ?_
        refine g_u (s_mv_slg rfl rfl) ?_
        refine g_u (s_as_slg rfl rfl) ?_
        refine g_nil ?_
        refine normal_thn ?_
        refine aw_ret ?_
        exact ⟨⟨(rfl : toAV (Al.look _ _) = some _).trans (congrArg some (by ((try simp only [bytesL_bits, bytesL_wrap]); unfold putM bytesP; (try simp only [decide_eq_true_eq, decide_eq_false_iff_not, bne_iff_ne, ne_eq, beq_iff_eq, bne_eq_false_iff_eq, beq_eq_false_iff_ne, Bool.not_eq_true', Bool.not_eq_false', gt_iff_lt, ge_iff_le] at *); rw [if_pos (by simp_all), if_neg (by omega), if_neg (by omega), if_neg (by omega)]; first | done | rfl | (simp only [List.append_assoc, List.cons_append, List.nil_append]; rfl)))), rfl⟩, trivial⟩
      · skip
        refine aw_skip ?_
        refine normal_thn ?_
        refine aw_seq ?_
        refine aw_region ?_
        refine g_u (s_eqI rfl rfl rfl) ?_
        refine g_u (s_as_imm rfl rfl) ?_
        refine g_nil ?_
        refine normal_thn ?_
        refine aw_cond rfl (fun hb4 => ?_) (fun hb4 => ?_)
        · skip
          refine aw_exit ?_
          refine exit_thn ?_
          refine exit_blk_ne rfl ?_
          refine exit_thn ?_
          refine exit_blk ?_
          refine normal_thn ?_
          refine aw_region ?_
          refine g_u (s_mv_slg rfl rfl) ?_
          refine g_u (s_mv_imm rfl rfl) ?_
          refine g_u (s_shr rfl rfl rfl (by first | decide | omega | (((try simp only [decide_eq_true_eq, decide_eq_false_iff_not, bne_iff_ne, ne_eq, beq_iff_eq, bne_eq_false_iff_eq, beq_eq_false_iff_ne, Bool.not_eq_true', Bool.not_eq_false', gt_iff_lt, ge_iff_le] at *); (repeat simp (disch := omega) only [wrap64, wrap32] at *)); omega))) ?_
          refine g_u (s_cvII rfl rfl Try.underlying21 Try.underlying5) ?_
          refine g_u (s_and rfl rfl rfl) ?_
          refine g_u (s_or rfl rfl rfl) ?_
          refine g_u (s_buildSlice (X0 := z5) rfl Try.underlying22 tS5 tZ5 rfl rfl rfl rfl rfl rfl rfl rfl) ?_
          refine g_u (s_append rfl rfl rfl rfl rfl Try.underlying22 Try.underlying22 tS5 zv5 rfl (by decide) by5 (by simp only [List.length_append, List.length_cons, List.length_nil, hb]; omega) (by simp only [List.length_append, List.length_cons, List.length_nil, hb]; omega)) ?_
          refine g_u (s_as_slg rfl rfl) ?_
          refine g_nil ?_
          refine normal_blk ?_
          refine normal_thn ?_
          refine aw_seq ?_
          refine aw_region ?_
          refine g_u (s_mv_slg rfl rfl) ?_
          refine g_u (s_mv_imm rfl rfl) ?_
          refine g_u (s_cvII rfl rfl Try.underlying21 Try.underlying5) ?_
          refine g_u (s_and rfl rfl rfl) ?_
          refine g_u (s_or rfl rfl rfl) ?_
          refine g_u (s_buildSlice (X0 := z5) rfl Try.underlying22 tS5 tZ5 rfl rfl rfl rfl rfl rfl rfl rfl) ?_
          refine g_u (s_append rfl rfl rfl rfl rfl Try.underlying22 Try.underlying22 tS5 zv5 rfl (by decide) by5 (by simp only [List.length_append, List.length_cons, List.length_nil, hb]; omega) (by simp only [List.length_append, List.length_cons, List.length_nil, hb]; omega)) ?_
          refine g_u (s_as_slg rfl rfl) ?_
          refine g_nil ?_
          refine normal_thn ?_
          refine aw_exit ?_
          refine exit_blk ?_
          refine normal_thn ?_
          refine aw_seq ?_
          refine aw_region ?_
          refine g_u (s_mv_slg rfl rfl) ?_
          refine g_u (s_as_slg rfl rfl) ?_
          refine g_nil ?_
          refine normal_thn ?_
          refine aw_ret ?_
          exact ⟨⟨(rfl : toAV (Al.look _ _) = some _).trans (congrArg some (by ((try simp only [bytesL_bits, bytesL_wrap]); unfold putM bytesP; (try simp only [decide_eq_true_eq, decide_eq_false_iff_not, bne_iff_ne, ne_eq, beq_iff_eq, bne_eq_false_iff_eq, beq_eq_false_iff_ne, Bool.not_eq_true', Bool.not_eq_false', gt_iff_lt, ge_iff_le] at *); rw [if_pos (by simp_all), if_neg (by omega), if_neg (by omega), if_pos (by omega)]; first | done | rfl | (simp only [List.append_assoc, List.cons_append, List.nil_append]; rfl)))), rfl⟩, trivial⟩
        · skip
          refine aw_skip ?_
          refine normal_thn ?_
          refine aw_exit ?_
          refine exit_blk_ne rfl ?_
          refine exit_thn ?_
          refine exit_blk_ne rfl ?_
          refine exit_thn ?_
          refine exit_blk ?_
          refine normal_thn ?_
          refine aw_seq ?_
          refine aw_region ?_
          refine g_u (s_mv_slg rfl rfl) ?_
          refine g_u (s_mv_imm rfl rfl) ?_
          refine g_u (s_cvII rfl rfl Try.underlying21 Try.underlying5) ?_
          refine g_u (s_and rfl rfl rfl) ?_
          refine g_u (s_or rfl rfl rfl) ?_
          refine g_u (s_buildSlice (X0 := z5) rfl Try.underlying22 tS5 tZ5 rfl rfl rfl rfl rfl rfl rfl rfl) ?_
          refine g_u (s_append rfl rfl rfl rfl rfl Try.underlying22 Try.underlying22 tS5 zv5 rfl (by decide) by5 (by simp only [List.length_append, List.length_cons, List.length_nil, hb]; omega) (by simp only [List.length_append, List.length_cons, List.length_nil, hb]; omega)) ?_
          refine g_u (s_as_slg rfl rfl) ?_
          refine g_nil ?_
          refine normal_thn ?_
          refine aw_exit ?_
          refine exit_blk ?_
          refine normal_thn ?_
          refine aw_seq ?_
          refine aw_region ?_
          refine g_u (s_mv_slg rfl rfl) ?_
          refine g_u (s_as_slg rfl rfl) ?_
          refine g_nil ?_
          refine normal_thn ?_
          refine aw_ret ?_
          exact ⟨⟨(rfl : toAV (Al.look _ _) = some _).trans (congrArg some (by ((try simp only [bytesL_bits, bytesL_wrap]); unfold putM bytesP; (try simp only [decide_eq_true_eq, decide_eq_false_iff_not, bne_iff_ne, ne_eq, beq_iff_eq, bne_eq_false_iff_eq, beq_eq_false_iff_ne, Bool.not_eq_true', Bool.not_eq_false', gt_iff_lt, ge_iff_le] at *); rw [if_pos (by simp_all), if_neg (by omega), if_pos (by omega)]; first | done | rfl | (simp only [List.append_assoc, List.cons_append, List.nil_append]; rfl)))), rfl⟩, trivial⟩

set_option maxHeartbeats 400000 in
theorem works_c : PCall Try.prog Γ0 8 [] [bv true] := by
  refine pcall_of Try.func8 rfl Try.ntmps8 (by kernel_rfl) rfl fun w0 I0 G0 => ?_
  refine aw_seq ?_
  refine aw_region ?_
  refine g_u (s_as_imm rfl rfl) ?_
  refine g_nil ?_
  refine normal_thn ?_
  refine aw_seq ?_
  refine aw_region ?_
  refine g_u (s_call2 (rune_c _ _ (by decide)) rfl rfl) ?_
  refine g_u (s_mv_tup rfl rfl) ?_
  refine g_u (s_extract rfl rfl rfl rfl) ?_
  refine g_u (s_extract rfl rfl rfl rfl) ?_
  refine g_u (s_as_imm rfl rfl) ?_
  refine g_u (s_as_imm rfl rfl) ?_
  refine g_nil ?_
  refine normal_thn ?_
  refine aw_seq ?_
  refine aw_region ?_
  refine g_u (s_call2 (rune_c _ _ (by decide)) rfl rfl) ?_
  refine g_u (s_mv_tup rfl rfl) ?_
  refine g_u (s_extract rfl rfl rfl rfl) ?_
  refine g_u (s_extract rfl rfl rfl rfl) ?_
  refine g_u (s_as_imm rfl rfl) ?_
  refine g_u (s_as_imm rfl rfl) ?_
  refine g_nil ?_
  refine normal_thn ?_
  refine aw_seq ?_
  refine aw_region ?_
  refine g_u (s_mv_imm rfl rfl) ?_
  refine g_u (s_eqI rfl rfl rfl) ?_
  refine g_u (s_mv_imm rfl rfl) ?_
  refine g_case (t := 15) rfl ?_
  rintro (hb1 | hb1)
  · rw [hb1]
    refine g_run rfl rfl (s_mv_imm rfl rfl) ?_
    refine g_run rfl rfl (s_eqI rfl rfl rfl) ?_
    refine g_u (s_pick_t rfl rfl rfl) ?_
    refine g_u (s_mv_imm rfl rfl) ?_
    refine g_case (t := 19) rfl ?_
    rintro (hb2 | hb2)
    · rw [hb2]
      refine g_run rfl rfl (s_mv_imm rfl rfl) ?_
      refine g_run rfl rfl (s_eqI rfl rfl rfl) ?_
      refine g_u (s_pick_t rfl rfl rfl) ?_
      refine g_u (s_mv_imm rfl rfl) ?_
      refine g_case (t := 23) rfl ?_
      rintro (hb3 | hb3)
      · rw [hb3]
        refine g_runG rfl rfl (s_buildOwn 1024 (X0 := z5) rfl rfl rfl Try.underlying22 tS5 tZ5 rfl rfl rfl rfl rfl rfl rfl rfl) rfl ?_
        refine g_run rfl rfl (s_cvOwn (n := 1) rfl rfl rfl rfl Try.underlying22 Try.underlying5 rfl rfl rfl (by decide)) ?_
        refine g_run rfl rfl (s_call1 (put_c [112] _ (by decide)) rfl rfl) ?_
        refine g_run rfl rfl (s_cvBS' (rfl) rfl rfl Try.underlying22 Try.underlying9 Try.underlying5) ?_
        refine g_run rfl rfl (s_eqS rfl rfl rfl) ?_
        refine g_u (s_pick_t rfl rfl rfl) ?_
        refine g_u (s_mv_imm rfl rfl) ?_
        refine g_case (t := 30) rfl ?_
        rintro (hb4 | hb4)
        · rw [hb4]
          refine g_run rfl rfl (s_call1 (check_c _ (by decide)) rfl rfl) ?_
          refine g_run rfl rfl (s_eqI rfl rfl rfl) ?_
          refine g_u (s_pick_t rfl rfl rfl) ?_
          refine g_u (s_mv_imm rfl rfl) ?_
          refine g_case (t := 34) rfl ?_
          rintro (hb5 | hb5)
          · rw [hb5]
            refine g_run rfl rfl (s_call1 (count_c _ (by decide)) rfl rfl) ?_
            refine g_run rfl rfl (s_eqI rfl rfl rfl) ?_
            refine g_u (s_pick_t rfl rfl rfl) ?_
            refine g_u (s_mv_imm rfl rfl) ?_
            refine g_case (t := 38) rfl ?_
            rintro (hb6 | hb6)
            · rw [hb6]
              refine g_run rfl rfl (s_call1 (cut_c _ _ (by decide)) rfl rfl) ?_
              refine g_run rfl rfl (s_eqS rfl rfl rfl) ?_
              refine g_u (s_pick_t rfl rfl rfl) ?_
              refine g_u (s_mv_imm rfl rfl) ?_
              refine g_case (t := 42) rfl ?_
              rintro (hb7 | hb7)
              · rw [hb7]
                refine g_run rfl rfl (s_call1 (is_c _) rfl rfl) ?_
                refine g_run rfl rfl (s_not rfl rfl) ?_
                refine g_u (s_pick_t rfl rfl rfl) ?_
                refine g_u (s_as_imm rfl rfl) ?_
                refine g_nil ?_
                refine normal_thn ?_
                refine aw_ret ?_
                exact ⟨⟨(rfl : toAV (Al.look _ _) = some _).trans (congrArg some (by (first | kernel_rfl | rfl))), rfl⟩, trivial⟩
              · exact killT hb7 ((by first | kernel_rfl | (rw [strList, strList]; kernel_rfl)))
            · exact killT hb6 ((by first | kernel_rfl | (rw [strList, strList]; kernel_rfl)))
          · exact killT hb5 ((by first | kernel_rfl | (rw [strList, strList]; kernel_rfl)))
        · exact killT hb4 ((by first | kernel_rfl | (rw [strList, strList]; kernel_rfl)))
      · exact killT hb3 ((by first | kernel_rfl | (rw [strList, strList]; kernel_rfl)))
    · exact killT hb2 ((by first | kernel_rfl | (rw [strList, strList]; kernel_rfl)))
  · exact killT hb1 ((by first | kernel_rfl | (rw [strList, strList]; kernel_rfl)))

attribute [local irreducible] checkM countM cutM rCheckM rCountM rCutM

attribute [local irreducible] bytesM bytesP

set_option maxHeartbeats 1000000 in
theorem back_c (p : ByteArray) (r : Int) (u : ByteArray) (hp : p.size ≤ 70368744177664) (hu : u.size ≤ 70368744177664) : PCall Try.prog Γ0 3 [sv p, rv r, sv u] [bv true] := by
  have B0 : (isM r != isR r) = false := by rw [isM_isR]; exact bne_self_eq_false _
  have hz : (strOf (putM p.data.toList r)).size ≤ p.size + 4 := by rw [strOf_size]; have := len_list p; have h2 := strOf_size_le r; unfold putM; split; (next hv => have h3 := (isM_iff r).1 hv; rw [bytesP_pb h3, List.length_append, List.length_map]; have := pb_len r; omega); omega
  have B1 : (!isR r) = true → ((strOf (putM p.data.toList r)).toList == p.toList) = true := fun h => by have h2 : isM r = false := (isM_isR r).trans (by simpa using h); unfold putM; rw [h2]; rw [str_beq]; exact decide_eq_true (str_ext (by rw [strOf_list]; rfl))
  have B := fun h : (!isR r) = false => back p r u (by rw [isM_isR]; simpa using h)
  have B2 : (!isR r) = false → ((strOf (putM p.data.toList r)).toList == (p ++ strOf (bytesM r)).toList) = true := fun h => by rw [(B h).1]; exact beq_self_eq_true _
  have B3 : (!isR r) = false → ((runeM ((strOf (putM p.data.toList r)) ++ u) p.size).1 == r) = true := fun h => by rw [(B h).2]; exact beq_self_eq_true _
  have B4 : (!isR r) = false → ((runeM ((strOf (putM p.data.toList r)) ++ u) p.size).2 == IntKind.i64.wrap (((strOf (putM p.data.toList r)).size : Int) - p.size)) = true := fun h => by rw [(B h).2, wrap64 (by omega) (by omega)]; exact beq_self_eq_true _
  have hs4 := strOf_size_le r
  refine pcall_of Try.func3 rfl Try.ntmps3 (by kernel_rfl) rfl fun w0 I0 G0 => ?_
  refine aw_seq ?_
  refine aw_region ?_
  refine g_u (s_as_imm rfl rfl) ?_
  refine g_nil ?_
  refine normal_thn ?_
  refine aw_seq ?_
  refine aw_region ?_
  refine g_u (s_mv_imm rfl rfl) ?_
  refine g_u (s_cvSB rfl rfl Try.underlying9 Try.underlying22 Try.underlying5 (by unfold maxLen; omega)) ?_
  refine g_u (s_mv_imm rfl rfl) ?_
  refine g_u (s_call1 (put_c _ _ (by rw [len_list]; omega)) rfl rfl) ?_
  refine g_u (s_cvBS' (rfl) rfl rfl Try.underlying22 Try.underlying9 Try.underlying5) ?_
  refine g_u (s_as_imm rfl rfl) ?_
  refine g_nil ?_
  refine normal_thn ?_
  refine aw_seq ?_
  refine aw_seq ?_
  refine aw_region ?_
  refine g_u (s_mv_imm rfl rfl) ?_
  refine g_u (s_call1 (is_c _) rfl rfl) ?_
  refine g_u (s_mv_imm rfl rfl) ?_
  refine g_u (s_call1 (ris_c _) rfl rfl) ?_
  refine g_u (s_neB rfl rfl rfl Try.underlying4) ?_
  refine g_nil ?_
  refine normal_thn ?_
  refine aw_cond rfl (fun hb1 => ?_) (fun hb1 => ?_)
  · exact killF hb1 (B0)
  · skip
    refine aw_skip ?_
    refine normal_thn ?_
    refine aw_seq ?_
    refine aw_seq ?_
    refine aw_region ?_
    refine g_u (s_mv_imm rfl rfl) ?_
    refine g_u (s_call1 (ris_c _) rfl rfl) ?_
    refine g_u (s_not rfl rfl) ?_
    refine g_nil ?_
    refine normal_thn ?_
    refine aw_cond rfl (fun hb2 => ?_) (fun hb2 => ?_)
    · skip
      refine aw_seq ?_
      refine aw_region ?_
      refine g_u (s_mv_imm rfl rfl) ?_
      refine g_u (s_mv_imm rfl rfl) ?_
      refine g_u (s_eqS rfl rfl rfl) ?_
      refine g_u (s_mv_imm rfl rfl) ?_
      refine g_case (t := 26) rfl ?_
      rintro (hb3 | hb3)
      · rw [hb3]
        refine g_run rfl rfl (s_call1 (works_c) rfl rfl) ?_
        refine g_u (s_pick_t rfl rfl rfl) ?_
        refine g_u (s_as_imm rfl rfl) ?_
        refine g_nil ?_
        refine normal_thn ?_
        refine aw_ret ?_
        refine ret_thn ?_
        exact ⟨⟨(rfl : toAV (Al.look _ _) = some _).trans (congrArg some (by rfl)), rfl⟩, trivial⟩
      · exact killT hb3 (B1 (by assumption))
    · skip
      refine aw_skip ?_
      refine normal_thn ?_
      refine aw_seq ?_
      refine aw_region ?_
      refine g_u (s_mv_imm rfl rfl) ?_
      refine g_u (s_mv_imm rfl rfl) ?_
      refine g_u (s_catS rfl rfl rfl (by show _ ≤ (9223372036854775807 : Int); ((try simp only [decide_eq_true_eq, decide_eq_false_iff_not, bne_iff_ne, ne_eq, beq_iff_eq, bne_eq_false_iff_eq, beq_eq_false_iff_ne, Bool.not_eq_true', Bool.not_eq_false', gt_iff_lt, ge_iff_le] at *); (repeat simp (disch := omega) only [wrap64, wrap32] at *)); omega)) ?_
      refine g_u (s_mv_imm rfl rfl) ?_
      refine g_u (s_lenS rfl rfl Try.underlying9) ?_
      refine g_u (s_call2 (rune_c _ _ (by rw [app_size]; omega)) rfl rfl) ?_
      refine g_u (s_mv_tup rfl rfl) ?_
      refine g_u (s_extract rfl rfl rfl rfl) ?_
      refine g_u (s_extract rfl rfl rfl rfl) ?_
      refine g_u (s_as_imm rfl rfl) ?_
      refine g_u (s_as_imm rfl rfl) ?_
      refine g_nil ?_
      refine normal_thn ?_
      refine aw_seq ?_
      refine aw_region ?_
      refine g_u (s_mv_imm rfl rfl) ?_
      refine g_u (s_mv_imm rfl rfl) ?_
      refine g_u (s_mv_imm rfl rfl) ?_
      refine g_u (s_call1 (bytes_c _) rfl rfl) ?_
      refine g_u (s_catS rfl rfl rfl (by show _ ≤ (9223372036854775807 : Int); ((try simp only [decide_eq_true_eq, decide_eq_false_iff_not, bne_iff_ne, ne_eq, beq_iff_eq, bne_eq_false_iff_eq, beq_eq_false_iff_ne, Bool.not_eq_true', Bool.not_eq_false', gt_iff_lt, ge_iff_le] at *); (repeat simp (disch := omega) only [wrap64, wrap32] at *)); omega)) ?_
      refine g_u (s_eqS rfl rfl rfl) ?_
      refine g_u (s_mv_imm rfl rfl) ?_
      refine g_case (t := 44) rfl ?_
      rintro (hb4 | hb4)
      · rw [hb4]
        refine g_run rfl rfl (s_mv_imm rfl rfl) ?_
        refine g_run rfl rfl (s_mv_imm rfl rfl) ?_
        refine g_run rfl rfl (s_eqI rfl rfl rfl) ?_
        refine g_u (s_pick_t rfl rfl rfl) ?_
        refine g_u (s_mv_imm rfl rfl) ?_
        refine g_case (t := 49) rfl ?_
        rintro (hb5 | hb5)
        · rw [hb5]
          refine g_run rfl rfl (s_mv_imm rfl rfl) ?_
          refine g_run rfl rfl (s_mv_imm rfl rfl) ?_
          refine g_run rfl rfl (s_lenS rfl rfl Try.underlying9) ?_
          refine g_run rfl rfl (s_mv_imm rfl rfl) ?_
          refine g_run rfl rfl (s_lenS rfl rfl Try.underlying9) ?_
          refine g_run rfl rfl (s_sub rfl rfl rfl) ?_
          refine g_run rfl rfl (s_eqI rfl rfl rfl) ?_
          refine g_u (s_pick_t rfl rfl rfl) ?_
          refine g_u (s_mv_imm rfl rfl) ?_
          refine g_case (t := 58) rfl ?_
          rintro (hb6 | hb6)
          · rw [hb6]
            refine g_run rfl rfl (s_call1 (works_c) rfl rfl) ?_
            refine g_u (s_pick_t rfl rfl rfl) ?_
            refine g_u (s_as_imm rfl rfl) ?_
            refine g_nil ?_
            refine normal_thn ?_
            refine aw_ret ?_
            exact ⟨⟨(rfl : toAV (Al.look _ _) = some _).trans (congrArg some (by rfl)), rfl⟩, trivial⟩
          · exact killT hb6 (B4 (by assumption))
        · exact killT hb5 (B3 (by assumption))
      · exact killT hb4 (B2 (by assumption))

end Go.Proofs

