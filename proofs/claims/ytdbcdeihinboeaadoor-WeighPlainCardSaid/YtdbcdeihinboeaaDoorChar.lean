/- Characters and their bytes in plain Lean. No condition but those typed. -/
import Derived.Test.YtdbcdeihinboeaaDoorAm
set_option linter.unusedSimpArgs false
set_option linter.unusedVariables false
namespace Go.Proofs
open Go Go.Al

/-! The functions of package utf and of its reference, in plain Lean. -/
def w64 (n : Int) : Int := IntKind.i64.wrap n
def lengthM (c : Int) : Int := if c < 128 then 1 else if c < 194 then 0 else if c < 224 then 2 else if c < 240 then 3 else if c < 245 then 4 else 0
def leastM (k : Int) : Int := if k = 2 then 128 else if k = 3 then 2048 else if k = 4 then 65536 else 0
def sizeM (r : Int) : Int := if r < 128 then 1 else if r < 2048 then 2 else if r < 65536 then 3 else 4
def isM (r : Int) : Bool := decide ((r ≥ 0 ∧ r < 55296) ∨ (r ≥ 57344 ∧ r < 1114112))
def isR (r : Int) : Bool := decide (r ≥ 0 ∧ r ≤ 1114111 ∧ (r < 55296 ∨ r > 57343))
def stepM (r b : Int) : Int := bitsOf (· ||| ·) .i32 (IntKind.i32.wrap (r * 2 ^ (min (6 : Int).toNat (IntKind.bits .i32)))) (IntKind.i32.wrap (bitsOf (· &&& ·) .u8 b 63))
def r0M (c k : Int) : Int := bitsOf (· &&& ·) .i32 (IntKind.i32.wrap c) ((127 : Int).fdiv (2 ^ (min k.toNat (IntKind.bits .i32))))
def badM (b : Int) : Bool := bitsOf (· &&& ·) .u8 b 192 != 128
def runeLoop (s : ByteArray) (p : Int) : Nat → Int → Int → Option Int
  | 0, _, r => some r
  | n + 1, i, r => if badM (bAt s (p + i)) = true then none else runeLoop s p n (i + 1) (stepM r (bAt s (p + i)))
def runeM (s : ByteArray) (p : Int) : Int × Int :=
  if p < 0 ∨ p ≥ s.size then (0, 0) else
  if lengthM (bAt s p) = 0 ∨ lengthM (bAt s p) > s.size - p then (0, 0) else
  if lengthM (bAt s p) = 1 then (IntKind.i32.wrap (bAt s p), 1) else
  match runeLoop s p (lengthM (bAt s p) - 1).toNat 1 (r0M (bAt s p) (lengthM (bAt s p))) with
  | none => (0, 0)
  | some r => if r < leastM (lengthM (bAt s p)) ∨ isM r = false then (0, 0) else (r, lengthM (bAt s p))

/-- How far the places `f` goes from `p` on: there it ends. -/
def goM (f : Int → Int) (n : Int) : Nat → Int → Int → Int × Int
  | 0, p, c => (p, c)
  | m + 1, p, c => if p < n then (if f p = 0 then (p, c) else goM f n m (p + f p) (c + 1)) else (p, c)
def cutG (f : Int → Int) (n lim : Int) : Nat → Int → Int
  | 0, p => p
  | m + 1, p => if p < n then (if f p = 0 ∨ p + f p > lim then p else cutG f n lim m (p + f p)) else p
def fM (s : ByteArray) (p : Int) : Int := (runeM s p).2
def endM (s : ByteArray) : Int × Int := goM (fM s) s.size (s.size + 1) 0 0
def checkM (s : ByteArray) : Int := if (endM s).1 < s.size then (endM s).1 else -1
def countM (s : ByteArray) : Int := if (endM s).1 < s.size then -1 else (endM s).2
def cutM (s : ByteArray) (n : Int) : Int := cutG (fM s) s.size n (s.size + 1) 0
def contM (n : Int) : Int := bitsOf (· ||| ·) .u8 128 (bitsOf (· &&& ·) .u8 (IntKind.u8.wrap n) 63)
def headM (r k : Int) : Int := bitsOf (· ||| ·) .u8 (IntKind.u8.wrap (240 * 2 ^ (min (w64 (4 - k)).toNat (IntKind.bits .u8)))) (IntKind.u8.wrap (r.fdiv (2 ^ (min (w64 (6 * w64 (k - 1))).toNat (IntKind.bits .i32)))))
def bytesP (r : Int) : List UInt8 :=
  if sizeM r = 1 then [ofI (IntKind.u8.wrap r)] else
  if sizeM r = 2 then [ofI (headM r (sizeM r)), ofI (contM r)] else
  if sizeM r = 3 then [ofI (headM r (sizeM r)), ofI (contM (r.fdiv (2 ^ (min (6 : Int).toNat (IntKind.bits .i32))))), ofI (contM r)] else
  [ofI (headM r (sizeM r)), ofI (contM (r.fdiv (2 ^ (min (12 : Int).toNat (IntKind.bits .i32))))), ofI (contM (r.fdiv (2 ^ (min (6 : Int).toNat (IntKind.bits .i32))))), ofI (contM r)]
def putM (l : List UInt8) (r : Int) : List UInt8 := if isM r then l ++ bytesP r else l

-- the reference
def guessLoop (s : ByteArray) : Nat → Int → Int → Int
  | 0, _, n => n
  | m + 1, i, n => if i ≥ s.size then -1 else guessLoop s m (i + 1) (64 * n + bAt s i - 128)
def guessM (s : ByteArray) : Int :=
  if bAt s 0 < 128 then bAt s 0 else if bAt s 0 ≥ 240 then guessLoop s 3 1 (bAt s 0 - 240) else if bAt s 0 ≥ 224 then guessLoop s 2 1 (bAt s 0 - 224) else guessLoop s 1 1 (bAt s 0 - 192)
def topM (k n d : Int) : UInt8 := ofI (IntKind.u8.wrap (w64 (k + w64 (n.tdiv d))))
def midM (n d : Int) : UInt8 := ofI (IntKind.u8.wrap (w64 (128 + (w64 (n.tdiv d)).tmod 64)))
def lowM (n : Int) : UInt8 := ofI (IntKind.u8.wrap (w64 (128 + n.tmod 64)))
def bytesM (r : Int) : List UInt8 :=
  if w64 r < 128 then [ofI (IntKind.u8.wrap (w64 r))] else
  if w64 r < 2048 then [topM 192 (w64 r) 64, lowM (w64 r)] else
  if w64 r < 65536 then [topM 224 (w64 r) 4096, midM (w64 r) 64, lowM (w64 r)] else
  [topM 240 (w64 r) 262144, midM (w64 r) 4096, midM (w64 r) 64, lowM (w64 r)]
def rRuneM (s : ByteArray) (p : Int) : Int × Int :=
  if p < 0 ∨ p ≥ s.size then (0, 0) else
  if guessM (s.extract p.toNat s.size) < 0 ∨ guessM (s.extract p.toNat s.size) > 1114111 ∨ isR (guessM (s.extract p.toNat s.size)) = false then (0, 0) else
  if ((strOf (bytesM (guessM (s.extract p.toNat s.size)))).size : Int) > s.size - p ∨ s.extract p.toNat (p + (strOf (bytesM (guessM (s.extract p.toNat s.size)))).size).toNat ≠ strOf (bytesM (guessM (s.extract p.toNat s.size))) then (0, 0) else
  (guessM (s.extract p.toNat s.size), (strOf (bytesM (guessM (s.extract p.toNat s.size)))).size)
def rF (s : ByteArray) (p : Int) : Int := (rRuneM s p).2
def rEnd (s : ByteArray) : Int × Int := goM (rF s) s.size (s.size + 1) 0 0
def rCheckM (s : ByteArray) : Int := if (rEnd s).1 = s.size then -1 else (rEnd s).1
def rCountM (s : ByteArray) : Int := if (rEnd s).1 < s.size then -1 else (rEnd s).2
def rCutLoop (s : ByteArray) : Nat → ByteArray
  | 0 => .empty
  | k + 1 => if rCheckM (s.extract 0 (k + 1)) = -1 then s.extract 0 (k + 1) else rCutLoop s k
def rCutM (s : ByteArray) (n : Int) : ByteArray := rCutLoop s (if s.size < n then (s.size : Int) else n).toNat

end Go.Proofs
namespace Go.Proofs
open Go Go.Al
theorem lengthM_range (c : Int) : 0 ≤ lengthM c ∧ lengthM c ≤ 4 := by
  unfold lengthM
  (repeat' split)
  all_goals omega
end Go.Proofs
namespace Go.Proofs
open Go Go.Al
theorem ex_size (s : ByteArray) (a b : Nat) (h : b ≤ s.size) : (s.extract a b).size = b - a := by
  rw [ByteArray.size_extract]; omega
end Go.Proofs
namespace Go.Proofs
open Go Go.Al
theorem strOf_size_le (r : Int) : 1 ≤ (strOf (bytesM r)).size ∧ (strOf (bytesM r)).size ≤ 4 := by
  rw [strOf_size]
  unfold bytesM
  (repeat' split)
  all_goals simp
/-- A decoder: how long is what begins at a place, if anything does. -/
def Dec (f : Int → Int) (n : Nat) : Prop := ∀ p : Int, 0 ≤ p → p < n → f p = 0 ∨ (1 ≤ f p ∧ p + f p ≤ n)
theorem dec_fM (s : ByteArray) : Dec (fM s) s.size := by
  intro p h0 h1
  unfold fM runeM
  have := lengthM_range (bAt s p)
  (repeat' split)
  all_goals (dsimp only; omega)
theorem dec_rF (s : ByteArray) : Dec (rF s) s.size := by
  intro p h0 h1
  unfold rF rRuneM
  have := strOf_size_le (guessM (s.extract p.toNat s.size))
  (repeat' split)
  all_goals (dsimp only; omega)
end Go.Proofs
namespace Go.Proofs
open Go Go.Al
theorem sizeM_range (c : Int) : 1 ≤ sizeM c ∧ sizeM c ≤ 4 := by
  unfold sizeM
  (repeat' split)
  all_goals omega
theorem wrap8_lt' (n : Int) : 0 ≤ IntKind.u8.wrap n ∧ IntKind.u8.wrap n < 256 := wrap8_lt n
theorem bits8_lt (f : {n : Nat} → BitVec n → BitVec n → BitVec n) (a b : Int) : 0 ≤ bitsOf f .u8 a b ∧ bitsOf f .u8 a b < 256 := wrap8_lt _
theorem bytesL_bits (l : List UInt8) (f : {n : Nat} → BitVec n → BitVec n → BitVec n) (a b : Int) : bytesL l ++ [.v (.int .u8 (bitsOf f .u8 a b))] = bytesL (l ++ [ofI (bitsOf f .u8 a b)]) := bytesL_snoc (bits8_lt f a b)
theorem bytesL_wrap (l : List UInt8) (n : Int) : bytesL l ++ [.v (.int .u8 (IntKind.u8.wrap n))] = bytesL (l ++ [ofI (IntKind.u8.wrap n)]) := bytesL_snoc (wrap8_lt n)
theorem bytesL_len (l : List UInt8) : (bytesL l).length = l.length := by simp [bytesL]
end Go.Proofs
namespace Go.Proofs
open Go Go.Al

/-! ### Bits -/
theorem bits_and8 (a b : Int) (ha : 0 ≤ a ∧ a < 256) (hb : 0 ≤ b ∧ b < 256) : bitsOf (· &&& ·) .u8 a b = ((a.toNat &&& b.toNat : Nat) : Int) := by
  have h1 : (BitVec.ofInt 8 a).toNat = a.toNat := by rw [BitVec.toNat_ofInt]; omega
  have h2 : (BitVec.ofInt 8 b).toNat = b.toNat := by rw [BitVec.toNat_ofInt]; omega
  show IntKind.u8.wrap ((BitVec.ofInt 8 a &&& BitVec.ofInt 8 b).toNat) = _
  rw [BitVec.toNat_and, h1, h2]
  have := @Nat.and_le_left a.toNat b.toNat
  exact wrap8 (by omega) (by omega)
theorem bits_or8 (a b : Int) (ha : 0 ≤ a ∧ a < 256) (hb : 0 ≤ b ∧ b < 256) : bitsOf (· ||| ·) .u8 a b = ((a.toNat ||| b.toNat : Nat) : Int) := by
  have h1 : (BitVec.ofInt 8 a).toNat = a.toNat := by rw [BitVec.toNat_ofInt]; omega
  have h2 : (BitVec.ofInt 8 b).toNat = b.toNat := by rw [BitVec.toNat_ofInt]; omega
  show IntKind.u8.wrap ((BitVec.ofInt 8 a ||| BitVec.ofInt 8 b).toNat) = _
  rw [BitVec.toNat_or, h1, h2]
  have : a.toNat ||| b.toNat < 2 ^ 8 := Nat.or_lt_two_pow (by omega) (by omega)
  exact wrap8 (by omega) (by omega)
theorem bits_or32 (a b : Int) (ha : 0 ≤ a ∧ a < 1073741824) (hb : 0 ≤ b ∧ b < 1073741824) : bitsOf (· ||| ·) .i32 a b = ((a.toNat ||| b.toNat : Nat) : Int) := by
  have h1 : (BitVec.ofInt 32 a).toNat = a.toNat := by rw [BitVec.toNat_ofInt]; omega
  have h2 : (BitVec.ofInt 32 b).toNat = b.toNat := by rw [BitVec.toNat_ofInt]; omega
  show IntKind.i32.wrap ((BitVec.ofInt 32 a ||| BitVec.ofInt 32 b).toNat) = _
  rw [BitVec.toNat_or, h1, h2]
  have : a.toNat ||| b.toNat < 2 ^ 30 := Nat.or_lt_two_pow (by omega) (by omega)
  exact wrap32 (by omega) (by omega)
theorem bits_and32 (a b : Int) (ha : 0 ≤ a ∧ a < 1073741824) (hb : 0 ≤ b ∧ b < 1073741824) : bitsOf (· &&& ·) .i32 a b = ((a.toNat &&& b.toNat : Nat) : Int) := by
  have h1 : (BitVec.ofInt 32 a).toNat = a.toNat := by rw [BitVec.toNat_ofInt]; omega
  have h2 : (BitVec.ofInt 32 b).toNat = b.toNat := by rw [BitVec.toNat_ofInt]; omega
  show IntKind.i32.wrap ((BitVec.ofInt 32 a &&& BitVec.ofInt 32 b).toNat) = _
  rw [BitVec.toNat_and, h1, h2]
  have := @Nat.and_le_left a.toNat b.toNat
  exact wrap32 (by omega) (by omega)

theorem nat192 : ∀ b, b < 256 → ((b &&& 192) = 128 ↔ 128 ≤ b ∧ b < 192) := by decide +kernel
theorem nat63 (b : Nat) : (b &&& 63) = b % 64 := Nat.and_two_pow_sub_one_eq_mod b 6
theorem nator64 (a b : Nat) (h : b < 64) : a * 64 ||| b = a * 64 + b := by
  have := Nat.two_pow_add_eq_or_of_lt (i := 6) h a
  rw [Nat.mul_comm a 64]; exact this.symm

def isC (b : Int) : Prop := 128 ≤ b ∧ b < 192
theorem bad_iff (b : Int) (h : 0 ≤ b ∧ b < 256) : badM b = true ↔ ¬ isC b := by
  have := nat192 b.toNat (by omega)
  unfold badM isC
  rw [bits_and8 b 192 h (by omega), bne_iff_ne, ne_eq, show (192 : Int).toNat = 192 from rfl]
  constructor
  · intro h1 h2; exact h1 (by have := this.2 (by omega); omega)
  · intro h1 h2; exact h1 (by have := this.1 (by omega); omega)
theorem step_eq (r b : Int) (hr : 0 ≤ r ∧ r < 1000000) (hb : isC b) : stepM r b = 64 * r + (b - 128) := by
  unfold isC at hb
  unfold stepM
  have e1 : IntKind.i32.wrap (r * 2 ^ (min (6 : Int).toNat (IntKind.bits .i32))) = r * 64 := wrap32 (n := r * 64) (by omega) (by omega)
  have e2 : bitsOf (· &&& ·) .u8 b 63 = b - 128 := by
    rw [bits_and8 b 63 (by omega) (by omega), show (63 : Int).toNat = 63 from rfl, nat63]; omega
  rw [e1, e2, wrap32 (by omega) (by omega), bits_or32 _ _ (by omega) (by omega)]
  have : (r * 64).toNat = r.toNat * 64 := by omega
  rw [this, nator64 _ _ (by omega)]
  omega
theorem r0_2 (c : Int) (h : 192 ≤ c ∧ c < 224) : r0M c 2 = c - 192 := by
  unfold r0M
  rw [wrap32 (by omega) (by omega)]
  have e : ((127 : Int).fdiv (2 ^ (min (2 : Int).toNat (IntKind.bits .i32)))) = 31 := by decide
  rw [e, bits_and32 _ _ (by omega) (by omega), show (31 : Int).toNat = 31 from rfl, Nat.and_two_pow_sub_one_eq_mod c.toNat 5]
  omega
theorem r0_3 (c : Int) (h : 224 ≤ c ∧ c < 240) : r0M c 3 = c - 224 := by
  unfold r0M
  rw [wrap32 (by omega) (by omega)]
  have e : ((127 : Int).fdiv (2 ^ (min (3 : Int).toNat (IntKind.bits .i32)))) = 15 := by decide
  rw [e, bits_and32 _ _ (by omega) (by omega), show (15 : Int).toNat = 15 from rfl, Nat.and_two_pow_sub_one_eq_mod c.toNat 4]
  omega
theorem r0_4 (c : Int) (h : 240 ≤ c ∧ c < 248) : r0M c 4 = c - 240 := by
  unfold r0M
  rw [wrap32 (by omega) (by omega)]
  have e : ((127 : Int).fdiv (2 ^ (min (4 : Int).toNat (IntKind.bits .i32)))) = 7 := by decide
  rw [e, bits_and32 _ _ (by omega) (by omega), show (7 : Int).toNat = 7 from rfl, Nat.and_two_pow_sub_one_eq_mod c.toNat 3]
  omega
end Go.Proofs
namespace Go.Proofs
open Go Go.Al

instance (b : Int) : Decidable (isC b) := by unfold isC; infer_instance
def r3 (b0 b1 b2 : Int) : Int := 64 * (64 * (b0 - 224) + (b1 - 128)) + (b2 - 128)
def r4 (b0 b1 b2 b3 : Int) : Int := 64 * (64 * (64 * (b0 - 240) + (b1 - 128)) + (b2 - 128)) + (b3 - 128)
def ok2 (n b0 b1 : Int) : Prop := 194 ≤ b0 ∧ b0 < 224 ∧ 2 ≤ n ∧ isC b1
def ok3 (n b0 b1 b2 : Int) : Prop := 224 ≤ b0 ∧ b0 < 240 ∧ 3 ≤ n ∧ isC b1 ∧ isC b2 ∧ 2048 ≤ r3 b0 b1 b2 ∧ (r3 b0 b1 b2 < 55296 ∨ 57344 ≤ r3 b0 b1 b2)
def ok4 (n b0 b1 b2 b3 : Int) : Prop := 240 ≤ b0 ∧ b0 < 245 ∧ 4 ≤ n ∧ isC b1 ∧ isC b2 ∧ isC b3 ∧ 65536 ≤ r4 b0 b1 b2 b3 ∧ r4 b0 b1 b2 b3 < 1114112
instance (n b0 b1 : Int) : Decidable (ok2 n b0 b1) := by unfold ok2; infer_instance
instance (n b0 b1 b2 : Int) : Decidable (ok3 n b0 b1 b2) := by unfold ok3; infer_instance
instance (n b0 b1 b2 b3 : Int) : Decidable (ok4 n b0 b1 b2 b3) := by unfold ok4; infer_instance
/-- What begins with these bytes, where `n` of them are there. -/
def D4 (n b0 b1 b2 b3 : Int) : Int × Int :=
  if n < 1 then (0, 0) else if b0 < 128 then (b0, 1) else
  if ok2 n b0 b1 then (64 * (b0 - 192) + (b1 - 128), 2) else
  if ok3 n b0 b1 b2 then (r3 b0 b1 b2, 3) else
  if ok4 n b0 b1 b2 b3 then (r4 b0 b1 b2 b3, 4) else (0, 0)
def DS (s : ByteArray) (p : Int) : Int × Int := D4 (s.size - p) (bAt s p) (bAt s (p + 1)) (bAt s (p + 2)) (bAt s (p + 3))

theorem isM_iff (r : Int) : isM r = true ↔ (0 ≤ r ∧ r < 55296) ∨ (57344 ≤ r ∧ r < 1114112) := by simp [isM]
theorem isR_iff (r : Int) : isR r = true ↔ (0 ≤ r ∧ r < 55296) ∨ (57344 ≤ r ∧ r < 1114112) := by simp [isR]; omega
theorem isM_isR (r : Int) : isM r = isR r := by
  have h1 := isM_iff r; have h2 := isR_iff r
  cases h : isM r <;> cases k : isR r
  · rfl
  · rw [h1.2 (h2.1 k)] at h; cases h
  · rw [h2.2 (h1.1 h)] at k; cases k
  · rfl
theorem isM_false {r : Int} (h : ¬ ((0 ≤ r ∧ r < 55296) ∨ (57344 ≤ r ∧ r < 1114112))) : isM r = false := by
  cases k : isM r
  · rfl
  · exact absurd ((isM_iff r).1 k) h

theorem len0 {c : Int} (h : 128 ≤ c ∧ c < 194 ∨ 245 ≤ c) : lengthM c = 0 := by unfold lengthM; (repeat' split) <;> omega
theorem len1 {c : Int} (h : c < 128) : lengthM c = 1 := by unfold lengthM; (repeat' split) <;> omega
theorem len2 {c : Int} (h : 194 ≤ c ∧ c < 224) : lengthM c = 2 := by unfold lengthM; (repeat' split) <;> omega
theorem len3 {c : Int} (h : 224 ≤ c ∧ c < 240) : lengthM c = 3 := by unfold lengthM; (repeat' split) <;> omega
theorem len4 {c : Int} (h : 240 ≤ c ∧ c < 245) : lengthM c = 4 := by unfold lengthM; (repeat' split) <;> omega

theorem loop1 (s : ByteArray) (p r : Int) (h : 0 ≤ r ∧ r < 1000000) (i : Int) (n : Nat) : runeLoop s p (n + 1) i r = if isC (bAt s (p + i)) then runeLoop s p n (i + 1) (64 * r + (bAt s (p + i) - 128)) else none := by
  have hb := bAt_lt s (p + i)
  have h1 := bad_iff _ hb
  rw [runeLoop]
  by_cases hc : isC (bAt s (p + i))
  · rw [if_neg (by rw [h1]; exact fun h => h hc), if_pos hc, step_eq r _ h hc]
  · rw [if_pos (h1.2 hc), if_neg hc]

theorem rune_neg (s : ByteArray) (p : Int) (h : p < 0 ∨ s.size ≤ p) : runeM s p = (0, 0) := by unfold runeM; rw [if_pos (by omega)]
theorem rrune_neg (s : ByteArray) (p : Int) (h : p < 0 ∨ s.size ≤ p) : rRuneM s p = (0, 0) := by unfold rRuneM; rw [if_pos (by omega)]

theorem not_ok2 {n b0 b1 : Int} (h : ¬ (194 ≤ b0 ∧ b0 < 224 ∧ 2 ≤ n)) : ¬ ok2 n b0 b1 := fun ⟨a, b, c, _⟩ => h ⟨a, b, c⟩
theorem not_ok3 {n b0 b1 b2 : Int} (h : ¬ (224 ≤ b0 ∧ b0 < 240 ∧ 3 ≤ n)) : ¬ ok3 n b0 b1 b2 := fun ⟨a, b, c, _⟩ => h ⟨a, b, c⟩
theorem not_ok4 {n b0 b1 b2 b3 : Int} (h : ¬ (240 ≤ b0 ∧ b0 < 245 ∧ 4 ≤ n)) : ¬ ok4 n b0 b1 b2 b3 := fun ⟨a, b, c, _⟩ => h ⟨a, b, c⟩

theorem rune_D (s : ByteArray) (p : Int) (hp : 0 ≤ p) : runeM s p = DS s p := by
  unfold DS
  generalize hn : (s.size : Int) - p = n
  by_cases h1 : n < 1
  · rw [rune_neg s p (by omega)]; unfold D4; rw [if_pos h1]
  have hb := bAt_lt s p
  unfold runeM
  rw [if_neg (by omega), hn]
  unfold D4
  rw [if_neg h1]
  generalize hb0 : bAt s p = b0 at hb ⊢
  by_cases a1 : b0 < 128
  · rw [len1 a1, if_neg (by omega), if_pos rfl, if_pos a1, wrap32 (by omega) (by omega)]
  rw [if_neg a1]
  by_cases a2 : b0 < 194
  · rw [len0 (by omega), if_pos (.inl rfl), if_neg (not_ok2 (by omega)), if_neg (not_ok3 (by omega)), if_neg (not_ok4 (by omega))]
  by_cases a3 : b0 < 224
  · rw [len2 (by omega)]
    by_cases c : n < 2
    · rw [if_pos (by omega), if_neg (not_ok2 (by omega)), if_neg (not_ok3 (by omega)), if_neg (not_ok4 (by omega))]
    rw [if_neg (by omega), if_neg (by decide), r0_2 _ (by omega), show ((2 : Int) - 1).toNat = 0 + 1 from rfl, loop1 _ _ _ (by omega)]
    by_cases c1 : isC (bAt s (p + 1))
    · have c1' := c1; unfold isC at c1'
      rw [if_pos c1]
      simp only [runeLoop]
      rw [if_neg, if_pos ⟨by omega, by omega, by omega, c1⟩]
      have e1 : leastM 2 = 128 := rfl
      rw [e1]
      rintro (h | h)
      · omega
      · have := (isM_iff (64 * (b0 - 192) + (bAt s (p + 1) - 128))).2 (by omega); rw [this] at h; cases h
    · rw [if_neg c1, if_neg (fun h => c1 h.2.2.2), if_neg (not_ok3 (by omega)), if_neg (not_ok4 (by omega))]
  by_cases a4 : b0 < 240
  · rw [len3 (by omega), if_neg (not_ok2 (by omega))]
    by_cases c : n < 3
    · rw [if_pos (by omega), if_neg (not_ok3 (by omega)), if_neg (not_ok4 (by omega))]
    rw [if_neg (by omega), if_neg (by decide), r0_3 _ (by omega), show ((3 : Int) - 1).toNat = 0 + 1 + 1 from rfl, loop1 _ _ _ (by omega)]
    by_cases c1 : isC (bAt s (p + 1))
    · have c1' := c1; unfold isC at c1'
      rw [if_pos c1, loop1 _ _ _ (by omega), show p + (1 + 1) = p + 2 by omega]
      by_cases c2 : isC (bAt s (p + 2))
      · have c2' := c2; unfold isC at c2'
        rw [if_pos c2]
        simp only [runeLoop]
        rw [show 64 * (64 * (b0 - 224) + (bAt s (p + 1) - 128)) + (bAt s (p + 2) - 128) = r3 b0 (bAt s (p + 1)) (bAt s (p + 2)) from rfl]
        have hr : r3 b0 (bAt s (p + 1)) (bAt s (p + 2)) = 64 * (64 * (b0 - 224) + (bAt s (p + 1) - 128)) + (bAt s (p + 2) - 128) := rfl
        have hm := isM_iff (r3 b0 (bAt s (p + 1)) (bAt s (p + 2)))
        have e1 : leastM 3 = 2048 := rfl
        rw [e1, if_neg (not_ok4 (by omega))]
        by_cases d : 2048 ≤ r3 b0 (bAt s (p + 1)) (bAt s (p + 2)) ∧ (r3 b0 (bAt s (p + 1)) (bAt s (p + 2)) < 55296 ∨ 57344 ≤ r3 b0 (bAt s (p + 1)) (bAt s (p + 2)))
        · rw [if_neg, if_pos (show ok3 _ _ _ _ from ⟨by omega, by omega, by omega, c1, c2, d⟩)]
          rintro (h | h)
          · omega
          · rw [hm.2 (by omega)] at h; cases h
        · rw [if_pos, if_neg (fun h => d h.2.2.2.2.2)]
          by_cases e : r3 b0 (bAt s (p + 1)) (bAt s (p + 2)) < 2048
          · exact .inl e
          · exact .inr (isM_false (by omega))
      · rw [if_neg c2, if_neg (fun h => c2 h.2.2.2.2.1), if_neg (not_ok4 (by omega))]
    · rw [if_neg c1, if_neg (fun h => c1 h.2.2.2.1), if_neg (not_ok4 (by omega))]
  rw [if_neg (not_ok2 (by omega)), if_neg (not_ok3 (by omega))]
  by_cases a5 : b0 < 245
  · rw [len4 (by omega)]
    by_cases c : n < 4
    · rw [if_pos (by omega), if_neg (not_ok4 (by omega))]
    rw [if_neg (by omega), if_neg (by decide), r0_4 _ (by omega), show ((4 : Int) - 1).toNat = 0 + 1 + 1 + 1 from rfl, loop1 _ _ _ (by omega)]
    by_cases c1 : isC (bAt s (p + 1))
    · have c1' := c1; unfold isC at c1'
      rw [if_pos c1, loop1 _ _ _ (by omega), show p + (1 + 1) = p + 2 by omega]
      by_cases c2 : isC (bAt s (p + 2))
      · have c2' := c2; unfold isC at c2'
        rw [if_pos c2, loop1 _ _ _ (by omega), show p + (1 + 1 + 1) = p + 3 by omega]
        by_cases c3 : isC (bAt s (p + 3))
        · have c3' := c3; unfold isC at c3'
          rw [if_pos c3]
          simp only [runeLoop]
          rw [show 64 * (64 * (64 * (b0 - 240) + (bAt s (p + 1) - 128)) + (bAt s (p + 2) - 128)) + (bAt s (p + 3) - 128) = r4 b0 (bAt s (p + 1)) (bAt s (p + 2)) (bAt s (p + 3)) from rfl]
          have hr : r4 b0 (bAt s (p + 1)) (bAt s (p + 2)) (bAt s (p + 3)) = 64 * (64 * (64 * (b0 - 240) + (bAt s (p + 1) - 128)) + (bAt s (p + 2) - 128)) + (bAt s (p + 3) - 128) := rfl
          have hm := isM_iff (r4 b0 (bAt s (p + 1)) (bAt s (p + 2)) (bAt s (p + 3)))
          have e1 : leastM 4 = 65536 := rfl
          rw [e1]
          by_cases d : 65536 ≤ r4 b0 (bAt s (p + 1)) (bAt s (p + 2)) (bAt s (p + 3)) ∧ r4 b0 (bAt s (p + 1)) (bAt s (p + 2)) (bAt s (p + 3)) < 1114112
          · rw [if_neg, if_pos (show ok4 _ _ _ _ _ from ⟨by omega, by omega, by omega, c1, c2, c3, d⟩)]
            rintro (h | h)
            · omega
            · rw [hm.2 (by omega)] at h; cases h
          · rw [if_pos, if_neg (fun h => d h.2.2.2.2.2.2)]
            by_cases e : r4 b0 (bAt s (p + 1)) (bAt s (p + 2)) (bAt s (p + 3)) < 65536
            · exact .inl e
            · exact .inr (isM_false (by omega))
        · rw [if_neg c3, if_neg (fun h => c3 h.2.2.2.2.2.1)]
      · rw [if_neg c2, if_neg (fun h => c2 h.2.2.2.2.1)]
    · rw [if_neg c1, if_neg (fun h => c1 h.2.2.2.1)]
  · rw [len0 (by omega), if_pos (.inl rfl), if_neg (not_ok4 (by omega))]
end Go.Proofs
namespace Go.Proofs
open Go Go.Al

def valid (r : Int) : Prop := (0 ≤ r ∧ r < 55296) ∨ (57344 ≤ r ∧ r < 1114112)
/-- The bytes of a character, as numbers. -/
def pb (n : Int) : List Int :=
  if n < 128 then [n] else
  if n < 2048 then [192 + n / 64, 128 + n % 64] else
  if n < 65536 then [224 + n / 4096, 128 + n / 64 % 64, 128 + n % 64] else
  [240 + n / 262144, 128 + n / 4096 % 64, 128 + n / 64 % 64, 128 + n % 64]
def Mat (s : ByteArray) : Int → List Int → Prop
  | _, [] => True
  | p, x :: xs => bAt s p = x ∧ Mat s (p + 1) xs

theorem enc_D4 {s : ByteArray} {p g : Int} (hv : valid g) (hm : Mat s p (pb g)) (hl : ((pb g).length : Int) ≤ s.size - p) : DS s p = (g, ((pb g).length : Int)) := by
  unfold valid at hv
  unfold pb at hm hl ⊢
  unfold DS D4
  by_cases a1 : g < 128
  · rw [if_pos a1] at *
    simp only [Mat, and_true] at hm
    simp only [List.length_cons, List.length_nil] at *
    rw [if_neg (by omega), if_pos (by omega), hm]; rfl
  rw [if_neg a1] at *
  by_cases a2 : g < 2048
  · rw [if_pos a2] at *
    simp only [Mat, and_true] at hm
    simp only [List.length_cons, List.length_nil] at *
    obtain ⟨m1, m2⟩ := hm
    rw [if_neg (by omega), if_neg (by omega), if_pos]
    · rw [m1, m2]; congr 1; omega
    · exact ⟨by omega, by omega, by omega, by unfold isC; omega⟩
  rw [if_neg a2] at *
  by_cases a3 : g < 65536
  · rw [if_pos a3] at *
    simp only [Mat, and_true] at hm
    simp only [List.length_cons, List.length_nil, show p + 1 + 1 = p + 2 by omega] at *
    obtain ⟨m1, m2, m3⟩ := hm
    have e : r3 (bAt s p) (bAt s (p + 1)) (bAt s (p + 2)) = g := by unfold r3; rw [m1, m2, m3]; omega
    rw [if_neg (by omega), if_neg (by omega), if_neg (not_ok2 (by omega)), if_pos]
    · rw [e]; rfl
    · exact ⟨by omega, by omega, by omega, by unfold isC; omega, by unfold isC; omega, by omega, by omega⟩
  rw [if_neg a3] at *
  simp only [Mat, and_true] at hm
  simp only [List.length_cons, List.length_nil, show p + 1 + 1 = p + 2 by omega, show p + 2 + 1 = p + 3 by omega] at *
  obtain ⟨m1, m2, m3, m4⟩ := hm
  have e : r4 (bAt s p) (bAt s (p + 1)) (bAt s (p + 2)) (bAt s (p + 3)) = g := by unfold r4; rw [m1, m2, m3, m4]; omega
  rw [if_neg (by omega), if_neg (by omega), if_neg (not_ok2 (by omega)), if_neg (not_ok3 (by omega)), if_pos]
  · rw [e]; rfl
  · exact ⟨by omega, by omega, by omega, by unfold isC; omega, by unfold isC; omega, by unfold isC; omega, by omega, by omega⟩

/-- The number that the reference guesses. -/
def gu (n b0 b1 b2 b3 : Int) : Int :=
  if b0 < 128 then b0 else
  if 240 ≤ b0 then (if n < 4 then -1 else r4 b0 b1 b2 b3) else
  if 224 ≤ b0 then (if n < 3 then -1 else r3 b0 b1 b2) else
  if n < 2 then -1 else 64 * (b0 - 192) + (b1 - 128)

theorem D4_enc {s : ByteArray} {p r k : Int} (hd : DS s p = (r, k)) (hk : k ≠ 0) :
    valid r ∧ Mat s p (pb r) ∧ k = (pb r).length ∧ k ≤ s.size - p ∧ gu (s.size - p) (bAt s p) (bAt s (p + 1)) (bAt s (p + 2)) (bAt s (p + 3)) = r := by
  have hb := bAt_lt s p
  unfold DS D4 at hd
  unfold gu valid
  split at hd
  · cases hd; exact absurd rfl hk
  rename_i h0
  split at hd
  · rename_i a1
    cases hd
    have e : pb (bAt s p) = [bAt s p] := by unfold pb; rw [if_pos a1]
    rw [e, if_pos a1]
    exact ⟨by omega, ⟨rfl, trivial⟩, rfl, by omega, rfl⟩
  rename_i a1
  split at hd
  · rename_i o
    obtain ⟨o1, o2, o3, o4⟩ := o
    unfold isC at o4
    cases hd
    have e : pb (64 * (bAt s p - 192) + (bAt s (p + 1) - 128)) = [bAt s p, bAt s (p + 1)] := by
      unfold pb; rw [if_neg (by omega), if_pos (by omega)]; congr 1
      · omega
      · congr 1; omega
    rw [e, if_neg a1, if_neg (by omega), if_neg (by omega), if_neg (by omega)]
    exact ⟨by omega, ⟨rfl, rfl, trivial⟩, rfl, by omega, rfl⟩
  split at hd
  · rename_i o
    obtain ⟨o1, o2, o3, o4, o5, o6, o7⟩ := o
    unfold isC at o4 o5
    cases hd
    have hr : r3 (bAt s p) (bAt s (p + 1)) (bAt s (p + 2)) = 64 * (64 * (bAt s p - 224) + (bAt s (p + 1) - 128)) + (bAt s (p + 2) - 128) := rfl
    have e : pb (r3 (bAt s p) (bAt s (p + 1)) (bAt s (p + 2))) = [bAt s p, bAt s (p + 1), bAt s (p + 2)] := by
      unfold pb; rw [if_neg (by omega), if_neg (by omega), if_pos (by omega)]; congr 1
      · omega
      · congr 1
        · omega
        · congr 1; omega
    rw [e, if_neg a1, if_neg (by omega), if_pos (by omega), if_neg (by omega)]
    exact ⟨by omega, ⟨rfl, rfl, by rw [show p + 1 + 1 = p + 2 by omega], trivial⟩, rfl, by omega, rfl⟩
  split at hd
  · rename_i o
    obtain ⟨o1, o2, o3, o4, o5, o6, o7, o8⟩ := o
    unfold isC at o4 o5 o6
    cases hd
    have hr : r4 (bAt s p) (bAt s (p + 1)) (bAt s (p + 2)) (bAt s (p + 3)) = 64 * (64 * (64 * (bAt s p - 240) + (bAt s (p + 1) - 128)) + (bAt s (p + 2) - 128)) + (bAt s (p + 3) - 128) := rfl
    have e : pb (r4 (bAt s p) (bAt s (p + 1)) (bAt s (p + 2)) (bAt s (p + 3))) = [bAt s p, bAt s (p + 1), bAt s (p + 2), bAt s (p + 3)] := by
      unfold pb; rw [if_neg (by omega), if_neg (by omega), if_neg (by omega)]; congr 1
      · omega
      · congr 1
        · omega
        · congr 1
          · omega
          · congr 1; omega
    rw [e, if_neg a1, if_pos (by omega), if_neg (by omega)]
    exact ⟨by omega, ⟨rfl, rfl, by rw [show p + 1 + 1 = p + 2 by omega], by rw [show p + 1 + 1 + 1 = p + 3 by omega], trivial⟩, rfl, by omega, rfl⟩
  · cases hd; exact absurd rfl hk

theorem DS_pos (s : ByteArray) (p : Int) : DS s p = (0, 0) ∨ (DS s p).2 ≠ 0 := by
  unfold DS D4
  (repeat' split)
  all_goals first | exact .inl rfl | exact .inr (by dsimp only; omega)
end Go.Proofs
namespace Go.Proofs
open Go Go.Al

theorem wrap8_id {n : Int} (h : 0 ≤ n ∧ n < 256) : IntKind.u8.wrap n = n := wrap8 h.1 h.2
theorem bytesM_pb {r : Int} (h : 0 ≤ r ∧ r < 1114112) : bytesM r = (pb r).map ofI := by
  have hw : w64 r = r := wrap64 (by omega) (by omega)
  have q1 : ∀ d : Int, 0 < d → r.tdiv d = r / d := fun d _ => Int.tdiv_eq_ediv_of_nonneg h.1
  have m1 : ∀ x : Int, 0 ≤ x → x.tmod 64 = x % 64 := fun x hx => Int.tmod_eq_emod_of_nonneg hx
  have top : ∀ (k d : Int), 0 < d → 0 ≤ k → k + r / d < 256 → topM k r d = ofI (k + r / d) := by
    intro k d hd hk hlt
    have hq : 0 ≤ r / d := Int.ediv_nonneg h.1 (by omega)
    unfold topM w64
    rw [q1 d hd, wrap64 (n := r / d) (by omega) (by omega), wrap64 (by omega) (by omega), wrap8_id (by omega)]
  have mid : ∀ d : Int, 0 < d → midM r d = ofI (128 + r / d % 64) := by
    intro d hd
    have hq : 0 ≤ r / d := Int.ediv_nonneg h.1 (by omega)
    have hle : r / d ≤ r := Int.ediv_le_self _ h.1
    unfold midM w64
    rw [q1 d hd, wrap64 (n := r / d) (by omega) (by omega), m1 _ hq, wrap64 (by omega) (by omega), wrap8_id (by omega)]
  have low : lowM r = ofI (128 + r % 64) := by
    unfold lowM w64
    rw [m1 _ h.1, wrap64 (by omega) (by omega), wrap8_id (by omega)]
  unfold bytesM pb
  rw [hw]
  by_cases a1 : r < 128
  · rw [if_pos a1, if_pos a1, wrap8_id (by omega)]; rfl
  rw [if_neg a1, if_neg a1]
  by_cases a2 : r < 2048
  · rw [if_pos a2, if_pos a2, top 192 64 (by omega) (by omega) (by omega), low]; rfl
  rw [if_neg a2, if_neg a2]
  by_cases a3 : r < 65536
  · rw [if_pos a3, if_pos a3, top 224 4096 (by omega) (by omega) (by omega), low, mid 64 (by omega)]; rfl
  rw [if_neg a3, if_neg a3, top 240 262144 (by omega) (by omega) (by omega), low, mid 64 (by omega), mid 4096 (by omega)]; rfl

theorem pb_range {r : Int} (h : 0 ≤ r ∧ r < 1114112) : ∀ x ∈ pb r, 0 ≤ x ∧ x < 256 := by
  intro x hx
  unfold pb at hx
  (repeat' split at hx) <;> simp only [List.mem_cons, List.not_mem_nil, or_false] at hx <;> omega
theorem pb_len (r : Int) : 1 ≤ (pb r).length ∧ (pb r).length ≤ 4 := by
  unfold pb
  (repeat' split) <;> simp

theorem drop_bAt (s : ByteArray) (p : Int) (h0 : 0 ≤ p) (h1 : p < s.size) : s.data.toList.drop p.toNat = s.data.toList.getD p.toNat 0 :: s.data.toList.drop (p + 1).toNat := by
  have hl : p.toNat < s.data.toList.length := by
    have : s.data.toList.length = s.size := by simp
    omega
  rw [List.drop_eq_getElem_cons hl, show (p + 1).toNat = p.toNat + 1 by omega, List.getD_eq_getElem?_getD, List.getElem?_eq_getElem hl, Option.getD_some]

theorem mat_iff (s : ByteArray) : ∀ (l : List Int) (p : Int), 0 ≤ p → p + l.length ≤ s.size → (∀ x ∈ l, 0 ≤ x ∧ x < 256) →
    ((s.data.toList.drop p.toNat).take l.length = l.map ofI ↔ Mat s p l)
  | [], p, _, _, _ => by simp [Mat]
  | x :: l, p, h0, h1, hr => by
    simp only [List.length_cons] at h1
    have ih := mat_iff s l (p + 1) (by omega) (by omega) (fun y hy => hr y (List.mem_cons_of_mem _ hy))
    rw [drop_bAt s p h0 (by omega), List.length_cons, List.take_succ_cons, List.map_cons, List.cons.injEq, ih]
    simp only [Mat]
    have hx := hr x List.mem_cons_self
    refine and_congr_left fun _ => ?_
    unfold bAt
    constructor
    · intro e; rw [e]; exact ofI_toNat hx
    · intro e; unfold ofI; rw [← e, Int.toNat_natCast, UInt8.ofNat_toNat]

theorem ex_list (s : ByteArray) (a b : Nat) : (s.extract a b).data.toList = (s.data.toList.take b).drop a := by
  rw [ByteArray.data_extract, Array.toList_extract]
  simp [List.extract_eq_take_drop, List.drop_take]

theorem ex_strOf (s : ByteArray) (p : Int) (l : List Int) (h0 : 0 ≤ p) (h1 : p + l.length ≤ s.size) (hr : ∀ x ∈ l, 0 ≤ x ∧ x < 256) :
    s.extract p.toNat (p + l.length).toNat = strOf (l.map ofI) ↔ Mat s p l := by
  rw [← mat_iff s l p h0 h1 hr]
  have e : (s.extract p.toNat (p + l.length).toNat).data.toList = (s.data.toList.drop p.toNat).take l.length := by
    rw [ex_list, List.drop_take, show (p + (l.length : Int)).toNat - p.toNat = l.length by omega]
  constructor
  · intro h; rw [← e, h, strOf_list]
  · intro h; exact str_ext (by rw [e, h, strOf_list])

theorem bAt_ex (s : ByteArray) (p i : Int) (h0 : 0 ≤ p) (h1 : p < s.size) (hi : 0 ≤ i) : bAt (s.extract p.toNat s.size) i = bAt s (p + i) := by
  unfold bAt
  rw [ex_list, List.take_of_length_le (by simp)]
  simp only [List.getD_eq_getElem?_getD, List.getElem?_drop]
  rw [show p.toNat + i.toNat = (p + i).toNat by omega]

theorem guess_gu (s : ByteArray) (p : Int) (h0 : 0 ≤ p) (h1 : p < s.size) : guessM (s.extract p.toNat s.size) = gu (s.size - p) (bAt s p) (bAt s (p + 1)) (bAt s (p + 2)) (bAt s (p + 3)) := by
  have b0 := bAt_ex s p 0 h0 h1 (by omega)
  have b1 := bAt_ex s p 1 h0 h1 (by omega)
  have b2 := bAt_ex s p (1 + 1) h0 h1 (by omega)
  have b3 := bAt_ex s p (1 + 1 + 1) h0 h1 (by omega)
  rw [Int.add_zero] at b0
  rw [show p + (1 + 1) = p + 2 by omega] at b2
  rw [show p + (1 + 1 + 1) = p + 3 by omega] at b3
  have hs : ((s.extract p.toNat s.size).size : Int) = s.size - p := by rw [ex_size _ _ _ (Nat.le_refl _)]; omega
  unfold guessM gu
  simp only [guessLoop, b0, b1, b2, b3, hs, ge_iff_le]
  generalize (s.size : Int) - p = n
  by_cases a1 : bAt s p < 128
  · rw [if_pos a1, if_pos a1]
  rw [if_neg a1, if_neg a1]
  by_cases a2 : 240 ≤ bAt s p
  · rw [if_pos a2, if_pos a2]
    by_cases c1 : n ≤ 1
    · rw [if_pos c1, if_pos (by omega)]
    rw [if_neg c1]
    by_cases c2 : n ≤ 1 + 1
    · rw [if_pos c2, if_pos (by omega)]
    rw [if_neg c2]
    by_cases c3 : n ≤ 1 + 1 + 1
    · rw [if_pos c3, if_pos (by omega)]
    rw [if_neg c3, if_neg (by omega)]
    unfold r4; omega
  rw [if_neg a2, if_neg a2]
  by_cases a3 : 224 ≤ bAt s p
  · rw [if_pos a3, if_pos a3]
    by_cases c1 : n ≤ 1
    · rw [if_pos c1, if_pos (by omega)]
    rw [if_neg c1]
    by_cases c2 : n ≤ 1 + 1
    · rw [if_pos c2, if_pos (by omega)]
    rw [if_neg c2, if_neg (by omega)]
    unfold r3; omega
  rw [if_neg a3, if_neg a3]
  by_cases c1 : n ≤ 1
  · rw [if_pos c1, if_pos (by omega)]
  rw [if_neg c1, if_neg (by omega)]
  omega

theorem strOf_map (l : List Int) : (strOf (l.map ofI)).size = l.length := by rw [strOf_size, List.length_map]

theorem rrune_D (s : ByteArray) (p : Int) (hp : 0 ≤ p) : rRuneM s p = DS s p := by
  by_cases h1 : (s.size : Int) ≤ p
  · rw [rrune_neg s p (.inr h1)]; unfold DS D4; rw [if_pos (by omega)]
  have hg := guess_gu s p hp (by omega)
  unfold rRuneM
  rw [if_neg (by omega), hg]
  rcases DS_pos s p with h0 | h0
  · rw [h0]
    generalize gu (s.size - p) (bAt s p) (bAt s (p + 1)) (bAt s (p + 2)) (bAt s (p + 3)) = g
    by_cases v : g < 0 ∨ g > 1114111 ∨ isR g = false
    · rw [if_pos v]
    rw [if_neg v]
    have hv : valid g := by
      refine (isR_iff g).1 ?_
      cases h : isR g
      · exact absurd (.inr (.inr h)) v
      · rfl
    have hr : 0 ≤ g ∧ g < 1114112 := by unfold valid at hv; omega
    rw [bytesM_pb hr, strOf_map]
    refine if_pos ?_
    by_cases hl : ((pb g).length : Int) > s.size - p
    · exact .inl hl
    · refine .inr fun he => ?_
      have := enc_D4 hv ((ex_strOf s p (pb g) hp (by omega) (pb_range hr)).1 he) (by omega)
      rw [h0] at this
      have h2 := pb_len g
      have h3 := congrArg Prod.snd this
      dsimp only at h3
      omega
  · obtain ⟨hv, hm, hk, hl, hu⟩ := D4_enc (s := s) (p := p) (r := (DS s p).1) (k := (DS s p).2) rfl h0
    rw [hu]
    have hr : 0 ≤ (DS s p).1 ∧ (DS s p).1 < 1114112 := by unfold valid at hv; omega
    rw [if_neg (by
      rintro (h | h | h)
      · omega
      · omega
      · rw [(isR_iff _).2 hv] at h; cases h), bytesM_pb hr, strOf_map, if_neg (by
      rintro (h | h)
      · omega
      · exact h ((ex_strOf s p _ hp (by omega) (pb_range hr)).2 hm)), ← hk]

theorem rune_eq (s : ByteArray) (p : Int) : rRuneM s p = runeM s p := by
  by_cases hp : 0 ≤ p
  · rw [rrune_D s p hp, rune_D s p hp]
  · rw [rune_neg s p (.inl (by omega)), rrune_neg s p (.inl (by omega))]
theorem rF_eq (s : ByteArray) : rF s = fM s := by funext p; unfold rF fM; rw [rune_eq]
end Go.Proofs
namespace Go.Proofs
open Go Go.Al

/-! ### Texts of characters -/
theorem f_out (s : ByteArray) (p : Int) (h : p < 0 ∨ s.size ≤ p) : fM s p = 0 := by unfold fM; rw [rune_neg s p h]
theorem f_pos (s : ByteArray) (p : Int) (h : fM s p ≠ 0) : 0 ≤ p ∧ p < s.size ∧ 1 ≤ fM s p ∧ p + fM s p ≤ s.size := by
  by_cases hp : p < 0 ∨ s.size ≤ p
  · exact absurd (f_out s p hp) h
  · have := dec_fM s p (by omega) (by omega)
    omega

/-- From one place to another, by characters. -/
inductive Path (f : Int → Int) : Int → Int → Int → Prop
  | refl (p : Int) : Path f p p 0
  | step {p q c : Int} (h : f p ≠ 0) (k : Path f (p + f p) q c) : Path f p q (c + 1)

theorem Path.trans {f : Int → Int} {p q r c d : Int} (h : Path f p q c) (k : Path f q r d) : Path f p r (c + d) := by
  induction h with
  | refl => rw [Int.zero_add]; exact k
  | @step p q c h _ ih => have := Path.step h (ih k); rw [show c + 1 + d = c + d + 1 by omega]; exact this
theorem Path.first {f : Int → Int} {p q c : Int} (h : Path f p q c) (hn : p ≠ q) : f p ≠ 0 ∧ ∃ d, Path f (p + f p) q d := by
  cases h with
  | refl => exact absurd rfl hn
  | step h k => exact ⟨h, _, k⟩

theorem goM_path (s : ByteArray) : ∀ (m : Nat) (p c : Int), 0 ≤ p → p ≤ s.size → (s.size : Int) < p + m → ∃ d, Path (fM s) p (goM (fM s) s.size m p c).1 d ∧ (goM (fM s) s.size m p c).2 = c + d ∧ fM s (goM (fM s) s.size m p c).1 = 0 ∧ p ≤ (goM (fM s) s.size m p c).1 ∧ (goM (fM s) s.size m p c).1 ≤ s.size
  | 0, p, c, h0, h1, h2 => by omega
  | m + 1, p, c, h0, h1, h2 => by
    rw [goM]
    split
    · split
      · rename_i hf
        exact ⟨0, .refl p, by dsimp only; omega, hf, Int.le_refl _, h1⟩
      · rename_i hf
        have := f_pos s p hf
        obtain ⟨d, a1, a2, a3, a4, a5⟩ := goM_path s m (p + fM s p) (c + 1) (by omega) (by omega) (by omega)
        exact ⟨d + 1, .step hf a1, by omega, a3, by omega, a5⟩
    · exact ⟨0, .refl p, by dsimp only; omega, f_out s p (by omega), Int.le_refl _, h1⟩

theorem Path.uniq {f : Int → Int} {p q r c d : Int} (h : Path f p q c) (k : Path f p r d) (hq : f q = 0) (hr : f r = 0) : q = r ∧ c = d := by
  induction h generalizing d with
  | refl p => cases k with
    | refl => exact ⟨rfl, rfl⟩
    | step h _ => exact absurd hq h
  | step h _ ih => cases k with
    | refl => exact absurd hr h
    | step _ k => obtain ⟨a, b⟩ := ih k hq; exact ⟨a, by rw [b]⟩

theorem end_spec (s : ByteArray) : Path (fM s) 0 (endM s).1 (endM s).2 ∧ fM s (endM s).1 = 0 ∧ 0 ≤ (endM s).1 ∧ (endM s).1 ≤ s.size := by
  obtain ⟨d, a1, a2, a3, a4, a5⟩ := goM_path s (s.size + 1) 0 0 (by omega) (by omega) (by omega)
  have : (endM s).2 = d := by unfold endM; omega
  rw [this]
  exact ⟨a1, a3, a4, a5⟩
theorem end_iff (s : ByteArray) (c : Int) : Path (fM s) 0 s.size c → (endM s) = ((s.size : Int), c) := by
  intro h
  obtain ⟨a, b⟩ := Path.uniq h (end_spec s).1 (f_out s _ (by omega)) (end_spec s).2.1
  exact Prod.ext a.symm b.symm

theorem rEnd_eq (s : ByteArray) : rEnd s = endM s := by unfold rEnd endM; rw [rF_eq]
theorem check_eq (s : ByteArray) : checkM s = rCheckM s := by
  have := end_spec s
  unfold checkM rCheckM
  rw [rEnd_eq]
  split <;> split <;> omega
theorem count_eq (s : ByteArray) : countM s = rCountM s := by unfold countM rCountM; rw [rEnd_eq]
theorem check_iff (s : ByteArray) : checkM s = -1 ↔ (endM s).1 = s.size := by
  have := end_spec s
  unfold checkM
  split <;> omega

/-! ### Fronts -/
theorem D4_same {n n' b0 b1 b2 b3 c1 c2 c3 : Int} (h : (D4 n b0 b1 b2 b3).2 ≠ 0) (hn : (D4 n b0 b1 b2 b3).2 ≤ n') (h1 : 1 < (D4 n b0 b1 b2 b3).2 → b1 = c1) (h2 : 2 < (D4 n b0 b1 b2 b3).2 → b2 = c2) (h3 : 3 < (D4 n b0 b1 b2 b3).2 → b3 = c3) :
    D4 n' b0 c1 c2 c3 = D4 n b0 b1 b2 b3 := by
  unfold D4 at h hn h1 h2 h3 ⊢
  by_cases a0 : n < 1
  · rw [if_pos a0] at h; exact absurd rfl h
  rw [if_neg a0] at *
  by_cases a1 : b0 < 128
  · rw [if_pos a1] at *; dsimp only at hn; rw [if_neg (by omega), if_pos a1]
  rw [if_neg a1] at *
  by_cases a2 : ok2 n b0 b1
  · rw [if_pos a2] at *
    dsimp only at hn h1
    obtain ⟨o1, o2, o3, o4⟩ := a2
    rw [if_neg (by omega), if_neg a1, ← h1 (by omega), if_pos ⟨o1, o2, hn, o4⟩]
  rw [if_neg a2] at *
  by_cases a3 : ok3 n b0 b1 b2
  · rw [if_pos a3] at *
    dsimp only at hn h1 h2
    obtain ⟨o1, o2, o3, o4⟩ := a3
    rw [if_neg (by omega), if_neg a1, ← h1 (by omega), ← h2 (by omega), if_neg (not_ok2 (by omega)), if_pos ⟨o1, o2, hn, o4⟩]
  rw [if_neg a3] at *
  by_cases a4 : ok4 n b0 b1 b2 b3
  · rw [if_pos a4] at *
    dsimp only at hn h1 h2 h3
    obtain ⟨o1, o2, o3, o4⟩ := a4
    rw [if_neg (by omega), if_neg a1, ← h1 (by omega), ← h2 (by omega), ← h3 (by omega), if_neg (not_ok2 (by omega)), if_neg (not_ok3 (by omega)), if_pos ⟨o1, o2, hn, o4⟩]
  · rw [if_neg a4] at h; exact absurd rfl h

/-- What begins at `p` of `s` begins at `q` of `t`, if the same bytes are there. -/
theorem DS_same {s t : ByteArray} {p q : Int} (h : (DS s p).2 ≠ 0) (hn : (DS s p).2 ≤ t.size - q) (hb : ∀ i, 0 ≤ i → i < (DS s p).2 → bAt s (p + i) = bAt t (q + i)) : DS t q = DS s p := by
  have hk : 1 ≤ (DS s p).2 := by
    rcases DS_pos s p with e | e
    · rw [e] at h; exact absurd rfl h
    · have := (D4_enc (s := s) (p := p) (r := (DS s p).1) (k := (DS s p).2) rfl e).2.2.1
      have := (pb_len (DS s p).1).1; omega
  have e0 := hb 0 (by omega) (by omega)
  rw [Int.add_zero, Int.add_zero] at e0
  unfold DS at *
  rw [← e0]
  exact D4_same h hn (fun h => hb 1 (by omega) h) (fun h => hb 2 (by omega) h) (fun h => hb 3 (by omega) h)

theorem fM_DS (s : ByteArray) (p : Int) (h : 0 ≤ p) : fM s p = (DS s p).2 := by unfold fM; rw [rune_D s p h]
theorem f_same {s t : ByteArray} {p q : Int} (h0 : 0 ≤ p) (h1 : 0 ≤ q) (h : fM s p ≠ 0) (hn : fM s p ≤ t.size - q) (hb : ∀ i, 0 ≤ i → i < fM s p → bAt s (p + i) = bAt t (q + i)) : fM t q = fM s p := by
  rw [fM_DS s p h0] at *
  rw [fM_DS t q h1, DS_same h hn hb]

theorem bAt_front (s : ByteArray) (k : Nat) (hk : k ≤ s.size) (i : Int) (h : i < k) (h0 : 0 ≤ i) : bAt (s.extract 0 k) i = bAt s i := by
  unfold bAt
  rw [ex_list, List.drop_zero]
  simp only [List.getD_eq_getElem?_getD, List.getElem?_take]
  rw [if_pos (by omega)]
theorem f_front (s : ByteArray) (k : Nat) (hk : k ≤ s.size) (p : Int) (h0 : 0 ≤ p) (hp : p < k) : fM (s.extract 0 k) p = if p + fM s p ≤ k then fM s p else 0 := by
  have hz : ((s.extract 0 k).size : Int) = k := by rw [ex_size _ _ _ hk]; omega
  split
  · rename_i h
    by_cases hf : fM s p = 0
    · by_cases hg : fM (s.extract 0 k) p = 0
      · rw [hf, hg]
      · have h3 := f_pos _ _ hg
        have := f_same (s := s.extract 0 k) (t := s) (p := p) (q := p) h0 h0 hg (by omega) (fun i a b => bAt_front s k hk _ (by omega) (by omega))
        omega
    · exact f_same h0 h0 hf (by omega) (fun i a b => (bAt_front s k hk _ (by omega) (by omega)).symm)
  · rename_i h
    by_cases hg : fM (s.extract 0 k) p = 0
    · exact hg
    · have h3 := f_pos _ _ hg
      have := f_same (s := s.extract 0 k) (t := s) (p := p) (q := p) h0 h0 hg (by omega) (fun i a b => bAt_front s k hk _ (by omega) (by omega))
      omega

/-! ### Cut -/
theorem cutG_spec (s : ByteArray) (lim : Int) : ∀ (m : Nat) (p : Int), 0 ≤ p → p ≤ s.size → (s.size : Int) < p + m → ∃ d, Path (fM s) p (cutG (fM s) s.size lim m p) d ∧ p ≤ cutG (fM s) s.size lim m p ∧ cutG (fM s) s.size lim m p ≤ s.size ∧ (p ≤ lim → cutG (fM s) s.size lim m p ≤ lim) ∧
    (fM s (cutG (fM s) s.size lim m p) = 0 ∨ lim < cutG (fM s) s.size lim m p + fM s (cutG (fM s) s.size lim m p))
  | 0, p, h0, h1, h2 => by omega
  | m + 1, p, h0, h1, h2 => by
    rw [cutG]
    split
    · split
      · rename_i hf
        exact ⟨0, .refl p, Int.le_refl _, h1, id, hf.imp id (fun h => h)⟩
      · rename_i hf
        have hf0 : fM s p ≠ 0 := fun h => hf (.inl h)
        have := f_pos s p hf0
        obtain ⟨d, a1, a2, a3, a4, a5⟩ := cutG_spec s lim m (p + fM s p) (by omega) (by omega) (by omega)
        exact ⟨d + 1, .step hf0 a1, by omega, a3, fun _ => a4 (by omega), a5⟩
    · exact ⟨0, .refl p, Int.le_refl _, h1, id, .inl (f_out s p (by omega))⟩

theorem path_le {s : ByteArray} {p q c : Int} (h : Path (fM s) p q c) : p ≤ q ∧ 0 ≤ c := by
  induction h with
  | refl => exact ⟨Int.le_refl _, Int.le_refl _⟩
  | step h _ ih => have := f_pos s _ h; omega

theorem path_front {s : ByteArray} {k : Nat} (hk : k ≤ s.size) {p q c : Int} (h : Path (fM s) p q c) (h0 : 0 ≤ p) (hq : q ≤ k) : Path (fM (s.extract 0 k)) p q c := by
  induction h with
  | refl p => exact .refl p
  | step h k' ih =>
    have h2 := f_pos s _ h
    have h3 := path_le k'
    have e := f_front s k hk _ h0 (by omega)
    rw [if_pos (by omega)] at e
    refine .step (by rw [e]; exact h) ?_
    rw [e]
    exact ih (by omega) hq
theorem path_back {s : ByteArray} {k : Nat} (hk : k ≤ s.size) {p q c : Int} (h : Path (fM (s.extract 0 k)) p q c) (h0 : 0 ≤ p) : Path (fM s) p q c := by
  induction h with
  | refl p => exact .refl p
  | @step p q c h k' ih =>
    have hz : ((s.extract 0 k).size : Int) = k := by rw [ex_size _ _ _ hk]; omega
    have h2 := f_pos _ _ h
    have e := f_front s k hk _ h0 (by omega)
    by_cases c1 : p + fM s p ≤ (k : Int)
    · rw [if_pos c1] at e
      have hh : fM s p ≠ 0 := fun hz => h (by rw [e]; exact hz)
      refine .step hh ?_
      rw [e] at ih
      exact ih (by omega)
    · rw [if_neg c1] at e; exact absurd e h

/-- A front is right just if a path leads there. -/
theorem right_iff (s : ByteArray) (k : Nat) (hk : k ≤ s.size) : rCheckM (s.extract 0 k) = -1 ↔ ∃ c, Path (fM s) 0 k c := by
  have hz : ((s.extract 0 k).size : Int) = k := by rw [ex_size _ _ _ hk]; omega
  rw [← check_eq, check_iff, hz]
  constructor
  · intro h
    have := (end_spec (s.extract 0 k)).1
    rw [h] at this
    exact ⟨_, path_back hk this (by omega)⟩
  · rintro ⟨c, h⟩
    have := path_front hk h (by omega) (by omega)
    rw [← hz] at this
    rw [end_iff _ c this]
    exact hz

theorem Path.comp {s : ByteArray} {p q r c d : Int} (h : Path (fM s) p q c) (k : Path (fM s) p r d) (hle : q ≤ r) : ∃ e, Path (fM s) q r e := by
  induction h generalizing d with
  | refl p => exact ⟨d, k⟩
  | step h k' ih =>
    cases k with
    | refl => have := f_pos s _ h; have := path_le k'; omega
    | step _ k => exact ih k hle

theorem rcut_down (s : ByteArray) (q : Nat) (hv : rCheckM (s.extract 0 q) = -1) : ∀ k, q ≤ k → (∀ j, q < j → j ≤ k → rCheckM (s.extract 0 j) ≠ -1) → rCutLoop s k = s.extract 0 q
  | 0, h, _ => by
    obtain rfl : q = 0 := by omega
    rw [rCutLoop]
    exact str_ext (by rw [ex_list]; simp)
  | k + 1, h, hn => by
    rw [rCutLoop]
    by_cases e : q = k + 1
    · subst e; rw [if_pos hv]
    · rw [if_neg (hn (k + 1) (by omega) (Nat.le_refl _))]
      exact rcut_down s q hv k (by omega) fun j h1 h2 => hn j h1 (by omega)

theorem cut_eq (s : ByteArray) (n : Int) : s.extract 0 (cutM s n).toNat = rCutM s n := by
  obtain ⟨d, a1, a2, a3, a4, a5⟩ := cutG_spec s n (s.size + 1) 0 (by omega) (by omega) (by omega)
  change Path (fM s) 0 (cutM s n) d at a1
  change 0 ≤ cutM s n at a2
  change cutM s n ≤ s.size at a3
  change 0 ≤ n → cutM s n ≤ n at a4
  change fM s (cutM s n) = 0 ∨ n < cutM s n + fM s (cutM s n) at a5
  unfold rCutM
  have hq : cutM s n = ((cutM s n).toNat : Int) := by omega
  have hv : rCheckM (s.extract 0 (cutM s n).toNat) = -1 := (right_iff s _ (by omega)).2 ⟨d, hq ▸ a1⟩
  by_cases hn : 0 ≤ n
  · refine (rcut_down s _ hv _ (by split <;> omega) fun j h1 h2 hj => ?_).symm
    have hjs : j ≤ s.size := by split at h2 <;> omega
    have hjn : (j : Int) ≤ n := by split at h2 <;> omega
    obtain ⟨c, hp⟩ := (right_iff s j hjs).1 hj
    obtain ⟨e, he⟩ := Path.comp a1 hp (by omega)
    obtain ⟨h, d', k⟩ := he.first (by omega)
    have := path_le k
    rcases a5 with h5 | h5
    · exact h h5
    · omega
  · have e : (if (s.size : Int) < n then (s.size : Int) else n).toNat = 0 := by split <;> omega
    rw [e, rCutLoop]
    have : cutM s n = 0 := by
      unfold cutM
      rw [cutG]
      split
      · rw [if_pos]
        by_cases hf : fM s 0 = 0
        · exact .inl hf
        · have := f_pos s 0 hf; exact .inr (by omega)
      · rfl
    rw [this]
    exact str_ext (by rw [ex_list]; simp)
end Go.Proofs
namespace Go.Proofs
open Go Go.Al

theorem app_size (s t : ByteArray) : (s ++ t).size = s.size + t.size := ByteArray.size_append
theorem app_list (s t : ByteArray) : (s ++ t).data.toList = s.data.toList ++ t.data.toList := ByteArray.toList_data_append
theorem len_list (s : ByteArray) : s.data.toList.length = s.size := by simp
theorem bAt_app1 (s t : ByteArray) (i : Int) (h : i < s.size) (h0 : 0 ≤ i) : bAt (s ++ t) i = bAt s i := by
  unfold bAt
  rw [app_list]
  have := len_list s
  simp only [List.getD_eq_getElem?_getD]
  rw [List.getElem?_append_left (by omega)]
theorem bAt_app2 (s t : ByteArray) (i : Int) (h0 : 0 ≤ i) : bAt (s ++ t) (s.size + i) = bAt t i := by
  unfold bAt
  rw [app_list]
  have := len_list s
  simp only [List.getD_eq_getElem?_getD]
  rw [List.getElem?_append_right (by omega)]
  congr 4; omega

theorem path_app1 {s t : ByteArray} {p q c : Int} (h : Path (fM s) p q c) : Path (fM (s ++ t)) p q c := by
  induction h with
  | refl p => exact .refl p
  | @step p q c h k ih =>
    have h2 := f_pos s _ h
    have := app_size s t
    have e := f_same (s := s) (t := s ++ t) (p := p) (q := p) h2.1 h2.1 h (by omega) (fun i a b => (bAt_app1 s t _ (by omega) (by omega)).symm)
    refine .step (by rw [e]; exact h) ?_
    rw [e]; exact ih
theorem path_app2 {s t : ByteArray} {p q c : Int} (h : Path (fM t) p q c) : Path (fM (s ++ t)) (s.size + p) (s.size + q) c := by
  induction h with
  | refl p => exact .refl _
  | @step p q c h k ih =>
    have h2 := f_pos t _ h
    have := app_size s t
    have e := f_same (s := t) (t := s ++ t) (p := p) (q := s.size + p) h2.1 (by omega) h (by omega) (fun i a b => by rw [Int.add_assoc]; exact (bAt_app2 s t _ (by omega)).symm)
    refine .step (by rw [e]; exact h) ?_
    rw [e, Int.add_assoc]; exact ih

theorem joins1 (s t : ByteArray) (hs : checkM s = -1) (ht : checkM t = -1) : checkM (s ++ t) = -1 ∧ countM (s ++ t) = countM s + countM t ∧ 0 ≤ countM s ∧ countM s ≤ s.size ∧ 0 ≤ countM t ∧ countM t ≤ t.size := by
  have a1 := (check_iff s).1 hs
  have a2 := (check_iff t).1 ht
  have p1 := (end_spec s).1
  have p2 := (end_spec t).1
  rw [a1] at p1
  rw [a2] at p2
  have h3 := (path_app1 (t := t) p1).trans (by have := path_app2 (s := s) p2; rwa [Int.add_zero] at this)
  have hz : ((s ++ t).size : Int) = s.size + t.size := by rw [app_size]; omega
  rw [← hz] at h3
  have he := end_iff _ _ h3
  have cnt : ∀ u : ByteArray, (endM u).1 = u.size → countM u = (endM u).2 := fun u h => by unfold countM; rw [if_neg (by omega)]
  have e1 : (endM (s ++ t)).1 = (s ++ t).size := by rw [he]
  have bound : ∀ {u : ByteArray} {p q c : Int}, Path (fM u) p q c → 0 ≤ c ∧ c ≤ q - p := by
    intro u p q c h
    induction h with
    | refl => omega
    | step h _ ih => have := f_pos u _ h; omega
  have b1 := bound p1
  have b2 := bound p2
  refine ⟨(check_iff _).2 e1, ?_, ?_, ?_, ?_, ?_⟩
  · rw [cnt _ e1, cnt _ a1, cnt _ a2, he]
  · rw [cnt _ a1]; omega
  · rw [cnt _ a1]; omega
  · rw [cnt _ a2]; omega
  · rw [cnt _ a2]; omega

theorem joins2 (s : ByteArray) (n : Int) : ∃ q : Nat, (s.extract 0 (cutM s n).toNat).size = q ∧ q ≤ s.size ∧ (q : Int) ≤ (if n > 0 then n else 0) ∧ s.extract 0 q = s.extract 0 (cutM s n).toNat ∧ checkM (s.extract 0 (cutM s n).toNat) = -1 ∧
    ((runeM s q).2 = 0 ∨ n < q + (runeM s q).2) ∧ (n ≤ 0 → q = 0) := by
  obtain ⟨d, a1, a2, a3, a4, a5⟩ := cutG_spec s n (s.size + 1) 0 (by omega) (by omega) (by omega)
  change Path (fM s) 0 (cutM s n) d at a1
  change 0 ≤ cutM s n at a2
  change cutM s n ≤ s.size at a3
  change 0 ≤ n → cutM s n ≤ n at a4
  change fM s (cutM s n) = 0 ∨ n < cutM s n + fM s (cutM s n) at a5
  have hq : cutM s n = ((cutM s n).toNat : Int) := by omega
  have hz : cutM s n ≤ (if n > 0 then n else 0) := by
    split
    · exact a4 (by omega)
    · by_cases h : n = 0
      · have := a4 (by omega); omega
      · have : cutM s n = 0 := by
          unfold cutM
          rw [cutG]
          split
          · rw [if_pos]
            by_cases hf : fM s 0 = 0
            · exact .inl hf
            · have := f_pos s 0 hf; exact .inr (by omega)
          · rfl
        omega
  refine ⟨(cutM s n).toNat, by rw [ex_size _ _ _ (by omega)]; omega, by omega, by omega, rfl, ?_, ?_, ?_⟩
  · rw [check_eq]; exact (right_iff s _ (by omega)).2 ⟨d, hq ▸ a1⟩
  · rw [← hq]; exact a5
  · intro h; split at hz <;> omega

/-! ### Back -/
theorem nator (i a b : Nat) (h : b < 2 ^ i) : 2 ^ i * a ||| b = 2 ^ i * a + b := (Nat.two_pow_add_eq_or_of_lt h a).symm
theorem contM_eq (n : Int) (h : 0 ≤ n) : contM n = 128 + n % 64 := by
  unfold contM
  have hw : IntKind.u8.wrap n = n % 256 := by
    simp only [IntKind.wrap, IntKind.bits, IntKind.signed, Bool.false_and, Bool.false_eq_true, if_false]; rfl
  have e2 : bitsOf (· &&& ·) .u8 (IntKind.u8.wrap n) 63 = n % 64 := by
    rw [hw, bits_and8 _ 63 (by omega) (by omega), show (63 : Int).toNat = 63 from rfl, nat63]; omega
  rw [e2, bits_or8 _ _ (by omega) (by omega), show (128 : Int).toNat = 2 ^ 6 * 2 from rfl, nator 6 2 _ (by omega)]
  omega
theorem fdiv_pos (a b : Int) (h : 0 < b) : a.fdiv b = a / b := Int.fdiv_eq_ediv_of_nonneg a (by omega)

theorem sz1 {r : Int} (h : r < 128) : sizeM r = 1 := by unfold sizeM; rw [if_pos h]
theorem sz2 {r : Int} (h : 128 ≤ r ∧ r < 2048) : sizeM r = 2 := by unfold sizeM; rw [if_neg (by omega), if_pos (by omega)]
theorem sz3 {r : Int} (h : 2048 ≤ r ∧ r < 65536) : sizeM r = 3 := by unfold sizeM; rw [if_neg (by omega), if_neg (by omega), if_pos (by omega)]
theorem sz4 {r : Int} (h : 65536 ≤ r) : sizeM r = 4 := by unfold sizeM; rw [if_neg (by omega), if_neg (by omega), if_neg (by omega)]

theorem head_eq (r k top : Int) (d : Nat) (m i : Nat) (h : 0 ≤ r) (h1 : IntKind.u8.wrap (240 * 2 ^ (min (w64 (4 - k)).toNat (IntKind.bits .u8))) = top) (h2 : min (w64 (6 * w64 (k - 1))).toNat (IntKind.bits .i32) = d) (ht : top = ((2 ^ i * m : Nat) : Int)) (hlt : r / 2 ^ d < 2 ^ i) (hi : 2 ^ i ≤ 64) (hm : 2 ^ i * m < 192 + 64) :
    headM r k = top + r / 2 ^ d := by
  unfold headM
  have hp : (0 : Int) < 2 ^ d := by have := Nat.two_pow_pos d; exact_mod_cast this
  have hq : 0 ≤ r / 2 ^ d := Int.ediv_nonneg h (by omega)
  have hc : ((2 : Int) ^ i) = ((2 ^ i : Nat) : Int) := by simp
  rw [hc] at hlt
  rw [h1, h2, fdiv_pos _ _ hp, wrap8_id (by omega), bits_or8 _ _ (by omega) (by omega), ht, Int.toNat_natCast, nator i m _ (by omega)]
  omega

theorem bytesP_pb {r : Int} (hv : valid r) : bytesP r = (pb r).map ofI := by
  unfold valid at hv
  unfold bytesP pb
  have c := contM_eq r (by omega)
  have c6 : contM (r.fdiv (2 ^ (min (6 : Int).toNat (IntKind.bits .i32)))) = 128 + r / 64 % 64 := by
    rw [show ((2 : Int) ^ (min (6 : Int).toNat (IntKind.bits .i32))) = 64 from rfl, fdiv_pos _ _ (by omega), contM_eq _ (by omega)]
  have c12 : contM (r.fdiv (2 ^ (min (12 : Int).toNat (IntKind.bits .i32)))) = 128 + r / 4096 % 64 := by
    rw [show ((2 : Int) ^ (min (12 : Int).toNat (IntKind.bits .i32))) = 4096 from rfl, fdiv_pos _ _ (by omega), contM_eq _ (by omega)]
  by_cases a1 : r < 128
  · rw [sz1 a1, if_pos rfl, if_pos a1, wrap8_id (by omega)]; rfl
  rw [if_neg a1]
  by_cases a2 : r < 2048
  · rw [sz2 (by omega), if_neg (by decide), if_pos rfl, if_pos a2, c, head_eq r 2 192 6 3 6 (by omega) (by decide) (by decide) (by decide) (by omega) (by decide) (by decide)]; rfl
  rw [if_neg a2]
  by_cases a3 : r < 65536
  · rw [sz3 (by omega), if_neg (by decide), if_neg (by decide), if_pos rfl, if_pos a3, c, c6, head_eq r 3 224 12 7 5 (by omega) (by decide) (by decide) (by decide) (by omega) (by decide) (by decide)]; rfl
  rw [if_neg a3, sz4 (by omega), if_neg (by decide), if_neg (by decide), if_neg (by decide), c, c6, c12, head_eq r 4 240 18 15 4 (by omega) (by decide) (by decide) (by decide) (by omega) (by decide) (by decide)]; rfl

theorem mat_app (s : ByteArray) : ∀ (l : List Int) (p : Int) (t u : ByteArray), s = t ++ strOf (l.map ofI) ++ u → p = t.size → (∀ x ∈ l, 0 ≤ x ∧ x < 256) → Mat s p l := by
  intro l p t u hs hp hr
  have hz : s.size = t.size + l.length + u.size := by rw [hs, app_size, app_size, strOf_map]
  refine (mat_iff s l p (by omega) (by omega) hr).1 ?_
  rw [hs, app_list, app_list, strOf_list, hp, Int.toNat_natCast, List.append_assoc, List.drop_append, List.drop_eq_nil_of_le (by rw [len_list]; omega), len_list]
  simp
theorem back (p : ByteArray) (r : Int) (u : ByteArray) (hv : isM r = true) :
    strOf (putM p.data.toList r) = p ++ strOf (bytesM r) ∧ runeM (strOf (putM p.data.toList r) ++ u) p.size = (r, ((strOf (putM p.data.toList r)).size : Int) - p.size) := by
  have hv' := (isM_iff r).1 hv
  have h1 : strOf (putM p.data.toList r) = p ++ strOf (bytesM r) := by
    refine str_ext ?_
    rw [strOf_list, app_list, strOf_list]
    unfold putM
    rw [if_pos hv, bytesP_pb hv', bytesM_pb (by omega)]
  refine ⟨h1, ?_⟩
  rw [h1, rune_D _ _ (by omega), bytesM_pb (by omega)]
  have hz : ((p ++ strOf ((pb r).map ofI)).size : Int) - p.size = (pb r).length := by rw [app_size, strOf_map]; omega
  rw [hz]
  refine enc_D4 hv' (mat_app _ (pb r) _ p u rfl rfl (pb_range (by omega))) ?_
  rw [app_size, app_size, strOf_map]; omega
end Go.Proofs
