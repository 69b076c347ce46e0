/- The plain arithmetic of moments: what package moment and its reference compute, and that both agree. No condition but those typed. -/
import Derived.Test.YtdbcdeihinboeaaAl
set_option linter.unusedSimpArgs false
set_option linter.unusedVariables false
namespace Go.Proofs
open Go Go.Al

structure Rg where
  lo : Int
  hi : Int
def Rg.av (r : Rg) : AV := .agg [.v (.int .u64 r.lo), .v (.int .u64 r.hi)]
def iv (n : Int) : AV := .v (.int .i64 n)
def uv (n : Int) : AV := .v (.int .u64 n)
def bv (b : Bool) : AV := .v (.bool b)

def checkM (r : Rg) : Int := if r.hi > 9223372036854775807 ∨ r.lo > r.hi then 11 else 0
def begunM (r : Rg) : Int := IntKind.u64.wrap (r.lo.tdiv 1000)
def lastsM (r : Rg) : Int := IntKind.u64.wrap ((IntKind.u64.wrap (r.hi - r.lo)).tdiv 1000)
def microsM (m : Int) (r : Rg) : Int := if checkM r = 0 then IntKind.i64.wrap m else 0
def nanoV (us : Int) : Int := if us < 0 ∨ us > 9223372036854775 then 0 else IntKind.u64.wrap (IntKind.u64.wrap us * 1000)
def nanoC (us : Int) : Int := if us < 0 ∨ us > 9223372036854775 then 11 else 0
def microM (ns : Int) : Int := IntKind.i64.wrap (IntKind.u64.wrap (ns.tdiv 1000))
def ofBad (b l : Int) : Prop := nanoC b ≠ 0 ∨ nanoC l ≠ 0 ∨ nanoV l > IntKind.u64.wrap (9223372036854775807 - nanoV b)
instance (b l : Int) : Decidable (ofBad b l) := by unfold ofBad; infer_instance
def ofR (b l : Int) : Rg := if ofBad b l then ⟨0, 0⟩ else ⟨nanoV b, IntKind.u64.wrap (nanoV b + nanoV l)⟩
def ofC (b l : Int) : Int := if ofBad b l then 11 else 0
def BegunM (r : Rg) : Int := microsM (begunM r) r
def LastsM (r : Rg) : Int := microsM (lastsM r) r
def wholeM (r : Rg) : Rg := ofR (BegunM r) (LastsM r)

-- the reference
def rNanoV (us : Int) : Int := if us < 0 ∨ us > 9223372036854775 then 0 else IntKind.u64.wrap (1000 * IntKind.u64.wrap us)
def rFine (s e : Int) : Bool := decide (s ≤ e) && decide (e ≤ 9223372036854775807)
def rLasts (s e : Int) : Int := if rFine s e then microM (IntKind.u64.wrap (e - s)) else 0
def rBegun (s e : Int) : Int := if rFine s e then microM s else 0
def rBad (b l : Int) : Prop := nanoC b ≠ 0 ∨ nanoC l ≠ 0 ∨ rNanoV b > IntKind.u64.wrap (9223372036854775807 - rNanoV l)
instance (b l : Int) : Decidable (rBad b l) := by unfold rBad; infer_instance
def rOfA (b l : Int) : Int := if rBad b l then 0 else rNanoV b
def rOfB (b l : Int) : Int := if rBad b l then 0 else IntKind.u64.wrap (rNanoV b + rNanoV l)
def rOfC (b l : Int) : Int := if rBad b l then 11 else 0

end Go.Proofs
namespace Go.Proofs
open Go Go.Al

theorem nano_ok {us : Int} (h0 : 0 ≤ us) (h1 : us ≤ 9223372036854775) : nanoV us = us * 1000 ∧ rNanoV us = us * 1000 ∧ nanoC us = 0 := by
  have e1 : IntKind.u64.wrap us = us := wrapu64 h0 (by omega)
  have e2 : IntKind.u64.wrap (us * 1000) = us * 1000 := wrapu64 (by omega) (by omega)
  have e3 : IntKind.u64.wrap (1000 * us) = us * 1000 := by rw [Int.mul_comm]; exact e2
  refine ⟨?_, ?_, ?_⟩
  · rw [nanoV, if_neg (by omega), e1, e2]
  · rw [rNanoV, if_neg (by omega), e1, e3]
  · rw [nanoC, if_neg (by omega)]
theorem nano_bad {us : Int} (h : us < 0 ∨ us > 9223372036854775) : nanoV us = 0 ∧ rNanoV us = 0 ∧ nanoC us = 11 := by
  refine ⟨?_, ?_, ?_⟩
  · rw [nanoV, if_pos h]
  · rw [rNanoV, if_pos h]
  · rw [nanoC, if_pos h]
theorem nano_same (us : Int) : nanoV us = rNanoV us := by
  by_cases h : us < 0 ∨ us > 9223372036854775
  · rw [(nano_bad h).1, (nano_bad h).2.1]
  · rw [(nano_ok (us := us) (by omega) (by omega)).1, (nano_ok (us := us) (by omega) (by omega)).2.1]
theorem nano_rg (us : Int) : 0 ≤ nanoV us ∧ nanoV us ≤ 9223372036854775000 := by
  by_cases h : us < 0 ∨ us > 9223372036854775
  · rw [(nano_bad h).1]; omega
  · rw [(nano_ok (us := us) (by omega) (by omega)).1]; omega

theorem bad_same (b l : Int) : ofBad b l ↔ rBad b l := by
  have hb := nano_rg b
  have hl := nano_rg l
  unfold ofBad rBad
  rw [← nano_same b, ← nano_same l, wrapu64 (by omega) (by omega), wrapu64 (by omega) (by omega)]
  constructor <;> intro h <;> omega

theorem of_same (b l : Int) : (ofR b l).lo = rOfA b l ∧ (ofR b l).hi = rOfB b l ∧ ofC b l = rOfC b l := by
  have h := bad_same b l
  by_cases hb : ofBad b l
  · simp only [ofR, rOfA, rOfB, ofC, rOfC, if_pos hb, if_pos (h.1 hb), and_self]
  · have : ¬ rBad b l := fun k => hb (h.2 k)
    simp only [ofR, rOfA, rOfB, ofC, rOfC, if_neg hb, if_neg this, nano_same, and_self]

theorem fine_iff (s e : Int) : rFine s e = true ↔ (s ≤ e ∧ e ≤ 9223372036854775807) := by simp [rFine]
theorem tells1 (s e : Int) : (checkM ⟨s, e⟩ == 0) = rFine s e := by
  rw [Bool.eq_iff_iff, fine_iff]
  unfold checkM
  by_cases h : e > 9223372036854775807 ∨ s > e
  · rw [if_pos h]; simp; omega
  · rw [if_neg h]; simp; omega
theorem check_fine {s e : Int} (h : rFine s e = true) : checkM ⟨s, e⟩ = 0 := by have := tells1 s e; rw [h] at this; simpa using this
theorem check_bad {s e : Int} (h : rFine s e = false) : checkM ⟨s, e⟩ = 11 := by
  have := tells1 s e; rw [h] at this
  unfold checkM at this ⊢
  split
  · rfl
  · rename_i h'; rw [if_neg h'] at this; simp at this
theorem tells3 (s e : Int) : BegunM ⟨s, e⟩ = rBegun s e := by
  unfold BegunM microsM rBegun microM begunM
  cases h : rFine s e
  · rw [check_bad h]; simp
  · rw [check_fine h]; simp
theorem tells4 (s e : Int) : LastsM ⟨s, e⟩ = rLasts s e := by
  unfold LastsM microsM rLasts microM lastsM
  cases h : rFine s e
  · rw [check_bad h]; simp
  · rw [check_fine h]; simp
theorem tells5 (s e : Int) : (wholeM ⟨s, e⟩).lo = rOfA (rBegun s e) (rLasts s e) ∧ (wholeM ⟨s, e⟩).hi = rOfB (rBegun s e) (rLasts s e) := by
  unfold wholeM
  rw [tells3, tells4]
  exact ⟨(of_same _ _).1, (of_same _ _).2.1⟩

-- what a range that may be comes to
theorem micro_eq {n : Int} (h0 : 0 ≤ n) (h1 : n < 18446744073709551616) : microM n = n / 1000 := by
  unfold microM
  have e : n.tdiv 1000 = n / 1000 := Int.tdiv_eq_ediv_of_nonneg h0
  rw [e, wrapu64 (by omega) (by omega), wrap64 (by omega) (by omega)]
theorem begun_fine {s e : Int} (h0 : 0 ≤ s) (h : rFine s e = true) : rBegun s e = s / 1000 ∧ rLasts s e = (e - s) / 1000 := by
  have := (fine_iff s e).1 h
  unfold rBegun rLasts
  rw [h, if_pos rfl, if_pos rfl, micro_eq h0 (by omega), wrapu64 (by omega) (by omega), micro_eq (by omega) (by omega)]
  exact ⟨rfl, rfl⟩
theorem of_ok {b l : Int} (hb : 0 ≤ b) (hl : 0 ≤ l) (h : b * 1000 + l * 1000 ≤ 9223372036854775807) : ofR b l = ⟨b * 1000, b * 1000 + l * 1000⟩ ∧ ofC b l = 0 := by
  have nb := nano_ok hb (by omega)
  have nl := nano_ok hl (by omega)
  have : ¬ ofBad b l := by
    unfold ofBad
    rw [nb.1, nl.1, nb.2.2, nl.2.2, wrapu64 (by omega) (by omega)]
    omega
  rw [ofR, if_neg this, ofC, if_neg this, nb.1, nl.1, wrapu64 (by omega) (by omega)]
  exact ⟨rfl, rfl⟩
theorem whole_fine {s e : Int} (h0 : 0 ≤ s) (h : rFine s e = true) : wholeM ⟨s, e⟩ = ⟨s / 1000 * 1000, s / 1000 * 1000 + (e - s) / 1000 * 1000⟩ := by
  have hf := (fine_iff s e).1 h
  have := begun_fine h0 h
  unfold wholeM
  rw [tells3, tells4, this.1, this.2]
  exact (of_ok (by omega) (by omega) (by omega)).1
theorem whole_bad {s e : Int} (h : rFine s e = false) : wholeM ⟨s, e⟩ = ⟨0, 0⟩ := by
  unfold wholeM
  rw [tells3, tells4, rBegun, rLasts, h]
  exact (of_ok (b := 0) (l := 0) (by omega) (by omega) (by omega)).1

theorem whole_facts (s e : Int) (s0 : 0 ≤ s) (e0 : 0 ≤ e) (s1 : s < 18446744073709551616) (e1 : e < 18446744073709551616) :
    (rFine s e = false ∧ wholeM ⟨s, e⟩ = ⟨0, 0⟩) ∨ (rFine s e = true ∧ ∃ A B, wholeM ⟨s, e⟩ = ⟨A, B⟩ ∧ checkM ⟨A, B⟩ = 0 ∧ wholeM ⟨A, B⟩ = ⟨A, B⟩ ∧ BegunM ⟨A, B⟩ = BegunM ⟨s, e⟩ ∧ LastsM ⟨A, B⟩ = LastsM ⟨s, e⟩ ∧
      A ≤ s ∧ B ≤ e ∧ IntKind.u64.wrap (s - A) < 1000 ∧ IntKind.u64.wrap (IntKind.u64.wrap (e - s) - IntKind.u64.wrap (B - A)) < 1000) := by
  cases h : rFine s e
  · exact .inl ⟨rfl, whole_bad h⟩
  · right
    have hf := (fine_iff s e).1 h
    have hw := whole_fine s0 h
    refine ⟨rfl, _, _, hw, ?_⟩
    have hA : rFine (s / 1000 * 1000) (s / 1000 * 1000 + (e - s) / 1000 * 1000) = true := (fine_iff _ _).2 (by omega)
    have hA0 : 0 ≤ s / 1000 * 1000 := by omega
    have hb := begun_fine s0 h
    have hb' := begun_fine hA0 hA
    refine ⟨check_fine hA, ?_, ?_, ?_, by omega, by omega, ?_, ?_⟩
    · rw [whole_fine hA0 hA]
      have e1 : s / 1000 * 1000 / 1000 * 1000 = s / 1000 * 1000 := by omega
      have e2 : (s / 1000 * 1000 + (e - s) / 1000 * 1000 - s / 1000 * 1000) / 1000 * 1000 = (e - s) / 1000 * 1000 := by omega
      rw [e1, e2]
    · rw [tells3, tells3, hb.1, hb'.1]; omega
    · rw [tells4, tells4, hb.2, hb'.2]; omega
    · rw [wrapu64 (by omega) (by omega)]; omega
    · rw [wrapu64 (n := e - s) (by omega) (by omega), wrapu64 (n := s / 1000 * 1000 + (e - s) / 1000 * 1000 - s / 1000 * 1000) (by omega) (by omega), wrapu64 (by omega) (by omega)]; omega

theorem of_facts (b l : Int) (b0 : -9223372036854775808 ≤ b) (b1 : b < 9223372036854775808) (l0 : -9223372036854775808 ≤ l) (l1 : l < 9223372036854775808) :
    (ofR b l).lo = rOfA b l ∧ (ofR b l).hi = rOfB b l ∧ ofC b l = rOfC b l ∧ nanoV b = rNanoV b ∧ (ofC b l = 0 → BegunM (ofR b l) = b ∧ LastsM (ofR b l) = l ∧ checkM (ofR b l) = 0) := by
  refine ⟨(of_same b l).1, (of_same b l).2.1, (of_same b l).2.2, nano_same b, fun h => ?_⟩
  have hn : ¬ ofBad b l := by
    intro hb
    rw [ofC, if_pos hb] at h; omega
  have hb : 0 ≤ b ∧ b ≤ 9223372036854775 := by
    by_cases hx : b < 0 ∨ b > 9223372036854775
    · exact absurd (Or.inl (by rw [(nano_bad hx).2.2]; omega)) hn
    · omega
  have hl : 0 ≤ l ∧ l ≤ 9223372036854775 := by
    by_cases hx : l < 0 ∨ l > 9223372036854775
    · exact absurd (Or.inr (Or.inl (by rw [(nano_bad hx).2.2]; omega))) hn
    · omega
  have nb := nano_ok hb.1 hb.2
  have nl := nano_ok hl.1 hl.2
  have hsum : b * 1000 + l * 1000 ≤ 9223372036854775807 := by
    unfold ofBad at hn
    rw [nb.1, nl.1, nb.2.2, nl.2.2, wrapu64 (by omega) (by omega)] at hn
    omega
  rw [(of_ok hb.1 hl.1 hsum).1]
  have hf : rFine (b * 1000) (b * 1000 + l * 1000) = true := (fine_iff _ _).2 (by omega)
  have := begun_fine (s := b * 1000) (by omega) hf
  rw [tells3, tells4, this.1, this.2]
  exact ⟨by omega, by omega, check_fine hf⟩

end Go.Proofs
