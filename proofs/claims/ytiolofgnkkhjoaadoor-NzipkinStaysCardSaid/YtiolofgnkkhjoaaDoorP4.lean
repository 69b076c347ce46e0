/- Texts that the proofs of this claim share, part 4: the abstract logic, plain Lean on values and batches, and walks. No condition but those typed in each lemma. -/
import Derived.Test.YtiolofgnkkhjoaaDoorP3
set_option linter.unusedSimpArgs false
set_option linter.unusedVariables false
set_option maxHeartbeats 400000
namespace Go.Proofs
open Go Go.Al
set_option maxRecDepth 10000
theorem rquote_c (s : ByteArray) (hs : s.size ≤ 100000000000) : zo Tryd.prog Γ0 108 [sv s] [sv (yb (ww (lst s)))] := by
  have hz := yA s
  have c1 : (ByteArray.mk #[92]).size = 1 := rfl
  have c4 : (ByteArray.mk #[92, 117, 48, 48]).size = 4 := rfl
  have c0 : (ByteArray.mk #[34]).size = 1 := rfl
  refine zf Tryd.func108 rfl Tryd.ntmps108 (by kernel_rfl) rfl fun w0 I0 G0 => ?_
  refine zD <| zB <| g_u (zE rfl rfl) <| zH <| zA <| zD <| zB <| g_u (zE rfl rfl) <| zH <| zA <| zD <| zD <| zB <| g_u (zE rfl rfl) <| zH <| zA <| zT ?_
  refine zq (fun j : Nat × ByteArray => [(0, .imm (sv s)), (3, .imm (sv j.2)), (4, .imm (iv (j.1 : Int)))]) (fun j => j.1 ≤ s.size ∧ lst j.2 = 34 :: escs ((lst s).take j.1)) (fun j => s.size - j.1) (⟨0, ⟨#[34]⟩⟩) ?_ ⟨rfl, rfl, rfl, trivial⟩ ?_
  · exact ⟨Nat.zero_le _, rfl⟩
  · rintro ⟨i, t⟩ ⟨h1, h2⟩; dsimp only at h1 h2; have hlen : t.size ≤ 1 + 6 * s.size := by have := escs_length ((lst s).take i); rw [← yA t, h2, List.length_cons]; rw [List.length_take] at this; omega
    have e2 : i < s.size → (IntKind.i64.wrap ((i : Int) + 1)).toNat = i + 1 := fun h => by rw [z_ (by omega) (by omega)]; omega
    have hx : (i : Int) < (s.size : Int) → (s.extract (i : Int).toNat (IntKind.i64.wrap ((i : Int) + 1)).toNat).size = 1 := fun h => by rw [e2 (by omega), Int.toNat_natCast]; exact ex1_size (by omega)
    refine zD <| zD <| zB <| g_u (zC rfl rfl) <| g_u (zC rfl rfl) <| g_u (xY rfl rfl Tryd.underlying9) <| g_u (yd rfl rfl rfl) <| zH <| zA ?_
    refine zV rfl (fun hb1 => ?_) (fun hb1 => ?_)
    · refine zY ?_
      refine zA <| zD <| zT <| zD <| zD <| zB <| g_u (zC rfl rfl) <| g_u (zC rfl rfl) ?_
      refine g_u (si_ix rfl rfl rfl Tryd.underlying9 (by ((try simp only [qa, qb, qc, ne_eq, beq_iff_eq, qd, qe, Bool.not_eq_true', Bool.not_eq_false', gt_iff_lt, ge_iff_le] at *); (repeat simp (disch := omega) only [z_, yN] at *)); omega)) ?_
      refine g_u (xM rfl rfl rfl) <| g_u (zC rfl rfl) <| yL (t := 15) rfl ?_
      rintro (hb2 | hb2)
      · rw [hb2]
        refine zI rfl rfl rfl <| zI rfl rfl rfl <| zI rfl rfl rfl <| zI rfl rfl rfl <| g_u (zZ rfl rfl rfl) <| zH <| zA <| zg rfl <| zB <| g_u (zC rfl rfl) ?_
        refine g_u (y5 rfl rfl rfl (by show _ ≤ (9223372036854775807 : Int); (try dsimp only); first | (simp only [zm, c0, c1, c4]; omega) | (have q := hx (of_decide_eq_true hb1); simp only [zm, za, yC, yA, q, c1, c4]; omega))) ?_
        refine g_u (zE rfl rfl) <| zH <| zA <| zD <| zB <| g_u (zC rfl rfl) <| g_u (zC rfl rfl) ?_
        refine g_u (si_ix rfl rfl rfl Tryd.underlying9 (by ((try simp only [qa, qb, qc, ne_eq, beq_iff_eq, qd, qe, Bool.not_eq_true', Bool.not_eq_false', gt_iff_lt, ge_iff_le] at *); (repeat simp (disch := omega) only [z_, yN] at *)); omega)) ?_
        refine g_u (yd rfl rfl rfl) <| zH <| zA ?_
        refine zV rfl (fun hb3 => ?_) (fun hb3 => ?_)
        · refine zB ?_
          refine g_u (zC rfl rfl) ?_
          refine g_u (y5 rfl rfl rfl (by show _ ≤ (9223372036854775807 : Int); (try dsimp only); first | (simp only [zm, c0, c1, c4]; omega) | (have q := hx (of_decide_eq_true hb1); simp only [zm, za, yC, yA, q, c1, c4]; omega))) ?_
          refine g_u (zC rfl rfl) <| g_u (zC rfl rfl) <| g_u (zC rfl rfl) <| g_u (yK rfl rfl rfl) ?_
          refine g_u (si_lh rfl rfl rfl rfl Tryd.underlying9 (by ((try simp only [qa, qb, qc, ne_eq, beq_iff_eq, qd, qe, Bool.not_eq_true', Bool.not_eq_false', gt_iff_lt, ge_iff_le] at *); (repeat simp (disch := omega) only [z_, yN] at *)); omega)) ?_
          refine g_u (zR (rhex_c _ (by have q := hx (of_decide_eq_true hb1); (try dsimp only); omega)) rfl rfl) ?_
          refine g_u (y5 rfl rfl rfl (by show _ ≤ (9223372036854775807 : Int); (try dsimp only); first | (simp only [zm, c0, c1, c4]; omega) | (have q := hx (of_decide_eq_true hb1); simp only [zm, za, yC, yA, q, c1, c4]; omega))) ?_
          refine g_u (zE rfl rfl) <| zH <| zW <| zA <| zB <| g_u (zC rfl rfl) <| g_u (yK rfl rfl rfl) <| g_u (zE rfl rfl) <| zH <| zA ?_
          change decide ((i : Int) < (s.size : Int)) = true at hb1
          have hi : i < s.size := by have := of_decide_eq_true hb1; omega
          obtain ⟨c, hc1, hc2⟩ := vB s i hi
          refine ⟨⟨i + 1, _⟩, ⟨hi, ?_⟩, ⟨rfl, rfl, zd rfl (by rw [z_ (by omega) (by omega)]; rfl), trivial⟩, by dsimp only; omega⟩
          dsimp only at *
          rw [zu hc1, wN, ← List.cons_append, ← h2, e2 hi, Int.toNat_natCast]
          simp only [beq_iff_eq, qe, ne_eq, qa, qb] at *
          first | (exfalso; omega) | exact resc1 hc1 (.inl (by omega)) | exact resc1 hc1 (.inr (by omega)) | exact resc2 hc1 (by omega) (by omega) (by omega) | exact resc3 hc1 (by omega) (by omega) (by omega)
        · refine zB ?_
          refine g_u (zC rfl rfl) <| g_u (zC rfl rfl) <| g_u (zC rfl rfl) <| g_u (zC rfl rfl) <| g_u (yK rfl rfl rfl) ?_
          refine g_u (si_lh rfl rfl rfl rfl Tryd.underlying9 (by ((try simp only [qa, qb, qc, ne_eq, beq_iff_eq, qd, qe, Bool.not_eq_true', Bool.not_eq_false', gt_iff_lt, ge_iff_le] at *); (repeat simp (disch := omega) only [z_, yN] at *)); omega)) ?_
          refine g_u (y5 rfl rfl rfl (by show _ ≤ (9223372036854775807 : Int); (try dsimp only); first | (simp only [zm, c0, c1, c4]; omega) | (have q := hx (of_decide_eq_true hb1); simp only [zm, za, yC, yA, q, c1, c4]; omega))) ?_
          refine g_u (zE rfl rfl) <| zH <| zW <| zA <| zB <| g_u (zC rfl rfl) <| g_u (yK rfl rfl rfl) <| g_u (zE rfl rfl) <| zH <| zA ?_
          change decide ((i : Int) < (s.size : Int)) = true at hb1
          have hi : i < s.size := by have := of_decide_eq_true hb1; omega
          obtain ⟨c, hc1, hc2⟩ := vB s i hi
          refine ⟨⟨i + 1, _⟩, ⟨hi, ?_⟩, ⟨rfl, rfl, zd rfl (by rw [z_ (by omega) (by omega)]; rfl), trivial⟩, by dsimp only; omega⟩
          dsimp only at *
          rw [zu hc1, wN, ← List.cons_append, ← h2, e2 hi, Int.toNat_natCast]
          simp only [beq_iff_eq, qe, ne_eq, qa, qb] at *
          first | (exfalso; omega) | exact resc1 hc1 (.inl (by omega)) | exact resc1 hc1 (.inr (by omega)) | exact resc2 hc1 (by omega) (by omega) (by omega) | exact resc3 hc1 (by omega) (by omega) (by omega)
      · rw [hb2]
        refine zO rfl rfl (zC rfl rfl) <| zO rfl rfl (zC rfl rfl) ?_
        refine zO rfl rfl (si_ix rfl rfl rfl Tryd.underlying9 (by ((try simp only [qa, qb, qc, ne_eq, beq_iff_eq, qd, qe, Bool.not_eq_true', Bool.not_eq_false', gt_iff_lt, ge_iff_le] at *); (repeat simp (disch := omega) only [z_, yN] at *)); omega)) ?_
        refine zO rfl rfl (xM rfl rfl rfl) <| g_u (zr rfl rfl rfl) <| zH <| zA ?_
        refine zV rfl (fun hb4 => ?_) (fun hb4 => ?_)
        · refine zB ?_
          refine g_u (zC rfl rfl) ?_
          refine g_u (y5 rfl rfl rfl (by show _ ≤ (9223372036854775807 : Int); (try dsimp only); first | (simp only [zm, c0, c1, c4]; omega) | (have q := hx (of_decide_eq_true hb1); simp only [zm, za, yC, yA, q, c1, c4]; omega))) ?_
          refine g_u (zE rfl rfl) <| zH <| zA <| zD <| zB <| g_u (zC rfl rfl) <| g_u (zC rfl rfl) ?_
          refine g_u (si_ix rfl rfl rfl Tryd.underlying9 (by ((try simp only [qa, qb, qc, ne_eq, beq_iff_eq, qd, qe, Bool.not_eq_true', Bool.not_eq_false', gt_iff_lt, ge_iff_le] at *); (repeat simp (disch := omega) only [z_, yN] at *)); omega)) ?_
          refine g_u (yd rfl rfl rfl) <| zH <| zA ?_
          refine zV rfl (fun hb5 => ?_) (fun hb5 => ?_)
          · refine zB ?_
            refine g_u (zC rfl rfl) ?_
            refine g_u (y5 rfl rfl rfl (by show _ ≤ (9223372036854775807 : Int); (try dsimp only); first | (simp only [zm, c0, c1, c4]; omega) | (have q := hx (of_decide_eq_true hb1); simp only [zm, za, yC, yA, q, c1, c4]; omega))) ?_
            refine g_u (zC rfl rfl) <| g_u (zC rfl rfl) <| g_u (zC rfl rfl) <| g_u (yK rfl rfl rfl) ?_
            refine g_u (si_lh rfl rfl rfl rfl Tryd.underlying9 (by ((try simp only [qa, qb, qc, ne_eq, beq_iff_eq, qd, qe, Bool.not_eq_true', Bool.not_eq_false', gt_iff_lt, ge_iff_le] at *); (repeat simp (disch := omega) only [z_, yN] at *)); omega)) ?_
            refine g_u (zR (rhex_c _ (by have q := hx (of_decide_eq_true hb1); (try dsimp only); omega)) rfl rfl) ?_
            refine g_u (y5 rfl rfl rfl (by show _ ≤ (9223372036854775807 : Int); (try dsimp only); first | (simp only [zm, c0, c1, c4]; omega) | (have q := hx (of_decide_eq_true hb1); simp only [zm, za, yC, yA, q, c1, c4]; omega))) ?_
            refine g_u (zE rfl rfl) <| zH <| zW <| zA <| zB <| g_u (zC rfl rfl) <| g_u (yK rfl rfl rfl) <| g_u (zE rfl rfl) <| zH <| zA ?_
            change decide ((i : Int) < (s.size : Int)) = true at hb1
            have hi : i < s.size := by have := of_decide_eq_true hb1; omega
            obtain ⟨c, hc1, hc2⟩ := vB s i hi
            refine ⟨⟨i + 1, _⟩, ⟨hi, ?_⟩, ⟨rfl, rfl, zd rfl (by rw [z_ (by omega) (by omega)]; rfl), trivial⟩, by dsimp only; omega⟩
            dsimp only at *
            rw [zu hc1, wN, ← List.cons_append, ← h2, e2 hi, Int.toNat_natCast]
            simp only [beq_iff_eq, qe, ne_eq, qa, qb] at *
            first | (exfalso; omega) | exact resc1 hc1 (.inl (by omega)) | exact resc1 hc1 (.inr (by omega)) | exact resc2 hc1 (by omega) (by omega) (by omega) | exact resc3 hc1 (by omega) (by omega) (by omega)
          · refine zB ?_
            refine g_u (zC rfl rfl) <| g_u (zC rfl rfl) <| g_u (zC rfl rfl) <| g_u (zC rfl rfl) <| g_u (yK rfl rfl rfl) ?_
            refine g_u (si_lh rfl rfl rfl rfl Tryd.underlying9 (by ((try simp only [qa, qb, qc, ne_eq, beq_iff_eq, qd, qe, Bool.not_eq_true', Bool.not_eq_false', gt_iff_lt, ge_iff_le] at *); (repeat simp (disch := omega) only [z_, yN] at *)); omega)) ?_
            refine g_u (y5 rfl rfl rfl (by show _ ≤ (9223372036854775807 : Int); (try dsimp only); first | (simp only [zm, c0, c1, c4]; omega) | (have q := hx (of_decide_eq_true hb1); simp only [zm, za, yC, yA, q, c1, c4]; omega))) ?_
            refine g_u (zE rfl rfl) <| zH <| zW <| zA <| zB <| g_u (zC rfl rfl) <| g_u (yK rfl rfl rfl) <| g_u (zE rfl rfl) <| zH <| zA ?_
            change decide ((i : Int) < (s.size : Int)) = true at hb1
            have hi : i < s.size := by have := of_decide_eq_true hb1; omega
            obtain ⟨c, hc1, hc2⟩ := vB s i hi
            refine ⟨⟨i + 1, _⟩, ⟨hi, ?_⟩, ⟨rfl, rfl, zd rfl (by rw [z_ (by omega) (by omega)]; rfl), trivial⟩, by dsimp only; omega⟩
            dsimp only at *
            rw [zu hc1, wN, ← List.cons_append, ← h2, e2 hi, Int.toNat_natCast]
            simp only [beq_iff_eq, qe, ne_eq, qa, qb] at *
            first | (exfalso; omega) | exact resc1 hc1 (.inl (by omega)) | exact resc1 hc1 (.inr (by omega)) | exact resc2 hc1 (by omega) (by omega) (by omega) | exact resc3 hc1 (by omega) (by omega) (by omega)
        · refine zY ?_
          refine zA <| zD <| zB <| g_u (zC rfl rfl) <| g_u (zC rfl rfl) ?_
          refine g_u (si_ix rfl rfl rfl Tryd.underlying9 (by ((try simp only [qa, qb, qc, ne_eq, beq_iff_eq, qd, qe, Bool.not_eq_true', Bool.not_eq_false', gt_iff_lt, ge_iff_le] at *); (repeat simp (disch := omega) only [z_, yN] at *)); omega)) ?_
          refine g_u (yd rfl rfl rfl) <| zH <| zA ?_
          refine zV rfl (fun hb6 => ?_) (fun hb6 => ?_)
          · refine zB ?_
            refine g_u (zC rfl rfl) ?_
            refine g_u (y5 rfl rfl rfl (by show _ ≤ (9223372036854775807 : Int); (try dsimp only); first | (simp only [zm, c0, c1, c4]; omega) | (have q := hx (of_decide_eq_true hb1); simp only [zm, za, yC, yA, q, c1, c4]; omega))) ?_
            refine g_u (zC rfl rfl) <| g_u (zC rfl rfl) <| g_u (zC rfl rfl) <| g_u (yK rfl rfl rfl) ?_
            refine g_u (si_lh rfl rfl rfl rfl Tryd.underlying9 (by ((try simp only [qa, qb, qc, ne_eq, beq_iff_eq, qd, qe, Bool.not_eq_true', Bool.not_eq_false', gt_iff_lt, ge_iff_le] at *); (repeat simp (disch := omega) only [z_, yN] at *)); omega)) ?_
            refine g_u (zR (rhex_c _ (by have q := hx (of_decide_eq_true hb1); (try dsimp only); omega)) rfl rfl) ?_
            refine g_u (y5 rfl rfl rfl (by show _ ≤ (9223372036854775807 : Int); (try dsimp only); first | (simp only [zm, c0, c1, c4]; omega) | (have q := hx (of_decide_eq_true hb1); simp only [zm, za, yC, yA, q, c1, c4]; omega))) ?_
            refine g_u (zE rfl rfl) <| zH <| zW <| zA <| zB <| g_u (zC rfl rfl) <| g_u (yK rfl rfl rfl) <| g_u (zE rfl rfl) <| zH <| zA ?_
            change decide ((i : Int) < (s.size : Int)) = true at hb1
            have hi : i < s.size := by have := of_decide_eq_true hb1; omega
            obtain ⟨c, hc1, hc2⟩ := vB s i hi
            refine ⟨⟨i + 1, _⟩, ⟨hi, ?_⟩, ⟨rfl, rfl, zd rfl (by rw [z_ (by omega) (by omega)]; rfl), trivial⟩, by dsimp only; omega⟩
            dsimp only at *
            rw [zu hc1, wN, ← List.cons_append, ← h2, e2 hi, Int.toNat_natCast]
            simp only [beq_iff_eq, qe, ne_eq, qa, qb] at *
            first | (exfalso; omega) | exact resc1 hc1 (.inl (by omega)) | exact resc1 hc1 (.inr (by omega)) | exact resc2 hc1 (by omega) (by omega) (by omega) | exact resc3 hc1 (by omega) (by omega) (by omega)
          · refine zB ?_
            refine g_u (zC rfl rfl) <| g_u (zC rfl rfl) <| g_u (zC rfl rfl) <| g_u (zC rfl rfl) <| g_u (yK rfl rfl rfl) ?_
            refine g_u (si_lh rfl rfl rfl rfl Tryd.underlying9 (by ((try simp only [qa, qb, qc, ne_eq, beq_iff_eq, qd, qe, Bool.not_eq_true', Bool.not_eq_false', gt_iff_lt, ge_iff_le] at *); (repeat simp (disch := omega) only [z_, yN] at *)); omega)) ?_
            refine g_u (y5 rfl rfl rfl (by show _ ≤ (9223372036854775807 : Int); (try dsimp only); first | (simp only [zm, c0, c1, c4]; omega) | (have q := hx (of_decide_eq_true hb1); simp only [zm, za, yC, yA, q, c1, c4]; omega))) ?_
            refine g_u (zE rfl rfl) <| zH <| zW <| zA <| zB <| g_u (zC rfl rfl) <| g_u (yK rfl rfl rfl) <| g_u (zE rfl rfl) <| zH <| zA ?_
            change decide ((i : Int) < (s.size : Int)) = true at hb1
            have hi : i < s.size := by have := of_decide_eq_true hb1; omega
            obtain ⟨c, hc1, hc2⟩ := vB s i hi
            refine ⟨⟨i + 1, _⟩, ⟨hi, ?_⟩, ⟨rfl, rfl, zd rfl (by rw [z_ (by omega) (by omega)]; rfl), trivial⟩, by dsimp only; omega⟩
            dsimp only at *
            rw [zu hc1, wN, ← List.cons_append, ← h2, e2 hi, Int.toNat_natCast]
            simp only [beq_iff_eq, qe, ne_eq, qa, qb] at *
            first | (exfalso; omega) | exact resc1 hc1 (.inl (by omega)) | exact resc1 hc1 (.inr (by omega)) | exact resc2 hc1 (by omega) (by omega) (by omega) | exact resc3 hc1 (by omega) (by omega) (by omega)
    · refine zt ?_
      refine zP <| zP <| zj <| zA <| zD <| zB <| g_u (zC rfl rfl) ?_
      refine g_u (y5 rfl rfl rfl (by show _ ≤ (9223372036854775807 : Int); (try dsimp only); first | (simp only [zm, c0, c1, c4]; omega) | (have q := hx (of_decide_eq_true hb1); simp only [zm, za, yC, yA, q, c1, c4]; omega))) ?_
      refine g_u (zE rfl rfl) <| zH <| zA <| zQ ?_
      change decide ((i : Int) < (s.size : Int)) = false at hb1
      have hi : i = s.size := by have := of_decide_eq_false hb1; omega
      exact ⟨⟨(rfl : toAV (Al.look _ _) = some _).trans (congrArg (fun z => some (sv z)) (strOf_eq (by show lst (t ++ ⟨#[34]⟩) = _; rw [xO, h2, hi, List.take_of_length_le (Nat.le_of_eq hz)]; rfl))), rfl⟩, trivial⟩
theorem rcomma_c (i : Nat) : zo Tryd.prog Γ0 109 [iv (i : Int)] [sv (yb (comma (i == 0)))] := by
  refine zf Tryd.func109 rfl Tryd.ntmps109 (by kernel_rfl) rfl fun w0 I0 G0 => ?_
  refine zD <| zB <| g_u (zE rfl rfl) <| zH <| zA <| zD <| zD <| zB <| g_u (zC rfl rfl) <| g_u (xM rfl rfl rfl) <| zH <| zA ?_
  refine zV rfl (fun hb1 => ?_) (fun hb1 => ?_)
  · refine zD ?_
    refine zB <| g_u (zE rfl rfl) <| zH <| zA <| zQ <| zM ?_
    exact ⟨⟨(rfl : toAV (Al.look _ _) = some _).trans (congrArg some (by (have e : i = 0 := (by have : (i : Int) = 0 := (by simpa using hb1); omega); rw [e]; rfl))), rfl⟩, trivial⟩
  · refine zY ?_
    refine zA <| zD <| zB <| g_u (zE rfl rfl) <| zH <| zA <| zQ ?_
    exact ⟨⟨(rfl : toAV (Al.look _ _) = some _).trans (congrArg some (by (have e : i ≠ 0 := (by have : (i : Int) ≠ 0 := (by simpa using hb1); omega); rw [show (i == 0) = false from by simpa using e]; rfl))), rfl⟩, trivial⟩
theorem rsimple_c (v : GV) (ho : v.ok) (hw : v.wt ≤ 10000000) : zo Tryd.prog Γ0 93 [v.av] [sv (yb (wL v))] := by
  have lv := xW v.list
  have la := yo v.map
  have ek := v.wt_eq
  have ok := v.ok_iff.1 ho
  have sl := yl v
  have jl := yY v
  refine zf Tryd.func93 rfl Tryd.ntmps93 (by kernel_rfl) rfl fun w0 I0 G0 => ?_
  refine zD <| zB <| g_uG (zn 1001 rfl rfl rfl rfl) rfl <| g_u (zE rfl rfl) <| zH <| zA <| zD <| zD <| zB <| g_u (zF rfl rfl xn rfl) <| g_u (zG rfl rfl rfl tA5 tS5 rfl rfl) <| g_u (xM rfl rfl rfl) <| zH <| zA ?_
  refine zV rfl (fun hb1 => ?_) (fun hb1 => ?_)
  · refine zD ?_
    refine zB <| g_u (zF rfl rfl fa71_1 rfl) <| g_u (zG rfl rfl rfl tA9 tS9 rfl rfl) <| g_u (zE rfl rfl) <| zH <| zA <| zQ <| zM ?_
    exact ⟨⟨(rfl : toAV (Al.look _ _) = some _).trans (congrArg some (by (simp only [beq_iff_eq, qe, ne_eq, qa, qb] at *; first | (exfalso; omega) | exact congrArg sv (simp1 (by omega)).symm | (rw [simp2 (by omega) (by omega)]; rfl) | (rw [simp2' (by omega) (by omega)]; rfl) | (rw [simp3 (by omega)]) | (rw [simp4 (by omega), yH]; rfl) | (rw [simp5 (by omega)]) | (rw [simp6 (by omega)]; rfl)))), rfl⟩, trivial⟩
  · refine zY ?_
    refine zA <| zD <| zD <| zB <| g_u (zF rfl rfl xn rfl) <| g_u (zG rfl rfl rfl tA5 tS5 rfl rfl) <| g_u (xM rfl rfl rfl) <| g_u (zC rfl rfl) <| yL (t := 11) rfl ?_
    rintro (hb2 | hb2)
    · rw [hb2]
      refine zO rfl rfl (zF rfl rfl fa71_2 rfl) <| zO rfl rfl (zG rfl rfl rfl tA3 tS3 rfl rfl) <| zO rfl rfl (xM rfl rfl rfl) <| g_u (zZ rfl rfl rfl) <| zH <| zA ?_
      refine zV rfl (fun hb3 => ?_) (fun hb3 => ?_)
      · refine zD ?_
        refine zB <| g_u (zE rfl rfl) <| zH <| zA <| zQ <| zM ?_
        exact ⟨⟨(rfl : toAV (Al.look _ _) = some _).trans (congrArg some (by (simp only [beq_iff_eq, qe, ne_eq, qa, qb] at *; first | (exfalso; omega) | exact congrArg sv (simp1 (by omega)).symm | (rw [simp2 (by omega) (by omega)]; rfl) | (rw [simp2' (by omega) (by omega)]; rfl) | (rw [simp3 (by omega)]) | (rw [simp4 (by omega), yH]; rfl) | (rw [simp5 (by omega)]) | (rw [simp6 (by omega)]; rfl)))), rfl⟩, trivial⟩
      · refine zY ?_
        refine zA <| zD <| zD <| zB <| g_u (zF rfl rfl xn rfl) <| g_u (zG rfl rfl rfl tA5 tS5 rfl rfl) <| g_u (xM rfl rfl rfl) <| zH <| zA ?_
        refine zV rfl (fun hb4 => ?_) (fun hb4 => ?_)
        · refine zD ?_
          refine zB <| g_u (zE rfl rfl) <| zH <| zA <| zQ <| zM ?_
          exact ⟨⟨(rfl : toAV (Al.look _ _) = some _).trans (congrArg some (by (simp only [beq_iff_eq, qe, ne_eq, qa, qb] at *; first | (exfalso; omega) | exact congrArg sv (simp1 (by omega)).symm | (rw [simp2 (by omega) (by omega)]; rfl) | (rw [simp2' (by omega) (by omega)]; rfl) | (rw [simp3 (by omega)]) | (rw [simp4 (by omega), yH]; rfl) | (rw [simp5 (by omega)]) | (rw [simp6 (by omega)]; rfl)))), rfl⟩, trivial⟩
        · refine zY ?_
          refine zA <| zD <| zD <| zB <| g_u (zF rfl rfl xn rfl) <| g_u (zG rfl rfl rfl tA5 tS5 rfl rfl) <| g_u (xM rfl rfl rfl) <| zH <| zA ?_
          refine zV rfl (fun hb5 => ?_) (fun hb5 => ?_)
          · refine zD ?_
            refine zB <| g_u (zF rfl rfl fa71_2 rfl) <| g_u (zG rfl rfl rfl tA3 tS3 rfl rfl) <| g_u (zR (rdec_c _ ok.2.2.1) rfl rfl) <| g_u (zE rfl rfl) <| zH <| zA <| zQ <| zM ?_
            exact ⟨⟨(rfl : toAV (Al.look _ _) = some _).trans (congrArg some (by (simp only [beq_iff_eq, qe, ne_eq, qa, qb] at *; first | (exfalso; omega) | exact congrArg sv (simp1 (by omega)).symm | (rw [simp2 (by omega) (by omega)]; rfl) | (rw [simp2' (by omega) (by omega)]; rfl) | (rw [simp3 (by omega)]) | (rw [simp4 (by omega), yH]; rfl) | (rw [simp5 (by omega)]) | (rw [simp6 (by omega)]; rfl)))), rfl⟩, trivial⟩
          · refine zY ?_
            refine zA <| zD <| zD <| zB <| g_u (zF rfl rfl xn rfl) <| g_u (zG rfl rfl rfl tA5 tS5 rfl rfl) <| g_u (xM rfl rfl rfl) <| zH <| zA ?_
            refine zV rfl (fun hb6 => ?_) (fun hb6 => ?_)
            · refine zD ?_
              refine zB <| g_u (zF rfl rfl fa71_3 rfl) <| g_u (zG rfl rfl rfl tA29 tS29 rfl rfl) <| g_u (zR (rhigh_c _ ok.2.2.2.1) rfl rfl) ?_
              refine g_u (zR (rhex_c _ (by first | omega | (rw [za, xe]; omega))) rfl rfl) ?_
              refine g_u (y5 rfl rfl rfl (by show _ ≤ (9223372036854775807 : Int); simp only [za, yC, yH, xe]; first | omega | (show 2 + _ ≤ _; omega) | (have c1 : (ByteArray.mk #[48, 120]).size = 2 := rfl; omega))) ?_
              refine g_u (zE rfl rfl) <| zH <| zA <| zQ <| zM ?_
              exact ⟨⟨(rfl : toAV (Al.look _ _) = some _).trans (congrArg some (by (simp only [beq_iff_eq, qe, ne_eq, qa, qb] at *; first | (exfalso; omega) | exact congrArg sv (simp1 (by omega)).symm | (rw [simp2 (by omega) (by omega)]; rfl) | (rw [simp2' (by omega) (by omega)]; rfl) | (rw [simp3 (by omega)]) | (rw [simp4 (by omega), yH]; rfl) | (rw [simp5 (by omega)]) | (rw [simp6 (by omega)]; rfl)))), rfl⟩, trivial⟩
            · refine zY ?_
              refine zA <| zD <| zD <| zB <| g_u (zF rfl rfl xn rfl) <| g_u (zG rfl rfl rfl tA5 tS5 rfl rfl) <| g_u (xM rfl rfl rfl) <| zH <| zA ?_
              refine zV rfl (fun hb7 => ?_) (fun hb7 => ?_)
              · refine zD ?_
                refine zB <| g_u (zF rfl rfl fa71_1 rfl) <| g_u (zG rfl rfl rfl tA9 tS9 rfl rfl) ?_
                refine g_u (zR (rhex_c _ (by first | omega | (rw [za, xe]; omega))) rfl rfl) ?_
                refine g_u (zE rfl rfl) <| zH <| zA <| zQ <| zM ?_
                exact ⟨⟨(rfl : toAV (Al.look _ _) = some _).trans (congrArg some (by (simp only [beq_iff_eq, qe, ne_eq, qa, qb] at *; first | (exfalso; omega) | exact congrArg sv (simp1 (by omega)).symm | (rw [simp2 (by omega) (by omega)]; rfl) | (rw [simp2' (by omega) (by omega)]; rfl) | (rw [simp3 (by omega)]) | (rw [simp4 (by omega), yH]; rfl) | (rw [simp5 (by omega)]) | (rw [simp6 (by omega)]; rfl)))), rfl⟩, trivial⟩
              · refine zY ?_
                refine zA <| zD <| zB <| g_u (zE rfl rfl) <| zH <| zA <| zQ ?_
                exact ⟨⟨(rfl : toAV (Al.look _ _) = some _).trans (congrArg some (by (simp only [beq_iff_eq, qe, ne_eq, qa, qb] at *; first | (exfalso; omega) | exact congrArg sv (simp1 (by omega)).symm | (rw [simp2 (by omega) (by omega)]; rfl) | (rw [simp2' (by omega) (by omega)]; rfl) | (rw [simp3 (by omega)]) | (rw [simp4 (by omega), yH]; rfl) | (rw [simp5 (by omega)]) | (rw [simp6 (by omega)]; rfl)))), rfl⟩, trivial⟩
    · rw [hb2]
      refine zI rfl rfl rfl <| zI rfl rfl rfl <| zI rfl rfl rfl <| g_u (zr rfl rfl rfl) <| zH <| zA <| z7 rfl <| zY <| zA <| zD <| zD <| zB <| g_u (zF rfl rfl xn rfl) <| g_u (zG rfl rfl rfl tA5 tS5 rfl rfl) <| g_u (xM rfl rfl rfl) <| zH <| zA ?_
      refine zV rfl (fun hb8 => ?_) (fun hb8 => ?_)
      · refine zD ?_
        refine zB <| g_u (zE rfl rfl) <| zH <| zA <| zQ <| zM ?_
        exact ⟨⟨(rfl : toAV (Al.look _ _) = some _).trans (congrArg some (by (simp only [beq_iff_eq, qe, ne_eq, qa, qb] at *; first | (exfalso; omega) | exact congrArg sv (simp1 (by omega)).symm | (rw [simp2 (by omega) (by omega)]; rfl) | (rw [simp2' (by omega) (by omega)]; rfl) | (rw [simp3 (by omega)]) | (rw [simp4 (by omega), yH]; rfl) | (rw [simp5 (by omega)]) | (rw [simp6 (by omega)]; rfl)))), rfl⟩, trivial⟩
      · refine zY ?_
        refine zA <| zD <| zD <| zB <| g_u (zF rfl rfl xn rfl) <| g_u (zG rfl rfl rfl tA5 tS5 rfl rfl) <| g_u (xM rfl rfl rfl) <| zH <| zA ?_
        refine zV rfl (fun hb9 => ?_) (fun hb9 => ?_)
        · refine zD ?_
          refine zB <| g_u (zF rfl rfl fa71_2 rfl) <| g_u (zG rfl rfl rfl tA3 tS3 rfl rfl) <| g_u (zR (rdec_c _ ok.2.2.1) rfl rfl) <| g_u (zE rfl rfl) <| zH <| zA <| zQ <| zM ?_
          exact ⟨⟨(rfl : toAV (Al.look _ _) = some _).trans (congrArg some (by (simp only [beq_iff_eq, qe, ne_eq, qa, qb] at *; first | (exfalso; omega) | exact congrArg sv (simp1 (by omega)).symm | (rw [simp2 (by omega) (by omega)]; rfl) | (rw [simp2' (by omega) (by omega)]; rfl) | (rw [simp3 (by omega)]) | (rw [simp4 (by omega), yH]; rfl) | (rw [simp5 (by omega)]) | (rw [simp6 (by omega)]; rfl)))), rfl⟩, trivial⟩
        · refine zY ?_
          refine zA <| zD <| zD <| zB <| g_u (zF rfl rfl xn rfl) <| g_u (zG rfl rfl rfl tA5 tS5 rfl rfl) <| g_u (xM rfl rfl rfl) <| zH <| zA ?_
          refine zV rfl (fun hb10 => ?_) (fun hb10 => ?_)
          · refine zD ?_
            refine zB <| g_u (zF rfl rfl fa71_3 rfl) <| g_u (zG rfl rfl rfl tA29 tS29 rfl rfl) <| g_u (zR (rhigh_c _ ok.2.2.2.1) rfl rfl) ?_
            refine g_u (zR (rhex_c _ (by first | omega | (rw [za, xe]; omega))) rfl rfl) ?_
            refine g_u (y5 rfl rfl rfl (by show _ ≤ (9223372036854775807 : Int); simp only [za, yC, yH, xe]; first | omega | (show 2 + _ ≤ _; omega) | (have c1 : (ByteArray.mk #[48, 120]).size = 2 := rfl; omega))) ?_
            refine g_u (zE rfl rfl) <| zH <| zA <| zQ <| zM ?_
            exact ⟨⟨(rfl : toAV (Al.look _ _) = some _).trans (congrArg some (by (simp only [beq_iff_eq, qe, ne_eq, qa, qb] at *; first | (exfalso; omega) | exact congrArg sv (simp1 (by omega)).symm | (rw [simp2 (by omega) (by omega)]; rfl) | (rw [simp2' (by omega) (by omega)]; rfl) | (rw [simp3 (by omega)]) | (rw [simp4 (by omega), yH]; rfl) | (rw [simp5 (by omega)]) | (rw [simp6 (by omega)]; rfl)))), rfl⟩, trivial⟩
          · refine zY ?_
            refine zA <| zD <| zD <| zB <| g_u (zF rfl rfl xn rfl) <| g_u (zG rfl rfl rfl tA5 tS5 rfl rfl) <| g_u (xM rfl rfl rfl) <| zH <| zA ?_
            refine zV rfl (fun hb11 => ?_) (fun hb11 => ?_)
            · refine zD ?_
              refine zB <| g_u (zF rfl rfl fa71_1 rfl) <| g_u (zG rfl rfl rfl tA9 tS9 rfl rfl) ?_
              refine g_u (zR (rhex_c _ (by first | omega | (rw [za, xe]; omega))) rfl rfl) ?_
              refine g_u (zE rfl rfl) <| zH <| zA <| zQ <| zM ?_
              exact ⟨⟨(rfl : toAV (Al.look _ _) = some _).trans (congrArg some (by (simp only [beq_iff_eq, qe, ne_eq, qa, qb] at *; first | (exfalso; omega) | exact congrArg sv (simp1 (by omega)).symm | (rw [simp2 (by omega) (by omega)]; rfl) | (rw [simp2' (by omega) (by omega)]; rfl) | (rw [simp3 (by omega)]) | (rw [simp4 (by omega), yH]; rfl) | (rw [simp5 (by omega)]) | (rw [simp6 (by omega)]; rfl)))), rfl⟩, trivial⟩
            · refine zY ?_
              refine zA <| zD <| zB <| g_u (zE rfl rfl) <| zH <| zA <| zQ ?_
              exact ⟨⟨(rfl : toAV (Al.look _ _) = some _).trans (congrArg some (by (simp only [beq_iff_eq, qe, ne_eq, qa, qb] at *; first | (exfalso; omega) | exact congrArg sv (simp1 (by omega)).symm | (rw [simp2 (by omega) (by omega)]; rfl) | (rw [simp2' (by omega) (by omega)]; rfl) | (rw [simp3 (by omega)]) | (rw [simp4 (by omega), yH]; rfl) | (rw [simp5 (by omega)]) | (rw [simp6 (by omega)]; rfl)))), rfl⟩, trivial⟩
theorem rjson_step (v : GV) (ho : v.ok) (hw : v.wt ≤ 10000000) (ih : ∀ y ∈ v.list, zo Tryd.prog Γ0 92 [y.av] [sv (yb (y8 y))]) (ihm : ∀ a ∈ v.map, zo Tryd.prog Γ0 92 [a.val.av] [sv (yb (y8 a.val))]) : zo Tryd.prog Γ0 92 [v.av] [sv (yb (y8 v))] := by
  have lv := xW v.list
  have la := yo v.map
  have ek := v.wt_eq
  have ok := v.ok_iff.1 ho
  have sl := yl v
  have jl := yY v
  have c1 : (ByteArray.mk #[91]).size = 1 := rfl
  have c2 : (ByteArray.mk #[93]).size = 1 := rfl
  have c3 : (ByteArray.mk #[123]).size = 1 := rfl
  have c4 : (ByteArray.mk #[125]).size = 1 := rfl
  have c5 : (ByteArray.mk #[58]).size = 1 := rfl
  refine zf Tryd.func92 rfl Tryd.ntmps92 (by kernel_rfl) rfl fun w0 I0 G0 => ?_
  refine zD <| zB <| g_uG (zn 1001 rfl rfl rfl rfl) rfl <| g_u (zE rfl rfl) <| zH <| zA <| zD <| zD <| zB <| g_u (zF rfl rfl xn rfl) <| g_u (zG rfl rfl rfl tA5 tS5 rfl rfl) <| g_u (xM rfl rfl rfl) <| zH <| zA ?_
  refine zV rfl (fun hb1 => ?_) (fun hb1 => ?_)
  · refine zD ?_
    refine zB <| g_u (zE rfl rfl) <| zH <| zA <| zQ <| zM ?_
    exact ⟨⟨(rfl : toAV (Al.look _ _) = some _).trans (congrArg some (by (simp only [beq_iff_eq, qe, ne_eq, qa, qb] at *; rw [json0 (by omega)]; rfl))), rfl⟩, trivial⟩
  · refine zY ?_
    refine zA <| zD <| zD <| zB <| g_u (zF rfl rfl xn rfl) <| g_u (zG rfl rfl rfl tA5 tS5 rfl rfl) <| g_u (xM rfl rfl rfl) <| g_u (zC rfl rfl) <| yL (t := 12) rfl ?_
    rintro (hb2 | hb2)
    · rw [hb2]
      refine zI rfl rfl rfl <| zI rfl rfl rfl <| zI rfl rfl rfl <| g_u (zZ rfl rfl rfl) <| g_u (zC rfl rfl) <| zI rfl rfl rfl <| zI rfl rfl rfl <| zI rfl rfl rfl <| g_u (zZ rfl rfl rfl) <| zH <| zA <| zg rfl <| zD <| zB <| g_u (zG rfl rfl rfl tA71 tS71 rfl rfl) <| g_u (zR (rsimple_c _ ho hw) rfl rfl) ?_
      refine g_u (zR (rquote_c _ (by first | exact hka | (rw [za]; omega))) rfl rfl) ?_
      refine g_u (zE rfl rfl) <| zH <| zA <| zQ <| zM ?_
      exact ⟨⟨(rfl : toAV (Al.look _ _) = some _).trans (congrArg some (by (simp only [beq_iff_eq, qe, ne_eq, qa, qb] at *; rw [jsonS (by omega)]; rw [yH]))), rfl⟩, trivial⟩
    · rw [hb2]
      refine zO rfl rfl (zF rfl rfl xn rfl) <| zO rfl rfl (zG rfl rfl rfl tA5 tS5 rfl rfl) <| zO rfl rfl (xM rfl rfl rfl) <| g_u (zr rfl rfl rfl) <| g_u (zC rfl rfl) <| yL (t := 17) rfl ?_
      rintro (hb3 | hb3)
      · rw [hb3]
        refine zI rfl rfl rfl <| zI rfl rfl rfl <| zI rfl rfl rfl <| g_u (zZ rfl rfl rfl) <| zH <| zA <| zg rfl <| zD <| zB <| g_u (zG rfl rfl rfl tA71 tS71 rfl rfl) <| g_u (zR (rsimple_c _ ho hw) rfl rfl) ?_
        refine g_u (zR (rquote_c _ (by first | exact hka | (rw [za]; omega))) rfl rfl) ?_
        refine g_u (zE rfl rfl) <| zH <| zA <| zQ <| zM ?_
        exact ⟨⟨(rfl : toAV (Al.look _ _) = some _).trans (congrArg some (by (simp only [beq_iff_eq, qe, ne_eq, qa, qb] at *; rw [jsonS (by omega)]; rw [yH]))), rfl⟩, trivial⟩
      · rw [hb3]
        refine zO rfl rfl (zF rfl rfl xn rfl) <| zO rfl rfl (zG rfl rfl rfl tA5 tS5 rfl rfl) <| zO rfl rfl (xM rfl rfl rfl) <| g_u (zr rfl rfl rfl) <| zH <| zA ?_
        refine zV rfl (fun hb4 => ?_) (fun hb4 => ?_)
        · refine zD ?_
          refine zB <| g_u (zG rfl rfl rfl tA71 tS71 rfl rfl) <| g_u (zR (rsimple_c _ ho hw) rfl rfl) ?_
          refine g_u (zR (rquote_c _ (by first | exact hka | (rw [za]; omega))) rfl rfl) ?_
          refine g_u (zE rfl rfl) <| zH <| zA <| zQ <| zM ?_
          exact ⟨⟨(rfl : toAV (Al.look _ _) = some _).trans (congrArg some (by (simp only [beq_iff_eq, qe, ne_eq, qa, qb] at *; rw [jsonS (by omega)]; rw [yH]))), rfl⟩, trivial⟩
        · refine zY ?_
          refine zA <| zD <| zB <| g_u (zE rfl rfl) <| zH <| zA <| zD <| zD <| zB <| g_u (zF rfl rfl xn rfl) <| g_u (zG rfl rfl rfl tA5 tS5 rfl rfl) <| g_u (xM rfl rfl rfl) <| zH <| zA ?_
          refine zV rfl (fun hb5 => ?_) (fun hb5 => ?_)
          · refine zD ?_
            refine zD <| zB <| g_u (zE rfl rfl) <| zH <| zA <| zT ?_
            refine zq (fun j : Nat × ByteArray => [(1, .ptr 1001 0), (1001, .box 71 (.imm v.av)), (3, .imm (sv j.2)), (4, .imm (iv (j.1 : Int)))]) (fun j => j.1 ≤ v.list.length ∧ lst j.2 = wv true (v.list.take j.1)) (fun j => v.list.length - j.1) (⟨0, ⟨#[]⟩⟩) ?_ ⟨rfl, rfl, rfl, rfl, trivial⟩ ?_
            · exact ⟨Nat.zero_le _, rfl⟩
            · rintro ⟨i, t⟩ ⟨h1, h2⟩; dsimp only at h1 h2; have hlen : t.size ≤ 150 * wtVs (v.list.take i) := by rw [← yA t, h2]; exact jsonVs_len _ _
              have htk := wtVs_take v.list i
              refine zD <| zD <| zB <| g_u (zC rfl rfl) <| g_u (zF rfl rfl fa71_4 rfl) <| g_u (zG rfl rfl rfl tA69 tS69 rfl rfl) <| g_u (zz rfl rfl Tryd.underlying69) <| g_u (yd rfl rfl rfl) <| zH <| zA ?_
              refine zV rfl (fun hb6 => ?_) (fun hb6 => ?_)
              · have hiv : i < v.list.length := by have := of_decide_eq_true hb6; simp only [List.length_map] at this; omega
                refine zY <| zA <| zD <| zT <| yM y6 <| g_u (zC rfl rfl) <| g_u (zC rfl rfl) <| g_u (zR (rcomma_c _) rfl rfl) ?_
                refine g_u (y5 rfl rfl rfl (by show _ ≤ (9223372036854775807 : Int); (try dsimp only); first | (have q1 := wQ hiv; have q2 := yY (nthV v.list i); have q3 := yF (i == 0); simp only [zm, za, c1, c2, c3, c4, c5]; omega) | (have q1 := yj hia; have q2 := xy (nthA v.map i); have q3 := yF (i == 0); have q4 := (nthA v.map i).wt_eq; have q5 := zv (lst (nthA v.map i).key); have q6 := yA (nthA v.map i).key; have q7 := yY (nthA v.map i).val; simp only [zm, za, c1, c2, c3, c4, c5]; omega) | (simp only [zm, za, c1, c2, c3, c4, c5]; omega))) ?_
                refine g_u (zF rfl rfl fa71_4 rfl) <| g_u (zG rfl rfl rfl tA69 tS69 rfl rfl) <| g_u (zC rfl rfl) ?_
                refine g_u (zJ rfl rfl rfl Tryd.underlying69 tS71 (by omega) (ixV hiv)) ?_
                refine g_u (zN rfl rfl tA71 tS71 rfl rfl) ?_
                refine g_u (zR ((by first | exact ih _ (nthV_mem hiv) | exact ihm _ (wR hia))) rfl rfl) ?_
                refine g_u (y5 rfl rfl rfl (by show _ ≤ (9223372036854775807 : Int); (try dsimp only); first | (have q1 := wQ hiv; have q2 := yY (nthV v.list i); have q3 := yF (i == 0); simp only [zm, za, c1, c2, c3, c4, c5]; omega) | (have q1 := yj hia; have q2 := xy (nthA v.map i); have q3 := yF (i == 0); have q4 := (nthA v.map i).wt_eq; have q5 := zv (lst (nthA v.map i).key); have q6 := yA (nthA v.map i).key; have q7 := yY (nthA v.map i).val; simp only [zm, za, c1, c2, c3, c4, c5]; omega) | (simp only [zm, za, c1, c2, c3, c4, c5]; omega))) ?_
                refine g_u (zE rfl rfl) ?_
                refine zH ⟨by kernel_rfl, ?_⟩
                refine zW <| zA <| zB <| g_u (zC rfl rfl) <| g_u (yK rfl rfl rfl) <| g_u (zE rfl rfl) <| zH <| zA ?_
                refine ⟨⟨i + 1, _⟩, ⟨hiv, ?_⟩, ⟨rfl, rfl, rfl, zd rfl (by rw [z_ (by omega) (by omega)]; rfl), trivial⟩, by dsimp only; omega⟩
                show lst (t ++ yb (comma (i == 0)) ++ yb (y8 (nthV v.list i))) = _
                rw [jsonVs_take hiv, xO, xO, yH, yH, h2]
              · have hi : i = v.list.length := by have := of_decide_eq_false hb6; simp only [List.length_map] at this; omega
                refine zt <| zP <| zP <| zj <| zA <| zD <| zB <| g_u (zC rfl rfl) ?_
                refine g_u (y5 rfl rfl rfl (by show _ ≤ (9223372036854775807 : Int); (try dsimp only); first | (have q1 := wQ hiv; have q2 := yY (nthV v.list i); have q3 := yF (i == 0); simp only [zm, za, c1, c2, c3, c4, c5]; omega) | (have q1 := yj hia; have q2 := xy (nthA v.map i); have q3 := yF (i == 0); have q4 := (nthA v.map i).wt_eq; have q5 := zv (lst (nthA v.map i).key); have q6 := yA (nthA v.map i).key; have q7 := yY (nthA v.map i).val; simp only [zm, za, c1, c2, c3, c4, c5]; omega) | (simp only [zm, za, c1, c2, c3, c4, c5]; omega))) ?_
                refine g_u (y5 rfl rfl rfl (by show _ ≤ (9223372036854775807 : Int); (try dsimp only); first | (have q1 := wQ hiv; have q2 := yY (nthV v.list i); have q3 := yF (i == 0); simp only [zm, za, c1, c2, c3, c4, c5]; omega) | (have q1 := yj hia; have q2 := xy (nthA v.map i); have q3 := yF (i == 0); have q4 := (nthA v.map i).wt_eq; have q5 := zv (lst (nthA v.map i).key); have q6 := yA (nthA v.map i).key; have q7 := yY (nthA v.map i).val; simp only [zm, za, c1, c2, c3, c4, c5]; omega) | (simp only [zm, za, c1, c2, c3, c4, c5]; omega))) ?_
                refine g_u (zE rfl rfl) <| zH <| zA <| zQ <| zM ?_
                exact ⟨⟨(rfl : toAV (Al.look _ _) = some _).trans (congrArg some (by (simp only [beq_iff_eq, qe, ne_eq, qa, qb] at *; rw [json6 (by omega)]; refine congrArg sv (strOf_eq ?_); show lst (⟨#[91]⟩ ++ t ++ ⟨#[93]⟩) = _; rw [xO, xO, h2, hi, List.take_of_length_le (Nat.le_refl _)]; rfl))), rfl⟩, trivial⟩
          · refine zY ?_
            refine zA <| zD <| zD <| zB <| g_u (zF rfl rfl xn rfl) <| g_u (zG rfl rfl rfl tA5 tS5 rfl rfl) <| g_u (xM rfl rfl rfl) <| zH <| zA ?_
            refine zV rfl (fun hb7 => ?_) (fun hb7 => ?_)
            · refine zD ?_
              refine zD <| zB <| g_u (zE rfl rfl) <| zH <| zA <| zT ?_
              refine zq (fun j : Nat × ByteArray => [(1, .ptr 1001 0), (1001, .box 71 (.imm v.av)), (3, .imm (sv j.2)), (5, .imm (iv (j.1 : Int)))]) (fun j => j.1 ≤ v.map.length ∧ lst j.2 = wr true (v.map.take j.1)) (fun j => v.map.length - j.1) (⟨0, ⟨#[]⟩⟩) ?_ ⟨rfl, rfl, rfl, rfl, trivial⟩ ?_
              · exact ⟨Nat.zero_le _, rfl⟩
              · rintro ⟨i, t⟩ ⟨h1, h2⟩; dsimp only at h1 h2; have hlen : t.size ≤ 150 * wtAs (v.map.take i) := by rw [← yA t, h2]; exact jsonAs_len _ _
                have htk := wtAs_take v.map i
                refine zD <| zD <| zB <| g_u (zC rfl rfl) <| g_u (zF rfl rfl fa71_5 rfl) <| g_u (zG rfl rfl rfl tA30 tS30 rfl rfl) <| g_u (zz rfl rfl Tryd.underlying30) <| g_u (yd rfl rfl rfl) <| zH <| zA ?_
                refine zV rfl (fun hb8 => ?_) (fun hb8 => ?_)
                · have hia : i < v.map.length := by have := of_decide_eq_true hb8; simp only [List.length_map] at this; omega
                  have hka : (nthA v.map i).key.size ≤ 100000000000 := by have q1 := yj hia; have q4 := (nthA v.map i).wt_eq; omega
                  refine zY <| zA <| zD <| zT <| yM y6 <| g_u (zC rfl rfl) <| g_u (zC rfl rfl) <| g_u (zR (rcomma_c _) rfl rfl) ?_
                  refine g_u (y5 rfl rfl rfl (by show _ ≤ (9223372036854775807 : Int); (try dsimp only); first | (have q1 := wQ hiv; have q2 := yY (nthV v.list i); have q3 := yF (i == 0); simp only [zm, za, c1, c2, c3, c4, c5]; omega) | (have q1 := yj hia; have q2 := xy (nthA v.map i); have q3 := yF (i == 0); have q4 := (nthA v.map i).wt_eq; have q5 := zv (lst (nthA v.map i).key); have q6 := yA (nthA v.map i).key; have q7 := yY (nthA v.map i).val; simp only [zm, za, c1, c2, c3, c4, c5]; omega) | (simp only [zm, za, c1, c2, c3, c4, c5]; omega))) ?_
                  refine g_u (zF rfl rfl fa71_5 rfl) <| g_u (zG rfl rfl rfl tA30 tS30 rfl rfl) <| g_u (zC rfl rfl) ?_
                  refine g_u (zJ rfl rfl rfl Tryd.underlying30 tS73 (by omega) (ixA hia)) ?_
                  refine g_u (zL rfl rfl wq rfl rfl) <| g_u (zN rfl rfl tA9 tS9 rfl rfl) ?_
                  refine g_u (zR (rquote_c _ (by first | exact hka | (rw [za]; omega))) rfl rfl) ?_
                  refine g_u (y5 rfl rfl rfl (by show _ ≤ (9223372036854775807 : Int); (try dsimp only); first | (have q1 := wQ hiv; have q2 := yY (nthV v.list i); have q3 := yF (i == 0); simp only [zm, za, c1, c2, c3, c4, c5]; omega) | (have q1 := yj hia; have q2 := xy (nthA v.map i); have q3 := yF (i == 0); have q4 := (nthA v.map i).wt_eq; have q5 := zv (lst (nthA v.map i).key); have q6 := yA (nthA v.map i).key; have q7 := yY (nthA v.map i).val; simp only [zm, za, c1, c2, c3, c4, c5]; omega) | (simp only [zm, za, c1, c2, c3, c4, c5]; omega))) ?_
                  refine g_u (y5 rfl rfl rfl (by show _ ≤ (9223372036854775807 : Int); (try dsimp only); first | (have q1 := wQ hiv; have q2 := yY (nthV v.list i); have q3 := yF (i == 0); simp only [zm, za, c1, c2, c3, c4, c5]; omega) | (have q1 := yj hia; have q2 := xy (nthA v.map i); have q3 := yF (i == 0); have q4 := (nthA v.map i).wt_eq; have q5 := zv (lst (nthA v.map i).key); have q6 := yA (nthA v.map i).key; have q7 := yY (nthA v.map i).val; simp only [zm, za, c1, c2, c3, c4, c5]; omega) | (simp only [zm, za, c1, c2, c3, c4, c5]; omega))) ?_
                  refine g_u (zF rfl rfl fa71_5 rfl) <| g_u (zG rfl rfl rfl tA30 tS30 rfl rfl) <| g_u (zC rfl rfl) ?_
                  refine g_u (zJ rfl rfl rfl Tryd.underlying30 tS73 (by omega) (ixA hia)) ?_
                  refine g_u (zL rfl rfl fa73_1 rfl rfl) <| g_u (zN rfl rfl tA71 tS71 rfl rfl) ?_
                  refine g_u (zR ((by first | exact ih _ (nthV_mem hiv) | exact ihm _ (wR hia))) rfl rfl) ?_
                  refine g_u (y5 rfl rfl rfl (by show _ ≤ (9223372036854775807 : Int); (try dsimp only); first | (have q1 := wQ hiv; have q2 := yY (nthV v.list i); have q3 := yF (i == 0); simp only [zm, za, c1, c2, c3, c4, c5]; omega) | (have q1 := yj hia; have q2 := xy (nthA v.map i); have q3 := yF (i == 0); have q4 := (nthA v.map i).wt_eq; have q5 := zv (lst (nthA v.map i).key); have q6 := yA (nthA v.map i).key; have q7 := yY (nthA v.map i).val; simp only [zm, za, c1, c2, c3, c4, c5]; omega) | (simp only [zm, za, c1, c2, c3, c4, c5]; omega))) ?_
                  refine g_u (zE rfl rfl) ?_
                  refine zH ⟨by kernel_rfl, ?_⟩
                  refine zW <| zA <| zB <| g_u (zC rfl rfl) <| g_u (yK rfl rfl rfl) <| g_u (zE rfl rfl) <| zH <| zA ?_
                  refine ⟨⟨i + 1, _⟩, ⟨hia, ?_⟩, ⟨rfl, rfl, rfl, zd rfl (by rw [z_ (by omega) (by omega)]; rfl), trivial⟩, by dsimp only; omega⟩
                  show lst (t ++ yb (comma (i == 0)) ++ yb (ww (lst (nthA v.map i).key)) ++ ⟨#[58]⟩ ++ yb (y8 (nthA v.map i).val)) = _
                  rw [jsonAs_take hia, jsonA_eq, xO, xO, xO, xO, yH, yH, yH, h2]
                  simp only [List.append_assoc]
                  rfl
                · have hi : i = v.map.length := by have := of_decide_eq_false hb8; simp only [List.length_map] at this; omega
                  refine zt <| zP <| zP <| zj <| zA <| zD <| zB <| g_u (zC rfl rfl) ?_
                  refine g_u (y5 rfl rfl rfl (by show _ ≤ (9223372036854775807 : Int); (try dsimp only); first | (have q1 := wQ hiv; have q2 := yY (nthV v.list i); have q3 := yF (i == 0); simp only [zm, za, c1, c2, c3, c4, c5]; omega) | (have q1 := yj hia; have q2 := xy (nthA v.map i); have q3 := yF (i == 0); have q4 := (nthA v.map i).wt_eq; have q5 := zv (lst (nthA v.map i).key); have q6 := yA (nthA v.map i).key; have q7 := yY (nthA v.map i).val; simp only [zm, za, c1, c2, c3, c4, c5]; omega) | (simp only [zm, za, c1, c2, c3, c4, c5]; omega))) ?_
                  refine g_u (y5 rfl rfl rfl (by show _ ≤ (9223372036854775807 : Int); (try dsimp only); first | (have q1 := wQ hiv; have q2 := yY (nthV v.list i); have q3 := yF (i == 0); simp only [zm, za, c1, c2, c3, c4, c5]; omega) | (have q1 := yj hia; have q2 := xy (nthA v.map i); have q3 := yF (i == 0); have q4 := (nthA v.map i).wt_eq; have q5 := zv (lst (nthA v.map i).key); have q6 := yA (nthA v.map i).key; have q7 := yY (nthA v.map i).val; simp only [zm, za, c1, c2, c3, c4, c5]; omega) | (simp only [zm, za, c1, c2, c3, c4, c5]; omega))) ?_
                  refine g_u (zE rfl rfl) <| zH <| zA <| zQ <| zM ?_
                  exact ⟨⟨(rfl : toAV (Al.look _ _) = some _).trans (congrArg some (by (simp only [beq_iff_eq, qe, ne_eq, qa, qb] at *; rw [json7 (by omega)]; refine congrArg sv (strOf_eq ?_); show lst (⟨#[123]⟩ ++ t ++ ⟨#[125]⟩) = _; rw [xO, xO, h2, hi, List.take_of_length_le (Nat.le_refl _)]; rfl))), rfl⟩, trivial⟩
            · refine zY ?_
              refine zA <| zD <| zB <| g_u (zG rfl rfl rfl tA71 tS71 rfl rfl) <| g_u (zR (rsimple_c _ ho hw) rfl rfl) <| g_u (zE rfl rfl) <| zH <| zA <| zQ ?_
              exact ⟨⟨(rfl : toAV (Al.look _ _) = some _).trans (congrArg some (by (simp only [beq_iff_eq, qe, ne_eq, qa, qb] at *; rw [jsonE (by omega)]))), rfl⟩, trivial⟩
theorem rjson_c (v : GV) : v.ok → v.wt ≤ 10000000 → zo Tryd.prog Γ0 92 [v.av] [sv (yb (y8 v))] := by
  refine GV.ind (P := fun v => v.ok → v.wt ≤ 10000000 → zo Tryd.prog Γ0 92 [v.av] [sv (yb (y8 v))]) ?_ v
  intro v h1 h2 ho hw
  have ok := v.ok_iff.1 ho
  have ek := v.wt_eq
  refine rjson_step v ho hw (fun y hy => h1 y hy (ok.2.2.2.2.1 y hy) ?_) (fun a ha => h2 a ha ((GA.ok_iff a).1 (ok.2.2.2.2.2 a ha)).2 ?_)
  · have := wtVs_mem hy; omega
  · have := wD ha; have := a.wt_eq; omega
theorem rtext_c (v : GV) (ho : v.ok) (hw : v.wt ≤ 10000000) : zo Tryd.prog Γ0 78 [v.av] [sv (vD v)] := by
  refine zf Tryd.func78 rfl Tryd.ntmps78 (by kernel_rfl) rfl fun w0 I0 G0 => ?_
  refine zD <| zB <| g_uG (zn 1001 rfl rfl rfl rfl) rfl <| g_u (zE rfl rfl) <| zH <| zA <| zD <| zD <| zB <| g_u (zF rfl rfl xn rfl) <| g_u (zG rfl rfl rfl tA5 tS5 rfl rfl) <| g_u (xM rfl rfl rfl) <| g_u (zC rfl rfl) <| yL (t := 6) rfl ?_
  rintro (hb1 | hb1)
  · rw [hb1]
    refine zI rfl rfl rfl <| zI rfl rfl rfl <| zI rfl rfl rfl <| g_u (zZ rfl rfl rfl) <| zH <| zA <| zg rfl <| zD <| zB <| g_u (zG rfl rfl rfl tA71 tS71 rfl rfl) <| g_u (zR (rjson_c v ho hw) rfl rfl) <| g_u (zE rfl rfl) <| zH <| zA <| zQ <| zM ?_
    exact ⟨⟨(rfl : toAV (Al.look _ _) = some _).trans (congrArg some (by (simp only [beq_iff_eq, qe, ne_eq, qa, qb] at *; first | rw [text6 (by omega)] | rw [textE (by omega)]))), rfl⟩, trivial⟩
  · rw [hb1]
    refine zO rfl rfl (zF rfl rfl xn rfl) <| zO rfl rfl (zG rfl rfl rfl tA5 tS5 rfl rfl) <| zO rfl rfl (xM rfl rfl rfl) <| g_u (zr rfl rfl rfl) <| zH <| zA ?_
    refine zV rfl (fun hb2 => ?_) (fun hb2 => ?_)
    · refine zD ?_
      refine zB <| g_u (zG rfl rfl rfl tA71 tS71 rfl rfl) <| g_u (zR (rjson_c v ho hw) rfl rfl) <| g_u (zE rfl rfl) <| zH <| zA <| zQ <| zM ?_
      exact ⟨⟨(rfl : toAV (Al.look _ _) = some _).trans (congrArg some (by (simp only [beq_iff_eq, qe, ne_eq, qa, qb] at *; first | rw [text6 (by omega)] | rw [textE (by omega)]))), rfl⟩, trivial⟩
    · refine zY ?_
      refine zA <| zD <| zB <| g_u (zG rfl rfl rfl tA71 tS71 rfl rfl) <| g_u (zR (rsimple_c _ ho hw) rfl rfl) <| g_u (zE rfl rfl) <| zH <| zA <| zQ ?_
      exact ⟨⟨(rfl : toAV (Al.look _ _) = some _).trans (congrArg some (by (simp only [beq_iff_eq, qe, ne_eq, qa, qb] at *; first | rw [text6 (by omega)] | rw [textE (by omega)]))), rfl⟩, trivial⟩
theorem rplain_c (v : GV) (ho : v.ok) (hw : v.wt ≤ 10000000) : zo Tryd.prog Γ0 66 [v.av] [(xq v).av] := by
  refine zf Tryd.func66 rfl Tryd.ntmps66 (by kernel_rfl) rfl fun w0 I0 G0 => ?_
  refine zD <| zB <| g_uG (zn 1001 rfl rfl rfl rfl) rfl <| g_uG (z0 1002 rfl rfl rfl tZ71) rfl <| zH <| zA <| zD <| zB <| g_u (zG rfl rfl rfl tA71 tS71 rfl rfl) <| g_u (zR (rtext_c v ho hw) rfl rfl) <| g_u (yh rfl tU71 us71 pl71 rfl rfl rfl rfl) <| g_u (zX rfl rfl rfl tS71 rfl rfl) <| zH <| zA <| zQ ?_
  exact ⟨⟨_, _, _, _, _, _, _, rfl, rfl, tA71, tS71, rfl, rfl, (rfl : toAV _ = some _).trans (congrArg some (by rfl))⟩, trivial⟩
end Go.Proofs
namespace Go.Proofs
open Go Go.Al
set_option maxRecDepth 10000
def truthB (n : Int) : Bs := if n = 0 then [102, 97, 108, 115, 101] else [116, 114, 117, 101]
def wI (v : GV) : AV :=
  if v.kind = 0 then .ifc 137 (sv (yb [110, 117, 108, 108]))
  else if v.kind = 1 then .ifc 136 (sv v.text)
  else if v.kind = 2 then .ifc 137 (sv (yb (truthB v.num)))
  else if v.kind = 3 then .ifc 137 (sv (yb (decB v.num)))
  else if v.kind = 4 then .ifc 136 (sv (yb (48 :: 120 :: hexB (be 8 v.bits.toNat))))
  else if v.kind = 5 then .ifc 136 (sv (yb (hexB (lst v.text))))
  else if v.kind = 6 then .ifc 147 (.sl 6 (v.list.map avV))
  else if v.kind = 7 then .ifc 148 (.sl 7 (v.map.map avA))
  else .ifc 137 (sv ⟨#[]⟩)
theorem truth_c (n : Int) : zo Tryd.prog Γ0 103 [iv n] [sv (yb (truthB n))] := by
  refine zf Tryd.func103 rfl Tryd.ntmps103 (by kernel_rfl) rfl fun w0 I0 G0 => ?_
  refine zD <| zB <| g_u (zE rfl rfl) <| zH <| zA <| zD <| zD <| zB <| g_u (zC rfl rfl) <| g_u (s_neI rfl rfl rfl) <| zH <| zA ?_
  refine zV rfl (fun hb1 => ?_) (fun hb1 => ?_)
  · refine zD ?_
    refine zB <| g_u (zE rfl rfl) <| zH <| zA <| zQ <| zM ?_
    exact ⟨⟨(rfl : toAV (Al.look _ _) = some _).trans (congrArg some (by (unfold truthB; first | (rw [if_neg (by simpa using hb1)]; rfl) | (rw [if_pos (by simpa using hb1)]; rfl)))), rfl⟩, trivial⟩
  · refine zY ?_
    refine zA <| zD <| zB <| g_u (zE rfl rfl) <| zH <| zA <| zQ ?_
    exact ⟨⟨(rfl : toAV (Al.look _ _) = some _).trans (congrArg some (by (unfold truthB; first | (rw [if_neg (by simpa using hb1)]; rfl) | (rw [if_pos (by simpa using hb1)]; rfl)))), rfl⟩, trivial⟩
theorem double_c (u : Int) (h : 0 ≤ u ∧ u < 18446744073709551616) : zo Tryd.prog Γ0 105 [uv u] [sv (yb (48 :: 120 :: hexB (be 8 u.toNat)))] := by
  have c1 : (ByteArray.mk #[48, 120]).size = 2 := rfl
  refine zf Tryd.func105 rfl Tryd.ntmps105 (by kernel_rfl) rfl fun w0 I0 G0 => ?_
  refine zD <| zB <| g_u (zE rfl rfl) <| zH <| zA <| zD <| zB <| g_u (zC rfl rfl) ?_
  refine g_u (zR (nil1 (n := 1) (high_c [] u h (by simp))) rfl rfl) ?_
  refine g_u (s_cvBS' (rfl) rfl rfl Tryd.underlying90 Tryd.underlying9 Tryd.underlying5) ?_
  refine g_u (zR (htext_c _ (by rw [za]; simp only [List.nil_append, xe]; omega)) rfl rfl) ?_
  refine g_u (y5 rfl rfl rfl (by show _ ≤ (9223372036854775807 : Int); simp only [za, yC, yH, List.nil_append, xe, c1]; omega)) ?_
  refine g_u (zE rfl rfl) <| zH <| zA <| zQ ?_
  exact ⟨⟨(rfl : toAV (Al.look _ _) = some _).trans (congrArg some (by (rw [yH]; rfl))), rfl⟩, trivial⟩
theorem thing_c (v : GV) (ho : v.ok) (hw : v.wt ≤ 10000000) : zo Tryd.prog Γ0 90 [v.av] [wI v] := by
  have lv := xW v.list
  have la := yo v.map
  have ek := v.wt_eq
  have ok := v.ok_iff.1 ho
  have sl := yl v
  have jl := yY v
  refine zf Tryd.func90 rfl Tryd.ntmps90 (by kernel_rfl) rfl fun w0 I0 G0 => ?_
  refine zD <| zB <| g_uG (zn 1001 rfl rfl rfl rfl) rfl <| g_u (zE rfl rfl) <| zH <| zA <| zD <| zD <| zB <| g_u (zF rfl rfl xn rfl) <| g_u (zG rfl rfl rfl tA5 tS5 rfl rfl) <| zH <| zA <| zT <| zD <| zB <| g_u (xM rfl rfl rfl) <| g_u (zE rfl rfl) <| zH <| zA ?_
  refine zV rfl (fun hb1 => ?_) (fun hb1 => ?_)
  · refine zD ?_
    refine zB <| g_u (xZ rfl rfl nI137) <| g_u (zE rfl rfl) <| zH <| zA <| zQ <| zp <| zM ?_
    exact ⟨⟨(rfl : toAV (Al.look _ _) = some _).trans (congrArg some (by (simp only [beq_iff_eq, qe, ne_eq, qa, qb] at *; unfold wI; (repeat (first | rw [if_pos (by omega)] | rw [if_neg (by omega)])); (first | done | rfl)))), rfl⟩, trivial⟩
  · refine zD ?_
    refine zB <| g_u (xM rfl rfl rfl) <| g_u (zE rfl rfl) <| zH <| zA ?_
    refine zV rfl (fun hb2 => ?_) (fun hb2 => ?_)
    · refine zD ?_
      refine zB <| g_u (zF rfl rfl fa71_1 rfl) <| g_u (zG rfl rfl rfl tA9 tS9 rfl rfl) <| g_u (xZ rfl rfl nI136) <| g_u (zE rfl rfl) <| zH <| zA <| zQ <| zp <| zM ?_
      exact ⟨⟨(rfl : toAV (Al.look _ _) = some _).trans (congrArg some (by (simp only [beq_iff_eq, qe, ne_eq, qa, qb] at *; unfold wI; (repeat (first | rw [if_pos (by omega)] | rw [if_neg (by omega)])); (first | done | rfl)))), rfl⟩, trivial⟩
    · refine zD ?_
      refine zB <| g_u (xM rfl rfl rfl) <| g_u (zE rfl rfl) <| zH <| zA ?_
      refine zV rfl (fun hb3 => ?_) (fun hb3 => ?_)
      · refine zD ?_
        refine zB <| g_u (zF rfl rfl fa71_2 rfl) <| g_u (zG rfl rfl rfl tA3 tS3 rfl rfl) <| g_u (zR (truth_c _) rfl rfl) <| g_u (xZ rfl rfl nI137) <| g_u (zE rfl rfl) <| zH <| zA <| zQ <| zp <| zM ?_
        exact ⟨⟨(rfl : toAV (Al.look _ _) = some _).trans (congrArg some (by (simp only [beq_iff_eq, qe, ne_eq, qa, qb] at *; unfold wI; (repeat (first | rw [if_pos (by omega)] | rw [if_neg (by omega)])); (first | done | rfl)))), rfl⟩, trivial⟩
      · refine zD ?_
        refine zB <| g_u (xM rfl rfl rfl) <| g_u (zE rfl rfl) <| zH <| zA ?_
        refine zV rfl (fun hb4 => ?_) (fun hb4 => ?_)
        · refine zD ?_
          refine zB <| g_u (zF rfl rfl fa71_2 rfl) <| g_u (zG rfl rfl rfl tA3 tS3 rfl rfl) ?_
          refine g_u (zR (nil1 (n := 1) (dput_c [] _ ok.2.2.1 (by simp))) rfl rfl) ?_
          refine g_u (s_cvBS' (rfl) rfl rfl Tryd.underlying90 Tryd.underlying137 Tryd.underlying5) <| g_u (xZ rfl rfl nI137) <| g_u (zE rfl rfl) <| zH <| zA <| zQ <| zp <| zM ?_
          exact ⟨⟨(rfl : toAV (Al.look _ _) = some _).trans (congrArg some (by (simp only [beq_iff_eq, qe, ne_eq, qa, qb] at *; unfold wI; (repeat (first | rw [if_pos (by omega)] | rw [if_neg (by omega)])); (first | done | rfl)))), rfl⟩, trivial⟩
        · refine zD ?_
          refine zB <| g_u (xM rfl rfl rfl) <| g_u (zE rfl rfl) <| zH <| zA ?_
          refine zV rfl (fun hb5 => ?_) (fun hb5 => ?_)
          · refine zD ?_
            refine zB <| g_u (zF rfl rfl fa71_3 rfl) <| g_u (zG rfl rfl rfl tA29 tS29 rfl rfl) <| g_u (zR (double_c _ ok.2.2.2.1) rfl rfl) <| g_u (xZ rfl rfl nI136) <| g_u (zE rfl rfl) <| zH <| zA <| zQ <| zp <| zM ?_
            exact ⟨⟨(rfl : toAV (Al.look _ _) = some _).trans (congrArg some (by (simp only [beq_iff_eq, qe, ne_eq, qa, qb] at *; unfold wI; (repeat (first | rw [if_pos (by omega)] | rw [if_neg (by omega)])); (first | done | rfl)))), rfl⟩, trivial⟩
          · refine zD ?_
            refine zB <| g_u (xM rfl rfl rfl) <| g_u (zE rfl rfl) <| zH <| zA ?_
            refine zV rfl (fun hb6 => ?_) (fun hb6 => ?_)
            · refine zD ?_
              refine zB <| g_u (zF rfl rfl fa71_1 rfl) <| g_u (zG rfl rfl rfl tA9 tS9 rfl rfl) ?_
              refine g_u (zR (htext_c _ (by omega)) rfl rfl) ?_
              refine g_u (xZ rfl rfl nI136) <| g_u (zE rfl rfl) <| zH <| zA <| zQ <| zp <| zM ?_
              exact ⟨⟨(rfl : toAV (Al.look _ _) = some _).trans (congrArg some (by (simp only [beq_iff_eq, qe, ne_eq, qa, qb] at *; unfold wI; (repeat (first | rw [if_pos (by omega)] | rw [if_neg (by omega)])); (first | done | rfl)))), rfl⟩, trivial⟩
            · refine zD ?_
              refine zB <| g_u (xM rfl rfl rfl) <| g_u (zE rfl rfl) <| zH <| zA ?_
              refine zV rfl (fun hb7 => ?_) (fun hb7 => ?_)
              · refine zD ?_
                refine zB <| g_u (zF rfl rfl fa71_4 rfl) <| g_u (zG rfl rfl rfl tA69 tS69 rfl rfl) <| g_u (xZ rfl rfl nI147) <| g_u (zE rfl rfl) <| zH <| zA <| zQ <| zp <| zM ?_
                exact ⟨⟨(rfl : toAV (Al.look _ _) = some _).trans (congrArg some (by (simp only [beq_iff_eq, qe, ne_eq, qa, qb] at *; unfold wI; (repeat (first | rw [if_pos (by omega)] | rw [if_neg (by omega)])); (first | done | rfl)))), rfl⟩, trivial⟩
              · refine zD ?_
                refine zB <| g_u (xM rfl rfl rfl) <| g_u (zE rfl rfl) <| zH <| zA ?_
                refine zV rfl (fun hb8 => ?_) (fun hb8 => ?_)
                · refine zD ?_
                  refine zB <| g_u (zF rfl rfl fa71_5 rfl) <| g_u (zG rfl rfl rfl tA30 tS30 rfl rfl) <| g_u (xZ rfl rfl nI148) <| g_u (zE rfl rfl) <| zH <| zA <| zQ <| zp <| zM ?_
                  exact ⟨⟨(rfl : toAV (Al.look _ _) = some _).trans (congrArg some (by (simp only [beq_iff_eq, qe, ne_eq, qa, qb] at *; unfold wI; (repeat (first | rw [if_pos (by omega)] | rw [if_neg (by omega)])); (first | done | rfl)))), rfl⟩, trivial⟩
                · refine zY ?_
                  refine zW <| zA <| zD <| zB <| g_u (xZ rfl rfl nI137) <| g_u (zE rfl rfl) <| zH <| zA <| zQ ?_
                  exact ⟨⟨(rfl : toAV (Al.look _ _) = some _).trans (congrArg some (by (simp only [beq_iff_eq, qe, ne_eq, qa, qb] at *; unfold wI; (repeat (first | rw [if_pos (by omega)] | rw [if_neg (by omega)])); (first | done | rfl)))), rfl⟩, trivial⟩
theorem thing_p {v : GV} (h : v.kind ≠ 1 ∧ v.kind ≠ 4 ∧ v.kind ≠ 5 ∧ v.kind ≠ 6 ∧ v.kind ≠ 7) (c : zo Tryd.prog Γ0 90 [v.av] [wI v]) : zo Tryd.prog Γ0 90 [v.av] [.ifc 137 (sv (yb (y8 v)))] := by
  have e : wI v = .ifc 137 (sv (yb (y8 v))) := by
    unfold wI
    by_cases h0 : v.kind = 0
    · rw [if_pos h0, json0 h0]
    · rw [if_neg h0, if_neg h.1, jsonE (by omega)]
      by_cases h2 : v.kind = 2
      · rw [if_pos h2]
        by_cases hn : v.num = 0
        · rw [simp2 h2 hn, truthB, if_pos hn]
        · rw [simp2' h2 hn, truthB, if_neg hn]
      · rw [if_neg h2]
        by_cases h3 : v.kind = 3
        · rw [if_pos h3, simp3 h3]
        · rw [if_neg h3, if_neg h.2.1, if_neg h.2.2.1, if_neg h.2.2.2.1, if_neg h.2.2.2.2, simp6 (by omega)]; rfl
  rw [← e]; exact c
theorem thing_q {v : GV} (h : v.kind = 1 ∨ v.kind = 4 ∨ v.kind = 5) (c : zo Tryd.prog Γ0 90 [v.av] [wI v]) : zo Tryd.prog Γ0 90 [v.av] [.ifc 136 (sv (yb (wL v)))] := by
  have e : wI v = .ifc 136 (sv (yb (wL v))) := by
    unfold wI
    rcases h with h | h | h
    · rw [if_neg (by omega), if_pos h, simp1 h]
    · rw [if_neg (by omega), if_neg (by omega), if_neg (by omega), if_neg (by omega), if_pos h, simp4 h]
    · rw [if_neg (by omega), if_neg (by omega), if_neg (by omega), if_neg (by omega), if_neg (by omega), if_pos h, simp5 h]
  rw [← e]; exact c
theorem thing_l {v : GV} (h : v.kind = 6) (c : zo Tryd.prog Γ0 90 [v.av] [wI v]) : zo Tryd.prog Γ0 90 [v.av] [.ifc 147 (.sl 6 (v.list.map avV))] := by
  have e : wI v = .ifc 147 (.sl 6 (v.list.map avV)) := by
    unfold wI
    rw [if_neg (by omega), if_neg (by omega), if_neg (by omega), if_neg (by omega), if_neg (by omega), if_neg (by omega), if_pos h]
  rw [← e]; exact c
theorem thing_m {v : GV} (h : v.kind = 7) (c : zo Tryd.prog Γ0 90 [v.av] [wI v]) : zo Tryd.prog Γ0 90 [v.av] [.ifc 148 (.sl 7 (v.map.map avA))] := by
  have e : wI v = .ifc 148 (.sl 7 (v.map.map avA)) := by
    unfold wI
    rw [if_neg (by omega), if_neg (by omega), if_neg (by omega), if_neg (by omega), if_neg (by omega), if_neg (by omega), if_neg (by omega), if_pos h]
  rw [← e]; exact c
theorem lay_p (v : GV) (ho : v.ok) (hw : v.wt ≤ 10000000) (xs : List AV) (hx : W1 xs) (hl : xs.length + 150 * v.wt ≤ 5000000000) (hk : v.kind ≠ 1 ∧ v.kind ≠ 4 ∧ v.kind ≠ 5 ∧ v.kind ≠ 6 ∧ v.kind ≠ 7) : MCall Tryd.prog Γ0 107 [.slg 100001 1 xs, .imm v.av] [(100001, .tok 1 xs)] (.slg 100001 1 (xs ++ zl (y8 v))) [(100001, .tok 1 (xs ++ zl (y8 v)))] := by
  have lv := xW v.list
  have la := yo v.map
  have ek := v.wt_eq
  have ok := v.ok_iff.1 ho
  have sl := yl v
  have jl := yY v
  have e0 : zl (yb (y8 v)).data.toList = zl (y8 v) := by rw [wF]
  refine wP (rs := [.slg 100001 1 (xs ++ zl (y8 v))]) Tryd.func107 rfl Tryd.ntmps107 (by kernel_rfl) rfl rfl rfl rfl rfl fun w0 I0 G0 E => ?_
  refine zD <| zB <| g_uG (zn 1003 rfl rfl rfl rfl) rfl <| g_u (zE rfl rfl) <| zH <| zA <| zD <| zD <| zB <| g_u (zG rfl rfl rfl tA71 tS71 rfl rfl) <| g_u (zR (thing_p hk (thing_c v ho hw)) rfl rfl) <| zH <| zA <| zT <| zD <| zB <| g_u (wW rfl rfl nI137) <| g_u (zi rfl rfl rfl rfl) <| g_u (zi rfl rfl rfl rfl) <| zH <| zA <| zg rfl <| zD <| zB <| g_u (zE rfl rfl) <| zH <| zA <| zD <| zB <| g_u (zs rfl rfl) <| g_u (zC rfl rfl) ?_
  refine g_u (s_appendS rfl rfl rfl rfl rfl Tryd.underlying90 Tryd.underlying137 tS5 zv5 rfl by5 (by rw [za]; omega) (by rw [za]; omega)) ?_
  refine g_u (zx rfl rfl) <| zH <| zA <| zQ <| zp <| zM ?_
  exact ⟨⟨.inr ⟨_, rfl, yU rfl (by rw [e0]), rfl⟩, trivial⟩, ⟨yB rfl (by rw [e0]), trivial⟩⟩
theorem lay_q (v : GV) (ho : v.ok) (hw : v.wt ≤ 10000000) (xs : List AV) (hx : W1 xs) (hl : xs.length + 150 * v.wt ≤ 5000000000) (hk : v.kind = 1 ∨ v.kind = 4 ∨ v.kind = 5) : MCall Tryd.prog Γ0 107 [.slg 100001 1 xs, .imm v.av] [(100001, .tok 1 xs)] (.slg 100001 1 (xs ++ zl (y8 v))) [(100001, .tok 1 (xs ++ zl (y8 v)))] := by
  have lv := xW v.list
  have la := yo v.map
  have ek := v.wt_eq
  have ok := v.ok_iff.1 ho
  have sl := yl v
  have jl := yY v
  refine wP (rs := [.slg 100001 1 (xs ++ zl (y8 v))]) Tryd.func107 rfl Tryd.ntmps107 (by kernel_rfl) rfl rfl rfl rfl rfl fun w0 I0 G0 E => ?_
  refine zD <| zB <| g_uG (zn 1003 rfl rfl rfl rfl) rfl <| g_u (zE rfl rfl) <| zH <| zA <| zD <| zD <| zB <| g_u (zG rfl rfl rfl tA71 tS71 rfl rfl) <| g_u (zR (thing_q hk (thing_c v ho hw)) rfl rfl) <| zH <| zA <| zT <| zD <| zB ?_
  refine g_u (xE rfl rfl nI137 tZ137 (fun z h => by rw [zv137] at h; cases h; rfl) rfl) ?_
  refine g_u (zi rfl rfl rfl rfl) <| g_u (zi rfl rfl rfl rfl) <| zH <| zA <| z7 rfl <| zD <| zB <| g_u (wW rfl rfl nI136) <| g_u (zi rfl rfl rfl rfl) <| g_u (zi rfl rfl rfl rfl) <| zH <| zA <| zg rfl <| zD <| zB <| g_u (zE rfl rfl) <| zH <| zA <| zD <| zB <| g_u (zs rfl rfl) <| g_u (zC rfl rfl) ?_
  refine g_uG (wx [(3014, 20001)] (jput_c _ _ hx (by rw [za]; omega) (by omega)) rfl rfl ⟨.inr ⟨_, rfl, rfl⟩, .inl rfl, trivial⟩ trivial rfl rfl rfl) rfl ?_
  refine g_u (zx rfl rfl) <| zH <| zA ?_
  refine aw_renTok 20001 100001 1 (xs ++ zl (ww (lst (yb (wL v))))) [(4, .slg 100001 1 (xs ++ zl (ww (lst (yb (wL v))))))] rfl rfl rfl rfl rfl rfl ⟨.inr (.inl ⟨rfl, rfl⟩), trivial⟩ (by rw [List.length_append, yJ]; simp only [ww, List.length_cons]; omega) ?_
  refine zQ <| zp <| zM ?_
  exact ⟨⟨.inr ⟨_, rfl, yU rfl (by rw [jsonS hk, yH]), rfl⟩, trivial⟩, ⟨yB rfl (by rw [jsonS hk, yH]), trivial⟩⟩
theorem bytesL_cons (c : UInt8) (l : Bs) : zl (c :: l) = .v (wa c) :: zl l := rfl
theorem bytesL_nil : zl [] = [] := rfl
theorem W1.app {a b : List AV} (h : W1 a) (k : W1 b) : W1 (a ++ b) := fun x hx => (List.mem_append.1 hx).elim (h x) (k x)
theorem lay_l (v : GV) (ho : v.ok) (hw : v.wt ≤ 10000000) (xs : List AV) (hx : W1 xs) (hl : xs.length + 150 * v.wt ≤ 5000000000) (hk : v.kind = 6) (ih : ∀ y ∈ v.list, ∀ xs : List AV, W1 xs → xs.length + 150 * y.wt ≤ 5000000000 → MCall Tryd.prog Γ0 107 [.slg 100001 1 xs, .imm y.av] [(100001, .tok 1 xs)] (.slg 100001 1 (xs ++ zl (y8 y))) [(100001, .tok 1 (xs ++ zl (y8 y)))]) : MCall Tryd.prog Γ0 107 [.slg 100001 1 xs, .imm v.av] [(100001, .tok 1 xs)] (.slg 100001 1 (xs ++ zl (y8 v))) [(100001, .tok 1 (xs ++ zl (y8 v)))] := by
  have lv := xW v.list
  have la := yo v.map
  have ek := v.wt_eq
  have ok := v.ok_iff.1 ho
  have sl := yl v
  have jl := yY v
  refine wP (rs := [.slg 100001 1 (xs ++ zl (y8 v))]) Tryd.func107 rfl Tryd.ntmps107 (by kernel_rfl) rfl rfl rfl rfl rfl fun w0 I0 G0 E => ?_
  refine zD <| zB <| g_uG (zn 1003 rfl rfl rfl rfl) rfl <| g_u (zE rfl rfl) <| zH <| zA <| zD <| zD <| zB <| g_u (zG rfl rfl rfl tA71 tS71 rfl rfl) <| g_u (zR (thing_l hk (thing_c v ho hw)) rfl rfl) <| zH <| zA <| zT <| zD <| zB ?_
  refine g_u (xE rfl rfl nI137 tZ137 (fun z h => by rw [zv137] at h; cases h; rfl) rfl) ?_
  refine g_u (zi rfl rfl rfl rfl) <| g_u (zi rfl rfl rfl rfl) <| zH <| zA <| z7 rfl <| zD <| zB ?_
  refine g_u (xE rfl rfl nI136 tZ136 (fun z h => by rw [zv136] at h; cases h; rfl) rfl) ?_
  refine g_u (zi rfl rfl rfl rfl) <| g_u (zi rfl rfl rfl rfl) <| zH <| zA <| z7 rfl <| zD <| zB <| g_u (wW rfl rfl nI147) <| g_u (zi rfl rfl rfl rfl) <| g_u (zi rfl rfl rfl rfl) <| zH <| zA <| zg rfl <| zD <| zB <| g_u (zE rfl rfl) <| zH <| zA <| zD <| zB <| g_u (zs rfl rfl) <| g_u (ze (X0 := z5) rfl Tryd.underlying90 tS5 tZ5 rfl rfl rfl rfl rfl rfl rfl rfl) ?_
  refine g_u (z8 rfl rfl rfl rfl rfl Tryd.underlying90 Tryd.underlying90 tS5 zv5 rfl (by decide) by5 (by (try dsimp only); simp only [List.length_append, List.length_cons, List.length_nil]; omega) (by (try dsimp only); simp only [List.length_append, List.length_cons, List.length_nil]; omega)) ?_
  refine g_u (zx rfl rfl) <| zH <| zA <| zD <| zD <| zB <| g_u (zC rfl rfl) <| g_u (zz rfl rfl Tryd.underlying147) <| g_u (zC rfl rfl) <| zH <| zA <| zT ?_
  refine zq (fun j : Nat × List AV => [(0, .slg 100001 1 j.2), (100001, .tok 1 j.2), (33, .imm (.sl 6 (v.list.map avV))), (34, .imm (iv (v.list.length : Int))), (35, .imm (iv (j.1 : Int)))]) (fun j => j.1 ≤ v.list.length ∧ j.2 = xs ++ zl (91 :: wv true (v.list.take j.1))) (fun j => v.list.length - j.1) (⟨0, xs ++ zl [91]⟩) ?_ ⟨rfl, rfl, rfl, zd rfl (by rw [List.length_map]), rfl, trivial⟩ ?_
  · exact ⟨Nat.zero_le _, rfl⟩
  · rintro ⟨i, ys⟩ ⟨h1, h2⟩; dsimp only at h1 h2; have hlen : ys.length ≤ xs.length + 1 + 150 * wtVs (v.list.take i) := by have := jsonVs_len (v.list.take i) true; rw [h2, List.length_append, yJ, List.length_cons]; omega
    have hwy : W1 ys := by rw [h2]; exact hx.app (W1.bytes _)
    have htk := wtVs_take v.list i
    refine zD <| zB <| g_u (yd rfl rfl rfl) <| zH <| zA <| zD ?_
    refine zV rfl (fun hb1 => ?_) (fun hb1 => ?_)
    · have hiv : i < v.list.length := by have := of_decide_eq_true hb1; simp only [List.length_map] at this; omega
      refine zY <| zA <| zD <| zT <| zD <| zB <| g_u (zC rfl rfl) ?_
      refine g_u (zJ rfl rfl rfl Tryd.underlying147 tS71 (by omega) (ixV hiv)) ?_
      refine g_u (zN rfl rfl tA71 tS71 rfl rfl) <| g_uG (z0 1009 rfl rfl rfl tZ71) rfl <| g_u (zE rfl rfl) <| g_u (zX rfl rfl rfl tS71 rfl rfl) <| zH <| zA <| zD <| zD <| zB <| g_u (zC rfl rfl) <| g_u (s_gtI rfl rfl rfl) <| zH <| zA ?_
      refine zV rfl (fun hb2 => ?_) (fun hb2 => ?_)
      · have hc : comma (i == 0) = [44] := by have hp : i ≠ 0 := (by have := of_decide_eq_true hb2; omega); rw [show (i == 0) = false from by simpa using hp]; rfl
        refine zB <| g_u (zs rfl rfl) <| g_u (ze (X0 := z5) rfl Tryd.underlying90 tS5 tZ5 rfl rfl rfl rfl rfl rfl rfl rfl) ?_
        refine g_u (z8 rfl rfl rfl rfl rfl Tryd.underlying90 Tryd.underlying90 tS5 zv5 rfl (by decide) by5 (by (try dsimp only); simp only [List.length_append, List.length_cons, List.length_nil]; omega) (by (try dsimp only); simp only [List.length_append, List.length_cons, List.length_nil]; omega)) ?_
        refine g_u (zx rfl rfl) <| zH <| zA <| zB <| g_u (zs rfl rfl) <| g_u (yW rfl rfl rfl tA71 tS71 rfl rfl) ?_
        refine g_uG (wx [(100001, 100001)] (ih _ (nthV_mem hiv) _ (by first | exact hwy | exact hwy.app (W1.bytes [44])) (by have q1 := wQ hiv; (try simp only [List.length_append, List.length_cons, List.length_nil]); omega)) rfl rfl ⟨.inl rfl, .inl rfl, trivial⟩ ⟨rfl, trivial⟩ rfl rfl rfl) rfl ?_
        refine g_u (zx rfl rfl) <| zH <| zW <| zA <| zB <| g_u (yK rfl rfl rfl) <| g_u (zC rfl rfl) <| zH <| zA ?_
        refine ⟨⟨i + 1, _⟩, ⟨hiv, ?_⟩, ⟨rfl, rfl, rfl, rfl, zd rfl (by rw [z_ (by omega) (by omega)]; rfl), trivial⟩, by dsimp only; omega⟩
        dsimp only
        rw [jsonVs_take hiv, hc]
        subst h2
        simp only [List.append_assoc, List.cons_append, List.nil_append, ← yi, bytesL_cons, bytesL_nil, wF, yH]
        try rfl
      · have hc : comma (i == 0) = [] := by have hp : i = 0 := (by have := of_decide_eq_false hb2; omega); rw [hp]; rfl
        refine zY <| zA <| zB <| g_u (zs rfl rfl) <| g_u (yW rfl rfl rfl tA71 tS71 rfl rfl) ?_
        refine g_uG (wx [(100001, 100001)] (ih _ (nthV_mem hiv) _ (by first | exact hwy | exact hwy.app (W1.bytes [44])) (by have q1 := wQ hiv; (try simp only [List.length_append, List.length_cons, List.length_nil]); omega)) rfl rfl ⟨.inl rfl, .inl rfl, trivial⟩ ⟨rfl, trivial⟩ rfl rfl rfl) rfl ?_
        refine g_u (zx rfl rfl) <| zH <| zW <| zA <| zB <| g_u (yK rfl rfl rfl) <| g_u (zC rfl rfl) <| zH <| zA ?_
        refine ⟨⟨i + 1, _⟩, ⟨hiv, ?_⟩, ⟨rfl, rfl, rfl, rfl, zd rfl (by rw [z_ (by omega) (by omega)]; rfl), trivial⟩, by dsimp only; omega⟩
        dsimp only
        rw [jsonVs_take hiv, hc]
        subst h2
        simp only [List.append_assoc, List.cons_append, List.nil_append, ← yi, bytesL_cons, bytesL_nil, wF, yH]
        try rfl
    · have hi : i = v.list.length := by have := of_decide_eq_false hb1; simp only [List.length_map] at this; omega
      refine zt <| zP <| zP <| zj <| zA <| zD <| zB <| g_u (zs rfl rfl) <| g_u (ze (X0 := z5) rfl Tryd.underlying90 tS5 tZ5 rfl rfl rfl rfl rfl rfl rfl rfl) ?_
      refine g_u (z8 rfl rfl rfl rfl rfl Tryd.underlying90 Tryd.underlying90 tS5 zv5 rfl (by decide) by5 (by (try dsimp only); simp only [List.length_append, List.length_cons, List.length_nil]; omega) (by (try dsimp only); simp only [List.length_append, List.length_cons, List.length_nil]; omega)) ?_
      refine g_u (zx rfl rfl) <| zH <| zA <| zQ <| zp <| zM ?_
      exact ⟨⟨.inr ⟨_, rfl, yU rfl (by rw [json6 hk, h2, hi, List.take_of_length_le (Nat.le_refl _), List.append_assoc]; exact congrArg (xs ++ ·) (yi _ [93])), rfl⟩, trivial⟩, ⟨yB rfl (by rw [json6 hk, h2, hi, List.take_of_length_le (Nat.le_refl _), List.append_assoc]; exact congrArg (xs ++ ·) (yi _ [93])), trivial⟩⟩
theorem lay_m (v : GV) (ho : v.ok) (hw : v.wt ≤ 10000000) (xs : List AV) (hx : W1 xs) (hl : xs.length + 150 * v.wt ≤ 5000000000) (hk : v.kind = 7) (ih : ∀ a ∈ v.map, ∀ xs : List AV, W1 xs → xs.length + 150 * a.val.wt ≤ 5000000000 → MCall Tryd.prog Γ0 107 [.slg 100001 1 xs, .imm a.val.av] [(100001, .tok 1 xs)] (.slg 100001 1 (xs ++ zl (y8 a.val))) [(100001, .tok 1 (xs ++ zl (y8 a.val)))]) : MCall Tryd.prog Γ0 107 [.slg 100001 1 xs, .imm v.av] [(100001, .tok 1 xs)] (.slg 100001 1 (xs ++ zl (y8 v))) [(100001, .tok 1 (xs ++ zl (y8 v)))] := by
  have lv := xW v.list
  have la := yo v.map
  have ek := v.wt_eq
  have ok := v.ok_iff.1 ho
  have sl := yl v
  have jl := yY v
  refine wP (rs := [.slg 100001 1 (xs ++ zl (y8 v))]) Tryd.func107 rfl Tryd.ntmps107 (by kernel_rfl) rfl rfl rfl rfl rfl fun w0 I0 G0 E => ?_
  refine zD <| zB <| g_uG (zn 1003 rfl rfl rfl rfl) rfl <| g_u (zE rfl rfl) <| zH <| zA <| zD <| zD <| zB <| g_u (zG rfl rfl rfl tA71 tS71 rfl rfl) <| g_u (zR (thing_m hk (thing_c v ho hw)) rfl rfl) <| zH <| zA <| zT <| zD <| zB ?_
  refine g_u (xE rfl rfl nI137 tZ137 (fun z h => by rw [zv137] at h; cases h; rfl) rfl) ?_
  refine g_u (zi rfl rfl rfl rfl) <| g_u (zi rfl rfl rfl rfl) <| zH <| zA <| z7 rfl <| zD <| zB ?_
  refine g_u (xE rfl rfl nI136 tZ136 (fun z h => by rw [zv136] at h; cases h; rfl) rfl) ?_
  refine g_u (zi rfl rfl rfl rfl) <| g_u (zi rfl rfl rfl rfl) <| zH <| zA <| z7 rfl <| zD <| zB ?_
  refine g_u (xE rfl rfl nI147 tZ147 (fun z h => by rw [zv147] at h; cases h; rfl) rfl) ?_
  refine g_u (zi rfl rfl rfl rfl) <| g_u (zi rfl rfl rfl rfl) <| zH <| zA <| z7 rfl <| zD <| zB <| g_u (wW rfl rfl nI148) <| g_u (zi rfl rfl rfl rfl) <| g_u (zi rfl rfl rfl rfl) <| zH <| zA <| zg rfl <| zD <| zB <| g_u (zE rfl rfl) <| zH <| zA <| zD <| zB <| g_u (zs rfl rfl) <| g_u (ze (X0 := z5) rfl Tryd.underlying90 tS5 tZ5 rfl rfl rfl rfl rfl rfl rfl rfl) ?_
  refine g_u (z8 rfl rfl rfl rfl rfl Tryd.underlying90 Tryd.underlying90 tS5 zv5 rfl (by decide) by5 (by (try dsimp only); (try (have q1 := yj hia; have q2 := (nthA v.map i).wt_eq; have q3 := zv (lst (nthA v.map i).key); have q4 := yA (nthA v.map i).key)); (try simp only [List.length_append, List.length_cons, List.length_nil, yJ]); omega) (by (try dsimp only); (try (have q1 := yj hia; have q2 := (nthA v.map i).wt_eq; have q3 := zv (lst (nthA v.map i).key); have q4 := yA (nthA v.map i).key)); (try simp only [List.length_append, List.length_cons, List.length_nil, yJ]); omega)) ?_
  refine g_u (zx rfl rfl) <| zH <| zA <| zD <| zD <| zB <| g_u (zC rfl rfl) <| g_u (zz rfl rfl Tryd.underlying148) <| g_u (zC rfl rfl) <| zH <| zA <| zT ?_
  refine zq (fun j : Nat × List AV => [(0, .slg 100001 1 j.2), (100001, .tok 1 j.2), (58, .imm (.sl 7 (v.map.map avA))), (59, .imm (iv (v.map.length : Int))), (60, .imm (iv (j.1 : Int)))]) (fun j => j.1 ≤ v.map.length ∧ j.2 = xs ++ zl (123 :: wr true (v.map.take j.1))) (fun j => v.map.length - j.1) (⟨0, xs ++ zl [123]⟩) ?_ ⟨rfl, rfl, rfl, zd rfl (by rw [List.length_map]), rfl, trivial⟩ ?_
  · exact ⟨Nat.zero_le _, rfl⟩
  · rintro ⟨i, ys⟩ ⟨h1, h2⟩; dsimp only at h1 h2; have hlen : ys.length ≤ xs.length + 1 + 150 * wtAs (v.map.take i) := by have := jsonAs_len (v.map.take i) true; rw [h2, List.length_append, yJ, List.length_cons]; omega
    have hwy : W1 ys := by rw [h2]; exact hx.app (W1.bytes _)
    have htk := wtAs_take v.map i
    refine zD <| zB <| g_u (yd rfl rfl rfl) <| zH <| zA <| zD ?_
    refine zV rfl (fun hb1 => ?_) (fun hb1 => ?_)
    · have hia : i < v.map.length := by have := of_decide_eq_true hb1; simp only [List.length_map] at this; omega
      have hka : (nthA v.map i).key.size ≤ 10000000000 := by have q1 := yj hia; have q4 := (nthA v.map i).wt_eq; omega
      refine zY <| zA <| zD <| zT <| zD <| zB <| g_u (zC rfl rfl) ?_
      refine g_u (zJ rfl rfl rfl Tryd.underlying148 tS73 (by omega) (ixA hia)) ?_
      refine g_u (zN rfl rfl tA73 tS73 rfl rfl) <| g_uG (z0 1012 rfl rfl rfl tZ73) rfl <| g_u (zE rfl rfl) <| g_u (zX rfl rfl rfl tS73 rfl rfl) <| zH <| zA <| zD <| zD <| zB <| g_u (zC rfl rfl) <| g_u (s_gtI rfl rfl rfl) <| zH <| zA ?_
      refine zV rfl (fun hb2 => ?_) (fun hb2 => ?_)
      · have hc : comma (i == 0) = [44] := by have hp : i ≠ 0 := (by have := of_decide_eq_true hb2; omega); rw [show (i == 0) = false from by simpa using hp]; rfl
        refine zB <| g_u (zs rfl rfl) <| g_u (ze (X0 := z5) rfl Tryd.underlying90 tS5 tZ5 rfl rfl rfl rfl rfl rfl rfl rfl) ?_
        refine g_u (z8 rfl rfl rfl rfl rfl Tryd.underlying90 Tryd.underlying90 tS5 zv5 rfl (by decide) by5 (by (try dsimp only); (try (have q1 := yj hia; have q2 := (nthA v.map i).wt_eq; have q3 := zv (lst (nthA v.map i).key); have q4 := yA (nthA v.map i).key)); (try simp only [List.length_append, List.length_cons, List.length_nil, yJ]); omega) (by (try dsimp only); (try (have q1 := yj hia; have q2 := (nthA v.map i).wt_eq; have q3 := zv (lst (nthA v.map i).key); have q4 := yA (nthA v.map i).key)); (try simp only [List.length_append, List.length_cons, List.length_nil, yJ]); omega)) ?_
        refine g_u (zx rfl rfl) <| zH <| zA <| yM y6 <| g_u (zs rfl rfl) <| g_u (zF rfl rfl wq rfl) <| g_u (zG rfl rfl rfl tA9 tS9 rfl rfl) ?_
        refine g_uG (wx [(3014, 20001)] (jput_c _ _ (by first | exact hwy | exact hwy.app (W1.bytes [44])) hka (by have q1 := yj hia; have q2 := (nthA v.map i).wt_eq; have q3 := zv (lst (nthA v.map i).key); have q4 := yA (nthA v.map i).key; (try simp only [List.length_append, List.length_cons, List.length_nil, yJ]); omega)) rfl rfl ⟨.inr ⟨_, rfl, rfl⟩, .inl rfl, trivial⟩ trivial rfl rfl rfl) rfl ?_
        refine g_u (ze (X0 := z5) rfl Tryd.underlying90 tS5 tZ5 rfl rfl rfl rfl rfl rfl rfl rfl) ?_
        refine g_u (z8 rfl rfl rfl rfl rfl Tryd.underlying90 Tryd.underlying90 tS5 zv5 rfl (by decide) by5 (by (try dsimp only); (try (have q1 := yj hia; have q2 := (nthA v.map i).wt_eq; have q3 := zv (lst (nthA v.map i).key); have q4 := yA (nthA v.map i).key)); (try simp only [List.length_append, List.length_cons, List.length_nil, yJ]); omega) (by (try dsimp only); (try (have q1 := yj hia; have q2 := (nthA v.map i).wt_eq; have q3 := zv (lst (nthA v.map i).key); have q4 := yA (nthA v.map i).key)); (try simp only [List.length_append, List.length_cons, List.length_nil, yJ]); omega)) ?_
        refine g_u (zF rfl rfl fa73_1 rfl) <| g_u (zG rfl rfl rfl tA71 tS71 rfl rfl) ?_
        refine g_uG (wx [(100001, 20001)] (ih _ (wR hia) _ (by first | exact ((hwy.app (W1.bytes _)).app (W1.bytes [58])) | exact (((hwy.app (W1.bytes [44])).app (W1.bytes _)).app (W1.bytes [58]))) (by show _ + 150 * (nthA v.map i).val.wt ≤ 5000000000; have q1 := yj hia; have q2 := (nthA v.map i).wt_eq; have q3 := zv (lst (nthA v.map i).key); have q4 := yA (nthA v.map i).key; (try simp only [List.length_append, List.length_cons, List.length_nil, yJ]); omega)) rfl rfl ⟨.inl rfl, .inl rfl, trivial⟩ ⟨rfl, trivial⟩ rfl rfl rfl) rfl ?_
        refine g_u (zx rfl rfl) ?_
        refine zH ⟨by kernel_rfl, ?_⟩
        refine zW <| zA ?_
        refine aw_renTok 20001 100001 1 _ [(0, .slg 100001 1 _), (58, .imm (.sl 7 (v.map.map avA))), (59, .imm (iv (v.map.length : Int))), (60, .imm (iv (i : Int)))] rfl rfl rfl rfl rfl rfl ⟨.inr (.inl ⟨rfl, rfl⟩), .inl ⟨rfl, rfl⟩, .inl ⟨rfl, rfl⟩, .inl ⟨rfl, rfl⟩, trivial⟩ (by simp only [List.length_append, List.length_cons, List.length_nil, yJ]; omega) ?_
        refine zB <| g_u (yK rfl rfl rfl) <| g_u (zC rfl rfl) <| zH <| zA ?_
        refine ⟨⟨i + 1, _⟩, ⟨hia, ?_⟩, ⟨rfl, rfl, rfl, rfl, zd rfl (by rw [z_ (by omega) (by omega)]; rfl), trivial⟩, by dsimp only; omega⟩
        dsimp only
        rw [jsonAs_take hia, hc, jsonA_eq]
        subst h2
        simp only [List.append_assoc, List.cons_append, List.nil_append, ← yi, bytesL_cons, bytesL_nil, wF, yH]
        try rfl
      · have hc : comma (i == 0) = [] := by have hp : i = 0 := (by have := of_decide_eq_false hb2; omega); rw [hp]; rfl
        refine zY <| zA <| yM y6 <| g_u (zs rfl rfl) <| g_u (zF rfl rfl wq rfl) <| g_u (zG rfl rfl rfl tA9 tS9 rfl rfl) ?_
        refine g_uG (wx [(3014, 20002)] (jput_c _ _ (by first | exact hwy | exact hwy.app (W1.bytes [44])) hka (by have q1 := yj hia; have q2 := (nthA v.map i).wt_eq; have q3 := zv (lst (nthA v.map i).key); have q4 := yA (nthA v.map i).key; (try simp only [List.length_append, List.length_cons, List.length_nil, yJ]); omega)) rfl rfl ⟨.inr ⟨_, rfl, rfl⟩, .inl rfl, trivial⟩ trivial rfl rfl rfl) rfl ?_
        refine g_u (ze (X0 := z5) rfl Tryd.underlying90 tS5 tZ5 rfl rfl rfl rfl rfl rfl rfl rfl) ?_
        refine g_u (z8 rfl rfl rfl rfl rfl Tryd.underlying90 Tryd.underlying90 tS5 zv5 rfl (by decide) by5 (by (try dsimp only); (try (have q1 := yj hia; have q2 := (nthA v.map i).wt_eq; have q3 := zv (lst (nthA v.map i).key); have q4 := yA (nthA v.map i).key)); (try simp only [List.length_append, List.length_cons, List.length_nil, yJ]); omega) (by (try dsimp only); (try (have q1 := yj hia; have q2 := (nthA v.map i).wt_eq; have q3 := zv (lst (nthA v.map i).key); have q4 := yA (nthA v.map i).key)); (try simp only [List.length_append, List.length_cons, List.length_nil, yJ]); omega)) ?_
        refine g_u (zF rfl rfl fa73_1 rfl) <| g_u (zG rfl rfl rfl tA71 tS71 rfl rfl) ?_
        refine g_uG (wx [(100001, 20002)] (ih _ (wR hia) _ (by first | exact ((hwy.app (W1.bytes _)).app (W1.bytes [58])) | exact (((hwy.app (W1.bytes [44])).app (W1.bytes _)).app (W1.bytes [58]))) (by show _ + 150 * (nthA v.map i).val.wt ≤ 5000000000; have q1 := yj hia; have q2 := (nthA v.map i).wt_eq; have q3 := zv (lst (nthA v.map i).key); have q4 := yA (nthA v.map i).key; (try simp only [List.length_append, List.length_cons, List.length_nil, yJ]); omega)) rfl rfl ⟨.inl rfl, .inl rfl, trivial⟩ ⟨rfl, trivial⟩ rfl rfl rfl) rfl ?_
        refine g_u (zx rfl rfl) ?_
        refine zH ⟨by kernel_rfl, ?_⟩
        refine zW <| zA ?_
        refine aw_renTok 20002 100001 1 _ [(0, .slg 100001 1 _), (58, .imm (.sl 7 (v.map.map avA))), (59, .imm (iv (v.map.length : Int))), (60, .imm (iv (i : Int)))] rfl rfl rfl rfl rfl rfl ⟨.inr (.inl ⟨rfl, rfl⟩), .inl ⟨rfl, rfl⟩, .inl ⟨rfl, rfl⟩, .inl ⟨rfl, rfl⟩, trivial⟩ (by simp only [List.length_append, List.length_cons, List.length_nil, yJ]; omega) ?_
        refine zB <| g_u (yK rfl rfl rfl) <| g_u (zC rfl rfl) <| zH <| zA ?_
        refine ⟨⟨i + 1, _⟩, ⟨hia, ?_⟩, ⟨rfl, rfl, rfl, rfl, zd rfl (by rw [z_ (by omega) (by omega)]; rfl), trivial⟩, by dsimp only; omega⟩
        dsimp only
        rw [jsonAs_take hia, hc, jsonA_eq]
        subst h2
        simp only [List.append_assoc, List.cons_append, List.nil_append, ← yi, bytesL_cons, bytesL_nil, wF, yH]
        try rfl
    · have hi : i = v.map.length := by have := of_decide_eq_false hb1; simp only [List.length_map] at this; omega
      refine zt <| zP <| zP <| zj <| zA <| zD <| zB <| g_u (zs rfl rfl) <| g_u (ze (X0 := z5) rfl Tryd.underlying90 tS5 tZ5 rfl rfl rfl rfl rfl rfl rfl rfl) ?_
      refine g_u (z8 rfl rfl rfl rfl rfl Tryd.underlying90 Tryd.underlying90 tS5 zv5 rfl (by decide) by5 (by (try dsimp only); (try (have q1 := yj hia; have q2 := (nthA v.map i).wt_eq; have q3 := zv (lst (nthA v.map i).key); have q4 := yA (nthA v.map i).key)); (try simp only [List.length_append, List.length_cons, List.length_nil, yJ]); omega) (by (try dsimp only); (try (have q1 := yj hia; have q2 := (nthA v.map i).wt_eq; have q3 := zv (lst (nthA v.map i).key); have q4 := yA (nthA v.map i).key)); (try simp only [List.length_append, List.length_cons, List.length_nil, yJ]); omega)) ?_
      refine g_u (zx rfl rfl) <| zH <| zA <| zQ <| zp <| zM ?_
      exact ⟨⟨.inr ⟨_, rfl, yU rfl (by rw [json7 hk, h2, hi, List.take_of_length_le (Nat.le_refl _), List.append_assoc]; exact congrArg (xs ++ ·) (yi _ [125])), rfl⟩, trivial⟩, ⟨yB rfl (by rw [json7 hk, h2, hi, List.take_of_length_le (Nat.le_refl _), List.append_assoc]; exact congrArg (xs ++ ·) (yi _ [125])), trivial⟩⟩
theorem lay_c (v : GV) : v.ok → v.wt ≤ 10000000 → ∀ xs : List AV, W1 xs → xs.length + 150 * v.wt ≤ 5000000000 → MCall Tryd.prog Γ0 107 [.slg 100001 1 xs, .imm v.av] [(100001, .tok 1 xs)] (.slg 100001 1 (xs ++ zl (y8 v))) [(100001, .tok 1 (xs ++ zl (y8 v)))] := by
  refine GV.ind (P := fun v => v.ok → v.wt ≤ 10000000 → ∀ xs : List AV, W1 xs → xs.length + 150 * v.wt ≤ 5000000000 → MCall Tryd.prog Γ0 107 [.slg 100001 1 xs, .imm v.av] [(100001, .tok 1 xs)] (.slg 100001 1 (xs ++ zl (y8 v))) [(100001, .tok 1 (xs ++ zl (y8 v)))]) ?_ v
  intro v h1 h2 ho hw xs hx hl
  have ok := v.ok_iff.1 ho
  have ek := v.wt_eq
  by_cases h6 : v.kind = 6
  · exact lay_l v ho hw xs hx hl h6 fun y hy ys hy1 hy2 => h1 y hy (ok.2.2.2.2.1 y hy) (by have := wtVs_mem hy; omega) ys hy1 hy2
  by_cases h7 : v.kind = 7
  · exact lay_m v ho hw xs hx hl h7 fun a ha ys hy1 hy2 => h2 a ha ((GA.ok_iff a).1 (ok.2.2.2.2.2 a ha)).2 (by have := wD ha; have := a.wt_eq; omega) ys hy1 hy2
  by_cases hq : v.kind = 1 ∨ v.kind = 4 ∨ v.kind = 5
  · exact lay_q v ho hw xs hx hl hq
  · exact lay_p v ho hw xs hx hl (by omega)
theorem json_c (v : GV) (ho : v.ok) (hw : v.wt ≤ 10000000) : zo Tryd.prog Γ0 91 [v.av] [sv (yb (y8 v))] := by
  have lv := xW v.list
  have la := yo v.map
  have ek := v.wt_eq
  have ok := v.ok_iff.1 ho
  have sl := yl v
  have jl := yY v
  refine zf Tryd.func91 rfl Tryd.ntmps91 (by kernel_rfl) rfl fun w0 I0 G0 => ?_
  refine zD <| zB <| g_uG (zn 1001 rfl rfl rfl rfl) rfl <| g_u (zE rfl rfl) <| zH <| zA <| zD <| zB <| g_u (zG rfl rfl rfl tA71 tS71 rfl rfl) ?_
  refine g_u (zR (pcall_nil (n := 1) (xs := [v.av]) (lay_c v ho hw [] (fun x hx => by cases hx) (by simp only [List.length_nil]; omega))) rfl rfl) ?_
  refine g_u (s_cvBS' (rfl) rfl rfl Tryd.underlying90 Tryd.underlying9 Tryd.underlying5) <| g_u (zE rfl rfl) <| zH <| zA <| zQ ?_
  exact ⟨⟨(rfl : toAV (Al.look _ _) = some _).trans (congrArg some (by rfl)), rfl⟩, trivial⟩
theorem text_q (v : GV) (ho : v.ok) (hw : v.wt ≤ 10000000) (hk : v.kind = 1 ∨ v.kind = 4 ∨ v.kind = 5) : zo Tryd.prog Γ0 76 [v.av] [sv (vD v)] := by
  have lv := xW v.list
  have la := yo v.map
  have ek := v.wt_eq
  have ok := v.ok_iff.1 ho
  have sl := yl v
  have jl := yY v
  refine zf Tryd.func76 rfl Tryd.ntmps76 (by kernel_rfl) rfl fun w0 I0 G0 => ?_
  refine zD <| zB <| g_uG (zn 1001 rfl rfl rfl rfl) rfl <| g_u (zE rfl rfl) <| zH <| zA <| zD <| zD <| zB <| g_u (zG rfl rfl rfl tA71 tS71 rfl rfl) <| g_u (zR (thing_q hk (thing_c v ho hw)) rfl rfl) <| zH <| zA <| zT <| zD <| zB <| g_u (wW rfl rfl nI136) <| g_u (zi rfl rfl rfl rfl) <| g_u (zi rfl rfl rfl rfl) <| zH <| zA <| zg rfl <| zD <| zB <| g_u (zE rfl rfl) <| zH <| zA <| zD <| zB <| g_u (zC rfl rfl) <| g_u (zE rfl rfl) <| zH <| zA <| zQ <| zp <| zM ?_
  exact ⟨⟨(rfl : toAV (Al.look _ _) = some _).trans (congrArg some (by (rw [textE (by omega)]))), rfl⟩, trivial⟩
theorem text_p (v : GV) (ho : v.ok) (hw : v.wt ≤ 10000000) (hk : v.kind ≠ 1 ∧ v.kind ≠ 4 ∧ v.kind ≠ 5 ∧ v.kind ≠ 6 ∧ v.kind ≠ 7) : zo Tryd.prog Γ0 76 [v.av] [sv (vD v)] := by
  have lv := xW v.list
  have la := yo v.map
  have ek := v.wt_eq
  have ok := v.ok_iff.1 ho
  have sl := yl v
  have jl := yY v
  refine zf Tryd.func76 rfl Tryd.ntmps76 (by kernel_rfl) rfl fun w0 I0 G0 => ?_
  refine zD <| zB <| g_uG (zn 1001 rfl rfl rfl rfl) rfl <| g_u (zE rfl rfl) <| zH <| zA <| zD <| zD <| zB <| g_u (zG rfl rfl rfl tA71 tS71 rfl rfl) <| g_u (zR (thing_p hk (thing_c v ho hw)) rfl rfl) <| zH <| zA <| zT <| zD <| zB ?_
  refine g_u (xE rfl rfl nI136 tZ136 (fun z h => by rw [zv136] at h; cases h; rfl) rfl) ?_
  refine g_u (zi rfl rfl rfl rfl) <| g_u (zi rfl rfl rfl rfl) <| zH <| zA <| z7 rfl <| zD <| zB <| g_u (wW rfl rfl nI137) <| g_u (zi rfl rfl rfl rfl) <| g_u (zi rfl rfl rfl rfl) <| zH <| zA <| zg rfl <| zD <| zB <| g_u (zE rfl rfl) <| zH <| zA <| zD <| zD <| zB <| g_u (zF rfl rfl xn rfl) <| g_u (zG rfl rfl rfl tA5 tS5 rfl rfl) <| g_u (xM rfl rfl rfl) <| zH <| zA ?_
  refine zV rfl (fun hb1 => ?_) (fun hb1 => ?_)
  · refine zD ?_
    refine zB <| g_u (zE rfl rfl) <| zH <| zA <| zQ <| zM <| zp <| zM ?_
    exact ⟨⟨(rfl : toAV (Al.look _ _) = some _).trans (congrArg some (by (simp only [beq_iff_eq, qe, ne_eq, qa, qb] at *; rw [textE (by omega), simp6 (by omega)]; rfl))), rfl⟩, trivial⟩
  · refine zY ?_
    refine zA <| zD <| zB <| g_u (zC rfl rfl) <| g_u (zE rfl rfl) <| zH <| zA <| zQ <| zp <| zM ?_
    exact ⟨⟨(rfl : toAV (Al.look _ _) = some _).trans (congrArg some (by (simp only [beq_iff_eq, qe, ne_eq, qa, qb] at *; rw [textE (by omega), jsonE (by omega)]))), rfl⟩, trivial⟩
theorem text_l (v : GV) (ho : v.ok) (hw : v.wt ≤ 10000000) (hk : v.kind = 6) : zo Tryd.prog Γ0 76 [v.av] [sv (vD v)] := by
  have lv := xW v.list
  have la := yo v.map
  have ek := v.wt_eq
  have ok := v.ok_iff.1 ho
  have sl := yl v
  have jl := yY v
  refine zf Tryd.func76 rfl Tryd.ntmps76 (by kernel_rfl) rfl fun w0 I0 G0 => ?_
  refine zD <| zB <| g_uG (zn 1001 rfl rfl rfl rfl) rfl <| g_u (zE rfl rfl) <| zH <| zA <| zD <| zD <| zB <| g_u (zG rfl rfl rfl tA71 tS71 rfl rfl) <| g_u (zR (thing_l hk (thing_c v ho hw)) rfl rfl) <| zH <| zA <| zT <| zD <| zB ?_
  refine g_u (xE rfl rfl nI136 tZ136 (fun z h => by rw [zv136] at h; cases h; rfl) rfl) ?_
  refine g_u (zi rfl rfl rfl rfl) <| g_u (zi rfl rfl rfl rfl) <| zH <| zA <| z7 rfl <| zD <| zB ?_
  refine g_u (xE rfl rfl nI137 tZ137 (fun z h => by rw [zv137] at h; cases h; rfl) rfl) ?_
  refine g_u (zi rfl rfl rfl rfl) <| g_u (zi rfl rfl rfl rfl) <| zH <| zA <| z7 rfl <| zY <| zW <| zA <| zD <| zB <| g_u (zG rfl rfl rfl tA71 tS71 rfl rfl) <| g_u (zR (json_c v ho hw) rfl rfl) <| g_u (zE rfl rfl) <| zH <| zA <| zQ ?_
  exact ⟨⟨(rfl : toAV (Al.look _ _) = some _).trans (congrArg some (by (rw [text6 (by omega)]))), rfl⟩, trivial⟩
theorem text_m (v : GV) (ho : v.ok) (hw : v.wt ≤ 10000000) (hk : v.kind = 7) : zo Tryd.prog Γ0 76 [v.av] [sv (vD v)] := by
  have lv := xW v.list
  have la := yo v.map
  have ek := v.wt_eq
  have ok := v.ok_iff.1 ho
  have sl := yl v
  have jl := yY v
  refine zf Tryd.func76 rfl Tryd.ntmps76 (by kernel_rfl) rfl fun w0 I0 G0 => ?_
  refine zD <| zB <| g_uG (zn 1001 rfl rfl rfl rfl) rfl <| g_u (zE rfl rfl) <| zH <| zA <| zD <| zD <| zB <| g_u (zG rfl rfl rfl tA71 tS71 rfl rfl) <| g_u (zR (thing_m hk (thing_c v ho hw)) rfl rfl) <| zH <| zA <| zT <| zD <| zB ?_
  refine g_u (xE rfl rfl nI136 tZ136 (fun z h => by rw [zv136] at h; cases h; rfl) rfl) ?_
  refine g_u (zi rfl rfl rfl rfl) <| g_u (zi rfl rfl rfl rfl) <| zH <| zA <| z7 rfl <| zD <| zB ?_
  refine g_u (xE rfl rfl nI137 tZ137 (fun z h => by rw [zv137] at h; cases h; rfl) rfl) ?_
  refine g_u (zi rfl rfl rfl rfl) <| g_u (zi rfl rfl rfl rfl) <| zH <| zA <| z7 rfl <| zY <| zW <| zA <| zD <| zB <| g_u (zG rfl rfl rfl tA71 tS71 rfl rfl) <| g_u (zR (json_c v ho hw) rfl rfl) <| g_u (zE rfl rfl) <| zH <| zA <| zQ ?_
  exact ⟨⟨(rfl : toAV (Al.look _ _) = some _).trans (congrArg some (by (rw [text6 (by omega)]))), rfl⟩, trivial⟩
theorem text_c (v : GV) (ho : v.ok) (hw : v.wt ≤ 10000000) : zo Tryd.prog Γ0 76 [v.av] [sv (vD v)] := by
  by_cases h6 : v.kind = 6
  · exact text_l v ho hw h6
  by_cases h7 : v.kind = 7
  · exact text_m v ho hw h7
  by_cases hq : v.kind = 1 ∨ v.kind = 4 ∨ v.kind = 5
  · exact text_q v ho hw hq
  · exact text_p v ho hw (by omega)
end Go.Proofs
namespace Go.Proofs
open Go Go.Al
set_option maxRecDepth 10000
theorem leftV_st (v : GV) (n : Int) (hn : -1 ≤ n ∧ n ≤ 1000000000) (ih : ∀ y ∈ v.list, ∀ n : Int, -1 ≤ n ∧ n ≤ 1000000000 → zo Tryd.prog Γ0 48 [y.av, iv n] [iv (leftV y n)]) (ihm : ∀ n : Int, -1 ≤ n ∧ n ≤ 1000000000 → zo Tryd.prog Γ0 23 [.sl 7 (v.map.map avA), iv n] [iv (yO v.map n)]) : zo Tryd.prog Γ0 48 [v.av, iv n] [iv (leftV v n)] := by
  have ek := v.wt_eq
  refine zf Tryd.func48 rfl Tryd.ntmps48 (by kernel_rfl) rfl fun w0 I0 G0 => ?_
  refine zD <| zB <| g_uG (zn 1002 rfl rfl rfl rfl) rfl <| g_u (zE rfl rfl) <| zH <| zA <| zD <| zD <| zB <| g_u (zC rfl rfl) <| g_u (yd rfl rfl rfl) <| g_u (zC rfl rfl) <| yL (t := 8) rfl ?_
  rintro (hb1 | hb1)
  · rw [hb1]
    have hn0 : n < 0 := of_decide_eq_true hb1
    refine zI rfl rfl rfl <| zI rfl rfl rfl <| zI rfl rfl rfl <| zI rfl rfl rfl <| zI rfl rfl rfl <| g_u (zZ rfl rfl rfl) <| zH <| zA <| zg rfl <| zD <| zB <| g_u (zE rfl rfl) <| zH <| zA <| zQ <| zM ?_
    exact ⟨⟨(rfl : toAV (Al.look _ _) = some _).trans (congrArg some (by (exact congrArg iv (by rw [leftV_F, if_pos hn0])))), rfl⟩, trivial⟩
  · rw [hb1]
    have hn0 : ¬ n < 0 := of_decide_eq_false hb1
    refine zO rfl rfl (zF rfl rfl fa71_1 rfl) <| zO rfl rfl (zG rfl rfl rfl tA9 tS9 rfl rfl) <| zO rfl rfl (xY rfl rfl Tryd.underlying9) <| zO rfl rfl (zC rfl rfl) <| zO rfl rfl (s_gtI rfl rfl rfl) <| g_u (zr rfl rfl rfl) <| zH <| zA ?_
    refine zV rfl (fun hb2 => ?_) (fun hb2 => ?_)
    · have ht0 : (v.text.size : Int) > n := of_decide_eq_true hb2
      refine zD <| zB <| g_u (zE rfl rfl) <| zH <| zA <| zQ <| zM ?_
      exact ⟨⟨(rfl : toAV (Al.look _ _) = some _).trans (congrArg some (by (exact congrArg iv (by rw [leftV_F, if_neg hn0]; unfold leftF; rw [if_neg (by omega)])))), rfl⟩, trivial⟩
    · have ht0 : ¬ (v.text.size : Int) > n := of_decide_eq_false hb2
      have hL : -1 ≤ n - 1 - v.text.size := by omega
      refine zY <| zA <| zD <| zB <| g_u (zC rfl rfl) <| g_u (s_sub rfl rfl rfl) <| g_u (zF rfl rfl fa71_1 rfl) <| g_u (zG rfl rfl rfl tA9 tS9 rfl rfl) <| g_u (xY rfl rfl Tryd.underlying9) <| g_u (s_sub rfl rfl rfl) <| g_u (zE rfl rfl) <| zH <| zA <| zD <| zD <| zB <| g_u (zE rfl rfl) <| zH <| zA <| zT ?_
      refine zq (fun i : Nat => [(2, .ptr 1002 0), (1002, .box 71 (.imm v.av)), (1, .imm (iv (leftF (n - 1 - v.text.size) (wtVs (v.list.take i))))), (5, .imm (iv (i : Int)))]) (fun i => i ≤ v.list.length) (fun i => v.list.length - i) (0) ?_ ⟨rfl, rfl, zd rfl (by rw [show wtVs (v.list.take 0) = 0 from rfl, leftF_zero hL, z_ (n := n - 1) (by omega) (by omega), z_ (by omega) (by omega)]), rfl, trivial⟩ ?_
      · exact Nat.zero_le _
      · rintro i h1; have h1 : i ≤ v.list.length := h1; have bd := leftF_bd hL (wtVs (v.list.take i))
        refine zD <| zD <| zB <| g_u (zC rfl rfl) <| g_u (zF rfl rfl fa71_4 rfl) <| g_u (zG rfl rfl rfl tA69 tS69 rfl rfl) <| g_u (zz rfl rfl Tryd.underlying69) <| g_u (yd rfl rfl rfl) <| g_u (zC rfl rfl) <| yL (t := 26) rfl ?_
        rintro (hb3 | hb3)
        · rw [hb3]
          have hiv : i < v.list.length := by have := of_decide_eq_true hb3; (try simp only [List.length_map] at this); omega
          refine zO rfl rfl (zC rfl rfl) <| zO rfl rfl (s_geI rfl rfl rfl) <| g_u (zZ rfl rfl rfl) <| zH <| zA ?_
          refine zV rfl (fun hb4 => ?_) (fun hb4 => ?_)
          · have hs : 0 ≤ leftF (n - 1 - v.text.size) (wtVs (v.list.take i)) := of_decide_eq_true hb4
            have hi9 := leftV_len hs h1
            refine zY <| zA <| zD <| zT <| zB <| g_u (zF rfl rfl fa71_4 rfl) <| g_u (zG rfl rfl rfl tA69 tS69 rfl rfl) <| g_u (zC rfl rfl) ?_
            refine g_u (zJ rfl rfl rfl Tryd.underlying69 tS71 (by omega) (ixV hiv)) ?_
            refine g_u (zN rfl rfl tA71 tS71 rfl rfl) <| g_u (zC rfl rfl) ?_
            refine g_u (zR (ih _ (nthV_mem hiv) _ ⟨bd.1, by have := bd.2; omega⟩) rfl rfl) ?_
            refine g_u (zE rfl rfl) <| zH <| zW <| zA <| zB <| g_u (zC rfl rfl) <| g_u (yK rfl rfl rfl) <| g_u (zE rfl rfl) <| zH <| zA ?_
            refine ⟨i + 1, hiv, ⟨rfl, rfl, zd rfl (leftV_step hiv hs), zd rfl (by rw [z_ (by omega) (by omega)]; rfl), trivial⟩, by (try dsimp only); omega⟩
          · have hs : ¬ 0 ≤ leftF (n - 1 - v.text.size) (wtVs (v.list.take i)) := of_decide_eq_false hb4
            refine zt <| zP <| zP <| zj <| zA <| zD <| zB <| g_u (zF rfl rfl fa71_5 rfl) <| g_u (zG rfl rfl rfl tA30 tS30 rfl rfl) <| g_u (zC rfl rfl) ?_
            refine g_u (zR (ihm _ ⟨bd.1, by have := bd.2; omega⟩) rfl rfl) ?_
            refine g_u (zE rfl rfl) <| zH <| zA <| zQ ?_
            exact ⟨⟨(rfl : toAV (Al.look _ _) = some _).trans (congrArg some (by (exact congrArg iv (leftV_fin hn0 ht0 (by first | exact .inl hivn | exact .inr (by omega)))))), rfl⟩, trivial⟩
        · rw [hb3]
          have hivn : i = v.list.length := by have := of_decide_eq_false hb3; (try simp only [List.length_map] at this); omega
          refine zI rfl rfl rfl <| zI rfl rfl rfl <| g_u (zr rfl rfl rfl) <| zH <| zA <| z7 rfl <| zt <| zP <| zP <| zj <| zA <| zD <| zB <| g_u (zF rfl rfl fa71_5 rfl) <| g_u (zG rfl rfl rfl tA30 tS30 rfl rfl) <| g_u (zC rfl rfl) ?_
          refine g_u (zR (ihm _ ⟨bd.1, by have := bd.2; omega⟩) rfl rfl) ?_
          refine g_u (zE rfl rfl) <| zH <| zA <| zQ ?_
          exact ⟨⟨(rfl : toAV (Al.look _ _) = some _).trans (congrArg some (by (exact congrArg iv (leftV_fin hn0 ht0 (by first | exact .inl hivn | exact .inr (by omega)))))), rfl⟩, trivial⟩
theorem leftAs_st (l : List GA) (n : Int) (hn : -1000000000000 ≤ n ∧ n ≤ 1000000000) (ih : ∀ a ∈ l, ∀ n : Int, -1 ≤ n ∧ n ≤ 1000000000 → zo Tryd.prog Γ0 48 [a.val.av, iv n] [iv (leftV a.val n)]) : zo Tryd.prog Γ0 23 [.sl 7 (l.map avA), iv n] [iv (yO l n)] := by
  refine zf Tryd.func23 rfl Tryd.ntmps23 (by kernel_rfl) rfl fun w0 I0 G0 => ?_
  refine zD <| zB <| g_u (zE rfl rfl) <| zH <| zA <| zD <| zD <| zB <| g_u (zE rfl rfl) <| zH <| zA <| zT ?_
  refine zq (fun i : Nat => [(0, .imm (.sl 7 (l.map avA))), (1, .imm (iv (yO (l.take i) n))), (5, .imm (iv (i : Int)))]) (fun i => i ≤ l.length) (fun i => l.length - i) (0) ?_ ⟨rfl, zd rfl (leftAs_zero l).symm, rfl, trivial⟩ ?_
  · exact Nat.zero_le _
  · rintro i h1; have h1 : i ≤ l.length := h1; have bd := wE (l.take i) n
    refine zD <| zD <| zB <| g_u (zC rfl rfl) <| g_u (zC rfl rfl) <| g_u (zz rfl rfl Tryd.underlying30) <| g_u (yd rfl rfl rfl) <| g_u (zC rfl rfl) <| yL (t := 10) rfl ?_
    rintro (hb1 | hb1)
    · rw [hb1]
      have hia : i < l.length := by have := of_decide_eq_true hb1; (try simp only [List.length_map] at this); omega
      refine zO rfl rfl (zC rfl rfl) <| zO rfl rfl (s_geI rfl rfl rfl) <| g_u (zZ rfl rfl rfl) <| zH <| zA ?_
      refine zV rfl (fun hb2 => ?_) (fun hb2 => ?_)
      · have hs : 0 ≤ yO (l.take i) n := of_decide_eq_true hb2
        have hi9 := leftAs_len hs h1
        refine zY <| zA <| zD <| zT <| zD <| zD <| zB <| g_u (zC rfl rfl) <| g_u (zC rfl rfl) ?_
        refine g_u (zJ rfl rfl rfl Tryd.underlying30 tS73 (by omega) (ixA hia)) ?_
        refine g_u (zL rfl rfl wq rfl rfl) <| g_u (zN rfl rfl tA9 tS9 rfl rfl) <| g_u (xY rfl rfl Tryd.underlying9) <| g_u (zC rfl rfl) <| g_u (s_gtI rfl rfl rfl) <| zH <| zA ?_
        refine zV rfl (fun hb3 => ?_) (fun hb3 => ?_)
        · have hk : ((nthA l i).key.size : Int) > yO (l.take i) n := of_decide_eq_true hb3
          refine zD <| zB <| g_u (zE rfl rfl) <| zH <| zA <| zQ <| zM <| zp <| zM <| zM <| zp <| zM ?_
          exact ⟨⟨(rfl : toAV (Al.look _ _) = some _).trans (congrArg some (by (exact congrArg iv (leftAs_out hia hs hk)))), rfl⟩, trivial⟩
        · have hk : ¬ ((nthA l i).key.size : Int) > yO (l.take i) n := of_decide_eq_false hb3
          have ew : IntKind.i64.wrap (yO (l.take i) n - (nthA l i).key.size) = yO (l.take i) n - (nthA l i).key.size := z_ (by omega) (by omega)
          refine zY <| zA <| yM y6 <| g_u (zC rfl rfl) <| g_u (zC rfl rfl) ?_
          refine g_u (zJ rfl rfl rfl Tryd.underlying30 tS73 (by omega) (ixA hia)) ?_
          refine g_u (zL rfl rfl fa73_1 rfl rfl) <| g_u (zN rfl rfl tA71 tS71 rfl rfl) <| g_u (zC rfl rfl) <| g_u (zC rfl rfl) <| g_u (zC rfl rfl) ?_
          refine g_u (zJ rfl rfl rfl Tryd.underlying30 tS73 (by omega) (ixA hia)) ?_
          refine g_u (zL rfl rfl wq rfl rfl) <| g_u (zN rfl rfl tA9 tS9 rfl rfl) <| g_u (xY rfl rfl Tryd.underlying9) <| g_u (s_sub rfl rfl rfl) ?_
          refine g_u (zR ((show zo Tryd.prog Γ0 48 [(nthA l i).val.av, iv (IntKind.i64.wrap (yO (l.take i) n - (nthA l i).key.size))] [iv (leftV (nthA l i).val (yO (l.take i) n - (nthA l i).key.size))] from by rw [ew]; exact ih _ (wR hia) _ ⟨by omega, by omega⟩)) rfl rfl) ?_
          refine g_u (zE rfl rfl) ?_
          refine zH ⟨by kernel_rfl, ?_⟩
          refine zW <| zA <| zB <| g_u (zC rfl rfl) <| g_u (yK rfl rfl rfl) <| g_u (zE rfl rfl) <| zH <| zA ?_
          refine ⟨i + 1, hia, ⟨rfl, zd rfl (leftAs_step hia hs hk), zd rfl (by rw [z_ (by omega) (by omega)]; rfl), trivial⟩, by (try dsimp only); omega⟩
      · have hs : ¬ 0 ≤ yO (l.take i) n := of_decide_eq_false hb2
        refine zt <| zP <| zP <| zj <| zA <| zD <| zB <| g_u (zC rfl rfl) <| g_u (zE rfl rfl) <| zH <| zA <| zQ ?_
        exact ⟨⟨(rfl : toAV (Al.look _ _) = some _).trans (congrArg some (by (exact congrArg iv (leftAs_fin (by first | exact .inl hian | exact .inr (by omega)))))), rfl⟩, trivial⟩
    · rw [hb1]
      have hian : i = l.length := by have := of_decide_eq_false hb1; (try simp only [List.length_map] at this); omega
      refine zI rfl rfl rfl <| zI rfl rfl rfl <| g_u (zr rfl rfl rfl) <| zH <| zA <| z7 rfl <| zt <| zP <| zP <| zj <| zA <| zD <| zB <| g_u (zC rfl rfl) <| g_u (zE rfl rfl) <| zH <| zA <| zQ ?_
      exact ⟨⟨(rfl : toAV (Al.look _ _) = some _).trans (congrArg some (by (exact congrArg iv (leftAs_fin (by first | exact .inl hian | exact .inr (by omega)))))), rfl⟩, trivial⟩
theorem leftV_c (v : GV) : ∀ n : Int, -1 ≤ n ∧ n ≤ 1000000000 → zo Tryd.prog Γ0 48 [v.av, iv n] [iv (leftV v n)] := by
  refine GV.ind (P := fun v => ∀ n : Int, -1 ≤ n ∧ n ≤ 1000000000 → zo Tryd.prog Γ0 48 [v.av, iv n] [iv (leftV v n)]) ?_ v
  intro v h1 h2 n hn
  exact leftV_st v n hn h1 fun n hn => leftAs_st v.map n (by omega) h2
theorem leftAs_c (l : List GA) (n : Int) (hn : -1000000000000 ≤ n ∧ n ≤ 1000000000) : zo Tryd.prog Γ0 23 [.sl 7 (l.map avA), iv n] [iv (yO l n)] := leftAs_st l n hn fun a _ => leftV_c a.val
end Go.Proofs
namespace Go.Proofs
open Go Go.Al
set_option maxRecDepth 10000
theorem z36_w : AV.width z36 = 42 := by kernel_rfl
theorem z68_w : AV.width z68 = 26 := by kernel_rfl
end Go.Proofs
namespace Go.Proofs
open Go Go.Al
set_option maxRecDepth 10000
theorem cmp132 : cmpFn Tryd.prog 132 := ⟨_, Tryd.func132, by kernel_rfl, rfl, by kernel_rfl, by kernel_rfl⟩
theorem cmp_119_c (s t : ByteArray) : zo Tryd.prog Γ0 119 [sv s, sv t] [iv (cmpK s t)] := by
  refine zf Tryd.func119 rfl Tryd.ntmps119 (by kernel_rfl) rfl fun w0 I0 G0 => ?_
  refine zD <| zB <| g_u (zE rfl rfl) <| zH <| zA <| zD <| zB <| g_u (zC rfl rfl) <| g_u (zC rfl rfl) <| g_u (s_cmpS cmp132 rfl rfl rfl) <| g_u (zE rfl rfl) <| zH <| zA <| zQ ?_
  exact ⟨⟨(rfl : toAV (Al.look _ _) = some _).trans (congrArg some (by rfl)), rfl⟩, trivial⟩
theorem cmp_102_c (s t : ByteArray) : zo Tryd.prog Γ0 102 [sv s, sv t] [iv (cmpK s t)] := by
  refine zf Tryd.func102 rfl Tryd.ntmps102 (by kernel_rfl) rfl fun w0 I0 G0 => ?_
  refine zD <| zB <| g_u (zE rfl rfl) <| zH <| zA <| zD <| zB <| g_u (zC rfl rfl) <| g_u (zC rfl rfl) <| g_u (zR (cmp_119_c _ _) rfl rfl) <| g_u (zE rfl rfl) <| zH <| zA <| zQ ?_
  exact ⟨⟨(rfl : toAV (Al.look _ _) = some _).trans (congrArg some (by rfl)), rfl⟩, trivial⟩
theorem cmpA_c (a : GA) (k : ByteArray) : zo Tryd.prog Γ0 101 [a.av, sv k] [iv (cmpK a.key k)] := by
  refine zf Tryd.func101 rfl Tryd.ntmps101 (by kernel_rfl) rfl fun w0 I0 G0 => ?_
  refine zD <| zB <| g_uG (zn 1002 rfl rfl rfl rfl) rfl <| g_u (zE rfl rfl) <| zH <| zA <| zD <| zB <| g_u (zF rfl rfl wq rfl) <| g_u (zG rfl rfl rfl tA9 tS9 rfl rfl) <| g_u (zC rfl rfl) <| g_u (zR (cmp_102_c _ _) rfl rfl) <| g_u (zE rfl rfl) <| zH <| zA <| zQ ?_
  exact ⟨⟨(rfl : toAV (Al.look _ _) = some _).trans (congrArg some (by rfl)), rfl⟩, trivial⟩
theorem bsf_c (l : List GA) (k : ByteArray) (hr : risA none l) (hl : l.length ≤ 1000000000000) : zo Tryd.prog Γ0 100 [.sl 7 (l.map avA), sv k, .fn (.func 101) [] []] [iv (posA l k : Nat), bv (hasA l k)] := by
  refine zf Tryd.func100 rfl Tryd.ntmps100 (by kernel_rfl) rfl fun w0 I0 G0 => ?_
  refine zD <| zB <| g_u (zE rfl rfl) <| g_u (zE rfl rfl) <| zH <| zA <| zD <| zB <| g_u (zC rfl rfl) <| g_u (zz rfl rfl Tryd.underlying30) <| g_u (zE rfl rfl) <| zH <| zA <| zD <| zB <| g_u (zC rfl rfl) <| g_u (zE rfl rfl) <| g_u (zE rfl rfl) <| zH <| zA <| zD <| zT ?_
  refine zq (fun j : Nat × Nat => [(0, .imm (.sl 7 (l.map avA))), (1, .imm (sv k)), (2, .imm (.fn (.func 101) [] [])), (8, .imm (iv (l.length : Int))), (9, .imm (iv (j.1 : Int))), (10, .imm (iv (j.2 : Int)))]) (fun j => j.1 ≤ j.2 ∧ j.2 ≤ l.length ∧ (∀ i, i < j.1 → ltB (nthA l i).key k = true) ∧ (∀ i, j.2 ≤ i → i < l.length → ltB (nthA l i).key k = false)) (fun j => j.2 - j.1) (⟨0, l.length⟩) ?_ ⟨rfl, rfl, rfl, zd rfl (by rw [List.length_map]), rfl, zd rfl (by rw [List.length_map]), trivial⟩ ?_
  · exact ⟨Nat.zero_le _, Nat.le_refl _, fun i h => absurd h (Nat.not_lt_zero _), fun i h1 h2 => absurd h2 (Nat.not_lt.2 h1)⟩
  · rintro ⟨lo, hi⟩ ⟨h1, h2, h3, h4⟩; dsimp only at h1 h2 h3 h4
    have em : IntKind.i64.wrap ((IntKind.u64.wrap (IntKind.i64.wrap ((lo : Int) + (hi : Int)))).fdiv (2 ^ (min (1 : Int).toNat IntKind.u64.bits))) = (((lo + hi) / 2 : Nat) : Int) := by rw [z_ (n := (lo : Int) + (hi : Int)) (by omega) (by omega), xa (by omega) (by omega), Int.fdiv_eq_ediv_of_nonneg _ (by decide), show (2 : Int) ^ (min (1 : Int).toNat IntKind.u64.bits) = 2 from by decide, z_ (by omega) (by omega)]; omega
    refine zD <| zD <| zB <| g_u (zC rfl rfl) <| g_u (zC rfl rfl) <| g_u (yd rfl rfl rfl) <| zH <| zA ?_
    refine zV rfl (fun hb1 => ?_) (fun hb1 => ?_)
    · have hmid : (lo + hi) / 2 < l.length := by have := of_decide_eq_true hb1; omega
      refine zY <| zA <| zT <| zD <| zB <| g_u (zC rfl rfl) <| g_u (zC rfl rfl) <| g_u (yK rfl rfl rfl) <| g_u (s_cvII rfl rfl Tryd.underlying3 Tryd.underlying155) ?_
      refine g_u (s_shr rfl rfl rfl (by first | decide | omega | (((try simp only [qa, qb, qc, ne_eq, beq_iff_eq, qd, qe, Bool.not_eq_true', Bool.not_eq_false', gt_iff_lt, ge_iff_le] at *); (repeat simp (disch := omega) only [z_, yN] at *)); omega))) ?_
      refine g_u (s_cvII rfl rfl Tryd.underlying155 Tryd.underlying3) <| g_u (zE rfl rfl) <| zH <| zA <| zD <| zB <| g_u (zC rfl rfl) <| g_u (zC rfl rfl) <| g_u (zC rfl rfl) ?_
      refine g_u (zJ rfl rfl rfl Tryd.underlying30 tS73 (by erw [em]; omega) ((congrArg (fun z : Int => (l.map avA)[z.toNat]?) em).trans (ixA hmid))) ?_
      refine g_u (zN rfl rfl tA73 tS73 rfl rfl) <| g_u (zC rfl rfl) <| g_u (s_callv1 (cmpA_c _ _) rfl rfl rfl) <| g_u (yd rfl rfl rfl) <| zH <| zA ?_
      refine zV rfl (fun hb2 => ?_) (fun hb2 => ?_)
      · have hk : ltB (nthA l ((lo + hi) / 2)).key k = true := (cmpK_lt _ _).1 (of_decide_eq_true hb2)
        refine zB <| g_u (zC rfl rfl) <| g_u (yK rfl rfl rfl) <| g_u (zE rfl rfl) <| zH <| zW <| zA ?_
        have hlt : lo < hi := by have := of_decide_eq_true hb1; omega
        first
          | exact ⟨⟨(lo + hi) / 2 + 1, hi⟩, ⟨by dsimp only; omega, h2, fun i hi1 => ris_left hr hmid hk (by dsimp only at hi1; omega), h4⟩, ⟨rfl, rfl, rfl, rfl, zd rfl (by erw [em]; rw [z_ (by omega) (by omega)]; rfl), rfl, trivial⟩, by dsimp only; omega⟩
          | exact ⟨⟨lo, (lo + hi) / 2⟩, ⟨by dsimp only; omega, by dsimp only; omega, h3, fun i hi1 hi2 => ris_right hr hk hi1 hi2⟩, ⟨rfl, rfl, rfl, rfl, rfl, zd rfl em, trivial⟩, by dsimp only; omega⟩
      · have hk : ltB (nthA l ((lo + hi) / 2)).key k = false := by cases hq : ltB (nthA l ((lo + hi) / 2)).key k; rfl; exact absurd ((cmpK_lt _ _).2 hq) (of_decide_eq_false hb2)
        refine zB <| g_u (zC rfl rfl) <| g_u (zE rfl rfl) <| zH <| zW <| zA ?_
        have hlt : lo < hi := by have := of_decide_eq_true hb1; omega
        first
          | exact ⟨⟨(lo + hi) / 2 + 1, hi⟩, ⟨by dsimp only; omega, h2, fun i hi1 => ris_left hr hmid hk (by dsimp only at hi1; omega), h4⟩, ⟨rfl, rfl, rfl, rfl, zd rfl (by erw [em]; rw [z_ (by omega) (by omega)]; rfl), rfl, trivial⟩, by dsimp only; omega⟩
          | exact ⟨⟨lo, (lo + hi) / 2⟩, ⟨by dsimp only; omega, by dsimp only; omega, h3, fun i hi1 hi2 => ris_right hr hk hi1 hi2⟩, ⟨rfl, rfl, rfl, rfl, rfl, zd rfl em, trivial⟩, by dsimp only; omega⟩
    · have hlo : lo = hi := by have := of_decide_eq_false hb1; omega
      have hp : lo = posA l k := posA_spec l k lo (by omega) h3 (fun i hi1 hi2 => h4 i (by omega) hi2)
      refine zt <| zP <| zP <| zj <| zA <| zD <| zB <| g_u (zC rfl rfl) <| g_u (zC rfl rfl) <| g_u (zC rfl rfl) <| g_u (yd rfl rfl rfl) <| g_u (zC rfl rfl) <| yL (t := 39) rfl ?_
      rintro (hb3 | hb3)
      · rw [hb3]
        have hll : lo < l.length := by have := of_decide_eq_true hb3; (try simp only [List.length_map] at this); omega
        refine zO rfl rfl (zC rfl rfl) <| zO rfl rfl (zC rfl rfl) <| zO rfl rfl (zC rfl rfl) ?_
        refine zO rfl rfl (zJ rfl rfl rfl Tryd.underlying30 tS73 (by omega) (ixA hll)) ?_
        refine zO rfl rfl (zN rfl rfl tA73 tS73 rfl rfl) <| zO rfl rfl (zC rfl rfl) <| zO rfl rfl (s_callv1 (cmpA_c _ _) rfl rfl rfl) <| zO rfl rfl (xM rfl rfl rfl) <| g_u (zZ rfl rfl rfl) <| g_u (zE rfl rfl) <| g_u (zE rfl rfl) <| zH <| zA <| zQ ?_
        exact ⟨⟨(rfl : toAV (Al.look _ _) = some _).trans (congrArg (fun n : Nat => some (iv n)) hp), rfl⟩, ⟨(rfl : toAV (Al.look _ _) = some _).trans (congrArg (fun b => some (bv b)) (by rw [hasA, ← hp, decide_eq_true hll, Bool.true_and, ← Bool.coe_iff_coe]; simp only [beq_iff_eq, qa]; exact cmpK_eq _ _)), rfl⟩, trivial⟩
      · rw [hb3]
        have hll : ¬ lo < l.length := by have := of_decide_eq_false hb3; (try simp only [List.length_map] at this); omega
        refine zI rfl rfl rfl <| zI rfl rfl rfl <| zI rfl rfl rfl <| zI rfl rfl rfl <| zI rfl rfl rfl <| zI rfl rfl rfl <| zI rfl rfl rfl <| zI rfl rfl rfl <| g_u (zr rfl rfl rfl) <| g_u (zE rfl rfl) <| g_u (zE rfl rfl) <| zH <| zA <| zQ ?_
        exact ⟨⟨(rfl : toAV (Al.look _ _) = some _).trans (congrArg (fun n : Nat => some (iv n)) hp), rfl⟩, ⟨(rfl : toAV (Al.look _ _) = some _).trans (congrArg (fun b => some (bv b)) (by rw [hasA, ← hp, decide_eq_false hll, Bool.false_and])), rfl⟩, trivial⟩
theorem find_c (l : List GA) (k : ByteArray) (hr : risA none l) (hl : l.length ≤ 1000000000000) : zo Tryd.prog Γ0 89 [.sl 7 (l.map avA), sv k] [iv (posA l k : Nat), bv (hasA l k)] := by
  refine zf Tryd.func89 rfl Tryd.ntmps89 (by kernel_rfl) rfl fun w0 I0 G0 => ?_
  refine zD <| zB <| g_u (zE rfl rfl) <| g_u (zE rfl rfl) <| zH <| zA <| zD <| zB <| g_u (zC rfl rfl) <| g_u (zC rfl rfl) <| g_u (w_ (bsf_c l k hr hl) rfl rfl) <| g_u (zi rfl rfl rfl rfl) <| g_u (zi rfl rfl rfl rfl) <| g_u (zE rfl rfl) <| g_u (zE rfl rfl) <| zH <| zA <| zQ ?_
  exact ⟨⟨(rfl : toAV (Al.look _ _) = some _).trans (congrArg some (by rfl)), rfl⟩, ⟨(rfl : toAV (Al.look _ _) = some _).trans (congrArg some (by rfl)), rfl⟩, trivial⟩
theorem get_c (l : List GA) (k : ByteArray) (hr : risA none l) (hl : l.length ≤ 1000000000000) : zo Tryd.prog Γ0 75 [.sl 7 (l.map avA), sv k] [((getA l k).getD zeroV).av, bv (getA l k).isSome] := by
  refine zf Tryd.func75 rfl Tryd.ntmps75 (by kernel_rfl) rfl fun w0 I0 G0 => ?_
  refine zD <| zB <| g_uG (z0 1004 rfl rfl rfl tZ71) rfl <| g_u (zE rfl rfl) <| zH <| zA <| zD <| zD <| zB <| g_u (zC rfl rfl) <| g_u (zC rfl rfl) <| g_u (w_ (find_c l k hr hl) rfl rfl) <| g_u (xV rfl rfl) <| g_u (zi rfl rfl rfl rfl) <| g_u (zi rfl rfl rfl rfl) <| g_u (zE rfl rfl) <| g_u (zE rfl rfl) <| zH <| zA <| zD <| zB <| g_u (zC rfl rfl) <| zH <| zA ?_
  refine zV rfl (fun hb1 => ?_) (fun hb1 => ?_)
  · have hh : hasA l k = true := hb1
    have hll : posA l k < l.length := by unfold hasA at hh; simp at hh; exact hh.1
    refine zD <| zB <| g_u (zC rfl rfl) <| g_u (zC rfl rfl) ?_
    refine g_u (zJ rfl rfl rfl Tryd.underlying30 tS73 (by omega) (ixA hll)) ?_
    refine g_u (zL rfl rfl fa73_1 rfl rfl) <| g_u (zN rfl rfl tA71 tS71 rfl rfl) <| g_u (zX rfl rfl rfl tS71 rfl rfl) <| g_u (zE rfl rfl) <| zH <| zA <| zQ <| zM ?_
    exact ⟨⟨_, _, _, _, _, _, _, rfl, rfl, tA71, tS71, rfl, rfl, (rfl : toAV _ = some _).trans (congrArg some (by (rw [getA_pos hr k, if_pos hh]; rfl)))⟩, ⟨(rfl : toAV (Al.look _ _) = some _).trans (congrArg some (by (rw [getA_pos hr k, if_pos hh]; rfl))), rfl⟩, trivial⟩
  · have hh : hasA l k = false := hb1
    refine zY <| zA <| zD <| zB <| g_u (yh rfl tU71 us71 pl71 rfl rfl rfl rfl) <| g_u (zX rfl rfl rfl tS71 rfl rfl) <| g_u (zE rfl rfl) <| zH <| zA <| zQ ?_
    exact ⟨⟨_, _, _, _, _, _, _, rfl, rfl, tA71, tS71, rfl, rfl, (rfl : toAV _ = some _).trans (congrArg some (by (rw [getA_pos hr k, if_neg (by rw [hh]; decide)]; rfl)))⟩, ⟨(rfl : toAV (Al.look _ _) = some _).trans (congrArg some (by (rw [getA_pos hr k, if_neg (by rw [hh]; decide)]; rfl))), rfl⟩, trivial⟩
theorem getA_ok {l : List GA} (k : ByteArray) (h : ∀ a ∈ l, a.ok) : ((getA l k).getD zeroV).ok ∧ ((getA l k).getD zeroV).wt ≤ 1 + wtAs l := by
  cases hg : getA l k with
  | none => exact ⟨by simp only [Option.getD_none]; rw [GV.ok_iff]; exact ⟨by decide, by decide, by decide, by decide, fun x hx => absurd hx (by simp [zeroV, GV.list]), fun x hx => absurd hx (by simp [zeroV, GV.map])⟩, by simp only [Option.getD_none]; rw [GV.wt_eq]; simp [zeroV, GV.list, GV.map, GV.text, wtVs, wtAs]; exact Nat.zero_le _⟩
  | some v =>
    obtain ⟨a, ha, rfl, _⟩ := getA_mem hg
    have := wD ha
    have := a.wt_eq
    exact ⟨((GA.ok_iff a).1 (h a ha)).2, by simp only [Option.getD_some]; omega⟩
theorem textA_c (l : List GA) (k : ByteArray) (hr : risA none l) (hl : l.length ≤ 1000000000000) (ho : ∀ a ∈ l, a.ok) (hw : wtAs l ≤ 9000000) : zo Tryd.prog Γ0 53 [.sl 7 (l.map avA), sv k] [sv (textA l k)] := by
  refine zf Tryd.func53 rfl Tryd.ntmps53 (by kernel_rfl) rfl fun w0 I0 G0 => ?_
  refine zD <| zB <| g_u (zE rfl rfl) <| zH <| zA <| zD <| zB <| g_u (zC rfl rfl) <| g_u (zC rfl rfl) <| g_u (w_ (get_c l k hr hl) rfl rfl) <| g_u (xV rfl rfl) <| g_u (zi rfl rfl rfl rfl) <| g_u (zi rfl rfl rfl rfl) <| g_uG (z0 1005 rfl rfl rfl tZ71) rfl <| g_u (zX rfl rfl rfl tS71 rfl rfl) <| g_u (zE rfl rfl) <| zH <| zA <| zD <| zB <| g_u (yW rfl rfl rfl tA71 tS71 rfl rfl) ?_
  refine g_u (zR (text_c _ (getA_ok k ho).1 (by have := (getA_ok k ho).2; omega)) rfl rfl) ?_
  refine g_u (zE rfl rfl) <| zH <| zA <| zQ ?_
  exact ⟨⟨(rfl : toAV (Al.look _ _) = some _).trans (congrArg some (by rfl)), rfl⟩, trivial⟩
theorem rget_c (l : List GA) (k : ByteArray) (hl : l.length ≤ 1000000000000) : zo Tryd.prog Γ0 77 [.sl 7 (l.map avA), sv k] [((getA l k).getD zeroV).av, bv (getA l k).isSome] := by
  refine zf Tryd.func77 rfl Tryd.ntmps77 (by kernel_rfl) rfl fun w0 I0 G0 => ?_
  refine zD <| zB <| g_uG (z0 1004 rfl rfl rfl tZ71) rfl <| g_u (zE rfl rfl) <| zH <| zA <| zD <| zD <| zB <| g_u (zE rfl rfl) <| zH <| zA <| zT ?_
  refine zq (fun i : Nat => [(0, .imm (.sl 7 (l.map avA))), (1, .imm (sv k)), (4, .ptr 1004 0), (1004, .box 71 (.imm z71)), (5, .imm (bv false)), (6, .imm (iv (i : Int)))]) (fun i => i ≤ l.length ∧ getA l k = getA (l.drop i) k) (fun i => l.length - i) (0) ?_ ⟨rfl, rfl, rfl, rfl, rfl, rfl, trivial⟩ ?_
  · exact ⟨Nat.zero_le _, rfl⟩
  · rintro i ⟨h1, h2⟩; (try dsimp only at h1 h2)
    refine zD <| zD <| zB <| g_u (zC rfl rfl) <| g_u (zC rfl rfl) <| g_u (zz rfl rfl Tryd.underlying30) <| g_u (yd rfl rfl rfl) <| zH <| zA ?_
    refine zV rfl (fun hb1 => ?_) (fun hb1 => ?_)
    · have hi : i < l.length := by have := of_decide_eq_true hb1; (try simp only [List.length_map] at this); omega
      refine zY <| zA <| zD <| zT <| zD <| zB <| g_u (zC rfl rfl) <| g_u (zC rfl rfl) ?_
      refine g_u (zJ rfl rfl rfl Tryd.underlying30 tS73 (by omega) (ixA hi)) ?_
      refine g_u (zL rfl rfl wq rfl rfl) <| g_u (zN rfl rfl tA9 tS9 rfl rfl) <| g_u (zC rfl rfl) <| g_u (s_eqS rfl rfl rfl) <| zH <| zA ?_
      refine zV rfl (fun hb2 => ?_) (fun hb2 => ?_)
      · have hke : (nthA l i).key = k := by have e := hb2; rw [yg] at e; exact of_decide_eq_true e
        refine zD <| zB <| g_u (zC rfl rfl) <| g_u (zC rfl rfl) ?_
        refine g_u (zJ rfl rfl rfl Tryd.underlying30 tS73 (by omega) (ixA hi)) ?_
        refine g_u (zL rfl rfl fa73_1 rfl rfl) <| g_u (zN rfl rfl tA71 tS71 rfl rfl) <| g_u (zX rfl rfl rfl tS71 rfl rfl) <| g_u (zE rfl rfl) <| zH <| zA <| zQ <| zp <| zM <| zM <| zp <| zM ?_
        exact ⟨⟨_, _, _, _, _, _, _, rfl, rfl, tA71, tS71, rfl, rfl, (rfl : toAV _ = some _).trans (congrArg some (by (rw [h2, getA_drop hi, if_pos hke]; rfl)))⟩, ⟨(rfl : toAV (Al.look _ _) = some _).trans (congrArg some (by (rw [h2, getA_drop hi, if_pos hke]; rfl))), rfl⟩, trivial⟩
      · have hke : ¬ (nthA l i).key = k := by have e := hb2; rw [yg] at e; exact of_decide_eq_false e
        refine zY <| zW <| zA <| zB <| g_u (zC rfl rfl) <| g_u (yK rfl rfl rfl) <| g_u (zE rfl rfl) <| zH <| zA ?_
        refine ⟨i + 1, ⟨hi, by rw [h2, getA_drop hi, if_neg hke]⟩, ⟨rfl, rfl, rfl, rfl, rfl, zd rfl (by rw [z_ (by omega) (by omega)]; rfl), trivial⟩, by (try dsimp only); omega⟩
    · have hin : i = l.length := by have := of_decide_eq_false hb1; (try simp only [List.length_map] at this); omega
      refine zt <| zP <| zP <| zj <| zA <| zD <| zB <| g_u (yh rfl tU71 us71 pl71 rfl rfl rfl rfl) <| g_u (zX rfl rfl rfl tS71 rfl rfl) <| g_u (zE rfl rfl) <| zH <| zA <| zQ ?_
      exact ⟨⟨_, _, _, _, _, _, _, rfl, rfl, tA71, tS71, rfl, rfl, (rfl : toAV _ = some _).trans (congrArg some (by (rw [h2, hin, List.drop_length]; rfl)))⟩, ⟨(rfl : toAV (Al.look _ _) = some _).trans (congrArg some (by (rw [h2, hin, List.drop_length]; rfl))), rfl⟩, trivial⟩
theorem rtextA_c (l : List GA) (k : ByteArray) (ho : ∀ a ∈ l, a.ok) (hw : wtAs l ≤ 9000000) : zo Tryd.prog Γ0 54 [.sl 7 (l.map avA), sv k] [sv (textA l k)] := by
  have q1 := yo l
  refine zf Tryd.func54 rfl Tryd.ntmps54 (by kernel_rfl) rfl fun w0 I0 G0 => ?_
  refine zD <| zB <| g_u (zE rfl rfl) <| zH <| zA <| zD <| zB <| g_u (zC rfl rfl) <| g_u (zC rfl rfl) ?_
  refine g_u (w_ (rget_c _ _ (by first | assumption | omega)) rfl rfl) ?_
  refine g_u (xV rfl rfl) <| g_u (zi rfl rfl rfl rfl) <| g_u (zi rfl rfl rfl rfl) <| g_uG (z0 1005 rfl rfl rfl tZ71) rfl <| g_u (zX rfl rfl rfl tS71 rfl rfl) <| g_u (zE rfl rfl) <| zH <| zA <| zD <| zB <| g_u (yW rfl rfl rfl tA71 tS71 rfl rfl) ?_
  refine g_u (zR (rtext_c _ (getA_ok k ho).1 (by have := (getA_ok k ho).2; omega)) rfl rfl) ?_
  refine g_u (zE rfl rfl) <| zH <| zA <| zQ ?_
  exact ⟨⟨(rfl : toAV (Al.look _ _) = some _).trans (congrArg some (by rfl)), rfl⟩, trivial⟩
theorem rservice_c (r : GRes) (ho : ∀ a ∈ r.attrs, a.ok) (hw : wtAs r.attrs ≤ 9000000) : zo Tryd.prog Γ0 30 [r.av] [sv (yp r)] := by
  refine zf Tryd.func30 rfl Tryd.ntmps30 (by kernel_rfl) rfl fun w0 I0 G0 => ?_
  refine zD <| zB <| g_uG (zn 1001 rfl rfl rfl rfl) rfl <| g_u (zE rfl rfl) <| zH <| zA <| zD <| zB <| g_u (zF rfl rfl fa61_0 rfl) <| g_u (zG rfl rfl rfl tA30 tS30 rfl rfl) <| g_u (zR (rtextA_c r.attrs skey ho hw) rfl rfl) <| g_u (zE rfl rfl) <| zH <| zA <| zQ ?_
  exact ⟨⟨(rfl : toAV (Al.look _ _) = some _).trans (congrArg some (by rfl)), rfl⟩, trivial⟩
theorem service_c (r : GRes) (ho : ∀ a ∈ r.attrs, a.ok) (hw : wtAs r.attrs ≤ 9000000) (hr : risA none r.attrs) : zo Tryd.prog Γ0 29 [r.av] [sv (yp r)] := by
  have q1 := yo r.attrs
  refine zf Tryd.func29 rfl Tryd.ntmps29 (by kernel_rfl) rfl fun w0 I0 G0 => ?_
  refine zD <| zB <| g_uG (zn 1001 rfl rfl rfl rfl) rfl <| g_u (zE rfl rfl) <| zH <| zA <| zD <| zB <| g_u (zF rfl rfl fa61_0 rfl) <| g_u (zG rfl rfl rfl tA30 tS30 rfl rfl) ?_
  refine g_u (zR (textA_c r.attrs skey hr (by omega) ho hw) rfl rfl) ?_
  refine g_u (zE rfl rfl) <| zH <| zA <| zQ ?_
  exact ⟨⟨(rfl : toAV (Al.look _ _) = some _).trans (congrArg some (by rfl)), rfl⟩, trivial⟩
end Go.Proofs
namespace Go.Proofs
open Go Go.Al
set_option maxRecDepth 10000
end Go.Proofs
namespace Go.Proofs
open Go Go.Al
set_option maxRecDepth 10000
end Go.Proofs
namespace Go.Proofs
open Go Go.Al
set_option maxRecDepth 10000
end Go.Proofs
namespace Go.Proofs
open Go Go.Al
set_option maxRecDepth 10000
theorem textB_plain (v : GV) : vD (xq v) = vD v := by
  have h : ¬ ((xq v).kind = 6 ∨ (xq v).kind = 7) := by simp [xq, GV.kind]
  rw [textE h, simp1 (by rfl)]; rfl
theorem plainV_ok {v : GV} (ho : v.ok) (hw : v.wt ≤ 1000000) : (xq v).ok := by
  rw [GV.ok_iff]
  have := textM_le v
  refine ⟨⟨by show (0 : Int) ≤ 1; decide, by show (1 : Int) < 256; decide⟩, ?_, ⟨by show (-9223372036854775808 : Int) ≤ 0; decide, by show (0 : Int) < 9223372036854775808; decide⟩, ⟨by show (0 : Int) ≤ 0; decide, by show (0 : Int) < 18446744073709551616; decide⟩, fun x hx => absurd hx (by simp [xq, GV.list]), fun x hx => absurd hx (by simp [xq, GV.map])⟩
  show (vD v).size ≤ maxLen
  unfold maxLen; omega
end Go.Proofs
namespace Go.Proofs
open Go Go.Al
set_option maxRecDepth 10000
theorem into_c (l : List GA) (a : GA) (hl : l.length ≤ 1000000000) : zo Tryd.prog Γ0 49 [.sl 7 (l.map avA), a.av] [.sl 7 ((xp l a).map avA)] := by
  refine zf Tryd.func49 rfl Tryd.ntmps49 (by kernel_rfl) rfl fun w0 I0 G0 => ?_
  refine zD <| zB <| g_uG (zn 1003 rfl rfl rfl rfl) rfl <| g_u (zE rfl rfl) <| zH <| zA <| zD <| zB <| g_u (zE rfl rfl) <| zH <| zA <| zD <| zT ?_
  refine zq (fun i : Nat => [(0, .imm (.sl 7 (l.map avA))), (3, .ptr 1003 0), (1003, .box 73 (.imm a.av)), (5, .imm (iv (i : Int)))]) (fun i => i ≤ l.length ∧ ∀ j, j < i → ltB (nthA l j).key a.key = true) (fun i => l.length - i) (0) ?_ ⟨rfl, rfl, rfl, rfl, trivial⟩ ?_
  · exact ⟨Nat.zero_le _, fun j h => absurd h (Nat.not_lt_zero _)⟩
  · rintro i ⟨h1, h2⟩; (try dsimp only at h1 h2)
    refine zD <| zD <| yM y6 <| g_u (zC rfl rfl) <| g_u (zC rfl rfl) <| g_u (zz rfl rfl Tryd.underlying30) <| g_u (yd rfl rfl rfl) <| g_u (zC rfl rfl) <| yL (t := 11) rfl ?_
    rintro (hb1 | hb1)
    · rw [hb1]
      have hi : i < l.length := by have := of_decide_eq_true hb1; (try simp only [List.length_map] at this); omega
      refine zO rfl rfl (zC rfl rfl) <| zO rfl rfl (zC rfl rfl) ?_
      refine zO rfl rfl (zJ rfl rfl rfl Tryd.underlying30 tS73 (by omega) (ixA hi)) ?_
      refine zO rfl rfl (zL rfl rfl wq rfl rfl) <| zO rfl rfl (zN rfl rfl tA9 tS9 rfl rfl) <| zO rfl rfl (zF rfl rfl wq rfl) <| zO rfl rfl (zG rfl rfl rfl tA9 tS9 rfl rfl) <| zO rfl rfl (s_ltS rfl rfl rfl) <| g_u (zZ rfl rfl rfl) ?_
      refine zH ⟨by kernel_rfl, ?_⟩
      refine zA ?_
      refine zV rfl (fun hb2 => ?_) (fun hb2 => ?_)
      · have hk : ltB (nthA l i).key a.key = true := (less_eq _ _).symm.trans hb2
        refine zY <| zA <| zT <| zB <| g_u (zC rfl rfl) <| g_u (yK rfl rfl rfl) <| g_u (zE rfl rfl) <| zH <| zW <| zA ?_
        refine ⟨i + 1, ⟨hi, fun j hj => by rcases Nat.lt_or_ge j i with h | h; exact h2 j h; rw [show j = i by omega]; exact hk⟩, ⟨rfl, rfl, rfl, zd rfl (by rw [z_ (by omega) (by omega)]; rfl), trivial⟩, by (try dsimp only); omega⟩
      · have hk : ltB (nthA l i).key a.key = false := (less_eq _ _).symm.trans hb2
        have hp : i = posA l a.key := posA_first l a.key i h2 h1 (fun _ => hk)
        refine zt <| zP <| zP <| zj <| zA <| zD <| yM y6 <| g_uG (s_build0 1023 3023 rfl rfl rfl rfl rfl rfl Tryd.underlying30 tS73) rfl <| g_u (zC rfl rfl) <| g_u (zC rfl rfl) ?_
        refine g_u (s_slL_h i rfl rfl rfl Tryd.underlying30 tS73 (by omega) (by rw [List.length_map]; omega)) ?_
        refine g_u (z8 rfl rfl rfl rfl rfl Tryd.underlying30 Tryd.underlying30 tS73 zv73 rfl (by decide) by73 (by (try dsimp only); simp only [List.length_append, List.length_cons, List.length_nil, List.length_map, List.length_take, List.length_drop]; omega) (by (try dsimp only); simp only [List.length_append, List.length_cons, List.length_nil, List.length_map, List.length_take, List.length_drop]; omega)) ?_
        refine g_u (zG rfl rfl rfl tA73 tS73 rfl rfl) <| g_u (ze (X0 := z73) rfl Tryd.underlying30 tS73 tZ73 rfl rfl rfl rfl rfl rfl rfl rfl) ?_
        refine g_u (z8 rfl rfl rfl rfl rfl Tryd.underlying30 Tryd.underlying30 tS73 zv73 rfl (by decide) by73 (by (try dsimp only); simp only [List.length_append, List.length_cons, List.length_nil, List.length_map, List.length_take, List.length_drop]; omega) (by (try dsimp only); simp only [List.length_append, List.length_cons, List.length_nil, List.length_map, List.length_take, List.length_drop]; omega)) ?_
        refine g_u (zx rfl rfl) ?_
        refine zH ⟨by kernel_rfl, ?_⟩
        refine zA <| zD <| zD <| yM y6 <| g_u (zC rfl rfl) <| g_u (zC rfl rfl) <| g_u (zz rfl rfl Tryd.underlying30) <| g_u (yd rfl rfl rfl) <| g_u (zC rfl rfl) <| yL (t := 35) rfl ?_
        rintro (hb3 | hb3)
        · rw [hb3]
          have hpl : i < l.length := by have := of_decide_eq_true hb3; (try simp only [List.length_map] at this); omega
          refine zO rfl rfl (zC rfl rfl) <| zO rfl rfl (zC rfl rfl) ?_
          refine zO rfl rfl (zJ rfl rfl rfl Tryd.underlying30 tS73 (by omega) (ixA hpl)) ?_
          refine zO rfl rfl (zL rfl rfl wq rfl rfl) <| zO rfl rfl (zN rfl rfl tA9 tS9 rfl rfl) <| zO rfl rfl (zF rfl rfl wq rfl) <| zO rfl rfl (zG rfl rfl rfl tA9 tS9 rfl rfl) <| zO rfl rfl (s_eqS rfl rfl rfl) <| g_u (zZ rfl rfl rfl) ?_
          refine zH ⟨by kernel_rfl, ?_⟩
          refine zA ?_
          refine zV rfl (fun hb4 => ?_) (fun hb4 => ?_)
          · have he : (nthA l i).key = a.key := by have e := hb4; rw [yg] at e; exact of_decide_eq_true e
            refine zB <| g_u (zC rfl rfl) <| g_u (yK rfl rfl rfl) <| g_u (zE rfl rfl) <| zH <| zA <| zD <| zB <| g_u (zs rfl rfl) <| g_u (zC rfl rfl) <| g_u (zC rfl rfl) ?_
            refine g_u (s_slL_l (i + 1) rfl rfl rfl Tryd.underlying30 tS73 (by rw [z_ (by omega) (by omega)]; omega) (by rw [List.length_map]; omega)) ?_
            refine g_u (z8 rfl rfl rfl rfl rfl Tryd.underlying30 Tryd.underlying30 tS73 zv73 rfl (by decide) by73 (by (try dsimp only); simp only [List.length_append, List.length_cons, List.length_nil, List.length_map, List.length_take, List.length_drop]; omega) (by (try dsimp only); simp only [List.length_append, List.length_cons, List.length_nil, List.length_map, List.length_take, List.length_drop]; omega)) ?_
            refine g_u (zx rfl rfl) <| zH <| zA <| zQ ?_
            exact ⟨⟨(rfl : toAV (Al.look _ _) = some _).trans (congrArg some (by (refine congrArg (AV.sl 7) ?_; rw [wm, ← hp]; first | (have hh : hasA l a.key = true := (by rw [hasA, ← hp, decide_eq_true hpl, Bool.true_and]; exact decide_eq_true he); rw [if_pos hh]; simp [xS, List.take_of_length_le]) | (have hh : hasA l a.key = false := (by rw [hasA, ← hp, decide_eq_true hpl, Bool.true_and]; exact decide_eq_false he); rw [if_neg (by rw [hh]; decide)]; simp [xS, List.take_of_length_le]) | (have hh : hasA l a.key = false := (by rw [hasA, ← hp, decide_eq_false hpl, Bool.false_and]); rw [if_neg (by rw [hh]; decide)]; simp [xS, List.take_of_length_le])))), rfl⟩, trivial⟩
          · have he : ¬ (nthA l i).key = a.key := by first | (have e := hb4; rw [yg] at e; exact of_decide_eq_false e) | (intro _; omega)
            refine zY <| zA <| zD <| zB <| g_u (zs rfl rfl) <| g_u (zC rfl rfl) <| g_u (zC rfl rfl) ?_
            refine g_u (s_slL_l i rfl rfl rfl Tryd.underlying30 tS73 (by omega) (by rw [List.length_map]; omega)) ?_
            refine g_u (z8 rfl rfl rfl rfl rfl Tryd.underlying30 Tryd.underlying30 tS73 zv73 rfl (by decide) by73 (by (try dsimp only); simp only [List.length_append, List.length_cons, List.length_nil, List.length_map, List.length_take, List.length_drop]; omega) (by (try dsimp only); simp only [List.length_append, List.length_cons, List.length_nil, List.length_map, List.length_take, List.length_drop]; omega)) ?_
            refine g_u (zx rfl rfl) <| zH <| zA <| zQ ?_
            exact ⟨⟨(rfl : toAV (Al.look _ _) = some _).trans (congrArg some (by (refine congrArg (AV.sl 7) ?_; rw [wm, ← hp]; first | (have hh : hasA l a.key = true := (by rw [hasA, ← hp, decide_eq_true hpl, Bool.true_and]; exact decide_eq_true he); rw [if_pos hh]; simp [xS, List.take_of_length_le]) | (have hh : hasA l a.key = false := (by rw [hasA, ← hp, decide_eq_true hpl, Bool.true_and]; exact decide_eq_false he); rw [if_neg (by rw [hh]; decide)]; simp [xS, List.take_of_length_le]) | (have hh : hasA l a.key = false := (by rw [hasA, ← hp, decide_eq_false hpl, Bool.false_and]); rw [if_neg (by rw [hh]; decide)]; simp [xS, List.take_of_length_le])))), rfl⟩, trivial⟩
        · rw [hb3]
          have hpl : ¬ i < l.length := by have := of_decide_eq_false hb3; (try simp only [List.length_map] at this); omega
          refine zI rfl rfl rfl <| zI rfl rfl rfl <| zI rfl rfl rfl <| zI rfl rfl rfl <| zI rfl rfl rfl <| zI rfl rfl rfl <| zI rfl rfl rfl <| zI rfl rfl rfl <| g_u (zr rfl rfl rfl) ?_
          refine zH ⟨by kernel_rfl, ?_⟩
          refine zA <| z7 rfl <| zY <| zA <| zD <| zB <| g_u (zs rfl rfl) <| g_u (zC rfl rfl) <| g_u (zC rfl rfl) ?_
          refine g_u (s_slL_l i rfl rfl rfl Tryd.underlying30 tS73 (by omega) (by rw [List.length_map]; omega)) ?_
          refine g_u (z8 rfl rfl rfl rfl rfl Tryd.underlying30 Tryd.underlying30 tS73 zv73 rfl (by decide) by73 (by (try dsimp only); simp only [List.length_append, List.length_cons, List.length_nil, List.length_map, List.length_take, List.length_drop]; omega) (by (try dsimp only); simp only [List.length_append, List.length_cons, List.length_nil, List.length_map, List.length_take, List.length_drop]; omega)) ?_
          refine g_u (zx rfl rfl) <| zH <| zA <| zQ ?_
          exact ⟨⟨(rfl : toAV (Al.look _ _) = some _).trans (congrArg some (by (refine congrArg (AV.sl 7) ?_; rw [wm, ← hp]; first | (have hh : hasA l a.key = true := (by rw [hasA, ← hp, decide_eq_true hpl, Bool.true_and]; exact decide_eq_true he); rw [if_pos hh]; simp [xS, List.take_of_length_le]) | (have hh : hasA l a.key = false := (by rw [hasA, ← hp, decide_eq_true hpl, Bool.true_and]; exact decide_eq_false he); rw [if_neg (by rw [hh]; decide)]; simp [xS, List.take_of_length_le]) | (have hh : hasA l a.key = false := (by rw [hasA, ← hp, decide_eq_false hpl, Bool.false_and]); rw [if_neg (by rw [hh]; decide)]; simp [xS, List.take_of_length_le])))), rfl⟩, trivial⟩
    · rw [hb1]
      have hin : i = l.length := by have := of_decide_eq_false hb1; (try simp only [List.length_map] at this); omega
      have hp : i = posA l a.key := posA_first l a.key i h2 h1 (fun h => absurd h (by omega))
      refine zI rfl rfl rfl <| zI rfl rfl rfl <| zI rfl rfl rfl <| zI rfl rfl rfl <| zI rfl rfl rfl <| zI rfl rfl rfl <| zI rfl rfl rfl <| zI rfl rfl rfl <| g_u (zr rfl rfl rfl) ?_
      refine zH ⟨by kernel_rfl, ?_⟩
      refine zA <| z7 rfl <| zt <| zP <| zP <| zj <| zA <| zD <| yM y6 <| g_uG (s_build0 1023 3023 rfl rfl rfl rfl rfl rfl Tryd.underlying30 tS73) rfl <| g_u (zC rfl rfl) <| g_u (zC rfl rfl) ?_
      refine g_u (s_slL_h i rfl rfl rfl Tryd.underlying30 tS73 (by omega) (by rw [List.length_map]; omega)) ?_
      refine g_u (z8 rfl rfl rfl rfl rfl Tryd.underlying30 Tryd.underlying30 tS73 zv73 rfl (by decide) by73 (by (try dsimp only); simp only [List.length_append, List.length_cons, List.length_nil, List.length_map, List.length_take, List.length_drop]; omega) (by (try dsimp only); simp only [List.length_append, List.length_cons, List.length_nil, List.length_map, List.length_take, List.length_drop]; omega)) ?_
      refine g_u (zG rfl rfl rfl tA73 tS73 rfl rfl) <| g_u (ze (X0 := z73) rfl Tryd.underlying30 tS73 tZ73 rfl rfl rfl rfl rfl rfl rfl rfl) ?_
      refine g_u (z8 rfl rfl rfl rfl rfl Tryd.underlying30 Tryd.underlying30 tS73 zv73 rfl (by decide) by73 (by (try dsimp only); simp only [List.length_append, List.length_cons, List.length_nil, List.length_map, List.length_take, List.length_drop]; omega) (by (try dsimp only); simp only [List.length_append, List.length_cons, List.length_nil, List.length_map, List.length_take, List.length_drop]; omega)) ?_
      refine g_u (zx rfl rfl) ?_
      refine zH ⟨by kernel_rfl, ?_⟩
      refine zA <| zD <| zD <| yM y6 <| g_u (zC rfl rfl) <| g_u (zC rfl rfl) <| g_u (zz rfl rfl Tryd.underlying30) <| g_u (yd rfl rfl rfl) <| g_u (zC rfl rfl) <| yL (t := 35) rfl ?_
      rintro (hb5 | hb5)
      · rw [hb5]
        have hpl : i < l.length := by have := of_decide_eq_true hb5; (try simp only [List.length_map] at this); omega
        refine zO rfl rfl (zC rfl rfl) <| zO rfl rfl (zC rfl rfl) ?_
        refine zO rfl rfl (zJ rfl rfl rfl Tryd.underlying30 tS73 (by omega) (ixA hpl)) ?_
        refine zO rfl rfl (zL rfl rfl wq rfl rfl) <| zO rfl rfl (zN rfl rfl tA9 tS9 rfl rfl) <| zO rfl rfl (zF rfl rfl wq rfl) <| zO rfl rfl (zG rfl rfl rfl tA9 tS9 rfl rfl) <| zO rfl rfl (s_eqS rfl rfl rfl) <| g_u (zZ rfl rfl rfl) ?_
        refine zH ⟨by kernel_rfl, ?_⟩
        refine zA ?_
        refine zV rfl (fun hb6 => ?_) (fun hb6 => ?_)
        · have he : (nthA l i).key = a.key := by have e := hb6; rw [yg] at e; exact of_decide_eq_true e
          refine zB <| g_u (zC rfl rfl) <| g_u (yK rfl rfl rfl) <| g_u (zE rfl rfl) <| zH <| zA <| zD <| zB <| g_u (zs rfl rfl) <| g_u (zC rfl rfl) <| g_u (zC rfl rfl) ?_
          refine g_u (s_slL_l (i + 1) rfl rfl rfl Tryd.underlying30 tS73 (by rw [z_ (by omega) (by omega)]; omega) (by rw [List.length_map]; omega)) ?_
          refine g_u (z8 rfl rfl rfl rfl rfl Tryd.underlying30 Tryd.underlying30 tS73 zv73 rfl (by decide) by73 (by (try dsimp only); simp only [List.length_append, List.length_cons, List.length_nil, List.length_map, List.length_take, List.length_drop]; omega) (by (try dsimp only); simp only [List.length_append, List.length_cons, List.length_nil, List.length_map, List.length_take, List.length_drop]; omega)) ?_
          refine g_u (zx rfl rfl) <| zH <| zA <| zQ ?_
          exact ⟨⟨(rfl : toAV (Al.look _ _) = some _).trans (congrArg some (by (refine congrArg (AV.sl 7) ?_; rw [wm, ← hp]; first | (have hh : hasA l a.key = true := (by rw [hasA, ← hp, decide_eq_true hpl, Bool.true_and]; exact decide_eq_true he); rw [if_pos hh]; simp [xS, List.take_of_length_le]) | (have hh : hasA l a.key = false := (by rw [hasA, ← hp, decide_eq_true hpl, Bool.true_and]; exact decide_eq_false he); rw [if_neg (by rw [hh]; decide)]; simp [xS, List.take_of_length_le]) | (have hh : hasA l a.key = false := (by rw [hasA, ← hp, decide_eq_false hpl, Bool.false_and]); rw [if_neg (by rw [hh]; decide)]; simp [xS, List.take_of_length_le])))), rfl⟩, trivial⟩
        · have he : ¬ (nthA l i).key = a.key := by first | (have e := hb6; rw [yg] at e; exact of_decide_eq_false e) | (intro _; omega)
          refine zY <| zA <| zD <| zB <| g_u (zs rfl rfl) <| g_u (zC rfl rfl) <| g_u (zC rfl rfl) ?_
          refine g_u (s_slL_l i rfl rfl rfl Tryd.underlying30 tS73 (by omega) (by rw [List.length_map]; omega)) ?_
          refine g_u (z8 rfl rfl rfl rfl rfl Tryd.underlying30 Tryd.underlying30 tS73 zv73 rfl (by decide) by73 (by (try dsimp only); simp only [List.length_append, List.length_cons, List.length_nil, List.length_map, List.length_take, List.length_drop]; omega) (by (try dsimp only); simp only [List.length_append, List.length_cons, List.length_nil, List.length_map, List.length_take, List.length_drop]; omega)) ?_
          refine g_u (zx rfl rfl) <| zH <| zA <| zQ ?_
          exact ⟨⟨(rfl : toAV (Al.look _ _) = some _).trans (congrArg some (by (refine congrArg (AV.sl 7) ?_; rw [wm, ← hp]; first | (have hh : hasA l a.key = true := (by rw [hasA, ← hp, decide_eq_true hpl, Bool.true_and]; exact decide_eq_true he); rw [if_pos hh]; simp [xS, List.take_of_length_le]) | (have hh : hasA l a.key = false := (by rw [hasA, ← hp, decide_eq_true hpl, Bool.true_and]; exact decide_eq_false he); rw [if_neg (by rw [hh]; decide)]; simp [xS, List.take_of_length_le]) | (have hh : hasA l a.key = false := (by rw [hasA, ← hp, decide_eq_false hpl, Bool.false_and]); rw [if_neg (by rw [hh]; decide)]; simp [xS, List.take_of_length_le])))), rfl⟩, trivial⟩
      · rw [hb5]
        have hpl : ¬ i < l.length := by have := of_decide_eq_false hb5; (try simp only [List.length_map] at this); omega
        refine zI rfl rfl rfl <| zI rfl rfl rfl <| zI rfl rfl rfl <| zI rfl rfl rfl <| zI rfl rfl rfl <| zI rfl rfl rfl <| zI rfl rfl rfl <| zI rfl rfl rfl <| g_u (zr rfl rfl rfl) ?_
        refine zH ⟨by kernel_rfl, ?_⟩
        refine zA <| z7 rfl <| zY <| zA <| zD <| zB <| g_u (zs rfl rfl) <| g_u (zC rfl rfl) <| g_u (zC rfl rfl) ?_
        refine g_u (s_slL_l i rfl rfl rfl Tryd.underlying30 tS73 (by omega) (by rw [List.length_map]; omega)) ?_
        refine g_u (z8 rfl rfl rfl rfl rfl Tryd.underlying30 Tryd.underlying30 tS73 zv73 rfl (by decide) by73 (by (try dsimp only); simp only [List.length_append, List.length_cons, List.length_nil, List.length_map, List.length_take, List.length_drop]; omega) (by (try dsimp only); simp only [List.length_append, List.length_cons, List.length_nil, List.length_map, List.length_take, List.length_drop]; omega)) ?_
        refine g_u (zx rfl rfl) <| zH <| zA <| zQ ?_
        exact ⟨⟨(rfl : toAV (Al.look _ _) = some _).trans (congrArg some (by (refine congrArg (AV.sl 7) ?_; rw [wm, ← hp]; first | (have hh : hasA l a.key = true := (by rw [hasA, ← hp, decide_eq_true hpl, Bool.true_and]; exact decide_eq_true he); rw [if_pos hh]; simp [xS, List.take_of_length_le]) | (have hh : hasA l a.key = false := (by rw [hasA, ← hp, decide_eq_true hpl, Bool.true_and]; exact decide_eq_false he); rw [if_neg (by rw [hh]; decide)]; simp [xS, List.take_of_length_le]) | (have hh : hasA l a.key = false := (by rw [hasA, ← hp, decide_eq_false hpl, Bool.false_and]); rw [if_neg (by rw [hh]; decide)]; simp [xS, List.take_of_length_le])))), rfl⟩, trivial⟩
theorem canonAs_st (l : List GA) (hl : l.length ≤ 1000000000) (ih : ∀ a ∈ l, zo Tryd.prog Γ0 50 [a.val.av] [(xK a.val).av]) : zo Tryd.prog Γ0 25 [.sl 7 (l.map avA)] [.sl 7 ((wJ l).map avA)] := by
  refine zf Tryd.func25 rfl Tryd.ntmps25 (by kernel_rfl) rfl fun w0 I0 G0 => ?_
  refine zD <| zB <| g_u (zE rfl rfl) <| zH <| zA <| zD <| zB <| g_u (zE rfl rfl) <| zH <| zA <| zD <| zD <| aw_up 3 rfl (Up.nil 7) <| zB <| g_u (zE rfl rfl) <| zH <| zA <| zT ?_
  refine zq (fun i : Nat => [(0, .imm (.sl 7 (l.map avA))), (3, .imm (.sl 7 ((xd [] ((l.take i).map wZ)).map avA))), (4, .imm (iv (i : Int)))]) (fun i => i ≤ l.length) (fun i => l.length - i) (0) ?_ ⟨rfl, rfl, rfl, trivial⟩ ?_
  · exact Nat.zero_le _
  · rintro i h1; have h1 : i ≤ l.length := h1
    refine zD <| zD <| zB <| g_u (zC rfl rfl) <| g_u (zC rfl rfl) <| g_u (zz rfl rfl Tryd.underlying30) <| g_u (yd rfl rfl rfl) <| zH <| zA ?_
    refine zV rfl (fun hb1 => ?_) (fun hb1 => ?_)
    · have hi : i < l.length := by have := of_decide_eq_true hb1; (try simp only [List.length_map] at this); omega
      refine zY <| zA <| zD <| zT <| yM y6 <| g_u (zC rfl rfl) <| g_u (zC rfl rfl) <| g_u (zC rfl rfl) ?_
      refine g_u (zJ rfl rfl rfl Tryd.underlying30 tS73 (by omega) (ixA hi)) ?_
      refine g_u (zL rfl rfl wq rfl rfl) <| g_u (zN rfl rfl tA9 tS9 rfl rfl) <| g_u (zC rfl rfl) <| g_u (zC rfl rfl) ?_
      refine g_u (zJ rfl rfl rfl Tryd.underlying30 tS73 (by omega) (ixA hi)) ?_
      refine g_u (zL rfl rfl fa73_1 rfl rfl) <| g_u (zN rfl rfl tA71 tS71 rfl rfl) <| g_u (zR (ih _ (wR hi)) rfl rfl) <| g_u (yh rfl tU73 us73 pl73 rfl rfl rfl rfl) ?_
      refine g_u (zR (into_c _ (.mk (nthA l i).key (xK (nthA l i).val)) (by have := len_intoAll ((l.take i).map wZ) []; simp only [List.length_map, List.length_take, List.length_nil] at this; omega)) rfl rfl) ?_
      refine g_u (zE rfl rfl) ?_
      refine zH ⟨by kernel_rfl, ?_⟩
      refine zW <| zA <| zB <| g_u (zC rfl rfl) <| g_u (yK rfl rfl rfl) <| g_u (zE rfl rfl) <| zH <| zA ?_
      refine ⟨i + 1, hi, ⟨rfl, look_imm rfl (by rw [canonAs_take hi, canonP_eq]), zd rfl (by rw [z_ (by omega) (by omega)]; rfl), trivial⟩, by (try dsimp only); omega⟩
    · have hin : i = l.length := by have := of_decide_eq_false hb1; (try simp only [List.length_map] at this); omega
      refine zt <| zP <| zP <| zj <| zA <| zD <| zB <| g_u (zC rfl rfl) <| g_u (zE rfl rfl) <| zH <| zA <| zQ ?_
      exact ⟨⟨(rfl : toAV (Al.look _ _) = some _).trans (congrArg some (by (rw [hin, List.take_length]; rfl))), rfl⟩, trivial⟩
theorem canonV_st (v : GV) (hw : v.wt ≤ 10000000) (ih : ∀ y ∈ v.list, zo Tryd.prog Γ0 50 [y.av] [(xK y).av]) (ihm : zo Tryd.prog Γ0 25 [.sl 7 (v.map.map avA)] [.sl 7 ((wJ v.map).map avA)]) : zo Tryd.prog Γ0 50 [v.av] [(xK v).av] := by
  have ek := v.wt_eq
  have lv := xW v.list
  refine zf Tryd.func50 rfl Tryd.ntmps50 (by kernel_rfl) rfl fun w0 I0 G0 => ?_
  refine zD <| zB <| g_uG (zn 1001 rfl rfl rfl rfl) rfl <| g_uG (z0 1002 rfl rfl rfl tZ71) rfl <| zH <| zA <| zD <| zB <| g_u (zE rfl rfl) <| zH <| zA <| zD <| zD <| xN 3003 3 6 rfl rfl rfl rfl <| zB <| g_u (zE rfl rfl) <| zH <| zA <| zT ?_
  refine zq (fun i : Nat => [(1, .ptr 1001 0), (1001, .box 71 (.imm v.av)), (2, .ptr 1002 0), (1002, .box 71 (.imm z71)), (3, .slg 3003 6 ((v.list.take i).map fun x => (xK x).av)), (3003, .tok 6 ((v.list.take i).map fun x => (xK x).av)), (4, .imm (iv (i : Int)))]) (fun i => i ≤ v.list.length) (fun i => v.list.length - i) (0) ?_ ⟨rfl, rfl, rfl, rfl, rfl, rfl, rfl, trivial⟩ ?_
  · exact Nat.zero_le _
  · rintro i h1; have h1 : i ≤ v.list.length := h1
    refine zD <| zD <| zB <| g_u (zC rfl rfl) <| g_u (zF rfl rfl fa71_4 rfl) <| g_u (zG rfl rfl rfl tA69 tS69 rfl rfl) <| g_u (zz rfl rfl Tryd.underlying69) <| g_u (yd rfl rfl rfl) <| zH <| zA ?_
    refine zV rfl (fun hb1 => ?_) (fun hb1 => ?_)
    · have hi : i < v.list.length := by have := of_decide_eq_true hb1; (try simp only [List.length_map] at this); omega
      refine zY <| zA <| zD <| zT <| zB <| g_u (zs rfl rfl) <| g_u (zF rfl rfl fa71_4 rfl) <| g_u (zG rfl rfl rfl tA69 tS69 rfl rfl) <| g_u (zC rfl rfl) ?_
      refine g_u (zJ rfl rfl rfl Tryd.underlying69 tS71 (by omega) (ixV hi)) ?_
      refine g_u (zN rfl rfl tA71 tS71 rfl rfl) <| g_u (zR (ih _ (nthV_mem hi)) rfl rfl) <| g_u (ze (X0 := z71) rfl Tryd.underlying69 tS71 tZ71 rfl rfl rfl rfl rfl rfl rfl rfl) ?_
      refine g_u (z8 rfl rfl rfl rfl rfl Tryd.underlying69 Tryd.underlying69 tS71 zv71 rfl (by decide) by71 (by (try dsimp only); simp only [List.length_append, List.length_cons, List.length_nil, List.length_map, List.length_take, List.length_drop]; omega) (by (try dsimp only); simp only [List.length_append, List.length_cons, List.length_nil, List.length_map, List.length_take, List.length_drop]; omega)) ?_
      refine g_u (zx rfl rfl) <| zH <| zW <| zA <| zB <| g_u (zC rfl rfl) <| g_u (yK rfl rfl rfl) <| g_u (zE rfl rfl) <| zH <| zA ?_
      have et : (v.list.take (i + 1)).map (fun x => (xK x).av) = (v.list.take i).map (fun x => (xK x).av) ++ [(xK (nthV v.list i)).av] := by rw [zu (ye (d := v0) hi), List.map_append]; rfl
      refine ⟨i + 1, hi, ⟨rfl, rfl, rfl, rfl, yU rfl et.symm, yB rfl et.symm, zd rfl (by rw [z_ (by omega) (by omega)]; rfl), trivial⟩, by (try dsimp only); omega⟩
    · have hin : i = v.list.length := by have := of_decide_eq_false hb1; (try simp only [List.length_map] at this); omega
      refine zt <| zP <| zP <| zj <| zA <| zD <| zB <| g_u (zs rfl rfl) <| g_u (zF rfl rfl fa71_4 rfl) <| g_u (wy rfl rfl rfl rfl tS69 rfl rfl) <| zH <| zA <| zD <| zB <| g_u (zF rfl rfl fa71_5 rfl) <| g_u (zG rfl rfl rfl tA30 tS30 rfl rfl) <| g_u (zR (ihm) rfl rfl) <| g_u (zF rfl rfl fa71_5 rfl) <| g_u (zX rfl rfl rfl tS30 rfl rfl) <| zH <| zA <| zD <| zB <| g_u (yW rfl rfl rfl tA71 tS71 rfl rfl) <| g_u (zX rfl rfl rfl tS71 rfl rfl) <| zH <| zA <| zQ ?_
      exact ⟨⟨_, _, _, _, _, _, _, rfl, rfl, tA71, tS71, rfl, rfl, (rfl : toAV _ = some _).trans (congrArg some (by (rw [canonV_eq, hin, List.take_length]; show AV.agg _ = AV.agg [_, _, _, _, .sl 6 ((v.list.map xK).map avV), _]; rw [List.map_map, show avV ∘ xK = fun x => (xK x).av from funext fun x => avV_eq _]; rfl)))⟩, trivial⟩
theorem canonV_c (v : GV) : v.wt ≤ 10000000 → zo Tryd.prog Γ0 50 [v.av] [(xK v).av] := by
  refine GV.ind (P := fun v => v.wt ≤ 10000000 → zo Tryd.prog Γ0 50 [v.av] [(xK v).av]) ?_ v
  intro v h1 h2 hw
  have ek := v.wt_eq
  have la := yo v.map
  exact canonV_st v hw (fun y hy => h1 y hy (by have := wtVs_mem hy; omega)) (canonAs_st v.map (by omega) fun a ha => h2 a ha (by have := wD ha; have := a.wt_eq; omega))
theorem canonAs_c (l : List GA) (hw : wtAs l ≤ 10000000) : zo Tryd.prog Γ0 25 [.sl 7 (l.map avA)] [.sl 7 ((wJ l).map avA)] := by
  have la := yo l
  exact canonAs_st l (by omega) fun a ha => canonV_c a.val (by have := wD ha; have := a.wt_eq; omega)
end Go.Proofs
namespace Go.Proofs
open Go Go.Al
set_option maxRecDepth 10000
set_option maxHeartbeats 8000000 in
theorem canonS_c (s : GSpan) (hw : s.wt ≤ 1000000) : zo Tryd.prog Γ0 51 [s.av] [(canonS s).av] := by
  have qw : s.wt = 1 + s.state.size + s.name.size + s.note.size + wtAs s.attrs + zw GE.wt s.events + zw GL.wt s.links := rfl
  have ql := yn GE.wt (fun e => by unfold GE.wt; omega) s.events
  have qm := yn GL.wt (fun e => by unfold GL.wt; omega) s.links
  refine zf Tryd.func51 rfl Tryd.ntmps51 (by kernel_rfl) rfl fun w0 I0 G0 => ?_
  refine zD <| zB <| g_uG (zn 1001 rfl rfl rfl rfl) rfl <| g_uG (z0 1002 rfl rfl rfl tZ36) rfl <| zH <| zA <| zD <| zB ?_
  refine g_u (zG rfl rfl rfl tA36 tS36 rfl (by first | exact wG (GSpan.width _) rfl | rfl)) ?_
  refine g_uG (z0 1003 rfl rfl rfl tZ36) rfl ?_
  refine g_u (zX rfl rfl rfl tS36 (by first | exact beqW (GSpan.width _) | rfl) (by first | exact setS_w (z36_w.trans (GSpan.width _).symm) rfl | rfl)) ?_
  refine zH <| zA <| zD <| zB <| g_u (zF rfl rfl fa36_8 rfl) <| g_u (zG rfl rfl rfl tA30 tS30 rfl rfl) ?_
  refine g_u (zR (canonAs_c s.attrs (by omega)) rfl rfl) ?_
  refine g_u (zF rfl rfl fa36_8 rfl) <| g_u (zX rfl rfl rfl tS30 rfl rfl) <| zH <| zA <| zD <| zB <| g_u (zF rfl rfl xI rfl) <| g_u (zX rfl rfl rfl tS31 rfl rfl) <| zH <| zA <| zD <| zB <| g_u (zF rfl rfl xk rfl) <| g_u (zX rfl rfl rfl tS32 rfl rfl) <| zH <| zA <| zD <| zD <| xD 3009 1003 3 38 rfl rfl rfl rfl rfl rfl rfl <| zB <| g_u (zE rfl rfl) <| zH <| zA <| zT ?_
  refine zq (fun i : Nat => [(1, .ptr 1001 0), (1001, .box 36 (.imm s.av)), (2, .ptr 1002 0), (1002, .box 36 (.imm z36)), (3, .ptr 1003 0), (1003, .box 36 (.agg [.imm (.arr 16 s.trace), .imm (.arr 8 s.id), .imm (.arr 8 s.parent), .imm (sv s.state), .imm (sv s.name), .imm (iv s.kind), .imm (uv s.start), .imm (uv s.fin), .imm (.sl 7 ((wJ s.attrs).map avA)), .slg 3009 3 ((s.events.take i).map fun e => (canonE e).av), .imm (.v (.slice none 0 0)), .imm (.agg [iv s.code, sv s.note])])), (3009, .tok 3 ((s.events.take i).map fun e => (canonE e).av)), (4, .imm (iv (i : Int)))]) (fun i => i ≤ s.events.length) (fun i => s.events.length - i) (0) ?_ ⟨rfl, rfl, rfl, rfl, rfl, rfl, rfl, rfl, trivial⟩ ?_
  · exact Nat.zero_le _
  · rintro i h1; have h1 : i ≤ s.events.length := h1
    refine zD <| zD <| zB <| g_u (zC rfl rfl) <| g_u (zF rfl rfl xI rfl) <| g_u (zG rfl rfl rfl tA31 tS31 rfl rfl) <| g_u (zz rfl rfl Tryd.underlying31) <| g_u (yd rfl rfl rfl) <| zH <| zA ?_
    refine zV rfl (fun hb1 => ?_) (fun hb1 => ?_)
    · have hi : i < s.events.length := by have := of_decide_eq_true hb1; (try simp only [List.length_map] at this); omega
      have hx : wtAs (nthE s.events i).attrs ≤ 10000000 := by have h5 := y_ GE.wt (vI hi); have h6 : (nthE s.events i).wt = 1 + (nthE s.events i).name.size + wtAs (nthE s.events i).attrs := rfl; omega
      refine zY <| zA <| zD <| zT <| zD <| zB <| g_u (zF rfl rfl xI rfl) <| g_u (zG rfl rfl rfl tA31 tS31 rfl rfl) <| g_u (zC rfl rfl) ?_
      refine g_u (zJ rfl rfl rfl Tryd.underlying31 tS66 (by omega) (ixE hi)) ?_
      refine g_u (zN rfl rfl tA66 tS66 rfl rfl) <| g_uG (z0 1005 rfl rfl rfl tZ66) rfl <| g_u (zX rfl rfl rfl tS66 rfl rfl) <| zH <| zA <| yM y6 <| g_u (zF rfl rfl xI rfl) <| g_u (yz rfl rfl rfl tA31 tS31 rfl rfl) <| g_u (zF rfl rfl fa66_0 rfl) <| g_u (zG rfl rfl rfl tA29 tS29 rfl rfl) <| g_u (zF rfl rfl fa66_1 rfl) <| g_u (zG rfl rfl rfl tA9 tS9 rfl rfl) <| g_u (zF rfl rfl fa66_2 rfl) <| g_u (zG rfl rfl rfl tA30 tS30 rfl rfl) <| g_u (zR (canonAs_c (nthE s.events i).attrs hx) rfl rfl) <| g_u (yh rfl tU66 us66 pl66 rfl rfl rfl rfl) <| g_u (ze (X0 := z66) rfl Tryd.underlying31 tS66 tZ66 rfl rfl rfl rfl rfl rfl rfl rfl) ?_
      refine g_u (z8 rfl rfl rfl rfl rfl Tryd.underlying31 Tryd.underlying31 tS66 zv66 rfl (by decide) by66 (by (try dsimp only); simp only [List.length_append, List.length_cons, List.length_nil, List.length_map, List.length_take, List.length_drop]; omega) (by (try dsimp only); simp only [List.length_append, List.length_cons, List.length_nil, List.length_map, List.length_take, List.length_drop]; omega)) ?_
      refine g_u (zF rfl rfl xI rfl) <| g_u (wy rfl rfl rfl rfl tS31 rfl rfl) ?_
      refine zH ⟨by kernel_rfl, ?_⟩
      refine zW <| zA <| zB <| g_u (zC rfl rfl) <| g_u (yK rfl rfl rfl) <| g_u (zE rfl rfl) <| zH <| zA ?_
      have et : ((s.events.take (i + 1)).map fun e => (canonE e).av) = ((s.events.take i).map fun e => (canonE e).av) ++ [(canonE (nthE s.events i)).av] := by rw [zu (ye (d := ge0) hi), List.map_append]; rfl
      refine ⟨i + 1, hi, ⟨rfl, rfl, rfl, rfl, rfl, (by rw [et]; rfl), yB rfl et.symm, zd rfl (by rw [z_ (by omega) (by omega)]; rfl), trivial⟩, by (try dsimp only); omega⟩
    · have hin : i = s.events.length := by have := of_decide_eq_false hb1; (try simp only [List.length_map] at this); omega
      refine zt <| zP <| zP <| zj <| zA <| zD <| zD <| xD 3010 1003 26 39 rfl rfl rfl rfl rfl rfl rfl <| zB <| g_u (zE rfl rfl) <| zH <| zA <| zT ?_
      refine zq (fun i : Nat => [(1, .ptr 1001 0), (1001, .box 36 (.imm s.av)), (2, .ptr 1002 0), (1002, .box 36 (.imm z36)), (3, .ptr 1003 0), (1003, .box 36 (.agg [.imm (.arr 16 s.trace), .imm (.arr 8 s.id), .imm (.arr 8 s.parent), .imm (sv s.state), .imm (sv s.name), .imm (iv s.kind), .imm (uv s.start), .imm (uv s.fin), .imm (.sl 7 ((wJ s.attrs).map avA)), .slg 3009 3 (s.events.map fun e => (canonE e).av), .slg 3010 26 ((s.links.take i).map fun e => (canonL e).av), .imm (.agg [iv s.code, sv s.note])])), (3010, .tok 26 ((s.links.take i).map fun e => (canonL e).av)), (6, .imm (iv (i : Int)))]) (fun i => i ≤ s.links.length) (fun i => s.links.length - i) (0) ?_ ⟨rfl, rfl, rfl, rfl, rfl, (by rw [hin, List.take_length]; rfl), rfl, rfl, trivial⟩ ?_
      · exact Nat.zero_le _
      · rintro i h1; have h1 : i ≤ s.links.length := h1
        refine zD <| zD <| zB <| g_u (zC rfl rfl) <| g_u (zF rfl rfl xk rfl) <| g_u (zG rfl rfl rfl tA32 tS32 rfl rfl) <| g_u (zz rfl rfl Tryd.underlying32) <| g_u (yd rfl rfl rfl) <| zH <| zA ?_
        refine zV rfl (fun hb2 => ?_) (fun hb2 => ?_)
        · have hi : i < s.links.length := by have := of_decide_eq_true hb2; (try simp only [List.length_map] at this); omega
          have hx : wtAs (nthL s.links i).attrs ≤ 10000000 := by have h5 := y_ GL.wt (nthL_mem hi); have h6 : (nthL s.links i).wt = 1 + (nthL s.links i).state.size + wtAs (nthL s.links i).attrs := rfl; omega
          refine zY <| zA <| zD <| zT <| zD <| zB <| g_u (zF rfl rfl xk rfl) <| g_u (zG rfl rfl rfl tA32 tS32 rfl rfl) <| g_u (zC rfl rfl) ?_
          refine g_u (zJ rfl rfl rfl Tryd.underlying32 tS68 (by omega) (ixL hi)) ?_
          refine g_u (zN rfl rfl tA68 tS68 rfl (by first | exact wG (GL.width _) rfl | rfl)) ?_
          refine g_uG (z0 1007 rfl rfl rfl tZ68) rfl ?_
          refine g_u (zX rfl rfl rfl tS68 (by first | exact beqW (GL.width _) | rfl) (by first | exact setS_w (z68_w.trans (GL.width _).symm) rfl | rfl)) ?_
          refine zH <| zA <| yM y6 <| g_u (zF rfl rfl xk rfl) <| g_u (yz rfl rfl rfl tA32 tS32 rfl rfl) <| g_u (zF rfl rfl fa68_0 rfl) <| g_u (yW rfl rfl rfl tA26 tS26 rfl rfl) <| g_u (zF rfl rfl fa68_1 rfl) <| g_u (zG rfl rfl rfl tA28 tS28 rfl rfl) <| g_u (zF rfl rfl fa68_2 rfl) <| g_u (zG rfl rfl rfl tA9 tS9 rfl rfl) <| g_u (zF rfl rfl fa68_3 rfl) <| g_u (zG rfl rfl rfl tA30 tS30 rfl rfl) <| g_u (zR (canonAs_c (nthL s.links i).attrs hx) rfl rfl) <| g_u (yh rfl tU68 us68 pl68 rfl rfl rfl rfl) <| g_u (ze (X0 := z68) rfl Tryd.underlying32 tS68 tZ68 rfl rfl rfl rfl rfl rfl rfl rfl) ?_
          refine g_u (z8 rfl rfl rfl rfl rfl Tryd.underlying32 Tryd.underlying32 tS68 zv68 rfl (by decide) by68 (by (try dsimp only); simp only [List.length_append, List.length_cons, List.length_nil, List.length_map, List.length_take, List.length_drop]; omega) (by (try dsimp only); simp only [List.length_append, List.length_cons, List.length_nil, List.length_map, List.length_take, List.length_drop]; omega)) ?_
          refine g_u (zF rfl rfl xk rfl) <| g_u (wy rfl rfl rfl rfl tS32 rfl rfl) ?_
          refine zH ⟨by kernel_rfl, ?_⟩
          refine zW <| zA <| zB <| g_u (zC rfl rfl) <| g_u (yK rfl rfl rfl) <| g_u (zE rfl rfl) <| zH <| zA ?_
          have et : ((s.links.take (i + 1)).map fun e => (canonL e).av) = ((s.links.take i).map fun e => (canonL e).av) ++ [(canonL (nthL s.links i)).av] := by rw [zu (ye (d := gl0) hi), List.map_append]; rfl
          refine ⟨i + 1, hi, ⟨rfl, rfl, rfl, rfl, rfl, (by rw [et]; rfl), yB rfl et.symm, zd rfl (by rw [z_ (by omega) (by omega)]; rfl), trivial⟩, by (try dsimp only); omega⟩
        · have hin2 : i = s.links.length := by have := of_decide_eq_false hb2; (try simp only [List.length_map] at this); omega
          refine zt <| zP <| zP <| zj <| zA <| zD <| zB <| g_u (yW rfl rfl rfl tA36 tS36 rfl rfl) ?_
          refine g_u (zX rfl rfl rfl tS36 (by first | exact beqW (GSpan.width _) | rfl) (by first | exact setS_w (z36_w.trans (GSpan.width _).symm) rfl | rfl)) ?_
          refine zH <| zA <| zQ ?_
          exact ⟨⟨_, _, _, _, _, _, _, rfl, rfl, tA36, tS36, rfl, rfl, (rfl : toAV _ = some _).trans (congrArg some (by (rw [hin2, List.take_length]; show _ = GSpan.av (canonS s); simp only [GSpan.av, canonS, List.map_map]; rfl)))⟩, trivial⟩
end Go.Proofs
namespace Go.Proofs
open Go Go.Al
set_option maxRecDepth 10000
set_option maxHeartbeats 4000000 in
theorem canonScs_c (l : List GScope) (hw : zw GScope.wt l ≤ 1000000) : zo Tryd.prog Γ0 26 [.sl 3 (l.map GScope.av)] [.sl 3 (l.map fun x => (vE x).av)] := by
  have ql := yn GScope.wt (fun e => by unfold GScope.wt; omega) l
  refine zf Tryd.func26 rfl Tryd.ntmps26 (by kernel_rfl) rfl fun w0 I0 G0 => ?_
  refine zD <| zB <| g_u (zE rfl rfl) <| zH <| zA <| zD <| zB <| g_u (zE rfl rfl) <| zH <| zA <| zD <| zD <| xN 3003 3 3 rfl rfl rfl rfl <| zB <| g_u (zE rfl rfl) <| zH <| zA <| zT ?_
  refine zq (fun i : Nat => [(0, .imm (.sl 3 (l.map GScope.av))), (3, .slg 3003 3 ((l.take i).map fun x => (vE x).av)), (3003, .tok 3 ((l.take i).map fun x => (vE x).av)), (4, .imm (iv (i : Int)))]) (fun i => i ≤ l.length) (fun i => l.length - i) (0) ?_ ⟨rfl, rfl, rfl, rfl, trivial⟩ ?_
  · exact Nat.zero_le _
  · rintro i h1; have h1 : i ≤ l.length := h1
    refine zD <| zD <| zB <| g_u (zC rfl rfl) <| g_u (zC rfl rfl) <| g_u (zz rfl rfl Tryd.underlying59) <| g_u (yd rfl rfl rfl) <| zH <| zA ?_
    refine zV rfl (fun hb1 => ?_) (fun hb1 => ?_)
    · have hi : i < l.length := by have := of_decide_eq_true hb1; (try simp only [List.length_map] at this); omega
      have hc1 := y_ GScope.wt (nthC_mem hi)
      have hc2 : (nthC l i).wt = 1 + (nthC l i).name.size + (nthC l i).version.size + zw GSpan.wt (nthC l i).spans := rfl
      have hc3 := yn GSpan.wt (fun e => by unfold GSpan.wt; omega) (nthC l i).spans
      refine zY <| zA <| zD <| zT <| zD <| zB <| g_u (zE rfl rfl) <| zH <| zA <| zD <| zD <| xN 3005 5 42 rfl rfl rfl rfl <| zB <| g_u (zE rfl rfl) <| zH <| zA <| zT ?_
      refine zq (fun j : Nat => [(0, .imm (.sl 3 (l.map GScope.av))), (3, .slg 3003 3 ((l.take i).map fun x => (vE x).av)), (3003, .tok 3 ((l.take i).map fun x => (vE x).av)), (4, .imm (iv (i : Int))), (5, .slg 3005 42 (((nthC l i).spans.take j).map fun x => (canonS x).av)), (3005, .tok 42 (((nthC l i).spans.take j).map fun x => (canonS x).av)), (6, .imm (iv (j : Int)))]) (fun j => j ≤ (nthC l i).spans.length) (fun j => (nthC l i).spans.length - j) (0) ?_ ⟨rfl, rfl, rfl, rfl, rfl, rfl, rfl, trivial⟩ ?_
      · exact Nat.zero_le _
      · rintro j g1; have g1 : j ≤ (nthC l i).spans.length := g1
        refine zD <| zD <| zB <| g_u (zC rfl rfl) <| g_u (zC rfl rfl) <| g_u (zC rfl rfl) ?_
        refine g_u (zJ rfl rfl rfl Tryd.underlying59 tS64 (by omega) (ixC hi)) ?_
        refine g_u (zL rfl rfl fa64_2 rfl rfl) <| g_u (zN rfl rfl tA44 tS44 rfl rfl) <| g_u (zz rfl rfl Tryd.underlying44) <| g_u (yd rfl rfl rfl) <| zH <| zA ?_
        refine zV rfl (fun hb2 => ?_) (fun hb2 => ?_)
        · have hj : j < (nthC l i).spans.length := by have := of_decide_eq_true hb2; (try simp only [List.length_map] at this); omega
          have hx : (nthS (nthC l i).spans j).wt ≤ 1000000 := by have h5 := y_ GSpan.wt (nthS_mem hj); omega
          refine zY <| zA <| zD <| zT <| zB <| g_u (zs rfl rfl) <| g_u (zC rfl rfl) <| g_u (zC rfl rfl) ?_
          refine g_u (zJ rfl rfl rfl Tryd.underlying59 tS64 (by omega) (ixC hi)) ?_
          refine g_u (zL rfl rfl fa64_2 rfl rfl) <| g_u (zN rfl rfl tA44 tS44 rfl rfl) <| g_u (zC rfl rfl) ?_
          refine g_u (zJ rfl rfl rfl Tryd.underlying44 tS36 (by omega) (ixS hj)) ?_
          refine g_u (zN rfl rfl tA36 tS36 rfl (by first | exact wG (GSpan.width _) rfl | rfl)) ?_
          refine g_u (zR (canonS_c _ hx) rfl rfl) <| g_u (ze (X0 := z36) rfl Tryd.underlying44 tS36 tZ36 rfl rfl rfl rfl rfl rfl rfl rfl) ?_
          refine g_u (z8 rfl rfl rfl rfl rfl Tryd.underlying44 Tryd.underlying44 tS36 zv36 rfl (by decide) by36 (by (try dsimp only); simp only [List.length_append, List.length_cons, List.length_nil, List.length_map, List.length_take, List.length_drop]; omega) (by (try dsimp only); simp only [List.length_append, List.length_cons, List.length_nil, List.length_map, List.length_take, List.length_drop]; omega)) ?_
          refine g_u (zx rfl rfl) <| zH <| zW <| zA <| zB <| g_u (zC rfl rfl) <| g_u (yK rfl rfl rfl) <| g_u (zE rfl rfl) <| zH <| zA ?_
          have et : (((nthC l i).spans.take (j + 1)).map fun x => (canonS x).av) = (((nthC l i).spans.take j).map fun x => (canonS x).av) ++ [(canonS (nthS (nthC l i).spans j)).av] := by rw [zu (ye (d := gs0) hj), List.map_append]; rfl
          refine ⟨j + 1, hj, ⟨rfl, rfl, rfl, rfl, yU rfl et.symm, yB rfl et.symm, zd rfl (by rw [z_ (by omega) (by omega)]; rfl), trivial⟩, by (try dsimp only); omega⟩
        · have hjn : j = (nthC l i).spans.length := by have := of_decide_eq_false hb2; (try simp only [List.length_map] at this); omega
          refine zt <| zP <| zP <| zj <| zA <| yM y6 <| g_u (zs rfl rfl) <| g_u (zC rfl rfl) <| g_u (zC rfl rfl) ?_
          refine g_u (zJ rfl rfl rfl Tryd.underlying59 tS64 (by omega) (ixC hi)) ?_
          refine g_u (zL rfl rfl fa64_0 rfl rfl) <| g_u (zN rfl rfl tA9 tS9 rfl rfl) <| g_u (zC rfl rfl) <| g_u (zC rfl rfl) ?_
          refine g_u (zJ rfl rfl rfl Tryd.underlying59 tS64 (by omega) (ixC hi)) ?_
          refine g_u (zL rfl rfl fa64_1 rfl rfl) <| g_u (zN rfl rfl tA9 tS9 rfl rfl) <| g_u (zs rfl rfl) <| g_u (yh rfl tU64 us64 pl64 rfl rfl rfl rfl) <| g_u (ze (X0 := z64) rfl Tryd.underlying59 tS64 tZ64 rfl rfl rfl rfl rfl rfl rfl rfl) ?_
          refine g_u (z8 rfl rfl rfl rfl rfl Tryd.underlying59 Tryd.underlying59 tS64 zv64 rfl (by decide) by64 (by (try dsimp only); simp only [List.length_append, List.length_cons, List.length_nil, List.length_map, List.length_take, List.length_drop]; omega) (by (try dsimp only); simp only [List.length_append, List.length_cons, List.length_nil, List.length_map, List.length_take, List.length_drop]; omega)) ?_
          refine g_u (zx rfl rfl) ?_
          refine zH ⟨by kernel_rfl, ?_⟩
          refine zW <| zA <| zB <| g_u (zC rfl rfl) <| g_u (yK rfl rfl rfl) <| g_u (zE rfl rfl) <| zH <| zA ?_
          have et : ((l.take (i + 1)).map fun x => (vE x).av) = ((l.take i).map fun x => (vE x).av) ++ [.agg [sv (nthC l i).name, sv (nthC l i).version, .sl 42 ((nthC l i).spans.map fun x => (canonS x).av)]] := by
            rw [zu (ye (d := gc0) hi), List.map_append]; refine congrArg (_ ++ ·) ?_
            show [(vE (nthC l i)).av] = _
            simp only [GScope.av, vE, List.map_map]; rfl
          refine ⟨i + 1, hi, ⟨rfl, yU rfl (by rw [hjn, List.take_length]; exact et.symm), yB rfl (by rw [hjn, List.take_length]; exact et.symm), zd rfl (by rw [z_ (by omega) (by omega)]; rfl), trivial⟩, by (try dsimp only); omega⟩
    · have hin : i = l.length := by have := of_decide_eq_false hb1; (try simp only [List.length_map] at this); omega
      refine zt <| zP <| zP <| zj <| zA <| zD <| zB <| g_u (zs rfl rfl) <| g_u (zx rfl rfl) <| zH <| zA <| zQ ?_
      exact ⟨⟨(rfl : toAV (Al.look _ _) = some _).trans (congrArg some (by (rw [hin, List.take_length]))), rfl⟩, trivial⟩
set_option maxHeartbeats 4000000 in
theorem canonB_c (b : List GRes) (hw : wtB b ≤ 1000000) : zo Tryd.prog Γ0 9 [yV b] [yV (ya b)] := by
  have ql := yn GRes.wt (fun e => by unfold GRes.wt; omega) b
  have qw : wtB b = zw GRes.wt b := rfl
  refine zf Tryd.func9 rfl Tryd.ntmps9 (by kernel_rfl) rfl fun w0 I0 G0 => ?_
  refine zD <| zB <| g_uG (zn 1001 rfl rfl rfl rfl) rfl <| g_uG (z0 1002 rfl rfl rfl tZ24) rfl <| zH <| zA <| zD <| zB <| g_uG (z0 1003 rfl rfl rfl tZ24) rfl <| zH <| zA <| zD <| zD <| xD 3099 1003 2 0 rfl rfl rfl rfl rfl rfl rfl <| zB <| g_u (zE rfl rfl) <| zH <| zA <| zT ?_
  refine zq (fun i : Nat => [(1, .ptr 1001 0), (1001, .box 24 (.imm (yV b))), (2, .ptr 1002 0), (1002, .box 24 (.imm z24)), (3, .ptr 1003 0), (1003, .box 24 (.agg [.slg 3099 2 ((b.take i).map fun r => (canonR r).av)])), (3099, .tok 2 ((b.take i).map fun r => (canonR r).av)), (4, .imm (iv (i : Int)))]) (fun i => i ≤ b.length) (fun i => b.length - i) (0) ?_ ⟨rfl, rfl, rfl, rfl, rfl, rfl, rfl, rfl, trivial⟩ ?_
  · exact Nat.zero_le _
  · rintro i h1; have h1 : i ≤ b.length := h1
    refine zD <| zD <| zB <| g_u (zC rfl rfl) <| g_u (zF rfl rfl xA rfl) <| g_u (zG rfl rfl rfl tA22 tS22 rfl rfl) <| g_u (zz rfl rfl Tryd.underlying22) <| g_u (yd rfl rfl rfl) <| zH <| zA ?_
    refine zV rfl (fun hb1 => ?_) (fun hb1 => ?_)
    · have hi : i < b.length := by have := of_decide_eq_true hb1; (try simp only [List.length_map] at this); omega
      have hc1 := y_ GRes.wt (wd hi)
      have hc2 : (nthR b i).wt = 1 + wtAs (nthR b i).attrs + zw GScope.wt (nthR b i).scopes := rfl
      refine zY <| zA <| zD <| zT <| yM y6 <| g_u (zF rfl rfl xA rfl) <| g_u (yz rfl rfl rfl tA22 tS22 rfl rfl) <| g_u (zF rfl rfl xA rfl) <| g_u (zG rfl rfl rfl tA22 tS22 rfl rfl) <| g_u (zC rfl rfl) ?_
      refine g_u (zJ rfl rfl rfl Tryd.underlying22 tS61 (by omega) (ixR hi)) ?_
      refine g_u (zL rfl rfl fa61_0 rfl rfl) <| g_u (zN rfl rfl tA30 tS30 rfl rfl) ?_
      refine g_u (zR (canonAs_c (nthR b i).attrs (by omega)) rfl rfl) ?_
      refine g_u (zF rfl rfl xA rfl) <| g_u (zG rfl rfl rfl tA22 tS22 rfl rfl) <| g_u (zC rfl rfl) ?_
      refine g_u (zJ rfl rfl rfl Tryd.underlying22 tS61 (by omega) (ixR hi)) ?_
      refine g_u (zL rfl rfl wX rfl rfl) <| g_u (zN rfl rfl tA59 tS59 rfl rfl) ?_
      refine g_u (zR (canonScs_c (nthR b i).scopes (by omega)) rfl rfl) ?_
      refine g_u (yh rfl tU61 us61 pl61 rfl rfl rfl rfl) <| g_u (ze (X0 := z61) rfl Tryd.underlying22 tS61 tZ61 rfl rfl rfl rfl rfl rfl rfl rfl) ?_
      refine g_u (z8 rfl rfl rfl rfl rfl Tryd.underlying22 Tryd.underlying22 tS61 zv61 rfl (by decide) by61 (by (try dsimp only); simp only [List.length_append, List.length_cons, List.length_nil, List.length_map, List.length_take, List.length_drop]; omega) (by (try dsimp only); simp only [List.length_append, List.length_cons, List.length_nil, List.length_map, List.length_take, List.length_drop]; omega)) ?_
      refine g_u (zF rfl rfl xA rfl) <| g_u (wy rfl rfl rfl rfl tS22 rfl rfl) ?_
      refine zH ⟨by kernel_rfl, ?_⟩
      refine zW <| zA <| zB <| g_u (zC rfl rfl) <| g_u (yK rfl rfl rfl) <| g_u (zE rfl rfl) <| zH <| zA ?_
      have et : ((b.take (i + 1)).map fun r => (canonR r).av) = ((b.take i).map fun r => (canonR r).av) ++ [.agg [.sl 7 ((wJ (nthR b i).attrs).map avA), .sl 3 ((nthR b i).scopes.map fun x => (vE x).av)]] := by
        rw [zu (ye (d := gr0) hi), List.map_append]; refine congrArg (_ ++ ·) ?_
        show [(canonR (nthR b i)).av] = _
        simp only [GRes.av, canonR, List.map_map]; rfl
      refine ⟨i + 1, hi, ⟨rfl, rfl, rfl, rfl, rfl, (by rw [et]; rfl), yB rfl et.symm, zd rfl (by rw [z_ (by omega) (by omega)]; rfl), trivial⟩, by (try dsimp only); omega⟩
    · have hin : i = b.length := by have := of_decide_eq_false hb1; (try simp only [List.length_map] at this); omega
      refine zt <| zP <| zP <| zj <| zA <| zD <| zB <| g_u (yW rfl rfl rfl tA24 tS24 rfl rfl) <| g_u (zX rfl rfl rfl tS24 rfl rfl) <| zH <| zA <| zQ ?_
      exact ⟨⟨_, _, _, _, _, _, _, rfl, rfl, tA24, tS24, rfl, rfl, (rfl : toAV _ = some _).trans (congrArg some (by (rw [hin, List.take_length]; show AV.agg [.sl 2 _] = AV.agg [.sl 2 ((b.map canonR).map GRes.av)]; rw [List.map_map]; rfl)))⟩, trivial⟩
end Go.Proofs
