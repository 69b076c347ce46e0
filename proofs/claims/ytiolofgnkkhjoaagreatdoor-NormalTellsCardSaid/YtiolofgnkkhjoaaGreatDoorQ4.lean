/- Texts that the proofs of this claim share, part 4: the abstract logic, plain Lean on values and batches, and walks. No condition but those typed in each lemma. -/
import Derived.Test.YtiolofgnkkhjoaaGreatDoorQ3
set_option linter.unusedSimpArgs false
set_option linter.unusedVariables false
set_option maxHeartbeats 400000
namespace Go.Proofs
open Go Go.Al
set_option maxRecDepth 10000
theorem rquote_c (s : ByteArray) (hs : s.size ≤ 100000000000) : zo Tryz.prog Γ0 135 [sv s] [sv (yf (vM (lst s)))] := by
  have hz := yH s
  have c1 : (ByteArray.mk #[92]).size = 1 := rfl
  have c4 : (ByteArray.mk #[92, 117, 48, 48]).size = 4 := rfl
  have c0 : (ByteArray.mk #[34]).size = 1 := rfl
  refine z_ Tryz.func135 rfl Tryz.ntmps135 (by kernel_rfl) rfl fun w0 I0 G0 => ?_
  refine zD <| zB <| g_u (zE rfl rfl) <| zI <| zA <| zD <| zB <| g_u (zE rfl rfl) <| zI <| zA <| zD <| zD <| zB <| g_u (zE rfl rfl) <| zI <| zA <| zU ?_
  refine zp (fun j : Nat × ByteArray => [(0, .imm (sv s)), (3, .imm (sv j.2)), (4, .imm (iv (j.1 : Int)))]) (fun j => j.1 ≤ s.size ∧ lst j.2 = 34 :: escs ((lst s).take j.1)) (fun j => s.size - j.1) (⟨0, ⟨#[34]⟩⟩) ?_ ⟨rfl, rfl, rfl, trivial⟩ ?_
  · exact ⟨Nat.zero_le _, rfl⟩
  · rintro ⟨i, t⟩ ⟨h1, h2⟩; dsimp only at h1 h2; have hlen : t.size ≤ 1 + 6 * s.size := by have := escs_length ((lst s).take i); rw [← yH t, h2, List.length_cons]; rw [List.length_take] at this; omega
    have e2 : i < s.size → (IntKind.i64.wrap ((i : Int) + 1)).toNat = i + 1 := fun h => by rw [ze (by omega) (by omega)]; omega
    have hx : (i : Int) < (s.size : Int) → (s.extract (i : Int).toNat (IntKind.i64.wrap ((i : Int) + 1)).toNat).size = 1 := fun h => by rw [e2 (by omega), Int.toNat_natCast]; exact ex1_size (by omega)
    refine zD <| zD <| zB <| g_u (zC rfl rfl) <| g_u (zC rfl rfl) <| g_u (xe rfl rfl Tryz.underlying9) <| g_u (yb rfl rfl rfl) <| zI <| zA ?_
    refine zW rfl (fun hb1 => ?_) (fun hb1 => ?_)
    · refine zY ?_
      refine zA <| zD <| zU <| zD <| zD <| zB <| g_u (zC rfl rfl) <| g_u (zC rfl rfl) ?_
      refine g_u (si_ix rfl rfl rfl Tryz.underlying9 (by ((try simp only [decide_eq_true_eq, qb, bne_iff_ne, ne_eq, beq_iff_eq, qd, qe, Bool.not_eq_true', Bool.not_eq_false', gt_iff_lt, ge_iff_le] at *); (repeat simp (disch := omega) only [ze, yS] at *)); omega)) ?_
      refine g_u (y6 rfl rfl rfl) <| g_u (zC rfl rfl) <| z0 (t := 15) rfl ?_
      rintro (hb2 | hb2)
      · rw [hb2]
        refine zH rfl rfl rfl <| zH rfl rfl rfl <| zH rfl rfl rfl <| zH rfl rfl rfl <| g_u (zQ rfl rfl rfl) <| zI <| zA <| zg rfl <| zB <| g_u (zC rfl rfl) ?_
        refine g_u (y7 rfl rfl rfl (by show _ ≤ (9223372036854775807 : Int); (try dsimp only); first | (simp only [zt, c0, c1, c4]; omega) | (have q := hx (of_decide_eq_true hb1); simp only [zt, zf, yI, yH, q, c1, c4]; omega))) ?_
        refine g_u (zE rfl rfl) <| zI <| zA <| zD <| zB <| g_u (zC rfl rfl) <| g_u (zC rfl rfl) ?_
        refine g_u (si_ix rfl rfl rfl Tryz.underlying9 (by ((try simp only [decide_eq_true_eq, qb, bne_iff_ne, ne_eq, beq_iff_eq, qd, qe, Bool.not_eq_true', Bool.not_eq_false', gt_iff_lt, ge_iff_le] at *); (repeat simp (disch := omega) only [ze, yS] at *)); omega)) ?_
        refine g_u (yb rfl rfl rfl) <| zI <| zA ?_
        refine zW rfl (fun hb3 => ?_) (fun hb3 => ?_)
        · refine zB ?_
          refine g_u (zC rfl rfl) ?_
          refine g_u (y7 rfl rfl rfl (by show _ ≤ (9223372036854775807 : Int); (try dsimp only); first | (simp only [zt, c0, c1, c4]; omega) | (have q := hx (of_decide_eq_true hb1); simp only [zt, zf, yI, yH, q, c1, c4]; omega))) ?_
          refine g_u (zC rfl rfl) <| g_u (zC rfl rfl) <| g_u (zC rfl rfl) <| g_u (yG rfl rfl rfl) ?_
          refine g_u (si_lh rfl rfl rfl rfl Tryz.underlying9 (by ((try simp only [decide_eq_true_eq, qb, bne_iff_ne, ne_eq, beq_iff_eq, qd, qe, Bool.not_eq_true', Bool.not_eq_false', gt_iff_lt, ge_iff_le] at *); (repeat simp (disch := omega) only [ze, yS] at *)); omega)) ?_
          refine g_u (zP (rhex_c _ (by have q := hx (of_decide_eq_true hb1); (try dsimp only); omega)) rfl rfl) ?_
          refine g_u (y7 rfl rfl rfl (by show _ ≤ (9223372036854775807 : Int); (try dsimp only); first | (simp only [zt, c0, c1, c4]; omega) | (have q := hx (of_decide_eq_true hb1); simp only [zt, zf, yI, yH, q, c1, c4]; omega))) ?_
          refine g_u (zE rfl rfl) <| zI <| zX <| zA <| zB <| g_u (zC rfl rfl) <| g_u (yG rfl rfl rfl) <| g_u (zE rfl rfl) <| zI <| zA ?_
          change decide ((i : Int) < (s.size : Int)) = true at hb1
          have hi : i < s.size := by have := of_decide_eq_true hb1; omega
          obtain ⟨c, hc1, hc2⟩ := bAt_nat s i hi
          refine ⟨⟨i + 1, _⟩, ⟨hi, ?_⟩, ⟨rfl, rfl, zZ rfl (by rw [ze (by omega) (by omega)]; rfl), trivial⟩, by dsimp only; omega⟩
          dsimp only at *
          rw [zx hc1, wX, ← List.cons_append, ← h2, e2 hi, Int.toNat_natCast]
          simp only [beq_iff_eq, qe, ne_eq, decide_eq_true_eq, qb] at *
          first | (exfalso; omega) | exact resc1 hc1 (.inl (by omega)) | exact resc1 hc1 (.inr (by omega)) | exact resc2 hc1 (by omega) (by omega) (by omega) | exact resc3 hc1 (by omega) (by omega) (by omega)
        · refine zB ?_
          refine g_u (zC rfl rfl) <| g_u (zC rfl rfl) <| g_u (zC rfl rfl) <| g_u (zC rfl rfl) <| g_u (yG rfl rfl rfl) ?_
          refine g_u (si_lh rfl rfl rfl rfl Tryz.underlying9 (by ((try simp only [decide_eq_true_eq, qb, bne_iff_ne, ne_eq, beq_iff_eq, qd, qe, Bool.not_eq_true', Bool.not_eq_false', gt_iff_lt, ge_iff_le] at *); (repeat simp (disch := omega) only [ze, yS] at *)); omega)) ?_
          refine g_u (y7 rfl rfl rfl (by show _ ≤ (9223372036854775807 : Int); (try dsimp only); first | (simp only [zt, c0, c1, c4]; omega) | (have q := hx (of_decide_eq_true hb1); simp only [zt, zf, yI, yH, q, c1, c4]; omega))) ?_
          refine g_u (zE rfl rfl) <| zI <| zX <| zA <| zB <| g_u (zC rfl rfl) <| g_u (yG rfl rfl rfl) <| g_u (zE rfl rfl) <| zI <| zA ?_
          change decide ((i : Int) < (s.size : Int)) = true at hb1
          have hi : i < s.size := by have := of_decide_eq_true hb1; omega
          obtain ⟨c, hc1, hc2⟩ := bAt_nat s i hi
          refine ⟨⟨i + 1, _⟩, ⟨hi, ?_⟩, ⟨rfl, rfl, zZ rfl (by rw [ze (by omega) (by omega)]; rfl), trivial⟩, by dsimp only; omega⟩
          dsimp only at *
          rw [zx hc1, wX, ← List.cons_append, ← h2, e2 hi, Int.toNat_natCast]
          simp only [beq_iff_eq, qe, ne_eq, decide_eq_true_eq, qb] at *
          first | (exfalso; omega) | exact resc1 hc1 (.inl (by omega)) | exact resc1 hc1 (.inr (by omega)) | exact resc2 hc1 (by omega) (by omega) (by omega) | exact resc3 hc1 (by omega) (by omega) (by omega)
      · rw [hb2]
        refine zN rfl rfl (zC rfl rfl) <| zN rfl rfl (zC rfl rfl) ?_
        refine zN rfl rfl (si_ix rfl rfl rfl Tryz.underlying9 (by ((try simp only [decide_eq_true_eq, qb, bne_iff_ne, ne_eq, beq_iff_eq, qd, qe, Bool.not_eq_true', Bool.not_eq_false', gt_iff_lt, ge_iff_le] at *); (repeat simp (disch := omega) only [ze, yS] at *)); omega)) ?_
        refine zN rfl rfl (y6 rfl rfl rfl) <| g_u (zh rfl rfl rfl) <| zI <| zA ?_
        refine zW rfl (fun hb4 => ?_) (fun hb4 => ?_)
        · refine zB ?_
          refine g_u (zC rfl rfl) ?_
          refine g_u (y7 rfl rfl rfl (by show _ ≤ (9223372036854775807 : Int); (try dsimp only); first | (simp only [zt, c0, c1, c4]; omega) | (have q := hx (of_decide_eq_true hb1); simp only [zt, zf, yI, yH, q, c1, c4]; omega))) ?_
          refine g_u (zE rfl rfl) <| zI <| zA <| zD <| zB <| g_u (zC rfl rfl) <| g_u (zC rfl rfl) ?_
          refine g_u (si_ix rfl rfl rfl Tryz.underlying9 (by ((try simp only [decide_eq_true_eq, qb, bne_iff_ne, ne_eq, beq_iff_eq, qd, qe, Bool.not_eq_true', Bool.not_eq_false', gt_iff_lt, ge_iff_le] at *); (repeat simp (disch := omega) only [ze, yS] at *)); omega)) ?_
          refine g_u (yb rfl rfl rfl) <| zI <| zA ?_
          refine zW rfl (fun hb5 => ?_) (fun hb5 => ?_)
          · refine zB ?_
            refine g_u (zC rfl rfl) ?_
            refine g_u (y7 rfl rfl rfl (by show _ ≤ (9223372036854775807 : Int); (try dsimp only); first | (simp only [zt, c0, c1, c4]; omega) | (have q := hx (of_decide_eq_true hb1); simp only [zt, zf, yI, yH, q, c1, c4]; omega))) ?_
            refine g_u (zC rfl rfl) <| g_u (zC rfl rfl) <| g_u (zC rfl rfl) <| g_u (yG rfl rfl rfl) ?_
            refine g_u (si_lh rfl rfl rfl rfl Tryz.underlying9 (by ((try simp only [decide_eq_true_eq, qb, bne_iff_ne, ne_eq, beq_iff_eq, qd, qe, Bool.not_eq_true', Bool.not_eq_false', gt_iff_lt, ge_iff_le] at *); (repeat simp (disch := omega) only [ze, yS] at *)); omega)) ?_
            refine g_u (zP (rhex_c _ (by have q := hx (of_decide_eq_true hb1); (try dsimp only); omega)) rfl rfl) ?_
            refine g_u (y7 rfl rfl rfl (by show _ ≤ (9223372036854775807 : Int); (try dsimp only); first | (simp only [zt, c0, c1, c4]; omega) | (have q := hx (of_decide_eq_true hb1); simp only [zt, zf, yI, yH, q, c1, c4]; omega))) ?_
            refine g_u (zE rfl rfl) <| zI <| zX <| zA <| zB <| g_u (zC rfl rfl) <| g_u (yG rfl rfl rfl) <| g_u (zE rfl rfl) <| zI <| zA ?_
            change decide ((i : Int) < (s.size : Int)) = true at hb1
            have hi : i < s.size := by have := of_decide_eq_true hb1; omega
            obtain ⟨c, hc1, hc2⟩ := bAt_nat s i hi
            refine ⟨⟨i + 1, _⟩, ⟨hi, ?_⟩, ⟨rfl, rfl, zZ rfl (by rw [ze (by omega) (by omega)]; rfl), trivial⟩, by dsimp only; omega⟩
            dsimp only at *
            rw [zx hc1, wX, ← List.cons_append, ← h2, e2 hi, Int.toNat_natCast]
            simp only [beq_iff_eq, qe, ne_eq, decide_eq_true_eq, qb] at *
            first | (exfalso; omega) | exact resc1 hc1 (.inl (by omega)) | exact resc1 hc1 (.inr (by omega)) | exact resc2 hc1 (by omega) (by omega) (by omega) | exact resc3 hc1 (by omega) (by omega) (by omega)
          · refine zB ?_
            refine g_u (zC rfl rfl) <| g_u (zC rfl rfl) <| g_u (zC rfl rfl) <| g_u (zC rfl rfl) <| g_u (yG rfl rfl rfl) ?_
            refine g_u (si_lh rfl rfl rfl rfl Tryz.underlying9 (by ((try simp only [decide_eq_true_eq, qb, bne_iff_ne, ne_eq, beq_iff_eq, qd, qe, Bool.not_eq_true', Bool.not_eq_false', gt_iff_lt, ge_iff_le] at *); (repeat simp (disch := omega) only [ze, yS] at *)); omega)) ?_
            refine g_u (y7 rfl rfl rfl (by show _ ≤ (9223372036854775807 : Int); (try dsimp only); first | (simp only [zt, c0, c1, c4]; omega) | (have q := hx (of_decide_eq_true hb1); simp only [zt, zf, yI, yH, q, c1, c4]; omega))) ?_
            refine g_u (zE rfl rfl) <| zI <| zX <| zA <| zB <| g_u (zC rfl rfl) <| g_u (yG rfl rfl rfl) <| g_u (zE rfl rfl) <| zI <| zA ?_
            change decide ((i : Int) < (s.size : Int)) = true at hb1
            have hi : i < s.size := by have := of_decide_eq_true hb1; omega
            obtain ⟨c, hc1, hc2⟩ := bAt_nat s i hi
            refine ⟨⟨i + 1, _⟩, ⟨hi, ?_⟩, ⟨rfl, rfl, zZ rfl (by rw [ze (by omega) (by omega)]; rfl), trivial⟩, by dsimp only; omega⟩
            dsimp only at *
            rw [zx hc1, wX, ← List.cons_append, ← h2, e2 hi, Int.toNat_natCast]
            simp only [beq_iff_eq, qe, ne_eq, decide_eq_true_eq, qb] at *
            first | (exfalso; omega) | exact resc1 hc1 (.inl (by omega)) | exact resc1 hc1 (.inr (by omega)) | exact resc2 hc1 (by omega) (by omega) (by omega) | exact resc3 hc1 (by omega) (by omega) (by omega)
        · refine zY ?_
          refine zA <| zD <| zB <| g_u (zC rfl rfl) <| g_u (zC rfl rfl) ?_
          refine g_u (si_ix rfl rfl rfl Tryz.underlying9 (by ((try simp only [decide_eq_true_eq, qb, bne_iff_ne, ne_eq, beq_iff_eq, qd, qe, Bool.not_eq_true', Bool.not_eq_false', gt_iff_lt, ge_iff_le] at *); (repeat simp (disch := omega) only [ze, yS] at *)); omega)) ?_
          refine g_u (yb rfl rfl rfl) <| zI <| zA ?_
          refine zW rfl (fun hb6 => ?_) (fun hb6 => ?_)
          · refine zB ?_
            refine g_u (zC rfl rfl) ?_
            refine g_u (y7 rfl rfl rfl (by show _ ≤ (9223372036854775807 : Int); (try dsimp only); first | (simp only [zt, c0, c1, c4]; omega) | (have q := hx (of_decide_eq_true hb1); simp only [zt, zf, yI, yH, q, c1, c4]; omega))) ?_
            refine g_u (zC rfl rfl) <| g_u (zC rfl rfl) <| g_u (zC rfl rfl) <| g_u (yG rfl rfl rfl) ?_
            refine g_u (si_lh rfl rfl rfl rfl Tryz.underlying9 (by ((try simp only [decide_eq_true_eq, qb, bne_iff_ne, ne_eq, beq_iff_eq, qd, qe, Bool.not_eq_true', Bool.not_eq_false', gt_iff_lt, ge_iff_le] at *); (repeat simp (disch := omega) only [ze, yS] at *)); omega)) ?_
            refine g_u (zP (rhex_c _ (by have q := hx (of_decide_eq_true hb1); (try dsimp only); omega)) rfl rfl) ?_
            refine g_u (y7 rfl rfl rfl (by show _ ≤ (9223372036854775807 : Int); (try dsimp only); first | (simp only [zt, c0, c1, c4]; omega) | (have q := hx (of_decide_eq_true hb1); simp only [zt, zf, yI, yH, q, c1, c4]; omega))) ?_
            refine g_u (zE rfl rfl) <| zI <| zX <| zA <| zB <| g_u (zC rfl rfl) <| g_u (yG rfl rfl rfl) <| g_u (zE rfl rfl) <| zI <| zA ?_
            change decide ((i : Int) < (s.size : Int)) = true at hb1
            have hi : i < s.size := by have := of_decide_eq_true hb1; omega
            obtain ⟨c, hc1, hc2⟩ := bAt_nat s i hi
            refine ⟨⟨i + 1, _⟩, ⟨hi, ?_⟩, ⟨rfl, rfl, zZ rfl (by rw [ze (by omega) (by omega)]; rfl), trivial⟩, by dsimp only; omega⟩
            dsimp only at *
            rw [zx hc1, wX, ← List.cons_append, ← h2, e2 hi, Int.toNat_natCast]
            simp only [beq_iff_eq, qe, ne_eq, decide_eq_true_eq, qb] at *
            first | (exfalso; omega) | exact resc1 hc1 (.inl (by omega)) | exact resc1 hc1 (.inr (by omega)) | exact resc2 hc1 (by omega) (by omega) (by omega) | exact resc3 hc1 (by omega) (by omega) (by omega)
          · refine zB ?_
            refine g_u (zC rfl rfl) <| g_u (zC rfl rfl) <| g_u (zC rfl rfl) <| g_u (zC rfl rfl) <| g_u (yG rfl rfl rfl) ?_
            refine g_u (si_lh rfl rfl rfl rfl Tryz.underlying9 (by ((try simp only [decide_eq_true_eq, qb, bne_iff_ne, ne_eq, beq_iff_eq, qd, qe, Bool.not_eq_true', Bool.not_eq_false', gt_iff_lt, ge_iff_le] at *); (repeat simp (disch := omega) only [ze, yS] at *)); omega)) ?_
            refine g_u (y7 rfl rfl rfl (by show _ ≤ (9223372036854775807 : Int); (try dsimp only); first | (simp only [zt, c0, c1, c4]; omega) | (have q := hx (of_decide_eq_true hb1); simp only [zt, zf, yI, yH, q, c1, c4]; omega))) ?_
            refine g_u (zE rfl rfl) <| zI <| zX <| zA <| zB <| g_u (zC rfl rfl) <| g_u (yG rfl rfl rfl) <| g_u (zE rfl rfl) <| zI <| zA ?_
            change decide ((i : Int) < (s.size : Int)) = true at hb1
            have hi : i < s.size := by have := of_decide_eq_true hb1; omega
            obtain ⟨c, hc1, hc2⟩ := bAt_nat s i hi
            refine ⟨⟨i + 1, _⟩, ⟨hi, ?_⟩, ⟨rfl, rfl, zZ rfl (by rw [ze (by omega) (by omega)]; rfl), trivial⟩, by dsimp only; omega⟩
            dsimp only at *
            rw [zx hc1, wX, ← List.cons_append, ← h2, e2 hi, Int.toNat_natCast]
            simp only [beq_iff_eq, qe, ne_eq, decide_eq_true_eq, qb] at *
            first | (exfalso; omega) | exact resc1 hc1 (.inl (by omega)) | exact resc1 hc1 (.inr (by omega)) | exact resc2 hc1 (by omega) (by omega) (by omega) | exact resc3 hc1 (by omega) (by omega) (by omega)
    · refine zu ?_
      refine zR <| zR <| zn <| zA <| zD <| zB <| g_u (zC rfl rfl) ?_
      refine g_u (y7 rfl rfl rfl (by show _ ≤ (9223372036854775807 : Int); (try dsimp only); first | (simp only [zt, c0, c1, c4]; omega) | (have q := hx (of_decide_eq_true hb1); simp only [zt, zf, yI, yH, q, c1, c4]; omega))) ?_
      refine g_u (zE rfl rfl) <| zI <| zA <| zL ?_
      change decide ((i : Int) < (s.size : Int)) = false at hb1
      have hi : i = s.size := by have := of_decide_eq_false hb1; omega
      exact ⟨⟨(rfl : toAV (Al.look _ _) = some _).trans (congrArg (fun z => some (sv z)) (strOf_eq (by show lst (t ++ ⟨#[34]⟩) = _; rw [xV, h2, hi, List.take_of_length_le (Nat.le_of_eq hz)]; rfl))), rfl⟩, trivial⟩
theorem rcomma_c (i : Nat) : zo Tryz.prog Γ0 136 [iv (i : Int)] [sv (yf (comma (i == 0)))] := by
  refine z_ Tryz.func136 rfl Tryz.ntmps136 (by kernel_rfl) rfl fun w0 I0 G0 => ?_
  refine zD <| zB <| g_u (zE rfl rfl) <| zI <| zA <| zD <| zD <| zB <| g_u (zC rfl rfl) <| g_u (y6 rfl rfl rfl) <| zI <| zA ?_
  refine zW rfl (fun hb1 => ?_) (fun hb1 => ?_)
  · refine zD ?_
    refine zB <| g_u (zE rfl rfl) <| zI <| zA <| zL <| zM ?_
    exact ⟨⟨(rfl : toAV (Al.look _ _) = some _).trans (congrArg some (by (have e : i = 0 := (by have : (i : Int) = 0 := (by simpa using hb1); omega); rw [e]; rfl))), rfl⟩, trivial⟩
  · refine zY ?_
    refine zA <| zD <| zB <| g_u (zE rfl rfl) <| zI <| zA <| zL ?_
    exact ⟨⟨(rfl : toAV (Al.look _ _) = some _).trans (congrArg some (by (have e : i ≠ 0 := (by have : (i : Int) ≠ 0 := (by simpa using hb1); omega); rw [show (i == 0) = false from by simpa using e]; rfl))), rfl⟩, trivial⟩
theorem rsimple_c (v : GV) (ho : v.ok) (hw : v.wt ≤ 10000000) : zo Tryz.prog Γ0 106 [v.av] [sv (yf (wV v))] := by
  have lv := xR v.list
  have la := yi v.map
  have ek := v.wt_eq
  have ok := v.ok_iff.1 ho
  have sl := yr v
  have jl := yd v
  refine z_ Tryz.func106 rfl Tryz.ntmps106 (by kernel_rfl) rfl fun w0 I0 G0 => ?_
  refine zD <| zB <| g_uG (zi 1001 rfl rfl rfl rfl) rfl <| g_u (zE rfl rfl) <| zI <| zA <| zD <| zD <| zB <| g_u (zF rfl rfl xf rfl) <| g_u (zG rfl rfl rfl tA5 tS5 rfl rfl) <| g_u (y6 rfl rfl rfl) <| zI <| zA ?_
  refine zW rfl (fun hb1 => ?_) (fun hb1 => ?_)
  · refine zD ?_
    refine zB <| g_u (zF rfl rfl fa70_1 rfl) <| g_u (zG rfl rfl rfl tA9 tS9 rfl rfl) <| g_u (zE rfl rfl) <| zI <| zA <| zL <| zM ?_
    exact ⟨⟨(rfl : toAV (Al.look _ _) = some _).trans (congrArg some (by (simp only [beq_iff_eq, qe, ne_eq, decide_eq_true_eq, qb] at *; first | (exfalso; omega) | exact congrArg sv (simp1 (by omega)).symm | (rw [simp2 (by omega) (by omega)]; rfl) | (rw [simp2' (by omega) (by omega)]; rfl) | (rw [simp3 (by omega)]) | (rw [simp4 (by omega), yO]; rfl) | (rw [simp5 (by omega)]) | (rw [simp6 (by omega)]; rfl)))), rfl⟩, trivial⟩
  · refine zY ?_
    refine zA <| zD <| zD <| zB <| g_u (zF rfl rfl xf rfl) <| g_u (zG rfl rfl rfl tA5 tS5 rfl rfl) <| g_u (y6 rfl rfl rfl) <| g_u (zC rfl rfl) <| z0 (t := 11) rfl ?_
    rintro (hb2 | hb2)
    · rw [hb2]
      refine zN rfl rfl (zF rfl rfl fa70_2 rfl) <| zN rfl rfl (zG rfl rfl rfl tA3 tS3 rfl rfl) <| zN rfl rfl (y6 rfl rfl rfl) <| g_u (zQ rfl rfl rfl) <| zI <| zA ?_
      refine zW rfl (fun hb3 => ?_) (fun hb3 => ?_)
      · refine zD ?_
        refine zB <| g_u (zE rfl rfl) <| zI <| zA <| zL <| zM ?_
        exact ⟨⟨(rfl : toAV (Al.look _ _) = some _).trans (congrArg some (by (simp only [beq_iff_eq, qe, ne_eq, decide_eq_true_eq, qb] at *; first | (exfalso; omega) | exact congrArg sv (simp1 (by omega)).symm | (rw [simp2 (by omega) (by omega)]; rfl) | (rw [simp2' (by omega) (by omega)]; rfl) | (rw [simp3 (by omega)]) | (rw [simp4 (by omega), yO]; rfl) | (rw [simp5 (by omega)]) | (rw [simp6 (by omega)]; rfl)))), rfl⟩, trivial⟩
      · refine zY ?_
        refine zA <| zD <| zD <| zB <| g_u (zF rfl rfl xf rfl) <| g_u (zG rfl rfl rfl tA5 tS5 rfl rfl) <| g_u (y6 rfl rfl rfl) <| zI <| zA ?_
        refine zW rfl (fun hb4 => ?_) (fun hb4 => ?_)
        · refine zD ?_
          refine zB <| g_u (zE rfl rfl) <| zI <| zA <| zL <| zM ?_
          exact ⟨⟨(rfl : toAV (Al.look _ _) = some _).trans (congrArg some (by (simp only [beq_iff_eq, qe, ne_eq, decide_eq_true_eq, qb] at *; first | (exfalso; omega) | exact congrArg sv (simp1 (by omega)).symm | (rw [simp2 (by omega) (by omega)]; rfl) | (rw [simp2' (by omega) (by omega)]; rfl) | (rw [simp3 (by omega)]) | (rw [simp4 (by omega), yO]; rfl) | (rw [simp5 (by omega)]) | (rw [simp6 (by omega)]; rfl)))), rfl⟩, trivial⟩
        · refine zY ?_
          refine zA <| zD <| zD <| zB <| g_u (zF rfl rfl xf rfl) <| g_u (zG rfl rfl rfl tA5 tS5 rfl rfl) <| g_u (y6 rfl rfl rfl) <| zI <| zA ?_
          refine zW rfl (fun hb5 => ?_) (fun hb5 => ?_)
          · refine zD ?_
            refine zB <| g_u (zF rfl rfl fa70_2 rfl) <| g_u (zG rfl rfl rfl tA3 tS3 rfl rfl) <| g_u (zP (rdec_c _ ok.2.2.1) rfl rfl) <| g_u (zE rfl rfl) <| zI <| zA <| zL <| zM ?_
            exact ⟨⟨(rfl : toAV (Al.look _ _) = some _).trans (congrArg some (by (simp only [beq_iff_eq, qe, ne_eq, decide_eq_true_eq, qb] at *; first | (exfalso; omega) | exact congrArg sv (simp1 (by omega)).symm | (rw [simp2 (by omega) (by omega)]; rfl) | (rw [simp2' (by omega) (by omega)]; rfl) | (rw [simp3 (by omega)]) | (rw [simp4 (by omega), yO]; rfl) | (rw [simp5 (by omega)]) | (rw [simp6 (by omega)]; rfl)))), rfl⟩, trivial⟩
          · refine zY ?_
            refine zA <| zD <| zD <| zB <| g_u (zF rfl rfl xf rfl) <| g_u (zG rfl rfl rfl tA5 tS5 rfl rfl) <| g_u (y6 rfl rfl rfl) <| zI <| zA ?_
            refine zW rfl (fun hb6 => ?_) (fun hb6 => ?_)
            · refine zD ?_
              refine zB <| g_u (zF rfl rfl fa70_3 rfl) <| g_u (zG rfl rfl rfl tA57 tS57 rfl rfl) <| g_u (zP (rhigh_c _ ok.2.2.2.1) rfl rfl) ?_
              refine g_u (zP (rhex_c _ (by first | omega | (rw [zf, xo]; omega))) rfl rfl) ?_
              refine g_u (y7 rfl rfl rfl (by show _ ≤ (9223372036854775807 : Int); simp only [zf, yI, yO, xo]; first | omega | (show 2 + _ ≤ _; omega) | (have c1 : (ByteArray.mk #[48, 120]).size = 2 := rfl; omega))) ?_
              refine g_u (zE rfl rfl) <| zI <| zA <| zL <| zM ?_
              exact ⟨⟨(rfl : toAV (Al.look _ _) = some _).trans (congrArg some (by (simp only [beq_iff_eq, qe, ne_eq, decide_eq_true_eq, qb] at *; first | (exfalso; omega) | exact congrArg sv (simp1 (by omega)).symm | (rw [simp2 (by omega) (by omega)]; rfl) | (rw [simp2' (by omega) (by omega)]; rfl) | (rw [simp3 (by omega)]) | (rw [simp4 (by omega), yO]; rfl) | (rw [simp5 (by omega)]) | (rw [simp6 (by omega)]; rfl)))), rfl⟩, trivial⟩
            · refine zY ?_
              refine zA <| zD <| zD <| zB <| g_u (zF rfl rfl xf rfl) <| g_u (zG rfl rfl rfl tA5 tS5 rfl rfl) <| g_u (y6 rfl rfl rfl) <| zI <| zA ?_
              refine zW rfl (fun hb7 => ?_) (fun hb7 => ?_)
              · refine zD ?_
                refine zB <| g_u (zF rfl rfl fa70_1 rfl) <| g_u (zG rfl rfl rfl tA9 tS9 rfl rfl) ?_
                refine g_u (zP (rhex_c _ (by first | omega | (rw [zf, xo]; omega))) rfl rfl) ?_
                refine g_u (zE rfl rfl) <| zI <| zA <| zL <| zM ?_
                exact ⟨⟨(rfl : toAV (Al.look _ _) = some _).trans (congrArg some (by (simp only [beq_iff_eq, qe, ne_eq, decide_eq_true_eq, qb] at *; first | (exfalso; omega) | exact congrArg sv (simp1 (by omega)).symm | (rw [simp2 (by omega) (by omega)]; rfl) | (rw [simp2' (by omega) (by omega)]; rfl) | (rw [simp3 (by omega)]) | (rw [simp4 (by omega), yO]; rfl) | (rw [simp5 (by omega)]) | (rw [simp6 (by omega)]; rfl)))), rfl⟩, trivial⟩
              · refine zY ?_
                refine zA <| zD <| zB <| g_u (zE rfl rfl) <| zI <| zA <| zL ?_
                exact ⟨⟨(rfl : toAV (Al.look _ _) = some _).trans (congrArg some (by (simp only [beq_iff_eq, qe, ne_eq, decide_eq_true_eq, qb] at *; first | (exfalso; omega) | exact congrArg sv (simp1 (by omega)).symm | (rw [simp2 (by omega) (by omega)]; rfl) | (rw [simp2' (by omega) (by omega)]; rfl) | (rw [simp3 (by omega)]) | (rw [simp4 (by omega), yO]; rfl) | (rw [simp5 (by omega)]) | (rw [simp6 (by omega)]; rfl)))), rfl⟩, trivial⟩
    · rw [hb2]
      refine zH rfl rfl rfl <| zH rfl rfl rfl <| zH rfl rfl rfl <| g_u (zh rfl rfl rfl) <| zI <| zA <| yF rfl <| zY <| zA <| zD <| zD <| zB <| g_u (zF rfl rfl xf rfl) <| g_u (zG rfl rfl rfl tA5 tS5 rfl rfl) <| g_u (y6 rfl rfl rfl) <| zI <| zA ?_
      refine zW rfl (fun hb8 => ?_) (fun hb8 => ?_)
      · refine zD ?_
        refine zB <| g_u (zE rfl rfl) <| zI <| zA <| zL <| zM ?_
        exact ⟨⟨(rfl : toAV (Al.look _ _) = some _).trans (congrArg some (by (simp only [beq_iff_eq, qe, ne_eq, decide_eq_true_eq, qb] at *; first | (exfalso; omega) | exact congrArg sv (simp1 (by omega)).symm | (rw [simp2 (by omega) (by omega)]; rfl) | (rw [simp2' (by omega) (by omega)]; rfl) | (rw [simp3 (by omega)]) | (rw [simp4 (by omega), yO]; rfl) | (rw [simp5 (by omega)]) | (rw [simp6 (by omega)]; rfl)))), rfl⟩, trivial⟩
      · refine zY ?_
        refine zA <| zD <| zD <| zB <| g_u (zF rfl rfl xf rfl) <| g_u (zG rfl rfl rfl tA5 tS5 rfl rfl) <| g_u (y6 rfl rfl rfl) <| zI <| zA ?_
        refine zW rfl (fun hb9 => ?_) (fun hb9 => ?_)
        · refine zD ?_
          refine zB <| g_u (zF rfl rfl fa70_2 rfl) <| g_u (zG rfl rfl rfl tA3 tS3 rfl rfl) <| g_u (zP (rdec_c _ ok.2.2.1) rfl rfl) <| g_u (zE rfl rfl) <| zI <| zA <| zL <| zM ?_
          exact ⟨⟨(rfl : toAV (Al.look _ _) = some _).trans (congrArg some (by (simp only [beq_iff_eq, qe, ne_eq, decide_eq_true_eq, qb] at *; first | (exfalso; omega) | exact congrArg sv (simp1 (by omega)).symm | (rw [simp2 (by omega) (by omega)]; rfl) | (rw [simp2' (by omega) (by omega)]; rfl) | (rw [simp3 (by omega)]) | (rw [simp4 (by omega), yO]; rfl) | (rw [simp5 (by omega)]) | (rw [simp6 (by omega)]; rfl)))), rfl⟩, trivial⟩
        · refine zY ?_
          refine zA <| zD <| zD <| zB <| g_u (zF rfl rfl xf rfl) <| g_u (zG rfl rfl rfl tA5 tS5 rfl rfl) <| g_u (y6 rfl rfl rfl) <| zI <| zA ?_
          refine zW rfl (fun hb10 => ?_) (fun hb10 => ?_)
          · refine zD ?_
            refine zB <| g_u (zF rfl rfl fa70_3 rfl) <| g_u (zG rfl rfl rfl tA57 tS57 rfl rfl) <| g_u (zP (rhigh_c _ ok.2.2.2.1) rfl rfl) ?_
            refine g_u (zP (rhex_c _ (by first | omega | (rw [zf, xo]; omega))) rfl rfl) ?_
            refine g_u (y7 rfl rfl rfl (by show _ ≤ (9223372036854775807 : Int); simp only [zf, yI, yO, xo]; first | omega | (show 2 + _ ≤ _; omega) | (have c1 : (ByteArray.mk #[48, 120]).size = 2 := rfl; omega))) ?_
            refine g_u (zE rfl rfl) <| zI <| zA <| zL <| zM ?_
            exact ⟨⟨(rfl : toAV (Al.look _ _) = some _).trans (congrArg some (by (simp only [beq_iff_eq, qe, ne_eq, decide_eq_true_eq, qb] at *; first | (exfalso; omega) | exact congrArg sv (simp1 (by omega)).symm | (rw [simp2 (by omega) (by omega)]; rfl) | (rw [simp2' (by omega) (by omega)]; rfl) | (rw [simp3 (by omega)]) | (rw [simp4 (by omega), yO]; rfl) | (rw [simp5 (by omega)]) | (rw [simp6 (by omega)]; rfl)))), rfl⟩, trivial⟩
          · refine zY ?_
            refine zA <| zD <| zD <| zB <| g_u (zF rfl rfl xf rfl) <| g_u (zG rfl rfl rfl tA5 tS5 rfl rfl) <| g_u (y6 rfl rfl rfl) <| zI <| zA ?_
            refine zW rfl (fun hb11 => ?_) (fun hb11 => ?_)
            · refine zD ?_
              refine zB <| g_u (zF rfl rfl fa70_1 rfl) <| g_u (zG rfl rfl rfl tA9 tS9 rfl rfl) ?_
              refine g_u (zP (rhex_c _ (by first | omega | (rw [zf, xo]; omega))) rfl rfl) ?_
              refine g_u (zE rfl rfl) <| zI <| zA <| zL <| zM ?_
              exact ⟨⟨(rfl : toAV (Al.look _ _) = some _).trans (congrArg some (by (simp only [beq_iff_eq, qe, ne_eq, decide_eq_true_eq, qb] at *; first | (exfalso; omega) | exact congrArg sv (simp1 (by omega)).symm | (rw [simp2 (by omega) (by omega)]; rfl) | (rw [simp2' (by omega) (by omega)]; rfl) | (rw [simp3 (by omega)]) | (rw [simp4 (by omega), yO]; rfl) | (rw [simp5 (by omega)]) | (rw [simp6 (by omega)]; rfl)))), rfl⟩, trivial⟩
            · refine zY ?_
              refine zA <| zD <| zB <| g_u (zE rfl rfl) <| zI <| zA <| zL ?_
              exact ⟨⟨(rfl : toAV (Al.look _ _) = some _).trans (congrArg some (by (simp only [beq_iff_eq, qe, ne_eq, decide_eq_true_eq, qb] at *; first | (exfalso; omega) | exact congrArg sv (simp1 (by omega)).symm | (rw [simp2 (by omega) (by omega)]; rfl) | (rw [simp2' (by omega) (by omega)]; rfl) | (rw [simp3 (by omega)]) | (rw [simp4 (by omega), yO]; rfl) | (rw [simp5 (by omega)]) | (rw [simp6 (by omega)]; rfl)))), rfl⟩, trivial⟩
theorem rjson_step (v : GV) (ho : v.ok) (hw : v.wt ≤ 10000000) (ih : ∀ y ∈ v.list, zo Tryz.prog Γ0 105 [y.av] [sv (yf (xC y))]) (ihm : ∀ a ∈ v.map, zo Tryz.prog Γ0 105 [a.val.av] [sv (yf (xC a.val))]) : zo Tryz.prog Γ0 105 [v.av] [sv (yf (xC v))] := by
  have lv := xR v.list
  have la := yi v.map
  have ek := v.wt_eq
  have ok := v.ok_iff.1 ho
  have sl := yr v
  have jl := yd v
  have c1 : (ByteArray.mk #[91]).size = 1 := rfl
  have c2 : (ByteArray.mk #[93]).size = 1 := rfl
  have c3 : (ByteArray.mk #[123]).size = 1 := rfl
  have c4 : (ByteArray.mk #[125]).size = 1 := rfl
  have c5 : (ByteArray.mk #[58]).size = 1 := rfl
  refine z_ Tryz.func105 rfl Tryz.ntmps105 (by kernel_rfl) rfl fun w0 I0 G0 => ?_
  refine zD <| zB <| g_uG (zi 1001 rfl rfl rfl rfl) rfl <| g_u (zE rfl rfl) <| zI <| zA <| zD <| zD <| zB <| g_u (zF rfl rfl xf rfl) <| g_u (zG rfl rfl rfl tA5 tS5 rfl rfl) <| g_u (y6 rfl rfl rfl) <| zI <| zA ?_
  refine zW rfl (fun hb1 => ?_) (fun hb1 => ?_)
  · refine zD ?_
    refine zB <| g_u (zE rfl rfl) <| zI <| zA <| zL <| zM ?_
    exact ⟨⟨(rfl : toAV (Al.look _ _) = some _).trans (congrArg some (by (simp only [beq_iff_eq, qe, ne_eq, decide_eq_true_eq, qb] at *; rw [json0 (by omega)]; rfl))), rfl⟩, trivial⟩
  · refine zY ?_
    refine zA <| zD <| zD <| zB <| g_u (zF rfl rfl xf rfl) <| g_u (zG rfl rfl rfl tA5 tS5 rfl rfl) <| g_u (y6 rfl rfl rfl) <| g_u (zC rfl rfl) <| z0 (t := 12) rfl ?_
    rintro (hb2 | hb2)
    · rw [hb2]
      refine zH rfl rfl rfl <| zH rfl rfl rfl <| zH rfl rfl rfl <| g_u (zQ rfl rfl rfl) <| g_u (zC rfl rfl) <| zH rfl rfl rfl <| zH rfl rfl rfl <| zH rfl rfl rfl <| g_u (zQ rfl rfl rfl) <| zI <| zA <| zg rfl <| zD <| zB <| g_u (zG rfl rfl rfl tA70 tS70 rfl rfl) <| g_u (zP (rsimple_c _ ho hw) rfl rfl) ?_
      refine g_u (zP (rquote_c _ (by first | exact hka | (rw [zf]; omega))) rfl rfl) ?_
      refine g_u (zE rfl rfl) <| zI <| zA <| zL <| zM ?_
      exact ⟨⟨(rfl : toAV (Al.look _ _) = some _).trans (congrArg some (by (simp only [beq_iff_eq, qe, ne_eq, decide_eq_true_eq, qb] at *; rw [jsonS (by omega)]; rw [yO]))), rfl⟩, trivial⟩
    · rw [hb2]
      refine zN rfl rfl (zF rfl rfl xf rfl) <| zN rfl rfl (zG rfl rfl rfl tA5 tS5 rfl rfl) <| zN rfl rfl (y6 rfl rfl rfl) <| g_u (zh rfl rfl rfl) <| g_u (zC rfl rfl) <| z0 (t := 17) rfl ?_
      rintro (hb3 | hb3)
      · rw [hb3]
        refine zH rfl rfl rfl <| zH rfl rfl rfl <| zH rfl rfl rfl <| g_u (zQ rfl rfl rfl) <| zI <| zA <| zg rfl <| zD <| zB <| g_u (zG rfl rfl rfl tA70 tS70 rfl rfl) <| g_u (zP (rsimple_c _ ho hw) rfl rfl) ?_
        refine g_u (zP (rquote_c _ (by first | exact hka | (rw [zf]; omega))) rfl rfl) ?_
        refine g_u (zE rfl rfl) <| zI <| zA <| zL <| zM ?_
        exact ⟨⟨(rfl : toAV (Al.look _ _) = some _).trans (congrArg some (by (simp only [beq_iff_eq, qe, ne_eq, decide_eq_true_eq, qb] at *; rw [jsonS (by omega)]; rw [yO]))), rfl⟩, trivial⟩
      · rw [hb3]
        refine zN rfl rfl (zF rfl rfl xf rfl) <| zN rfl rfl (zG rfl rfl rfl tA5 tS5 rfl rfl) <| zN rfl rfl (y6 rfl rfl rfl) <| g_u (zh rfl rfl rfl) <| zI <| zA ?_
        refine zW rfl (fun hb4 => ?_) (fun hb4 => ?_)
        · refine zD ?_
          refine zB <| g_u (zG rfl rfl rfl tA70 tS70 rfl rfl) <| g_u (zP (rsimple_c _ ho hw) rfl rfl) ?_
          refine g_u (zP (rquote_c _ (by first | exact hka | (rw [zf]; omega))) rfl rfl) ?_
          refine g_u (zE rfl rfl) <| zI <| zA <| zL <| zM ?_
          exact ⟨⟨(rfl : toAV (Al.look _ _) = some _).trans (congrArg some (by (simp only [beq_iff_eq, qe, ne_eq, decide_eq_true_eq, qb] at *; rw [jsonS (by omega)]; rw [yO]))), rfl⟩, trivial⟩
        · refine zY ?_
          refine zA <| zD <| zB <| g_u (zE rfl rfl) <| zI <| zA <| zD <| zD <| zB <| g_u (zF rfl rfl xf rfl) <| g_u (zG rfl rfl rfl tA5 tS5 rfl rfl) <| g_u (y6 rfl rfl rfl) <| zI <| zA ?_
          refine zW rfl (fun hb5 => ?_) (fun hb5 => ?_)
          · refine zD ?_
            refine zD <| zB <| g_u (zE rfl rfl) <| zI <| zA <| zU ?_
            refine zp (fun j : Nat × ByteArray => [(1, .ptr 1001 0), (1001, .box 70 (.imm v.av)), (3, .imm (sv j.2)), (4, .imm (iv (j.1 : Int)))]) (fun j => j.1 ≤ v.list.length ∧ lst j.2 = vO true (v.list.take j.1)) (fun j => v.list.length - j.1) (⟨0, ⟨#[]⟩⟩) ?_ ⟨rfl, rfl, rfl, rfl, trivial⟩ ?_
            · exact ⟨Nat.zero_le _, rfl⟩
            · rintro ⟨i, t⟩ ⟨h1, h2⟩; dsimp only at h1 h2; have hlen : t.size ≤ 150 * wtVs (v.list.take i) := by rw [← yH t, h2]; exact jsonVs_len _ _
              have htk := wtVs_take v.list i
              refine zD <| zD <| zB <| g_u (zC rfl rfl) <| g_u (zF rfl rfl fa70_4 rfl) <| g_u (zG rfl rfl rfl tA68 tS68 rfl rfl) <| g_u (zw rfl rfl Tryz.underlying68) <| g_u (yb rfl rfl rfl) <| zI <| zA ?_
              refine zW rfl (fun hb6 => ?_) (fun hb6 => ?_)
              · have hiv : i < v.list.length := by have := of_decide_eq_true hb6; simp only [List.length_map] at this; omega
                refine zY <| zA <| zD <| zU <| yE yt <| g_u (zC rfl rfl) <| g_u (zC rfl rfl) <| g_u (zP (rcomma_c _) rfl rfl) ?_
                refine g_u (y7 rfl rfl rfl (by show _ ≤ (9223372036854775807 : Int); (try dsimp only); first | (have q1 := wa hiv; have q2 := yd (nthV v.list i); have q3 := yM (i == 0); simp only [zt, zf, c1, c2, c3, c4, c5]; omega) | (have q1 := yp hia; have q2 := wG (nthA v.map i); have q3 := yM (i == 0); have q4 := (nthA v.map i).wt_eq; have q5 := yC (lst (nthA v.map i).key); have q6 := yH (nthA v.map i).key; have q7 := yd (nthA v.map i).val; simp only [zt, zf, c1, c2, c3, c4, c5]; omega) | (simp only [zt, zf, c1, c2, c3, c4, c5]; omega))) ?_
                refine g_u (zF rfl rfl fa70_4 rfl) <| g_u (zG rfl rfl rfl tA68 tS68 rfl rfl) <| g_u (zC rfl rfl) ?_
                refine g_u (zJ rfl rfl rfl Tryz.underlying68 tS70 (by omega) (ixV hiv)) ?_
                refine g_u (zT rfl rfl tA70 tS70 rfl rfl) ?_
                refine g_u (zP ((by first | exact ih _ (nthV_mem hiv) | exact ihm _ (wL hia))) rfl rfl) ?_
                refine g_u (y7 rfl rfl rfl (by show _ ≤ (9223372036854775807 : Int); (try dsimp only); first | (have q1 := wa hiv; have q2 := yd (nthV v.list i); have q3 := yM (i == 0); simp only [zt, zf, c1, c2, c3, c4, c5]; omega) | (have q1 := yp hia; have q2 := wG (nthA v.map i); have q3 := yM (i == 0); have q4 := (nthA v.map i).wt_eq; have q5 := yC (lst (nthA v.map i).key); have q6 := yH (nthA v.map i).key; have q7 := yd (nthA v.map i).val; simp only [zt, zf, c1, c2, c3, c4, c5]; omega) | (simp only [zt, zf, c1, c2, c3, c4, c5]; omega))) ?_
                refine g_u (zE rfl rfl) ?_
                refine zI ⟨by kernel_rfl, ?_⟩
                refine zX <| zA <| zB <| g_u (zC rfl rfl) <| g_u (yG rfl rfl rfl) <| g_u (zE rfl rfl) <| zI <| zA ?_
                refine ⟨⟨i + 1, _⟩, ⟨hiv, ?_⟩, ⟨rfl, rfl, rfl, zZ rfl (by rw [ze (by omega) (by omega)]; rfl), trivial⟩, by dsimp only; omega⟩
                show lst (t ++ yf (comma (i == 0)) ++ yf (xC (nthV v.list i))) = _
                rw [jsonVs_take hiv, xV, xV, yO, yO, h2]
              · have hi : i = v.list.length := by have := of_decide_eq_false hb6; simp only [List.length_map] at this; omega
                refine zu <| zR <| zR <| zn <| zA <| zD <| zB <| g_u (zC rfl rfl) ?_
                refine g_u (y7 rfl rfl rfl (by show _ ≤ (9223372036854775807 : Int); (try dsimp only); first | (have q1 := wa hiv; have q2 := yd (nthV v.list i); have q3 := yM (i == 0); simp only [zt, zf, c1, c2, c3, c4, c5]; omega) | (have q1 := yp hia; have q2 := wG (nthA v.map i); have q3 := yM (i == 0); have q4 := (nthA v.map i).wt_eq; have q5 := yC (lst (nthA v.map i).key); have q6 := yH (nthA v.map i).key; have q7 := yd (nthA v.map i).val; simp only [zt, zf, c1, c2, c3, c4, c5]; omega) | (simp only [zt, zf, c1, c2, c3, c4, c5]; omega))) ?_
                refine g_u (y7 rfl rfl rfl (by show _ ≤ (9223372036854775807 : Int); (try dsimp only); first | (have q1 := wa hiv; have q2 := yd (nthV v.list i); have q3 := yM (i == 0); simp only [zt, zf, c1, c2, c3, c4, c5]; omega) | (have q1 := yp hia; have q2 := wG (nthA v.map i); have q3 := yM (i == 0); have q4 := (nthA v.map i).wt_eq; have q5 := yC (lst (nthA v.map i).key); have q6 := yH (nthA v.map i).key; have q7 := yd (nthA v.map i).val; simp only [zt, zf, c1, c2, c3, c4, c5]; omega) | (simp only [zt, zf, c1, c2, c3, c4, c5]; omega))) ?_
                refine g_u (zE rfl rfl) <| zI <| zA <| zL <| zM ?_
                exact ⟨⟨(rfl : toAV (Al.look _ _) = some _).trans (congrArg some (by (simp only [beq_iff_eq, qe, ne_eq, decide_eq_true_eq, qb] at *; rw [json6 (by omega)]; refine congrArg sv (strOf_eq ?_); show lst (⟨#[91]⟩ ++ t ++ ⟨#[93]⟩) = _; rw [xV, xV, h2, hi, List.take_of_length_le (Nat.le_refl _)]; rfl))), rfl⟩, trivial⟩
          · refine zY ?_
            refine zA <| zD <| zD <| zB <| g_u (zF rfl rfl xf rfl) <| g_u (zG rfl rfl rfl tA5 tS5 rfl rfl) <| g_u (y6 rfl rfl rfl) <| zI <| zA ?_
            refine zW rfl (fun hb7 => ?_) (fun hb7 => ?_)
            · refine zD ?_
              refine zD <| zB <| g_u (zE rfl rfl) <| zI <| zA <| zU ?_
              refine zp (fun j : Nat × ByteArray => [(1, .ptr 1001 0), (1001, .box 70 (.imm v.av)), (3, .imm (sv j.2)), (5, .imm (iv (j.1 : Int)))]) (fun j => j.1 ≤ v.map.length ∧ lst j.2 = vL true (v.map.take j.1)) (fun j => v.map.length - j.1) (⟨0, ⟨#[]⟩⟩) ?_ ⟨rfl, rfl, rfl, rfl, trivial⟩ ?_
              · exact ⟨Nat.zero_le _, rfl⟩
              · rintro ⟨i, t⟩ ⟨h1, h2⟩; dsimp only at h1 h2; have hlen : t.size ≤ 150 * wtAs (v.map.take i) := by rw [← yH t, h2]; exact jsonAs_len _ _
                have htk := wtAs_take v.map i
                refine zD <| zD <| zB <| g_u (zC rfl rfl) <| g_u (zF rfl rfl fa70_5 rfl) <| g_u (zG rfl rfl rfl tA44 tS44 rfl rfl) <| g_u (zw rfl rfl Tryz.underlying44) <| g_u (yb rfl rfl rfl) <| zI <| zA ?_
                refine zW rfl (fun hb8 => ?_) (fun hb8 => ?_)
                · have hia : i < v.map.length := by have := of_decide_eq_true hb8; simp only [List.length_map] at this; omega
                  have hka : (nthA v.map i).key.size ≤ 100000000000 := by have q1 := yp hia; have q4 := (nthA v.map i).wt_eq; omega
                  refine zY <| zA <| zD <| zU <| yE yt <| g_u (zC rfl rfl) <| g_u (zC rfl rfl) <| g_u (zP (rcomma_c _) rfl rfl) ?_
                  refine g_u (y7 rfl rfl rfl (by show _ ≤ (9223372036854775807 : Int); (try dsimp only); first | (have q1 := wa hiv; have q2 := yd (nthV v.list i); have q3 := yM (i == 0); simp only [zt, zf, c1, c2, c3, c4, c5]; omega) | (have q1 := yp hia; have q2 := wG (nthA v.map i); have q3 := yM (i == 0); have q4 := (nthA v.map i).wt_eq; have q5 := yC (lst (nthA v.map i).key); have q6 := yH (nthA v.map i).key; have q7 := yd (nthA v.map i).val; simp only [zt, zf, c1, c2, c3, c4, c5]; omega) | (simp only [zt, zf, c1, c2, c3, c4, c5]; omega))) ?_
                  refine g_u (zF rfl rfl fa70_5 rfl) <| g_u (zG rfl rfl rfl tA44 tS44 rfl rfl) <| g_u (zC rfl rfl) ?_
                  refine g_u (zJ rfl rfl rfl Tryz.underlying44 tS72 (by omega) (ixA hia)) ?_
                  refine g_u (zV rfl rfl wh rfl rfl) <| g_u (zT rfl rfl tA9 tS9 rfl rfl) ?_
                  refine g_u (zP (rquote_c _ (by first | exact hka | (rw [zf]; omega))) rfl rfl) ?_
                  refine g_u (y7 rfl rfl rfl (by show _ ≤ (9223372036854775807 : Int); (try dsimp only); first | (have q1 := wa hiv; have q2 := yd (nthV v.list i); have q3 := yM (i == 0); simp only [zt, zf, c1, c2, c3, c4, c5]; omega) | (have q1 := yp hia; have q2 := wG (nthA v.map i); have q3 := yM (i == 0); have q4 := (nthA v.map i).wt_eq; have q5 := yC (lst (nthA v.map i).key); have q6 := yH (nthA v.map i).key; have q7 := yd (nthA v.map i).val; simp only [zt, zf, c1, c2, c3, c4, c5]; omega) | (simp only [zt, zf, c1, c2, c3, c4, c5]; omega))) ?_
                  refine g_u (y7 rfl rfl rfl (by show _ ≤ (9223372036854775807 : Int); (try dsimp only); first | (have q1 := wa hiv; have q2 := yd (nthV v.list i); have q3 := yM (i == 0); simp only [zt, zf, c1, c2, c3, c4, c5]; omega) | (have q1 := yp hia; have q2 := wG (nthA v.map i); have q3 := yM (i == 0); have q4 := (nthA v.map i).wt_eq; have q5 := yC (lst (nthA v.map i).key); have q6 := yH (nthA v.map i).key; have q7 := yd (nthA v.map i).val; simp only [zt, zf, c1, c2, c3, c4, c5]; omega) | (simp only [zt, zf, c1, c2, c3, c4, c5]; omega))) ?_
                  refine g_u (zF rfl rfl fa70_5 rfl) <| g_u (zG rfl rfl rfl tA44 tS44 rfl rfl) <| g_u (zC rfl rfl) ?_
                  refine g_u (zJ rfl rfl rfl Tryz.underlying44 tS72 (by omega) (ixA hia)) ?_
                  refine g_u (zV rfl rfl fa72_1 rfl rfl) <| g_u (zT rfl rfl tA70 tS70 rfl rfl) ?_
                  refine g_u (zP ((by first | exact ih _ (nthV_mem hiv) | exact ihm _ (wL hia))) rfl rfl) ?_
                  refine g_u (y7 rfl rfl rfl (by show _ ≤ (9223372036854775807 : Int); (try dsimp only); first | (have q1 := wa hiv; have q2 := yd (nthV v.list i); have q3 := yM (i == 0); simp only [zt, zf, c1, c2, c3, c4, c5]; omega) | (have q1 := yp hia; have q2 := wG (nthA v.map i); have q3 := yM (i == 0); have q4 := (nthA v.map i).wt_eq; have q5 := yC (lst (nthA v.map i).key); have q6 := yH (nthA v.map i).key; have q7 := yd (nthA v.map i).val; simp only [zt, zf, c1, c2, c3, c4, c5]; omega) | (simp only [zt, zf, c1, c2, c3, c4, c5]; omega))) ?_
                  refine g_u (zE rfl rfl) ?_
                  refine zI ⟨by kernel_rfl, ?_⟩
                  refine zX <| zA <| zB <| g_u (zC rfl rfl) <| g_u (yG rfl rfl rfl) <| g_u (zE rfl rfl) <| zI <| zA ?_
                  refine ⟨⟨i + 1, _⟩, ⟨hia, ?_⟩, ⟨rfl, rfl, rfl, zZ rfl (by rw [ze (by omega) (by omega)]; rfl), trivial⟩, by dsimp only; omega⟩
                  show lst (t ++ yf (comma (i == 0)) ++ yf (vM (lst (nthA v.map i).key)) ++ ⟨#[58]⟩ ++ yf (xC (nthA v.map i).val)) = _
                  rw [jsonAs_take hia, jsonA_eq, xV, xV, xV, xV, yO, yO, yO, h2]
                  simp only [List.append_assoc]
                  rfl
                · have hi : i = v.map.length := by have := of_decide_eq_false hb8; simp only [List.length_map] at this; omega
                  refine zu <| zR <| zR <| zn <| zA <| zD <| zB <| g_u (zC rfl rfl) ?_
                  refine g_u (y7 rfl rfl rfl (by show _ ≤ (9223372036854775807 : Int); (try dsimp only); first | (have q1 := wa hiv; have q2 := yd (nthV v.list i); have q3 := yM (i == 0); simp only [zt, zf, c1, c2, c3, c4, c5]; omega) | (have q1 := yp hia; have q2 := wG (nthA v.map i); have q3 := yM (i == 0); have q4 := (nthA v.map i).wt_eq; have q5 := yC (lst (nthA v.map i).key); have q6 := yH (nthA v.map i).key; have q7 := yd (nthA v.map i).val; simp only [zt, zf, c1, c2, c3, c4, c5]; omega) | (simp only [zt, zf, c1, c2, c3, c4, c5]; omega))) ?_
                  refine g_u (y7 rfl rfl rfl (by show _ ≤ (9223372036854775807 : Int); (try dsimp only); first | (have q1 := wa hiv; have q2 := yd (nthV v.list i); have q3 := yM (i == 0); simp only [zt, zf, c1, c2, c3, c4, c5]; omega) | (have q1 := yp hia; have q2 := wG (nthA v.map i); have q3 := yM (i == 0); have q4 := (nthA v.map i).wt_eq; have q5 := yC (lst (nthA v.map i).key); have q6 := yH (nthA v.map i).key; have q7 := yd (nthA v.map i).val; simp only [zt, zf, c1, c2, c3, c4, c5]; omega) | (simp only [zt, zf, c1, c2, c3, c4, c5]; omega))) ?_
                  refine g_u (zE rfl rfl) <| zI <| zA <| zL <| zM ?_
                  exact ⟨⟨(rfl : toAV (Al.look _ _) = some _).trans (congrArg some (by (simp only [beq_iff_eq, qe, ne_eq, decide_eq_true_eq, qb] at *; rw [json7 (by omega)]; refine congrArg sv (strOf_eq ?_); show lst (⟨#[123]⟩ ++ t ++ ⟨#[125]⟩) = _; rw [xV, xV, h2, hi, List.take_of_length_le (Nat.le_refl _)]; rfl))), rfl⟩, trivial⟩
            · refine zY ?_
              refine zA <| zD <| zB <| g_u (zG rfl rfl rfl tA70 tS70 rfl rfl) <| g_u (zP (rsimple_c _ ho hw) rfl rfl) <| g_u (zE rfl rfl) <| zI <| zA <| zL ?_
              exact ⟨⟨(rfl : toAV (Al.look _ _) = some _).trans (congrArg some (by (simp only [beq_iff_eq, qe, ne_eq, decide_eq_true_eq, qb] at *; rw [jsonE (by omega)]))), rfl⟩, trivial⟩
theorem rjson_c (v : GV) : v.ok → v.wt ≤ 10000000 → zo Tryz.prog Γ0 105 [v.av] [sv (yf (xC v))] := by
  refine GV.ind (P := fun v => v.ok → v.wt ≤ 10000000 → zo Tryz.prog Γ0 105 [v.av] [sv (yf (xC v))]) ?_ v
  intro v h1 h2 ho hw
  have ok := v.ok_iff.1 ho
  have ek := v.wt_eq
  refine rjson_step v ho hw (fun y hy => h1 y hy (ok.2.2.2.2.1 y hy) ?_) (fun a ha => h2 a ha ((GA.ok_iff a).1 (ok.2.2.2.2.2 a ha)).2 ?_)
  · have := wtVs_mem hy; omega
  · have := xa ha; have := a.wt_eq; omega
theorem rtext_c (v : GV) (ho : v.ok) (hw : v.wt ≤ 10000000) : zo Tryz.prog Γ0 74 [v.av] [sv (textM v)] := by
  refine z_ Tryz.func74 rfl Tryz.ntmps74 (by kernel_rfl) rfl fun w0 I0 G0 => ?_
  refine zD <| zB <| g_uG (zi 1001 rfl rfl rfl rfl) rfl <| g_u (zE rfl rfl) <| zI <| zA <| zD <| zD <| zB <| g_u (zF rfl rfl xf rfl) <| g_u (zG rfl rfl rfl tA5 tS5 rfl rfl) <| g_u (y6 rfl rfl rfl) <| g_u (zC rfl rfl) <| z0 (t := 6) rfl ?_
  rintro (hb1 | hb1)
  · rw [hb1]
    refine zH rfl rfl rfl <| zH rfl rfl rfl <| zH rfl rfl rfl <| g_u (zQ rfl rfl rfl) <| zI <| zA <| zg rfl <| zD <| zB <| g_u (zG rfl rfl rfl tA70 tS70 rfl rfl) <| g_u (zP (rjson_c v ho hw) rfl rfl) <| g_u (zE rfl rfl) <| zI <| zA <| zL <| zM ?_
    exact ⟨⟨(rfl : toAV (Al.look _ _) = some _).trans (congrArg some (by (simp only [beq_iff_eq, qe, ne_eq, decide_eq_true_eq, qb] at *; first | rw [text6 (by omega)] | rw [textE (by omega)]))), rfl⟩, trivial⟩
  · rw [hb1]
    refine zN rfl rfl (zF rfl rfl xf rfl) <| zN rfl rfl (zG rfl rfl rfl tA5 tS5 rfl rfl) <| zN rfl rfl (y6 rfl rfl rfl) <| g_u (zh rfl rfl rfl) <| zI <| zA ?_
    refine zW rfl (fun hb2 => ?_) (fun hb2 => ?_)
    · refine zD ?_
      refine zB <| g_u (zG rfl rfl rfl tA70 tS70 rfl rfl) <| g_u (zP (rjson_c v ho hw) rfl rfl) <| g_u (zE rfl rfl) <| zI <| zA <| zL <| zM ?_
      exact ⟨⟨(rfl : toAV (Al.look _ _) = some _).trans (congrArg some (by (simp only [beq_iff_eq, qe, ne_eq, decide_eq_true_eq, qb] at *; first | rw [text6 (by omega)] | rw [textE (by omega)]))), rfl⟩, trivial⟩
    · refine zY ?_
      refine zA <| zD <| zB <| g_u (zG rfl rfl rfl tA70 tS70 rfl rfl) <| g_u (zP (rsimple_c _ ho hw) rfl rfl) <| g_u (zE rfl rfl) <| zI <| zA <| zL ?_
      exact ⟨⟨(rfl : toAV (Al.look _ _) = some _).trans (congrArg some (by (simp only [beq_iff_eq, qe, ne_eq, decide_eq_true_eq, qb] at *; first | rw [text6 (by omega)] | rw [textE (by omega)]))), rfl⟩, trivial⟩
theorem rplain_c (v : GV) (ho : v.ok) (hw : v.wt ≤ 10000000) : zo Tryz.prog Γ0 125 [v.av] [(plainV v).av] := by
  refine z_ Tryz.func125 rfl Tryz.ntmps125 (by kernel_rfl) rfl fun w0 I0 G0 => ?_
  refine zD <| zB <| g_uG (zi 1001 rfl rfl rfl rfl) rfl <| g_uG (zl 1002 rfl rfl rfl tZ70) rfl <| zI <| zA <| zD <| zB <| g_u (zG rfl rfl rfl tA70 tS70 rfl rfl) <| g_u (zP (rtext_c v ho hw) rfl rfl) <| g_u (y_ rfl tU70 us70 pl70 rfl rfl rfl rfl) <| g_u (zK rfl rfl rfl tS70 rfl rfl) <| zI <| zA <| zL ?_
  exact ⟨⟨_, _, _, _, _, _, _, rfl, rfl, tA70, tS70, rfl, rfl, (rfl : toAV _ = some _).trans (congrArg some (by rfl))⟩, trivial⟩
end Go.Proofs
namespace Go.Proofs
open Go Go.Al
set_option maxRecDepth 10000
def truthB (n : Int) : Bs := if n = 0 then [102, 97, 108, 115, 101] else [116, 114, 117, 101]
def wS (v : GV) : AV :=
  if v.kind = 0 then .ifc 164 (sv (yf [110, 117, 108, 108]))
  else if v.kind = 1 then .ifc 163 (sv v.text)
  else if v.kind = 2 then .ifc 164 (sv (yf (truthB v.num)))
  else if v.kind = 3 then .ifc 164 (sv (yf (decB v.num)))
  else if v.kind = 4 then .ifc 163 (sv (yf (48 :: 120 :: hexB (be 8 v.bits.toNat))))
  else if v.kind = 5 then .ifc 163 (sv (yf (hexB (lst v.text))))
  else if v.kind = 6 then .ifc 182 (.sl 6 (v.list.map avV))
  else if v.kind = 7 then .ifc 183 (.sl 7 (v.map.map avA))
  else .ifc 164 (sv ⟨#[]⟩)
theorem truth_c (n : Int) : zo Tryz.prog Γ0 144 [iv n] [sv (yf (truthB n))] := by
  refine z_ Tryz.func144 rfl Tryz.ntmps144 (by kernel_rfl) rfl fun w0 I0 G0 => ?_
  refine zD <| zB <| g_u (zE rfl rfl) <| zI <| zA <| zD <| zD <| zB <| g_u (zC rfl rfl) <| g_u (wM rfl rfl rfl) <| zI <| zA ?_
  refine zW rfl (fun hb1 => ?_) (fun hb1 => ?_)
  · refine zD ?_
    refine zB <| g_u (zE rfl rfl) <| zI <| zA <| zL <| zM ?_
    exact ⟨⟨(rfl : toAV (Al.look _ _) = some _).trans (congrArg some (by (unfold truthB; first | (rw [if_neg (by simpa using hb1)]; rfl) | (rw [if_pos (by simpa using hb1)]; rfl)))), rfl⟩, trivial⟩
  · refine zY ?_
    refine zA <| zD <| zB <| g_u (zE rfl rfl) <| zI <| zA <| zL ?_
    exact ⟨⟨(rfl : toAV (Al.look _ _) = some _).trans (congrArg some (by (unfold truthB; first | (rw [if_neg (by simpa using hb1)]; rfl) | (rw [if_pos (by simpa using hb1)]; rfl)))), rfl⟩, trivial⟩
theorem double_c (u : Int) (h : 0 ≤ u ∧ u < 18446744073709551616) : zo Tryz.prog Γ0 146 [uv u] [sv (yf (48 :: 120 :: hexB (be 8 u.toNat)))] := by
  have c1 : (ByteArray.mk #[48, 120]).size = 2 := rfl
  refine z_ Tryz.func146 rfl Tryz.ntmps146 (by kernel_rfl) rfl fun w0 I0 G0 => ?_
  refine zD <| zB <| g_u (zE rfl rfl) <| zI <| zA <| zD <| zB <| g_u (zC rfl rfl) ?_
  refine g_u (zP (nil1 (n := 1) (high_c [] u h (by simp))) rfl rfl) ?_
  refine g_u (s_cvBS' (rfl) rfl rfl Tryz.underlying42 Tryz.underlying9 Tryz.underlying5) ?_
  refine g_u (zP (htext_c _ (by rw [zf]; simp only [List.nil_append, xo]; omega)) rfl rfl) ?_
  refine g_u (y7 rfl rfl rfl (by show _ ≤ (9223372036854775807 : Int); simp only [zf, yI, yO, List.nil_append, xo, c1]; omega)) ?_
  refine g_u (zE rfl rfl) <| zI <| zA <| zL ?_
  exact ⟨⟨(rfl : toAV (Al.look _ _) = some _).trans (congrArg some (by (rw [yO]; rfl))), rfl⟩, trivial⟩
theorem thing_c (v : GV) (ho : v.ok) (hw : v.wt ≤ 10000000) : zo Tryz.prog Γ0 120 [v.av] [wS v] := by
  have lv := xR v.list
  have la := yi v.map
  have ek := v.wt_eq
  have ok := v.ok_iff.1 ho
  have sl := yr v
  have jl := yd v
  refine z_ Tryz.func120 rfl Tryz.ntmps120 (by kernel_rfl) rfl fun w0 I0 G0 => ?_
  refine zD <| zB <| g_uG (zi 1001 rfl rfl rfl rfl) rfl <| g_u (zE rfl rfl) <| zI <| zA <| zD <| zD <| zB <| g_u (zF rfl rfl xf rfl) <| g_u (zG rfl rfl rfl tA5 tS5 rfl rfl) <| zI <| zA <| zU <| zD <| zB <| g_u (y6 rfl rfl rfl) <| g_u (zE rfl rfl) <| zI <| zA ?_
  refine zW rfl (fun hb1 => ?_) (fun hb1 => ?_)
  · refine zD ?_
    refine zB <| g_u (xg rfl rfl nI164) <| g_u (zE rfl rfl) <| zI <| zA <| zL <| zq <| zM ?_
    exact ⟨⟨(rfl : toAV (Al.look _ _) = some _).trans (congrArg some (by (simp only [beq_iff_eq, qe, ne_eq, decide_eq_true_eq, qb] at *; unfold wS; (repeat (first | rw [if_pos (by omega)] | rw [if_neg (by omega)])); (first | done | rfl)))), rfl⟩, trivial⟩
  · refine zD ?_
    refine zB <| g_u (y6 rfl rfl rfl) <| g_u (zE rfl rfl) <| zI <| zA ?_
    refine zW rfl (fun hb2 => ?_) (fun hb2 => ?_)
    · refine zD ?_
      refine zB <| g_u (zF rfl rfl fa70_1 rfl) <| g_u (zG rfl rfl rfl tA9 tS9 rfl rfl) <| g_u (xg rfl rfl nI163) <| g_u (zE rfl rfl) <| zI <| zA <| zL <| zq <| zM ?_
      exact ⟨⟨(rfl : toAV (Al.look _ _) = some _).trans (congrArg some (by (simp only [beq_iff_eq, qe, ne_eq, decide_eq_true_eq, qb] at *; unfold wS; (repeat (first | rw [if_pos (by omega)] | rw [if_neg (by omega)])); (first | done | rfl)))), rfl⟩, trivial⟩
    · refine zD ?_
      refine zB <| g_u (y6 rfl rfl rfl) <| g_u (zE rfl rfl) <| zI <| zA ?_
      refine zW rfl (fun hb3 => ?_) (fun hb3 => ?_)
      · refine zD ?_
        refine zB <| g_u (zF rfl rfl fa70_2 rfl) <| g_u (zG rfl rfl rfl tA3 tS3 rfl rfl) <| g_u (zP (truth_c _) rfl rfl) <| g_u (xg rfl rfl nI164) <| g_u (zE rfl rfl) <| zI <| zA <| zL <| zq <| zM ?_
        exact ⟨⟨(rfl : toAV (Al.look _ _) = some _).trans (congrArg some (by (simp only [beq_iff_eq, qe, ne_eq, decide_eq_true_eq, qb] at *; unfold wS; (repeat (first | rw [if_pos (by omega)] | rw [if_neg (by omega)])); (first | done | rfl)))), rfl⟩, trivial⟩
      · refine zD ?_
        refine zB <| g_u (y6 rfl rfl rfl) <| g_u (zE rfl rfl) <| zI <| zA ?_
        refine zW rfl (fun hb4 => ?_) (fun hb4 => ?_)
        · refine zD ?_
          refine zB <| g_u (zF rfl rfl fa70_2 rfl) <| g_u (zG rfl rfl rfl tA3 tS3 rfl rfl) ?_
          refine g_u (zP (nil1 (n := 1) (dput_c [] _ ok.2.2.1 (by simp))) rfl rfl) ?_
          refine g_u (s_cvBS' (rfl) rfl rfl Tryz.underlying42 Tryz.underlying164 Tryz.underlying5) <| g_u (xg rfl rfl nI164) <| g_u (zE rfl rfl) <| zI <| zA <| zL <| zq <| zM ?_
          exact ⟨⟨(rfl : toAV (Al.look _ _) = some _).trans (congrArg some (by (simp only [beq_iff_eq, qe, ne_eq, decide_eq_true_eq, qb] at *; unfold wS; (repeat (first | rw [if_pos (by omega)] | rw [if_neg (by omega)])); (first | done | rfl)))), rfl⟩, trivial⟩
        · refine zD ?_
          refine zB <| g_u (y6 rfl rfl rfl) <| g_u (zE rfl rfl) <| zI <| zA ?_
          refine zW rfl (fun hb5 => ?_) (fun hb5 => ?_)
          · refine zD ?_
            refine zB <| g_u (zF rfl rfl fa70_3 rfl) <| g_u (zG rfl rfl rfl tA57 tS57 rfl rfl) <| g_u (zP (double_c _ ok.2.2.2.1) rfl rfl) <| g_u (xg rfl rfl nI163) <| g_u (zE rfl rfl) <| zI <| zA <| zL <| zq <| zM ?_
            exact ⟨⟨(rfl : toAV (Al.look _ _) = some _).trans (congrArg some (by (simp only [beq_iff_eq, qe, ne_eq, decide_eq_true_eq, qb] at *; unfold wS; (repeat (first | rw [if_pos (by omega)] | rw [if_neg (by omega)])); (first | done | rfl)))), rfl⟩, trivial⟩
          · refine zD ?_
            refine zB <| g_u (y6 rfl rfl rfl) <| g_u (zE rfl rfl) <| zI <| zA ?_
            refine zW rfl (fun hb6 => ?_) (fun hb6 => ?_)
            · refine zD ?_
              refine zB <| g_u (zF rfl rfl fa70_1 rfl) <| g_u (zG rfl rfl rfl tA9 tS9 rfl rfl) ?_
              refine g_u (zP (htext_c _ (by omega)) rfl rfl) ?_
              refine g_u (xg rfl rfl nI163) <| g_u (zE rfl rfl) <| zI <| zA <| zL <| zq <| zM ?_
              exact ⟨⟨(rfl : toAV (Al.look _ _) = some _).trans (congrArg some (by (simp only [beq_iff_eq, qe, ne_eq, decide_eq_true_eq, qb] at *; unfold wS; (repeat (first | rw [if_pos (by omega)] | rw [if_neg (by omega)])); (first | done | rfl)))), rfl⟩, trivial⟩
            · refine zD ?_
              refine zB <| g_u (y6 rfl rfl rfl) <| g_u (zE rfl rfl) <| zI <| zA ?_
              refine zW rfl (fun hb7 => ?_) (fun hb7 => ?_)
              · refine zD ?_
                refine zB <| g_u (zF rfl rfl fa70_4 rfl) <| g_u (zG rfl rfl rfl tA68 tS68 rfl rfl) <| g_u (xg rfl rfl nI182) <| g_u (zE rfl rfl) <| zI <| zA <| zL <| zq <| zM ?_
                exact ⟨⟨(rfl : toAV (Al.look _ _) = some _).trans (congrArg some (by (simp only [beq_iff_eq, qe, ne_eq, decide_eq_true_eq, qb] at *; unfold wS; (repeat (first | rw [if_pos (by omega)] | rw [if_neg (by omega)])); (first | done | rfl)))), rfl⟩, trivial⟩
              · refine zD ?_
                refine zB <| g_u (y6 rfl rfl rfl) <| g_u (zE rfl rfl) <| zI <| zA ?_
                refine zW rfl (fun hb8 => ?_) (fun hb8 => ?_)
                · refine zD ?_
                  refine zB <| g_u (zF rfl rfl fa70_5 rfl) <| g_u (zG rfl rfl rfl tA44 tS44 rfl rfl) <| g_u (xg rfl rfl nI183) <| g_u (zE rfl rfl) <| zI <| zA <| zL <| zq <| zM ?_
                  exact ⟨⟨(rfl : toAV (Al.look _ _) = some _).trans (congrArg some (by (simp only [beq_iff_eq, qe, ne_eq, decide_eq_true_eq, qb] at *; unfold wS; (repeat (first | rw [if_pos (by omega)] | rw [if_neg (by omega)])); (first | done | rfl)))), rfl⟩, trivial⟩
                · refine zY ?_
                  refine zX <| zA <| zD <| zB <| g_u (xg rfl rfl nI164) <| g_u (zE rfl rfl) <| zI <| zA <| zL ?_
                  exact ⟨⟨(rfl : toAV (Al.look _ _) = some _).trans (congrArg some (by (simp only [beq_iff_eq, qe, ne_eq, decide_eq_true_eq, qb] at *; unfold wS; (repeat (first | rw [if_pos (by omega)] | rw [if_neg (by omega)])); (first | done | rfl)))), rfl⟩, trivial⟩
theorem thing_p {v : GV} (h : v.kind ≠ 1 ∧ v.kind ≠ 4 ∧ v.kind ≠ 5 ∧ v.kind ≠ 6 ∧ v.kind ≠ 7) (c : zo Tryz.prog Γ0 120 [v.av] [wS v]) : zo Tryz.prog Γ0 120 [v.av] [.ifc 164 (sv (yf (xC v)))] := by
  have e : wS v = .ifc 164 (sv (yf (xC v))) := by
    unfold wS
    by_cases h0 : v.kind = 0
    · rw [if_pos h0, json0 h0]
    · rw [if_neg h0, if_neg h.1, jsonE (by omega)]
      by_cases h2 : v.kind = 2
      · rw [if_pos h2]
        by_cases hn : v.num = 0
        · rw [simp2 h2 hn, truthB, if_pos hn]
        · rw [simp2' h2 hn, truthB, if_neg hn]
      · rw [if_neg h2]
        by_cases h3 : v.kind = 3
        · rw [if_pos h3, simp3 h3]
        · rw [if_neg h3, if_neg h.2.1, if_neg h.2.2.1, if_neg h.2.2.2.1, if_neg h.2.2.2.2, simp6 (by omega)]; rfl
  rw [← e]; exact c
theorem thing_q {v : GV} (h : v.kind = 1 ∨ v.kind = 4 ∨ v.kind = 5) (c : zo Tryz.prog Γ0 120 [v.av] [wS v]) : zo Tryz.prog Γ0 120 [v.av] [.ifc 163 (sv (yf (wV v)))] := by
  have e : wS v = .ifc 163 (sv (yf (wV v))) := by
    unfold wS
    rcases h with h | h | h
    · rw [if_neg (by omega), if_pos h, simp1 h]
    · rw [if_neg (by omega), if_neg (by omega), if_neg (by omega), if_neg (by omega), if_pos h, simp4 h]
    · rw [if_neg (by omega), if_neg (by omega), if_neg (by omega), if_neg (by omega), if_neg (by omega), if_pos h, simp5 h]
  rw [← e]; exact c
theorem thing_l {v : GV} (h : v.kind = 6) (c : zo Tryz.prog Γ0 120 [v.av] [wS v]) : zo Tryz.prog Γ0 120 [v.av] [.ifc 182 (.sl 6 (v.list.map avV))] := by
  have e : wS v = .ifc 182 (.sl 6 (v.list.map avV)) := by
    unfold wS
    rw [if_neg (by omega), if_neg (by omega), if_neg (by omega), if_neg (by omega), if_neg (by omega), if_neg (by omega), if_pos h]
  rw [← e]; exact c
theorem thing_m {v : GV} (h : v.kind = 7) (c : zo Tryz.prog Γ0 120 [v.av] [wS v]) : zo Tryz.prog Γ0 120 [v.av] [.ifc 183 (.sl 7 (v.map.map avA))] := by
  have e : wS v = .ifc 183 (.sl 7 (v.map.map avA)) := by
    unfold wS
    rw [if_neg (by omega), if_neg (by omega), if_neg (by omega), if_neg (by omega), if_neg (by omega), if_neg (by omega), if_neg (by omega), if_pos h]
  rw [← e]; exact c
theorem lay_p (v : GV) (ho : v.ok) (hw : v.wt ≤ 10000000) (xs : List AV) (hx : W1 xs) (hl : xs.length + 150 * v.wt ≤ 5000000000) (hk : v.kind ≠ 1 ∧ v.kind ≠ 4 ∧ v.kind ≠ 5 ∧ v.kind ≠ 6 ∧ v.kind ≠ 7) : MCall Tryz.prog Γ0 148 [.slg 100001 1 xs, .imm v.av] [(100001, .tok 1 xs)] (.slg 100001 1 (xs ++ zs (xC v))) [(100001, .tok 1 (xs ++ zs (xC v)))] := by
  have lv := xR v.list
  have la := yi v.map
  have ek := v.wt_eq
  have ok := v.ok_iff.1 ho
  have sl := yr v
  have jl := yd v
  have e0 : zs (yf (xC v)).data.toList = zs (xC v) := by rw [wN]
  refine wd (rs := [.slg 100001 1 (xs ++ zs (xC v))]) Tryz.func148 rfl Tryz.ntmps148 (by kernel_rfl) rfl rfl rfl rfl rfl fun w0 I0 G0 E => ?_
  refine zD <| zB <| g_uG (zi 1003 rfl rfl rfl rfl) rfl <| g_u (zE rfl rfl) <| zI <| zA <| zD <| zD <| zB <| g_u (zG rfl rfl rfl tA70 tS70 rfl rfl) <| g_u (zP (thing_p hk (thing_c v ho hw)) rfl rfl) <| zI <| zA <| zU <| zD <| zB <| g_u (wo rfl rfl nI164) <| g_u (zj rfl rfl rfl rfl) <| g_u (zj rfl rfl rfl rfl) <| zI <| zA <| zg rfl <| zD <| zB <| g_u (zE rfl rfl) <| zI <| zA <| zD <| zB <| g_u (zy rfl rfl) <| g_u (zC rfl rfl) ?_
  refine g_u (s_appendS rfl rfl rfl rfl rfl Tryz.underlying42 Tryz.underlying164 tS5 zv5 rfl by5 (by rw [zf]; omega) (by rw [zf]; omega)) ?_
  refine g_u (yB rfl rfl) <| zI <| zA <| zL <| zq <| zM ?_
  exact ⟨⟨.inr ⟨_, rfl, yV rfl (by rw [e0]), rfl⟩, trivial⟩, ⟨z8 rfl (by rw [e0]), trivial⟩⟩
theorem lay_q (v : GV) (ho : v.ok) (hw : v.wt ≤ 10000000) (xs : List AV) (hx : W1 xs) (hl : xs.length + 150 * v.wt ≤ 5000000000) (hk : v.kind = 1 ∨ v.kind = 4 ∨ v.kind = 5) : MCall Tryz.prog Γ0 148 [.slg 100001 1 xs, .imm v.av] [(100001, .tok 1 xs)] (.slg 100001 1 (xs ++ zs (xC v))) [(100001, .tok 1 (xs ++ zs (xC v)))] := by
  have lv := xR v.list
  have la := yi v.map
  have ek := v.wt_eq
  have ok := v.ok_iff.1 ho
  have sl := yr v
  have jl := yd v
  refine wd (rs := [.slg 100001 1 (xs ++ zs (xC v))]) Tryz.func148 rfl Tryz.ntmps148 (by kernel_rfl) rfl rfl rfl rfl rfl fun w0 I0 G0 E => ?_
  refine zD <| zB <| g_uG (zi 1003 rfl rfl rfl rfl) rfl <| g_u (zE rfl rfl) <| zI <| zA <| zD <| zD <| zB <| g_u (zG rfl rfl rfl tA70 tS70 rfl rfl) <| g_u (zP (thing_q hk (thing_c v ho hw)) rfl rfl) <| zI <| zA <| zU <| zD <| zB ?_
  refine g_u (xK rfl rfl nI164 tZ164 (fun z h => by rw [zv164] at h; cases h; rfl) rfl) ?_
  refine g_u (zj rfl rfl rfl rfl) <| g_u (zj rfl rfl rfl rfl) <| zI <| zA <| yF rfl <| zD <| zB <| g_u (wo rfl rfl nI163) <| g_u (zj rfl rfl rfl rfl) <| g_u (zj rfl rfl rfl rfl) <| zI <| zA <| zg rfl <| zD <| zB <| g_u (zE rfl rfl) <| zI <| zA <| zD <| zB <| g_u (zy rfl rfl) <| g_u (zC rfl rfl) ?_
  refine g_uG (s_mcall [(3014, 20001)] (jput_c _ _ hx (by rw [zf]; omega) (by omega)) rfl rfl ⟨.inr ⟨_, rfl, rfl⟩, .inl rfl, trivial⟩ trivial rfl rfl rfl) rfl ?_
  refine g_u (yB rfl rfl) <| zI <| zA ?_
  refine aw_renTok 20001 100001 1 (xs ++ zs (vM (lst (yf (wV v))))) [(4, .slg 100001 1 (xs ++ zs (vM (lst (yf (wV v))))))] rfl rfl rfl rfl rfl rfl ⟨.inr (.inl ⟨rfl, rfl⟩), trivial⟩ (by rw [List.length_append, yQ]; simp only [vM, List.length_cons]; omega) ?_
  refine zL <| zq <| zM ?_
  exact ⟨⟨.inr ⟨_, rfl, yV rfl (by rw [jsonS hk, yO]), rfl⟩, trivial⟩, ⟨z8 rfl (by rw [jsonS hk, yO]), trivial⟩⟩
theorem bytesL_cons (c : UInt8) (l : Bs) : zs (c :: l) = .v (vF c) :: zs l := rfl
theorem bytesL_nil : zs [] = [] := rfl
theorem W1.app {a b : List AV} (h : W1 a) (k : W1 b) : W1 (a ++ b) := fun x hx => (List.mem_append.1 hx).elim (h x) (k x)
theorem lay_l (v : GV) (ho : v.ok) (hw : v.wt ≤ 10000000) (xs : List AV) (hx : W1 xs) (hl : xs.length + 150 * v.wt ≤ 5000000000) (hk : v.kind = 6) (ih : ∀ y ∈ v.list, ∀ xs : List AV, W1 xs → xs.length + 150 * y.wt ≤ 5000000000 → MCall Tryz.prog Γ0 148 [.slg 100001 1 xs, .imm y.av] [(100001, .tok 1 xs)] (.slg 100001 1 (xs ++ zs (xC y))) [(100001, .tok 1 (xs ++ zs (xC y)))]) : MCall Tryz.prog Γ0 148 [.slg 100001 1 xs, .imm v.av] [(100001, .tok 1 xs)] (.slg 100001 1 (xs ++ zs (xC v))) [(100001, .tok 1 (xs ++ zs (xC v)))] := by
  have lv := xR v.list
  have la := yi v.map
  have ek := v.wt_eq
  have ok := v.ok_iff.1 ho
  have sl := yr v
  have jl := yd v
  refine wd (rs := [.slg 100001 1 (xs ++ zs (xC v))]) Tryz.func148 rfl Tryz.ntmps148 (by kernel_rfl) rfl rfl rfl rfl rfl fun w0 I0 G0 E => ?_
  refine zD <| zB <| g_uG (zi 1003 rfl rfl rfl rfl) rfl <| g_u (zE rfl rfl) <| zI <| zA <| zD <| zD <| zB <| g_u (zG rfl rfl rfl tA70 tS70 rfl rfl) <| g_u (zP (thing_l hk (thing_c v ho hw)) rfl rfl) <| zI <| zA <| zU <| zD <| zB ?_
  refine g_u (xK rfl rfl nI164 tZ164 (fun z h => by rw [zv164] at h; cases h; rfl) rfl) ?_
  refine g_u (zj rfl rfl rfl rfl) <| g_u (zj rfl rfl rfl rfl) <| zI <| zA <| yF rfl <| zD <| zB ?_
  refine g_u (xK rfl rfl nI163 tZ163 (fun z h => by rw [zv163] at h; cases h; rfl) rfl) ?_
  refine g_u (zj rfl rfl rfl rfl) <| g_u (zj rfl rfl rfl rfl) <| zI <| zA <| yF rfl <| zD <| zB <| g_u (wo rfl rfl nI182) <| g_u (zj rfl rfl rfl rfl) <| g_u (zj rfl rfl rfl rfl) <| zI <| zA <| zg rfl <| zD <| zB <| g_u (zE rfl rfl) <| zI <| zA <| zD <| zB <| g_u (zy rfl rfl) <| g_u (za (X0 := z5) rfl Tryz.underlying42 tS5 tZ5 rfl rfl rfl rfl rfl rfl rfl rfl) ?_
  refine g_u (yA rfl rfl rfl rfl rfl Tryz.underlying42 Tryz.underlying42 tS5 zv5 rfl (by decide) by5 (by (try dsimp only); simp only [List.length_append, List.length_cons, List.length_nil]; omega) (by (try dsimp only); simp only [List.length_append, List.length_cons, List.length_nil]; omega)) ?_
  refine g_u (yB rfl rfl) <| zI <| zA <| zD <| zD <| zB <| g_u (zC rfl rfl) <| g_u (zw rfl rfl Tryz.underlying182) <| g_u (zC rfl rfl) <| zI <| zA <| zU ?_
  refine zp (fun j : Nat × List AV => [(0, .slg 100001 1 j.2), (100001, .tok 1 j.2), (33, .imm (.sl 6 (v.list.map avV))), (34, .imm (iv (v.list.length : Int))), (35, .imm (iv (j.1 : Int)))]) (fun j => j.1 ≤ v.list.length ∧ j.2 = xs ++ zs (91 :: vO true (v.list.take j.1))) (fun j => v.list.length - j.1) (⟨0, xs ++ zs [91]⟩) ?_ ⟨rfl, rfl, rfl, zZ rfl (by rw [List.length_map]), rfl, trivial⟩ ?_
  · exact ⟨Nat.zero_le _, rfl⟩
  · rintro ⟨i, ys⟩ ⟨h1, h2⟩; dsimp only at h1 h2; have hlen : ys.length ≤ xs.length + 1 + 150 * wtVs (v.list.take i) := by have := jsonVs_len (v.list.take i) true; rw [h2, List.length_append, yQ, List.length_cons]; omega
    have hwy : W1 ys := by rw [h2]; exact hx.app (W1.bytes _)
    have htk := wtVs_take v.list i
    refine zD <| zB <| g_u (yb rfl rfl rfl) <| zI <| zA <| zD ?_
    refine zW rfl (fun hb1 => ?_) (fun hb1 => ?_)
    · have hiv : i < v.list.length := by have := of_decide_eq_true hb1; simp only [List.length_map] at this; omega
      refine zY <| zA <| zD <| zU <| zD <| zB <| g_u (zC rfl rfl) ?_
      refine g_u (zJ rfl rfl rfl Tryz.underlying182 tS70 (by omega) (ixV hiv)) ?_
      refine g_u (zT rfl rfl tA70 tS70 rfl rfl) <| g_uG (zl 1009 rfl rfl rfl tZ70) rfl <| g_u (zE rfl rfl) <| g_u (zK rfl rfl rfl tS70 rfl rfl) <| zI <| zA <| zD <| zD <| zB <| g_u (zC rfl rfl) <| g_u (s_gtI rfl rfl rfl) <| zI <| zA ?_
      refine zW rfl (fun hb2 => ?_) (fun hb2 => ?_)
      · have hc : comma (i == 0) = [44] := by have hp : i ≠ 0 := (by have := of_decide_eq_true hb2; omega); rw [show (i == 0) = false from by simpa using hp]; rfl
        refine zB <| g_u (zy rfl rfl) <| g_u (za (X0 := z5) rfl Tryz.underlying42 tS5 tZ5 rfl rfl rfl rfl rfl rfl rfl rfl) ?_
        refine g_u (yA rfl rfl rfl rfl rfl Tryz.underlying42 Tryz.underlying42 tS5 zv5 rfl (by decide) by5 (by (try dsimp only); simp only [List.length_append, List.length_cons, List.length_nil]; omega) (by (try dsimp only); simp only [List.length_append, List.length_cons, List.length_nil]; omega)) ?_
        refine g_u (yB rfl rfl) <| zI <| zA <| zB <| g_u (zy rfl rfl) <| g_u (zk rfl rfl rfl tA70 tS70 rfl rfl) ?_
        refine g_uG (s_mcall [(100001, 100001)] (ih _ (nthV_mem hiv) _ (by first | exact hwy | exact hwy.app (W1.bytes [44])) (by have q1 := wa hiv; (try simp only [List.length_append, List.length_cons, List.length_nil]); omega)) rfl rfl ⟨.inl rfl, .inl rfl, trivial⟩ ⟨rfl, trivial⟩ rfl rfl rfl) rfl ?_
        refine g_u (yB rfl rfl) <| zI <| zX <| zA <| zB <| g_u (yG rfl rfl rfl) <| g_u (zC rfl rfl) <| zI <| zA ?_
        refine ⟨⟨i + 1, _⟩, ⟨hiv, ?_⟩, ⟨rfl, rfl, rfl, rfl, zZ rfl (by rw [ze (by omega) (by omega)]; rfl), trivial⟩, by dsimp only; omega⟩
        dsimp only
        rw [jsonVs_take hiv, hc]
        subst h2
        simp only [List.append_assoc, List.cons_append, List.nil_append, ← yo, bytesL_cons, bytesL_nil, wN, yO]
        try rfl
      · have hc : comma (i == 0) = [] := by have hp : i = 0 := (by have := of_decide_eq_false hb2; omega); rw [hp]; rfl
        refine zY <| zA <| zB <| g_u (zy rfl rfl) <| g_u (zk rfl rfl rfl tA70 tS70 rfl rfl) ?_
        refine g_uG (s_mcall [(100001, 100001)] (ih _ (nthV_mem hiv) _ (by first | exact hwy | exact hwy.app (W1.bytes [44])) (by have q1 := wa hiv; (try simp only [List.length_append, List.length_cons, List.length_nil]); omega)) rfl rfl ⟨.inl rfl, .inl rfl, trivial⟩ ⟨rfl, trivial⟩ rfl rfl rfl) rfl ?_
        refine g_u (yB rfl rfl) <| zI <| zX <| zA <| zB <| g_u (yG rfl rfl rfl) <| g_u (zC rfl rfl) <| zI <| zA ?_
        refine ⟨⟨i + 1, _⟩, ⟨hiv, ?_⟩, ⟨rfl, rfl, rfl, rfl, zZ rfl (by rw [ze (by omega) (by omega)]; rfl), trivial⟩, by dsimp only; omega⟩
        dsimp only
        rw [jsonVs_take hiv, hc]
        subst h2
        simp only [List.append_assoc, List.cons_append, List.nil_append, ← yo, bytesL_cons, bytesL_nil, wN, yO]
        try rfl
    · have hi : i = v.list.length := by have := of_decide_eq_false hb1; simp only [List.length_map] at this; omega
      refine zu <| zR <| zR <| zn <| zA <| zD <| zB <| g_u (zy rfl rfl) <| g_u (za (X0 := z5) rfl Tryz.underlying42 tS5 tZ5 rfl rfl rfl rfl rfl rfl rfl rfl) ?_
      refine g_u (yA rfl rfl rfl rfl rfl Tryz.underlying42 Tryz.underlying42 tS5 zv5 rfl (by decide) by5 (by (try dsimp only); simp only [List.length_append, List.length_cons, List.length_nil]; omega) (by (try dsimp only); simp only [List.length_append, List.length_cons, List.length_nil]; omega)) ?_
      refine g_u (yB rfl rfl) <| zI <| zA <| zL <| zq <| zM ?_
      exact ⟨⟨.inr ⟨_, rfl, yV rfl (by rw [json6 hk, h2, hi, List.take_of_length_le (Nat.le_refl _), List.append_assoc]; exact congrArg (xs ++ ·) (yo _ [93])), rfl⟩, trivial⟩, ⟨z8 rfl (by rw [json6 hk, h2, hi, List.take_of_length_le (Nat.le_refl _), List.append_assoc]; exact congrArg (xs ++ ·) (yo _ [93])), trivial⟩⟩
theorem lay_m (v : GV) (ho : v.ok) (hw : v.wt ≤ 10000000) (xs : List AV) (hx : W1 xs) (hl : xs.length + 150 * v.wt ≤ 5000000000) (hk : v.kind = 7) (ih : ∀ a ∈ v.map, ∀ xs : List AV, W1 xs → xs.length + 150 * a.val.wt ≤ 5000000000 → MCall Tryz.prog Γ0 148 [.slg 100001 1 xs, .imm a.val.av] [(100001, .tok 1 xs)] (.slg 100001 1 (xs ++ zs (xC a.val))) [(100001, .tok 1 (xs ++ zs (xC a.val)))]) : MCall Tryz.prog Γ0 148 [.slg 100001 1 xs, .imm v.av] [(100001, .tok 1 xs)] (.slg 100001 1 (xs ++ zs (xC v))) [(100001, .tok 1 (xs ++ zs (xC v)))] := by
  have lv := xR v.list
  have la := yi v.map
  have ek := v.wt_eq
  have ok := v.ok_iff.1 ho
  have sl := yr v
  have jl := yd v
  refine wd (rs := [.slg 100001 1 (xs ++ zs (xC v))]) Tryz.func148 rfl Tryz.ntmps148 (by kernel_rfl) rfl rfl rfl rfl rfl fun w0 I0 G0 E => ?_
  refine zD <| zB <| g_uG (zi 1003 rfl rfl rfl rfl) rfl <| g_u (zE rfl rfl) <| zI <| zA <| zD <| zD <| zB <| g_u (zG rfl rfl rfl tA70 tS70 rfl rfl) <| g_u (zP (thing_m hk (thing_c v ho hw)) rfl rfl) <| zI <| zA <| zU <| zD <| zB ?_
  refine g_u (xK rfl rfl nI164 tZ164 (fun z h => by rw [zv164] at h; cases h; rfl) rfl) ?_
  refine g_u (zj rfl rfl rfl rfl) <| g_u (zj rfl rfl rfl rfl) <| zI <| zA <| yF rfl <| zD <| zB ?_
  refine g_u (xK rfl rfl nI163 tZ163 (fun z h => by rw [zv163] at h; cases h; rfl) rfl) ?_
  refine g_u (zj rfl rfl rfl rfl) <| g_u (zj rfl rfl rfl rfl) <| zI <| zA <| yF rfl <| zD <| zB ?_
  refine g_u (xK rfl rfl nI182 tZ182 (fun z h => by rw [zv182] at h; cases h; rfl) rfl) ?_
  refine g_u (zj rfl rfl rfl rfl) <| g_u (zj rfl rfl rfl rfl) <| zI <| zA <| yF rfl <| zD <| zB <| g_u (wo rfl rfl nI183) <| g_u (zj rfl rfl rfl rfl) <| g_u (zj rfl rfl rfl rfl) <| zI <| zA <| zg rfl <| zD <| zB <| g_u (zE rfl rfl) <| zI <| zA <| zD <| zB <| g_u (zy rfl rfl) <| g_u (za (X0 := z5) rfl Tryz.underlying42 tS5 tZ5 rfl rfl rfl rfl rfl rfl rfl rfl) ?_
  refine g_u (yA rfl rfl rfl rfl rfl Tryz.underlying42 Tryz.underlying42 tS5 zv5 rfl (by decide) by5 (by (try dsimp only); (try (have q1 := yp hia; have q2 := (nthA v.map i).wt_eq; have q3 := yC (lst (nthA v.map i).key); have q4 := yH (nthA v.map i).key)); (try simp only [List.length_append, List.length_cons, List.length_nil, yQ]); omega) (by (try dsimp only); (try (have q1 := yp hia; have q2 := (nthA v.map i).wt_eq; have q3 := yC (lst (nthA v.map i).key); have q4 := yH (nthA v.map i).key)); (try simp only [List.length_append, List.length_cons, List.length_nil, yQ]); omega)) ?_
  refine g_u (yB rfl rfl) <| zI <| zA <| zD <| zD <| zB <| g_u (zC rfl rfl) <| g_u (zw rfl rfl Tryz.underlying183) <| g_u (zC rfl rfl) <| zI <| zA <| zU ?_
  refine zp (fun j : Nat × List AV => [(0, .slg 100001 1 j.2), (100001, .tok 1 j.2), (58, .imm (.sl 7 (v.map.map avA))), (59, .imm (iv (v.map.length : Int))), (60, .imm (iv (j.1 : Int)))]) (fun j => j.1 ≤ v.map.length ∧ j.2 = xs ++ zs (123 :: vL true (v.map.take j.1))) (fun j => v.map.length - j.1) (⟨0, xs ++ zs [123]⟩) ?_ ⟨rfl, rfl, rfl, zZ rfl (by rw [List.length_map]), rfl, trivial⟩ ?_
  · exact ⟨Nat.zero_le _, rfl⟩
  · rintro ⟨i, ys⟩ ⟨h1, h2⟩; dsimp only at h1 h2; have hlen : ys.length ≤ xs.length + 1 + 150 * wtAs (v.map.take i) := by have := jsonAs_len (v.map.take i) true; rw [h2, List.length_append, yQ, List.length_cons]; omega
    have hwy : W1 ys := by rw [h2]; exact hx.app (W1.bytes _)
    have htk := wtAs_take v.map i
    refine zD <| zB <| g_u (yb rfl rfl rfl) <| zI <| zA <| zD ?_
    refine zW rfl (fun hb1 => ?_) (fun hb1 => ?_)
    · have hia : i < v.map.length := by have := of_decide_eq_true hb1; simp only [List.length_map] at this; omega
      have hka : (nthA v.map i).key.size ≤ 10000000000 := by have q1 := yp hia; have q4 := (nthA v.map i).wt_eq; omega
      refine zY <| zA <| zD <| zU <| zD <| zB <| g_u (zC rfl rfl) ?_
      refine g_u (zJ rfl rfl rfl Tryz.underlying183 tS72 (by omega) (ixA hia)) ?_
      refine g_u (zT rfl rfl tA72 tS72 rfl rfl) <| g_uG (zl 1012 rfl rfl rfl tZ72) rfl <| g_u (zE rfl rfl) <| g_u (zK rfl rfl rfl tS72 rfl rfl) <| zI <| zA <| zD <| zD <| zB <| g_u (zC rfl rfl) <| g_u (s_gtI rfl rfl rfl) <| zI <| zA ?_
      refine zW rfl (fun hb2 => ?_) (fun hb2 => ?_)
      · have hc : comma (i == 0) = [44] := by have hp : i ≠ 0 := (by have := of_decide_eq_true hb2; omega); rw [show (i == 0) = false from by simpa using hp]; rfl
        refine zB <| g_u (zy rfl rfl) <| g_u (za (X0 := z5) rfl Tryz.underlying42 tS5 tZ5 rfl rfl rfl rfl rfl rfl rfl rfl) ?_
        refine g_u (yA rfl rfl rfl rfl rfl Tryz.underlying42 Tryz.underlying42 tS5 zv5 rfl (by decide) by5 (by (try dsimp only); (try (have q1 := yp hia; have q2 := (nthA v.map i).wt_eq; have q3 := yC (lst (nthA v.map i).key); have q4 := yH (nthA v.map i).key)); (try simp only [List.length_append, List.length_cons, List.length_nil, yQ]); omega) (by (try dsimp only); (try (have q1 := yp hia; have q2 := (nthA v.map i).wt_eq; have q3 := yC (lst (nthA v.map i).key); have q4 := yH (nthA v.map i).key)); (try simp only [List.length_append, List.length_cons, List.length_nil, yQ]); omega)) ?_
        refine g_u (yB rfl rfl) <| zI <| zA <| yE yt <| g_u (zy rfl rfl) <| g_u (zF rfl rfl wh rfl) <| g_u (zG rfl rfl rfl tA9 tS9 rfl rfl) ?_
        refine g_uG (s_mcall [(3014, 20001)] (jput_c _ _ (by first | exact hwy | exact hwy.app (W1.bytes [44])) hka (by have q1 := yp hia; have q2 := (nthA v.map i).wt_eq; have q3 := yC (lst (nthA v.map i).key); have q4 := yH (nthA v.map i).key; (try simp only [List.length_append, List.length_cons, List.length_nil, yQ]); omega)) rfl rfl ⟨.inr ⟨_, rfl, rfl⟩, .inl rfl, trivial⟩ trivial rfl rfl rfl) rfl ?_
        refine g_u (za (X0 := z5) rfl Tryz.underlying42 tS5 tZ5 rfl rfl rfl rfl rfl rfl rfl rfl) ?_
        refine g_u (yA rfl rfl rfl rfl rfl Tryz.underlying42 Tryz.underlying42 tS5 zv5 rfl (by decide) by5 (by (try dsimp only); (try (have q1 := yp hia; have q2 := (nthA v.map i).wt_eq; have q3 := yC (lst (nthA v.map i).key); have q4 := yH (nthA v.map i).key)); (try simp only [List.length_append, List.length_cons, List.length_nil, yQ]); omega) (by (try dsimp only); (try (have q1 := yp hia; have q2 := (nthA v.map i).wt_eq; have q3 := yC (lst (nthA v.map i).key); have q4 := yH (nthA v.map i).key)); (try simp only [List.length_append, List.length_cons, List.length_nil, yQ]); omega)) ?_
        refine g_u (zF rfl rfl fa72_1 rfl) <| g_u (zG rfl rfl rfl tA70 tS70 rfl rfl) ?_
        refine g_uG (s_mcall [(100001, 20001)] (ih _ (wL hia) _ (by first | exact ((hwy.app (W1.bytes _)).app (W1.bytes [58])) | exact (((hwy.app (W1.bytes [44])).app (W1.bytes _)).app (W1.bytes [58]))) (by show _ + 150 * (nthA v.map i).val.wt ≤ 5000000000; have q1 := yp hia; have q2 := (nthA v.map i).wt_eq; have q3 := yC (lst (nthA v.map i).key); have q4 := yH (nthA v.map i).key; (try simp only [List.length_append, List.length_cons, List.length_nil, yQ]); omega)) rfl rfl ⟨.inl rfl, .inl rfl, trivial⟩ ⟨rfl, trivial⟩ rfl rfl rfl) rfl ?_
        refine g_u (yB rfl rfl) ?_
        refine zI ⟨by kernel_rfl, ?_⟩
        refine zX <| zA ?_
        refine aw_renTok 20001 100001 1 _ [(0, .slg 100001 1 _), (58, .imm (.sl 7 (v.map.map avA))), (59, .imm (iv (v.map.length : Int))), (60, .imm (iv (i : Int)))] rfl rfl rfl rfl rfl rfl ⟨.inr (.inl ⟨rfl, rfl⟩), .inl ⟨rfl, rfl⟩, .inl ⟨rfl, rfl⟩, .inl ⟨rfl, rfl⟩, trivial⟩ (by simp only [List.length_append, List.length_cons, List.length_nil, yQ]; omega) ?_
        refine zB <| g_u (yG rfl rfl rfl) <| g_u (zC rfl rfl) <| zI <| zA ?_
        refine ⟨⟨i + 1, _⟩, ⟨hia, ?_⟩, ⟨rfl, rfl, rfl, rfl, zZ rfl (by rw [ze (by omega) (by omega)]; rfl), trivial⟩, by dsimp only; omega⟩
        dsimp only
        rw [jsonAs_take hia, hc, jsonA_eq]
        subst h2
        simp only [List.append_assoc, List.cons_append, List.nil_append, ← yo, bytesL_cons, bytesL_nil, wN, yO]
        try rfl
      · have hc : comma (i == 0) = [] := by have hp : i = 0 := (by have := of_decide_eq_false hb2; omega); rw [hp]; rfl
        refine zY <| zA <| yE yt <| g_u (zy rfl rfl) <| g_u (zF rfl rfl wh rfl) <| g_u (zG rfl rfl rfl tA9 tS9 rfl rfl) ?_
        refine g_uG (s_mcall [(3014, 20002)] (jput_c _ _ (by first | exact hwy | exact hwy.app (W1.bytes [44])) hka (by have q1 := yp hia; have q2 := (nthA v.map i).wt_eq; have q3 := yC (lst (nthA v.map i).key); have q4 := yH (nthA v.map i).key; (try simp only [List.length_append, List.length_cons, List.length_nil, yQ]); omega)) rfl rfl ⟨.inr ⟨_, rfl, rfl⟩, .inl rfl, trivial⟩ trivial rfl rfl rfl) rfl ?_
        refine g_u (za (X0 := z5) rfl Tryz.underlying42 tS5 tZ5 rfl rfl rfl rfl rfl rfl rfl rfl) ?_
        refine g_u (yA rfl rfl rfl rfl rfl Tryz.underlying42 Tryz.underlying42 tS5 zv5 rfl (by decide) by5 (by (try dsimp only); (try (have q1 := yp hia; have q2 := (nthA v.map i).wt_eq; have q3 := yC (lst (nthA v.map i).key); have q4 := yH (nthA v.map i).key)); (try simp only [List.length_append, List.length_cons, List.length_nil, yQ]); omega) (by (try dsimp only); (try (have q1 := yp hia; have q2 := (nthA v.map i).wt_eq; have q3 := yC (lst (nthA v.map i).key); have q4 := yH (nthA v.map i).key)); (try simp only [List.length_append, List.length_cons, List.length_nil, yQ]); omega)) ?_
        refine g_u (zF rfl rfl fa72_1 rfl) <| g_u (zG rfl rfl rfl tA70 tS70 rfl rfl) ?_
        refine g_uG (s_mcall [(100001, 20002)] (ih _ (wL hia) _ (by first | exact ((hwy.app (W1.bytes _)).app (W1.bytes [58])) | exact (((hwy.app (W1.bytes [44])).app (W1.bytes _)).app (W1.bytes [58]))) (by show _ + 150 * (nthA v.map i).val.wt ≤ 5000000000; have q1 := yp hia; have q2 := (nthA v.map i).wt_eq; have q3 := yC (lst (nthA v.map i).key); have q4 := yH (nthA v.map i).key; (try simp only [List.length_append, List.length_cons, List.length_nil, yQ]); omega)) rfl rfl ⟨.inl rfl, .inl rfl, trivial⟩ ⟨rfl, trivial⟩ rfl rfl rfl) rfl ?_
        refine g_u (yB rfl rfl) ?_
        refine zI ⟨by kernel_rfl, ?_⟩
        refine zX <| zA ?_
        refine aw_renTok 20002 100001 1 _ [(0, .slg 100001 1 _), (58, .imm (.sl 7 (v.map.map avA))), (59, .imm (iv (v.map.length : Int))), (60, .imm (iv (i : Int)))] rfl rfl rfl rfl rfl rfl ⟨.inr (.inl ⟨rfl, rfl⟩), .inl ⟨rfl, rfl⟩, .inl ⟨rfl, rfl⟩, .inl ⟨rfl, rfl⟩, trivial⟩ (by simp only [List.length_append, List.length_cons, List.length_nil, yQ]; omega) ?_
        refine zB <| g_u (yG rfl rfl rfl) <| g_u (zC rfl rfl) <| zI <| zA ?_
        refine ⟨⟨i + 1, _⟩, ⟨hia, ?_⟩, ⟨rfl, rfl, rfl, rfl, zZ rfl (by rw [ze (by omega) (by omega)]; rfl), trivial⟩, by dsimp only; omega⟩
        dsimp only
        rw [jsonAs_take hia, hc, jsonA_eq]
        subst h2
        simp only [List.append_assoc, List.cons_append, List.nil_append, ← yo, bytesL_cons, bytesL_nil, wN, yO]
        try rfl
    · have hi : i = v.map.length := by have := of_decide_eq_false hb1; simp only [List.length_map] at this; omega
      refine zu <| zR <| zR <| zn <| zA <| zD <| zB <| g_u (zy rfl rfl) <| g_u (za (X0 := z5) rfl Tryz.underlying42 tS5 tZ5 rfl rfl rfl rfl rfl rfl rfl rfl) ?_
      refine g_u (yA rfl rfl rfl rfl rfl Tryz.underlying42 Tryz.underlying42 tS5 zv5 rfl (by decide) by5 (by (try dsimp only); (try (have q1 := yp hia; have q2 := (nthA v.map i).wt_eq; have q3 := yC (lst (nthA v.map i).key); have q4 := yH (nthA v.map i).key)); (try simp only [List.length_append, List.length_cons, List.length_nil, yQ]); omega) (by (try dsimp only); (try (have q1 := yp hia; have q2 := (nthA v.map i).wt_eq; have q3 := yC (lst (nthA v.map i).key); have q4 := yH (nthA v.map i).key)); (try simp only [List.length_append, List.length_cons, List.length_nil, yQ]); omega)) ?_
      refine g_u (yB rfl rfl) <| zI <| zA <| zL <| zq <| zM ?_
      exact ⟨⟨.inr ⟨_, rfl, yV rfl (by rw [json7 hk, h2, hi, List.take_of_length_le (Nat.le_refl _), List.append_assoc]; exact congrArg (xs ++ ·) (yo _ [125])), rfl⟩, trivial⟩, ⟨z8 rfl (by rw [json7 hk, h2, hi, List.take_of_length_le (Nat.le_refl _), List.append_assoc]; exact congrArg (xs ++ ·) (yo _ [125])), trivial⟩⟩
theorem lay_c (v : GV) : v.ok → v.wt ≤ 10000000 → ∀ xs : List AV, W1 xs → xs.length + 150 * v.wt ≤ 5000000000 → MCall Tryz.prog Γ0 148 [.slg 100001 1 xs, .imm v.av] [(100001, .tok 1 xs)] (.slg 100001 1 (xs ++ zs (xC v))) [(100001, .tok 1 (xs ++ zs (xC v)))] := by
  refine GV.ind (P := fun v => v.ok → v.wt ≤ 10000000 → ∀ xs : List AV, W1 xs → xs.length + 150 * v.wt ≤ 5000000000 → MCall Tryz.prog Γ0 148 [.slg 100001 1 xs, .imm v.av] [(100001, .tok 1 xs)] (.slg 100001 1 (xs ++ zs (xC v))) [(100001, .tok 1 (xs ++ zs (xC v)))]) ?_ v
  intro v h1 h2 ho hw xs hx hl
  have ok := v.ok_iff.1 ho
  have ek := v.wt_eq
  by_cases h6 : v.kind = 6
  · exact lay_l v ho hw xs hx hl h6 fun y hy ys hy1 hy2 => h1 y hy (ok.2.2.2.2.1 y hy) (by have := wtVs_mem hy; omega) ys hy1 hy2
  by_cases h7 : v.kind = 7
  · exact lay_m v ho hw xs hx hl h7 fun a ha ys hy1 hy2 => h2 a ha ((GA.ok_iff a).1 (ok.2.2.2.2.2 a ha)).2 (by have := xa ha; have := a.wt_eq; omega) ys hy1 hy2
  by_cases hq : v.kind = 1 ∨ v.kind = 4 ∨ v.kind = 5
  · exact lay_q v ho hw xs hx hl hq
  · exact lay_p v ho hw xs hx hl (by omega)
theorem json_c (v : GV) (ho : v.ok) (hw : v.wt ≤ 10000000) : zo Tryz.prog Γ0 121 [v.av] [sv (yf (xC v))] := by
  have lv := xR v.list
  have la := yi v.map
  have ek := v.wt_eq
  have ok := v.ok_iff.1 ho
  have sl := yr v
  have jl := yd v
  refine z_ Tryz.func121 rfl Tryz.ntmps121 (by kernel_rfl) rfl fun w0 I0 G0 => ?_
  refine zD <| zB <| g_uG (zi 1001 rfl rfl rfl rfl) rfl <| g_u (zE rfl rfl) <| zI <| zA <| zD <| zB <| g_u (zG rfl rfl rfl tA70 tS70 rfl rfl) ?_
  refine g_u (zP (pcall_nil (n := 1) (xs := [v.av]) (lay_c v ho hw [] (fun x hx => by cases hx) (by simp only [List.length_nil]; omega))) rfl rfl) ?_
  refine g_u (s_cvBS' (rfl) rfl rfl Tryz.underlying42 Tryz.underlying9 Tryz.underlying5) <| g_u (zE rfl rfl) <| zI <| zA <| zL ?_
  exact ⟨⟨(rfl : toAV (Al.look _ _) = some _).trans (congrArg some (by rfl)), rfl⟩, trivial⟩
theorem text_q (v : GV) (ho : v.ok) (hw : v.wt ≤ 10000000) (hk : v.kind = 1 ∨ v.kind = 4 ∨ v.kind = 5) : zo Tryz.prog Γ0 88 [v.av] [sv (textM v)] := by
  have lv := xR v.list
  have la := yi v.map
  have ek := v.wt_eq
  have ok := v.ok_iff.1 ho
  have sl := yr v
  have jl := yd v
  refine z_ Tryz.func88 rfl Tryz.ntmps88 (by kernel_rfl) rfl fun w0 I0 G0 => ?_
  refine zD <| zB <| g_uG (zi 1001 rfl rfl rfl rfl) rfl <| g_u (zE rfl rfl) <| zI <| zA <| zD <| zD <| zB <| g_u (zG rfl rfl rfl tA70 tS70 rfl rfl) <| g_u (zP (thing_q hk (thing_c v ho hw)) rfl rfl) <| zI <| zA <| zU <| zD <| zB <| g_u (wo rfl rfl nI163) <| g_u (zj rfl rfl rfl rfl) <| g_u (zj rfl rfl rfl rfl) <| zI <| zA <| zg rfl <| zD <| zB <| g_u (zE rfl rfl) <| zI <| zA <| zD <| zB <| g_u (zC rfl rfl) <| g_u (zE rfl rfl) <| zI <| zA <| zL <| zq <| zM ?_
  exact ⟨⟨(rfl : toAV (Al.look _ _) = some _).trans (congrArg some (by (rw [textE (by omega)]))), rfl⟩, trivial⟩
theorem text_p (v : GV) (ho : v.ok) (hw : v.wt ≤ 10000000) (hk : v.kind ≠ 1 ∧ v.kind ≠ 4 ∧ v.kind ≠ 5 ∧ v.kind ≠ 6 ∧ v.kind ≠ 7) : zo Tryz.prog Γ0 88 [v.av] [sv (textM v)] := by
  have lv := xR v.list
  have la := yi v.map
  have ek := v.wt_eq
  have ok := v.ok_iff.1 ho
  have sl := yr v
  have jl := yd v
  refine z_ Tryz.func88 rfl Tryz.ntmps88 (by kernel_rfl) rfl fun w0 I0 G0 => ?_
  refine zD <| zB <| g_uG (zi 1001 rfl rfl rfl rfl) rfl <| g_u (zE rfl rfl) <| zI <| zA <| zD <| zD <| zB <| g_u (zG rfl rfl rfl tA70 tS70 rfl rfl) <| g_u (zP (thing_p hk (thing_c v ho hw)) rfl rfl) <| zI <| zA <| zU <| zD <| zB ?_
  refine g_u (xK rfl rfl nI163 tZ163 (fun z h => by rw [zv163] at h; cases h; rfl) rfl) ?_
  refine g_u (zj rfl rfl rfl rfl) <| g_u (zj rfl rfl rfl rfl) <| zI <| zA <| yF rfl <| zD <| zB <| g_u (wo rfl rfl nI164) <| g_u (zj rfl rfl rfl rfl) <| g_u (zj rfl rfl rfl rfl) <| zI <| zA <| zg rfl <| zD <| zB <| g_u (zE rfl rfl) <| zI <| zA <| zD <| zD <| zB <| g_u (zF rfl rfl xf rfl) <| g_u (zG rfl rfl rfl tA5 tS5 rfl rfl) <| g_u (y6 rfl rfl rfl) <| zI <| zA ?_
  refine zW rfl (fun hb1 => ?_) (fun hb1 => ?_)
  · refine zD ?_
    refine zB <| g_u (zE rfl rfl) <| zI <| zA <| zL <| zM <| zq <| zM ?_
    exact ⟨⟨(rfl : toAV (Al.look _ _) = some _).trans (congrArg some (by (simp only [beq_iff_eq, qe, ne_eq, decide_eq_true_eq, qb] at *; rw [textE (by omega), simp6 (by omega)]; rfl))), rfl⟩, trivial⟩
  · refine zY ?_
    refine zA <| zD <| zB <| g_u (zC rfl rfl) <| g_u (zE rfl rfl) <| zI <| zA <| zL <| zq <| zM ?_
    exact ⟨⟨(rfl : toAV (Al.look _ _) = some _).trans (congrArg some (by (simp only [beq_iff_eq, qe, ne_eq, decide_eq_true_eq, qb] at *; rw [textE (by omega), jsonE (by omega)]))), rfl⟩, trivial⟩
theorem text_l (v : GV) (ho : v.ok) (hw : v.wt ≤ 10000000) (hk : v.kind = 6) : zo Tryz.prog Γ0 88 [v.av] [sv (textM v)] := by
  have lv := xR v.list
  have la := yi v.map
  have ek := v.wt_eq
  have ok := v.ok_iff.1 ho
  have sl := yr v
  have jl := yd v
  refine z_ Tryz.func88 rfl Tryz.ntmps88 (by kernel_rfl) rfl fun w0 I0 G0 => ?_
  refine zD <| zB <| g_uG (zi 1001 rfl rfl rfl rfl) rfl <| g_u (zE rfl rfl) <| zI <| zA <| zD <| zD <| zB <| g_u (zG rfl rfl rfl tA70 tS70 rfl rfl) <| g_u (zP (thing_l hk (thing_c v ho hw)) rfl rfl) <| zI <| zA <| zU <| zD <| zB ?_
  refine g_u (xK rfl rfl nI163 tZ163 (fun z h => by rw [zv163] at h; cases h; rfl) rfl) ?_
  refine g_u (zj rfl rfl rfl rfl) <| g_u (zj rfl rfl rfl rfl) <| zI <| zA <| yF rfl <| zD <| zB ?_
  refine g_u (xK rfl rfl nI164 tZ164 (fun z h => by rw [zv164] at h; cases h; rfl) rfl) ?_
  refine g_u (zj rfl rfl rfl rfl) <| g_u (zj rfl rfl rfl rfl) <| zI <| zA <| yF rfl <| zY <| zX <| zA <| zD <| zB <| g_u (zG rfl rfl rfl tA70 tS70 rfl rfl) <| g_u (zP (json_c v ho hw) rfl rfl) <| g_u (zE rfl rfl) <| zI <| zA <| zL ?_
  exact ⟨⟨(rfl : toAV (Al.look _ _) = some _).trans (congrArg some (by (rw [text6 (by omega)]))), rfl⟩, trivial⟩
theorem text_m (v : GV) (ho : v.ok) (hw : v.wt ≤ 10000000) (hk : v.kind = 7) : zo Tryz.prog Γ0 88 [v.av] [sv (textM v)] := by
  have lv := xR v.list
  have la := yi v.map
  have ek := v.wt_eq
  have ok := v.ok_iff.1 ho
  have sl := yr v
  have jl := yd v
  refine z_ Tryz.func88 rfl Tryz.ntmps88 (by kernel_rfl) rfl fun w0 I0 G0 => ?_
  refine zD <| zB <| g_uG (zi 1001 rfl rfl rfl rfl) rfl <| g_u (zE rfl rfl) <| zI <| zA <| zD <| zD <| zB <| g_u (zG rfl rfl rfl tA70 tS70 rfl rfl) <| g_u (zP (thing_m hk (thing_c v ho hw)) rfl rfl) <| zI <| zA <| zU <| zD <| zB ?_
  refine g_u (xK rfl rfl nI163 tZ163 (fun z h => by rw [zv163] at h; cases h; rfl) rfl) ?_
  refine g_u (zj rfl rfl rfl rfl) <| g_u (zj rfl rfl rfl rfl) <| zI <| zA <| yF rfl <| zD <| zB ?_
  refine g_u (xK rfl rfl nI164 tZ164 (fun z h => by rw [zv164] at h; cases h; rfl) rfl) ?_
  refine g_u (zj rfl rfl rfl rfl) <| g_u (zj rfl rfl rfl rfl) <| zI <| zA <| yF rfl <| zY <| zX <| zA <| zD <| zB <| g_u (zG rfl rfl rfl tA70 tS70 rfl rfl) <| g_u (zP (json_c v ho hw) rfl rfl) <| g_u (zE rfl rfl) <| zI <| zA <| zL ?_
  exact ⟨⟨(rfl : toAV (Al.look _ _) = some _).trans (congrArg some (by (rw [text6 (by omega)]))), rfl⟩, trivial⟩
theorem text_c (v : GV) (ho : v.ok) (hw : v.wt ≤ 10000000) : zo Tryz.prog Γ0 88 [v.av] [sv (textM v)] := by
  by_cases h6 : v.kind = 6
  · exact text_l v ho hw h6
  by_cases h7 : v.kind = 7
  · exact text_m v ho hw h7
  by_cases hq : v.kind = 1 ∨ v.kind = 4 ∨ v.kind = 5
  · exact text_q v ho hw hq
  · exact text_p v ho hw (by omega)
end Go.Proofs
namespace Go.Proofs
open Go Go.Al
set_option maxRecDepth 10000
theorem leftV_st (v : GV) (n : Int) (hn : -1 ≤ n ∧ n ≤ 1000000000) (ih : ∀ y ∈ v.list, ∀ n : Int, -1 ≤ n ∧ n ≤ 1000000000 → zo Tryz.prog Γ0 45 [y.av, iv n] [iv (leftV y n)]) (ihm : ∀ n : Int, -1 ≤ n ∧ n ≤ 1000000000 → zo Tryz.prog Γ0 22 [.sl 7 (v.map.map avA), iv n] [iv (yT v.map n)]) : zo Tryz.prog Γ0 45 [v.av, iv n] [iv (leftV v n)] := by
  have ek := v.wt_eq
  refine z_ Tryz.func45 rfl Tryz.ntmps45 (by kernel_rfl) rfl fun w0 I0 G0 => ?_
  refine zD <| zB <| g_uG (zi 1002 rfl rfl rfl rfl) rfl <| g_u (zE rfl rfl) <| zI <| zA <| zD <| zD <| zB <| g_u (zC rfl rfl) <| g_u (yb rfl rfl rfl) <| g_u (zC rfl rfl) <| z0 (t := 8) rfl ?_
  rintro (hb1 | hb1)
  · rw [hb1]
    have hn0 : n < 0 := of_decide_eq_true hb1
    refine zH rfl rfl rfl <| zH rfl rfl rfl <| zH rfl rfl rfl <| zH rfl rfl rfl <| zH rfl rfl rfl <| g_u (zQ rfl rfl rfl) <| zI <| zA <| zg rfl <| zD <| zB <| g_u (zE rfl rfl) <| zI <| zA <| zL <| zM ?_
    exact ⟨⟨(rfl : toAV (Al.look _ _) = some _).trans (congrArg some (by (exact congrArg iv (by rw [leftV_F, if_pos hn0])))), rfl⟩, trivial⟩
  · rw [hb1]
    have hn0 : ¬ n < 0 := of_decide_eq_false hb1
    refine zN rfl rfl (zF rfl rfl fa70_1 rfl) <| zN rfl rfl (zG rfl rfl rfl tA9 tS9 rfl rfl) <| zN rfl rfl (xe rfl rfl Tryz.underlying9) <| zN rfl rfl (zC rfl rfl) <| zN rfl rfl (s_gtI rfl rfl rfl) <| g_u (zh rfl rfl rfl) <| zI <| zA ?_
    refine zW rfl (fun hb2 => ?_) (fun hb2 => ?_)
    · have ht0 : (v.text.size : Int) > n := of_decide_eq_true hb2
      refine zD <| zB <| g_u (zE rfl rfl) <| zI <| zA <| zL <| zM ?_
      exact ⟨⟨(rfl : toAV (Al.look _ _) = some _).trans (congrArg some (by (exact congrArg iv (by rw [leftV_F, if_neg hn0]; unfold leftF; rw [if_neg (by omega)])))), rfl⟩, trivial⟩
    · have ht0 : ¬ (v.text.size : Int) > n := of_decide_eq_false hb2
      have hL : -1 ≤ n - 1 - v.text.size := by omega
      refine zY <| zA <| zD <| zB <| g_u (zC rfl rfl) <| g_u (s_sub rfl rfl rfl) <| g_u (zF rfl rfl fa70_1 rfl) <| g_u (zG rfl rfl rfl tA9 tS9 rfl rfl) <| g_u (xe rfl rfl Tryz.underlying9) <| g_u (s_sub rfl rfl rfl) <| g_u (zE rfl rfl) <| zI <| zA <| zD <| zD <| zB <| g_u (zE rfl rfl) <| zI <| zA <| zU ?_
      refine zp (fun i : Nat => [(2, .ptr 1002 0), (1002, .box 70 (.imm v.av)), (1, .imm (iv (leftF (n - 1 - v.text.size) (wtVs (v.list.take i))))), (5, .imm (iv (i : Int)))]) (fun i => i ≤ v.list.length) (fun i => v.list.length - i) (0) ?_ ⟨rfl, rfl, zZ rfl (by rw [show wtVs (v.list.take 0) = 0 from rfl, leftF_zero hL, ze (n := n - 1) (by omega) (by omega), ze (by omega) (by omega)]), rfl, trivial⟩ ?_
      · exact Nat.zero_le _
      · rintro i h1; have h1 : i ≤ v.list.length := h1; have bd := leftF_bd hL (wtVs (v.list.take i))
        refine zD <| zD <| zB <| g_u (zC rfl rfl) <| g_u (zF rfl rfl fa70_4 rfl) <| g_u (zG rfl rfl rfl tA68 tS68 rfl rfl) <| g_u (zw rfl rfl Tryz.underlying68) <| g_u (yb rfl rfl rfl) <| g_u (zC rfl rfl) <| z0 (t := 26) rfl ?_
        rintro (hb3 | hb3)
        · rw [hb3]
          have hiv : i < v.list.length := by have := of_decide_eq_true hb3; (try simp only [List.length_map] at this); omega
          refine zN rfl rfl (zC rfl rfl) <| zN rfl rfl (s_geI rfl rfl rfl) <| g_u (zQ rfl rfl rfl) <| zI <| zA ?_
          refine zW rfl (fun hb4 => ?_) (fun hb4 => ?_)
          · have hs : 0 ≤ leftF (n - 1 - v.text.size) (wtVs (v.list.take i)) := of_decide_eq_true hb4
            have hi9 := leftV_len hs h1
            refine zY <| zA <| zD <| zU <| zB <| g_u (zF rfl rfl fa70_4 rfl) <| g_u (zG rfl rfl rfl tA68 tS68 rfl rfl) <| g_u (zC rfl rfl) ?_
            refine g_u (zJ rfl rfl rfl Tryz.underlying68 tS70 (by omega) (ixV hiv)) ?_
            refine g_u (zT rfl rfl tA70 tS70 rfl rfl) <| g_u (zC rfl rfl) ?_
            refine g_u (zP (ih _ (nthV_mem hiv) _ ⟨bd.1, by have := bd.2; omega⟩) rfl rfl) ?_
            refine g_u (zE rfl rfl) <| zI <| zX <| zA <| zB <| g_u (zC rfl rfl) <| g_u (yG rfl rfl rfl) <| g_u (zE rfl rfl) <| zI <| zA ?_
            refine ⟨i + 1, hiv, ⟨rfl, rfl, zZ rfl (leftV_step hiv hs), zZ rfl (by rw [ze (by omega) (by omega)]; rfl), trivial⟩, by (try dsimp only); omega⟩
          · have hs : ¬ 0 ≤ leftF (n - 1 - v.text.size) (wtVs (v.list.take i)) := of_decide_eq_false hb4
            refine zu <| zR <| zR <| zn <| zA <| zD <| zB <| g_u (zF rfl rfl fa70_5 rfl) <| g_u (zG rfl rfl rfl tA44 tS44 rfl rfl) <| g_u (zC rfl rfl) ?_
            refine g_u (zP (ihm _ ⟨bd.1, by have := bd.2; omega⟩) rfl rfl) ?_
            refine g_u (zE rfl rfl) <| zI <| zA <| zL ?_
            exact ⟨⟨(rfl : toAV (Al.look _ _) = some _).trans (congrArg some (by (exact congrArg iv (leftV_fin hn0 ht0 (by first | exact .inl hivn | exact .inr (by omega)))))), rfl⟩, trivial⟩
        · rw [hb3]
          have hivn : i = v.list.length := by have := of_decide_eq_false hb3; (try simp only [List.length_map] at this); omega
          refine zH rfl rfl rfl <| zH rfl rfl rfl <| g_u (zh rfl rfl rfl) <| zI <| zA <| yF rfl <| zu <| zR <| zR <| zn <| zA <| zD <| zB <| g_u (zF rfl rfl fa70_5 rfl) <| g_u (zG rfl rfl rfl tA44 tS44 rfl rfl) <| g_u (zC rfl rfl) ?_
          refine g_u (zP (ihm _ ⟨bd.1, by have := bd.2; omega⟩) rfl rfl) ?_
          refine g_u (zE rfl rfl) <| zI <| zA <| zL ?_
          exact ⟨⟨(rfl : toAV (Al.look _ _) = some _).trans (congrArg some (by (exact congrArg iv (leftV_fin hn0 ht0 (by first | exact .inl hivn | exact .inr (by omega)))))), rfl⟩, trivial⟩
theorem leftAs_st (l : List GA) (n : Int) (hn : -1000000000000 ≤ n ∧ n ≤ 1000000000) (ih : ∀ a ∈ l, ∀ n : Int, -1 ≤ n ∧ n ≤ 1000000000 → zo Tryz.prog Γ0 45 [a.val.av, iv n] [iv (leftV a.val n)]) : zo Tryz.prog Γ0 22 [.sl 7 (l.map avA), iv n] [iv (yT l n)] := by
  refine z_ Tryz.func22 rfl Tryz.ntmps22 (by kernel_rfl) rfl fun w0 I0 G0 => ?_
  refine zD <| zB <| g_u (zE rfl rfl) <| zI <| zA <| zD <| zD <| zB <| g_u (zE rfl rfl) <| zI <| zA <| zU ?_
  refine zp (fun i : Nat => [(0, .imm (.sl 7 (l.map avA))), (1, .imm (iv (yT (l.take i) n))), (5, .imm (iv (i : Int)))]) (fun i => i ≤ l.length) (fun i => l.length - i) (0) ?_ ⟨rfl, zZ rfl (leftAs_zero l).symm, rfl, trivial⟩ ?_
  · exact Nat.zero_le _
  · rintro i h1; have h1 : i ≤ l.length := h1; have bd := wJ (l.take i) n
    refine zD <| zD <| zB <| g_u (zC rfl rfl) <| g_u (zC rfl rfl) <| g_u (zw rfl rfl Tryz.underlying44) <| g_u (yb rfl rfl rfl) <| g_u (zC rfl rfl) <| z0 (t := 10) rfl ?_
    rintro (hb1 | hb1)
    · rw [hb1]
      have hia : i < l.length := by have := of_decide_eq_true hb1; (try simp only [List.length_map] at this); omega
      refine zN rfl rfl (zC rfl rfl) <| zN rfl rfl (s_geI rfl rfl rfl) <| g_u (zQ rfl rfl rfl) <| zI <| zA ?_
      refine zW rfl (fun hb2 => ?_) (fun hb2 => ?_)
      · have hs : 0 ≤ yT (l.take i) n := of_decide_eq_true hb2
        have hi9 := leftAs_len hs h1
        refine zY <| zA <| zD <| zU <| zD <| zD <| zB <| g_u (zC rfl rfl) <| g_u (zC rfl rfl) ?_
        refine g_u (zJ rfl rfl rfl Tryz.underlying44 tS72 (by omega) (ixA hia)) ?_
        refine g_u (zV rfl rfl wh rfl rfl) <| g_u (zT rfl rfl tA9 tS9 rfl rfl) <| g_u (xe rfl rfl Tryz.underlying9) <| g_u (zC rfl rfl) <| g_u (s_gtI rfl rfl rfl) <| zI <| zA ?_
        refine zW rfl (fun hb3 => ?_) (fun hb3 => ?_)
        · have hk : ((nthA l i).key.size : Int) > yT (l.take i) n := of_decide_eq_true hb3
          refine zD <| zB <| g_u (zE rfl rfl) <| zI <| zA <| zL <| zM <| zq <| zM <| zM <| zq <| zM ?_
          exact ⟨⟨(rfl : toAV (Al.look _ _) = some _).trans (congrArg some (by (exact congrArg iv (leftAs_out hia hs hk)))), rfl⟩, trivial⟩
        · have hk : ¬ ((nthA l i).key.size : Int) > yT (l.take i) n := of_decide_eq_false hb3
          have ew : IntKind.i64.wrap (yT (l.take i) n - (nthA l i).key.size) = yT (l.take i) n - (nthA l i).key.size := ze (by omega) (by omega)
          refine zY <| zA <| yE yt <| g_u (zC rfl rfl) <| g_u (zC rfl rfl) ?_
          refine g_u (zJ rfl rfl rfl Tryz.underlying44 tS72 (by omega) (ixA hia)) ?_
          refine g_u (zV rfl rfl fa72_1 rfl rfl) <| g_u (zT rfl rfl tA70 tS70 rfl rfl) <| g_u (zC rfl rfl) <| g_u (zC rfl rfl) <| g_u (zC rfl rfl) ?_
          refine g_u (zJ rfl rfl rfl Tryz.underlying44 tS72 (by omega) (ixA hia)) ?_
          refine g_u (zV rfl rfl wh rfl rfl) <| g_u (zT rfl rfl tA9 tS9 rfl rfl) <| g_u (xe rfl rfl Tryz.underlying9) <| g_u (s_sub rfl rfl rfl) ?_
          refine g_u (zP ((show zo Tryz.prog Γ0 45 [(nthA l i).val.av, iv (IntKind.i64.wrap (yT (l.take i) n - (nthA l i).key.size))] [iv (leftV (nthA l i).val (yT (l.take i) n - (nthA l i).key.size))] from by rw [ew]; exact ih _ (wL hia) _ ⟨by omega, by omega⟩)) rfl rfl) ?_
          refine g_u (zE rfl rfl) ?_
          refine zI ⟨by kernel_rfl, ?_⟩
          refine zX <| zA <| zB <| g_u (zC rfl rfl) <| g_u (yG rfl rfl rfl) <| g_u (zE rfl rfl) <| zI <| zA ?_
          refine ⟨i + 1, hia, ⟨rfl, zZ rfl (leftAs_step hia hs hk), zZ rfl (by rw [ze (by omega) (by omega)]; rfl), trivial⟩, by (try dsimp only); omega⟩
      · have hs : ¬ 0 ≤ yT (l.take i) n := of_decide_eq_false hb2
        refine zu <| zR <| zR <| zn <| zA <| zD <| zB <| g_u (zC rfl rfl) <| g_u (zE rfl rfl) <| zI <| zA <| zL ?_
        exact ⟨⟨(rfl : toAV (Al.look _ _) = some _).trans (congrArg some (by (exact congrArg iv (leftAs_fin (by first | exact .inl hian | exact .inr (by omega)))))), rfl⟩, trivial⟩
    · rw [hb1]
      have hian : i = l.length := by have := of_decide_eq_false hb1; (try simp only [List.length_map] at this); omega
      refine zH rfl rfl rfl <| zH rfl rfl rfl <| g_u (zh rfl rfl rfl) <| zI <| zA <| yF rfl <| zu <| zR <| zR <| zn <| zA <| zD <| zB <| g_u (zC rfl rfl) <| g_u (zE rfl rfl) <| zI <| zA <| zL ?_
      exact ⟨⟨(rfl : toAV (Al.look _ _) = some _).trans (congrArg some (by (exact congrArg iv (leftAs_fin (by first | exact .inl hian | exact .inr (by omega)))))), rfl⟩, trivial⟩
theorem leftV_c (v : GV) : ∀ n : Int, -1 ≤ n ∧ n ≤ 1000000000 → zo Tryz.prog Γ0 45 [v.av, iv n] [iv (leftV v n)] := by
  refine GV.ind (P := fun v => ∀ n : Int, -1 ≤ n ∧ n ≤ 1000000000 → zo Tryz.prog Γ0 45 [v.av, iv n] [iv (leftV v n)]) ?_ v
  intro v h1 h2 n hn
  exact leftV_st v n hn h1 fun n hn => leftAs_st v.map n (by omega) h2
theorem leftAs_c (l : List GA) (n : Int) (hn : -1000000000000 ≤ n ∧ n ≤ 1000000000) : zo Tryz.prog Γ0 22 [.sl 7 (l.map avA), iv n] [iv (yT l n)] := leftAs_st l n hn fun a _ => leftV_c a.val
end Go.Proofs
namespace Go.Proofs
open Go Go.Al
set_option maxRecDepth 10000
theorem z63_w : AV.width z63 = 42 := by kernel_rfl
theorem z94_w : AV.width z94 = 26 := by kernel_rfl
end Go.Proofs
namespace Go.Proofs
open Go Go.Al
set_option maxRecDepth 10000
theorem cmp165 : cmpFn Tryz.prog 165 := ⟨_, Tryz.func165, by kernel_rfl, rfl, by kernel_rfl, by kernel_rfl⟩
theorem cmp_156_c (s t : ByteArray) : zo Tryz.prog Γ0 156 [sv s, sv t] [iv (cmpK s t)] := by
  refine z_ Tryz.func156 rfl Tryz.ntmps156 (by kernel_rfl) rfl fun w0 I0 G0 => ?_
  refine zD <| zB <| g_u (zE rfl rfl) <| zI <| zA <| zD <| zB <| g_u (zC rfl rfl) <| g_u (zC rfl rfl) <| g_u (s_cmpS cmp165 rfl rfl rfl) <| g_u (zE rfl rfl) <| zI <| zA <| zL ?_
  exact ⟨⟨(rfl : toAV (Al.look _ _) = some _).trans (congrArg some (by rfl)), rfl⟩, trivial⟩
theorem cmp_143_c (s t : ByteArray) : zo Tryz.prog Γ0 143 [sv s, sv t] [iv (cmpK s t)] := by
  refine z_ Tryz.func143 rfl Tryz.ntmps143 (by kernel_rfl) rfl fun w0 I0 G0 => ?_
  refine zD <| zB <| g_u (zE rfl rfl) <| zI <| zA <| zD <| zB <| g_u (zC rfl rfl) <| g_u (zC rfl rfl) <| g_u (zP (cmp_156_c _ _) rfl rfl) <| g_u (zE rfl rfl) <| zI <| zA <| zL ?_
  exact ⟨⟨(rfl : toAV (Al.look _ _) = some _).trans (congrArg some (by rfl)), rfl⟩, trivial⟩
theorem cmpA_c (a : GA) (k : ByteArray) : zo Tryz.prog Γ0 142 [a.av, sv k] [iv (cmpK a.key k)] := by
  refine z_ Tryz.func142 rfl Tryz.ntmps142 (by kernel_rfl) rfl fun w0 I0 G0 => ?_
  refine zD <| zB <| g_uG (zi 1002 rfl rfl rfl rfl) rfl <| g_u (zE rfl rfl) <| zI <| zA <| zD <| zB <| g_u (zF rfl rfl wh rfl) <| g_u (zG rfl rfl rfl tA9 tS9 rfl rfl) <| g_u (zC rfl rfl) <| g_u (zP (cmp_143_c _ _) rfl rfl) <| g_u (zE rfl rfl) <| zI <| zA <| zL ?_
  exact ⟨⟨(rfl : toAV (Al.look _ _) = some _).trans (congrArg some (by rfl)), rfl⟩, trivial⟩
theorem bsf_c (l : List GA) (k : ByteArray) (hr : risA none l) (hl : l.length ≤ 1000000000000) : zo Tryz.prog Γ0 141 [.sl 7 (l.map avA), sv k, .fn (.func 142) [] []] [iv (posA l k : Nat), bv (hasA l k)] := by
  refine z_ Tryz.func141 rfl Tryz.ntmps141 (by kernel_rfl) rfl fun w0 I0 G0 => ?_
  refine zD <| zB <| g_u (zE rfl rfl) <| g_u (zE rfl rfl) <| zI <| zA <| zD <| zB <| g_u (zC rfl rfl) <| g_u (zw rfl rfl Tryz.underlying44) <| g_u (zE rfl rfl) <| zI <| zA <| zD <| zB <| g_u (zC rfl rfl) <| g_u (zE rfl rfl) <| g_u (zE rfl rfl) <| zI <| zA <| zD <| zU ?_
  refine zp (fun j : Nat × Nat => [(0, .imm (.sl 7 (l.map avA))), (1, .imm (sv k)), (2, .imm (.fn (.func 142) [] [])), (8, .imm (iv (l.length : Int))), (9, .imm (iv (j.1 : Int))), (10, .imm (iv (j.2 : Int)))]) (fun j => j.1 ≤ j.2 ∧ j.2 ≤ l.length ∧ (∀ i, i < j.1 → ltB (nthA l i).key k = true) ∧ (∀ i, j.2 ≤ i → i < l.length → ltB (nthA l i).key k = false)) (fun j => j.2 - j.1) (⟨0, l.length⟩) ?_ ⟨rfl, rfl, rfl, zZ rfl (by rw [List.length_map]), rfl, zZ rfl (by rw [List.length_map]), trivial⟩ ?_
  · exact ⟨Nat.zero_le _, Nat.le_refl _, fun i h => absurd h (Nat.not_lt_zero _), fun i h1 h2 => absurd h2 (Nat.not_lt.2 h1)⟩
  · rintro ⟨lo, hi⟩ ⟨h1, h2, h3, h4⟩; dsimp only at h1 h2 h3 h4
    have em : IntKind.i64.wrap ((IntKind.u64.wrap (IntKind.i64.wrap ((lo : Int) + (hi : Int)))).fdiv (2 ^ (min (1 : Int).toNat IntKind.u64.bits))) = (((lo + hi) / 2 : Nat) : Int) := by rw [ze (n := (lo : Int) + (hi : Int)) (by omega) (by omega), wg (by omega) (by omega), Int.fdiv_eq_ediv_of_nonneg _ (by decide), show (2 : Int) ^ (min (1 : Int).toNat IntKind.u64.bits) = 2 from by decide, ze (by omega) (by omega)]; omega
    refine zD <| zD <| zB <| g_u (zC rfl rfl) <| g_u (zC rfl rfl) <| g_u (yb rfl rfl rfl) <| zI <| zA ?_
    refine zW rfl (fun hb1 => ?_) (fun hb1 => ?_)
    · have hmid : (lo + hi) / 2 < l.length := by have := of_decide_eq_true hb1; omega
      refine zY <| zA <| zU <| zD <| zB <| g_u (zC rfl rfl) <| g_u (zC rfl rfl) <| g_u (yG rfl rfl rfl) <| g_u (s_cvII rfl rfl Tryz.underlying3 Tryz.underlying192) ?_
      refine g_u (s_shr rfl rfl rfl (by first | decide | omega | (((try simp only [decide_eq_true_eq, qb, bne_iff_ne, ne_eq, beq_iff_eq, qd, qe, Bool.not_eq_true', Bool.not_eq_false', gt_iff_lt, ge_iff_le] at *); (repeat simp (disch := omega) only [ze, yS] at *)); omega))) ?_
      refine g_u (s_cvII rfl rfl Tryz.underlying192 Tryz.underlying3) <| g_u (zE rfl rfl) <| zI <| zA <| zD <| zB <| g_u (zC rfl rfl) <| g_u (zC rfl rfl) <| g_u (zC rfl rfl) ?_
      refine g_u (zJ rfl rfl rfl Tryz.underlying44 tS72 (by erw [em]; omega) ((congrArg (fun z : Int => (l.map avA)[z.toNat]?) em).trans (ixA hmid))) ?_
      refine g_u (zT rfl rfl tA72 tS72 rfl rfl) <| g_u (zC rfl rfl) <| g_u (xv (cmpA_c _ _) rfl rfl rfl) <| g_u (yb rfl rfl rfl) <| zI <| zA ?_
      refine zW rfl (fun hb2 => ?_) (fun hb2 => ?_)
      · have hk : ltB (nthA l ((lo + hi) / 2)).key k = true := (cmpK_lt _ _).1 (of_decide_eq_true hb2)
        refine zB <| g_u (zC rfl rfl) <| g_u (yG rfl rfl rfl) <| g_u (zE rfl rfl) <| zI <| zX <| zA ?_
        have hlt : lo < hi := by have := of_decide_eq_true hb1; omega
        first
          | exact ⟨⟨(lo + hi) / 2 + 1, hi⟩, ⟨by dsimp only; omega, h2, fun i hi1 => ris_left hr hmid hk (by dsimp only at hi1; omega), h4⟩, ⟨rfl, rfl, rfl, rfl, zZ rfl (by erw [em]; rw [ze (by omega) (by omega)]; rfl), rfl, trivial⟩, by dsimp only; omega⟩
          | exact ⟨⟨lo, (lo + hi) / 2⟩, ⟨by dsimp only; omega, by dsimp only; omega, h3, fun i hi1 hi2 => ris_right hr hk hi1 hi2⟩, ⟨rfl, rfl, rfl, rfl, rfl, zZ rfl em, trivial⟩, by dsimp only; omega⟩
      · have hk : ltB (nthA l ((lo + hi) / 2)).key k = false := by cases hq : ltB (nthA l ((lo + hi) / 2)).key k; rfl; exact absurd ((cmpK_lt _ _).2 hq) (of_decide_eq_false hb2)
        refine zB <| g_u (zC rfl rfl) <| g_u (zE rfl rfl) <| zI <| zX <| zA ?_
        have hlt : lo < hi := by have := of_decide_eq_true hb1; omega
        first
          | exact ⟨⟨(lo + hi) / 2 + 1, hi⟩, ⟨by dsimp only; omega, h2, fun i hi1 => ris_left hr hmid hk (by dsimp only at hi1; omega), h4⟩, ⟨rfl, rfl, rfl, rfl, zZ rfl (by erw [em]; rw [ze (by omega) (by omega)]; rfl), rfl, trivial⟩, by dsimp only; omega⟩
          | exact ⟨⟨lo, (lo + hi) / 2⟩, ⟨by dsimp only; omega, by dsimp only; omega, h3, fun i hi1 hi2 => ris_right hr hk hi1 hi2⟩, ⟨rfl, rfl, rfl, rfl, rfl, zZ rfl em, trivial⟩, by dsimp only; omega⟩
    · have hlo : lo = hi := by have := of_decide_eq_false hb1; omega
      have hp : lo = posA l k := posA_spec l k lo (by omega) h3 (fun i hi1 hi2 => h4 i (by omega) hi2)
      refine zu <| zR <| zR <| zn <| zA <| zD <| zB <| g_u (zC rfl rfl) <| g_u (zC rfl rfl) <| g_u (zC rfl rfl) <| g_u (yb rfl rfl rfl) <| g_u (zC rfl rfl) <| z0 (t := 39) rfl ?_
      rintro (hb3 | hb3)
      · rw [hb3]
        have hll : lo < l.length := by have := of_decide_eq_true hb3; (try simp only [List.length_map] at this); omega
        refine zN rfl rfl (zC rfl rfl) <| zN rfl rfl (zC rfl rfl) <| zN rfl rfl (zC rfl rfl) ?_
        refine zN rfl rfl (zJ rfl rfl rfl Tryz.underlying44 tS72 (by omega) (ixA hll)) ?_
        refine zN rfl rfl (zT rfl rfl tA72 tS72 rfl rfl) <| zN rfl rfl (zC rfl rfl) <| zN rfl rfl (xv (cmpA_c _ _) rfl rfl rfl) <| zN rfl rfl (y6 rfl rfl rfl) <| g_u (zQ rfl rfl rfl) <| g_u (zE rfl rfl) <| g_u (zE rfl rfl) <| zI <| zA <| zL ?_
        exact ⟨⟨(rfl : toAV (Al.look _ _) = some _).trans (congrArg (fun n : Nat => some (iv n)) hp), rfl⟩, ⟨(rfl : toAV (Al.look _ _) = some _).trans (congrArg (fun b => some (bv b)) (by rw [hasA, ← hp, decide_eq_true hll, Bool.true_and, ← Bool.coe_iff_coe]; simp only [beq_iff_eq, decide_eq_true_eq]; exact cmpK_eq _ _)), rfl⟩, trivial⟩
      · rw [hb3]
        have hll : ¬ lo < l.length := by have := of_decide_eq_false hb3; (try simp only [List.length_map] at this); omega
        refine zH rfl rfl rfl <| zH rfl rfl rfl <| zH rfl rfl rfl <| zH rfl rfl rfl <| zH rfl rfl rfl <| zH rfl rfl rfl <| zH rfl rfl rfl <| zH rfl rfl rfl <| g_u (zh rfl rfl rfl) <| g_u (zE rfl rfl) <| g_u (zE rfl rfl) <| zI <| zA <| zL ?_
        exact ⟨⟨(rfl : toAV (Al.look _ _) = some _).trans (congrArg (fun n : Nat => some (iv n)) hp), rfl⟩, ⟨(rfl : toAV (Al.look _ _) = some _).trans (congrArg (fun b => some (bv b)) (by rw [hasA, ← hp, decide_eq_false hll, Bool.false_and])), rfl⟩, trivial⟩
theorem find_c (l : List GA) (k : ByteArray) (hr : risA none l) (hl : l.length ≤ 1000000000000) : zo Tryz.prog Γ0 119 [.sl 7 (l.map avA), sv k] [iv (posA l k : Nat), bv (hasA l k)] := by
  refine z_ Tryz.func119 rfl Tryz.ntmps119 (by kernel_rfl) rfl fun w0 I0 G0 => ?_
  refine zD <| zB <| g_u (zE rfl rfl) <| g_u (zE rfl rfl) <| zI <| zA <| zD <| zB <| g_u (zC rfl rfl) <| g_u (zC rfl rfl) <| g_u (xu (bsf_c l k hr hl) rfl rfl) <| g_u (zj rfl rfl rfl rfl) <| g_u (zj rfl rfl rfl rfl) <| g_u (zE rfl rfl) <| g_u (zE rfl rfl) <| zI <| zA <| zL ?_
  exact ⟨⟨(rfl : toAV (Al.look _ _) = some _).trans (congrArg some (by rfl)), rfl⟩, ⟨(rfl : toAV (Al.look _ _) = some _).trans (congrArg some (by rfl)), rfl⟩, trivial⟩
theorem get_c (l : List GA) (k : ByteArray) (hr : risA none l) (hl : l.length ≤ 1000000000000) : zo Tryz.prog Γ0 87 [.sl 7 (l.map avA), sv k] [((getA l k).getD zeroV).av, bv (getA l k).isSome] := by
  refine z_ Tryz.func87 rfl Tryz.ntmps87 (by kernel_rfl) rfl fun w0 I0 G0 => ?_
  refine zD <| zB <| g_uG (zl 1004 rfl rfl rfl tZ70) rfl <| g_u (zE rfl rfl) <| zI <| zA <| zD <| zD <| zB <| g_u (zC rfl rfl) <| g_u (zC rfl rfl) <| g_u (xu (find_c l k hr hl) rfl rfl) <| g_u (y8 rfl rfl) <| g_u (zj rfl rfl rfl rfl) <| g_u (zj rfl rfl rfl rfl) <| g_u (zE rfl rfl) <| g_u (zE rfl rfl) <| zI <| zA <| zD <| zB <| g_u (zC rfl rfl) <| zI <| zA ?_
  refine zW rfl (fun hb1 => ?_) (fun hb1 => ?_)
  · have hh : hasA l k = true := hb1
    have hll : posA l k < l.length := by unfold hasA at hh; simp at hh; exact hh.1
    refine zD <| zB <| g_u (zC rfl rfl) <| g_u (zC rfl rfl) ?_
    refine g_u (zJ rfl rfl rfl Tryz.underlying44 tS72 (by omega) (ixA hll)) ?_
    refine g_u (zV rfl rfl fa72_1 rfl rfl) <| g_u (zT rfl rfl tA70 tS70 rfl rfl) <| g_u (zK rfl rfl rfl tS70 rfl rfl) <| g_u (zE rfl rfl) <| zI <| zA <| zL <| zM ?_
    exact ⟨⟨_, _, _, _, _, _, _, rfl, rfl, tA70, tS70, rfl, rfl, (rfl : toAV _ = some _).trans (congrArg some (by (rw [getA_pos hr k, if_pos hh]; rfl)))⟩, ⟨(rfl : toAV (Al.look _ _) = some _).trans (congrArg some (by (rw [getA_pos hr k, if_pos hh]; rfl))), rfl⟩, trivial⟩
  · have hh : hasA l k = false := hb1
    refine zY <| zA <| zD <| zB <| g_u (y_ rfl tU70 us70 pl70 rfl rfl rfl rfl) <| g_u (zK rfl rfl rfl tS70 rfl rfl) <| g_u (zE rfl rfl) <| zI <| zA <| zL ?_
    exact ⟨⟨_, _, _, _, _, _, _, rfl, rfl, tA70, tS70, rfl, rfl, (rfl : toAV _ = some _).trans (congrArg some (by (rw [getA_pos hr k, if_neg (by rw [hh]; decide)]; rfl)))⟩, ⟨(rfl : toAV (Al.look _ _) = some _).trans (congrArg some (by (rw [getA_pos hr k, if_neg (by rw [hh]; decide)]; rfl))), rfl⟩, trivial⟩
theorem getA_ok {l : List GA} (k : ByteArray) (h : ∀ a ∈ l, a.ok) : ((getA l k).getD zeroV).ok ∧ ((getA l k).getD zeroV).wt ≤ 1 + wtAs l := by
  cases hg : getA l k with
  | none => exact ⟨by simp only [Option.getD_none]; rw [GV.ok_iff]; exact ⟨by decide, by decide, by decide, by decide, fun x hx => absurd hx (by simp [zeroV, GV.list]), fun x hx => absurd hx (by simp [zeroV, GV.map])⟩, by simp only [Option.getD_none]; rw [GV.wt_eq]; simp [zeroV, GV.list, GV.map, GV.text, wtVs, wtAs]; exact Nat.zero_le _⟩
  | some v =>
    obtain ⟨a, ha, rfl, _⟩ := getA_mem hg
    have := xa ha
    have := a.wt_eq
    exact ⟨((GA.ok_iff a).1 (h a ha)).2, by simp only [Option.getD_some]; omega⟩
theorem textA_c (l : List GA) (k : ByteArray) (hr : risA none l) (hl : l.length ≤ 1000000000000) (ho : ∀ a ∈ l, a.ok) (hw : wtAs l ≤ 9000000) : zo Tryz.prog Γ0 54 [.sl 7 (l.map avA), sv k] [sv (textA l k)] := by
  refine z_ Tryz.func54 rfl Tryz.ntmps54 (by kernel_rfl) rfl fun w0 I0 G0 => ?_
  refine zD <| zB <| g_u (zE rfl rfl) <| zI <| zA <| zD <| zB <| g_u (zC rfl rfl) <| g_u (zC rfl rfl) <| g_u (xu (get_c l k hr hl) rfl rfl) <| g_u (y8 rfl rfl) <| g_u (zj rfl rfl rfl rfl) <| g_u (zj rfl rfl rfl rfl) <| g_uG (zl 1005 rfl rfl rfl tZ70) rfl <| g_u (zK rfl rfl rfl tS70 rfl rfl) <| g_u (zE rfl rfl) <| zI <| zA <| zD <| zB <| g_u (zk rfl rfl rfl tA70 tS70 rfl rfl) ?_
  refine g_u (zP (text_c _ (getA_ok k ho).1 (by have := (getA_ok k ho).2; omega)) rfl rfl) ?_
  refine g_u (zE rfl rfl) <| zI <| zA <| zL ?_
  exact ⟨⟨(rfl : toAV (Al.look _ _) = some _).trans (congrArg some (by rfl)), rfl⟩, trivial⟩
theorem rget_c (l : List GA) (k : ByteArray) (hl : l.length ≤ 1000000000000) : zo Tryz.prog Γ0 122 [.sl 7 (l.map avA), sv k] [((getA l k).getD zeroV).av, bv (getA l k).isSome] := by
  refine z_ Tryz.func122 rfl Tryz.ntmps122 (by kernel_rfl) rfl fun w0 I0 G0 => ?_
  refine zD <| zB <| g_uG (zl 1004 rfl rfl rfl tZ70) rfl <| g_u (zE rfl rfl) <| zI <| zA <| zD <| zD <| zB <| g_u (zE rfl rfl) <| zI <| zA <| zU ?_
  refine zp (fun i : Nat => [(0, .imm (.sl 7 (l.map avA))), (1, .imm (sv k)), (4, .ptr 1004 0), (1004, .box 70 (.imm z70)), (5, .imm (bv false)), (6, .imm (iv (i : Int)))]) (fun i => i ≤ l.length ∧ getA l k = getA (l.drop i) k) (fun i => l.length - i) (0) ?_ ⟨rfl, rfl, rfl, rfl, rfl, rfl, trivial⟩ ?_
  · exact ⟨Nat.zero_le _, rfl⟩
  · rintro i ⟨h1, h2⟩; (try dsimp only at h1 h2)
    refine zD <| zD <| zB <| g_u (zC rfl rfl) <| g_u (zC rfl rfl) <| g_u (zw rfl rfl Tryz.underlying44) <| g_u (yb rfl rfl rfl) <| zI <| zA ?_
    refine zW rfl (fun hb1 => ?_) (fun hb1 => ?_)
    · have hi : i < l.length := by have := of_decide_eq_true hb1; (try simp only [List.length_map] at this); omega
      refine zY <| zA <| zD <| zU <| zD <| zB <| g_u (zC rfl rfl) <| g_u (zC rfl rfl) ?_
      refine g_u (zJ rfl rfl rfl Tryz.underlying44 tS72 (by omega) (ixA hi)) ?_
      refine g_u (zV rfl rfl wh rfl rfl) <| g_u (zT rfl rfl tA9 tS9 rfl rfl) <| g_u (zC rfl rfl) <| g_u (s_eqS rfl rfl rfl) <| zI <| zA ?_
      refine zW rfl (fun hb2 => ?_) (fun hb2 => ?_)
      · have hke : (nthA l i).key = k := by have e := hb2; rw [yN] at e; exact of_decide_eq_true e
        refine zD <| zB <| g_u (zC rfl rfl) <| g_u (zC rfl rfl) ?_
        refine g_u (zJ rfl rfl rfl Tryz.underlying44 tS72 (by omega) (ixA hi)) ?_
        refine g_u (zV rfl rfl fa72_1 rfl rfl) <| g_u (zT rfl rfl tA70 tS70 rfl rfl) <| g_u (zK rfl rfl rfl tS70 rfl rfl) <| g_u (zE rfl rfl) <| zI <| zA <| zL <| zq <| zM <| zM <| zq <| zM ?_
        exact ⟨⟨_, _, _, _, _, _, _, rfl, rfl, tA70, tS70, rfl, rfl, (rfl : toAV _ = some _).trans (congrArg some (by (rw [h2, getA_drop hi, if_pos hke]; rfl)))⟩, ⟨(rfl : toAV (Al.look _ _) = some _).trans (congrArg some (by (rw [h2, getA_drop hi, if_pos hke]; rfl))), rfl⟩, trivial⟩
      · have hke : ¬ (nthA l i).key = k := by have e := hb2; rw [yN] at e; exact of_decide_eq_false e
        refine zY <| zX <| zA <| zB <| g_u (zC rfl rfl) <| g_u (yG rfl rfl rfl) <| g_u (zE rfl rfl) <| zI <| zA ?_
        refine ⟨i + 1, ⟨hi, by rw [h2, getA_drop hi, if_neg hke]⟩, ⟨rfl, rfl, rfl, rfl, rfl, zZ rfl (by rw [ze (by omega) (by omega)]; rfl), trivial⟩, by (try dsimp only); omega⟩
    · have hin : i = l.length := by have := of_decide_eq_false hb1; (try simp only [List.length_map] at this); omega
      refine zu <| zR <| zR <| zn <| zA <| zD <| zB <| g_u (y_ rfl tU70 us70 pl70 rfl rfl rfl rfl) <| g_u (zK rfl rfl rfl tS70 rfl rfl) <| g_u (zE rfl rfl) <| zI <| zA <| zL ?_
      exact ⟨⟨_, _, _, _, _, _, _, rfl, rfl, tA70, tS70, rfl, rfl, (rfl : toAV _ = some _).trans (congrArg some (by (rw [h2, hin, List.drop_length]; rfl)))⟩, ⟨(rfl : toAV (Al.look _ _) = some _).trans (congrArg some (by (rw [h2, hin, List.drop_length]; rfl))), rfl⟩, trivial⟩
theorem rtextA_c (l : List GA) (k : ByteArray) (ho : ∀ a ∈ l, a.ok) (hw : wtAs l ≤ 9000000) : zo Tryz.prog Γ0 90 [.sl 7 (l.map avA), sv k] [sv (textA l k)] := by
  have q1 := yi l
  refine z_ Tryz.func90 rfl Tryz.ntmps90 (by kernel_rfl) rfl fun w0 I0 G0 => ?_
  refine zD <| zB <| g_u (zE rfl rfl) <| zI <| zA <| zD <| zB <| g_u (zC rfl rfl) <| g_u (zC rfl rfl) ?_
  refine g_u (xu (rget_c _ _ (by first | assumption | omega)) rfl rfl) ?_
  refine g_u (y8 rfl rfl) <| g_u (zj rfl rfl rfl rfl) <| g_u (zj rfl rfl rfl rfl) <| g_uG (zl 1005 rfl rfl rfl tZ70) rfl <| g_u (zK rfl rfl rfl tS70 rfl rfl) <| g_u (zE rfl rfl) <| zI <| zA <| zD <| zB <| g_u (zk rfl rfl rfl tA70 tS70 rfl rfl) ?_
  refine g_u (zP (rtext_c _ (getA_ok k ho).1 (by have := (getA_ok k ho).2; omega)) rfl rfl) ?_
  refine g_u (zE rfl rfl) <| zI <| zA <| zL ?_
  exact ⟨⟨(rfl : toAV (Al.look _ _) = some _).trans (congrArg some (by rfl)), rfl⟩, trivial⟩
theorem rservice_c (r : GRes) (ho : ∀ a ∈ r.attrs, a.ok) (hw : wtAs r.attrs ≤ 9000000) : zo Tryz.prog Γ0 57 [r.av] [sv (yg r)] := by
  refine z_ Tryz.func57 rfl Tryz.ntmps57 (by kernel_rfl) rfl fun w0 I0 G0 => ?_
  refine zD <| zB <| g_uG (zi 1001 rfl rfl rfl rfl) rfl <| g_u (zE rfl rfl) <| zI <| zA <| zD <| zB <| g_u (zF rfl rfl fa47_0 rfl) <| g_u (zG rfl rfl rfl tA44 tS44 rfl rfl) <| g_u (zP (rtextA_c r.attrs skey ho hw) rfl rfl) <| g_u (zE rfl rfl) <| zI <| zA <| zL ?_
  exact ⟨⟨(rfl : toAV (Al.look _ _) = some _).trans (congrArg some (by rfl)), rfl⟩, trivial⟩
theorem service_c (r : GRes) (ho : ∀ a ∈ r.attrs, a.ok) (hw : wtAs r.attrs ≤ 9000000) (hr : risA none r.attrs) : zo Tryz.prog Γ0 30 [r.av] [sv (yg r)] := by
  have q1 := yi r.attrs
  refine z_ Tryz.func30 rfl Tryz.ntmps30 (by kernel_rfl) rfl fun w0 I0 G0 => ?_
  refine zD <| zB <| g_uG (zi 1001 rfl rfl rfl rfl) rfl <| g_u (zE rfl rfl) <| zI <| zA <| zD <| zB <| g_u (zF rfl rfl fa47_0 rfl) <| g_u (zG rfl rfl rfl tA44 tS44 rfl rfl) ?_
  refine g_u (zP (textA_c r.attrs skey hr (by omega) ho hw) rfl rfl) ?_
  refine g_u (zE rfl rfl) <| zI <| zA <| zL ?_
  exact ⟨⟨(rfl : toAV (Al.look _ _) = some _).trans (congrArg some (by rfl)), rfl⟩, trivial⟩
end Go.Proofs
namespace Go.Proofs
open Go Go.Al
set_option maxRecDepth 10000
end Go.Proofs
namespace Go.Proofs
open Go Go.Al
set_option maxRecDepth 10000
end Go.Proofs
namespace Go.Proofs
open Go Go.Al
set_option maxRecDepth 10000
end Go.Proofs
namespace Go.Proofs
open Go Go.Al
set_option maxRecDepth 10000
theorem plainV_ok {v : GV} (ho : v.ok) (hw : v.wt ≤ 1000000) : (plainV v).ok := by
  rw [GV.ok_iff]
  have := textM_le v
  refine ⟨⟨by show (0 : Int) ≤ 1; decide, by show (1 : Int) < 256; decide⟩, ?_, ⟨by show (-9223372036854775808 : Int) ≤ 0; decide, by show (0 : Int) < 9223372036854775808; decide⟩, ⟨by show (0 : Int) ≤ 0; decide, by show (0 : Int) < 18446744073709551616; decide⟩, fun x hx => absurd hx (by simp [plainV, GV.list]), fun x hx => absurd hx (by simp [plainV, GV.map])⟩
  show (textM v).size ≤ maxLen
  unfold maxLen; omega
end Go.Proofs
namespace Go.Proofs
open Go Go.Al
set_option maxRecDepth 10000
theorem into_c (l : List GA) (a : GA) (hl : l.length ≤ 1000000000) : zo Tryz.prog Γ0 60 [.sl 7 (l.map avA), a.av] [.sl 7 ((wv l a).map avA)] := by
  refine z_ Tryz.func60 rfl Tryz.ntmps60 (by kernel_rfl) rfl fun w0 I0 G0 => ?_
  refine zD <| zB <| g_uG (zi 1003 rfl rfl rfl rfl) rfl <| g_u (zE rfl rfl) <| zI <| zA <| zD <| zB <| g_u (zE rfl rfl) <| zI <| zA <| zD <| zU ?_
  refine zp (fun i : Nat => [(0, .imm (.sl 7 (l.map avA))), (3, .ptr 1003 0), (1003, .box 72 (.imm a.av)), (5, .imm (iv (i : Int)))]) (fun i => i ≤ l.length ∧ ∀ j, j < i → ltB (nthA l j).key a.key = true) (fun i => l.length - i) (0) ?_ ⟨rfl, rfl, rfl, rfl, trivial⟩ ?_
  · exact ⟨Nat.zero_le _, fun j h => absurd h (Nat.not_lt_zero _)⟩
  · rintro i ⟨h1, h2⟩; (try dsimp only at h1 h2)
    refine zD <| zD <| yE yt <| g_u (zC rfl rfl) <| g_u (zC rfl rfl) <| g_u (zw rfl rfl Tryz.underlying44) <| g_u (yb rfl rfl rfl) <| g_u (zC rfl rfl) <| z0 (t := 11) rfl ?_
    rintro (hb1 | hb1)
    · rw [hb1]
      have hi : i < l.length := by have := of_decide_eq_true hb1; (try simp only [List.length_map] at this); omega
      refine zN rfl rfl (zC rfl rfl) <| zN rfl rfl (zC rfl rfl) ?_
      refine zN rfl rfl (zJ rfl rfl rfl Tryz.underlying44 tS72 (by omega) (ixA hi)) ?_
      refine zN rfl rfl (zV rfl rfl wh rfl rfl) <| zN rfl rfl (zT rfl rfl tA9 tS9 rfl rfl) <| zN rfl rfl (zF rfl rfl wh rfl) <| zN rfl rfl (zG rfl rfl rfl tA9 tS9 rfl rfl) <| zN rfl rfl (s_ltS rfl rfl rfl) <| g_u (zQ rfl rfl rfl) ?_
      refine zI ⟨by kernel_rfl, ?_⟩
      refine zA ?_
      refine zW rfl (fun hb2 => ?_) (fun hb2 => ?_)
      · have hk : ltB (nthA l i).key a.key = true := (less_eq _ _).symm.trans hb2
        refine zY <| zA <| zU <| zB <| g_u (zC rfl rfl) <| g_u (yG rfl rfl rfl) <| g_u (zE rfl rfl) <| zI <| zX <| zA ?_
        refine ⟨i + 1, ⟨hi, fun j hj => by rcases Nat.lt_or_ge j i with h | h; exact h2 j h; rw [show j = i by omega]; exact hk⟩, ⟨rfl, rfl, rfl, zZ rfl (by rw [ze (by omega) (by omega)]; rfl), trivial⟩, by (try dsimp only); omega⟩
      · have hk : ltB (nthA l i).key a.key = false := (less_eq _ _).symm.trans hb2
        have hp : i = posA l a.key := posA_first l a.key i h2 h1 (fun _ => hk)
        refine zu <| zR <| zR <| zn <| zA <| zD <| yE yt <| g_uG (s_build0 1023 3023 rfl rfl rfl rfl rfl rfl Tryz.underlying44 tS72) rfl <| g_u (zC rfl rfl) <| g_u (zC rfl rfl) ?_
        refine g_u (s_slL_h i rfl rfl rfl Tryz.underlying44 tS72 (by omega) (by rw [List.length_map]; omega)) ?_
        refine g_u (yA rfl rfl rfl rfl rfl Tryz.underlying44 Tryz.underlying44 tS72 zv72 rfl (by decide) by72 (by (try dsimp only); simp only [List.length_append, List.length_cons, List.length_nil, List.length_map, List.length_take, List.length_drop]; omega) (by (try dsimp only); simp only [List.length_append, List.length_cons, List.length_nil, List.length_map, List.length_take, List.length_drop]; omega)) ?_
        refine g_u (zG rfl rfl rfl tA72 tS72 rfl rfl) <| g_u (za (X0 := z72) rfl Tryz.underlying44 tS72 tZ72 rfl rfl rfl rfl rfl rfl rfl rfl) ?_
        refine g_u (yA rfl rfl rfl rfl rfl Tryz.underlying44 Tryz.underlying44 tS72 zv72 rfl (by decide) by72 (by (try dsimp only); simp only [List.length_append, List.length_cons, List.length_nil, List.length_map, List.length_take, List.length_drop]; omega) (by (try dsimp only); simp only [List.length_append, List.length_cons, List.length_nil, List.length_map, List.length_take, List.length_drop]; omega)) ?_
        refine g_u (yB rfl rfl) ?_
        refine zI ⟨by kernel_rfl, ?_⟩
        refine zA <| zD <| zD <| yE yt <| g_u (zC rfl rfl) <| g_u (zC rfl rfl) <| g_u (zw rfl rfl Tryz.underlying44) <| g_u (yb rfl rfl rfl) <| g_u (zC rfl rfl) <| z0 (t := 35) rfl ?_
        rintro (hb3 | hb3)
        · rw [hb3]
          have hpl : i < l.length := by have := of_decide_eq_true hb3; (try simp only [List.length_map] at this); omega
          refine zN rfl rfl (zC rfl rfl) <| zN rfl rfl (zC rfl rfl) ?_
          refine zN rfl rfl (zJ rfl rfl rfl Tryz.underlying44 tS72 (by omega) (ixA hpl)) ?_
          refine zN rfl rfl (zV rfl rfl wh rfl rfl) <| zN rfl rfl (zT rfl rfl tA9 tS9 rfl rfl) <| zN rfl rfl (zF rfl rfl wh rfl) <| zN rfl rfl (zG rfl rfl rfl tA9 tS9 rfl rfl) <| zN rfl rfl (s_eqS rfl rfl rfl) <| g_u (zQ rfl rfl rfl) ?_
          refine zI ⟨by kernel_rfl, ?_⟩
          refine zA ?_
          refine zW rfl (fun hb4 => ?_) (fun hb4 => ?_)
          · have he : (nthA l i).key = a.key := by have e := hb4; rw [yN] at e; exact of_decide_eq_true e
            refine zB <| g_u (zC rfl rfl) <| g_u (yG rfl rfl rfl) <| g_u (zE rfl rfl) <| zI <| zA <| zD <| zB <| g_u (zy rfl rfl) <| g_u (zC rfl rfl) <| g_u (zC rfl rfl) ?_
            refine g_u (s_slL_l (i + 1) rfl rfl rfl Tryz.underlying44 tS72 (by rw [ze (by omega) (by omega)]; omega) (by rw [List.length_map]; omega)) ?_
            refine g_u (yA rfl rfl rfl rfl rfl Tryz.underlying44 Tryz.underlying44 tS72 zv72 rfl (by decide) by72 (by (try dsimp only); simp only [List.length_append, List.length_cons, List.length_nil, List.length_map, List.length_take, List.length_drop]; omega) (by (try dsimp only); simp only [List.length_append, List.length_cons, List.length_nil, List.length_map, List.length_take, List.length_drop]; omega)) ?_
            refine g_u (yB rfl rfl) <| zI <| zA <| zL ?_
            exact ⟨⟨(rfl : toAV (Al.look _ _) = some _).trans (congrArg some (by (refine congrArg (AV.sl 7) ?_; rw [wx, ← hp]; first | (have hh : hasA l a.key = true := (by rw [hasA, ← hp, decide_eq_true hpl, Bool.true_and]; exact decide_eq_true he); rw [if_pos hh]; simp [xX, List.take_of_length_le]) | (have hh : hasA l a.key = false := (by rw [hasA, ← hp, decide_eq_true hpl, Bool.true_and]; exact decide_eq_false he); rw [if_neg (by rw [hh]; decide)]; simp [xX, List.take_of_length_le]) | (have hh : hasA l a.key = false := (by rw [hasA, ← hp, decide_eq_false hpl, Bool.false_and]); rw [if_neg (by rw [hh]; decide)]; simp [xX, List.take_of_length_le])))), rfl⟩, trivial⟩
          · have he : ¬ (nthA l i).key = a.key := by first | (have e := hb4; rw [yN] at e; exact of_decide_eq_false e) | (intro _; omega)
            refine zY <| zA <| zD <| zB <| g_u (zy rfl rfl) <| g_u (zC rfl rfl) <| g_u (zC rfl rfl) ?_
            refine g_u (s_slL_l i rfl rfl rfl Tryz.underlying44 tS72 (by omega) (by rw [List.length_map]; omega)) ?_
            refine g_u (yA rfl rfl rfl rfl rfl Tryz.underlying44 Tryz.underlying44 tS72 zv72 rfl (by decide) by72 (by (try dsimp only); simp only [List.length_append, List.length_cons, List.length_nil, List.length_map, List.length_take, List.length_drop]; omega) (by (try dsimp only); simp only [List.length_append, List.length_cons, List.length_nil, List.length_map, List.length_take, List.length_drop]; omega)) ?_
            refine g_u (yB rfl rfl) <| zI <| zA <| zL ?_
            exact ⟨⟨(rfl : toAV (Al.look _ _) = some _).trans (congrArg some (by (refine congrArg (AV.sl 7) ?_; rw [wx, ← hp]; first | (have hh : hasA l a.key = true := (by rw [hasA, ← hp, decide_eq_true hpl, Bool.true_and]; exact decide_eq_true he); rw [if_pos hh]; simp [xX, List.take_of_length_le]) | (have hh : hasA l a.key = false := (by rw [hasA, ← hp, decide_eq_true hpl, Bool.true_and]; exact decide_eq_false he); rw [if_neg (by rw [hh]; decide)]; simp [xX, List.take_of_length_le]) | (have hh : hasA l a.key = false := (by rw [hasA, ← hp, decide_eq_false hpl, Bool.false_and]); rw [if_neg (by rw [hh]; decide)]; simp [xX, List.take_of_length_le])))), rfl⟩, trivial⟩
        · rw [hb3]
          have hpl : ¬ i < l.length := by have := of_decide_eq_false hb3; (try simp only [List.length_map] at this); omega
          refine zH rfl rfl rfl <| zH rfl rfl rfl <| zH rfl rfl rfl <| zH rfl rfl rfl <| zH rfl rfl rfl <| zH rfl rfl rfl <| zH rfl rfl rfl <| zH rfl rfl rfl <| g_u (zh rfl rfl rfl) ?_
          refine zI ⟨by kernel_rfl, ?_⟩
          refine zA <| yF rfl <| zY <| zA <| zD <| zB <| g_u (zy rfl rfl) <| g_u (zC rfl rfl) <| g_u (zC rfl rfl) ?_
          refine g_u (s_slL_l i rfl rfl rfl Tryz.underlying44 tS72 (by omega) (by rw [List.length_map]; omega)) ?_
          refine g_u (yA rfl rfl rfl rfl rfl Tryz.underlying44 Tryz.underlying44 tS72 zv72 rfl (by decide) by72 (by (try dsimp only); simp only [List.length_append, List.length_cons, List.length_nil, List.length_map, List.length_take, List.length_drop]; omega) (by (try dsimp only); simp only [List.length_append, List.length_cons, List.length_nil, List.length_map, List.length_take, List.length_drop]; omega)) ?_
          refine g_u (yB rfl rfl) <| zI <| zA <| zL ?_
          exact ⟨⟨(rfl : toAV (Al.look _ _) = some _).trans (congrArg some (by (refine congrArg (AV.sl 7) ?_; rw [wx, ← hp]; first | (have hh : hasA l a.key = true := (by rw [hasA, ← hp, decide_eq_true hpl, Bool.true_and]; exact decide_eq_true he); rw [if_pos hh]; simp [xX, List.take_of_length_le]) | (have hh : hasA l a.key = false := (by rw [hasA, ← hp, decide_eq_true hpl, Bool.true_and]; exact decide_eq_false he); rw [if_neg (by rw [hh]; decide)]; simp [xX, List.take_of_length_le]) | (have hh : hasA l a.key = false := (by rw [hasA, ← hp, decide_eq_false hpl, Bool.false_and]); rw [if_neg (by rw [hh]; decide)]; simp [xX, List.take_of_length_le])))), rfl⟩, trivial⟩
    · rw [hb1]
      have hin : i = l.length := by have := of_decide_eq_false hb1; (try simp only [List.length_map] at this); omega
      have hp : i = posA l a.key := posA_first l a.key i h2 h1 (fun h => absurd h (by omega))
      refine zH rfl rfl rfl <| zH rfl rfl rfl <| zH rfl rfl rfl <| zH rfl rfl rfl <| zH rfl rfl rfl <| zH rfl rfl rfl <| zH rfl rfl rfl <| zH rfl rfl rfl <| g_u (zh rfl rfl rfl) ?_
      refine zI ⟨by kernel_rfl, ?_⟩
      refine zA <| yF rfl <| zu <| zR <| zR <| zn <| zA <| zD <| yE yt <| g_uG (s_build0 1023 3023 rfl rfl rfl rfl rfl rfl Tryz.underlying44 tS72) rfl <| g_u (zC rfl rfl) <| g_u (zC rfl rfl) ?_
      refine g_u (s_slL_h i rfl rfl rfl Tryz.underlying44 tS72 (by omega) (by rw [List.length_map]; omega)) ?_
      refine g_u (yA rfl rfl rfl rfl rfl Tryz.underlying44 Tryz.underlying44 tS72 zv72 rfl (by decide) by72 (by (try dsimp only); simp only [List.length_append, List.length_cons, List.length_nil, List.length_map, List.length_take, List.length_drop]; omega) (by (try dsimp only); simp only [List.length_append, List.length_cons, List.length_nil, List.length_map, List.length_take, List.length_drop]; omega)) ?_
      refine g_u (zG rfl rfl rfl tA72 tS72 rfl rfl) <| g_u (za (X0 := z72) rfl Tryz.underlying44 tS72 tZ72 rfl rfl rfl rfl rfl rfl rfl rfl) ?_
      refine g_u (yA rfl rfl rfl rfl rfl Tryz.underlying44 Tryz.underlying44 tS72 zv72 rfl (by decide) by72 (by (try dsimp only); simp only [List.length_append, List.length_cons, List.length_nil, List.length_map, List.length_take, List.length_drop]; omega) (by (try dsimp only); simp only [List.length_append, List.length_cons, List.length_nil, List.length_map, List.length_take, List.length_drop]; omega)) ?_
      refine g_u (yB rfl rfl) ?_
      refine zI ⟨by kernel_rfl, ?_⟩
      refine zA <| zD <| zD <| yE yt <| g_u (zC rfl rfl) <| g_u (zC rfl rfl) <| g_u (zw rfl rfl Tryz.underlying44) <| g_u (yb rfl rfl rfl) <| g_u (zC rfl rfl) <| z0 (t := 35) rfl ?_
      rintro (hb5 | hb5)
      · rw [hb5]
        have hpl : i < l.length := by have := of_decide_eq_true hb5; (try simp only [List.length_map] at this); omega
        refine zN rfl rfl (zC rfl rfl) <| zN rfl rfl (zC rfl rfl) ?_
        refine zN rfl rfl (zJ rfl rfl rfl Tryz.underlying44 tS72 (by omega) (ixA hpl)) ?_
        refine zN rfl rfl (zV rfl rfl wh rfl rfl) <| zN rfl rfl (zT rfl rfl tA9 tS9 rfl rfl) <| zN rfl rfl (zF rfl rfl wh rfl) <| zN rfl rfl (zG rfl rfl rfl tA9 tS9 rfl rfl) <| zN rfl rfl (s_eqS rfl rfl rfl) <| g_u (zQ rfl rfl rfl) ?_
        refine zI ⟨by kernel_rfl, ?_⟩
        refine zA ?_
        refine zW rfl (fun hb6 => ?_) (fun hb6 => ?_)
        · have he : (nthA l i).key = a.key := by have e := hb6; rw [yN] at e; exact of_decide_eq_true e
          refine zB <| g_u (zC rfl rfl) <| g_u (yG rfl rfl rfl) <| g_u (zE rfl rfl) <| zI <| zA <| zD <| zB <| g_u (zy rfl rfl) <| g_u (zC rfl rfl) <| g_u (zC rfl rfl) ?_
          refine g_u (s_slL_l (i + 1) rfl rfl rfl Tryz.underlying44 tS72 (by rw [ze (by omega) (by omega)]; omega) (by rw [List.length_map]; omega)) ?_
          refine g_u (yA rfl rfl rfl rfl rfl Tryz.underlying44 Tryz.underlying44 tS72 zv72 rfl (by decide) by72 (by (try dsimp only); simp only [List.length_append, List.length_cons, List.length_nil, List.length_map, List.length_take, List.length_drop]; omega) (by (try dsimp only); simp only [List.length_append, List.length_cons, List.length_nil, List.length_map, List.length_take, List.length_drop]; omega)) ?_
          refine g_u (yB rfl rfl) <| zI <| zA <| zL ?_
          exact ⟨⟨(rfl : toAV (Al.look _ _) = some _).trans (congrArg some (by (refine congrArg (AV.sl 7) ?_; rw [wx, ← hp]; first | (have hh : hasA l a.key = true := (by rw [hasA, ← hp, decide_eq_true hpl, Bool.true_and]; exact decide_eq_true he); rw [if_pos hh]; simp [xX, List.take_of_length_le]) | (have hh : hasA l a.key = false := (by rw [hasA, ← hp, decide_eq_true hpl, Bool.true_and]; exact decide_eq_false he); rw [if_neg (by rw [hh]; decide)]; simp [xX, List.take_of_length_le]) | (have hh : hasA l a.key = false := (by rw [hasA, ← hp, decide_eq_false hpl, Bool.false_and]); rw [if_neg (by rw [hh]; decide)]; simp [xX, List.take_of_length_le])))), rfl⟩, trivial⟩
        · have he : ¬ (nthA l i).key = a.key := by first | (have e := hb6; rw [yN] at e; exact of_decide_eq_false e) | (intro _; omega)
          refine zY <| zA <| zD <| zB <| g_u (zy rfl rfl) <| g_u (zC rfl rfl) <| g_u (zC rfl rfl) ?_
          refine g_u (s_slL_l i rfl rfl rfl Tryz.underlying44 tS72 (by omega) (by rw [List.length_map]; omega)) ?_
          refine g_u (yA rfl rfl rfl rfl rfl Tryz.underlying44 Tryz.underlying44 tS72 zv72 rfl (by decide) by72 (by (try dsimp only); simp only [List.length_append, List.length_cons, List.length_nil, List.length_map, List.length_take, List.length_drop]; omega) (by (try dsimp only); simp only [List.length_append, List.length_cons, List.length_nil, List.length_map, List.length_take, List.length_drop]; omega)) ?_
          refine g_u (yB rfl rfl) <| zI <| zA <| zL ?_
          exact ⟨⟨(rfl : toAV (Al.look _ _) = some _).trans (congrArg some (by (refine congrArg (AV.sl 7) ?_; rw [wx, ← hp]; first | (have hh : hasA l a.key = true := (by rw [hasA, ← hp, decide_eq_true hpl, Bool.true_and]; exact decide_eq_true he); rw [if_pos hh]; simp [xX, List.take_of_length_le]) | (have hh : hasA l a.key = false := (by rw [hasA, ← hp, decide_eq_true hpl, Bool.true_and]; exact decide_eq_false he); rw [if_neg (by rw [hh]; decide)]; simp [xX, List.take_of_length_le]) | (have hh : hasA l a.key = false := (by rw [hasA, ← hp, decide_eq_false hpl, Bool.false_and]); rw [if_neg (by rw [hh]; decide)]; simp [xX, List.take_of_length_le])))), rfl⟩, trivial⟩
      · rw [hb5]
        have hpl : ¬ i < l.length := by have := of_decide_eq_false hb5; (try simp only [List.length_map] at this); omega
        refine zH rfl rfl rfl <| zH rfl rfl rfl <| zH rfl rfl rfl <| zH rfl rfl rfl <| zH rfl rfl rfl <| zH rfl rfl rfl <| zH rfl rfl rfl <| zH rfl rfl rfl <| g_u (zh rfl rfl rfl) ?_
        refine zI ⟨by kernel_rfl, ?_⟩
        refine zA <| yF rfl <| zY <| zA <| zD <| zB <| g_u (zy rfl rfl) <| g_u (zC rfl rfl) <| g_u (zC rfl rfl) ?_
        refine g_u (s_slL_l i rfl rfl rfl Tryz.underlying44 tS72 (by omega) (by rw [List.length_map]; omega)) ?_
        refine g_u (yA rfl rfl rfl rfl rfl Tryz.underlying44 Tryz.underlying44 tS72 zv72 rfl (by decide) by72 (by (try dsimp only); simp only [List.length_append, List.length_cons, List.length_nil, List.length_map, List.length_take, List.length_drop]; omega) (by (try dsimp only); simp only [List.length_append, List.length_cons, List.length_nil, List.length_map, List.length_take, List.length_drop]; omega)) ?_
        refine g_u (yB rfl rfl) <| zI <| zA <| zL ?_
        exact ⟨⟨(rfl : toAV (Al.look _ _) = some _).trans (congrArg some (by (refine congrArg (AV.sl 7) ?_; rw [wx, ← hp]; first | (have hh : hasA l a.key = true := (by rw [hasA, ← hp, decide_eq_true hpl, Bool.true_and]; exact decide_eq_true he); rw [if_pos hh]; simp [xX, List.take_of_length_le]) | (have hh : hasA l a.key = false := (by rw [hasA, ← hp, decide_eq_true hpl, Bool.true_and]; exact decide_eq_false he); rw [if_neg (by rw [hh]; decide)]; simp [xX, List.take_of_length_le]) | (have hh : hasA l a.key = false := (by rw [hasA, ← hp, decide_eq_false hpl, Bool.false_and]); rw [if_neg (by rw [hh]; decide)]; simp [xX, List.take_of_length_le])))), rfl⟩, trivial⟩
theorem canonAs_st (l : List GA) (hl : l.length ≤ 1000000000) (ih : ∀ a ∈ l, zo Tryz.prog Γ0 61 [a.val.av] [(xQ a.val).av]) : zo Tryz.prog Γ0 35 [.sl 7 (l.map avA)] [.sl 7 ((wT l).map avA)] := by
  refine z_ Tryz.func35 rfl Tryz.ntmps35 (by kernel_rfl) rfl fun w0 I0 G0 => ?_
  refine zD <| zB <| g_u (zE rfl rfl) <| zI <| zA <| zD <| zB <| g_u (zE rfl rfl) <| zI <| zA <| zD <| zD <| aw_up 3 rfl (Up.nil 7) <| zB <| g_u (zE rfl rfl) <| zI <| zA <| zU ?_
  refine zp (fun i : Nat => [(0, .imm (.sl 7 (l.map avA))), (3, .imm (.sl 7 ((xk [] ((l.take i).map vB)).map avA))), (4, .imm (iv (i : Int)))]) (fun i => i ≤ l.length) (fun i => l.length - i) (0) ?_ ⟨rfl, rfl, rfl, trivial⟩ ?_
  · exact Nat.zero_le _
  · rintro i h1; have h1 : i ≤ l.length := h1
    refine zD <| zD <| zB <| g_u (zC rfl rfl) <| g_u (zC rfl rfl) <| g_u (zw rfl rfl Tryz.underlying44) <| g_u (yb rfl rfl rfl) <| zI <| zA ?_
    refine zW rfl (fun hb1 => ?_) (fun hb1 => ?_)
    · have hi : i < l.length := by have := of_decide_eq_true hb1; (try simp only [List.length_map] at this); omega
      refine zY <| zA <| zD <| zU <| yE yt <| g_u (zC rfl rfl) <| g_u (zC rfl rfl) <| g_u (zC rfl rfl) ?_
      refine g_u (zJ rfl rfl rfl Tryz.underlying44 tS72 (by omega) (ixA hi)) ?_
      refine g_u (zV rfl rfl wh rfl rfl) <| g_u (zT rfl rfl tA9 tS9 rfl rfl) <| g_u (zC rfl rfl) <| g_u (zC rfl rfl) ?_
      refine g_u (zJ rfl rfl rfl Tryz.underlying44 tS72 (by omega) (ixA hi)) ?_
      refine g_u (zV rfl rfl fa72_1 rfl rfl) <| g_u (zT rfl rfl tA70 tS70 rfl rfl) <| g_u (zP (ih _ (wL hi)) rfl rfl) <| g_u (y_ rfl tU72 us72 pl72 rfl rfl rfl rfl) ?_
      refine g_u (zP (into_c _ (.mk (nthA l i).key (xQ (nthA l i).val)) (by have := len_intoAll ((l.take i).map vB) []; simp only [List.length_map, List.length_take, List.length_nil] at this; omega)) rfl rfl) ?_
      refine g_u (zE rfl rfl) ?_
      refine zI ⟨by kernel_rfl, ?_⟩
      refine zX <| zA <| zB <| g_u (zC rfl rfl) <| g_u (yG rfl rfl rfl) <| g_u (zE rfl rfl) <| zI <| zA ?_
      refine ⟨i + 1, hi, ⟨rfl, look_imm rfl (by rw [canonAs_take hi, canonP_eq]), zZ rfl (by rw [ze (by omega) (by omega)]; rfl), trivial⟩, by (try dsimp only); omega⟩
    · have hin : i = l.length := by have := of_decide_eq_false hb1; (try simp only [List.length_map] at this); omega
      refine zu <| zR <| zR <| zn <| zA <| zD <| zB <| g_u (zC rfl rfl) <| g_u (zE rfl rfl) <| zI <| zA <| zL ?_
      exact ⟨⟨(rfl : toAV (Al.look _ _) = some _).trans (congrArg some (by (rw [hin, List.take_length]; rfl))), rfl⟩, trivial⟩
theorem canonV_st (v : GV) (hw : v.wt ≤ 10000000) (ih : ∀ y ∈ v.list, zo Tryz.prog Γ0 61 [y.av] [(xQ y).av]) (ihm : zo Tryz.prog Γ0 35 [.sl 7 (v.map.map avA)] [.sl 7 ((wT v.map).map avA)]) : zo Tryz.prog Γ0 61 [v.av] [(xQ v).av] := by
  have ek := v.wt_eq
  have lv := xR v.list
  refine z_ Tryz.func61 rfl Tryz.ntmps61 (by kernel_rfl) rfl fun w0 I0 G0 => ?_
  refine zD <| zB <| g_uG (zi 1001 rfl rfl rfl rfl) rfl <| g_uG (zl 1002 rfl rfl rfl tZ70) rfl <| zI <| zA <| zD <| zB <| g_u (zE rfl rfl) <| zI <| zA <| zD <| zD <| xJ 3003 3 6 rfl rfl rfl rfl <| zB <| g_u (zE rfl rfl) <| zI <| zA <| zU ?_
  refine zp (fun i : Nat => [(1, .ptr 1001 0), (1001, .box 70 (.imm v.av)), (2, .ptr 1002 0), (1002, .box 70 (.imm z70)), (3, .slg 3003 6 ((v.list.take i).map fun x => (xQ x).av)), (3003, .tok 6 ((v.list.take i).map fun x => (xQ x).av)), (4, .imm (iv (i : Int)))]) (fun i => i ≤ v.list.length) (fun i => v.list.length - i) (0) ?_ ⟨rfl, rfl, rfl, rfl, rfl, rfl, rfl, trivial⟩ ?_
  · exact Nat.zero_le _
  · rintro i h1; have h1 : i ≤ v.list.length := h1
    refine zD <| zD <| zB <| g_u (zC rfl rfl) <| g_u (zF rfl rfl fa70_4 rfl) <| g_u (zG rfl rfl rfl tA68 tS68 rfl rfl) <| g_u (zw rfl rfl Tryz.underlying68) <| g_u (yb rfl rfl rfl) <| zI <| zA ?_
    refine zW rfl (fun hb1 => ?_) (fun hb1 => ?_)
    · have hi : i < v.list.length := by have := of_decide_eq_true hb1; (try simp only [List.length_map] at this); omega
      refine zY <| zA <| zD <| zU <| zB <| g_u (zy rfl rfl) <| g_u (zF rfl rfl fa70_4 rfl) <| g_u (zG rfl rfl rfl tA68 tS68 rfl rfl) <| g_u (zC rfl rfl) ?_
      refine g_u (zJ rfl rfl rfl Tryz.underlying68 tS70 (by omega) (ixV hi)) ?_
      refine g_u (zT rfl rfl tA70 tS70 rfl rfl) <| g_u (zP (ih _ (nthV_mem hi)) rfl rfl) <| g_u (za (X0 := z70) rfl Tryz.underlying68 tS70 tZ70 rfl rfl rfl rfl rfl rfl rfl rfl) ?_
      refine g_u (yA rfl rfl rfl rfl rfl Tryz.underlying68 Tryz.underlying68 tS70 zv70 rfl (by decide) by70 (by (try dsimp only); simp only [List.length_append, List.length_cons, List.length_nil, List.length_map, List.length_take, List.length_drop]; omega) (by (try dsimp only); simp only [List.length_append, List.length_cons, List.length_nil, List.length_map, List.length_take, List.length_drop]; omega)) ?_
      refine g_u (yB rfl rfl) <| zI <| zX <| zA <| zB <| g_u (zC rfl rfl) <| g_u (yG rfl rfl rfl) <| g_u (zE rfl rfl) <| zI <| zA ?_
      have et : (v.list.take (i + 1)).map (fun x => (xQ x).av) = (v.list.take i).map (fun x => (xQ x).av) ++ [(xQ (nthV v.list i)).av] := by rw [zx (yZ (d := v0) hi), List.map_append]; rfl
      refine ⟨i + 1, hi, ⟨rfl, rfl, rfl, rfl, yV rfl et.symm, z8 rfl et.symm, zZ rfl (by rw [ze (by omega) (by omega)]; rfl), trivial⟩, by (try dsimp only); omega⟩
    · have hin : i = v.list.length := by have := of_decide_eq_false hb1; (try simp only [List.length_map] at this); omega
      refine zu <| zR <| zR <| zn <| zA <| zD <| zB <| g_u (zy rfl rfl) <| g_u (zF rfl rfl fa70_4 rfl) <| g_u (xO rfl rfl rfl rfl tS68 rfl rfl) <| zI <| zA <| zD <| zB <| g_u (zF rfl rfl fa70_5 rfl) <| g_u (zG rfl rfl rfl tA44 tS44 rfl rfl) <| g_u (zP (ihm) rfl rfl) <| g_u (zF rfl rfl fa70_5 rfl) <| g_u (zK rfl rfl rfl tS44 rfl rfl) <| zI <| zA <| zD <| zB <| g_u (zk rfl rfl rfl tA70 tS70 rfl rfl) <| g_u (zK rfl rfl rfl tS70 rfl rfl) <| zI <| zA <| zL ?_
      exact ⟨⟨_, _, _, _, _, _, _, rfl, rfl, tA70, tS70, rfl, rfl, (rfl : toAV _ = some _).trans (congrArg some (by (rw [canonV_eq, hin, List.take_length]; show AV.agg _ = AV.agg [_, _, _, _, .sl 6 ((v.list.map xQ).map avV), _]; rw [List.map_map, show avV ∘ xQ = fun x => (xQ x).av from funext fun x => avV_eq _]; rfl)))⟩, trivial⟩
theorem canonV_c (v : GV) : v.wt ≤ 10000000 → zo Tryz.prog Γ0 61 [v.av] [(xQ v).av] := by
  refine GV.ind (P := fun v => v.wt ≤ 10000000 → zo Tryz.prog Γ0 61 [v.av] [(xQ v).av]) ?_ v
  intro v h1 h2 hw
  have ek := v.wt_eq
  have la := yi v.map
  exact canonV_st v hw (fun y hy => h1 y hy (by have := wtVs_mem hy; omega)) (canonAs_st v.map (by omega) fun a ha => h2 a ha (by have := xa ha; have := a.wt_eq; omega))
theorem canonAs_c (l : List GA) (hw : wtAs l ≤ 10000000) : zo Tryz.prog Γ0 35 [.sl 7 (l.map avA)] [.sl 7 ((wT l).map avA)] := by
  have la := yi l
  exact canonAs_st l (by omega) fun a ha => canonV_c a.val (by have := xa ha; have := a.wt_eq; omega)
end Go.Proofs
namespace Go.Proofs
open Go Go.Al
set_option maxRecDepth 10000
set_option maxHeartbeats 8000000 in
theorem canonS_c (s : GSpan) (hw : s.wt ≤ 1000000) : zo Tryz.prog Γ0 62 [s.av] [(canonS s).av] := by
  have qw : s.wt = 1 + s.state.size + s.name.size + s.note.size + wtAs s.attrs + z7 GE.wt s.events + z7 GL.wt s.links := rfl
  have ql := yR GE.wt (fun e => by unfold GE.wt; omega) s.events
  have qm := yR GL.wt (fun e => by unfold GL.wt; omega) s.links
  refine z_ Tryz.func62 rfl Tryz.ntmps62 (by kernel_rfl) rfl fun w0 I0 G0 => ?_
  refine zD <| zB <| g_uG (zi 1001 rfl rfl rfl rfl) rfl <| g_uG (zl 1002 rfl rfl rfl tZ63) rfl <| zI <| zA <| zD <| zB ?_
  refine g_u (zG rfl rfl rfl tA63 tS63 rfl (by first | exact xP (GSpan.width _) rfl | rfl)) ?_
  refine g_uG (zl 1003 rfl rfl rfl tZ63) rfl ?_
  refine g_u (zK rfl rfl rfl tS63 (by first | exact beqW (GSpan.width _) | rfl) (by first | exact xy (z63_w.trans (GSpan.width _).symm) rfl | rfl)) ?_
  refine zI <| zA <| zD <| zB <| g_u (zF rfl rfl wy rfl) <| g_u (zG rfl rfl rfl tA44 tS44 rfl rfl) ?_
  refine g_u (zP (canonAs_c s.attrs (by omega)) rfl rfl) ?_
  refine g_u (zF rfl rfl wy rfl) <| g_u (zK rfl rfl rfl tS44 rfl rfl) <| zI <| zA <| zD <| zB <| g_u (zF rfl rfl yw rfl) <| g_u (zK rfl rfl rfl tS58 rfl rfl) <| zI <| zA <| zD <| zB <| g_u (zF rfl rfl yy rfl) <| g_u (zK rfl rfl rfl tS59 rfl rfl) <| zI <| zA <| zD <| zD <| yn 3009 1003 3 38 rfl rfl rfl rfl rfl rfl rfl <| zB <| g_u (zE rfl rfl) <| zI <| zA <| zU ?_
  refine zp (fun i : Nat => [(1, .ptr 1001 0), (1001, .box 63 (.imm s.av)), (2, .ptr 1002 0), (1002, .box 63 (.imm z63)), (3, .ptr 1003 0), (1003, .box 63 (.agg [.imm (.arr 16 s.trace), .imm (.arr 8 s.id), .imm (.arr 8 s.parent), .imm (sv s.state), .imm (sv s.name), .imm (iv s.kind), .imm (uv s.start), .imm (uv s.fin), .imm (.sl 7 ((wT s.attrs).map avA)), .slg 3009 3 ((s.events.take i).map fun e => (canonE e).av), .imm (.v (.slice none 0 0)), .imm (.agg [iv s.code, sv s.note])])), (3009, .tok 3 ((s.events.take i).map fun e => (canonE e).av)), (4, .imm (iv (i : Int)))]) (fun i => i ≤ s.events.length) (fun i => s.events.length - i) (0) ?_ ⟨rfl, rfl, rfl, rfl, rfl, rfl, rfl, rfl, trivial⟩ ?_
  · exact Nat.zero_le _
  · rintro i h1; have h1 : i ≤ s.events.length := h1
    refine zD <| zD <| zB <| g_u (zC rfl rfl) <| g_u (zF rfl rfl yw rfl) <| g_u (zG rfl rfl rfl tA58 tS58 rfl rfl) <| g_u (zw rfl rfl Tryz.underlying58) <| g_u (yb rfl rfl rfl) <| zI <| zA ?_
    refine zW rfl (fun hb1 => ?_) (fun hb1 => ?_)
    · have hi : i < s.events.length := by have := of_decide_eq_true hb1; (try simp only [List.length_map] at this); omega
      have hx : wtAs (nthE s.events i).attrs ≤ 10000000 := by have h5 := yD GE.wt (xm hi); have h6 : (nthE s.events i).wt = 1 + (nthE s.events i).name.size + wtAs (nthE s.events i).attrs := rfl; omega
      refine zY <| zA <| zD <| zU <| zD <| zB <| g_u (zF rfl rfl yw rfl) <| g_u (zG rfl rfl rfl tA58 tS58 rfl rfl) <| g_u (zC rfl rfl) ?_
      refine g_u (zJ rfl rfl rfl Tryz.underlying58 tS92 (by omega) (ixE hi)) ?_
      refine g_u (zT rfl rfl tA92 tS92 rfl rfl) <| g_uG (zl 1005 rfl rfl rfl tZ92) rfl <| g_u (zK rfl rfl rfl tS92 rfl rfl) <| zI <| zA <| yE yt <| g_u (zF rfl rfl yw rfl) <| g_u (yj rfl rfl rfl tA58 tS58 rfl rfl) <| g_u (zF rfl rfl fa92_0 rfl) <| g_u (zG rfl rfl rfl tA57 tS57 rfl rfl) <| g_u (zF rfl rfl fa92_1 rfl) <| g_u (zG rfl rfl rfl tA9 tS9 rfl rfl) <| g_u (zF rfl rfl fa92_2 rfl) <| g_u (zG rfl rfl rfl tA44 tS44 rfl rfl) <| g_u (zP (canonAs_c (nthE s.events i).attrs hx) rfl rfl) <| g_u (y_ rfl tU92 us92 pl92 rfl rfl rfl rfl) <| g_u (za (X0 := z92) rfl Tryz.underlying58 tS92 tZ92 rfl rfl rfl rfl rfl rfl rfl rfl) ?_
      refine g_u (yA rfl rfl rfl rfl rfl Tryz.underlying58 Tryz.underlying58 tS92 zv92 rfl (by decide) by92 (by (try dsimp only); simp only [List.length_append, List.length_cons, List.length_nil, List.length_map, List.length_take, List.length_drop]; omega) (by (try dsimp only); simp only [List.length_append, List.length_cons, List.length_nil, List.length_map, List.length_take, List.length_drop]; omega)) ?_
      refine g_u (zF rfl rfl yw rfl) <| g_u (xO rfl rfl rfl rfl tS58 rfl rfl) ?_
      refine zI ⟨by kernel_rfl, ?_⟩
      refine zX <| zA <| zB <| g_u (zC rfl rfl) <| g_u (yG rfl rfl rfl) <| g_u (zE rfl rfl) <| zI <| zA ?_
      have et : ((s.events.take (i + 1)).map fun e => (canonE e).av) = ((s.events.take i).map fun e => (canonE e).av) ++ [(canonE (nthE s.events i)).av] := by rw [zx (yZ (d := ge0) hi), List.map_append]; rfl
      refine ⟨i + 1, hi, ⟨rfl, rfl, rfl, rfl, rfl, (by rw [et]; rfl), z8 rfl et.symm, zZ rfl (by rw [ze (by omega) (by omega)]; rfl), trivial⟩, by (try dsimp only); omega⟩
    · have hin : i = s.events.length := by have := of_decide_eq_false hb1; (try simp only [List.length_map] at this); omega
      refine zu <| zR <| zR <| zn <| zA <| zD <| zD <| yn 3010 1003 26 39 rfl rfl rfl rfl rfl rfl rfl <| zB <| g_u (zE rfl rfl) <| zI <| zA <| zU ?_
      refine zp (fun i : Nat => [(1, .ptr 1001 0), (1001, .box 63 (.imm s.av)), (2, .ptr 1002 0), (1002, .box 63 (.imm z63)), (3, .ptr 1003 0), (1003, .box 63 (.agg [.imm (.arr 16 s.trace), .imm (.arr 8 s.id), .imm (.arr 8 s.parent), .imm (sv s.state), .imm (sv s.name), .imm (iv s.kind), .imm (uv s.start), .imm (uv s.fin), .imm (.sl 7 ((wT s.attrs).map avA)), .slg 3009 3 (s.events.map fun e => (canonE e).av), .slg 3010 26 ((s.links.take i).map fun e => (canonL e).av), .imm (.agg [iv s.code, sv s.note])])), (3010, .tok 26 ((s.links.take i).map fun e => (canonL e).av)), (6, .imm (iv (i : Int)))]) (fun i => i ≤ s.links.length) (fun i => s.links.length - i) (0) ?_ ⟨rfl, rfl, rfl, rfl, rfl, (by rw [hin, List.take_length]; rfl), rfl, rfl, trivial⟩ ?_
      · exact Nat.zero_le _
      · rintro i h1; have h1 : i ≤ s.links.length := h1
        refine zD <| zD <| zB <| g_u (zC rfl rfl) <| g_u (zF rfl rfl yy rfl) <| g_u (zG rfl rfl rfl tA59 tS59 rfl rfl) <| g_u (zw rfl rfl Tryz.underlying59) <| g_u (yb rfl rfl rfl) <| zI <| zA ?_
        refine zW rfl (fun hb2 => ?_) (fun hb2 => ?_)
        · have hi : i < s.links.length := by have := of_decide_eq_true hb2; (try simp only [List.length_map] at this); omega
          have hx : wtAs (nthL s.links i).attrs ≤ 10000000 := by have h5 := yD GL.wt (nthL_mem hi); have h6 : (nthL s.links i).wt = 1 + (nthL s.links i).state.size + wtAs (nthL s.links i).attrs := rfl; omega
          refine zY <| zA <| zD <| zU <| zD <| zB <| g_u (zF rfl rfl yy rfl) <| g_u (zG rfl rfl rfl tA59 tS59 rfl rfl) <| g_u (zC rfl rfl) ?_
          refine g_u (zJ rfl rfl rfl Tryz.underlying59 tS94 (by omega) (ixL hi)) ?_
          refine g_u (zT rfl rfl tA94 tS94 rfl (by first | exact xP (GL.width _) rfl | rfl)) ?_
          refine g_uG (zl 1007 rfl rfl rfl tZ94) rfl ?_
          refine g_u (zK rfl rfl rfl tS94 (by first | exact beqW (GL.width _) | rfl) (by first | exact xy (z94_w.trans (GL.width _).symm) rfl | rfl)) ?_
          refine zI <| zA <| yE yt <| g_u (zF rfl rfl yy rfl) <| g_u (yj rfl rfl rfl tA59 tS59 rfl rfl) <| g_u (zF rfl rfl fa94_0 rfl) <| g_u (zk rfl rfl rfl tA54 tS54 rfl rfl) <| g_u (zF rfl rfl fa94_1 rfl) <| g_u (zG rfl rfl rfl tA56 tS56 rfl rfl) <| g_u (zF rfl rfl fa94_2 rfl) <| g_u (zG rfl rfl rfl tA9 tS9 rfl rfl) <| g_u (zF rfl rfl fa94_3 rfl) <| g_u (zG rfl rfl rfl tA44 tS44 rfl rfl) <| g_u (zP (canonAs_c (nthL s.links i).attrs hx) rfl rfl) <| g_u (y_ rfl tU94 us94 pl94 rfl rfl rfl rfl) <| g_u (za (X0 := z94) rfl Tryz.underlying59 tS94 tZ94 rfl rfl rfl rfl rfl rfl rfl rfl) ?_
          refine g_u (yA rfl rfl rfl rfl rfl Tryz.underlying59 Tryz.underlying59 tS94 zv94 rfl (by decide) by94 (by (try dsimp only); simp only [List.length_append, List.length_cons, List.length_nil, List.length_map, List.length_take, List.length_drop]; omega) (by (try dsimp only); simp only [List.length_append, List.length_cons, List.length_nil, List.length_map, List.length_take, List.length_drop]; omega)) ?_
          refine g_u (zF rfl rfl yy rfl) <| g_u (xO rfl rfl rfl rfl tS59 rfl rfl) ?_
          refine zI ⟨by kernel_rfl, ?_⟩
          refine zX <| zA <| zB <| g_u (zC rfl rfl) <| g_u (yG rfl rfl rfl) <| g_u (zE rfl rfl) <| zI <| zA ?_
          have et : ((s.links.take (i + 1)).map fun e => (canonL e).av) = ((s.links.take i).map fun e => (canonL e).av) ++ [(canonL (nthL s.links i)).av] := by rw [zx (yZ (d := gl0) hi), List.map_append]; rfl
          refine ⟨i + 1, hi, ⟨rfl, rfl, rfl, rfl, rfl, (by rw [et]; rfl), z8 rfl et.symm, zZ rfl (by rw [ze (by omega) (by omega)]; rfl), trivial⟩, by (try dsimp only); omega⟩
        · have hin2 : i = s.links.length := by have := of_decide_eq_false hb2; (try simp only [List.length_map] at this); omega
          refine zu <| zR <| zR <| zn <| zA <| zD <| zB <| g_u (zk rfl rfl rfl tA63 tS63 rfl rfl) ?_
          refine g_u (zK rfl rfl rfl tS63 (by first | exact beqW (GSpan.width _) | rfl) (by first | exact xy (z63_w.trans (GSpan.width _).symm) rfl | rfl)) ?_
          refine zI <| zA <| zL ?_
          exact ⟨⟨_, _, _, _, _, _, _, rfl, rfl, tA63, tS63, rfl, rfl, (rfl : toAV _ = some _).trans (congrArg some (by (rw [hin2, List.take_length]; show _ = GSpan.av (canonS s); simp only [GSpan.av, canonS, List.map_map]; rfl)))⟩, trivial⟩
end Go.Proofs
namespace Go.Proofs
open Go Go.Al
set_option maxRecDepth 10000
set_option maxHeartbeats 4000000 in
theorem canonScs_c (l : List GScope) (hw : z7 GScope.wt l ≤ 1000000) : zo Tryz.prog Γ0 36 [.sl 3 (l.map GScope.av)] [.sl 3 (l.map fun x => (canonSc x).av)] := by
  have ql := yR GScope.wt (fun e => by unfold GScope.wt; omega) l
  refine z_ Tryz.func36 rfl Tryz.ntmps36 (by kernel_rfl) rfl fun w0 I0 G0 => ?_
  refine zD <| zB <| g_u (zE rfl rfl) <| zI <| zA <| zD <| zB <| g_u (zE rfl rfl) <| zI <| zA <| zD <| zD <| xJ 3003 3 3 rfl rfl rfl rfl <| zB <| g_u (zE rfl rfl) <| zI <| zA <| zU ?_
  refine zp (fun i : Nat => [(0, .imm (.sl 3 (l.map GScope.av))), (3, .slg 3003 3 ((l.take i).map fun x => (canonSc x).av)), (3003, .tok 3 ((l.take i).map fun x => (canonSc x).av)), (4, .imm (iv (i : Int)))]) (fun i => i ≤ l.length) (fun i => l.length - i) (0) ?_ ⟨rfl, rfl, rfl, rfl, trivial⟩ ?_
  · exact Nat.zero_le _
  · rintro i h1; have h1 : i ≤ l.length := h1
    refine zD <| zD <| zB <| g_u (zC rfl rfl) <| g_u (zC rfl rfl) <| g_u (zw rfl rfl Tryz.underlying45) <| g_u (yb rfl rfl rfl) <| zI <| zA ?_
    refine zW rfl (fun hb1 => ?_) (fun hb1 => ?_)
    · have hi : i < l.length := by have := of_decide_eq_true hb1; (try simp only [List.length_map] at this); omega
      have hc1 := yD GScope.wt (vC hi)
      have hc2 : (nthC l i).wt = 1 + (nthC l i).name.size + (nthC l i).version.size + z7 GSpan.wt (nthC l i).spans := rfl
      have hc3 := yR GSpan.wt (fun e => by unfold GSpan.wt; omega) (nthC l i).spans
      refine zY <| zA <| zD <| zU <| zD <| zB <| g_u (zE rfl rfl) <| zI <| zA <| zD <| zD <| xJ 3005 5 42 rfl rfl rfl rfl <| zB <| g_u (zE rfl rfl) <| zI <| zA <| zU ?_
      refine zp (fun j : Nat => [(0, .imm (.sl 3 (l.map GScope.av))), (3, .slg 3003 3 ((l.take i).map fun x => (canonSc x).av)), (3003, .tok 3 ((l.take i).map fun x => (canonSc x).av)), (4, .imm (iv (i : Int))), (5, .slg 3005 42 (((nthC l i).spans.take j).map fun x => (canonS x).av)), (3005, .tok 42 (((nthC l i).spans.take j).map fun x => (canonS x).av)), (6, .imm (iv (j : Int)))]) (fun j => j ≤ (nthC l i).spans.length) (fun j => (nthC l i).spans.length - j) (0) ?_ ⟨rfl, rfl, rfl, rfl, rfl, rfl, rfl, trivial⟩ ?_
      · exact Nat.zero_le _
      · rintro j g1; have g1 : j ≤ (nthC l i).spans.length := g1
        refine zD <| zD <| zB <| g_u (zC rfl rfl) <| g_u (zC rfl rfl) <| g_u (zC rfl rfl) ?_
        refine g_u (zJ rfl rfl rfl Tryz.underlying45 tS51 (by omega) (ixC hi)) ?_
        refine g_u (zV rfl rfl wm rfl rfl) <| g_u (zT rfl rfl tA49 tS49 rfl rfl) <| g_u (zw rfl rfl Tryz.underlying49) <| g_u (yb rfl rfl rfl) <| zI <| zA ?_
        refine zW rfl (fun hb2 => ?_) (fun hb2 => ?_)
        · have hj : j < (nthC l i).spans.length := by have := of_decide_eq_true hb2; (try simp only [List.length_map] at this); omega
          have hx : (nthS (nthC l i).spans j).wt ≤ 1000000 := by have h5 := yD GSpan.wt (nthS_mem hj); omega
          refine zY <| zA <| zD <| zU <| zB <| g_u (zy rfl rfl) <| g_u (zC rfl rfl) <| g_u (zC rfl rfl) ?_
          refine g_u (zJ rfl rfl rfl Tryz.underlying45 tS51 (by omega) (ixC hi)) ?_
          refine g_u (zV rfl rfl wm rfl rfl) <| g_u (zT rfl rfl tA49 tS49 rfl rfl) <| g_u (zC rfl rfl) ?_
          refine g_u (zJ rfl rfl rfl Tryz.underlying49 tS63 (by omega) (ixS hj)) ?_
          refine g_u (zT rfl rfl tA63 tS63 rfl (by first | exact xP (GSpan.width _) rfl | rfl)) ?_
          refine g_u (zP (canonS_c _ hx) rfl rfl) <| g_u (za (X0 := z63) rfl Tryz.underlying49 tS63 tZ63 rfl rfl rfl rfl rfl rfl rfl rfl) ?_
          refine g_u (yA rfl rfl rfl rfl rfl Tryz.underlying49 Tryz.underlying49 tS63 zv63 rfl (by decide) by63 (by (try dsimp only); simp only [List.length_append, List.length_cons, List.length_nil, List.length_map, List.length_take, List.length_drop]; omega) (by (try dsimp only); simp only [List.length_append, List.length_cons, List.length_nil, List.length_map, List.length_take, List.length_drop]; omega)) ?_
          refine g_u (yB rfl rfl) <| zI <| zX <| zA <| zB <| g_u (zC rfl rfl) <| g_u (yG rfl rfl rfl) <| g_u (zE rfl rfl) <| zI <| zA ?_
          have et : (((nthC l i).spans.take (j + 1)).map fun x => (canonS x).av) = (((nthC l i).spans.take j).map fun x => (canonS x).av) ++ [(canonS (nthS (nthC l i).spans j)).av] := by rw [zx (yZ (d := gs0) hj), List.map_append]; rfl
          refine ⟨j + 1, hj, ⟨rfl, rfl, rfl, rfl, yV rfl et.symm, z8 rfl et.symm, zZ rfl (by rw [ze (by omega) (by omega)]; rfl), trivial⟩, by (try dsimp only); omega⟩
        · have hjn : j = (nthC l i).spans.length := by have := of_decide_eq_false hb2; (try simp only [List.length_map] at this); omega
          refine zu <| zR <| zR <| zn <| zA <| yE yt <| g_u (zy rfl rfl) <| g_u (zC rfl rfl) <| g_u (zC rfl rfl) ?_
          refine g_u (zJ rfl rfl rfl Tryz.underlying45 tS51 (by omega) (ixC hi)) ?_
          refine g_u (zV rfl rfl fa51_0 rfl rfl) <| g_u (zT rfl rfl tA9 tS9 rfl rfl) <| g_u (zC rfl rfl) <| g_u (zC rfl rfl) ?_
          refine g_u (zJ rfl rfl rfl Tryz.underlying45 tS51 (by omega) (ixC hi)) ?_
          refine g_u (zV rfl rfl fa51_1 rfl rfl) <| g_u (zT rfl rfl tA9 tS9 rfl rfl) <| g_u (zy rfl rfl) <| g_u (y_ rfl tU51 us51 pl51 rfl rfl rfl rfl) <| g_u (za (X0 := z51) rfl Tryz.underlying45 tS51 tZ51 rfl rfl rfl rfl rfl rfl rfl rfl) ?_
          refine g_u (yA rfl rfl rfl rfl rfl Tryz.underlying45 Tryz.underlying45 tS51 zv51 rfl (by decide) by51 (by (try dsimp only); simp only [List.length_append, List.length_cons, List.length_nil, List.length_map, List.length_take, List.length_drop]; omega) (by (try dsimp only); simp only [List.length_append, List.length_cons, List.length_nil, List.length_map, List.length_take, List.length_drop]; omega)) ?_
          refine g_u (yB rfl rfl) ?_
          refine zI ⟨by kernel_rfl, ?_⟩
          refine zX <| zA <| zB <| g_u (zC rfl rfl) <| g_u (yG rfl rfl rfl) <| g_u (zE rfl rfl) <| zI <| zA ?_
          have et : ((l.take (i + 1)).map fun x => (canonSc x).av) = ((l.take i).map fun x => (canonSc x).av) ++ [.agg [sv (nthC l i).name, sv (nthC l i).version, .sl 42 ((nthC l i).spans.map fun x => (canonS x).av)]] := by
            rw [zx (yZ (d := gc0) hi), List.map_append]; refine congrArg (_ ++ ·) ?_
            show [(canonSc (nthC l i)).av] = _
            simp only [GScope.av, canonSc, List.map_map]; rfl
          refine ⟨i + 1, hi, ⟨rfl, yV rfl (by rw [hjn, List.take_length]; exact et.symm), z8 rfl (by rw [hjn, List.take_length]; exact et.symm), zZ rfl (by rw [ze (by omega) (by omega)]; rfl), trivial⟩, by (try dsimp only); omega⟩
    · have hin : i = l.length := by have := of_decide_eq_false hb1; (try simp only [List.length_map] at this); omega
      refine zu <| zR <| zR <| zn <| zA <| zD <| zB <| g_u (zy rfl rfl) <| g_u (yB rfl rfl) <| zI <| zA <| zL ?_
      exact ⟨⟨(rfl : toAV (Al.look _ _) = some _).trans (congrArg some (by (rw [hin, List.take_length]))), rfl⟩, trivial⟩
set_option maxHeartbeats 4000000 in
theorem canonB_c (b : List GRes) (hw : wtB b ≤ 1000000) : zo Tryz.prog Γ0 13 [yK b] [yK (xx b)] := by
  have ql := yR GRes.wt (fun e => by unfold GRes.wt; omega) b
  have qw : wtB b = z7 GRes.wt b := rfl
  refine z_ Tryz.func13 rfl Tryz.ntmps13 (by kernel_rfl) rfl fun w0 I0 G0 => ?_
  refine zD <| zB <| g_uG (zi 1001 rfl rfl rfl rfl) rfl <| g_uG (zl 1002 rfl rfl rfl tZ24) rfl <| zI <| zA <| zD <| zB <| g_uG (zl 1003 rfl rfl rfl tZ24) rfl <| zI <| zA <| zD <| zD <| yn 3099 1003 2 0 rfl rfl rfl rfl rfl rfl rfl <| zB <| g_u (zE rfl rfl) <| zI <| zA <| zU ?_
  refine zp (fun i : Nat => [(1, .ptr 1001 0), (1001, .box 24 (.imm (yK b))), (2, .ptr 1002 0), (1002, .box 24 (.imm z24)), (3, .ptr 1003 0), (1003, .box 24 (.agg [.slg 3099 2 ((b.take i).map fun r => (canonR r).av)])), (3099, .tok 2 ((b.take i).map fun r => (canonR r).av)), (4, .imm (iv (i : Int)))]) (fun i => i ≤ b.length) (fun i => b.length - i) (0) ?_ ⟨rfl, rfl, rfl, rfl, rfl, rfl, rfl, rfl, trivial⟩ ?_
  · exact Nat.zero_le _
  · rintro i h1; have h1 : i ≤ b.length := h1
    refine zD <| zD <| zB <| g_u (zC rfl rfl) <| g_u (zF rfl rfl xD rfl) <| g_u (zG rfl rfl rfl tA22 tS22 rfl rfl) <| g_u (zw rfl rfl Tryz.underlying22) <| g_u (yb rfl rfl rfl) <| zI <| zA ?_
    refine zW rfl (fun hb1 => ?_) (fun hb1 => ?_)
    · have hi : i < b.length := by have := of_decide_eq_true hb1; (try simp only [List.length_map] at this); omega
      have hc1 := yD GRes.wt (xZ hi)
      have hc2 : (nthR b i).wt = 1 + wtAs (nthR b i).attrs + z7 GScope.wt (nthR b i).scopes := rfl
      refine zY <| zA <| zD <| zU <| yE yt <| g_u (zF rfl rfl xD rfl) <| g_u (yj rfl rfl rfl tA22 tS22 rfl rfl) <| g_u (zF rfl rfl xD rfl) <| g_u (zG rfl rfl rfl tA22 tS22 rfl rfl) <| g_u (zC rfl rfl) ?_
      refine g_u (zJ rfl rfl rfl Tryz.underlying22 tS47 (by omega) (ixR hi)) ?_
      refine g_u (zV rfl rfl fa47_0 rfl rfl) <| g_u (zT rfl rfl tA44 tS44 rfl rfl) ?_
      refine g_u (zP (canonAs_c (nthR b i).attrs (by omega)) rfl rfl) ?_
      refine g_u (zF rfl rfl xD rfl) <| g_u (zG rfl rfl rfl tA22 tS22 rfl rfl) <| g_u (zC rfl rfl) ?_
      refine g_u (zJ rfl rfl rfl Tryz.underlying22 tS47 (by omega) (ixR hi)) ?_
      refine g_u (zV rfl rfl wR rfl rfl) <| g_u (zT rfl rfl tA45 tS45 rfl rfl) ?_
      refine g_u (zP (canonScs_c (nthR b i).scopes (by omega)) rfl rfl) ?_
      refine g_u (y_ rfl tU47 us47 pl47 rfl rfl rfl rfl) <| g_u (za (X0 := z47) rfl Tryz.underlying22 tS47 tZ47 rfl rfl rfl rfl rfl rfl rfl rfl) ?_
      refine g_u (yA rfl rfl rfl rfl rfl Tryz.underlying22 Tryz.underlying22 tS47 zv47 rfl (by decide) by47 (by (try dsimp only); simp only [List.length_append, List.length_cons, List.length_nil, List.length_map, List.length_take, List.length_drop]; omega) (by (try dsimp only); simp only [List.length_append, List.length_cons, List.length_nil, List.length_map, List.length_take, List.length_drop]; omega)) ?_
      refine g_u (zF rfl rfl xD rfl) <| g_u (xO rfl rfl rfl rfl tS22 rfl rfl) ?_
      refine zI ⟨by kernel_rfl, ?_⟩
      refine zX <| zA <| zB <| g_u (zC rfl rfl) <| g_u (yG rfl rfl rfl) <| g_u (zE rfl rfl) <| zI <| zA ?_
      have et : ((b.take (i + 1)).map fun r => (canonR r).av) = ((b.take i).map fun r => (canonR r).av) ++ [.agg [.sl 7 ((wT (nthR b i).attrs).map avA), .sl 3 ((nthR b i).scopes.map fun x => (canonSc x).av)]] := by
        rw [zx (yZ (d := gr0) hi), List.map_append]; refine congrArg (_ ++ ·) ?_
        show [(canonR (nthR b i)).av] = _
        simp only [GRes.av, canonR, List.map_map]; rfl
      refine ⟨i + 1, hi, ⟨rfl, rfl, rfl, rfl, rfl, (by rw [et]; rfl), z8 rfl et.symm, zZ rfl (by rw [ze (by omega) (by omega)]; rfl), trivial⟩, by (try dsimp only); omega⟩
    · have hin : i = b.length := by have := of_decide_eq_false hb1; (try simp only [List.length_map] at this); omega
      refine zu <| zR <| zR <| zn <| zA <| zD <| zB <| g_u (zk rfl rfl rfl tA24 tS24 rfl rfl) <| g_u (zK rfl rfl rfl tS24 rfl rfl) <| zI <| zA <| zL ?_
      exact ⟨⟨_, _, _, _, _, _, _, rfl, rfl, tA24, tS24, rfl, rfl, (rfl : toAV _ = some _).trans (congrArg some (by (rw [hin, List.take_length]; show AV.agg [.sl 2 _] = AV.agg [.sl 2 ((b.map canonR).map GRes.av)]; rw [List.map_map]; rfl)))⟩, trivial⟩
end Go.Proofs
