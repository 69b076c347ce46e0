/- Texts that the proofs of this claim share, part 4: the abstract logic, plain Lean on values and batches, and walks. No condition but those typed in each lemma. -/
import Derived.Test.YtilolbiefnbccaaGreatDoorP3
set_option linter.unusedSimpArgs false
set_option linter.unusedVariables false
set_option maxHeartbeats 400000
namespace Go.Proofs
open Go Go.Al
set_option maxRecDepth 10000
theorem rquote_c (s : ByteArray) (hs : s.size ≤ 100000000000) : zn Tryz.prog Γ0 192 [sv s] [sv (z8 (quoteB (lst s)))] := by
  have hz := z0 s
  have c1 : (ByteArray.mk #[92]).size = 1 := rfl
  have c4 : (ByteArray.mk #[92, 117, 48, 48]).size = 4 := rfl
  have c0 : (ByteArray.mk #[34]).size = 1 := rfl
  refine zZ Tryz.func192 rfl Tryz.ntmps192 (by kernel_rfl) rfl fun w0 I0 G0 => ?_
  refine zE <| zB <| g_u (zD rfl rfl) <| zF <| zA <| zE <| zB <| g_u (zD rfl rfl) <| zF <| zA <| zE <| zE <| zB <| g_u (zD rfl rfl) <| zF <| zA <| zS ?_
  refine zr (fun j : Nat × ByteArray => [(0, .imm (sv s)), (3, .imm (sv j.2)), (4, .imm (iv (j.1 : Int)))]) (fun j => j.1 ≤ s.size ∧ lst j.2 = 34 :: escs ((lst s).take j.1)) (fun j => s.size - j.1) (⟨0, ⟨#[34]⟩⟩) ?_ ⟨rfl, rfl, rfl, trivial⟩ ?_
  · exact ⟨Nat.zero_le _, rfl⟩
  · rintro ⟨i, t⟩ ⟨h1, h2⟩; dsimp only at h1 h2; have hlen : t.size ≤ 1 + 6 * s.size := by have := escs_length ((lst s).take i); rw [← z0 t, h2, List.length_cons]; rw [List.length_take] at this; omega
    have e2 : i < s.size → (IntKind.i64.wrap ((i : Int) + 1)).toNat = i + 1 := fun h => by rw [zO (by omega) (by omega)]; omega
    have hx : (i : Int) < (s.size : Int) → (s.extract (i : Int).toNat (IntKind.i64.wrap ((i : Int) + 1)).toNat).size = 1 := fun h => by rw [e2 (by omega), Int.toNat_natCast]; exact ex1_size (by omega)
    refine zE <| zE <| zB <| g_u (zC rfl rfl) <| g_u (zC rfl rfl) <| g_u (yR rfl rfl Tryz.underlying9) <| g_u (yO rfl rfl rfl) <| zF <| zA ?_
    refine zL rfl (fun hb1 => ?_) (fun hb1 => ?_)
    · refine zN ?_
      refine zA <| zE <| zS <| zE <| zE <| zB <| g_u (zC rfl rfl) <| g_u (zC rfl rfl) ?_
      refine g_u (si_ix rfl rfl rfl Tryz.underlying9 (by ((try simp only [decide_eq_true_eq, decide_eq_false_iff_not, qc, ne_eq, beq_iff_eq, qd, beq_eq_false_iff_ne, Bool.not_eq_true', Bool.not_eq_false', gt_iff_lt, ge_iff_le] at *); (repeat simp (disch := omega) only [zO, z_] at *)); omega)) ?_
      refine g_u (yM rfl rfl rfl) <| g_u (zC rfl rfl) <| z6 (t := 15) rfl ?_
      rintro (hb2 | hb2)
      · rw [hb2]
        refine zM rfl rfl rfl <| zM rfl rfl rfl <| zM rfl rfl rfl <| zM rfl rfl rfl <| g_u (zi rfl rfl rfl) <| zF <| zA <| zu rfl <| zB <| g_u (zC rfl rfl) ?_
        refine g_u (yc rfl rfl rfl (by show _ ≤ (9223372036854775807 : Int); (try dsimp only); first | (simp only [zk, c0, c1, c4]; omega) | (have q := hx (of_decide_eq_true hb1); simp only [zk, zU, yA, z0, q, c1, c4]; omega))) ?_
        refine g_u (zD rfl rfl) <| zF <| zA <| zE <| zB <| g_u (zC rfl rfl) <| g_u (zC rfl rfl) ?_
        refine g_u (si_ix rfl rfl rfl Tryz.underlying9 (by ((try simp only [decide_eq_true_eq, decide_eq_false_iff_not, qc, ne_eq, beq_iff_eq, qd, beq_eq_false_iff_ne, Bool.not_eq_true', Bool.not_eq_false', gt_iff_lt, ge_iff_le] at *); (repeat simp (disch := omega) only [zO, z_] at *)); omega)) ?_
        refine g_u (yO rfl rfl rfl) <| zF <| zA ?_
        refine zL rfl (fun hb3 => ?_) (fun hb3 => ?_)
        · refine zB ?_
          refine g_u (zC rfl rfl) ?_
          refine g_u (yc rfl rfl rfl (by show _ ≤ (9223372036854775807 : Int); (try dsimp only); first | (simp only [zk, c0, c1, c4]; omega) | (have q := hx (of_decide_eq_true hb1); simp only [zk, zU, yA, z0, q, c1, c4]; omega))) ?_
          refine g_u (zC rfl rfl) <| g_u (zC rfl rfl) <| g_u (zC rfl rfl) <| g_u (zt rfl rfl rfl) ?_
          refine g_u (si_lh rfl rfl rfl rfl Tryz.underlying9 (by ((try simp only [decide_eq_true_eq, decide_eq_false_iff_not, qc, ne_eq, beq_iff_eq, qd, beq_eq_false_iff_ne, Bool.not_eq_true', Bool.not_eq_false', gt_iff_lt, ge_iff_le] at *); (repeat simp (disch := omega) only [zO, z_] at *)); omega)) ?_
          refine g_u (zQ (rhex_c _ (by have q := hx (of_decide_eq_true hb1); (try dsimp only); omega)) rfl rfl) ?_
          refine g_u (yc rfl rfl rfl (by show _ ≤ (9223372036854775807 : Int); (try dsimp only); first | (simp only [zk, c0, c1, c4]; omega) | (have q := hx (of_decide_eq_true hb1); simp only [zk, zU, yA, z0, q, c1, c4]; omega))) ?_
          refine g_u (zD rfl rfl) <| zF <| zP <| zA <| zB <| g_u (zC rfl rfl) <| g_u (zt rfl rfl rfl) <| g_u (zD rfl rfl) <| zF <| zA ?_
          change decide ((i : Int) < (s.size : Int)) = true at hb1
          have hi : i < s.size := by have := of_decide_eq_true hb1; omega
          obtain ⟨c, hc1, hc2⟩ := bAt_nat s i hi
          refine ⟨⟨i + 1, _⟩, ⟨hi, ?_⟩, ⟨rfl, rfl, zW rfl (by rw [zO (by omega) (by omega)]; rfl), trivial⟩, by dsimp only; omega⟩
          dsimp only at *
          rw [yY hc1, wO, ← List.cons_append, ← h2, e2 hi, Int.toNat_natCast]
          simp only [beq_iff_eq, beq_eq_false_iff_ne, ne_eq, decide_eq_true_eq, decide_eq_false_iff_not] at *
          first | (exfalso; omega) | exact resc1 hc1 (.inl (by omega)) | exact resc1 hc1 (.inr (by omega)) | exact resc2 hc1 (by omega) (by omega) (by omega) | exact resc3 hc1 (by omega) (by omega) (by omega)
        · refine zB ?_
          refine g_u (zC rfl rfl) <| g_u (zC rfl rfl) <| g_u (zC rfl rfl) <| g_u (zC rfl rfl) <| g_u (zt rfl rfl rfl) ?_
          refine g_u (si_lh rfl rfl rfl rfl Tryz.underlying9 (by ((try simp only [decide_eq_true_eq, decide_eq_false_iff_not, qc, ne_eq, beq_iff_eq, qd, beq_eq_false_iff_ne, Bool.not_eq_true', Bool.not_eq_false', gt_iff_lt, ge_iff_le] at *); (repeat simp (disch := omega) only [zO, z_] at *)); omega)) ?_
          refine g_u (yc rfl rfl rfl (by show _ ≤ (9223372036854775807 : Int); (try dsimp only); first | (simp only [zk, c0, c1, c4]; omega) | (have q := hx (of_decide_eq_true hb1); simp only [zk, zU, yA, z0, q, c1, c4]; omega))) ?_
          refine g_u (zD rfl rfl) <| zF <| zP <| zA <| zB <| g_u (zC rfl rfl) <| g_u (zt rfl rfl rfl) <| g_u (zD rfl rfl) <| zF <| zA ?_
          change decide ((i : Int) < (s.size : Int)) = true at hb1
          have hi : i < s.size := by have := of_decide_eq_true hb1; omega
          obtain ⟨c, hc1, hc2⟩ := bAt_nat s i hi
          refine ⟨⟨i + 1, _⟩, ⟨hi, ?_⟩, ⟨rfl, rfl, zW rfl (by rw [zO (by omega) (by omega)]; rfl), trivial⟩, by dsimp only; omega⟩
          dsimp only at *
          rw [yY hc1, wO, ← List.cons_append, ← h2, e2 hi, Int.toNat_natCast]
          simp only [beq_iff_eq, beq_eq_false_iff_ne, ne_eq, decide_eq_true_eq, decide_eq_false_iff_not] at *
          first | (exfalso; omega) | exact resc1 hc1 (.inl (by omega)) | exact resc1 hc1 (.inr (by omega)) | exact resc2 hc1 (by omega) (by omega) (by omega) | exact resc3 hc1 (by omega) (by omega) (by omega)
      · rw [hb2]
        refine zX rfl rfl (zC rfl rfl) <| zX rfl rfl (zC rfl rfl) ?_
        refine zX rfl rfl (si_ix rfl rfl rfl Tryz.underlying9 (by ((try simp only [decide_eq_true_eq, decide_eq_false_iff_not, qc, ne_eq, beq_iff_eq, qd, beq_eq_false_iff_ne, Bool.not_eq_true', Bool.not_eq_false', gt_iff_lt, ge_iff_le] at *); (repeat simp (disch := omega) only [zO, z_] at *)); omega)) ?_
        refine zX rfl rfl (yM rfl rfl rfl) <| g_u (zj rfl rfl rfl) <| zF <| zA ?_
        refine zL rfl (fun hb4 => ?_) (fun hb4 => ?_)
        · refine zB ?_
          refine g_u (zC rfl rfl) ?_
          refine g_u (yc rfl rfl rfl (by show _ ≤ (9223372036854775807 : Int); (try dsimp only); first | (simp only [zk, c0, c1, c4]; omega) | (have q := hx (of_decide_eq_true hb1); simp only [zk, zU, yA, z0, q, c1, c4]; omega))) ?_
          refine g_u (zD rfl rfl) <| zF <| zA <| zE <| zB <| g_u (zC rfl rfl) <| g_u (zC rfl rfl) ?_
          refine g_u (si_ix rfl rfl rfl Tryz.underlying9 (by ((try simp only [decide_eq_true_eq, decide_eq_false_iff_not, qc, ne_eq, beq_iff_eq, qd, beq_eq_false_iff_ne, Bool.not_eq_true', Bool.not_eq_false', gt_iff_lt, ge_iff_le] at *); (repeat simp (disch := omega) only [zO, z_] at *)); omega)) ?_
          refine g_u (yO rfl rfl rfl) <| zF <| zA ?_
          refine zL rfl (fun hb5 => ?_) (fun hb5 => ?_)
          · refine zB ?_
            refine g_u (zC rfl rfl) ?_
            refine g_u (yc rfl rfl rfl (by show _ ≤ (9223372036854775807 : Int); (try dsimp only); first | (simp only [zk, c0, c1, c4]; omega) | (have q := hx (of_decide_eq_true hb1); simp only [zk, zU, yA, z0, q, c1, c4]; omega))) ?_
            refine g_u (zC rfl rfl) <| g_u (zC rfl rfl) <| g_u (zC rfl rfl) <| g_u (zt rfl rfl rfl) ?_
            refine g_u (si_lh rfl rfl rfl rfl Tryz.underlying9 (by ((try simp only [decide_eq_true_eq, decide_eq_false_iff_not, qc, ne_eq, beq_iff_eq, qd, beq_eq_false_iff_ne, Bool.not_eq_true', Bool.not_eq_false', gt_iff_lt, ge_iff_le] at *); (repeat simp (disch := omega) only [zO, z_] at *)); omega)) ?_
            refine g_u (zQ (rhex_c _ (by have q := hx (of_decide_eq_true hb1); (try dsimp only); omega)) rfl rfl) ?_
            refine g_u (yc rfl rfl rfl (by show _ ≤ (9223372036854775807 : Int); (try dsimp only); first | (simp only [zk, c0, c1, c4]; omega) | (have q := hx (of_decide_eq_true hb1); simp only [zk, zU, yA, z0, q, c1, c4]; omega))) ?_
            refine g_u (zD rfl rfl) <| zF <| zP <| zA <| zB <| g_u (zC rfl rfl) <| g_u (zt rfl rfl rfl) <| g_u (zD rfl rfl) <| zF <| zA ?_
            change decide ((i : Int) < (s.size : Int)) = true at hb1
            have hi : i < s.size := by have := of_decide_eq_true hb1; omega
            obtain ⟨c, hc1, hc2⟩ := bAt_nat s i hi
            refine ⟨⟨i + 1, _⟩, ⟨hi, ?_⟩, ⟨rfl, rfl, zW rfl (by rw [zO (by omega) (by omega)]; rfl), trivial⟩, by dsimp only; omega⟩
            dsimp only at *
            rw [yY hc1, wO, ← List.cons_append, ← h2, e2 hi, Int.toNat_natCast]
            simp only [beq_iff_eq, beq_eq_false_iff_ne, ne_eq, decide_eq_true_eq, decide_eq_false_iff_not] at *
            first | (exfalso; omega) | exact resc1 hc1 (.inl (by omega)) | exact resc1 hc1 (.inr (by omega)) | exact resc2 hc1 (by omega) (by omega) (by omega) | exact resc3 hc1 (by omega) (by omega) (by omega)
          · refine zB ?_
            refine g_u (zC rfl rfl) <| g_u (zC rfl rfl) <| g_u (zC rfl rfl) <| g_u (zC rfl rfl) <| g_u (zt rfl rfl rfl) ?_
            refine g_u (si_lh rfl rfl rfl rfl Tryz.underlying9 (by ((try simp only [decide_eq_true_eq, decide_eq_false_iff_not, qc, ne_eq, beq_iff_eq, qd, beq_eq_false_iff_ne, Bool.not_eq_true', Bool.not_eq_false', gt_iff_lt, ge_iff_le] at *); (repeat simp (disch := omega) only [zO, z_] at *)); omega)) ?_
            refine g_u (yc rfl rfl rfl (by show _ ≤ (9223372036854775807 : Int); (try dsimp only); first | (simp only [zk, c0, c1, c4]; omega) | (have q := hx (of_decide_eq_true hb1); simp only [zk, zU, yA, z0, q, c1, c4]; omega))) ?_
            refine g_u (zD rfl rfl) <| zF <| zP <| zA <| zB <| g_u (zC rfl rfl) <| g_u (zt rfl rfl rfl) <| g_u (zD rfl rfl) <| zF <| zA ?_
            change decide ((i : Int) < (s.size : Int)) = true at hb1
            have hi : i < s.size := by have := of_decide_eq_true hb1; omega
            obtain ⟨c, hc1, hc2⟩ := bAt_nat s i hi
            refine ⟨⟨i + 1, _⟩, ⟨hi, ?_⟩, ⟨rfl, rfl, zW rfl (by rw [zO (by omega) (by omega)]; rfl), trivial⟩, by dsimp only; omega⟩
            dsimp only at *
            rw [yY hc1, wO, ← List.cons_append, ← h2, e2 hi, Int.toNat_natCast]
            simp only [beq_iff_eq, beq_eq_false_iff_ne, ne_eq, decide_eq_true_eq, decide_eq_false_iff_not] at *
            first | (exfalso; omega) | exact resc1 hc1 (.inl (by omega)) | exact resc1 hc1 (.inr (by omega)) | exact resc2 hc1 (by omega) (by omega) (by omega) | exact resc3 hc1 (by omega) (by omega) (by omega)
        · refine zN ?_
          refine zA <| zE <| zB <| g_u (zC rfl rfl) <| g_u (zC rfl rfl) ?_
          refine g_u (si_ix rfl rfl rfl Tryz.underlying9 (by ((try simp only [decide_eq_true_eq, decide_eq_false_iff_not, qc, ne_eq, beq_iff_eq, qd, beq_eq_false_iff_ne, Bool.not_eq_true', Bool.not_eq_false', gt_iff_lt, ge_iff_le] at *); (repeat simp (disch := omega) only [zO, z_] at *)); omega)) ?_
          refine g_u (yO rfl rfl rfl) <| zF <| zA ?_
          refine zL rfl (fun hb6 => ?_) (fun hb6 => ?_)
          · refine zB ?_
            refine g_u (zC rfl rfl) ?_
            refine g_u (yc rfl rfl rfl (by show _ ≤ (9223372036854775807 : Int); (try dsimp only); first | (simp only [zk, c0, c1, c4]; omega) | (have q := hx (of_decide_eq_true hb1); simp only [zk, zU, yA, z0, q, c1, c4]; omega))) ?_
            refine g_u (zC rfl rfl) <| g_u (zC rfl rfl) <| g_u (zC rfl rfl) <| g_u (zt rfl rfl rfl) ?_
            refine g_u (si_lh rfl rfl rfl rfl Tryz.underlying9 (by ((try simp only [decide_eq_true_eq, decide_eq_false_iff_not, qc, ne_eq, beq_iff_eq, qd, beq_eq_false_iff_ne, Bool.not_eq_true', Bool.not_eq_false', gt_iff_lt, ge_iff_le] at *); (repeat simp (disch := omega) only [zO, z_] at *)); omega)) ?_
            refine g_u (zQ (rhex_c _ (by have q := hx (of_decide_eq_true hb1); (try dsimp only); omega)) rfl rfl) ?_
            refine g_u (yc rfl rfl rfl (by show _ ≤ (9223372036854775807 : Int); (try dsimp only); first | (simp only [zk, c0, c1, c4]; omega) | (have q := hx (of_decide_eq_true hb1); simp only [zk, zU, yA, z0, q, c1, c4]; omega))) ?_
            refine g_u (zD rfl rfl) <| zF <| zP <| zA <| zB <| g_u (zC rfl rfl) <| g_u (zt rfl rfl rfl) <| g_u (zD rfl rfl) <| zF <| zA ?_
            change decide ((i : Int) < (s.size : Int)) = true at hb1
            have hi : i < s.size := by have := of_decide_eq_true hb1; omega
            obtain ⟨c, hc1, hc2⟩ := bAt_nat s i hi
            refine ⟨⟨i + 1, _⟩, ⟨hi, ?_⟩, ⟨rfl, rfl, zW rfl (by rw [zO (by omega) (by omega)]; rfl), trivial⟩, by dsimp only; omega⟩
            dsimp only at *
            rw [yY hc1, wO, ← List.cons_append, ← h2, e2 hi, Int.toNat_natCast]
            simp only [beq_iff_eq, beq_eq_false_iff_ne, ne_eq, decide_eq_true_eq, decide_eq_false_iff_not] at *
            first | (exfalso; omega) | exact resc1 hc1 (.inl (by omega)) | exact resc1 hc1 (.inr (by omega)) | exact resc2 hc1 (by omega) (by omega) (by omega) | exact resc3 hc1 (by omega) (by omega) (by omega)
          · refine zB ?_
            refine g_u (zC rfl rfl) <| g_u (zC rfl rfl) <| g_u (zC rfl rfl) <| g_u (zC rfl rfl) <| g_u (zt rfl rfl rfl) ?_
            refine g_u (si_lh rfl rfl rfl rfl Tryz.underlying9 (by ((try simp only [decide_eq_true_eq, decide_eq_false_iff_not, qc, ne_eq, beq_iff_eq, qd, beq_eq_false_iff_ne, Bool.not_eq_true', Bool.not_eq_false', gt_iff_lt, ge_iff_le] at *); (repeat simp (disch := omega) only [zO, z_] at *)); omega)) ?_
            refine g_u (yc rfl rfl rfl (by show _ ≤ (9223372036854775807 : Int); (try dsimp only); first | (simp only [zk, c0, c1, c4]; omega) | (have q := hx (of_decide_eq_true hb1); simp only [zk, zU, yA, z0, q, c1, c4]; omega))) ?_
            refine g_u (zD rfl rfl) <| zF <| zP <| zA <| zB <| g_u (zC rfl rfl) <| g_u (zt rfl rfl rfl) <| g_u (zD rfl rfl) <| zF <| zA ?_
            change decide ((i : Int) < (s.size : Int)) = true at hb1
            have hi : i < s.size := by have := of_decide_eq_true hb1; omega
            obtain ⟨c, hc1, hc2⟩ := bAt_nat s i hi
            refine ⟨⟨i + 1, _⟩, ⟨hi, ?_⟩, ⟨rfl, rfl, zW rfl (by rw [zO (by omega) (by omega)]; rfl), trivial⟩, by dsimp only; omega⟩
            dsimp only at *
            rw [yY hc1, wO, ← List.cons_append, ← h2, e2 hi, Int.toNat_natCast]
            simp only [beq_iff_eq, beq_eq_false_iff_ne, ne_eq, decide_eq_true_eq, decide_eq_false_iff_not] at *
            first | (exfalso; omega) | exact resc1 hc1 (.inl (by omega)) | exact resc1 hc1 (.inr (by omega)) | exact resc2 hc1 (by omega) (by omega) (by omega) | exact resc3 hc1 (by omega) (by omega) (by omega)
    · refine zw ?_
      refine zT <| zT <| zo <| zA <| zE <| zB <| g_u (zC rfl rfl) ?_
      refine g_u (yc rfl rfl rfl (by show _ ≤ (9223372036854775807 : Int); (try dsimp only); first | (simp only [zk, c0, c1, c4]; omega) | (have q := hx (of_decide_eq_true hb1); simp only [zk, zU, yA, z0, q, c1, c4]; omega))) ?_
      refine g_u (zD rfl rfl) <| zF <| zA <| zK ?_
      change decide ((i : Int) < (s.size : Int)) = false at hb1
      have hi : i = s.size := by have := of_decide_eq_false hb1; omega
      exact ⟨⟨(rfl : toAV (Al.look _ _) = some _).trans (congrArg (fun z => some (sv z)) (strOf_eq (by show lst (t ++ ⟨#[34]⟩) = _; rw [xU, h2, hi, List.take_of_length_le (Nat.le_of_eq hz)]; rfl))), rfl⟩, trivial⟩
theorem rcomma_c (i : Nat) : zn Tryz.prog Γ0 193 [iv (i : Int)] [sv (z8 (comma (i == 0)))] := by
  refine zZ Tryz.func193 rfl Tryz.ntmps193 (by kernel_rfl) rfl fun w0 I0 G0 => ?_
  refine zE <| zB <| g_u (zD rfl rfl) <| zF <| zA <| zE <| zE <| zB <| g_u (zC rfl rfl) <| g_u (yM rfl rfl rfl) <| zF <| zA ?_
  refine zL rfl (fun hb1 => ?_) (fun hb1 => ?_)
  · refine zE ?_
    refine zB <| g_u (zD rfl rfl) <| zF <| zA <| zK <| zJ ?_
    exact ⟨⟨(rfl : toAV (Al.look _ _) = some _).trans (congrArg some (by (have e : i = 0 := (by have : (i : Int) = 0 := (by simpa using hb1); omega); rw [e]; rfl))), rfl⟩, trivial⟩
  · refine zN ?_
    refine zA <| zE <| zB <| g_u (zD rfl rfl) <| zF <| zA <| zK ?_
    exact ⟨⟨(rfl : toAV (Al.look _ _) = some _).trans (congrArg some (by (have e : i ≠ 0 := (by have : (i : Int) ≠ 0 := (by simpa using hb1); omega); rw [show (i == 0) = false from by simpa using e]; rfl))), rfl⟩, trivial⟩
theorem rsimple_c (v : GV) (ho : v.ok) (hw : v.wt ≤ 10000000) : zn Tryz.prog Γ0 140 [v.av] [sv (z8 (wW v))] := by
  have lv := xY v.list
  have la := yr v.map
  have ek := v.wt_eq
  have ok := v.ok_iff.1 ho
  have sl := yi v
  have jl := yT v
  refine zZ Tryz.func140 rfl Tryz.ntmps140 (by kernel_rfl) rfl fun w0 I0 G0 => ?_
  refine zE <| zB <| g_uG (zp 1001 rfl rfl rfl rfl) rfl <| g_u (zD rfl rfl) <| zF <| zA <| zE <| zE <| zB <| g_u (zG rfl rfl yv rfl) <| g_u (zH rfl rfl rfl tA5 tS5 rfl rfl) <| g_u (yM rfl rfl rfl) <| zF <| zA ?_
  refine zL rfl (fun hb1 => ?_) (fun hb1 => ?_)
  · refine zE ?_
    refine zB <| g_u (zG rfl rfl fa91_1 rfl) <| g_u (zH rfl rfl rfl tA9 tS9 rfl rfl) <| g_u (zD rfl rfl) <| zF <| zA <| zK <| zJ ?_
    exact ⟨⟨(rfl : toAV (Al.look _ _) = some _).trans (congrArg some (by (simp only [beq_iff_eq, beq_eq_false_iff_ne, ne_eq, decide_eq_true_eq, decide_eq_false_iff_not] at *; first | (exfalso; omega) | exact congrArg sv (simp1 (by omega)).symm | (rw [simp2 (by omega) (by omega)]; rfl) | (rw [simp2' (by omega) (by omega)]; rfl) | (rw [simp3 (by omega)]) | (rw [simp4 (by omega), yF]; rfl) | (rw [simp5 (by omega)]) | (rw [simp6 (by omega)]; rfl)))), rfl⟩, trivial⟩
  · refine zN ?_
    refine zA <| zE <| zE <| zB <| g_u (zG rfl rfl yv rfl) <| g_u (zH rfl rfl rfl tA5 tS5 rfl rfl) <| g_u (yM rfl rfl rfl) <| g_u (zC rfl rfl) <| z6 (t := 11) rfl ?_
    rintro (hb2 | hb2)
    · rw [hb2]
      refine zX rfl rfl (zG rfl rfl wh rfl) <| zX rfl rfl (zH rfl rfl rfl tA3 tS3 rfl rfl) <| zX rfl rfl (yM rfl rfl rfl) <| g_u (zi rfl rfl rfl) <| zF <| zA ?_
      refine zL rfl (fun hb3 => ?_) (fun hb3 => ?_)
      · refine zE ?_
        refine zB <| g_u (zD rfl rfl) <| zF <| zA <| zK <| zJ ?_
        exact ⟨⟨(rfl : toAV (Al.look _ _) = some _).trans (congrArg some (by (simp only [beq_iff_eq, beq_eq_false_iff_ne, ne_eq, decide_eq_true_eq, decide_eq_false_iff_not] at *; first | (exfalso; omega) | exact congrArg sv (simp1 (by omega)).symm | (rw [simp2 (by omega) (by omega)]; rfl) | (rw [simp2' (by omega) (by omega)]; rfl) | (rw [simp3 (by omega)]) | (rw [simp4 (by omega), yF]; rfl) | (rw [simp5 (by omega)]) | (rw [simp6 (by omega)]; rfl)))), rfl⟩, trivial⟩
      · refine zN ?_
        refine zA <| zE <| zE <| zB <| g_u (zG rfl rfl yv rfl) <| g_u (zH rfl rfl rfl tA5 tS5 rfl rfl) <| g_u (yM rfl rfl rfl) <| zF <| zA ?_
        refine zL rfl (fun hb4 => ?_) (fun hb4 => ?_)
        · refine zE ?_
          refine zB <| g_u (zD rfl rfl) <| zF <| zA <| zK <| zJ ?_
          exact ⟨⟨(rfl : toAV (Al.look _ _) = some _).trans (congrArg some (by (simp only [beq_iff_eq, beq_eq_false_iff_ne, ne_eq, decide_eq_true_eq, decide_eq_false_iff_not] at *; first | (exfalso; omega) | exact congrArg sv (simp1 (by omega)).symm | (rw [simp2 (by omega) (by omega)]; rfl) | (rw [simp2' (by omega) (by omega)]; rfl) | (rw [simp3 (by omega)]) | (rw [simp4 (by omega), yF]; rfl) | (rw [simp5 (by omega)]) | (rw [simp6 (by omega)]; rfl)))), rfl⟩, trivial⟩
        · refine zN ?_
          refine zA <| zE <| zE <| zB <| g_u (zG rfl rfl yv rfl) <| g_u (zH rfl rfl rfl tA5 tS5 rfl rfl) <| g_u (yM rfl rfl rfl) <| zF <| zA ?_
          refine zL rfl (fun hb5 => ?_) (fun hb5 => ?_)
          · refine zE ?_
            refine zB <| g_u (zG rfl rfl wh rfl) <| g_u (zH rfl rfl rfl tA3 tS3 rfl rfl) <| g_u (zQ (rdec_c _ ok.2.2.1) rfl rfl) <| g_u (zD rfl rfl) <| zF <| zA <| zK <| zJ ?_
            exact ⟨⟨(rfl : toAV (Al.look _ _) = some _).trans (congrArg some (by (simp only [beq_iff_eq, beq_eq_false_iff_ne, ne_eq, decide_eq_true_eq, decide_eq_false_iff_not] at *; first | (exfalso; omega) | exact congrArg sv (simp1 (by omega)).symm | (rw [simp2 (by omega) (by omega)]; rfl) | (rw [simp2' (by omega) (by omega)]; rfl) | (rw [simp3 (by omega)]) | (rw [simp4 (by omega), yF]; rfl) | (rw [simp5 (by omega)]) | (rw [simp6 (by omega)]; rfl)))), rfl⟩, trivial⟩
          · refine zN ?_
            refine zA <| zE <| zE <| zB <| g_u (zG rfl rfl yv rfl) <| g_u (zH rfl rfl rfl tA5 tS5 rfl rfl) <| g_u (yM rfl rfl rfl) <| zF <| zA ?_
            refine zL rfl (fun hb6 => ?_) (fun hb6 => ?_)
            · refine zE ?_
              refine zB <| g_u (zG rfl rfl fa91_3 rfl) <| g_u (zH rfl rfl rfl tA45 tS45 rfl rfl) <| g_u (zQ (rhigh_c _ ok.2.2.2.1) rfl rfl) ?_
              refine g_u (zQ (rhex_c _ (by first | omega | (rw [zU, xl]; omega))) rfl rfl) ?_
              refine g_u (yc rfl rfl rfl (by show _ ≤ (9223372036854775807 : Int); simp only [zU, yA, yF, xl]; first | omega | (show 2 + _ ≤ _; omega) | (have c1 : (ByteArray.mk #[48, 120]).size = 2 := rfl; omega))) ?_
              refine g_u (zD rfl rfl) <| zF <| zA <| zK <| zJ ?_
              exact ⟨⟨(rfl : toAV (Al.look _ _) = some _).trans (congrArg some (by (simp only [beq_iff_eq, beq_eq_false_iff_ne, ne_eq, decide_eq_true_eq, decide_eq_false_iff_not] at *; first | (exfalso; omega) | exact congrArg sv (simp1 (by omega)).symm | (rw [simp2 (by omega) (by omega)]; rfl) | (rw [simp2' (by omega) (by omega)]; rfl) | (rw [simp3 (by omega)]) | (rw [simp4 (by omega), yF]; rfl) | (rw [simp5 (by omega)]) | (rw [simp6 (by omega)]; rfl)))), rfl⟩, trivial⟩
            · refine zN ?_
              refine zA <| zE <| zE <| zB <| g_u (zG rfl rfl yv rfl) <| g_u (zH rfl rfl rfl tA5 tS5 rfl rfl) <| g_u (yM rfl rfl rfl) <| zF <| zA ?_
              refine zL rfl (fun hb7 => ?_) (fun hb7 => ?_)
              · refine zE ?_
                refine zB <| g_u (zG rfl rfl fa91_1 rfl) <| g_u (zH rfl rfl rfl tA9 tS9 rfl rfl) ?_
                refine g_u (zQ (rhex_c _ (by first | omega | (rw [zU, xl]; omega))) rfl rfl) ?_
                refine g_u (zD rfl rfl) <| zF <| zA <| zK <| zJ ?_
                exact ⟨⟨(rfl : toAV (Al.look _ _) = some _).trans (congrArg some (by (simp only [beq_iff_eq, beq_eq_false_iff_ne, ne_eq, decide_eq_true_eq, decide_eq_false_iff_not] at *; first | (exfalso; omega) | exact congrArg sv (simp1 (by omega)).symm | (rw [simp2 (by omega) (by omega)]; rfl) | (rw [simp2' (by omega) (by omega)]; rfl) | (rw [simp3 (by omega)]) | (rw [simp4 (by omega), yF]; rfl) | (rw [simp5 (by omega)]) | (rw [simp6 (by omega)]; rfl)))), rfl⟩, trivial⟩
              · refine zN ?_
                refine zA <| zE <| zB <| g_u (zD rfl rfl) <| zF <| zA <| zK ?_
                exact ⟨⟨(rfl : toAV (Al.look _ _) = some _).trans (congrArg some (by (simp only [beq_iff_eq, beq_eq_false_iff_ne, ne_eq, decide_eq_true_eq, decide_eq_false_iff_not] at *; first | (exfalso; omega) | exact congrArg sv (simp1 (by omega)).symm | (rw [simp2 (by omega) (by omega)]; rfl) | (rw [simp2' (by omega) (by omega)]; rfl) | (rw [simp3 (by omega)]) | (rw [simp4 (by omega), yF]; rfl) | (rw [simp5 (by omega)]) | (rw [simp6 (by omega)]; rfl)))), rfl⟩, trivial⟩
    · rw [hb2]
      refine zM rfl rfl rfl <| zM rfl rfl rfl <| zM rfl rfl rfl <| g_u (zj rfl rfl rfl) <| zF <| zA <| zh rfl <| zN <| zA <| zE <| zE <| zB <| g_u (zG rfl rfl yv rfl) <| g_u (zH rfl rfl rfl tA5 tS5 rfl rfl) <| g_u (yM rfl rfl rfl) <| zF <| zA ?_
      refine zL rfl (fun hb8 => ?_) (fun hb8 => ?_)
      · refine zE ?_
        refine zB <| g_u (zD rfl rfl) <| zF <| zA <| zK <| zJ ?_
        exact ⟨⟨(rfl : toAV (Al.look _ _) = some _).trans (congrArg some (by (simp only [beq_iff_eq, beq_eq_false_iff_ne, ne_eq, decide_eq_true_eq, decide_eq_false_iff_not] at *; first | (exfalso; omega) | exact congrArg sv (simp1 (by omega)).symm | (rw [simp2 (by omega) (by omega)]; rfl) | (rw [simp2' (by omega) (by omega)]; rfl) | (rw [simp3 (by omega)]) | (rw [simp4 (by omega), yF]; rfl) | (rw [simp5 (by omega)]) | (rw [simp6 (by omega)]; rfl)))), rfl⟩, trivial⟩
      · refine zN ?_
        refine zA <| zE <| zE <| zB <| g_u (zG rfl rfl yv rfl) <| g_u (zH rfl rfl rfl tA5 tS5 rfl rfl) <| g_u (yM rfl rfl rfl) <| zF <| zA ?_
        refine zL rfl (fun hb9 => ?_) (fun hb9 => ?_)
        · refine zE ?_
          refine zB <| g_u (zG rfl rfl wh rfl) <| g_u (zH rfl rfl rfl tA3 tS3 rfl rfl) <| g_u (zQ (rdec_c _ ok.2.2.1) rfl rfl) <| g_u (zD rfl rfl) <| zF <| zA <| zK <| zJ ?_
          exact ⟨⟨(rfl : toAV (Al.look _ _) = some _).trans (congrArg some (by (simp only [beq_iff_eq, beq_eq_false_iff_ne, ne_eq, decide_eq_true_eq, decide_eq_false_iff_not] at *; first | (exfalso; omega) | exact congrArg sv (simp1 (by omega)).symm | (rw [simp2 (by omega) (by omega)]; rfl) | (rw [simp2' (by omega) (by omega)]; rfl) | (rw [simp3 (by omega)]) | (rw [simp4 (by omega), yF]; rfl) | (rw [simp5 (by omega)]) | (rw [simp6 (by omega)]; rfl)))), rfl⟩, trivial⟩
        · refine zN ?_
          refine zA <| zE <| zE <| zB <| g_u (zG rfl rfl yv rfl) <| g_u (zH rfl rfl rfl tA5 tS5 rfl rfl) <| g_u (yM rfl rfl rfl) <| zF <| zA ?_
          refine zL rfl (fun hb10 => ?_) (fun hb10 => ?_)
          · refine zE ?_
            refine zB <| g_u (zG rfl rfl fa91_3 rfl) <| g_u (zH rfl rfl rfl tA45 tS45 rfl rfl) <| g_u (zQ (rhigh_c _ ok.2.2.2.1) rfl rfl) ?_
            refine g_u (zQ (rhex_c _ (by first | omega | (rw [zU, xl]; omega))) rfl rfl) ?_
            refine g_u (yc rfl rfl rfl (by show _ ≤ (9223372036854775807 : Int); simp only [zU, yA, yF, xl]; first | omega | (show 2 + _ ≤ _; omega) | (have c1 : (ByteArray.mk #[48, 120]).size = 2 := rfl; omega))) ?_
            refine g_u (zD rfl rfl) <| zF <| zA <| zK <| zJ ?_
            exact ⟨⟨(rfl : toAV (Al.look _ _) = some _).trans (congrArg some (by (simp only [beq_iff_eq, beq_eq_false_iff_ne, ne_eq, decide_eq_true_eq, decide_eq_false_iff_not] at *; first | (exfalso; omega) | exact congrArg sv (simp1 (by omega)).symm | (rw [simp2 (by omega) (by omega)]; rfl) | (rw [simp2' (by omega) (by omega)]; rfl) | (rw [simp3 (by omega)]) | (rw [simp4 (by omega), yF]; rfl) | (rw [simp5 (by omega)]) | (rw [simp6 (by omega)]; rfl)))), rfl⟩, trivial⟩
          · refine zN ?_
            refine zA <| zE <| zE <| zB <| g_u (zG rfl rfl yv rfl) <| g_u (zH rfl rfl rfl tA5 tS5 rfl rfl) <| g_u (yM rfl rfl rfl) <| zF <| zA ?_
            refine zL rfl (fun hb11 => ?_) (fun hb11 => ?_)
            · refine zE ?_
              refine zB <| g_u (zG rfl rfl fa91_1 rfl) <| g_u (zH rfl rfl rfl tA9 tS9 rfl rfl) ?_
              refine g_u (zQ (rhex_c _ (by first | omega | (rw [zU, xl]; omega))) rfl rfl) ?_
              refine g_u (zD rfl rfl) <| zF <| zA <| zK <| zJ ?_
              exact ⟨⟨(rfl : toAV (Al.look _ _) = some _).trans (congrArg some (by (simp only [beq_iff_eq, beq_eq_false_iff_ne, ne_eq, decide_eq_true_eq, decide_eq_false_iff_not] at *; first | (exfalso; omega) | exact congrArg sv (simp1 (by omega)).symm | (rw [simp2 (by omega) (by omega)]; rfl) | (rw [simp2' (by omega) (by omega)]; rfl) | (rw [simp3 (by omega)]) | (rw [simp4 (by omega), yF]; rfl) | (rw [simp5 (by omega)]) | (rw [simp6 (by omega)]; rfl)))), rfl⟩, trivial⟩
            · refine zN ?_
              refine zA <| zE <| zB <| g_u (zD rfl rfl) <| zF <| zA <| zK ?_
              exact ⟨⟨(rfl : toAV (Al.look _ _) = some _).trans (congrArg some (by (simp only [beq_iff_eq, beq_eq_false_iff_ne, ne_eq, decide_eq_true_eq, decide_eq_false_iff_not] at *; first | (exfalso; omega) | exact congrArg sv (simp1 (by omega)).symm | (rw [simp2 (by omega) (by omega)]; rfl) | (rw [simp2' (by omega) (by omega)]; rfl) | (rw [simp3 (by omega)]) | (rw [simp4 (by omega), yF]; rfl) | (rw [simp5 (by omega)]) | (rw [simp6 (by omega)]; rfl)))), rfl⟩, trivial⟩
theorem rjson_step (v : GV) (ho : v.ok) (hw : v.wt ≤ 10000000) (ih : ∀ y ∈ v.list, zn Tryz.prog Γ0 139 [y.av] [sv (z8 (xC y))]) (ihm : ∀ a ∈ v.map, zn Tryz.prog Γ0 139 [a.val.av] [sv (z8 (xC a.val))]) : zn Tryz.prog Γ0 139 [v.av] [sv (z8 (xC v))] := by
  have lv := xY v.list
  have la := yr v.map
  have ek := v.wt_eq
  have ok := v.ok_iff.1 ho
  have sl := yi v
  have jl := yT v
  have c1 : (ByteArray.mk #[91]).size = 1 := rfl
  have c2 : (ByteArray.mk #[93]).size = 1 := rfl
  have c3 : (ByteArray.mk #[123]).size = 1 := rfl
  have c4 : (ByteArray.mk #[125]).size = 1 := rfl
  have c5 : (ByteArray.mk #[58]).size = 1 := rfl
  refine zZ Tryz.func139 rfl Tryz.ntmps139 (by kernel_rfl) rfl fun w0 I0 G0 => ?_
  refine zE <| zB <| g_uG (zp 1001 rfl rfl rfl rfl) rfl <| g_u (zD rfl rfl) <| zF <| zA <| zE <| zE <| zB <| g_u (zG rfl rfl yv rfl) <| g_u (zH rfl rfl rfl tA5 tS5 rfl rfl) <| g_u (yM rfl rfl rfl) <| zF <| zA ?_
  refine zL rfl (fun hb1 => ?_) (fun hb1 => ?_)
  · refine zE ?_
    refine zB <| g_u (zD rfl rfl) <| zF <| zA <| zK <| zJ ?_
    exact ⟨⟨(rfl : toAV (Al.look _ _) = some _).trans (congrArg some (by (simp only [beq_iff_eq, beq_eq_false_iff_ne, ne_eq, decide_eq_true_eq, decide_eq_false_iff_not] at *; rw [json0 (by omega)]; rfl))), rfl⟩, trivial⟩
  · refine zN ?_
    refine zA <| zE <| zE <| zB <| g_u (zG rfl rfl yv rfl) <| g_u (zH rfl rfl rfl tA5 tS5 rfl rfl) <| g_u (yM rfl rfl rfl) <| g_u (zC rfl rfl) <| z6 (t := 12) rfl ?_
    rintro (hb2 | hb2)
    · rw [hb2]
      refine zM rfl rfl rfl <| zM rfl rfl rfl <| zM rfl rfl rfl <| g_u (zi rfl rfl rfl) <| g_u (zC rfl rfl) <| zM rfl rfl rfl <| zM rfl rfl rfl <| zM rfl rfl rfl <| g_u (zi rfl rfl rfl) <| zF <| zA <| zu rfl <| zE <| zB <| g_u (zH rfl rfl rfl tA91 tS91 rfl rfl) <| g_u (zQ (rsimple_c _ ho hw) rfl rfl) ?_
      refine g_u (zQ (rquote_c _ (by first | exact hka | (rw [zU]; omega))) rfl rfl) ?_
      refine g_u (zD rfl rfl) <| zF <| zA <| zK <| zJ ?_
      exact ⟨⟨(rfl : toAV (Al.look _ _) = some _).trans (congrArg some (by (simp only [beq_iff_eq, beq_eq_false_iff_ne, ne_eq, decide_eq_true_eq, decide_eq_false_iff_not] at *; rw [jsonS (by omega)]; rw [yF]))), rfl⟩, trivial⟩
    · rw [hb2]
      refine zX rfl rfl (zG rfl rfl yv rfl) <| zX rfl rfl (zH rfl rfl rfl tA5 tS5 rfl rfl) <| zX rfl rfl (yM rfl rfl rfl) <| g_u (zj rfl rfl rfl) <| g_u (zC rfl rfl) <| z6 (t := 17) rfl ?_
      rintro (hb3 | hb3)
      · rw [hb3]
        refine zM rfl rfl rfl <| zM rfl rfl rfl <| zM rfl rfl rfl <| g_u (zi rfl rfl rfl) <| zF <| zA <| zu rfl <| zE <| zB <| g_u (zH rfl rfl rfl tA91 tS91 rfl rfl) <| g_u (zQ (rsimple_c _ ho hw) rfl rfl) ?_
        refine g_u (zQ (rquote_c _ (by first | exact hka | (rw [zU]; omega))) rfl rfl) ?_
        refine g_u (zD rfl rfl) <| zF <| zA <| zK <| zJ ?_
        exact ⟨⟨(rfl : toAV (Al.look _ _) = some _).trans (congrArg some (by (simp only [beq_iff_eq, beq_eq_false_iff_ne, ne_eq, decide_eq_true_eq, decide_eq_false_iff_not] at *; rw [jsonS (by omega)]; rw [yF]))), rfl⟩, trivial⟩
      · rw [hb3]
        refine zX rfl rfl (zG rfl rfl yv rfl) <| zX rfl rfl (zH rfl rfl rfl tA5 tS5 rfl rfl) <| zX rfl rfl (yM rfl rfl rfl) <| g_u (zj rfl rfl rfl) <| zF <| zA ?_
        refine zL rfl (fun hb4 => ?_) (fun hb4 => ?_)
        · refine zE ?_
          refine zB <| g_u (zH rfl rfl rfl tA91 tS91 rfl rfl) <| g_u (zQ (rsimple_c _ ho hw) rfl rfl) ?_
          refine g_u (zQ (rquote_c _ (by first | exact hka | (rw [zU]; omega))) rfl rfl) ?_
          refine g_u (zD rfl rfl) <| zF <| zA <| zK <| zJ ?_
          exact ⟨⟨(rfl : toAV (Al.look _ _) = some _).trans (congrArg some (by (simp only [beq_iff_eq, beq_eq_false_iff_ne, ne_eq, decide_eq_true_eq, decide_eq_false_iff_not] at *; rw [jsonS (by omega)]; rw [yF]))), rfl⟩, trivial⟩
        · refine zN ?_
          refine zA <| zE <| zB <| g_u (zD rfl rfl) <| zF <| zA <| zE <| zE <| zB <| g_u (zG rfl rfl yv rfl) <| g_u (zH rfl rfl rfl tA5 tS5 rfl rfl) <| g_u (yM rfl rfl rfl) <| zF <| zA ?_
          refine zL rfl (fun hb5 => ?_) (fun hb5 => ?_)
          · refine zE ?_
            refine zE <| zB <| g_u (zD rfl rfl) <| zF <| zA <| zS ?_
            refine zr (fun j : Nat × ByteArray => [(1, .ptr 1001 0), (1001, .box 91 (.imm v.av)), (3, .imm (sv j.2)), (4, .imm (iv (j.1 : Int)))]) (fun j => j.1 ≤ v.list.length ∧ lst j.2 = jsonVs true (v.list.take j.1)) (fun j => v.list.length - j.1) (⟨0, ⟨#[]⟩⟩) ?_ ⟨rfl, rfl, rfl, rfl, trivial⟩ ?_
            · exact ⟨Nat.zero_le _, rfl⟩
            · rintro ⟨i, t⟩ ⟨h1, h2⟩; dsimp only at h1 h2; have hlen : t.size ≤ 150 * wtVs (v.list.take i) := by rw [← z0 t, h2]; exact jsonVs_len _ _
              have htk := wtVs_take v.list i
              refine zE <| zE <| zB <| g_u (zC rfl rfl) <| g_u (zG rfl rfl wr rfl) <| g_u (zH rfl rfl rfl tA89 tS89 rfl rfl) <| g_u (yB rfl rfl Tryz.underlying89) <| g_u (yO rfl rfl rfl) <| zF <| zA ?_
              refine zL rfl (fun hb6 => ?_) (fun hb6 => ?_)
              · have hiv : i < v.list.length := by have := of_decide_eq_true hb6; simp only [List.length_map] at this; omega
                refine zN <| zA <| zE <| zS <| yZ xr <| g_u (zC rfl rfl) <| g_u (zC rfl rfl) <| g_u (zQ (rcomma_c _) rfl rfl) ?_
                refine g_u (yc rfl rfl rfl (by show _ ≤ (9223372036854775807 : Int); (try dsimp only); first | (have q1 := wX hiv; have q2 := yT (nthV v.list i); have q3 := yE (i == 0); simp only [zk, zU, c1, c2, c3, c4, c5]; omega) | (have q1 := yf hia; have q2 := xx (nthA v.map i); have q3 := yE (i == 0); have q4 := (nthA v.map i).wt_eq; have q5 := zx (lst (nthA v.map i).key); have q6 := z0 (nthA v.map i).key; have q7 := yT (nthA v.map i).val; simp only [zk, zU, c1, c2, c3, c4, c5]; omega) | (simp only [zk, zU, c1, c2, c3, c4, c5]; omega))) ?_
                refine g_u (zG rfl rfl wr rfl) <| g_u (zH rfl rfl rfl tA89 tS89 rfl rfl) <| g_u (zC rfl rfl) ?_
                refine g_u (za rfl rfl rfl Tryz.underlying89 tS91 (by omega) (ixV hiv)) ?_
                refine g_u (zY rfl rfl tA91 tS91 rfl rfl) ?_
                refine g_u (zQ ((by first | exact ih _ (nthV_mem hiv) | exact ihm _ (yq hia))) rfl rfl) ?_
                refine g_u (yc rfl rfl rfl (by show _ ≤ (9223372036854775807 : Int); (try dsimp only); first | (have q1 := wX hiv; have q2 := yT (nthV v.list i); have q3 := yE (i == 0); simp only [zk, zU, c1, c2, c3, c4, c5]; omega) | (have q1 := yf hia; have q2 := xx (nthA v.map i); have q3 := yE (i == 0); have q4 := (nthA v.map i).wt_eq; have q5 := zx (lst (nthA v.map i).key); have q6 := z0 (nthA v.map i).key; have q7 := yT (nthA v.map i).val; simp only [zk, zU, c1, c2, c3, c4, c5]; omega) | (simp only [zk, zU, c1, c2, c3, c4, c5]; omega))) ?_
                refine g_u (zD rfl rfl) ?_
                refine zF ⟨by kernel_rfl, ?_⟩
                refine zP <| zA <| zB <| g_u (zC rfl rfl) <| g_u (zt rfl rfl rfl) <| g_u (zD rfl rfl) <| zF <| zA ?_
                refine ⟨⟨i + 1, _⟩, ⟨hiv, ?_⟩, ⟨rfl, rfl, rfl, zW rfl (by rw [zO (by omega) (by omega)]; rfl), trivial⟩, by dsimp only; omega⟩
                show lst (t ++ z8 (comma (i == 0)) ++ z8 (xC (nthV v.list i))) = _
                rw [jsonVs_take hiv, xU, xU, yF, yF, h2]
              · have hi : i = v.list.length := by have := of_decide_eq_false hb6; simp only [List.length_map] at this; omega
                refine zw <| zT <| zT <| zo <| zA <| zE <| zB <| g_u (zC rfl rfl) ?_
                refine g_u (yc rfl rfl rfl (by show _ ≤ (9223372036854775807 : Int); (try dsimp only); first | (have q1 := wX hiv; have q2 := yT (nthV v.list i); have q3 := yE (i == 0); simp only [zk, zU, c1, c2, c3, c4, c5]; omega) | (have q1 := yf hia; have q2 := xx (nthA v.map i); have q3 := yE (i == 0); have q4 := (nthA v.map i).wt_eq; have q5 := zx (lst (nthA v.map i).key); have q6 := z0 (nthA v.map i).key; have q7 := yT (nthA v.map i).val; simp only [zk, zU, c1, c2, c3, c4, c5]; omega) | (simp only [zk, zU, c1, c2, c3, c4, c5]; omega))) ?_
                refine g_u (yc rfl rfl rfl (by show _ ≤ (9223372036854775807 : Int); (try dsimp only); first | (have q1 := wX hiv; have q2 := yT (nthV v.list i); have q3 := yE (i == 0); simp only [zk, zU, c1, c2, c3, c4, c5]; omega) | (have q1 := yf hia; have q2 := xx (nthA v.map i); have q3 := yE (i == 0); have q4 := (nthA v.map i).wt_eq; have q5 := zx (lst (nthA v.map i).key); have q6 := z0 (nthA v.map i).key; have q7 := yT (nthA v.map i).val; simp only [zk, zU, c1, c2, c3, c4, c5]; omega) | (simp only [zk, zU, c1, c2, c3, c4, c5]; omega))) ?_
                refine g_u (zD rfl rfl) <| zF <| zA <| zK <| zJ ?_
                exact ⟨⟨(rfl : toAV (Al.look _ _) = some _).trans (congrArg some (by (simp only [beq_iff_eq, beq_eq_false_iff_ne, ne_eq, decide_eq_true_eq, decide_eq_false_iff_not] at *; rw [json6 (by omega)]; refine congrArg sv (strOf_eq ?_); show lst (⟨#[91]⟩ ++ t ++ ⟨#[93]⟩) = _; rw [xU, xU, h2, hi, List.take_of_length_le (Nat.le_refl _)]; rfl))), rfl⟩, trivial⟩
          · refine zN ?_
            refine zA <| zE <| zE <| zB <| g_u (zG rfl rfl yv rfl) <| g_u (zH rfl rfl rfl tA5 tS5 rfl rfl) <| g_u (yM rfl rfl rfl) <| zF <| zA ?_
            refine zL rfl (fun hb7 => ?_) (fun hb7 => ?_)
            · refine zE ?_
              refine zE <| zB <| g_u (zD rfl rfl) <| zF <| zA <| zS ?_
              refine zr (fun j : Nat × ByteArray => [(1, .ptr 1001 0), (1001, .box 91 (.imm v.av)), (3, .imm (sv j.2)), (5, .imm (iv (j.1 : Int)))]) (fun j => j.1 ≤ v.map.length ∧ lst j.2 = jsonAs true (v.map.take j.1)) (fun j => v.map.length - j.1) (⟨0, ⟨#[]⟩⟩) ?_ ⟨rfl, rfl, rfl, rfl, trivial⟩ ?_
              · exact ⟨Nat.zero_le _, rfl⟩
              · rintro ⟨i, t⟩ ⟨h1, h2⟩; dsimp only at h1 h2; have hlen : t.size ≤ 150 * wtAs (v.map.take i) := by rw [← z0 t, h2]; exact jsonAs_len _ _
                have htk := wtAs_take v.map i
                refine zE <| zE <| zB <| g_u (zC rfl rfl) <| g_u (zG rfl rfl vF rfl) <| g_u (zH rfl rfl rfl tA46 tS46 rfl rfl) <| g_u (yB rfl rfl Tryz.underlying46) <| g_u (yO rfl rfl rfl) <| zF <| zA ?_
                refine zL rfl (fun hb8 => ?_) (fun hb8 => ?_)
                · have hia : i < v.map.length := by have := of_decide_eq_true hb8; simp only [List.length_map] at this; omega
                  have hka : (nthA v.map i).key.size ≤ 100000000000 := by have q1 := yf hia; have q4 := (nthA v.map i).wt_eq; omega
                  refine zN <| zA <| zE <| zS <| yZ xr <| g_u (zC rfl rfl) <| g_u (zC rfl rfl) <| g_u (zQ (rcomma_c _) rfl rfl) ?_
                  refine g_u (yc rfl rfl rfl (by show _ ≤ (9223372036854775807 : Int); (try dsimp only); first | (have q1 := wX hiv; have q2 := yT (nthV v.list i); have q3 := yE (i == 0); simp only [zk, zU, c1, c2, c3, c4, c5]; omega) | (have q1 := yf hia; have q2 := xx (nthA v.map i); have q3 := yE (i == 0); have q4 := (nthA v.map i).wt_eq; have q5 := zx (lst (nthA v.map i).key); have q6 := z0 (nthA v.map i).key; have q7 := yT (nthA v.map i).val; simp only [zk, zU, c1, c2, c3, c4, c5]; omega) | (simp only [zk, zU, c1, c2, c3, c4, c5]; omega))) ?_
                  refine g_u (zG rfl rfl vF rfl) <| g_u (zH rfl rfl rfl tA46 tS46 rfl rfl) <| g_u (zC rfl rfl) ?_
                  refine g_u (za rfl rfl rfl Tryz.underlying46 tS93 (by omega) (ixA hia)) ?_
                  refine g_u (zR rfl rfl fa93_0 rfl rfl) <| g_u (zY rfl rfl tA9 tS9 rfl rfl) ?_
                  refine g_u (zQ (rquote_c _ (by first | exact hka | (rw [zU]; omega))) rfl rfl) ?_
                  refine g_u (yc rfl rfl rfl (by show _ ≤ (9223372036854775807 : Int); (try dsimp only); first | (have q1 := wX hiv; have q2 := yT (nthV v.list i); have q3 := yE (i == 0); simp only [zk, zU, c1, c2, c3, c4, c5]; omega) | (have q1 := yf hia; have q2 := xx (nthA v.map i); have q3 := yE (i == 0); have q4 := (nthA v.map i).wt_eq; have q5 := zx (lst (nthA v.map i).key); have q6 := z0 (nthA v.map i).key; have q7 := yT (nthA v.map i).val; simp only [zk, zU, c1, c2, c3, c4, c5]; omega) | (simp only [zk, zU, c1, c2, c3, c4, c5]; omega))) ?_
                  refine g_u (yc rfl rfl rfl (by show _ ≤ (9223372036854775807 : Int); (try dsimp only); first | (have q1 := wX hiv; have q2 := yT (nthV v.list i); have q3 := yE (i == 0); simp only [zk, zU, c1, c2, c3, c4, c5]; omega) | (have q1 := yf hia; have q2 := xx (nthA v.map i); have q3 := yE (i == 0); have q4 := (nthA v.map i).wt_eq; have q5 := zx (lst (nthA v.map i).key); have q6 := z0 (nthA v.map i).key; have q7 := yT (nthA v.map i).val; simp only [zk, zU, c1, c2, c3, c4, c5]; omega) | (simp only [zk, zU, c1, c2, c3, c4, c5]; omega))) ?_
                  refine g_u (zG rfl rfl vF rfl) <| g_u (zH rfl rfl rfl tA46 tS46 rfl rfl) <| g_u (zC rfl rfl) ?_
                  refine g_u (za rfl rfl rfl Tryz.underlying46 tS93 (by omega) (ixA hia)) ?_
                  refine g_u (zR rfl rfl fa93_1 rfl rfl) <| g_u (zY rfl rfl tA91 tS91 rfl rfl) ?_
                  refine g_u (zQ ((by first | exact ih _ (nthV_mem hiv) | exact ihm _ (yq hia))) rfl rfl) ?_
                  refine g_u (yc rfl rfl rfl (by show _ ≤ (9223372036854775807 : Int); (try dsimp only); first | (have q1 := wX hiv; have q2 := yT (nthV v.list i); have q3 := yE (i == 0); simp only [zk, zU, c1, c2, c3, c4, c5]; omega) | (have q1 := yf hia; have q2 := xx (nthA v.map i); have q3 := yE (i == 0); have q4 := (nthA v.map i).wt_eq; have q5 := zx (lst (nthA v.map i).key); have q6 := z0 (nthA v.map i).key; have q7 := yT (nthA v.map i).val; simp only [zk, zU, c1, c2, c3, c4, c5]; omega) | (simp only [zk, zU, c1, c2, c3, c4, c5]; omega))) ?_
                  refine g_u (zD rfl rfl) ?_
                  refine zF ⟨by kernel_rfl, ?_⟩
                  refine zP <| zA <| zB <| g_u (zC rfl rfl) <| g_u (zt rfl rfl rfl) <| g_u (zD rfl rfl) <| zF <| zA ?_
                  refine ⟨⟨i + 1, _⟩, ⟨hia, ?_⟩, ⟨rfl, rfl, rfl, zW rfl (by rw [zO (by omega) (by omega)]; rfl), trivial⟩, by dsimp only; omega⟩
                  show lst (t ++ z8 (comma (i == 0)) ++ z8 (quoteB (lst (nthA v.map i).key)) ++ ⟨#[58]⟩ ++ z8 (xC (nthA v.map i).val)) = _
                  rw [jsonAs_take hia, jsonA_eq, xU, xU, xU, xU, yF, yF, yF, h2]
                  simp only [List.append_assoc]
                  rfl
                · have hi : i = v.map.length := by have := of_decide_eq_false hb8; simp only [List.length_map] at this; omega
                  refine zw <| zT <| zT <| zo <| zA <| zE <| zB <| g_u (zC rfl rfl) ?_
                  refine g_u (yc rfl rfl rfl (by show _ ≤ (9223372036854775807 : Int); (try dsimp only); first | (have q1 := wX hiv; have q2 := yT (nthV v.list i); have q3 := yE (i == 0); simp only [zk, zU, c1, c2, c3, c4, c5]; omega) | (have q1 := yf hia; have q2 := xx (nthA v.map i); have q3 := yE (i == 0); have q4 := (nthA v.map i).wt_eq; have q5 := zx (lst (nthA v.map i).key); have q6 := z0 (nthA v.map i).key; have q7 := yT (nthA v.map i).val; simp only [zk, zU, c1, c2, c3, c4, c5]; omega) | (simp only [zk, zU, c1, c2, c3, c4, c5]; omega))) ?_
                  refine g_u (yc rfl rfl rfl (by show _ ≤ (9223372036854775807 : Int); (try dsimp only); first | (have q1 := wX hiv; have q2 := yT (nthV v.list i); have q3 := yE (i == 0); simp only [zk, zU, c1, c2, c3, c4, c5]; omega) | (have q1 := yf hia; have q2 := xx (nthA v.map i); have q3 := yE (i == 0); have q4 := (nthA v.map i).wt_eq; have q5 := zx (lst (nthA v.map i).key); have q6 := z0 (nthA v.map i).key; have q7 := yT (nthA v.map i).val; simp only [zk, zU, c1, c2, c3, c4, c5]; omega) | (simp only [zk, zU, c1, c2, c3, c4, c5]; omega))) ?_
                  refine g_u (zD rfl rfl) <| zF <| zA <| zK <| zJ ?_
                  exact ⟨⟨(rfl : toAV (Al.look _ _) = some _).trans (congrArg some (by (simp only [beq_iff_eq, beq_eq_false_iff_ne, ne_eq, decide_eq_true_eq, decide_eq_false_iff_not] at *; rw [json7 (by omega)]; refine congrArg sv (strOf_eq ?_); show lst (⟨#[123]⟩ ++ t ++ ⟨#[125]⟩) = _; rw [xU, xU, h2, hi, List.take_of_length_le (Nat.le_refl _)]; rfl))), rfl⟩, trivial⟩
            · refine zN ?_
              refine zA <| zE <| zB <| g_u (zH rfl rfl rfl tA91 tS91 rfl rfl) <| g_u (zQ (rsimple_c _ ho hw) rfl rfl) <| g_u (zD rfl rfl) <| zF <| zA <| zK ?_
              exact ⟨⟨(rfl : toAV (Al.look _ _) = some _).trans (congrArg some (by (simp only [beq_iff_eq, beq_eq_false_iff_ne, ne_eq, decide_eq_true_eq, decide_eq_false_iff_not] at *; rw [jsonE (by omega)]))), rfl⟩, trivial⟩
theorem rjson_c (v : GV) : v.ok → v.wt ≤ 10000000 → zn Tryz.prog Γ0 139 [v.av] [sv (z8 (xC v))] := by
  refine GV.ind (P := fun v => v.ok → v.wt ≤ 10000000 → zn Tryz.prog Γ0 139 [v.av] [sv (z8 (xC v))]) ?_ v
  intro v h1 h2 ho hw
  have ok := v.ok_iff.1 ho
  have ek := v.wt_eq
  refine rjson_step v ho hw (fun y hy => h1 y hy (ok.2.2.2.2.1 y hy) ?_) (fun a ha => h2 a ha ((GA.ok_iff a).1 (ok.2.2.2.2.2 a ha)).2 ?_)
  · have := wtVs_mem hy; omega
  · have := wH ha; have := a.wt_eq; omega
theorem rtext_c (v : GV) (ho : v.ok) (hw : v.wt ≤ 10000000) : zn Tryz.prog Γ0 91 [v.av] [sv (textM v)] := by
  refine zZ Tryz.func91 rfl Tryz.ntmps91 (by kernel_rfl) rfl fun w0 I0 G0 => ?_
  refine zE <| zB <| g_uG (zp 1001 rfl rfl rfl rfl) rfl <| g_u (zD rfl rfl) <| zF <| zA <| zE <| zE <| zB <| g_u (zG rfl rfl yv rfl) <| g_u (zH rfl rfl rfl tA5 tS5 rfl rfl) <| g_u (yM rfl rfl rfl) <| g_u (zC rfl rfl) <| z6 (t := 6) rfl ?_
  rintro (hb1 | hb1)
  · rw [hb1]
    refine zM rfl rfl rfl <| zM rfl rfl rfl <| zM rfl rfl rfl <| g_u (zi rfl rfl rfl) <| zF <| zA <| zu rfl <| zE <| zB <| g_u (zH rfl rfl rfl tA91 tS91 rfl rfl) <| g_u (zQ (rjson_c v ho hw) rfl rfl) <| g_u (zD rfl rfl) <| zF <| zA <| zK <| zJ ?_
    exact ⟨⟨(rfl : toAV (Al.look _ _) = some _).trans (congrArg some (by (simp only [beq_iff_eq, beq_eq_false_iff_ne, ne_eq, decide_eq_true_eq, decide_eq_false_iff_not] at *; first | rw [text6 (by omega)] | rw [textE (by omega)]))), rfl⟩, trivial⟩
  · rw [hb1]
    refine zX rfl rfl (zG rfl rfl yv rfl) <| zX rfl rfl (zH rfl rfl rfl tA5 tS5 rfl rfl) <| zX rfl rfl (yM rfl rfl rfl) <| g_u (zj rfl rfl rfl) <| zF <| zA ?_
    refine zL rfl (fun hb2 => ?_) (fun hb2 => ?_)
    · refine zE ?_
      refine zB <| g_u (zH rfl rfl rfl tA91 tS91 rfl rfl) <| g_u (zQ (rjson_c v ho hw) rfl rfl) <| g_u (zD rfl rfl) <| zF <| zA <| zK <| zJ ?_
      exact ⟨⟨(rfl : toAV (Al.look _ _) = some _).trans (congrArg some (by (simp only [beq_iff_eq, beq_eq_false_iff_ne, ne_eq, decide_eq_true_eq, decide_eq_false_iff_not] at *; first | rw [text6 (by omega)] | rw [textE (by omega)]))), rfl⟩, trivial⟩
    · refine zN ?_
      refine zA <| zE <| zB <| g_u (zH rfl rfl rfl tA91 tS91 rfl rfl) <| g_u (zQ (rsimple_c _ ho hw) rfl rfl) <| g_u (zD rfl rfl) <| zF <| zA <| zK ?_
      exact ⟨⟨(rfl : toAV (Al.look _ _) = some _).trans (congrArg some (by (simp only [beq_iff_eq, beq_eq_false_iff_ne, ne_eq, decide_eq_true_eq, decide_eq_false_iff_not] at *; first | rw [text6 (by omega)] | rw [textE (by omega)]))), rfl⟩, trivial⟩
end Go.Proofs
namespace Go.Proofs
open Go Go.Al
set_option maxRecDepth 10000
def truthB (n : Int) : Bs := if n = 0 then [102, 97, 108, 115, 101] else [116, 114, 117, 101]
def wJ (v : GV) : AV :=
  if v.kind = 0 then .ifc 198 (sv (z8 [110, 117, 108, 108]))
  else if v.kind = 1 then .ifc 197 (sv v.text)
  else if v.kind = 2 then .ifc 198 (sv (z8 (truthB v.num)))
  else if v.kind = 3 then .ifc 198 (sv (z8 (decB v.num)))
  else if v.kind = 4 then .ifc 197 (sv (z8 (48 :: 120 :: hexB (be 8 v.bits.toNat))))
  else if v.kind = 5 then .ifc 197 (sv (z8 (hexB (lst v.text))))
  else if v.kind = 6 then .ifc 239 (.sl 6 (v.list.map avV))
  else if v.kind = 7 then .ifc 240 (.sl 7 (v.map.map avA))
  else .ifc 198 (sv ⟨#[]⟩)
theorem truth_c (n : Int) : zn Tryz.prog Γ0 178 [iv n] [sv (z8 (truthB n))] := by
  refine zZ Tryz.func178 rfl Tryz.ntmps178 (by kernel_rfl) rfl fun w0 I0 G0 => ?_
  refine zE <| zB <| g_u (zD rfl rfl) <| zF <| zA <| zE <| zE <| zB <| g_u (zC rfl rfl) <| g_u (y9 rfl rfl rfl) <| zF <| zA ?_
  refine zL rfl (fun hb1 => ?_) (fun hb1 => ?_)
  · refine zE ?_
    refine zB <| g_u (zD rfl rfl) <| zF <| zA <| zK <| zJ ?_
    exact ⟨⟨(rfl : toAV (Al.look _ _) = some _).trans (congrArg some (by (unfold truthB; first | (rw [if_neg (by simpa using hb1)]; rfl) | (rw [if_pos (by simpa using hb1)]; rfl)))), rfl⟩, trivial⟩
  · refine zN ?_
    refine zA <| zE <| zB <| g_u (zD rfl rfl) <| zF <| zA <| zK ?_
    exact ⟨⟨(rfl : toAV (Al.look _ _) = some _).trans (congrArg some (by (unfold truthB; first | (rw [if_neg (by simpa using hb1)]; rfl) | (rw [if_pos (by simpa using hb1)]; rfl)))), rfl⟩, trivial⟩
theorem double_c (u : Int) (h : 0 ≤ u ∧ u < 18446744073709551616) : zn Tryz.prog Γ0 179 [uv u] [sv (z8 (48 :: 120 :: hexB (be 8 u.toNat)))] := by
  have c1 : (ByteArray.mk #[48, 120]).size = 2 := rfl
  refine zZ Tryz.func179 rfl Tryz.ntmps179 (by kernel_rfl) rfl fun w0 I0 G0 => ?_
  refine zE <| zB <| g_u (zD rfl rfl) <| zF <| zA <| zE <| zB <| g_u (zC rfl rfl) ?_
  refine g_u (zQ (nil1 (n := 1) (high_c [] u h (by simp))) rfl rfl) ?_
  refine g_u (s_cvBS' (rfl) rfl rfl Tryz.underlying85 Tryz.underlying9 Tryz.underlying5) ?_
  refine g_u (zQ (htext_c _ (by rw [zU]; simp only [List.nil_append, xl]; omega)) rfl rfl) ?_
  refine g_u (yc rfl rfl rfl (by show _ ≤ (9223372036854775807 : Int); simp only [zU, yA, yF, List.nil_append, xl, c1]; omega)) ?_
  refine g_u (zD rfl rfl) <| zF <| zA <| zK ?_
  exact ⟨⟨(rfl : toAV (Al.look _ _) = some _).trans (congrArg some (by (rw [yF]; rfl))), rfl⟩, trivial⟩
theorem thing_c (v : GV) (ho : v.ok) (hw : v.wt ≤ 10000000) : zn Tryz.prog Γ0 115 [v.av] [wJ v] := by
  have lv := xY v.list
  have la := yr v.map
  have ek := v.wt_eq
  have ok := v.ok_iff.1 ho
  have sl := yi v
  have jl := yT v
  refine zZ Tryz.func115 rfl Tryz.ntmps115 (by kernel_rfl) rfl fun w0 I0 G0 => ?_
  refine zE <| zB <| g_uG (zp 1001 rfl rfl rfl rfl) rfl <| g_u (zD rfl rfl) <| zF <| zA <| zE <| zE <| zB <| g_u (zG rfl rfl yv rfl) <| g_u (zH rfl rfl rfl tA5 tS5 rfl rfl) <| zF <| zA <| zS <| zE <| zB <| g_u (yM rfl rfl rfl) <| g_u (zD rfl rfl) <| zF <| zA ?_
  refine zL rfl (fun hb1 => ?_) (fun hb1 => ?_)
  · refine zE ?_
    refine zB <| g_u (xk rfl rfl nI198) <| g_u (zD rfl rfl) <| zF <| zA <| zK <| zf <| zJ ?_
    exact ⟨⟨(rfl : toAV (Al.look _ _) = some _).trans (congrArg some (by (simp only [beq_iff_eq, beq_eq_false_iff_ne, ne_eq, decide_eq_true_eq, decide_eq_false_iff_not] at *; unfold wJ; (repeat (first | rw [if_pos (by omega)] | rw [if_neg (by omega)])); (first | done | rfl)))), rfl⟩, trivial⟩
  · refine zE ?_
    refine zB <| g_u (yM rfl rfl rfl) <| g_u (zD rfl rfl) <| zF <| zA ?_
    refine zL rfl (fun hb2 => ?_) (fun hb2 => ?_)
    · refine zE ?_
      refine zB <| g_u (zG rfl rfl fa91_1 rfl) <| g_u (zH rfl rfl rfl tA9 tS9 rfl rfl) <| g_u (xk rfl rfl nI197) <| g_u (zD rfl rfl) <| zF <| zA <| zK <| zf <| zJ ?_
      exact ⟨⟨(rfl : toAV (Al.look _ _) = some _).trans (congrArg some (by (simp only [beq_iff_eq, beq_eq_false_iff_ne, ne_eq, decide_eq_true_eq, decide_eq_false_iff_not] at *; unfold wJ; (repeat (first | rw [if_pos (by omega)] | rw [if_neg (by omega)])); (first | done | rfl)))), rfl⟩, trivial⟩
    · refine zE ?_
      refine zB <| g_u (yM rfl rfl rfl) <| g_u (zD rfl rfl) <| zF <| zA ?_
      refine zL rfl (fun hb3 => ?_) (fun hb3 => ?_)
      · refine zE ?_
        refine zB <| g_u (zG rfl rfl wh rfl) <| g_u (zH rfl rfl rfl tA3 tS3 rfl rfl) <| g_u (zQ (truth_c _) rfl rfl) <| g_u (xk rfl rfl nI198) <| g_u (zD rfl rfl) <| zF <| zA <| zK <| zf <| zJ ?_
        exact ⟨⟨(rfl : toAV (Al.look _ _) = some _).trans (congrArg some (by (simp only [beq_iff_eq, beq_eq_false_iff_ne, ne_eq, decide_eq_true_eq, decide_eq_false_iff_not] at *; unfold wJ; (repeat (first | rw [if_pos (by omega)] | rw [if_neg (by omega)])); (first | done | rfl)))), rfl⟩, trivial⟩
      · refine zE ?_
        refine zB <| g_u (yM rfl rfl rfl) <| g_u (zD rfl rfl) <| zF <| zA ?_
        refine zL rfl (fun hb4 => ?_) (fun hb4 => ?_)
        · refine zE ?_
          refine zB <| g_u (zG rfl rfl wh rfl) <| g_u (zH rfl rfl rfl tA3 tS3 rfl rfl) ?_
          refine g_u (zQ (nil1 (n := 1) (dput_c [] _ ok.2.2.1 (by simp))) rfl rfl) ?_
          refine g_u (s_cvBS' (rfl) rfl rfl Tryz.underlying85 Tryz.underlying198 Tryz.underlying5) <| g_u (xk rfl rfl nI198) <| g_u (zD rfl rfl) <| zF <| zA <| zK <| zf <| zJ ?_
          exact ⟨⟨(rfl : toAV (Al.look _ _) = some _).trans (congrArg some (by (simp only [beq_iff_eq, beq_eq_false_iff_ne, ne_eq, decide_eq_true_eq, decide_eq_false_iff_not] at *; unfold wJ; (repeat (first | rw [if_pos (by omega)] | rw [if_neg (by omega)])); (first | done | rfl)))), rfl⟩, trivial⟩
        · refine zE ?_
          refine zB <| g_u (yM rfl rfl rfl) <| g_u (zD rfl rfl) <| zF <| zA ?_
          refine zL rfl (fun hb5 => ?_) (fun hb5 => ?_)
          · refine zE ?_
            refine zB <| g_u (zG rfl rfl fa91_3 rfl) <| g_u (zH rfl rfl rfl tA45 tS45 rfl rfl) <| g_u (zQ (double_c _ ok.2.2.2.1) rfl rfl) <| g_u (xk rfl rfl nI197) <| g_u (zD rfl rfl) <| zF <| zA <| zK <| zf <| zJ ?_
            exact ⟨⟨(rfl : toAV (Al.look _ _) = some _).trans (congrArg some (by (simp only [beq_iff_eq, beq_eq_false_iff_ne, ne_eq, decide_eq_true_eq, decide_eq_false_iff_not] at *; unfold wJ; (repeat (first | rw [if_pos (by omega)] | rw [if_neg (by omega)])); (first | done | rfl)))), rfl⟩, trivial⟩
          · refine zE ?_
            refine zB <| g_u (yM rfl rfl rfl) <| g_u (zD rfl rfl) <| zF <| zA ?_
            refine zL rfl (fun hb6 => ?_) (fun hb6 => ?_)
            · refine zE ?_
              refine zB <| g_u (zG rfl rfl fa91_1 rfl) <| g_u (zH rfl rfl rfl tA9 tS9 rfl rfl) ?_
              refine g_u (zQ (htext_c _ (by omega)) rfl rfl) ?_
              refine g_u (xk rfl rfl nI197) <| g_u (zD rfl rfl) <| zF <| zA <| zK <| zf <| zJ ?_
              exact ⟨⟨(rfl : toAV (Al.look _ _) = some _).trans (congrArg some (by (simp only [beq_iff_eq, beq_eq_false_iff_ne, ne_eq, decide_eq_true_eq, decide_eq_false_iff_not] at *; unfold wJ; (repeat (first | rw [if_pos (by omega)] | rw [if_neg (by omega)])); (first | done | rfl)))), rfl⟩, trivial⟩
            · refine zE ?_
              refine zB <| g_u (yM rfl rfl rfl) <| g_u (zD rfl rfl) <| zF <| zA ?_
              refine zL rfl (fun hb7 => ?_) (fun hb7 => ?_)
              · refine zE ?_
                refine zB <| g_u (zG rfl rfl wr rfl) <| g_u (zH rfl rfl rfl tA89 tS89 rfl rfl) <| g_u (xk rfl rfl nI239) <| g_u (zD rfl rfl) <| zF <| zA <| zK <| zf <| zJ ?_
                exact ⟨⟨(rfl : toAV (Al.look _ _) = some _).trans (congrArg some (by (simp only [beq_iff_eq, beq_eq_false_iff_ne, ne_eq, decide_eq_true_eq, decide_eq_false_iff_not] at *; unfold wJ; (repeat (first | rw [if_pos (by omega)] | rw [if_neg (by omega)])); (first | done | rfl)))), rfl⟩, trivial⟩
              · refine zE ?_
                refine zB <| g_u (yM rfl rfl rfl) <| g_u (zD rfl rfl) <| zF <| zA ?_
                refine zL rfl (fun hb8 => ?_) (fun hb8 => ?_)
                · refine zE ?_
                  refine zB <| g_u (zG rfl rfl vF rfl) <| g_u (zH rfl rfl rfl tA46 tS46 rfl rfl) <| g_u (xk rfl rfl nI240) <| g_u (zD rfl rfl) <| zF <| zA <| zK <| zf <| zJ ?_
                  exact ⟨⟨(rfl : toAV (Al.look _ _) = some _).trans (congrArg some (by (simp only [beq_iff_eq, beq_eq_false_iff_ne, ne_eq, decide_eq_true_eq, decide_eq_false_iff_not] at *; unfold wJ; (repeat (first | rw [if_pos (by omega)] | rw [if_neg (by omega)])); (first | done | rfl)))), rfl⟩, trivial⟩
                · refine zN ?_
                  refine zP <| zA <| zE <| zB <| g_u (xk rfl rfl nI198) <| g_u (zD rfl rfl) <| zF <| zA <| zK ?_
                  exact ⟨⟨(rfl : toAV (Al.look _ _) = some _).trans (congrArg some (by (simp only [beq_iff_eq, beq_eq_false_iff_ne, ne_eq, decide_eq_true_eq, decide_eq_false_iff_not] at *; unfold wJ; (repeat (first | rw [if_pos (by omega)] | rw [if_neg (by omega)])); (first | done | rfl)))), rfl⟩, trivial⟩
theorem thing_p {v : GV} (h : v.kind ≠ 1 ∧ v.kind ≠ 4 ∧ v.kind ≠ 5 ∧ v.kind ≠ 6 ∧ v.kind ≠ 7) (c : zn Tryz.prog Γ0 115 [v.av] [wJ v]) : zn Tryz.prog Γ0 115 [v.av] [.ifc 198 (sv (z8 (xC v)))] := by
  have e : wJ v = .ifc 198 (sv (z8 (xC v))) := by
    unfold wJ
    by_cases h0 : v.kind = 0
    · rw [if_pos h0, json0 h0]
    · rw [if_neg h0, if_neg h.1, jsonE (by omega)]
      by_cases h2 : v.kind = 2
      · rw [if_pos h2]
        by_cases hn : v.num = 0
        · rw [simp2 h2 hn, truthB, if_pos hn]
        · rw [simp2' h2 hn, truthB, if_neg hn]
      · rw [if_neg h2]
        by_cases h3 : v.kind = 3
        · rw [if_pos h3, simp3 h3]
        · rw [if_neg h3, if_neg h.2.1, if_neg h.2.2.1, if_neg h.2.2.2.1, if_neg h.2.2.2.2, simp6 (by omega)]; rfl
  rw [← e]; exact c
theorem thing_q {v : GV} (h : v.kind = 1 ∨ v.kind = 4 ∨ v.kind = 5) (c : zn Tryz.prog Γ0 115 [v.av] [wJ v]) : zn Tryz.prog Γ0 115 [v.av] [.ifc 197 (sv (z8 (wW v)))] := by
  have e : wJ v = .ifc 197 (sv (z8 (wW v))) := by
    unfold wJ
    rcases h with h | h | h
    · rw [if_neg (by omega), if_pos h, simp1 h]
    · rw [if_neg (by omega), if_neg (by omega), if_neg (by omega), if_neg (by omega), if_pos h, simp4 h]
    · rw [if_neg (by omega), if_neg (by omega), if_neg (by omega), if_neg (by omega), if_neg (by omega), if_pos h, simp5 h]
  rw [← e]; exact c
theorem thing_l {v : GV} (h : v.kind = 6) (c : zn Tryz.prog Γ0 115 [v.av] [wJ v]) : zn Tryz.prog Γ0 115 [v.av] [.ifc 239 (.sl 6 (v.list.map avV))] := by
  have e : wJ v = .ifc 239 (.sl 6 (v.list.map avV)) := by
    unfold wJ
    rw [if_neg (by omega), if_neg (by omega), if_neg (by omega), if_neg (by omega), if_neg (by omega), if_neg (by omega), if_pos h]
  rw [← e]; exact c
theorem thing_m {v : GV} (h : v.kind = 7) (c : zn Tryz.prog Γ0 115 [v.av] [wJ v]) : zn Tryz.prog Γ0 115 [v.av] [.ifc 240 (.sl 7 (v.map.map avA))] := by
  have e : wJ v = .ifc 240 (.sl 7 (v.map.map avA)) := by
    unfold wJ
    rw [if_neg (by omega), if_neg (by omega), if_neg (by omega), if_neg (by omega), if_neg (by omega), if_neg (by omega), if_neg (by omega), if_pos h]
  rw [← e]; exact c
theorem lay_p (v : GV) (ho : v.ok) (hw : v.wt ≤ 10000000) (xs : List AV) (hx : W1 xs) (hl : xs.length + 150 * v.wt ≤ 5000000000) (hk : v.kind ≠ 1 ∧ v.kind ≠ 4 ∧ v.kind ≠ 5 ∧ v.kind ≠ 6 ∧ v.kind ≠ 7) : wm Tryz.prog Γ0 181 [.slg 100001 1 xs, .imm v.av] [(100001, .tok 1 xs)] (.slg 100001 1 (xs ++ zq (xC v))) [(100001, .tok 1 (xs ++ zq (xC v)))] := by
  have lv := xY v.list
  have la := yr v.map
  have ek := v.wt_eq
  have ok := v.ok_iff.1 ho
  have sl := yi v
  have jl := yT v
  have e0 : zq (z8 (xC v)).data.toList = zq (xC v) := by rw [xa]
  refine yz (rs := [.slg 100001 1 (xs ++ zq (xC v))]) Tryz.func181 rfl Tryz.ntmps181 (by kernel_rfl) rfl rfl rfl rfl rfl fun w0 I0 G0 E => ?_
  refine zE <| zB <| g_uG (zp 1003 rfl rfl rfl rfl) rfl <| g_u (zD rfl rfl) <| zF <| zA <| zE <| zE <| zB <| g_u (zH rfl rfl rfl tA91 tS91 rfl rfl) <| g_u (zQ (thing_p hk (thing_c v ho hw)) rfl rfl) <| zF <| zA <| zS <| zE <| zB <| g_u (wg rfl rfl nI198) <| g_u (zm rfl rfl rfl rfl) <| g_u (zm rfl rfl rfl rfl) <| zF <| zA <| zu rfl <| zE <| zB <| g_u (zD rfl rfl) <| zF <| zA <| zE <| zB <| g_u (ym rfl rfl) <| g_u (zC rfl rfl) ?_
  refine g_u (s_appendS rfl rfl rfl rfl rfl Tryz.underlying85 Tryz.underlying198 tS5 zv5 rfl by5 (by rw [zU]; omega) (by rw [zU]; omega)) ?_
  refine g_u (yb rfl rfl) <| zF <| zA <| zK <| zf <| zJ ?_
  exact ⟨⟨.inr ⟨_, rfl, vA rfl (by rw [e0]), rfl⟩, trivial⟩, ⟨wY rfl (by rw [e0]), trivial⟩⟩
theorem lay_q (v : GV) (ho : v.ok) (hw : v.wt ≤ 10000000) (xs : List AV) (hx : W1 xs) (hl : xs.length + 150 * v.wt ≤ 5000000000) (hk : v.kind = 1 ∨ v.kind = 4 ∨ v.kind = 5) : wm Tryz.prog Γ0 181 [.slg 100001 1 xs, .imm v.av] [(100001, .tok 1 xs)] (.slg 100001 1 (xs ++ zq (xC v))) [(100001, .tok 1 (xs ++ zq (xC v)))] := by
  have lv := xY v.list
  have la := yr v.map
  have ek := v.wt_eq
  have ok := v.ok_iff.1 ho
  have sl := yi v
  have jl := yT v
  refine yz (rs := [.slg 100001 1 (xs ++ zq (xC v))]) Tryz.func181 rfl Tryz.ntmps181 (by kernel_rfl) rfl rfl rfl rfl rfl fun w0 I0 G0 E => ?_
  refine zE <| zB <| g_uG (zp 1003 rfl rfl rfl rfl) rfl <| g_u (zD rfl rfl) <| zF <| zA <| zE <| zE <| zB <| g_u (zH rfl rfl rfl tA91 tS91 rfl rfl) <| g_u (zQ (thing_q hk (thing_c v ho hw)) rfl rfl) <| zF <| zA <| zS <| zE <| zB ?_
  refine g_u (xI rfl rfl nI198 tZ198 (fun z h => by rw [zv198] at h; cases h; rfl) rfl) ?_
  refine g_u (zm rfl rfl rfl rfl) <| g_u (zm rfl rfl rfl rfl) <| zF <| zA <| zh rfl <| zE <| zB <| g_u (wg rfl rfl nI197) <| g_u (zm rfl rfl rfl rfl) <| g_u (zm rfl rfl rfl rfl) <| zF <| zA <| zu rfl <| zE <| zB <| g_u (zD rfl rfl) <| zF <| zA <| zE <| zB <| g_u (ym rfl rfl) <| g_u (zC rfl rfl) ?_
  refine g_uG (xN [(3014, 20001)] (jput_c _ _ hx (by rw [zU]; omega) (by omega)) rfl rfl ⟨.inr ⟨_, rfl, rfl⟩, .inl rfl, trivial⟩ trivial rfl rfl rfl) rfl ?_
  refine g_u (yb rfl rfl) <| zF <| zA ?_
  refine aw_renTok 20001 100001 1 (xs ++ zq (quoteB (lst (z8 (wW v))))) [(4, .slg 100001 1 (xs ++ zq (quoteB (lst (z8 (wW v))))))] rfl rfl rfl rfl rfl rfl ⟨.inr (.inl ⟨rfl, rfl⟩), trivial⟩ (by rw [List.length_append, yH]; simp only [quoteB, List.length_cons]; omega) ?_
  refine zK <| zf <| zJ ?_
  exact ⟨⟨.inr ⟨_, rfl, vA rfl (by rw [jsonS hk, yF]), rfl⟩, trivial⟩, ⟨wY rfl (by rw [jsonS hk, yF]), trivial⟩⟩
theorem bytesL_cons (c : UInt8) (l : Bs) : zq (c :: l) = .v (xt c) :: zq l := rfl
theorem bytesL_nil : zq [] = [] := rfl
theorem W1.app {a b : List AV} (h : W1 a) (k : W1 b) : W1 (a ++ b) := fun x hx => (List.mem_append.1 hx).elim (h x) (k x)
theorem lay_l (v : GV) (ho : v.ok) (hw : v.wt ≤ 10000000) (xs : List AV) (hx : W1 xs) (hl : xs.length + 150 * v.wt ≤ 5000000000) (hk : v.kind = 6) (ih : ∀ y ∈ v.list, ∀ xs : List AV, W1 xs → xs.length + 150 * y.wt ≤ 5000000000 → wm Tryz.prog Γ0 181 [.slg 100001 1 xs, .imm y.av] [(100001, .tok 1 xs)] (.slg 100001 1 (xs ++ zq (xC y))) [(100001, .tok 1 (xs ++ zq (xC y)))]) : wm Tryz.prog Γ0 181 [.slg 100001 1 xs, .imm v.av] [(100001, .tok 1 xs)] (.slg 100001 1 (xs ++ zq (xC v))) [(100001, .tok 1 (xs ++ zq (xC v)))] := by
  have lv := xY v.list
  have la := yr v.map
  have ek := v.wt_eq
  have ok := v.ok_iff.1 ho
  have sl := yi v
  have jl := yT v
  refine yz (rs := [.slg 100001 1 (xs ++ zq (xC v))]) Tryz.func181 rfl Tryz.ntmps181 (by kernel_rfl) rfl rfl rfl rfl rfl fun w0 I0 G0 E => ?_
  refine zE <| zB <| g_uG (zp 1003 rfl rfl rfl rfl) rfl <| g_u (zD rfl rfl) <| zF <| zA <| zE <| zE <| zB <| g_u (zH rfl rfl rfl tA91 tS91 rfl rfl) <| g_u (zQ (thing_l hk (thing_c v ho hw)) rfl rfl) <| zF <| zA <| zS <| zE <| zB ?_
  refine g_u (xI rfl rfl nI198 tZ198 (fun z h => by rw [zv198] at h; cases h; rfl) rfl) ?_
  refine g_u (zm rfl rfl rfl rfl) <| g_u (zm rfl rfl rfl rfl) <| zF <| zA <| zh rfl <| zE <| zB ?_
  refine g_u (xI rfl rfl nI197 tZ197 (fun z h => by rw [zv197] at h; cases h; rfl) rfl) ?_
  refine g_u (zm rfl rfl rfl rfl) <| g_u (zm rfl rfl rfl rfl) <| zF <| zA <| zh rfl <| zE <| zB <| g_u (wg rfl rfl nI239) <| g_u (zm rfl rfl rfl rfl) <| g_u (zm rfl rfl rfl rfl) <| zF <| zA <| zu rfl <| zE <| zB <| g_u (zD rfl rfl) <| zF <| zA <| zE <| zB <| g_u (ym rfl rfl) <| g_u (z7 (X0 := z5) rfl Tryz.underlying85 tS5 tZ5 rfl rfl rfl rfl rfl rfl rfl rfl) ?_
  refine g_u (xX rfl rfl rfl rfl rfl Tryz.underlying85 Tryz.underlying85 tS5 zv5 rfl (by decide) by5 (by (try dsimp only); simp only [List.length_append, List.length_cons, List.length_nil]; omega) (by (try dsimp only); simp only [List.length_append, List.length_cons, List.length_nil]; omega)) ?_
  refine g_u (yb rfl rfl) <| zF <| zA <| zE <| zE <| zB <| g_u (zC rfl rfl) <| g_u (yB rfl rfl Tryz.underlying239) <| g_u (zC rfl rfl) <| zF <| zA <| zS ?_
  refine zr (fun j : Nat × List AV => [(0, .slg 100001 1 j.2), (100001, .tok 1 j.2), (33, .imm (.sl 6 (v.list.map avV))), (34, .imm (iv (v.list.length : Int))), (35, .imm (iv (j.1 : Int)))]) (fun j => j.1 ≤ v.list.length ∧ j.2 = xs ++ zq (91 :: jsonVs true (v.list.take j.1))) (fun j => v.list.length - j.1) (⟨0, xs ++ zq [91]⟩) ?_ ⟨rfl, rfl, rfl, zW rfl (by rw [List.length_map]), rfl, trivial⟩ ?_
  · exact ⟨Nat.zero_le _, rfl⟩
  · rintro ⟨i, ys⟩ ⟨h1, h2⟩; dsimp only at h1 h2; have hlen : ys.length ≤ xs.length + 1 + 150 * wtVs (v.list.take i) := by have := jsonVs_len (v.list.take i) true; rw [h2, List.length_append, yH, List.length_cons]; omega
    have hwy : W1 ys := by rw [h2]; exact hx.app (W1.bytes _)
    have htk := wtVs_take v.list i
    refine zE <| zB <| g_u (yO rfl rfl rfl) <| zF <| zA <| zE ?_
    refine zL rfl (fun hb1 => ?_) (fun hb1 => ?_)
    · have hiv : i < v.list.length := by have := of_decide_eq_true hb1; simp only [List.length_map] at this; omega
      refine zN <| zA <| zE <| zS <| zE <| zB <| g_u (zC rfl rfl) ?_
      refine g_u (za rfl rfl rfl Tryz.underlying239 tS91 (by omega) (ixV hiv)) ?_
      refine g_u (zY rfl rfl tA91 tS91 rfl rfl) <| g_uG (yG 1009 rfl rfl rfl tZ91) rfl <| g_u (zD rfl rfl) <| g_u (zV rfl rfl rfl tS91 rfl rfl) <| zF <| zA <| zE <| zE <| zB <| g_u (zC rfl rfl) <| g_u (xA rfl rfl rfl) <| zF <| zA ?_
      refine zL rfl (fun hb2 => ?_) (fun hb2 => ?_)
      · have hc : comma (i == 0) = [44] := by have hp : i ≠ 0 := (by have := of_decide_eq_true hb2; omega); rw [show (i == 0) = false from by simpa using hp]; rfl
        refine zB <| g_u (ym rfl rfl) <| g_u (z7 (X0 := z5) rfl Tryz.underlying85 tS5 tZ5 rfl rfl rfl rfl rfl rfl rfl rfl) ?_
        refine g_u (xX rfl rfl rfl rfl rfl Tryz.underlying85 Tryz.underlying85 tS5 zv5 rfl (by decide) by5 (by (try dsimp only); simp only [List.length_append, List.length_cons, List.length_nil]; omega) (by (try dsimp only); simp only [List.length_append, List.length_cons, List.length_nil]; omega)) ?_
        refine g_u (yb rfl rfl) <| zF <| zA <| zB <| g_u (ym rfl rfl) <| g_u (zz rfl rfl rfl tA91 tS91 rfl rfl) ?_
        refine g_uG (xN [(100001, 100001)] (ih _ (nthV_mem hiv) _ (by first | exact hwy | exact hwy.app (W1.bytes [44])) (by have q1 := wX hiv; (try simp only [List.length_append, List.length_cons, List.length_nil]); omega)) rfl rfl ⟨.inl rfl, .inl rfl, trivial⟩ ⟨rfl, trivial⟩ rfl rfl rfl) rfl ?_
        refine g_u (yb rfl rfl) <| zF <| zP <| zA <| zB <| g_u (zt rfl rfl rfl) <| g_u (zC rfl rfl) <| zF <| zA ?_
        refine ⟨⟨i + 1, _⟩, ⟨hiv, ?_⟩, ⟨rfl, rfl, rfl, rfl, zW rfl (by rw [zO (by omega) (by omega)]; rfl), trivial⟩, by dsimp only; omega⟩
        dsimp only
        rw [jsonVs_take hiv, hc]
        subst h2
        simp only [List.append_assoc, List.cons_append, List.nil_append, ← ye, bytesL_cons, bytesL_nil, xa, yF]
        try rfl
      · have hc : comma (i == 0) = [] := by have hp : i = 0 := (by have := of_decide_eq_false hb2; omega); rw [hp]; rfl
        refine zN <| zA <| zB <| g_u (ym rfl rfl) <| g_u (zz rfl rfl rfl tA91 tS91 rfl rfl) ?_
        refine g_uG (xN [(100001, 100001)] (ih _ (nthV_mem hiv) _ (by first | exact hwy | exact hwy.app (W1.bytes [44])) (by have q1 := wX hiv; (try simp only [List.length_append, List.length_cons, List.length_nil]); omega)) rfl rfl ⟨.inl rfl, .inl rfl, trivial⟩ ⟨rfl, trivial⟩ rfl rfl rfl) rfl ?_
        refine g_u (yb rfl rfl) <| zF <| zP <| zA <| zB <| g_u (zt rfl rfl rfl) <| g_u (zC rfl rfl) <| zF <| zA ?_
        refine ⟨⟨i + 1, _⟩, ⟨hiv, ?_⟩, ⟨rfl, rfl, rfl, rfl, zW rfl (by rw [zO (by omega) (by omega)]; rfl), trivial⟩, by dsimp only; omega⟩
        dsimp only
        rw [jsonVs_take hiv, hc]
        subst h2
        simp only [List.append_assoc, List.cons_append, List.nil_append, ← ye, bytesL_cons, bytesL_nil, xa, yF]
        try rfl
    · have hi : i = v.list.length := by have := of_decide_eq_false hb1; simp only [List.length_map] at this; omega
      refine zw <| zT <| zT <| zo <| zA <| zE <| zB <| g_u (ym rfl rfl) <| g_u (z7 (X0 := z5) rfl Tryz.underlying85 tS5 tZ5 rfl rfl rfl rfl rfl rfl rfl rfl) ?_
      refine g_u (xX rfl rfl rfl rfl rfl Tryz.underlying85 Tryz.underlying85 tS5 zv5 rfl (by decide) by5 (by (try dsimp only); simp only [List.length_append, List.length_cons, List.length_nil]; omega) (by (try dsimp only); simp only [List.length_append, List.length_cons, List.length_nil]; omega)) ?_
      refine g_u (yb rfl rfl) <| zF <| zA <| zK <| zf <| zJ ?_
      exact ⟨⟨.inr ⟨_, rfl, vA rfl (by rw [json6 hk, h2, hi, List.take_of_length_le (Nat.le_refl _), List.append_assoc]; exact congrArg (xs ++ ·) (ye _ [93])), rfl⟩, trivial⟩, ⟨wY rfl (by rw [json6 hk, h2, hi, List.take_of_length_le (Nat.le_refl _), List.append_assoc]; exact congrArg (xs ++ ·) (ye _ [93])), trivial⟩⟩
theorem lay_m (v : GV) (ho : v.ok) (hw : v.wt ≤ 10000000) (xs : List AV) (hx : W1 xs) (hl : xs.length + 150 * v.wt ≤ 5000000000) (hk : v.kind = 7) (ih : ∀ a ∈ v.map, ∀ xs : List AV, W1 xs → xs.length + 150 * a.val.wt ≤ 5000000000 → wm Tryz.prog Γ0 181 [.slg 100001 1 xs, .imm a.val.av] [(100001, .tok 1 xs)] (.slg 100001 1 (xs ++ zq (xC a.val))) [(100001, .tok 1 (xs ++ zq (xC a.val)))]) : wm Tryz.prog Γ0 181 [.slg 100001 1 xs, .imm v.av] [(100001, .tok 1 xs)] (.slg 100001 1 (xs ++ zq (xC v))) [(100001, .tok 1 (xs ++ zq (xC v)))] := by
  have lv := xY v.list
  have la := yr v.map
  have ek := v.wt_eq
  have ok := v.ok_iff.1 ho
  have sl := yi v
  have jl := yT v
  refine yz (rs := [.slg 100001 1 (xs ++ zq (xC v))]) Tryz.func181 rfl Tryz.ntmps181 (by kernel_rfl) rfl rfl rfl rfl rfl fun w0 I0 G0 E => ?_
  refine zE <| zB <| g_uG (zp 1003 rfl rfl rfl rfl) rfl <| g_u (zD rfl rfl) <| zF <| zA <| zE <| zE <| zB <| g_u (zH rfl rfl rfl tA91 tS91 rfl rfl) <| g_u (zQ (thing_m hk (thing_c v ho hw)) rfl rfl) <| zF <| zA <| zS <| zE <| zB ?_
  refine g_u (xI rfl rfl nI198 tZ198 (fun z h => by rw [zv198] at h; cases h; rfl) rfl) ?_
  refine g_u (zm rfl rfl rfl rfl) <| g_u (zm rfl rfl rfl rfl) <| zF <| zA <| zh rfl <| zE <| zB ?_
  refine g_u (xI rfl rfl nI197 tZ197 (fun z h => by rw [zv197] at h; cases h; rfl) rfl) ?_
  refine g_u (zm rfl rfl rfl rfl) <| g_u (zm rfl rfl rfl rfl) <| zF <| zA <| zh rfl <| zE <| zB ?_
  refine g_u (xI rfl rfl nI239 tZ239 (fun z h => by rw [zv239] at h; cases h; rfl) rfl) ?_
  refine g_u (zm rfl rfl rfl rfl) <| g_u (zm rfl rfl rfl rfl) <| zF <| zA <| zh rfl <| zE <| zB <| g_u (wg rfl rfl nI240) <| g_u (zm rfl rfl rfl rfl) <| g_u (zm rfl rfl rfl rfl) <| zF <| zA <| zu rfl <| zE <| zB <| g_u (zD rfl rfl) <| zF <| zA <| zE <| zB <| g_u (ym rfl rfl) <| g_u (z7 (X0 := z5) rfl Tryz.underlying85 tS5 tZ5 rfl rfl rfl rfl rfl rfl rfl rfl) ?_
  refine g_u (xX rfl rfl rfl rfl rfl Tryz.underlying85 Tryz.underlying85 tS5 zv5 rfl (by decide) by5 (by (try dsimp only); (try (have q1 := yf hia; have q2 := (nthA v.map i).wt_eq; have q3 := zx (lst (nthA v.map i).key); have q4 := z0 (nthA v.map i).key)); (try simp only [List.length_append, List.length_cons, List.length_nil, yH]); omega) (by (try dsimp only); (try (have q1 := yf hia; have q2 := (nthA v.map i).wt_eq; have q3 := zx (lst (nthA v.map i).key); have q4 := z0 (nthA v.map i).key)); (try simp only [List.length_append, List.length_cons, List.length_nil, yH]); omega)) ?_
  refine g_u (yb rfl rfl) <| zF <| zA <| zE <| zE <| zB <| g_u (zC rfl rfl) <| g_u (yB rfl rfl Tryz.underlying240) <| g_u (zC rfl rfl) <| zF <| zA <| zS ?_
  refine zr (fun j : Nat × List AV => [(0, .slg 100001 1 j.2), (100001, .tok 1 j.2), (58, .imm (.sl 7 (v.map.map avA))), (59, .imm (iv (v.map.length : Int))), (60, .imm (iv (j.1 : Int)))]) (fun j => j.1 ≤ v.map.length ∧ j.2 = xs ++ zq (123 :: jsonAs true (v.map.take j.1))) (fun j => v.map.length - j.1) (⟨0, xs ++ zq [123]⟩) ?_ ⟨rfl, rfl, rfl, zW rfl (by rw [List.length_map]), rfl, trivial⟩ ?_
  · exact ⟨Nat.zero_le _, rfl⟩
  · rintro ⟨i, ys⟩ ⟨h1, h2⟩; dsimp only at h1 h2; have hlen : ys.length ≤ xs.length + 1 + 150 * wtAs (v.map.take i) := by have := jsonAs_len (v.map.take i) true; rw [h2, List.length_append, yH, List.length_cons]; omega
    have hwy : W1 ys := by rw [h2]; exact hx.app (W1.bytes _)
    have htk := wtAs_take v.map i
    refine zE <| zB <| g_u (yO rfl rfl rfl) <| zF <| zA <| zE ?_
    refine zL rfl (fun hb1 => ?_) (fun hb1 => ?_)
    · have hia : i < v.map.length := by have := of_decide_eq_true hb1; simp only [List.length_map] at this; omega
      have hka : (nthA v.map i).key.size ≤ 10000000000 := by have q1 := yf hia; have q4 := (nthA v.map i).wt_eq; omega
      refine zN <| zA <| zE <| zS <| zE <| zB <| g_u (zC rfl rfl) ?_
      refine g_u (za rfl rfl rfl Tryz.underlying240 tS93 (by omega) (ixA hia)) ?_
      refine g_u (zY rfl rfl tA93 tS93 rfl rfl) <| g_uG (yG 1012 rfl rfl rfl tZ93) rfl <| g_u (zD rfl rfl) <| g_u (zV rfl rfl rfl tS93 rfl rfl) <| zF <| zA <| zE <| zE <| zB <| g_u (zC rfl rfl) <| g_u (xA rfl rfl rfl) <| zF <| zA ?_
      refine zL rfl (fun hb2 => ?_) (fun hb2 => ?_)
      · have hc : comma (i == 0) = [44] := by have hp : i ≠ 0 := (by have := of_decide_eq_true hb2; omega); rw [show (i == 0) = false from by simpa using hp]; rfl
        refine zB <| g_u (ym rfl rfl) <| g_u (z7 (X0 := z5) rfl Tryz.underlying85 tS5 tZ5 rfl rfl rfl rfl rfl rfl rfl rfl) ?_
        refine g_u (xX rfl rfl rfl rfl rfl Tryz.underlying85 Tryz.underlying85 tS5 zv5 rfl (by decide) by5 (by (try dsimp only); (try (have q1 := yf hia; have q2 := (nthA v.map i).wt_eq; have q3 := zx (lst (nthA v.map i).key); have q4 := z0 (nthA v.map i).key)); (try simp only [List.length_append, List.length_cons, List.length_nil, yH]); omega) (by (try dsimp only); (try (have q1 := yf hia; have q2 := (nthA v.map i).wt_eq; have q3 := zx (lst (nthA v.map i).key); have q4 := z0 (nthA v.map i).key)); (try simp only [List.length_append, List.length_cons, List.length_nil, yH]); omega)) ?_
        refine g_u (yb rfl rfl) <| zF <| zA <| yZ xr <| g_u (ym rfl rfl) <| g_u (zG rfl rfl fa93_0 rfl) <| g_u (zH rfl rfl rfl tA9 tS9 rfl rfl) ?_
        refine g_uG (xN [(3014, 20001)] (jput_c _ _ (by first | exact hwy | exact hwy.app (W1.bytes [44])) hka (by have q1 := yf hia; have q2 := (nthA v.map i).wt_eq; have q3 := zx (lst (nthA v.map i).key); have q4 := z0 (nthA v.map i).key; (try simp only [List.length_append, List.length_cons, List.length_nil, yH]); omega)) rfl rfl ⟨.inr ⟨_, rfl, rfl⟩, .inl rfl, trivial⟩ trivial rfl rfl rfl) rfl ?_
        refine g_u (z7 (X0 := z5) rfl Tryz.underlying85 tS5 tZ5 rfl rfl rfl rfl rfl rfl rfl rfl) ?_
        refine g_u (xX rfl rfl rfl rfl rfl Tryz.underlying85 Tryz.underlying85 tS5 zv5 rfl (by decide) by5 (by (try dsimp only); (try (have q1 := yf hia; have q2 := (nthA v.map i).wt_eq; have q3 := zx (lst (nthA v.map i).key); have q4 := z0 (nthA v.map i).key)); (try simp only [List.length_append, List.length_cons, List.length_nil, yH]); omega) (by (try dsimp only); (try (have q1 := yf hia; have q2 := (nthA v.map i).wt_eq; have q3 := zx (lst (nthA v.map i).key); have q4 := z0 (nthA v.map i).key)); (try simp only [List.length_append, List.length_cons, List.length_nil, yH]); omega)) ?_
        refine g_u (zG rfl rfl fa93_1 rfl) <| g_u (zH rfl rfl rfl tA91 tS91 rfl rfl) ?_
        refine g_uG (xN [(100001, 20001)] (ih _ (yq hia) _ (by first | exact ((hwy.app (W1.bytes _)).app (W1.bytes [58])) | exact (((hwy.app (W1.bytes [44])).app (W1.bytes _)).app (W1.bytes [58]))) (by show _ + 150 * (nthA v.map i).val.wt ≤ 5000000000; have q1 := yf hia; have q2 := (nthA v.map i).wt_eq; have q3 := zx (lst (nthA v.map i).key); have q4 := z0 (nthA v.map i).key; (try simp only [List.length_append, List.length_cons, List.length_nil, yH]); omega)) rfl rfl ⟨.inl rfl, .inl rfl, trivial⟩ ⟨rfl, trivial⟩ rfl rfl rfl) rfl ?_
        refine g_u (yb rfl rfl) ?_
        refine zF ⟨by kernel_rfl, ?_⟩
        refine zP <| zA ?_
        refine aw_renTok 20001 100001 1 _ [(0, .slg 100001 1 _), (58, .imm (.sl 7 (v.map.map avA))), (59, .imm (iv (v.map.length : Int))), (60, .imm (iv (i : Int)))] rfl rfl rfl rfl rfl rfl ⟨.inr (.inl ⟨rfl, rfl⟩), .inl ⟨rfl, rfl⟩, .inl ⟨rfl, rfl⟩, .inl ⟨rfl, rfl⟩, trivial⟩ (by simp only [List.length_append, List.length_cons, List.length_nil, yH]; omega) ?_
        refine zB <| g_u (zt rfl rfl rfl) <| g_u (zC rfl rfl) <| zF <| zA ?_
        refine ⟨⟨i + 1, _⟩, ⟨hia, ?_⟩, ⟨rfl, rfl, rfl, rfl, zW rfl (by rw [zO (by omega) (by omega)]; rfl), trivial⟩, by dsimp only; omega⟩
        dsimp only
        rw [jsonAs_take hia, hc, jsonA_eq]
        subst h2
        simp only [List.append_assoc, List.cons_append, List.nil_append, ← ye, bytesL_cons, bytesL_nil, xa, yF]
        try rfl
      · have hc : comma (i == 0) = [] := by have hp : i = 0 := (by have := of_decide_eq_false hb2; omega); rw [hp]; rfl
        refine zN <| zA <| yZ xr <| g_u (ym rfl rfl) <| g_u (zG rfl rfl fa93_0 rfl) <| g_u (zH rfl rfl rfl tA9 tS9 rfl rfl) ?_
        refine g_uG (xN [(3014, 20002)] (jput_c _ _ (by first | exact hwy | exact hwy.app (W1.bytes [44])) hka (by have q1 := yf hia; have q2 := (nthA v.map i).wt_eq; have q3 := zx (lst (nthA v.map i).key); have q4 := z0 (nthA v.map i).key; (try simp only [List.length_append, List.length_cons, List.length_nil, yH]); omega)) rfl rfl ⟨.inr ⟨_, rfl, rfl⟩, .inl rfl, trivial⟩ trivial rfl rfl rfl) rfl ?_
        refine g_u (z7 (X0 := z5) rfl Tryz.underlying85 tS5 tZ5 rfl rfl rfl rfl rfl rfl rfl rfl) ?_
        refine g_u (xX rfl rfl rfl rfl rfl Tryz.underlying85 Tryz.underlying85 tS5 zv5 rfl (by decide) by5 (by (try dsimp only); (try (have q1 := yf hia; have q2 := (nthA v.map i).wt_eq; have q3 := zx (lst (nthA v.map i).key); have q4 := z0 (nthA v.map i).key)); (try simp only [List.length_append, List.length_cons, List.length_nil, yH]); omega) (by (try dsimp only); (try (have q1 := yf hia; have q2 := (nthA v.map i).wt_eq; have q3 := zx (lst (nthA v.map i).key); have q4 := z0 (nthA v.map i).key)); (try simp only [List.length_append, List.length_cons, List.length_nil, yH]); omega)) ?_
        refine g_u (zG rfl rfl fa93_1 rfl) <| g_u (zH rfl rfl rfl tA91 tS91 rfl rfl) ?_
        refine g_uG (xN [(100001, 20002)] (ih _ (yq hia) _ (by first | exact ((hwy.app (W1.bytes _)).app (W1.bytes [58])) | exact (((hwy.app (W1.bytes [44])).app (W1.bytes _)).app (W1.bytes [58]))) (by show _ + 150 * (nthA v.map i).val.wt ≤ 5000000000; have q1 := yf hia; have q2 := (nthA v.map i).wt_eq; have q3 := zx (lst (nthA v.map i).key); have q4 := z0 (nthA v.map i).key; (try simp only [List.length_append, List.length_cons, List.length_nil, yH]); omega)) rfl rfl ⟨.inl rfl, .inl rfl, trivial⟩ ⟨rfl, trivial⟩ rfl rfl rfl) rfl ?_
        refine g_u (yb rfl rfl) ?_
        refine zF ⟨by kernel_rfl, ?_⟩
        refine zP <| zA ?_
        refine aw_renTok 20002 100001 1 _ [(0, .slg 100001 1 _), (58, .imm (.sl 7 (v.map.map avA))), (59, .imm (iv (v.map.length : Int))), (60, .imm (iv (i : Int)))] rfl rfl rfl rfl rfl rfl ⟨.inr (.inl ⟨rfl, rfl⟩), .inl ⟨rfl, rfl⟩, .inl ⟨rfl, rfl⟩, .inl ⟨rfl, rfl⟩, trivial⟩ (by simp only [List.length_append, List.length_cons, List.length_nil, yH]; omega) ?_
        refine zB <| g_u (zt rfl rfl rfl) <| g_u (zC rfl rfl) <| zF <| zA ?_
        refine ⟨⟨i + 1, _⟩, ⟨hia, ?_⟩, ⟨rfl, rfl, rfl, rfl, zW rfl (by rw [zO (by omega) (by omega)]; rfl), trivial⟩, by dsimp only; omega⟩
        dsimp only
        rw [jsonAs_take hia, hc, jsonA_eq]
        subst h2
        simp only [List.append_assoc, List.cons_append, List.nil_append, ← ye, bytesL_cons, bytesL_nil, xa, yF]
        try rfl
    · have hi : i = v.map.length := by have := of_decide_eq_false hb1; simp only [List.length_map] at this; omega
      refine zw <| zT <| zT <| zo <| zA <| zE <| zB <| g_u (ym rfl rfl) <| g_u (z7 (X0 := z5) rfl Tryz.underlying85 tS5 tZ5 rfl rfl rfl rfl rfl rfl rfl rfl) ?_
      refine g_u (xX rfl rfl rfl rfl rfl Tryz.underlying85 Tryz.underlying85 tS5 zv5 rfl (by decide) by5 (by (try dsimp only); (try (have q1 := yf hia; have q2 := (nthA v.map i).wt_eq; have q3 := zx (lst (nthA v.map i).key); have q4 := z0 (nthA v.map i).key)); (try simp only [List.length_append, List.length_cons, List.length_nil, yH]); omega) (by (try dsimp only); (try (have q1 := yf hia; have q2 := (nthA v.map i).wt_eq; have q3 := zx (lst (nthA v.map i).key); have q4 := z0 (nthA v.map i).key)); (try simp only [List.length_append, List.length_cons, List.length_nil, yH]); omega)) ?_
      refine g_u (yb rfl rfl) <| zF <| zA <| zK <| zf <| zJ ?_
      exact ⟨⟨.inr ⟨_, rfl, vA rfl (by rw [json7 hk, h2, hi, List.take_of_length_le (Nat.le_refl _), List.append_assoc]; exact congrArg (xs ++ ·) (ye _ [125])), rfl⟩, trivial⟩, ⟨wY rfl (by rw [json7 hk, h2, hi, List.take_of_length_le (Nat.le_refl _), List.append_assoc]; exact congrArg (xs ++ ·) (ye _ [125])), trivial⟩⟩
theorem lay_c (v : GV) : v.ok → v.wt ≤ 10000000 → ∀ xs : List AV, W1 xs → xs.length + 150 * v.wt ≤ 5000000000 → wm Tryz.prog Γ0 181 [.slg 100001 1 xs, .imm v.av] [(100001, .tok 1 xs)] (.slg 100001 1 (xs ++ zq (xC v))) [(100001, .tok 1 (xs ++ zq (xC v)))] := by
  refine GV.ind (P := fun v => v.ok → v.wt ≤ 10000000 → ∀ xs : List AV, W1 xs → xs.length + 150 * v.wt ≤ 5000000000 → wm Tryz.prog Γ0 181 [.slg 100001 1 xs, .imm v.av] [(100001, .tok 1 xs)] (.slg 100001 1 (xs ++ zq (xC v))) [(100001, .tok 1 (xs ++ zq (xC v)))]) ?_ v
  intro v h1 h2 ho hw xs hx hl
  have ok := v.ok_iff.1 ho
  have ek := v.wt_eq
  by_cases h6 : v.kind = 6
  · exact lay_l v ho hw xs hx hl h6 fun y hy ys hy1 hy2 => h1 y hy (ok.2.2.2.2.1 y hy) (by have := wtVs_mem hy; omega) ys hy1 hy2
  by_cases h7 : v.kind = 7
  · exact lay_m v ho hw xs hx hl h7 fun a ha ys hy1 hy2 => h2 a ha ((GA.ok_iff a).1 (ok.2.2.2.2.2 a ha)).2 (by have := wH ha; have := a.wt_eq; omega) ys hy1 hy2
  by_cases hq : v.kind = 1 ∨ v.kind = 4 ∨ v.kind = 5
  · exact lay_q v ho hw xs hx hl hq
  · exact lay_p v ho hw xs hx hl (by omega)
theorem json_c (v : GV) (ho : v.ok) (hw : v.wt ≤ 10000000) : zn Tryz.prog Γ0 116 [v.av] [sv (z8 (xC v))] := by
  have lv := xY v.list
  have la := yr v.map
  have ek := v.wt_eq
  have ok := v.ok_iff.1 ho
  have sl := yi v
  have jl := yT v
  refine zZ Tryz.func116 rfl Tryz.ntmps116 (by kernel_rfl) rfl fun w0 I0 G0 => ?_
  refine zE <| zB <| g_uG (zp 1001 rfl rfl rfl rfl) rfl <| g_u (zD rfl rfl) <| zF <| zA <| zE <| zB <| g_u (zH rfl rfl rfl tA91 tS91 rfl rfl) ?_
  refine g_u (zQ (pcall_nil (n := 1) (xs := [v.av]) (lay_c v ho hw [] (fun x hx => by cases hx) (by simp only [List.length_nil]; omega))) rfl rfl) ?_
  refine g_u (s_cvBS' (rfl) rfl rfl Tryz.underlying85 Tryz.underlying9 Tryz.underlying5) <| g_u (zD rfl rfl) <| zF <| zA <| zK ?_
  exact ⟨⟨(rfl : toAV (Al.look _ _) = some _).trans (congrArg some (by rfl)), rfl⟩, trivial⟩
theorem text_q (v : GV) (ho : v.ok) (hw : v.wt ≤ 10000000) (hk : v.kind = 1 ∨ v.kind = 4 ∨ v.kind = 5) : zn Tryz.prog Γ0 82 [v.av] [sv (textM v)] := by
  have lv := xY v.list
  have la := yr v.map
  have ek := v.wt_eq
  have ok := v.ok_iff.1 ho
  have sl := yi v
  have jl := yT v
  refine zZ Tryz.func82 rfl Tryz.ntmps82 (by kernel_rfl) rfl fun w0 I0 G0 => ?_
  refine zE <| zB <| g_uG (zp 1001 rfl rfl rfl rfl) rfl <| g_u (zD rfl rfl) <| zF <| zA <| zE <| zE <| zB <| g_u (zH rfl rfl rfl tA91 tS91 rfl rfl) <| g_u (zQ (thing_q hk (thing_c v ho hw)) rfl rfl) <| zF <| zA <| zS <| zE <| zB <| g_u (wg rfl rfl nI197) <| g_u (zm rfl rfl rfl rfl) <| g_u (zm rfl rfl rfl rfl) <| zF <| zA <| zu rfl <| zE <| zB <| g_u (zD rfl rfl) <| zF <| zA <| zE <| zB <| g_u (zC rfl rfl) <| g_u (zD rfl rfl) <| zF <| zA <| zK <| zf <| zJ ?_
  exact ⟨⟨(rfl : toAV (Al.look _ _) = some _).trans (congrArg some (by (rw [textE (by omega)]))), rfl⟩, trivial⟩
theorem text_p (v : GV) (ho : v.ok) (hw : v.wt ≤ 10000000) (hk : v.kind ≠ 1 ∧ v.kind ≠ 4 ∧ v.kind ≠ 5 ∧ v.kind ≠ 6 ∧ v.kind ≠ 7) : zn Tryz.prog Γ0 82 [v.av] [sv (textM v)] := by
  have lv := xY v.list
  have la := yr v.map
  have ek := v.wt_eq
  have ok := v.ok_iff.1 ho
  have sl := yi v
  have jl := yT v
  refine zZ Tryz.func82 rfl Tryz.ntmps82 (by kernel_rfl) rfl fun w0 I0 G0 => ?_
  refine zE <| zB <| g_uG (zp 1001 rfl rfl rfl rfl) rfl <| g_u (zD rfl rfl) <| zF <| zA <| zE <| zE <| zB <| g_u (zH rfl rfl rfl tA91 tS91 rfl rfl) <| g_u (zQ (thing_p hk (thing_c v ho hw)) rfl rfl) <| zF <| zA <| zS <| zE <| zB ?_
  refine g_u (xI rfl rfl nI197 tZ197 (fun z h => by rw [zv197] at h; cases h; rfl) rfl) ?_
  refine g_u (zm rfl rfl rfl rfl) <| g_u (zm rfl rfl rfl rfl) <| zF <| zA <| zh rfl <| zE <| zB <| g_u (wg rfl rfl nI198) <| g_u (zm rfl rfl rfl rfl) <| g_u (zm rfl rfl rfl rfl) <| zF <| zA <| zu rfl <| zE <| zB <| g_u (zD rfl rfl) <| zF <| zA <| zE <| zE <| zB <| g_u (zG rfl rfl yv rfl) <| g_u (zH rfl rfl rfl tA5 tS5 rfl rfl) <| g_u (yM rfl rfl rfl) <| zF <| zA ?_
  refine zL rfl (fun hb1 => ?_) (fun hb1 => ?_)
  · refine zE ?_
    refine zB <| g_u (zD rfl rfl) <| zF <| zA <| zK <| zJ <| zf <| zJ ?_
    exact ⟨⟨(rfl : toAV (Al.look _ _) = some _).trans (congrArg some (by (simp only [beq_iff_eq, beq_eq_false_iff_ne, ne_eq, decide_eq_true_eq, decide_eq_false_iff_not] at *; rw [textE (by omega), simp6 (by omega)]; rfl))), rfl⟩, trivial⟩
  · refine zN ?_
    refine zA <| zE <| zB <| g_u (zC rfl rfl) <| g_u (zD rfl rfl) <| zF <| zA <| zK <| zf <| zJ ?_
    exact ⟨⟨(rfl : toAV (Al.look _ _) = some _).trans (congrArg some (by (simp only [beq_iff_eq, beq_eq_false_iff_ne, ne_eq, decide_eq_true_eq, decide_eq_false_iff_not] at *; rw [textE (by omega), jsonE (by omega)]))), rfl⟩, trivial⟩
theorem text_l (v : GV) (ho : v.ok) (hw : v.wt ≤ 10000000) (hk : v.kind = 6) : zn Tryz.prog Γ0 82 [v.av] [sv (textM v)] := by
  have lv := xY v.list
  have la := yr v.map
  have ek := v.wt_eq
  have ok := v.ok_iff.1 ho
  have sl := yi v
  have jl := yT v
  refine zZ Tryz.func82 rfl Tryz.ntmps82 (by kernel_rfl) rfl fun w0 I0 G0 => ?_
  refine zE <| zB <| g_uG (zp 1001 rfl rfl rfl rfl) rfl <| g_u (zD rfl rfl) <| zF <| zA <| zE <| zE <| zB <| g_u (zH rfl rfl rfl tA91 tS91 rfl rfl) <| g_u (zQ (thing_l hk (thing_c v ho hw)) rfl rfl) <| zF <| zA <| zS <| zE <| zB ?_
  refine g_u (xI rfl rfl nI197 tZ197 (fun z h => by rw [zv197] at h; cases h; rfl) rfl) ?_
  refine g_u (zm rfl rfl rfl rfl) <| g_u (zm rfl rfl rfl rfl) <| zF <| zA <| zh rfl <| zE <| zB ?_
  refine g_u (xI rfl rfl nI198 tZ198 (fun z h => by rw [zv198] at h; cases h; rfl) rfl) ?_
  refine g_u (zm rfl rfl rfl rfl) <| g_u (zm rfl rfl rfl rfl) <| zF <| zA <| zh rfl <| zN <| zP <| zA <| zE <| zB <| g_u (zH rfl rfl rfl tA91 tS91 rfl rfl) <| g_u (zQ (json_c v ho hw) rfl rfl) <| g_u (zD rfl rfl) <| zF <| zA <| zK ?_
  exact ⟨⟨(rfl : toAV (Al.look _ _) = some _).trans (congrArg some (by (rw [text6 (by omega)]))), rfl⟩, trivial⟩
theorem text_m (v : GV) (ho : v.ok) (hw : v.wt ≤ 10000000) (hk : v.kind = 7) : zn Tryz.prog Γ0 82 [v.av] [sv (textM v)] := by
  have lv := xY v.list
  have la := yr v.map
  have ek := v.wt_eq
  have ok := v.ok_iff.1 ho
  have sl := yi v
  have jl := yT v
  refine zZ Tryz.func82 rfl Tryz.ntmps82 (by kernel_rfl) rfl fun w0 I0 G0 => ?_
  refine zE <| zB <| g_uG (zp 1001 rfl rfl rfl rfl) rfl <| g_u (zD rfl rfl) <| zF <| zA <| zE <| zE <| zB <| g_u (zH rfl rfl rfl tA91 tS91 rfl rfl) <| g_u (zQ (thing_m hk (thing_c v ho hw)) rfl rfl) <| zF <| zA <| zS <| zE <| zB ?_
  refine g_u (xI rfl rfl nI197 tZ197 (fun z h => by rw [zv197] at h; cases h; rfl) rfl) ?_
  refine g_u (zm rfl rfl rfl rfl) <| g_u (zm rfl rfl rfl rfl) <| zF <| zA <| zh rfl <| zE <| zB ?_
  refine g_u (xI rfl rfl nI198 tZ198 (fun z h => by rw [zv198] at h; cases h; rfl) rfl) ?_
  refine g_u (zm rfl rfl rfl rfl) <| g_u (zm rfl rfl rfl rfl) <| zF <| zA <| zh rfl <| zN <| zP <| zA <| zE <| zB <| g_u (zH rfl rfl rfl tA91 tS91 rfl rfl) <| g_u (zQ (json_c v ho hw) rfl rfl) <| g_u (zD rfl rfl) <| zF <| zA <| zK ?_
  exact ⟨⟨(rfl : toAV (Al.look _ _) = some _).trans (congrArg some (by (rw [text6 (by omega)]))), rfl⟩, trivial⟩
theorem text_c (v : GV) (ho : v.ok) (hw : v.wt ≤ 10000000) : zn Tryz.prog Γ0 82 [v.av] [sv (textM v)] := by
  by_cases h6 : v.kind = 6
  · exact text_l v ho hw h6
  by_cases h7 : v.kind = 7
  · exact text_m v ho hw h7
  by_cases hq : v.kind = 1 ∨ v.kind = 4 ∨ v.kind = 5
  · exact text_q v ho hw hq
  · exact text_p v ho hw (by omega)
end Go.Proofs
namespace Go.Proofs
open Go Go.Al
set_option maxRecDepth 10000
theorem leftV_st (v : GV) (n : Int) (hn : -1 ≤ n ∧ n ≤ 1000000000) (ih : ∀ y ∈ v.list, ∀ n : Int, -1 ≤ n ∧ n ≤ 1000000000 → zn Tryz.prog Γ0 48 [y.av, iv n] [iv (leftV y n)]) (ihm : ∀ n : Int, -1 ≤ n ∧ n ≤ 1000000000 → zn Tryz.prog Γ0 23 [.sl 7 (v.map.map avA), iv n] [iv (yK v.map n)]) : zn Tryz.prog Γ0 48 [v.av, iv n] [iv (leftV v n)] := by
  have ek := v.wt_eq
  refine zZ Tryz.func48 rfl Tryz.ntmps48 (by kernel_rfl) rfl fun w0 I0 G0 => ?_
  refine zE <| zB <| g_uG (zp 1002 rfl rfl rfl rfl) rfl <| g_u (zD rfl rfl) <| zF <| zA <| zE <| zE <| zB <| g_u (zC rfl rfl) <| g_u (yO rfl rfl rfl) <| g_u (zC rfl rfl) <| z6 (t := 8) rfl ?_
  rintro (hb1 | hb1)
  · rw [hb1]
    have hn0 : n < 0 := of_decide_eq_true hb1
    refine zM rfl rfl rfl <| zM rfl rfl rfl <| zM rfl rfl rfl <| zM rfl rfl rfl <| zM rfl rfl rfl <| g_u (zi rfl rfl rfl) <| zF <| zA <| zu rfl <| zE <| zB <| g_u (zD rfl rfl) <| zF <| zA <| zK <| zJ ?_
    exact ⟨⟨(rfl : toAV (Al.look _ _) = some _).trans (congrArg some (by (exact congrArg iv (by rw [leftV_F, if_pos hn0])))), rfl⟩, trivial⟩
  · rw [hb1]
    have hn0 : ¬ n < 0 := of_decide_eq_false hb1
    refine zX rfl rfl (zG rfl rfl fa91_1 rfl) <| zX rfl rfl (zH rfl rfl rfl tA9 tS9 rfl rfl) <| zX rfl rfl (yR rfl rfl Tryz.underlying9) <| zX rfl rfl (zC rfl rfl) <| zX rfl rfl (xA rfl rfl rfl) <| g_u (zj rfl rfl rfl) <| zF <| zA ?_
    refine zL rfl (fun hb2 => ?_) (fun hb2 => ?_)
    · have ht0 : (v.text.size : Int) > n := of_decide_eq_true hb2
      refine zE <| zB <| g_u (zD rfl rfl) <| zF <| zA <| zK <| zJ ?_
      exact ⟨⟨(rfl : toAV (Al.look _ _) = some _).trans (congrArg some (by (exact congrArg iv (by rw [leftV_F, if_neg hn0]; unfold leftF; rw [if_neg (by omega)])))), rfl⟩, trivial⟩
    · have ht0 : ¬ (v.text.size : Int) > n := of_decide_eq_false hb2
      have hL : -1 ≤ n - 1 - v.text.size := by omega
      refine zN <| zA <| zE <| zB <| g_u (zC rfl rfl) <| g_u (vK rfl rfl rfl) <| g_u (zG rfl rfl fa91_1 rfl) <| g_u (zH rfl rfl rfl tA9 tS9 rfl rfl) <| g_u (yR rfl rfl Tryz.underlying9) <| g_u (vK rfl rfl rfl) <| g_u (zD rfl rfl) <| zF <| zA <| zE <| zE <| zB <| g_u (zD rfl rfl) <| zF <| zA <| zS ?_
      refine zr (fun i : Nat => [(2, .ptr 1002 0), (1002, .box 91 (.imm v.av)), (1, .imm (iv (leftF (n - 1 - v.text.size) (wtVs (v.list.take i))))), (5, .imm (iv (i : Int)))]) (fun i => i ≤ v.list.length) (fun i => v.list.length - i) (0) ?_ ⟨rfl, rfl, zW rfl (by rw [show wtVs (v.list.take 0) = 0 from rfl, leftF_zero hL, zO (n := n - 1) (by omega) (by omega), zO (by omega) (by omega)]), rfl, trivial⟩ ?_
      · exact Nat.zero_le _
      · rintro i h1; have h1 : i ≤ v.list.length := h1; have bd := leftF_bd hL (wtVs (v.list.take i))
        refine zE <| zE <| zB <| g_u (zC rfl rfl) <| g_u (zG rfl rfl wr rfl) <| g_u (zH rfl rfl rfl tA89 tS89 rfl rfl) <| g_u (yB rfl rfl Tryz.underlying89) <| g_u (yO rfl rfl rfl) <| g_u (zC rfl rfl) <| z6 (t := 26) rfl ?_
        rintro (hb3 | hb3)
        · rw [hb3]
          have hiv : i < v.list.length := by have := of_decide_eq_true hb3; (try simp only [List.length_map] at this); omega
          refine zX rfl rfl (zC rfl rfl) <| zX rfl rfl (s_geI rfl rfl rfl) <| g_u (zi rfl rfl rfl) <| zF <| zA ?_
          refine zL rfl (fun hb4 => ?_) (fun hb4 => ?_)
          · have hs : 0 ≤ leftF (n - 1 - v.text.size) (wtVs (v.list.take i)) := of_decide_eq_true hb4
            have hi9 := leftV_len hs h1
            refine zN <| zA <| zE <| zS <| zB <| g_u (zG rfl rfl wr rfl) <| g_u (zH rfl rfl rfl tA89 tS89 rfl rfl) <| g_u (zC rfl rfl) ?_
            refine g_u (za rfl rfl rfl Tryz.underlying89 tS91 (by omega) (ixV hiv)) ?_
            refine g_u (zY rfl rfl tA91 tS91 rfl rfl) <| g_u (zC rfl rfl) ?_
            refine g_u (zQ (ih _ (nthV_mem hiv) _ ⟨bd.1, by have := bd.2; omega⟩) rfl rfl) ?_
            refine g_u (zD rfl rfl) <| zF <| zP <| zA <| zB <| g_u (zC rfl rfl) <| g_u (zt rfl rfl rfl) <| g_u (zD rfl rfl) <| zF <| zA ?_
            refine ⟨i + 1, hiv, ⟨rfl, rfl, zW rfl (leftV_step hiv hs), zW rfl (by rw [zO (by omega) (by omega)]; rfl), trivial⟩, by (try dsimp only); omega⟩
          · have hs : ¬ 0 ≤ leftF (n - 1 - v.text.size) (wtVs (v.list.take i)) := of_decide_eq_false hb4
            refine zw <| zT <| zT <| zo <| zA <| zE <| zB <| g_u (zG rfl rfl vF rfl) <| g_u (zH rfl rfl rfl tA46 tS46 rfl rfl) <| g_u (zC rfl rfl) ?_
            refine g_u (zQ (ihm _ ⟨bd.1, by have := bd.2; omega⟩) rfl rfl) ?_
            refine g_u (zD rfl rfl) <| zF <| zA <| zK ?_
            exact ⟨⟨(rfl : toAV (Al.look _ _) = some _).trans (congrArg some (by (exact congrArg iv (leftV_fin hn0 ht0 (by first | exact .inl hivn | exact .inr (by omega)))))), rfl⟩, trivial⟩
        · rw [hb3]
          have hivn : i = v.list.length := by have := of_decide_eq_false hb3; (try simp only [List.length_map] at this); omega
          refine zM rfl rfl rfl <| zM rfl rfl rfl <| g_u (zj rfl rfl rfl) <| zF <| zA <| zh rfl <| zw <| zT <| zT <| zo <| zA <| zE <| zB <| g_u (zG rfl rfl vF rfl) <| g_u (zH rfl rfl rfl tA46 tS46 rfl rfl) <| g_u (zC rfl rfl) ?_
          refine g_u (zQ (ihm _ ⟨bd.1, by have := bd.2; omega⟩) rfl rfl) ?_
          refine g_u (zD rfl rfl) <| zF <| zA <| zK ?_
          exact ⟨⟨(rfl : toAV (Al.look _ _) = some _).trans (congrArg some (by (exact congrArg iv (leftV_fin hn0 ht0 (by first | exact .inl hivn | exact .inr (by omega)))))), rfl⟩, trivial⟩
theorem leftAs_st (l : List GA) (n : Int) (hn : -1000000000000 ≤ n ∧ n ≤ 1000000000) (ih : ∀ a ∈ l, ∀ n : Int, -1 ≤ n ∧ n ≤ 1000000000 → zn Tryz.prog Γ0 48 [a.val.av, iv n] [iv (leftV a.val n)]) : zn Tryz.prog Γ0 23 [.sl 7 (l.map avA), iv n] [iv (yK l n)] := by
  refine zZ Tryz.func23 rfl Tryz.ntmps23 (by kernel_rfl) rfl fun w0 I0 G0 => ?_
  refine zE <| zB <| g_u (zD rfl rfl) <| zF <| zA <| zE <| zE <| zB <| g_u (zD rfl rfl) <| zF <| zA <| zS ?_
  refine zr (fun i : Nat => [(0, .imm (.sl 7 (l.map avA))), (1, .imm (iv (yK (l.take i) n))), (5, .imm (iv (i : Int)))]) (fun i => i ≤ l.length) (fun i => l.length - i) (0) ?_ ⟨rfl, zW rfl (leftAs_zero l).symm, rfl, trivial⟩ ?_
  · exact Nat.zero_le _
  · rintro i h1; have h1 : i ≤ l.length := h1; have bd := wF (l.take i) n
    refine zE <| zE <| zB <| g_u (zC rfl rfl) <| g_u (zC rfl rfl) <| g_u (yB rfl rfl Tryz.underlying46) <| g_u (yO rfl rfl rfl) <| g_u (zC rfl rfl) <| z6 (t := 10) rfl ?_
    rintro (hb1 | hb1)
    · rw [hb1]
      have hia : i < l.length := by have := of_decide_eq_true hb1; (try simp only [List.length_map] at this); omega
      refine zX rfl rfl (zC rfl rfl) <| zX rfl rfl (s_geI rfl rfl rfl) <| g_u (zi rfl rfl rfl) <| zF <| zA ?_
      refine zL rfl (fun hb2 => ?_) (fun hb2 => ?_)
      · have hs : 0 ≤ yK (l.take i) n := of_decide_eq_true hb2
        have hi9 := leftAs_len hs h1
        refine zN <| zA <| zE <| zS <| zE <| zE <| zB <| g_u (zC rfl rfl) <| g_u (zC rfl rfl) ?_
        refine g_u (za rfl rfl rfl Tryz.underlying46 tS93 (by omega) (ixA hia)) ?_
        refine g_u (zR rfl rfl fa93_0 rfl rfl) <| g_u (zY rfl rfl tA9 tS9 rfl rfl) <| g_u (yR rfl rfl Tryz.underlying9) <| g_u (zC rfl rfl) <| g_u (xA rfl rfl rfl) <| zF <| zA ?_
        refine zL rfl (fun hb3 => ?_) (fun hb3 => ?_)
        · have hk : ((nthA l i).key.size : Int) > yK (l.take i) n := of_decide_eq_true hb3
          refine zE <| zB <| g_u (zD rfl rfl) <| zF <| zA <| zK <| zJ <| zf <| zJ <| zJ <| zf <| zJ ?_
          exact ⟨⟨(rfl : toAV (Al.look _ _) = some _).trans (congrArg some (by (exact congrArg iv (leftAs_out hia hs hk)))), rfl⟩, trivial⟩
        · have hk : ¬ ((nthA l i).key.size : Int) > yK (l.take i) n := of_decide_eq_false hb3
          have ew : IntKind.i64.wrap (yK (l.take i) n - (nthA l i).key.size) = yK (l.take i) n - (nthA l i).key.size := zO (by omega) (by omega)
          refine zN <| zA <| yZ xr <| g_u (zC rfl rfl) <| g_u (zC rfl rfl) ?_
          refine g_u (za rfl rfl rfl Tryz.underlying46 tS93 (by omega) (ixA hia)) ?_
          refine g_u (zR rfl rfl fa93_1 rfl rfl) <| g_u (zY rfl rfl tA91 tS91 rfl rfl) <| g_u (zC rfl rfl) <| g_u (zC rfl rfl) <| g_u (zC rfl rfl) ?_
          refine g_u (za rfl rfl rfl Tryz.underlying46 tS93 (by omega) (ixA hia)) ?_
          refine g_u (zR rfl rfl fa93_0 rfl rfl) <| g_u (zY rfl rfl tA9 tS9 rfl rfl) <| g_u (yR rfl rfl Tryz.underlying9) <| g_u (vK rfl rfl rfl) ?_
          refine g_u (zQ ((show zn Tryz.prog Γ0 48 [(nthA l i).val.av, iv (IntKind.i64.wrap (yK (l.take i) n - (nthA l i).key.size))] [iv (leftV (nthA l i).val (yK (l.take i) n - (nthA l i).key.size))] from by rw [ew]; exact ih _ (yq hia) _ ⟨by omega, by omega⟩)) rfl rfl) ?_
          refine g_u (zD rfl rfl) ?_
          refine zF ⟨by kernel_rfl, ?_⟩
          refine zP <| zA <| zB <| g_u (zC rfl rfl) <| g_u (zt rfl rfl rfl) <| g_u (zD rfl rfl) <| zF <| zA ?_
          refine ⟨i + 1, hia, ⟨rfl, zW rfl (leftAs_step hia hs hk), zW rfl (by rw [zO (by omega) (by omega)]; rfl), trivial⟩, by (try dsimp only); omega⟩
      · have hs : ¬ 0 ≤ yK (l.take i) n := of_decide_eq_false hb2
        refine zw <| zT <| zT <| zo <| zA <| zE <| zB <| g_u (zC rfl rfl) <| g_u (zD rfl rfl) <| zF <| zA <| zK ?_
        exact ⟨⟨(rfl : toAV (Al.look _ _) = some _).trans (congrArg some (by (exact congrArg iv (leftAs_fin (by first | exact .inl hian | exact .inr (by omega)))))), rfl⟩, trivial⟩
    · rw [hb1]
      have hian : i = l.length := by have := of_decide_eq_false hb1; (try simp only [List.length_map] at this); omega
      refine zM rfl rfl rfl <| zM rfl rfl rfl <| g_u (zj rfl rfl rfl) <| zF <| zA <| zh rfl <| zw <| zT <| zT <| zo <| zA <| zE <| zB <| g_u (zC rfl rfl) <| g_u (zD rfl rfl) <| zF <| zA <| zK ?_
      exact ⟨⟨(rfl : toAV (Al.look _ _) = some _).trans (congrArg some (by (exact congrArg iv (leftAs_fin (by first | exact .inl hian | exact .inr (by omega)))))), rfl⟩, trivial⟩
theorem leftV_c (v : GV) : ∀ n : Int, -1 ≤ n ∧ n ≤ 1000000000 → zn Tryz.prog Γ0 48 [v.av, iv n] [iv (leftV v n)] := by
  refine GV.ind (P := fun v => ∀ n : Int, -1 ≤ n ∧ n ≤ 1000000000 → zn Tryz.prog Γ0 48 [v.av, iv n] [iv (leftV v n)]) ?_ v
  intro v h1 h2 n hn
  exact leftV_st v n hn h1 fun n hn => leftAs_st v.map n (by omega) h2
theorem leftAs_c (l : List GA) (n : Int) (hn : -1000000000000 ≤ n ∧ n ≤ 1000000000) : zn Tryz.prog Γ0 23 [.sl 7 (l.map avA), iv n] [iv (yK l n)] := leftAs_st l n hn fun a _ => leftV_c a.val
end Go.Proofs
namespace Go.Proofs
open Go Go.Al
set_option maxRecDepth 10000
theorem z52_w : AV.width z52 = 42 := by kernel_rfl
theorem z107_w : AV.width z107 = 26 := by kernel_rfl
theorem sumA_c (l : List GA) (F : GA → Nat) (fn : FuncId) (caps : List AV) (hf : ∀ y ∈ l, zn Tryz.prog Γ0 fn (y.av :: caps) [iv (F y : Nat)]) (hl : l.length ≤ 1000000000000) (hF : zv F l ≤ 10000000000000000) : zn Tryz.prog Γ0 132 [.sl 7 (l.map avA), .fn (.func fn) [] caps] [iv (zv F l : Nat)] := by
  refine zZ Tryz.func132 rfl Tryz.ntmps132 (by kernel_rfl) rfl fun w0 I0 G0 => ?_
  refine zE <| zB <| g_u (zD rfl rfl) <| zF <| zA <| zE <| zB <| g_u (zD rfl rfl) <| zF <| zA <| zE <| zE <| zB <| g_u (zC rfl rfl) <| g_u (yB rfl rfl Tryz.underlying46) <| g_u (zC rfl rfl) <| zF <| zA <| zS ?_
  refine zr (fun i : Nat => [(1, .imm (.fn (.func fn) [] caps)), (5, .imm (iv (zv F (l.take i) : Nat))), (8, .imm (.sl 7 (l.map avA))), (9, .imm (iv (l.length : Int))), (10, .imm (iv (i : Int)))]) (fun i => i ≤ l.length) (fun i => l.length - i) (0) ?_ ⟨rfl, rfl, rfl, zW rfl (by rw [List.length_map]), rfl, trivial⟩ ?_
  · exact Nat.zero_le _
  · rintro i h1; have h1 : i ≤ l.length := h1
    refine zE <| zB <| g_u (yO rfl rfl rfl) <| zF <| zA <| zE ?_
    refine zL rfl (fun hb1 => ?_) (fun hb1 => ?_)
    · have hi : i < l.length := by have := of_decide_eq_true hb1; (try simp only [List.length_map] at this); omega
      refine zN <| zA <| zE <| zS <| zE <| zB ?_
      refine g_u (za rfl rfl rfl Tryz.underlying46 tS93 (by omega) (ixA hi)) ?_
      refine g_u (zY rfl rfl tA93 tS93 rfl rfl) <| g_uG (yG 1007 rfl rfl rfl tZ93) rfl <| g_u (zV rfl rfl rfl tS93 rfl rfl) <| zF <| zA <| zB <| g_u (zC rfl rfl) <| g_u (zC rfl rfl) <| g_u (zz rfl rfl rfl tA93 tS93 rfl rfl) <| g_u (s_callv1 (hf _ (yq hi)) rfl rfl rfl) <| g_u (zt rfl rfl rfl) <| g_u (zD rfl rfl) <| zF <| zP <| zA <| zB <| g_u (zt rfl rfl rfl) <| g_u (zC rfl rfl) <| zF <| zA ?_
      have q1 := yj (F := F) (d := a0) hi
      have q2 := xd (F := F) (d := a0) hi
      refine ⟨i + 1, hi, ⟨rfl, zW rfl (by show IntKind.i64.wrap ((zv F (l.take i) : Int) + (F (nth l i a0) : Int)) = _; rw [zO (by omega) (by omega), q2]; rfl), rfl, rfl, zW rfl (by rw [zO (by omega) (by omega)]; rfl), trivial⟩, by (try dsimp only); omega⟩
    · have hin : i = l.length := by have := of_decide_eq_false hb1; (try simp only [List.length_map] at this); omega
      refine zw <| zT <| zT <| zo <| zA <| zE <| zB <| g_u (zC rfl rfl) <| g_u (zD rfl rfl) <| zF <| zA <| zK ?_
      exact ⟨⟨(rfl : toAV (Al.look _ _) = some _).trans (congrArg some (by (exact congrArg iv (by rw [hin, List.take_length])))), rfl⟩, trivial⟩
theorem sumE_c (l : List GE) (F : GE → Nat) (fn : FuncId) (caps : List AV) (hf : ∀ y ∈ l, zn Tryz.prog Γ0 fn (y.av :: caps) [iv (F y : Nat)]) (hl : l.length ≤ 1000000000000) (hF : zv F l ≤ 10000000000000000) : zn Tryz.prog Γ0 187 [.sl 3 (l.map GE.av), .fn (.func fn) [] caps] [iv (zv F l : Nat)] := by
  refine zZ Tryz.func187 rfl Tryz.ntmps187 (by kernel_rfl) rfl fun w0 I0 G0 => ?_
  refine zE <| zB <| g_u (zD rfl rfl) <| zF <| zA <| zE <| zB <| g_u (zD rfl rfl) <| zF <| zA <| zE <| zE <| zB <| g_u (zC rfl rfl) <| g_u (yB rfl rfl Tryz.underlying47) <| g_u (zC rfl rfl) <| zF <| zA <| zS ?_
  refine zr (fun i : Nat => [(1, .imm (.fn (.func fn) [] caps)), (5, .imm (iv (zv F (l.take i) : Nat))), (8, .imm (.sl 3 (l.map GE.av))), (9, .imm (iv (l.length : Int))), (10, .imm (iv (i : Int)))]) (fun i => i ≤ l.length) (fun i => l.length - i) (0) ?_ ⟨rfl, rfl, rfl, zW rfl (by rw [List.length_map]), rfl, trivial⟩ ?_
  · exact Nat.zero_le _
  · rintro i h1; have h1 : i ≤ l.length := h1
    refine zE <| zB <| g_u (yO rfl rfl rfl) <| zF <| zA <| zE ?_
    refine zL rfl (fun hb1 => ?_) (fun hb1 => ?_)
    · have hi : i < l.length := by have := of_decide_eq_true hb1; (try simp only [List.length_map] at this); omega
      refine zN <| zA <| zE <| zS <| zE <| zB ?_
      refine g_u (za rfl rfl rfl Tryz.underlying47 tS95 (by omega) (ixE hi)) ?_
      refine g_u (zY rfl rfl tA95 tS95 rfl rfl) <| g_uG (yG 1007 rfl rfl rfl tZ95) rfl <| g_u (zV rfl rfl rfl tS95 rfl rfl) <| zF <| zA <| zB <| g_u (zC rfl rfl) <| g_u (zC rfl rfl) <| g_u (zz rfl rfl rfl tA95 tS95 rfl rfl) <| g_u (s_callv1 (hf _ (nthE_mem hi)) rfl rfl rfl) <| g_u (zt rfl rfl rfl) <| g_u (zD rfl rfl) <| zF <| zP <| zA <| zB <| g_u (zt rfl rfl rfl) <| g_u (zC rfl rfl) <| zF <| zA ?_
      have q1 := yj (F := F) (d := ge0) hi
      have q2 := xd (F := F) (d := ge0) hi
      refine ⟨i + 1, hi, ⟨rfl, zW rfl (by show IntKind.i64.wrap ((zv F (l.take i) : Int) + (F (nth l i ge0) : Int)) = _; rw [zO (by omega) (by omega), q2]; rfl), rfl, rfl, zW rfl (by rw [zO (by omega) (by omega)]; rfl), trivial⟩, by (try dsimp only); omega⟩
    · have hin : i = l.length := by have := of_decide_eq_false hb1; (try simp only [List.length_map] at this); omega
      refine zw <| zT <| zT <| zo <| zA <| zE <| zB <| g_u (zC rfl rfl) <| g_u (zD rfl rfl) <| zF <| zA <| zK ?_
      exact ⟨⟨(rfl : toAV (Al.look _ _) = some _).trans (congrArg some (by (exact congrArg iv (by rw [hin, List.take_length])))), rfl⟩, trivial⟩
theorem sumL_c (l : List GL) (F : GL → Nat) (fn : FuncId) (caps : List AV) (hf : ∀ y ∈ l, zn Tryz.prog Γ0 fn (y.av :: caps) [iv (F y : Nat)]) (hl : l.length ≤ 1000000000000) (hF : zv F l ≤ 10000000000000000) : zn Tryz.prog Γ0 189 [.sl 26 (l.map GL.av), .fn (.func fn) [] caps] [iv (zv F l : Nat)] := by
  refine zZ Tryz.func189 rfl Tryz.ntmps189 (by kernel_rfl) rfl fun w0 I0 G0 => ?_
  refine zE <| zB <| g_u (zD rfl rfl) <| zF <| zA <| zE <| zB <| g_u (zD rfl rfl) <| zF <| zA <| zE <| zE <| zB <| g_u (zC rfl rfl) <| g_u (yB rfl rfl Tryz.underlying48) <| g_u (zC rfl rfl) <| zF <| zA <| zS ?_
  refine zr (fun i : Nat => [(1, .imm (.fn (.func fn) [] caps)), (5, .imm (iv (zv F (l.take i) : Nat))), (8, .imm (.sl 26 (l.map GL.av))), (9, .imm (iv (l.length : Int))), (10, .imm (iv (i : Int)))]) (fun i => i ≤ l.length) (fun i => l.length - i) (0) ?_ ⟨rfl, rfl, rfl, zW rfl (by rw [List.length_map]), rfl, trivial⟩ ?_
  · exact Nat.zero_le _
  · rintro i h1; have h1 : i ≤ l.length := h1
    refine zE <| zB <| g_u (yO rfl rfl rfl) <| zF <| zA <| zE ?_
    refine zL rfl (fun hb1 => ?_) (fun hb1 => ?_)
    · have hi : i < l.length := by have := of_decide_eq_true hb1; (try simp only [List.length_map] at this); omega
      refine zN <| zA <| zE <| zS <| zE <| zB ?_
      refine g_u (za rfl rfl rfl Tryz.underlying48 tS107 (by omega) (ixL hi)) ?_
      refine g_u (zY rfl rfl tA107 tS107 rfl (by first | exact getS_w (GL.width _) rfl | rfl)) ?_
      refine g_uG (yG 1007 rfl rfl rfl tZ107) rfl ?_
      refine g_u (zV rfl rfl rfl tS107 (by first | exact beqW (GL.width _) | rfl) (by first | exact setS_w (z107_w.trans (GL.width _).symm) rfl | rfl)) ?_
      refine zF <| zA <| zB <| g_u (zC rfl rfl) <| g_u (zC rfl rfl) ?_
      refine g_u (zH rfl rfl rfl tA107 tS107 rfl (by first | exact getS_w (GL.width _) rfl | rfl)) ?_
      refine g_u (s_callv1 (hf _ (nthL_mem hi)) rfl rfl rfl) <| g_u (zt rfl rfl rfl) <| g_u (zD rfl rfl) <| zF <| zP <| zA <| zB <| g_u (zt rfl rfl rfl) <| g_u (zC rfl rfl) <| zF <| zA ?_
      have q1 := yj (F := F) (d := gl0) hi
      have q2 := xd (F := F) (d := gl0) hi
      refine ⟨i + 1, hi, ⟨rfl, zW rfl (by show IntKind.i64.wrap ((zv F (l.take i) : Int) + (F (nth l i gl0) : Int)) = _; rw [zO (by omega) (by omega), q2]; rfl), rfl, rfl, zW rfl (by rw [zO (by omega) (by omega)]; rfl), trivial⟩, by (try dsimp only); omega⟩
    · have hin : i = l.length := by have := of_decide_eq_false hb1; (try simp only [List.length_map] at this); omega
      refine zw <| zT <| zT <| zo <| zA <| zE <| zB <| g_u (zC rfl rfl) <| g_u (zD rfl rfl) <| zF <| zA <| zK ?_
      exact ⟨⟨(rfl : toAV (Al.look _ _) = some _).trans (congrArg some (by (exact congrArg iv (by rw [hin, List.take_length])))), rfl⟩, trivial⟩
theorem sumS_c (l : List GSpan) (F : GSpan → Nat) (fn : FuncId) (caps : List AV) (hf : ∀ y ∈ l, zn Tryz.prog Γ0 fn (y.av :: caps) [iv (F y : Nat)]) (hl : l.length ≤ 1000000000000) (hF : zv F l ≤ 10000000000000000) : zn Tryz.prog Γ0 134 [.sl 42 (l.map GSpan.av), .fn (.func fn) [] caps] [iv (zv F l : Nat)] := by
  refine zZ Tryz.func134 rfl Tryz.ntmps134 (by kernel_rfl) rfl fun w0 I0 G0 => ?_
  refine zE <| zB <| g_u (zD rfl rfl) <| zF <| zA <| zE <| zB <| g_u (zD rfl rfl) <| zF <| zA <| zE <| zE <| zB <| g_u (zC rfl rfl) <| g_u (yB rfl rfl Tryz.underlying53) <| g_u (zC rfl rfl) <| zF <| zA <| zS ?_
  refine zr (fun i : Nat => [(1, .imm (.fn (.func fn) [] caps)), (5, .imm (iv (zv F (l.take i) : Nat))), (8, .imm (.sl 42 (l.map GSpan.av))), (9, .imm (iv (l.length : Int))), (10, .imm (iv (i : Int)))]) (fun i => i ≤ l.length) (fun i => l.length - i) (0) ?_ ⟨rfl, rfl, rfl, zW rfl (by rw [List.length_map]), rfl, trivial⟩ ?_
  · exact Nat.zero_le _
  · rintro i h1; have h1 : i ≤ l.length := h1
    refine zE <| zB <| g_u (yO rfl rfl rfl) <| zF <| zA <| zE ?_
    refine zL rfl (fun hb1 => ?_) (fun hb1 => ?_)
    · have hi : i < l.length := by have := of_decide_eq_true hb1; (try simp only [List.length_map] at this); omega
      refine zN <| zA <| zE <| zS <| zE <| zB ?_
      refine g_u (za rfl rfl rfl Tryz.underlying53 tS52 (by omega) (ixS hi)) ?_
      refine g_u (zY rfl rfl tA52 tS52 rfl (by first | exact getS_w (GSpan.width _) rfl | rfl)) ?_
      refine g_uG (yG 1007 rfl rfl rfl tZ52) rfl ?_
      refine g_u (zV rfl rfl rfl tS52 (by first | exact beqW (GSpan.width _) | rfl) (by first | exact setS_w (z52_w.trans (GSpan.width _).symm) rfl | rfl)) ?_
      refine zF <| zA <| zB <| g_u (zC rfl rfl) <| g_u (zC rfl rfl) ?_
      refine g_u (zH rfl rfl rfl tA52 tS52 rfl (by first | exact getS_w (GSpan.width _) rfl | rfl)) ?_
      refine g_u (s_callv1 (hf _ (nthS_mem hi)) rfl rfl rfl) <| g_u (zt rfl rfl rfl) <| g_u (zD rfl rfl) <| zF <| zP <| zA <| zB <| g_u (zt rfl rfl rfl) <| g_u (zC rfl rfl) <| zF <| zA ?_
      have q1 := yj (F := F) (d := gs0) hi
      have q2 := xd (F := F) (d := gs0) hi
      refine ⟨i + 1, hi, ⟨rfl, zW rfl (by show IntKind.i64.wrap ((zv F (l.take i) : Int) + (F (nth l i gs0) : Int)) = _; rw [zO (by omega) (by omega), q2]; rfl), rfl, rfl, zW rfl (by rw [zO (by omega) (by omega)]; rfl), trivial⟩, by (try dsimp only); omega⟩
    · have hin : i = l.length := by have := of_decide_eq_false hb1; (try simp only [List.length_map] at this); omega
      refine zw <| zT <| zT <| zo <| zA <| zE <| zB <| g_u (zC rfl rfl) <| g_u (zD rfl rfl) <| zF <| zA <| zK ?_
      exact ⟨⟨(rfl : toAV (Al.look _ _) = some _).trans (congrArg some (by (exact congrArg iv (by rw [hin, List.take_length])))), rfl⟩, trivial⟩
theorem sumC_c (l : List GScope) (F : GScope → Nat) (fn : FuncId) (caps : List AV) (hf : ∀ y ∈ l, zn Tryz.prog Γ0 fn (y.av :: caps) [iv (F y : Nat)]) (hl : l.length ≤ 1000000000000) (hF : zv F l ≤ 10000000000000000) : zn Tryz.prog Γ0 87 [.sl 3 (l.map GScope.av), .fn (.func fn) [] caps] [iv (zv F l : Nat)] := by
  refine zZ Tryz.func87 rfl Tryz.ntmps87 (by kernel_rfl) rfl fun w0 I0 G0 => ?_
  refine zE <| zB <| g_u (zD rfl rfl) <| zF <| zA <| zE <| zB <| g_u (zD rfl rfl) <| zF <| zA <| zE <| zE <| zB <| g_u (zC rfl rfl) <| g_u (yB rfl rfl Tryz.underlying56) <| g_u (zC rfl rfl) <| zF <| zA <| zS ?_
  refine zr (fun i : Nat => [(1, .imm (.fn (.func fn) [] caps)), (5, .imm (iv (zv F (l.take i) : Nat))), (8, .imm (.sl 3 (l.map GScope.av))), (9, .imm (iv (l.length : Int))), (10, .imm (iv (i : Int)))]) (fun i => i ≤ l.length) (fun i => l.length - i) (0) ?_ ⟨rfl, rfl, rfl, zW rfl (by rw [List.length_map]), rfl, trivial⟩ ?_
  · exact Nat.zero_le _
  · rintro i h1; have h1 : i ≤ l.length := h1
    refine zE <| zB <| g_u (yO rfl rfl rfl) <| zF <| zA <| zE ?_
    refine zL rfl (fun hb1 => ?_) (fun hb1 => ?_)
    · have hi : i < l.length := by have := of_decide_eq_true hb1; (try simp only [List.length_map] at this); omega
      refine zN <| zA <| zE <| zS <| zE <| zB ?_
      refine g_u (za rfl rfl rfl Tryz.underlying56 tS55 (by omega) (ixC hi)) ?_
      refine g_u (zY rfl rfl tA55 tS55 rfl rfl) <| g_uG (yG 1007 rfl rfl rfl tZ55) rfl <| g_u (zV rfl rfl rfl tS55 rfl rfl) <| zF <| zA <| zB <| g_u (zC rfl rfl) <| g_u (zC rfl rfl) <| g_u (zz rfl rfl rfl tA55 tS55 rfl rfl) <| g_u (s_callv1 (hf _ (nthC_mem hi)) rfl rfl rfl) <| g_u (zt rfl rfl rfl) <| g_u (zD rfl rfl) <| zF <| zP <| zA <| zB <| g_u (zt rfl rfl rfl) <| g_u (zC rfl rfl) <| zF <| zA ?_
      have q1 := yj (F := F) (d := gc0) hi
      have q2 := xd (F := F) (d := gc0) hi
      refine ⟨i + 1, hi, ⟨rfl, zW rfl (by show IntKind.i64.wrap ((zv F (l.take i) : Int) + (F (nth l i gc0) : Int)) = _; rw [zO (by omega) (by omega), q2]; rfl), rfl, rfl, zW rfl (by rw [zO (by omega) (by omega)]; rfl), trivial⟩, by (try dsimp only); omega⟩
    · have hin : i = l.length := by have := of_decide_eq_false hb1; (try simp only [List.length_map] at this); omega
      refine zw <| zT <| zT <| zo <| zA <| zE <| zB <| g_u (zC rfl rfl) <| g_u (zD rfl rfl) <| zF <| zA <| zK ?_
      exact ⟨⟨(rfl : toAV (Al.look _ _) = some _).trans (congrArg some (by (exact congrArg iv (by rw [hin, List.take_length])))), rfl⟩, trivial⟩
theorem sumR_c (l : List GRes) (F : GRes → Nat) (fn : FuncId) (caps : List AV) (hf : ∀ y ∈ l, zn Tryz.prog Γ0 fn (y.av :: caps) [iv (F y : Nat)]) (hl : l.length ≤ 1000000000000) (hF : zv F l ≤ 10000000000000000) : zn Tryz.prog Γ0 52 [.sl 2 (l.map GRes.av), .fn (.func fn) [] caps] [iv (zv F l : Nat)] := by
  refine zZ Tryz.func52 rfl Tryz.ntmps52 (by kernel_rfl) rfl fun w0 I0 G0 => ?_
  refine zE <| zB <| g_u (zD rfl rfl) <| zF <| zA <| zE <| zB <| g_u (zD rfl rfl) <| zF <| zA <| zE <| zE <| zB <| g_u (zC rfl rfl) <| g_u (yB rfl rfl Tryz.underlying22) <| g_u (zC rfl rfl) <| zF <| zA <| zS ?_
  refine zr (fun i : Nat => [(1, .imm (.fn (.func fn) [] caps)), (5, .imm (iv (zv F (l.take i) : Nat))), (8, .imm (.sl 2 (l.map GRes.av))), (9, .imm (iv (l.length : Int))), (10, .imm (iv (i : Int)))]) (fun i => i ≤ l.length) (fun i => l.length - i) (0) ?_ ⟨rfl, rfl, rfl, zW rfl (by rw [List.length_map]), rfl, trivial⟩ ?_
  · exact Nat.zero_le _
  · rintro i h1; have h1 : i ≤ l.length := h1
    refine zE <| zB <| g_u (yO rfl rfl rfl) <| zF <| zA <| zE ?_
    refine zL rfl (fun hb1 => ?_) (fun hb1 => ?_)
    · have hi : i < l.length := by have := of_decide_eq_true hb1; (try simp only [List.length_map] at this); omega
      refine zN <| zA <| zE <| zS <| zE <| zB ?_
      refine g_u (za rfl rfl rfl Tryz.underlying22 tS58 (by omega) (ixR hi)) ?_
      refine g_u (zY rfl rfl tA58 tS58 rfl rfl) <| g_uG (yG 1007 rfl rfl rfl tZ58) rfl <| g_u (zV rfl rfl rfl tS58 rfl rfl) <| zF <| zA <| zB <| g_u (zC rfl rfl) <| g_u (zC rfl rfl) <| g_u (zz rfl rfl rfl tA58 tS58 rfl rfl) <| g_u (s_callv1 (hf _ (nthR_mem hi)) rfl rfl rfl) <| g_u (zt rfl rfl rfl) <| g_u (zD rfl rfl) <| zF <| zP <| zA <| zB <| g_u (zt rfl rfl rfl) <| g_u (zC rfl rfl) <| zF <| zA ?_
      have q1 := yj (F := F) (d := gr0) hi
      have q2 := xd (F := F) (d := gr0) hi
      refine ⟨i + 1, hi, ⟨rfl, zW rfl (by show IntKind.i64.wrap ((zv F (l.take i) : Int) + (F (nth l i gr0) : Int)) = _; rw [zO (by omega) (by omega), q2]; rfl), rfl, rfl, zW rfl (by rw [zO (by omega) (by omega)]; rfl), trivial⟩, by (try dsimp only); omega⟩
    · have hin : i = l.length := by have := of_decide_eq_false hb1; (try simp only [List.length_map] at this); omega
      refine zw <| zT <| zT <| zo <| zA <| zE <| zB <| g_u (zC rfl rfl) <| g_u (zD rfl rfl) <| zF <| zA <| zK ?_
      exact ⟨⟨(rfl : toAV (Al.look _ _) = some _).trans (congrArg some (by (exact congrArg iv (by rw [hin, List.take_length])))), rfl⟩, trivial⟩
theorem attrW_c (a : GA) (ho : a.ok) (hw : a.wt ≤ 10000000) : zn Tryz.prog Γ0 133 [a.av] [iv (attrW a : Nat)] := by
  have ek := a.wt_eq
  have q1 := textM_le a.val
  refine zZ Tryz.func133 rfl Tryz.ntmps133 (by kernel_rfl) rfl fun w0 I0 G0 => ?_
  refine zE <| zB <| g_uG (zp 1001 rfl rfl rfl rfl) rfl <| g_u (zD rfl rfl) <| zF <| zA <| zE <| yZ xr <| g_u (zG rfl rfl fa93_0 rfl) <| g_u (zH rfl rfl rfl tA9 tS9 rfl rfl) <| g_u (yR rfl rfl Tryz.underlying9) <| g_u (s_mul rfl rfl rfl) <| g_u (zt rfl rfl rfl) <| g_u (zG rfl rfl fa93_1 rfl) <| g_u (zH rfl rfl rfl tA91 tS91 rfl rfl) ?_
  refine g_u (zQ (text_c a.val ((GA.ok_iff a).1 ho).2 (by omega)) rfl rfl) ?_
  refine g_u (yR rfl rfl Tryz.underlying9) <| g_u (s_mul rfl rfl rfl) <| g_u (zt rfl rfl rfl) <| g_u (zD rfl rfl) ?_
  refine zF ⟨by kernel_rfl, ?_⟩
  refine zA <| zK ?_
  exact ⟨⟨(rfl : toAV (Al.look _ _) = some _).trans (congrArg some (by (exact congrArg iv (by unfold attrW; ((try simp only [decide_eq_true_eq, decide_eq_false_iff_not, qc, ne_eq, beq_iff_eq, qd, beq_eq_false_iff_ne, Bool.not_eq_true', Bool.not_eq_false', gt_iff_lt, ge_iff_le] at *); (repeat simp (disch := omega) only [zO, z_] at *)); omega)))), rfl⟩, trivial⟩
theorem wattrs_c (l : List GA) (ho : ∀ a ∈ l, a.ok) (hw : wtAs l ≤ 10000000) : zn Tryz.prog Γ0 86 [.sl 7 (l.map avA)] [iv (xW l : Nat)] := by
  have q1 := attrsW_le l
  have q2 := yr l
  refine zZ Tryz.func86 rfl Tryz.ntmps86 (by kernel_rfl) rfl fun w0 I0 G0 => ?_
  refine zE <| zB <| g_u (zD rfl rfl) <| zF <| zA <| zE <| zB <| g_u (zC rfl rfl) ?_
  refine g_u (zQ (sumA_c l attrW 133 [] (fun a ha => attrW_c a (ho a ha) (by have := wH ha; omega)) (by omega) (by rw [← attrsW_sum]; omega)) rfl rfl) ?_
  refine g_u (zD rfl rfl) <| zF <| zA <| zK ?_
  exact ⟨⟨(rfl : toAV (Al.look _ _) = some _).trans (congrArg some (by (rw [attrsW_sum]))), rfl⟩, trivial⟩
end Go.Proofs
namespace Go.Proofs
open Go Go.Al
set_option maxRecDepth 10000
theorem cmp216 : cmpFn Tryz.prog 216 := ⟨_, Tryz.func216, by kernel_rfl, rfl, by kernel_rfl, by kernel_rfl⟩
theorem cmp_197_c (s t : ByteArray) : zn Tryz.prog Γ0 197 [sv s, sv t] [iv (cmpK s t)] := by
  refine zZ Tryz.func197 rfl Tryz.ntmps197 (by kernel_rfl) rfl fun w0 I0 G0 => ?_
  refine zE <| zB <| g_u (zD rfl rfl) <| zF <| zA <| zE <| zB <| g_u (zC rfl rfl) <| g_u (zC rfl rfl) <| g_u (s_cmpS cmp216 rfl rfl rfl) <| g_u (zD rfl rfl) <| zF <| zA <| zK ?_
  exact ⟨⟨(rfl : toAV (Al.look _ _) = some _).trans (congrArg some (by rfl)), rfl⟩, trivial⟩
theorem cmp_149_c (s t : ByteArray) : zn Tryz.prog Γ0 149 [sv s, sv t] [iv (cmpK s t)] := by
  refine zZ Tryz.func149 rfl Tryz.ntmps149 (by kernel_rfl) rfl fun w0 I0 G0 => ?_
  refine zE <| zB <| g_u (zD rfl rfl) <| zF <| zA <| zE <| zB <| g_u (zC rfl rfl) <| g_u (zC rfl rfl) <| g_u (zQ (cmp_197_c _ _) rfl rfl) <| g_u (zD rfl rfl) <| zF <| zA <| zK ?_
  exact ⟨⟨(rfl : toAV (Al.look _ _) = some _).trans (congrArg some (by rfl)), rfl⟩, trivial⟩
theorem cmpA_c (a : GA) (k : ByteArray) : zn Tryz.prog Γ0 148 [a.av, sv k] [iv (cmpK a.key k)] := by
  refine zZ Tryz.func148 rfl Tryz.ntmps148 (by kernel_rfl) rfl fun w0 I0 G0 => ?_
  refine zE <| zB <| g_uG (zp 1002 rfl rfl rfl rfl) rfl <| g_u (zD rfl rfl) <| zF <| zA <| zE <| zB <| g_u (zG rfl rfl fa93_0 rfl) <| g_u (zH rfl rfl rfl tA9 tS9 rfl rfl) <| g_u (zC rfl rfl) <| g_u (zQ (cmp_149_c _ _) rfl rfl) <| g_u (zD rfl rfl) <| zF <| zA <| zK ?_
  exact ⟨⟨(rfl : toAV (Al.look _ _) = some _).trans (congrArg some (by rfl)), rfl⟩, trivial⟩
theorem bsf_c (l : List GA) (k : ByteArray) (hr : risA none l) (hl : l.length ≤ 1000000000000) : zn Tryz.prog Γ0 147 [.sl 7 (l.map avA), sv k, .fn (.func 148) [] []] [iv (posA l k : Nat), bv (hasA l k)] := by
  refine zZ Tryz.func147 rfl Tryz.ntmps147 (by kernel_rfl) rfl fun w0 I0 G0 => ?_
  refine zE <| zB <| g_u (zD rfl rfl) <| g_u (zD rfl rfl) <| zF <| zA <| zE <| zB <| g_u (zC rfl rfl) <| g_u (yB rfl rfl Tryz.underlying46) <| g_u (zD rfl rfl) <| zF <| zA <| zE <| zB <| g_u (zC rfl rfl) <| g_u (zD rfl rfl) <| g_u (zD rfl rfl) <| zF <| zA <| zE <| zS ?_
  refine zr (fun j : Nat × Nat => [(0, .imm (.sl 7 (l.map avA))), (1, .imm (sv k)), (2, .imm (.fn (.func 148) [] [])), (8, .imm (iv (l.length : Int))), (9, .imm (iv (j.1 : Int))), (10, .imm (iv (j.2 : Int)))]) (fun j => j.1 ≤ j.2 ∧ j.2 ≤ l.length ∧ (∀ i, i < j.1 → ltB (nthA l i).key k = true) ∧ (∀ i, j.2 ≤ i → i < l.length → ltB (nthA l i).key k = false)) (fun j => j.2 - j.1) (⟨0, l.length⟩) ?_ ⟨rfl, rfl, rfl, zW rfl (by rw [List.length_map]), rfl, zW rfl (by rw [List.length_map]), trivial⟩ ?_
  · exact ⟨Nat.zero_le _, Nat.le_refl _, fun i h => absurd h (Nat.not_lt_zero _), fun i h1 h2 => absurd h2 (Nat.not_lt.2 h1)⟩
  · rintro ⟨lo, hi⟩ ⟨h1, h2, h3, h4⟩; dsimp only at h1 h2 h3 h4
    have em : IntKind.i64.wrap ((IntKind.u64.wrap (IntKind.i64.wrap ((lo : Int) + (hi : Int)))).fdiv (2 ^ (min (1 : Int).toNat IntKind.u64.bits))) = (((lo + hi) / 2 : Nat) : Int) := by rw [zO (n := (lo : Int) + (hi : Int)) (by omega) (by omega), wrapu64 (by omega) (by omega), Int.fdiv_eq_ediv_of_nonneg _ (by decide), show (2 : Int) ^ (min (1 : Int).toNat IntKind.u64.bits) = 2 from by decide, zO (by omega) (by omega)]; omega
    refine zE <| zE <| zB <| g_u (zC rfl rfl) <| g_u (zC rfl rfl) <| g_u (yO rfl rfl rfl) <| zF <| zA ?_
    refine zL rfl (fun hb1 => ?_) (fun hb1 => ?_)
    · have hmid : (lo + hi) / 2 < l.length := by have := of_decide_eq_true hb1; omega
      refine zN <| zA <| zS <| zE <| zB <| g_u (zC rfl rfl) <| g_u (zC rfl rfl) <| g_u (zt rfl rfl rfl) <| g_u (xL rfl rfl Tryz.underlying3 Tryz.underlying194) ?_
      refine g_u (s_shr rfl rfl rfl (by first | decide | omega | (((try simp only [decide_eq_true_eq, decide_eq_false_iff_not, qc, ne_eq, beq_iff_eq, qd, beq_eq_false_iff_ne, Bool.not_eq_true', Bool.not_eq_false', gt_iff_lt, ge_iff_le] at *); (repeat simp (disch := omega) only [zO, z_] at *)); omega))) ?_
      refine g_u (xL rfl rfl Tryz.underlying194 Tryz.underlying3) <| g_u (zD rfl rfl) <| zF <| zA <| zE <| zB <| g_u (zC rfl rfl) <| g_u (zC rfl rfl) <| g_u (zC rfl rfl) ?_
      refine g_u (za rfl rfl rfl Tryz.underlying46 tS93 (by erw [em]; omega) ((congrArg (fun z : Int => (l.map avA)[z.toNat]?) em).trans (ixA hmid))) ?_
      refine g_u (zY rfl rfl tA93 tS93 rfl rfl) <| g_u (zC rfl rfl) <| g_u (s_callv1 (cmpA_c _ _) rfl rfl rfl) <| g_u (yO rfl rfl rfl) <| zF <| zA ?_
      refine zL rfl (fun hb2 => ?_) (fun hb2 => ?_)
      · have hk : ltB (nthA l ((lo + hi) / 2)).key k = true := (cmpK_lt _ _).1 (of_decide_eq_true hb2)
        refine zB <| g_u (zC rfl rfl) <| g_u (zt rfl rfl rfl) <| g_u (zD rfl rfl) <| zF <| zP <| zA ?_
        have hlt : lo < hi := by have := of_decide_eq_true hb1; omega
        first
          | exact ⟨⟨(lo + hi) / 2 + 1, hi⟩, ⟨by dsimp only; omega, h2, fun i hi1 => ris_left hr hmid hk (by dsimp only at hi1; omega), h4⟩, ⟨rfl, rfl, rfl, rfl, zW rfl (by erw [em]; rw [zO (by omega) (by omega)]; rfl), rfl, trivial⟩, by dsimp only; omega⟩
          | exact ⟨⟨lo, (lo + hi) / 2⟩, ⟨by dsimp only; omega, by dsimp only; omega, h3, fun i hi1 hi2 => ris_right hr hk hi1 hi2⟩, ⟨rfl, rfl, rfl, rfl, rfl, zW rfl em, trivial⟩, by dsimp only; omega⟩
      · have hk : ltB (nthA l ((lo + hi) / 2)).key k = false := by cases hq : ltB (nthA l ((lo + hi) / 2)).key k; rfl; exact absurd ((cmpK_lt _ _).2 hq) (of_decide_eq_false hb2)
        refine zB <| g_u (zC rfl rfl) <| g_u (zD rfl rfl) <| zF <| zP <| zA ?_
        have hlt : lo < hi := by have := of_decide_eq_true hb1; omega
        first
          | exact ⟨⟨(lo + hi) / 2 + 1, hi⟩, ⟨by dsimp only; omega, h2, fun i hi1 => ris_left hr hmid hk (by dsimp only at hi1; omega), h4⟩, ⟨rfl, rfl, rfl, rfl, zW rfl (by erw [em]; rw [zO (by omega) (by omega)]; rfl), rfl, trivial⟩, by dsimp only; omega⟩
          | exact ⟨⟨lo, (lo + hi) / 2⟩, ⟨by dsimp only; omega, by dsimp only; omega, h3, fun i hi1 hi2 => ris_right hr hk hi1 hi2⟩, ⟨rfl, rfl, rfl, rfl, rfl, zW rfl em, trivial⟩, by dsimp only; omega⟩
    · have hlo : lo = hi := by have := of_decide_eq_false hb1; omega
      have hp : lo = posA l k := posA_spec l k lo (by omega) h3 (fun i hi1 hi2 => h4 i (by omega) hi2)
      refine zw <| zT <| zT <| zo <| zA <| zE <| zB <| g_u (zC rfl rfl) <| g_u (zC rfl rfl) <| g_u (zC rfl rfl) <| g_u (yO rfl rfl rfl) <| g_u (zC rfl rfl) <| z6 (t := 39) rfl ?_
      rintro (hb3 | hb3)
      · rw [hb3]
        have hll : lo < l.length := by have := of_decide_eq_true hb3; (try simp only [List.length_map] at this); omega
        refine zX rfl rfl (zC rfl rfl) <| zX rfl rfl (zC rfl rfl) <| zX rfl rfl (zC rfl rfl) ?_
        refine zX rfl rfl (za rfl rfl rfl Tryz.underlying46 tS93 (by omega) (ixA hll)) ?_
        refine zX rfl rfl (zY rfl rfl tA93 tS93 rfl rfl) <| zX rfl rfl (zC rfl rfl) <| zX rfl rfl (s_callv1 (cmpA_c _ _) rfl rfl rfl) <| zX rfl rfl (yM rfl rfl rfl) <| g_u (zi rfl rfl rfl) <| g_u (zD rfl rfl) <| g_u (zD rfl rfl) <| zF <| zA <| zK ?_
        exact ⟨⟨(rfl : toAV (Al.look _ _) = some _).trans (congrArg (fun n : Nat => some (iv n)) hp), rfl⟩, ⟨(rfl : toAV (Al.look _ _) = some _).trans (congrArg (fun b => some (bv b)) (by rw [hasA, ← hp, decide_eq_true hll, Bool.true_and, ← Bool.coe_iff_coe]; simp only [beq_iff_eq, decide_eq_true_eq]; exact cmpK_eq _ _)), rfl⟩, trivial⟩
      · rw [hb3]
        have hll : ¬ lo < l.length := by have := of_decide_eq_false hb3; (try simp only [List.length_map] at this); omega
        refine zM rfl rfl rfl <| zM rfl rfl rfl <| zM rfl rfl rfl <| zM rfl rfl rfl <| zM rfl rfl rfl <| zM rfl rfl rfl <| zM rfl rfl rfl <| zM rfl rfl rfl <| g_u (zj rfl rfl rfl) <| g_u (zD rfl rfl) <| g_u (zD rfl rfl) <| zF <| zA <| zK ?_
        exact ⟨⟨(rfl : toAV (Al.look _ _) = some _).trans (congrArg (fun n : Nat => some (iv n)) hp), rfl⟩, ⟨(rfl : toAV (Al.look _ _) = some _).trans (congrArg (fun b => some (bv b)) (by rw [hasA, ← hp, decide_eq_false hll, Bool.false_and])), rfl⟩, trivial⟩
theorem find_c (l : List GA) (k : ByteArray) (hr : risA none l) (hl : l.length ≤ 1000000000000) : zn Tryz.prog Γ0 97 [.sl 7 (l.map avA), sv k] [iv (posA l k : Nat), bv (hasA l k)] := by
  refine zZ Tryz.func97 rfl Tryz.ntmps97 (by kernel_rfl) rfl fun w0 I0 G0 => ?_
  refine zE <| zB <| g_u (zD rfl rfl) <| g_u (zD rfl rfl) <| zF <| zA <| zE <| zB <| g_u (zC rfl rfl) <| g_u (zC rfl rfl) <| g_u (s_call2 (bsf_c l k hr hl) rfl rfl) <| g_u (zm rfl rfl rfl rfl) <| g_u (zm rfl rfl rfl rfl) <| g_u (zD rfl rfl) <| g_u (zD rfl rfl) <| zF <| zA <| zK ?_
  exact ⟨⟨(rfl : toAV (Al.look _ _) = some _).trans (congrArg some (by rfl)), rfl⟩, ⟨(rfl : toAV (Al.look _ _) = some _).trans (congrArg some (by rfl)), rfl⟩, trivial⟩
theorem get_c (l : List GA) (k : ByteArray) (hr : risA none l) (hl : l.length ≤ 1000000000000) : zn Tryz.prog Γ0 152 [.sl 7 (l.map avA), sv k] [((getA l k).getD zeroV).av, bv (getA l k).isSome] := by
  refine zZ Tryz.func152 rfl Tryz.ntmps152 (by kernel_rfl) rfl fun w0 I0 G0 => ?_
  refine zE <| zB <| g_uG (yG 1004 rfl rfl rfl tZ91) rfl <| g_u (zD rfl rfl) <| zF <| zA <| zE <| zE <| zB <| g_u (zC rfl rfl) <| g_u (zC rfl rfl) <| g_u (s_call2 (find_c l k hr hl) rfl rfl) <| g_u (vC rfl rfl) <| g_u (zm rfl rfl rfl rfl) <| g_u (zm rfl rfl rfl rfl) <| g_u (zD rfl rfl) <| g_u (zD rfl rfl) <| zF <| zA <| zE <| zB <| g_u (zC rfl rfl) <| zF <| zA ?_
  refine zL rfl (fun hb1 => ?_) (fun hb1 => ?_)
  · have hh : hasA l k = true := hb1
    have hll : posA l k < l.length := by unfold hasA at hh; simp at hh; exact hh.1
    refine zE <| zB <| g_u (zC rfl rfl) <| g_u (zC rfl rfl) ?_
    refine g_u (za rfl rfl rfl Tryz.underlying46 tS93 (by omega) (ixA hll)) ?_
    refine g_u (zR rfl rfl fa93_1 rfl rfl) <| g_u (zY rfl rfl tA91 tS91 rfl rfl) <| g_u (zV rfl rfl rfl tS91 rfl rfl) <| g_u (zD rfl rfl) <| zF <| zA <| zK <| zJ ?_
    exact ⟨⟨_, _, _, _, _, _, _, rfl, rfl, tA91, tS91, rfl, rfl, (rfl : toAV _ = some _).trans (congrArg some (by (rw [getA_pos hr k, if_pos hh]; rfl)))⟩, ⟨(rfl : toAV (Al.look _ _) = some _).trans (congrArg some (by (rw [getA_pos hr k, if_pos hh]; rfl))), rfl⟩, trivial⟩
  · have hh : hasA l k = false := hb1
    refine zN <| zA <| zE <| zB <| g_u (yw rfl tU91 us91 pl91 rfl rfl rfl rfl) <| g_u (zV rfl rfl rfl tS91 rfl rfl) <| g_u (zD rfl rfl) <| zF <| zA <| zK ?_
    exact ⟨⟨_, _, _, _, _, _, _, rfl, rfl, tA91, tS91, rfl, rfl, (rfl : toAV _ = some _).trans (congrArg some (by (rw [getA_pos hr k, if_neg (by rw [hh]; decide)]; rfl)))⟩, ⟨(rfl : toAV (Al.look _ _) = some _).trans (congrArg some (by (rw [getA_pos hr k, if_neg (by rw [hh]; decide)]; rfl))), rfl⟩, trivial⟩
theorem getA_ok {l : List GA} (k : ByteArray) (h : ∀ a ∈ l, a.ok) : ((getA l k).getD zeroV).ok ∧ ((getA l k).getD zeroV).wt ≤ 1 + wtAs l := by
  cases hg : getA l k with
  | none => exact ⟨by simp only [Option.getD_none]; rw [GV.ok_iff]; exact ⟨by decide, by decide, by decide, by decide, fun x hx => absurd hx (by simp [zeroV, GV.list]), fun x hx => absurd hx (by simp [zeroV, GV.map])⟩, by simp only [Option.getD_none]; rw [GV.wt_eq]; simp [zeroV, GV.list, GV.map, GV.text, wtVs, wtAs]; exact Nat.zero_le _⟩
  | some v =>
    obtain ⟨a, ha, rfl, _⟩ := getA_mem hg
    have := wH ha
    have := a.wt_eq
    exact ⟨((GA.ok_iff a).1 (h a ha)).2, by simp only [Option.getD_some]; omega⟩
theorem textA_c (l : List GA) (k : ByteArray) (hr : risA none l) (hl : l.length ≤ 1000000000000) (ho : ∀ a ∈ l, a.ok) (hw : wtAs l ≤ 9000000) : zn Tryz.prog Γ0 99 [.sl 7 (l.map avA), sv k] [sv (textA l k)] := by
  refine zZ Tryz.func99 rfl Tryz.ntmps99 (by kernel_rfl) rfl fun w0 I0 G0 => ?_
  refine zE <| zB <| g_u (zD rfl rfl) <| zF <| zA <| zE <| zB <| g_u (zC rfl rfl) <| g_u (zC rfl rfl) <| g_u (s_call2 (get_c l k hr hl) rfl rfl) <| g_u (vC rfl rfl) <| g_u (zm rfl rfl rfl rfl) <| g_u (zm rfl rfl rfl rfl) <| g_uG (yG 1005 rfl rfl rfl tZ91) rfl <| g_u (zV rfl rfl rfl tS91 rfl rfl) <| g_u (zD rfl rfl) <| zF <| zA <| zE <| zB <| g_u (zz rfl rfl rfl tA91 tS91 rfl rfl) ?_
  refine g_u (zQ (text_c _ (getA_ok k ho).1 (by have := (getA_ok k ho).2; omega)) rfl rfl) ?_
  refine g_u (zD rfl rfl) <| zF <| zA <| zK ?_
  exact ⟨⟨(rfl : toAV (Al.look _ _) = some _).trans (congrArg some (by rfl)), rfl⟩, trivial⟩
theorem rget_c (l : List GA) (k : ByteArray) (hl : l.length ≤ 1000000000000) : zn Tryz.prog Γ0 157 [.sl 7 (l.map avA), sv k] [((getA l k).getD zeroV).av, bv (getA l k).isSome] := by
  refine zZ Tryz.func157 rfl Tryz.ntmps157 (by kernel_rfl) rfl fun w0 I0 G0 => ?_
  refine zE <| zB <| g_uG (yG 1004 rfl rfl rfl tZ91) rfl <| g_u (zD rfl rfl) <| zF <| zA <| zE <| zE <| zB <| g_u (zD rfl rfl) <| zF <| zA <| zS ?_
  refine zr (fun i : Nat => [(0, .imm (.sl 7 (l.map avA))), (1, .imm (sv k)), (4, .ptr 1004 0), (1004, .box 91 (.imm z91)), (5, .imm (bv false)), (6, .imm (iv (i : Int)))]) (fun i => i ≤ l.length ∧ getA l k = getA (l.drop i) k) (fun i => l.length - i) (0) ?_ ⟨rfl, rfl, rfl, rfl, rfl, rfl, trivial⟩ ?_
  · exact ⟨Nat.zero_le _, rfl⟩
  · rintro i ⟨h1, h2⟩; (try dsimp only at h1 h2)
    refine zE <| zE <| zB <| g_u (zC rfl rfl) <| g_u (zC rfl rfl) <| g_u (yB rfl rfl Tryz.underlying46) <| g_u (yO rfl rfl rfl) <| zF <| zA ?_
    refine zL rfl (fun hb1 => ?_) (fun hb1 => ?_)
    · have hi : i < l.length := by have := of_decide_eq_true hb1; (try simp only [List.length_map] at this); omega
      refine zN <| zA <| zE <| zS <| zE <| zB <| g_u (zC rfl rfl) <| g_u (zC rfl rfl) ?_
      refine g_u (za rfl rfl rfl Tryz.underlying46 tS93 (by omega) (ixA hi)) ?_
      refine g_u (zR rfl rfl fa93_0 rfl rfl) <| g_u (zY rfl rfl tA9 tS9 rfl rfl) <| g_u (zC rfl rfl) <| g_u (s_eqS rfl rfl rfl) <| zF <| zA ?_
      refine zL rfl (fun hb2 => ?_) (fun hb2 => ?_)
      · have hke : (nthA l i).key = k := by have e := hb2; rw [ya] at e; exact of_decide_eq_true e
        refine zE <| zB <| g_u (zC rfl rfl) <| g_u (zC rfl rfl) ?_
        refine g_u (za rfl rfl rfl Tryz.underlying46 tS93 (by omega) (ixA hi)) ?_
        refine g_u (zR rfl rfl fa93_1 rfl rfl) <| g_u (zY rfl rfl tA91 tS91 rfl rfl) <| g_u (zV rfl rfl rfl tS91 rfl rfl) <| g_u (zD rfl rfl) <| zF <| zA <| zK <| zf <| zJ <| zJ <| zf <| zJ ?_
        exact ⟨⟨_, _, _, _, _, _, _, rfl, rfl, tA91, tS91, rfl, rfl, (rfl : toAV _ = some _).trans (congrArg some (by (rw [h2, getA_drop hi, if_pos hke]; rfl)))⟩, ⟨(rfl : toAV (Al.look _ _) = some _).trans (congrArg some (by (rw [h2, getA_drop hi, if_pos hke]; rfl))), rfl⟩, trivial⟩
      · have hke : ¬ (nthA l i).key = k := by have e := hb2; rw [ya] at e; exact of_decide_eq_false e
        refine zN <| zP <| zA <| zB <| g_u (zC rfl rfl) <| g_u (zt rfl rfl rfl) <| g_u (zD rfl rfl) <| zF <| zA ?_
        refine ⟨i + 1, ⟨hi, by rw [h2, getA_drop hi, if_neg hke]⟩, ⟨rfl, rfl, rfl, rfl, rfl, zW rfl (by rw [zO (by omega) (by omega)]; rfl), trivial⟩, by (try dsimp only); omega⟩
    · have hin : i = l.length := by have := of_decide_eq_false hb1; (try simp only [List.length_map] at this); omega
      refine zw <| zT <| zT <| zo <| zA <| zE <| zB <| g_u (yw rfl tU91 us91 pl91 rfl rfl rfl rfl) <| g_u (zV rfl rfl rfl tS91 rfl rfl) <| g_u (zD rfl rfl) <| zF <| zA <| zK ?_
      exact ⟨⟨_, _, _, _, _, _, _, rfl, rfl, tA91, tS91, rfl, rfl, (rfl : toAV _ = some _).trans (congrArg some (by (rw [h2, hin, List.drop_length]; rfl)))⟩, ⟨(rfl : toAV (Al.look _ _) = some _).trans (congrArg some (by (rw [h2, hin, List.drop_length]; rfl))), rfl⟩, trivial⟩
theorem rtextA_c (l : List GA) (k : ByteArray) (ho : ∀ a ∈ l, a.ok) (hw : wtAs l ≤ 9000000) : zn Tryz.prog Γ0 103 [.sl 7 (l.map avA), sv k] [sv (textA l k)] := by
  have q1 := yr l
  refine zZ Tryz.func103 rfl Tryz.ntmps103 (by kernel_rfl) rfl fun w0 I0 G0 => ?_
  refine zE <| zB <| g_u (zD rfl rfl) <| zF <| zA <| zE <| zB <| g_u (zC rfl rfl) <| g_u (zC rfl rfl) ?_
  refine g_u (s_call2 (rget_c _ _ (by first | assumption | omega)) rfl rfl) ?_
  refine g_u (vC rfl rfl) <| g_u (zm rfl rfl rfl rfl) <| g_u (zm rfl rfl rfl rfl) <| g_uG (yG 1005 rfl rfl rfl tZ91) rfl <| g_u (zV rfl rfl rfl tS91 rfl rfl) <| g_u (zD rfl rfl) <| zF <| zA <| zE <| zB <| g_u (zz rfl rfl rfl tA91 tS91 rfl rfl) ?_
  refine g_u (zQ (rtext_c _ (getA_ok k ho).1 (by have := (getA_ok k ho).2; omega)) rfl rfl) ?_
  refine g_u (zD rfl rfl) <| zF <| zA <| zK ?_
  exact ⟨⟨(rfl : toAV (Al.look _ _) = some _).trans (congrArg some (by rfl)), rfl⟩, trivial⟩
theorem rservice_c (r : GRes) (ho : ∀ a ∈ r.attrs, a.ok) (hw : wtAs r.attrs ≤ 9000000) : zn Tryz.prog Γ0 72 [r.av] [sv (yn r)] := by
  refine zZ Tryz.func72 rfl Tryz.ntmps72 (by kernel_rfl) rfl fun w0 I0 G0 => ?_
  refine zE <| zB <| g_uG (zp 1001 rfl rfl rfl rfl) rfl <| g_u (zD rfl rfl) <| zF <| zA <| zE <| zB <| g_u (zG rfl rfl fa58_0 rfl) <| g_u (zH rfl rfl rfl tA46 tS46 rfl rfl) <| g_u (zQ (rtextA_c r.attrs skey ho hw) rfl rfl) <| g_u (zD rfl rfl) <| zF <| zA <| zK ?_
  exact ⟨⟨(rfl : toAV (Al.look _ _) = some _).trans (congrArg some (by rfl)), rfl⟩, trivial⟩
theorem service_c (r : GRes) (ho : ∀ a ∈ r.attrs, a.ok) (hw : wtAs r.attrs ≤ 9000000) (hr : risA none r.attrs) : zn Tryz.prog Γ0 68 [r.av] [sv (yn r)] := by
  have q1 := yr r.attrs
  refine zZ Tryz.func68 rfl Tryz.ntmps68 (by kernel_rfl) rfl fun w0 I0 G0 => ?_
  refine zE <| zB <| g_uG (zp 1001 rfl rfl rfl rfl) rfl <| g_u (zD rfl rfl) <| zF <| zA <| zE <| zB <| g_u (zG rfl rfl fa58_0 rfl) <| g_u (zH rfl rfl rfl tA46 tS46 rfl rfl) ?_
  refine g_u (zQ (textA_c r.attrs skey hr (by omega) ho hw) rfl rfl) ?_
  refine g_u (zD rfl rfl) <| zF <| zA <| zK ?_
  exact ⟨⟨(rfl : toAV (Al.look _ _) = some _).trans (congrArg some (by rfl)), rfl⟩, trivial⟩
end Go.Proofs
namespace Go.Proofs
open Go Go.Al
set_option maxRecDepth 10000
theorem rattrs_c (l : List GA) (ho : ∀ a ∈ l, a.ok) (hw : wtAs l ≤ 10000000) : zn Tryz.prog Γ0 70 [.sl 7 (l.map avA)] [iv (xW l : Nat)] := by
  have q0 := attrsW_le l
  have qs := attrsW_sum l
  have ql := yr l
  refine zZ Tryz.func70 rfl Tryz.ntmps70 (by kernel_rfl) rfl fun w0 I0 G0 => ?_
  refine zE <| zB <| g_u (zD rfl rfl) <| zF <| zA <| zE <| zB <| g_u (zD rfl rfl) <| zF <| zA <| zE <| zE <| zB <| g_u (zD rfl rfl) <| zF <| zA <| zS ?_
  refine zr (fun i : Nat => [(0, .imm (.sl 7 (l.map avA))), (3, .imm (iv (zv attrW (l.take i) : Nat))), (4, .imm (iv (i : Int)))]) (fun i => i ≤ l.length) (fun i => l.length - i) (0) ?_ ⟨rfl, rfl, rfl, trivial⟩ ?_
  · exact Nat.zero_le _
  · rintro i h1; have h1 : i ≤ l.length := h1; have hs0 := wC attrW l i
    refine zE <| zE <| zB <| g_u (zC rfl rfl) <| g_u (zC rfl rfl) <| g_u (yB rfl rfl Tryz.underlying46) <| g_u (yO rfl rfl rfl) <| zF <| zA ?_
    refine zL rfl (fun hb1 => ?_) (fun hb1 => ?_)
    · have hi : i < l.length := by have := of_decide_eq_true hb1; (try simp only [List.length_map] at this); omega
      have hx : (nthA l i).val.wt ≤ 10000000 := by have := wH (yq hi); have := (nthA l i).wt_eq; omega
      have hy := textM_le (nthA l i).val
      have hz := wH (yq hi)
      have hz2 := (nthA l i).wt_eq
      refine zN <| zA <| zE <| zS <| yZ xr <| g_u (zC rfl rfl) <| g_u (zt rfl rfl rfl) <| g_u (zC rfl rfl) <| g_u (zC rfl rfl) ?_
      refine g_u (za rfl rfl rfl Tryz.underlying46 tS93 (by omega) (ixA hi)) ?_
      refine g_u (zR rfl rfl fa93_0 rfl rfl) <| g_u (zY rfl rfl tA9 tS9 rfl rfl) <| g_u (yR rfl rfl Tryz.underlying9) <| g_u (s_mul rfl rfl rfl) <| g_u (zt rfl rfl rfl) <| g_u (zC rfl rfl) <| g_u (zC rfl rfl) ?_
      refine g_u (za rfl rfl rfl Tryz.underlying46 tS93 (by omega) (ixA hi)) ?_
      refine g_u (zR rfl rfl fa93_1 rfl rfl) <| g_u (zY rfl rfl tA91 tS91 rfl rfl) <| g_u (zQ (rtext_c _ ((GA.ok_iff _).1 (ho _ (yq hi))).2 hx) rfl rfl) <| g_u (yR rfl rfl Tryz.underlying9) <| g_u (s_mul rfl rfl rfl) <| g_u (zt rfl rfl rfl) <| g_u (zD rfl rfl) ?_
      refine zF ⟨by kernel_rfl, ?_⟩
      refine zP <| zA <| zB <| g_u (zC rfl rfl) <| g_u (zt rfl rfl rfl) <| g_u (zD rfl rfl) <| zF <| zA ?_
      have q1 := yj (F := attrW) (d := a0) hi
      have q2 := xd (F := attrW) (d := a0) hi
      refine ⟨i + 1, hi, ⟨rfl, zW rfl (by rw [q2]; have qa : attrW (nth l i a0) = 64 + 6 * (nthA l i).key.size + 12 * (textM (nthA l i).val).size := rfl; (try dsimp only); ((try simp only [decide_eq_true_eq, decide_eq_false_iff_not, qc, ne_eq, beq_iff_eq, qd, beq_eq_false_iff_ne, Bool.not_eq_true', Bool.not_eq_false', gt_iff_lt, ge_iff_le] at *); (repeat simp (disch := omega) only [zO, z_] at *)); omega), zW rfl (by rw [zO (by omega) (by omega)]; rfl), trivial⟩, by (try dsimp only); omega⟩
    · have hin : i = l.length := by have := of_decide_eq_false hb1; (try simp only [List.length_map] at this); omega
      refine zw <| zT <| zT <| zo <| zA <| zE <| zB <| g_u (zC rfl rfl) <| g_u (zD rfl rfl) <| zF <| zA <| zK ?_
      exact ⟨⟨(rfl : toAV (Al.look _ _) = some _).trans (congrArg some (by (exact congrArg iv (by rw [hin, List.take_length, ← attrsW_sum])))), rfl⟩, trivial⟩
theorem evW_c (e : GE) (ho : e.ok) (hw : e.wt ≤ 10000000) : zn Tryz.prog Γ0 188 [e.av] [iv (evW e : Nat)] := by
  have q0 := evW_le e
  have q1 : evW e = 64 + 6 * e.name.size + xW e.attrs := rfl
  have q2 : e.wt = 1 + e.name.size + wtAs e.attrs := rfl
  refine zZ Tryz.func188 rfl Tryz.ntmps188 (by kernel_rfl) rfl fun w0 I0 G0 => ?_
  refine zE <| zB <| g_uG (zp 1001 rfl rfl rfl rfl) rfl <| g_u (zD rfl rfl) <| zF <| zA <| zE <| yZ xr <| g_u (zG rfl rfl fa95_1 rfl) <| g_u (zH rfl rfl rfl tA9 tS9 rfl rfl) <| g_u (yR rfl rfl Tryz.underlying9) <| g_u (s_mul rfl rfl rfl) <| g_u (zt rfl rfl rfl) <| g_u (zG rfl rfl fa95_2 rfl) <| g_u (zH rfl rfl rfl tA46 tS46 rfl rfl) ?_
  refine g_u (zQ (wattrs_c _ ho.2.2 (by omega)) rfl rfl) ?_
  refine g_u (zt rfl rfl rfl) <| g_u (zD rfl rfl) ?_
  refine zF ⟨by kernel_rfl, ?_⟩
  refine zA <| zK ?_
  exact ⟨⟨(rfl : toAV (Al.look _ _) = some _).trans (congrArg some (by (exact congrArg iv (by rw [q1]; ((try simp only [decide_eq_true_eq, decide_eq_false_iff_not, qc, ne_eq, beq_iff_eq, qd, beq_eq_false_iff_ne, Bool.not_eq_true', Bool.not_eq_false', gt_iff_lt, ge_iff_le] at *); (repeat simp (disch := omega) only [zO, z_] at *)); omega)))), rfl⟩, trivial⟩
theorem lkW_c (e : GL) (ho : e.ok) (hw : e.wt ≤ 10000000) : zn Tryz.prog Γ0 190 [e.av] [iv (lkW e : Nat)] := by
  have q0 := lkW_le e
  have q1 : lkW e = 64 + 6 * e.state.size + xW e.attrs := rfl
  have q2 : e.wt = 1 + e.state.size + wtAs e.attrs := rfl
  refine zZ Tryz.func190 rfl Tryz.ntmps190 (by kernel_rfl) rfl fun w0 I0 G0 => ?_
  refine zE <| zB <| g_uG (zp 1001 rfl rfl rfl rfl) rfl <| g_u (zD rfl rfl) <| zF <| zA <| zE <| yZ xr <| g_u (zG rfl rfl fa107_2 rfl) <| g_u (zH rfl rfl rfl tA9 tS9 rfl rfl) <| g_u (yR rfl rfl Tryz.underlying9) <| g_u (s_mul rfl rfl rfl) <| g_u (zt rfl rfl rfl) <| g_u (zG rfl rfl fa107_3 rfl) <| g_u (zH rfl rfl rfl tA46 tS46 rfl rfl) ?_
  refine g_u (zQ (wattrs_c _ ho.2.2.2 (by omega)) rfl rfl) ?_
  refine g_u (zt rfl rfl rfl) <| g_u (zD rfl rfl) ?_
  refine zF ⟨by kernel_rfl, ?_⟩
  refine zA <| zK ?_
  exact ⟨⟨(rfl : toAV (Al.look _ _) = some _).trans (congrArg some (by (exact congrArg iv (by rw [q1]; ((try simp only [decide_eq_true_eq, decide_eq_false_iff_not, qc, ne_eq, beq_iff_eq, qd, beq_eq_false_iff_ne, Bool.not_eq_true', Bool.not_eq_false', gt_iff_lt, ge_iff_le] at *); (repeat simp (disch := omega) only [zO, z_] at *)); omega)))), rfl⟩, trivial⟩
theorem spanW_c (s : GSpan) (t : ByteArray) (ho : s.ok) (hw : s.wt ≤ 1000000) (ht : t.size ≤ 10000000) : zn Tryz.prog Γ0 136 [s.av, sv t] [iv (spanW s t : Nat)] := by
  have q0 := spanW_le s t ht
  have qe := spanW_eq s t
  have qw : s.wt = 1 + s.state.size + s.name.size + s.note.size + wtAs s.attrs + zv GE.wt s.events + zv GL.wt s.links := rfl
  have ql := yP GE.wt (fun e => by unfold GE.wt; omega) s.events
  have qm := yP GL.wt (fun e => by unfold GL.wt; omega) s.links
  refine zZ Tryz.func136 rfl Tryz.ntmps136 (by kernel_rfl) rfl fun w0 I0 G0 => ?_
  refine zE <| zB <| g_uG (zp 1002 rfl rfl rfl rfl) rfl <| g_u (zD rfl rfl) <| zF <| zA <| zE <| yZ xr <| g_u (zC rfl rfl) <| g_u (yR rfl rfl Tryz.underlying9) <| g_u (zG rfl rfl fa52_3 rfl) <| g_u (zH rfl rfl rfl tA9 tS9 rfl rfl) <| g_u (yR rfl rfl Tryz.underlying9) <| g_u (zt rfl rfl rfl) <| g_u (zG rfl rfl fa52_4 rfl) <| g_u (zH rfl rfl rfl tA9 tS9 rfl rfl) <| g_u (yR rfl rfl Tryz.underlying9) <| g_u (zt rfl rfl rfl) <| g_u (zG rfl rfl fa52_11 rfl) <| g_u (zG rfl rfl fa50_1 rfl) <| g_u (zH rfl rfl rfl tA9 tS9 rfl rfl) <| g_u (yR rfl rfl Tryz.underlying9) <| g_u (zt rfl rfl rfl) <| g_u (s_mul rfl rfl rfl) <| g_u (zt rfl rfl rfl) <| g_u (zG rfl rfl fa52_8 rfl) <| g_u (zH rfl rfl rfl tA46 tS46 rfl rfl) ?_
  refine g_u (zQ (wattrs_c _ ho.2.2.2.1 (by omega)) rfl rfl) ?_
  refine g_u (zt rfl rfl rfl) <| g_u (zD rfl rfl) ?_
  refine zF ⟨by kernel_rfl, ?_⟩
  refine zA <| zE <| zB <| g_u (zC rfl rfl) <| g_u (zG rfl rfl fa52_9 rfl) <| g_u (zH rfl rfl rfl tA47 tS47 rfl rfl) ?_
  refine g_u (zQ (sumE_c s.events evW 188 [] (fun e he => evW_c e (ho.2.2.2.2.1 e he) (by have := yd GE.wt he; omega)) (by omega) (by omega)) rfl rfl) ?_
  refine g_u (zt rfl rfl rfl) <| g_u (zD rfl rfl) <| zF <| zA <| zE <| zB <| g_u (zC rfl rfl) <| g_u (zG rfl rfl ww rfl) <| g_u (zH rfl rfl rfl tA48 tS48 rfl rfl) ?_
  refine g_u (zQ (sumL_c s.links lkW 190 [] (fun e he => lkW_c e (ho.2.2.2.2.2 e he) (by have := yd GL.wt he; omega)) (by omega) (by omega)) rfl rfl) ?_
  refine g_u (zt rfl rfl rfl) <| g_u (zD rfl rfl) <| zF <| zA <| zK ?_
  exact ⟨⟨(rfl : toAV (Al.look _ _) = some _).trans (congrArg some (by (exact congrArg iv (by rw [qe]; ((try simp only [decide_eq_true_eq, decide_eq_false_iff_not, qc, ne_eq, beq_iff_eq, qd, beq_eq_false_iff_ne, Bool.not_eq_true', Bool.not_eq_false', gt_iff_lt, ge_iff_le] at *); (repeat simp (disch := omega) only [zO, z_] at *)); omega)))), rfl⟩, trivial⟩
theorem rspanW_c (s : GSpan) (t : ByteArray) (ho : s.ok) (hw : s.wt ≤ 1000000) (ht : t.size ≤ 10000000) : zn Tryz.prog Γ0 102 [s.av, sv t] [iv (spanW s t : Nat)] := by
  have q0 := spanW_le s t ht
  have qe := spanW_eq s t
  have qw : s.wt = 1 + s.state.size + s.name.size + s.note.size + wtAs s.attrs + zv GE.wt s.events + zv GL.wt s.links := rfl
  have ql := yP GE.wt (fun e => by unfold GE.wt; omega) s.events
  have qm := yP GL.wt (fun e => by unfold GL.wt; omega) s.links
  refine zZ Tryz.func102 rfl Tryz.ntmps102 (by kernel_rfl) rfl fun w0 I0 G0 => ?_
  refine zE <| zB <| g_uG (zp 1002 rfl rfl rfl rfl) rfl <| g_u (zD rfl rfl) <| zF <| zA <| zE <| yZ xr <| g_u (zC rfl rfl) <| g_u (zG rfl rfl fa52_3 rfl) <| g_u (zH rfl rfl rfl tA9 tS9 rfl rfl) ?_
  refine g_u (yc rfl rfl rfl (by show _ ≤ (9223372036854775807 : Int); (try dsimp only); (try simp only [zk]); omega)) ?_
  refine g_u (zG rfl rfl fa52_4 rfl) <| g_u (zH rfl rfl rfl tA9 tS9 rfl rfl) ?_
  refine g_u (yc rfl rfl rfl (by show _ ≤ (9223372036854775807 : Int); (try dsimp only); (try simp only [zk]); omega)) ?_
  refine g_u (zG rfl rfl fa52_11 rfl) <| g_u (zG rfl rfl fa50_1 rfl) <| g_u (zH rfl rfl rfl tA9 tS9 rfl rfl) ?_
  refine g_u (yc rfl rfl rfl (by show _ ≤ (9223372036854775807 : Int); (try dsimp only); (try simp only [zk]); omega)) ?_
  refine g_u (yR rfl rfl Tryz.underlying9) <| g_u (s_mul rfl rfl rfl) <| g_u (zt rfl rfl rfl) <| g_u (zG rfl rfl fa52_8 rfl) <| g_u (zH rfl rfl rfl tA46 tS46 rfl rfl) ?_
  refine g_u (zQ (rattrs_c _ ho.2.2.2.1 (by omega)) rfl rfl) ?_
  refine g_u (zt rfl rfl rfl) <| g_u (zD rfl rfl) ?_
  refine zF ⟨by kernel_rfl, ?_⟩
  refine zA <| zE <| zE <| zB <| g_u (zD rfl rfl) <| zF <| zA <| zS ?_
  refine zr (fun i : Nat => [(2, .ptr 1002 0), (1002, .box 52 (.imm s.av)), (5, .imm (iv (((512 + 6 * (t.size + s.state.size + s.name.size + s.note.size) + xW s.attrs) + zv evW (s.events.take i) : Nat) : Int))), (6, .imm (iv (i : Int)))]) (fun i => i ≤ s.events.length) (fun i => s.events.length - i) (0) ?_ ⟨rfl, rfl, zW rfl (by simp only [zk]; rw [show zv evW (s.events.take 0) = 0 from rfl]; ((try simp only [decide_eq_true_eq, decide_eq_false_iff_not, qc, ne_eq, beq_iff_eq, qd, beq_eq_false_iff_ne, Bool.not_eq_true', Bool.not_eq_false', gt_iff_lt, ge_iff_le] at *); (repeat simp (disch := omega) only [zO, z_] at *)); omega), rfl, trivial⟩ ?_
  · exact Nat.zero_le _
  · rintro i h1; have h1 : i ≤ s.events.length := h1; have hs0 := wC evW s.events i
    refine zE <| zE <| zB <| g_u (zC rfl rfl) <| g_u (zG rfl rfl fa52_9 rfl) <| g_u (zH rfl rfl rfl tA47 tS47 rfl rfl) <| g_u (yB rfl rfl Tryz.underlying47) <| g_u (yO rfl rfl rfl) <| zF <| zA ?_
    refine zL rfl (fun hb1 => ?_) (fun hb1 => ?_)
    · have hi : i < s.events.length := by have := of_decide_eq_true hb1; (try simp only [List.length_map] at this); omega
      have q3 := yj (F := evW) (d := ge0) hi
      have qa : evW (nth s.events i ge0) = 64 + 6 * (nthE s.events i).name.size + xW (nthE s.events i).attrs := rfl
      have hx : wtAs (nthE s.events i).attrs ≤ 10000000 := by have h5 := yd GE.wt (nthE_mem hi); have h6 : (nthE s.events i).wt = 1 + (nthE s.events i).name.size + wtAs (nthE s.events i).attrs := rfl; omega
      refine zN <| zA <| zE <| zS <| yZ xr <| g_u (zC rfl rfl) <| g_u (zt rfl rfl rfl) <| g_u (zG rfl rfl fa52_9 rfl) <| g_u (zH rfl rfl rfl tA47 tS47 rfl rfl) <| g_u (zC rfl rfl) ?_
      refine g_u (za rfl rfl rfl Tryz.underlying47 tS95 (by omega) (ixE hi)) ?_
      refine g_u (zR rfl rfl fa95_1 rfl rfl) <| g_u (zY rfl rfl tA9 tS9 rfl rfl) <| g_u (yR rfl rfl Tryz.underlying9) <| g_u (s_mul rfl rfl rfl) <| g_u (zt rfl rfl rfl) <| g_u (zG rfl rfl fa52_9 rfl) <| g_u (zH rfl rfl rfl tA47 tS47 rfl rfl) <| g_u (zC rfl rfl) ?_
      refine g_u (za rfl rfl rfl Tryz.underlying47 tS95 (by omega) (ixE hi)) ?_
      refine g_u (zR rfl rfl fa95_2 rfl rfl) <| g_u (zY rfl rfl tA46 tS46 rfl rfl) <| g_u (zQ (rattrs_c _ (ho.2.2.2.2.1 _ (nthE_mem hi)).2.2 hx) rfl rfl) <| g_u (zt rfl rfl rfl) <| g_u (zD rfl rfl) ?_
      refine zF ⟨by kernel_rfl, ?_⟩
      refine zP <| zA <| zB <| g_u (zC rfl rfl) <| g_u (zt rfl rfl rfl) <| g_u (zD rfl rfl) <| zF <| zA ?_
      have q1 : zv evW (s.events.take i) + (64 + 6 * (nthE s.events i).name.size + xW (nthE s.events i).attrs) ≤ zv evW s.events := yj (F := evW) (d := ge0) hi
      have q2 : zv evW (s.events.take (i + 1)) = zv evW (s.events.take i) + (64 + 6 * (nthE s.events i).name.size + xW (nthE s.events i).attrs) := xd (F := evW) (d := ge0) hi
      refine ⟨i + 1, hi, ⟨rfl, rfl, zW rfl (by rw [q2]; ((try simp only [decide_eq_true_eq, decide_eq_false_iff_not, qc, ne_eq, beq_iff_eq, qd, beq_eq_false_iff_ne, Bool.not_eq_true', Bool.not_eq_false', gt_iff_lt, ge_iff_le] at *); (repeat simp (disch := omega) only [zO, z_] at *)); omega), zW rfl (by rw [zO (by omega) (by omega)]; rfl), trivial⟩, by (try dsimp only); omega⟩
    · have hin : i = s.events.length := by have := of_decide_eq_false hb1; (try simp only [List.length_map] at this); omega
      refine zw <| zT <| zT <| zo <| zA <| zE <| zE <| zB <| g_u (zD rfl rfl) <| zF <| zA <| zS ?_
      refine zr (fun i : Nat => [(2, .ptr 1002 0), (1002, .box 52 (.imm s.av)), (5, .imm (iv ((((512 + 6 * (t.size + s.state.size + s.name.size + s.note.size) + xW s.attrs) + zv evW s.events) + zv lkW (s.links.take i) : Nat) : Int))), (7, .imm (iv (i : Int)))]) (fun i => i ≤ s.links.length) (fun i => s.links.length - i) (0) ?_ ⟨rfl, rfl, zW rfl (by rw [hin, List.take_length, show zv lkW (s.links.take 0) = 0 from rfl]; rfl), rfl, trivial⟩ ?_
      · exact Nat.zero_le _
      · rintro i h1; have h1 : i ≤ s.links.length := h1; have hs0 := wC lkW s.links i
        refine zE <| zE <| zB <| g_u (zC rfl rfl) <| g_u (zG rfl rfl ww rfl) <| g_u (zH rfl rfl rfl tA48 tS48 rfl rfl) <| g_u (yB rfl rfl Tryz.underlying48) <| g_u (yO rfl rfl rfl) <| zF <| zA ?_
        refine zL rfl (fun hb2 => ?_) (fun hb2 => ?_)
        · have hi : i < s.links.length := by have := of_decide_eq_true hb2; (try simp only [List.length_map] at this); omega
          have q3 := yj (F := lkW) (d := gl0) hi
          have qa : lkW (nth s.links i gl0) = 64 + 6 * (nthL s.links i).state.size + xW (nthL s.links i).attrs := rfl
          have hx : wtAs (nthL s.links i).attrs ≤ 10000000 := by have h5 := yd GL.wt (nthL_mem hi); have h6 : (nthL s.links i).wt = 1 + (nthL s.links i).state.size + wtAs (nthL s.links i).attrs := rfl; omega
          refine zN <| zA <| zE <| zS <| yZ xr <| g_u (zC rfl rfl) <| g_u (zt rfl rfl rfl) <| g_u (zG rfl rfl ww rfl) <| g_u (zH rfl rfl rfl tA48 tS48 rfl rfl) <| g_u (zC rfl rfl) ?_
          refine g_u (za rfl rfl rfl Tryz.underlying48 tS107 (by omega) (ixL hi)) ?_
          refine g_u (zR rfl rfl fa107_2 rfl rfl) <| g_u (zY rfl rfl tA9 tS9 rfl rfl) <| g_u (yR rfl rfl Tryz.underlying9) <| g_u (s_mul rfl rfl rfl) <| g_u (zt rfl rfl rfl) <| g_u (zG rfl rfl ww rfl) <| g_u (zH rfl rfl rfl tA48 tS48 rfl rfl) <| g_u (zC rfl rfl) ?_
          refine g_u (za rfl rfl rfl Tryz.underlying48 tS107 (by omega) (ixL hi)) ?_
          refine g_u (zR rfl rfl fa107_3 rfl rfl) <| g_u (zY rfl rfl tA46 tS46 rfl rfl) <| g_u (zQ (rattrs_c _ (ho.2.2.2.2.2 _ (nthL_mem hi)).2.2.2 hx) rfl rfl) <| g_u (zt rfl rfl rfl) <| g_u (zD rfl rfl) ?_
          refine zF ⟨by kernel_rfl, ?_⟩
          refine zP <| zA <| zB <| g_u (zC rfl rfl) <| g_u (zt rfl rfl rfl) <| g_u (zD rfl rfl) <| zF <| zA ?_
          have q1 : zv lkW (s.links.take i) + (64 + 6 * (nthL s.links i).state.size + xW (nthL s.links i).attrs) ≤ zv lkW s.links := yj (F := lkW) (d := gl0) hi
          have q2 : zv lkW (s.links.take (i + 1)) = zv lkW (s.links.take i) + (64 + 6 * (nthL s.links i).state.size + xW (nthL s.links i).attrs) := xd (F := lkW) (d := gl0) hi
          refine ⟨i + 1, hi, ⟨rfl, rfl, zW rfl (by rw [q2]; ((try simp only [decide_eq_true_eq, decide_eq_false_iff_not, qc, ne_eq, beq_iff_eq, qd, beq_eq_false_iff_ne, Bool.not_eq_true', Bool.not_eq_false', gt_iff_lt, ge_iff_le] at *); (repeat simp (disch := omega) only [zO, z_] at *)); omega), zW rfl (by rw [zO (by omega) (by omega)]; rfl), trivial⟩, by (try dsimp only); omega⟩
        · have hin2 : i = s.links.length := by have := of_decide_eq_false hb2; (try simp only [List.length_map] at this); omega
          refine zw <| zT <| zT <| zo <| zA <| zE <| zB <| g_u (zC rfl rfl) <| g_u (zD rfl rfl) <| zF <| zA <| zK ?_
          exact ⟨⟨(rfl : toAV (Al.look _ _) = some _).trans (congrArg some (by (exact congrArg iv (by rw [hin2, List.take_length, qe])))), rfl⟩, trivial⟩
end Go.Proofs
namespace Go.Proofs
open Go Go.Al
set_option maxRecDepth 10000
theorem scope1_c (s : GSpan) (t : ByteArray) (ho : s.ok) (hw : s.wt ≤ 1000000) (ht : t.size ≤ 10000000) : zn Tryz.prog Γ0 135 [s.av, .cp (sv t)] [iv (spanW s t : Nat)] := by
  refine zZ Tryz.func135 rfl Tryz.ntmps135 (by kernel_rfl) rfl fun w0 I0 G0 => ?_
  refine zE <| zB <| g_uG (zp 1002 rfl rfl rfl rfl) rfl <| g_u (zD rfl rfl) <| zF <| zA <| zE <| zB ?_
  refine g_u (zH rfl rfl rfl tA52 tS52 rfl (by first | exact getS_w (GSpan.width _) rfl | rfl)) ?_
  refine g_u (zY rfl rfl tA9 tS9 rfl rfl) <| g_u (zQ (spanW_c s t ho hw ht) rfl rfl) <| g_u (zD rfl rfl) <| zF <| zA <| zK ?_
  exact ⟨⟨(rfl : toAV (Al.look _ _) = some _).trans (congrArg some (by rfl)), rfl⟩, trivial⟩
theorem scopeW_c (s : GScope) (t : ByteArray) (ho : s.ok) (hw : s.wt ≤ 1000000) (ht : t.size ≤ 10000000) : zn Tryz.prog Γ0 89 [s.av, sv t] [iv (wK s t : Nat)] := by
  have q0 := scopeW_le s t ht
  have qe : wK s t = 64 + 6 * (s.name.size + s.version.size) + zv (fun x => spanW x t) s.spans := rfl
  have qw : s.wt = 1 + s.name.size + s.version.size + zv GSpan.wt s.spans := rfl
  have ql := yP GSpan.wt (fun e => by unfold GSpan.wt; omega) s.spans
  refine zZ Tryz.func89 rfl Tryz.ntmps89 (by kernel_rfl) rfl fun w0 I0 G0 => ?_
  refine zE <| zB <| g_uG (zp 1002 rfl rfl rfl rfl) rfl <| g_uG (zp 1003 rfl rfl rfl rfl) rfl <| g_u (zD rfl rfl) <| zF <| zA <| zE <| aw_share 1003 rfl rfl <| yZ xr <| g_u (zG rfl rfl fa55_0 rfl) <| g_u (zH rfl rfl rfl tA9 tS9 rfl rfl) <| g_u (yR rfl rfl Tryz.underlying9) <| g_u (zG rfl rfl fa55_1 rfl) <| g_u (zH rfl rfl rfl tA9 tS9 rfl rfl) <| g_u (yR rfl rfl Tryz.underlying9) <| g_u (zt rfl rfl rfl) <| g_u (s_mul rfl rfl rfl) <| g_u (zt rfl rfl rfl) <| g_u (zG rfl rfl fa55_2 rfl) <| g_u (zH rfl rfl rfl tA53 tS53 rfl rfl) <| g_u (yl rfl rfl rfl) ?_
  refine g_u (zQ (sumS_c s.spans (fun x => spanW x t) 135 [.cp (sv t)] (fun x hx => scope1_c x t (ho.2.2 x hx) (by have := yd GSpan.wt hx; omega) ht) (by omega) (by omega)) rfl rfl) ?_
  refine g_u (zt rfl rfl rfl) <| g_u (zD rfl rfl) ?_
  refine zF ⟨by kernel_rfl, ?_⟩
  refine zA <| zK ?_
  exact ⟨⟨(rfl : toAV (Al.look _ _) = some _).trans (congrArg some (by (exact congrArg iv (by rw [qe]; ((try simp only [decide_eq_true_eq, decide_eq_false_iff_not, qc, ne_eq, beq_iff_eq, qd, beq_eq_false_iff_ne, Bool.not_eq_true', Bool.not_eq_false', gt_iff_lt, ge_iff_le] at *); (repeat simp (disch := omega) only [zO, z_] at *)); omega)))), rfl⟩, trivial⟩
theorem rscopeW_c (s : GScope) (t : ByteArray) (ho : s.ok) (hw : s.wt ≤ 1000000) (ht : t.size ≤ 10000000) : zn Tryz.prog Γ0 71 [s.av, sv t] [iv (wK s t : Nat)] := by
  have q0 := scopeW_le s t ht
  have qe : wK s t = 64 + 6 * (s.name.size + s.version.size) + zv (fun x => spanW x t) s.spans := rfl
  have qw : s.wt = 1 + s.name.size + s.version.size + zv GSpan.wt s.spans := rfl
  have ql := yP GSpan.wt (fun e => by unfold GSpan.wt; omega) s.spans
  refine zZ Tryz.func71 rfl Tryz.ntmps71 (by kernel_rfl) rfl fun w0 I0 G0 => ?_
  refine zE <| zB <| g_uG (zp 1002 rfl rfl rfl rfl) rfl <| g_u (zD rfl rfl) <| zF <| zA <| zE <| zB <| g_u (zG rfl rfl fa55_0 rfl) <| g_u (zH rfl rfl rfl tA9 tS9 rfl rfl) <| g_u (zG rfl rfl fa55_1 rfl) <| g_u (zH rfl rfl rfl tA9 tS9 rfl rfl) ?_
  refine g_u (yc rfl rfl rfl (by show _ ≤ (9223372036854775807 : Int); (try dsimp only); (try simp only [zk]); omega)) ?_
  refine g_u (yR rfl rfl Tryz.underlying9) <| g_u (s_mul rfl rfl rfl) <| g_u (zt rfl rfl rfl) <| g_u (zD rfl rfl) <| zF <| zA <| zE <| zE <| zB <| g_u (zD rfl rfl) <| zF <| zA <| zS ?_
  refine zr (fun i : Nat => [(2, .ptr 1002 0), (1002, .box 55 (.imm s.av)), (1, .imm (sv t)), (5, .imm (iv (((64 + 6 * (s.name.size + s.version.size)) + zv (fun x => spanW x t) (s.spans.take i) : Nat) : Int))), (6, .imm (iv (i : Int)))]) (fun i => i ≤ s.spans.length) (fun i => s.spans.length - i) (0) ?_ ⟨rfl, rfl, rfl, zW rfl (by simp only [zk]; rw [show zv (fun x => spanW x t) (s.spans.take 0) = 0 from rfl]; ((try simp only [decide_eq_true_eq, decide_eq_false_iff_not, qc, ne_eq, beq_iff_eq, qd, beq_eq_false_iff_ne, Bool.not_eq_true', Bool.not_eq_false', gt_iff_lt, ge_iff_le] at *); (repeat simp (disch := omega) only [zO, z_] at *)); omega), rfl, trivial⟩ ?_
  · exact Nat.zero_le _
  · rintro i h1; have h1 : i ≤ s.spans.length := h1; have hs0 := wC (fun x => spanW x t) s.spans i
    refine zE <| zE <| zB <| g_u (zC rfl rfl) <| g_u (zG rfl rfl fa55_2 rfl) <| g_u (zH rfl rfl rfl tA53 tS53 rfl rfl) <| g_u (yB rfl rfl Tryz.underlying53) <| g_u (yO rfl rfl rfl) <| zF <| zA ?_
    refine zL rfl (fun hb1 => ?_) (fun hb1 => ?_)
    · have hi : i < s.spans.length := by have := of_decide_eq_true hb1; (try simp only [List.length_map] at this); omega
      have hx : (nthS s.spans i).wt ≤ 1000000 := by have h5 := yd GSpan.wt (nthS_mem hi); omega
      refine zN <| zA <| zE <| zS <| zB <| g_u (zC rfl rfl) <| g_u (zG rfl rfl fa55_2 rfl) <| g_u (zH rfl rfl rfl tA53 tS53 rfl rfl) <| g_u (zC rfl rfl) ?_
      refine g_u (za rfl rfl rfl Tryz.underlying53 tS52 (by omega) (ixS hi)) ?_
      refine g_u (zY rfl rfl tA52 tS52 rfl (by first | exact getS_w (GSpan.width _) rfl | rfl)) ?_
      refine g_u (zC rfl rfl) <| g_u (zQ (rspanW_c _ t (ho.2.2 _ (nthS_mem hi)) hx ht) rfl rfl) <| g_u (zt rfl rfl rfl) <| g_u (zD rfl rfl) <| zF <| zP <| zA <| zB <| g_u (zC rfl rfl) <| g_u (zt rfl rfl rfl) <| g_u (zD rfl rfl) <| zF <| zA ?_
      have q1 : zv (fun x => spanW x t) (s.spans.take i) + spanW (nthS s.spans i) t ≤ zv (fun x => spanW x t) s.spans := yj (F := (fun x => spanW x t)) (d := gs0) hi
      have q2 : zv (fun x => spanW x t) (s.spans.take (i + 1)) = zv (fun x => spanW x t) (s.spans.take i) + spanW (nthS s.spans i) t := xd (F := (fun x => spanW x t)) (d := gs0) hi
      refine ⟨i + 1, hi, ⟨rfl, rfl, rfl, zW rfl (by rw [q2]; ((try simp only [decide_eq_true_eq, decide_eq_false_iff_not, qc, ne_eq, beq_iff_eq, qd, beq_eq_false_iff_ne, Bool.not_eq_true', Bool.not_eq_false', gt_iff_lt, ge_iff_le] at *); (repeat simp (disch := omega) only [zO, z_] at *)); omega), zW rfl (by rw [zO (by omega) (by omega)]; rfl), trivial⟩, by (try dsimp only); omega⟩
    · have hin : i = s.spans.length := by have := of_decide_eq_false hb1; (try simp only [List.length_map] at this); omega
      refine zw <| zT <| zT <| zo <| zA <| zE <| zB <| g_u (zC rfl rfl) <| g_u (zD rfl rfl) <| zF <| zA <| zK ?_
      exact ⟨⟨(rfl : toAV (Al.look _ _) = some _).trans (congrArg some (by (exact congrArg iv (by rw [hin, List.take_length, qe])))), rfl⟩, trivial⟩
theorem res1_c (s : GScope) (t : ByteArray) (ho : s.ok) (hw : s.wt ≤ 1000000) (ht : t.size ≤ 10000000) : zn Tryz.prog Γ0 88 [s.av, .cp (sv t)] [iv (wK s t : Nat)] := by
  refine zZ Tryz.func88 rfl Tryz.ntmps88 (by kernel_rfl) rfl fun w0 I0 G0 => ?_
  refine zE <| zB <| g_uG (zp 1002 rfl rfl rfl rfl) rfl <| g_u (zD rfl rfl) <| zF <| zA <| zE <| zB <| g_u (zH rfl rfl rfl tA55 tS55 rfl rfl) <| g_u (zY rfl rfl tA9 tS9 rfl rfl) <| g_u (zQ (scopeW_c s t ho hw ht) rfl rfl) <| g_u (zD rfl rfl) <| zF <| zA <| zK ?_
  exact ⟨⟨(rfl : toAV (Al.look _ _) = some _).trans (congrArg some (by rfl)), rfl⟩, trivial⟩
theorem resW_c (r : GRes) (ho : r.ok) (hw : r.wt ≤ 60000) (hr : risA none r.attrs) : zn Tryz.prog Γ0 53 [r.av] [iv (resW r : Nat)] := by
  have ht : (yn r).size ≤ 10000000 := by have := serviceM_le r; omega
  have q0 := resW_le r ht
  have qe : resW r = 64 + xW r.attrs + zv (fun s => wK s (yn r)) r.scopes := rfl
  have qw : r.wt = 1 + wtAs r.attrs + zv GScope.wt r.scopes := rfl
  have ql := yP GScope.wt (fun e => by unfold GScope.wt; omega) r.scopes
  refine zZ Tryz.func53 rfl Tryz.ntmps53 (by kernel_rfl) rfl fun w0 I0 G0 => ?_
  refine zE <| zB <| g_uG (zp 1001 rfl rfl rfl rfl) rfl <| g_u (zD rfl rfl) <| zF <| zA <| zE <| zB <| g_u (zH rfl rfl rfl tA58 tS58 rfl rfl) ?_
  refine g_u (zQ (service_c r ho.1 (by omega) hr) rfl rfl) ?_
  refine g_uG (yG 1003 rfl rfl rfl tZ9) rfl <| g_u (zV rfl rfl rfl tS9 rfl rfl) <| zF <| zA <| zE <| aw_share 1003 rfl rfl <| yZ xr <| g_u (zG rfl rfl fa58_0 rfl) <| g_u (zH rfl rfl rfl tA46 tS46 rfl rfl) ?_
  refine g_u (zQ (wattrs_c _ ho.1 (by omega)) rfl rfl) ?_
  refine g_u (zt rfl rfl rfl) <| g_u (zG rfl rfl fa58_1 rfl) <| g_u (zH rfl rfl rfl tA56 tS56 rfl rfl) <| g_u (yl rfl rfl rfl) ?_
  refine g_u (zQ (sumC_c r.scopes (fun s => wK s (yn r)) 88 [.cp (sv (yn r))] (fun x hx => res1_c x _ (ho.2 x hx) (by have := yd GScope.wt hx; omega) ht) (by omega) (by omega)) rfl rfl) ?_
  refine g_u (zt rfl rfl rfl) <| g_u (zD rfl rfl) ?_
  refine zF ⟨by kernel_rfl, ?_⟩
  refine zA <| zK ?_
  exact ⟨⟨(rfl : toAV (Al.look _ _) = some _).trans (congrArg some (by (exact congrArg iv (by rw [qe]; ((try simp only [decide_eq_true_eq, decide_eq_false_iff_not, qc, ne_eq, beq_iff_eq, qd, beq_eq_false_iff_ne, Bool.not_eq_true', Bool.not_eq_false', gt_iff_lt, ge_iff_le] at *); (repeat simp (disch := omega) only [zO, z_] at *)); omega)))), rfl⟩, trivial⟩
def fitR (r : GRes) : Prop := wtAs r.attrs ≤ 1000000 ∧ r.scopes.length ≤ 1000000 ∧ (yn r).size ≤ 10000000 ∧ ∀ c ∈ r.scopes, c.wt ≤ 1000000
theorem fit_small {r : GRes} (h : r.wt ≤ 60000) : fitR r := by
  have h1 := serviceM_le r
  have h2 : r.wt = 1 + wtAs r.attrs + zv GScope.wt r.scopes := rfl
  have h3 := yP GScope.wt (fun e => by unfold GScope.wt; omega) r.scopes
  exact ⟨by omega, by omega, by omega, fun c hc => by have := yd GScope.wt hc; omega⟩
def fitB (b : List GRes) : Prop := wtB b ≤ 3000000 ∧ ∀ r ∈ b, fitR r
theorem fitB_small {b : List GRes} (h : wtB b ≤ 60000) : fitB b := ⟨by omega, fun r hr => fit_small (by have := yd GRes.wt hr; unfold wtB at h; omega)⟩
theorem rresWX_c (r : GRes) (ho : r.ok) (hw : r.wt ≤ 3000000) (hf : fitR r) : zn Tryz.prog Γ0 41 [r.av] [iv (resW r : Nat)] := by
  have ht : (yn r).size ≤ 10000000 := hf.2.2.1
  have q0 := resW_le r ht
  have qe : resW r = 64 + xW r.attrs + zv (fun s => wK s (yn r)) r.scopes := rfl
  have qw : r.wt = 1 + wtAs r.attrs + zv GScope.wt r.scopes := rfl
  have ql := yP GScope.wt (fun e => by unfold GScope.wt; omega) r.scopes
  refine zZ Tryz.func41 rfl Tryz.ntmps41 (by kernel_rfl) rfl fun w0 I0 G0 => ?_
  refine zE <| zB <| g_uG (zp 1001 rfl rfl rfl rfl) rfl <| g_u (zD rfl rfl) <| zF <| zA <| zE <| zB <| g_u (zG rfl rfl fa58_0 rfl) <| g_u (zH rfl rfl rfl tA46 tS46 rfl rfl) ?_
  refine g_u (zQ (rattrs_c _ ho.1 (by omega)) rfl rfl) ?_
  refine g_u (zt rfl rfl rfl) <| g_u (zD rfl rfl) <| zF <| zA <| zE <| zE <| zB <| g_u (zD rfl rfl) <| zF <| zA <| zS ?_
  refine zr (fun i : Nat => [(1, .ptr 1001 0), (1001, .box 58 (.imm r.av)), (3, .imm (iv (((64 + xW r.attrs) + zv (fun s => wK s (yn r)) (r.scopes.take i) : Nat) : Int))), (4, .imm (iv (i : Int)))]) (fun i => i ≤ r.scopes.length) (fun i => r.scopes.length - i) (0) ?_ ⟨rfl, rfl, zW rfl (by rw [show zv (fun s => wK s (yn r)) (r.scopes.take 0) = 0 from rfl]; ((try simp only [decide_eq_true_eq, decide_eq_false_iff_not, qc, ne_eq, beq_iff_eq, qd, beq_eq_false_iff_ne, Bool.not_eq_true', Bool.not_eq_false', gt_iff_lt, ge_iff_le] at *); (repeat simp (disch := omega) only [zO, z_] at *)); omega), rfl, trivial⟩ ?_
  · exact Nat.zero_le _
  · rintro i h1; have h1 : i ≤ r.scopes.length := h1; have hs0 := wC (fun s => wK s (yn r)) r.scopes i
    refine zE <| zE <| zB <| g_u (zC rfl rfl) <| g_u (zG rfl rfl fa58_1 rfl) <| g_u (zH rfl rfl rfl tA56 tS56 rfl rfl) <| g_u (yB rfl rfl Tryz.underlying56) <| g_u (yO rfl rfl rfl) <| zF <| zA ?_
    refine zL rfl (fun hb1 => ?_) (fun hb1 => ?_)
    · have hi : i < r.scopes.length := by have := of_decide_eq_true hb1; (try simp only [List.length_map] at this); omega
      have hx : (nthC r.scopes i).wt ≤ 1000000 := hf.2.2.2 _ (nthC_mem hi)
      refine zN <| zA <| zE <| zS <| yZ xr <| g_u (zC rfl rfl) <| g_u (zG rfl rfl fa58_1 rfl) <| g_u (zH rfl rfl rfl tA56 tS56 rfl rfl) <| g_u (zC rfl rfl) ?_
      refine g_u (za rfl rfl rfl Tryz.underlying56 tS55 (by omega) (ixC hi)) ?_
      refine g_u (zY rfl rfl tA55 tS55 rfl rfl) <| g_u (zH rfl rfl rfl tA58 tS58 rfl rfl) ?_
      refine g_u (zQ (rservice_c r ho.1 (by omega)) rfl rfl) ?_
      refine g_u (zQ (rscopeW_c _ _ (ho.2 _ (nthC_mem hi)) hx ht) rfl rfl) <| g_u (zt rfl rfl rfl) <| g_u (zD rfl rfl) ?_
      refine zF ⟨by kernel_rfl, ?_⟩
      refine zP <| zA <| zB <| g_u (zC rfl rfl) <| g_u (zt rfl rfl rfl) <| g_u (zD rfl rfl) <| zF <| zA ?_
      have q1 : zv (fun s => wK s (yn r)) (r.scopes.take i) + wK (nthC r.scopes i) (yn r) ≤ zv (fun s => wK s (yn r)) r.scopes := yj (F := (fun s => wK s (yn r))) (d := gc0) hi
      have q2 : zv (fun s => wK s (yn r)) (r.scopes.take (i + 1)) = zv (fun s => wK s (yn r)) (r.scopes.take i) + wK (nthC r.scopes i) (yn r) := xd (F := (fun s => wK s (yn r))) (d := gc0) hi
      refine ⟨i + 1, hi, ⟨rfl, rfl, zW rfl (by rw [q2]; ((try simp only [decide_eq_true_eq, decide_eq_false_iff_not, qc, ne_eq, beq_iff_eq, qd, beq_eq_false_iff_ne, Bool.not_eq_true', Bool.not_eq_false', gt_iff_lt, ge_iff_le] at *); (repeat simp (disch := omega) only [zO, z_] at *)); omega), zW rfl (by rw [zO (by omega) (by omega)]; rfl), trivial⟩, by (try dsimp only); omega⟩
    · have hin : i = r.scopes.length := by have := of_decide_eq_false hb1; (try simp only [List.length_map] at this); omega
      refine zw <| zT <| zT <| zo <| zA <| zE <| zB <| g_u (zC rfl rfl) <| g_u (zD rfl rfl) <| zF <| zA <| zK ?_
      exact ⟨⟨(rfl : toAV (Al.look _ _) = some _).trans (congrArg some (by (exact congrArg iv (by rw [hin, List.take_length, qe])))), rfl⟩, trivial⟩
theorem sumBy_le3 {α : Type} {F G : α → Nat} {k : Nat} : ∀ (l : List α), (∀ x ∈ l, F x ≤ k * G x) → zv F l ≤ k * zv G l
  | [], _ => by simp [zv]
  | x :: xs, h => by simp only [zv, Nat.mul_add]; have := h x List.mem_cons_self; have := sumBy_le3 xs (fun y hy => h y (List.mem_cons_of_mem _ hy)); omega
theorem batchW_c (b : List GRes) (ho : okB b) (hw : wtB b ≤ 60000) (hr : ∀ r ∈ b, risA none r.attrs) : zn Tryz.prog Γ0 30 [yp b] [iv (batchW b : Nat)] := by
  have ql := yP GRes.wt (fun e => by unfold GRes.wt; omega) b
  have q0 : zv resW b ≤ 100000000 * 60000 := by have h5 := sumBy_le3 (F := resW) (k := 100000000) (G := GRes.wt) b (fun r hr => resW_le r (by have := serviceM_le r; have h6 := yd GRes.wt hr; unfold wtB at hw; omega)); unfold wtB at hw; omega
  have qe : batchW b = 16 + zv resW b := rfl
  have qw : wtB b = zv GRes.wt b := rfl
  refine zZ Tryz.func30 rfl Tryz.ntmps30 (by kernel_rfl) rfl fun w0 I0 G0 => ?_
  refine zE <| zB <| g_uG (zp 1001 rfl rfl rfl rfl) rfl <| g_u (zD rfl rfl) <| zF <| zA <| zE <| zB <| g_u (zG rfl rfl fa24_0 rfl) <| g_u (zH rfl rfl rfl tA22 tS22 rfl rfl) ?_
  refine g_u (zQ (sumR_c b resW 53 [] (fun r hx => resW_c r (ho r hx) (by have := yd GRes.wt hx; omega) (hr r hx)) (by omega) (by omega)) rfl rfl) ?_
  refine g_u (zt rfl rfl rfl) <| g_u (zD rfl rfl) <| zF <| zA <| zK ?_
  exact ⟨⟨(rfl : toAV (Al.look _ _) = some _).trans (congrArg some (by (exact congrArg iv (by rw [qe]; ((try simp only [decide_eq_true_eq, decide_eq_false_iff_not, qc, ne_eq, beq_iff_eq, qd, beq_eq_false_iff_ne, Bool.not_eq_true', Bool.not_eq_false', gt_iff_lt, ge_iff_le] at *); (repeat simp (disch := omega) only [zO, z_] at *)); omega)))), rfl⟩, trivial⟩
theorem rbatchWX_c (b : List GRes) (ho : okB b) (hf : fitB b) : zn Tryz.prog Γ0 19 [yp b] [iv (batchW b : Nat)] := by
  have hw := hf.1
  have ql := yP GRes.wt (fun e => by unfold GRes.wt; omega) b
  have q0 : zv resW b ≤ 100000000 * 3000000 := by have h5 := sumBy_le3 (F := resW) (k := 100000000) (G := GRes.wt) b (fun r hr => resW_le r (hf.2 r hr).2.2.1); unfold wtB at hw; omega
  have qe : batchW b = 16 + zv resW b := rfl
  have qw : wtB b = zv GRes.wt b := rfl
  refine zZ Tryz.func19 rfl Tryz.ntmps19 (by kernel_rfl) rfl fun w0 I0 G0 => ?_
  refine zE <| zB <| g_uG (zp 1001 rfl rfl rfl rfl) rfl <| g_u (zD rfl rfl) <| zF <| zA <| zE <| zB <| g_u (zD rfl rfl) <| zF <| zA <| zE <| zE <| zB <| g_u (zD rfl rfl) <| zF <| zA <| zS ?_
  refine zr (fun i : Nat => [(1, .ptr 1001 0), (1001, .box 24 (.imm (yp b))), (3, .imm (iv ((16 + zv resW (b.take i) : Nat) : Int))), (4, .imm (iv (i : Int)))]) (fun i => i ≤ b.length) (fun i => b.length - i) (0) ?_ ⟨rfl, rfl, rfl, rfl, trivial⟩ ?_
  · exact Nat.zero_le _
  · rintro i h1; have h1 : i ≤ b.length := h1; have hs0 := wC resW b i
    refine zE <| zE <| zB <| g_u (zC rfl rfl) <| g_u (zG rfl rfl fa24_0 rfl) <| g_u (zH rfl rfl rfl tA22 tS22 rfl rfl) <| g_u (yB rfl rfl Tryz.underlying22) <| g_u (yO rfl rfl rfl) <| zF <| zA ?_
    refine zL rfl (fun hb1 => ?_) (fun hb1 => ?_)
    · have hi : i < b.length := by have := of_decide_eq_true hb1; (try simp only [List.length_map] at this); omega
      have hx : (nthR b i).wt ≤ 3000000 := by have h5 := yd GRes.wt (nthR_mem hi); omega
      refine zN <| zA <| zE <| zS <| zB <| g_u (zC rfl rfl) <| g_u (zG rfl rfl fa24_0 rfl) <| g_u (zH rfl rfl rfl tA22 tS22 rfl rfl) <| g_u (zC rfl rfl) ?_
      refine g_u (za rfl rfl rfl Tryz.underlying22 tS58 (by omega) (ixR hi)) ?_
      refine g_u (zY rfl rfl tA58 tS58 rfl rfl) <| g_u (zQ (rresWX_c _ (ho _ (nthR_mem hi)) hx (hf.2 _ (nthR_mem hi))) rfl rfl) <| g_u (zt rfl rfl rfl) <| g_u (zD rfl rfl) <| zF <| zP <| zA <| zB <| g_u (zC rfl rfl) <| g_u (zt rfl rfl rfl) <| g_u (zD rfl rfl) <| zF <| zA ?_
      have q1 : zv resW (b.take i) + resW (nthR b i) ≤ zv resW b := yj (F := resW) (d := gr0) hi
      have q2 : zv resW (b.take (i + 1)) = zv resW (b.take i) + resW (nthR b i) := xd (F := resW) (d := gr0) hi
      refine ⟨i + 1, hi, ⟨rfl, rfl, zW rfl (by rw [q2]; ((try simp only [decide_eq_true_eq, decide_eq_false_iff_not, qc, ne_eq, beq_iff_eq, qd, beq_eq_false_iff_ne, Bool.not_eq_true', Bool.not_eq_false', gt_iff_lt, ge_iff_le] at *); (repeat simp (disch := omega) only [zO, z_] at *)); omega), zW rfl (by rw [zO (by omega) (by omega)]; rfl), trivial⟩, by (try dsimp only); omega⟩
    · have hin : i = b.length := by have := of_decide_eq_false hb1; (try simp only [List.length_map] at this); omega
      refine zw <| zT <| zT <| zo <| zA <| zE <| zB <| g_u (zC rfl rfl) <| g_u (zD rfl rfl) <| zF <| zA <| zK ?_
      exact ⟨⟨(rfl : toAV (Al.look _ _) = some _).trans (congrArg some (by (exact congrArg iv (by rw [hin, List.take_length, qe])))), rfl⟩, trivial⟩
end Go.Proofs
namespace Go.Proofs
open Go Go.Al
set_option maxRecDepth 10000
end Go.Proofs
namespace Go.Proofs
open Go Go.Al
set_option maxRecDepth 10000
end Go.Proofs
namespace Go.Proofs
open Go Go.Al
set_option maxRecDepth 10000
end Go.Proofs
namespace Go.Proofs
open Go Go.Al
set_option maxRecDepth 10000
end Go.Proofs
namespace Go.Proofs
open Go Go.Al
set_option maxRecDepth 10000
end Go.Proofs
